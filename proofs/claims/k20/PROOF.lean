import PyProof.Rows.All
import Wide.All
import OpenK.AllK
import Wide.FinOn
import HandS.ForMost
import HandS.Lambda
import HandS.TupAny
import HandS.TupMul
import HandS.Style
import HandS.Wide
import HandS.IsInst
import HandS.Conv
import PyProof.Rows.IntBool
import HandS.WordsExc
import HandS.TryOnly
import KE.GoesEnum
import HandS.Comp
import HandS.ExcCtx
import HandS.More
import HandS.SortOrd
import HandS.SortRule
import KE.KItemsList
import HandS.DictTup
import HandS.ReCall
import KE.KDictPairs
import HandS.Dict
import PySem.Challenge.RW_resetcount_k20_whole_shifted_and_scaled
set_option Elab.async false
set_option linter.all false
set_option maxRecDepth 100000
set_option maxHeartbeats 4000000
/-! Rc: a small machine over trees: a def's body as a plain function of its slots. -/
namespace Rc
open PySem

abbrev D := PyData

/-- what a slot (or a passing value) holds: nothing, a value that nobody changes, a list that is one's own, a dict of one's own -/
inductive Sv where
  | un
  | val (d : D)
  | ow (ds : List D)
  | dki (kvs : List (Int × D))
  | dkt (kvs : List (List Int × D))
abbrev Sl := List Sv

/-- an exception: its class, the limit that it bears -/
structure Ek where
  cls : Str
  lim : Option Int

inductive Res (α : Type) where
  | ok (a : α) (S : Sl)
  | ex (e : Ek) (S : Sl)
  | no
def Res.bind {α β : Type} : Res α → (α → Sl → Res β) → Res β
  | .ok a S, f => f a S
  | .ex e S, _ => .ex e S
  | .no, _ => .no
abbrev M (α : Type) := Sl → Res α

def toD : Sv → Option D
  | .val d => some d
  | .ow ds => some (.list ds)
  | _ => none
def rd (S : Sl) (i : Nat) : Option D := (S[i]?).bind toD
def lift (o : Option Sv) (S : Sl) : Res Sv := match o with
  | some r => .ok r S
  | none => .no

/-! ### expressions -/
inductive Od where
  | e (m : M Sv)
  | v (i : Nat)
def eLit (d : D) : M Sv := fun S => .ok (.val d) S
/-- a name as a value that is kept: an own list is locked from then on -/
def eV (i : Nat) : M Sv := fun S => match S[i]? with
  | some (.val d) => .ok (.val d) S
  | some (.ow ds) => .ok (.val (.list ds)) (S.set i (.val (.list ds)))
  | _ => .no
def b1 (f : D → Option Sv) (x : Option D) : Option Sv := x.bind f
def b2 (f : D → D → Option Sv) (x y : Option D) : Option Sv := x.bind fun a => y.bind fun b => f a b
def eOp1 (f : D → Option Sv) : Od → M Sv
  | .e m => fun S => (m S).bind fun r S1 => lift (b1 f (toD r)) S1
  | .v i => fun S => lift (b1 f (rd S i)) S
def eOp2 (f : D → D → Option Sv) : Od → Od → M Sv
  | .e m, .e n => fun S => (m S).bind fun x S1 => (n S1).bind fun y S2 => lift (b2 f (toD x) (toD y)) S2
  | .v i, .e n => fun S => if (rd S i).isSome then (n S).bind fun y S1 => lift (b2 f (rd S1 i) (toD y)) S1 else .no
  | .e m, .v j => fun S => (m S).bind fun x S1 => lift (b2 f (toD x) (rd S1 j)) S1
  | .v i, .v j => fun S => lift (b2 f (rd S i) (rd S j)) S
/-- several values that are kept, from the left -/
def evL : List (M Sv) → M (List D)
  | [], S => .ok [] S
  | m :: ms, S => (m S).bind fun r S1 => match toD r with
    | some d => (evL ms S1).bind fun ds S2 => .ok (d :: ds) S2
    | none => .no
def eTup (ms : List (M Sv)) : M Sv := fun S => (evL ms S).bind fun ds S1 => .ok (.val (.tuple ds)) S1
def eLst (ms : List (M Sv)) : M Sv := fun S => (evL ms S).bind fun ds S1 => .ok (.ow ds) S1
def asB (r : Sv) (S : Sl) : Res Bool := match r with
  | .val (.bool b) => .ok b S
  | _ => .no
def tB (m : M Sv) : M Bool := fun S => (m S).bind asB
def eB (m : M Bool) : M Sv := fun S => (m S).bind fun b S1 => .ok (.val (.bool b)) S1
def tAnd (a b : M Bool) : M Bool := fun S => (a S).bind fun x S1 => if x then b S1 else .ok false S1
def tOr (a b : M Bool) : M Bool := fun S => (a S).bind fun x S1 => if x then .ok true S1 else b S1
def tNot (a : M Bool) : M Bool := fun S => (a S).bind fun x S1 => .ok (!x) S1
/-- and, or as values: all but the last one True or False -/
def eAnd (a b : M Sv) : M Sv := fun S => (tB a S).bind fun x S1 => if x then b S1 else .ok (.val (.bool false)) S1
def eOr (a b : M Sv) : M Sv := fun S => (tB a S).bind fun x S1 => if x then .ok (.val (.bool true)) S1 else b S1
def eIf (c : M Bool) (a b : M Sv) : M Sv := fun S => (c S).bind fun x S1 => if x then a S1 else b S1

/-- a plain value: no object -/
def flat : D → Bool
  | .none => true
  | .bool _ => true
  | .int _ => true
  | .str _ => true
  | _ => false
def evS : Od → M D
  | .e m => fun S => (m S).bind fun r S1 => match r with
    | .val d => if flat d then .ok d S1 else .no
    | _ => .no
  | .v i => fun S => match S[i]? with
    | some (.val d) => if flat d then .ok d S else .no
    | _ => .no
/-- a op b op' c of plain values -/
def eChain (f g : D → D → Option Sv) (a b c : Od) : M Sv := fun S => (evS a S).bind fun x S1 => (evS b S1).bind fun y S2 => match f x y with
  | some (.val (.bool true)) => (evS c S2).bind fun z S3 => lift (g y z) S3
  | some (.val (.bool false)) => .ok (.val (.bool false)) S2
  | _ => .no

/-! ### targets -/
inductive Pat where
  | n (i : Nat)
  | t (ps : List Pat)
mutual
def Pat.put : Pat → D → Sl → Option Sl
  | .n i, d, S => some (S.set i (.val d))
  | .t ps, .tuple ds, S => Pat.puts ps ds S
  | .t ps, .list ds, S => Pat.puts ps ds S
  | .t _, _, _ => none
def Pat.puts : List Pat → List D → Sl → Option Sl
  | [], [], S => some S
  | p :: ps, d :: ds, S => (Pat.put p d S).bind fun S1 => Pat.puts ps ds S1
  | _, _, _ => none
end

/-! ### what is walked -/
def dSeq : D → Option (List D)
  | .list ds => some ds
  | .tuple ds => some ds
  | _ => none
def ofOpt {α : Type} (o : Option α) (S : Sl) : Res α := match o with
  | some a => .ok a S
  | none => .no
def datum (m : M Sv) : M D := fun S => (m S).bind fun r S1 => match toD r with
  | some d => .ok d S1
  | none => .no
/-- a list or tuple -/
def wSeq (m : M Sv) : M (List D) := fun S => (m S).bind fun r S1 => ofOpt ((toD r).bind dSeq) S1
def numsD (lo : Int) (n : Nat) : List D := (List.range n).map fun i : Nat => PyData.int (lo + i)
def rngOk (lo hi : Int) : Bool := decide (-4611686018427387904 ≤ lo ∧ lo < 4611686018427387904 ∧ -4611686018427387904 ≤ hi ∧ hi < 4611686018427387904 ∧ hi - lo ≤ 16777216)
def dRng (lo hi : D) : Option (List D) := match lo, hi with
  | .int a, .int b => if rngOk a b = true then some (numsD a (b - a).toNat) else none
  | _, _ => none
def wRng1 (m : M Sv) : M (List D) := fun S => (datum m S).bind fun b S1 => ofOpt (dRng (.int 0) b) S1
def wRng2 (a b : M Sv) : M (List D) := fun S => (datum a S).bind fun p S1 => (datum b S1).bind fun q S2 => ofOpt (dRng p q) S2
def zip2 : List D → List D → List D
  | a :: as, b :: bs => .tuple [a, b] :: zip2 as bs
  | _, _ => []
def zip3 : List D → List D → List D → List D
  | a :: as, b :: bs, c :: cs => .tuple [a, b, c] :: zip3 as bs cs
  | _, _, _ => []
def wZip2 (a b : M Sv) : M (List D) := fun S => (datum a S).bind fun p S1 => (datum b S1).bind fun q S2 =>
  ofOpt ((dSeq p).bind fun as => (dSeq q).bind fun bs => some (zip2 as bs)) S2
def wZip3 (a b c : M Sv) : M (List D) := fun S => (datum a S).bind fun p S1 => (datum b S1).bind fun q S2 => (datum c S2).bind fun r S3 =>
  ofOpt ((dSeq p).bind fun as => (dSeq q).bind fun bs => (dSeq r).bind fun cs => some (zip3 as bs cs)) S3
def enumF : Nat → List D → List D
  | _, [] => []
  | i, d :: ds => .tuple [.int i, d] :: enumF (i + 1) ds
def wEnum (m : M Sv) : M (List D) := fun S => (m S).bind fun r S1 => ofOpt (((toD r).bind dSeq).map (enumF 0)) S1

/-! ### comprehensions -/
def wipeS (own : List Nat) (S : Sl) : Sl := own.foldr (fun i T => T.set i .un) S
def backS (own : List Nat) (S1 S2 : Sl) : Sl := own.foldr (fun i T => T.set i (S1.getD i .un)) S2
mutual
def sameD : D → D → Bool
  | .none, .none => true
  | .bool a, .bool b => a == b
  | .int a, .int b => decide (a = b)
  | .str a, .str b => decide (a = b)
  | .list a, .list b => sameL a b
  | .tuple a, .tuple b => sameL a b
  | .dict a, .dict b => sameK a b
  | _, _ => false
def sameL : List D → List D → Bool
  | [], [] => true
  | a :: as, b :: bs => sameD a b && sameL as bs
  | _, _ => false
def sameK : List (D × D) → List (D × D) → Bool
  | [], [] => true
  | (a, b) :: r, (c, d) :: t => sameD a c && sameD b d && sameK r t
  | _, _ => false
end
def sameO : Option D → Option D → Bool
  | some a, some b => sameD a b
  | _, _ => false
/-- a check at each turn: the walked thing still stands -/
abbrev Ck := Sl → Sl → Bool
def ckT : Ck := fun _ _ => true
def ckN (i : Nat) : Ck := fun S S1 => sameO (rd S i) (rd S1 i)
/-- a name's list, walked without being locked -/
def wN (i : Nat) (f : List D → List D) : M (List D) := fun S => match rd S i with
  | some (.list ds) => .ok (f ds) S
  | some (.tuple ds) => .ok (f ds) S
  | _ => .no
def lcLoop (own : List Nat) (ck : Sl → Bool) (p : Pat) (c : M Bool) (e : M Sv) : List D → M (List D)
  | [], S => if ck (wipeS own S) = true then .ok [] S else .no
  | d :: ds, S => if ck (wipeS own S) = true then (match p.put d (wipeS own S) with
    | none => .no
    | some S1 => match c S1 with
      | .ok true S2 => (match e S2 with
        | .ok r S3 => (match toD r with
          | some x => (lcLoop own ck p c e ds S3).bind fun xs S4 => .ok (x :: xs) S4
          | none => .no)
        | _ => .no)
      | .ok false S2 => lcLoop own ck p c e ds S2
      | _ => .no) else .no
def tYes : M Bool := fun S => .ok true S
def eLc (own : List Nat) (ck : Ck) (w : M (List D)) (p : Pat) (c : M Bool) (e : M Sv) : M Sv := fun S =>
  (w S).bind fun ds S1 => match lcLoop own (ck S1) p c e ds S1 with
    | .ok xs S2 => .ok (.ow xs) (backS own S1 S2)
    | _ => .no

/-- [e for p in w if c for p1 in w1 if c1] -/
def lc2Loop (own own1 : List Nat) (ck : Sl → Bool) (p : Pat) (c : M Bool) (w1 : M (List D)) (p1 : Pat) (c1 : M Bool) (e : M Sv) : List D → M (List D)
  | [], S => if ck (wipeS own S) = true then .ok [] S else .no
  | d :: ds, S => if ck (wipeS own S) = true then (match p.put d (wipeS own S) with
    | none => .no
    | some S1 => match c S1 with
      | .ok true S2 => (match w1 S2 with
        | .ok ds1 S3 => (match lcLoop own1 (fun _ => true) p1 c1 e ds1 S3 with
          | .ok xs S4 => (lc2Loop own own1 ck p c w1 p1 c1 e ds S4).bind fun ys S5 => .ok (xs ++ ys) S5
          | _ => .no)
        | _ => .no)
      | .ok false S2 => lc2Loop own own1 ck p c w1 p1 c1 e ds S2
      | _ => .no) else .no
def eLc2 (own own1 : List Nat) (ck : Ck) (w : M (List D)) (p : Pat) (c : M Bool) (w1 : M (List D)) (p1 : Pat) (c1 : M Bool) (e : M Sv) : M Sv := fun S =>
  (w S).bind fun ds S1 => match lc2Loop own own1 (ck S1) p c w1 p1 c1 e ds S1 with
    | .ok xs S2 => if xs.length ≤ 16777216 then .ok (.ow xs) (backS own S1 S2) else .no
    | _ => .no

/-! ### statements -/
inductive Fl where
  | nx
  | rt (v : Sv)
  | bk
  | ct
def sPass : M Fl := fun S => .ok .nx S
def sSeq (a b : M Fl) : M Fl := fun S => (a S).bind fun f S1 => match f with
  | .nx => b S1
  | f => .ok f S1
def sIf (c : M Bool) (a b : M Fl) : M Fl := fun S => (c S).bind fun x S1 => if x then a S1 else b S1
def sRet (m : M Sv) : M Fl := fun S => (m S).bind fun r S1 => .ok (.rt r) S1
/-- return of an own name: a list goes out as it is -/
def sRetV (i : Nat) : M Fl := fun S => match S[i]? with
  | some (.val d) => .ok (.rt (.val d)) S
  | some (.ow ds) => .ok (.rt (.ow ds)) S
  | _ => .no
def sSet (i : Nat) (m : M Sv) : M Fl := fun S => (m S).bind fun r S1 => match r with
  | .un => .no
  | r => .ok .nx (S1.set i r)
/-- a, b = x, y -/
def sPar (i j : Nat) (m n : M Sv) : M Fl := fun S => (m S).bind fun x S1 => (n S1).bind fun y S2 => match x, y with
  | .un, _ => .no
  | _, .un => .no
  | x, y => .ok .nx ((S2.set i x).set j y)
/-- a, b, c = x, y, z -/
def sPar3 (i j l : Nat) (m n o : M Sv) : M Fl := fun S => (m S).bind fun x S1 => (n S1).bind fun y S2 => (o S2).bind fun z S3 => .ok .nx (((S3.set i x).set j y).set l z)
/-- a, b, .. = a tuple -/
def sUnp (p : Pat) (m : M Sv) : M Fl := fun S => (m S).bind fun r S1 => match (toD r).bind fun d => p.put d S1 with
  | some S2 => .ok .nx S2
  | none => .no
def sDrop (m : M Sv) : M Fl := fun S => (m S).bind fun _ S1 => .ok .nx S1
def forLoop (p : Pat) (b : M Fl) : List D → M Fl
  | [], S => .ok .nx S
  | d :: ds, S => match p.put d S with
    | none => .no
    | some S1 => (b S1).bind fun f S2 => match f with
      | .nx => forLoop p b ds S2
      | .ct => forLoop p b ds S2
      | .bk => .ok .nx S2
      | .rt v => .ok (.rt v) S2
def sFor (w : M (List D)) (p : Pat) (b : M Fl) : M Fl := fun S => (w S).bind fun ds S1 => forLoop p b ds S1
def whLoop (c : M Bool) (b : M Fl) : Nat → M Fl
  | 0, _ => .no
  | n + 1, S => (c S).bind fun x S1 => if x then (b S1).bind fun f S2 => (match f with
      | .nx => whLoop c b n S2
      | .ct => whLoop c b n S2
      | .bk => .ok .nx S2
      | .rt v => .ok (.rt v) S2) else .ok .nx S1
/-- a while of at most n turns -/
def sWhile (n : Nat) (c : M Bool) (b : M Fl) : M Fl := whLoop c b n

/-- x[k] = e, x a list of one's own -/
def sSetIx (x : Nat) (k e : M Sv) : M Fl := fun S => (datum e S).bind fun d S1 => if (rd S1 x).isSome then (k S1).bind fun i S2 => match i, S2[x]? with
  | .val (.int i), some (.ow ds) => (match L2.ixN ds.length i with
    | some j => .ok .nx (S2.set x (.ow (ds.set j d)))
    | none => .no)
  | _, _ => .no
  else .no
/-- x.append(e) -/
def isOw (S : Sl) (x : Nat) : Bool := match S[x]? with
  | some (.ow _) => true
  | _ => false
def sApp (x : Nat) (e : M Sv) : M Fl := fun S => if isOw S x then (datum e S).bind fun d S1 => match S1[x]? with
  | some (.ow ds) => if ds.length < 16777216 then .ok .nx (S1.set x (.ow (ds ++ [d]))) else .no
  | _ => .no
  else .no
/-- x op= e, x an int -/
def sAug (x : Nat) (f : D → D → Option Sv) (e : M Sv) : M Fl := fun S => match S[x]? with
  | some (.val a) => (e S).bind fun r S1 => match b2 f (some a) (toD r) with
    | some z => .ok .nx (S1.set x z)
    | none => .no
  | _ => .no
def sRaise (e : Ek) : M Fl := fun S => .ex e S

/-! ### defs -/
inductive FR where
  | ret (v : Sv) (outs : Sl)
  | ex (e : Ek) (outs : Sl)
  | no
abbrev AF := Sl → FR
def outsOf : Nat → Sl → Sl
  | 0, _ => []
  | n + 1, [] => .un :: outsOf n []
  | n + 1, s :: S => s :: outsOf n S
def mkF (n : Nat) (body : M Fl) : AF := fun args => match body (args ++ List.replicate (n - args.length) .un) with
  | .ok (.rt v) S => .ret v (outsOf args.length S)
  | .ok .nx S => .ret (.val .none) (outsOf args.length S)
  | .ex e S => .ex e (outsOf args.length S)
  | _ => .no
def bound (S : Sl) (i : Nat) : Bool := match S[i]? with
  | some (.val _) => true
  | some (.ow _) => true
  | _ => false
/-- an argument: a value, or a name whose list the callee may change -/
inductive Am where
  | d (m : M Sv)
  | b (i : Nat)
def evA : List Am → M (List (D ⊕ Nat))
  | [], S => .ok [] S
  | .d m :: as, S => (m S).bind fun r S1 => match toD r with
    | some d => (evA as S1).bind fun ds S2 => .ok (.inl d :: ds) S2
    | none => .no
  | .b i :: as, S => if bound S i then (evA as S).bind fun ds S2 => .ok (.inr i :: ds) S2 else .no
def argOf (S : Sl) : D ⊕ Nat → Sv
  | .inl d => .val d
  | .inr i => S.getD i .un
def isMut : Sv → Bool
  | .ow _ => true
  | .dki _ => true
  | .dkt _ => true
  | _ => false
def backA (S : Sl) : List (D ⊕ Nat) → Sl → Sl
  | .inr i :: as, o :: os => if isMut (S.getD i .un) then (backA S as os).set i o else backA S as os
  | .inl _ :: as, _ :: os => backA S as os
  | _, _ => S
def okB (S : Sl) : D ⊕ Nat → Bool
  | .inl _ => true
  | .inr i => bound S i
def eCall (F : AF) (as : List Am) : M Sv := fun S => (evA as S).bind fun vs S1 => if vs.all (okB S1) then (match F (vs.map (argOf S1)) with
  | .ret v outs => .ok v (backA S1 vs outs)
  | .ex e outs => .ex e (backA S1 vs outs)
  | .no => .no) else .no

/-! ### operators -/
def small (n : Nat) : Bool := decide (n ≤ 16777216)
def dAdd : D → D → Option Sv
  | .int i, .int j => some (.val (.int (i + j)))
  | .tuple xs, .tuple ys => if small (xs.length + ys.length) then some (.val (.tuple (xs ++ ys))) else none
  | .list xs, .list ys => if small (xs.length + ys.length) then some (.ow (xs ++ ys)) else none
  | .str x, .str y => if small (x.length + y.length) then some (.val (.str (x ++ y))) else none
  | .bool b, .int j => some (.val (.int ((if b = true then 1 else 0) + j)))
  | _, _ => none
def dAddI : D → D → Option Sv
  | .int i, .int j => some (.val (.int (i + j)))
  | _, _ => none
def dSubI : D → D → Option Sv
  | .int i, .int j => some (.val (.int (i - j)))
  | _, _ => none
def dSub : D → D → Option Sv
  | .int i, .int j => some (.val (.int (i - j)))
  | .bool b, .int j => some (.val (.int ((if b = true then 1 else 0) - j)))
  | _, _ => none
def w64 (i : Int) : Bool := decide (-18446744073709551616 < i ∧ i < 18446744073709551616)
def dMul : D → D → Option Sv
  | .int i, .int j => if w64 i || w64 j then some (.val (.int (i * j))) else none
  | _, _ => none
def dMod : D → D → Option Sv
  | .int i, .int j => if 0 < j then some (.val (.int (i % j))) else none
  | _, _ => none
def dDiv : D → D → Option Sv
  | .int i, .int j => if 0 < j ∧ j < 18446744073709551616 then some (.val (.int (i / j))) else none
  | _, _ => none
def dPow : D → D → Option Sv
  | .int i, .int j => if 0 ≤ j ∧ j ≤ 100 ∧ w64 i = true then some (.val (.int (i ^ j.toNat))) else none
  | _, _ => none
def dNeg : D → Option Sv
  | .int i => some (.val (.int (-i)))
  | _ => none
def dLt : D → D → Option Sv
  | .int i, .int j => some (.val (.bool (decide (i < j))))
  | _, _ => none
def dLe : D → D → Option Sv
  | .int i, .int j => some (.val (.bool (decide (i ≤ j))))
  | _, _ => none
def dGt : D → D → Option Sv
  | .int i, .int j => some (.val (.bool (decide (j < i))))
  | _, _ => none
def dGe : D → D → Option Sv
  | .int i, .int j => some (.val (.bool (decide (j ≤ i))))
  | _, _ => none
def dEq (x y : D) : Option Sv := if SeqAt.shaped x && SeqAt.shaped y then some (.val (.bool (PyData.eqv x y))) else none
def dNe (x y : D) : Option Sv := if SeqAt.shaped x && SeqAt.shaped y then some (.val (.bool (!PyData.eqv x y))) else none
def isN : D → Bool
  | .none => true
  | _ => false
def dIsN (x : D) : Option Sv := some (.val (.bool (isN x)))
def dNotN (x : D) : Option Sv := some (.val (.bool (!isN x)))
def dIx : D → D → Option Sv
  | .list xs, .int i => (L2.atI xs i).map .val
  | .tuple xs, .int i => (L2.atI xs i).map .val
  | _, _ => none
def dLen : D → Option Sv
  | .list xs => some (.val (.int xs.length))
  | .tuple xs => some (.val (.int xs.length))
  | _ => none
end Rc
namespace Rc
open PySem
/-! ### built-in functions -/
inductive Ty where
  | int | bool | str | list | tuple
def Ty.nm : Ty → String
  | .int => "int"
  | .bool => "bool"
  | .str => "str"
  | .list => "list"
  | .tuple => "tuple"
def isTy : Ty → D → Option Bool
  | .int, .int _ => some true
  | .int, .bool _ => some true
  | .int, .none => some false
  | .int, .str _ => some false
  | .int, .list _ => some false
  | .int, .tuple _ => some false
  | .bool, .int _ => some false
  | .bool, .bool _ => some true
  | .bool, .none => some false
  | .bool, .str _ => some false
  | .bool, .list _ => some false
  | .bool, .tuple _ => some false
  | .str, .int _ => some false
  | .str, .bool _ => some false
  | .str, .none => some false
  | .str, .str _ => some true
  | .str, .list _ => some false
  | .str, .tuple _ => some false
  | .list, .int _ => some false
  | .list, .bool _ => some false
  | .list, .none => some false
  | .list, .str _ => some false
  | .list, .list _ => some true
  | .list, .tuple _ => some false
  | .tuple, .int _ => some false
  | .tuple, .bool _ => some false
  | .tuple, .none => some false
  | .tuple, .str _ => some false
  | .tuple, .list _ => some false
  | .tuple, .tuple _ => some true
  | _, .dict _ => none
def dIsi (T : Ty) (d : D) : Option Sv := (isTy T d).map fun b => .val (.bool b)
def dAbs : D → Option Sv
  | .int i => some (.val (.int (if i < 0 then -i else i)))
  | _ => none
def dMax2 : D → D → Option Sv
  | .int i, .int j => some (.val (.int (if j > i then j else i)))
  | _, _ => none
def dMin2 : D → D → Option Sv
  | .int i, .int j => some (.val (.int (if j < i then j else i)))
  | _, _ => none
def asInts : List D → Option (List Int)
  | [] => some []
  | .int i :: ds => (asInts ds).map (i :: ·)
  | _ :: _ => none
/-- a kept table: tuples of ints as keys -/
def unT : List (D × D) → Option (List (List Int × D))
  | [] => some []
  | (.tuple ds, d) :: r => (asInts ds).bind fun ns => (unT r).map ((ns, d) :: ·)
  | _ => none
def asBools : List D → Option (List Bool)
  | [] => some []
  | .bool b :: ds => (asBools ds).map (b :: ·)
  | _ :: _ => none
def dSum (d : D) : Option Sv := (dSeq d).bind fun ds => (asInts ds).map fun ns => .val (.int ns.sum)
def dAll : D → Option Sv
  | .list ds => (asBools ds).map fun bs => .val (.bool (bs.all id))
  | _ => none
def maxL : List Int → Option Int
  | [] => none
  | a :: as => some (as.foldl (fun m x => if x > m then x else m) a)
def minL : List Int → Option Int
  | [] => none
  | a :: as => some (as.foldl (fun m x => if x < m then x else m) a)
def dMax : D → Option Sv
  | .list ds => (asInts ds).bind fun ns => (maxL ns).map fun m => .val (.int m)
  | _ => none
def dMin : D → Option Sv
  | .list ds => (asInts ds).bind fun ns => (minL ns).map fun m => .val (.int m)
  | _ => none
def dTuple : D → Option Sv
  | .list ds => some (.val (.tuple ds))
  | .tuple ds => some (.val (.tuple ds))
  | _ => none
def dList : D → Option Sv
  | .list ds => some (.ow ds)
  | .tuple ds => some (.ow ds)
  | _ => none
def repD (k : Nat) (ds : List D) : List D := (List.replicate k ds).flatten
/-- n * m, list * n, tuple * n -/
def dMulA : D → D → Option Sv
  | .list ds, .int k => if 0 ≤ k ∧ k ≤ 100000 ∧ ds.length ≤ 100 then some (.ow (repD k.toNat ds)) else none
  | .tuple ds, .int k => if 2 ≤ k ∧ k ≤ 1000 ∧ ds.length ≤ 1000 ∧ ds.isEmpty = false then some (.val (.tuple (repD k.toNat ds))) else none
  | a, b => dMul a b
/-- a slice with parts -/
def cutD (ds : List D) (lo hi : Option Int) : List D := (ds.drop (HT.sIx ds.length 0 lo)).take (HT.sIx ds.length ds.length hi - HT.sIx ds.length 0 lo)
def asPart : Option D → Option (Option Int)
  | none => some none
  | some (.int i) => some (some i)
  | _ => none
def dCut (lo hi : Option Int) : D → Option Sv
  | .list ds => some (.ow (cutD ds lo hi))
  | .tuple ds => some (.val (.tuple (cutD ds lo hi)))
  | _ => none
/-- x[lo:hi] -/
def evP : Option (M Sv) → M (Option Int)
  | none, S => .ok none S
  | some m, S => (m S).bind fun r S1 => match r with
    | .val (.int i) => .ok (some i) S1
    | _ => .no
def eCut (o : Od) (lo hi : Option (M Sv)) : M Sv := match o with
  | .e m => fun S => (m S).bind fun x S1 => (evP lo S1).bind fun l S2 => (evP hi S2).bind fun h S3 => lift ((toD x).bind (dCut l h)) S3
  | .v i => fun S => if (rd S i).isSome then (evP lo S).bind fun l S2 => (evP hi S2).bind fun h S3 => lift ((rd S3 i).bind (dCut l h)) S3 else .no
/-! ### a lambda that is handed to a def -/
/-- a dict is put away, and back -/
def hd : Sv → Sv
  | .dki _ | .dkt _ => .un
  | s => s
def rs (s t : Sv) : Sv := match s with
  | .dki _ | .dkt _ => s
  | _ => t
def mutOk (S S1 : Sl) : Bool := (S1.zip S).all fun p => !isMut p.1 || isMut p.2
/-- what the lambda gives is told, or the name of what it raises -/
def eTry (nms : Str → Option Str) (m : M Sv) : M Sv := fun S => match m (S.map hd) with
  | .ok (.val d) S1 => if mutOk (S.map hd) S1 then .ok (.val (.tuple [.str "told", d])) (List.zipWith rs S S1) else .no
  | .ok _ _ => .no
  | .ex e S1 => if mutOk (S.map hd) S1 && e.lim.isNone then (match nms e.cls with
    | some nm => .ok (.val (.str nm)) (List.zipWith rs S S1)
    | none => .no) else .no
  | .no => .no
/-- what the called def makes of it -/
def tellF (nms : Str → Option Str) (S S1 : Sl) (vs : List (D ⊕ Nat)) : FR → Res Sv
  | .ret (.val d) outs => if mutOk (S.map hd) (backA S1 vs outs) then .ok (.val (.tuple [.str "told", d])) (List.zipWith rs S (backA S1 vs outs)) else .no
  | .ex e outs => if mutOk (S.map hd) (backA S1 vs outs) && e.lim.isNone then (match nms e.cls with
    | some nm => .ok (.val (.str nm)) (List.zipWith rs S (backA S1 vs outs))
    | none => .no) else .no
  | _ => .no
def eTryC (nms : Str → Option Str) (F : AF) (as : List Am) : M Sv := fun S => match evA as (S.map hd) with
  | .ok vs S1 => if vs.all (okB S1) then tellF nms S S1 vs (F (vs.map (argOf S1))) else .no
  | _ => .no
/-! ### dicts of one's own with ints as keys -/
def lookD (kvs : List (Int × D)) (k : Int) : Option D := (kvs.find? fun p => decide (p.1 = k)).map (·.2)
def hasD (kvs : List (Int × D)) (k : Int) : Bool := kvs.any fun p => decide (p.1 = k)
def putD (kvs : List (Int × D)) (k : Int) (d : D) : List (Int × D) :=
  if hasD kvs k = true then kvs.map (fun p => if p.1 = k then (p.1, d) else p) else kvs ++ [(k, d)]
def eNewK : M Sv := fun S => .ok (.dki []) S
def dkAt (S : Sl) (i : Nat) : Option (List (Int × D)) := match S[i]? with
  | some (.dki kvs) => some kvs
  | _ => none
def eDGet (i : Nat) (k : M Sv) : M Sv := fun S => if (dkAt S i).isSome then (k S).bind fun r S1 => match r, dkAt S1 i with
  | .val (.int n), some kvs => (match lookD kvs n with
    | some d => .ok (.val d) S1
    | none => .no)
  | _, _ => .no else .no
def eDGetD (i : Nat) (k x : M Sv) : M Sv := fun S => if (dkAt S i).isSome then (k S).bind fun r S1 => (datum x S1).bind fun z S2 => match r, dkAt S2 i with
  | .val (.int n), some kvs => .ok (.val ((lookD kvs n).getD z)) S2
  | _, _ => .no else .no
def eDLen (i : Nat) : M Sv := fun S => match dkAt S i with
  | some kvs => .ok (.val (.int kvs.length)) S
  | none => .no
def srtI (ns : List Int) : List Int := ns.mergeSort fun a b => decide (a ≤ b)
def eDSorted (i : Nat) : M Sv := fun S => match dkAt S i with
  | some kvs => if kvs.length < 64 then .ok (.ow ((srtI (kvs.map (·.1))).map PyData.int)) S else .no
  | none => .no
def sDPut (i : Nat) (k e : M Sv) : M Fl := fun S => (datum e S).bind fun d S1 => if (dkAt S1 i).isSome then (k S1).bind fun r S2 => match r, dkAt S2 i with
  | .val (.int n), some kvs => if kvs.length < 16777216 then .ok .nx (S2.set i (.dki (putD kvs n d))) else .no
  | _, _ => .no else .no

/-! ### dicts of one's own with tuples of ints as keys; kept ones -/
def lookT (kvs : List (List Int × D)) (k : List Int) : Option D := (kvs.find? fun p => decide (p.1 = k)).map (·.2)
def hasT (kvs : List (List Int × D)) (k : List Int) : Bool := kvs.any fun p => decide (p.1 = k)
def putT (kvs : List (List Int × D)) (k : List Int) (d : D) : List (List Int × D) :=
  if hasT kvs k = true then kvs.map (fun p => if p.1 = k then (p.1, d) else p) else kvs ++ [(k, d)]
def eNewT : M Sv := fun S => .ok (.dkt []) S
def dtAt (S : Sl) (i : Nat) : Option (List (List Int × D)) := match S[i]? with
  | some (.dkt kvs) => some kvs
  | _ => none
def sTPut (i : Nat) (ks : List (M Sv)) (e : M Sv) : M Fl := fun S => (datum e S).bind fun d S1 => if (dtAt S1 i).isSome then (evL ks S1).bind fun ds S2 => match asInts ds, dtAt S2 i with
  | some ns, some kvs => if kvs.length < 16777216 then .ok .nx (S2.set i (.dkt (putT kvs ns d))) else .no
  | _, _ => .no else .no
/-- a kept table, as a value -/
def fzD (ts : List (List Int × D)) : D := .dict (ts.map fun p => (.tuple (p.1.map PyData.int), p.2))
def fzAt (S : Sl) (i : Nat) : Option (List (List Int × D)) := match S[i]? with
  | some (.val (.dict kvs)) => unT kvs
  | _ => none
/-- x[a, b] of a kept table -/
def eTGet (i : Nat) (ks : List (M Sv)) : M Sv := fun S => if (fzAt S i).isSome then (evL ks S).bind fun ds S1 => match asInts ds, fzAt S1 i with
  | some ns, some kvs => (match lookT kvs ns with
    | some d => .ok (.val d) S1
    | none => .no)
  | _, _ => .no else .no
/-- its keys are walked: from then on it is kept -/
def wKeysT (i : Nat) : M (List D) := fun S => match dtAt S i with
  | some ts => if ts.all (fun p => flat p.2) = true ∧ ts.length ≤ 16777216 then .ok (ts.map fun p => .tuple (p.1.map PyData.int)) (S.set i (.val (fzD ts))) else .no
  | none => .no

/-! ### ascending, each once -/
def insU (k : Int) : List Int → List Int
  | [] => [k]
  | a :: l => if k < a then k :: a :: l else if k = a then a :: l else a :: insU k l
def srtU (ns : List Int) : List Int := ns.foldr insU []
/-- sorted(set(a)) -/
def dSrtSet : D → Option Sv
  | .list ds => (asInts ds).bind fun ns => if ns.length < 64 then some (.ow ((srtU ns).map PyData.int)) else none
  | _ => none
/-! ### a text among texts -/
def asStrs : List D → Option (List Str)
  | [] => some []
  | .str x :: ds => (asStrs ds).map (x :: ·)
  | _ :: _ => none
def dIn : D → D → Option Sv
  | .str x, c => ((dSeq c).bind asStrs).map fun ss => .val (.bool (ss.any fun y => y == x))
  | _, _ => none
def dNotIn : D → D → Option Sv
  | .str x, c => ((dSeq c).bind asStrs).map fun ss => .val (.bool (!ss.any fun y => y == x))
  | _, _ => none
/-- a is True, a is False -/
def dIsB (b : Bool) : D → Option Sv
  | .bool c => some (.val (.bool (c == b)))
  | _ => none
def dIsNB (b : Bool) : D → Option Sv
  | .bool c => some (.val (.bool (!(c == b))))
  | _ => none
end Rc

/-! Rc: how the machine's values lie in the layer's heap. -/
namespace Rc
open PySem PySem.Spec PyProof.Rows L2
abbrev St := L2.St

/-- a list that nobody changes -/
def FzL (K : PySem.W.Frag) (H : Hp) (a : Addr) (xs : List V) : Prop :=
  (∃ o, H a = some (.frz o (.lst xs))) ∨
    ∃ (its : Array Value) (n : Nat), K.lookup a = some { cls := .type "list", data := .seq its n } ∧ its.size ≤ sizeLine ∧ Vals xs its.toList
theorem FzL.sq {K : PySem.W.Frag} {H : Hp} {a : Addr} {xs : List V} (h : FzL K H a xs) : SqL K H a xs := by
  rcases h with h | ⟨its, n, h, z, r⟩
  · exact .inl (.inr h)
  · exact .inr ⟨_, its, n, h, rfl, rfl, rfl, z, r⟩
/-- a list that is read -/
def LsX (K : PySem.W.Frag) (H : Hp) (a : Addr) (xs : List V) : Prop := H a = some (.lst xs) ∨ FzL K H a xs
theorem LsX.sq {K : PySem.W.Frag} {H : Hp} {a : Addr} {xs : List V} (h : LsX K H a xs) : SqL K H a xs := by
  rcases h with h | h
  · exact .inl (.inl h)
  · exact h.sq
theorem LsX.at {X : Cx} {pins : List (Addr × Obj)} {σ : L2.St} {H : Hp} {s : Shared} {a : Addr} {xs : List V} (I : Inv X pins σ H s) (h : LsX X.K H a xs) :
    xs.length ≤ sizeLine ∧ ∃ (its : List Value) (n : Nat), Vals xs its ∧ xs.length = its.length ∧ s.heap.get? a = some { cls := .type "list", data := .seq its.toArray n } := by
  rcases h with h | ⟨o, h⟩ | ⟨its, n, h, z, r⟩
  · exact Inv.lstM I h
  · obtain ⟨_, z, its, n, r, e⟩ := I.hok a _ h
    exact ⟨z, its, n, r, r.length, e⟩
  · have e := r.length
    simp only [Array.length_toList] at e
    exact ⟨by omega, its.toList, n, r, by simpa using e, by simpa using I.kIn a _ h⟩

/-- the name of the lambdas of the def that is asked -/
def lamQ : Str := "law.<locals>.<lambda>"
/-- the lambdas that stand among the doors, by their tags -/
class LamTbl where
  f : Str → Option (Arguments × Expr × Scope)
/-- the function object of a lambda without captured names -/
def LamO (a c : Addr) (L : Arguments × Expr × Scope) : HO := .ext fun h => ∃ pm ctv, h.get? a = some (PySem.W.kla_obj "<lambda>" lamQ L.1 L.2.1 L.2.2 [] pm c ctv)
variable [LamTbl]
section
variable (K : PySem.W.Frag) (mg : Str → Option Value)
/-- a plain value, as it lies -/
def flV : D → V
  | .bool b => .bl b
  | .int i => .int i
  | .str x => .str x
  | _ => .non
mutual
def Rep (H : Hp) : D → V → Prop
  | .none, v => v = .non
  | .bool b, v => v = .bl b
  | .int i, v => v = .int i
  | .str x, v => v = .str x
  | .tuple ds, v => ∃ a xs, v = .ref a ∧ SqT K H a xs ∧ RepL H ds xs
  | .list ds, v => ∃ a xs, v = .ref a ∧ FzL K H a xs ∧ RepL H ds xs
  | .dict kvs, v => (∃ x a, kvs = [(.str x, .none)] ∧ mg x = some (.ref a) ∧ v = .ref a) ∨
    (∃ x a c L, kvs = [(.str x, .bool true)] ∧ LamTbl.f x = some L ∧ v = .ref a ∧ H a = some (LamO a c L) ∧ H c = some (LamX.CodeO c lamQ)) ∨
    (∃ a o ks ts, v = .ref a ∧ unT kvs = some ts ∧ H a = some (.frz o (.dT ks)) ∧ ks.map (·.1) = ts.map (fun p => p.1.map Sum.inl) ∧ ks.map (·.2) = ts.map (fun p => flV p.2) ∧ ts.all (fun p => flat p.2) = true) ∨
    ∃ a o xs ps, kvs = [(.none, .tuple (ps.map fun q : Int × Int => .tuple [.int q.1, .int q.2]))] ∧ v = .ref a ∧ H a = some (.frz o (.tup xs)) ∧ o.dict = none ∧ PySem.Paired (fun x (q : Int × Int) => ∃ t, x = V.ref t ∧ SqT K H t [.int q.1, .int q.2]) xs ps
def RepL (H : Hp) : List D → List V → Prop
  | [], xs => xs = []
  | d :: ds, xs => ∃ v vs, xs = v :: vs ∧ Rep H d v ∧ RepL H ds vs
end
end

/-- no table of code objects -/
abbrev nT (o : HO) : Prop := ∀ ps, o ≠ .tbl ps
theorem nT.lst {xs : List V} : nT (.lst xs) := fun _ z => by cases z
theorem nT.tup {xs : List V} : nT (.tup xs) := fun _ z => by cases z
theorem nT.frz {o : Obj} {u : HO} : nT (.frz o u) := fun _ z => by cases z
theorem nT.dK {ks} : nT (.dK ks) := fun _ z => by cases z
theorem nT.dT {ks} : nT (.dT ks) := fun _ z => by cases z
theorem nT.ext {φ : Heap → Prop} : nT (.ext φ) := fun _ z => by cases z
/-- the tables of these lambdas stay such tables -/
def TbM (H H' : Hp) : Prop := ∀ P, LamX.TabS H P lamQ → LamX.TabS H' P lamQ
theorem TbM.refl (H : Hp) : TbM H H := fun _ t => t
theorem TbM.trans {H H1 H2 : Hp} (a : TbM H H1) (b : TbM H1 H2) : TbM H H2 := fun P t => b P (a P t)
theorem TbM.of_same {H H' : Hp} (s : ∀ a o, H a = some o → H' a = some o) : TbM H H' := fun _ t => t.ext s
/-- an address that bears no table and no code object is written -/
theorem TbM.upd {H : Hp} {a : Addr} {u v : HO} (h : H a = some u) (n1 : nT u) (n2 : ∀ q, u ≠ LamX.CodeO a q) : TbM H (upd H a v) := fun P t => by
  obtain ⟨ps, h1, h2, h3⟩ := t
  refine ⟨ps, ?_, h2, fun pos cv hc => ?_⟩
  · rw [upd_ne]
    · exact h1
    · rintro rfl
      rw [h] at h1
      exact n1 ps (Option.some.inj h1)
  · obtain ⟨c, e1, e2⟩ := h3 pos cv hc
    refine ⟨c, e1, ?_⟩
    rw [upd_ne]
    · exact e2
    · rintro rfl
      rw [h] at e2
      exact n2 _ (Option.some.inj e2)
theorem TbM.hide {H : Hp} {a : Addr} {xs : List V} (h : H a = some (.lst xs)) : TbM H (fun b => if b = a then none else H b) := fun P t => by
  obtain ⟨ps, h1, h2, h3⟩ := t
  refine ⟨ps, ?_, h2, fun pos cv hc => ?_⟩
  · show (if P = a then none else H P) = _
    rw [if_neg]
    · exact h1
    · rintro rfl
      rw [h] at h1
      cases h1
  · obtain ⟨c, e1, e2⟩ := h3 pos cv hc
    refine ⟨c, e1, ?_⟩
    show (if c = a then none else H c) = _
    rw [if_neg]
    · exact e2
    · rintro rfl
      rw [h] at e2
      have z := Option.some.inj e2
      unfold LamX.CodeO at z
      cases z
theorem lst_ne {xs : List V} {a : Addr} (q : Str) : HO.lst xs ≠ LamX.CodeO a q := fun z => by unfold LamX.CodeO at z; cases z
/-- what is never written stays -/
def Mono (H H' : Hp) : Prop := (∀ a xs, H a = some (.tup xs) → H' a = some (.tup xs)) ∧ (∀ a o u, H a = some (.frz o u) → H' a = some (.frz o u)) ∧ ∀ a φ, H a = some (.ext φ) → H' a = some (.ext φ)
theorem Mono.refl (H : Hp) : Mono H H := ⟨fun _ _ h => h, fun _ _ _ h => h, fun _ _ h => h⟩
theorem Mono.trans {H H1 H2 : Hp} (a : Mono H H1) (b : Mono H1 H2) : Mono H H2 := ⟨fun c xs h => b.1 c xs (a.1 c xs h), fun c o u h => b.2.1 c o u (a.2.1 c o u h), fun c φ h => b.2.2 c φ (a.2.2 c φ h)⟩
theorem Mono.of_same {H H' : Hp} (s : Same H H') : Mono H H' := ⟨fun a xs h => s a _ h, fun a o u h => s a _ h, fun a φ h => s a _ h⟩
section
variable {K : PySem.W.Frag} {mg : Str → Option Value} {H H' : Hp}
theorem Mono.sqT (m : Mono H H') {a : Addr} {xs : List V} (h : SqT K H a xs) : SqT K H' a xs := by
  rcases h with (h | ⟨o, h⟩) | h
  · exact .inl (.inl (m.1 _ _ h))
  · exact .inl (.inr ⟨o, m.2.1 _ _ _ h⟩)
  · exact .inr h
theorem Mono.fzL (m : Mono H H') {a : Addr} {xs : List V} (h : FzL K H a xs) : FzL K H' a xs := by
  rcases h with ⟨o, h⟩ | h
  · exact .inl ⟨o, m.2.1 _ _ _ h⟩
  · exact .inr h
mutual
theorem Rep.mono (m : Mono H H') : ∀ (d : D) {v : V}, Rep K mg H d v → Rep K mg H' d v
  | .none, _, h => h
  | .bool _, _, h => h
  | .int _, _, h => h
  | .str _, _, h => h
  | .tuple ds, _, h => by
    obtain ⟨a, xs, e, s, r⟩ := h
    exact ⟨a, xs, e, m.sqT s, RepL.mono m ds r⟩
  | .list ds, _, h => by
    obtain ⟨a, xs, e, s, r⟩ := h
    exact ⟨a, xs, e, m.fzL s, RepL.mono m ds r⟩
  | .dict _, _, h => by
    rcases h with h | ⟨x, a, c, L, e1, e2, e3, e4, e5⟩ | ⟨a, o, ks, ts, e, u, q, r⟩ | ⟨a, o, xs, ps, e, ev, q, hd, r⟩
    · exact .inl h
    · exact .inr (.inl ⟨x, a, c, L, e1, e2, e3, m.2.2 _ _ e4, m.2.2 _ _ e5⟩)
    · exact .inr (.inr (.inl ⟨a, o, ks, ts, e, u, m.2.1 a o _ q, r⟩))
    · refine .inr (.inr (.inr ⟨a, o, xs, ps, e, ev, m.2.1 a o _ q, hd, ?_⟩))
      clear q e
      induction r with
      | nil => exact .nil
      | cons h t ih =>
        obtain ⟨t, e1, e2⟩ := h
        exact .cons ⟨t, e1, m.sqT e2⟩ ih
theorem RepL.mono (m : Mono H H') : ∀ (ds : List D) {xs : List V}, RepL K mg H ds xs → RepL K mg H' ds xs
  | [], _, h => h
  | d :: ds, _, h => by
    obtain ⟨v, vs, e, r, rs⟩ := h
    exact ⟨v, vs, e, Rep.mono m d r, RepL.mono m ds rs⟩
end
theorem RepL.length : ∀ {ds : List D} {xs : List V}, RepL K mg H ds xs → xs.length = ds.length
  | [], _, h => by rw [show _ = _ from h]; rfl
  | d :: ds, _, h => by
    obtain ⟨v, vs, e, _, rs⟩ := h
    rw [e, List.length_cons, List.length_cons, RepL.length rs]
theorem RepL.append : ∀ {ds es : List D} {xs ys : List V}, RepL K mg H ds xs → RepL K mg H es ys → RepL K mg H (ds ++ es) (xs ++ ys)
  | [], _, _, _, h, h' => by rw [show _ = _ from h]; exact h'
  | d :: ds, es, _, ys, h, h' => by
    obtain ⟨v, vs, e, r, rs⟩ := h
    subst e
    exact ⟨v, vs ++ ys, rfl, r, RepL.append rs h'⟩
theorem RepL.one {d : D} {v : V} (h : Rep K mg H d v) : RepL K mg H [d] [v] := ⟨v, [], rfl, h, rfl⟩
theorem RepL.get : ∀ {ds : List D} {xs : List V} {i : Nat} {d : D}, RepL K mg H ds xs → ds[i]? = some d → ∃ v, xs[i]? = some v ∧ Rep K mg H d v
  | [], _, _, _, _, e => by simp at e
  | d :: ds, _, 0, _, h, e => by
    obtain ⟨v, vs, e', r, rs⟩ := h
    subst e'
    simp at e
    subst e
    exact ⟨v, rfl, r⟩
  | d :: ds, _, i + 1, _, h, e => by
    obtain ⟨v, vs, e', r, rs⟩ := h
    subst e'
    obtain ⟨u, h1, h2⟩ := RepL.get (i := i) rs (by simpa using e)
    exact ⟨u, by simpa using h1, h2⟩
theorem RepL.getv : ∀ {ds : List D} {xs : List V} {i : Nat} {v : V}, RepL K mg H ds xs → xs[i]? = some v → ∃ d, ds[i]? = some d ∧ Rep K mg H d v
  | [], _, _, _, h, e => by
    rw [show _ = _ from h] at e
    simp at e
  | d :: ds, _, 0, _, h, e => by
    obtain ⟨v, vs, e', r, rs⟩ := h
    subst e'
    simp at e
    subst e
    exact ⟨d, rfl, r⟩
  | d :: ds, _, i + 1, _, h, e => by
    obtain ⟨v, vs, e', r, rs⟩ := h
    subst e'
    obtain ⟨u, h1, h2⟩ := RepL.getv (i := i) rs (by simpa using e)
    exact ⟨u, by simpa using h1, h2⟩
theorem RepL.set : ∀ {ds : List D} {xs : List V} (i : Nat) {d : D} {v : V}, RepL K mg H ds xs → Rep K mg H d v → RepL K mg H (ds.set i d) (xs.set i v)
  | [], _, _, _, _, h, _ => by
    rw [show _ = _ from h]
    exact rfl
  | c :: ds, _, 0, _, _, h, r => by
    obtain ⟨u, us, e, _, rs⟩ := h
    subst e
    exact ⟨_, us, rfl, r, rs⟩
  | c :: ds, _, i + 1, _, _, h, r => by
    obtain ⟨u, us, e, q, rs⟩ := h
    subst e
    exact ⟨u, us.set i _, rfl, q, RepL.set i rs r⟩
theorem RepL.take : ∀ {ds : List D} {xs : List V} (n : Nat), RepL K mg H ds xs → RepL K mg H (ds.take n) (xs.take n)
  | _, _, 0, _ => rfl
  | [], _, n + 1, h => by
    rw [show _ = _ from h]
    exact rfl
  | d :: ds, _, n + 1, h => by
    obtain ⟨v, vs, e, r, rs⟩ := h
    subst e
    exact ⟨v, vs.take n, rfl, r, RepL.take n rs⟩
theorem RepL.drop : ∀ {ds : List D} {xs : List V} (n : Nat), RepL K mg H ds xs → RepL K mg H (ds.drop n) (xs.drop n)
  | _, _, 0, h => h
  | [], _, n + 1, h => by
    rw [show _ = _ from h]
    exact rfl
  | d :: ds, _, n + 1, h => by
    obtain ⟨v, vs, e, r, rs⟩ := h
    subst e
    exact RepL.drop n rs
theorem RepL.reverse : ∀ {ds : List D} {xs : List V}, RepL K mg H ds xs → RepL K mg H ds.reverse xs.reverse
  | [], _, h => by
    rw [show _ = _ from h]
    exact rfl
  | d :: ds, _, h => by
    obtain ⟨v, vs, e, r, rs⟩ := h
    subst e
    rw [List.reverse_cons, List.reverse_cons]
    exact RepL.append (RepL.reverse rs) (RepL.one r)
end

/-! ### the slots -/
/-- what a frame was given: the heap at its entry, the lists that it may change -/
structure Fx where
  H0 : Hp
  brw : Nat → Option Addr

section
variable (K : PySem.W.Frag) (mg : Str → Option Value)
/-- a value as it lies: own lists stand as lists -/
def RSv (H : Hp) (ov : Option (Option V)) : Sv → Prop
  | .un => True
  | .val d => ∃ v, ov = some (some v) ∧ Rep K mg H d v
  | .ow ds => ∃ a xs, ov = some (some (.ref a)) ∧ H a = some (.lst xs) ∧ RepL K mg H ds xs
  | .dki kvs => ∃ a ks, ov = some (some (.ref a)) ∧ H a = some (.dK ks) ∧ ks.map (·.1) = kvs.map (fun p => Sum.inl p.1) ∧ RepL K mg H (kvs.map (·.2)) (ks.map (·.2))
  | .dkt kvs => ∃ a ks, ov = some (some (.ref a)) ∧ H a = some (.dT ks) ∧ ks.map (·.1) = kvs.map (fun p => p.1.map Sum.inl) ∧ RepL K mg H (kvs.map (·.2)) (ks.map (·.2))
structure RSt (F : Fx) (σ : St) (H : Hp) (S : Sl) : Prop where
  len : S.length = σ.length
  at_ : ∀ (i : Nat) s, S[i]? = some s → RSv K mg H σ[i]? s
  inj : ∀ (i j : Nat) s t a, S[i]? = some s → S[j]? = some t → isMut s = true → isMut t = true → σ[i]? = some (some (.ref a)) → σ[j]? = some (some (.ref a)) → i = j
  ownd : ∀ (i : Nat) s a, S[i]? = some s → isMut s = true → σ[i]? = some (some (.ref a)) → F.brw i = some a ∨ F.H0 a = none
  lent : ∀ (i : Nat) a, F.brw i = some a → σ[i]? = some (some (.ref a)) ∧ F.H0 a ≠ none ∧ ∃ ds, S[i]? = some (.ow ds) ∨ S[i]? = some (.val (.list ds))
  frame : ∀ a o, F.H0 a = some o → nT o → (∀ i, F.brw i ≠ some a) → H a = some o
  dom : ∀ a, F.H0 a ≠ none → H a ≠ none
  mono : Mono F.H0 H
  tabs : TbM F.H0 H
end

/-- the addresses of the lists that the slots own -/
def Owns (σ : St) (S : Sl) (a : Addr) : Prop := ∃ (i : Nat) (s : Sv), S[i]? = some s ∧ isMut s = true ∧ σ[i]? = some (some (.ref a))
/-- all that the slots don't own is as it was -/
structure Keep (σ : St) (S : Sl) (H H' : Hp) : Prop where
  kp : ∀ a o, H a = some o → nT o → ¬ Owns σ S a → H' a = some o
  tb : TbM H H'
theorem Keep.refl (σ : St) (S : Sl) (H : Hp) : Keep σ S H H := ⟨fun _ _ h _ _ => h, TbM.refl H⟩
theorem Keep.of_same {σ : St} {S : Sl} {H H' : Hp} (s : Same H H') : Keep σ S H H' := ⟨fun a o h _ _ => s a o h, TbM.of_same s⟩
theorem Keep.trans {σ : St} {S S1 : Sl} {H H1 H2 : Hp} (a : Keep σ S H H1) (b : Keep σ S1 H1 H2) (sub : ∀ x, Owns σ S1 x → Owns σ S x) : Keep σ S H H2 :=
  ⟨fun c o h t n => b.kp c o (a.kp c o h t n) t fun z => n (sub c z), a.tb.trans b.tb⟩
def sub (σ : St) (S1 S : Sl) : Prop := ∀ x, Owns σ S1 x → Owns σ S x
theorem sub.refl (σ : St) (S : Sl) : sub σ S S := fun _ h => h
theorem sub.trans {σ : St} {S S1 S2 : Sl} (a : sub σ S1 S) (b : sub σ S2 S1) : sub σ S2 S := fun x h => a x (b x h)

section
variable {K : PySem.W.Frag} {mg : Str → Option Value} {F : Fx} {σ : St} {H H' : Hp} {S S' : Sl}
/-- an own address bears a list or a dict -/
theorem RSt.own_kind (r : RSt K mg F σ H S) {a : Addr} (h : Owns σ S a) : (∃ xs, H a = some (.lst xs)) ∨ (∃ ks, H a = some (.dK ks)) ∨ ∃ ks, H a = some (.dT ks) := by
  obtain ⟨i, s, e, m, q⟩ := h
  have z := r.at_ i s e
  cases s with
  | un => cases m
  | val d => cases m
  | ow ds =>
    obtain ⟨b, xs, e1, e2, _⟩ := z
    rw [q] at e1
    cases e1
    exact .inl ⟨xs, e2⟩
  | dki kvs =>
    obtain ⟨b, xs, e1, e2, _⟩ := z
    rw [q] at e1
    cases e1
    exact .inr (.inl ⟨xs, e2⟩)
  | dkt kvs =>
    obtain ⟨b, xs, e1, e2, _⟩ := z
    rw [q] at e1
    cases e1
    exact .inr (.inr ⟨xs, e2⟩)
theorem RSt.own_nT (r : RSt K mg F σ H S) {a : Addr} (h : Owns σ S a) {u : HO} (e : H a = some u) : nT u := by
  rcases r.own_kind h with ⟨_, z⟩ | ⟨_, z⟩ | ⟨_, z⟩ <;> rw [z] at e <;> cases e
  · exact nT.lst
  · exact nT.dK
  · exact nT.dT
theorem RSt.own_ne (r : RSt K mg F σ H S) {a : Addr} (h : Owns σ S a) : H a ≠ none := by
  rcases r.own_kind h with ⟨_, e⟩ | ⟨_, e⟩ | ⟨_, e⟩ <;> rw [e] <;> exact fun z => by cases z
theorem RSt.fresh_not (r : RSt K mg F σ H S) {a : Addr} (h : H a = none) : ¬ Owns σ S a := fun z => r.own_ne z h
theorem RSt.keep_mono (r : RSt K mg F σ H S) (k : Keep σ S H H') : Mono H H' := by
  refine ⟨fun a xs h => k.kp a _ h nT.tup fun z => ?_, fun a o u h => k.kp a _ h nT.frz fun z => ?_, fun a φ h => k.kp a _ h nT.ext fun z => ?_⟩ <;>
    (rcases r.own_kind z with ⟨_, e⟩ | ⟨_, e⟩ | ⟨_, e⟩ <;> rw [e] at h <;> cases h)
theorem RSv.mono {ov : Option (Option V)} {s : Sv} (m : Mono H H') (h : RSv K mg H ov s) (k : ∀ a, isMut s = true → ov = some (some (.ref a)) → H' a = H a) : RSv K mg H' ov s := by
  cases s with
  | un => exact trivial
  | val d =>
    obtain ⟨v, e, r⟩ := h
    exact ⟨v, e, Rep.mono m d r⟩
  | ow ds =>
    obtain ⟨a, xs, e, q, r⟩ := h
    exact ⟨a, xs, e, by rw [k a rfl e]; exact q, RepL.mono m ds r⟩
  | dki kvs =>
    obtain ⟨a, xs, e, q, z, r⟩ := h
    exact ⟨a, xs, e, by rw [k a rfl e]; exact q, z, RepL.mono m _ r⟩
  | dkt kvs =>
    obtain ⟨a, xs, e, q, z, r⟩ := h
    exact ⟨a, xs, e, by rw [k a rfl e]; exact q, z, RepL.mono m _ r⟩
/-- the heap has grown -/
theorem RSt.grow (r : RSt K mg F σ H S) (s : Same H H') : RSt K mg F σ H' S where
  len := r.len
  at_ := fun i x e => (r.at_ i x e).mono (Mono.of_same s) fun a m q => by
    have o : Owns σ S a := ⟨i, x, e, m, q⟩
    cases h : H a with
    | none => exact absurd h (r.own_ne o)
    | some u => exact s a u h
  inj := r.inj
  ownd := r.ownd
  lent := r.lent
  frame := fun a o e t n => s a o (r.frame a o e t n)
  dom := fun a n => by
    cases h : H a with
    | none => exact absurd h (r.dom a n)
    | some u => rw [s a u h]; exact fun z => by cases z
  mono := r.mono.trans (Mono.of_same s)
  tabs := r.tabs.trans (TbM.of_same s)
end
end Rc

/-! Rc: readings of the layer out of the machine's functions. -/
namespace Rc
open PySem PySem.Spec PyProof.Rows L2
variable [LamTbl]

theorem PE_imp {X : Cx} {e : Expr} {t t' : TE} (h : PE X e t) (i : ∀ σ H Q, t' σ H Q → t σ H Q) : PE X e t' := ⟨fun pins s σ H Q I hw => h.run pins s σ H Q I (i σ H Q hw)⟩
theorem PT_imp {X : Cx} {e : Expr} {t t' : TT} (h : PT X e t) (i : ∀ σ H Q, t' σ H Q → t σ H Q) : PT X e t' := ⟨fun pins s σ H Q I hw => h.run pins s σ H Q I (i σ H Q hw)⟩
theorem PA_imp {X : Cx} {es : List Expr} {t t' : TA} (h : PA X es t) (i : ∀ σ H Q, t' σ H Q → t σ H Q) : PA X es t' := ⟨fun pos pins s σ H Q I hw => h.run pos pins s σ H Q I (i σ H Q hw)⟩
theorem PS_imp {X : Cx} {st : Stmt} {t t' : TS} (h : PS X st t) (i : ∀ D σ H, t' D σ H → t D σ H) : PS X st t' := ⟨fun pins s σ H D I hw => h.run pins s σ H D I (i D σ H hw)⟩
theorem PSs_imp {X : Cx} {st : List Stmt} {t t' : TS} (h : PSs X st t) (i : ∀ D σ H, t' D σ H → t D σ H) : PSs X st t' := ⟨fun pins s σ H D I hw => h.run pins s σ H D I (i D σ H hw)⟩

/-! ### a list is locked -/
theorem Inv_lock {X : Cx} {pins : List (Addr × Obj)} {σ : St} {H : Hp} {s : Shared} {a : Addr} {xs : List V} (I : Inv X pins σ H s) (h : H a = some (.lst xs)) :
    ∃ o, Inv X pins σ (upd H a (.frz o (.lst xs))) s := by
  obtain ⟨z, its, n, r, ho⟩ := I.hok a _ h
  refine ⟨{ cls := .type "list", data := .seq its.toArray n }, ?_⟩
  have hn : ∀ b, H b = none → b ≠ a := fun b e q => by
    rw [q, h] at e
    cases e
  have hk : ∀ b u, H b = some u → (∀ ys, u ≠ .lst ys) → b ≠ a := fun b u e q z => by
    rw [z, h] at e
    exact q xs (Option.some.inj e).symm
  have ok : HOk X.prog X.w (upd H a (.frz { cls := .type "list", data := .seq its.toArray n } (.lst xs))) s.heap := fun b u e => by
    by_cases hb : b = a
    · subst hb
      rw [upd_same] at e
      cases e
      exact ⟨ho, z, its, n, r, ho⟩
    · rw [upd_ne hb] at e
      exact (I.hok b u e).stay (fun _ _ _ q => q) (fun c q => by rw [upd_ne (hk c _ q fun ys w => by cases w)]; exact q) fun c ys q => by rw [upd_ne (hk c _ q fun ys w => by cases w)]; exact q
  have un : Un X.fs [] H (upd H a (.frz { cls := .type "list", data := .seq its.toArray n } (.lst xs))) s.heap s.heap := by
    refine ⟨fun b o e _ _ _ => e, fun b o e _ _ _ => ⟨o.slots, e⟩, fun b o _ n _ => by rw [upd_ne (hn b n)]; exact n, fun b o e _ => ⟨o, e⟩, fun b ys q => ?_, fun b o u q => ?_, fun b ps q => ⟨#[], ?_⟩⟩
    · rw [upd_ne (hk b _ q fun ys w => by cases w)]; exact q
    · rw [upd_ne (hk b _ q fun ys w => by cases w)]; exact q
    · rw [upd_ne (hk b _ q fun ys w => by cases w), q]; simp
  exact I.un (h' := s.heap) (t' := s.toks) un ok

/-! ### the reading of a function -/
section
variable (K : PySem.W.Frag) (mg : Str → Option Value)
def RepE (e : Ek) (cls : Value) (d : Option Addr) (H : Hp) : Prop := ∃ C, mg e.cls = some (.ref C) ∧ cls = .ref C ∧
  match e.lim with
  | none => d = none
  | some l => ∃ a, d = some a ∧ H a = some (.xd [("limit", .int l)])
/-- a passing value: a list of one's own is new -/
def RepR (H H' : Hp) (r : Sv) (v : V) : Prop := match r with
  | .un => False
  | .val d => Rep K mg H' d v
  | r => ∃ a, v = .ref a ∧ H a = none ∧ RSv K mg H' (some (some (.ref a))) r
/-- an expression has run -/
structure Go (F : Fx) (σ : St) (S : Sl) (H : Hp) (S' : Sl) (H' : Hp) : Prop where
  rst : RSt K mg F σ H' S'
  keep : Keep σ S H H'
  sub : sub σ S' S
  dm : ∀ a, H a ≠ none → H' a ≠ none
def tOf (F : Fx) (E : XK) (m : M Sv) : TE := fun σ H Q => ∃ S, RSt K mg F σ H S ∧ match m S with
  | .ok r S' => ∀ v H', Go K mg F σ S H S' H' → RepR K mg H H' r v → Q v H'
  | .ex e S' => ∀ cls d H', RSt K mg F σ H' S' → RepE mg e cls d H' → E cls d H'
  | .no => False
def tOfB (F : Fx) (E : XK) (m : M Bool) : TT := fun σ H Q => ∃ S, RSt K mg F σ H S ∧ match m S with
  | .ok b S' => ∀ H', Go K mg F σ S H S' H' → Q b H'
  | .ex e S' => ∀ cls d H', RSt K mg F σ H' S' → RepE mg e cls d H' → E cls d H'
  | .no => False
/-- values that are kept -/
def tOfL (F : Fx) (E : XK) (m : M (List D)) : TA := fun σ H Q => ∃ S, RSt K mg F σ H S ∧ match m S with
  | .ok ds S' => ∀ vs H', Go K mg F σ S H S' H' → RepL K mg H' ds vs → Q vs H'
  | .ex e S' => ∀ cls d H', RSt K mg F σ H' S' → RepE mg e cls d H' → E cls d H'
  | .no => False
/-- a returned value: a list of one's own was made by the def -/
def RepT (F : Fx) (H' : Hp) (r : Sv) (v : V) : Prop := match r with
  | .un => False
  | .val d => Rep K mg H' d v
  | r => ∃ a, v = .ref a ∧ F.H0 a = none ∧ RSv K mg H' (some (some (.ref a))) r
def tOfS (F : Fx) (E : XK) (m : M Fl) : TS := fun C σ H => ∃ S, RSt K mg F σ H S ∧ match m S with
  | .ok .nx S' => ∀ σ' H', RSt K mg F σ' H' S' → Mono H H' → C.nx σ' H'
  | .ok (.rt r) S' => ∀ σ' v H', RSt K mg F σ' H' S' → RepT K mg F H' r v → C.rt v H'
  | .ok .bk S' => ∀ σ' H', RSt K mg F σ' H' S' → Mono H H' → C.bk σ' H'
  | .ok .ct S' => ∀ σ' H', RSt K mg F σ' H' S' → Mono H H' → C.ct σ' H'
  | .ex e S' => ∀ cls d σ' H', RSt K mg F σ' H' S' → RepE mg e cls d H' → E cls d H'
  | .no => False
end

section
variable {K : PySem.W.Frag} {mg : Str → Option Value} {F : Fx} {E : XK} {σ : St} {S S1 S2 : Sl} {H H1 H2 : Hp}
theorem Go.refl (r : RSt K mg F σ H S) : Go K mg F σ S H S H := ⟨r, Keep.refl _ _ _, sub.refl _ _, fun _ n => n⟩
theorem Go.trans (a : Go K mg F σ S H S1 H1) (b : Go K mg F σ S1 H1 S2 H2) : Go K mg F σ S H S2 H2 :=
  ⟨b.rst, a.keep.trans b.keep a.sub, a.sub.trans b.sub, fun c n => b.dm c (a.dm c n)⟩
theorem Go.mono (g : Go K mg F σ S H S1 H1) (r : RSt K mg F σ H S) : Mono H H1 := r.keep_mono g.keep
theorem Go.of_same (r : RSt K mg F σ H S) (s : Same H H1) : Go K mg F σ S H S H1 := ⟨r.grow s, Keep.of_same s, sub.refl _ _, fun a n => by
  cases h : H a with
  | none => exact absurd h n
  | some u => rw [s a u h]; exact fun z => by cases z⟩
theorem RepR.cast {H0 : Hp} {r : Sv} {v : V} (dm : ∀ a, H0 a ≠ none → H a ≠ none) (h : RepR K mg H H1 r v) : RepR K mg H0 H1 r v := by
  have key : ∀ a, H a = none → H0 a = none := fun a n => by
    cases q : H0 a with
    | none => rfl
    | some u => exact absurd n (dm a (by rw [q]; exact fun z => by cases z))
  cases r with
  | un => exact h
  | val d => exact h
  | ow ds => obtain ⟨a, e, n, x⟩ := h; exact ⟨a, e, key a n, x⟩
  | dki ds => obtain ⟨a, e, n, x⟩ := h; exact ⟨a, e, key a n, x⟩
  | dkt ds => obtain ⟨a, e, n, x⟩ := h; exact ⟨a, e, key a n, x⟩
end

/-- a value as an operation reads it: a list of one's own, too -/
def RepW (K : PySem.W.Frag) (mg : Str → Option Value) (H : Hp) (d : D) (v : V) : Prop := Rep K mg H d v ∨ ∃ ds a xs, d = .list ds ∧ v = .ref a ∧ H a = some (.lst xs) ∧ RepL K mg H ds xs
section
variable {K : PySem.W.Frag} {mg : Str → Option Value} {F : Fx} {E : XK} {σ : St} {S S1 S2 : Sl} {H H1 H2 : Hp}
theorem RepW.of {d : D} {v : V} (h : Rep K mg H d v) : RepW K mg H d v := .inl h
theorem RepW.int {i : Int} {v : V} (h : RepW K mg H (.int i) v) : v = .int i := by
  rcases h with h | ⟨_, _, _, e, _⟩
  · exact h
  · cases e
theorem RepW.bool {i : Bool} {v : V} (h : RepW K mg H (.bool i) v) : v = .bl i := by
  rcases h with h | ⟨_, _, _, e, _⟩
  · exact h
  · cases e
theorem RepW.str {i : Str} {v : V} (h : RepW K mg H (.str i) v) : v = .str i := by
  rcases h with h | ⟨_, _, _, e, _⟩
  · exact h
  · cases e
theorem RepW.none {v : V} (h : RepW K mg H .none v) : v = .non := by
  rcases h with h | ⟨_, _, _, e, _⟩
  · exact h
  · cases e
theorem RepW.tuple {ds : List D} {v : V} (h : RepW K mg H (.tuple ds) v) : ∃ a xs, v = .ref a ∧ SqT K H a xs ∧ RepL K mg H ds xs := by
  rcases h with h | ⟨_, _, _, e, _⟩
  · exact h
  · cases e
theorem RepW.list {ds : List D} {v : V} (h : RepW K mg H (.list ds) v) : ∃ a xs, v = .ref a ∧ LsX K H a xs ∧ RepL K mg H ds xs := by
  rcases h with ⟨a, xs, e, q, r⟩ | ⟨_, a, xs, e, ev, q, r⟩
  · exact ⟨a, xs, e, .inr q, r⟩
  · cases e
    exact ⟨a, xs, ev, .inl q, r⟩
/-- what an operation reads of a passing value -/
theorem RepR.toW {r : Sv} {v : V} {d : D} (h : RepR K mg H H1 r v) (e : toD r = some d) : RepW K mg H1 d v := by
  cases r with
  | un => cases e
  | val c => cases e; exact .inl h
  | ow ds =>
    cases e
    obtain ⟨a, ev, _, b, xs, e1, e2, e3⟩ := h
    cases e1
    exact .inr ⟨ds, a, xs, rfl, ev, e2, e3⟩
  | dki _ => cases e
  | dkt _ => cases e
/-- .. behind a further expression -/
theorem RepR.stay {r : Sv} {v : V} (st : RSt K mg F σ H S) (g : Go K mg F σ S H S1 H1) (h : RepR K mg H H1 r v) (g2 : Go K mg F σ S1 H1 S2 H2) : RepR K mg H H2 r v := by
  have m : Mono H1 H2 := g2.mono g.rst
  have nw : ∀ a, H a = none → ∀ o, H1 a = some o → nT o → H2 a = some o := fun a n o e t => g2.keep.kp a o e t fun z => st.fresh_not n (g.sub a z)
  cases r with
  | un => exact h
  | val d => exact Rep.mono m d h
  | ow ds =>
    obtain ⟨a, ev, n, b, xs, e1, e2, e3⟩ := h
    cases e1
    exact ⟨a, ev, n, a, xs, rfl, nw a n _ e2 nT.lst, RepL.mono m ds e3⟩
  | dki ds =>
    obtain ⟨a, ev, n, b, xs, e1, e2, e4, e3⟩ := h
    cases e1
    exact ⟨a, ev, n, a, xs, rfl, nw a n _ e2 nT.dK, e4, RepL.mono m _ e3⟩
  | dkt ds =>
    obtain ⟨a, ev, n, b, xs, e1, e2, e4, e3⟩ := h
    cases e1
    exact ⟨a, ev, n, a, xs, rfl, nw a n _ e2 nT.dT, e4, RepL.mono m _ e3⟩
theorem RSt.rd {i : Nat} {d : D} (st : RSt K mg F σ H S) (e : rd S i = some d) : ∃ v, σ[i]? = some (some v) ∧ RepW K mg H d v := by
  unfold Rc.rd at e
  cases q : S[i]? with
  | none => rw [q] at e; cases e
  | some s =>
    rw [q] at e
    have z := st.at_ i s q
    cases s with
    | un => cases e
    | val c =>
      cases e
      obtain ⟨v, h1, h2⟩ := z
      exact ⟨v, h1, .inl h2⟩
    | ow ds =>
      cases e
      obtain ⟨a, xs, h1, h2, h3⟩ := z
      exact ⟨.ref a, h1, .inr ⟨ds, a, xs, rfl, rfl, h2, h3⟩⟩
    | dki _ => cases e
    | dkt _ => cases e
end

/-! ### judgements -/
abbrev AE (X : Cx) (F : Fx) (E : XK) (e : Expr) (m : M Sv) : Prop := PE X e (tOf X.K X.mg F E m)
abbrev AT (X : Cx) (F : Fx) (E : XK) (e : Expr) (m : M Bool) : Prop := PT X e (tOfB X.K X.mg F E m)
abbrev AL (X : Cx) (F : Fx) (E : XK) (es : List Expr) (m : M (List D)) : Prop := PA X es (tOfL X.K X.mg F E m)
abbrev AS (X : Cx) (F : Fx) (E : XK) (st : Stmt) (m : M Fl) : Prop := PS X st (tOfS X.K X.mg F E m)
abbrev ASs (X : Cx) (F : Fx) (E : XK) (st : List Stmt) (m : M Fl) : Prop := PSs X st (tOfS X.K X.mg F E m)
/-- an operand: an expression, or a name that is only read -/
def tOd (K : PySem.W.Frag) (mg : Str → Option Value) (F : Fx) (E : XK) : Od → TE
  | .e m => tOf K mg F E m
  | .v i => tVar i
abbrev AO (X : Cx) (F : Fx) (E : XK) (e : Expr) (o : Od) : Prop := PE X e (tOd X.K X.mg F E o)

section
variable {X : Cx} {F : Fx} {E : XK} {pos : Pos}
theorem a_lit {e : Expr} {d : D} {v : V} (h : PE X e (tC v)) (r : ∀ H, Rep X.K X.mg H d v) : AE X F E e (eLit d) :=
  PE_imp h fun σ H Q ⟨S, st, q⟩ => q v H (Go.refl st) (r H)
theorem a_int {i : Int} {j} : AE X F E (.Constant (.int i) j pos) (eLit (.int i)) := a_lit pe_int fun _ => rfl
theorem a_bl {b : Bool} {j} : AE X F E (.Constant (.bool b) j pos) (eLit (.bool b)) := a_lit pe_bl fun _ => rfl
theorem a_non {j} : AE X F E (.Constant .none j pos) (eLit .none) := a_lit pe_non fun _ => rfl
theorem a_str {x : Str} {j} : AE X F E (.Constant (.str x) j pos) (eLit (.str x)) := a_lit pe_str fun _ => rfl
theorem ao_v {i : Nat} {x : Str} (hN : X.N[i]? = some x) (hv : Vis X.env.scope x) (hd : (x == ("__debug__" : Str)) = false := by decide) (hcd : (x == ("__classdict__" : Str)) = false := by decide) : AO X F E (.Name x pos) (.v i) :=
  pe_var hN hv hd hcd
theorem ao_e {e : Expr} {m : M Sv} (h : AE X F E e m) : AO X F E e (.e m) := h

theorem RSt.lock {K : PySem.W.Frag} {mg : Str → Option Value} {σ : St} {H : Hp} {S : Sl} {i : Nat} {ds : List D} {a : Addr} {xs : List V} {o : Obj} (st : RSt K mg F σ H S) (e : S[i]? = some (.ow ds)) (ea : σ[i]? = some (some (.ref a))) (eH : H a = some (.lst xs)) (rp : RepL K mg H ds xs) :
    Go K mg F σ S H (S.set i (.val (.list ds))) (upd H a (.frz o (.lst xs))) ∧ Rep K mg (upd H a (.frz o (.lst xs))) (.list ds) (.ref a) := by
  have ow : Owns σ S a := ⟨i, _, e, rfl, ea⟩
  have hi : i < S.length := (List.getElem?_eq_some_iff.mp e).1
  have tb : TbM H (upd H a (.frz o (.lst xs))) := TbM.upd eH nT.lst lst_ne
  have keep : Keep σ S H (upd H a (.frz o (.lst xs))) := ⟨fun b u h _ n => by
    rw [upd_ne (show b ≠ a from fun z => n (z ▸ ow))]
    exact h, tb⟩
  have mo : Mono H (upd H a (.frz o (.lst xs))) := st.keep_mono keep
  have rp' : Rep K mg (upd H a (.frz o (.lst xs))) (.list ds) (.ref a) := ⟨a, xs, rfl, .inl ⟨o, upd_same⟩, RepL.mono mo ds rp⟩
  have dm : ∀ b, H b ≠ none → upd H a (.frz o (.lst xs)) b ≠ none := fun b n => by
    by_cases hb : b = a
    · rw [hb, upd_same]; exact fun z => by cases z
    · rw [upd_ne hb]; exact n
  have at2 : ∀ (j : Nat) s, (S.set i (.val (.list ds)))[j]? = some s → (j = i ∧ s = .val (.list ds)) ∨ (j ≠ i ∧ S[j]? = some s) := fun j s q => by
    by_cases hj : j = i
    · rw [hj, List.getElem?_set_self hi] at q
      exact .inl ⟨hj, (Option.some.inj q).symm⟩
    · rw [List.getElem?_set_ne (Ne.symm hj)] at q
      exact .inr ⟨hj, q⟩
  refine ⟨⟨⟨by rw [List.length_set]; exact st.len, fun j s q => ?_, fun j k s t b q1 q2 m1 m2 e1 e2 => ?_, fun j s b q m e1 => ?_, fun j b q => ?_, fun b u q t n => ?_, fun b n => dm b (st.dom b n), st.mono.trans mo, st.tabs.trans tb⟩, keep, fun b ⟨j, s, q, m, e1⟩ => ?_, dm⟩, rp'⟩
  · rcases at2 j s q with ⟨rfl, rfl⟩ | ⟨hj, q⟩
    · exact ⟨.ref a, ea, rp'⟩
    · refine (st.at_ j s q).mono mo fun b m e1 => ?_
      rw [upd_ne]
      rintro rfl
      exact hj (st.inj j i s _ _ q e m rfl e1 ea)
  · rcases at2 j s q1 with ⟨rfl, rfl⟩ | ⟨_, q1⟩
    · cases m1
    · rcases at2 k t q2 with ⟨rfl, rfl⟩ | ⟨_, q2⟩
      · cases m2
      · exact st.inj j k s t b q1 q2 m1 m2 e1 e2
  · rcases at2 j s q with ⟨rfl, rfl⟩ | ⟨_, q⟩
    · cases m
    · exact st.ownd j s b q m e1
  · obtain ⟨h1, h2, es, h3⟩ := st.lent j b q
    refine ⟨h1, h2, ?_⟩
    by_cases hj : j = i
    · exact ⟨ds, .inr (by rw [hj, List.getElem?_set_self hi])⟩
    · exact ⟨es, by rw [List.getElem?_set_ne (Ne.symm hj)]; exact h3⟩
  · by_cases hb : b = a
    · subst hb
      rcases st.ownd i _ b e rfl ea with z | z
      · exact absurd z (n i)
      · rw [z] at q; cases q
    · rw [upd_ne hb]; exact st.frame b u q t n
  · rcases at2 j s q with ⟨rfl, rfl⟩ | ⟨_, q⟩
    · cases m
    · exact ⟨j, s, q, m, e1⟩

/-- a name whose value is kept -/
theorem a_v {i : Nat} {x : Str} (hN : X.N[i]? = some x) (hv : Vis X.env.scope x) (hd : (x == ("__debug__" : Str)) = false := by decide) (hcd : (x == ("__classdict__" : Str)) = false := by decide) : AE X F E (.Name x pos) (eV i) := by
  refine ⟨fun pins s σ H Q I ⟨S, st, q⟩ => ?_⟩
  have base := fun Q' h => (pe_var (X := X) (pos := pos) hN hv hd hcd).run pins s σ H Q' I h
  unfold eV at q
  cases e : S[i]? with
  | none => rw [e] at q; exact q.elim
  | some z =>
    rw [e] at q
    have r := st.at_ i z e
    cases z with
    | un => exact q.elim
    | dki _ => exact q.elim
    | dkt _ => exact q.elim
    | val d =>
      obtain ⟨v, ev, rv⟩ := r
      exact base Q ⟨v, ev, q v H (Go.refl st) rv⟩
    | ow ds =>
      obtain ⟨a, xs, ev, eH, rl⟩ := r
      refine thn (base (fun v H' => v = .ref a ∧ H' = H) ⟨.ref a, ev, rfl, rfl⟩) fun u s1 ⟨v, H', I1, rv, e1, e2⟩ => ?_
      subst e1 e2
      obtain ⟨o, I2⟩ := Inv_lock I1 eH
      obtain ⟨g, rp⟩ := st.lock (o := o) e ev eH rl
      exact ⟨.ref a, _, I2, rv, q _ _ g rp⟩

/-! ### a passing list is locked where it is kept -/
def eFz (m : M Sv) : M Sv := fun S => (m S).bind fun r S1 => match toD r with
  | some d => .ok (.val d) S1
  | none => .no
theorem eFz_datum (m : M Sv) (S : Sl) : eFz m S = (datum m S).bind fun d S1 => .ok (.val d) S1 := by
  unfold eFz datum
  cases m S with
  | no => rfl
  | ex k S1 => rfl
  | ok r S1 => cases r <;> rfl
theorem upd_lock_go {K : PySem.W.Frag} {mg : Str → Option Value} {σ : St} {H H1 : Hp} {S S1 : Sl} {a : Addr} {xs : List V} {o : Obj} (st : RSt K mg F σ H S) (g : Go K mg F σ S H S1 H1) (n : H a = none) (eH : H1 a = some (.lst xs)) :
    Go K mg F σ S H S1 (upd H1 a (.frz o (.lst xs))) := by
  have no : ¬ Owns σ S1 a := fun z => st.fresh_not n (g.sub a z)
  have mo : Mono H1 (upd H1 a (.frz o (.lst xs))) := by
    refine ⟨fun b ys h => ?_, fun b u w h => ?_, fun b φ h => ?_⟩ <;>
      (rw [upd_ne]; exact h; rintro rfl; rw [eH] at h; cases h)
  have dm1 : ∀ b, H1 b ≠ none → upd H1 a (.frz o (.lst xs)) b ≠ none := fun b h => by
    by_cases hb : b = a
    · rw [hb, upd_same]; exact fun z => by cases z
    · rw [upd_ne hb]; exact h
  have n0 : F.H0 a = none := by
    cases q : F.H0 a with
    | none => rfl
    | some u => exact absurd n (st.dom a (by rw [q]; exact fun z => by cases z))
  have r1 := g.rst
  have tb : TbM H1 (upd H1 a (.frz o (.lst xs))) := TbM.upd eH nT.lst lst_ne
  refine ⟨⟨r1.len, fun j s q => ?_, r1.inj, r1.ownd, r1.lent, fun b u q t m => ?_, fun b h => dm1 b (r1.dom b h), r1.mono.trans mo, r1.tabs.trans tb⟩, ⟨fun b u h t m => ?_, g.keep.tb.trans tb⟩, g.sub, fun b h => dm1 b (g.dm b h)⟩
  · refine (r1.at_ j s q).mono mo fun b m e1 => ?_
    rw [upd_ne]
    rintro rfl
    exact no ⟨j, s, q, m, e1⟩
  · rw [upd_ne]
    · exact r1.frame b u q t m
    · rintro rfl
      rw [n0] at q; cases q
  · rw [upd_ne]
    · exact g.keep.kp b u h t m
    · rintro rfl
      rw [n] at h; cases h
theorem a_fz {e : Expr} {m : M Sv} (h : AE X F E e m) : AE X F E e (eFz m) := by
  refine ⟨fun pins s σ H Q I ⟨S, st, q⟩ => ?_⟩
  unfold eFz at q
  cases em : m S with
  | no => rw [em] at q; exact q.elim
  | ex k S1 =>
    rw [em] at q
    exact h.run pins s σ H Q I ⟨S, st, by rw [em]; exact q⟩
  | ok r S1 =>
    rw [em] at q
    cases r with
    | un => exact q.elim
    | dki _ => exact q.elim
    | dkt _ => exact q.elim
    | val d => exact h.run pins s σ H Q I ⟨S, st, by rw [em]; exact q⟩
    | ow ds =>
      refine thn (h.run pins s σ H (fun v H' => Go X.K X.mg F σ S H S1 H' ∧ RepR X.K X.mg H H' (.ow ds) v) I ⟨S, st, by rw [em]; exact fun v H' g r => ⟨g, r⟩⟩) fun u s1 ⟨v, H', I1, rv, g, rr⟩ => ?_
      obtain ⟨a, rfl, n, b, xs, e1, eH, rl⟩ := rr
      cases e1
      obtain ⟨o, I2⟩ := Inv_lock I1 eH
      have g2 := upd_lock_go (o := o) st g n eH
      have mo : Mono H' (upd H' a (.frz o (.lst xs))) := by
        refine ⟨fun b ys h => ?_, fun b u w h => ?_, fun b φ h => ?_⟩ <;>
          (rw [upd_ne]; exact h; rintro rfl; rw [eH] at h; cases h)
      exact ⟨.ref a, _, I2, rv, q _ _ g2 ⟨a, xs, rfl, .inl ⟨o, upd_same⟩, RepL.mono mo ds rl⟩⟩
end
end Rc

/-! Rc: operators and built-in functions. -/
namespace Rc
open PySem PySem.Spec PyProof.Rows L2
variable [LamTbl]

section
variable (K : PySem.W.Frag) (mg : Str → Option Value)
def Op1 (f : D → Option Sv) (r : V → Hp → VK → Prop) : Prop := ∀ (H : Hp) (x : V) (d : D) (res : Sv) (Q : VK), f d = some res → RepW K mg H d x → (∀ v H', Same H H' → RepR K mg H H' res v → Q v H') → r x H Q
def Op2 (f : D → D → Option Sv) (r : R2) : Prop := ∀ (H : Hp) (x y : V) (d e : D) (res : Sv) (Q : VK), f d e = some res → RepW K mg H d x → RepW K mg H e y → (∀ v H', Same H H' → RepR K mg H H' res v → Q v H') → r x y H Q
end

section
variable {K : PySem.W.Frag} {mg : Str → Option Value} {F : Fx} {E : XK}
theorem Go.dmT {σ : St} {S S1 : Sl} {H H1 : Hp} (g : Go K mg F σ S H S1 H1) : ∀ a, H a ≠ none → H1 a ≠ none := g.dm
theorem imp1 {f : D → Option Sv} {r : V → Hp → VK → Prop} (h : Op1 K mg f r) (o : Od) : ∀ σ H Q, tOf K mg F E (eOp1 f o) σ H Q → tOd K mg F E o σ H fun x H1 => r x H1 Q := by
  intro σ H Q ⟨S, st, q⟩
  cases o with
  | e m =>
    refine ⟨S, st, ?_⟩
    have q : match (m S).bind fun r S1 => lift (b1 f (toD r)) S1 with
      | .ok r S' => ∀ v H', Go K mg F σ S H S' H' → RepR K mg H H' r v → Q v H'
      | .ex e S' => ∀ cls d H', RSt K mg F σ H' S' → RepE mg e cls d H' → E cls d H'
      | .no => False := q
    cases em : m S with
    | no => rw [em] at q; exact q.elim
    | ex k S1 => rw [em] at q; exact q
    | ok z S1 =>
      rw [em] at q
      intro v1 H1 g1 r1
      cases ed : toD z with
      | none => simp [Res.bind, ed, b1, lift] at q
      | some d =>
        cases ef : f d with
        | none => simp [Res.bind, ed, b1, lift, ef] at q
        | some res =>
          simp only [Res.bind, ed, b1, lift, ef, Option.bind_some] at q
          exact h H1 v1 d res Q ef (r1.toW ed) fun v H' sm rr => q v H' (g1.trans (Go.of_same g1.rst sm)) (rr.cast g1.dm)
  | v i =>
    have q : match lift (b1 f (rd S i)) S with
      | .ok r S' => ∀ v H', Go K mg F σ S H S' H' → RepR K mg H H' r v → Q v H'
      | .ex e S' => ∀ cls d H', RSt K mg F σ H' S' → RepE mg e cls d H' → E cls d H'
      | .no => False := q
    cases ed : rd S i with
    | none => simp [ed, b1, lift] at q
    | some d =>
      cases ef : f d with
      | none => simp [ed, b1, lift, ef] at q
      | some res =>
        simp only [ed, b1, lift, ef, Option.bind_some] at q
        obtain ⟨v, ev, rw'⟩ := RSt.rd st ed
        exact ⟨v, ev, h H v d res Q ef rw' fun v H' sm rr => q v H' (Go.of_same st sm) rr⟩
theorem imp2 {f : D → D → Option Sv} {r : R2} (h : Op2 K mg f r) (o o' : Od) : ∀ σ H Q, tOf K mg F E (eOp2 f o o') σ H Q → tOp r (tOd K mg F E o) (tOd K mg F E o') σ H Q := by
  intro σ H Q ⟨S, st, q⟩
  have fin : ∀ {S2 : Sl} {H2 : Hp} {a b : Option D} {x y : V}, Go K mg F σ S H S2 H2 →
      (match lift (b2 f a b) S2 with
        | .ok r S' => ∀ v H', Go K mg F σ S H S' H' → RepR K mg H H' r v → Q v H'
        | .ex e S' => ∀ cls d H', RSt K mg F σ H' S' → RepE mg e cls d H' → E cls d H'
        | .no => False) → (∀ d, a = some d → RepW K mg H2 d x) → (∀ d, b = some d → RepW K mg H2 d y) → r x y H2 Q := by
    intro S2 H2 a b x y g q ha hb
    cases a with
    | none => simp [b2, lift] at q
    | some d =>
      cases b with
      | none => simp [b2, lift] at q
      | some e =>
        cases ef : f d e with
        | none => simp [b2, lift, ef] at q
        | some res =>
          simp only [b2, lift, ef, Option.bind_some] at q
          exact h H2 x y d e res Q ef (ha d rfl) (hb e rfl) fun v H' sm rr => q v H' (g.trans (Go.of_same g.rst sm)) (rr.cast g.dm)
  cases o with
  | e m =>
    refine ⟨S, st, ?_⟩
    cases o' with
    | e n =>
      have q : match (m S).bind fun x S1 => (n S1).bind fun y S2 => lift (b2 f (toD x) (toD y)) S2 with
        | .ok r S' => ∀ v H', Go K mg F σ S H S' H' → RepR K mg H H' r v → Q v H'
        | .ex e S' => ∀ cls d H', RSt K mg F σ H' S' → RepE mg e cls d H' → E cls d H'
        | .no => False := q
      cases em : m S with
      | no => rw [em] at q; exact q.elim
      | ex k S1 => rw [em] at q; exact q
      | ok z S1 =>
        rw [em] at q
        intro v1 H1 g1 r1
        refine ⟨S1, g1.rst, ?_⟩
        have q : match (n S1).bind fun y S2 => lift (b2 f (toD z) (toD y)) S2 with
          | .ok r S' => ∀ v H', Go K mg F σ S H S' H' → RepR K mg H H' r v → Q v H'
          | .ex e S' => ∀ cls d H', RSt K mg F σ H' S' → RepE mg e cls d H' → E cls d H'
          | .no => False := q
        cases en : n S1 with
        | no => rw [en] at q; exact q.elim
        | ex k S2 => rw [en] at q; exact q
        | ok w S2 =>
          rw [en] at q
          intro v2 H2 g2 r2
          exact fin (g1.trans g2) q (fun d e => (r1.stay st g1 g2).toW e) fun d e => r2.toW e
    | v j =>
      have q : match (m S).bind fun x S1 => lift (b2 f (toD x) (rd S1 j)) S1 with
        | .ok r S' => ∀ v H', Go K mg F σ S H S' H' → RepR K mg H H' r v → Q v H'
        | .ex e S' => ∀ cls d H', RSt K mg F σ H' S' → RepE mg e cls d H' → E cls d H'
        | .no => False := q
      cases em : m S with
      | no => rw [em] at q; exact q.elim
      | ex k S1 => rw [em] at q; exact q
      | ok z S1 =>
        rw [em] at q
        intro v1 H1 g1 r1
        cases ed : rd S1 j with
        | none =>
          have q : (match lift (b2 f (toD z) (rd S1 j)) S1 with
            | .ok r S' => ∀ v H', Go K mg F σ S H S' H' → RepR K mg H H' r v → Q v H'
            | .ex e S' => ∀ cls d H', RSt K mg F σ H' S' → RepE mg e cls d H' → E cls d H'
            | .no => False) := q
          rw [ed] at q
          cases toD z <;> simp [b2, lift] at q
        | some d =>
          obtain ⟨v, ev, rw'⟩ := RSt.rd g1.rst ed
          refine ⟨v, ev, fin g1 q (fun d e => r1.toW e) fun d' e => ?_⟩
          rw [ed] at e
          cases e
          exact rw'
  | v i =>
    cases o' with
    | e n =>
      have q : match (if (rd S i).isSome then (n S).bind fun y S1 => lift (b2 f (rd S1 i) (toD y)) S1 else .no) with
        | .ok r S' => ∀ v H', Go K mg F σ S H S' H' → RepR K mg H H' r v → Q v H'
        | .ex e S' => ∀ cls d H', RSt K mg F σ H' S' → RepE mg e cls d H' → E cls d H'
        | .no => False := q
      cases e0 : rd S i with
      | none => rw [e0] at q; exact q.elim
      | some d0 =>
        rw [e0] at q
        obtain ⟨v, ev, _⟩ := RSt.rd st e0
        refine ⟨v, ev, S, st, ?_⟩
        have q : match (n S).bind fun y S1 => lift (b2 f (rd S1 i) (toD y)) S1 with
          | .ok r S' => ∀ v H', Go K mg F σ S H S' H' → RepR K mg H H' r v → Q v H'
          | .ex e S' => ∀ cls d H', RSt K mg F σ H' S' → RepE mg e cls d H' → E cls d H'
          | .no => False := q
        cases en : n S with
        | no => rw [en] at q; exact q.elim
        | ex k S1 => rw [en] at q; exact q
        | ok w S1 =>
          rw [en] at q
          intro v2 H2 g2 r2
          refine fin g2 q (fun d e => ?_) fun d e => r2.toW e
          obtain ⟨v', ev', rw'⟩ := RSt.rd g2.rst e
          rw [ev] at ev'
          cases ev'
          exact rw'
    | v j =>
      have q : match lift (b2 f (rd S i) (rd S j)) S with
        | .ok r S' => ∀ v H', Go K mg F σ S H S' H' → RepR K mg H H' r v → Q v H'
        | .ex e S' => ∀ cls d H', RSt K mg F σ H' S' → RepE mg e cls d H' → E cls d H'
        | .no => False := q
      cases e1 : rd S i with
      | none => simp [e1, b2, lift] at q
      | some d1 =>
        cases e2 : rd S j with
        | none => simp [e1, e2, b2, lift] at q
        | some d2 =>
          obtain ⟨v1, ev1, rw1⟩ := RSt.rd st e1
          obtain ⟨v2, ev2, rw2⟩ := RSt.rd st e2
          refine ⟨v1, ev1, v2, ev2, ?_⟩
          rw [e1, e2] at q
          exact fin (Go.refl st) q (fun d e => by cases e; exact rw1) fun d e => by cases e; exact rw2
end
end Rc

/-! Rc: each operator and built-in function, by its rule. -/
namespace Rc
open PySem PySem.Spec PyProof.Rows L2
variable [LamTbl]

theorem same_upd {H : Hp} {p : Addr} {o : HO} (h : H p = none) : Same H (upd H p o) := fun b x e => by
  rw [upd_ne (ne_of_none e h)]
  exact e
theorem asInts_eq : ∀ {ds : List D} {ns : List Int}, asInts ds = some ns → ds = ns.map PyData.int
  | [], ns, e => by cases e; rfl
  | d :: ds, ns, e => by
    cases d with
    | int i =>
      cases q : asInts ds with
      | none => simp [asInts, q] at e
      | some ms =>
        simp [asInts, q] at e
        subst e
        rw [asInts_eq q]
        rfl
    | _ => simp [asInts] at e
theorem asBools_eq : ∀ {ds : List D} {ns : List Bool}, asBools ds = some ns → ds = ns.map PyData.bool
  | [], ns, e => by cases e; rfl
  | d :: ds, ns, e => by
    cases d with
    | bool i =>
      cases q : asBools ds with
      | none => simp [asBools, q] at e
      | some ms =>
        simp [asBools, q] at e
        subst e
        rw [asBools_eq q]
        rfl
    | _ => simp [asBools] at e
section
variable {K : PySem.W.Frag} {mg : Str → Option Value} {H : Hp}
theorem RepL.ints : ∀ {ns : List Int} {xs : List V}, RepL K mg H (ns.map PyData.int) xs → xs = ns.map V.int
  | [], _, h => h
  | n :: ns, _, h => by
    obtain ⟨v, vs, e, r, rs⟩ := h
    rw [e, show v = _ from r, RepL.ints rs]
    rfl
theorem RepL.bools : ∀ {ns : List Bool} {xs : List V}, RepL K mg H (ns.map PyData.bool) xs → xs = ns.map V.bl
  | [], _, h => h
  | n :: ns, _, h => by
    obtain ⟨v, vs, e, r, rs⟩ := h
    rw [e, show v = _ from r, RepL.bools rs]
    rfl
mutual
theorem Rep.dp : ∀ (d : D) {v : V}, d.canLay0 = true → Rep K mg H d v → Dp K H v d
  | .none, _, _, h => by rw [show _ = _ from h]; exact .non
  | .bool b, _, _, h => by rw [show _ = _ from h]; exact .bl b
  | .int b, _, _, h => by rw [show _ = _ from h]; exact .int b
  | .str b, _, _, h => by rw [show _ = _ from h]; exact .str b
  | .tuple ds, _, c, h => by
    obtain ⟨a, xs, e, s, r⟩ := h
    rw [e]
    exact .tup s (RepL.dp ds (by simpa [PyData.canLay0] using c) r)
  | .list ds, _, c, h => by
    obtain ⟨a, xs, e, s, r⟩ := h
    rw [e]
    exact .lst s.sq (RepL.dp ds (by simpa [PyData.canLay0] using c) r)
  | .dict kvs, _, c, h => by simp [PyData.canLay0] at c
theorem RepL.dp : ∀ (ds : List D) {xs : List V}, PyData.canLayAll0 ds = true → RepL K mg H ds xs → DpAll K H xs ds
  | [], _, _, h => by rw [show _ = _ from h]; exact .nil
  | d :: ds, _, c, h => by
    obtain ⟨v, vs, e, r, rs⟩ := h
    rw [e]
    have c' : d.canLay0 = true ∧ PyData.canLayAll0 ds = true := by simpa [PyData.canLayAll0] using c
    exact .cons (Rep.dp d c'.1 r) (RepL.dp ds c'.2 rs)
end
theorem RepW.dp {d : D} {v : V} (c : SeqAt.shaped d = true) (h : RepW K mg H d v) : Dp K H v d := by
  have c0 := SeqAt.canLay_of_shaped c
  rcases h with h | ⟨ds, a, xs, rfl, rfl, q, r⟩
  · exact Rep.dp d c0 h
  · exact .lst (.inl (.inl q)) (RepL.dp ds (by simpa [PyData.canLay0] using c0) r)
end

/-! ### lists as they are read -/
def rCatX (K : PySem.W.Frag) : R2 := fun x y H Q => ∃ l b xs zs, x = .ref l ∧ y = .ref b ∧ LsX K H l xs ∧ LsX K H b zs ∧ xs.length + zs.length ≤ sizeLine ∧ ∀ p, H p = none → Q (.ref p) (upd H p (.lst (xs ++ zs)))
def rRepX (K : PySem.W.Frag) : R2 := fun x y H Q => ∃ l k xs, x = .ref l ∧ y = .int k ∧ LsX K H l xs ∧ -(2 ^ 63) ≤ k ∧ k < 2 ^ 63 ∧ xs.length * k.toNat ≤ sizeLine ∧ ∀ p, H p = none → Q (.ref p) (upd H p (.lst (List.replicate k.toNat xs).flatten))
section
variable {X : Cx}
theorem op_catX : OpR X (binaryOp .Add) (rCatX X.K) := by
  intro pins s σ H x y v u Q I rx ry h
  obtain ⟨l, b, xs, zs, rfl, rfl, hH, hB, hz, q⟩ := h
  cases rx
  cases ry
  obtain ⟨z, its, n, r, hl, e⟩ := LsX.at I hH
  obtain ⟨z2, its2, n2, r2, hl2, e2⟩ := LsX.at I hB
  refine PySem.P.add_list e e2 ?_ (by rw [List.size_toArray, List.size_toArray]; omega)
  have ea : its.toArray ++ its2.toArray = (its ++ its2).toArray := by simp
  rw [ea]
  exact ⟨.ref _, _, Inv.lnew (t' := s.toks) I (r.append r2) (by rw [List.length_append]; omega), rfl, q _ (Inv.fresh I)⟩
theorem op_repX : OpR X (binaryOp .Mult) (rRepX X.K) := by
  intro pins s σ H x y v u Q I rx ry h
  obtain ⟨l, k, xs, rfl, rfl, hH, h1, h2, hz, q⟩ := h
  cases rx
  obtain ⟨t, rfl⟩ := ry
  obtain ⟨z, its, n, r, hl, e⟩ := LsX.at I hH
  have hlen : its.toArray.size * k.toNat ≤ sizeLine := by rw [List.size_toArray, ← hl]; exact hz
  have hcap : ¬ its.toArray.size * k.toNat > (2 ^ 63 - 1) / 8 := by
    have : (sizeLine : Nat) ≤ (2 ^ 63 - 1) / 8 := by decide
    omega
  have hfit : ¬ (!Builtin.List.listFitsIndex k) = true := by
    rw [fitsIndex_both h1 h2]
    exact Bool.false_ne_true
  have hlong : ¬ Builtin.List.listTooLong (its.toArray.size * k.toNat) = true := by
    rw [notLongL hlen]
    exact Bool.false_ne_true
  have hnew : List.foldl (fun x1 x2 => x1 ++ x2) #[] (List.replicate (if its.toArray.isEmpty = true then 0 else k.toNat) its.toArray) = (List.replicate k.toNat its).flatten.toArray := by
    have f0 : ∀ m : Nat, List.foldl (fun x1 x2 => x1 ++ x2) #[] (List.replicate m its.toArray) = (List.replicate m its).flatten.toArray := fun m => by
      have := foldl_rep its m []
      rw [List.nil_append] at this
      exact this
    rw [f0]
    cases its with
    | nil => simp
    | cons a r' => rw [if_neg (by simp)]
  refine wpAny_binaryOp_repeat_ref (T := "list") (U := "int") (by decide) ⟨_, e, rfl⟩ (fun s' => typeIs_int s' k t) noFill_list_mul F.fills_int_mul F.slot_int_rmul repeat_list F.slot_int_index.lookup
    (call_meets F.slot_int_rmul (typeIs_int s k t) F.entry_int_rmul (F.args_int_rmul_2 _ _) (int___rmul___int_list k t l its.toArray n)
      ⟨e, rfl, ⟨_, e, rfl⟩, call_meets F.slot_list_mul ⟨_, e, rfl⟩ F.entry_list_mul (F.args_list_mul_2 _ _) (AutoListH.list___mul___list_int_3 l its.toArray n k t hfit hcap hlong) ⟨e, ?_⟩⟩)
  rw [hnew]
  exact ⟨.ref _, _, Inv.lnew (t' := s.toks) I (r.rep k.toNat) (by rw [PyProof.Rows.lm_len_rep_flat, Nat.mul_comm]; exact hz), rfl, q _ (Inv.fresh I)⟩
end

/-! ### the operators -/
def rOr (r r' : R2) : R2 := fun x y H Q => r x y H Q ∨ r' x y H Q
section
variable {K : PySem.W.Frag} {mg : Str → Option Value}
theorem small_le {n : Nat} (h : small n = true) : n ≤ sizeLine := by
  rw [sizeLine_eq]
  have := of_decide_eq_true h
  omega
/-- a truth value and an int -/
def rBI (g : Int → Int → Int) : R2 := fun x y H Q => ∃ b j, x = .bl b ∧ y = .int j ∧ Q (.int (g (if b = true then 1 else 0) j)) H
theorem op_add_bi {X : Cx} : OpR X (binaryOp .Add) (rBI fun i j => i + j) := by
  intro pins s σ H x y v u Q I rx ry ⟨b, j, ex, ey, q⟩
  subst ex ey
  cases rx
  obtain ⟨t, rfl⟩ := ry
  exact PySem.IntBool.add_bool_int ⟨.int _, H, I.tok _, ⟨_, rfl⟩, q⟩
theorem op_sub_bi {X : Cx} : OpR X (binaryOp .Sub) (rBI fun i j => i - j) := by
  intro pins s σ H x y v u Q I rx ry ⟨b, j, ex, ey, q⟩
  subst ex ey
  cases rx
  obtain ⟨t, rfl⟩ := ry
  exact PySem.IntBool.sub_bool_int ⟨.int _, H, I.tok _, ⟨_, rfl⟩, q⟩
def rAddA (K : PySem.W.Frag) : R2 := rOr (rI0 fun i j => .int (i + j)) (rOr (rCatA K) (rOr (rCatX K) (rOr (fun x y H Q => ∃ i j, x = .str i ∧ y = .str j ∧ i.length + j.length ≤ sizeLine ∧ Q (.str (i ++ j)) H) (rBI fun i j => i + j))))
theorem opr_add {X : Cx} : OpR X (binaryOp .Add) (rAddA X.K) := OpR.or op_add (OpR.or op_catA (OpR.or op_catX (OpR.or op_add_str op_add_bi)))
def rSubA : R2 := rOr (rI0 fun i j => .int (i - j)) (rBI fun i j => i - j)
theorem opr_sub {X : Cx} : OpR X (binaryOp .Sub) rSubA := OpR.or op_sub op_sub_bi
theorem op2_add : Op2 K mg dAdd (rAddA K) := by
  intro H x y d e res Q hf hx hy q
  match d, e, hf with
  | .bool b, .int j, hf =>
    cases hf
    exact .inr (.inr (.inr (.inr ⟨b, j, hx.bool, hy.int, q _ H (Same.refl H) rfl⟩)))
  | .int i, .int j, hf =>
    cases hf
    exact .inl ⟨i, j, hx.int, hy.int, q _ H (Same.refl H) rfl⟩
  | .str i, .str j, hf =>
    simp only [dAdd] at hf
    split at hf
    · rename_i hs
      cases hf
      exact .inr (.inr (.inr (.inl ⟨i, j, hx.str, hy.str, small_le hs, q _ H (Same.refl H) rfl⟩)))
    · cases hf
  | .tuple xs, .tuple ys, hf =>
    simp only [dAdd] at hf
    split at hf
    · rename_i hs
      cases hf
      obtain ⟨a, vs, rfl, sa, ra⟩ := hx.tuple
      obtain ⟨b, ws, rfl, sb, rb⟩ := hy.tuple
      refine .inr (.inl ⟨a, b, vs, ws, rfl, rfl, sa, sb, ?_, fun e0 => ?_, fun _ e0 => ?_, fun _ _ p np => ?_⟩)
      · rw [ra.length, rb.length]
        exact small_le hs
      · refine q _ H (Same.refl H) ⟨b, ws, rfl, sb, ?_⟩
        subst e0
        have : xs = [] := List.eq_nil_of_length_eq_zero ra.length.symm
        rw [this]
        exact rb
      · refine q _ H (Same.refl H) ⟨a, vs, rfl, sa, ?_⟩
        subst e0
        have : ys = [] := List.eq_nil_of_length_eq_zero rb.length.symm
        rw [this, List.append_nil]
        exact ra
      · exact q _ _ (same_upd np) ⟨p, vs ++ ws, rfl, SqT.of upd_same, RepL.append (RepL.mono (Mono.of_same (same_upd np)) xs ra) (RepL.mono (Mono.of_same (same_upd np)) ys rb)⟩
    · cases hf
  | .list xs, .list ys, hf =>
    simp only [dAdd] at hf
    split at hf
    · rename_i hs
      cases hf
      obtain ⟨a, vs, rfl, sa, ra⟩ := hx.list
      obtain ⟨b, ws, rfl, sb, rb⟩ := hy.list
      refine .inr (.inr (.inl ⟨a, b, vs, ws, rfl, rfl, sa, sb, ?_, fun p np => ?_⟩))
      · rw [ra.length, rb.length]
        exact small_le hs
      · exact q _ _ (same_upd np) ⟨p, rfl, np, p, vs ++ ws, rfl, upd_same, RepL.append (RepL.mono (Mono.of_same (same_upd np)) xs ra) (RepL.mono (Mono.of_same (same_upd np)) ys rb)⟩
    · cases hf
theorem op2_sub : Op2 K mg dSub rSubA := by
  intro H x y d e res Q hf hx hy q
  match d, e, hf with
  | .int i, .int j, hf =>
    cases hf
    exact .inl ⟨i, j, hx.int, hy.int, q _ H (Same.refl H) rfl⟩
  | .bool b, .int j, hf =>
    cases hf
    exact .inr ⟨b, j, hx.bool, hy.int, q _ H (Same.refl H) rfl⟩
theorem w64_iff {i : Int} (h : w64 i = true) : -(2 ^ 64) < i ∧ i < 2 ^ 64 := by
  have := of_decide_eq_true h
  omega
def rMulA (K : PySem.W.Frag) : R2 := rOr (rI CMul fun i j => .int (i * j)) (rOr (rRepX K) (rRepT K))
theorem opr_mul {X : Cx} : OpR X (binaryOp .Mult) (rMulA X.K) := OpR.or op_mul (OpR.or op_repX op_repT)
theorem RepL.rep {H : Hp} {ds : List D} {xs : List V} (h : RepL K mg H ds xs) : ∀ k : Nat, RepL K mg H (repD k ds) (List.replicate k xs).flatten
  | 0 => rfl
  | k + 1 => by
    unfold repD
    rw [List.replicate_succ, List.replicate_succ, List.flatten_cons, List.flatten_cons]
    exact RepL.append h (RepL.rep h k)
theorem op2_mul : Op2 K mg dMulA (rMulA K) := by
  intro H x y d e res Q hf hx hy q
  match d, e, hf with
  | .int i, .int j, hf =>
    simp only [dMulA, dMul] at hf
    split at hf
    · rename_i hs
      cases hf
      refine .inl ⟨i, j, hx.int, hy.int, ?_, q _ H (Same.refl H) rfl⟩
      rcases Bool.or_eq_true_iff.mp hs with h | h
      · exact .inl (w64_iff h)
      · exact .inr (w64_iff h)
    · cases hf
  | .list xs, .int k, hf =>
    simp only [dMulA] at hf
    split at hf
    · rename_i hs
      cases hf
      obtain ⟨a, vs, rfl, sa, ra⟩ := hx.list
      refine .inr (.inl ⟨a, k, vs, rfl, hy.int, sa, by omega, by omega, ?_, fun p np => ?_⟩)
      · rw [ra.length, sizeLine_eq]
        have a1 : xs.length * k.toNat ≤ 100 * 100000 := Nat.mul_le_mul hs.2.2 (by omega)
        omega
      · exact q _ _ (same_upd np) ⟨p, rfl, np, p, _, rfl, upd_same, RepL.mono (Mono.of_same (same_upd np)) _ (RepL.rep ra k.toNat)⟩
    · cases hf
  | .tuple xs, .int k, hf =>
    simp only [dMulA] at hf
    split at hf
    · rename_i hs
      cases hf
      obtain ⟨a, vs, rfl, sa, ra⟩ := hx.tuple
      refine .inr (.inr ⟨a, k, vs, rfl, hy.int, sa, fun z => ?_, hs.1, hs.2.1, by rw [ra.length]; exact hs.2.2.1, fun p np => ?_⟩)
      · subst z
        have : xs = [] := List.eq_nil_of_length_eq_zero ra.length.symm
        rw [this] at hs
        exact absurd hs.2.2.2 (by decide)
      · exact q _ _ (same_upd np) ⟨p, _, rfl, SqT.of upd_same, RepL.mono (Mono.of_same (same_upd np)) _ (RepL.rep ra k.toNat)⟩
    · cases hf
theorem op2_mod : Op2 K mg dMod (rI (fun _ j => 0 < j) fun i j => .int (i % j)) := by
  intro H x y d e res Q hf hx hy q
  match d, e, hf with
  | .int i, .int j, hf =>
    simp only [dMod] at hf
    split at hf
    · rename_i hs
      cases hf
      exact ⟨i, j, hx.int, hy.int, hs, q _ H (Same.refl H) rfl⟩
    · cases hf
theorem op2_div : Op2 K mg dDiv (rI CDivW fun i j => .int (i / j)) := by
  intro H x y d e res Q hf hx hy q
  match d, e, hf with
  | .int i, .int j, hf =>
    simp only [dDiv] at hf
    split at hf
    · rename_i hs
      cases hf
      exact ⟨i, j, hx.int, hy.int, wide_div (b := 64) hs.1 (by omega) (by decide) (by decide), q _ H (Same.refl H) rfl⟩
    · cases hf
theorem op2_pow : Op2 K mg dPow (rI CPow fun i j => .int (i ^ j.toNat)) := by
  intro H x y d e res Q hf hx hy q
  match d, e, hf with
  | .int i, .int j, hf =>
    simp only [dPow] at hf
    split at hf
    · rename_i hs
      cases hf
      have h2 := w64_iff hs.2.2
      exact ⟨i, j, hx.int, hy.int, ⟨hs.1, by omega, by omega⟩, q _ H (Same.refl H) rfl⟩
    · cases hf
theorem op1_neg : Op1 K mg dNeg (rU fun i => .int (-i)) := by
  intro H x d res Q hf hx q
  match d, hf with
  | .int i, hf =>
    cases hf
    exact ⟨i, hx.int, q _ H (Same.refl H) rfl⟩
theorem op2_lt : Op2 K mg dLt (rI0 fun i j => .bl (decide (i < j))) := by
  intro H x y d e res Q hf hx hy q
  match d, e, hf with
  | .int i, .int j, hf =>
    cases hf
    exact ⟨i, j, hx.int, hy.int, q _ H (Same.refl H) rfl⟩
theorem op2_le : Op2 K mg dLe (rI0 fun i j => .bl (decide (i ≤ j))) := by
  intro H x y d e res Q hf hx hy q
  match d, e, hf with
  | .int i, .int j, hf =>
    cases hf
    exact ⟨i, j, hx.int, hy.int, q _ H (Same.refl H) rfl⟩
theorem op2_gt : Op2 K mg dGt (rI0 fun i j => .bl (decide (j < i))) := by
  intro H x y d e res Q hf hx hy q
  match d, e, hf with
  | .int i, .int j, hf =>
    cases hf
    exact ⟨i, j, hx.int, hy.int, q _ H (Same.refl H) rfl⟩
theorem op2_ge : Op2 K mg dGe (rI0 fun i j => .bl (decide (j ≤ i))) := by
  intro H x y d e res Q hf hx hy q
  match d, e, hf with
  | .int i, .int j, hf =>
    cases hf
    exact ⟨i, j, hx.int, hy.int, q _ H (Same.refl H) rfl⟩
theorem op2_eq : Op2 K mg dEq (rEqD K) := by
  intro H x y d e res Q hf hx hy q
  unfold dEq at hf
  split at hf
  · rename_i hs
    cases hf
    have hs := Bool.and_eq_true_iff.mp hs
    exact ⟨d, e, hx.dp hs.1, hy.dp hs.2, hs.1, hs.2, q _ H (Same.refl H) rfl⟩
  · cases hf
theorem op2_ne : Op2 K mg dNe (rNeD K) := by
  intro H x y d e res Q hf hx hy q
  unfold dNe at hf
  split at hf
  · rename_i hs
    cases hf
    have hs := Bool.and_eq_true_iff.mp hs
    exact ⟨d, e, hx.dp hs.1, hy.dp hs.2, hs.1, hs.2, q _ H (Same.refl H) rfl⟩
  · cases hf
theorem RepW.isN {H : Hp} {d : D} {v : V} (h : RepW K mg H d v) : decide (v = .non) = isN d := by
  cases d with
  | none => rw [h.none]; rfl
  | bool b => rw [h.bool]; rfl
  | int b => rw [h.int]; rfl
  | str b => rw [h.str]; rfl
  | tuple b => obtain ⟨a, xs, e, _⟩ := h.tuple; rw [e]; rfl
  | list b => obtain ⟨a, xs, e, _⟩ := h.list; rw [e]; rfl
  | dict b =>
    rcases h with (⟨x, a, _, _, e⟩ | ⟨_, _, _, _, _, _, e, _⟩ | ⟨_, _, _, _, e, _⟩ | ⟨_, _, _, _, _, e, _⟩) | ⟨_, _, _, e, _⟩
    · rw [e]; rfl
    · rw [e]; rfl
    · rw [e]; rfl
    · rw [e]; rfl
    · cases e
theorem op1_isN : Op1 K mg dIsN (fun x H Q => Q (.bl (decide (x = .non))) H) := by
  intro H x d res Q hf hx q
  cases hf
  rw [hx.isN]
  exact q _ H (Same.refl H) rfl
theorem op1_notN : Op1 K mg dNotN (fun x H Q => Q (.bl (!decide (x = .non))) H) := by
  intro H x d res Q hf hx q
  cases hf
  rw [hx.isN]
  exact q _ H (Same.refl H) rfl
theorem RepL.atI {H : Hp} {ds : List D} {xs : List V} {i : Int} {d : D} (h : RepL K mg H ds xs) (e : L2.atI ds i = some d) : ∃ v, L2.atI xs i = some v ∧ Rep K mg H d v := by
  unfold L2.atI at e ⊢
  rw [h.length]
  cases q : L2.ixN ds.length i with
  | none => rw [q] at e; cases e
  | some j =>
    rw [q] at e
    exact RepL.get h e
def rIxA (K : PySem.W.Frag) : R2 := rOr (rIxL K) (rIxT K)
theorem ixr_a {X : Cx} : IxR X (rIxA X.K) := IxR.or ix_list ix_tup
theorem op2_ix : Op2 K mg dIx (rIxA K) := by
  intro H x y d e res Q hf hx hy q
  match d, e, hf with
  | .list xs, .int i, hf =>
    simp only [dIx] at hf
    cases hd : L2.atI xs i with
    | none => rw [hd] at hf; cases hf
    | some d =>
      rw [hd] at hf
      cases hf
      obtain ⟨a, vs, rfl, sa, ra⟩ := hx.list
      obtain ⟨v, ev, rv⟩ := ra.atI hd
      exact .inl ⟨a, vs, i, v, rfl, hy.int, sa.sq, ev, q _ H (Same.refl H) rv⟩
  | .tuple xs, .int i, hf =>
    simp only [dIx] at hf
    cases hd : L2.atI xs i with
    | none => rw [hd] at hf; cases hf
    | some d =>
      rw [hd] at hf
      cases hf
      obtain ⟨a, vs, rfl, sa, ra⟩ := hx.tuple
      obtain ⟨v, ev, rv⟩ := ra.atI hd
      exact .inr ⟨a, vs, i, v, rfl, hy.int, sa, ev, q _ H (Same.refl H) rv⟩
end
end Rc

/-! Rc: built-in functions. -/
namespace Rc
open PySem PySem.Spec PyProof.Rows L2
variable [LamTbl]

theorem foldl_max_ge : ∀ (l : List Int) (a : Int), a ≤ l.foldl (fun m x => if x > m then x else m) a ∧ (∀ y ∈ l, y ≤ l.foldl (fun m x => if x > m then x else m) a) ∧ (l.foldl (fun m x => if x > m then x else m) a = a ∨ l.foldl (fun m x => if x > m then x else m) a ∈ l)
  | [], a => ⟨Int.le_refl _, fun _ h => (by cases h), .inl rfl⟩
  | x :: l, a => by
    obtain ⟨h1, h2, h3⟩ := foldl_max_ge l (if x > a then x else a)
    rw [List.foldl_cons]
    have ga : a ≤ (if x > a then x else a) := by split <;> omega
    have gx : x ≤ (if x > a then x else a) := by split <;> omega
    refine ⟨Int.le_trans ga h1, fun y hy => ?_, ?_⟩
    · rcases List.mem_cons.mp hy with rfl | hy
      · exact Int.le_trans gx h1
      · exact h2 y hy
    · rcases h3 with h3 | h3
      · by_cases hx : x > a
        · rw [if_pos hx] at h3 ⊢
          exact .inr (by rw [h3]; exact List.mem_cons_self)
        · rw [if_neg hx] at h3 ⊢
          exact .inl h3
      · exact .inr (List.mem_cons_of_mem _ h3)
theorem foldl_min_le : ∀ (l : List Int) (a : Int), l.foldl (fun m x => if x < m then x else m) a ≤ a ∧ (∀ y ∈ l, l.foldl (fun m x => if x < m then x else m) a ≤ y) ∧ (l.foldl (fun m x => if x < m then x else m) a = a ∨ l.foldl (fun m x => if x < m then x else m) a ∈ l)
  | [], a => ⟨Int.le_refl _, fun _ h => (by cases h), .inl rfl⟩
  | x :: l, a => by
    obtain ⟨h1, h2, h3⟩ := foldl_min_le l (if x < a then x else a)
    rw [List.foldl_cons]
    have ga : (if x < a then x else a) ≤ a := by split <;> omega
    have gx : (if x < a then x else a) ≤ x := by split <;> omega
    refine ⟨Int.le_trans h1 ga, fun y hy => ?_, ?_⟩
    · rcases List.mem_cons.mp hy with rfl | hy
      · exact Int.le_trans h1 gx
      · exact h2 y hy
    · rcases h3 with h3 | h3
      · by_cases hx : x < a
        · rw [if_pos hx] at h3 ⊢
          exact .inr (by rw [h3]; exact List.mem_cons_self)
        · rw [if_neg hx] at h3 ⊢
          exact .inl h3
      · exact .inr (List.mem_cons_of_mem _ h3)
theorem maxL_spec {ns : List Int} {m : Int} (h : maxL ns = some m) : m ∈ ns ∧ ∀ y ∈ ns, y ≤ m := by
  cases ns with
  | nil => cases h
  | cons a l =>
    cases h
    obtain ⟨h1, h2, h3⟩ := foldl_max_ge l a
    refine ⟨?_, fun y hy => ?_⟩
    · rcases h3 with h3 | h3
      · rw [h3]; exact List.mem_cons_self
      · exact List.mem_cons_of_mem _ h3
    · rcases List.mem_cons.mp hy with rfl | hy
      · exact h1
      · exact h2 y hy
theorem minL_spec {ns : List Int} {m : Int} (h : minL ns = some m) : m ∈ ns ∧ ∀ y ∈ ns, m ≤ y := by
  cases ns with
  | nil => cases h
  | cons a l =>
    cases h
    obtain ⟨h1, h2, h3⟩ := foldl_min_le l a
    refine ⟨?_, fun y hy => ?_⟩
    · rcases h3 with h3 | h3
      · rw [h3]; exact List.mem_cons_self
      · exact List.mem_cons_of_mem _ h3
    · rcases List.mem_cons.mp hy with rfl | hy
      · exact h1
      · exact h2 y hy

section
variable {prog : Program} {w : World} {A : Around} {E : Value → Shared → Prop} {s : Shared} {l : Addr} {xs : Array (Int × Tok)}
theorem sum_intTup {Q : Value → Shared → Prop} (hh : A.handled = none) (hl : s.heap.IsTuple l (intItems xs))
    (h : ∀ h' tk t', (∀ b o, s.heap.get? b = some o → h'.get? b = some o) → Q (.int (preSum (numAt xs) xs.size) t') { s with heap := h', toks := tk }) :
    wpAny (model prog w) A (call (.builtin "sum") [.ref l]) Q E s := by
  have hlt : l < s.heap.objs.size := by obtain ⟨_, e, _⟩ := hl; exact Heap.lt_size e
  refine call_sum_walkG (wpAny_pyIter_tuple hl ?_)
  refine ⟨_, [_, l], [_], _, _, _, numAt xs, rfl, Walks.tuple (A := A.in1) hh _ l (Nat.ne_of_lt hlt) (intItems xs),
    ⟨⟨_, Heap.get?_push_size _ rfl, rfl, rfl⟩, hl.push _⟩, fun c hc => ?_, (fun _ _ => intItems_at), fun h' tk t' hk => ?_⟩
  · show c < (s.heap.push _).objs.size
    rw [Heap.size_push]
    rcases List.mem_cons.mp hc with rfl | hc
    · exact Nat.lt_succ_self _
    · rcases List.mem_cons.mp hc with rfl | hc
      · exact Nat.lt_succ_of_lt hlt
      · cases hc
  · have := h h' tk t' fun b o e => by
      refine hk b o (fun hm => ?_) (Heap.get?_push_of_some _ e)
      rcases List.mem_cons.mp hm with e1 | hm
      · exact absurd (e1 ▸ Heap.lt_size e) (Nat.lt_irrefl _)
      · cases hm
    simpa [intItems] using this
theorem sum_rawT {its : List Value} {ns : List Int} {Q : Value → Shared → Prop} (hh : A.handled = none) (hl : s.heap.IsTuple l its.toArray) (hi : IntsAre its ns)
    (h : ∀ h' tk t', (∀ b o, s.heap.get? b = some o → h'.get? b = some o) → Q (.int ns.sum t') { s with heap := h', toks := tk }) : wpAny (model prog w) A (call (.builtin "sum") [.ref l]) Q E s := by
  obtain ⟨xs, e⟩ := hi.allInts.items
  have hn : numsOf (intItems xs).toList = ns := by rw [← e]; exact hi.numsOf
  rw [nums_intItems] at hn
  rw [e] at hl
  refine sum_intTup hh hl fun h' tk t' hk => ?_
  have := h h' tk t' hk
  rw [preSum_eq, List.take_of_length_le (by simp), hn]; exact this
end

section
variable {X : Cx}
def rSumT (K : PySem.W.Frag) : List V → Hp → VK → Prop := fun vs H Q => ∃ (a : Addr) (ns : List Int), vs = [V.ref a] ∧ SqT K H a (ns.map V.int) ∧ Q (.int ns.sum) H
theorem cr_sumT (hc : X.calm = true) : CallR X (.builtin "sum") (rSumT X.K) := by
  intro pins s σ H vs us Q I r h
  obtain ⟨a, ns, rfl, hs, q⟩ := h
  obtain ⟨its, rv, hl, _⟩ := I.tuple hs
  rw [Vals.ref1 r]
  exact sum_rawT (I.ok.hd hc) hl rv.ints fun h' tk t' hk => ⟨.int _, H, I.kept hk, ⟨_, rfl⟩, q⟩
end

/-! ### one argument -/
def cOr (r r' : List V → Hp → VK → Prop) : List V → Hp → VK → Prop := fun xs H Q => r xs H Q ∨ r' xs H Q
section
variable {K : PySem.W.Frag} {mg : Str → Option Value}
def Cl1 (K : PySem.W.Frag) (mg : Str → Option Value) (f : D → Option Sv) (r : List V → Hp → VK → Prop) : Prop := Op1 K mg f fun x H Q => r [x] H Q
def Cl2 (K : PySem.W.Frag) (mg : Str → Option Value) (f : D → D → Option Sv) (r : List V → Hp → VK → Prop) : Prop := Op2 K mg f fun x y H Q => r [x, y] H Q
theorem cl_len : Cl1 K mg dLen (fun xs H Q => ∃ p ys, xs = [.ref p] ∧ (SqL K H p ys ∨ SqT K H p ys) ∧ Q (.int ys.length) H) := by
  intro H x d res Q hf hx q
  match d, hf with
  | .list ds, hf =>
    cases hf
    obtain ⟨a, vs, rfl, sa, ra⟩ := hx.list
    exact ⟨a, vs, rfl, .inl sa.sq, by rw [ra.length]; exact q _ H (Same.refl H) rfl⟩
  | .tuple ds, hf =>
    cases hf
    obtain ⟨a, vs, rfl, sa, ra⟩ := hx.tuple
    exact ⟨a, vs, rfl, .inr sa, by rw [ra.length]; exact q _ H (Same.refl H) rfl⟩
def tyN : D → String
  | .none => "NoneType"
  | .bool _ => "bool"
  | .int _ => "int"
  | .str _ => "str"
  | .list _ => "list"
  | .tuple _ => "tuple"
  | .dict _ => ""
theorem RepW.tyx {H : Hp} {d : D} {v : V} (h : RepW K mg H d v) (nd : ∀ kvs, d ≠ .dict kvs) : ∃ n, TyX K H v (.type n) ∧ n = tyN d := by
  cases d with
  | none => rw [h.none]; exact ⟨_, .base .non, rfl⟩
  | bool b => rw [h.bool]; exact ⟨_, .base (.bl b), rfl⟩
  | int b => rw [h.int]; exact ⟨_, .base (.int b), rfl⟩
  | str b => rw [h.str]; exact ⟨_, .base (.str b), rfl⟩
  | list ds =>
    obtain ⟨a, xs, e, s, _⟩ := h.list
    rw [e]
    rcases s with s | ⟨o, s⟩ | ⟨its, n, s, _⟩
    · exact ⟨_, .base (.lst s), rfl⟩
    · exact ⟨_, .base (.frz s), rfl⟩
    · exact ⟨_, .kList s rfl, rfl⟩
  | tuple ds =>
    obtain ⟨a, xs, e, s, _⟩ := h.tuple
    rw [e]
    rcases s with (s | ⟨o, s⟩) | ⟨o, its, n, s, c, _⟩
    · exact ⟨_, .base (.tup s), rfl⟩
    · exact ⟨_, .fTuple s, rfl⟩
    · exact ⟨_, .kTuple s c, rfl⟩
  | dict kvs => exact absurd rfl (nd kvs)
theorem kitB_of {T : Ty} {d : D} {b : Bool} (h : isTy T d = some b) : kitB (tyN d) T.nm = some b := by
  cases T <;> cases d <;> simp only [isTy, Option.some.injEq, reduceCtorEq] at h <;> subst h <;> simp only [tyN, Ty.nm] <;> decide +kernel
/-- isinstance(x, T) -/
theorem cl_isi (T : Ty) : Op1 K mg (dIsi T) (fun x H Q => rIsi K [x, .ty T.nm] H Q) := by
  intro H x d res Q hf hx q
  unfold dIsi at hf
  cases hb : isTy T d with
  | none => rw [hb] at hf; cases hf
  | some b =>
    rw [hb] at hf
    cases hf
    obtain ⟨n, ty, en⟩ := hx.tyx fun kvs e => by rw [e] at hb; cases T <;> cases hb
    refine ⟨x, .ty T.nm, .type n, .type T.nm, b, rfl, .ty _, ty, ?_, q _ H (Same.refl H) rfl⟩
    rw [en]
    exact kit_ty (kitB_of hb)
theorem cl_abs : Cl1 K mg dAbs (fun xs H Q => ∃ i, xs = [.int i] ∧ Q (.int (if i < 0 then -i else i)) H) := by
  intro H x d res Q hf hx q
  match d, hf with
  | .int i, hf =>
    cases hf
    exact ⟨i, by rw [hx.int], q _ H (Same.refl H) rfl⟩
theorem cl_max2 : Cl2 K mg dMax2 (fun xs H Q => ∃ i j, xs = [.int i, .int j] ∧ Q (.int (if j > i then j else i)) H) := by
  intro H x y d e res Q hf hx hy q
  match d, e, hf with
  | .int i, .int j, hf =>
    cases hf
    exact ⟨i, j, by rw [hx.int, hy.int], q _ H (Same.refl H) rfl⟩
theorem cl_min2 : Cl2 K mg dMin2 (fun xs H Q => ∃ i j, xs = [.int i, .int j] ∧ Q (.int (if j < i then j else i)) H) := by
  intro H x y d e res Q hf hx hy q
  match d, e, hf with
  | .int i, .int j, hf =>
    cases hf
    exact ⟨i, j, by rw [hx.int, hy.int], q _ H (Same.refl H) rfl⟩
theorem cl_sum : Cl1 K mg dSum (cOr (rSum K) (rSumT K)) := by
  intro H x d res Q hf hx q
  match d, hf with
  | .list ds, hf =>
    simp only [dSum, dSeq, Option.bind_some] at hf
    cases hn : asInts ds with
    | none => rw [hn] at hf; cases hf
    | some ns =>
      rw [hn] at hf
      cases hf
      obtain ⟨a, vs, rfl, sa, ra⟩ := hx.list
      rw [asInts_eq hn] at ra
      have ev := RepL.ints ra
      subst ev
      exact .inl ⟨a, ns, rfl, sa.sq, q _ H (Same.refl H) rfl⟩
  | .tuple ds, hf =>
    simp only [dSum, dSeq, Option.bind_some] at hf
    cases hn : asInts ds with
    | none => rw [hn] at hf; cases hf
    | some ns =>
      rw [hn] at hf
      cases hf
      obtain ⟨a, vs, rfl, sa, ra⟩ := hx.tuple
      rw [asInts_eq hn] at ra
      have ev := RepL.ints ra
      subst ev
      exact .inr ⟨a, ns, rfl, sa, q _ H (Same.refl H) rfl⟩
theorem cl_all : Cl1 K mg dAll (rAll K) := by
  intro H x d res Q hf hx q
  match d, hf with
  | .list ds, hf =>
    simp only [dAll] at hf
    cases hn : asBools ds with
    | none => rw [hn] at hf; cases hf
    | some ns =>
      rw [hn] at hf
      cases hf
      obtain ⟨a, vs, rfl, sa, ra⟩ := hx.list
      rw [asBools_eq hn] at ra
      have ev := RepL.bools ra
      subst ev
      exact ⟨a, ns, rfl, sa.sq, q _ H (Same.refl H) rfl⟩
theorem cl_max : Cl1 K mg dMax (rMax K) := by
  intro H x d res Q hf hx q
  match d, hf with
  | .list ds, hf =>
    simp only [dMax] at hf
    cases hn : asInts ds with
    | none => rw [hn] at hf; cases hf
    | some ns =>
      rw [hn] at hf
      simp only [Option.bind_some] at hf
      cases hm : maxL ns with
      | none => rw [hm] at hf; cases hf
      | some m =>
        rw [hm] at hf
        cases hf
        obtain ⟨a, vs, rfl, sa, ra⟩ := hx.list
        rw [asInts_eq hn] at ra
        have ev := RepL.ints ra
        subst ev
        obtain ⟨h1, h2⟩ := maxL_spec hm
        refine ⟨a, ns, rfl, sa.sq, List.length_pos_of_mem h1, fun m' g1 g2 => ?_⟩
        have : m' = m := Int.le_antisymm (h2 m' g1) (g2 m h1)
        subst this
        exact q _ H (Same.refl H) rfl
theorem cl_min : Cl1 K mg dMin (rMin K) := by
  intro H x d res Q hf hx q
  match d, hf with
  | .list ds, hf =>
    simp only [dMin] at hf
    cases hn : asInts ds with
    | none => rw [hn] at hf; cases hf
    | some ns =>
      rw [hn] at hf
      simp only [Option.bind_some] at hf
      cases hm : minL ns with
      | none => rw [hm] at hf; cases hf
      | some m =>
        rw [hm] at hf
        cases hf
        obtain ⟨a, vs, rfl, sa, ra⟩ := hx.list
        rw [asInts_eq hn] at ra
        have ev := RepL.ints ra
        subst ev
        obtain ⟨h1, h2⟩ := minL_spec hm
        refine ⟨a, ns, rfl, sa.sq, List.length_pos_of_mem h1, fun m' g1 g2 => ?_⟩
        have : m' = m := Int.le_antisymm (g2 m h1) (h2 m' g1)
        subst this
        exact q _ H (Same.refl H) rfl
theorem cl_tuple : Cl1 K mg dTuple (fun xs H Q => ∃ p ys, xs = [.ref p] ∧ ((SqL K H p ys ∧ ∀ l, H l = none → Q (.ref l) (upd H l (.tup ys))) ∨ (SqT K H p ys ∧ Q (.ref p) H))) := by
  intro H x d res Q hf hx q
  match d, hf with
  | .list ds, hf =>
    cases hf
    obtain ⟨a, vs, rfl, sa, ra⟩ := hx.list
    exact ⟨a, vs, rfl, .inl ⟨sa.sq, fun l nl => q _ _ (same_upd nl) ⟨l, vs, rfl, SqT.of upd_same, RepL.mono (Mono.of_same (same_upd nl)) ds ra⟩⟩⟩
  | .tuple ds, hf =>
    cases hf
    obtain ⟨a, vs, rfl, sa, ra⟩ := hx.tuple
    exact ⟨a, vs, rfl, .inr ⟨sa, q _ H (Same.refl H) ⟨a, vs, rfl, sa, ra⟩⟩⟩
theorem cl_list : Cl1 K mg dList (fun xs H Q => ∃ p ys, xs = [.ref p] ∧ (SqL K H p ys ∨ SqT K H p ys) ∧ ∀ l, H l = none → Q (.ref l) (upd H l (.lst ys))) := by
  intro H x d res Q hf hx q
  match d, hf with
  | .list ds, hf =>
    cases hf
    obtain ⟨a, vs, rfl, sa, ra⟩ := hx.list
    exact ⟨a, vs, rfl, .inl sa.sq, fun l nl => q _ _ (same_upd nl) ⟨l, rfl, nl, l, vs, rfl, upd_same, RepL.mono (Mono.of_same (same_upd nl)) ds ra⟩⟩
  | .tuple ds, hf =>
    cases hf
    obtain ⟨a, vs, rfl, sa, ra⟩ := hx.tuple
    exact ⟨a, vs, rfl, .inr sa, fun l nl => q _ _ (same_upd nl) ⟨l, rfl, nl, l, vs, rfl, upd_same, RepL.mono (Mono.of_same (same_upd nl)) ds ra⟩⟩
end

/-! ### the forms that a derivation uses -/
section
variable {X : Cx} {F : Fx} {E : XK} {pos p : Pos} {a b : Expr} {oa ob : Od}
theorem a_bin {op : Operator} {r : R2} {f : D → D → Option Sv} (ho : OpR X (binaryOp op) r) (hf : Op2 X.K X.mg f r) (ha : AO X F E a oa) (hb : AO X F E b ob) : AE X F E (.BinOp a op b pos) (eOp2 f oa ob) :=
  PE_imp (pe_op ho ha hb) (imp2 hf oa ob)
theorem a_add (ha : AO X F E a oa) (hb : AO X F E b ob) : AE X F E (.BinOp a .Add b pos) (eOp2 dAdd oa ob) := a_bin opr_add op2_add ha hb
theorem a_sub (ha : AO X F E a oa) (hb : AO X F E b ob) : AE X F E (.BinOp a .Sub b pos) (eOp2 dSub oa ob) := a_bin opr_sub op2_sub ha hb
theorem a_mul (ha : AO X F E a oa) (hb : AO X F E b ob) : AE X F E (.BinOp a .Mult b pos) (eOp2 dMulA oa ob) := a_bin opr_mul op2_mul ha hb
theorem a_mod (ha : AO X F E a oa) (hb : AO X F E b ob) : AE X F E (.BinOp a .Mod b pos) (eOp2 dMod oa ob) := a_bin op_mod op2_mod ha hb
theorem a_div (ha : AO X F E a oa) (hb : AO X F E b ob) : AE X F E (.BinOp a .FloorDiv b pos) (eOp2 dDiv oa ob) := a_bin op_fdivW op2_div ha hb
theorem a_pow (ha : AO X F E a oa) (hb : AO X F E b ob) : AE X F E (.BinOp a .Pow b pos) (eOp2 dPow oa ob) := a_bin op_pow op2_pow ha hb
theorem a_neg (ha : AO X F E a oa) : AE X F E (.UnaryOp .USub a pos) (eOp1 dNeg oa) := PE_imp (pe_un un_neg ha) (imp1 op1_neg oa)
theorem a_cmp {op : CmpOp} {r : R2} {f : D → D → Option Sv} (ho : OpR X (compareOp op) r) (hf : Op2 X.K X.mg f r) (ha : AO X F E a oa) (hb : AO X F E b ob) (hm : behindInMarks op b = false) : AE X F E (.Compare a [op] [b] pos) (eOp2 f oa ob) :=
  PE_imp (pe_cmpR ho ha hb hm) (imp2 hf oa ob)
theorem tB_imp {K : PySem.W.Frag} {mg : Str → Option Value} {m : M Sv} {t : TE} (h : ∀ σ H Q, tOf K mg F E m σ H Q → t σ H Q) : ∀ σ H Q, tOfB K mg F E (Rc.tB m) σ H Q → t σ H fun x H' => ∃ k, x = .bl k ∧ Q k H' := by
  intro σ H Q ⟨S, st, q⟩
  refine h σ H _ ⟨S, st, ?_⟩
  unfold Rc.tB at q
  cases em : m S with
  | no => rw [em] at q; exact q.elim
  | ex k S1 => rw [em] at q; exact q
  | ok r S1 =>
    rw [em] at q
    intro v H' g rr
    match r, q, rr with
    | .val (.bool b), q, rr => exact ⟨b, rr, q H' g⟩
theorem at_cmp {op : CmpOp} {r : R2} {f : D → D → Option Sv} (ho : OpR X (compareOp op) r) (hf : Op2 X.K X.mg f r) (ha : AO X F E a oa) (hb : AO X F E b ob) (hm : behindInMarks op b = false) : AT X F E (.Compare a [op] [b] pos) (Rc.tB (eOp2 f oa ob)) :=
  PT_imp (pt_cmpR ho ha hb hm) (tB_imp (imp2 hf oa ob))
/-- any other expression as a test -/
theorem at_val {e : Expr} {m : M Sv} (h : AE X F E e m) (he : ∀ whole, isTrue e X.env whole = (do let v ← whole; standAt e.pos; holding [v] (truthy v)) := by intro _; rfl) : AT X F E e (Rc.tB m) :=
  PT_imp (pt_val h he) (tB_imp fun _ _ _ h => h)
theorem a_ix (ha : AO X F E a oa) (hb : AO X F E b ob) (hs : PlainIx b) : AE X F E (.Subscript a b pos) (eOp2 dIx oa ob) :=
  PE_imp (pe_ix ixr_a ha hb hs) (imp2 op2_ix oa ob)
/-- f(a), f a built-in function -/
theorem a_b1 {x : Str} {id : String} {r : List V → Hp → VK → Prop} {f : D → Option Sv} (hc : CallR X (.builtin id) r) (hf : Cl1 X.K X.mg f r) (hg : Gl X x) (hm : X.mg x = none) (hv : bootBuiltins x = some (.builtin id)) (ha : AO X F E a oa) (hn : x ≠ "__name__" := by decide) (hdb : (x == ("__debug__" : Str)) = false := by decide)
    (he : starEach (a :: []) X.env = (false, eval a X.env) :: starEach [] X.env := by rfl) (hpl : (backTo pos (starEach [] X.env)).any (·.1) = false := by rfl) : AE X F E (.Call (.Name x p) [a] [] pos) (eOp1 f oa) :=
  PE_imp (pe_callB hc hg hm hv (pa_cons ha pa_nil he) hn hdb he hpl) (imp1 hf oa)
theorem a_b2 {x : Str} {id : String} {r : List V → Hp → VK → Prop} {f : D → D → Option Sv} (hc : CallR X (.builtin id) r) (hf : Cl2 X.K X.mg f r) (hg : Gl X x) (hm : X.mg x = none) (hv : bootBuiltins x = some (.builtin id)) (ha : AO X F E a oa) (hb : AO X F E b ob) (hn : x ≠ "__name__" := by decide) (hdb : (x == ("__debug__" : Str)) = false := by decide)
    (he : starEach (a :: b :: []) X.env = (false, eval a X.env) :: starEach [b] X.env := by rfl) (he2 : starEach (b :: []) X.env = (false, eval b X.env) :: starEach [] X.env := by rfl) (hpl : (backTo pos (starEach [b] X.env)).any (·.1) = false := by rfl) : AE X F E (.Call (.Name x p) [a, b] [] pos) (eOp2 f oa ob) :=
  PE_imp (pe_callB hc hg hm hv (pa_cons ha (pa_cons hb pa_nil he2) he) hn hdb he hpl) (imp2 hf oa ob)
/-- T(a), T a built-in type -/
theorem a_t1 {x : Str} {T : String} {r : List V → Hp → VK → Prop} {f : D → Option Sv} (hc : CallR X (.type T) r) (hf : Cl1 X.K X.mg f r) (hg : Gl X x) (hm : X.mg x = none) (hv : bootBuiltins x = some (.type T)) (ha : AO X F E a oa) (hn : x ≠ "__name__" := by decide) (hdb : (x == ("__debug__" : Str)) = false := by decide)
    (he : starEach (a :: []) X.env = (false, eval a X.env) :: starEach [] X.env := by rfl) (hpl : (backTo pos (starEach [] X.env)).any (·.1) = false := by rfl) : AE X F E (.Call (.Name x p) [a] [] pos) (eOp1 f oa) :=
  PE_imp (pe_callTy hc hg hm hv (pa_cons ha pa_nil he) hn hdb he hpl) (imp1 hf oa)
/-- isinstance(a, T) -/
theorem a_isi {y : Str} {p2 : Pos} (T : Ty) (hg : Gl X "isinstance") (hm : X.mg "isinstance" = none) (hgy : Gl X y) (hmy : X.mg y = none) (hy : bootBuiltins y = some (.type T.nm)) (ha : AO X F E a oa) (hn : y ≠ "__name__" := by decide) (hdb : (y == ("__debug__" : Str)) = false := by decide)
    (he : starEach (a :: [.Name y p2]) X.env = (false, eval a X.env) :: starEach [.Name y p2] X.env := by rfl) (hpl : (backTo pos (starEach [.Name y p2] X.env)).any (·.1) = false := by rfl) : AE X F E (.Call (.Name "isinstance" p) [a, .Name y p2] [] pos) (eOp1 (dIsi T) oa) :=
  PE_imp (pe_callB call_isi hg hm (by decide +kernel) (pa_cons ha (pa_cons (pe_bltn (v := .ty T.nm) hgy hmy hy rfl hn hdb) pa_nil (by rfl)) he) (by decide) (by decide) he hpl) (imp1 (cl_isi T) oa)
end
end Rc

/-! Rc: displays, and, or, not, calls of defs, a def by its body. -/
namespace Rc
open PySem PySem.Spec PyProof.Rows L2
variable [LamTbl]

/-! ### displays -/
section
variable {X : Cx} {F : Fx} {E : XK} {pos : Pos}
theorem al_nil : AL X F E [] (evL []) := PA_imp pa_nil fun σ H Q ⟨S, st, q⟩ => q [] H (Go.refl st) rfl
theorem al_cons {e : Expr} {es : List Expr} {m : M Sv} {ms : List (M Sv)} (ha : AE X F E e m) (hr : AL X F E es (evL ms)) (hs : starEach (e :: es) X.env = (false, eval e X.env) :: starEach es X.env := by rfl) : AL X F E (e :: es) (evL (m :: ms)) := by
  refine PA_imp (pa_cons (a_fz ha) hr hs) fun σ H Q ⟨S, st, q⟩ => ⟨S, st, ?_⟩
  simp only [evL] at q
  unfold eFz
  cases em : m S with
  | no => rw [em] at q; exact q.elim
  | ex k S1 => rw [em] at q; exact q
  | ok r S1 =>
    rw [em] at q
    simp only [Res.bind] at q ⊢
    cases ed : toD r with
    | none => rw [ed] at q; exact q.elim
    | some d =>
      rw [ed] at q
      simp only at q ⊢
      intro v H1 g1 r1
      refine ⟨S1, g1.rst, ?_⟩
      cases el : evL ms S1 with
      | no => rw [el] at q; exact q.elim
      | ex k S2 => rw [el] at q; exact q
      | ok ds S2 =>
        rw [el] at q
        intro vs H2 g2 r2
        exact q (v :: vs) H2 (g1.trans g2) ⟨v, vs, rfl, Rep.mono (g2.mono g1.rst) d r1, r2⟩
theorem evL_length : ∀ {ms : List (M Sv)} {S : Sl} {ds : List D} {S1 : Sl}, evL ms S = .ok ds S1 → ds.length = ms.length
  | [], _, _, _, h => by cases h; rfl
  | m :: ms, S, ds, S1, h => by
    simp only [evL] at h
    cases em : m S with
    | no => rw [em] at h; cases h
    | ex k S1 => rw [em] at h; cases h
    | ok r S1 =>
      rw [em] at h
      simp only [Res.bind] at h
      cases ed : toD r with
      | none => rw [ed] at h; cases h
      | some d =>
        rw [ed] at h
        simp only at h
        cases el : evL ms S1 with
        | no => rw [el] at h; cases h
        | ex k S2 => rw [el] at h; cases h
        | ok ds S2 =>
          rw [el] at h
          cases h
          rw [List.length_cons, List.length_cons, evL_length el]
theorem a_tup {es : List Expr} {k} {ms : List (M Sv)} (h : AL X F E es (evL ms)) (hz : ms.length ≤ 1000 := by decide) : AE X F E (.Tuple es k pos) (eTup ms) := by
  refine PE_imp (pe_tup h) fun σ H Q ⟨S, st, q⟩ => ⟨S, st, ?_⟩
  unfold eTup at q
  cases el : evL ms S with
  | no => rw [el] at q; exact q.elim
  | ex k S1 => rw [el] at q; exact q
  | ok ds S1 =>
    rw [el] at q
    intro vs H1 g1 r1
    refine ⟨by rw [r1.length, evL_length el, sizeLine_eq]; omega, fun p np => ?_⟩
    have sm : Same H1 (upd H1 p (.tup vs)) := fun b x e => by rw [upd_ne (ne_of_none e np)]; exact e
    exact q (.ref p) _ (g1.trans (Go.of_same g1.rst sm)) ⟨p, vs, rfl, SqT.of upd_same, RepL.mono (Mono.of_same sm) ds r1⟩
theorem a_lst {es : List Expr} {ms : List (M Sv)} (h : AL X F E es (evL ms)) (hz : ms.length ≤ 1000 := by decide) : AE X F E (.List es pos) (eLst ms) := by
  refine PE_imp (pe_lst h) fun σ H Q ⟨S, st, q⟩ => ⟨S, st, ?_⟩
  unfold eLst at q
  cases el : evL ms S with
  | no => rw [el] at q; exact q.elim
  | ex k S1 => rw [el] at q; exact q
  | ok ds S1 =>
    rw [el] at q
    intro vs H1 g1 r1
    refine ⟨by rw [r1.length, evL_length el, sizeLine_eq]; omega, fun p np => ?_⟩
    have sm : Same H1 (upd H1 p (.lst vs)) := fun b x e => by rw [upd_ne (ne_of_none e np)]; exact e
    have n0 : H p = none := by
      cases e : H p with
      | none => rfl
      | some u => exact absurd np (g1.dm p (by rw [e]; exact fun z => by cases z))
    exact q (.ref p) _ (g1.trans (Go.of_same g1.rst sm)) ⟨p, rfl, n0, p, vs, rfl, upd_same, RepL.mono (Mono.of_same sm) ds r1⟩

/-! ### and, or, not, if as a value -/
variable {a b c : Expr} {rest : List Expr} {ma mb mc : M Bool} {va vb : M Sv}
theorem tAnd_imp {K : PySem.W.Frag} {mg : Str → Option Value} {u : TT} (hu : ∀ σ H Q, tOfB K mg F E mb σ H Q → u σ H Q) : ∀ σ H Q, tOfB K mg F E (Rc.tAnd ma mb) σ H Q → L2.tAnd (tOfB K mg F E ma) u σ H Q := by
  intro σ H Q ⟨S, st, q⟩
  refine ⟨S, st, ?_⟩
  unfold Rc.tAnd at q
  cases em : ma S with
  | no => rw [em] at q; exact q.elim
  | ex k S1 => rw [em] at q; exact q
  | ok x S1 =>
    rw [em] at q
    simp only [Res.bind] at q
    intro H1 g1
    cases x with
    | false =>
      simp only [Bool.false_eq_true, if_false] at q ⊢
      exact q H1 g1
    | true =>
      simp only [if_true] at q ⊢
      refine hu σ H1 Q ⟨S1, g1.rst, ?_⟩
      cases en : mb S1 with
      | no => rw [en] at q; exact q.elim
      | ex k S2 => rw [en] at q; exact q
      | ok y S2 =>
        rw [en] at q
        exact fun H2 g2 => q H2 (g1.trans g2)
theorem tOr_imp {K : PySem.W.Frag} {mg : Str → Option Value} {u : TT} (hu : ∀ σ H Q, tOfB K mg F E mb σ H Q → u σ H Q) : ∀ σ H Q, tOfB K mg F E (Rc.tOr ma mb) σ H Q → L2.tOr (tOfB K mg F E ma) u σ H Q := by
  intro σ H Q ⟨S, st, q⟩
  refine ⟨S, st, ?_⟩
  unfold Rc.tOr at q
  cases em : ma S with
  | no => rw [em] at q; exact q.elim
  | ex k S1 => rw [em] at q; exact q
  | ok x S1 =>
    rw [em] at q
    simp only [Res.bind] at q
    intro H1 g1
    cases x with
    | true =>
      simp only [if_true] at q ⊢
      exact q H1 g1
    | false =>
      simp only [Bool.false_eq_true, if_false] at q ⊢
      refine hu σ H1 Q ⟨S1, g1.rst, ?_⟩
      cases en : mb S1 with
      | no => rw [en] at q; exact q.elim
      | ex k S2 => rw [en] at q; exact q
      | ok y S2 =>
        rw [en] at q
        exact fun H2 g2 => q H2 (g1.trans g2)
abbrev AW (X : Cx) (F : Fx) (E : XK) (e : Expr) (m : M Bool) : Prop := PW X e (tOfB X.K X.mg F E m)
theorem PW_imp {e : Expr} {t t' : TT} (h : PW X e t) (i : ∀ σ H Q, t' σ H Q → t σ H Q) : PW X e t' := ⟨fun w pins s σ H Q I hw => h.run w pins s σ H Q I (i σ H Q hw)⟩
theorem aw_and1 (ha : AT X F E a ma) : AW X F E (.BoolOp .And [a] pos) ma := pw_and1 ha
theorem aw_or1 (ha : AT X F E a ma) : AW X F E (.BoolOp .Or [a] pos) ma := pw_or1 ha
theorem aw_and (ha : AT X F E a ma) (hb : AW X F E (.BoolOp .And (b :: rest) pos) mb) : AW X F E (.BoolOp .And (a :: b :: rest) pos) (Rc.tAnd ma mb) := PW_imp (pw_and ha hb) (tAnd_imp fun _ _ _ h => h)
theorem aw_or (ha : AT X F E a ma) (hb : AW X F E (.BoolOp .Or (b :: rest) pos) mb) : AW X F E (.BoolOp .Or (a :: b :: rest) pos) (Rc.tOr ma mb) := PW_imp (pw_or ha hb) (tOr_imp fun _ _ _ h => h)
theorem at_w (h : AW X F E a ma) : AT X F E a ma := PW.pt h
theorem at_not (ha : AT X F E a ma) : AT X F E (.UnaryOp .Not a pos) (Rc.tNot ma) := by
  refine PT_imp (pt_not ha) fun σ H Q ⟨S, st, q⟩ => ⟨S, st, ?_⟩
  unfold Rc.tNot at q
  cases em : ma S with
  | no => rw [em] at q; exact q.elim
  | ex k S1 => rw [em] at q; exact q
  | ok x S1 => rw [em] at q; exact q
/-- not a, as a value -/
theorem a_not {m : M Sv} (ha : AE X F E a m) : AE X F E (.UnaryOp .Not a pos) (eB (Rc.tNot (Rc.tB m))) := by
  refine PE_imp (pe_not ha) fun σ H Q ⟨S, st, q⟩ => ⟨S, st, ?_⟩
  unfold eB Rc.tNot Rc.tB at q
  cases em : m S with
  | no => rw [em] at q; exact q.elim
  | ex k S1 => rw [em] at q; exact q
  | ok r S1 =>
    rw [em] at q
    intro v H' g rr
    match r, q, rr with
    | .val (.bool x), q, rr => exact ⟨x, rr, q _ H' g rfl⟩
theorem a_and1 (ha : AE X F E a va) : AE X F E (.BoolOp .And [a] pos) va := pe_one ha
theorem a_or1 (ha : AE X F E a va) : AE X F E (.BoolOp .Or [a] pos) va := pe_one ha
/-- what a value's test hands on -/
theorem tB_ok {m : M Sv} {S S1 : Sl} {x : Bool} (h : Rc.tB m S = .ok x S1) : m S = .ok (.val (.bool x)) S1 := by
  unfold Rc.tB at h
  cases em : m S with
  | no => rw [em] at h; cases h
  | ex k S1 => rw [em] at h; cases h
  | ok r S1 =>
    rw [em] at h
    match r, h with
    | .val (.bool x), h => cases h; rfl
theorem a_and (ha : AE X F E a va) (hb : AE X F E (.BoolOp .And (b :: rest) pos) vb) : AE X F E (.BoolOp .And (a :: b :: rest) pos) (Rc.eAnd va vb) := by
  refine PE_imp (pe_and ha hb) fun σ H Q ⟨S, st, q⟩ => ⟨S, st, ?_⟩
  unfold Rc.eAnd Rc.tB at q
  cases em : va S with
  | no => rw [em] at q; exact q.elim
  | ex k S1 => rw [em] at q; exact q
  | ok r S1 =>
    rw [em] at q
    intro v H1 g1 rr
    match r, q, rr with
    | .val (.bool x), q, rr =>
      refine ⟨x, rr, ?_⟩
      simp only [Res.bind, asB] at q
      cases x with
      | false =>
        simp only [Bool.false_eq_true, if_false] at q ⊢
        exact q _ H1 g1 rfl
      | true =>
        simp only [if_true] at q ⊢
        refine ⟨S1, g1.rst, ?_⟩
        cases en : vb S1 with
        | no => rw [en] at q; exact q.elim
        | ex k S2 => rw [en] at q; exact q
        | ok y S2 =>
          rw [en] at q
          exact fun w H2 g2 r2 => q w H2 (g1.trans g2) (r2.cast g1.dm)
theorem a_or (ha : AE X F E a va) (hb : AE X F E (.BoolOp .Or (b :: rest) pos) vb) : AE X F E (.BoolOp .Or (a :: b :: rest) pos) (Rc.eOr va vb) := by
  refine PE_imp (pe_or ha hb) fun σ H Q ⟨S, st, q⟩ => ⟨S, st, ?_⟩
  unfold Rc.eOr Rc.tB at q
  cases em : va S with
  | no => rw [em] at q; exact q.elim
  | ex k S1 => rw [em] at q; exact q
  | ok r S1 =>
    rw [em] at q
    intro v H1 g1 rr
    match r, q, rr with
    | .val (.bool x), q, rr =>
      refine ⟨x, rr, ?_⟩
      simp only [Res.bind, asB] at q
      cases x with
      | true =>
        simp only [if_true] at q ⊢
        exact q _ H1 g1 rfl
      | false =>
        simp only [Bool.false_eq_true, if_false] at q ⊢
        refine ⟨S1, g1.rst, ?_⟩
        cases en : vb S1 with
        | no => rw [en] at q; exact q.elim
        | ex k S2 => rw [en] at q; exact q
        | ok y S2 =>
          rw [en] at q
          exact fun w H2 g2 r2 => q w H2 (g1.trans g2) (r2.cast g1.dm)
theorem a_if (hc : AT X F E c mc) (ha : AE X F E a va) (hb : AE X F E b vb) : AE X F E (.IfExp c a b pos) (Rc.eIf mc va vb) := by
  refine PE_imp (pe_ifExp hc ha hb) fun σ H Q ⟨S, st, q⟩ => ⟨S, st, ?_⟩
  unfold Rc.eIf at q
  cases em : mc S with
  | no => rw [em] at q; exact q.elim
  | ex k S1 => rw [em] at q; exact q
  | ok x S1 =>
    rw [em] at q
    simp only [Res.bind] at q
    intro H1 g1
    cases x with
    | true =>
      simp only [if_true] at q ⊢
      refine ⟨S1, g1.rst, ?_⟩
      cases en : va S1 with
      | no => rw [en] at q; exact q.elim
      | ex k S2 => rw [en] at q; exact q
      | ok y S2 =>
        rw [en] at q
        exact fun w H2 g2 r2 => q w H2 (g1.trans g2) (r2.cast g1.dm)
    | false =>
      simp only [Bool.false_eq_true, if_false] at q ⊢
      refine ⟨S1, g1.rst, ?_⟩
      cases en : vb S1 with
      | no => rw [en] at q; exact q.elim
      | ex k S2 => rw [en] at q; exact q
      | ok y S2 =>
        rw [en] at q
        exact fun w H2 g2 r2 => q w H2 (g1.trans g2) (r2.cast g1.dm)

/-! ### a op b op' c -/
theorem Rep.flat_any {K : PySem.W.Frag} {mg : Str → Option Value} {H H' : Hp} {d : D} {v : V} (f : flat d = true) (h : Rep K mg H d v) : Rep K mg H' d v := by
  cases d with
  | none => exact h
  | bool _ => exact h
  | int _ => exact h
  | str _ => exact h
  | list _ => cases f
  | tuple _ => cases f
  | dict _ => cases f
/-- an operand that gives a plain value -/
def tOfF (K : PySem.W.Frag) (mg : Str → Option Value) (F : Fx) (E : XK) (m : M D) : TE := fun σ H Q => ∃ S, RSt K mg F σ H S ∧ match m S with
  | .ok d S' => ∀ v H', Go K mg F σ S H S' H' → flat d = true → Rep K mg H' d v → Q v H'
  | .ex e S' => ∀ cls d H', RSt K mg F σ H' S' → RepE mg e cls d H' → E cls d H'
  | .no => False
theorem af_of {e : Expr} {o : Od} (h : AO X F E e o) : PE X e (tOfF X.K X.mg F E (evS o)) := by
  refine PE_imp h fun σ H Q ⟨S, st, q⟩ => ?_
  cases o with
  | e m =>
    refine ⟨S, st, ?_⟩
    simp only [evS] at q
    cases em : m S with
    | no => rw [em] at q; exact q.elim
    | ex k S1 => rw [em] at q; exact q
    | ok r S1 =>
      rw [em] at q
      intro v H' g rr
      match r, q, rr with
      | .val d, q, rr =>
        simp only [Res.bind] at q
        cases fd : flat d with
        | false => rw [fd] at q; exact q.elim
        | true => rw [fd] at q; exact q v H' g fd rr
  | v i =>
    simp only [evS] at q
    cases es : S[i]? with
    | none => rw [es] at q; exact q.elim
    | some s =>
      rw [es] at q
      match s, es, q with
      | .val d, es, q =>
        obtain ⟨v, ev, rv⟩ := st.at_ i _ es
        simp only at q
        cases fd : flat d with
        | false => rw [fd] at q; exact q.elim
        | true => rw [fd] at q; exact ⟨v, ev, q v H (Go.refl st) fd rv⟩
theorem chain_imp {K : PySem.W.Frag} {mg : Str → Option Value} {f g : D → D → Option Sv} {r r' : R2} {oa ob oc : Od} (hf : Op2 K mg f r) (hg : Op2 K mg g r') : ∀ σ H Q, tOf K mg F E (eChain f g oa ob oc) σ H Q →
    tChain r r' (tOfF K mg F E (evS oa)) (tOfF K mg F E (evS ob)) (tOfF K mg F E (evS oc)) σ H Q := by
  intro σ H Q ⟨S, st, q⟩
  refine ⟨S, st, ?_⟩
  unfold eChain at q
  cases ea : evS oa S with
  | no => rw [ea] at q; exact q.elim
  | ex k S1 => rw [ea] at q; exact q
  | ok x S1 =>
    rw [ea] at q
    simp only [Res.bind] at q
    intro v1 H1 g1 f1 r1
    refine ⟨S1, g1.rst, ?_⟩
    cases eb : evS ob S1 with
    | no => rw [eb] at q; exact q.elim
    | ex k S2 => rw [eb] at q; exact q
    | ok y S2 =>
      rw [eb] at q
      simp only at q
      intro v2 H2 g2 f2 r2
      cases ef : f x y with
      | none => rw [ef] at q; exact q.elim
      | some res =>
        rw [ef] at q
        refine hf H2 v1 v2 x y res _ ef (.inl (Rep.flat_any f1 r1)) (.inl r2) fun z H3 sm rr => ?_
        have g12 := (g1.trans g2).trans (Go.of_same g2.rst sm)
        match res, q, rr with
        | .val (.bool false), q, rr =>
          refine ⟨false, rr, ?_⟩
          simp only [Bool.false_eq_true, if_false] at q ⊢
          exact q _ H3 g12 rfl
        | .val (.bool true), q, rr =>
          refine ⟨true, rr, ?_⟩
          simp only [if_true] at q ⊢
          refine ⟨S2, g12.rst, ?_⟩
          cases ec : evS oc S2 with
          | no => rw [ec] at q; exact q.elim
          | ex k S3 => rw [ec] at q; exact q
          | ok w S3 =>
            rw [ec] at q
            simp only at q
            intro v3 H4 g3 f3 r3
            cases eg : g y w with
            | none => rw [eg] at q; exact q.elim
            | some res2 =>
              rw [eg] at q
              exact hg H4 v2 v3 y w res2 _ eg (.inl (Rep.flat_any f2 r2)) (.inl r3) fun z H5 sm2 rr2 => q z H5 ((g12.trans g3).trans (Go.of_same g3.rst sm2)) (rr2.cast (g12.trans g3).dm)
end
end Rc

/-! Rc: statements. -/
namespace Rc
open PySem PySem.Spec PyProof.Rows L2
variable [LamTbl]

section
variable {K : PySem.W.Frag} {mg : Str → Option Value} {F : Fx} {E : XK} {σ : St} {S S1 : Sl} {H H1 : Hp}
/-- a slot is stored -/
theorem RSt.store {i : Nat} {v : V} {s : Sv} (st : RSt K mg F σ H S) (hb : F.brw i = none) (hv : RSv K mg H (some (some v)) s)
    (hn : ∀ a, isMut s = true → v = .ref a → F.H0 a = none ∧ ¬ Owns σ S a) : RSt K mg F (σ.set i (some v)) H (S.set i s) := by
  have hl := st.len
  by_cases hi : i < S.length
  case neg =>
    rw [List.set_eq_of_length_le (by omega), List.set_eq_of_length_le (by omega)]
    exact st
  have hi2 : i < σ.length := by omega
  have at2 : ∀ (j : Nat) t, (S.set i s)[j]? = some t → (j = i ∧ t = s) ∨ (j ≠ i ∧ S[j]? = some t) := fun j t q => by
    by_cases hj : j = i
    · rw [hj, List.getElem?_set_self hi] at q
      exact .inl ⟨hj, (Option.some.inj q).symm⟩
    · rw [List.getElem?_set_ne (Ne.symm hj)] at q
      exact .inr ⟨hj, q⟩
  have si : (σ.set i (some v))[i]? = some (some v) := List.getElem?_set_self hi2
  have sj : ∀ j, j ≠ i → (σ.set i (some v))[j]? = σ[j]? := fun j hj => List.getElem?_set_ne (Ne.symm hj)
  refine ⟨by simp [hl], fun j t q => ?_, fun j k t u b q1 q2 m1 m2 e1 e2 => ?_, fun j t b q m e1 => ?_, fun j b q => ?_, st.frame, st.dom, st.mono, st.tabs⟩
  · rcases at2 j t q with ⟨rfl, rfl⟩ | ⟨hj, q⟩
    · rw [si]; exact hv
    · rw [sj j hj]; exact st.at_ j t q
  · rcases at2 j t q1 with ⟨hj, ht⟩ | ⟨hj, g1⟩
    · rcases at2 k u q2 with ⟨hk, hu⟩ | ⟨hk, g2⟩
      · rw [hj, hk]
      · exfalso
        rw [hj, si] at e1
        rw [sj k hk] at e2
        rw [ht] at m1
        exact (hn b m1 (Option.some.inj (Option.some.inj e1))).2 ⟨k, u, g2, m2, e2⟩
    · rcases at2 k u q2 with ⟨hk, hu⟩ | ⟨hk, g2⟩
      · exfalso
        rw [hk, si] at e2
        rw [sj j hj] at e1
        rw [hu] at m2
        exact (hn b m2 (Option.some.inj (Option.some.inj e2))).2 ⟨j, t, g1, m1, e1⟩
      · rw [sj j hj] at e1
        rw [sj k hk] at e2
        exact st.inj j k t u b g1 g2 m1 m2 e1 e2
  · rcases at2 j t q with ⟨rfl, rfl⟩ | ⟨hj, q⟩
    · rw [si] at e1
      exact .inr (hn b m (Option.some.inj (Option.some.inj e1))).1
    · rw [sj j hj] at e1
      exact st.ownd j t b q m e1
  · have hj : j ≠ i := fun z => by rw [z, hb] at q; cases q
    obtain ⟨h1, h2, ds, h3⟩ := st.lent j b q
    rw [sj j hj, List.getElem?_set_ne (Ne.symm hj)]
    exact ⟨h1, h2, ds, h3⟩
/-- .. with a passing value -/
theorem RSt.storeR {i : Nat} {v : V} {r : Sv} (st : RSt K mg F σ H S) (g : Go K mg F σ S H S1 H1) (hb : F.brw i = none) (rr : RepR K mg H H1 r v) : RSt K mg F (σ.set i (some v)) H1 (S1.set i r) := by
  have nw : ∀ a, H a = none → F.H0 a = none ∧ ¬ Owns σ S1 a := fun a n => ⟨by
    cases q : F.H0 a with
    | none => rfl
    | some u => exact absurd n (st.dom a (by rw [q]; exact fun z => by cases z)), fun z => st.fresh_not n (g.sub a z)⟩
  cases r with
  | un => exact rr.elim
  | val d => exact g.rst.store hb ⟨v, rfl, rr⟩ fun a m => by cases m
  | ow ds =>
    obtain ⟨a, rfl, n, x⟩ := rr
    exact g.rst.store hb x fun b _ e => by cases e; exact nw a n
  | dki ds =>
    obtain ⟨a, rfl, n, x⟩ := rr
    exact g.rst.store hb x fun b _ e => by cases e; exact nw a n
  | dkt ds =>
    obtain ⟨a, rfl, n, x⟩ := rr
    exact g.rst.store hb x fun b _ e => by cases e; exact nw a n
theorem RepR.toT {r : Sv} {v : V} (st : RSt K mg F σ H S) (h : RepR K mg H H1 r v) : RepT K mg F H1 r v := by
  have n0 : ∀ a, H a = none → F.H0 a = none := fun a n => by
    cases q : F.H0 a with
    | none => rfl
    | some u => exact absurd n (st.dom a (by rw [q]; exact fun z => by cases z))
  cases r with
  | un => exact h
  | val d => exact h
  | ow ds => obtain ⟨a, e, n, x⟩ := h; exact ⟨a, e, n0 a n, x⟩
  | dki ds => obtain ⟨a, e, n, x⟩ := h; exact ⟨a, e, n0 a n, x⟩
  | dkt ds => obtain ⟨a, e, n, x⟩ := h; exact ⟨a, e, n0 a n, x⟩
end

/-- what is wanted behind a statement's function -/
def OutS (K : PySem.W.Frag) (mg : Str → Option Value) (F : Fx) (E : XK) (C : Ends) (H : Hp) (o : Res Fl) : Prop := match o with
  | .ok .nx S' => ∀ σ' H', RSt K mg F σ' H' S' → Mono H H' → C.nx σ' H'
  | .ok (.rt r) S' => ∀ σ' v H', RSt K mg F σ' H' S' → RepT K mg F H' r v → C.rt v H'
  | .ok .bk S' => ∀ σ' H', RSt K mg F σ' H' S' → Mono H H' → C.bk σ' H'
  | .ok .ct S' => ∀ σ' H', RSt K mg F σ' H' S' → Mono H H' → C.ct σ' H'
  | .ex e S' => ∀ cls d σ' H', RSt K mg F σ' H' S' → RepE mg e cls d H' → E cls d H'
  | .no => False
theorem OutS.back {K : PySem.W.Frag} {mg : Str → Option Value} {F : Fx} {E : XK} {C : Ends} {H H1 : Hp} {o : Res Fl} (h : OutS K mg F E C H o) (m : Mono H H1) : OutS K mg F E C H1 o := by
  cases o with
  | no => exact h
  | ex e S => exact h
  | ok f S =>
    cases f with
    | nx => exact fun σ' H' r m2 => h σ' H' r (m.trans m2)
    | rt v => exact h
    | bk => exact fun σ' H' r m2 => h σ' H' r (m.trans m2)
    | ct => exact fun σ' H' r m2 => h σ' H' r (m.trans m2)
theorem tOfS_iff {K : PySem.W.Frag} {mg : Str → Option Value} {F : Fx} {E : XK} {m : M Fl} {C : Ends} {σ : St} {H : Hp} : tOfS K mg F E m C σ H ↔ ∃ S, RSt K mg F σ H S ∧ OutS K mg F E C H (m S) := Iff.rfl

section
variable {X : Cx} {F : Fx} {E : XK} {pos : Pos}
theorem as_nil : ASs X F E [] sPass := PSs_imp pss_nil fun D σ H ⟨S, st, q⟩ => q σ H st (Mono.refl H)
theorem as_cons {s : Stmt} {r : List Stmt} {a b : M Fl} (h1 : AS X F E s a) (h2 : ASs X F E r b) : ASs X F E (s :: r) (sSeq a b) := by
  refine PSs_imp (pss_cons h1 h2) fun D σ H ⟨S, st, q⟩ => ⟨S, st, ?_⟩
  have q : OutS X.K X.mg F E D H ((a S).bind fun f S1 => match f with | .nx => b S1 | f => .ok f S1) := q
  show OutS X.K X.mg F E { D with nx := tOfS X.K X.mg F E b D } H (a S)
  cases ea : a S with
  | no => rw [ea] at q; exact q
  | ex k S1 => rw [ea] at q; exact q
  | ok f S1 =>
    rw [ea] at q
    cases f with
    | nx => exact fun σ' H' r m => ⟨S1, r, q.back m⟩
    | rt v => exact q
    | bk => exact q
    | ct => exact q
theorem as_one {s : Stmt} {a : M Fl} (h1 : AS X F E s a) : ASs X F E [s] a := pss_one h1
theorem as_pass : AS X F E (.Pass pos) sPass := PS_imp ps_pass fun D σ H ⟨S, st, q⟩ => q σ H st (Mono.refl H)
theorem as_brk : AS X F E (.Break pos) (fun S => .ok .bk S) := PS_imp ps_break fun D σ H ⟨S, st, q⟩ => q σ H st (Mono.refl H)
theorem as_if {c : Expr} {a b : List Stmt} {mc : M Bool} {ma mb : M Fl} (hc : AT X F E c mc) (ha : ASs X F E a ma) (hb : ASs X F E b mb) : AS X F E (.If c a b pos) (sIf mc ma mb) := by
  refine PS_imp (ps_if hc ha hb) fun D σ H ⟨S, st, q⟩ => ⟨S, st, ?_⟩
  have q : OutS X.K X.mg F E D H ((mc S).bind fun x S1 => if x then ma S1 else mb S1) := q
  cases em : mc S with
  | no => rw [em] at q; exact q
  | ex k S1 => rw [em] at q; exact fun cls d H' r e => q cls d σ H' r e
  | ok x S1 =>
    rw [em] at q
    intro H1 g
    have m := g.mono st
    cases x with
    | true =>
      have q : OutS X.K X.mg F E D H (ma S1) := q
      simp only [if_true]
      exact ⟨S1, g.rst, q.back m⟩
    | false =>
      have q : OutS X.K X.mg F E D H (mb S1) := q
      simp only [Bool.false_eq_true, if_false]
      exact ⟨S1, g.rst, q.back m⟩
theorem as_ret {e : Expr} {m : M Sv} (h : AE X F E e m) : AS X F E (.Return (some e) pos) (sRet m) := by
  refine PS_imp (ps_ret h) fun D σ H ⟨S, st, q⟩ => ⟨S, st, ?_⟩
  have q : OutS X.K X.mg F E D H ((m S).bind fun r S1 => .ok (.rt r) S1) := q
  cases em : m S with
  | no => rw [em] at q; exact q
  | ex k S1 => rw [em] at q; exact fun cls d H' r e => q cls d σ H' r e
  | ok r S1 =>
    rw [em] at q
    exact fun v H' g rr => q σ v H' g.rst (rr.toT st)
theorem as_retN : AS X F E (.Return none pos) (sRet (eLit .none)) := PS_imp ps_retN fun D σ H ⟨S, st, q⟩ => q σ .non H st rfl
/-- return x, x a name that is no list that the def was lent -/
theorem as_retV {i : Nat} {x : Str} {p : Pos} (hb : F.brw i = none) (hN : X.N[i]? = some x) (hv : Vis X.env.scope x) (hd : (x == ("__debug__" : Str)) = false := by decide) (hcd : (x == ("__classdict__" : Str)) = false := by decide) : AS X F E (.Return (some (.Name x p)) pos) (sRetV i) := by
  refine PS_imp (ps_ret (pe_var hN hv hd hcd)) fun D σ H ⟨S, st, q⟩ => ?_
  have q : OutS X.K X.mg F E D H (match S[i]? with | some (.val d) => .ok (.rt (.val d)) S | some (.ow ds) => .ok (.rt (.ow ds)) S | _ => .no) := q
  cases e : S[i]? with
  | none => rw [e] at q; exact q.elim
  | some s =>
    rw [e] at q
    have z := st.at_ i s e
    match s, e, q, z with
    | .val d, e, q, z =>
      obtain ⟨v, ev, rv⟩ := z
      exact ⟨v, ev, q σ v H st rv⟩
    | .ow ds, e, q, z =>
      obtain ⟨a, xs, ev, eH, rl⟩ := z
      refine ⟨.ref a, ev, q σ _ H st ⟨a, rfl, ?_, a, xs, rfl, eH, rl⟩⟩
      rcases st.ownd i _ a e rfl ev with w | w
      · rw [hb] at w; cases w
      · exact w
theorem as_set {i : Nat} {x : Str} {e : Expr} {m : M Sv} {p : Pos} (hb : F.brw i = none) (hN : X.N.Nodup) (hi : X.N[i]? = some x) (hx : Loc X.env.scope x) (he : AE X F E e m) (hs : swapsWith e (some (.Name x p)) pos.line X.env = pure false := by rfl)
    (hf : X.fn x = true ∨ X.env.scope.names.lookup x = some .local := by first | exact .inl rfl | exact .inr rfl | assumption) : AS X F E (.Assign [.Name x p] e pos) (sSet i m) := by
  refine PS_imp (ps_set hN hi hx he hs hf) fun D σ H ⟨S, st, q⟩ => ⟨S, st, ?_⟩
  have q : OutS X.K X.mg F E D H ((m S).bind fun r S1 => match r with | .un => .no | r => .ok .nx (S1.set i r)) := q
  cases em : m S with
  | no => rw [em] at q; exact q
  | ex k S1 => rw [em] at q; exact fun cls d H' r e => q cls d σ H' r e
  | ok r S1 =>
    rw [em] at q
    intro v H' g rr
    have fin := st.storeR g hb rr
    cases r with
    | un => exact rr.elim
    | val d => exact q _ H' fin (g.mono st)
    | ow d => exact q _ H' fin (g.mono st)
    | dki d => exact q _ H' fin (g.mono st)
    | dkt d => exact q _ H' fin (g.mono st)
theorem as_drop {e : Expr} {m : M Sv} (he : AE X F E e m) (hs : swapsWith e none pos.line X.env = pure false := by rfl) : AS X F E (.Expr e pos) (sDrop m) := by
  refine PS_imp (ps_expr he hs) fun D σ H ⟨S, st, q⟩ => ⟨S, st, ?_⟩
  have q : OutS X.K X.mg F E D H ((m S).bind fun _ S1 => .ok .nx S1) := q
  cases em : m S with
  | no => rw [em] at q; exact q
  | ex k S1 => rw [em] at q; exact fun cls d H' r e => q cls d σ H' r e
  | ok r S1 =>
    rw [em] at q
    exact fun v H' g _ => q σ H' g.rst (g.mono st)

/-! ### an own list is written -/
theorem RSt.write {K : PySem.W.Frag} {mg : Str → Option Value} {σ : St} {S : Sl} {H : Hp} {i : Nat} {a : Addr} {ds es : List D} {ys : List V} (st : RSt K mg F σ H S) (e : S[i]? = some (.ow ds)) (ea : σ[i]? = some (some (.ref a))) (rp : RepL K mg H es ys) :
    RSt K mg F σ (upd H a (.lst ys)) (S.set i (.ow es)) ∧ Mono H (upd H a (.lst ys)) := by
  have ow : Owns σ S a := ⟨i, _, e, rfl, ea⟩
  have hi : i < S.length := (List.getElem?_eq_some_iff.mp e).1
  obtain ⟨b, xs, e1, eH, rl⟩ := st.at_ i _ e
  rw [ea] at e1
  cases e1
  have tb : TbM H (upd H a (.lst ys)) := TbM.upd eH nT.lst lst_ne
  have keep : Keep σ S H (upd H a (.lst ys)) := ⟨fun b u h _ n => by
    rw [upd_ne (show b ≠ a from fun z => n (z ▸ ow))]
    exact h, tb⟩
  have mo : Mono H (upd H a (.lst ys)) := st.keep_mono keep
  have dm : ∀ b, H b ≠ none → upd H a (.lst ys) b ≠ none := fun b n => by
    by_cases hb : b = a
    · rw [hb, upd_same]; exact fun z => by cases z
    · rw [upd_ne hb]; exact n
  have at2 : ∀ (j : Nat) s, (S.set i (.ow es))[j]? = some s → (j = i ∧ s = .ow es) ∨ (j ≠ i ∧ S[j]? = some s) := fun j s q => by
    by_cases hj : j = i
    · rw [hj, List.getElem?_set_self hi] at q
      exact .inl ⟨hj, (Option.some.inj q).symm⟩
    · rw [List.getElem?_set_ne (Ne.symm hj)] at q
      exact .inr ⟨hj, q⟩
  have old : ∀ (j : Nat) s, (S.set i (.ow es))[j]? = some s → isMut s = true → ∃ t, S[j]? = some t ∧ isMut t = true := fun j s q m => by
    rcases at2 j s q with ⟨rfl, rfl⟩ | ⟨_, q⟩
    · exact ⟨_, e, rfl⟩
    · exact ⟨s, q, m⟩
  refine ⟨⟨by rw [List.length_set]; exact st.len, fun j s q => ?_, fun j k s t b q1 q2 m1 m2 e1 e2 => ?_, fun j s b q m e1 => ?_, fun j b q => ?_, fun b u q t n => ?_, fun b n => dm b (st.dom b n), st.mono.trans mo, st.tabs.trans tb⟩, mo⟩
  · rcases at2 j s q with ⟨rfl, rfl⟩ | ⟨hj, q⟩
    · exact ⟨a, ys, ea, upd_same, RepL.mono mo es rp⟩
    · refine (st.at_ j s q).mono mo fun b m e1 => ?_
      rw [upd_ne]
      rintro rfl
      exact hj (st.inj j i s _ _ q e m rfl e1 ea)
  · obtain ⟨s', g1, n1⟩ := old j s q1 m1
    obtain ⟨t', g2, n2⟩ := old k t q2 m2
    exact st.inj j k s' t' b g1 g2 n1 n2 e1 e2
  · obtain ⟨s', g1, n1⟩ := old j s q m
    exact st.ownd j s' b g1 n1 e1
  · obtain ⟨h1, h2, fs, h3⟩ := st.lent j b q
    refine ⟨h1, h2, ?_⟩
    by_cases hj : j = i
    · exact ⟨es, .inl (by rw [hj, List.getElem?_set_self hi])⟩
    · exact ⟨fs, by rw [List.getElem?_set_ne (Ne.symm hj)]; exact h3⟩
  · by_cases hb : b = a
    · subst hb
      rcases st.ownd i _ b e rfl ea with z | z
      · exact absurd z (n i)
      · rw [z] at q; cases q
    · rw [upd_ne hb]; exact st.frame b u q t n
/-- x[k] = e -/
theorem as_setIx {i : Nat} {x : Str} {k e : Expr} {mk m : M Sv} {p p2 : Pos} (he : AE X F E e m) (hk : AE X F E k mk) (hN : X.N[i]? = some x) (hv : Vis X.env.scope x) (hd : (x == ("__debug__" : Str)) = false := by decide) (hcd : (x == ("__classdict__" : Str)) = false := by decide)
    (ha : ∀ v, assign (.Subscript (.Name x p) k p2) X.env v = (do
      let ov ← holding [v] (eval (.Name x p) X.env)
      let iv ← holding [v, ov] (eval k X.env)
      standAt p2
      holding [v, ov, iv] (setItem ov iv v)
      release [v, ov, iv] []) := by intro _; rfl)
    (hs : swapsWithSole [.Subscript (.Name x p) k p2] e pos.line X.env = pure false := by rfl) (hw : swappedStores [.Subscript (.Name x p) k p2] e X.env = pure none := by rfl)
    (h1 : (assignEach [.Subscript (.Name x p) k p2] X.env).map (·.2) = [assign (.Subscript (.Name x p) k p2) X.env] := by rfl) : AS X F E (.Assign [.Subscript (.Name x p) k p2] e pos) (sSetIx i mk m) := by
  refine PS_imp (ps_asg (a_fz he) (pg_sub (pe_var hN hv hd hcd) hk set_list ha) hs hw h1) fun D σ H ⟨S, st, q⟩ => ⟨S, st, ?_⟩
  have q : OutS X.K X.mg F E D H ((datum m S).bind fun d S1 => if (rd S1 i).isSome then (mk S1).bind fun j S2 => match j, S2[i]? with
    | .val (.int j), some (.ow ds) => (match L2.ixN ds.length j with
      | some j => .ok .nx (S2.set i (.ow (ds.set j d)))
      | none => .no)
    | _, _ => .no else .no) := q
  rw [eFz_datum]
  cases em : datum m S with
  | no => rw [em] at q; exact q
  | ex k S1 => rw [em] at q; exact fun cls d H' r e => q cls d σ H' r e
  | ok d S1 =>
    rw [em] at q
    simp only [Res.bind] at q ⊢
    intro v H1 g1 rv
    cases e0 : rd S1 i with
    | none => rw [e0] at q; exact q.elim
    | some d0 =>
      rw [e0] at q
      simp only [Option.isSome_some, if_true] at q
      obtain ⟨xv, exv, _⟩ := RSt.rd g1.rst e0
      refine ⟨xv, exv, S1, g1.rst, ?_⟩
      cases ek : mk S1 with
      | no => rw [ek] at q; exact q.elim
      | ex k S2 => rw [ek] at q; exact fun cls d H' r e => q cls d σ H' r e
      | ok z S2 =>
        rw [ek] at q
        simp only at q
        intro kv H2 g2 rk
        match z, q, rk with
        | .val (.int j), q, rk =>
          cases es : S2[i]? with
          | none => rw [es] at q; exact q.elim
          | some s =>
            rw [es] at q
            match s, es, q with
            | .ow ds, es, q =>
              simp only at q
              cases ej : L2.ixN ds.length j with
              | none => rw [ej] at q; exact q.elim
              | some n =>
                rw [ej] at q
                obtain ⟨a, xs, ea, eH, rl⟩ := g2.rst.at_ i _ es
                rw [exv] at ea
                cases ea
                refine ⟨a, xs, j, n, rfl, rk, eH, by rw [rl.length]; exact ej, ?_⟩
                obtain ⟨w1, w2⟩ := RSt.write (es := ds.set n d) (ys := xs.set n v) g2.rst es exv (RepL.set n rl (Rep.mono (g2.mono g1.rst) d rv))
                exact q σ _ w1 (((g1.trans g2).mono st).trans w2)
/-- x.append(e) -/
theorem as_app {i : Nat} {x : Str} {e : Expr} {m : M Sv} {p p2 p3 : Pos} (he : AE X F E e m) (hN : X.N[i]? = some x) (hv : Vis X.env.scope x) (hd : (x == ("__debug__" : Str)) = false := by decide) (hcd : (x == ("__classdict__" : Str)) = false := by decide)
    (hbase : attributeBase (.Name x p) "append" X.env (eval (.Name x p) X.env) = eval (.Name x p) X.env := by rfl)
    (hfew : ((backTo p3 (starEach (e :: []) X.env)).all (fun x => !x.1) && (backToKw p3 (keywordEach [] X.env)).all (fun x => x.1.isSome)
      && decide ((e :: []).length + ([] : List Keyword).length + (if ([] : List Keyword).isEmpty then 0 else 1) < 30)) = true := by rfl)
    (hline : (p2.endLine == p3.line) = true := by rfl) (hst : starEach (e :: []) X.env = (false, eval e X.env) :: starEach [] X.env := by rfl) (hplain : (backTo p3 (starEach [] X.env)).any (·.1) = false := by rfl)
    (hs : swapsWith (.Call (.Attribute (.Name x p) "append" p2) [e] [] p3) none pos.line X.env = pure false := by rfl) : AS X F E (.Expr (.Call (.Attribute (.Name x p) "append" p2) [e] [] p3) pos) (sApp i m) := by
  refine PS_imp (ps_expr (pe_bm PySem.F.plainAttrs_list PySem.F.slot_list_append PySem.F.type_list_append mt_append (pe_var hN hv hd hcd) (pa_cons (a_fz he) pa_nil hst) hbase hfew hline hst hplain) hs) fun D σ H ⟨S, st, q⟩ => ?_
  have q : OutS X.K X.mg F E D H (if isOw S i then (datum m S).bind fun d S1 => match S1[i]? with
    | some (.ow ds) => if ds.length < 16777216 then .ok .nx (S1.set i (.ow (ds ++ [d]))) else .no
    | _ => .no
    else .no) := q
  unfold isOw at q
  cases es : S[i]? with
  | none => rw [es] at q; exact q.elim
  | some s =>
    rw [es] at q
    match s, es, q with
    | .ow ds0, es, q =>
      obtain ⟨a, xs0, ea, eH0, _⟩ := st.at_ i _ es
      refine ⟨.ref a, ea, .inl ⟨rfl, _, SqL.of eH0⟩, S, st, ?_⟩
      simp only [if_true] at q
      rw [eFz_datum]
      cases em : datum m S with
      | no => rw [em] at q; exact q
      | ex k S1 => rw [em] at q; exact fun cls d H' r e => q cls d σ H' r e
      | ok d S1 =>
        rw [em] at q
        simp only [Res.bind] at q ⊢
        intro v H1 g1 rv
        cases e1 : S1[i]? with
        | none => rw [e1] at q; exact q.elim
        | some s1 =>
          rw [e1] at q
          match s1, e1, q with
          | .ow ds, e1, q =>
            simp only at q
            obtain ⟨b, xs, eb, eH, rl⟩ := g1.rst.at_ i _ e1
            rw [ea] at eb
            cases eb
            by_cases hl : ds.length < 16777216
            · rw [if_pos hl] at q
              refine ⟨a, xs, v, rfl, rfl, eH, by rw [rl.length, sizeLine_eq]; omega, ?_⟩
              obtain ⟨w1, w2⟩ := RSt.write (es := ds ++ [d]) (ys := xs ++ [v]) g1.rst e1 ea (RepL.append rl (RepL.one rv))
              exact q σ _ w1 ((g1.mono st).trans w2)
            · rw [if_neg hl] at q
              exact q.elim
end
/-- a statement that the run never reaches -/
def sNo : M Fl := fun _ => .no
theorem as_no {X : Cx} {F : Fx} {E : XK} {st : Stmt} : AS X F E st sNo := ⟨fun _ _ _ _ _ _ ⟨_, _, q⟩ => q.elim⟩
end Rc

/-! Rc: targets, what is walked, loops, comprehensions. -/
namespace Rc
open PySem PySem.Spec PyProof.Rows L2
variable [LamTbl]

/-! ### targets -/
mutual
def Pat.sl : Pat → List Nat
  | .n i => [i]
  | .t ps => Pat.sls ps
def Pat.sls : List Pat → List Nat
  | [] => []
  | p :: ps => Pat.sl p ++ Pat.sls ps
end
section
variable (K : PySem.W.Frag) (mg : Str → Option Value)
/-- behind a store: the slots of p alone are changed -/
structure Put (F : Fx) (p : List Nat) (σ : St) (H : Hp) (S' : Sl) (σ' : St) : Prop where
  rst : RSt K mg F σ' H S'
  len : σ'.length = σ.length
  out : ∀ j, j ∉ p → σ'[j]? = σ[j]?
def gOf (F : Fx) (p : Pat) : TG := fun v σ H Q => ∃ S d S', RSt K mg F σ H S ∧ Rep K mg H d v ∧ p.put d S = some S' ∧ ∀ σ', Put K mg F p.sl σ H S' σ' → Q σ' H
def gsOf (F : Fx) (ps : List Pat) : TGs := fun vs σ H Q => ∃ S ds S', RSt K mg F σ H S ∧ RepL K mg H ds vs ∧ Pat.puts ps ds S = some S' ∧ ∀ σ', Put K mg F (Pat.sls ps) σ H S' σ' → Q σ' H
end
theorem PG_imp {X : Cx} {e : Expr} {t t' : TG} (h : PG X e t) (i : ∀ v σ H Q, t' v σ H Q → t v σ H Q) : PG X e t' := ⟨fun pins s σ H v u Q I r hw => h.run pins s σ H v u Q I r (i v σ H Q hw)⟩
theorem PGs_imp {X : Cx} {e : List Expr} {t t' : TGs} (h : PGs X e t) (i : ∀ v σ H Q, t' v σ H Q → t v σ H Q) : PGs X e t' := ⟨fun pins s σ H v u Q I r hw => h.run pins s σ H v u Q I r (i v σ H Q hw)⟩
abbrev AG (X : Cx) (F : Fx) (e : Expr) (p : Pat) : Prop := PG X e (gOf X.K X.mg F p)
abbrev AGs (X : Cx) (F : Fx) (e : List Expr) (p : List Pat) : Prop := PGs X e (gsOf X.K X.mg F p)
section
variable {X : Cx} {F : Fx} {pos : Pos}
theorem Put.trans {K : PySem.W.Frag} {mg : Str → Option Value} {p q : List Nat} {σ σ1 σ2 : St} {H : Hp} {S1 S2 : Sl} (a : Put K mg F p σ H S1 σ1) (b : Put K mg F q σ1 H S2 σ2) : Put K mg F (p ++ q) σ H S2 σ2 :=
  ⟨b.rst, b.len.trans a.len, fun j hj => (b.out j fun z => hj (List.mem_append_right _ z)).trans (a.out j fun z => hj (List.mem_append_left _ z))⟩
theorem ag_name {i : Nat} {x : Str} (hb : F.brw i = none) (hN : X.N.Nodup) (hi : X.N[i]? = some x) (hx : Loc X.env.scope x) (hf : X.fn x = true ∨ X.env.scope.names.lookup x = some .local := by first | exact .inl rfl | exact .inr rfl | assumption) :
    AG X F (.Name x pos) (.n i) := by
  refine PG_imp (pg_name hN hi hx hf) fun v σ H Q ⟨S, d, S', st, rv, e, q⟩ => ?_
  simp only [Pat.put, Option.some.injEq] at e
  subst e
  refine q _ ⟨st.store hb ⟨v, rfl, rv⟩ (fun a m => by cases m), by simp, fun j hj => List.getElem?_set_ne ?_⟩
  intro z
  exact hj (by rw [z]; simp [Pat.sl])
theorem ags_nil : AGs X F [] [] := by
  refine PGs_imp pgs_nil fun vs σ H Q ⟨S, ds, S', st, rv, e, q⟩ => ?_
  cases ds with
  | nil =>
    simp only [Pat.puts, Option.some.injEq] at e
    subst e
    exact ⟨rv, q σ ⟨st, rfl, fun _ _ => rfl⟩⟩
  | cons d ds => simp [Pat.puts] at e
theorem ags_cons {e : Expr} {es : List Expr} {p : Pat} {ps : List Pat} (h1 : AG X F e p) (h2 : AGs X F es ps)
    (hs : (assignEach (e :: es) X.env).map (·.2) = assign e X.env :: (assignEach es X.env).map (·.2) := by rfl) : AGs X F (e :: es) (p :: ps) := by
  refine PGs_imp (pgs_cons h1 h2 hs) fun vs σ H Q ⟨S, ds, S', st, rv, e, q⟩ => ?_
  cases ds with
  | nil => simp [Pat.puts] at e
  | cons d ds =>
    obtain ⟨v, vs', rfl, r1, r2⟩ := rv
    cases ep : p.put d S with
    | none => simp [Pat.puts, ep] at e
    | some S1 =>
      simp only [Pat.puts, ep, Option.bind_some] at e
      exact ⟨v, vs', rfl, S, d, S1, st, r1, ep, fun σ1 u1 => ⟨S1, ds, S', u1.rst, r2, e, fun σ2 u2 => q σ2 (u1.trans u2)⟩⟩
theorem pg_or {e : Expr} {t t' : TG} (h : PG X e t) (h' : PG X e t') : PG X e (fun v σ H Q => t v σ H Q ∨ t' v σ H Q) := ⟨fun pins s σ H v u Q I r hw => by
  rcases hw with hw | hw
  · exact h.run pins s σ H v u Q I r hw
  · exact h'.run pins s σ H v u Q I r hw⟩
theorem puts_len : ∀ {ps : List Pat} {ds : List D} {S S' : Sl}, Pat.puts ps ds S = some S' → ds.length = ps.length
  | [], [], _, _, _ => rfl
  | [], _ :: _, _, _, h => by simp [Pat.puts] at h
  | _ :: _, [], _, _, h => by simp [Pat.puts] at h
  | p :: ps, d :: ds, S, S', h => by
    cases ep : p.put d S with
    | none => simp [Pat.puts, ep] at h
    | some S1 =>
      simp only [Pat.puts, ep, Option.bind_some] at h
      rw [List.length_cons, List.length_cons, puts_len h]
theorem ag_tup {es : List Expr} {k : Nat} {ps : List Pat} (hc : X.calm = true) (h : AGs X F es ps) (hn : (assignEach es X.env).length = ps.length := by rfl) (hst : (assignEach es X.env).findIdx? (·.1) = none := by rfl) : AG X F (.Tuple es k pos) (.t ps) := by
  refine PG_imp (pg_or (pg_tup (n := ps.length) hc h hn hst) (pg_lst (n := ps.length) hc h hn hst)) fun v σ H Q ⟨S, d, S', st, rv, e, q⟩ => ?_
  cases d with
  | tuple ds =>
    obtain ⟨a, xs, rfl, sa, ra⟩ := rv
    have e : Pat.puts ps ds S = some S' := e
    exact .inl ⟨a, xs, rfl, sa, by rw [ra.length]; exact puts_len e, S, ds, S', st, ra, e, q⟩
  | list ds =>
    obtain ⟨a, xs, rfl, sa, ra⟩ := rv
    have e : Pat.puts ps ds S = some S' := e
    exact .inr ⟨a, xs, rfl, sa.sq, by rw [ra.length]; exact puts_len e, S, ds, S', st, ra, e, q⟩
  | none => simp [Pat.put] at e
  | bool _ => simp [Pat.put] at e
  | int _ => simp [Pat.put] at e
  | str _ => simp [Pat.put] at e
  | dict _ => simp [Pat.put] at e
end

/-! ### what is walked -/
/-- J yields the items ds, from H0 on -/
structure Wk (K : PySem.W.Frag) (mg : Str → Option Value) (J : It) (H0 : Hp) (ds : List D) : Prop where
  go : ∀ i H, Mono H0 H → i < ds.length → J.go i H
  stop : ∀ H, Mono H0 H → J.stop ds.length H
  yld : ∀ i H x H', Mono H0 H → i < ds.length → J.yld i H x H' → Same H H' ∧ ∃ d, ds[i]? = some d ∧ Rep K mg H' d x
  size : ds.length ≤ sizeLine
/-- .. at one state -/
structure WkAt (K : PySem.W.Frag) (mg : Str → Option Value) (J : It) (ds : List D) (H : Hp) : Prop where
  go : ∀ i, i < ds.length → J.go i H
  stop : J.stop ds.length H
  yld : ∀ i x H', i < ds.length → J.yld i H x H' → Same H H' ∧ ∃ d, ds[i]? = some d ∧ Rep K mg H' d x
theorem Wk.at {K : PySem.W.Frag} {mg : Str → Option Value} {J : It} {H0 H : Hp} {ds : List D} (w : Wk K mg J H0 ds) (m : Mono H0 H) : WkAt K mg J ds H := ⟨fun i h => w.go i H m h, w.stop H m, fun i x H' h y => w.yld i H x H' m h y⟩
/-- as long as the check holds, and the slots sl are the same -/
def wOfN (K : PySem.W.Frag) (mg : Str → Option Value) (F : Fx) (E : XK) (w : M (List D)) (ck : Ck) (sl : List Nat) : TI := fun σ H R => ∃ S, RSt K mg F σ H S ∧ match w S with
  | .ok ds S' => ∀ J H', Go K mg F σ S H S' H' → (∀ σ2 S2 H2, (∀ j ∈ sl, σ2[j]? = σ[j]?) → RSt K mg F σ2 H2 S2 → Mono H' H2 → ck S' S2 = true → WkAt K mg J ds H2) → ds.length ≤ sizeLine → R J H'
  | .ex e S' => ∀ cls d H', RSt K mg F σ H' S' → RepE mg e cls d H' → E cls d H'
  | .no => False
def wOf (K : PySem.W.Frag) (mg : Str → Option Value) (F : Fx) (E : XK) (w : M (List D)) : TI := fun σ H R => ∃ S, RSt K mg F σ H S ∧ match w S with
  | .ok ds S' => ∀ J H', Go K mg F σ S H S' H' → Wk K mg J H' ds → R J H'
  | .ex e S' => ∀ cls d H', RSt K mg F σ H' S' → RepE mg e cls d H' → E cls d H'
  | .no => False
abbrev AI (X : Cx) (F : Fx) (E : XK) (tg iter : Expr) (w : M (List D)) : Prop := PI X tg iter (wOf X.K X.mg F E w)
abbrev AJ (X : Cx) (F : Fx) (E : XK) (tg iter : Expr) (w : M (List D)) (ck : Ck) (sl : List Nat) : Prop := PI X tg iter (wOfN X.K X.mg F E w ck sl)
theorem PI_imp {X : Cx} {tg e : Expr} {t t' : TI} (h : PI X tg e t) (i : ∀ σ H R, t' σ H R → t σ H R) : PI X tg e t' := ⟨fun pins s σ H R I hw => h.run pins s σ H R I (i σ H R hw)⟩
section
variable {X : Cx} {F : Fx} {E : XK} {pos : Pos} {tg : Expr}
/-- a list or a tuple; its length is handed on -/
def iSeq (K : PySem.W.Frag) (tl : TE) : TI := fun σ H R => tl σ H fun x H1 => ∃ a xs, x = .ref a ∧ ((SqL K H1 a xs ∧ (xs.length ≤ sizeLine → R (Itl K a) H1)) ∨ (SqT K H1 a xs ∧ (xs.length ≤ sizeLine → R (Itt K a) H1)))
theorem pi_seq {l : Expr} {tl : TE} (hl : PE X l tl) : PI X tg l (iSeq X.K tl) := by
  refine ⟨fun pins s σ H R I h => ?_⟩
  refine thn (hl.run pins s σ H _ I h) fun v s1 ⟨x, H1, I1, r1, a, xs, e, q⟩ => ?_
  subst e
  cases r1
  rcases q with ⟨hq, q⟩ | ⟨hq, q⟩
  · obtain ⟨its, rv, p, hz⟩ := I1.list hq
    refine wpAny_pyIter_list p.isList ?_
    refine ⟨s1.heap.objs.size, [s1.heap.objs.size], _, _, H1, rfl, I1.kept (t' := s1.toks) fun b o e => Heap.get?_push_of_some _ e, turn_list a _, ⟨_, Heap.get?_push_size _ rfl, rfl, rfl⟩, fun b hb => ?_, q hz⟩
    have e : b = s1.heap.objs.size := by simpa using hb
    subst e
    exact I1.fpOk (Nat.le_refl _) (I1.hok.fresh (Nat.le_refl _))
  · obtain ⟨its, rv, p, hz⟩ := I1.tuple hq
    refine wpAny_pyIter_tuple (show s1.heap.IsTuple a its.toArray from p) ?_
    refine ⟨s1.heap.objs.size, [s1.heap.objs.size], _, _, H1, rfl, I1.kept (t' := s1.toks) fun b o e => Heap.get?_push_of_some _ e, turn_tuple a _, ⟨_, Heap.get?_push_size _ rfl, rfl, rfl⟩, fun b hb => ?_, q hz⟩
    have e : b = s1.heap.objs.size := by simpa using hb
    subst e
    exact I1.fpOk (Nat.le_refl _) (I1.hok.fresh (Nat.le_refl _))
theorem wk_list {K : PySem.W.Frag} {mg : Str → Option Value} {H : Hp} {a : Addr} {xs : List V} {ds : List D} (s : FzL K H a xs) (r : RepL K mg H ds xs) (z : xs.length ≤ sizeLine) : Wk K mg (Itl K a) H ds where
  go := fun i H1 m h => by
    have h' : i < xs.length := by rw [r.length]; exact h
    exact ⟨xs, xs[i], (m.fzL s).sq, by simp [h']⟩
  stop := fun H1 m => ⟨xs, (m.fzL s).sq, by rw [r.length]; exact Nat.le_refl _⟩
  yld := fun i H1 x H' m h ⟨e, y⟩ => by
    subst e
    obtain ⟨d, e1, e2⟩ := RepL.getv r (y xs (m.fzL s).sq)
    exact ⟨Same.refl _, d, e1, Rep.mono m d e2⟩
  size := by rw [← r.length]; exact z
theorem wk_tup {K : PySem.W.Frag} {mg : Str → Option Value} {H : Hp} {a : Addr} {xs : List V} {ds : List D} (s : SqT K H a xs) (r : RepL K mg H ds xs) (z : xs.length ≤ sizeLine) : Wk K mg (Itt K a) H ds where
  go := fun i H1 m h => by
    have h' : i < xs.length := by rw [r.length]; exact h
    exact ⟨xs, xs[i], m.sqT s, by simp [h']⟩
  stop := fun H1 m => ⟨xs, m.sqT s, by rw [r.length]; exact Nat.le_refl _⟩
  yld := fun i H1 x H' m h ⟨e, y⟩ => by
    subst e
    obtain ⟨d, e1, e2⟩ := RepL.getv r (y xs (m.sqT s))
    exact ⟨Same.refl _, d, e1, Rep.mono m d e2⟩
  size := by rw [← r.length]; exact z
theorem ai_seq {e : Expr} {m : M Sv} (h : AE X F E e m) : AI X F E tg e (wSeq m) := by
  refine PI_imp (pi_seq (a_fz h)) fun σ H R ⟨S, st, q⟩ => ⟨S, st, ?_⟩
  simp only [wSeq] at q
  rw [eFz_datum]
  unfold datum
  cases em : m S with
  | no => rw [em] at q; exact q.elim
  | ex k S1 => rw [em] at q; exact q
  | ok r S1 =>
    rw [em] at q
    simp only [Res.bind] at q ⊢
    cases ed : toD r with
    | none => rw [ed] at q; exact q.elim
    | some d =>
      rw [ed] at q
      simp only [Option.bind_some] at q ⊢
      intro v H1 g rv
      cases d with
      | list ds =>
        obtain ⟨a, xs, rfl, s, r⟩ := rv
        exact ⟨a, xs, rfl, .inl ⟨s.sq, fun z => q _ H1 g (wk_list s r z)⟩⟩
      | tuple ds =>
        obtain ⟨a, xs, rfl, s, r⟩ := rv
        exact ⟨a, xs, rfl, .inr ⟨s, fun z => q _ H1 g (wk_tup s r z)⟩⟩
      | none => exact q.elim
      | bool _ => exact q.elim
      | int _ => exact q.elim
      | str _ => exact q.elim
      | dict _ => exact q.elim
theorem wk_rng {K : PySem.W.Frag} {mg : Str → Option Value} {H : Hp} (lo : Int) (n : Nat) (z : n ≤ sizeLine) : Wk K mg (Itr lo n) H (numsD lo n) where
  go := fun i H1 m h => by
    show i < n
    simpa [numsD] using h
  stop := fun H1 m => by
    show n ≤ (numsD lo n).length
    simp [numsD]
  yld := fun i H1 x H' m h ⟨e1, e2⟩ => by
    subst e1 e2
    have h' : i < n := by simpa [numsD] using h
    refine ⟨Same.refl _, .int (lo + i), ?_, rfl⟩
    unfold numsD
    rw [List.getElem?_map, List.getElem?_range h']
    rfl
  size := by simpa [numsD] using z
end
end Rc

/-! Rc: zip, enumerate over lists and tuples in any mix. -/
namespace Rc
open PySem PySem.Spec PyProof.Rows L2
variable [LamTbl]
/-! ### a source: a list (true) or a tuple (false) -/
def isIter : Bool → Heap → Addr → Addr → Nat → Prop
  | true, h, it, a, i => h.IsListIter it a i
  | false, h, it, a, i => h.IsTupleIter it a i
def isSrc : Bool → Heap → Addr → Array Value → Prop
  | true, h, a, items => h.IsList a items
  | false, h, a, items => h.IsTuple a items
def itObj : Bool → Addr → Obj
  | true, a => { cls := .type "list_iterator", data := .fields #[.ref a, .int 0 0] }
  | false, a => { cls := .type "tuple_iterator", data := .fields #[.ref a, .int 0 0] }
def SqA (K : PySem.W.Frag) : Bool → Hp → Addr → List V → Prop
  | true, H, a, xs => SqL K H a xs
  | false, H, a, xs => SqT K H a xs
theorem draws_k {prog : Program} {w : World} {A : Around} (hh : A.handled = none) (k : Bool) (it a : Addr) (hne : a ≠ it) (items : Array Value) :
    Draws prog w A it [it, a] items.size (fun i v => items[i]? = some v) (fun i h => isIter k h it a i ∧ isSrc k h a items) := by
  cases k with
  | true => exact Draws.list hh it a hne items
  | false => exact Draws.tuple hh it a hne items
theorem begins_k (k : Bool) (a : Addr) (items : Array Value) : Begins (.ref a) (itObj k a) fun h => isSrc k h a items := by
  cases k with
  | true => exact begins_list a items
  | false => exact begins_tuple a items
theorem isIter.live {k : Bool} {h : Heap} {it a : Addr} {i : Nat} (x : isIter k h it a i) : ∃ o, h.get? it = some o ∧ ∀ v, o.data ≠ .cell v := by
  cases k with
  | true => obtain ⟨o, e, _, d⟩ := x; exact ⟨o, e, fun v q => by rw [d] at q; cases q⟩
  | false => obtain ⟨o, e, _, d⟩ := x; exact ⟨o, e, fun v q => by rw [d] at q; cases q⟩
theorem isIter.at {k : Bool} {h h' : Heap} {it a : Addr} {i : Nat} (x : isIter k h it a i) (e : ∀ o, h.get? it = some o → h'.get? it = some o) : isIter k h' it a i := by
  cases k with
  | true => exact Heap.IsListIter.at x e
  | false => exact Heap.IsTupleIter.at x e
theorem isIter.new {k : Bool} {h : Heap} {it a : Addr} (e : h.get? it = some (itObj k a)) : isIter k h it a 0 := by
  cases k with
  | true => exact ⟨_, e, rfl, rfl⟩
  | false => exact ⟨_, e, rfl, rfl⟩
theorem isSrc.ne {k : Bool} {h : Heap} {it a : Addr} {i : Nat} {items : Array Value} (x : isSrc k h a items) (y : isIter k h it a i) : a ≠ it := by
  rintro rfl
  cases k with
  | true =>
    obtain ⟨o, e, c, n, d⟩ := x
    obtain ⟨o', e', c', d'⟩ := y
    rw [e] at e'
    cases e'
    rw [d] at d'
    cases d'
  | false =>
    obtain ⟨o, e, c, n, d⟩ := x
    obtain ⟨o', e', c', d'⟩ := y
    rw [e] at e'
    cases e'
    rw [d] at d'
    cases d'
theorem SqA.src {X : Cx} {pins : List (Addr × Obj)} {σ : St} {H : Hp} {s : Shared} {k : Bool} {a : Addr} {xs : List V} (I : Inv X pins σ H s) (h : SqA X.K k H a xs) : ∃ its : List Value, Vals xs its ∧ isSrc k s.heap a its.toArray ∧ xs.length ≤ sizeLine := by
  cases k with
  | true =>
    obtain ⟨its, r, p, z⟩ := I.list h
    exact ⟨its, r, p.isList, z⟩
  | false =>
    obtain ⟨its, r, p, z⟩ := I.tuple h
    exact ⟨its, r, p, z⟩
theorem SqA.inj {X : Cx} {pins : List (Addr × Obj)} {σ : St} {H : Hp} {s : Shared} {k : Bool} {a : Addr} {xs ys : List V} (I : Inv X pins σ H s) (h : SqA X.K k H a xs) (h' : SqA X.K k H a ys) : xs = ys := by
  cases k with
  | true => exact I.list_inj h h'
  | false => exact I.tuple_inj h h'

/-! ### enumerate -/
def ItE (K : PySem.W.Frag) (k : Bool) (a : Addr) : It :=
  ⟨fun i H => ∃ (xs : List V) (x : V), SqA K k H a xs ∧ xs[i]? = some x, fun i H v H' => ∃ T x, v = .ref T ∧ H T = none ∧ H' = upd H T (.tup [.int (i : Nat), x]) ∧ ∀ xs, SqA K k H a xs → xs[i]? = some x, fun i H => ∃ xs : List V, SqA K k H a xs ∧ xs.length = i⟩
theorem turn_E {P : Program} {w : World} {K : PySem.W.Frag} {elts : List Expr} {kk : Nat} {tpos : Pos} (k : Bool) (a e it : Addr) :
    Turn P w K (.Tuple elts kk tpos) (ItE K k a) [e, it] e (fun i h => (∃ old, IsEnum h e it ((i : Nat) : Int) old) ∧ isIter k h it a i ∧ e ≠ it) where
  mem := by simp
  obj := fun i h st b hb => by
    obtain ⟨⟨old, he⟩, hi, _⟩ := st
    have e' : b = e ∨ b = it := by simpa using hb
    rcases e' with z | z
    · rw [z]; exact ⟨_, he, fun v q => nomatch q⟩
    · rw [z]; exact hi.live
  keep := fun i h h' st k => let ⟨⟨old, he⟩, hi, hne⟩ := st; ⟨⟨old, k e (by simp) _ he⟩, hi.at fun o q => k it (by simp) o q, hne⟩
  item := by
    intro X hP hw hK hc i pins s σ H E I hf st hg
    subst hP hw hK
    obtain ⟨⟨old, he⟩, hit, hne⟩ := st
    obtain ⟨xs, x, hq, hx⟩ := hg
    obtain ⟨its, rv, p, hz⟩ := SqA.src I hq
    obtain ⟨u, hu, ru⟩ := rv.get hx
    have hel : e < s.heap.objs.size := Heap.lt_size he
    have hil : it < s.heap.objs.size := by obtain ⟨_, q, _⟩ := hit.live; exact Heap.lt_size q
    have hea : e ≠ a := by
      rintro rfl
      cases k with
      | true => obtain ⟨o, e1, c1, _⟩ := p; rw [he] at e1; cases e1; simp at c1
      | false => obtain ⟨o, e1, c1, _⟩ := p; rw [he] at e1; cases e1; simp at c1
    have D := draws_k (prog := X.prog) (w := X.w) (A := X.A.in1) (show X.A.in1.handled = none from I.ok.hd hc) k it a (p.ne hit) its.toArray
    have hlt : i < its.toArray.size := by rw [List.size_toArray]; exact (List.getElem?_eq_some_iff.mp hu).1
    refine wpAny_pyNext_enum_itemC D he ⟨hit, p⟩ hlt hne (by simp [hne, hea]) fun x' h' tk hx' ho hst hT hsz hk => ?_
    have ex : x' = u := by
      have : its.toArray[i]? = some u := by simpa using hu
      rw [hx'] at this
      exact Option.some.inj this
    subst ex
    refine ⟨_, rfl, wpAny_letOwnedTupleGo_enum (s := { s with heap := h', toks := tk + 1 }) ho fun h'' he' sb => ?_⟩
    have hT2 : h''.get? s.heap.objs.size = some { cls := .type "tuple", data := .seq #[.int i tk, x'] } := (sb.2 _ (Nat.ne_of_gt hel)).trans hT
    have new : ObjOk X.prog X.w (upd H s.heap.objs.size (.tup [.int (i : Nat), x])) h'' s.heap.objs.size (.tup [.int (i : Nat), x]) :=
      ⟨by show 2 ≤ sizeLine; decide, [.int i tk, x'], .cons ⟨_, rfl⟩ (.cons ru .nil), ⟨_, hT2, rfl, _, rfl⟩⟩
    have I1 : Inv X pins σ (upd H s.heap.objs.size (.tup [.int (i : Nat), x])) { s with heap := h'', toks := tk + 1 } :=
      I.turnedNew (ch := [e, it]) (fun b ob hb q => (sb.2 b (fun z => hb (by simp [z]))).trans (hk b ob (fun z => hb (by simp [z])) (fun z => hb (by simp [z])) q)) hf (Nat.le_refl _) new
    refine ⟨.ref s.heap.objs.size, _, I1, rfl, ⟨_, x, rfl, I.hok.fresh (Nat.le_refl _), rfl, fun ys hy => by rw [SqA.inj I hy hq]; exact hx⟩, ⟨⟨x', ?_⟩, hst.1.at fun o q => (sb.2 it (Ne.symm hne)).trans q, hne⟩, fun b hb => ?_⟩
    · have e1 : ((i + 1 : Nat) : Int) = (i : Int) + 1 := by omega
      rw [e1]; exact he'
    · have hb' : b < s.heap.objs.size := by
        have e' : b = e ∨ b = it := by simpa using hb
        rcases e' with z | z
        · rw [z]; exact hel
        · rw [z]; exact hil
      rw [upd_ne (Nat.ne_of_lt hb')]
      exact (hf b hb).1
  done := by
    intro X hP hw hK hc i pins s σ H E I hf st hg
    subst hP hw hK
    obtain ⟨⟨old, he⟩, hit, hne⟩ := st
    obtain ⟨xs, hq, hx⟩ := hg
    obtain ⟨its, rv, p, hz⟩ := SqA.src I hq
    obtain ⟨f0, f1, f2, f3, f4, f5⟩ := hf it (by simp)
    have hl := rv.length
    have D := draws_k (prog := X.prog) (w := X.w) (A := X.A.in1) (show X.A.in1.handled = none from I.ok.hd hc) k it a (p.ne hit) its.toArray
    have e1 : i = its.toArray.size := by rw [List.size_toArray]; omega
    rw [e1] at hit
    exact wpAny_pyNext_enum_endD D he ⟨hit, p⟩ fun h' eb => ⟨rfl, I.turned (t' := s.toks) (fun b o hb q => eb b o hb q) f0 f1 f3 f4 f5⟩
  self := fun A i s Q E st h => let ⟨⟨_, he⟩, _⟩ := st; wpAny_pyIter_enum he h
theorem meets_enum1 {v : Value} {o : Obj} {H : Heap → Prop} (B : Begins v o H) :
    Meets (Builtin.«enumerate.__new__» ⟨[.type "enumerate", v], []⟩) (fun _ R s => H s.heap ∧
      R (.ok (.ret (.ref (s.heap.push o).objs.size))) { s with heap := (s.heap.push o).push { cls := .type "enumerate", data := .fields #[.none, .bool false, .ref s.heap.objs.size, rawInt 0, .none, .none] } }) :=
  .of_wp fun prog w A R s h => by
    obtain ⟨hp, g, d, tk, os⟩ := s; obtain ⟨h1, h⟩ := h
    have hsub := sub_enumerate
    have q1 : ∀ {A' : Around} {E : Value → Shared → Prop} {Q : Value → Shared → Prop}, Q (.ref hp.objs.size) ⟨hp.push o, g, d, tk, os⟩ → wpAny (model prog w) A' (pyIter v) Q E ⟨hp, g, d, tk, os⟩ :=
      fun q => B.iter prog w _ _ ⟨hp, g, d, tk, os⟩ _ h1 q
    wp_walk using q1
    refine wpAny_stack_any fun st => wpAny_pure ?_
    split
    · rename_i c _ _ _ _ _
      cases (c == Value.type "enumerate")
      · wp_walk using q1
        exact ⟨_, rfl, h⟩
      · wp_walk using q1
        exact ⟨_, rfl, h⟩
    · wp_walk using q1
      exact ⟨_, rfl, h⟩
theorem enum1_begins {prog : Program} {w : World} {A : Around} {E : Value → Shared → Prop} {s : Shared} {v : Value} {o : Obj} {H : Heap → Prop} {Q : Value → Shared → Prop} (B : Begins v o H) (h1 : H s.heap)
    (h : ∀ h', IsEnum h' (s.heap.objs.size + 1) s.heap.objs.size 0 .none → h'.get? s.heap.objs.size = some o → h'.objs.size = s.heap.objs.size + 2 →
      (∀ b o, s.heap.get? b = some o → h'.get? b = some o) → Q (.ref (s.heap.objs.size + 1)) { s with heap := h' }) :
    wpAny (model prog w) A (call (.type "enumerate") [v]) Q E s := by
  refine callType_new F.called_enumerate (by decide) (F.typeCall_enumerate_1 _) (F.newCall_enumerate_1 _) (fun obj => F.args_object_init_2 obj _) F.entry_enumerate_new
    (meets_enum1 B) ⟨h1, ?_⟩
  have hz : (s.heap.push o).objs.size = s.heap.objs.size + 1 := Heap.size_push ..
  show _ ∧ _
  rw [hz]
  have he : IsEnum ((s.heap.push o).push { cls := .type "enumerate", data := .fields #[.none, .bool false, .ref s.heap.objs.size, rawInt 0, .none, .none] }) (s.heap.objs.size + 1) s.heap.objs.size 0 .none := by
    have := Heap.get?_push_size (s.heap.push o) (o := { cls := .type "enumerate", data := .fields #[.none, .bool false, .ref s.heap.objs.size, rawInt 0, .none, .none] }) rfl
    rw [hz] at this; exact this
  refine ⟨⟨_, he, rfl⟩, h _ he (Heap.get?_push_of_some _ (Heap.get?_push_size _ B.free)) (by rw [Heap.size_push, hz]) fun b o x => Heap.get?_push_of_some _ (Heap.get?_push_of_some _ x)⟩
def iEnumA (K : PySem.W.Frag) (ta : TA) : TI := fun σ H R => ta σ H fun vs H1 => ∃ k a xs, vs = [.ref a] ∧ SqA K k H1 a xs ∧ (xs.length ≤ sizeLine → R (ItE K k a) H1)
theorem pi_enumA {X : Cx} {e : Expr} {ta : TA} {p pos tpos : Pos} {elts : List Expr} {kk : Nat} (hg : Gl X "enumerate") (hm : X.mg "enumerate" = none) (ha : PA X [e] ta) (hs : starEach [e] X.env = [(false, eval e X.env)] := by rfl) :
    PI X (.Tuple elts kk tpos) (.Call (.Name "enumerate" p) [e] [] pos) (iEnumA X.K ta) := by
  refine ⟨fun pins s σ H R I h => ?_⟩
  refine Call_ (ld_blt I hg hm boot_enumerate (PyProof.Rows.callWith_type1 (thn (ha.run pos pins s σ H _ I h) fun us s1 ⟨vs, H1, I1, r1, q1⟩ => ?_) hs rfl))
  obtain ⟨k, a, xs, ex, hq, q⟩ := q1
  subst ex
  cases r1 with
  | cons r rr =>
    cases rr
    cases r
    obtain ⟨its, rv, p', hz⟩ := SqA.src I1 hq
    refine enum1_begins (begins_k k a its.toArray) p' fun h' he hit hsz hk => wpAny_pyIter_enum he ?_
    have I2 : Inv X pins σ H1 { s1 with heap := h' } := I1.kept (t' := s1.toks) hk
    refine ⟨s1.heap.objs.size + 1, [s1.heap.objs.size + 1, s1.heap.objs.size], _, _, H1, rfl, I2, turn_E k a (s1.heap.objs.size + 1) s1.heap.objs.size, ⟨⟨.none, he⟩, isIter.new hit, Nat.succ_ne_self _⟩, fun b hb => ?_, q hz⟩
    have e' : b = s1.heap.objs.size + 1 ∨ b = s1.heap.objs.size := by simpa using hb
    have hle : s1.heap.objs.size ≤ b := by
      rcases e' with z | z
      · rw [z]; exact Nat.le_add_right _ _
      · rw [z]; exact Nat.le_refl _
    exact I1.fpOk hle (I1.hok.fresh hle)

/-! ### zip of two -/
def ItZ2 (K : PySem.W.Frag) (k l : Bool) (a b : Addr) : It :=
  ⟨fun i H => ∃ (xs ys : List V) (x y : V), SqA K k H a xs ∧ SqA K l H b ys ∧ xs[i]? = some x ∧ ys[i]? = some y,
    fun i H v H' => ∃ T x y, v = .ref T ∧ H T = none ∧ H' = upd H T (.tup [x, y]) ∧ (∀ xs, SqA K k H a xs → xs[i]? = some x) ∧ ∀ ys, SqA K l H b ys → ys[i]? = some y,
    fun i H => ∃ xs ys : List V, SqA K k H a xs ∧ SqA K l H b ys ∧ i ≤ xs.length ∧ i ≤ ys.length ∧ (i = xs.length ∨ i = ys.length)⟩
theorem turn_Z2 {P : Program} {w : World} {K : PySem.W.Frag} {elts : List Expr} {kk : Nat} {tpos : Pos} (k l : Bool) (a b N : Addr) (ha : a < N) (hb : b < N) :
    Turn P w K (.Tuple elts kk tpos) (ItZ2 K k l a b) [N + 4, N + 2, N + 3, N, N + 1] (N + 4) (fun i h => IsZip h (N + 4) (N + 2) (N + 3) .none ∧ IsTupOf2 h (N + 2) (.ref N) (.ref (N + 1)) ∧ (∃ x y, IsTupOf2 h (N + 3) x y) ∧ isIter k h N a i ∧ isIter l h (N + 1) b i) where
  mem := by simp
  obj := fun i h st c hc => by
    obtain ⟨hz, hTI, ⟨x, y, hTO⟩, h1, h2⟩ := st
    have e' : c = N + 4 ∨ c = N + 2 ∨ c = N + 3 ∨ c = N ∨ c = N + 1 := by simpa using hc
    rcases e' with q | q | q | q | q
    · rw [q]; exact ⟨_, hz, fun v q => nomatch q⟩
    · rw [q]; exact ⟨_, hTI, fun v q => nomatch q⟩
    · rw [q]; exact ⟨_, hTO, fun v q => nomatch q⟩
    · rw [q]; exact h1.live
    · rw [q]; exact h2.live
  keep := fun i h h' st k => by
    obtain ⟨hz, hTI, ⟨x, y, hTO⟩, h1, h2⟩ := st
    exact ⟨k _ (by simp) _ hz, k _ (by simp) _ hTI, ⟨x, y, k _ (by simp) _ hTO⟩, h1.at fun o q => k _ (by simp) o q, h2.at fun o q => k _ (by simp) o q⟩
  item := by
    intro X hP hw hK hc i pins s σ H E I hf st hg
    subst hP hw hK
    obtain ⟨hz, hTI, ⟨x0, y0, hTO⟩, h1, h2⟩ := st
    obtain ⟨xs, ys, x, y, hqx, hqy, hx, hy⟩ := hg
    obtain ⟨its, rv, p, _⟩ := SqA.src I hqx
    obtain ⟨its2, rv2, p2, _⟩ := SqA.src I hqy
    obtain ⟨u, hu, ru⟩ := rv.get hx
    obtain ⟨u2, hu2, ru2⟩ := rv2.get hy
    have hzl : N + 4 < s.heap.objs.size := Heap.lt_size hz
    have D1 := draws_k (prog := X.prog) (w := X.w) (A := X.A.in1) (show X.A.in1.handled = none from I.ok.hd hc) k N a (p.ne h1) its.toArray
    have D2 := draws_k (prog := X.prog) (w := X.w) (A := X.A.in1) (show X.A.in1.handled = none from I.ok.hd hc) l (N + 1) b (p2.ne h2) its2.toArray
    have S := zip_sep2 (N := N) (fp1 := [a]) (fp2 := [b]) (by simpa using ha) (by simpa using hb)
    have l1 : i < its.toArray.size := by rw [List.size_toArray]; exact (List.getElem?_eq_some_iff.mp hu).1
    have l2 : i < its2.toArray.size := by rw [List.size_toArray]; exact (List.getElem?_eq_some_iff.mp hu2).1
    refine wpAny_pyNext_zipD2_item S D1 D2 hz hTI hTO ⟨h1, p⟩ ⟨h2, p2⟩ l1 l2 fun x1 x2 h' tk y1 y2 z' TO' d1 d2 hT hsz hk => ?_
    have e1 : x1 = u := by
      have : its.toArray[i]? = some u := by simpa using hu
      rw [y1] at this
      exact Option.some.inj this
    have e2 : x2 = u2 := by
      have : its2.toArray[i]? = some u2 := by simpa using hu2
      rw [y2] at this
      exact Option.some.inj this
    subst e1 e2
    refine ⟨_, rfl, wpAny_letOwnedTupleGo_zip (s := { s with heap := h', toks := tk }) z' fun h'' z'' sb => ?_⟩
    have hT2 : h''.get? s.heap.objs.size = some { cls := .type "tuple", data := .seq #[x1, x2] } := (sb.2 _ (Nat.ne_of_gt hzl)).trans hT
    have new : ObjOk X.prog X.w (upd H s.heap.objs.size (.tup [x, y])) h'' s.heap.objs.size (.tup [x, y]) :=
      ⟨by show 2 ≤ sizeLine; decide, [x1, x2], .cons ru (.cons ru2 .nil), ⟨_, hT2, rfl, _, rfl⟩⟩
    have I1 : Inv X pins σ (upd H s.heap.objs.size (.tup [x, y])) { s with heap := h'', toks := tk } :=
      I.turnedNew (ch := [N + 4, N + 2, N + 3, N, N + 1]) (fun c o hb q => (sb.2 c (fun q' => hb (by simp [q']))).trans (hk c o (fun q' => hb (by simp [q'])) (fun q' => hb (by simp [q'])) (fun q' => hb (by simp [q'])) (fun q' => hb (by simp [q'])) q)) hf (Nat.le_refl _) new
    have ne : ∀ {m n : Nat}, m ≠ n → N + m ≠ N + n := fun h z => h (Nat.add_left_cancel z)
    have n0 : ∀ {m : Nat}, m ≠ 0 → N ≠ N + m := fun h z => h (Nat.add_left_cancel (show N + 0 = N + _ from z)).symm
    refine ⟨.ref s.heap.objs.size, _, I1, rfl, ⟨_, x, y, rfl, I.hok.fresh (Nat.le_refl _), rfl, fun l hl => by rw [SqA.inj I hl hqx]; exact hx, fun l hl => by rw [SqA.inj I hl hqy]; exact hy⟩, ⟨z'', ?_, ⟨x1, x2, ?_⟩, ?_, ?_⟩, fun c hcm => ?_⟩
    · exact (sb.2 _ (ne (by decide))).trans (hk _ _ (ne (by decide)) (ne (by decide)) (fun z => n0 (m := 2) (by decide) z.symm) (ne (by decide)) hTI)
    · exact (sb.2 _ (ne (by decide))).trans TO'
    · exact d1.1.at fun o q => (sb.2 _ (n0 (by decide))).trans q
    · exact d2.1.at fun o q => (sb.2 _ (ne (by decide))).trans q
    · have hlt : c < s.heap.objs.size := by
        have e' : c = N + 4 ∨ c = N + 2 ∨ c = N + 3 ∨ c = N ∨ c = N + 1 := by simpa using hcm
        rcases e' with q | q | q | q | q <;> rw [q] <;> first | exact hzl | exact Nat.lt_of_le_of_lt (by omega) hzl
      rw [upd_ne (Nat.ne_of_lt hlt)]
      exact (hf c hcm).1
  done := by
    intro X hP hw hK hc i pins s σ H E I hf st hg
    subst hP hw hK
    obtain ⟨hz, hTI, ⟨x0, y0, hTO⟩, h1, h2⟩ := st
    obtain ⟨xs, ys, hqx, hqy, le1, le2, hend⟩ := hg
    obtain ⟨its, rv, p, _⟩ := SqA.src I hqx
    obtain ⟨its2, rv2, p2, _⟩ := SqA.src I hqy
    have l1 := rv.length
    have l2 := rv2.length
    have D1 := draws_k (prog := X.prog) (w := X.w) (A := X.A.in1) (show X.A.in1.handled = none from I.ok.hd hc) k N a (p.ne h1) its.toArray
    have D2 := draws_k (prog := X.prog) (w := X.w) (A := X.A.in1) (show X.A.in1.handled = none from I.ok.hd hc) l (N + 1) b (p2.ne h2) its2.toArray
    have S := zip_sep2 (N := N) (fp1 := [a]) (fp2 := [b]) (by simpa using ha) (by simpa using hb)
    exact wpAny_pyNext_zipD2_end S D1 D2 hz hTI hTO ⟨h1, p⟩ ⟨h2, p2⟩ (by rw [List.size_toArray]; omega) (by rw [List.size_toArray]; omega) (by rw [List.size_toArray, List.size_toArray]; omega) fun h' tk hk => ⟨rfl, I.turnedL (ch := [N + 4, N + 2, N + 3, N, N + 1]) (fun c o hb q =>
      hk c o (fun q' => hb (by simp [q'])) (fun q' => hb (by simp [q'])) (fun q' => hb (by simp [q'])) (fun q' => hb (by simp [q'])) q) hf⟩
  self := fun A i s Q E st h => wpAny_pyIter_zip st.1 h
theorem SqA.lt {X : Cx} {pins : List (Addr × Obj)} {σ : St} {H : Hp} {s : Shared} {k : Bool} {a : Addr} {items : Array Value} (h : isSrc k s.heap a items) : a < s.heap.objs.size := by
  cases k with
  | true => obtain ⟨o, e, _⟩ := h; exact Heap.lt_size e
  | false => obtain ⟨o, e, _⟩ := h; exact Heap.lt_size e
def iZip2 (K : PySem.W.Frag) (ta : TA) : TI := fun σ H R => ta σ H fun vs H1 => ∃ k l a b xs ys, vs = [.ref a, .ref b] ∧ SqA K k H1 a xs ∧ SqA K l H1 b ys ∧ (xs.length ≤ sizeLine → ys.length ≤ sizeLine → R (ItZ2 K k l a b) H1)
theorem pi_zip2 {X : Cx} {e e2 : Expr} {ta : TA} {p pos tpos : Pos} {elts : List Expr} {kk : Nat} (hg : Gl X "zip") (hm : X.mg "zip" = none) (ha : PA X [e, e2] ta)
    (hs : starEach [e, e2] X.env = (false, eval e X.env) :: starEach [e2] X.env := by rfl) (hpl : (backTo pos (starEach [e2] X.env)).any (·.1) = false := by rfl) :
    PI X (.Tuple elts kk tpos) (.Call (.Name "zip" p) [e, e2] [] pos) (iZip2 X.K ta) := by
  refine ⟨fun pins s σ H R I h => ?_⟩
  refine Call_ (ld_blt I hg hm PyProof.Rows.boot_zip (PyProof.Rows.callWith_type1 (thn (ha.run pos pins s σ H _ I h) fun us s1 ⟨vs, H1, I1, r1, q1⟩ => ?_) hs hpl))
  obtain ⟨k, l, a, b, xs, ys, ex, hqx, hqy, q⟩ := q1
  subst ex
  cases r1 with
  | cons r rr =>
    cases rr with
    | cons r' rr =>
      cases rr
      cases r
      cases r'
      have fresh5 : ∀ c, c ∈ [s1.heap.objs.size + 4, s1.heap.objs.size + 2, s1.heap.objs.size + 3, s1.heap.objs.size, s1.heap.objs.size + 1] → FpOk X pins H1 c := fun c hcm => by
        have e' : c = s1.heap.objs.size + 4 ∨ c = s1.heap.objs.size + 2 ∨ c = s1.heap.objs.size + 3 ∨ c = s1.heap.objs.size ∨ c = s1.heap.objs.size + 1 := by simpa using hcm
        have hle : s1.heap.objs.size ≤ c := by
          rcases e' with z | z | z | z | z <;> rw [z] <;> first | exact Nat.le_refl _ | exact Nat.le_add_right _ _
        exact I1.fpOk hle (I1.hok.fresh hle)
      obtain ⟨its, rv, p1, z1⟩ := SqA.src I1 hqx
      obtain ⟨its2, rv2, p2, z2⟩ := SqA.src I1 hqy
      have la := SqA.lt (X := X) (pins := pins) (σ := σ) (H := H) (s := s1) p1
      have lb := SqA.lt (X := X) (pins := pins) (σ := σ) (H := H) (s := s1) p2
      refine zip_begins2 (begins_k k a its.toArray) (begins_k l b its2.toArray) p1 p2 fun h' hz hTI hTO h1 h2 hsz hk => wpAny_pyIter_zip hz ?_
      have I2 : Inv X pins σ H1 { s1 with heap := h' } := I1.kept (t' := s1.toks) hk
      exact ⟨s1.heap.objs.size + 4, [s1.heap.objs.size + 4, s1.heap.objs.size + 2, s1.heap.objs.size + 3, s1.heap.objs.size, s1.heap.objs.size + 1], _, _, H1, rfl, I2, turn_Z2 k l a b s1.heap.objs.size la lb, ⟨hz, hTI, ⟨_, _, hTO⟩, isIter.new h1, isIter.new h2⟩, fresh5, q z1 z2⟩

/-! ### zip of three -/
def ItZ3 (K : PySem.W.Frag) (k l m : Bool) (a b c : Addr) : It :=
  ⟨fun i H => ∃ (xs ys zs : List V) (x y z : V), SqA K k H a xs ∧ SqA K l H b ys ∧ SqA K m H c zs ∧ xs[i]? = some x ∧ ys[i]? = some y ∧ zs[i]? = some z,
    fun i H v H' => ∃ T x y z, v = .ref T ∧ H T = none ∧ H' = upd H T (.tup [x, y, z]) ∧ (∀ xs, SqA K k H a xs → xs[i]? = some x) ∧ (∀ ys, SqA K l H b ys → ys[i]? = some y) ∧ ∀ zs, SqA K m H c zs → zs[i]? = some z,
    fun i H => ∃ xs ys zs : List V, SqA K k H a xs ∧ SqA K l H b ys ∧ SqA K m H c zs ∧ i ≤ xs.length ∧ i ≤ ys.length ∧ i ≤ zs.length ∧ (i = xs.length ∨ i = ys.length ∨ i = zs.length)⟩
theorem turn_Z3 {P : Program} {w : World} {K : PySem.W.Frag} {elts : List Expr} {kk : Nat} {tpos : Pos} (k l m : Bool) (a b c N : Addr) (ha : a < N) (hb : b < N) (hc' : c < N) :
    Turn P w K (.Tuple elts kk tpos) (ItZ3 K k l m a b c) [N + 5, N + 3, N + 4, N, N + 1, N + 2] (N + 5) (fun i h => IsZip h (N + 5) (N + 3) (N + 4) .none ∧ IsTupOf3 h (N + 3) (.ref N) (.ref (N + 1)) (.ref (N + 2)) ∧ (∃ x y z, IsTupOf3 h (N + 4) x y z) ∧ isIter k h N a i ∧ isIter l h (N + 1) b i ∧ isIter m h (N + 2) c i) where
  mem := by simp
  obj := fun i h st c hc => by
    obtain ⟨hz, hTI, ⟨x, y, z, hTO⟩, h1, h2, h3⟩ := st
    have e' : c = N + 5 ∨ c = N + 3 ∨ c = N + 4 ∨ c = N ∨ c = N + 1 ∨ c = N + 2 := by simpa using hc
    rcases e' with q | q | q | q | q | q
    · rw [q]; exact ⟨_, hz, fun v q => nomatch q⟩
    · rw [q]; exact ⟨_, hTI, fun v q => nomatch q⟩
    · rw [q]; exact ⟨_, hTO, fun v q => nomatch q⟩
    · rw [q]; exact h1.live
    · rw [q]; exact h2.live
    · rw [q]; exact h3.live
  keep := fun i h h' st k => by
    obtain ⟨hz, hTI, ⟨x, y, z, hTO⟩, h1, h2, h3⟩ := st
    exact ⟨k _ (by simp) _ hz, k _ (by simp) _ hTI, ⟨x, y, z, k _ (by simp) _ hTO⟩, h1.at fun o q => k _ (by simp) o q, h2.at fun o q => k _ (by simp) o q, h3.at fun o q => k _ (by simp) o q⟩
  item := by
    intro X hP hw hK hc i pins s σ H E I hf st hg
    subst hP hw hK
    obtain ⟨hz, hTI, ⟨x0, y0, z0, hTO⟩, h1, h2, h3⟩ := st
    obtain ⟨xs, ys, zs, x, y, z, hqx, hqy, hqz, hx, hy, hzz⟩ := hg
    obtain ⟨its, rv, p, _⟩ := SqA.src I hqx
    obtain ⟨its2, rv2, p2, _⟩ := SqA.src I hqy
    obtain ⟨its3, rv3, p3, _⟩ := SqA.src I hqz
    obtain ⟨u, hu, ru⟩ := rv.get hx
    obtain ⟨u2, hu2, ru2⟩ := rv2.get hy
    obtain ⟨u3, hu3, ru3⟩ := rv3.get hzz
    have hzl : N + 5 < s.heap.objs.size := Heap.lt_size hz
    have D1 := draws_k (prog := X.prog) (w := X.w) (A := X.A.in1) (show X.A.in1.handled = none from I.ok.hd hc) k N a (p.ne h1) its.toArray
    have D2 := draws_k (prog := X.prog) (w := X.w) (A := X.A.in1) (show X.A.in1.handled = none from I.ok.hd hc) l (N + 1) b (p2.ne h2) its2.toArray
    have D3 := draws_k (prog := X.prog) (w := X.w) (A := X.A.in1) (show X.A.in1.handled = none from I.ok.hd hc) m (N + 2) c (p3.ne h3) its3.toArray
    have S := zip_sep3 (N := N) (fp1 := [a]) (fp2 := [b]) (fp3 := [c]) (by simpa using ha) (by simpa using hb) (by simpa using hc')
    have l1 : i < its.toArray.size := by rw [List.size_toArray]; exact (List.getElem?_eq_some_iff.mp hu).1
    have l2 : i < its2.toArray.size := by rw [List.size_toArray]; exact (List.getElem?_eq_some_iff.mp hu2).1
    have l3 : i < its3.toArray.size := by rw [List.size_toArray]; exact (List.getElem?_eq_some_iff.mp hu3).1
    refine wpAny_pyNext_zipD3_item S D1 D2 D3 hz hTI hTO ⟨h1, p⟩ ⟨h2, p2⟩ ⟨h3, p3⟩ l1 l2 l3 fun x1 x2 x3 h' tk y1 y2 y3 z' TO' d1 d2 d3 hT hsz hk => ?_
    have e1 : x1 = u := by
      have : its.toArray[i]? = some u := by simpa using hu
      rw [y1] at this
      exact Option.some.inj this
    have e2 : x2 = u2 := by
      have : its2.toArray[i]? = some u2 := by simpa using hu2
      rw [y2] at this
      exact Option.some.inj this
    have e3 : x3 = u3 := by
      have : its3.toArray[i]? = some u3 := by simpa using hu3
      rw [y3] at this
      exact Option.some.inj this
    subst e1 e2 e3
    refine ⟨_, rfl, wpAny_letOwnedTupleGo_zip (s := { s with heap := h', toks := tk }) z' fun h'' z'' sb => ?_⟩
    have hT2 : h''.get? s.heap.objs.size = some { cls := .type "tuple", data := .seq #[x1, x2, x3] } := (sb.2 _ (Nat.ne_of_gt hzl)).trans hT
    have new : ObjOk X.prog X.w (upd H s.heap.objs.size (.tup [x, y, z])) h'' s.heap.objs.size (.tup [x, y, z]) :=
      ⟨by show 3 ≤ sizeLine; decide, [x1, x2, x3], .cons ru (.cons ru2 (.cons ru3 .nil)), ⟨_, hT2, rfl, _, rfl⟩⟩
    have I1 : Inv X pins σ (upd H s.heap.objs.size (.tup [x, y, z])) { s with heap := h'', toks := tk } :=
      I.turnedNew (ch := [N + 5, N + 3, N + 4, N, N + 1, N + 2]) (fun c o hb q => (sb.2 c (fun q' => hb (by simp [q']))).trans (hk c o (fun q' => hb (by simp [q'])) (fun q' => hb (by simp [q'])) (fun q' => hb (by simp [q'])) (fun q' => hb (by simp [q'])) (fun q' => hb (by simp [q'])) q)) hf (Nat.le_refl _) new
    have ne : ∀ {m n : Nat}, m ≠ n → N + m ≠ N + n := fun h z => h (Nat.add_left_cancel z)
    have n0 : ∀ {m : Nat}, m ≠ 0 → N ≠ N + m := fun h z => h (Nat.add_left_cancel (show N + 0 = N + _ from z)).symm
    refine ⟨.ref s.heap.objs.size, _, I1, rfl, ⟨_, x, y, z, rfl, I.hok.fresh (Nat.le_refl _), rfl, fun l hl => by rw [SqA.inj I hl hqx]; exact hx, fun l hl => by rw [SqA.inj I hl hqy]; exact hy, fun l hl => by rw [SqA.inj I hl hqz]; exact hzz⟩, ⟨z'', ?_, ⟨x1, x2, x3, ?_⟩, ?_, ?_, ?_⟩, fun c hcm => ?_⟩
    · exact (sb.2 _ (ne (by decide))).trans (hk _ _ (ne (by decide)) (ne (by decide)) (fun z => n0 (m := 3) (by decide) z.symm) (ne (by decide)) (ne (by decide)) hTI)
    · exact (sb.2 _ (ne (by decide))).trans TO'
    · exact d1.1.at fun o q => (sb.2 _ (n0 (by decide))).trans q
    · exact d2.1.at fun o q => (sb.2 _ (ne (by decide))).trans q
    · exact d3.1.at fun o q => (sb.2 _ (ne (by decide))).trans q
    · have hlt : c < s.heap.objs.size := by
        have e' : c = N + 5 ∨ c = N + 3 ∨ c = N + 4 ∨ c = N ∨ c = N + 1 ∨ c = N + 2 := by simpa using hcm
        rcases e' with q | q | q | q | q | q <;> rw [q] <;> first | exact hzl | exact Nat.lt_of_le_of_lt (by omega) hzl
      rw [upd_ne (Nat.ne_of_lt hlt)]
      exact (hf c hcm).1
  done := by
    intro X hP hw hK hc i pins s σ H E I hf st hg
    subst hP hw hK
    obtain ⟨hz, hTI, ⟨x0, y0, z0, hTO⟩, h1, h2, h3⟩ := st
    obtain ⟨xs, ys, zs, hqx, hqy, hqz, le1, le2, le3, hend⟩ := hg
    obtain ⟨its, rv, p, _⟩ := SqA.src I hqx
    obtain ⟨its2, rv2, p2, _⟩ := SqA.src I hqy
    obtain ⟨its3, rv3, p3, _⟩ := SqA.src I hqz
    have l1 := rv.length
    have l2 := rv2.length
    have l3 := rv3.length
    have D1 := draws_k (prog := X.prog) (w := X.w) (A := X.A.in1) (show X.A.in1.handled = none from I.ok.hd hc) k N a (p.ne h1) its.toArray
    have D2 := draws_k (prog := X.prog) (w := X.w) (A := X.A.in1) (show X.A.in1.handled = none from I.ok.hd hc) l (N + 1) b (p2.ne h2) its2.toArray
    have D3 := draws_k (prog := X.prog) (w := X.w) (A := X.A.in1) (show X.A.in1.handled = none from I.ok.hd hc) m (N + 2) c (p3.ne h3) its3.toArray
    have S := zip_sep3 (N := N) (fp1 := [a]) (fp2 := [b]) (fp3 := [c]) (by simpa using ha) (by simpa using hb) (by simpa using hc')
    exact wpAny_pyNext_zipD3_end S D1 D2 D3 hz hTI hTO ⟨h1, p⟩ ⟨h2, p2⟩ ⟨h3, p3⟩ (by rw [List.size_toArray]; omega) (by rw [List.size_toArray]; omega) (by rw [List.size_toArray]; omega) (by rw [List.size_toArray, List.size_toArray, List.size_toArray]; omega) fun h' tk hk => ⟨rfl, I.turnedL (ch := [N + 5, N + 3, N + 4, N, N + 1, N + 2]) (fun c o hb q =>
      hk c o (fun q' => hb (by simp [q'])) (fun q' => hb (by simp [q'])) (fun q' => hb (by simp [q'])) (fun q' => hb (by simp [q'])) (fun q' => hb (by simp [q'])) q) hf⟩
  self := fun A i s Q E st h => wpAny_pyIter_zip st.1 h
def iZip3 (K : PySem.W.Frag) (ta : TA) : TI := fun σ H R => ta σ H fun vs H1 => ∃ k l m a b c xs ys zs, vs = [.ref a, .ref b, .ref c] ∧ SqA K k H1 a xs ∧ SqA K l H1 b ys ∧ SqA K m H1 c zs ∧ (xs.length ≤ sizeLine → ys.length ≤ sizeLine → zs.length ≤ sizeLine → R (ItZ3 K k l m a b c) H1)
theorem pi_zip3 {X : Cx} {e e2 e3 : Expr} {ta : TA} {p pos tpos : Pos} {elts : List Expr} {kk : Nat} (hg : Gl X "zip") (hm : X.mg "zip" = none) (ha : PA X [e, e2, e3] ta)
    (hs : starEach [e, e2, e3] X.env = (false, eval e X.env) :: starEach [e2, e3] X.env := by rfl) (hpl : (backTo pos (starEach [e2, e3] X.env)).any (·.1) = false := by rfl) :
    PI X (.Tuple elts kk tpos) (.Call (.Name "zip" p) [e, e2, e3] [] pos) (iZip3 X.K ta) := by
  refine ⟨fun pins s σ H R I h => ?_⟩
  refine Call_ (ld_blt I hg hm PyProof.Rows.boot_zip (PyProof.Rows.callWith_type1 (thn (ha.run pos pins s σ H _ I h) fun us s1 ⟨vs, H1, I1, r1, q1⟩ => ?_) hs hpl))
  obtain ⟨k, l, m, a, b, c, xs, ys, zs, ex, hqx, hqy, hqz, q⟩ := q1
  subst ex
  cases r1 with
  | cons r rr =>
    cases rr with
    | cons r' rr =>
      cases rr with
      | cons r'' rr =>
        cases rr
        cases r
        cases r'
        cases r''
        have fresh6 : ∀ c, c ∈ [s1.heap.objs.size + 5, s1.heap.objs.size + 3, s1.heap.objs.size + 4, s1.heap.objs.size, s1.heap.objs.size + 1, s1.heap.objs.size + 2] → FpOk X pins H1 c := fun c hcm => by
          have e' : c = s1.heap.objs.size + 5 ∨ c = s1.heap.objs.size + 3 ∨ c = s1.heap.objs.size + 4 ∨ c = s1.heap.objs.size ∨ c = s1.heap.objs.size + 1 ∨ c = s1.heap.objs.size + 2 := by simpa using hcm
          have hle : s1.heap.objs.size ≤ c := by
            rcases e' with z | z | z | z | z | z <;> rw [z] <;> first | exact Nat.le_refl _ | exact Nat.le_add_right _ _
          exact I1.fpOk hle (I1.hok.fresh hle)
        obtain ⟨its, rv, p1, z1⟩ := SqA.src I1 hqx
        obtain ⟨its2, rv2, p2, z2⟩ := SqA.src I1 hqy
        obtain ⟨its3, rv3, p3, z3⟩ := SqA.src I1 hqz
        have la := SqA.lt (X := X) (pins := pins) (σ := σ) (H := H) (s := s1) p1
        have lb := SqA.lt (X := X) (pins := pins) (σ := σ) (H := H) (s := s1) p2
        have lc := SqA.lt (X := X) (pins := pins) (σ := σ) (H := H) (s := s1) p3
        refine zip_begins3 (begins_k k a its.toArray) (begins_k l b its2.toArray) (begins_k m c its3.toArray) p1 p2 p3 fun h' hz hTI hTO h1 h2 h3 hsz hk => wpAny_pyIter_zip hz ?_
        have I2 : Inv X pins σ H1 { s1 with heap := h' } := I1.kept (t' := s1.toks) hk
        exact ⟨s1.heap.objs.size + 5, [s1.heap.objs.size + 5, s1.heap.objs.size + 3, s1.heap.objs.size + 4, s1.heap.objs.size, s1.heap.objs.size + 1, s1.heap.objs.size + 2], _, _, H1, rfl, I2, turn_Z3 k l m a b c s1.heap.objs.size la lb lc, ⟨hz, hTI, ⟨_, _, _, hTO⟩, isIter.new h1, isIter.new h2, isIter.new h3⟩, fresh6, q z1 z2 z3⟩
end Rc

/-! Rc: what is walked, by functions; for, while, comprehensions. -/
namespace Rc
open PySem PySem.Spec PyProof.Rows L2
variable [LamTbl]

theorem zip2_length : ∀ (as bs : List D), (zip2 as bs).length = min as.length bs.length
  | [], _ => by simp [zip2]
  | _ :: _, [] => by simp [zip2]
  | a :: as, b :: bs => by simp [zip2, zip2_length as bs, Nat.succ_min_succ]
theorem zip2_get : ∀ {as bs : List D} {i : Nat} {a b : D}, as[i]? = some a → bs[i]? = some b → (zip2 as bs)[i]? = some (.tuple [a, b])
  | [], _, _, _, _, h, _ => by simp at h
  | _ :: _, [], _, _, _, _, h => by simp at h
  | x :: as, y :: bs, 0, _, _, h, h' => by simp at h h'; subst h h'; rfl
  | x :: as, y :: bs, i + 1, _, _, h, h' => by
    simp only [zip2, List.getElem?_cons_succ] at h h' ⊢
    exact zip2_get h h'
theorem zip3_length : ∀ (as bs cs : List D), (zip3 as bs cs).length = min (min as.length bs.length) cs.length
  | [], _, _ => by simp [zip3]
  | _ :: _, [], _ => by simp [zip3]
  | _ :: _, _ :: _, [] => by simp [zip3]
  | a :: as, b :: bs, c :: cs => by simp [zip3, zip3_length as bs cs, Nat.succ_min_succ]
theorem zip3_get : ∀ {as bs cs : List D} {i : Nat} {a b c : D}, as[i]? = some a → bs[i]? = some b → cs[i]? = some c → (zip3 as bs cs)[i]? = some (.tuple [a, b, c])
  | [], _, _, _, _, _, _, h, _, _ => by simp at h
  | _ :: _, [], _, _, _, _, _, _, h, _ => by simp at h
  | _ :: _, _ :: _, [], _, _, _, _, _, _, h => by simp at h
  | x :: as, y :: bs, z :: cs, 0, _, _, _, h, h', h'' => by simp at h h' h''; subst h h' h''; rfl
  | x :: as, y :: bs, z :: cs, i + 1, _, _, _, h, h', h'' => by
    simp only [zip3, List.getElem?_cons_succ] at h h' h'' ⊢
    exact zip3_get h h' h''
theorem enumF_length : ∀ (k : Nat) (ds : List D), (enumF k ds).length = ds.length
  | _, [] => rfl
  | k, d :: ds => by simp [enumF, enumF_length (k + 1) ds]
theorem enumF_get : ∀ {k : Nat} {ds : List D} {i : Nat} {d : D}, ds[i]? = some d → (enumF k ds)[i]? = some (.tuple [.int ((k + i : Nat) : Int), d])
  | _, [], _, _, h => by simp at h
  | k, x :: ds, 0, _, h => by simp at h; subst h; simp [enumF]
  | k, x :: ds, i + 1, _, h => by
    simp only [enumF, List.getElem?_cons_succ] at h ⊢
    rw [enumF_get h, show k + 1 + i = k + (i + 1) by omega]

section
variable {K : PySem.W.Frag} {mg : Str → Option Value} {H H1 : Hp}
/-- a list or tuple that is walked -/
theorem dSeq_src {d : D} {v : V} {ds : List D} (h : Rep K mg H d v) (e : dSeq d = some ds) : ∃ k a xs, v = .ref a ∧ (∀ H', Mono H H' → SqA K k H' a xs) ∧ RepL K mg H ds xs := by
  cases d with
  | list es =>
    cases e
    obtain ⟨a, xs, ev, s, r⟩ := h
    exact ⟨true, a, xs, ev, fun H' m => (m.fzL s).sq, r⟩
  | tuple es =>
    cases e
    obtain ⟨a, xs, ev, s, r⟩ := h
    exact ⟨false, a, xs, ev, fun H' m => m.sqT s, r⟩
  | none => cases e
  | bool _ => cases e
  | int _ => cases e
  | str _ => cases e
  | dict _ => cases e
theorem wk_E {k : Bool} {a : Addr} {xs : List V} {ds : List D} (s : ∀ H', Mono H H' → SqA K k H' a xs) (r : RepL K mg H ds xs) (z : xs.length ≤ sizeLine) : Wk K mg (ItE K k a) H (enumF 0 ds) where
  go := fun i H1 m h => by
    rw [enumF_length] at h
    have h' : i < xs.length := by rw [r.length]; exact h
    exact ⟨xs, xs[i], s H1 m, by simp [h']⟩
  stop := fun H1 m => ⟨xs, s H1 m, by rw [enumF_length, r.length]⟩
  yld := fun i H1 x H' m h ⟨T, y, ev, nT, eH, hy⟩ => by
    rw [enumF_length] at h
    obtain ⟨d, e1, e2⟩ := RepL.getv r (hy xs (s H1 m))
    subst eH ev
    have sm := same_upd (o := .tup [.int (i : Nat), y]) nT
    refine ⟨sm, _, enumF_get e1, T, _, rfl, SqT.of upd_same, _, _, rfl, ?_, _, _, rfl, Rep.mono (m.trans (Mono.of_same sm)) d e2, rfl⟩
    rw [Nat.zero_add]
    rfl
  size := by rw [enumF_length, ← r.length]; exact z
theorem wk_Z2 {k l : Bool} {a b : Addr} {xs ys : List V} {ds es : List D} (s : ∀ H', Mono H H' → SqA K k H' a xs) (r : RepL K mg H ds xs) (s' : ∀ H', Mono H H' → SqA K l H' b ys) (r' : RepL K mg H es ys) (z : xs.length ≤ sizeLine) : Wk K mg (ItZ2 K k l a b) H (zip2 ds es) where
  go := fun i H1 m h => by
    rw [zip2_length] at h
    have h1 : i < xs.length := by rw [r.length]; omega
    have h2 : i < ys.length := by rw [r'.length]; omega
    exact ⟨xs, ys, xs[i], ys[i], s H1 m, s' H1 m, by simp [h1], by simp [h2]⟩
  stop := fun H1 m => ⟨xs, ys, s H1 m, s' H1 m, by rw [zip2_length, r.length]; omega, by rw [zip2_length, r'.length]; omega, by rw [zip2_length, r.length, r'.length]; omega⟩
  yld := fun i H1 x H' m h ⟨T, x, y, ev, nT, eH, hx, hy⟩ => by
    obtain ⟨d, e1, e2⟩ := RepL.getv r (hx xs (s H1 m))
    obtain ⟨d', e1', e2'⟩ := RepL.getv r' (hy ys (s' H1 m))
    subst eH ev
    have sm := same_upd (o := .tup [x, y]) nT
    have mo := m.trans (Mono.of_same sm)
    exact ⟨sm, _, zip2_get e1 e1', T, _, rfl, SqT.of upd_same, _, _, rfl, Rep.mono mo d e2, _, _, rfl, Rep.mono mo d' e2', rfl⟩
  size := by rw [zip2_length]; have := r.length; omega
theorem wk_Z3 {k l n : Bool} {a b c : Addr} {xs ys zs : List V} {ds es fs : List D} (s : ∀ H', Mono H H' → SqA K k H' a xs) (r : RepL K mg H ds xs) (s' : ∀ H', Mono H H' → SqA K l H' b ys) (r' : RepL K mg H es ys) (s'' : ∀ H', Mono H H' → SqA K n H' c zs) (r'' : RepL K mg H fs zs) (z : xs.length ≤ sizeLine) :
    Wk K mg (ItZ3 K k l n a b c) H (zip3 ds es fs) where
  go := fun i H1 m h => by
    rw [zip3_length] at h
    have h1 : i < xs.length := by rw [r.length]; omega
    have h2 : i < ys.length := by rw [r'.length]; omega
    have h3 : i < zs.length := by rw [r''.length]; omega
    exact ⟨xs, ys, zs, xs[i], ys[i], zs[i], s H1 m, s' H1 m, s'' H1 m, by simp [h1], by simp [h2], by simp [h3]⟩
  stop := fun H1 m => ⟨xs, ys, zs, s H1 m, s' H1 m, s'' H1 m, by rw [zip3_length, r.length]; omega, by rw [zip3_length, r'.length]; omega, by rw [zip3_length, r''.length]; omega, by rw [zip3_length, r.length, r'.length, r''.length]; omega⟩
  yld := fun i H1 x H' m h ⟨T, x, y, z, ev, nT, eH, hx, hy, hz⟩ => by
    obtain ⟨d, e1, e2⟩ := RepL.getv r (hx xs (s H1 m))
    obtain ⟨d', e1', e2'⟩ := RepL.getv r' (hy ys (s' H1 m))
    obtain ⟨d'', e1'', e2''⟩ := RepL.getv r'' (hz zs (s'' H1 m))
    subst eH ev
    have sm := same_upd (o := .tup [x, y, z]) nT
    have mo := m.trans (Mono.of_same sm)
    exact ⟨sm, _, zip3_get e1 e1' e1'', T, _, rfl, SqT.of upd_same, _, _, rfl, Rep.mono mo d e2, _, _, rfl, Rep.mono mo d' e2', _, _, rfl, Rep.mono mo d'' e2'', rfl⟩
  size := by rw [zip3_length]; have := r.length; omega
end

/-! ### the walked things of a derivation -/
section
variable {X : Cx} {F : Fx} {E : XK} {pos p tpos : Pos} {elts : List Expr} {kk : Nat}
/-- values that are kept, then a function of them -/
def evW (ms : List (M Sv)) (f : List D → Option (List D)) : M (List D) := fun S => (evL ms S).bind fun ds S1 => ofOpt (f ds) S1
theorem ai_enum {e : Expr} {m : M Sv} (hg : Gl X "enumerate") (hm : X.mg "enumerate" = none) (ha : AE X F E e m) (hs : starEach [e] X.env = [(false, eval e X.env)] := by rfl) (hs2 : starEach (e :: []) X.env = (false, eval e X.env) :: starEach [] X.env := by rfl) :
    AI X F E (.Tuple elts kk tpos) (.Call (.Name "enumerate" p) [e] [] pos) (wEnum m) := by
  refine PI_imp (pi_enumA hg hm (pa_cons (a_fz ha) pa_nil hs2) hs) fun σ H R ⟨S, st, q⟩ => ⟨S, st, ?_⟩
  simp only [wEnum] at q
  rw [eFz_datum]
  unfold datum
  cases em : m S with
  | no => rw [em] at q; exact q.elim
  | ex k S1 => rw [em] at q; exact q
  | ok r S1 =>
    rw [em] at q
    simp only [Res.bind] at q ⊢
    cases ed : toD r with
    | none => rw [ed] at q; exact q.elim
    | some d =>
      rw [ed] at q
      simp only [Option.bind_some] at q ⊢
      cases es : dSeq d with
      | none => rw [es] at q; exact q.elim
      | some ds =>
        rw [es] at q
        intro v H1 g rv
        obtain ⟨k, a, xs, rfl, s, r⟩ := dSeq_src rv es
        exact ⟨k, a, xs, rfl, s H1 (Mono.refl _), fun z => q _ H1 g (wk_E s r z)⟩
theorem evL_1 (m : M Sv) (S : Sl) : evL [m] S = (datum m S).bind fun p S1 => .ok [p] S1 := by
  simp only [evL]
  unfold datum
  cases m S with
  | no => rfl
  | ex k S1 => rfl
  | ok r S1 => simp only [Res.bind]; cases toD r <;> rfl
theorem evL_c (m : M Sv) (ms : List (M Sv)) (S : Sl) : evL (m :: ms) S = (datum m S).bind fun p S1 => (evL ms S1).bind fun ds S2 => .ok (p :: ds) S2 := by
  simp only [evL]
  unfold datum
  cases m S with
  | no => rfl
  | ex k S1 => rfl
  | ok r S1 => simp only [Res.bind]; cases toD r <;> rfl
theorem evL_2 (m n : M Sv) (S : Sl) : evL [m, n] S = (datum m S).bind fun p S1 => (datum n S1).bind fun q S2 => .ok [p, q] S2 := by
  rw [evL_c]
  cases datum m S with
  | no => rfl
  | ex k S1 => rfl
  | ok r S1 =>
    simp only [Res.bind]
    rw [evL_1]
    cases datum n S1 <;> rfl
theorem evL_3 (m n o : M Sv) (S : Sl) : evL [m, n, o] S = (datum m S).bind fun p S1 => (datum n S1).bind fun q S2 => (datum o S2).bind fun r S3 => .ok [p, q, r] S3 := by
  rw [evL_c]
  cases datum m S with
  | no => rfl
  | ex k S1 => rfl
  | ok r S1 =>
    simp only [Res.bind]
    rw [evL_2]
    cases datum n S1 with
    | no => rfl
    | ex k S2 => rfl
    | ok r2 S2 =>
      simp only [Res.bind]
      cases datum o S2 <;> rfl
theorem ai_zip2 {e e2 : Expr} {m n : M Sv} (hg : Gl X "zip") (hm : X.mg "zip" = none) (ha : AL X F E [e, e2] (evL [m, n]))
    (hs : starEach [e, e2] X.env = (false, eval e X.env) :: starEach [e2] X.env := by rfl) (hpl : (backTo pos (starEach [e2] X.env)).any (·.1) = false := by rfl) :
    AI X F E (.Tuple elts kk tpos) (.Call (.Name "zip" p) [e, e2] [] pos) (wZip2 m n) := by
  refine PI_imp (pi_zip2 hg hm ha hs hpl) fun σ H R ⟨S, st, q⟩ => ⟨S, st, ?_⟩
  unfold wZip2 at q
  rw [evL_2]
  cases e1 : datum m S with
  | no => rw [e1] at q; exact q.elim
  | ex k S1 => rw [e1] at q; exact q
  | ok d1 S1 =>
    rw [e1] at q
    simp only [Res.bind] at q ⊢
    cases e2 : datum n S1 with
    | no => rw [e2] at q; exact q.elim
    | ex k S2 => rw [e2] at q; exact q
    | ok d2 S2 =>
      rw [e2] at q
      simp only at q ⊢
      cases s1 : dSeq d1 with
      | none => rw [s1] at q; exact q.elim
      | some as =>
        cases s2 : dSeq d2 with
        | none => rw [s1, s2] at q; exact q.elim
        | some bs =>
          rw [s1, s2] at q
          intro vs H1 g rv
          obtain ⟨v1, _, rfl, r1, v2, _, rfl, r2, rfl⟩ := rv
          obtain ⟨k, a, xs, rfl, sa, ra⟩ := dSeq_src r1 s1
          obtain ⟨l, b, ys, rfl, sb, rb⟩ := dSeq_src r2 s2
          exact ⟨k, l, a, b, xs, ys, rfl, sa H1 (Mono.refl _), sb H1 (Mono.refl _), fun z _ => q _ H1 g (wk_Z2 sa ra sb rb z)⟩
theorem ai_zip3 {e e2 e3 : Expr} {m n o : M Sv} (hg : Gl X "zip") (hm : X.mg "zip" = none) (ha : AL X F E [e, e2, e3] (evL [m, n, o]))
    (hs : starEach [e, e2, e3] X.env = (false, eval e X.env) :: starEach [e2, e3] X.env := by rfl) (hpl : (backTo pos (starEach [e2, e3] X.env)).any (·.1) = false := by rfl) :
    AI X F E (.Tuple elts kk tpos) (.Call (.Name "zip" p) [e, e2, e3] [] pos) (wZip3 m n o) := by
  refine PI_imp (pi_zip3 hg hm ha hs hpl) fun σ H R ⟨S, st, q⟩ => ⟨S, st, ?_⟩
  unfold wZip3 at q
  rw [evL_3]
  cases e1 : datum m S with
  | no => rw [e1] at q; exact q.elim
  | ex k S1 => rw [e1] at q; exact q
  | ok d1 S1 =>
    rw [e1] at q
    simp only [Res.bind] at q ⊢
    cases e2 : datum n S1 with
    | no => rw [e2] at q; exact q.elim
    | ex k S2 => rw [e2] at q; exact q
    | ok d2 S2 =>
      rw [e2] at q
      simp only at q ⊢
      cases e3 : datum o S2 with
      | no => rw [e3] at q; exact q.elim
      | ex k S3 => rw [e3] at q; exact q
      | ok d3 S3 =>
        rw [e3] at q
        simp only at q ⊢
        cases s1 : dSeq d1 with
        | none => rw [s1] at q; exact q.elim
        | some as =>
          cases s2 : dSeq d2 with
          | none => rw [s1, s2] at q; exact q.elim
          | some bs =>
            cases s3 : dSeq d3 with
            | none => rw [s1, s2, s3] at q; exact q.elim
            | some cs =>
              rw [s1, s2, s3] at q
              intro vs H1 g rv
              obtain ⟨v1, _, rfl, r1, v2, _, rfl, r2, v3, _, rfl, r3, rfl⟩ := rv
              obtain ⟨k, a, xs, rfl, sa, ra⟩ := dSeq_src r1 s1
              obtain ⟨l, b, ys, rfl, sb, rb⟩ := dSeq_src r2 s2
              obtain ⟨u, c, zs, rfl, sc, rc⟩ := dSeq_src r3 s3
              exact ⟨k, l, u, a, b, c, xs, ys, zs, rfl, sa H1 (Mono.refl _), sb H1 (Mono.refl _), sc H1 (Mono.refl _), fun z _ _ => q _ H1 g (wk_Z3 sa ra sb rb sc rc z)⟩
theorem rng_le {a b : Int} (h : rngOk a b = true) : -(2 ^ 62) ≤ a ∧ a < 2 ^ 62 ∧ -(2 ^ 62) ≤ b ∧ b < 2 ^ 62 ∧ (b - a).toNat ≤ sizeLine := by
  have := of_decide_eq_true h
  rw [sizeLine_eq]
  omega
theorem ai_rng1 {tg e : Expr} {m : M Sv} (hg : Gl X "range") (hm : X.mg "range" = none) (ha : AL X F E [e] (evL [m])) (hs : starEach [e] X.env = [(false, eval e X.env)] := by rfl) : AI X F E tg (.Call (.Name "range" p) [e] [] pos) (wRng1 m) := by
  refine PI_imp (pi_range1 hg hm ha hs) fun σ H R ⟨S, st, q⟩ => ⟨S, st, ?_⟩
  unfold wRng1 at q
  rw [evL_1]
  cases e1 : datum m S with
  | no => rw [e1] at q; exact q.elim
  | ex k S1 => rw [e1] at q; exact q
  | ok d1 S1 =>
    rw [e1] at q
    simp only [Res.bind] at q ⊢
    cases d1 with
    | int j =>
      simp only [dRng] at q
      by_cases hr : rngOk 0 j = true
      · rw [if_pos hr] at q
        intro vs H1 g rv
        obtain ⟨v1, _, rfl, r1, rfl⟩ := rv
        cases (show v1 = V.int j from r1)
        obtain ⟨h1, h2, h3, h4, h5⟩ := rng_le hr
        refine ⟨j, rfl, h3, h4, ?_⟩
        rw [Int.sub_zero] at q h5
        exact q _ H1 g (wk_rng 0 _ h5)
      · rw [if_neg hr] at q; exact q.elim
    | _ => exact q.elim
theorem ai_rng2 {tg e e2 : Expr} {m n : M Sv} (hg : Gl X "range") (hm : X.mg "range" = none) (ha : AL X F E [e, e2] (evL [m, n])) (hs : starEach [e, e2] X.env = [(false, eval e X.env), (false, eval e2 X.env)] := by rfl) (hs2 : starEach [e2] X.env = [(false, eval e2 X.env)] := by rfl) :
    AI X F E tg (.Call (.Name "range" p) [e, e2] [] pos) (wRng2 m n) := by
  refine PI_imp (pi_range2 hg hm ha hs hs2) fun σ H R ⟨S, st, q⟩ => ⟨S, st, ?_⟩
  unfold wRng2 at q
  rw [evL_2]
  cases e1 : datum m S with
  | no => rw [e1] at q; exact q.elim
  | ex k S1 => rw [e1] at q; exact q
  | ok d1 S1 =>
    rw [e1] at q
    simp only [Res.bind] at q ⊢
    cases e2 : datum n S1 with
    | no => rw [e2] at q; exact q.elim
    | ex k S2 => rw [e2] at q; exact q
    | ok d2 S2 =>
      rw [e2] at q
      simp only at q ⊢
      cases d1 with
      | int i =>
        cases d2 with
        | int j =>
          simp only [dRng] at q
          by_cases hr : rngOk i j = true
          · rw [if_pos hr] at q
            intro vs H1 g rv
            obtain ⟨v1, _, rfl, r1, v2, _, rfl, r2, rfl⟩ := rv
            cases (show v1 = V.int i from r1)
            cases (show v2 = V.int j from r2)
            obtain ⟨h1, h2, h3, h4, h5⟩ := rng_le hr
            exact ⟨i, j, rfl, ⟨h1, h2, h3, h4⟩, q _ H1 g (wk_rng i _ h5)⟩
          · rw [if_neg hr] at q; exact q.elim
        | _ => exact q.elim
      | _ => exact q.elim
end

/-! ### a name's list, walked without a lock -/
mutual
theorem sameD_eq : ∀ {a b : D}, sameD a b = true → a = b
  | .none, b, h => by cases b <;> first | rfl | cases h
  | .bool x, b, h => by
    cases b with
    | bool y => rw [eq_of_beq (show (x == y) = true from h)]
    | _ => cases h
  | .int x, b, h => by
    cases b with
    | int y => rw [of_decide_eq_true (show decide (x = y) = true from h)]
    | _ => cases h
  | .str x, b, h => by
    cases b with
    | str y => rw [of_decide_eq_true (show decide (x = y) = true from h)]
    | _ => cases h
  | .list x, b, h => by
    cases b with
    | list y => rw [sameL_eq (show sameL x y = true from h)]
    | _ => cases h
  | .tuple x, b, h => by
    cases b with
    | tuple y => rw [sameL_eq (show sameL x y = true from h)]
    | _ => cases h
  | .dict x, b, h => by
    cases b with
    | dict y => rw [sameK_eq (show sameK x y = true from h)]
    | _ => cases h
theorem sameL_eq : ∀ {a b : List D}, sameL a b = true → a = b
  | [], [], _ => rfl
  | [], _ :: _, h => by cases h
  | _ :: _, [], h => by cases h
  | a :: as, b :: bs, h => by
    have h : (sameD a b && sameL as bs) = true := h
    rw [Bool.and_eq_true] at h
    rw [sameD_eq h.1, sameL_eq h.2]
theorem sameK_eq : ∀ {a b : List (D × D)}, sameK a b = true → a = b
  | [], [], _ => rfl
  | [], _ :: _, h => by cases h
  | _ :: _, [], h => by cases h
  | (a, a') :: as, (b, b') :: bs, h => by
    have h : (sameD a b && sameD a' b' && sameK as bs) = true := h
    rw [Bool.and_eq_true, Bool.and_eq_true] at h
    rw [sameD_eq h.1.1, sameD_eq h.1.2, sameK_eq h.2]
end
omit [LamTbl] in
mutual
theorem sameD_refl : ∀ (a : D), sameD a a = true
  | .none => rfl
  | .bool x => by simp [sameD]
  | .int x => by simp [sameD]
  | .str x => by simp [sameD]
  | .list x => by simp [sameD, sameL_refl x]
  | .tuple x => by simp [sameD, sameL_refl x]
  | .dict x => by simp [sameD, sameK_refl x]
theorem sameL_refl : ∀ (a : List D), sameL a a = true
  | [] => rfl
  | a :: as => by simp [sameL, sameD_refl a, sameL_refl as]
theorem sameK_refl : ∀ (a : List (D × D)), sameK a a = true
  | [] => rfl
  | (a, b) :: as => by simp [sameK, sameD_refl a, sameD_refl b, sameK_refl as]
end
theorem sameO_eq {a b : Option D} {d : D} (h : sameO a b = true) (e : a = some d) : b = some d := by
  subst e
  cases b with
  | none => cases h
  | some c => rw [sameD_eq (show sameD d c = true from h)]
section
variable {X : Cx} {F : Fx} {E : XK} {tg iter : Expr} {w : M (List D)}
theorem AI.aj (h : AI X F E tg iter w) : AJ X F E tg iter w ckT [] := by
  refine PI_imp h fun σ H R ⟨S, st, q⟩ => ⟨S, st, ?_⟩
  cases ew : w S with
  | no => rw [ew] at q; exact q
  | ex k S1 => rw [ew] at q; exact q
  | ok ds S1 =>
    rw [ew] at q
    exact fun J H' g wk => q J H' g (fun _ _ H2 _ _ m _ => wk.at m) wk.size
end
/-- a name's list as it is read -/
theorem rd_src {K : PySem.W.Frag} {mg : Str → Option Value} {F : Fx} {σ : St} {H : Hp} {S : Sl} {i : Nat} {d : D} {ds : List D} {v : V} (st : RSt K mg F σ H S) (e : rd S i = some d) (es : dSeq d = some ds) (ev : σ[i]? = some (some v)) :
    ∃ a xs, v = .ref a ∧ SqA K (match d with | .list _ => true | _ => false) H a xs ∧ RepL K mg H ds xs := by
  obtain ⟨v', ev', rw'⟩ := RSt.rd st e
  rw [ev] at ev'
  cases ev'
  cases d with
  | list es =>
    cases es
    obtain ⟨a, xs, ev, s, r⟩ := rw'.list
    exact ⟨a, xs, ev, s.sq, r⟩
  | tuple es =>
    cases es
    obtain ⟨a, xs, ev, s, r⟩ := rw'.tuple
    exact ⟨a, xs, ev, s, r⟩
  | none => cases es
  | bool _ => cases es
  | int _ => cases es
  | str _ => cases es
  | dict _ => cases es
section
variable {X : Cx} {F : Fx} {E : XK} {tg iter : Expr} {pos p tpos : Pos} {elts : List Expr} {kk i : Nat} {x : Str}
/-- an iterator over a name's list or tuple, of the generic kind -/
theorem aj_of {J : Bool → Addr → It} {f : List D → List D} (hf : ∀ ds, (f ds).length = ds.length)
    (hw : ∀ {H : Hp} {k : Bool} {a : Addr} {xs : List V} {ds : List D}, SqA X.K k H a xs → RepL X.K X.mg H ds xs → WkAt X.K X.mg (J k a) (f ds) H) :
    ∀ σ H R, wOfN X.K X.mg F E (wN i f) (ckN i) [i] σ H R → ∃ v, σ[i]? = some (some v) ∧ ∃ k a xs, v = .ref a ∧ SqA X.K k H a xs ∧ (xs.length ≤ sizeLine → R (J k a) H) := by
  intro σ H R ⟨S, st, q⟩
  unfold wN at q
  have key : ∀ d ds, rd S i = some d → dSeq d = some ds → (∀ J H', Go X.K X.mg F σ S H S H' → (∀ σ2 S2 H2, (∀ j ∈ [i], σ2[j]? = σ[j]?) → RSt X.K X.mg F σ2 H2 S2 → Mono H' H2 → ckN i S S2 = true → WkAt X.K X.mg J (f ds) H2) → (f ds).length ≤ sizeLine → R J H') →
      ∃ v, σ[i]? = some (some v) ∧ ∃ k a xs, v = .ref a ∧ SqA X.K k H a xs ∧ (xs.length ≤ sizeLine → R (J k a) H) := by
    intro d ds e es q
    obtain ⟨v, ev, _⟩ := RSt.rd st e
    obtain ⟨a, xs, rfl, sa, ra⟩ := rd_src st e es ev
    refine ⟨_, ev, _, a, xs, rfl, sa, fun z => q (J _ a) H (Go.refl st) (fun σ2 S2 H2 hs st2 mo hck => ?_) (by rw [hf, ← ra.length]; exact z)⟩
    have e2 : rd S2 i = some d := sameO_eq hck e
    obtain ⟨a2, xs2, ea, sa2, ra2⟩ := rd_src st2 e2 es ((hs i (by simp)).trans ev)
    cases ea
    exact hw sa2 ra2
  cases e : rd S i with
  | none => rw [e] at q; exact q.elim
  | some d =>
    rw [e] at q
    cases d with
    | list ds => exact key _ ds e rfl q
    | tuple ds => exact key _ ds e rfl q
    | none => exact q.elim
    | bool _ => exact q.elim
    | int _ => exact q.elim
    | str _ => exact q.elim
    | dict _ => exact q.elim
/-- a plain walk -/
def ItS (K : PySem.W.Frag) (k : Bool) (a : Addr) : It := if k then Itl K a else Itt K a
theorem wkat_S {K : PySem.W.Frag} {mg : Str → Option Value} {H : Hp} {k : Bool} {a : Addr} {xs : List V} {ds : List D} (s : SqA K k H a xs) (r : RepL K mg H ds xs) : WkAt K mg (ItS K k a) (id ds) H := by
  cases k with
  | true =>
    refine ⟨fun i h => ?_, ⟨xs, s, by rw [r.length]; exact Nat.le_refl _⟩, fun i x H' h ⟨e, y⟩ => ?_⟩
    · have h' : i < xs.length := by rw [r.length]; exact h
      exact ⟨xs, xs[i], s, by simp [h']⟩
    · subst e
      obtain ⟨d, e1, e2⟩ := RepL.getv r (y xs s)
      exact ⟨Same.refl _, d, e1, e2⟩
  | false =>
    refine ⟨fun i h => ?_, ⟨xs, s, by rw [r.length]; exact Nat.le_refl _⟩, fun i x H' h ⟨e, y⟩ => ?_⟩
    · have h' : i < xs.length := by rw [r.length]; exact h
      exact ⟨xs, xs[i], s, by simp [h']⟩
    · subst e
      obtain ⟨d, e1, e2⟩ := RepL.getv r (y xs s)
      exact ⟨Same.refl _, d, e1, e2⟩
theorem wkat_E {K : PySem.W.Frag} {mg : Str → Option Value} {H : Hp} {k : Bool} {a : Addr} {xs : List V} {ds : List D} (s : SqA K k H a xs) (r : RepL K mg H ds xs) : WkAt K mg (ItE K k a) (enumF 0 ds) H := by
  refine ⟨fun i h => ?_, ⟨xs, s, by rw [enumF_length, r.length]⟩, fun i x H' h ⟨T, y, ev, nT, eH, hy⟩ => ?_⟩
  · rw [enumF_length] at h
    have h' : i < xs.length := by rw [r.length]; exact h
    exact ⟨xs, xs[i], s, by simp [h']⟩
  · obtain ⟨d, e1, e2⟩ := RepL.getv r (hy xs s)
    subst eH ev
    have sm := same_upd (o := .tup [.int (i : Nat), y]) nT
    refine ⟨sm, _, enumF_get e1, T, _, rfl, SqT.of upd_same, _, _, rfl, ?_, _, _, rfl, Rep.mono (Mono.of_same sm) d e2, rfl⟩
    rw [Nat.zero_add]
    rfl
theorem aj_n (hN : X.N[i]? = some x) (hv : Vis X.env.scope x) (hd : (x == ("__debug__" : Str)) = false := by decide) (hcd : (x == ("__classdict__" : Str)) = false := by decide) : AJ X F E tg (.Name x p) (wN i id) (ckN i) [i] := by
  refine PI_imp (pi_seq (pe_var hN hv hd hcd)) fun σ H R q => ?_
  obtain ⟨v, ev, k, a, xs, rfl, sa, q⟩ := aj_of (J := ItS X.K) (f := id) (fun _ => rfl) (fun s r => wkat_S s r) σ H R q
  refine ⟨_, ev, a, xs, rfl, ?_⟩
  cases k with
  | true => exact .inl ⟨sa, q⟩
  | false => exact .inr ⟨sa, q⟩
theorem aj_ne (hg : Gl X "enumerate") (hm : X.mg "enumerate" = none) (hN : X.N[i]? = some x) (hv : Vis X.env.scope x) (hd : (x == ("__debug__" : Str)) = false := by decide) (hcd : (x == ("__classdict__" : Str)) = false := by decide) (hs : ∀ q, starEach [.Name x q] X.env = [(false, eval (.Name x q) X.env)] := by intro _; rfl) (hs2 : ∀ q, starEach (.Name x q :: []) X.env = (false, eval (.Name x q) X.env) :: starEach [] X.env := by intro _; rfl) {p2 : Pos} :
    AJ X F E (.Tuple elts kk tpos) (.Call (.Name "enumerate" p) [.Name x p2] [] pos) (wN i (enumF 0)) (ckN i) [i] := by
  refine PI_imp (pi_enumA hg hm (pa_cons (pe_var hN hv hd hcd) pa_nil (hs2 p2)) (hs p2)) fun σ H R q => ?_
  obtain ⟨v, ev, k, a, xs, rfl, sa, q⟩ := aj_of (J := ItE X.K) (f := enumF 0) (fun ds => enumF_length 0 ds) (fun s r => wkat_E s r) σ H R q
  exact ⟨_, ev, k, a, xs, rfl, sa, q⟩
end

/-! ### for -/
section
variable {X : Cx} {F : Fx} {E : XK} {pos : Pos} {tg iter : Expr} {body : List Stmt} {w : M (List D)} {p : Pat} {b : M Fl}
theorem as_for (hp : PassesOwn (model X.prog X.w) X.A X.env X.xe) (hc : X.calm = true) (hi : AI X F E tg iter w) (hg : AG X F tg p) (hb : ASs X F E body b)
    (hs : ∀ x, foldedSetIterable iter X.env x = pure x := by intro _; rfl) : AS X F E (.For tg iter body [] pos) (sFor w p b) := by
  refine PS_imp (ps_for hp hc hi hg hb hs) fun D σ H ⟨S, st, q⟩ => ⟨S, st, ?_⟩
  have q : OutS X.K X.mg F E D H ((w S).bind fun ds S1 => forLoop p b ds S1) := q
  cases ew : w S with
  | no => rw [ew] at q; exact q.elim
  | ex k S1 => rw [ew] at q; exact fun cls d H' r e => q cls d σ H' r e
  | ok ds S1 =>
    rw [ew] at q
    intro J H1 g wk
    have m1 := g.mono st
    have q : OutS X.K X.mg F E D H1 (forLoop p b ds S1) := OutS.back q m1
    refine ⟨fun i m σ' H' => m = ds.length - i ∧ i ≤ ds.length ∧ Mono H1 H' ∧ ∃ S', RSt X.K X.mg F σ' H' S' ∧ OutS X.K X.mg F E D H' (forLoop p b (ds.drop i) S'), ⟨_, rfl, Nat.zero_le _, Mono.refl _, S1, g.rst, q⟩, ?_⟩
    rintro i m σ' H' ⟨rfl, hle, mo, S', st', q'⟩
    by_cases hlt : i < ds.length
    case neg =>
      have e : i = ds.length := by omega
      subst e
      rw [List.drop_length] at q'
      exact .inl ⟨wk.stop H' mo, q' σ' H' st' (Mono.refl _)⟩
    refine .inr ⟨wk.go i H' mo hlt, fun σ2 H2 => Mono H1 H2 ∧ ∃ S2, RSt X.K X.mg F σ2 H2 S2 ∧ OutS X.K X.mg F E D H2 (forLoop p b (ds.drop (i + 1)) S2), fun σ2 H2 ⟨m2, S2, st2, q2⟩ => ⟨_, by omega, rfl, hlt, m2, S2, st2, q2⟩, fun x H3 y => ?_⟩
    obtain ⟨sm, d, ed, rx⟩ := wk.yld i H' x H3 mo hlt y
    have hd : ds.drop i = d :: ds.drop (i + 1) := by
      rw [List.drop_eq_getElem_cons hlt]
      rw [List.getElem?_eq_getElem hlt] at ed
      rw [Option.some.inj ed]
    rw [hd] at q'
    simp only [forLoop] at q'
    cases ep : p.put d S' with
    | none => rw [ep] at q'; exact q'.elim
    | some S3 =>
      rw [ep] at q'
      simp only at q'
      have st3 := st'.grow sm
      refine ⟨S', d, S3, st3, rx, ep, fun σ4 u => ?_⟩
      refine ⟨S3, u.rst, ?_⟩
      have m3 : Mono H1 H3 := mo.trans (Mono.of_same sm)
      have q' := OutS.back q' (Mono.of_same sm)
      show OutS X.K X.mg F E _ H3 (b S3)
      cases eb : b S3 with
      | no => rw [eb] at q'; exact q'
      | ex k S4 => rw [eb] at q'; exact q'
      | ok f S4 =>
        rw [eb] at q'
        cases f with
        | nx => exact fun σ5 H5 r5 m5 => ⟨m3.trans m5, S4, r5, OutS.back q' m5⟩
        | ct => exact fun σ5 H5 r5 m5 => ⟨m3.trans m5, S4, r5, OutS.back q' m5⟩
        | bk => exact q'
        | rt v => exact q'
/-! ### while -/
theorem as_while {c : Expr} {mc : M Bool} {n : Nat} (hp : PassesOwn (model X.prog X.w) X.A X.env X.xe) (h : AT X F E c mc) (hb : ASs X F E body b) : AS X F E (.While c body [] pos) (sWhile n mc b) := by
  refine PS_imp (ps_while hp h hb) fun D σ H ⟨S, st, q⟩ => ?_
  have q : OutS X.K X.mg F E D H (whLoop mc b n S) := q
  refine ⟨fun m σ' H' => ∃ S', RSt X.K X.mg F σ' H' S' ∧ OutS X.K X.mg F E D H' (whLoop mc b m S'), ⟨n, S, st, q⟩, ?_⟩
  rintro m σ' H' ⟨S', st', q'⟩
  cases m with
  | zero => exact q'.elim
  | succ m =>
    refine ⟨S', st', ?_⟩
    simp only [whLoop] at q'
    cases em : mc S' with
    | no => rw [em] at q'; exact q'.elim
    | ex k S1 => rw [em] at q'; exact fun cls d H1 r e => q' cls d σ' H1 r e
    | ok x S1 =>
      rw [em] at q'
      simp only [Res.bind] at q'
      intro H1 g
      have q' := OutS.back q' (g.mono st')
      cases x with
      | false =>
        simp only [Bool.false_eq_true, if_false] at q' ⊢
        exact q' σ' H1 g.rst (Mono.refl _)
      | true =>
        simp only [if_true] at q' ⊢
        refine ⟨fun σ2 H2 => ∃ S2, RSt X.K X.mg F σ2 H2 S2 ∧ OutS X.K X.mg F E D H2 (whLoop mc b m S2), fun σ2 H2 z => ⟨m, Nat.lt_succ_self _, z⟩, S1, g.rst, ?_⟩
        show OutS X.K X.mg F E _ H1 (b S1)
        cases eb : b S1 with
        | no => rw [eb] at q'; exact q'
        | ex k S4 => rw [eb] at q'; exact q'
        | ok f S4 =>
          rw [eb] at q'
          cases f with
          | nx => exact fun σ5 H5 r5 m5 => ⟨S4, r5, OutS.back q' m5⟩
          | ct => exact fun σ5 H5 r5 m5 => ⟨S4, r5, OutS.back q' m5⟩
          | bk => exact q'
          | rt v => exact q'
end
end Rc

/-! Rc: list comprehensions. -/
namespace Rc
open PySem PySem.Spec PyProof.Rows L2
variable [LamTbl]

theorem wipe_get {σ : St} {j : Nat} : ∀ {vs : List Nat}, j ∉ vs → (L2.wipe σ vs)[j]? = σ[j]?
  | [], _ => rfl
  | v :: vs, h => by
    unfold L2.wipe
    rw [List.getElem?_set_ne (fun z => h (by rw [z]; simp)), wipe_get fun z => h (List.mem_cons_of_mem _ z)]
theorem wipe_in {σ : St} {j : Nat} : ∀ {vs : List Nat}, j ∈ vs → j < σ.length → (L2.wipe σ vs)[j]? = some none
  | v :: vs, h, hl => by
    unfold L2.wipe
    by_cases e : v = j
    · subst e
      rw [List.getElem?_set_self (by rw [L2.wipe_length]; exact hl)]
    · rw [List.getElem?_set_ne e]
      exact wipe_in ((List.mem_cons.mp h).resolve_left fun z => e z.symm) hl
theorem wipe_eq {σ σ' : St} {vs : List Nat} (hl : σ'.length = σ.length) (h : ∀ j, j ∉ vs → σ'[j]? = σ[j]?) : L2.wipe σ' vs = L2.wipe σ vs := by
  apply List.ext_getElem?
  intro j
  by_cases hj : j ∈ vs
  · by_cases hlt : j < σ.length
    · rw [wipe_in hj hlt, wipe_in hj (by omega)]
    · rw [List.getElem?_eq_none (by rw [L2.wipe_length]; omega), List.getElem?_eq_none (by rw [L2.wipe_length]; omega)]
  · rw [wipe_get hj, wipe_get hj, h j hj]
omit [LamTbl] in
theorem wipeS_len (S : Sl) : ∀ vs : List Nat, (wipeS vs S).length = S.length
  | [] => rfl
  | v :: vs => by
    show ((wipeS vs S).set v .un).length = _
    rw [List.length_set, wipeS_len S vs]
omit [LamTbl] in
theorem wipeS_get {S : Sl} {j : Nat} : ∀ {vs : List Nat}, j ∉ vs → (wipeS vs S)[j]? = S[j]?
  | [], _ => rfl
  | v :: vs, h => by
    show ((wipeS vs S).set v .un)[j]? = _
    rw [List.getElem?_set_ne (fun z => h (by rw [z]; simp)), wipeS_get fun z => h (List.mem_cons_of_mem _ z)]
omit [LamTbl] in
theorem wipeS_in {S : Sl} {j : Nat} {s : Sv} : ∀ {vs : List Nat}, j ∈ vs → (wipeS vs S)[j]? = some s → s = .un
  | v :: vs, h, e => by
    have e : ((wipeS vs S).set v .un)[j]? = some s := e
    by_cases q : v = j
    · subst q
      by_cases hl : v < (wipeS vs S).length
      · rw [List.getElem?_set_self hl] at e; exact (Option.some.inj e).symm
      · rw [List.getElem?_eq_none (by rw [List.length_set]; omega)] at e; cases e
    · rw [List.getElem?_set_ne q] at e
      exact wipeS_in ((List.mem_cons.mp h).resolve_left fun z => q z.symm) e
omit [LamTbl] in
theorem wipeS_of {S T : Sl} {vs : List Nat} (h : ∀ j, j ∉ vs → T[j]? = S[j]?) : T.length = S.length → wipeS vs T = wipeS vs S := fun hl => by
  apply List.ext_getElem?
  intro j
  by_cases hj : j ∈ vs
  · by_cases hlt : j < S.length
    · have h1 : j < (wipeS vs S).length := by rw [wipeS_len]; exact hlt
      have h2 : j < (wipeS vs T).length := by rw [wipeS_len]; omega
      rw [List.getElem?_eq_getElem h1, List.getElem?_eq_getElem h2, wipeS_in (S := S) hj (List.getElem?_eq_getElem h1), wipeS_in (S := T) hj (List.getElem?_eq_getElem h2)]
    · rw [List.getElem?_eq_none (by rw [wipeS_len]; omega), List.getElem?_eq_none (by rw [wipeS_len]; omega)]
  · rw [wipeS_get hj, wipeS_get hj, h j hj]
omit [LamTbl] in
theorem backS_len (S1 S : Sl) : ∀ vs : List Nat, (backS vs S1 S).length = S.length
  | [] => rfl
  | v :: vs => by
    show ((backS vs S1 S).set v _).length = _
    rw [List.length_set, backS_len S1 S vs]
omit [LamTbl] in
theorem backS_get {S1 S : Sl} {j : Nat} : ∀ {vs : List Nat}, j ∉ vs → (backS vs S1 S)[j]? = S[j]?
  | [], _ => rfl
  | v :: vs, h => by
    show ((backS vs S1 S).set v _)[j]? = _
    rw [List.getElem?_set_ne (fun z => h (by rw [z]; simp)), backS_get fun z => h (List.mem_cons_of_mem _ z)]
omit [LamTbl] in
theorem backS_in {S1 S : Sl} {j : Nat} {s : Sv} (hl : S1.length = S.length) : ∀ {vs : List Nat}, j ∈ vs → (backS vs S1 S)[j]? = some s → S1[j]? = some s
  | v :: vs, h, e => by
    have e : ((backS vs S1 S).set v (S1.getD v .un))[j]? = some s := e
    by_cases q : v = j
    · subst q
      by_cases hv : v < (backS vs S1 S).length
      · rw [List.getElem?_set_self hv] at e
        rw [backS_len] at hv
        rw [← Option.some.inj e, List.getD_eq_getElem?_getD, List.getElem?_eq_getElem (by omega)]
        rfl
      · rw [List.getElem?_eq_none (by rw [List.length_set]; omega)] at e; cases e
    · rw [List.getElem?_set_ne q] at e
      exact backS_in hl ((List.mem_cons.mp h).resolve_left fun z => q z.symm) e

mutual
theorem put_mut : ∀ {p : Pat} {d : D} {S S' : Sl} {j : Nat} {s : Sv}, p.put d S = some S' → S'[j]? = some s → isMut s = true → S[j]? = some s ∧ j ∉ p.sl
  | .n i, d, S, S', j, s, e, h, m => by
    simp only [Pat.put, Option.some.injEq] at e
    subst e
    by_cases q : i = j
    · subst q
      by_cases hv : i < S.length
      · rw [List.getElem?_set_self hv] at h
        rw [← Option.some.inj h] at m
        cases m
      · rw [List.getElem?_eq_none (by rw [List.length_set]; omega)] at h; cases h
    · rw [List.getElem?_set_ne q] at h
      exact ⟨h, by simp only [Pat.sl, List.mem_singleton]; exact fun z => q z.symm⟩
  | .t ps, .tuple ds, S, S', j, s, e, h, m => puts_mut (ps := ps) (ds := ds) e h m
  | .t ps, .list ds, S, S', j, s, e, h, m => puts_mut (ps := ps) (ds := ds) e h m
  | .t _, .none, _, _, _, _, e, _, _ => by simp [Pat.put] at e
  | .t _, .bool _, _, _, _, _, e, _, _ => by simp [Pat.put] at e
  | .t _, .int _, _, _, _, _, e, _, _ => by simp [Pat.put] at e
  | .t _, .str _, _, _, _, _, e, _, _ => by simp [Pat.put] at e
  | .t _, .dict _, _, _, _, _, e, _, _ => by simp [Pat.put] at e
theorem puts_mut : ∀ {ps : List Pat} {ds : List D} {S S' : Sl} {j : Nat} {s : Sv}, Pat.puts ps ds S = some S' → S'[j]? = some s → isMut s = true → S[j]? = some s ∧ j ∉ Pat.sls ps
  | [], [], S, S', j, s, e, h, m => by
    simp only [Pat.puts, Option.some.injEq] at e
    subst e
    exact ⟨h, by simp [Pat.sls]⟩
  | [], _ :: _, _, _, _, _, e, _, _ => by simp [Pat.puts] at e
  | _ :: _, [], _, _, _, _, e, _, _ => by simp [Pat.puts] at e
  | p :: ps, d :: ds, S, S', j, s, e, h, m => by
    cases ep : p.put d S with
    | none => simp [Pat.puts, ep] at e
    | some S1 =>
      simp only [Pat.puts, ep, Option.bind_some] at e
      obtain ⟨h1, n1⟩ := puts_mut e h m
      obtain ⟨h2, n2⟩ := put_mut ep h1 m
      exact ⟨h2, by simp only [Pat.sls, List.mem_append, not_or]; exact ⟨n2, n1⟩⟩
end

section
variable {K : PySem.W.Frag} {mg : Str → Option Value} {F : Fx} {E : XK} {σ σ2 : St} {S S1 S2 : Sl} {H H1 H2 : Hp} {vs : List Nat}
theorem owns_wipe {a : Addr} (h : Owns (L2.wipe σ vs) (wipeS vs S) a) : ∃ i s, i ∉ vs ∧ S[i]? = some s ∧ isMut s = true ∧ σ[i]? = some (some (.ref a)) := by
  obtain ⟨i, s, e, m, q⟩ := h
  have hi : i ∉ vs := fun z => by
    rw [wipeS_in z e] at m
    cases m
  exact ⟨i, s, hi, by rw [← wipeS_get hi]; exact e, m, by rw [← wipe_get hi]; exact q⟩
theorem owns_wipe' {a : Addr} {i : Nat} {s : Sv} (hi : i ∉ vs) (e : S[i]? = some s) (m : isMut s = true) (q : σ[i]? = some (some (.ref a))) : Owns (L2.wipe σ vs) (wipeS vs S) a :=
  ⟨i, s, by rw [wipeS_get hi]; exact e, m, by rw [wipe_get hi]; exact q⟩
theorem owns_of_wipe {a : Addr} (h : Owns (L2.wipe σ vs) (wipeS vs S) a) : Owns σ S a := by
  obtain ⟨i, s, _, e, m, q⟩ := owns_wipe h
  exact ⟨i, s, e, m, q⟩
theorem RSt.wipe (st : RSt K mg F σ H S) (hb : ∀ i ∈ vs, F.brw i = none) : RSt K mg F (L2.wipe σ vs) H (wipeS vs S) where
  len := by rw [wipeS_len, L2.wipe_length]; exact st.len
  at_ := fun i s e => by
    by_cases hi : i ∈ vs
    · rw [wipeS_in hi e]; exact trivial
    · rw [wipeS_get hi] at e
      rw [wipe_get hi]
      exact st.at_ i s e
  inj := fun i j s t a e1 e2 m1 m2 q1 q2 => by
    have hi : i ∉ vs := fun z => by rw [wipeS_in z e1] at m1; cases m1
    have hj : j ∉ vs := fun z => by rw [wipeS_in z e2] at m2; cases m2
    rw [wipeS_get hi] at e1
    rw [wipeS_get hj] at e2
    rw [wipe_get hi] at q1
    rw [wipe_get hj] at q2
    exact st.inj i j s t a e1 e2 m1 m2 q1 q2
  ownd := fun i s a e m q => by
    have hi : i ∉ vs := fun z => by rw [wipeS_in z e] at m; cases m
    rw [wipeS_get hi] at e
    rw [wipe_get hi] at q
    exact st.ownd i s a e m q
  lent := fun i a e => by
    have hi : i ∉ vs := fun z => by rw [hb i z] at e; cases e
    obtain ⟨h1, h2, ds, h3⟩ := st.lent i a e
    rw [wipe_get hi, wipeS_get hi]
    exact ⟨h1, h2, ds, h3⟩
  frame := st.frame
  dom := st.dom
  mono := st.mono
  tabs := st.tabs
/-- behind a comprehension -/
theorem RSt.back (st : RSt K mg F σ H1 S1) (st2 : RSt K mg F (L2.wipe σ vs) H (wipeS vs S2)) (hb : ∀ i ∈ vs, F.brw i = none) (k : Keep (L2.wipe σ vs) (wipeS vs S1) H1 H) (sb : sub (L2.wipe σ vs) (wipeS vs S2) (wipeS vs S1)) (dm : ∀ a, H1 a ≠ none → H a ≠ none) :
    Go K mg F σ S1 H1 (backS vs S1 S2) H := by
  have hl : S1.length = S2.length := by
    have a := st.len
    have b := st2.len
    rw [wipeS_len, L2.wipe_length] at b
    omega
  have mo : Mono H1 H := (st.wipe hb).keep_mono k
  -- a list of an own slot is nobody else's
  have nw : ∀ i s a, i ∈ vs → S1[i]? = some s → isMut s = true → σ[i]? = some (some (.ref a)) → ¬ Owns (L2.wipe σ vs) (wipeS vs S1) a := fun i s a hi e m q z => by
    obtain ⟨j, t, hj, e', m', q'⟩ := owns_wipe z
    exact hj (st.inj i j s t a e e' m m' q q' ▸ hi)
  have cs : ∀ {j s}, (backS vs S1 S2)[j]? = some s → (j ∈ vs ∧ S1[j]? = some s) ∨ (j ∉ vs ∧ S2[j]? = some s) := fun {j s} e => by
    by_cases hj : j ∈ vs
    · exact .inl ⟨hj, backS_in hl hj e⟩
    · exact .inr ⟨hj, by rw [← backS_get hj]; exact e⟩
  refine ⟨⟨by rw [backS_len, ← hl]; exact st.len, fun j s e => ?_, fun i j s t a e1 e2 m1 m2 q1 q2 => ?_, fun j s a e m q => ?_, fun j a e => ?_, st2.frame, st2.dom, st2.mono, st2.tabs⟩, ⟨fun a o e t n => k.kp a o e t fun z => n (owns_of_wipe z), k.tb⟩, fun a ⟨j, s, e, m, q⟩ => ?_, dm⟩
  · rcases cs e with ⟨hj, e⟩ | ⟨hj, e⟩
    · refine (st.at_ j s e).mono mo fun a m q => ?_
      have z := st.at_ j s e
      cases h : H1 a with
      | none => exact absurd h (st.own_ne ⟨j, s, e, m, q⟩)
      | some u => exact k.kp a u h (st.own_nT ⟨j, s, e, m, q⟩ h) (nw j s a hj e m q)
    · have z := st2.at_ j s (by rw [wipeS_get hj]; exact e)
      rw [wipe_get hj] at z
      exact z
  · rcases cs e1 with ⟨hi, e1⟩ | ⟨hi, e1⟩
    · rcases cs e2 with ⟨hj, e2⟩ | ⟨hj, e2⟩
      · exact st.inj i j s t a e1 e2 m1 m2 q1 q2
      · exact absurd (sb a (owns_wipe' hj e2 m2 q2)) (nw i s a hi e1 m1 q1)
    · rcases cs e2 with ⟨hj, e2⟩ | ⟨hj, e2⟩
      · exact absurd (sb a (owns_wipe' hi e1 m1 q1)) (nw j t a hj e2 m2 q2)
      · exact st2.inj i j s t a (by rw [wipeS_get hi]; exact e1) (by rw [wipeS_get hj]; exact e2) m1 m2 (by rw [wipe_get hi]; exact q1) (by rw [wipe_get hj]; exact q2)
  · rcases cs e with ⟨hj, e⟩ | ⟨hj, e⟩
    · exact st.ownd j s a e m q
    · exact st2.ownd j s a (by rw [wipeS_get hj]; exact e) m (by rw [wipe_get hj]; exact q)
  · have hj : j ∉ vs := fun z => by rw [hb j z] at e; cases e
    obtain ⟨h1, h2, ds, h3⟩ := st2.lent j a e
    rw [wipe_get hj] at h1
    rw [wipeS_get hj] at h3
    rw [backS_get hj]
    exact ⟨h1, h2, ds, h3⟩
  · rcases cs e with ⟨hj, e⟩ | ⟨hj, e⟩
    · exact ⟨j, s, e, m, q⟩
    · exact owns_of_wipe (sb a (owns_wipe' hj e m q))
/-- a list that no slot has is written -/
theorem RSt.updFree {a : Addr} {acc ys : List V} (st : RSt K mg F σ H S) (n : ¬ Owns σ S a) (n0 : F.H0 a = none) (e : H a = some (.lst acc)) : RSt K mg F σ (upd H a (.lst ys)) S ∧ Mono H (upd H a (.lst ys)) := by
  have mo : Mono H (upd H a (.lst ys)) := by
    refine ⟨fun b zs h => ?_, fun b u w h => ?_, fun b φ h => ?_⟩ <;>
      (rw [upd_ne]; exact h; rintro rfl; rw [e] at h; cases h)
  refine ⟨⟨st.len, fun j s q => ?_, st.inj, st.ownd, st.lent, fun b u q t m => ?_, fun b h => ?_, st.mono.trans mo, st.tabs.trans (TbM.upd e nT.lst lst_ne)⟩, mo⟩
  · refine (st.at_ j s q).mono mo fun b m e1 => ?_
    rw [upd_ne]
    rintro rfl
    exact n ⟨j, s, q, m, e1⟩
  · rw [upd_ne]
    · exact st.frame b u q t m
    · rintro rfl
      rw [n0] at q; cases q
  · by_cases hb : b = a
    · rw [hb, upd_same]; exact fun z => by cases z
    · rw [upd_ne hb]; exact st.dom b h
end
def E0 : XK := fun _ _ _ => False

section
variable {X : Cx} {F : Fx} {E : XK} {pos : Pos} {tg iter elt : Expr} {ifs : List Expr} {w : M (List D)} {p : Pat} {c : M Bool} {e : M Sv} {scope : Scope} {own : List (Str × Nat)} {ck : Ck} {sl : List Nat}
theorem lc_imp {K : PySem.W.Frag} {mg : Str → Option Value} {vs sl : List Nat} {ck : Ck} (hb : ∀ i ∈ vs, F.brw i = none) (hp : ∀ i ∈ p.sl, i ∈ vs) (hsl : ∀ i ∈ sl, i ∉ vs) :
    ∀ σ H Q, tOf K mg F E (eLc vs ck w p c e) σ H Q → tLc (wOfN K mg F E w ck sl) (gOf K mg F p) (tOfB K mg F E0 c) (tOf K mg F E0 (eFz e)) vs σ H Q := by
  intro σ H Q ⟨S, st, q⟩
  refine ⟨S, st, ?_⟩
  unfold eLc at q
  cases ew : w S with
  | no => rw [ew] at q; exact q.elim
  | ex k S1 => rw [ew] at q; exact q
  | ok ds S1 =>
    rw [ew] at q
    simp only [Res.bind] at q
    cases el : lcLoop vs (ck S1) p c e ds S1 with
    | no => rw [el] at q; exact q.elim
    | ex k S2 => rw [el] at q; exact q.elim
    | ok xs S2 =>
      rw [el] at q
      simp only at q
      intro J H1 g wk wsz A nA
      have st1 := g.rst
      have sw := st1.wipe hb
      have nO : ¬ Owns (L2.wipe σ vs) (wipeS vs S1) A := sw.fresh_not nA
      have n0 : F.H0 A = none := by
        cases z : F.H0 A with
        | none => rfl
        | some u => exact absurd nA (st1.dom A (by rw [z]; exact fun z => by cases z))
      have sm0 : Same H1 (upd H1 A (.lst [])) := fun b x e => by rw [upd_ne (ne_of_none e nA)]; exact e
      refine ⟨fun i m H' => m = ds.length - i ∧ i ≤ ds.length ∧ ∃ S' done rest acc, lcLoop vs (ck S1) p c e (ds.drop i) S' = .ok rest S2 ∧ xs = done ++ rest ∧ RSt K mg F (L2.wipe σ vs) H' (wipeS vs S') ∧ Keep (L2.wipe σ vs) (wipeS vs S1) H1 H' ∧
        sub (L2.wipe σ vs) (wipeS vs S') (wipeS vs S1) ∧ (∀ a, H1 a ≠ none → H' a ≠ none) ∧ H' A = some (.lst acc) ∧ RepL K mg H' done acc ∧ done.length ≤ i, ⟨_, rfl, Nat.zero_le _, S1, [], xs, [], el, rfl, sw.grow sm0, Keep.of_same sm0, sub.refl _ _, (Go.of_same sw sm0).dm, upd_same, rfl, Nat.le_refl _⟩, ?_⟩
      rintro i m H' ⟨rfl, hle, S', done, rest, acc, el', ex, st', kp, sb, dm, eA, ra, hd⟩
      have mo : Mono H1 H' := sw.keep_mono kp
      have hck : ck S1 (wipeS vs S') = true := by
        cases z : ck S1 (wipeS vs S') with
        | true => rfl
        | false => cases hd0 : ds.drop i <;> (rw [hd0] at el'; simp only [lcLoop, z, Bool.false_eq_true, if_false] at el'; cases el')
      have wka : WkAt K mg J ds H' := wk _ _ H' (fun j hj => wipe_get (hsl j hj)) st' mo hck
      by_cases hlt : i < ds.length
      case neg =>
        have e0 : i = ds.length := by omega
        subst e0
        rw [List.drop_length] at el'
        simp only [lcLoop, hck, if_true] at el'
        cases el'
        rw [List.append_nil] at ex
        subst ex
        have gb := RSt.back st1 st' hb kp sb dm
        have nH : H A = none := by
          cases z : H A with
          | none => rfl
          | some u => exact absurd nA (g.dm A (by rw [z]; exact fun z => by cases z))
        exact .inl ⟨wka.stop, q _ H' (g.trans gb) ⟨A, rfl, nH, A, acc, rfl, eA, ra⟩⟩
      have hdrop : ∀ d, ds[i]? = some d → ds.drop i = d :: ds.drop (i + 1) := fun d ed => by
        rw [List.drop_eq_getElem_cons hlt]
        rw [List.getElem?_eq_getElem hlt] at ed
        rw [Option.some.inj ed]
      refine .inr ⟨wka.go i hlt, fun H3 => ∃ S' done rest acc, lcLoop vs (ck S1) p c e (ds.drop (i + 1)) S' = .ok rest S2 ∧ xs = done ++ rest ∧ RSt K mg F (L2.wipe σ vs) H3 (wipeS vs S') ∧ Keep (L2.wipe σ vs) (wipeS vs S1) H1 H3 ∧
        sub (L2.wipe σ vs) (wipeS vs S') (wipeS vs S1) ∧ (∀ a, H1 a ≠ none → H3 a ≠ none) ∧ H3 A = some (.lst acc) ∧ RepL K mg H3 done acc ∧ done.length ≤ i + 1, fun H3 z => ⟨_, by omega, rfl, hlt, z⟩, fun x H3 y => ?_⟩
      obtain ⟨sm, d, ed, rx⟩ := wka.yld i x H3 hlt y
      rw [hdrop d ed] at el'
      simp only [lcLoop, hck, if_true] at el'
      cases ep : p.put d (wipeS vs S') with
      | none => rw [ep] at el'; cases el'
      | some S3 =>
        rw [ep] at el'
        simp only at el'
        refine ⟨_, d, S3, st'.grow sm, rx, ep, fun σ2 u => ?_⟩
        have ws : L2.wipe σ2 vs = L2.wipe σ vs := by
          have h1 : L2.wipe σ2 vs = L2.wipe (L2.wipe σ vs) vs := wipe_eq u.len fun j hj => u.out j fun z => hj (hp j z)
          rw [h1]
          exact wipe_eq (L2.wipe_length _ _) fun j hj => wipe_get hj
        refine ⟨ws, ?_⟩
        have own3 : ∀ a, Owns σ2 S3 a → Owns (L2.wipe σ vs) (wipeS vs S') a := fun a ⟨j, s, e1, m1, q1⟩ => by
          obtain ⟨h1, h2⟩ := put_mut ep e1 m1
          exact ⟨j, s, h1, m1, by rw [← u.out j h2]; exact q1⟩
        have nO3 : ¬ Owns σ2 S3 A := fun z => nO (sb A (own3 A z))
        have go2 : ∀ {S5 : Sl} {H5 : Hp}, Go K mg F σ2 S3 H3 S5 H5 → RSt K mg F (L2.wipe σ vs) H5 (wipeS vs S5) ∧ Keep (L2.wipe σ vs) (wipeS vs S1) H1 H5 ∧ sub (L2.wipe σ vs) (wipeS vs S5) (wipeS vs S1) ∧ (∀ a, H1 a ≠ none → H5 a ≠ none) ∧ H5 A = some (.lst acc) ∧ RepL K mg H5 done acc := fun {S5 H5} g5 => by
          refine ⟨ws ▸ g5.rst.wipe hb, ⟨fun a o e1 t n => g5.keep.kp a o (sm a o (kp.kp a o e1 t n)) t fun z => n (sb a (own3 a z)), kp.tb.trans ((TbM.of_same sm).trans g5.keep.tb)⟩, fun a z => ?_, fun a n => g5.dm a ((Go.of_same st' sm).dm a (dm a n)), g5.keep.kp A _ (sm A _ eA) nT.lst nO3, RepL.mono ((Mono.of_same sm).trans (g5.mono u.rst)) done ra⟩
          rw [← ws] at z
          exact sb a (own3 a (g5.sub a (owns_of_wipe z)))
        refine ⟨S3, u.rst, ?_⟩
        cases ec : c S3 with
        | no => rw [ec] at el'; cases el'
        | ex k S4 => rw [ec] at el'; cases el'
        | ok b S4 =>
          rw [ec] at el'
          intro H4 g4
          cases b with
          | false =>
            simp only [Bool.false_eq_true, if_false] at el' ⊢
            obtain ⟨a1, a2, a3, a4, a5, a6⟩ := go2 g4
            exact ⟨S4, done, rest, acc, el', ex, a1, a2, a3, a4, a5, a6, by omega⟩
          | true =>
            simp only [if_true] at el' ⊢
            refine ⟨S4, g4.rst, ?_⟩
            unfold eFz
            cases ee : e S4 with
            | no => rw [ee] at el'; cases el'
            | ex k S5 => rw [ee] at el'; cases el'
            | ok r S5 =>
              rw [ee] at el'
              simp only [Res.bind] at el' ⊢
              cases er : toD r with
              | none => rw [er] at el'; cases el'
              | some x5 =>
                rw [er] at el'
                simp only at el' ⊢
                cases e6 : lcLoop vs (ck S1) p c e (ds.drop (i + 1)) S5 with
                | no => rw [e6] at el'; cases el'
                | ex k S6 => rw [e6] at el'; cases el'
                | ok r6 S6 =>
                  rw [e6] at el'
                  simp only [Res.ok.injEq] at el'
                  obtain ⟨er1, er2⟩ := el'
                  subst er1 er2
                  intro v5 H5 g5 r5
                  obtain ⟨a1, a2, a3, a4, a5, a6⟩ := go2 (g4.trans g5)
                  have nO5 : ¬ Owns (L2.wipe σ vs) (wipeS vs S5) A := fun z => nO (a3 A z)
                  obtain ⟨b1, b2⟩ := RSt.updFree (ys := acc ++ [v5]) a1 nO5 n0 a5
                  refine ⟨acc, a5, ?_, S5, done ++ [x5], r6, acc ++ [v5], e6, by rw [ex]; simp, b1, ⟨fun a o e1 t n => ?_, a2.tb.trans (TbM.upd a5 nT.lst lst_ne)⟩, a3, fun a n => ?_, upd_same, RepL.append (RepL.mono b2 done a6) (RepL.one (Rep.mono b2 x5 r5)), by rw [List.length_append]; simp; omega⟩
                  · rw [a6.length]
                    have := wsz
                    omega
                  · rw [upd_ne]
                    · exact a2.kp a o e1 t n
                    · rintro rfl
                      rw [nA] at e1; cases e1
                  · by_cases hb : a = A
                    · rw [hb, upd_same]; exact fun z => by cases z
                    · rw [upd_ne hb]; exact a4 a n
theorem a_lc (hc : X.calm = true) (hN : X.N.Nodup) (hi : AJ X F E tg iter w ck sl) (hsl : ∀ i ∈ sl, i ∉ own.map (·.2)) (ok : blkC X.N X.env.scope scope own = true) (hb : ∀ i ∈ own.map (·.2), F.brw i = none) (hp : ∀ i ∈ p.sl, i ∈ own.map (·.2))
    (hg : ∀ (s : Shared) (H : Hp) (C : Addr) (cl : List (Str × Addr)) (fp : List Addr), AG (X.blk s H scope (compEnvC scope cl C X.env) fp) F tg p)
    (ht : ∀ (s : Shared) (H : Hp) (C : Addr) (cl : List (Str × Addr)) (fp : List Addr), PTs (X.blk s H scope (compEnvC scope cl C X.env) fp) ifs (tOfB X.K X.mg F E0 c))
    (he : ∀ (s : Shared) (H : Hp) (C : Addr) (cl : List (Str × Addr)) (fp : List Addr), AE (X.blk s H scope (compEnvC scope cl C X.env) fp) F E0 elt e)
    (hs : ∀ x, foldedSetIterable iter X.env x = pure x := by intro _; rfl) : AE X F E (.ListComp elt [⟨tg, iter, ifs, 0⟩] scope pos) (eLc (own.map (·.2)) ck w p c e) :=
  PE_imp (pe_lc (te := tOf X.K X.mg F E0 (eFz e)) (tt := tOfB X.K X.mg F E0 c) (g := gOf X.K X.mg F p) hc hN hi (blkOk_by ok) hg ht (fun s H C cl fp => a_fz (he s H C cl fp)) hs) (lc_imp hb hp hsl)
/-- name = [..] -/
theorem as_setLc {i : Nat} {y : Str} {py spos : Pos} (hc : X.calm = true) (hN : X.N.Nodup) (hy : X.N[i]? = some y) (hyl : X.env.scope.names.lookup y = some .local) (hbi : F.brw i = none)
    (hsw : swapsWith (.ListComp elt [⟨tg, iter, ifs, 0⟩] scope pos) (some (.Name y py)) spos.line X.env = pure true) (hi : AJ X F E tg iter w ck sl) (hsl : ∀ i ∈ sl, i ∉ own.map (·.2)) (ok : blkC X.N X.env.scope scope own = true) (hb : ∀ i ∈ own.map (·.2), F.brw i = none) (hp : ∀ i ∈ p.sl, i ∈ own.map (·.2))
    (hg : ∀ (s : Shared) (H : Hp) (C : Addr) (cl : List (Str × Addr)) (fp : List Addr), AG (X.blk s H scope (compEnvC scope cl C X.env) fp) F tg p)
    (ht : ∀ (s : Shared) (H : Hp) (C : Addr) (cl : List (Str × Addr)) (fp : List Addr), PTs (X.blk s H scope (compEnvC scope cl C X.env) fp) ifs (tOfB X.K X.mg F E0 c))
    (he : ∀ (s : Shared) (H : Hp) (C : Addr) (cl : List (Str × Addr)) (fp : List Addr), AE (X.blk s H scope (compEnvC scope cl C X.env) fp) F E0 elt e)
    (hs : ∀ x, foldedSetIterable iter X.env x = pure x := by intro _; rfl) : AS X F E (.Assign [.Name y py] (.ListComp elt [⟨tg, iter, ifs, 0⟩] scope pos) spos) (sSet i (eLc (own.map (·.2)) ck w p c e)) := by
  refine PS_imp (ps_setLc (te := tOf X.K X.mg F E0 (eFz e)) (tt := tOfB X.K X.mg F E0 c) (g := gOf X.K X.mg F p) hc hN hy hyl hsw hi (blkOk_by ok) hg ht (fun s H C cl fp => a_fz (he s H C cl fp)) hs) fun C σ H ⟨S, st, q⟩ => ?_
  have q : OutS X.K X.mg F E C H ((eLc (own.map (·.2)) ck w p c e S).bind fun r S1 => match r with | .un => .no | r => .ok .nx (S1.set i r)) := q
  refine lc_imp hb hp hsl σ H _ ⟨S, st, ?_⟩
  cases em : eLc (own.map (·.2)) ck w p c e S with
  | no => rw [em] at q; exact q
  | ex k S1 => rw [em] at q; exact fun cls d H' r e => q cls d σ H' r e
  | ok r S1 =>
    rw [em] at q
    intro v H' g rr
    have fin := st.storeR g hbi rr
    cases r with
    | un => exact rr.elim
    | val d => exact q _ H' fin (g.mono st)
    | ow d => exact q _ H' fin (g.mono st)
    | dki d => exact q _ H' fin (g.mono st)
    | dkt d => exact q _ H' fin (g.mono st)
theorem ts_yes : ∀ (X : Cx), PTs X [] (tOfB X.K X.mg F E0 Rc.tYes) := fun X => ⟨fun pins s σ H Q I ⟨S, st, q⟩ => (pts_nil (X := X)).run pins s σ H Q I (q H (Go.refl st))⟩
theorem ts_one {X : Cx} {a : Expr} (h : AT X F E0 a c) : PTs X [a] (tOfB X.K X.mg F E0 c) := pts_one h
end
end Rc

namespace Rc
open PySem PySem.Spec PyProof.Rows L2
variable [LamTbl]
/-! ### two fors -/
section
variable {X : Cx} {F : Fx} {E : XK} {pos : Pos} {tg iter tg1 iter1 elt : Expr} {ifs ifs1 : List Expr} {w w1 : M (List D)} {p p1 : Pat} {c c1 : M Bool} {e : M Sv} {scope : Scope} {own : List (Str × Nat)} {ck : Ck} {sl : List Nat}
theorem lc2_imp {K : PySem.W.Frag} {mg : Str → Option Value} {vs vs1 sl : List Nat} {ck : Ck} (hb : ∀ i ∈ vs, F.brw i = none) (hp : ∀ i ∈ p.sl, i ∈ vs) (hsl : ∀ i ∈ sl, i ∉ vs) (hv : ∀ i ∈ vs1, i ∈ vs) (hp1 : ∀ i ∈ p1.sl, i ∈ vs1) :
    ∀ σ H Q, tOf K mg F E (eLc2 vs vs1 ck w p c w1 p1 c1 e) σ H Q → tLc2 (wOfN K mg F E w ck sl) (gOf K mg F p) (tOfB K mg F E0 c) (wOf K mg F E0 w1) (gOf K mg F p1) (tOfB K mg F E0 c1) (tOf K mg F E0 (eFz e)) vs vs1 σ H Q := by
  have hb1 : ∀ i ∈ vs1, F.brw i = none := fun i hi => hb i (hv i hi)
  intro σ H Q ⟨S, st, q⟩
  refine ⟨S, st, ?_⟩
  unfold eLc2 at q
  cases ew : w S with
  | no => rw [ew] at q; exact q.elim
  | ex k S1 => rw [ew] at q; exact q
  | ok ds S1 =>
    rw [ew] at q
    simp only [Res.bind] at q
    cases el : lc2Loop vs vs1 (ck S1) p c w1 p1 c1 e ds S1 with
    | no => rw [el] at q; exact q.elim
    | ex k S2 => rw [el] at q; exact q.elim
    | ok xs S2 =>
      rw [el] at q
      simp only at q
      by_cases hz : xs.length ≤ 16777216
      case neg => rw [if_neg hz] at q; exact q.elim
      rw [if_pos hz] at q
      intro J H1 g wk wsz A nA
      have st1 := g.rst
      have sw := st1.wipe hb
      have nO : ¬ Owns (L2.wipe σ vs) (wipeS vs S1) A := sw.fresh_not nA
      have n0 : F.H0 A = none := by
        cases z : F.H0 A with
        | none => rfl
        | some u => exact absurd nA (st1.dom A (by rw [z]; exact fun z => by cases z))
      have sm0 : Same H1 (upd H1 A (.lst [])) := fun b x e => by rw [upd_ne (ne_of_none e nA)]; exact e
      refine ⟨fun i m H' => m = ds.length - i ∧ i ≤ ds.length ∧ ∃ S' done rest acc, lc2Loop vs vs1 (ck S1) p c w1 p1 c1 e (ds.drop i) S' = .ok rest S2 ∧ xs = done ++ rest ∧ RSt K mg F (L2.wipe σ vs) H' (wipeS vs S') ∧ Keep (L2.wipe σ vs) (wipeS vs S1) H1 H' ∧
        sub (L2.wipe σ vs) (wipeS vs S') (wipeS vs S1) ∧ (∀ a, H1 a ≠ none → H' a ≠ none) ∧ H' A = some (.lst acc) ∧ RepL K mg H' done acc, ⟨_, rfl, Nat.zero_le _, S1, [], xs, [], el, rfl, sw.grow sm0, Keep.of_same sm0, sub.refl _ _, (Go.of_same sw sm0).dm, upd_same, rfl⟩, ?_⟩
      rintro i m H' ⟨rfl, hle, S', done, rest, acc, el', ex, st', kp, sb, dm, eA, ra⟩
      have mo : Mono H1 H' := sw.keep_mono kp
      have hck : ck S1 (wipeS vs S') = true := by
        cases z : ck S1 (wipeS vs S') with
        | true => rfl
        | false => cases hd0 : ds.drop i <;> (rw [hd0] at el'; simp only [lc2Loop, z, Bool.false_eq_true, if_false] at el'; cases el')
      have wka : WkAt K mg J ds H' := wk _ _ H' (fun j hj => wipe_get (hsl j hj)) st' mo hck
      by_cases hlt : i < ds.length
      case neg =>
        have e0 : i = ds.length := by omega
        subst e0
        rw [List.drop_length] at el'
        simp only [lc2Loop, hck, if_true] at el'
        cases el'
        rw [List.append_nil] at ex
        subst ex
        have gb := RSt.back st1 st' hb kp sb dm
        have nH : H A = none := by
          cases z : H A with
          | none => rfl
          | some u => exact absurd nA (g.dm A (by rw [z]; exact fun z => by cases z))
        exact .inl ⟨wka.stop, q _ H' (g.trans gb) ⟨A, rfl, nH, A, acc, rfl, eA, ra⟩⟩
      have hdrop : ∀ d, ds[i]? = some d → ds.drop i = d :: ds.drop (i + 1) := fun d ed => by
        rw [List.drop_eq_getElem_cons hlt]
        rw [List.getElem?_eq_getElem hlt] at ed
        rw [Option.some.inj ed]
      refine .inr ⟨wka.go i hlt, fun H3 => ∃ S' done rest acc, lc2Loop vs vs1 (ck S1) p c w1 p1 c1 e (ds.drop (i + 1)) S' = .ok rest S2 ∧ xs = done ++ rest ∧ RSt K mg F (L2.wipe σ vs) H3 (wipeS vs S') ∧ Keep (L2.wipe σ vs) (wipeS vs S1) H1 H3 ∧
        sub (L2.wipe σ vs) (wipeS vs S') (wipeS vs S1) ∧ (∀ a, H1 a ≠ none → H3 a ≠ none) ∧ H3 A = some (.lst acc) ∧ RepL K mg H3 done acc, fun H3 z => ⟨_, by omega, rfl, hlt, z⟩, fun x H3 y => ?_⟩
      obtain ⟨sm, d, ed, rx⟩ := wka.yld i x H3 hlt y
      rw [hdrop d ed] at el'
      simp only [lc2Loop, hck, if_true] at el'
      cases ep : p.put d (wipeS vs S') with
      | none => rw [ep] at el'; cases el'
      | some S3 =>
        rw [ep] at el'
        simp only at el'
        refine ⟨_, d, S3, st'.grow sm, rx, ep, fun σ2 u => ?_⟩
        have ws : L2.wipe σ2 vs = L2.wipe σ vs := by
          have h1 : L2.wipe σ2 vs = L2.wipe (L2.wipe σ vs) vs := wipe_eq u.len fun j hj => u.out j fun z => hj (hp j z)
          rw [h1]
          exact wipe_eq (L2.wipe_length _ _) fun j hj => wipe_get hj
        refine ⟨ws, ?_⟩
        have own3 : ∀ a, Owns σ2 S3 a → Owns (L2.wipe σ vs) (wipeS vs S') a := fun a ⟨j, s, e1, m1, q1⟩ => by
          obtain ⟨h1, h2⟩ := put_mut ep e1 m1
          exact ⟨j, s, h1, m1, by rw [← u.out j h2]; exact q1⟩
        have nO3 : ¬ Owns σ2 S3 A := fun z => nO (sb A (own3 A z))
        have go2 : ∀ {S5 : Sl} {H5 : Hp}, Go K mg F σ2 S3 H3 S5 H5 → RSt K mg F (L2.wipe σ vs) H5 (wipeS vs S5) ∧ Keep (L2.wipe σ vs) (wipeS vs S1) H1 H5 ∧ sub (L2.wipe σ vs) (wipeS vs S5) (wipeS vs S1) ∧ (∀ a, H1 a ≠ none → H5 a ≠ none) ∧ H5 A = some (.lst acc) ∧ RepL K mg H5 done acc := fun {S5 H5} g5 => by
          refine ⟨ws ▸ g5.rst.wipe hb, ⟨fun a o e1 t n => g5.keep.kp a o (sm a o (kp.kp a o e1 t n)) t fun z => n (sb a (own3 a z)), kp.tb.trans ((TbM.of_same sm).trans g5.keep.tb)⟩, fun a z => ?_, fun a n => g5.dm a ((Go.of_same st' sm).dm a (dm a n)), g5.keep.kp A _ (sm A _ eA) nT.lst nO3, RepL.mono ((Mono.of_same sm).trans (g5.mono u.rst)) done ra⟩
          rw [← ws] at z
          exact sb a (own3 a (g5.sub a (owns_of_wipe z)))
        refine ⟨S3, u.rst, ?_⟩
        cases ec : c S3 with
        | no => rw [ec] at el'; cases el'
        | ex k S4 => rw [ec] at el'; cases el'
        | ok b S4 =>
          rw [ec] at el'
          intro H4 g4
          cases b with
          | false =>
            simp only [Bool.false_eq_true, if_false] at el' ⊢
            obtain ⟨a1, a2, a3, a4, a5, a6⟩ := go2 g4
            exact ⟨S4, done, rest, acc, el', ex, a1, a2, a3, a4, a5, a6⟩
          | true =>
            simp only [if_true] at el' ⊢
            refine ⟨S4, g4.rst, ?_⟩
            cases ew1 : w1 S4 with
            | no => rw [ew1] at el'; cases el'
            | ex k S5 => rw [ew1] at el'; cases el'
            | ok ds1 S5 =>
              rw [ew1] at el'
              simp only at el'
              cases ei : lcLoop vs1 (fun _ => true) p1 c1 e ds1 S5 with
              | no => rw [ei] at el'; cases el'
              | ex k S6 => rw [ei] at el'; cases el'
              | ok xs1 S6 =>
                rw [ei] at el'
                simp only at el'
                cases er : lc2Loop vs vs1 (ck S1) p c w1 p1 c1 e (ds.drop (i + 1)) S6 with
                | no => rw [er] at el'; cases el'
                | ex k S7 => rw [er] at el'; cases el'
                | ok rest2 S7 =>
                  rw [er] at el'
                  simp only [Res.bind, Res.ok.injEq] at el'
                  obtain ⟨er1, er2⟩ := el'
                  subst er1 er2
                  intro J1 H5 g5 wk1
                  have g45 := g4.trans g5
                  obtain ⟨a1, a2, a3, a4, a5, a6⟩ := go2 g45
                  -- the inner loop
                  have sw1 := g5.rst.wipe hb1
                  have o1 : ∀ a, Owns (L2.wipe σ2 vs1) (wipeS vs1 S5) a → Owns σ2 S3 a := fun a z => g45.sub a (owns_of_wipe z)
                  have nO1 : ¬ Owns (L2.wipe σ2 vs1) (wipeS vs1 S5) A := fun z => nO3 (o1 A z)
                  refine ⟨fun j k H' => k = ds1.length - j ∧ j ≤ ds1.length ∧ ∃ S8 d1 r1 acc, lcLoop vs1 (fun _ => true) p1 c1 e (ds1.drop j) S8 = .ok r1 S6 ∧ xs1 = d1 ++ r1 ∧ RSt K mg F (L2.wipe σ2 vs1) H' (wipeS vs1 S8) ∧ Keep (L2.wipe σ2 vs1) (wipeS vs1 S5) (fun b => if b = A then none else H5 b) H' ∧
                    sub (L2.wipe σ2 vs1) (wipeS vs1 S8) (wipeS vs1 S5) ∧ (∀ a, H5 a ≠ none → H' a ≠ none) ∧ Mono H5 H' ∧ H' A = some (.lst acc) ∧ RepL K mg H' (done ++ d1) acc, ⟨_, rfl, Nat.zero_le _, S5, [], xs1, acc, ei, rfl, sw1, ?_, sub.refl _ _, fun _ n => n, Mono.refl _, a5, by rw [List.append_nil]; exact a6⟩, ?_⟩
                  · have key : ∀ b o, (if b = A then none else H5 b) = some o → H5 b = some o := fun b o h => by
                      by_cases hA : b = A
                      · rw [if_pos hA] at h; cases h
                      · rw [if_neg hA] at h; exact h
                    exact ⟨fun b o h _ _ => key b o h, TbM.of_same key⟩
                  rintro j k H6 ⟨rfl, hjle, S8, d1, r1, acc1, ej, ex1, st8, kp8, sb8, dm8, mo8, eA8, ra8⟩
                  by_cases hj : j < ds1.length
                  case neg =>
                    have e0 : j = ds1.length := by omega
                    subst e0
                    rw [List.drop_length] at ej
                    simp only [lcLoop, if_true] at ej
                    cases ej
                    rw [List.append_nil] at ex1
                    subst ex1
                    refine .inl ⟨wk1.stop H6 mo8, S6, done ++ xs1, rest2, acc1, er, by rw [ex, List.append_assoc], ?_, ?_, ?_, ?_, eA8, ra8⟩
                    · have z := st8.wipe hb
                      rw [show L2.wipe (L2.wipe σ2 vs1) vs = L2.wipe σ vs by
                        rw [← ws]
                        exact wipe_eq (L2.wipe_length _ _) fun j hj => wipe_get fun z => hj (hv j z)] at z
                      rw [show wipeS vs (wipeS vs1 S6) = wipeS vs S6 from wipeS_of (fun j hj => wipeS_get fun z => hj (hv j z)) (wipeS_len _ _)] at z
                      exact z
                    · refine ⟨fun b o h t n => ?_, a2.tb.trans ((TbM.hide a5).trans kp8.tb)⟩
                      by_cases hA : b = A
                      · rw [hA, nA] at h; cases h
                      · exact kp8.kp b o (by show (if b = A then none else H5 b) = some o; rw [if_neg hA]; exact a2.kp b o h t n) t fun z => n (sb b (own3 b (o1 b z)))
                    · intro b z
                      obtain ⟨jj, s, h1, h2, h3, h4⟩ := owns_wipe z
                      have : Owns (L2.wipe σ2 vs1) (wipeS vs1 S6) b := owns_wipe' (fun z => h1 (hv jj z)) h2 h3 (by rw [← wipe_get (σ := σ2) h1, ws]; rw [wipe_get h1]; exact h4)
                      exact sb b (own3 b (o1 b (sb8 b this)))
                    · exact fun b n => dm8 b (a4 b n)
                  have hdrop1 : ∀ d, ds1[j]? = some d → ds1.drop j = d :: ds1.drop (j + 1) := fun d ed => by
                    rw [List.drop_eq_getElem_cons hj]
                    rw [List.getElem?_eq_getElem hj] at ed
                    rw [Option.some.inj ed]
                  refine .inr ⟨wk1.go j H6 mo8 hj, fun H' => ∃ S8 d1 r1 acc, lcLoop vs1 (fun _ => true) p1 c1 e (ds1.drop (j + 1)) S8 = .ok r1 S6 ∧ xs1 = d1 ++ r1 ∧ RSt K mg F (L2.wipe σ2 vs1) H' (wipeS vs1 S8) ∧ Keep (L2.wipe σ2 vs1) (wipeS vs1 S5) (fun b => if b = A then none else H5 b) H' ∧
                    sub (L2.wipe σ2 vs1) (wipeS vs1 S8) (wipeS vs1 S5) ∧ (∀ a, H5 a ≠ none → H' a ≠ none) ∧ Mono H5 H' ∧ H' A = some (.lst acc) ∧ RepL K mg H' (done ++ d1) acc, fun H9 z => ⟨_, by omega, rfl, hj, z⟩, fun x1 H7 y1 => ?_⟩
                  obtain ⟨sm1, dd, ed1, rx1⟩ := wk1.yld j H6 x1 H7 mo8 hj y1
                  rw [hdrop1 dd ed1] at ej
                  simp only [lcLoop, if_true] at ej
                  cases ep1 : p1.put dd (wipeS vs1 S8) with
                  | none => rw [ep1] at ej; cases ej
                  | some S9 =>
                    rw [ep1] at ej
                    simp only at ej
                    refine ⟨_, dd, S9, st8.grow sm1, rx1, ep1, fun σ3 u3 => ?_⟩
                    have ws3 : L2.wipe σ3 vs1 = L2.wipe σ2 vs1 := by
                      have h1 : L2.wipe σ3 vs1 = L2.wipe (L2.wipe σ2 vs1) vs1 := wipe_eq u3.len fun j hj => u3.out j fun z => hj (hp1 j z)
                      rw [h1]
                      exact wipe_eq (L2.wipe_length _ _) fun j hj => wipe_get hj
                    refine ⟨ws3, ?_⟩
                    have own9 : ∀ a, Owns σ3 S9 a → Owns (L2.wipe σ2 vs1) (wipeS vs1 S8) a := fun a ⟨jj, s, h1, m1, q1⟩ => by
                      obtain ⟨h3, h2⟩ := put_mut ep1 h1 m1
                      exact ⟨jj, s, h3, m1, by rw [← u3.out jj h2]; exact q1⟩
                    have nO9 : ¬ Owns σ3 S9 A := fun z => nO1 (sb8 A (own9 A z))
                    have go3 : ∀ {Sx : Sl} {Hx : Hp}, Go K mg F σ3 S9 H7 Sx Hx → RSt K mg F (L2.wipe σ2 vs1) Hx (wipeS vs1 Sx) ∧ Keep (L2.wipe σ2 vs1) (wipeS vs1 S5) (fun b => if b = A then none else H5 b) Hx ∧ sub (L2.wipe σ2 vs1) (wipeS vs1 Sx) (wipeS vs1 S5) ∧ (∀ a, H5 a ≠ none → Hx a ≠ none) ∧ Mono H5 Hx ∧ Hx A = some (.lst acc1) ∧ RepL K mg Hx (done ++ d1) acc1 := fun {Sx Hx} gx => by
                      have mx := (Mono.of_same sm1).trans (gx.mono u3.rst)
                      refine ⟨ws3 ▸ gx.rst.wipe hb1, ⟨fun a o h1 t n => gx.keep.kp a o (sm1 a o (kp8.kp a o h1 t n)) t fun z => n (sb8 a (own9 a z)), kp8.tb.trans ((TbM.of_same sm1).trans gx.keep.tb)⟩, fun a z => ?_, fun a n => gx.dm a ((Go.of_same st8 sm1).dm a (dm8 a n)), mo8.trans mx, gx.keep.kp A _ (sm1 A _ eA8) nT.lst nO9, RepL.mono mx _ ra8⟩
                      rw [← ws3] at z
                      exact sb8 a (own9 a (gx.sub a (owns_of_wipe z)))
                    refine ⟨S9, u3.rst, ?_⟩
                    cases ec1 : c1 S9 with
                    | no => rw [ec1] at ej; cases ej
                    | ex k S4 => rw [ec1] at ej; cases ej
                    | ok b1 Sa =>
                      rw [ec1] at ej
                      intro Ha ga
                      cases b1 with
                      | false =>
                        simp only [Bool.false_eq_true, if_false] at ej ⊢
                        obtain ⟨b1, b2, b3, b4, b5, b6, b7⟩ := go3 ga
                        exact ⟨Sa, d1, r1, acc1, ej, ex1, b1, b2, b3, b4, b5, b6, b7⟩
                      | true =>
                        simp only [if_true] at ej ⊢
                        refine ⟨Sa, ga.rst, ?_⟩
                        unfold eFz
                        cases ee : e Sa with
                        | no => rw [ee] at ej; cases ej
                        | ex k Sb => rw [ee] at ej; cases ej
                        | ok rv Sb =>
                          rw [ee] at ej
                          simp only [Res.bind] at ej ⊢
                          cases er : toD rv with
                          | none => rw [er] at ej; cases ej
                          | some x5 =>
                            rw [er] at ej
                            simp only at ej ⊢
                            cases e6 : lcLoop vs1 (fun _ => true) p1 c1 e (ds1.drop (j + 1)) Sb with
                            | no => rw [e6] at ej; cases ej
                            | ex k Sc => rw [e6] at ej; cases ej
                            | ok r6 Sc =>
                              rw [e6] at ej
                              simp only [Res.ok.injEq] at ej
                              obtain ⟨ej1, ej2⟩ := ej
                              subst ej1 ej2
                              intro vb Hb gb rb
                              obtain ⟨b1, b2, b3, b4, b5, b6, b7⟩ := go3 (ga.trans gb)
                              have nOb : ¬ Owns (L2.wipe σ2 vs1) (wipeS vs1 Sb) A := fun z => nO1 (b3 A z)
                              obtain ⟨k1, k2⟩ := RSt.updFree (ys := acc1 ++ [vb]) b1 nOb n0 b6
                              refine ⟨acc1, b6, ?_, Sb, d1 ++ [x5], r6, acc1 ++ [vb], e6, by rw [ex1]; simp, k1, ⟨fun a o h1 t n => ?_, b2.tb.trans (TbM.upd b6 nT.lst lst_ne)⟩, b3, fun a n => ?_, b5.trans k2, upd_same, by rw [← List.append_assoc]; exact RepL.append (RepL.mono k2 _ b7) (RepL.one (Rep.mono k2 x5 rb))⟩
                              · rw [b7.length, sizeLine_eq]
                                have : xs.length = done.length + (d1.length + (1 + r6.length) + rest2.length) := by rw [ex, ex1]; simp; omega
                                rw [List.length_append]
                                omega
                              · rw [upd_ne]
                                · exact b2.kp a o h1 t n
                                · rintro rfl
                                  have h1 : (if a = a then none else H5 a) = some o := h1
                                  rw [if_pos rfl] at h1; cases h1
                              · by_cases hbA : a = A
                                · rw [hbA, upd_same]; exact fun z => by cases z
                                · rw [upd_ne hbA]; exact b4 a n
theorem a_lc2 {vs1 : List Nat} (hc : X.calm = true) (hN : X.N.Nodup) (hi : AJ X F E tg iter w ck sl) (hsl : ∀ i ∈ sl, i ∉ own.map (·.2)) (ok : blkC X.N X.env.scope scope own = true) (hb : ∀ i ∈ own.map (·.2), F.brw i = none) (hp : ∀ i ∈ p.sl, i ∈ own.map (·.2)) (hv : ∀ i ∈ vs1, i ∈ own.map (·.2)) (hp1 : ∀ i ∈ p1.sl, i ∈ vs1)
    (hg : ∀ (s : Shared) (H : Hp) (C : Addr) (cl : List (Str × Addr)) (fp : List Addr), AG (X.blk s H scope (compEnvC scope cl C X.env) fp) F tg p)
    (ht : ∀ (s : Shared) (H : Hp) (C : Addr) (cl : List (Str × Addr)) (fp : List Addr), PTs (X.blk s H scope (compEnvC scope cl C X.env) fp) ifs (tOfB X.K X.mg F E0 c))
    (hi1 : ∀ (s : Shared) (H : Hp) (C : Addr) (cl : List (Str × Addr)) (fp : List Addr), AI (X.blk s H scope (compEnvC scope cl C X.env) fp) F E0 tg1 iter1 w1)
    (hg1 : ∀ (s : Shared) (H : Hp) (C : Addr) (cl : List (Str × Addr)) (fp : List Addr), AG (X.blk s H scope (compEnvC scope cl C X.env) fp) F tg1 p1)
    (ht1 : ∀ (s : Shared) (H : Hp) (C : Addr) (cl : List (Str × Addr)) (fp : List Addr), PTs (X.blk s H scope (compEnvC scope cl C X.env) fp) ifs1 (tOfB X.K X.mg F E0 c1))
    (he : ∀ (s : Shared) (H : Hp) (C : Addr) (cl : List (Str × Addr)) (fp : List Addr), AE (X.blk s H scope (compEnvC scope cl C X.env) fp) F E0 elt e)
    (hs : ∀ x, foldedSetIterable iter X.env x = pure x := by intro _; rfl) (hs1 : ∀ env x, foldedSetIterable iter1 env x = pure x := by intro _ _; rfl) :
    AE X F E (.ListComp elt [⟨tg, iter, ifs, 0⟩, ⟨tg1, iter1, ifs1, 0⟩] scope pos) (eLc2 (own.map (·.2)) vs1 ck w p c w1 p1 c1 e) :=
  PE_imp (pe_lc2 (te := tOf X.K X.mg F E0 (eFz e)) (tt := tOfB X.K X.mg F E0 c) (tt1 := tOfB X.K X.mg F E0 c1) (g := gOf X.K X.mg F p) (g1 := gOf X.K X.mg F p1) (wi1 := wOf X.K X.mg F E0 w1) hc hN hi (blkOk_by ok) hv hg ht hi1 hg1 ht1 (fun s H C cl fp => a_fz (he s H C cl fp)) hs hs1) (lc2_imp hb hp hsl hv hp1)
end
end Rc

/-! Rc: defs and their calls. -/
namespace Rc
open PySem PySem.Spec PyProof.Rows L2
variable [LamTbl]

def okArg : Sv → Bool
  | .val _ => true
  | .ow _ => true
  | _ => false
section
variable (K : PySem.W.Frag) (mg : Str → Option Value)
/-- what is handed to a def -/
structure Hands (H : Hp) (args : Sl) (vs : List V) : Prop where
  len : vs.length = args.length
  at_ : ∀ (i : Nat) s, args[i]? = some s → okArg s = true ∧ RSv K mg H (vs[i]?.map some) s
  inj : ∀ (i j : Nat) s t a, args[i]? = some s → args[j]? = some t → isMut s = true → isMut t = true → vs[i]? = some (.ref a) → vs[j]? = some (.ref a) → i = j
def Lent (args : Sl) (vs : List V) (a : Addr) : Prop := ∃ (i : Nat) (s : Sv), args[i]? = some s ∧ isMut s = true ∧ vs[i]? = some (.ref a)
/-- behind the call -/
structure Back (H H' : Hp) (args outs : Sl) (vs : List V) : Prop where
  keep : ∀ a o, H a = some o → nT o → ¬ Lent args vs a → H' a = some o
  tabs : TbM H H'
  dm : ∀ a, H a ≠ none → H' a ≠ none
  mono : Mono H H'
  res : ∀ (i : Nat) s, args[i]? = some s → isMut s = true → ∃ s', outs[i]? = some s' ∧ (∃ ds, s' = .ow ds ∨ s' = .val (.list ds)) ∧ RSv K mg H' (vs[i]?.map some) s'
  len : outs.length = args.length
def spOf (n : Nat) (G : AF) : Sp := fun vs H Q E => ∃ args : Sl, args.length = n ∧ Hands K mg H args vs ∧ match G args with
  | .ret r outs => ∀ v H', Back K mg H H' args outs vs → RepR K mg H H' r v → Q v H'
  | .ex e outs => ∀ cls d H', Back K mg H H' args outs vs → RepE mg e cls d H' → E cls d H'
  | .no => False
end
/-- the def x keeps the promise of G -/
def Has (P : Program) (w : World) (K : PySem.W.Frag) (mg : Str → Option Value) (base : Heap) (x : Str) (n : Nat) (k : Nat) (G : AF) : Prop :=
  ∃ (f : Addr) (fd : FuncData) (ps : List Str), mg x = some (.ref f) ∧ PySem.W.keepIn K (.ref f) = true ∧ Binds K fd ps [] ∧ ps.length = n ∧ FnOk P w K mg base (L2N.CX P w) k f fd ps (spOf K mg n G)
theorem Has.mono {P : Program} {w : World} {K : PySem.W.Frag} {mg : Str → Option Value} {base : Heap} {x : Str} {n j k : Nat} {G : AF} (h : Has P w K mg base x n j G) (hj : j ≤ k) : Has P w K mg base x n k G := by
  obtain ⟨f, fd, ps, a, b, c, d, e⟩ := h
  exact ⟨f, fd, ps, a, b, c, d, e.mono hj⟩

/-! ### arguments -/
section
variable {K : PySem.W.Frag} {mg : Str → Option Value} {F : Fx} {E : XK} {σ : St} {S S1 S2 : Sl} {H H1 H2 : Hp}
/-- the values that go out -/
def Goes (K : PySem.W.Frag) (mg : Str → Option Value) (σ : St) (H : Hp) : List (D ⊕ Nat) → List V → Prop
  | [], vs => vs = []
  | .inl d :: as, vs => ∃ v ws, vs = v :: ws ∧ Rep K mg H d v ∧ Goes K mg σ H as ws
  | .inr i :: as, vs => ∃ v ws, vs = v :: ws ∧ σ[i]? = some (some v) ∧ Goes K mg σ H as ws
theorem Goes.mono (m : Mono H H1) : ∀ {as : List (D ⊕ Nat)} {vs : List V}, Goes K mg σ H as vs → Goes K mg σ H1 as vs
  | [], _, h => h
  | .inl d :: as, _, h => by
    obtain ⟨v, ws, e, r, q⟩ := h
    exact ⟨v, ws, e, Rep.mono m d r, Goes.mono m q⟩
  | .inr i :: as, _, h => by
    obtain ⟨v, ws, e, r, q⟩ := h
    exact ⟨v, ws, e, r, Goes.mono m q⟩
theorem Goes.length : ∀ {as : List (D ⊕ Nat)} {vs : List V}, Goes K mg σ H as vs → vs.length = as.length
  | [], _, h => by rw [show _ = _ from h]; rfl
  | .inl d :: as, _, h => by
    obtain ⟨v, ws, e, r, q⟩ := h
    rw [e, List.length_cons, List.length_cons, Goes.length q]
  | .inr i :: as, _, h => by
    obtain ⟨v, ws, e, r, q⟩ := h
    rw [e, List.length_cons, List.length_cons, Goes.length q]
theorem Goes.get : ∀ {as : List (D ⊕ Nat)} {vs : List V} {j : Nat} {a : D ⊕ Nat}, Goes K mg σ H as vs → as[j]? = some a →
    ∃ v, vs[j]? = some v ∧ match a with | .inl d => Rep K mg H d v | .inr i => σ[i]? = some (some v)
  | [], _, _, _, _, h => by simp at h
  | .inl d :: as, _, 0, _, h, e => by
    obtain ⟨v, ws, e', r, q⟩ := h
    simp at e
    subst e e'
    exact ⟨v, rfl, r⟩
  | .inr i :: as, _, 0, _, h, e => by
    obtain ⟨v, ws, e', r, q⟩ := h
    simp at e
    subst e e'
    exact ⟨v, rfl, r⟩
  | .inl d :: as, _, j + 1, _, h, e => by
    obtain ⟨v, ws, e', r, q⟩ := h
    subst e'
    simp only [List.getElem?_cons_succ] at e ⊢
    exact Goes.get q e
  | .inr i :: as, _, j + 1, _, h, e => by
    obtain ⟨v, ws, e', r, q⟩ := h
    subst e'
    simp only [List.getElem?_cons_succ] at e ⊢
    exact Goes.get q e
def tOfA (K : PySem.W.Frag) (mg : Str → Option Value) (F : Fx) (E : XK) (as : List Am) : TA := fun σ H Q => ∃ S, RSt K mg F σ H S ∧ match evA as S with
  | .ok ls S' => ∀ vs H', Go K mg F σ S H S' H' → Goes K mg σ H' ls vs → Q vs H'
  | .ex e S' => ∀ cls d H', RSt K mg F σ H' S' → RepE mg e cls d H' → E cls d H'
  | .no => False
end
abbrev AA (X : Cx) (F : Fx) (E : XK) (es : List Expr) (as : List Am) : Prop := PA X es (tOfA X.K X.mg F E as)
section
variable {X : Cx} {F : Fx} {E : XK} {pos : Pos} {e : Expr} {es : List Expr} {m : M Sv} {as : List Am}
theorem aa_nil : AA X F E [] [] := PA_imp pa_nil fun σ H Q ⟨S, st, q⟩ => q [] H (Go.refl st) rfl
theorem aa_d (ha : AE X F E e m) (hr : AA X F E es as) (hs : starEach (e :: es) X.env = (false, eval e X.env) :: starEach es X.env := by rfl) : AA X F E (e :: es) (.d m :: as) := by
  refine PA_imp (pa_cons (a_fz ha) hr hs) fun σ H Q ⟨S, st, q⟩ => ⟨S, st, ?_⟩
  simp only [evA] at q
  unfold eFz
  cases em : m S with
  | no => rw [em] at q; exact q.elim
  | ex k S1 => rw [em] at q; exact q
  | ok r S1 =>
    rw [em] at q
    simp only [Res.bind] at q ⊢
    cases ed : toD r with
    | none => rw [ed] at q; exact q.elim
    | some d =>
      rw [ed] at q
      simp only at q ⊢
      intro v H1 g1 r1
      refine ⟨S1, g1.rst, ?_⟩
      cases el : evA as S1 with
      | no => rw [el] at q; exact q.elim
      | ex k S2 => rw [el] at q; exact q
      | ok ds S2 =>
        rw [el] at q
        intro vs H2 g2 r2
        exact q (v :: vs) H2 (g1.trans g2) ⟨v, vs, rfl, Rep.mono (g2.mono g1.rst) d r1, r2⟩
theorem aa_b {i : Nat} {x : Str} {p : Pos} (hN : X.N[i]? = some x) (hv : Vis X.env.scope x) (hr : AA X F E es as) (hd : (x == ("__debug__" : Str)) = false := by decide) (hcd : (x == ("__classdict__" : Str)) = false := by decide)
    (hs : starEach (.Name x p :: es) X.env = (false, eval (.Name x p) X.env) :: starEach es X.env := by rfl) : AA X F E (.Name x p :: es) (.b i :: as) := by
  refine PA_imp (pa_cons (pe_var hN hv hd hcd) hr hs) fun σ H Q ⟨S, st, q⟩ => ?_
  simp only [evA] at q
  by_cases hb : bound S i = true
  case neg =>
    rw [if_neg hb] at q
    exact q.elim
  rw [if_pos hb] at q
  have ev : ∃ v, σ[i]? = some (some v) := by
    unfold bound at hb
    cases es : S[i]? with
    | none => rw [es] at hb; cases hb
    | some s =>
      rw [es] at hb
      cases s with
      | un => cases hb
      | dki _ => cases hb
      | dkt _ => cases hb
      | val d => obtain ⟨v, e, _⟩ := st.at_ i _ es; exact ⟨v, e⟩
      | ow d => obtain ⟨a, _, e, _⟩ := st.at_ i _ es; exact ⟨_, e⟩
  obtain ⟨v, ev⟩ := ev
  refine ⟨v, ev, S, st, ?_⟩
  cases el : evA as S with
  | no => rw [el] at q; exact q.elim
  | ex k S2 => rw [el] at q; exact q
  | ok ds S2 =>
    rw [el] at q
    intro vs H2 g2 r2
    exact q (v :: vs) H2 g2 ⟨v, vs, rfl, ev, r2⟩
end

/-! ### the slots behind a call -/
def bIdx : List Am → List Nat
  | [] => []
  | .d _ :: as => bIdx as
  | .b i :: as => i :: bIdx as
def bIx : List (D ⊕ Nat) → List Nat
  | [] => []
  | .inl _ :: as => bIx as
  | .inr i :: as => i :: bIx as
theorem evA_bIx : ∀ {as : List Am} {S S1 : Sl} {ls : List (D ⊕ Nat)}, evA as S = .ok ls S1 → bIx ls = bIdx as
  | [], _, _, _, h => by cases h; rfl
  | .d m :: as, S, S1, ls, h => by
    simp only [evA] at h
    cases em : m S with
    | no => rw [em] at h; cases h
    | ex k S2 => rw [em] at h; cases h
    | ok r S2 =>
      rw [em] at h
      simp only [Res.bind] at h
      cases ed : toD r with
      | none => rw [ed] at h; cases h
      | some d =>
        rw [ed] at h
        simp only at h
        cases el : evA as S2 with
        | no => rw [el] at h; cases h
        | ex k S3 => rw [el] at h; cases h
        | ok ds S3 =>
          rw [el] at h
          cases h
          show bIx ds = bIdx as
          exact evA_bIx el
  | .b i :: as, S, S1, ls, h => by
    simp only [evA] at h
    by_cases hb : bound S i = true
    case neg => rw [if_neg hb] at h; cases h
    rw [if_pos hb] at h
    cases el : evA as S with
    | no => rw [el] at h; cases h
    | ex k S3 => rw [el] at h; cases h
    | ok ds S3 =>
      rw [el] at h
      cases h
      show i :: bIx ds = i :: bIdx as
      rw [evA_bIx el]
theorem evA_len : ∀ {as : List Am} {S S1 : Sl} {ls : List (D ⊕ Nat)}, evA as S = .ok ls S1 → ls.length = as.length
  | [], _, _, _, h => by cases h; rfl
  | .d m :: as, S, S1, ls, h => by
    simp only [evA] at h
    cases em : m S with
    | no => rw [em] at h; cases h
    | ex k S2 => rw [em] at h; cases h
    | ok r S2 =>
      rw [em] at h
      simp only [Res.bind] at h
      cases ed : toD r with
      | none => rw [ed] at h; cases h
      | some d =>
        rw [ed] at h
        simp only at h
        cases el : evA as S2 with
        | no => rw [el] at h; cases h
        | ex k S3 => rw [el] at h; cases h
        | ok ds S3 =>
          rw [el] at h
          cases h
          rw [List.length_cons, List.length_cons, evA_len el]
  | .b i :: as, S, S1, ls, h => by
    simp only [evA] at h
    by_cases hb : bound S i = true
    case neg => rw [if_neg hb] at h; cases h
    rw [if_pos hb] at h
    cases el : evA as S with
    | no => rw [el] at h; cases h
    | ex k S3 => rw [el] at h; cases h
    | ok ds S3 =>
      rw [el] at h
      cases h
      rw [List.length_cons, List.length_cons, evA_len el]
theorem bIx_mem : ∀ {ls : List (D ⊕ Nat)} {i : Nat}, Sum.inr i ∈ ls → i ∈ bIx ls
  | .inl _ :: ls, i, h => bIx_mem (ls := ls) ((List.mem_cons.mp h).resolve_left fun z => by cases z)
  | .inr j :: ls, i, h => by
    rcases List.mem_cons.mp h with z | z
    · cases z; exact List.mem_cons_self
    · exact List.mem_cons_of_mem _ (bIx_mem z)
theorem bIx_inj : ∀ {ls : List (D ⊕ Nat)} {i j k : Nat}, (bIx ls).Nodup → ls[i]? = some (.inr k) → ls[j]? = some (.inr k) → i = j
  | [], _, _, _, _, h, _ => by simp at h
  | .inl d :: ls, i, j, k, n, h1, h2 => by
    cases i with
    | zero => simp at h1
    | succ i =>
      cases j with
      | zero => simp at h2
      | succ j =>
        simp only [List.getElem?_cons_succ] at h1 h2
        rw [bIx_inj (ls := ls) n h1 h2]
  | .inr d :: ls, i, j, k, n, h1, h2 => by
    have n : (d :: bIx ls).Nodup := n
    rw [List.nodup_cons] at n
    cases i with
    | zero =>
      cases j with
      | zero => rfl
      | succ j =>
        simp at h1
        subst h1
        simp only [List.getElem?_cons_succ] at h2
        exact absurd (bIx_mem (List.mem_of_getElem? h2)) n.1
    | succ i =>
      cases j with
      | zero =>
        simp at h2
        subst h2
        simp only [List.getElem?_cons_succ] at h1
        exact absurd (bIx_mem (List.mem_of_getElem? h1)) n.1
      | succ j =>
        simp only [List.getElem?_cons_succ] at h1 h2
        rw [bIx_inj n.2 h1 h2]
theorem backA_len {S : Sl} : ∀ (ls : List (D ⊕ Nat)) (outs : Sl), (backA S ls outs).length = S.length
  | [], _ => by unfold backA; rfl
  | .inl _ :: ls, [] => by simp [backA]
  | .inr _ :: ls, [] => by simp [backA]
  | .inl _ :: ls, o :: outs => by simp only [backA]; exact backA_len ls outs
  | .inr i :: ls, o :: outs => by
    simp only [backA]
    split
    · rw [List.length_set]; exact backA_len ls outs
    · exact backA_len ls outs
/-- a slot behind a call -/
theorem backA_get {S : Sl} : ∀ {ls : List (D ⊕ Nat)} {outs : Sl} {j : Nat} {s : Sv}, outs.length = ls.length → (backA S ls outs)[j]? = some s →
    (S[j]? = some s ∧ (isMut s = true → Sum.inr j ∉ ls)) ∨ ∃ k : Nat, ls[k]? = some (Sum.inr j) ∧ outs[k]? = some s ∧ ∃ t, S[j]? = some t ∧ isMut t = true
  | [], _, _, s, _, h => by
    unfold backA at h
    exact .inl ⟨h, fun _ z => by cases z⟩
  | .inl _ :: ls, [], _, _, l, _ => by simp at l
  | .inr _ :: ls, [], _, _, l, _ => by simp at l
  | .inl d :: ls, o :: outs, j, s, l, h => by
    simp only [backA] at h
    rcases backA_get (by simpa using l) h with ⟨h1, h2⟩ | ⟨k, h1, h2, h3⟩
    · exact .inl ⟨h1, fun m z => h2 m ((List.mem_cons.mp z).resolve_left fun z => by cases z)⟩
    · exact .inr ⟨k + 1, by simpa using h1, by simpa using h2, h3⟩
  | .inr i :: ls, o :: outs, j, s, l, h => by
    simp only [backA] at h
    by_cases hm : isMut (S.getD i .un) = true
    · rw [if_pos hm] at h
      by_cases e : i = j
      · subst e
        by_cases hl : i < (backA S ls outs).length
        · rw [List.getElem?_set_self hl] at h
          rw [backA_len] at hl
          refine .inr ⟨0, rfl, by simpa using h, S[i], List.getElem?_eq_getElem hl, ?_⟩
          rw [List.getD_eq_getElem?_getD, List.getElem?_eq_getElem hl] at hm
          exact hm
        · rw [List.getElem?_eq_none (by rw [List.length_set]; omega)] at h; cases h
      · rw [List.getElem?_set_ne e] at h
        rcases backA_get (by simpa using l) h with ⟨h1, h2⟩ | ⟨k, h1, h2, h3⟩
        · exact .inl ⟨h1, fun m z => h2 m ((List.mem_cons.mp z).resolve_left fun z => e (by cases z; rfl))⟩
        · exact .inr ⟨k + 1, by simpa using h1, by simpa using h2, h3⟩
    · rw [if_neg hm] at h
      rcases backA_get (by simpa using l) h with ⟨h1, h2⟩ | ⟨k, h1, h2, h3⟩
      · refine .inl ⟨h1, fun m z => ?_⟩
        rcases List.mem_cons.mp z with z | z
        · cases z
          rw [List.getD_eq_getElem?_getD, h1] at hm
          exact hm m
        · exact h2 m z
      · exact .inr ⟨k + 1, by simpa using h1, by simpa using h2, h3⟩

section
variable {K : PySem.W.Frag} {mg : Str → Option Value} {F : Fx} {E : XK} {σ : St} {S S1 S2 : Sl} {H H1 H2 : Hp}
/-- what goes out, as the callee gets it -/
theorem hands_of {ls : List (D ⊕ Nat)} {vs : List V} (st : RSt K mg F σ H S) (g : Goes K mg σ H ls vs) (nd : (bIx ls).Nodup) (ok : ∀ i, Sum.inr i ∈ ls → bound S i = true) : Hands K mg H (ls.map (argOf S)) vs := by
  have cs : ∀ {j s}, (ls.map (argOf S))[j]? = some s → (∃ (d : D) (v : V), ls[j]? = some (Sum.inl d) ∧ s = .val d ∧ vs[j]? = some v ∧ Rep K mg H d v) ∨ ∃ (i : Nat) (v : V), ls[j]? = some (Sum.inr i) ∧ S[i]? = some s ∧ okArg s = true ∧ vs[j]? = some v ∧ σ[i]? = some (some v) := fun {j s} e => by
    rw [List.getElem?_map] at e
    cases el : ls[j]? with
    | none => rw [el] at e; cases e
    | some a =>
      rw [el] at e
      obtain ⟨v, ev, r⟩ := Goes.get g el
      cases a with
      | inl d => exact .inl ⟨d, v, el, (Option.some.inj e).symm, ev, r⟩
      | inr i =>
        have hb := ok i (List.mem_of_getElem? el)
        have e : some (S.getD i .un) = some s := e
        unfold bound at hb
        rw [List.getD_eq_getElem?_getD] at e
        cases es : S[i]? with
        | none => rw [es] at hb; cases hb
        | some t =>
          rw [es] at e hb
          have e : t = s := Option.some.inj e
          subst e
          refine .inr ⟨i, v, el, es, ?_, ev, r⟩
          cases t <;> first | rfl | cases hb
  refine ⟨by rw [List.length_map]; exact g.length, fun j s e => ?_, fun i j s t a e1 e2 m1 m2 q1 q2 => ?_⟩
  · rcases cs e with ⟨d, v, _, rfl, ev, r⟩ | ⟨i, v, _, es, ho, ev, r⟩
    · exact ⟨rfl, v, by rw [ev]; rfl, r⟩
    · refine ⟨ho, ?_⟩
      have z := st.at_ i s es
      rw [r] at z
      rw [ev]
      exact z
  · rcases cs e1 with ⟨d, v, _, rfl, _⟩ | ⟨i1, v1, l1, s1, _, w1, r1⟩
    · cases m1
    · rcases cs e2 with ⟨d, v, _, rfl, _⟩ | ⟨i2, v2, l2, s2, _, w2, r2⟩
      · cases m2
      · rw [q1] at w1
        rw [q2] at w2
        cases w1
        cases w2
        have e := st.inj i1 i2 s t a s1 s2 m1 m2 r1 r2
        subst e
        exact bIx_inj nd l1 l2
theorem lent_owns {ls : List (D ⊕ Nat)} {vs : List V} {a : Addr} (g : Goes K mg σ H ls vs) (h : Lent (ls.map (argOf S)) vs a) : ∃ (j i : Nat) (s : Sv), ls[j]? = some (.inr i) ∧ S[i]? = some s ∧ isMut s = true ∧ σ[i]? = some (some (.ref a)) := by
  obtain ⟨j, s, e, m, q⟩ := h
  rw [List.getElem?_map] at e
  cases el : ls[j]? with
  | none => rw [el] at e; cases e
  | some x =>
    rw [el] at e
    obtain ⟨v, ev, r⟩ := Goes.get g el
    rw [q] at ev
    cases ev
    cases x with
    | inl d => have e := (Option.some.inj e : Sv.val d = s); subst e; cases m
    | inr i =>
      have e : some (S.getD i .un) = some s := e
      rw [List.getD_eq_getElem?_getD] at e
      cases es : S[i]? with
      | none => rw [es] at e; rw [← Option.some.inj e] at m; cases m
      | some t =>
        rw [es] at e
        have e : t = s := Option.some.inj e
        subst e
        exact ⟨j, i, t, el, es, m, r⟩
theorem go_back {ls : List (D ⊕ Nat)} {vs : List V} {outs : Sl} (st : RSt K mg F σ H S) (g : Goes K mg σ H ls vs) (nd : (bIx ls).Nodup) (b : Back K mg H H1 (ls.map (argOf S)) outs vs) : Go K mg F σ S H (backA S ls outs) H1 := by
  have lo : ∀ a, Lent (ls.map (argOf S)) vs a → Owns σ S a := fun a h => by
    obtain ⟨j, i, s, _, e, m, q⟩ := lent_owns g h
    exact ⟨i, s, e, m, q⟩
  have len : outs.length = ls.length := by rw [b.len, List.length_map]
  have cs := fun {j s} (e : (backA S ls outs)[j]? = some s) => backA_get len e
  -- the slot of a mutable out was mutable
  have old : ∀ {j s}, (backA S ls outs)[j]? = some s → isMut s = true → ∃ t, S[j]? = some t ∧ isMut t = true := fun {j s} e m => by
    rcases cs e with ⟨h1, _⟩ | ⟨k, _, _, h3⟩
    · exact ⟨s, h1, m⟩
    · exact h3
  have argm : ∀ {k i : Nat} {t : Sv}, ls[k]? = some (Sum.inr i) → S[i]? = some t → (ls.map (argOf S))[k]? = some t := fun {k i t} h1 h2 => by
    rw [List.getElem?_map, h1]
    show some (S.getD i .un) = some t
    rw [List.getD_eq_getElem?_getD, h2]
    rfl
  refine ⟨⟨by rw [backA_len]; exact st.len, fun j s e => ?_, fun i j s t a e1 e2 m1 m2 q1 q2 => ?_, fun j s a e m q => ?_, fun j a e => ?_, fun a o e t n => ?_, fun a n => b.dm a (st.dom a n), st.mono.trans b.mono, st.tabs.trans b.tabs⟩, ⟨fun a o e t n => b.keep a o e t fun z => n (lo a z), b.tabs⟩, fun a ⟨j, s, e, m, q⟩ => ?_, b.dm⟩
  · rcases cs e with ⟨h1, h2⟩ | ⟨k, h1, h2, t, h3, m3⟩
    · refine (st.at_ j s h1).mono b.mono fun a m q => ?_
      cases h : H a with
      | none => exact absurd h (st.own_ne ⟨j, s, h1, m, q⟩)
      | some u =>
        refine b.keep a u h (st.own_nT ⟨j, s, h1, m, q⟩ h) fun z => ?_
        obtain ⟨k, i, s', hk, hs, hm, hq⟩ := lent_owns g z
        have e := st.inj i j s' s a hs h1 hm m hq q
        subst e
        exact h2 m (List.mem_of_getElem? hk)
    · obtain ⟨s', z1, _, z3⟩ := b.res k t (argm h1 h3) m3
      rw [h2] at z1
      cases z1
      obtain ⟨v, ev, r⟩ := Goes.get g h1
      have r : σ[j]? = some (some v) := r
      rw [ev] at z3
      rw [r]
      exact z3
  · obtain ⟨t1, f1, n1⟩ := old e1 m1
    obtain ⟨t2, f2, n2⟩ := old e2 m2
    exact st.inj i j t1 t2 a f1 f2 n1 n2 q1 q2
  · obtain ⟨t1, f1, n1⟩ := old e m
    exact st.ownd j t1 a f1 n1 q
  · obtain ⟨h1, h2, ds, h3⟩ := st.lent j a e
    refine ⟨h1, h2, ?_⟩
    have hj : j < (backA S ls outs).length := by
      rw [backA_len]
      rcases h3 with h3 | h3 <;> exact (List.getElem?_eq_some_iff.mp h3).1
    have e0 := List.getElem?_eq_getElem hj
    rcases cs e0 with ⟨z1, _⟩ | ⟨k, z1, z2, t, z3, m3⟩
    · exact ⟨ds, by rw [e0, ← z1]; exact h3⟩
    · obtain ⟨s', y1, ⟨es, y2⟩, _⟩ := b.res k t (argm z1 z3) m3
      rw [z2] at y1
      have y1 := Option.some.inj y1
      refine ⟨es, ?_⟩
      rcases y2 with y2 | y2
      · exact .inl (by rw [e0, y1, y2])
      · exact .inr (by rw [e0, y1, y2])
  · refine b.keep a o (st.frame a o e t n) t fun z => ?_
    obtain ⟨i, s, h1, m, q⟩ := lo a z
    rcases st.ownd i s a h1 m q with w | w
    · exact n i w
    · rw [w] at e; cases e
  · obtain ⟨t1, f1, n1⟩ := old e m
    exact ⟨j, t1, f1, n1, q⟩
theorem okB_all {ls : List (D ⊕ Nat)} (h : ls.all (okB S) = true) : ∀ i, Sum.inr i ∈ ls → bound S i = true := fun i m => List.all_eq_true.mp h _ m
end
section
variable {X : Cx} {F : Fx} {E : XK} {k n : Nat} {x : Str} {p pos : Pos} {e : Expr} {es : List Expr} {as : List Am} {G : AF}
theorem call_imp {K : PySem.W.Frag} {mg : Str → Option Value} (hl : as.length = n) (nd : (bIdx as).Nodup) : ∀ σ H Q, tOf K mg F E (eCall G as) σ H Q → tCall (spOf K mg n G) [] E (tOfA K mg F E as) σ H Q := by
  intro σ H Q ⟨S, st, q⟩
  refine ⟨S, st, ?_⟩
  unfold eCall at q
  cases ea : evA as S with
  | no => rw [ea] at q; exact q.elim
  | ex k S1 => rw [ea] at q; exact q
  | ok ls S1 =>
    rw [ea] at q
    simp only [Res.bind] at q
    by_cases hb : ls.all (okB S1) = true
    case neg => rw [if_neg hb] at q; exact q.elim
    rw [if_pos hb] at q
    intro vs H1 g r
    rw [List.append_nil]
    have nd' : (bIx ls).Nodup := by rw [evA_bIx ea]; exact nd
    have hh := hands_of g.rst r nd' (okB_all hb)
    refine ⟨ls.map (argOf S1), by rw [List.length_map, ← hl, evA_len ea], hh, ?_⟩
    cases eg : G (ls.map (argOf S1)) with
    | no => rw [eg] at q; exact q
    | ret v outs =>
      rw [eg] at q
      exact fun v' H' b rr => q v' H' (g.trans (go_back g.rst r nd' b)) (rr.cast g.dm)
    | ex c outs =>
      rw [eg] at q
      exact fun cls d H' b rr => q cls d H' (go_back g.rst r nd' b).rst rr
theorem a_call (hh : Has X.prog X.w X.K X.mg X.base x n k G) (hr : Room k X.A) (hg : Gl X x) (hx : Passes (L2N.CX X.prog X.w) X E) (ha : AA X F E (e :: es) as) (hl : as.length = n := by rfl) (nd : (bIdx as).Nodup := by decide)
    (hdb : (x == ("__debug__" : Str)) = false := by decide) (he : starEach (e :: es) X.env = (false, eval e X.env) :: starEach es X.env := by rfl) (hpl : (backTo pos (starEach es X.env)).any (·.1) = false := by rfl) :
    AE X F E (.Call (.Name x p) (e :: es) [] pos) (eCall G as) := by
  obtain ⟨f, fd, ps, h1, h2, h3, h4, h5⟩ := hh
  exact PE_imp (pe_call h5 hr hg h1 h2 h3 .nil hx ha hdb he hpl) (call_imp hl nd)
theorem a_call0 (hh : Has X.prog X.w X.K X.mg X.base x 0 k G) (hr : Room k X.A) (hg : Gl X x) (hx : Passes (L2N.CX X.prog X.w) X E) (hdb : (x == ("__debug__" : Str)) = false := by decide) : AE X F E (.Call (.Name x p) [] [] pos) (eCall G []) := by
  obtain ⟨f, fd, ps, h1, h2, h3, h4, h5⟩ := hh
  refine PE_imp (pe_call0 h5 hr hg h1 h2 h3 .nil hx hdb) fun σ H Q q => ?_
  obtain ⟨S, st, q⟩ := call_imp (as := []) rfl .nil σ H Q q
  exact q [] H (Go.refl st) rfl
end

/-! ### a def by its body -/
/-- the parameters outside lst are given by value -/
def noOw (lst : List Nat) : Nat → Sl → Bool
  | _, [] => true
  | i, s :: S => (match s with
    | .val _ => true
    | .ow _ => decide (i ∈ lst)
    | _ => false) && noOw lst (i + 1) S
theorem noOw_get {lst : List Nat} : ∀ {S : Sl} {k i : Nat} {ds : List D}, noOw lst k S = true → S[i]? = some (.ow ds) → k + i ∈ lst
  | [], _, _, _, _, e => by simp at e
  | s :: S, k, 0, ds, h, e => by
    simp at e
    subst e
    simp only [noOw, Bool.and_eq_true, decide_eq_true_eq] at h
    exact h.1
  | s :: S, k, i + 1, ds, h, e => by
    simp only [List.getElem?_cons_succ] at e
    simp only [noOw, Bool.and_eq_true] at h
    have := noOw_get h.2 e
    rwa [show k + 1 + i = k + (i + 1) by omega] at this
/-- a def: n slots; lst: the parameters whose list it may change -/
def fn (n : Nat) (lst : List Nat) (body : M Fl) : AF := fun args => if noOw lst 0 args = true then mkF n body args else .no
def brwOf (args : Sl) (vs : List V) (i : Nat) : Option Addr := match args[i]?, vs[i]? with
  | some (.ow _), some (.ref a) => some a
  | _, _ => none
theorem brwOf_some {args : Sl} {vs : List V} {i : Nat} {a : Addr} (h : brwOf args vs i = some a) : ∃ ds, args[i]? = some (.ow ds) ∧ vs[i]? = some (.ref a) := by
  unfold brwOf at h
  split at h
  · rename_i ds b h1 h2
    cases h
    exact ⟨ds, h1, h2⟩
  · cases h
section
variable {P : Program} {w : World} {K : PySem.W.Frag} {mg : Str → Option Value} {base : Heap}
theorem start_get {N : List Str} {vs : List V} {i : Nat} (h : i < vs.length) : (L2.start N vs)[i]? = vs[i]?.map some := by
  unfold L2.start
  rw [List.getElem?_append_left (by rw [List.length_map]; exact h), List.getElem?_map]
theorem rst_start {N : List Str} {args : Sl} {vs : List V} {H : Hp} (hh : Hands K mg H args vs) (hl : args.length ≤ N.length) :
    RSt K mg ⟨H, brwOf args vs⟩ (L2.start N vs) H (args ++ List.replicate (N.length - args.length) Sv.un) := by
  have cs : ∀ {j s}, (args ++ List.replicate (N.length - args.length) Sv.un)[j]? = some s → (args[j]? = some s ∧ (L2.start N vs)[j]? = vs[j]?.map some) ∨ s = Sv.un := fun {j s} e => by
    by_cases hj : j < args.length
    · rw [List.getElem?_append_left hj] at e
      exact .inl ⟨e, start_get (by rw [hh.len]; exact hj)⟩
    · rw [List.getElem?_append_right (by omega)] at e
      exact .inr (List.eq_of_mem_replicate (List.mem_of_getElem? e))
  have rv : ∀ {j : Nat} {a : Addr}, vs[j]?.map some = some (some (V.ref a)) → vs[j]? = some (V.ref a) := fun {j a} e => by
    cases q : vs[j]? with
    | none => rw [q] at e; cases e
    | some v => rw [q] at e; cases e; rfl
  refine ⟨?_, fun j s e => ?_, fun i j s t a e1 e2 m1 m2 q1 q2 => ?_, fun j s a e m q => ?_, fun j a e => ?_, fun a o e _ n => e, fun a n => n, Mono.refl _, TbM.refl _⟩
  · unfold L2.start
    rw [List.length_append, List.length_append, List.length_replicate, List.length_replicate, List.length_map, hh.len]
  · rcases cs e with ⟨e, z⟩ | rfl
    · rw [z]; exact (hh.at_ j s e).2
    · exact trivial
  · rcases cs e1 with ⟨e1, z1⟩ | rfl
    · rcases cs e2 with ⟨e2, z2⟩ | rfl
      · rw [z1] at q1
        rw [z2] at q2
        exact hh.inj i j s t a e1 e2 m1 m2 (rv q1) (rv q2)
      · cases m2
    · cases m1
  · rcases cs e with ⟨e, z⟩ | rfl
    · rw [z] at q
      have q := rv q
      obtain ⟨ok, _⟩ := hh.at_ j s e
      cases s with
      | ow ds => exact .inl (by unfold brwOf; simp only [e, q])
      | un => cases m
      | val d => cases m
      | dki _ => cases ok
      | dkt _ => cases ok
    · cases m
  · obtain ⟨ds, e1, e2⟩ := brwOf_some e
    have hj := (List.getElem?_eq_some_iff.mp e1).1
    refine ⟨?_, ?_, ds, .inl ?_⟩
    · rw [start_get (by rw [hh.len]; exact hj), e2]; rfl
    · obtain ⟨_, b, xs, h1, h2, _⟩ := hh.at_ j _ e1
      rw [e2] at h1
      cases h1
      show H a ≠ none
      rw [h2]
      exact fun z => by cases z
    · rw [List.getElem?_append_left hj]; exact e1
theorem outsOf_len : ∀ (n : Nat) (S : Sl), (outsOf n S).length = n
  | 0, _ => rfl
  | n + 1, [] => by rw [outsOf, List.length_cons, outsOf_len n []]
  | n + 1, s :: S => by rw [outsOf, List.length_cons, outsOf_len n S]
theorem outsOf_get : ∀ {n : Nat} {S : Sl} {i : Nat} {s : Sv}, i < n → S[i]? = some s → (outsOf n S)[i]? = some s
  | 0, _, _, _, h, _ => by omega
  | n + 1, [], _, _, _, e => by simp at e
  | n + 1, t :: S, 0, _, _, e => by simpa [outsOf] using e
  | n + 1, t :: S, i + 1, _, h, e => by
    simp only [outsOf, List.getElem?_cons_succ] at e ⊢
    exact outsOf_get (by omega) e
/-- a def keeps the promise of its body's function -/
theorem def_ok {x : Str} {st : Stmt} {f : Addr} {fd : FuncData} {N ps : List Str} {k : Nat} {lst : List Nat} {body : M Fl} (hf : Fun K x x st f fd) (S : FnScope N ps (defScope st)) (hl : ps.length ≤ N.length)
    (h : ∀ (cdv : Value) (A : Around) (outer : List Env) (s : Shared) (H : Hp) (E : XK) (F : Fx), Room k (A.deeper (envOfC x (defScope st) s.heap.objs.size f cdv)) → (∀ i, i ∉ lst → F.brw i = none) → ASs (cxOf (L2N.CX P w) P w K mg base N x (defScope st) f cdv A outer s H E) F E (defBody st) body) :
    FnOk P w K mg base (L2N.CX P w) (k + 1) f fd ps (spOf K mg ps.length (fn N.length lst body)) := by
  obtain ⟨oc, od, kV, doc, pm, an, cdv, ct, osl, rfl, lk, hcd⟩ := hf.ex
  refine fn_of lk hcd S (fun vs H Q E q => ?_) fun A outer s H vs Q E hr ⟨args, hn, hh, q⟩ => ?_
  · obtain ⟨args, hn, hh, _⟩ := q
    rw [hh.len, hn]
  · have hno : noOw lst 0 args = true := by
      cases z : noOw lst 0 args with
      | true => rfl
      | false => unfold fn at q; rw [if_neg (by rw [z]; exact Bool.false_ne_true)] at q; exact q.elim
    have hbr : ∀ i, i ∉ lst → brwOf args vs i = none := fun i hi => by
      cases z : brwOf args vs i with
      | none => rfl
      | some a =>
        obtain ⟨ds, e1, _⟩ := brwOf_some z
        have := noOw_get hno e1
        rw [Nat.zero_add] at this
        exact absurd this hi
    refine ⟨tOfS K mg ⟨H, brwOf args vs⟩ E body, h cdv A outer s H E ⟨H, brwOf args vs⟩ hr hbr, args ++ List.replicate (N.length - args.length) Sv.un, rst_start (N := N) hh (by omega), ?_⟩
    unfold fn at q
    rw [if_pos hno] at q
    unfold mkF at q
    -- behind the body
    have bk : ∀ {σ' : St} {H' : Hp} {S' : Sl}, RSt K mg ⟨H, brwOf args vs⟩ σ' H' S' → Back K mg H H' args (outsOf args.length S') vs := fun {σ' H' S'} r => by
      refine ⟨fun a o e t n => r.frame a o e t fun i z => ?_, r.tabs, r.dom, r.mono, fun i s e m => ?_, ?_⟩
      · obtain ⟨ds, e1, e2⟩ := brwOf_some z
        exact n ⟨i, _, e1, rfl, e2⟩
      · have hi := (List.getElem?_eq_some_iff.mp e).1
        obtain ⟨ok, rv⟩ := hh.at_ i s e
        cases s with
        | un => cases m
        | val d => cases m
        | dki _ => cases ok
        | dkt _ => cases ok
        | ow ds =>
          obtain ⟨a, xs, e1, e2, _⟩ := rv
          have ev : vs[i]? = some (.ref a) := by
            cases z : vs[i]? with
            | none => rw [z] at e1; cases e1
            | some v => rw [z] at e1; cases e1; rfl
          obtain ⟨h1, h2, es, h3⟩ := r.lent i a (show brwOf args vs i = some a by unfold brwOf; simp only [e, ev])
          have tk : ∀ {s}, S'[i]? = some s → (outsOf args.length S')[i]? = some s := fun e => outsOf_get hi e
          rw [ev]
          rcases h3 with h3 | h3
          · refine ⟨_, tk h3, ⟨es, .inl rfl⟩, ?_⟩
            have z := r.at_ i _ h3
            rw [h1] at z
            exact z
          · refine ⟨_, tk h3, ⟨es, .inr rfl⟩, ?_⟩
            have z := r.at_ i _ h3
            rw [h1] at z
            exact z
      · exact outsOf_len _ _
    cases eb : body (args ++ List.replicate (N.length - args.length) .un) with
    | no => rw [eb] at q; exact q.elim
    | ex c S' => rw [eb] at q; exact fun cls d σ' H' r re => q cls d H' (bk r) re
    | ok fl S' =>
      rw [eb] at q
      cases fl with
      | nx => exact fun σ' H' r m => q .non H' (bk r) rfl
      | bk => exact q.elim
      | ct => exact q.elim
      | rt v =>
        intro σ' v' H' r rt
        refine q v' H' (bk r) ?_
        cases v with
        | un => exact rt
        | val d => exact rt
        | ow ds => exact rt
        | dki ds => exact rt
        | dkt ds => exact rt
theorem def_has {x : Str} {st : Stmt} {f : Addr} {fd : FuncData} {N ps : List Str} {k : Nat} {lst : List Nat} {body : M Fl} (hf : Fun K x x st f fd) (hm : mg x = some (.ref f)) (hb : Binds K fd ps []) (S : FnScope N ps (defScope st)) (hl : ps.length ≤ N.length)
    (h : ∀ (cdv : Value) (A : Around) (outer : List Env) (s : Shared) (H : Hp) (E : XK) (F : Fx), Room k (A.deeper (envOfC x (defScope st) s.heap.objs.size f cdv)) → (∀ i, i ∉ lst → F.brw i = none) → ASs (cxOf (L2N.CX P w) P w K mg base N x (defScope st) f cdv A outer s H E) F E (defBody st) body) :
    Has P w K mg base x ps.length (k + 1) (fn N.length lst body) := ⟨f, fd, ps, hm, hf.kp, hb, rfl, def_ok hf S hl h⟩
end
end Rc

/-! Rc: unpacking, parallel assignment, op=, raise, names of the module. -/
namespace Rc
open PySem PySem.Spec PyProof.Rows L2
variable [LamTbl]
section
variable {X : Cx} {F : Fx} {E : XK} {pos : Pos} {e tg : Expr} {m : M Sv} {p : Pat}
theorem as_unp (he : AE X F E e m) (hg : AG X F tg p) (hs : swapsWithSole [tg] e pos.line X.env = pure false := by rfl) (hw : swappedStores [tg] e X.env = pure none := by rfl)
    (h1 : (assignEach [tg] X.env).map (·.2) = [assign tg X.env] := by rfl) : AS X F E (.Assign [tg] e pos) (sUnp p m) := by
  refine PS_imp (ps_asg (a_fz he) hg hs hw h1) fun C σ H ⟨S, st, q⟩ => ⟨S, st, ?_⟩
  have q : OutS X.K X.mg F E C H ((m S).bind fun r S1 => match (toD r).bind fun d => p.put d S1 with | some S2 => .ok .nx S2 | none => .no) := q
  rw [eFz_datum]
  unfold datum
  cases em : m S with
  | no => rw [em] at q; exact q
  | ex k S1 => rw [em] at q; exact fun cls d H' r e => q cls d σ H' r e
  | ok r S1 =>
    rw [em] at q
    simp only [Res.bind] at q ⊢
    cases ed : toD r with
    | none => rw [ed] at q; exact q.elim
    | some d =>
      rw [ed] at q
      simp only [Option.bind_some] at q ⊢
      cases ep : p.put d S1 with
      | none => rw [ep] at q; exact q.elim
      | some S2 =>
        rw [ep] at q
        exact fun v H1 g rv => ⟨S1, d, S2, g.rst, rv, ep, fun σ' u => q σ' H1 u.rst (g.mono st)⟩
/-- a, b = x, y -/
theorem as_par {i j : Nat} {x y : Str} {a b : Expr} {ma mb : M Sv} {px py pt : Pos} {kt k2 pt2} (hbi : F.brw i = none) (hbj : F.brw j = none) (hc : X.calm = true) (hN : X.N.Nodup) (hi : X.N[i]? = some x) (hj : X.N[j]? = some y) (hij : i ≠ j)
    (hx : X.env.scope.names.lookup x = some .local) (hy : X.env.scope.names.lookup y = some .local) (ha : AE X F E a ma) (hb : AE X F E b mb)
    (hw : swappedStores [.Tuple [.Name x px, .Name y py] kt pt] (.Tuple [a, b] k2 pt2) X.env = pure (some [x, y]))
    (hs : swapsWithSole [.Tuple [.Name x px, .Name y py] kt pt] (.Tuple [a, b] k2 pt2) pos.line X.env = pure false := by rfl)
    (hs1 : starEach [a, b] X.env = (false, eval a X.env) :: starEach [b] X.env := by rfl) (hs2 : starEach (b :: []) X.env = (false, eval b X.env) :: starEach [] X.env := by rfl) :
    AS X F E (.Assign [.Tuple [.Name x px, .Name y py] kt pt] (.Tuple [a, b] k2 pt2) pos) (sPar i j ma mb) := by
  refine PS_imp (ps_par hc hN hi hj hij hx hy (pa_cons ha (pa_cons hb pa_nil hs2) hs1) hw hs) fun C σ H ⟨S, st, q⟩ => ⟨S, st, ?_⟩
  have q : OutS X.K X.mg F E C H ((ma S).bind fun x S1 => (mb S1).bind fun y S2 => match x, y with
    | .un, _ => .no
    | _, .un => .no
    | x, y => .ok .nx ((S2.set i x).set j y)) := q
  cases e1 : ma S with
  | no => rw [e1] at q; exact q
  | ex k S1 => rw [e1] at q; exact fun cls d H' r e => q cls d σ H' r e
  | ok r1 S1 =>
    rw [e1] at q
    simp only [Res.bind] at q
    intro v1 H1 g1 rr1
    refine ⟨S1, g1.rst, ?_⟩
    cases e2 : mb S1 with
    | no => rw [e2] at q; exact q
    | ex k S2 => rw [e2] at q; exact fun cls d H' r e => q cls d σ H' r e
    | ok r2 S2 =>
      rw [e2] at q
      simp only at q
      intro v2 H2 g2 rr2
      refine ⟨v1, v2, rfl, ?_⟩
      have g := g1.trans g2
      have s1 : RepR X.K X.mg H H2 r1 v1 := rr1.stay st g1 g2
      have st1 := st.storeR g hbi s1
      -- the second value, behind the first store
      have n0 : ∀ a, H1 a = none → F.H0 a = none := fun a n => by
        cases z : F.H0 a with
        | none => rfl
        | some u => exact absurd n (g1.rst.dom a (by rw [z]; exact fun z => by cases z))
      have no2 : ∀ a, H1 a = none → ¬ Owns (σ.set i (some v1)) (S2.set i r1) a := fun a n ⟨l, t, h1, h2, h3⟩ => by
        by_cases hl : l = i
        · subst hl
          by_cases hlen : l < S2.length
          · rw [List.getElem?_set_self hlen] at h1
            have h1 := Option.some.inj h1
            subst h1
            have hl2 : l < σ.length := by
              have := g.rst.len
              omega
            rw [List.getElem?_set_self hl2] at h3
            have h3 := Option.some.inj (Option.some.inj h3)
            subst h3
            -- v1 lay in H1 already
            have : H1 a ≠ none := by
              cases r1 with
              | un => cases h2
              | val d => cases h2
              | ow ds => obtain ⟨_, e, _, _, _, e4, e5, _⟩ := rr1; cases e; cases e4; rw [e5]; exact fun z => by cases z
              | dki ds => obtain ⟨_, e, _, _, _, e4, e5, _⟩ := rr1; cases e; cases e4; rw [e5]; exact fun z => by cases z
              | dkt ds => obtain ⟨_, e, _, _, _, e4, e5, _⟩ := rr1; cases e; cases e4; rw [e5]; exact fun z => by cases z
            exact this n
          · rw [List.getElem?_eq_none (by rw [List.length_set]; omega)] at h1; cases h1
        · rw [List.getElem?_set_ne (Ne.symm hl)] at h1 h3
          exact g1.rst.fresh_not n (g2.sub a ⟨l, t, h1, h2, h3⟩)
      have fin : RSt X.K X.mg F ((σ.set i (some v1)).set j (some v2)) H2 ((S2.set i r1).set j r2) := by
        cases r2 with
        | un => exact rr2.elim
        | val d => exact st1.store hbj ⟨v2, rfl, rr2⟩ fun a m => by cases m
        | ow ds =>
          obtain ⟨a, rfl, n, x⟩ := rr2
          exact st1.store hbj x fun b _ e => by cases e; exact ⟨n0 a n, no2 a n⟩
        | dki ds =>
          obtain ⟨a, rfl, n, x⟩ := rr2
          exact st1.store hbj x fun b _ e => by cases e; exact ⟨n0 a n, no2 a n⟩
        | dkt ds =>
          obtain ⟨a, rfl, n, x⟩ := rr2
          exact st1.store hbj x fun b _ e => by cases e; exact ⟨n0 a n, no2 a n⟩
      have mo := g.mono st
      cases r1 with
      | un => exact rr1.elim
      | val d1 => cases r2 <;> first | exact rr2.elim | exact q _ H2 fin mo
      | ow d1 => cases r2 <;> first | exact rr2.elim | exact q _ H2 fin mo
      | dki d1 => cases r2 <;> first | exact rr2.elim | exact q _ H2 fin mo
      | dkt d1 => cases r2 <;> first | exact rr2.elim | exact q _ H2 fin mo
/-- x op= e, on ints -/
theorem as_aug {i : Nat} {x : Str} {px : Pos} {op : Operator} {f : Int → Int → Int} {g : D → D → Option Sv} (hbi : F.brw i = none) (hN : X.N.Nodup) (hi : X.N[i]? = some x) (hx : Loc X.env.scope x) (he : AE X F E e m) (ho : PIp X op (ipI f)) (hgf : ∀ a b r, g a b = some r → ∃ k l, a = .int k ∧ b = .int l ∧ r = .val (.int (f k l)))
    (hf : X.fn x = true ∨ X.env.scope.names.lookup x = some .local := by first | exact .inl rfl | exact .inr rfl | assumption) : AS X F E (.AugAssign (.Name x px) op e pos) (sAug i g m) := by
  refine PS_imp (ps_aug hN hi hx he ho hf) fun C σ H ⟨S, st, q⟩ => ?_
  have q : OutS X.K X.mg F E C H (match S[i]? with
    | some (.val a) => (m S).bind fun r S1 => match b2 g (some a) (toD r) with
      | some z => .ok .nx (S1.set i z)
      | none => .no
    | _ => .no) := q
  cases ei : S[i]? with
  | none => rw [ei] at q; exact q.elim
  | some s =>
    rw [ei] at q
    match s, ei, q with
    | .val a, ei, q =>
      obtain ⟨v, ev, rv⟩ := st.at_ i _ ei
      refine ⟨v, ev, S, st, ?_⟩
      cases em : m S with
      | no => rw [em] at q; exact q
      | ex k S1 => rw [em] at q; exact fun cls d H' r e => q cls d σ H' r e
      | ok r S1 =>
        rw [em] at q
        simp only [Res.bind] at q
        intro v1 H1 g1 r1
        cases ed : toD r with
        | none => rw [ed] at q; exact q.elim
        | some d =>
          rw [ed] at q
          simp only [b2, Option.bind_some] at q
          cases eg : g a d with
          | none => rw [eg] at q; exact q.elim
          | some z =>
            rw [eg] at q
            obtain ⟨k, l, rfl, rfl, rfl⟩ := hgf a d z eg
            refine ⟨k, l, rv, RepW.int (r1.toW ed), ?_⟩
            exact q _ H1 (g1.rst.store hbi ⟨_, rfl, rfl⟩ fun a m => by cases m) (g1.mono st)
theorem as_augAdd {i : Nat} {x : Str} {px : Pos} (hbi : F.brw i = none) (hN : X.N.Nodup) (hi : X.N[i]? = some x) (hx : Loc X.env.scope x) (he : AE X F E e m)
    (hf : X.fn x = true ∨ X.env.scope.names.lookup x = some .local := by first | exact .inl rfl | exact .inr rfl | assumption) : AS X F E (.AugAssign (.Name x px) .Add e pos) (sAug i dAddI m) :=
  as_aug hbi hN hi hx he ip_add (fun a b r h => by
    match a, b, h with
    | .int k, .int l, h => exact ⟨k, l, rfl, rfl, (Option.some.inj h).symm⟩) hf
theorem as_augSub {i : Nat} {x : Str} {px : Pos} (hbi : F.brw i = none) (hN : X.N.Nodup) (hi : X.N[i]? = some x) (hx : Loc X.env.scope x) (he : AE X F E e m)
    (hf : X.fn x = true ∨ X.env.scope.names.lookup x = some .local := by first | exact .inl rfl | exact .inr rfl | assumption) : AS X F E (.AugAssign (.Name x px) .Sub e pos) (sAug i dSubI m) :=
  as_aug hbi hN hi hx he ip_sub (fun a b r h => by
    match a, b, h with
    | .int k, .int l, h => exact ⟨k, l, rfl, rfl, (Option.some.inj h).symm⟩) hf
/-- raise C('m') -/
structure ExC (K : PySem.W.Frag) (mg : Str → Option Value) (x : Str) (C : Addr) : Prop where
  g : mg x = some (.ref C)
  x : PySem.W.excIn K C [.type "ValueError", .type "Exception", .type "BaseException", .type "object"] "ValueError.__new__" = true
  k : PySem.W.keepIn K (.ref C) = true
  b : PySem.W.subIn K (.ref C) (.type "BaseException") = some true
  t : PySem.W.typeIn K (.ref C) = some (.type "type")
theorem as_raise {x t : Str} {C : Addr} {j : Nat} {p1 p2 p3 : Pos} (hc : X.calm = true) (tk : L2N.Takes X (fun cls d _ H => E cls d H)) (T : ExC X.K X.mg x C) (hg : Gl X x) (hdb : (x == ("__debug__" : Str)) = false := by decide) :
    AS X F E (.Raise (some (.Call (.Name x p1) [.Constant (.str t) j p2] [] p3)) none pos) (sRaise ⟨x, none⟩) := by
  refine PS_imp (L2N.ps_raise hc tk (L2N.pmk_own PySem.F.excBase_ValueError T.x T.g T.k (raises_own T.b T.t) hg hdb)) fun C' σ H ⟨S, st, q⟩ => ?_
  exact q _ none σ H st ⟨C, T.g, rfl, rfl⟩
/-- a name of the module that stands for an int -/
theorem a_gInt {x : Str} {i : Int} {t : Nat} (hg : Gl X x) (hm : X.mg x = some (.int i t)) (hd : (x == ("__debug__" : Str)) = false := by decide) : AE X F E (.Name x pos) (eLit (.int i)) := a_lit (pe_glob (v := .int i) hg hm ⟨t, rfl⟩ hd) fun _ => rfl
end
end Rc

/-! Rc: slices, chains. -/
namespace Rc
open PySem PySem.Spec PyProof.Rows L2
variable [LamTbl]
section
variable {X : Cx} {F : Fx} {E : XK} {pos p2 : Pos} {a b c : Expr} {oa ob oc : Od}
theorem a_chain {op op' : CmpOp} {r r' : R2} {f g : D → D → Option Sv} (ho : OpR X (compareOp op) r) (hf : Op2 X.K X.mg f r) (ho' : OpR X (compareOp op') r') (hg : Op2 X.K X.mg g r') (ha : AO X F E a oa) (hb : AO X F E b ob) (hc : AO X F E c oc)
    (hm : lastMarks [op, op'] [b, c] = false := by with_unfolding_all rfl) : AE X F E (.Compare a [op, op'] [b, c] pos) (eChain f g oa ob oc) :=
  PE_imp (pe_chain ho ho' (af_of ha) (af_of hb) (af_of hc) hm) (chain_imp hf hg)
theorem at_chain {op op' : CmpOp} {r r' : R2} {f g : D → D → Option Sv} (ho : OpR X (compareOp op) r) (hf : Op2 X.K X.mg f r) (ho' : OpR X (compareOp op') r') (hg : Op2 X.K X.mg g r') (ha : AO X F E a oa) (hb : AO X F E b ob) (hc : AO X F E c oc)
    (hm : lastMarks [op, op'] [b, c] = false := by with_unfolding_all rfl) : AT X F E (.Compare a [op, op'] [b, c] pos) (Rc.tB (eChain f g oa ob oc)) :=
  PT_imp (pt_chain ho ho' (af_of ha) (af_of hb) (af_of hc) hm) (tB_imp (chain_imp hf hg))

/-! ### slices -/
def tOfP (K : PySem.W.Frag) (mg : Str → Option Value) (F : Fx) (E : XK) (m : M (Option Int)) : TO := fun σ H Q => ∃ S, RSt K mg F σ H S ∧ match m S with
  | .ok d S' => ∀ H', Go K mg F σ S H S' H' → Q d H'
  | .ex e S' => ∀ cls d H', RSt K mg F σ H' S' → RepE mg e cls d H' → E cls d H'
  | .no => False
theorem PO_imp {e : Option Expr} {t t' : TO} (h : PO X e t) (i : ∀ σ H Q, t' σ H Q → t σ H Q) : PO X e t' := ⟨fun pins s σ H Q I hw => h.run pins s σ H Q I (i σ H Q hw)⟩
abbrev AP (X : Cx) (F : Fx) (E : XK) (e : Option Expr) (m : M (Option Int)) : Prop := PO X e (tOfP X.K X.mg F E m)
theorem ap_none : AP X F E none (evP none) := PO_imp po_none fun σ H Q ⟨S, st, q⟩ => q H (Go.refl st)
theorem ap_some {m : M Sv} (h : AE X F E a m) : AP X F E (some a) (evP (some m)) := by
  refine PO_imp (po_some h) fun σ H Q ⟨S, st, q⟩ => ⟨S, st, ?_⟩
  simp only [evP] at q
  cases em : m S with
  | no => rw [em] at q; exact q.elim
  | ex k S1 => rw [em] at q; exact q
  | ok r S1 =>
    rw [em] at q
    intro v H' g rr
    match r, q, rr with
    | .val (.int i), q, rr => exact ⟨i, rr, q H' g⟩
def rCut (K : PySem.W.Frag) : V → Option Int → Option Int → Hp → VK → Prop := fun x lo hi H Q => rSlL K x lo hi H Q ∨ rSlA K x lo hi H Q
theorem slr_cut : SlR X (rCut X.K) := SlR.or sl_list sl_tupA
theorem cutV_rep {K : PySem.W.Frag} {mg : Str → Option Value} {H : Hp} {ds : List D} {xs : List V} (h : RepL K mg H ds xs) (lo hi : Option Int) : RepL K mg H (cutD ds lo hi) (cutV xs lo hi) := by
  unfold cutD cutV
  rw [h.length]
  exact RepL.take _ (RepL.drop _ h)
theorem cut_ok {K : PySem.W.Frag} {mg : Str → Option Value} {H : Hp} {x : V} {d : D} {lo hi : Option Int} {res : Sv} {Q : VK} (hf : dCut lo hi d = some res) (hx : RepW K mg H d x) (q : ∀ v H', Same H H' → RepR K mg H H' res v → Q v H') : rCut K x lo hi H Q := by
  match d, hf with
  | .list ds, hf =>
    cases hf
    obtain ⟨a, xs, rfl, s, r⟩ := hx.list
    exact .inl ⟨a, xs, rfl, s.sq, fun p np => q _ _ (same_upd np) ⟨p, rfl, np, p, _, rfl, upd_same, RepL.mono (Mono.of_same (same_upd np)) _ (cutV_rep r lo hi)⟩⟩
  | .tuple ds, hf =>
    cases hf
    obtain ⟨a, xs, rfl, s, r⟩ := hx.tuple
    refine .inr ⟨a, xs, rfl, s, fun hw => ?_, fun _ p np => ?_⟩
    · refine q _ H (Same.refl H) ⟨a, xs, rfl, s, ?_⟩
      have e : cutD ds lo hi = ds := by
        unfold cutD
        rw [r.length] at hw
        rw [hw.1, hw.2]
        simp
      rw [e]
      exact r
    · exact q _ _ (same_upd np) ⟨p, _, rfl, SqT.of upd_same, RepL.mono (Mono.of_same (same_upd np)) _ (cutV_rep r lo hi)⟩
theorem a_cut {lo hi : Option Expr} {ml mh : Option (M Sv)} (ha : AO X F E a oa) (hl : AP X F E lo (evP ml)) (hh : AP X F E hi (evP mh)) : AE X F E (.Subscript a (.Slice lo hi none p2) pos) (eCut oa ml mh) := by
  refine PE_imp (pe_slice slr_cut ha hl hh) fun σ H Q ⟨S, st, q⟩ => ?_
  cases oa with
  | e m =>
    refine ⟨S, st, ?_⟩
    simp only [eCut] at q
    cases em : m S with
    | no => rw [em] at q; exact q.elim
    | ex k S1 => rw [em] at q; exact q
    | ok r S1 =>
      rw [em] at q
      simp only [Res.bind] at q
      intro v1 H1 g1 r1
      refine ⟨S1, g1.rst, ?_⟩
      cases el : evP ml S1 with
      | no => rw [el] at q; exact q.elim
      | ex k S2 => rw [el] at q; exact q
      | ok l S2 =>
        rw [el] at q
        simp only at q
        intro H2 g2
        refine ⟨S2, g2.rst, ?_⟩
        cases eh : evP mh S2 with
        | no => rw [eh] at q; exact q.elim
        | ex k S3 => rw [eh] at q; exact q
        | ok h S3 =>
          rw [eh] at q
          simp only at q
          intro H3 g3
          cases ed : toD r with
          | none => rw [ed] at q; exact q.elim
          | some d =>
            rw [ed] at q
            simp only [Option.bind_some] at q
            cases ef : dCut l h d with
            | none => rw [ef] at q; exact q.elim
            | some res =>
              rw [ef] at q
              have g23 := g2.trans g3
              exact cut_ok ef ((r1.stay st g1 g23).toW ed) fun v H' sm rr => q v H' ((g1.trans g23).trans (Go.of_same g3.rst sm)) (rr.cast (g1.trans g23).dm)
  | v i =>
    simp only [eCut] at q
    cases e0 : rd S i with
    | none => rw [e0] at q; exact q.elim
    | some d0 =>
      rw [e0] at q
      obtain ⟨v, ev, _⟩ := RSt.rd st e0
      refine ⟨v, ev, S, st, ?_⟩
      simp only [Option.isSome_some, if_true] at q
      cases el : evP ml S with
      | no => rw [el] at q; exact q.elim
      | ex k S2 => rw [el] at q; exact q
      | ok l S2 =>
        rw [el] at q
        simp only [Res.bind] at q
        intro H2 g2
        refine ⟨S2, g2.rst, ?_⟩
        cases eh : evP mh S2 with
        | no => rw [eh] at q; exact q.elim
        | ex k S3 => rw [eh] at q; exact q
        | ok h S3 =>
          rw [eh] at q
          simp only at q
          intro H3 g3
          have g23 := g2.trans g3
          cases ed : rd S3 i with
          | none => rw [ed] at q; exact q.elim
          | some d =>
            rw [ed] at q
            simp only [Option.bind_some] at q
            cases ef : dCut l h d with
            | none => rw [ef] at q; exact q.elim
            | some res =>
              rw [ef] at q
              obtain ⟨v', ev', rw'⟩ := RSt.rd g3.rst ed
              rw [ev] at ev'
              cases ev'
              exact cut_ok ef rw' fun v H' sm rr => q v H' (g23.trans (Go.of_same g3.rst sm)) (rr.cast g23.dm)
end
end Rc

/-! Rc: three names at once. -/
namespace Rc
open PySem PySem.Spec PyProof.Rows L2
variable [LamTbl]
section
variable {K : PySem.W.Frag} {mg : Str → Option Value} {F : Fx} {σ : St} {S : Sl} {H H1 : Hp}
/-- a value that may be stored: a list of its own is nobody's -/
structure Lone (K : PySem.W.Frag) (mg : Str → Option Value) (F : Fx) (σ : St) (S : Sl) (H : Hp) (r : Sv) (v : V) : Prop where
  ne : r ≠ .un
  sv : RSv K mg H (some (some v)) r
  own : ∀ a, isMut r = true → v = .ref a → F.H0 a = none ∧ ¬ Owns σ S a
theorem RSt.storeL {i : Nat} {r : Sv} {v : V} (st : RSt K mg F σ H S) (hb : F.brw i = none) (l : Lone K mg F σ S H r v) : RSt K mg F (σ.set i (some v)) H (S.set i r) := st.store hb l.sv l.own
theorem Lone.after {i : Nat} {r r2 : Sv} {v v2 : V} (hl : S.length = σ.length) (l : Lone K mg F σ S H r v) (d : ∀ a, isMut r = true → isMut r2 = true → v = .ref a → v2 = .ref a → False) : Lone K mg F (σ.set i (some v2)) (S.set i r2) H r v :=
  ⟨l.ne, l.sv, fun a m e => ⟨(l.own a m e).1, fun ⟨j, t, h1, h2, h3⟩ => by
    by_cases hj : j = i
    · subst hj
      by_cases hlen : j < S.length
      · rw [List.getElem?_set_self hlen] at h1
        have h1 := Option.some.inj h1
        subst h1
        rw [List.getElem?_set_self (by omega)] at h3
        exact d a m h2 e (Option.some.inj (Option.some.inj h3))
      · rw [List.getElem?_eq_none (by rw [List.length_set]; omega)] at h1; cases h1
    · rw [List.getElem?_set_ne (Ne.symm hj)] at h1 h3
      exact (l.own a m e).2 ⟨j, t, h1, h2, h3⟩⟩⟩
theorem RepR.lone {S1 : Sl} {r : Sv} {v : V} (st : RSt K mg F σ H S) (g : Go K mg F σ S H S1 H1) (h : RepR K mg H H1 r v) : Lone K mg F σ S1 H1 r v := by
  have n0 : ∀ a, H a = none → F.H0 a = none := fun a n => by
    cases q : F.H0 a with
    | none => rfl
    | some u => exact absurd n (st.dom a (by rw [q]; exact fun z => by cases z))
  cases r with
  | un => exact h.elim
  | val d => exact ⟨(by intro z; cases z), ⟨v, rfl, h⟩, fun a m => by cases m⟩
  | ow ds => obtain ⟨a, rfl, n, x⟩ := h; exact ⟨(by intro z; cases z), x, fun b _ e => by cases e; exact ⟨n0 a n, fun z => st.fresh_not n (g.sub a z)⟩⟩
  | dki ds => obtain ⟨a, rfl, n, x⟩ := h; exact ⟨(by intro z; cases z), x, fun b _ e => by cases e; exact ⟨n0 a n, fun z => st.fresh_not n (g.sub a z)⟩⟩
  | dkt ds => obtain ⟨a, rfl, n, x⟩ := h; exact ⟨(by intro z; cases z), x, fun b _ e => by cases e; exact ⟨n0 a n, fun z => st.fresh_not n (g.sub a z)⟩⟩
theorem RepR.there {r : Sv} {v : V} (h : RepR K mg H H1 r v) : ∀ a, isMut r = true → v = .ref a → H a = none ∧ H1 a ≠ none := fun a m e => by
  cases r with
  | un => cases m
  | val d => cases m
  | ow ds => obtain ⟨b, rfl, n, c, xs, e1, e2, _⟩ := h; cases e; cases e1; exact ⟨n, by rw [e2]; exact fun z => by cases z⟩
  | dki ds => obtain ⟨b, rfl, n, c, xs, e1, e2, _⟩ := h; cases e; cases e1; exact ⟨n, by rw [e2]; exact fun z => by cases z⟩
  | dkt ds => obtain ⟨b, rfl, n, c, xs, e1, e2, _⟩ := h; cases e; cases e1; exact ⟨n, by rw [e2]; exact fun z => by cases z⟩
end
section
variable {X : Cx} {F : Fx} {E : XK} {pos : Pos}
theorem s_par3 (i j l : Nat) {x y z : Str} {a b c : Expr} {ma mb mc : M Sv} {px py pz pt : Pos} {kt k2 pt2} (hbi : F.brw i = none) (hbj : F.brw j = none) (hbl : F.brw l = none) (hc : X.calm = true) (hN : X.N.Nodup) (ha : AE X F E a ma) (hb : AE X F E b mb) (hcc : AE X F E c mc)
    (hi : X.N[i]? = some x := by rfl) (hj : X.N[j]? = some y := by rfl) (hl : X.N[l]? = some z := by rfl) (hij : i ≠ j := by decide) (hil : i ≠ l := by decide) (hjl : j ≠ l := by decide)
    (hx : X.env.scope.names.lookup x = some .local := by rfl) (hy : X.env.scope.names.lookup y = some .local := by rfl) (hz : X.env.scope.names.lookup z = some .local := by rfl)
    (hw : swappedStores [.Tuple [.Name x px, .Name y py, .Name z pz] kt pt] (.Tuple [a, b, c] k2 pt2) X.env = pure (some [x, y, z]) := by rfl)
    (hs : swapsWithSole [.Tuple [.Name x px, .Name y py, .Name z pz] kt pt] (.Tuple [a, b, c] k2 pt2) pos.line X.env = pure false := by rfl)
    (hs1 : starEach [a, b, c] X.env = (false, eval a X.env) :: starEach [b, c] X.env := by rfl) (hs2 : starEach (b :: [c]) X.env = (false, eval b X.env) :: starEach [c] X.env := by rfl) (hs3 : starEach (c :: []) X.env = (false, eval c X.env) :: starEach [] X.env := by rfl) :
    AS X F E (.Assign [.Tuple [.Name x px, .Name y py, .Name z pz] kt pt] (.Tuple [a, b, c] k2 pt2) pos) (sPar3 i j l ma mb mc) := by
  refine PS_imp (ps_par3 hc hN hi hj hl hij hil hjl hx hy hz (pa_cons ha (pa_cons hb (pa_cons hcc pa_nil hs3) hs2) hs1) hw hs) fun C σ H ⟨S, st, q⟩ => ⟨S, st, ?_⟩
  have q : OutS X.K X.mg F E C H ((ma S).bind fun x S1 => (mb S1).bind fun y S2 => (mc S2).bind fun z S3 => .ok .nx (((S3.set i x).set j y).set l z)) := q
  cases e1 : ma S with
  | no => rw [e1] at q; exact q
  | ex k S1 => rw [e1] at q; exact fun cls d H' r e => q cls d σ H' r e
  | ok r1 S1 =>
    rw [e1] at q
    simp only [Res.bind] at q
    intro v1 H1 g1 rr1
    refine ⟨S1, g1.rst, ?_⟩
    cases e2 : mb S1 with
    | no => rw [e2] at q; exact q
    | ex k S2 => rw [e2] at q; exact fun cls d H' r e => q cls d σ H' r e
    | ok r2 S2 =>
      rw [e2] at q
      simp only at q
      intro v2 H2 g2 rr2
      refine ⟨S2, g2.rst, ?_⟩
      cases e3 : mc S2 with
      | no => rw [e3] at q; exact q
      | ex k S3 => rw [e3] at q; exact fun cls d H' r e => q cls d σ H' r e
      | ok r3 S3 =>
        rw [e3] at q
        simp only at q
        intro v3 H3 g3 rr3
        refine ⟨v1, v2, v3, rfl, ?_⟩
        have g23 := g2.trans g3
        have g := g1.trans g23
        have l1 := (rr1.stay st g1 g23).lone st g
        have l2 := (rr2.stay g1.rst g2 g3).lone g1.rst g23
        have l3 := rr3.lone g2.rst g3
        have d21 : ∀ a, isMut r2 = true → isMut r1 = true → v2 = .ref a → v1 = .ref a → False := fun a m m' e e' => (rr1.there a m' e').2 (rr2.there a m e).1
        have d31 : ∀ a, isMut r3 = true → isMut r1 = true → v3 = .ref a → v1 = .ref a → False := fun a m m' e e' => g2.dm a (rr1.there a m' e').2 (rr3.there a m e).1
        have d32 : ∀ a, isMut r3 = true → isMut r2 = true → v3 = .ref a → v2 = .ref a → False := fun a m m' e e' => (rr2.there a m' e').2 (rr3.there a m e).1
        have s1 := g.rst.storeL hbi l1
        have s2 := s1.storeL hbj (l2.after g.rst.len d21)
        have s3 := s2.storeL hbl ((l3.after g.rst.len d31).after s1.len d32)
        exact q _ H3 s3 (g.mono st)
end
end Rc

/-! Rc: the forms that a printed derivation uses. -/
namespace Rc
open PySem PySem.Spec PyProof.Rows L2
variable [LamTbl]
section
variable {X : Cx} {F : Fx} {E : XK} {pos p p2 p3 : Pos} {a b c e : Expr} {oa ob oc : Od} {m n o : M Sv} {x : Str} {j : Nat}
theorem v_ (i : Nat) (hN : X.N[i]? = some x := by rfl) (hv : Vis X.env.scope x := by first | exact Or.inl rfl | exact Or.inr (Or.inl rfl) | exact Or.inr (Or.inr rfl)) (hd : (x == ("__debug__" : Str)) = false := by decide) (hcd : (x == ("__classdict__" : Str)) = false := by decide) : AO X F E (.Name x pos) (.v i) := ao_v hN hv hd hcd
theorem k_ (i : Nat) (hN : X.N[i]? = some x := by rfl) (hv : Vis X.env.scope x := by first | exact Or.inl rfl | exact Or.inr (Or.inl rfl) | exact Or.inr (Or.inr rfl)) (hd : (x == ("__debug__" : Str)) = false := by decide) (hcd : (x == ("__classdict__" : Str)) = false := by decide) : AE X F E (.Name x pos) (eV i) := a_v hN hv hd hcd
theorem e_ (h : AE X F E e m) : AO X F E e (.e m) := h
theorem g_ (i : Nat) (hb : F.brw i = none) (hN : X.N.Nodup) (hi : X.N[i]? = some x := by rfl) (hx : Loc X.env.scope x := by first | exact Or.inl rfl | exact Or.inr rfl) (hf : X.fn x = true ∨ X.env.scope.names.lookup x = some .local := by first | exact .inl rfl | exact .inr rfl) : AG X F (.Name x pos) (.n i) := ag_name hb hN hi hx hf
theorem s_set (i : Nat) (hb : F.brw i = none) (hN : X.N.Nodup) (he : AE X F E e m) (hi : X.N[i]? = some x := by rfl) (hx : Loc X.env.scope x := by first | exact Or.inl rfl | exact Or.inr rfl) (hs : swapsWith e (some (.Name x p)) pos.line X.env = pure false := by rfl)
    (hf : X.fn x = true ∨ X.env.scope.names.lookup x = some .local := by first | exact .inl rfl | exact .inr rfl) : AS X F E (.Assign [.Name x p] e pos) (sSet i m) := as_set hb hN hi hx he hs hf
theorem s_retV (i : Nat) (hb : F.brw i = none) (hN : X.N[i]? = some x := by rfl) (hv : Vis X.env.scope x := by first | exact Or.inl rfl | exact Or.inr (Or.inl rfl) | exact Or.inr (Or.inr rfl)) (hd : (x == ("__debug__" : Str)) = false := by decide) (hcd : (x == ("__classdict__" : Str)) = false := by decide) : AS X F E (.Return (some (.Name x p)) pos) (sRetV i) := as_retV hb hN hv hd hcd
theorem s_setIx (i : Nat) {k : Expr} {mk : M Sv} (he : AE X F E e m) (hk : AE X F E k mk) (hN : X.N[i]? = some x := by rfl) (hv : Vis X.env.scope x := by first | exact Or.inl rfl | exact Or.inr (Or.inl rfl) | exact Or.inr (Or.inr rfl)) (hd : (x == ("__debug__" : Str)) = false := by decide) (hcd : (x == ("__classdict__" : Str)) = false := by decide)
    (ha : ∀ v, assign (.Subscript (.Name x p) k p2) X.env v = (do
      let ov ← holding [v] (eval (.Name x p) X.env)
      let iv ← holding [v, ov] (eval k X.env)
      standAt p2
      holding [v, ov, iv] (setItem ov iv v)
      release [v, ov, iv] []) := by intro _; rfl)
    (hs : swapsWithSole [.Subscript (.Name x p) k p2] e pos.line X.env = pure false := by rfl) (hw : swappedStores [.Subscript (.Name x p) k p2] e X.env = pure none := by rfl)
    (h1 : (assignEach [.Subscript (.Name x p) k p2] X.env).map (·.2) = [assign (.Subscript (.Name x p) k p2) X.env] := by rfl) : AS X F E (.Assign [.Subscript (.Name x p) k p2] e pos) (sSetIx i mk m) := as_setIx he hk hN hv hd hcd ha hs hw h1
theorem s_par (i l : Nat) {y : Str} {py pt px : Pos} {kt k2 pt2} (hbi : F.brw i = none) (hbj : F.brw l = none) (hc : X.calm = true) (hN : X.N.Nodup) (ha : AE X F E a m) (hb : AE X F E b n) (hi : X.N[i]? = some x := by rfl) (hj : X.N[l]? = some y := by rfl) (hij : i ≠ l := by decide)
    (hx : X.env.scope.names.lookup x = some .local := by rfl) (hy : X.env.scope.names.lookup y = some .local := by rfl)
    (hw : swappedStores [.Tuple [.Name x px, .Name y py] kt pt] (.Tuple [a, b] k2 pt2) X.env = pure (some [x, y]) := by rfl)
    (hs : swapsWithSole [.Tuple [.Name x px, .Name y py] kt pt] (.Tuple [a, b] k2 pt2) pos.line X.env = pure false := by rfl)
    (hs1 : starEach [a, b] X.env = (false, eval a X.env) :: starEach [b] X.env := by rfl) (hs2 : starEach (b :: []) X.env = (false, eval b X.env) :: starEach [] X.env := by rfl) :
    AS X F E (.Assign [.Tuple [.Name x px, .Name y py] kt pt] (.Tuple [a, b] k2 pt2) pos) (sPar i l m n) := as_par hbi hbj hc hN hi hj hij hx hy ha hb hw hs hs1 hs2
theorem s_augAdd (i : Nat) (hbi : F.brw i = none) (hN : X.N.Nodup) (he : AE X F E e m) (hi : X.N[i]? = some x := by rfl) (hx : Loc X.env.scope x := by first | exact Or.inl rfl | exact Or.inr rfl)
    (hf : X.fn x = true ∨ X.env.scope.names.lookup x = some .local := by first | exact .inl rfl | exact .inr rfl) : AS X F E (.AugAssign (.Name x p) .Add e pos) (sAug i dAddI m) := as_augAdd hbi hN hi hx he hf
theorem s_augSub (i : Nat) (hbi : F.brw i = none) (hN : X.N.Nodup) (he : AE X F E e m) (hi : X.N[i]? = some x := by rfl) (hx : Loc X.env.scope x := by first | exact Or.inl rfl | exact Or.inr rfl)
    (hf : X.fn x = true ∨ X.env.scope.names.lookup x = some .local := by first | exact .inl rfl | exact .inr rfl) : AS X F E (.AugAssign (.Name x p) .Sub e pos) (sAug i dSubI m) := as_augSub hbi hN hi hx he hf
/-- an argument that is a name: lent -/
theorem b_ (i : Nat) {es : List Expr} {as : List Am} (hr : AA X F E es as) (hN : X.N[i]? = some x := by rfl) (hv : Vis X.env.scope x := by first | exact Or.inl rfl | exact Or.inr (Or.inl rfl) | exact Or.inr (Or.inr rfl)) (hd : (x == ("__debug__" : Str)) = false := by decide) (hcd : (x == ("__classdict__" : Str)) = false := by decide)
    (hs : starEach (.Name x p :: es) X.env = (false, eval (.Name x p) X.env) :: starEach es X.env := by rfl) : AA X F E (.Name x p :: es) (.b i :: as) := aa_b hN hv hr hd hcd hs

/-! ### comparisons -/
theorem c_lt (ha : AO X F E a oa) (hb : AO X F E b ob) : AE X F E (.Compare a [.Lt] [b] pos) (eOp2 dLt oa ob) := a_cmp op_lt op2_lt ha hb (nomark _)
theorem c_le (ha : AO X F E a oa) (hb : AO X F E b ob) : AE X F E (.Compare a [.LtE] [b] pos) (eOp2 dLe oa ob) := a_cmp op_le op2_le ha hb (nomark _)
theorem c_gt (ha : AO X F E a oa) (hb : AO X F E b ob) : AE X F E (.Compare a [.Gt] [b] pos) (eOp2 dGt oa ob) := a_cmp op_gt op2_gt ha hb (nomark _)
theorem c_ge (ha : AO X F E a oa) (hb : AO X F E b ob) : AE X F E (.Compare a [.GtE] [b] pos) (eOp2 dGe oa ob) := a_cmp op_ge op2_ge ha hb (nomark _)
theorem c_eq {k : Nat} (hr : Room k X.A) (ha : AO X F E a oa) (hb : AO X F E b ob) : AE X F E (.Compare a [.Eq] [b] pos) (eOp2 dEq oa ob) := a_cmp (op_eqD hr.units) op2_eq ha hb (nomark _)
theorem c_ne {k : Nat} (hr : Room k X.A) (ha : AO X F E a oa) (hb : AO X F E b ob) : AE X F E (.Compare a [.NotEq] [b] pos) (eOp2 dNe oa ob) := a_cmp (op_neD hr.units) op2_ne ha hb (nomark _)
theorem t_lt (ha : AO X F E a oa) (hb : AO X F E b ob) : AT X F E (.Compare a [.Lt] [b] pos) (Rc.tB (eOp2 dLt oa ob)) := at_cmp op_lt op2_lt ha hb (nomark _)
theorem t_le (ha : AO X F E a oa) (hb : AO X F E b ob) : AT X F E (.Compare a [.LtE] [b] pos) (Rc.tB (eOp2 dLe oa ob)) := at_cmp op_le op2_le ha hb (nomark _)
theorem t_gt (ha : AO X F E a oa) (hb : AO X F E b ob) : AT X F E (.Compare a [.Gt] [b] pos) (Rc.tB (eOp2 dGt oa ob)) := at_cmp op_gt op2_gt ha hb (nomark _)
theorem t_ge (ha : AO X F E a oa) (hb : AO X F E b ob) : AT X F E (.Compare a [.GtE] [b] pos) (Rc.tB (eOp2 dGe oa ob)) := at_cmp op_ge op2_ge ha hb (nomark _)
theorem t_eq {k : Nat} (hr : Room k X.A) (ha : AO X F E a oa) (hb : AO X F E b ob) : AT X F E (.Compare a [.Eq] [b] pos) (Rc.tB (eOp2 dEq oa ob)) := at_cmp (op_eqD hr.units) op2_eq ha hb (nomark _)
theorem t_ne {k : Nat} (hr : Room k X.A) (ha : AO X F E a oa) (hb : AO X F E b ob) : AT X F E (.Compare a [.NotEq] [b] pos) (Rc.tB (eOp2 dNe oa ob)) := at_cmp (op_neD hr.units) op2_ne ha hb (nomark _)
theorem op1_isN' {K : PySem.W.Frag} {mg : Str → Option Value} : Op1 K mg dIsN (fun x H Q => (V.non = V.non) ∧ Q (.bl (decide (x = .non))) H) := fun H x d res Q hf hx q => ⟨rfl, op1_isN H x d res Q hf hx q⟩
theorem op1_notN' {K : PySem.W.Frag} {mg : Str → Option Value} : Op1 K mg dNotN (fun x H Q => (V.non = V.non) ∧ Q (.bl (!decide (x = .non))) H) := fun H x d res Q hf hx q => ⟨rfl, op1_notN H x d res Q hf hx q⟩
theorem c_isN (ha : AO X F E a oa) : AE X F E (.Compare a [.Is] [.Constant .none j p2] pos) (eOp1 dIsN oa) := PE_imp (pe_cmpR op_isN ha pe_non (nomark _)) fun σ H Q q => imp1 op1_isN' oa σ H Q q
theorem c_notN (ha : AO X F E a oa) : AE X F E (.Compare a [.IsNot] [.Constant .none j p2] pos) (eOp1 dNotN oa) := PE_imp (pe_cmpR op_notN ha pe_non (nomark _)) fun σ H Q q => imp1 op1_notN' oa σ H Q q
theorem t_isN (ha : AO X F E a oa) : AT X F E (.Compare a [.Is] [.Constant .none j p2] pos) (Rc.tB (eOp1 dIsN oa)) := PT_imp (pt_cmpR op_isN ha pe_non (nomark _)) (tB_imp fun σ H Q q => imp1 op1_isN' oa σ H Q q)
theorem t_notN (ha : AO X F E a oa) : AT X F E (.Compare a [.IsNot] [.Constant .none j p2] pos) (Rc.tB (eOp1 dNotN oa)) := PT_imp (pt_cmpR op_notN ha pe_non (nomark _)) (tB_imp fun σ H Q q => imp1 op1_notN' oa σ H Q q)

/-! ### built-in functions -/
theorem f_len (hm : X.mg "len" = none) (ha : AO X F E a oa) (hg : Gl X "len" := by rfl) (he : starEach (a :: []) X.env = (false, eval a X.env) :: starEach [] X.env := by rfl) : AE X F E (.Call (.Name "len" p) [a] [] pos) (eOp1 dLen oa) :=
  a_b1 call_len_seq cl_len hg hm PySem.boot_len ha (by decide) (by decide) he rfl
theorem f_abs (hm : X.mg "abs" = none) (ha : AO X F E a oa) (hg : Gl X "abs" := by rfl) (he : starEach (a :: []) X.env = (false, eval a X.env) :: starEach [] X.env := by rfl) : AE X F E (.Call (.Name "abs" p) [a] [] pos) (eOp1 dAbs oa) :=
  a_b1 call_abs cl_abs hg hm (by decide +kernel) ha (by decide) (by decide) he rfl
theorem f_sum (hc : X.calm = true) (hm : X.mg "sum" = none) (ha : AO X F E a oa) (hg : Gl X "sum" := by rfl) (he : starEach (a :: []) X.env = (false, eval a X.env) :: starEach [] X.env := by rfl) : AE X F E (.Call (.Name "sum" p) [a] [] pos) (eOp1 dSum oa) :=
  a_b1 (CallR.or (cr_sum hc) (cr_sumT hc)) cl_sum hg hm (by decide +kernel) ha (by decide) (by decide) he rfl
theorem f_all (hc : X.calm = true) (hm : X.mg "all" = none) (ha : AO X F E a oa) (hg : Gl X "all" := by rfl) (he : starEach (a :: []) X.env = (false, eval a X.env) :: starEach [] X.env := by rfl) : AE X F E (.Call (.Name "all" p) [a] [] pos) (eOp1 dAll oa) :=
  a_b1 (cr_all hc) cl_all hg hm (by decide +kernel) ha (by decide) (by decide) he rfl
theorem f_max (hc : X.calm = true) (hm : X.mg "max" = none) (ha : AO X F E a oa) (hg : Gl X "max" := by rfl) (he : starEach (a :: []) X.env = (false, eval a X.env) :: starEach [] X.env := by rfl) : AE X F E (.Call (.Name "max" p) [a] [] pos) (eOp1 dMax oa) :=
  a_b1 (cr_max hc) cl_max hg hm (by decide +kernel) ha (by decide) (by decide) he rfl
theorem f_min (hc : X.calm = true) (hm : X.mg "min" = none) (ha : AO X F E a oa) (hg : Gl X "min" := by rfl) (he : starEach (a :: []) X.env = (false, eval a X.env) :: starEach [] X.env := by rfl) : AE X F E (.Call (.Name "min" p) [a] [] pos) (eOp1 dMin oa) :=
  a_b1 (cr_min hc) cl_min hg hm (by decide +kernel) ha (by decide) (by decide) he rfl
theorem f_max2 (hc : X.calm = true) (hm : X.mg "max" = none) (ha : AO X F E a oa) (hb : AO X F E b ob) (hg : Gl X "max" := by rfl) (he : starEach (a :: b :: []) X.env = (false, eval a X.env) :: starEach [b] X.env := by rfl) (he2 : starEach (b :: []) X.env = (false, eval b X.env) :: starEach [] X.env := by rfl) (hpl : (backTo pos (starEach [b] X.env)).any (·.1) = false := by rfl) :
    AE X F E (.Call (.Name "max" p) [a, b] [] pos) (eOp2 dMax2 oa ob) := a_b2 (call_max2 hc) cl_max2 hg hm (by decide +kernel) ha hb (by decide) (by decide) he he2 hpl
theorem f_min2 (hc : X.calm = true) (hm : X.mg "min" = none) (ha : AO X F E a oa) (hb : AO X F E b ob) (hg : Gl X "min" := by rfl) (he : starEach (a :: b :: []) X.env = (false, eval a X.env) :: starEach [b] X.env := by rfl) (he2 : starEach (b :: []) X.env = (false, eval b X.env) :: starEach [] X.env := by rfl) (hpl : (backTo pos (starEach [b] X.env)).any (·.1) = false := by rfl) :
    AE X F E (.Call (.Name "min" p) [a, b] [] pos) (eOp2 dMin2 oa ob) := a_b2 (call_min2 hc) cl_min2 hg hm (by decide +kernel) ha hb (by decide) (by decide) he he2 hpl
theorem f_tuple (hm : X.mg "tuple" = none) (ha : AO X F E a oa) (hg : Gl X "tuple" := by rfl) (he : starEach (a :: []) X.env = (false, eval a X.env) :: starEach [] X.env := by rfl) : AE X F E (.Call (.Name "tuple" p) [a] [] pos) (eOp1 dTuple oa) :=
  a_t1 call_tuple_of cl_tuple hg hm (by decide +kernel) ha (by decide) (by decide) he rfl
theorem f_list (hm : X.mg "list" = none) (ha : AO X F E a oa) (hg : Gl X "list" := by rfl) (he : starEach (a :: []) X.env = (false, eval a X.env) :: starEach [] X.env := by rfl) : AE X F E (.Call (.Name "list" p) [a] [] pos) (eOp1 dList oa) :=
  a_t1 call_list_of cl_list hg hm (by decide +kernel) ha (by decide) (by decide) he rfl
theorem f_isi {y : Str} (T : Ty) (hm : X.mg "isinstance" = none) (hmy : X.mg y = none) (ha : AO X F E a oa) (hy : bootBuiltins y = some (.type T.nm) := by decide +kernel) (hg : Gl X "isinstance" := by rfl) (hgy : Gl X y := by rfl) (hn : y ≠ "__name__" := by decide) (hdb : (y == ("__debug__" : Str)) = false := by decide)
    (he : starEach (a :: [.Name y p2]) X.env = (false, eval a X.env) :: starEach [.Name y p2] X.env := by rfl) (hpl : (backTo pos (starEach [.Name y p2] X.env)).any (·.1) = false := by rfl) : AE X F E (.Call (.Name "isinstance" p) [a, .Name y p2] [] pos) (eOp1 (dIsi T) oa) := a_isi T hg hm hgy hmy hy ha hn hdb he hpl
theorem w_range1 {tg : Expr} (hm : X.mg "range" = none) (ha : AL X F E [e] (evL [m])) (hg : Gl X "range" := by rfl) (hs : starEach [e] X.env = [(false, eval e X.env)] := by rfl) : AI X F E tg (.Call (.Name "range" p) [e] [] pos) (wRng1 m) := ai_rng1 hg hm ha hs
theorem w_range2 {tg : Expr} (hm : X.mg "range" = none) (ha : AL X F E [a, b] (evL [m, n])) (hg : Gl X "range" := by rfl) (hs : starEach [a, b] X.env = [(false, eval a X.env), (false, eval b X.env)] := by rfl) (hs2 : starEach [b] X.env = [(false, eval b X.env)] := by rfl) : AI X F E tg (.Call (.Name "range" p) [a, b] [] pos) (wRng2 m n) := ai_rng2 hg hm ha hs hs2
theorem w_enum {tpos : Pos} {elts : List Expr} {kk : Nat} (hm : X.mg "enumerate" = none) (ha : AE X F E e m) (hg : Gl X "enumerate" := by rfl) (hs : starEach [e] X.env = [(false, eval e X.env)] := by rfl) (hs2 : starEach (e :: []) X.env = (false, eval e X.env) :: starEach [] X.env := by rfl) : AI X F E (.Tuple elts kk tpos) (.Call (.Name "enumerate" p) [e] [] pos) (wEnum m) := ai_enum hg hm ha hs hs2
theorem w_zip2 {tpos : Pos} {elts : List Expr} {kk : Nat} (hm : X.mg "zip" = none) (ha : AL X F E [a, b] (evL [m, n])) (hg : Gl X "zip" := by rfl) (hs : starEach [a, b] X.env = (false, eval a X.env) :: starEach [b] X.env := by rfl) (hpl : (backTo pos (starEach [b] X.env)).any (·.1) = false := by rfl) : AI X F E (.Tuple elts kk tpos) (.Call (.Name "zip" p) [a, b] [] pos) (wZip2 m n) := ai_zip2 hg hm ha hs hpl
theorem w_zip3 {tpos : Pos} {elts : List Expr} {kk : Nat} (hm : X.mg "zip" = none) (ha : AL X F E [a, b, c] (evL [m, n, o])) (hg : Gl X "zip" := by rfl) (hs : starEach [a, b, c] X.env = (false, eval a X.env) :: starEach [b, c] X.env := by rfl) (hpl : (backTo pos (starEach [b, c] X.env)).any (·.1) = false := by rfl) : AI X F E (.Tuple elts kk tpos) (.Call (.Name "zip" p) [a, b, c] [] pos) (wZip3 m n o) := ai_zip3 hg hm ha hs hpl
theorem j_n (i : Nat) {tg : Expr} (hN : X.N[i]? = some x := by rfl) (hv : Vis X.env.scope x := by first | exact Or.inl rfl | exact Or.inr (Or.inl rfl) | exact Or.inr (Or.inr rfl)) (hd : (x == ("__debug__" : Str)) = false := by decide) (hcd : (x == ("__classdict__" : Str)) = false := by decide) : AJ X F E tg (.Name x p) (wN i id) (ckN i) [i] := aj_n hN hv hd hcd
theorem j_ne (i : Nat) {tpos : Pos} {elts : List Expr} {kk : Nat} (hm : X.mg "enumerate" = none) (hg : Gl X "enumerate" := by rfl) (hN : X.N[i]? = some x := by rfl) (hv : Vis X.env.scope x := by first | exact Or.inl rfl | exact Or.inr (Or.inl rfl) | exact Or.inr (Or.inr rfl)) (hd : (x == ("__debug__" : Str)) = false := by decide) (hcd : (x == ("__classdict__" : Str)) = false := by decide) (hs : ∀ q, starEach [.Name x q] X.env = [(false, eval (.Name x q) X.env)] := by intro _; rfl) (hs2 : ∀ q, starEach (.Name x q :: []) X.env = (false, eval (.Name x q) X.env) :: starEach [] X.env := by intro _; rfl) :
    AJ X F E (.Tuple elts kk tpos) (.Call (.Name "enumerate" p) [.Name x p2] [] pos) (wN i (enumF 0)) (ckN i) [i] := aj_ne hg hm hN hv hd hcd hs hs2
/-- a call of a def -/
theorem f_call {k n : Nat} {es : List Expr} {as : List Am} {G : AF} (hh : Has X.prog X.w X.K X.mg X.base x n k G) (hr : Room k X.A) (hx : Passes (L2N.CX X.prog X.w) X E) (ha : AA X F E (e :: es) as) (hg : Gl X x := by rfl) (hl : as.length = n := by rfl) (nd : (bIdx as).Nodup := by decide)
    (hdb : (x == ("__debug__" : Str)) = false := by decide) (he : starEach (e :: es) X.env = (false, eval e X.env) :: starEach es X.env := by rfl) (hpl : (backTo pos (starEach es X.env)).any (·.1) = false := by rfl) :
    AE X F E (.Call (.Name x p) (e :: es) [] pos) (eCall G as) := a_call hh hr hg hx ha hl nd hdb he hpl
theorem f_call0 {k : Nat} {G : AF} (hh : Has X.prog X.w X.K X.mg X.base x 0 k G) (hr : Room k X.A) (hx : Passes (L2N.CX X.prog X.w) X E) (hg : Gl X x := by rfl) (hdb : (x == ("__debug__" : Str)) = false := by decide) : AE X F E (.Call (.Name x p) [] [] pos) (eCall G []) := a_call0 hh hr hg hx hdb
theorem f_gInt {i : Int} (hm : ∃ t, X.mg x = some (.int i t)) (hg : Gl X x := by rfl) (hd : (x == ("__debug__" : Str)) = false := by decide) : AE X F E (.Name x pos) (eLit (.int i)) := by
  obtain ⟨t, hm⟩ := hm
  exact a_gInt hg hm hd
theorem s_raise {t : Str} {k : Nat} {p1 p4 : Pos} (hc : X.calm = true) (tk : L2N.Takes X (fun cls d _ H => E cls d H)) (T : ∃ C, ExC X.K X.mg x C) (hg : Gl X x := by rfl) (hdb : (x == ("__debug__" : Str)) = false := by decide) :
    AS X F E (.Raise (some (.Call (.Name x p1) [.Constant (.str t) k p2] [] p3)) none p4) (sRaise ⟨x, none⟩) := by
  obtain ⟨C, T⟩ := T
  exact as_raise hc tk T hg hdb
theorem w_lc {tg iter elt : Expr} {ifs : List Expr} {w : M (List D)} {pt : Pat} {mc : M Bool} {me : M Sv} {scope : Scope} {ck : Ck} {sl : List Nat} (own : List (Str × Nat)) (hc : X.calm = true) (hN : X.N.Nodup) (hi : AJ X F E tg iter w ck sl) (hb : ∀ i ∈ own.map (·.2), F.brw i = none)
    (hg : ∀ (s : Shared) (H : Hp) (C : Addr) (cl : List (Str × Addr)) (fp : List Addr), AG (X.blk s H scope (compEnvC scope cl C X.env) fp) F tg pt)
    (ht : ∀ (s : Shared) (H : Hp) (C : Addr) (cl : List (Str × Addr)) (fp : List Addr), PTs (X.blk s H scope (compEnvC scope cl C X.env) fp) ifs (tOfB X.K X.mg F E0 mc))
    (he : ∀ (s : Shared) (H : Hp) (C : Addr) (cl : List (Str × Addr)) (fp : List Addr), AE (X.blk s H scope (compEnvC scope cl C X.env) fp) F E0 elt me)
    (hsl : ∀ i ∈ sl, i ∉ own.map (·.2) := by decide) (hp : ∀ i ∈ pt.sl, i ∈ own.map (·.2) := by decide) (ok : blkC X.N X.env.scope scope own = true := by kernel_rfl)
    (hs : ∀ x, foldedSetIterable iter X.env x = pure x := by intro _; rfl) : AE X F E (.ListComp elt [⟨tg, iter, ifs, 0⟩] scope pos) (eLc (own.map (·.2)) ck w pt mc me) := a_lc hc hN hi hsl ok hb hp hg ht he hs
theorem s_lc {tg iter elt : Expr} {ifs : List Expr} {w : M (List D)} {pt : Pat} {mc : M Bool} {me : M Sv} {scope : Scope} {ck : Ck} {sl : List Nat} (i : Nat) {py spos : Pos} (own : List (Str × Nat)) (hbi : F.brw i = none) (hc : X.calm = true) (hN : X.N.Nodup) (hi : AJ X F E tg iter w ck sl) (hb : ∀ i ∈ own.map (·.2), F.brw i = none)
    (hg : ∀ (s : Shared) (H : Hp) (C : Addr) (cl : List (Str × Addr)) (fp : List Addr), AG (X.blk s H scope (compEnvC scope cl C X.env) fp) F tg pt)
    (ht : ∀ (s : Shared) (H : Hp) (C : Addr) (cl : List (Str × Addr)) (fp : List Addr), PTs (X.blk s H scope (compEnvC scope cl C X.env) fp) ifs (tOfB X.K X.mg F E0 mc))
    (he : ∀ (s : Shared) (H : Hp) (C : Addr) (cl : List (Str × Addr)) (fp : List Addr), AE (X.blk s H scope (compEnvC scope cl C X.env) fp) F E0 elt me)
    (hy : X.N[i]? = some x := by rfl) (hyl : X.env.scope.names.lookup x = some .local := by rfl) (hsw : swapsWith (.ListComp elt [⟨tg, iter, ifs, 0⟩] scope pos) (some (.Name x py)) spos.line X.env = pure true := by exact sw_true rfl rfl rfl (by decide +kernel))
    (hsl : ∀ i ∈ sl, i ∉ own.map (·.2) := by decide) (hp : ∀ i ∈ pt.sl, i ∈ own.map (·.2) := by decide) (ok : blkC X.N X.env.scope scope own = true := by kernel_rfl)
    (hs : ∀ x, foldedSetIterable iter X.env x = pure x := by intro _; rfl) : AS X F E (.Assign [.Name x py] (.ListComp elt [⟨tg, iter, ifs, 0⟩] scope pos) spos) (sSet i (eLc (own.map (·.2)) ck w pt mc me)) :=
  as_setLc hc hN hy hyl hbi hsw hi hsl ok hb hp hg ht he hs
theorem w_lc2 {tg iter tg1 iter1 elt : Expr} {ifs ifs1 : List Expr} {w w1 : M (List D)} {pt pt1 : Pat} {mc mc1 : M Bool} {me : M Sv} {scope : Scope} {ck : Ck} {sl : List Nat} (own : List (Str × Nat)) (vs1 : List Nat) (hc : X.calm = true) (hN : X.N.Nodup) (hi : AJ X F E tg iter w ck sl) (hb : ∀ i ∈ own.map (·.2), F.brw i = none)
    (hg : ∀ (s : Shared) (H : Hp) (C : Addr) (cl : List (Str × Addr)) (fp : List Addr), AG (X.blk s H scope (compEnvC scope cl C X.env) fp) F tg pt)
    (ht : ∀ (s : Shared) (H : Hp) (C : Addr) (cl : List (Str × Addr)) (fp : List Addr), PTs (X.blk s H scope (compEnvC scope cl C X.env) fp) ifs (tOfB X.K X.mg F E0 mc))
    (hi1 : ∀ (s : Shared) (H : Hp) (C : Addr) (cl : List (Str × Addr)) (fp : List Addr), AI (X.blk s H scope (compEnvC scope cl C X.env) fp) F E0 tg1 iter1 w1)
    (hg1 : ∀ (s : Shared) (H : Hp) (C : Addr) (cl : List (Str × Addr)) (fp : List Addr), AG (X.blk s H scope (compEnvC scope cl C X.env) fp) F tg1 pt1)
    (ht1 : ∀ (s : Shared) (H : Hp) (C : Addr) (cl : List (Str × Addr)) (fp : List Addr), PTs (X.blk s H scope (compEnvC scope cl C X.env) fp) ifs1 (tOfB X.K X.mg F E0 mc1))
    (he : ∀ (s : Shared) (H : Hp) (C : Addr) (cl : List (Str × Addr)) (fp : List Addr), AE (X.blk s H scope (compEnvC scope cl C X.env) fp) F E0 elt me)
    (hsl : ∀ i ∈ sl, i ∉ own.map (·.2) := by decide) (hp : ∀ i ∈ pt.sl, i ∈ own.map (·.2) := by decide) (hv : ∀ i ∈ vs1, i ∈ own.map (·.2) := by decide) (hp1 : ∀ i ∈ pt1.sl, i ∈ vs1 := by decide) (ok : blkC X.N X.env.scope scope own = true := by kernel_rfl)
    (hs : ∀ x, foldedSetIterable iter X.env x = pure x := by intro _; rfl) (hs1 : ∀ env x, foldedSetIterable iter1 env x = pure x := by intro _ _; rfl) : AE X F E (.ListComp elt [⟨tg, iter, ifs, 0⟩, ⟨tg1, iter1, ifs1, 0⟩] scope pos) (eLc2 (own.map (·.2)) vs1 ck w pt mc w1 pt1 mc1 me) :=
  a_lc2 hc hN hi hsl ok hb hp hv hp1 hg ht hi1 hg1 ht1 he hs hs1
/-- nothing is let out -/
theorem passN {X : Cx} {E : XK} (h : ∀ c d H, ¬ E c d H) : Passes (L2N.CX X.prog X.w) X E := fun _ _ _ _ _ _ _ z => by
  obtain ⟨_, _, _, c, d, _, _, _, _, _, _, _, q⟩ := z
  exact (h _ _ _ q).elim
theorem passE {X : Cx} : Passes (L2N.CX X.prog X.w) X E0 := passN fun _ _ _ z => z
/-- no exception is awaited in a block -/
theorem px {P : Program} {w : World} {K : PySem.W.Frag} {mg : Str → Option Value} {base : Heap} {N : List Str} {q : Str} {sc : Scope} {f : Addr} {cd : Value} {A : Around} {outer : List Env} {s : Shared} {H : Hp} {E : XK} :
    Passes (L2N.CX P w) (cxOf (L2N.CX P w) P w K mg base N q sc f cd A outer s H E) E := L2N.passes_call (L2N.takes_of rfl rfl rfl rfl) fun _ _ _ _ h => h
theorem po {P : Program} {w : World} {K : PySem.W.Frag} {mg : Str → Option Value} {base : Heap} {N : List Str} {q : Str} {sc : Scope} {f : Addr} {cd : Value} {A : Around} {outer : List Env} {s : Shared} {H : Hp} {E : XK} :
    PassesOwn (model P w) (cxOf (L2N.CX P w) P w K mg base N q sc f cd A outer s H E).A (cxOf (L2N.CX P w) P w K mg base N q sc f cd A outer s H E).env (cxOf (L2N.CX P w) P w K mg base N q sc f cd A outer s H E).xe := PassesOwn.leaving
theorem brw1 {F : Fx} {i : Nat} (h : F.brw i = none) : ∀ j ∈ [i], F.brw j = none := fun j hj => by rw [List.mem_singleton.mp hj]; exact h
theorem brwL {F : Fx} {lst own : List Nat} (h : ∀ i, i ∉ lst → F.brw i = none) (d : ∀ i ∈ own, i ∉ lst := by decide) : ∀ i ∈ own, F.brw i = none := fun i hi => h i (d i hi)
/-- the def is never run -/
theorem has_no {P : Program} {w : World} {K : PySem.W.Frag} {mg : Str → Option Value} {base : Heap} {x : Str} {f : Addr} {fd : FuncData} {ps : List Str} {st : Stmt} {k : Nat} (hf : Fun K x x st f fd) (hm : mg x = some (.ref f)) (hb : Binds K fd ps []) : Has P w K mg base x ps.length k (fun _ => .no) :=
  ⟨f, fd, ps, hm, hf.kp, hb, rfl, fun vs H Q E q => by obtain ⟨args, hn, hh, _⟩ := q; rw [hh.len, hn], fun A outer s H args us vs Q E hr e0 hbd hv hs => by obtain ⟨_, _, _, z⟩ := hs; exact z.elim⟩
end
end Rc

/-! Rc: the end of a row. -/
namespace Rc
open PySem PySem.Spec PySem.W PyProof.Rows L2
variable [LamTbl]
theorem RepL.ofInts {K : PySem.W.Frag} {mg : Str → Option Value} {H : Hp} : ∀ ns : List Int, RepL K mg H (ns.map PyData.int) (ns.map V.int)
  | [] => rfl
  | n :: ns => ⟨_, _, rfl, rfl, RepL.ofInts ns⟩
theorem loose_int {p : Program} {lv : List (Str × WData)} {mg : Str → Option Value} {h : Heap} (x : XL p lv mg h) {y : Str} {i : Int} (m : (y, WData.int i) ∈ lv) : ∃ t, mg y = some (.int i t) := by
  obtain ⟨v, e, r⟩ := x.2.val _ m
  have e : mg y = some v := e
  cases r with
  | int i t => exact ⟨t, e⟩
theorem walk_rc {l : PySem.W.OpenLaw} {n k : Nat} {q : Program} {loose : List Str} {XP : (Str → Option Value) → Heap → Prop} {YP : World → Heap → Prop} {d : DefRec} {K : Params → PySem.W.Frag} {x : Str} (G : AF)
    (hn : l.most = some n) (hn2 : n ≤ sizeLine) (hdf : d.params.defaults = []) (hr : Room k callerA)
    (hY : ∀ (w : World) (h : Heap), YP w h → (K w.params).In h)
    (F : ∀ (w : World) (mg : Str → Option Value) (fa : Addr) (h : Heap), (K w.params).In h → h.Ns mainGlobals mg → XP mg h → mg d.name = some (.ref fa) →
      ∃ fd : FuncData, (∀ (s : Shared) (u : Value), BindsTo s fd ⟨[u], []⟩ [(x, u)]) ∧
        ∀ base : Heap, (K w.params).In base → base.Ns mainGlobals mg → FnOk l.prog w (K w.params) mg base (L2N.CX l.prog w) k fa fd [x] (spOf (K w.params) mg 1 G))
    (hG : ∀ ns : List Int, ns.length ≤ n → ∃ outs, G [.val (.list (ns.map PyData.int))] = .ret (.val (.bool true)) outs) :
    PySem.W.WalkO q loose XP YP l.row.toRowW d [] (fun f vs => PySem.call f vs) := by
  refine Att.attach_call hn hdf fun w s₀ s₁ mg mb fa o pm cd doc a vs ns G' Y ho hd hcd hmg hobj hints hlen hg => ?_
  have KX := hY w _ Y
  obtain ⟨fd, hb, hF⟩ := F w mg fa _ KX G'.T.g G'.X hmg
  refine law_call KX G'.T.g G'.T.b G'.T.builtins G'.T.nolimit hg hobj hints (Nat.le_trans hlen hn2) hr hF hb (fun H hO hS => ?_) fun H e s' c => ?_
  · have hz : FzL (K w.params) H a (ns.map V.int) := by
      rcases hS with h | ⟨o, its, m, h1, h2, h3, h4, h5, h6⟩
      · rcases hO a with z | ⟨o, xs, z⟩
        · rcases h with h | ⟨_, h⟩ <;> (rw [z] at h; cases h)
        · rcases h with h | ⟨o2, h⟩
          · rw [z] at h; cases h
          · exact .inl ⟨o2, h⟩
      · have e := KX a o h1
        rw [hobj] at e
        have e := Option.some.inj e
        subst e
        have h4 : Data.seq vs.toArray _ = Data.seq its m := h4
        cases h4
        exact .inr ⟨_, _, h1, h5, h6⟩
    obtain ⟨outs, eG⟩ := hG ns hlen
    refine ⟨[.val (.list (ns.map PyData.int))], rfl, ⟨rfl, fun i s e => ?_, fun i j s t b e1 e2 m1 => ?_⟩, ?_⟩
    · cases i with
      | zero =>
        cases e
        exact ⟨rfl, .ref a, rfl, a, _, rfl, hz, RepL.ofInts ns⟩
      | succ i => simp at e
    · cases i with
      | zero => cases e1; cases m1
      | succ i => simp at e1
    · rw [eG]
      exact fun v H' _ rr => rr
  · obtain ⟨_, _, _, _, _, _, _, _, _, _, _, _, z⟩ := c
    exact z
end Rc

/-! Rc: the functions, read. -/
namespace Rc
open PySem
/-- r is a value, and Q holds of it -/
@[irreducible] def Ok {α : Type} (r : Res α) (Q : α → Sl → Prop) : Prop := match r with
  | .ok a S => Q a S
  | _ => False
/-- a def returns, and Q holds of what it gives -/
@[irreducible] def Rt (r : FR) (Q : Sv → Sl → Prop) : Prop := match r with
  | .ret v outs => Q v outs
  | _ => False
section
variable {α β : Type} {Q : α → Sl → Prop} {S : Sl}
theorem Ok_ok {a : α} : Ok (.ok a S) Q = Q a S := by with_unfolding_all rfl
theorem Ok_no : Ok (Res.no : Res α) Q = False := by with_unfolding_all rfl
theorem Ok_ex {e : Ek} : Ok (.ex e S : Res α) Q = False := by with_unfolding_all rfl
theorem Ok_bind {r : Res β} {f : β → Sl → Res α} : Ok (r.bind f) Q = Ok r fun b S1 => Ok (f b S1) Q := by with_unfolding_all (cases r <;> rfl)
theorem Ok_ite {c : Prop} [Decidable c] {a b : Res α} : Ok (if c then a else b) Q = if c then Ok a Q else Ok b Q := by split <;> rfl
theorem Ok_mono {r : Res α} {Q' : α → Sl → Prop} (h : Ok r Q) (m : ∀ a S, Q a S → Q' a S) : Ok r Q' := by
  with_unfolding_all
  cases r with
  | ok a S => exact m a S h
  | ex e S => exact h
  | no => exact h
theorem Ok_ex_iff {r : Res α} : Ok r Q ↔ ∃ a S', r = .ok a S' ∧ Q a S' := by
  with_unfolding_all
  cases r with
  | ok a S => exact ⟨fun h => ⟨a, S, rfl, h⟩, fun ⟨_, _, e, h⟩ => by cases e; exact h⟩
  | ex e S => exact ⟨fun h => h.elim, fun ⟨_, _, e, _⟩ => by cases e⟩
  | no => exact ⟨fun h => h.elim, fun ⟨_, _, e, _⟩ => by cases e⟩
end
section
variable {S : Sl} {Q : Fl → Sl → Prop}
/-- go on behind a statement -/
def thenS (b : M Fl) (Q : Fl → Sl → Prop) (f : Fl) (S : Sl) : Prop := match f with
  | .nx => Ok (b S) Q
  | f => Q f S
theorem thenS_nx {b : M Fl} : thenS b Q .nx S = Ok (b S) Q := rfl
theorem thenS_rt {b : M Fl} {v : Sv} : thenS b Q (.rt v) S = Q (.rt v) S := rfl
theorem thenS_bk {b : M Fl} : thenS b Q .bk S = Q .bk S := rfl
theorem thenS_ct {b : M Fl} : thenS b Q .ct S = Q .ct S := rfl
theorem Ok_seq {a b : M Fl} : Ok (sSeq a b S) Q = Ok (a S) (thenS b Q) := by
  with_unfolding_all
  unfold sSeq
  rw [Ok_bind]
  congr 1
  funext f S1
  cases f <;> rfl
theorem Ok_sIf {c : M Bool} {a b : M Fl} : Ok (sIf c a b S) Q = Ok (c S) fun x S1 => if x = true then Ok (a S1) Q else Ok (b S1) Q := by
  unfold sIf
  rw [Ok_bind]
  congr 1
  funext x S1
  cases x <;> rfl
theorem Ok_pass : Ok (sPass S) Q = Q .nx S := by with_unfolding_all rfl
theorem Ok_ret {m : M Sv} : Ok (sRet m S) Q = Ok (m S) fun r S1 => Q (.rt r) S1 := by with_unfolding_all (unfold sRet; rw [Ok_bind]; rfl)
def isV : Sv → Bool
  | .un => false
  | _ => true
theorem Ok_set {i : Nat} {m : M Sv} : Ok (sSet i m S) Q = Ok (m S) fun r S1 => isV r = true ∧ Q .nx (S1.set i r) := by
  unfold sSet
  rw [Ok_bind]
  congr 1
  funext r S1
  cases r <;> simp [Ok, isV]
theorem Ok_par {i j : Nat} {m n : M Sv} : Ok (sPar i j m n S) Q = Ok (m S) fun x S1 => Ok (n S1) fun y S2 => isV x = true ∧ isV y = true ∧ Q .nx ((S2.set i x).set j y) := by
  unfold sPar
  rw [Ok_bind]
  congr 1
  funext x S1
  rw [Ok_bind]
  congr 1
  funext y S2
  cases x <;> cases y <;> simp [Ok, isV]
theorem Ok_drop {m : M Sv} : Ok (sDrop m S) Q = Ok (m S) fun _ S1 => Q .nx S1 := by with_unfolding_all (unfold sDrop; rw [Ok_bind]; rfl)
theorem Ok_for {w : M (List D)} {p : Pat} {b : M Fl} : Ok (sFor w p b S) Q = Ok (w S) fun ds S1 => Ok (forLoop p b ds S1) Q := by unfold sFor; rw [Ok_bind]
theorem Ok_while {n : Nat} {c : M Bool} {b : M Fl} : Ok (sWhile n c b S) Q = Ok (whLoop c b n S) Q := rfl
theorem Ok_unp {p : Pat} {m : M Sv} : Ok (sUnp p m S) Q = Ok (datum m S) fun d S1 => ∃ S2, p.put d S1 = some S2 ∧ Q .nx S2 := by
  unfold sUnp datum
  rw [Ok_bind, Ok_bind]
  congr 1
  funext r S1
  cases toD r with
  | none => simp [Ok]
  | some d =>
    simp only [Option.bind_some]
    cases e : p.put d S1 <;> simp [Ok, e]
/-- a loop that keeps W, indexed by what is left -/
theorem for_inv {p : Pat} {b : M Fl} (W : List D → Sl → Prop) (hn : ∀ S, W [] S → Q .nx S)
    (hs : ∀ d ds S, W (d :: ds) S → ∃ S1, p.put d S = some S1 ∧ Ok (b S1) fun f S2 => match f with | .nx => W ds S2 | .ct => W ds S2 | .bk => Q .nx S2 | .rt v => Q (.rt v) S2) :
    ∀ ds S, W ds S → Ok (forLoop p b ds S) Q
  | [], S, h => by with_unfolding_all exact hn S h
  | d :: ds, S, h => by
    obtain ⟨S1, e, h1⟩ := hs d ds S h
    unfold forLoop
    rw [e]
    show Ok ((b S1).bind _) Q
    rw [Ok_bind]
    refine Ok_mono h1 fun f S2 z => ?_
    cases f with
    | nx => exact for_inv W hn hs ds S2 z
    | ct => exact for_inv W hn hs ds S2 z
    | bk => with_unfolding_all exact z
    | rt v => with_unfolding_all exact z
theorem wh_inv {c : M Bool} {b : M Fl} (W : Nat → Sl → Prop)
    (hs : ∀ n S, W n S → Ok (c S) fun x S1 => if x = true then Ok (b S1) fun f S2 => match f with | .nx => ∃ m, m < n ∧ W m S2 | .ct => ∃ m, m < n ∧ W m S2 | .bk => Q .nx S2 | .rt v => Q (.rt v) S2 else Q .nx S1) :
    ∀ k n S, n < k → W n S → Ok (whLoop c b k S) Q
  | 0, n, S, hk, _ => absurd hk (Nat.not_lt_zero _)
  | k + 1, n, S, hk, h => by
    have z := hs n S h
    show Ok ((c S).bind _) Q
    rw [Ok_bind]
    refine Ok_mono z fun x S1 z => ?_
    cases x with
    | false => with_unfolding_all exact z
    | true =>
      simp only [if_true] at z ⊢
      rw [Ok_bind]
      refine Ok_mono z fun f S2 z => ?_
      cases f with
      | nx => obtain ⟨m, hm, w⟩ := z; exact wh_inv W hs k m S2 (by omega) w
      | ct => obtain ⟨m, hm, w⟩ := z; exact wh_inv W hs k m S2 (by omega) w
      | bk => with_unfolding_all exact z
      | rt v => with_unfolding_all exact z
end
section
variable {S : Sl}
theorem Rt_fn {n : Nat} {lst : List Nat} {b : M Fl} {args : Sl} {Q : Sv → Sl → Prop} : Rt (fn n lst b args) Q = (noOw lst 0 args = true ∧ Ok (b (args ++ List.replicate (n - args.length) .un)) fun f S => match f with
    | .rt v => Q v (outsOf args.length S)
    | .nx => Q (.val .none) (outsOf args.length S)
    | _ => False) := by
  unfold fn mkF
  by_cases h : noOw lst 0 args = true
  · rw [if_pos h]
    cases e : b (args ++ List.replicate (n - args.length) .un) with
    | no => simp [Rt, Ok, h]
    | ex k S => simp [Rt, Ok, h]
    | ok f S => cases f <;> simp [Rt, Ok, h]
  · rw [if_neg h]
    simp [Rt, h]
theorem Ok_call {F : AF} {as : List Am} {Q : Sv → Sl → Prop} : Ok (eCall F as S) Q = Ok (evA as S) fun vs S1 => vs.all (okB S1) = true ∧ Rt (F (vs.map (argOf S1))) fun v outs => Q v (backA S1 vs outs) := by
  unfold eCall
  rw [Ok_bind]
  congr 1
  funext vs S1
  by_cases h : vs.all (okB S1) = true
  · rw [if_pos h]
    cases F (vs.map (argOf S1)) <;> simp [Rt, Ok, h]
  · rw [if_neg h]
    simp [Ok, h]
theorem Rt_mono {r : FR} {Q Q' : Sv → Sl → Prop} (h : Rt r Q) (m : ∀ v o, Q v o → Q' v o) : Rt r Q' := by
  with_unfolding_all
  cases r with
  | ret v o => exact m v o h
  | ex e o => exact h
  | no => exact h
theorem Rt_eq {F : AF} {args : Sl} {v : Sv} {outs : Sl} {Q : Sv → Sl → Prop} (e : F args = .ret v outs) : Rt (F args) Q = Q v outs := by with_unfolding_all (rw [e]; rfl)
end

/-! ### by continuation: each step from the head -/
/-- a slot is read -/
def sg : Sl → Nat → (Sv → Prop) → Prop
  | [], _, _ => False
  | s :: _, 0, k => k s
  | _ :: S, n + 1, k => sg S n k
theorem sg_iff : ∀ {S : Sl} {i : Nat} {k : Sv → Prop}, sg S i k = (∃ s, S[i]? = some s ∧ k s)
  | [], i, k => by simp [sg]
  | s :: S, 0, k => by simp [sg]
  | s :: S, n + 1, k => by simp only [sg, List.getElem?_cons_succ]; exact sg_iff
/-- a slot is written -/
def sw : Sl → Nat → Sv → (Sl → Prop) → Prop
  | [], _, _, k => k []
  | _ :: S, 0, s, k => k (s :: S)
  | x :: S, n + 1, s, k => sw S n s fun T => k (x :: T)
theorem sw_eq : ∀ {S : Sl} {i : Nat} {s : Sv} {k : Sl → Prop}, sw S i s k = k (S.set i s)
  | [], i, s, k => rfl
  | x :: S, 0, s, k => rfl
  | x :: S, n + 1, s, k => by simp only [sw, List.set_cons_succ]; exact sw_eq
theorem sg_z {s : Sv} {S : Sl} {k : Sv → Prop} : sg (s :: S) 0 k = k s := rfl
theorem sg_s {s : Sv} {S : Sl} {n : Nat} {k : Sv → Prop} : sg (s :: S) (n + 1) k = sg S n k := rfl
theorem sw_z {s x : Sv} {S : Sl} {k : Sl → Prop} : sw (x :: S) 0 s k = k (s :: S) := rfl
theorem sw_s {s x : Sv} {S : Sl} {n : Nat} {k : Sl → Prop} : sw (x :: S) (n + 1) s k = sw S n s fun T => k (x :: T) := rfl
/-- a value that is read -/
def td (r : Sv) (k : D → Prop) : Prop := match toD r with
  | some d => k d
  | none => False
theorem td_val {d : D} {k : D → Prop} : td (.val d) k = k d := rfl
theorem td_ow {ds : List D} {k : D → Prop} : td (.ow ds) k = k (.list ds) := rfl
/-- a name that is kept -/
def kp (i : Nat) (S : Sl) (Q : Sv → Sl → Prop) : Sv → Prop
  | .val d => Q (.val d) S
  | .ow ds => sw S i (.val (.list ds)) fun T => Q (.val (.list ds)) T
  | _ => False
section
variable {S : Sl} {Q : Sv → Sl → Prop}
theorem Ok_eLit {d : D} : Ok (eLit d S) Q = Q (.val d) S := by with_unfolding_all rfl
theorem kp_val {i : Nat} {d : D} : kp i S Q (.val d) = Q (.val d) S := rfl
theorem kp_ow {i : Nat} {ds : List D} : kp i S Q (.ow ds) = sw S i (.val (.list ds)) fun T => Q (.val (.list ds)) T := rfl
theorem Ok_eV {i : Nat} : Ok (eV i S) Q = sg S i (kp i S Q) := by
  rw [sg_iff]
  unfold eV
  cases e : S[i]? with
  | none => simp [Ok]
  | some s => cases s <;> simp [Ok, kp, sw_eq]
/-- an operator's value -/
def op1 (f : D → Option Sv) (x : D) (k : Sv → Prop) : Prop := match f x with
  | some r => k r
  | none => False
def op2 (f : D → D → Option Sv) (x y : D) (k : Sv → Prop) : Prop := match f x y with
  | some r => k r
  | none => False
theorem Ok_lift {o : Option Sv} : Ok (lift o S) Q = (match o with | some r => Q r S | none => False) := by with_unfolding_all (cases o <;> rfl)
theorem rdE {i : Nat} {k : D → Prop} : (match rd S i with | some d => k d | none => False) = sg S i fun s => td s k := by
  rw [sg_iff]
  unfold rd
  cases S[i]? with
  | none => simp
  | some s => simp only [Option.bind_some]; cases e : toD s <;> simp [td, e]
theorem Ok_op1e {f : D → Option Sv} {m : M Sv} : Ok (eOp1 f (.e m) S) Q = Ok (m S) fun r S1 => td r fun x => op1 f x fun z => Q z S1 := by
  unfold eOp1
  simp only [Ok_bind]
  congr 1
  funext r S1
  rw [Ok_lift]
  unfold td b1 op1
  cases toD r with
  | none => rfl
  | some d => simp only [Option.bind_some]
theorem Ok_op1v {f : D → Option Sv} {i : Nat} : Ok (eOp1 f (.v i) S) Q = sg S i fun s => td s fun x => op1 f x fun z => Q z S := by
  rw [← rdE]
  unfold eOp1 b1 op1
  simp only [Ok_lift]
  cases rd S i with
  | none => rfl
  | some d => simp only [Option.bind_some]
theorem b2_eq {f : D → D → Option Sv} {a b : Option D} {k : Sv → Prop} : (match b2 f a b with | some r => k r | none => False) = (match a with | some x => (match b with | some y => op2 f x y k | none => False) | none => False) := by
  unfold b2 op2
  cases a with
  | none => rfl
  | some x => cases b with
    | none => rfl
    | some y => simp only [Option.bind_some]
theorem Ok_op2ee {f : D → D → Option Sv} {m n : M Sv} : Ok (eOp2 f (.e m) (.e n) S) Q = Ok (m S) fun r S1 => td r fun x => Ok (n S1) fun r2 S2 => td r2 fun y => op2 f x y fun z => Q z S2 := by
  with_unfolding_all
  unfold eOp2
  simp only [Ok_bind]
  congr 1
  funext r S1
  unfold td
  cases e : toD r with
  | none =>
    simp only [Ok_lift, b2, Option.bind_none]
    cases n S1 <;> rfl
  | some d =>
    simp only
    congr 1
    funext r2 S2
    rw [Ok_lift, b2_eq]
theorem Ok_op2ve {f : D → D → Option Sv} {i : Nat} {n : M Sv} : Ok (eOp2 f (.v i) (.e n) S) Q = sg S i fun s => td s fun _ => Ok (n S) fun r2 S2 => sg S2 i fun s => td s fun x => td r2 fun y => op2 f x y fun z => Q z S2 := by
  rw [← rdE]
  unfold eOp2
  simp only
  cases e : rd S i with
  | none => simp [Ok]
  | some d =>
    simp only [Option.isSome_some, if_true, Ok_bind]
    congr 1
    funext r S1
    rw [Ok_lift, b2_eq, ← rdE]
    unfold td
    cases rd S1 i <;> rfl
theorem Ok_op2ev {f : D → D → Option Sv} {j : Nat} {m : M Sv} : Ok (eOp2 f (.e m) (.v j) S) Q = Ok (m S) fun r S1 => td r fun x => sg S1 j fun s => td s fun y => op2 f x y fun z => Q z S1 := by
  unfold eOp2
  simp only [Ok_bind]
  congr 1
  funext r S1
  rw [Ok_lift, b2_eq]
  unfold td
  cases toD r with
  | none => rfl
  | some x => simp only; exact rdE (k := fun y => op2 f x y fun z => Q z S1)
theorem Ok_op2vv {f : D → D → Option Sv} {i j : Nat} : Ok (eOp2 f (.v i) (.v j) S) Q = sg S i fun s => td s fun x => sg S j fun s => td s fun y => op2 f x y fun z => Q z S := by
  rw [← rdE]
  unfold eOp2
  simp only
  rw [Ok_lift, b2_eq]
  cases rd S i with
  | none => rfl
  | some x => simp only; exact rdE (k := fun y => op2 f x y fun z => Q z S)
end
section
variable {i j : Int} {k : Sv → Prop} {x y : D} {b : Bool} {ds es : List D}
theorem op_add : op2 dAdd (.int i) (.int j) k = k (.val (.int (i + j))) := rfl
theorem op_addL : op2 dAdd (.list ds) (.list es) k = (ds.length + es.length ≤ 16777216 ∧ k (.ow (ds ++ es))) := by
  unfold op2 dAdd small
  by_cases h : ds.length + es.length ≤ 16777216 <;> simp [h]
theorem op_addT : op2 dAdd (.tuple ds) (.tuple es) k = (ds.length + es.length ≤ 16777216 ∧ k (.val (.tuple (ds ++ es)))) := by
  unfold op2 dAdd small
  by_cases h : ds.length + es.length ≤ 16777216 <;> simp [h]
theorem op_addI : op2 dAddI (.int i) (.int j) k = k (.val (.int (i + j))) := rfl
theorem op_sub : op2 dSub (.int i) (.int j) k = k (.val (.int (i - j))) := rfl
theorem op_subI : op2 dSubI (.int i) (.int j) k = k (.val (.int (i - j))) := rfl
theorem op_addB {b : Bool} : op2 dAdd (.bool b) (.int j) k = k (.val (.int ((if b = true then 1 else 0) + j))) := rfl
theorem op_subB {b : Bool} : op2 dSub (.bool b) (.int j) k = k (.val (.int ((if b = true then 1 else 0) - j))) := rfl
theorem w64_eq {i : Int} : (w64 i = true) = (-18446744073709551616 < i ∧ i < 18446744073709551616) := by unfold w64; simp
theorem op_mul : op2 dMulA (.int i) (.int j) k = (((-18446744073709551616 < i ∧ i < 18446744073709551616) ∨ (-18446744073709551616 < j ∧ j < 18446744073709551616)) ∧ k (.val (.int (i * j)))) := by
  unfold op2 dMulA dMul
  rw [← w64_eq, ← w64_eq]
  by_cases h1 : w64 i = true <;> by_cases h2 : w64 j = true <;> simp [h1, h2]
theorem op_mod : op2 dMod (.int i) (.int j) k = (0 < j ∧ k (.val (.int (i % j)))) := by
  unfold op2 dMod
  by_cases h : 0 < j <;> simp [h]
theorem op_div : op2 dDiv (.int i) (.int j) k = ((0 < j ∧ j < 18446744073709551616) ∧ k (.val (.int (i / j)))) := by
  unfold op2 dDiv
  by_cases h : 0 < j ∧ j < 18446744073709551616
  · simp [h]
  · simp only [h, false_and, if_false]
theorem op_pow : op2 dPow (.int i) (.int j) k = ((0 ≤ j ∧ j ≤ 100 ∧ -18446744073709551616 < i ∧ i < 18446744073709551616) ∧ k (.val (.int (i ^ j.toNat)))) := by
  unfold op2 dPow
  simp only [w64_eq]
  by_cases h : 0 ≤ j ∧ j ≤ 100 ∧ -18446744073709551616 < i ∧ i < 18446744073709551616
  · simp only [if_pos h]; simp [h]
  · simp only [h, false_and, if_false]
theorem op_lt : op2 dLt (.int i) (.int j) k = k (.val (.bool (decide (i < j)))) := rfl
theorem op_le : op2 dLe (.int i) (.int j) k = k (.val (.bool (decide (i ≤ j)))) := rfl
theorem op_gt : op2 dGt (.int i) (.int j) k = k (.val (.bool (decide (j < i)))) := rfl
theorem op_ge : op2 dGe (.int i) (.int j) k = k (.val (.bool (decide (j ≤ i)))) := rfl
theorem op_eqI : op2 dEq (.int i) (.int j) k = k (.val (.bool (decide (i = j)))) := by
  have : PyData.eqv (.int i) (.int j) = decide (i = j) := by simp only [PyData.eqv]; by_cases h : i = j <;> simp [h]
  show k (.val (.bool (PyData.eqv (.int i) (.int j)))) = _
  rw [this]
theorem op_neI : op2 dNe (.int i) (.int j) k = k (.val (.bool (!decide (i = j)))) := by
  have : PyData.eqv (.int i) (.int j) = decide (i = j) := by simp only [PyData.eqv]; by_cases h : i = j <;> simp [h]
  show k (.val (.bool (!PyData.eqv (.int i) (.int j)))) = _
  rw [this]
theorem op_neg : op1 dNeg (.int i) k = k (.val (.int (-i))) := rfl
theorem op_isN : op1 dIsN x k = k (.val (.bool (isN x))) := rfl
theorem op_notN : op1 dNotN x k = k (.val (.bool (!isN x))) := rfl
theorem op_lenL : op1 dLen (.list ds) k = k (.val (.int ds.length)) := rfl
theorem op_lenT : op1 dLen (.tuple ds) k = k (.val (.int ds.length)) := rfl
theorem op_isi_i {T : Ty} : op1 (dIsi T) (.int i) k = k (.val (.bool (match T with | .int => true | _ => false))) := by cases T <;> rfl
theorem op_isi_b {T : Ty} : op1 (dIsi T) (.bool b) k = k (.val (.bool (match T with | .int => true | .bool => true | _ => false))) := by cases T <;> rfl
theorem op_isi_l {T : Ty} : op1 (dIsi T) (.list ds) k = k (.val (.bool (match T with | .list => true | _ => false))) := by cases T <;> rfl
theorem op_isi_t {T : Ty} : op1 (dIsi T) (.tuple ds) k = k (.val (.bool (match T with | .tuple => true | _ => false))) := by cases T <;> rfl
theorem op_isi_n {T : Ty} : op1 (dIsi T) .none k = k (.val (.bool false)) := by cases T <;> rfl
theorem op_isi_s {T : Ty} {s : Str} : op1 (dIsi T) (.str s) k = k (.val (.bool (match T with | .str => true | _ => false))) := by cases T <;> rfl
theorem op_abs : op1 dAbs (.int i) k = k (.val (.int (if i < 0 then -i else i))) := rfl
theorem op_max2 : op2 dMax2 (.int i) (.int j) k = k (.val (.int (if j > i then j else i))) := rfl
theorem op_min2 : op2 dMin2 (.int i) (.int j) k = k (.val (.int (if j < i then j else i))) := rfl
theorem atI_nat {α : Type} (xs : List α) (n : Nat) : L2.atI xs (n : Int) = xs[n]? := by
  unfold L2.atI L2.ixN
  rw [if_pos (by omega)]
  by_cases h : n < xs.length
  · rw [if_pos (by omega)]; simp
  · rw [if_neg (by omega), List.getElem?_eq_none (by omega)]; rfl
theorem atI_of {α : Type} {xs : List α} {i : Int} {a : α} (h0 : 0 ≤ i) (e : xs[i.toNat]? = some a) : L2.atI xs i = some a := by
  rw [← Int.toNat_of_nonneg h0, atI_nat]
  exact e
theorem op_ixL : op2 dIx (.list ds) (.int i) k = (∃ d, L2.atI ds i = some d ∧ k (.val d)) := by
  unfold op2 dIx
  simp only
  cases L2.atI ds i <;> simp
theorem op_ixT : op2 dIx (.tuple ds) (.int i) k = (∃ d, L2.atI ds i = some d ∧ k (.val d)) := by
  unfold op2 dIx
  simp only
  cases L2.atI ds i <;> simp
section
variable {x0 x1 x2 x3 : D}
theorem ix_0 : op2 dIx (.list (x0 :: ds)) (.int 0) k = k (.val x0) := by rw [op_ixL, show (0 : Int) = ((0 : Nat) : Int) from rfl, atI_nat]; simp
theorem ix_1 : op2 dIx (.list (x0 :: x1 :: ds)) (.int 1) k = k (.val x1) := by rw [op_ixL, show (1 : Int) = ((1 : Nat) : Int) from rfl, atI_nat]; simp
theorem ix_2 : op2 dIx (.list (x0 :: x1 :: x2 :: ds)) (.int 2) k = k (.val x2) := by rw [op_ixL, show (2 : Int) = ((2 : Nat) : Int) from rfl, atI_nat]; simp
theorem ix_3 : op2 dIx (.list (x0 :: x1 :: x2 :: x3 :: ds)) (.int 3) k = k (.val x3) := by rw [op_ixL, show (3 : Int) = ((3 : Nat) : Int) from rfl, atI_nat]; simp
theorem tx_0 : op2 dIx (.tuple (x0 :: ds)) (.int 0) k = k (.val x0) := by rw [op_ixT, show (0 : Int) = ((0 : Nat) : Int) from rfl, atI_nat]; simp
theorem tx_1 : op2 dIx (.tuple (x0 :: x1 :: ds)) (.int 1) k = k (.val x1) := by rw [op_ixT, show (1 : Int) = ((1 : Nat) : Int) from rfl, atI_nat]; simp
theorem tx_2 : op2 dIx (.tuple (x0 :: x1 :: x2 :: ds)) (.int 2) k = k (.val x2) := by rw [op_ixT, show (2 : Int) = ((2 : Nat) : Int) from rfl, atI_nat]; simp
theorem tx_3 : op2 dIx (.tuple (x0 :: x1 :: x2 :: x3 :: ds)) (.int 3) k = k (.val x3) := by rw [op_ixT, show (3 : Int) = ((3 : Nat) : Int) from rfl, atI_nat]; simp
end
end

/-! ### the rest of the expressions -/
section
variable {S : Sl}
theorem Ok_datum {m : M Sv} {Q : D → Sl → Prop} : Ok (datum m S) Q = Ok (m S) fun r S1 => td r fun d => Q d S1 := by
  with_unfolding_all
  unfold datum
  rw [Ok_bind]
  congr 1
  funext r S1
  unfold td
  cases toD r <;> rfl
theorem Ok_evL0 {Q : List D → Sl → Prop} : Ok (evL [] S) Q = Q [] S := by with_unfolding_all rfl
theorem Ok_evLc {m : M Sv} {ms : List (M Sv)} {Q : List D → Sl → Prop} : Ok (evL (m :: ms) S) Q = Ok (m S) fun r S1 => td r fun d => Ok (evL ms S1) fun ds S2 => Q (d :: ds) S2 := by
  with_unfolding_all
  simp only [evL, Ok_bind]
  congr 1
  funext r S1
  unfold td
  cases toD r with
  | none => rfl
  | some d => simp only [Ok_bind]; rfl
theorem Ok_eTup {ms : List (M Sv)} {Q : Sv → Sl → Prop} : Ok (eTup ms S) Q = Ok (evL ms S) fun ds S1 => Q (.val (.tuple ds)) S1 := by with_unfolding_all (unfold eTup; rw [Ok_bind]; rfl)
theorem Ok_eLst {ms : List (M Sv)} {Q : Sv → Sl → Prop} : Ok (eLst ms S) Q = Ok (evL ms S) fun ds S1 => Q (.ow ds) S1 := by with_unfolding_all (unfold eLst; rw [Ok_bind]; rfl)
/-- a test's value -/
def bk (S : Sl) (Q : Bool → Sl → Prop) : Sv → Prop
  | .val (.bool b) => Q b S
  | _ => False
theorem bk_b {Q : Bool → Sl → Prop} {b : Bool} : bk S Q (.val (.bool b)) = Q b S := rfl
theorem Ok_tB {m : M Sv} {Q : Bool → Sl → Prop} : Ok (Rc.tB m S) Q = Ok (m S) fun r S1 => bk S1 Q r := by
  unfold Rc.tB
  rw [Ok_bind]
  congr 1
  funext r S1
  unfold asB bk
  split <;> simp [Ok]
theorem Ok_eB {m : M Bool} {Q : Sv → Sl → Prop} : Ok (eB m S) Q = Ok (m S) fun b S1 => Q (.val (.bool b)) S1 := by with_unfolding_all (unfold eB; rw [Ok_bind]; rfl)
theorem Ok_tNot {m : M Bool} {Q : Bool → Sl → Prop} : Ok (Rc.tNot m S) Q = Ok (m S) fun b S1 => Q (!b) S1 := by with_unfolding_all (unfold Rc.tNot; rw [Ok_bind]; rfl)
theorem Ok_tAnd {a b : M Bool} {Q : Bool → Sl → Prop} : Ok (Rc.tAnd a b S) Q = Ok (a S) fun x S1 => if x = true then Ok (b S1) Q else Q false S1 := by
  with_unfolding_all
  unfold Rc.tAnd
  rw [Ok_bind]
  congr 1
  funext x S1
  cases x <;> rfl
theorem Ok_tOr {a b : M Bool} {Q : Bool → Sl → Prop} : Ok (Rc.tOr a b S) Q = Ok (a S) fun x S1 => if x = true then Q true S1 else Ok (b S1) Q := by
  with_unfolding_all
  unfold Rc.tOr
  rw [Ok_bind]
  congr 1
  funext x S1
  cases x <;> rfl
theorem Ok_eAnd {a b : M Sv} {Q : Sv → Sl → Prop} : Ok (Rc.eAnd a b S) Q = Ok (Rc.tB a S) fun x S1 => if x = true then Ok (b S1) Q else Q (.val (.bool false)) S1 := by
  with_unfolding_all
  unfold Rc.eAnd
  rw [Ok_bind]
  congr 1
  funext x S1
  cases x <;> rfl
theorem Ok_eOr {a b : M Sv} {Q : Sv → Sl → Prop} : Ok (Rc.eOr a b S) Q = Ok (Rc.tB a S) fun x S1 => if x = true then Q (.val (.bool true)) S1 else Ok (b S1) Q := by
  with_unfolding_all
  unfold Rc.eOr
  rw [Ok_bind]
  congr 1
  funext x S1
  cases x <;> rfl
theorem Ok_eIf {c : M Bool} {a b : M Sv} {Q : Sv → Sl → Prop} : Ok (Rc.eIf c a b S) Q = Ok (c S) fun x S1 => if x = true then Ok (a S1) Q else Ok (b S1) Q := by
  unfold Rc.eIf
  rw [Ok_bind]
  congr 1
  funext x S1
  cases x <;> rfl
/-- a plain value -/
def fk (r : Sv) (k : D → Prop) : Prop := match r with
  | .val d => flat d = true ∧ k d
  | _ => False
theorem fk_i {i : Int} {k : D → Prop} : fk (.val (.int i)) k = k (.int i) := by simp [fk, flat]
theorem fk_b {i : Bool} {k : D → Prop} : fk (.val (.bool i)) k = k (.bool i) := by simp [fk, flat]
theorem fk_n {k : D → Prop} : fk (.val .none) k = k .none := by simp [fk, flat]
theorem Ok_evSe {m : M Sv} {Q : D → Sl → Prop} : Ok (evS (.e m) S) Q = Ok (m S) fun r S1 => fk r fun d => Q d S1 := by
  with_unfolding_all
  unfold evS
  simp only [Ok_bind]
  congr 1
  funext r S1
  unfold fk
  cases r <;> try rfl
  rename_i d
  simp only
  by_cases h : flat d = true <;> simp [h, Ok]
theorem Ok_evSv {i : Nat} {Q : D → Sl → Prop} : Ok (evS (.v i) S) Q = sg S i fun s => fk s fun d => Q d S := by
  with_unfolding_all
  rw [sg_iff]
  unfold evS fk
  simp only
  cases S[i]? with
  | none => simp [Ok]
  | some s =>
    cases s <;> simp [Ok]
    rename_i d
    by_cases h : flat d = true <;> simp [h, Ok]
/-- behind a chain's first comparison -/
def ck2 (c : Od) (g : D → D → Option Sv) (y : D) (S : Sl) (Q : Sv → Sl → Prop) : Sv → Prop
  | .val (.bool b) => if b = true then Ok (evS c S) (fun z S3 => op2 g y z fun r => Q r S3) else Q (.val (.bool false)) S
  | _ => False
theorem ck2_b {c : Od} {g : D → D → Option Sv} {y : D} {Q : Sv → Sl → Prop} {b : Bool} : ck2 c g y S Q (.val (.bool b)) = if b = true then Ok (evS c S) (fun z S3 => op2 g y z fun r => Q r S3) else Q (.val (.bool false)) S := rfl
theorem Ok_eChain {f g : D → D → Option Sv} {a b c : Od} {Q : Sv → Sl → Prop} : Ok (eChain f g a b c S) Q = Ok (evS a S) fun x S1 => Ok (evS b S1) fun y S2 => op2 f x y fun r => ck2 c g y S2 Q r := by
  with_unfolding_all
  unfold eChain
  simp only [Ok_bind]
  congr 1
  funext x S1
  congr 1
  funext y S2
  unfold op2
  cases f x y with
  | none => rfl
  | some r =>
    simp only
    unfold ck2
    split
    · rename_i e
      cases e
      simp only [if_true, Ok_bind]
      congr 1
      funext z S3
      rw [Ok_lift]
      rfl
    · rename_i e
      cases e
      rfl
    · rename_i h1 h2
      split
      · rename_i b
        cases b
        · exact absurd rfl h2
        · exact absurd rfl h1
      · rfl
/-! ### targets -/
mutual
def pk : Pat → D → Sl → (Sl → Prop) → Prop
  | .n i, d, S, k => sw S i (.val d) k
  | .t ps, .tuple ds, S, k => pks ps ds S k
  | .t ps, .list ds, S, k => pks ps ds S k
  | .t _, _, _, _ => False
def pks : List Pat → List D → Sl → (Sl → Prop) → Prop
  | [], [], S, k => k S
  | p :: ps, d :: ds, S, k => pk p d S fun S1 => pks ps ds S1 k
  | _, _, _, _ => False
end
mutual
theorem pk_iff : ∀ {p : Pat} {d : D} {S : Sl} {k : Sl → Prop}, pk p d S k = (∃ S1, p.put d S = some S1 ∧ k S1)
  | .n i, d, S, k => by simp [pk, Pat.put, sw_eq]
  | .t ps, .tuple ds, S, k => by simp only [pk, Pat.put]; exact pks_iff
  | .t ps, .list ds, S, k => by simp only [pk, Pat.put]; exact pks_iff
  | .t ps, .none, S, k => by simp [pk, Pat.put]
  | .t ps, .bool _, S, k => by simp [pk, Pat.put]
  | .t ps, .int _, S, k => by simp [pk, Pat.put]
  | .t ps, .str _, S, k => by simp [pk, Pat.put]
  | .t ps, .dict _, S, k => by simp [pk, Pat.put]
theorem pks_iff : ∀ {p : List Pat} {d : List D} {S : Sl} {k : Sl → Prop}, pks p d S k = (∃ S1, Pat.puts p d S = some S1 ∧ k S1)
  | [], [], S, k => by simp [pks, Pat.puts]
  | [], _ :: _, S, k => by simp [pks, Pat.puts]
  | _ :: _, [], S, k => by simp [pks, Pat.puts]
  | p :: ps, d :: ds, S, k => by
    simp only [pks, Pat.puts]
    rw [pk_iff]
    cases p.put d S with
    | none => simp
    | some S1 => simp only [Option.bind_some, Option.some.injEq, exists_eq_left']; exact pks_iff
end
theorem pk_n {i : Nat} {d : D} {k : Sl → Prop} : pk (.n i) d S k = sw S i (.val d) k := by simp only [pk]
theorem pk_t {ps : List Pat} {ds : List D} {k : Sl → Prop} : pk (.t ps) (.tuple ds) S k = pks ps ds S k := by simp only [pk]
theorem pk_l {ps : List Pat} {ds : List D} {k : Sl → Prop} : pk (.t ps) (.list ds) S k = pks ps ds S k := by simp only [pk]
theorem pks_n {k : Sl → Prop} : pks [] [] S k = k S := by simp only [pks]
theorem pks_c {p : Pat} {ps : List Pat} {d : D} {ds : List D} {k : Sl → Prop} : pks (p :: ps) (d :: ds) S k = pk p d S fun S1 => pks ps ds S1 k := by simp only [pks]
variable {Q : Fl → Sl → Prop}
theorem Ok_unpk {p : Pat} {m : M Sv} : Ok (sUnp p m S) Q = Ok (datum m S) fun d S1 => pk p d S1 fun S2 => Q .nx S2 := by
  rw [Ok_unp]
  congr 1
  funext d S1
  rw [pk_iff]
/-- a value that may be stored -/
def vk (r : Sv) (P : Prop) : Prop := match r with
  | .un => False
  | _ => P
theorem vk_val {d : D} {P : Prop} : vk (.val d) P = P := rfl
theorem vk_ow {d : List D} {P : Prop} : vk (.ow d) P = P := rfl
theorem Ok_setk {i : Nat} {m : M Sv} : Ok (sSet i m S) Q = Ok (m S) fun r S1 => vk r (sw S1 i r fun T => Q .nx T) := by
  rw [Ok_set]
  congr 1
  funext r S1
  rw [sw_eq]
  cases r <;> simp [vk, isV]
theorem Ok_park {i j : Nat} {m n : M Sv} : Ok (sPar i j m n S) Q = Ok (m S) fun x S1 => Ok (n S1) fun y S2 => vk x (vk y (sw S2 i x fun T => sw T j y fun U => Q .nx U)) := by
  rw [Ok_par]
  congr 1
  funext x S1
  congr 1
  funext y S2
  rw [sw_eq, sw_eq]
  cases x <;> cases y <;> simp [vk, isV]
def rvk (S : Sl) (Q : Fl → Sl → Prop) : Sv → Prop
  | .val d => Q (.rt (.val d)) S
  | .ow ds => Q (.rt (.ow ds)) S
  | _ => False
theorem rvk_val {d : D} : rvk S Q (.val d) = Q (.rt (.val d)) S := rfl
theorem rvk_ow {d : List D} : rvk S Q (.ow d) = Q (.rt (.ow d)) S := rfl
theorem Ok_retV {i : Nat} : Ok (sRetV i S) Q = sg S i (rvk S Q) := by
  rw [sg_iff]
  unfold sRetV
  cases e : S[i]? with
  | none => simp [Ok]
  | some s => cases s <;> simp [Ok, rvk]
def augk (S : Sl) (Q : Fl → Sl → Prop) (x : Nat) (f : D → D → Option Sv) (e : M Sv) : Sv → Prop
  | .val a => Ok (e S) fun r S1 => td r fun b => op2 f a b fun z => sw S1 x z fun T => Q .nx T
  | _ => False
theorem augk_val {x : Nat} {f : D → D → Option Sv} {e : M Sv} {a : D} : augk S Q x f e (.val a) = Ok (e S) fun r S1 => td r fun b => op2 f a b fun z => sw S1 x z fun T => Q .nx T := rfl
theorem Ok_augk {x : Nat} {f : D → D → Option Sv} {e : M Sv} : Ok (sAug x f e S) Q = sg S x (augk S Q x f e) := by
  with_unfolding_all
  rw [sg_iff]
  unfold sAug
  cases hs : S[x]? with
  | none => simp [Ok]
  | some s =>
    simp only [Option.some.injEq, exists_eq_left']
    cases s with
    | val a =>
      rw [augk_val]
      simp only [Ok_bind]
      congr 1
      funext r S1
      unfold td
      cases toD r with
      | none => simp [b2, Ok]
      | some b =>
        simp only [b2, Option.bind_some]
        unfold op2
        cases f a b with
        | none => rfl
        | some z => simp only; rw [sw_eq]; rfl
    | _ => rfl
end

/-! ### lists of one's own; calls -/
section
variable {S : Sl} {Q : Fl → Sl → Prop}
/-- an own list, an index: the store -/
def ixk (S : Sl) (x : Nat) (d : D) (i : Int) (Q : Fl → Sl → Prop) : Sv → Prop
  | .ow ds => (∃ j, L2.ixN ds.length i = some j ∧ sw S x (.ow (ds.set j d)) fun T => Q .nx T)
  | _ => False
def nk (r : Sv) (k : Int → Prop) : Prop := match r with
  | .val (.int i) => k i
  | _ => False
theorem nk_i {i : Int} {k : Int → Prop} : nk (.val (.int i)) k = k i := rfl
theorem Ok_setIx {x : Nat} {k e : M Sv} : Ok (sSetIx x k e S) Q = Ok (datum e S) fun d S1 => sg S1 x fun s => td s fun _ => Ok (k S1) fun i S2 => nk i fun i => sg S2 x (ixk S2 x d i Q) := by
  with_unfolding_all
  unfold sSetIx
  rw [Ok_bind]
  congr 1
  funext d S1
  rw [← rdE]
  cases rd S1 x with
  | none => simp [Ok]
  | some d0 =>
    simp only [Option.isSome_some, if_true, Ok_bind]
    congr 1
    funext r S2
    have no : ∀ {P : Sv → Prop}, sg S2 x P = (match S2[x]? with | some s => P s | none => False) := fun {P} => by
      rw [sg_iff]
      cases S2[x]? <;> simp
    cases r with
    | val dv =>
      cases dv with
      | int i =>
        show _ = sg S2 x (ixk S2 x d i Q)
        rw [no]
        cases S2[x]? with
        | none => rfl
        | some s =>
          cases s with
          | ow ds =>
            simp only [ixk]
            cases L2.ixN ds.length i with
            | none => simp [Ok]
            | some j => simp [Ok, sw_eq]
          | _ => rfl
      | _ => rfl
    | _ => rfl
theorem ixN_nat {n j : Nat} (h : j < n) : L2.ixN n (j : Int) = some j := by
  unfold L2.ixN
  rw [if_pos (by omega), if_pos (by omega)]
  simp
theorem ixk_0 {x : Nat} {d a : D} {l : List D} : ixk S x d 0 Q (.ow (a :: l)) = sw S x (.ow (d :: l)) fun T => Q .nx T := by
  simp only [ixk]
  rw [show (0 : Int) = ((0 : Nat) : Int) from rfl, ixN_nat (by simp)]
  simp
theorem ixk_1 {x : Nat} {d a b : D} {l : List D} : ixk S x d 1 Q (.ow (a :: b :: l)) = sw S x (.ow (a :: d :: l)) fun T => Q .nx T := by
  simp only [ixk]
  rw [show (1 : Int) = ((1 : Nat) : Int) from rfl, ixN_nat (by simp)]
  simp
theorem ixk_2 {x : Nat} {d a b c : D} {l : List D} : ixk S x d 2 Q (.ow (a :: b :: c :: l)) = sw S x (.ow (a :: b :: d :: l)) fun T => Q .nx T := by
  simp only [ixk]
  rw [show (2 : Int) = ((2 : Nat) : Int) from rfl, ixN_nat (by simp)]
  simp
/-- an own list grows -/
def apk (S : Sl) (x : Nat) (d : D) (Q : Fl → Sl → Prop) : Sv → Prop
  | .ow ds => ds.length < 16777216 ∧ sw S x (.ow (ds ++ [d])) fun T => Q .nx T
  | _ => False
theorem apk_ow {x : Nat} {d : D} {ds : List D} : apk S x d Q (.ow ds) = (ds.length < 16777216 ∧ sw S x (.ow (ds ++ [d])) fun T => Q .nx T) := rfl
def owk (P : Prop) : Sv → Prop
  | .ow _ => P
  | _ => False
theorem owk_ow {P : Prop} {ds : List D} : owk P (.ow ds) = P := rfl
theorem Ok_app {x : Nat} {e : M Sv} : Ok (sApp x e S) Q = sg S x (owk (Ok (datum e S) fun d S1 => sg S1 x (apk S1 x d Q))) := by
  with_unfolding_all
  have no : ∀ {T : Sl} {P : Sv → Prop}, sg T x P = (match T[x]? with | some s => P s | none => False) := fun {T P} => by
    rw [sg_iff]
    cases T[x]? <;> simp
  rw [no]
  unfold sApp isOw
  cases S[x]? with
  | none => simp [Ok]
  | some s =>
    cases s with
    | ow ds0 =>
      show Ok ((datum e S).bind _) Q = _
      simp only [owk_ow, Ok_bind]
      congr 1
      funext d S1
      rw [no]
      cases S1[x]? with
      | none => rfl
      | some t =>
        cases t with
        | ow ds =>
          show Ok (if ds.length < 16777216 then _ else _) Q = apk S1 x d Q (.ow ds)
          rw [apk_ow, sw_eq]
          by_cases h : ds.length < 16777216 <;> simp [h, Ok]
        | _ => rfl
    | _ => rfl
end
/-! calls -/
section
variable {S : Sl}
/-- the arguments -/
def ak : List Am → Sl → (List (D ⊕ Nat) → Sl → Prop) → Prop
  | [], S, k => k [] S
  | .d m :: as, S, k => Ok (m S) fun r S1 => td r fun d => ak as S1 fun vs S2 => k (.inl d :: vs) S2
  | .b i :: as, S, k => sg S i fun s => okArg s = true ∧ ak as S fun vs S2 => k (.inr i :: vs) S2
theorem ak_eq : ∀ {as : List Am} {S : Sl} {k : List (D ⊕ Nat) → Sl → Prop}, ak as S k = Ok (evA as S) k
  | [], S, k => by with_unfolding_all rfl
  | .d m :: as, S, k => by
    simp only [ak, evA, Ok_bind]
    congr 1
    funext r S1
    unfold td
    cases toD r with
    | none => with_unfolding_all rfl
    | some d => simp only [Ok_bind]; with_unfolding_all exact ak_eq
  | .b i :: as, S, k => by
    simp only [ak, evA]
    rw [sg_iff]
    unfold bound
    cases S[i]? with
    | none => simp [Ok]
    | some s =>
      cases s <;> simp [Ok, Ok_ite, Ok_no, Ok_bind, okArg] <;> exact iff_of_eq ak_eq
/-- as the callee gets them -/
def gk : List (D ⊕ Nat) → Sl → (Sl → Prop) → Prop
  | [], _, k => k []
  | .inl d :: vs, S, k => gk vs S fun l => k (.val d :: l)
  | .inr i :: vs, S, k => sg S i fun s => okArg s = true ∧ gk vs S fun l => k (s :: l)
theorem gk_eq : ∀ {vs : List (D ⊕ Nat)} {S : Sl} {k : Sl → Prop}, gk vs S k = (vs.all (okB S) = true ∧ k (vs.map (argOf S)))
  | [], S, k => by simp [gk]
  | .inl d :: vs, S, k => by
    simp only [gk]
    rw [gk_eq]
    simp [okB, argOf]
  | .inr i :: vs, S, k => by
    simp only [gk]
    rw [sg_iff, List.all_cons, List.map_cons]
    simp only [okB, argOf, bound, Bool.and_eq_true]
    rw [List.getD_eq_getElem?_getD]
    cases S[i]? with
    | none => simp
    | some s =>
      simp only [Option.some.injEq, exists_eq_left', Option.getD_some]
      rw [gk_eq]
      cases s <;> simp [okArg]
/-- by a slot's kind -/
def mk2 (A B : Prop) : Sv → Prop
  | .ow _ => A
  | .dki _ => A
  | .dkt _ => A
  | _ => B
def sgm : Sl → Nat → Prop → Prop → Prop
  | [], _, _, B => B
  | s :: _, 0, A, B => mk2 A B s
  | _ :: S, n + 1, A, B => sgm S n A B
theorem sgm_eq : ∀ {S : Sl} {i : Nat} {A B : Prop}, sgm S i A B = if isMut (S.getD i .un) = true then A else B
  | [], i, A, B => by simp [sgm, isMut]
  | s :: S, 0, A, B => by cases s <;> simp [sgm, mk2, isMut]
  | s :: S, n + 1, A, B => by simp only [sgm, List.getD_cons_succ]; exact sgm_eq
theorem sgm_z {s : Sv} {A B : Prop} : sgm (s :: S) 0 A B = mk2 A B s := rfl
theorem sgm_s {s : Sv} {n : Nat} {A B : Prop} : sgm (s :: S) (n + 1) A B = sgm S n A B := rfl
theorem mk2_v {A B : Prop} {d : D} : mk2 A B (.val d) = B := rfl
theorem mk2_o {A B : Prop} {d : List D} : mk2 A B (.ow d) = A := rfl
/-- the slots behind the call -/
def zk : List (D ⊕ Nat) → Sl → Sl → (Sl → Prop) → Prop
  | .inr i :: as, S, o :: os, k => if isMut (S.getD i .un) = true then zk as S os fun T => sw T i o k else zk as S os k
  | .inl _ :: as, S, _ :: os, k => zk as S os k
  | _, S, _, k => k S
theorem zk_eq : ∀ {vs : List (D ⊕ Nat)} {S os : Sl} {k : Sl → Prop}, zk vs S os k = k (backA S vs os)
  | [], S, os, k => by simp only [zk, backA]
  | .inl _ :: as, S, [], k => by simp only [zk, backA]
  | .inr _ :: as, S, [], k => by simp only [zk, backA]
  | .inl _ :: as, S, o :: os, k => by simp only [zk, backA]; exact zk_eq
  | .inr i :: as, S, o :: os, k => by
    simp only [zk, backA]
    split
    · rw [zk_eq, sw_eq]
    · rw [zk_eq]
theorem ak_n {k : List (D ⊕ Nat) → Sl → Prop} : ak [] S k = k [] S := by simp only [ak]
theorem ak_d {m : M Sv} {as : List Am} {k : List (D ⊕ Nat) → Sl → Prop} : ak (.d m :: as) S k = Ok (m S) fun r S1 => td r fun d => ak as S1 fun vs S2 => k (.inl d :: vs) S2 := by simp only [ak]
theorem ak_b {i : Nat} {as : List Am} {k : List (D ⊕ Nat) → Sl → Prop} : ak (.b i :: as) S k = sg S i fun s => okArg s = true ∧ ak as S fun vs S2 => k (.inr i :: vs) S2 := by simp only [ak]
theorem gk_n {k : Sl → Prop} : gk [] S k = k [] := by simp only [gk]
theorem gk_l {d : D} {vs : List (D ⊕ Nat)} {k : Sl → Prop} : gk (.inl d :: vs) S k = gk vs S fun l => k (.val d :: l) := by simp only [gk]
theorem gk_r {i : Nat} {vs : List (D ⊕ Nat)} {k : Sl → Prop} : gk (.inr i :: vs) S k = sg S i fun s => okArg s = true ∧ gk vs S fun l => k (s :: l) := by simp only [gk]
theorem zk_n {os : Sl} {k : Sl → Prop} : zk [] S os k = k S := by simp only [zk]
theorem zk_l {d : D} {vs : List (D ⊕ Nat)} {o : Sv} {os : Sl} {k : Sl → Prop} : zk (.inl d :: vs) S (o :: os) k = zk vs S os k := by simp only [zk]
theorem zk_r {i : Nat} {vs : List (D ⊕ Nat)} {o : Sv} {os : Sl} {k : Sl → Prop} : zk (.inr i :: vs) S (o :: os) k = sgm S i (zk vs S os fun T => sw T i o k) (zk vs S os k) := by rw [sgm_eq]; simp only [zk]
theorem Ok_callk {F : AF} {as : List Am} {Q : Sv → Sl → Prop} : Ok (eCall F as S) Q = ak as S fun vs S1 => gk vs S1 fun args => Rt (F args) fun v outs => zk vs S1 outs fun T => Q v T := by
  rw [Ok_call, ak_eq]
  congr 1
  funext vs S1
  rw [gk_eq]
  simp only [zk_eq]
end

/-! ### a def's body -/
section
/-- the slots at a def's entry -/
def ik : Nat → Sl → (Sl → Prop) → Prop
  | 0, as, k => k as
  | n + 1, [], k => ik n [] fun T => k (.un :: T)
  | n + 1, a :: as, k => ik n as fun T => k (a :: T)
theorem ik_eq : ∀ {n : Nat} {as : Sl} {k : Sl → Prop}, ik n as k = k (as ++ List.replicate (n - as.length) .un)
  | 0, as, k => by simp [ik]
  | n + 1, [], k => by simp only [ik]; rw [ik_eq]; simp [List.replicate_succ]
  | n + 1, a :: as, k => by simp only [ik]; rw [ik_eq]; simp
theorem ik_z {as : Sl} {k : Sl → Prop} : ik 0 as k = k as := by simp only [ik]
theorem ik_n {n : Nat} {k : Sl → Prop} : ik (n + 1) [] k = ik n [] fun T => k (.un :: T) := by simp only [ik]
theorem ik_s {n : Nat} {a : Sv} {as : Sl} {k : Sl → Prop} : ik (n + 1) (a :: as) k = ik n as fun T => k (a :: T) := by simp only [ik]
/-- the parameters' slots at its end -/
def uk : Nat → Sl → (Sl → Prop) → Prop
  | 0, _, k => k []
  | n + 1, [], k => uk n [] fun T => k (.un :: T)
  | n + 1, s :: S, k => uk n S fun T => k (s :: T)
theorem uk_eq : ∀ {n : Nat} {S : Sl} {k : Sl → Prop}, uk n S k = k (outsOf n S)
  | 0, S, k => by simp only [uk, outsOf]
  | n + 1, [], k => by simp only [uk, outsOf]; rw [uk_eq]
  | n + 1, s :: S, k => by simp only [uk, outsOf]; rw [uk_eq]
theorem uk_z {S : Sl} {k : Sl → Prop} : uk 0 S k = k [] := by simp only [uk]
theorem uk_s {n : Nat} {s : Sv} {S : Sl} {k : Sl → Prop} : uk (n + 1) (s :: S) k = uk n S fun T => k (s :: T) := by simp only [uk]
def len' : Sl → (Nat → Prop) → Prop := fun as k => k as.length
def rtk (n : Nat) (Q : Sv → Sl → Prop) (f : Fl) (S : Sl) : Prop := match f with
  | .rt v => uk n S fun o => Q v o
  | .nx => uk n S fun o => Q (.val .none) o
  | _ => False
theorem rtk_rt {n : Nat} {Q : Sv → Sl → Prop} {v : Sv} {S : Sl} : rtk n Q (.rt v) S = uk n S fun o => Q v o := rfl
theorem rtk_nx {n : Nat} {Q : Sv → Sl → Prop} {S : Sl} : rtk n Q .nx S = uk n S fun o => Q (.val .none) o := rfl
/-- the parameters' kinds -/
def nok (lst : List Nat) : Nat → Sl → Prop → Prop
  | _, [], P => P
  | i, .val _ :: S, P => nok lst (i + 1) S P
  | i, .ow _ :: S, P => i ∈ lst ∧ nok lst (i + 1) S P
  | _, _ :: _, _ => False
theorem nok_eq {lst : List Nat} : ∀ {S : Sl} {i : Nat} {P : Prop}, nok lst i S P = (noOw lst i S = true ∧ P)
  | [], i, P => by simp [nok, noOw]
  | .val d :: S, i, P => by simp only [nok, noOw, Bool.true_and]; exact nok_eq
  | .ow d :: S, i, P => by
    simp only [nok, noOw, Bool.and_eq_true, decide_eq_true_eq]
    rw [nok_eq, and_assoc]
  | .un :: S, i, P => by simp [nok, noOw]
  | .dki d :: S, i, P => by simp [nok, noOw]
  | .dkt d :: S, i, P => by simp [nok, noOw]
variable {lst : List Nat} {i : Nat} {P : Prop} {S : Sl}
theorem nok_n : nok lst i [] P = P := by simp only [nok]
theorem nok_v {d : D} : nok lst i (.val d :: S) P = nok lst (i + 1) S P := by simp only [nok]
theorem nok_o {d : List D} : nok lst i (.ow d :: S) P = (i ∈ lst ∧ nok lst (i + 1) S P) := by simp only [nok]
theorem Rt_fnk {n : Nat} {lst : List Nat} {b : M Fl} {args : Sl} {Q : Sv → Sl → Prop} : Rt (fn n lst b args) Q = nok lst 0 args (ik n args fun S => Ok (b S) (rtk args.length Q)) := by
  rw [Rt_fn, nok_eq, ik_eq]
  congr 2
  funext f S
  unfold rtk
  cases f with
  | rt v => simp only; rw [uk_eq]
  | nx => simp only; rw [uk_eq]
  | bk => rfl
  | ct => rfl
end
/-! ### loops -/
section
variable {p : Pat} {b : M Fl} {Q : Fl → Sl → Prop} {d : D} {ds : List D} {S : Sl}
/-- a turn's end: on with W -/
def afk (W : Sl → Prop) (Q : Fl → Sl → Prop) (f : Fl) (S : Sl) : Prop := match f with
  | .nx => W S
  | .ct => W S
  | .bk => Q .nx S
  | .rt v => Q (.rt v) S
theorem afk_nx {W : Sl → Prop} : afk W Q .nx S = W S := rfl
theorem afk_ct {W : Sl → Prop} : afk W Q .ct S = W S := rfl
theorem afk_bk {W : Sl → Prop} : afk W Q .bk S = Q .nx S := rfl
theorem afk_rt {W : Sl → Prop} {v : Sv} : afk W Q (.rt v) S = Q (.rt v) S := rfl
theorem for_n : Ok (forLoop p b [] S) Q = Q .nx S := by with_unfolding_all rfl
theorem for_c : Ok (forLoop p b (d :: ds) S) Q = pk p d S fun S1 => Ok (b S1) (afk (fun T => Ok (forLoop p b ds T) Q) Q) := by
  with_unfolding_all
  rw [pk_iff]
  conv => lhs; unfold forLoop
  cases p.put d S with
  | none => simp [Ok]
  | some S1 =>
    simp only [Option.some.injEq, exists_eq_left', Ok_bind]
    congr 1
    funext f S2
    cases f <;> rfl
/-- a loop that keeps W, indexed by what is left -/
theorem for_inv2 (W : List D → Sl → Prop) (hn : ∀ S, W [] S → Q .nx S)
    (hs : ∀ d ds S, W (d :: ds) S → pk p d S fun S1 => Ok (b S1) (afk (W ds) Q)) : ∀ ds S, W ds S → Ok (forLoop p b ds S) Q
  | [], S, h => by with_unfolding_all exact hn S h
  | d :: ds, S, h => by
    rw [for_c, pk_iff]
    have z := hs d ds S h
    rw [pk_iff] at z
    obtain ⟨S1, e, z⟩ := z
    refine ⟨S1, e, Ok_mono z fun f S2 y => ?_⟩
    cases f with
    | nx => exact for_inv2 W hn hs ds S2 y
    | ct => exact for_inv2 W hn hs ds S2 y
    | bk => exact y
    | rt v => exact y
/-- .. over the items by their places -/
theorem for_ix (ds : List D) (W : Nat → Sl → Prop) (hn : ∀ S, W ds.length S → Q .nx S)
    (hs : ∀ i d S, ds[i]? = some d → W i S → pk p d S fun S1 => Ok (b S1) (afk (W (i + 1)) Q)) : ∀ S, W 0 S → Ok (forLoop p b ds S) Q := by
  intro S h
  refine for_inv2 (fun l S => ∃ i, l = ds.drop i ∧ i ≤ ds.length ∧ W i S) ?a ?b ds S ⟨0, rfl, Nat.zero_le _, h⟩
  case a =>
    intro S ⟨i, e, hi, w⟩
    refine hn S ?_
    have : ds.length ≤ i := List.drop_eq_nil_iff.mp e.symm
    rwa [show i = ds.length by omega] at w
  case b =>
    intro d l S ⟨i, e, hi, w⟩
    have hlt : i < ds.length := by
      cases Nat.lt_or_ge i ds.length with
      | inl h => exact h
      | inr h => rw [List.drop_eq_nil_iff.mpr h] at e; cases e
    rw [List.drop_eq_getElem_cons hlt] at e
    injection e with e1 e2
    have z := hs i d S (by rw [List.getElem?_eq_getElem hlt, e1]) w
    rw [pk_iff] at z ⊢
    obtain ⟨S1, e, z⟩ := z
    refine ⟨S1, e, Ok_mono z fun f S2 y => ?_⟩
    cases f with
    | nx => exact ⟨i + 1, e2, hlt, y⟩
    | ct => exact ⟨i + 1, e2, hlt, y⟩
    | bk => exact y
    | rt v => exact y
theorem numsD_get {lo : Int} {n i : Nat} {d : D} (h : (numsD lo n)[i]? = some d) : i < n ∧ d = .int (lo + i) := by
  unfold numsD at h
  rw [List.getElem?_map] at h
  cases e : (List.range n)[i]? with
  | none => rw [e] at h; cases h
  | some j =>
    rw [e] at h
    obtain ⟨h1, h2⟩ := List.getElem?_eq_some_iff.mp e
    rw [List.getElem_range] at h2
    subst h2
    exact ⟨by simpa using h1, (Option.some.inj h).symm⟩
theorem numsD_len {lo : Int} {n : Nat} : (numsD lo n).length = n := by simp [numsD]
theorem wh_inv2 {c : M Bool} (W : Nat → Sl → Prop)
    (hs : ∀ n S, W n S → Ok (c S) fun x S1 => if x = true then Ok (b S1) (afk (fun T => ∃ m, m < n ∧ W m T) Q) else Q .nx S1) :
    ∀ k n S, n < k → W n S → Ok (whLoop c b k S) Q := by
  intro k n S hk h
  refine wh_inv W (fun n S w => Ok_mono (hs n S w) fun x S1 z => ?_) k n S hk h
  cases x with
  | false => exact z
  | true =>
    simp only [if_true] at z ⊢
    refine Ok_mono z fun f S2 y => ?_
    cases f <;> exact y
/-- what is walked -/
def dk (d : D) (k : List D → Prop) : Prop := match d with
  | .list ds => k ds
  | .tuple ds => k ds
  | _ => False
theorem dk_l {l : List D} {k : List D → Prop} : dk (.list l) k = k l := rfl
theorem dk_t {l : List D} {k : List D → Prop} : dk (.tuple l) k = k l := rfl
theorem dk_eq {d : D} {k : List D → Prop} : dk d k = (match dSeq d with | some ds => k ds | none => False) := by cases d <;> rfl
theorem Ok_ofOpt {α : Type} {o : Option α} {Q : α → Sl → Prop} : Ok (ofOpt o S) Q = (match o with | some a => Q a S | none => False) := by with_unfolding_all (cases o <;> rfl)
theorem Ok_wSeq {m : M Sv} {Q : List D → Sl → Prop} : Ok (wSeq m S) Q = Ok (m S) fun r S1 => td r fun d => dk d fun ds => Q ds S1 := by
  unfold wSeq
  rw [Ok_bind]
  congr 1
  funext r S1
  rw [Ok_ofOpt]
  unfold td
  cases toD r with
  | none => rfl
  | some d => simp only [Option.bind_some]; rw [dk_eq]; cases dSeq d <;> rfl
def rk (lo hi : D) (k : List D → Prop) : Prop := match lo, hi with
  | .int a, .int b => rngOk a b = true ∧ k (numsD a (b - a).toNat)
  | _, _ => False
theorem rk_i {a b : Int} {k : List D → Prop} : rk (.int a) (.int b) k = ((-4611686018427387904 ≤ a ∧ a < 4611686018427387904 ∧ -4611686018427387904 ≤ b ∧ b < 4611686018427387904 ∧ b - a ≤ 16777216) ∧ k (numsD a (b - a).toNat)) := by
  unfold rk rngOk
  simp only [decide_eq_true_eq]
theorem rk_eq {lo hi : D} {k : List D → Prop} : (match dRng lo hi with | some ds => k ds | none => False) = rk lo hi k := by
  unfold rk dRng
  cases lo <;> try rfl
  cases hi <;> try rfl
  simp only
  rename_i a b
  by_cases h : rngOk a b = true <;> simp [h]
theorem Ok_wRng1 {m : M Sv} {Q : List D → Sl → Prop} : Ok (wRng1 m S) Q = Ok (m S) fun r S1 => td r fun d => rk (.int 0) d fun ds => Q ds S1 := by
  unfold wRng1
  rw [Ok_bind, Ok_datum]
  congr 1
  funext r S1
  congr 1
  funext d
  rw [Ok_ofOpt, ← rk_eq]
  cases dRng _ _ <;> rfl
theorem Ok_wRng2 {m n : M Sv} {Q : List D → Sl → Prop} : Ok (wRng2 m n S) Q = Ok (m S) fun r S1 => td r fun d => Ok (n S1) fun r2 S2 => td r2 fun d2 => rk d d2 fun ds => Q ds S2 := by
  unfold wRng2
  rw [Ok_bind, Ok_datum]
  congr 1
  funext r S1
  congr 1
  funext d
  rw [Ok_bind, Ok_datum]
  congr 1
  funext r2 S2
  congr 1
  funext d2
  rw [Ok_ofOpt, ← rk_eq]
  cases dRng _ _ <;> rfl
theorem Ok_wEnum {m : M Sv} {Q : List D → Sl → Prop} : Ok (wEnum m S) Q = Ok (m S) fun r S1 => td r fun d => dk d fun ds => Q (enumF 0 ds) S1 := by
  unfold wEnum
  rw [Ok_bind]
  congr 1
  funext r S1
  rw [Ok_ofOpt]
  unfold td
  cases toD r with
  | none => rfl
  | some d => simp only [Option.bind_some]; rw [dk_eq]; cases dSeq d <;> rfl
theorem Ok_wZip2 {m n : M Sv} {Q : List D → Sl → Prop} : Ok (wZip2 m n S) Q = Ok (m S) fun r S1 => td r fun d => Ok (n S1) fun r2 S2 => td r2 fun d2 => dk d fun as => dk d2 fun bs => Q (zip2 as bs) S2 := by
  unfold wZip2
  rw [Ok_bind, Ok_datum]
  congr 1
  funext r S1
  congr 1
  funext d
  rw [Ok_bind, Ok_datum]
  congr 1
  funext r2 S2
  congr 1
  funext d2
  rw [Ok_ofOpt, dk_eq]
  cases dSeq d with
  | none => rfl
  | some as => simp only [Option.bind_some]; rw [dk_eq]; cases dSeq d2 <;> rfl
theorem Ok_wN {i : Nat} {f : List D → List D} {Q : List D → Sl → Prop} : Ok (wN i f S) Q = sg S i fun s => td s fun d => dk d fun ds => Q (f ds) S := by
  with_unfolding_all
  rw [← rdE]
  unfold wN
  cases rd S i with
  | none => rfl
  | some d => cases d <;> rfl
end

/-! ### comprehensions of expressions that leave the slots alone -/
section
variable {p : Pat} {c : M Bool} {e : M Sv} {own : List Nat} {ck : Sl → Bool} {d : D} {ds : List D} {S : Sl}
/-- the slots wiped -/
def wk : List Nat → Sl → (Sl → Prop) → Prop
  | [], S, k => k S
  | i :: l, S, k => wk l S fun T => sw T i .un k
theorem wk_eq : ∀ {l : List Nat} {S : Sl} {k : Sl → Prop}, wk l S k = k (wipeS l S)
  | [], S, k => rfl
  | i :: l, S, k => by
    simp only [wk]
    rw [wk_eq, sw_eq]
    rfl
theorem wk_n {k : Sl → Prop} : wk [] S k = k S := rfl
theorem wk_c {i : Nat} {l : List Nat} {k : Sl → Prop} : wk (i :: l) S k = wk l S fun T => sw T i .un k := rfl
theorem wipeS_set {own : List Nat} {S T : Sl} (h : wipeS own S = wipeS own T) : S.length = T.length ∧ ∀ j, j ∉ own → S[j]? = T[j]? := by
  refine ⟨?_, fun j hj => ?_⟩
  · have := congrArg List.length h
    rwa [wipeS_len, wipeS_len] at this
  · rw [← wipeS_get (S := S) hj, h, wipeS_get hj]
theorem backS_same {own : List Nat} {S T : Sl} (h : wipeS own T = wipeS own S) : backS own S T = S := by
  obtain ⟨h1, h2⟩ := wipeS_set h
  apply List.ext_getElem?
  intro j
  by_cases hj : j ∈ own
  · by_cases hl : j < S.length
    · have hl' : j < (backS own S T).length := by rw [backS_len]; omega
      have := backS_in (S := T) (s := (backS own S T)[j]) h1.symm hj (List.getElem?_eq_getElem hl')
      rw [List.getElem?_eq_getElem hl', this]
    · rw [List.getElem?_eq_none (by rw [backS_len]; omega), List.getElem?_eq_none (by omega)]
  · rw [backS_get hj, h2 j hj]
/-- what an item does: f d the element, none where the test fails -/
def itemk (own : List Nat) (p : Pat) (c : M Bool) (e : M Sv) (W : Sl) (d : D) (r : Option D) : Prop :=
  pk p d W fun S1 => Ok (c S1) fun b S2 => if b = true then Ok (e S2) fun v S3 => td v fun x => r = some x ∧ wk own S3 (· = W) else r = none ∧ wk own S2 (· = W)
theorem lc_pure {W : Sl} (f : D → Option D) (hck : ck W = true) (hW : wipeS own W = W) : ∀ (ds : List D) (S : Sl), wipeS own S = W → (∀ d ∈ ds, itemk own p c e W d (f d)) → ∃ S2, lcLoop own ck p c e ds S = .ok (ds.filterMap f) S2 ∧ wipeS own S2 = W
  | [], S, h, _ => ⟨S, by simp only [lcLoop, h, hck, if_true, List.filterMap_nil], h⟩
  | d :: ds, S, h, hi => by
    have z := hi d List.mem_cons_self
    unfold itemk at z
    rw [pk_iff] at z
    obtain ⟨S1, e1, z⟩ := z
    rw [Ok_ex_iff] at z
    obtain ⟨b, S2, e2, z⟩ := z
    have hi2 : ∀ d ∈ ds, itemk own p c e W d (f d) := fun x hx => hi x (List.mem_cons_of_mem _ hx)
    cases b with
    | false =>
      simp only [Bool.false_eq_true, if_false] at z
      rw [wk_eq] at z
      obtain ⟨S3, e3, w3⟩ := lc_pure f hck hW ds S2 z.2 hi2
      refine ⟨S3, ?_, w3⟩
      simp only [lcLoop, h, hck, if_true, e1, e2]
      rw [e3, List.filterMap_cons_none z.1]
    | true =>
      simp only [if_true] at z
      rw [Ok_ex_iff] at z
      obtain ⟨v, S3, e3, z⟩ := z
      unfold td at z
      cases ev : toD v with
      | none => rw [ev] at z; exact z.elim
      | some x =>
        rw [ev] at z
        simp only at z
        rw [wk_eq] at z
        obtain ⟨S4, e4, w4⟩ := lc_pure f hck hW ds S3 z.2 hi2
        refine ⟨S4, ?_, w4⟩
        simp only [lcLoop, h, hck, if_true, e1, e2, e3, ev]
        rw [e4, List.filterMap_cons_some z.1]
        rfl
theorem wipeS_twice {own : List Nat} {S : Sl} : wipeS own (wipeS own S) = wipeS own S := by
  apply List.ext_getElem?
  intro j
  by_cases hj : j ∈ own
  · by_cases hl : j < S.length
    · have h1 : j < (wipeS own S).length := by rw [wipeS_len]; exact hl
      have h2 : j < (wipeS own (wipeS own S)).length := by rw [wipeS_len, wipeS_len]; exact hl
      rw [List.getElem?_eq_getElem h1, List.getElem?_eq_getElem h2]
      rw [wipeS_in (S := S) hj (List.getElem?_eq_getElem h1), wipeS_in (S := wipeS own S) hj (List.getElem?_eq_getElem h2)]
    · rw [List.getElem?_eq_none (by rw [wipeS_len, wipeS_len]; omega), List.getElem?_eq_none (by rw [wipeS_len]; omega)]
  · rw [wipeS_get hj, wipeS_get hj]
/-- [e for p in w if c], the items' values by f -/
theorem Ok_lc {own : List Nat} {ck : Ck} {w : M (List D)} {Q : Sv → Sl → Prop} (f : D → Option D) (h : Ok (w S) fun ds S1 => wk own S1 (fun W => ck S1 W = true ∧ ∀ d ∈ ds, itemk own p c e W d (f d)) ∧ Q (.ow (ds.filterMap f)) S1) : Ok (eLc own ck w p c e S) Q := by
  unfold eLc
  rw [Ok_bind]
  refine Ok_mono h fun ds S1 ⟨h1, h2⟩ => ?_
  rw [wk_eq] at h1
  obtain ⟨S2, e2, w2⟩ := lc_pure (own := own) (p := p) (c := c) (e := e) (ck := ck S1) f h1.1 wipeS_twice ds S1 rfl h1.2
  rw [e2]
  show Ok (Res.ok (Sv.ow (ds.filterMap f)) (backS own S1 S2)) Q
  rw [Ok_ok]
  rw [backS_same w2]
  exact h2
end
section
variable {p p1 : Pat} {c c1 : M Bool} {e : M Sv} {w1 : M (List D)} {own own1 : List Nat} {ck : Sl → Bool} {d : D} {ds : List D} {S : Sl}
/-- what an outer item does: r the elements that it gives -/
def itemk2 (own own1 : List Nat) (p : Pat) (c : M Bool) (w1 : M (List D)) (p1 : Pat) (c1 : M Bool) (e : M Sv) (W : Sl) (d : D) (f1 : D → Option D) (r : List D) : Prop :=
  pk p d W fun S1 => Ok (c S1) fun b S2 => if b = true then Ok (w1 S2) fun ds1 S3 => r = ds1.filterMap f1 ∧ wk own S3 (· = W) ∧ wk own1 S3 (fun W1 => ∀ d1 ∈ ds1, itemk own1 p1 c1 e W1 d1 (f1 d1)) else r = [] ∧ wk own S2 (· = W)
theorem lc2_pure {W : Sl} (f1 : D → D → Option D) (r : D → List D) (hck : ck W = true) (hW : wipeS own W = W) (hv : ∀ i ∈ own1, i ∈ own) : ∀ (ds : List D) (S : Sl), wipeS own S = W → (∀ d ∈ ds, itemk2 own own1 p c w1 p1 c1 e W d (f1 d) (r d)) → ∃ S2, lc2Loop own own1 ck p c w1 p1 c1 e ds S = .ok (ds.flatMap r) S2 ∧ wipeS own S2 = W
  | [], S, h, _ => ⟨S, by simp only [lc2Loop, h, hck, if_true, List.flatMap_nil], h⟩
  | d :: ds, S, h, hi => by
    have z := hi d List.mem_cons_self
    unfold itemk2 at z
    rw [pk_iff] at z
    obtain ⟨S1, e1, z⟩ := z
    rw [Ok_ex_iff] at z
    obtain ⟨b, S2, e2, z⟩ := z
    have hi2 : ∀ d ∈ ds, itemk2 own own1 p c w1 p1 c1 e W d (f1 d) (r d) := fun x hx => hi x (List.mem_cons_of_mem _ hx)
    cases b with
    | false =>
      simp only [Bool.false_eq_true, if_false] at z
      rw [wk_eq] at z
      obtain ⟨S3, e3, w3⟩ := lc2_pure f1 r hck hW hv ds S2 z.2 hi2
      refine ⟨S3, ?_, w3⟩
      simp only [lc2Loop, h, hck, if_true, e1, e2]
      rw [e3, List.flatMap_cons, z.1, List.nil_append]
    | true =>
      simp only [if_true] at z
      rw [Ok_ex_iff] at z
      obtain ⟨ds1, S3, e3, z1, z2, z3⟩ := z
      rw [wk_eq] at z2 z3
      obtain ⟨S4, e4, w4⟩ := lc_pure (own := own1) (p := p1) (c := c1) (e := e) (ck := fun _ => true) (f1 d) rfl wipeS_twice ds1 S3 rfl z3
      have w5 : wipeS own S4 = W := by
        rw [← z2]
        obtain ⟨a1, a2⟩ := wipeS_set w4
        exact wipeS_of (fun j hj => a2 j fun q => hj (hv j q)) a1
      obtain ⟨S5, e5, w6⟩ := lc2_pure f1 r hck hW hv ds S4 w5 hi2
      refine ⟨S5, ?_, w6⟩
      simp only [lc2Loop, h, hck, if_true, e1, e2, e3, e4]
      rw [e5, List.flatMap_cons, z1]
      rfl
theorem Ok_lc2 {ck : Ck} {w : M (List D)} {Q : Sv → Sl → Prop} (f1 : D → D → Option D) (r : D → List D) (hv : ∀ i ∈ own1, i ∈ own) (h : Ok (w S) fun ds S1 => wk own S1 (fun W => ck S1 W = true ∧ ∀ d ∈ ds, itemk2 own own1 p c w1 p1 c1 e W d (f1 d) (r d)) ∧ (ds.flatMap r).length ≤ 16777216 ∧ Q (.ow (ds.flatMap r)) S1) : Ok (eLc2 own own1 ck w p c w1 p1 c1 e S) Q := by
  unfold eLc2
  rw [Ok_bind]
  refine Ok_mono h fun ds S1 ⟨h1, h2, h3⟩ => ?_
  rw [wk_eq] at h1
  obtain ⟨S2, e2, w2⟩ := lc2_pure (own := own) (own1 := own1) (p := p) (c := c) (w1 := w1) (p1 := p1) (c1 := c1) (e := e) (ck := ck S1) f1 r h1.1 wipeS_twice hv ds S1 rfl h1.2
  rw [e2]
  show Ok (if (ds.flatMap r).length ≤ 16777216 then Res.ok (.ow (ds.flatMap r)) (backS own S1 S2) else .no) Q
  rw [if_pos h2, backS_same w2]
  rw [Ok_ok]
  exact h3
end
theorem ckT_eq {S W : Sl} : (ckT S W = true) = True := by simp [ckT]
theorem ckN_eq {i : Nat} {S W : Sl} {d : D} (h1 : rd S i = some d) (h2 : rd W i = some d) : ckN i S W = true := by
  unfold ckN
  rw [h1, h2]
  exact sameD_refl d
/-! ### data that is compared -/
mutual
theorem eqv_refl : ∀ {d : D}, d.canLay0 = true → PyData.eqv d d = true
  | .none, _ => rfl
  | .bool b, _ => by simp [PyData.eqv]
  | .int b, _ => by simp [PyData.eqv]
  | .str b, _ => by simp [PyData.eqv]
  | .list ds, h => by simp only [PyData.eqv]; exact eqvAll_refl (by simpa [PyData.canLay0] using h)
  | .tuple ds, h => by simp only [PyData.eqv]; exact eqvAll_refl (by simpa [PyData.canLay0] using h)
  | .dict ds, h => by simp [PyData.canLay0] at h
theorem eqvAll_refl : ∀ {ds : List D}, PyData.canLayAll0 ds = true → PyData.eqvAll ds ds = true
  | [], _ => rfl
  | d :: ds, h => by
    have h : d.canLay0 = true ∧ PyData.canLayAll0 ds = true := by simpa [PyData.canLayAll0] using h
    simp only [PyData.eqvAll, eqv_refl h.1, eqvAll_refl h.2, Bool.and_self]
end
theorem canLayAll_iff : ∀ {ds : List D}, PyData.canLayAll0 ds = true ↔ ∀ d ∈ ds, d.canLay0 = true
  | [] => by simp [PyData.canLayAll0]
  | d :: ds => by simp [PyData.canLayAll0, canLayAll_iff (ds := ds)]
theorem depthAll_iff {n : Nat} : ∀ {ds : List D}, PyData.depthAll ds ≤ n ↔ ∀ d ∈ ds, d.depth ≤ n
  | [] => by simp [PyData.depthAll]
  | d :: ds => by
    simp only [PyData.depthAll, List.mem_cons, forall_eq_or_imp]
    rw [Nat.max_le, depthAll_iff (ds := ds)]
theorem canLay_list {ds : List D} : (PyData.list ds).canLay0 = true ↔ ∀ d ∈ ds, d.canLay0 = true := by rw [← canLayAll_iff]; simp [PyData.canLay0]
theorem canLay_tuple {ds : List D} : (PyData.tuple ds).canLay0 = true ↔ ∀ d ∈ ds, d.canLay0 = true := by rw [← canLayAll_iff]; simp [PyData.canLay0]
theorem depth_list {ds : List D} {n : Nat} : (PyData.list ds).depth ≤ n + 1 ↔ ∀ d ∈ ds, d.depth ≤ n := by rw [← depthAll_iff]; simp only [PyData.depth]; omega
theorem depth_tuple {ds : List D} {n : Nat} : (PyData.tuple ds).depth ≤ n + 1 ↔ ∀ d ∈ ds, d.depth ≤ n := by rw [← depthAll_iff]; simp only [PyData.depth]; omega
theorem shaped_iff {d : D} : SeqAt.shaped d = true ↔ d.canLay0 = true ∧ d.depth ≤ 64 := by unfold SeqAt.shaped; rw [Bool.and_eq_true, decide_eq_true_eq]
theorem shaped_ints {ns : List Int} : SeqAt.shaped (.list (ns.map PyData.int)) = true := by
  rw [shaped_iff, canLay_list]
  refine ⟨fun d hd => ?_, (depth_list (n := 63)).mpr fun d hd => ?_⟩ <;>
    (obtain ⟨i, _, rfl⟩ := List.mem_map.mp hd; first | rfl | simp [PyData.depth])
theorem op_eq_same {d : D} {k : Sv → Prop} (h : SeqAt.shaped d = true) : op2 dEq d d k = k (.val (.bool true)) := by
  unfold op2 dEq
  rw [h]
  simp only [Bool.and_self, if_true, eqv_refl (shaped_iff.mp h).1]
theorem op_ne_same {d : D} {k : Sv → Prop} (h : SeqAt.shaped d = true) : op2 dNe d d k = k (.val (.bool false)) := by
  unfold op2 dNe
  rw [h]
  simp only [Bool.and_self, if_true, eqv_refl (shaped_iff.mp h).1, Bool.not_true]
theorem op_eq_nil {k : Sv → Prop} : op2 dEq (.list []) (.list []) k = k (.val (.bool true)) := rfl
/-- a list against the empty one -/
theorem op_eq_e {ds : List D} {k : Sv → Prop} (h : SeqAt.shaped (.list ds) = true) : op2 dEq (.list ds) (.list []) k = k (.val (.bool ds.isEmpty)) := by
  unfold op2 dEq
  rw [h, show SeqAt.shaped (.list []) = true from rfl]
  cases ds <;> rfl
theorem eqv_ints : ∀ {xs ys : List Int}, PyData.eqvAll (xs.map PyData.int) (ys.map PyData.int) = decide (xs = ys)
  | [], [] => rfl
  | [], _ :: _ => rfl
  | _ :: _, [] => rfl
  | x :: xs, y :: ys => by
    simp only [List.map_cons, PyData.eqvAll, PyData.eqv, eqv_ints (xs := xs) (ys := ys)]
    by_cases h : x = y <;> by_cases h2 : xs = ys <;> simp [h, h2]
theorem enumF_mem {k : Nat} {ds : List D} {d : D} (h : d ∈ enumF k ds) : ∃ (i : Nat) (x : D), ds[i]? = some x ∧ d = .tuple [.int ((k + i : Nat) : Int), x] := by
  induction ds generalizing k with
  | nil => cases h
  | cons a as ih =>
    rcases List.mem_cons.mp h with rfl | h
    · exact ⟨0, a, rfl, rfl⟩
    · obtain ⟨i, x, e, rfl⟩ := ih h
      exact ⟨i + 1, x, by simpa using e, by rw [show k + (i + 1) = k + 1 + i by omega]⟩
theorem depth_listL {ds : List D} {n : Nat} (h : (PyData.list ds).depth < n + 1) : ∀ d ∈ ds, d.depth < n := fun d hd => by
  have := depthAll_iff.mp (Nat.le_refl (PyData.depthAll ds)) d hd
  simp only [PyData.depth] at h
  omega
theorem depth_tupleL {ds : List D} {n : Nat} (h : (PyData.tuple ds).depth < n + 1) : ∀ d ∈ ds, d.depth < n := fun d hd => by
  have := depthAll_iff.mp (Nat.le_refl (PyData.depthAll ds)) d hd
  simp only [PyData.depth] at h
  omega
theorem op_ix_at {ds : List D} {i : Nat} {y : D} {k : Sv → Prop} (e : ds[i]? = some y) : op2 dIx (.list ds) (.int (i : Int)) k = k (.val y) := by
  rw [op_ixL, atI_nat, e]; simp
theorem op_ix_atT {ds : List D} {i : Nat} {y : D} {k : Sv → Prop} (e : ds[i]? = some y) : op2 dIx (.tuple ds) (.int (i : Int)) k = k (.val y) := by
  rw [op_ixT, atI_nat, e]; simp
theorem fm_none {α β : Type} {l : List α} : List.filterMap (fun _ => (none : Option β)) l = [] := by
  induction l with
  | nil => rfl
  | cons a l ih => rw [List.filterMap_cons_none rfl]; exact ih
theorem Rt_iff {r : FR} {Q : Sv → Sl → Prop} : Rt r Q ↔ ∃ v o, r = .ret v o ∧ Q v o := by
  cases r with
  | ret v o => with_unfolding_all exact ⟨fun h => ⟨v, o, rfl, h⟩, fun ⟨_, _, e, h⟩ => by cases e; exact h⟩
  | ex e S => with_unfolding_all exact ⟨fun h => h.elim, fun ⟨_, _, e, _⟩ => by cases e⟩
  | no => with_unfolding_all exact ⟨fun h => h.elim, fun ⟨_, _, e, _⟩ => by cases e⟩
theorem Ok_evPn {S : Sl} {Q : Option Int → Sl → Prop} : Ok (evP none S) Q = Q none S := by with_unfolding_all rfl
theorem Ok_evPs {m : M Sv} {S : Sl} {Q : Option Int → Sl → Prop} : Ok (evP (some m) S) Q = Ok (m S) fun r S1 => nk r fun i => Q (some i) S1 := by
  simp only [evP, Ok_bind]
  congr 1
  funext r S1
  unfold nk
  split <;> simp [Ok]
theorem Ok_cute {m : M Sv} {lo hi : Option (M Sv)} {S : Sl} {Q : Sv → Sl → Prop} : Ok (eCut (.e m) lo hi S) Q = Ok (m S) fun x S1 => Ok (evP lo S1) fun l S2 => Ok (evP hi S2) fun h S3 => match toD x with | some d => op1 (dCut l h) d fun z => Q z S3 | none => False := by
  unfold eCut
  simp only [Ok_bind]
  congr 1
  funext x S1
  congr 1
  funext l S2
  congr 1
  funext h S3
  rw [Ok_lift]
  unfold op1
  cases toD x with
  | none => rfl
  | some d => simp only [Option.bind_some]
theorem Ok_cutek {m : M Sv} {lo hi : Option (M Sv)} {S : Sl} {Q : Sv → Sl → Prop} : Ok (eCut (.e m) lo hi S) Q = Ok (m S) fun x S1 => Ok (evP lo S1) fun l S2 => Ok (evP hi S2) fun h S3 => td x fun d => op1 (dCut l h) d fun z => Q z S3 := by
  rw [Ok_cute]
  rfl
theorem Ok_cutv {i : Nat} {lo hi : Option (M Sv)} {S : Sl} {Q : Sv → Sl → Prop} : Ok (eCut (.v i) lo hi S) Q = sg S i fun s => td s fun _ => Ok (evP lo S) fun l S2 => Ok (evP hi S2) fun h S3 => sg S3 i fun s => td s fun d => op1 (dCut l h) d fun z => Q z S3 := by
  rw [← rdE]
  unfold eCut
  simp only
  cases rd S i with
  | none => simp [Ok]
  | some d =>
    simp only [Option.isSome_some, if_true, Ok_bind]
    congr 1
    funext l S2
    congr 1
    funext h S3
    rw [Ok_lift, ← rdE]
    unfold op1
    cases rd S3 i with
    | none => rfl
    | some d => simp only [Option.bind_some]
theorem op_cutL {ds : List D} {l h : Option Int} {k : Sv → Prop} : op1 (dCut l h) (.list ds) k = k (.ow (cutD ds l h)) := rfl
theorem op_cutT {ds : List D} {l h : Option Int} {k : Sv → Prop} : op1 (dCut l h) (.tuple ds) k = k (.val (.tuple (cutD ds l h))) := rfl
theorem cutD_mem {ds : List D} {l h : Option Int} {d : D} (m : d ∈ cutD ds l h) : d ∈ ds := List.mem_of_mem_drop (List.mem_of_mem_take m)
theorem ifc {c : Prop} [Decidable c] {A B : Prop} (a : c → A) (b : ¬ c → B) : if c then A else B := by
  by_cases h : c
  · rw [if_pos h]; exact a h
  · rw [if_neg h]; exact b h
theorem asInts_map (ns : List Int) : asInts (ns.map PyData.int) = some ns := by
  induction ns with
  | nil => rfl
  | cons n ns ih => simp [asInts, ih]
theorem asBools_map (ns : List Bool) : asBools (ns.map PyData.bool) = some ns := by
  induction ns with
  | nil => rfl
  | cons n ns ih => simp [asBools, ih]
theorem op_sumL {ns : List Int} {k : Sv → Prop} : op1 dSum (.list (ns.map PyData.int)) k = k (.val (.int ns.sum)) := by
  unfold op1 dSum
  simp only [dSeq, Option.bind_some, asInts_map, Option.map_some]
theorem op_sumT {ns : List Int} {k : Sv → Prop} : op1 dSum (.tuple (ns.map PyData.int)) k = k (.val (.int ns.sum)) := by
  unfold op1 dSum
  simp only [dSeq, Option.bind_some, asInts_map, Option.map_some]
theorem op_all {ns : List Bool} {k : Sv → Prop} : op1 dAll (.list (ns.map PyData.bool)) k = k (.val (.bool (ns.all id))) := by
  unfold op1 dAll
  simp only [asBools_map, Option.map_some]
theorem zip2_map {α β : Type} (f : α → D) (g : β → D) : ∀ (as : List α) (bs : List β), zip2 (as.map f) (bs.map g) = (as.zip bs).map fun q => .tuple [f q.1, g q.2]
  | [], _ => by simp [zip2]
  | _ :: _, [] => by simp [zip2]
  | a :: as, b :: bs => by simp [zip2, zip2_map f g as bs]
theorem fm_map {α : Type} {f : D → Option D} {g : α → D} {h : α → D} {l : List α} (e : ∀ a ∈ l, f (g a) = some (h a)) : (l.map g).filterMap f = l.map h := by
  induction l with
  | nil => rfl
  | cons a l ih => rw [List.map_cons, List.filterMap_cons_some (e a List.mem_cons_self), ih fun x hx => e x (List.mem_cons_of_mem _ hx), List.map_cons]
theorem Ok_tYes {S : Sl} {Q : Bool → Sl → Prop} : Ok (Rc.tYes S) Q = Q true S := by with_unfolding_all rfl
theorem okArg_v {d : D} : okArg (.val d) = true := rfl
theorem okArg_o {d : List D} : okArg (.ow d) = true := rfl
theorem ret_of {F : AF} {args : Sl} {v : Sv} {o : Sl} (h : Rt (F args) fun v' o' => v' = v ∧ o' = o) : F args = .ret v o := by
  obtain ⟨v', o', e, rfl, rfl⟩ := Rt_iff.mp h
  exact e
theorem cut_1 (ds : List D) : cutD ds (some 1) none = ds.drop 1 := by
  unfold cutD
  have e : HT.sIx ds.length 0 (some 1) = min 1 ds.length := rfl
  have e2 : HT.sIx ds.length ds.length none = ds.length := rfl
  rw [e, e2]
  cases ds with
  | nil => rfl
  | cons d ds =>
    rw [List.length_cons, Nat.min_eq_left (by omega), List.take_of_length_le (by simp)]
theorem zip_cut {α : Type} (f : α → D) (l : List α) : zip2 (l.map f) (cutD (l.map f) (some 1) none) = (l.zip (l.drop 1)).map fun q => .tuple [f q.1, f q.2] := by
  rw [cut_1, ← List.map_drop, zip2_map]
theorem nc_0 : ((0 : Nat) : Int) = 0 := rfl
theorem nc_1 : ((1 : Nat) : Int) = 1 := rfl
theorem nc_2 : ((2 : Nat) : Int) = 2 := rfl
theorem nc_3 : ((3 : Nat) : Int) = 3 := rfl
theorem nc_4 : ((4 : Nat) : Int) = 4 := rfl
theorem ift {c : Prop} [Decidable c] {A B : Prop} (h : c) (a : A) : if c then A else B := by rw [if_pos h]; exact a
theorem iff' {c : Prop} [Decidable c] {A B : Prop} (h : ¬ c) (b : B) : if c then A else B := by rw [if_neg h]; exact b
theorem op_tupL {ds : List D} {k : Sv → Prop} : op1 dTuple (.list ds) k = k (.val (.tuple ds)) := rfl
theorem op_tupT {ds : List D} {k : Sv → Prop} : op1 dTuple (.tuple ds) k = k (.val (.tuple ds)) := rfl
theorem op_lstL {ds : List D} {k : Sv → Prop} : op1 dList (.list ds) k = k (.ow ds) := rfl
theorem op_lstT {ds : List D} {k : Sv → Prop} : op1 dList (.tuple ds) k = k (.ow ds) := rfl
theorem Ok_wZip3 {m n o : M Sv} {S : Sl} {Q : List D → Sl → Prop} : Ok (wZip3 m n o S) Q = Ok (m S) fun r S1 => td r fun d => Ok (n S1) fun r2 S2 => td r2 fun d2 => Ok (o S2) fun r3 S3 => td r3 fun d3 => dk d fun as => dk d2 fun bs => dk d3 fun cs => Q (zip3 as bs cs) S3 := by
  unfold wZip3
  rw [Ok_bind, Ok_datum]
  congr 1
  funext r S1
  congr 1
  funext d
  rw [Ok_bind, Ok_datum]
  congr 1
  funext r2 S2
  congr 1
  funext d2
  rw [Ok_bind, Ok_datum]
  congr 1
  funext r3 S3
  congr 1
  funext d3
  rw [Ok_ofOpt, dk_eq]
  cases dSeq d with
  | none => rfl
  | some as =>
    simp only [Option.bind_some]
    rw [dk_eq]
    cases dSeq d2 with
    | none => rfl
    | some bs => simp only [Option.bind_some]; rw [dk_eq]; cases dSeq d3 <;> rfl
theorem Ok_par3k {i j l : Nat} {m n o : M Sv} {S : Sl} {Q : Fl → Sl → Prop} : Ok (sPar3 i j l m n o S) Q = Ok (m S) fun x S1 => Ok (n S1) fun y S2 => Ok (o S2) fun z S3 => sw S3 i x fun T => sw T j y fun U => sw U l z fun V => Q .nx V := by
  unfold sPar3
  simp only [Ok_bind, sw_eq, Ok_ok]
/-! ### lambdas that are tried -/
section
variable {S S1 : Sl} {nms : Str → Option Str} {vs : List (D ⊕ Nat)} {outs : Sl} {Q : Sv → Sl → Prop}
@[irreducible] def Tr (nms : Str → Option Str) (S S1 : Sl) (vs : List (D ⊕ Nat)) (r : FR) (Q : Sv → Sl → Prop) : Prop := Ok (tellF nms S S1 vs r) Q
theorem Tr_def {r : FR} : Tr nms S S1 vs r Q = Ok (tellF nms S S1 vs r) Q := by unfold Tr; rfl
theorem Ok_tryC {F : AF} {as : List Am} : Ok (eTryC nms F as S) Q = ak as (S.map hd) fun vs S1 => gk vs S1 fun args => Tr nms S S1 vs (F args) Q := by
  rw [ak_eq]
  unfold eTryC
  simp only [gk_eq, Tr_def]
  cases evA as (S.map hd) with
  | no => with_unfolding_all rfl
  | ex e S1 => with_unfolding_all rfl
  | ok vs S1 =>
    rw [Ok_ok]
    show Ok (if vs.all (okB S1) = true then tellF nms S S1 vs (F (vs.map (argOf S1))) else .no) Q = _
    by_cases h : vs.all (okB S1) = true
    · simp only [h, if_true, true_and]
    · simp [h, Ok_no]
def nmk (o : Option Str) (k : Str → Prop) : Prop := match o with
  | some x => k x
  | none => False
theorem nmk_s {x : Str} {k : Str → Prop} : nmk (some x) k = k x := rfl
/-- a slot may be a list if it was one -/
def mu2 (s t : Sv) : Prop := isMut t = true → isMut s = true
def muk : Sl → Sl → Prop
  | s :: S, t :: T => mu2 s t ∧ muk S T
  | _, _ => True
theorem muk_eq : ∀ {S T : Sl}, (mutOk S T = true) = muk S T
  | [], [] => by simp [mutOk, muk]
  | [], _ :: _ => by simp [mutOk, muk]
  | _ :: _, [] => by simp [mutOk, muk]
  | s :: S, t :: T => by
    have ih := muk_eq (S := S) (T := T)
    simp only [muk, ← ih, mu2, mutOk, List.zip_cons_cons, List.all_cons, Bool.and_eq_true, Bool.or_eq_true, Bool.not_eq_true', eq_iff_iff]
    cases isMut t <;> simp
theorem muk_n : muk [] [] = True := rfl
theorem muk_c {s t : Sv} {T : Sl} : muk (s :: S) (t :: T) = (mu2 s t ∧ muk S T) := rfl
theorem mu2_s {s : Sv} : mu2 s s = True := by simp [mu2]
theorem mu2_v {s : Sv} {d : D} : mu2 s (.val d) = True := by simp [mu2, isMut]
theorem mu2_o {l m : List D} : mu2 (.ow l) (.ow m) = True := by simp [mu2, isMut]
/-- the slots are put together again -/
def zrk : Sl → Sl → (Sl → Prop) → Prop
  | s :: S, t :: T, k => zrk S T fun l => k (rs s t :: l)
  | _, _, k => k []
theorem zrk_eq : ∀ {S T : Sl} {k : Sl → Prop}, zrk S T k = k (List.zipWith rs S T)
  | [], [], k => rfl
  | [], _ :: _, k => rfl
  | _ :: _, [], k => rfl
  | s :: S, t :: T, k => by simp only [zrk, List.zipWith_cons_cons]; exact zrk_eq
theorem zrk_n {k : Sl → Prop} : zrk [] [] k = k [] := rfl
theorem zrk_c {s t : Sv} {T : Sl} {k : Sl → Prop} : zrk (s :: S) (t :: T) k = zrk S T fun l => k (rs s t :: l) := rfl
theorem rs_h {s : Sv} : rs s (hd s) = s := by cases s <;> rfl
theorem rs_v {d : D} {t : Sv} : rs (.val d) t = t := rfl
theorem rs_o {l : List D} {t : Sv} : rs (.ow l) t = t := rfl
theorem hd_v {d : D} : hd (.val d) = .val d := rfl
theorem hd_o {l : List D} : hd (.ow l) = .ow l := rfl
theorem hd_u : hd .un = .un := rfl
theorem mh_n : List.map hd [] = [] := rfl
theorem mh_c {s : Sv} : List.map hd (s :: S) = hd s :: List.map hd S := rfl
theorem Tr_x {c : Str} : Tr nms S S1 vs (.ex ⟨c, none⟩ outs) Q = zk vs S1 outs fun T => muk (S.map hd) T ∧ nmk (nms c) fun nm => zrk S T fun U => Q (.val (.str nm)) U := by
  rw [Tr_def, zk_eq, ← muk_eq]
  simp only [zrk_eq]
  by_cases h : mutOk (S.map hd) (backA S1 vs outs) = true
  · have e : tellF nms S S1 vs (.ex ⟨c, none⟩ outs) = match nms c with | some nm => .ok (.val (.str nm)) (List.zipWith rs S (backA S1 vs outs)) | none => .no := by
      unfold tellF
      simp only [h, Option.isNone_none, Bool.and_true, if_true] <;> cases nms c <;> rfl
    rw [e, h]
    cases nms c with
    | none => simp [nmk, Ok_no]
    | some nm => simp [nmk, Ok_ok]
  · have e : tellF nms S S1 vs (.ex ⟨c, none⟩ outs) = .no := by
      unfold tellF
      simp [h]
    rw [e, Ok_no]
    simp [h]
theorem Tr_r {d : D} : Tr nms S S1 vs (.ret (.val d) outs) Q = zk vs S1 outs fun T => muk (S.map hd) T ∧ zrk S T fun U => Q (.val (.tuple [.str "told", d])) U := by
  rw [Tr_def, zk_eq, ← muk_eq]
  simp only [zrk_eq]
  by_cases h : mutOk (S.map hd) (backA S1 vs outs) = true
  · have e : tellF nms S S1 vs (.ret (.val d) outs) = .ok (.val (.tuple [.str "told", d])) (List.zipWith rs S (backA S1 vs outs)) := by
      unfold tellF
      simp only [h, if_true]
    rw [e, h, Ok_ok]
    simp
  · have e : tellF nms S S1 vs (.ret (.val d) outs) = .no := by
      unfold tellF
      simp [h]
    rw [e, Ok_no]
    simp [h]
end
/-! ### dicts of one's own -/
section
variable {S : Sl} {i : Nat} {k e x : M Sv}
def dkk (s : Sv) (k : List (Int × D) → Prop) : Prop := match s with
  | .dki kvs => k kvs
  | _ => False
theorem dkk_d {kvs : List (Int × D)} {k : List (Int × D) → Prop} : dkk (.dki kvs) k = k kvs := rfl
theorem dkAtE {k : List (Int × D) → Prop} : (match dkAt S i with | some kvs => k kvs | none => False) = sg S i fun s => dkk s k := by
  rw [sg_iff]
  unfold dkAt
  cases S[i]? with
  | none => simp
  | some s => cases s <;> simp [dkk]
theorem dkAtS {P : Prop} : ((dkAt S i).isSome = true ∧ P) = sg S i fun s => dkk s fun _ => P := by
  rw [← dkAtE]
  cases dkAt S i <;> simp
theorem vk_dki {kvs : List (Int × D)} {P : Prop} : vk (.dki kvs) P = P := rfl
def lkk (o : Option D) (k : D → Prop) : Prop := match o with
  | some d => k d
  | none => False
theorem lkk_s {d : D} {k : D → Prop} : lkk (some d) k = k d := rfl
theorem Ok_newK {Q : Sv → Sl → Prop} : Ok (eNewK S) Q = Q (.dki []) S := by with_unfolding_all rfl
theorem Ok_dlen {Q : Sv → Sl → Prop} : Ok (eDLen i S) Q = sg S i fun s => dkk s fun kvs => Q (.val (.int kvs.length)) S := by
  rw [← dkAtE]
  unfold eDLen
  cases dkAt S i with
  | none => exact Ok_no
  | some kvs => exact Ok_ok
theorem Ok_dsorted {Q : Sv → Sl → Prop} : Ok (eDSorted i S) Q = sg S i fun s => dkk s fun kvs => kvs.length < 64 ∧ Q (.ow ((srtI (kvs.map (·.1))).map PyData.int)) S := by
  rw [← dkAtE]
  unfold eDSorted
  cases dkAt S i with
  | none => exact Ok_no
  | some kvs =>
    by_cases h : kvs.length < 64
    · simp only [h, if_true, Ok_ok, true_and]
    · simp only [h, if_false, Ok_no, false_and]
theorem Ok_dget {Q : Sv → Sl → Prop} : Ok (eDGet i k S) Q = sg S i fun s => dkk s fun _ => Ok (k S) fun r S1 => nk r fun n => sg S1 i fun s => dkk s fun kvs => lkk (lookD kvs n) fun d => Q (.val d) S1 := by
  rw [← dkAtS]
  unfold eDGet
  by_cases h : (dkAt S i).isSome = true
  case neg => simp [h, Ok_no]
  simp only [h, if_true, true_and, Ok_bind]
  congr 1
  funext r S1
  cases r with
  | val d => cases d with
    | int n =>
      rw [nk_i, ← dkAtE]
      cases dkAt S1 i with
      | none => exact Ok_no
      | some kvs => cases e : lookD kvs n <;> simp [e, lkk, Ok_no, Ok_ok]
    | _ => exact Ok_no
  | _ => exact Ok_no
theorem Ok_dgetD {Q : Sv → Sl → Prop} : Ok (eDGetD i k x S) Q = sg S i fun s => dkk s fun _ => Ok (k S) fun r S1 => Ok (datum x S1) fun z S2 => nk r fun n => sg S2 i fun s => dkk s fun kvs => Q (.val ((lookD kvs n).getD z)) S2 := by
  rw [← dkAtS]
  unfold eDGetD
  by_cases h : (dkAt S i).isSome = true
  case neg => simp [h, Ok_no]
  simp only [h, if_true, true_and, Ok_bind]
  congr 1
  funext r S1
  congr 1
  funext z S2
  cases r with
  | val d => cases d with
    | int n =>
      rw [nk_i, ← dkAtE]
      cases dkAt S2 i with
      | none => exact Ok_no
      | some kvs => exact Ok_ok
    | _ => exact Ok_no
  | _ => exact Ok_no
theorem Ok_dput {Q : Fl → Sl → Prop} : Ok (sDPut i k e S) Q = Ok (datum e S) fun d S1 => sg S1 i fun s => dkk s fun _ => Ok (k S1) fun r S2 => nk r fun n => sg S2 i fun s => dkk s fun kvs => kvs.length < 16777216 ∧ sw S2 i (.dki (putD kvs n d)) fun T => Q .nx T := by
  unfold sDPut
  rw [Ok_bind]
  congr 1
  funext d S1
  rw [← dkAtS]
  by_cases h : (dkAt S1 i).isSome = true
  case neg => simp [h, Ok_no]
  simp only [h, if_true, true_and, Ok_bind]
  congr 1
  funext r S2
  cases r with
  | val d => cases d with
    | int n =>
      rw [nk_i, ← dkAtE]
      cases dkAt S2 i with
      | none => exact Ok_no
      | some kvs =>
        by_cases h : kvs.length < 16777216
        · simp only [h, if_true, Ok_ok, true_and, sw_eq]
        · simp only [h, if_false, Ok_no, false_and]
    | _ => exact Ok_no
  | _ => exact Ok_no
theorem op_srtSet {ns : List Int} {k : Sv → Prop} : op1 dSrtSet (.list (ns.map PyData.int)) k = (ns.length < 64 ∧ k (.ow ((srtU ns).map PyData.int))) := by
  unfold op1 dSrtSet
  simp only [asInts_map, Option.bind_some]
  by_cases h : ns.length < 64 <;> simp [h]
end
theorem asStrs_map (ss : List Str) : asStrs (ss.map PyData.str) = some ss := by
  induction ss with
  | nil => rfl
  | cons n ns ih => simp [asStrs, ih]
theorem op_inL {x : Str} {ss : List Str} {k : Sv → Prop} : op2 dIn (.str x) (.list (ss.map PyData.str)) k = k (.val (.bool (ss.any fun y => y == x))) := by
  unfold op2 dIn
  simp only [dSeq, Option.bind_some, asStrs_map, Option.map_some]
theorem op_inT {x : Str} {ss : List Str} {k : Sv → Prop} : op2 dIn (.str x) (.tuple (ss.map PyData.str)) k = k (.val (.bool (ss.any fun y => y == x))) := by
  unfold op2 dIn
  simp only [dSeq, Option.bind_some, asStrs_map, Option.map_some]
theorem op_ninT {x : Str} {ss : List Str} {k : Sv → Prop} : op2 dNotIn (.str x) (.tuple (ss.map PyData.str)) k = k (.val (.bool (!ss.any fun y => y == x))) := by
  unfold op2 dNotIn
  simp only [dSeq, Option.bind_some, asStrs_map, Option.map_some]
theorem op_isB {b c : Bool} {k : Sv → Prop} : op1 (dIsB b) (.bool c) k = k (.val (.bool (c == b))) := rfl
theorem op_isNB {b c : Bool} {k : Sv → Prop} : op1 (dIsNB b) (.bool c) k = k (.val (.bool (!(c == b)))) := rfl
end Rc

/-! Rc: loops and comprehensions over typed lists; comprehensions that change the slots. -/
namespace Rc
open PySem
section
variable {p : Pat} {c : M Bool} {e : M Sv} {own : List Nat} {ck : Sl → Bool} {d : D} {ds : List D} {S : Sl}
/-- the item a gives h a where t a holds -/
def itemt (own : List Nat) (p : Pat) (c : M Bool) (e : M Sv) (W : Sl) (d : D) (t : Prop) (x : D) : Prop :=
  pk p d W fun S1 => Ok (c S1) fun b S2 => (b = true ↔ t) ∧ if b = true then Ok (e S2) fun v S3 => td v fun y => y = x ∧ wk own S3 (· = W) else wk own S2 (· = W)
theorem lc_typ {α : Type} {W : Sl} (g : α → D) (t : α → Prop) [DecidablePred t] (h : α → D) (hck : ck W = true) : ∀ (xs : List α) (S : Sl), wipeS own S = W → (∀ a ∈ xs, itemt own p c e W (g a) (t a) (h a)) → ∃ S2, lcLoop own ck p c e (xs.map g) S = .ok ((xs.filter fun a => decide (t a)).map h) S2 ∧ wipeS own S2 = W
  | [], S, hS, _ => ⟨S, by simp only [List.map_nil, lcLoop, hS, hck, if_true, List.filter_nil], hS⟩
  | a :: xs, S, hS, hi => by
    have z := hi a List.mem_cons_self
    unfold itemt at z
    rw [pk_iff] at z
    obtain ⟨S1, e1, z⟩ := z
    rw [Ok_ex_iff] at z
    obtain ⟨b, S2, e2, zt, z⟩ := z
    have hi2 : ∀ a ∈ xs, itemt own p c e W (g a) (t a) (h a) := fun x hx => hi x (List.mem_cons_of_mem _ hx)
    cases b with
    | false =>
      simp only [Bool.false_eq_true, if_false] at z
      rw [wk_eq] at z
      have nt : ¬ t a := fun q => absurd (zt.mpr q) Bool.false_ne_true
      obtain ⟨S3, e3, w3⟩ := lc_typ g t h hck xs S2 z hi2
      refine ⟨S3, ?_, w3⟩
      simp only [List.map_cons, lcLoop, hS, hck, if_true, e1, e2]
      rw [e3, List.filter_cons_of_neg (by simpa using nt)]
    | true =>
      simp only [if_true] at z
      have ht : t a := zt.mp rfl
      rw [Ok_ex_iff] at z
      obtain ⟨v, S3, e3, z⟩ := z
      unfold td at z
      cases ev : toD v with
      | none => rw [ev] at z; exact z.elim
      | some x =>
        rw [ev] at z
        simp only at z
        rw [wk_eq] at z
        obtain ⟨S4, e4, w4⟩ := lc_typ g t h hck xs S3 z.2 hi2
        refine ⟨S4, ?_, w4⟩
        simp only [List.map_cons, lcLoop, hS, hck, if_true, e1, e2, e3, ev]
        rw [e4, List.filter_cons_of_pos (by simpa using ht), List.map_cons, z.1]
        rfl
/-- [e for p in w if c], what is walked a typed list -/
theorem Ok_lcF {α : Type} {own : List Nat} {ck : Ck} {w : M (List D)} {Q : Sv → Sl → Prop} (xs : List α) (g : α → D) (t : α → Prop) [DecidablePred t] (h : α → D)
    (hh : Ok (w S) fun ds S1 => ds = xs.map g ∧ wk own S1 (fun W => ck S1 W = true ∧ ∀ a ∈ xs, itemt own p c e W (g a) (t a) (h a)) ∧ Q (.ow ((xs.filter fun a => decide (t a)).map h)) S1) : Ok (eLc own ck w p c e S) Q := by
  unfold eLc
  rw [Ok_bind]
  refine Ok_mono hh fun ds S1 ⟨h0, h1, h2⟩ => ?_
  rw [wk_eq] at h1
  subst h0
  obtain ⟨S2, e2, w2⟩ := lc_typ (own := own) (p := p) (c := c) (e := e) (ck := ck S1) g t h h1.1 xs S1 rfl h1.2
  rw [e2]
  show Ok (Res.ok (Sv.ow _) (backS own S1 S2)) Q
  rw [Ok_ok, backS_same w2]
  exact h2
/-- the item a gives x -/
def itemm (own : List Nat) (p : Pat) (e : M Sv) (W : Sl) (d : D) (x : D) : Prop :=
  pk p d W fun S1 => Ok (e S1) fun v S3 => td v fun y => y = x ∧ wk own S3 (· = W)
/-- [e for p in w], what is walked a typed list -/
theorem Ok_lcM {α : Type} {own : List Nat} {ck : Ck} {w : M (List D)} {Q : Sv → Sl → Prop} (xs : List α) (g : α → D) (h : α → D)
    (hh : Ok (w S) fun ds S1 => ds = xs.map g ∧ wk own S1 (fun W => ck S1 W = true ∧ ∀ a ∈ xs, itemm own p e W (g a) (h a)) ∧ Q (.ow (xs.map h)) S1) : Ok (eLc own ck w p Rc.tYes e S) Q := by
  refine Ok_lcF xs g (fun _ => True) h (Ok_mono hh fun ds S1 ⟨h0, h1, h2⟩ => ⟨h0, ?_, ?_⟩)
  · rw [wk_eq] at h1 ⊢
    refine ⟨h1.1, fun a ha => ?_⟩
    have z := h1.2 a ha
    unfold itemm at z
    unfold itemt
    rw [pk_iff] at z ⊢
    obtain ⟨S1, e1, z⟩ := z
    exact ⟨S1, e1, by rw [Ok_tYes]; exact ⟨by simp, z⟩⟩
  · have : (xs.filter fun _ => decide True) = xs := by simp
    rw [this]
    exact h2

/-! ### that change the slots -/
theorem backS_at {S1 X : Sl} {j : Nat} : ∀ {vs : List Nat}, j ∈ vs → j < S1.length → j < X.length → (backS vs S1 X)[j]? = S1[j]?
  | v :: vs, h, h1, h2 => by
    show ((backS vs S1 X).set v (S1.getD v .un))[j]? = _
    by_cases q : v = j
    · subst q
      rw [List.getElem?_set_self (by rw [backS_len]; exact h2), List.getD_eq_getElem?_getD, List.getElem?_eq_getElem h1]
      rfl
    · rw [List.getElem?_set_ne q]
      exact backS_at ((List.mem_cons.mp h).resolve_left fun z => q z.symm) h1 h2
/-- the own slots given back -/
def bkk : List Nat → Sl → Sl → (Sl → Prop) → Prop
  | [], _, T, k => k T
  | i :: l, S, T, k => bkk l S T fun U => sg S i fun s => sw U i s k
theorem bkk_eq : ∀ {l : List Nat} {S T : Sl} {k : Sl → Prop}, (∀ i ∈ l, i < S.length) → bkk l S T k = k (backS l S T)
  | [], S, T, k, _ => rfl
  | i :: l, S, T, k, h => by
    simp only [bkk]
    rw [bkk_eq fun j hj => h j (List.mem_cons_of_mem _ hj), sg_iff]
    have hi := h i List.mem_cons_self
    simp only [List.getElem?_eq_getElem hi, Option.some.injEq, exists_eq_left', sw_eq]
    show k _ = k ((backS l S T).set i (S.getD i .un))
    rw [List.getD_eq_getElem?_getD, List.getElem?_eq_getElem hi]
    rfl
theorem bkk_n {S T : Sl} {k : Sl → Prop} : bkk [] S T k = k T := rfl
theorem bkk_c {i : Nat} {l : List Nat} {S T : Sl} {k : Sl → Prop} : bkk (i :: l) S T k = bkk l S T fun U => sg S i fun s => sw U i s k := rfl
/-- a turn of a comprehension that may change the slots -/
def turnk (own : List Nat) (p : Pat) (c : M Bool) (e : M Sv) (T : Sl) (d : D) (I0 : Sl → Prop) (I1 : D → Sl → Prop) : Prop :=
  pk p d T fun S1 => Ok (c S1) fun b S2 => if b = true then Ok (e S2) fun v S3 => td v fun x => wk own S3 (I1 x) else wk own S2 I0
theorem lc_inv (I : Nat → List D → Sl → Prop) (ds : List D) (hck : ∀ i xs T, I i xs T → ck T = true)
    (hs : ∀ i d xs T, ds[i]? = some d → I i xs T → turnk own p c e T d (I (i + 1) xs) fun x => I (i + 1) (xs ++ [x])) :
    ∀ (l : List D) (i : Nat) (xs : List D) (S : Sl), l = ds.drop i → i ≤ ds.length → I i xs (wipeS own S) → ∃ ys S2, lcLoop own ck p c e l S = .ok ys S2 ∧ I ds.length (xs ++ ys) (wipeS own S2)
  | [], i, xs, S, hl, hi, h => by
    have : ds.length ≤ i := List.drop_eq_nil_iff.mp hl.symm
    have : i = ds.length := by omega
    subst this
    exact ⟨[], S, by simp only [lcLoop, hck _ _ _ h, if_true], by rw [List.append_nil]; exact h⟩
  | d :: l, i, xs, S, hl, hi, h => by
    have hlt : i < ds.length := by
      cases Nat.lt_or_ge i ds.length with
      | inl h => exact h
      | inr h => rw [List.drop_eq_nil_iff.mpr h] at hl; cases hl
    rw [List.drop_eq_getElem_cons hlt] at hl
    injection hl with hl1 hl2
    have z := hs i d xs _ (by rw [List.getElem?_eq_getElem hlt, hl1]) h
    unfold turnk at z
    rw [pk_iff] at z
    obtain ⟨S1, e1, z⟩ := z
    rw [Ok_ex_iff] at z
    obtain ⟨b, S2, e2, z⟩ := z
    cases b with
    | false =>
      simp only [Bool.false_eq_true, if_false] at z
      rw [wk_eq] at z
      obtain ⟨ys, S3, e3, w3⟩ := lc_inv I ds hck hs l (i + 1) xs S2 hl2 hlt z
      refine ⟨ys, S3, ?_, w3⟩
      simp only [lcLoop, hck _ _ _ h, if_true, e1, e2]
      exact e3
    | true =>
      simp only [if_true] at z
      rw [Ok_ex_iff] at z
      obtain ⟨v, S3, e3, z⟩ := z
      unfold td at z
      cases ev : toD v with
      | none => rw [ev] at z; exact z.elim
      | some x =>
        rw [ev] at z
        simp only at z
        rw [wk_eq] at z
        obtain ⟨ys, S4, e4, w4⟩ := lc_inv I ds hck hs l (i + 1) (xs ++ [x]) S3 hl2 hlt z
        refine ⟨x :: ys, S4, ?_, by rw [List.append_assoc] at w4; exact w4⟩
        simp only [lcLoop, hck _ _ _ h, if_true, e1, e2, e3, ev]
        rw [e4]
        rfl
/-- [e for p in w if c] with an invariant of the turn, the elements so far, the (wiped) slots -/
theorem Ok_lcI {own : List Nat} {ck : Ck} {w : M (List D)} {Q : Sv → Sl → Prop} (I : Nat → List D → Sl → Prop)
    (hh : Ok (w S) fun ds S1 => (∀ i ∈ own, i < S1.length) ∧ (∀ i xs T, I i xs T → ck S1 T = true) ∧ wk own S1 (I 0 []) ∧
      (∀ i d xs T, ds[i]? = some d → I i xs T → turnk own p c e T d (I (i + 1) xs) fun x => I (i + 1) (xs ++ [x])) ∧
      ∀ xs T, I ds.length xs T → bkk own S1 T (Q (.ow xs))) : Ok (eLc own ck w p c e S) Q := by
  unfold eLc
  rw [Ok_bind]
  refine Ok_mono hh fun ds S1 ⟨h0, h1, h2, h3, h4⟩ => ?_
  rw [wk_eq] at h2
  obtain ⟨ys, S2, e2, w2⟩ := lc_inv (own := own) (p := p) (c := c) (e := e) (ck := ck S1) I ds h1 h3 ds 0 [] S1 rfl (Nat.zero_le _) h2
  rw [e2]
  have z := h4 _ _ w2
  rw [bkk_eq h0, List.nil_append] at z
  show Ok (Res.ok (Sv.ow ys) (backS own S1 S2)) Q
  rw [Ok_ok]
  have : backS own S1 (wipeS own S2) = backS own S1 S2 := by
    apply List.ext_getElem?
    intro j
    by_cases hj : j ∈ own
    · by_cases hl : j < S2.length
      · have l1 : j < (backS own S1 (wipeS own S2)).length := by rw [backS_len, wipeS_len]; exact hl
        have l2 : j < (backS own S1 S2).length := by rw [backS_len]; exact hl
        have hs1 := h0 j hj
        rw [backS_at hj hs1 (by rw [wipeS_len]; exact hl), backS_at hj hs1 hl]
      · rw [List.getElem?_eq_none (by rw [backS_len, wipeS_len]; omega), List.getElem?_eq_none (by rw [backS_len]; omega)]
    · rw [backS_get hj, backS_get hj, wipeS_get hj]
  rw [this] at z
  exact z
end
/-! ### typed indices -/
section
variable {α : Type} {k : Sv → Prop} {i : Int}
theorem ixL {f : α → D} {xs : List α} (a0 : α) (h0 : 0 ≤ i) (h1 : i < xs.length) : op2 dIx (.list (xs.map f)) (.int i) k = k (.val (f (xs.getD i.toNat a0))) := by
  have hi : i.toNat < xs.length := by omega
  have e : (xs.map f)[i.toNat]? = some (f (xs.getD i.toNat a0)) := by
    rw [List.getElem?_map, List.getElem?_eq_getElem hi, List.getD_eq_getElem?_getD, List.getElem?_eq_getElem hi]
    rfl
  rw [op_ixL, atI_of h0 e]
  simp
theorem ixT {f : α → D} {xs : List α} (a0 : α) (h0 : 0 ≤ i) (h1 : i < xs.length) : op2 dIx (.tuple (xs.map f)) (.int i) k = k (.val (f (xs.getD i.toNat a0))) := by
  have hi : i.toNat < xs.length := by omega
  have e : (xs.map f)[i.toNat]? = some (f (xs.getD i.toNat a0)) := by
    rw [List.getElem?_map, List.getElem?_eq_getElem hi, List.getD_eq_getElem?_getD, List.getElem?_eq_getElem hi]
    rfl
  rw [op_ixT, atI_of h0 e]
  simp
end
theorem atI_neg {α : Type} {xs : List α} : L2.atI xs (-1) = xs.getLast? := by
  unfold L2.atI L2.ixN
  cases xs with
  | nil => rfl
  | cons a l =>
    rw [if_neg (by omega), if_pos (by simp; omega)]
    rw [List.getLast?_eq_getElem?, List.length_cons]
    simp only [Option.bind_some]
    congr 1
    omega
theorem ix_last {k : Sv → Prop} {ds : List D} {d : D} : op2 dIx (.list (ds ++ [d])) (.int (-1)) k = k (.val d) := by
  rw [op_ixL, atI_neg]; simp
theorem ix_lastT {k : Sv → Prop} {ds : List D} {d : D} : op2 dIx (.tuple (ds ++ [d])) (.int (-1)) k = k (.val d) := by
  rw [op_ixT, atI_neg]; simp
theorem zip2_cut {α : Type} (f : α → D) (l : List α) : zip2 (l.map f) (cutD (l.map f) (some 1) none) = (l.zip (l.drop 1)).map fun q => .tuple [f q.1, f q.2] := zip_cut f l
theorem numsD_map {lo : Int} {n : Nat} : numsD lo n = (List.range n).map fun k : Nat => PyData.int (lo + k) := rfl
/-! ### a loop over a typed list, by what was walked -/
theorem for_ty {α : Type} {p : Pat} {b : M Fl} {Q : Fl → Sl → Prop} (xs : List α) (g : α → D) (W : List α → Sl → Prop) (hn : ∀ S, W xs S → Q .nx S)
    (hs : ∀ pre a post S, xs = pre ++ a :: post → W pre S → pk p (g a) S fun S1 => Ok (b S1) (afk (W (pre ++ [a])) Q)) : ∀ S, W [] S → Ok (forLoop p b (xs.map g) S) Q := by
  intro S h
  refine for_inv2 (fun l S => ∃ pre post, l = post.map g ∧ xs = pre ++ post ∧ W pre S) ?a ?b (xs.map g) S ⟨[], xs, rfl, rfl, h⟩
  case a =>
    rintro S ⟨pre, post, e, rfl, w⟩
    have : post = [] := List.map_eq_nil_iff.mp e.symm
    subst this
    rw [List.append_nil] at hn
    exact hn S w
  case b =>
    rintro d ds S ⟨pre, post, e, hx, w⟩
    cases post with
    | nil => cases e
    | cons a post =>
      rw [List.map_cons] at e
      injection e with e1 e2
      subst e1 e2
      have z := hs pre a post S hx w
      rw [pk_iff] at z ⊢
      obtain ⟨S1, e, z⟩ := z
      have on : ∀ {T}, W (pre ++ [a]) T → ∃ pre' post', post.map g = post'.map g ∧ xs = pre' ++ post' ∧ W pre' T := fun {T} w => ⟨pre ++ [a], post, rfl, by rw [hx]; simp, w⟩
      refine ⟨S1, e, Ok_mono z fun f S2 y => ?_⟩
      cases f with
      | nx => exact on y
      | ct => exact on y
      | bk => exact y
      | rt v => exact y
theorem zip3_map {α β γ : Type} (f : α → D) (g : β → D) (h : γ → D) : ∀ (as : List α) (bs : List β) (cs : List γ), zip3 (as.map f) (bs.map g) (cs.map h) = (as.zip (bs.zip cs)).map fun q => .tuple [f q.1, g q.2.1, h q.2.2]
  | [], _, _ => by simp [zip3]
  | _ :: _, [], _ => by simp [zip3]
  | _ :: _, _ :: _, [] => by simp [zip3]
  | a :: as, b :: bs, c :: cs => by simp [zip3, zip3_map f g h as bs cs]
theorem enumF_map {α : Type} (f : α → D) : ∀ (as : List α) (k : Nat), enumF k (as.map f) = (as.zipIdx k).map fun q => .tuple [.int (q.2 : Int), f q.1]
  | [], _ => rfl
  | a :: as, k => by
    simp only [List.map_cons, enumF, List.zipIdx_cons, List.map_cons, enumF_map f as (k + 1)]
/-! ### two fors, typed -/
section
variable {p p1 : Pat} {e : M Sv} {w1 : M (List D)} {own own1 : List Nat} {ck : Sl → Bool} {S : Sl} {α β : Type}
def itemw (own own1 : List Nat) (p : Pat) (w1 : M (List D)) (p1 : Pat) (e : M Sv) (W : Sl) (d : D) (ys : List β) (g1 : β → D) (h : β → D) : Prop :=
  pk p d W fun S1 => Ok (w1 S1) fun ds1 S3 => ds1 = ys.map g1 ∧ wk own S3 (· = W) ∧ wk own1 S3 (fun W1 => ∀ b ∈ ys, itemm own1 p1 e W1 (g1 b) (h b))
theorem lc2_typ {W : Sl} (g : α → D) (ys : α → List β) (g1 : β → D) (h : α → β → D) (hck : ck W = true) (hv : ∀ i ∈ own1, i ∈ own) : ∀ (xs : List α) (S : Sl), wipeS own S = W → (∀ a ∈ xs, itemw own own1 p w1 p1 e W (g a) (ys a) g1 (h a)) →
    ∃ S2, lc2Loop own own1 ck p Rc.tYes w1 p1 Rc.tYes e (xs.map g) S = .ok (xs.flatMap fun a => (ys a).map (h a)) S2 ∧ wipeS own S2 = W
  | [], S, hS, _ => ⟨S, by simp only [List.map_nil, lc2Loop, hS, hck, if_true, List.flatMap_nil], hS⟩
  | a :: xs, S, hS, hi => by
    have z := hi a List.mem_cons_self
    unfold itemw at z
    rw [pk_iff] at z
    obtain ⟨S1, e1, z⟩ := z
    rw [Ok_ex_iff] at z
    obtain ⟨ds1, S3, e3, z1, z2, z3⟩ := z
    rw [wk_eq] at z2 z3
    have it : ∀ b ∈ ys a, itemt own1 p1 Rc.tYes e (wipeS own1 S3) (g1 b) True (h a b) := fun b hb => by
      have q := z3 b hb
      unfold itemm at q
      unfold itemt
      rw [pk_iff] at q ⊢
      obtain ⟨S1, e1, q⟩ := q
      exact ⟨S1, e1, by rw [Ok_tYes]; exact ⟨by simp, q⟩⟩
    obtain ⟨S4, e4, w4⟩ := lc_typ (own := own1) (p := p1) (c := Rc.tYes) (e := e) (ck := fun _ => true) g1 (fun _ => True) (h a) rfl (ys a) S3 rfl it
    have ef : (ys a).filter (fun _ => decide True) = ys a := List.filter_eq_self.mpr fun _ _ => decide_eq_true trivial
    rw [ef] at e4
    have w5 : wipeS own S4 = W := by
      rw [← z2]
      obtain ⟨a1, a2⟩ := wipeS_set w4
      exact wipeS_of (fun j hj => a2 j fun q => hj (hv j q)) a1
    obtain ⟨S5, e5, w6⟩ := lc2_typ g ys g1 h hck hv xs S4 w5 fun x hx => hi x (List.mem_cons_of_mem _ hx)
    refine ⟨S5, ?_, w6⟩
    have yes : ∀ T, Rc.tYes T = .ok true T := fun _ => rfl
    simp only [List.map_cons, lc2Loop, hS, hck, if_true, e1, yes, e3, z1, e4]
    rw [e5, List.flatMap_cons]
    simp [Res.bind]
theorem Ok_lc2T {ck : Ck} {w : M (List D)} {Q : Sv → Sl → Prop} (xs : List α) (g : α → D) (ys : α → List β) (g1 : β → D) (h : α → β → D) (hv : ∀ i ∈ own1, i ∈ own)
    (hh : Ok (w S) fun ds S1 => ds = xs.map g ∧ wk own S1 (fun W => ck S1 W = true ∧ ∀ a ∈ xs, itemw own own1 p w1 p1 e W (g a) (ys a) g1 (h a)) ∧ (xs.flatMap fun a => (ys a).map (h a)).length ≤ 16777216 ∧ Q (.ow (xs.flatMap fun a => (ys a).map (h a))) S1) : Ok (eLc2 own own1 ck w p Rc.tYes w1 p1 Rc.tYes e S) Q := by
  unfold eLc2
  rw [Ok_bind]
  refine Ok_mono hh fun ds S1 ⟨h0, h1, h2, h3⟩ => ?_
  rw [wk_eq] at h1
  subst h0
  obtain ⟨S2, e2, w2⟩ := lc2_typ (own := own) (own1 := own1) (p := p) (w1 := w1) (p1 := p1) (e := e) (ck := ck S1) g ys g1 h h1.1 hv xs S1 rfl h1.2
  rw [e2]
  show Ok (if (xs.flatMap fun a => (ys a).map (h a)).length ≤ 16777216 then Res.ok (.ow (xs.flatMap fun a => (ys a).map (h a))) (backS own S1 S2) else .no) Q
  rw [if_pos h2, backS_same w2, Ok_ok]
  exact h3
end
theorem cut_to (ds : List D) (n : Nat) : cutD ds none (some (n : Int)) = ds.take n := by
  unfold cutD
  have e1 : HT.sIx ds.length 0 none = 0 := rfl
  have e2 : HT.sIx ds.length ds.length (some (n : Int)) = min n ds.length := by
    unfold HT.sIx
    simp
    omega
  rw [e1, e2]
  simp only [List.drop_zero, Nat.sub_zero]
  rcases Nat.le_total n ds.length with h | h
  · rw [Nat.min_eq_left h]
  · rw [Nat.min_eq_right h, List.take_length, List.take_of_length_le h]
theorem cut_from (ds : List D) (n : Nat) : cutD ds (some (n : Int)) none = ds.drop n := by
  unfold cutD
  have e1 : HT.sIx ds.length 0 (some (n : Int)) = min n ds.length := by
    unfold HT.sIx
    simp
    omega
  have e2 : HT.sIx ds.length ds.length none = ds.length := rfl
  rw [e1, e2]
  rcases Nat.le_total n ds.length with h | h
  · rw [Nat.min_eq_left h, List.take_of_length_le (by simp)]
  · rw [Nat.min_eq_right h, Nat.sub_self, List.take_zero, List.drop_of_length_le h]
end Rc

/-! Rc: dicts of one's own with ints as keys. -/
namespace Rc
open PySem PySem.Spec PyProof.Rows L2
variable [LamTbl]

/-! ### tables as they lie -/
section
variable {K : PySem.W.Frag} {mg : Str → Option Value} {H : Hp}
abbrev TabR (K : PySem.W.Frag) (mg : Str → Option Value) (H : Hp) (kvs : List (Int × D)) (ks : List (L2.Key × V)) : Prop :=
  ks.map (·.1) = kvs.map (fun p => Sum.inl p.1) ∧ RepL K mg H (kvs.map (·.2)) (ks.map (·.2))
theorem TabR.cons {p : Int × D} {kvs : List (Int × D)} {ks : List (L2.Key × V)} (h : TabR K mg H (p :: kvs) ks) : ∃ v r, ks = (.inl p.1, v) :: r ∧ Rep K mg H p.2 v ∧ TabR K mg H kvs r := by
  cases ks with
  | nil => exact absurd h.1 (by simp)
  | cons q r =>
    obtain ⟨q1, q2⟩ := q
    obtain ⟨v, vs, e, rv, rs⟩ := h.2
    have h1 := h.1
    simp only [List.map_cons, List.cons.injEq] at h1 e
    obtain ⟨e1, e2⟩ := e
    refine ⟨q2, r, by rw [h1.1], by rw [e1]; exact rv, h1.2, by rw [e2]; exact rs⟩
theorem TabR.nil {ks : List (L2.Key × V)} (h : TabR K mg H [] ks) : ks = [] := by
  cases ks with
  | nil => rfl
  | cons q r => exact absurd h.1 (by simp)
theorem TabR.mk {p : Int × D} {v : V} {kvs : List (Int × D)} {ks : List (L2.Key × V)} (hv : Rep K mg H p.2 v) (h : TabR K mg H kvs ks) : TabR K mg H (p :: kvs) ((.inl p.1, v) :: ks) :=
  ⟨by simp only [List.map_cons, h.1], v, _, rfl, hv, h.2⟩
theorem TabR.len {kvs : List (Int × D)} {ks : List (L2.Key × V)} (h : TabR K mg H kvs ks) : ks.length = kvs.length := by
  have := congrArg List.length h.1
  simpa using this
theorem TabR.look : ∀ {kvs : List (Int × D)} {ks : List (L2.Key × V)}, TabR K mg H kvs ks → ∀ n : Int, (lookD kvs n = none ∧ valV ks (Sum.inl n) = none) ∨ ∃ d v, lookD kvs n = some d ∧ valV ks (Sum.inl n) = some v ∧ Rep K mg H d v
  | [], ks, h, n => by
    rw [h.nil]
    exact .inl ⟨rfl, rfl⟩
  | p :: kvs, ks, h, n => by
    obtain ⟨v, r, rfl, rv, hr⟩ := h.cons
    by_cases e : p.1 = n
    · refine .inr ⟨p.2, v, ?_, valV_pos (p := (Sum.inl p.1, v)) (by rw [e]), rv⟩
      unfold lookD
      rw [List.find?_cons_of_pos (by simpa using e)]
      rfl
    · have e1 : valV ((Sum.inl p.1, v) :: r) (Sum.inl n : L2.Key) = valV r (Sum.inl n) := valV_neg (p := (Sum.inl p.1, v)) fun z => e (Sum.inl.inj z)
      have e2 : lookD (p :: kvs) n = lookD kvs n := by
        unfold lookD
        rw [List.find?_cons_of_neg (by simpa using e)]
      rw [e1, e2]
      exact TabR.look hr n
theorem TabR.any : ∀ {kvs : List (Int × D)} {ks : List (L2.Key × V)}, TabR K mg H kvs ks → ∀ n : Int, (ks.any fun kv => decide (kv.1 = Sum.inl n)) = hasD kvs n
  | [], ks, h, n => by rw [h.nil]; rfl
  | p :: kvs, ks, h, n => by
    obtain ⟨v, r, rfl, rv, hr⟩ := h.cons
    unfold hasD
    rw [List.any_cons, List.any_cons, TabR.any hr n]
    have : decide ((Sum.inl p.1 : L2.Key) = Sum.inl n) = decide (p.1 = n) := by
      by_cases e : p.1 = n
      · simp [e]
      · rw [decide_eq_false e, decide_eq_false fun z => e (Sum.inl.inj z)]
    rw [this]
    rfl
theorem TabR.map (n : Int) {d : D} {v : V} (hv : Rep K mg H d v) : ∀ {kvs : List (Int × D)} {ks : List (L2.Key × V)}, TabR K mg H kvs ks → TabR K mg H (kvs.map fun p => if p.1 = n then (p.1, d) else p) (ks.map fun kv => if kv.1 = Sum.inl n then (kv.1, v) else kv)
  | [], ks, h => by rw [h.nil]; exact ⟨rfl, rfl⟩
  | p :: kvs, ks, h => by
    obtain ⟨w, r, rfl, rw', hr⟩ := h.cons
    rw [List.map_cons, List.map_cons]
    by_cases e : p.1 = n
    · rw [if_pos e, if_pos (by rw [e])]
      exact TabR.mk (p := (p.1, d)) hv (TabR.map n hv hr)
    · rw [if_neg e, if_neg fun z => e (Sum.inl.inj z)]
      exact TabR.mk rw' (TabR.map n hv hr)
theorem TabR.put {kvs : List (Int × D)} {ks : List (L2.Key × V)} (h : TabR K mg H kvs ks) (n : Int) {d : D} {v : V} (hv : Rep K mg H d v) : TabR K mg H (putD kvs n d) (L2.putK ks (Sum.inl n) v) := by
  unfold putD L2.putK
  rw [TabR.any h n]
  by_cases e : hasD kvs n = true
  · rw [if_pos e, if_pos e]
    exact TabR.map n hv h
  · rw [if_neg e, if_neg e]
    refine ⟨by simp [h.1], ?_⟩
    rw [List.map_append, List.map_append]
    exact RepL.append h.2 (RepL.one hv)
theorem dK_ne {ks : List (L2.Key × V)} {a : Addr} (q : Str) : HO.dK ks ≠ LamX.CodeO a q := fun z => by unfold LamX.CodeO at z; cases z
end
/-- a dict of one's own is changed -/
theorem RSt.writeK {K : PySem.W.Frag} {mg : Str → Option Value} {F : Fx} {σ : St} {S : Sl} {H : Hp} {i : Nat} {a : Addr} {kvs nvs : List (Int × D)} {ks : List (L2.Key × V)} (st : RSt K mg F σ H S) (e : S[i]? = some (.dki kvs)) (ea : σ[i]? = some (some (.ref a))) (rp : Mono H (upd H a (.dK ks)) → TabR K mg (upd H a (.dK ks)) nvs ks) :
    RSt K mg F σ (upd H a (.dK ks)) (S.set i (.dki nvs)) ∧ Mono H (upd H a (.dK ks)) := by
  have ow : Owns σ S a := ⟨i, _, e, rfl, ea⟩
  have hi : i < S.length := (List.getElem?_eq_some_iff.mp e).1
  obtain ⟨b, xs, e1, eH, rl⟩ := st.at_ i _ e
  rw [ea] at e1
  cases e1
  have tb : TbM H (upd H a (.dK ks)) := TbM.upd eH nT.dK dK_ne
  have keep : Keep σ S H (upd H a (.dK ks)) := ⟨fun b u h _ n => by
    rw [upd_ne (show b ≠ a from fun z => n (z ▸ ow))]
    exact h, tb⟩
  have mo : Mono H (upd H a (.dK ks)) := st.keep_mono keep
  have dm : ∀ b, H b ≠ none → upd H a (.dK ks) b ≠ none := fun b n => by
    by_cases hb : b = a
    · rw [hb, upd_same]; exact fun z => by cases z
    · rw [upd_ne hb]; exact n
  have at2 : ∀ (j : Nat) s, (S.set i (.dki nvs))[j]? = some s → (j = i ∧ s = .dki nvs) ∨ (j ≠ i ∧ S[j]? = some s) := fun j s q => by
    by_cases hj : j = i
    · rw [hj, List.getElem?_set_self hi] at q
      exact .inl ⟨hj, (Option.some.inj q).symm⟩
    · rw [List.getElem?_set_ne (Ne.symm hj)] at q
      exact .inr ⟨hj, q⟩
  have old : ∀ (j : Nat) s, (S.set i (.dki nvs))[j]? = some s → isMut s = true → ∃ t, S[j]? = some t ∧ isMut t = true := fun j s q m => by
    rcases at2 j s q with ⟨rfl, rfl⟩ | ⟨_, q⟩
    · exact ⟨_, e, rfl⟩
    · exact ⟨s, q, m⟩
  refine ⟨⟨by rw [List.length_set]; exact st.len, fun j s q => ?_, fun j k s t b q1 q2 m1 m2 e1 e2 => ?_, fun j s b q m e1 => ?_, fun j b q => ?_, fun b u q t n => ?_, fun b n => dm b (st.dom b n), st.mono.trans mo, st.tabs.trans tb⟩, mo⟩
  · rcases at2 j s q with ⟨rfl, rfl⟩ | ⟨hj, q⟩
    · exact ⟨a, ks, ea, upd_same, (rp mo).1, (rp mo).2⟩
    · refine (st.at_ j s q).mono mo fun b m e1 => ?_
      rw [upd_ne]
      rintro rfl
      exact hj (st.inj j i s _ _ q e m rfl e1 ea)
  · obtain ⟨s', g1, n1⟩ := old j s q1 m1
    obtain ⟨t', g2, n2⟩ := old k t q2 m2
    exact st.inj j k s' t' b g1 g2 n1 n2 e1 e2
  · obtain ⟨s', g1, n1⟩ := old j s q m
    exact st.ownd j s' b g1 n1 e1
  · obtain ⟨h1, h2, fs, h3⟩ := st.lent j b q
    refine ⟨h1, h2, ?_⟩
    by_cases hj : j = i
    · rw [hj, e] at h3
      rcases h3 with h3 | h3 <;> cases h3
    · exact ⟨fs, by rw [List.getElem?_set_ne (Ne.symm hj)]; exact h3⟩
  · by_cases hb : b = a
    · subst hb
      rcases st.ownd i _ b e rfl ea with z | z
      · exact absurd z (n i)
      · rw [z] at q; cases q
    · rw [upd_ne hb]; exact st.frame b u q t n

/-! ### the forms -/
section
variable {X : Cx} {F : Fx} {E : XK} {pos p p2 : Pos} {i n : Nat} {x : Str} {k e : Expr} {mk m : M Sv}
theorem a_newK : AE X F E (.Dict [] [] pos) eNewK :=
  PE_imp pe_dnewK fun σ H Q ⟨S, st, q⟩ p np => q (.ref p) _ (Go.of_same st (same_upd np)) ⟨p, rfl, np, p, [], rfl, upd_same, rfl, rfl⟩
theorem dk_at {S : Sl} {i : Nat} (h : (dkAt S i).isSome = true) : ∃ kvs, S[i]? = some (.dki kvs) := by
  unfold dkAt at h
  split at h
  · exact ⟨_, by assumption⟩
  · cases h
theorem dkAt_some {S : Sl} {i : Nat} {kvs : List (Int × D)} (h : dkAt S i = some kvs) : S[i]? = some (.dki kvs) := by
  unfold dkAt at h
  split at h
  · cases h; assumption
  · cases h
/-- x[k] -/
theorem a_dget {N : Nat} (i : Nat) (hr : Room N X.A) (hk : AE X F E k mk) (hs : NoSl k := by exact fun _ _ => rfl) (hN : X.N[i]? = some x := by rfl) (hv : Vis X.env.scope x := by first | exact Or.inl rfl | exact Or.inr (Or.inl rfl) | exact Or.inr (Or.inr rfl)) (hd : (x == ("__debug__" : Str)) = false := by decide) (hcd : (x == ("__classdict__" : Str)) = false := by decide) :
    AE X F E (.Subscript (.Name x p) k pos) (eDGet i mk) := by
  refine PE_imp (pe_dget (hu_of hr) (pe_var hN hv hd hcd) hk hs) fun σ H Q ⟨S, st, q⟩ => ?_
  unfold eDGet at q
  by_cases h : (dkAt S i).isSome = true
  case neg => rw [if_neg h] at q; exact q.elim
  rw [if_pos h] at q
  obtain ⟨kvs0, e0⟩ := dk_at h
  obtain ⟨a, ks0, ea, _⟩ := st.at_ i _ e0
  refine ⟨.ref a, ea, S, st, ?_⟩
  cases ek : mk S with
  | no => rw [ek] at q; exact q.elim
  | ex c S1 => rw [ek] at q; exact q
  | ok r S1 =>
    rw [ek] at q
    simp only [Res.bind] at q
    intro v H1 g rv
    match r, q, rv with
    | .val (.int z), q, rv =>
      cases e1 : dkAt S1 i with
      | none => rw [e1] at q; exact q.elim
      | some kvs =>
        rw [e1] at q
        simp only at q
        obtain ⟨a', ks, ea', eH, tr⟩ := g.rst.at_ i _ (dkAt_some e1)
        rw [ea] at ea'
        cases ea'
        rcases TabR.look tr z with ⟨l1, _⟩ | ⟨d, w, l1, l2, rw'⟩
        · rw [l1] at q; exact q.elim
        · rw [l1] at q
          have rv : v = .int z := rv
          subst rv
          refine ⟨a, w, rfl, ?_, q w H1 g rw'⟩
          rw [← l2]
          exact DGet.k (k := Sum.inl z) eH
/-- x.get(k, e) -/
theorem a_dgetD {N : Nat} {p3 p4 : Pos} (i : Nat) (hr : Room N X.A) (hk : AE X F E k mk) (he : AE X F E e m) (hN : X.N[i]? = some x := by rfl) (hv : Vis X.env.scope x := by first | exact Or.inl rfl | exact Or.inr (Or.inl rfl) | exact Or.inr (Or.inr rfl)) (mm : M2 X (.Name x p) "get" p3 k e p4 := by exact ⟨rfl, rfl, rfl, rfl⟩) (hd : (x == ("__debug__" : Str)) = false := by decide) (hcd : (x == ("__classdict__" : Str)) = false := by decide) :
    AE X F E (.Call (.Attribute (.Name x p) "get" p3) [k, e] [] p4) (eDGetD i mk m) := by
  refine PE_imp (pe_dget2 (hu_of hr) (pe_var hN hv hd hcd) hk (a_fz he) mm) fun σ H Q ⟨S, st, q⟩ => ?_
  unfold eDGetD at q
  by_cases h : (dkAt S i).isSome = true
  case neg => rw [if_neg h] at q; exact q.elim
  rw [if_pos h] at q
  obtain ⟨kvs0, e0⟩ := dk_at h
  obtain ⟨a, ks0, ea, eH0, _⟩ := st.at_ i _ e0
  refine ⟨.ref a, ea, a, rfl, .inl ⟨ks0, .inl eH0⟩, S, st, ?_⟩
  cases ek : mk S with
  | no => rw [ek] at q; exact q.elim
  | ex c S1 => rw [ek] at q; exact q
  | ok r S1 =>
    rw [ek] at q
    simp only [Res.bind] at q
    intro v H1 g rv
    refine ⟨S1, g.rst, ?_⟩
    rw [eFz_datum]
    cases em : datum m S1 with
    | no => rw [em] at q; exact q.elim
    | ex c S2 => rw [em] at q; exact q
    | ok z S2 =>
      rw [em] at q
      simp only [Res.bind] at q ⊢
      intro w H2 g2 rw'
      match r, q, rv with
      | .val (.int t), q, rv =>
        have rv : v = .int t := rv
        subst rv
        cases e1 : dkAt S2 i with
        | none => rw [e1] at q; exact q.elim
        | some kvs =>
          rw [e1] at q
          simp only at q
          obtain ⟨a', ks, ea', eH, tr⟩ := g2.rst.at_ i _ (dkAt_some e1)
          rw [ea] at ea'
          cases ea'
          refine ⟨valV ks (Sum.inl t), DGet.k (k := Sum.inl t) eH, q _ H2 (g.trans g2) ?_⟩
          rcases TabR.look tr t with ⟨l1, l2⟩ | ⟨d, u, l1, l2, ru⟩
          · rw [l1, l2]; exact rw'
          · rw [l1, l2]; exact ru
/-- len(x) -/
theorem a_dlen {p3 : Pos} (i : Nat) (hm : X.mg "len" = none) (hN : X.N[i]? = some x := by rfl) (hv : Vis X.env.scope x := by first | exact Or.inl rfl | exact Or.inr (Or.inl rfl) | exact Or.inr (Or.inr rfl)) (hg : Gl X "len" := by rfl) (hd : (x == ("__debug__" : Str)) = false := by decide) (hcd : (x == ("__classdict__" : Str)) = false := by decide) :
    AE X F E (.Call (.Name "len" p3) [.Name x p] [] pos) (eDLen i) := by
  refine PE_imp (pe_callB call_lenD hg hm PySem.boot_len (pa_cons (pe_var hN hv hd hcd) pa_nil (by rfl)) (by decide) (by decide) (by rfl) (by rfl)) fun σ H Q ⟨S, st, q⟩ => ?_
  unfold eDLen at q
  cases e1 : dkAt S i with
  | none => rw [e1] at q; exact q.elim
  | some kvs =>
    rw [e1] at q
    obtain ⟨a, ks, ea, eH, tr⟩ := st.at_ i _ (dkAt_some e1)
    exact ⟨.ref a, ea, a, ks, rfl, eH, by rw [TabR.len tr]; exact q _ H (Go.refl st) rfl⟩
theorem repL_ints {K : PySem.W.Frag} {mg : Str → Option Value} {H : Hp} : ∀ l : List Int, RepL K mg H (l.map PyData.int) (l.map V.int)
  | [] => rfl
  | _ :: l => ⟨_, _, rfl, rfl, repL_ints l⟩
theorem srtI_uniq {ns ms : List Int} (p : ms.Perm ns) (s : ms.Pairwise (· ≤ ·)) : ms = srtI ns := by
  have h1 : (srtI ns).Perm ns := List.mergeSort_perm _ _
  have h2 : (srtI ns).Pairwise fun a b => decide (a ≤ b) = true := List.pairwise_mergeSort (fun a b c h1 h2 => by simp only [decide_eq_true_eq] at *; omega) (fun a b => by simp only [Bool.or_eq_true, decide_eq_true_eq]; omega) ns
  have h2 : (srtI ns).Pairwise (· ≤ ·) := h2.imp fun h => by simpa using h
  exact (p.trans h1.symm).eq_of_pairwise (fun a b _ _ h1 h2 => Int.le_antisymm h1 h2) s h2
/-- sorted(x) -/
theorem a_dsorted {p3 : Pos} (i : Nat) (hm : X.mg "sorted" = none) (hc : X.calm = true := by rfl) (hN : X.N[i]? = some x := by rfl) (hv : Vis X.env.scope x := by first | exact Or.inl rfl | exact Or.inr (Or.inl rfl) | exact Or.inr (Or.inr rfl)) (hg : Gl X "sorted" := by rfl) (hd : (x == ("__debug__" : Str)) = false := by decide) (hcd : (x == ("__classdict__" : Str)) = false := by decide) :
    AE X F E (.Call (.Name "sorted" p3) [.Name x p] [] pos) (eDSorted i) := by
  refine PE_imp (pe_callB (call_sortedDI hc) hg hm (by decide +kernel) (pa_cons (pe_var hN hv hd hcd) pa_nil (by rfl)) (by decide) (by decide) (by rfl) (by rfl)) fun σ H Q ⟨S, st, q⟩ => ?_
  unfold eDSorted at q
  cases e1 : dkAt S i with
  | none => rw [e1] at q; exact q.elim
  | some kvs =>
    rw [e1] at q
    obtain ⟨a, ks, ea, eH, tr⟩ := st.at_ i _ (dkAt_some e1)
    simp only at q
    by_cases hl : kvs.length < 64
    case neg => rw [if_neg hl] at q; exact q.elim
    rw [if_pos hl] at q
    refine ⟨.ref a, ea, a, ks, kvs.map (·.1), rfl, .inl eH, by rw [tr.1, List.map_map]; rfl, by rw [List.length_map]; exact hl, fun ys p hp hs np => ?_⟩
    have := srtI_uniq hp hs
    subst this
    exact q (.ref p) _ (Go.of_same st (same_upd np)) ⟨p, rfl, np, p, _, rfl, upd_same, repL_ints _⟩
/-- x[k] = e -/
theorem as_dput {N : Nat} (i : Nat) (hr : Room N X.A) (he : AE X F E e m) (hk : AE X F E k mk) (hN : X.N[i]? = some x := by rfl) (hv : Vis X.env.scope x := by first | exact Or.inl rfl | exact Or.inr (Or.inl rfl) | exact Or.inr (Or.inr rfl)) (hs : swapsWith e (some (.Subscript (.Name x p) k p2)) pos.line X.env = pure false := by rfl) (hd : (x == ("__debug__" : Str)) = false := by decide) (hcd : (x == ("__classdict__" : Str)) = false := by decide) :
    AS X F E (.Assign [.Subscript (.Name x p) k p2] e pos) (sDPut i mk m) := by
  refine PS_imp (ps_dput (hu_of hr) (pe_var hN hv hd hcd) hk (a_fz he) hs) fun D σ H ⟨S, st, q⟩ => ⟨S, st, ?_⟩
  have q : OutS X.K X.mg F E D H ((datum m S).bind fun d S1 => if (dkAt S1 i).isSome then (mk S1).bind fun r S2 => match r, dkAt S2 i with
    | .val (.int n), some kvs => if kvs.length < 16777216 then .ok .nx (S2.set i (.dki (putD kvs n d))) else .no
    | _, _ => .no else .no) := q
  rw [eFz_datum]
  cases em : datum m S with
  | no => rw [em] at q; exact q
  | ex k S1 => rw [em] at q; exact fun cls d H' r e => q cls d σ H' r e
  | ok d S1 =>
    rw [em] at q
    simp only [Res.bind] at q ⊢
    intro v H1 g1 rv
    by_cases h : (dkAt S1 i).isSome = true
    case neg => rw [if_neg h] at q; exact q.elim
    rw [if_pos h] at q
    obtain ⟨kvs0, e0⟩ := dk_at h
    obtain ⟨a, ks0, ea, _⟩ := g1.rst.at_ i _ e0
    refine ⟨.ref a, ea, S1, g1.rst, ?_⟩
    cases ek : mk S1 with
    | no => rw [ek] at q; exact q.elim
    | ex c S2 => rw [ek] at q; exact fun cls d H' r e => q cls d σ H' r e
    | ok r S2 =>
      rw [ek] at q
      simp only at q
      intro kv H2 g2 rk
      match r, q, rk with
      | .val (.int z), q, rk =>
        have rk : kv = .int z := rk
        subst rk
        cases e1 : dkAt S2 i with
        | none => rw [e1] at q; exact q.elim
        | some kvs =>
          rw [e1] at q
          simp only at q
          by_cases hl : kvs.length < 16777216
          case neg => rw [if_neg hl] at q; exact q.elim
          rw [if_pos hl] at q
          obtain ⟨a', ks, ea', eH, tr⟩ := g2.rst.at_ i _ (dkAt_some e1)
          rw [ea] at ea'
          cases ea'
          refine ⟨a, _, rfl, DPut.k (k := Sum.inl z) eH (by rw [TabR.len tr, sizeLine_eq]; omega), ?_⟩
          have tr2 : TabR X.K X.mg H2 (putD kvs z d) (L2.putK ks (Sum.inl z) v) := TabR.put tr z (Rep.mono (g2.mono g1.rst) d rv)
          obtain ⟨w1, w2⟩ := RSt.writeK (nvs := putD kvs z d) (ks := L2.putK ks (Sum.inl z) v) g2.rst (dkAt_some e1) ea fun mo => ⟨tr2.1, RepL.mono mo _ tr2.2⟩
          exact q σ _ w1 (((g1.trans g2).mono st).trans w2)
end
end Rc

/-! Rc: sorted(list or tuple of pairs of ints). -/
namespace RcT
open PySem PyProof.Rows Srt SrtO
/-- the heap behind the collecting of a tuple's items: a new list with them -/
abbrev colH (h : Heap) (vs : List Value) : Heap := (h.push (seqObj "list" #[] 0)).update h.objs.size (Obj.mapSeq (· ++ vs.toArray))
/-- .. and a second one, which is sorted -/
abbrev twoH (h : Heap) (vs : List Value) : Heap := (colH h vs).push (seqObj "list" vs.toArray 0)
section
variable {prog : Program} {w : World} {A : Around} {E : Value → Shared → Prop} {s : Shared} {l : Addr} {vs : List Value}
theorem col_tup {Q : List Value → Shared → Prop} (ht : IsTup s.heap l vs.toArray) (hz : vs.length ≤ sizeLine) (q : Q vs { s with heap := colH s.heap vs }) : wpAny (model prog w) A (collect (.ref l)) Q E s := by
  obtain ⟨ob, eo, ec, m, ed⟩ := id ht
  have eo2 : (s.heap.push (seqObj "list" #[] 0)).get? l = some ob := Heap.get?_push_of_some _ eo
  have en : (s.heap.push (seqObj "list" #[] 0)).get? s.heap.objs.size = some (seqObj "list" #[] 0) := Heap.get?_push_size _ rfl
  have fits : ((#[] : Array Value) ++ vs.toArray).size ≤ sizeLine + 1 := by
    have e : ((#[] : Array Value) ++ vs.toArray).size = vs.length := by simp
    rw [e]
    exact Nat.le_succ_of_le hz
  unfold collect
  apply wpAny_bind
  apply wpAny_runValue
  refine codeAny_builtin entry_proto_collect' (?_ : wpAny _ _ (do again (.builtin "list.__iadd__" ⟨[← newList [], .ref l], []⟩)) _ _ s)
  apply wpAny_bind
  refine wpAny_newList ?_
  apply wpAny_pure
  refine ⟨Code.quiet_builtin _ (by decide +kernel), codeAny_builtin entry_list_iadd' ?_⟩
  show wpAny _ _ (Builtin.List.listExtendWith (.ref s.heap.objs.size) (.ref l) _) _ _ _
  unfold Builtin.List.listExtendWith
  apply wpAny_bind
  refine wpAny_typeOf (T := "tuple") ⟨ob, eo2, ec⟩ ?_
  rw [if_pos (by first | decide | rfl | simp)]
  apply wpAny_bind
  refine listItems_at eo2 ed ?_
  apply wpAny_bind
  refine listItems_at (xs := #[]) (n := 0) en rfl ?_
  rw [if_neg (by simp)]
  apply wpAny_bind
  refine listUpdate_at (xs := #[]) (n := 0) en rfl ?_ (Nat.zero_le _) fits
  apply wpAny_pure
  refine wpAny_bind (?_ : wpAny (model prog w) A (load s.heap.objs.size) _ E { s with heap := colH s.heap vs })
  refine wpAny_load (get?_update_seq en _) ?_
  refine (?_ : wpAny _ _ (pure ((#[] : Array Value) ++ vs.toArray).toList) Q E _)
  have e0 : ((#[] : Array Value) ++ vs.toArray).toList = vs := by simp
  rw [e0]
  exact wpAny_pure q
theorem two_at : (twoH s.heap vs).get? (s.heap.objs.size + 1) = some (seqObj "list" vs.toArray 0) := by
  have e : (colH s.heap vs).objs.size = s.heap.objs.size + 1 := by
    rw [colH, Heap.size_update, size_push']
  rw [← e]
  exact Heap.get?_push_size _ rfl
theorem two_old {b : Addr} {o : Obj} (h : s.heap.get? b = some o) : b ≠ s.heap.objs.size + 1 ∧ (twoH s.heap vs).get? b = some o := by
  have lt := Heap.lt_size h
  refine ⟨fun z => ?_, Heap.get?_push_of_some _ ?_⟩
  · rw [z] at lt
    exact absurd lt (Nat.not_lt_of_le (Nat.le_succ _))
  · rw [colH, Heap.get?_update_ne _ _ _ _ (Nat.ne_of_lt lt)]
    exact Heap.get?_push_of_some _ h
/-- sorted(t), t a tuple of pairs of ints -/
theorem sorted_pairsT {k : Value → Int × Int} {Q : Value → Shared → Prop} (ht : IsTup s.heap l vs.toArray) (hz : vs.length ≤ sizeLine) (hp : ∀ v ∈ vs, IsPair s.heap v (k v).1 (k v).2)
    (q : ∀ (g : Heap) (d : Addr) (out : List Value), Srtd (fun v u => lexB (k v) (k u)) out → Stb (fun v u => lexB (k v) (k u)) out vs → (∀ b o, s.heap.get? b = some o → g.get? b = some o) → s.heap.objs.size ≤ d → (∃ n, g.get? d = some (seqObj "list" out.toArray n)) → Q (.ref d) { s with heap := g }) :
    wpAny (model prog w) A (call (.builtin "sorted") [.ref l]) Q E s := by
  apply Calls.call_function_entry kind_sorted plain_sorted entry_sorted (args_sorted1 _)
  unfold Builtin.«sorted»
  apply wpAny_bind (m := checkCount "sorted" 1 1 _)
  apply wpAny_pure
  apply wpAny_bind
  refine col_tup ht hz ?_
  apply wpAny_bind
  refine wpAny_newList ?_ hz
  have e : (colH s.heap vs).objs.size = s.heap.objs.size + 1 := by
    rw [colH, Heap.size_update, size_push']
  refine (?_ : wpAny _ _ _ _ _ { s with heap := twoH s.heap vs })
  rw [show (({ s with heap := colH s.heap vs } : Shared).heap.objs.size) = s.heap.objs.size + 1 from e]
  apply wpAny_bind
  apply wpAny_holding
  refine wpAny_call_entry slot_list_sort ⟨_, two_at, rfl⟩ entry_list_sort (list_sort_ord (swo_lex k) two_at hz (fun h2 => ?_) fun out so st => ⟨_, rfl, ?_⟩) (args_list_sort _)
  · refine pairs_sortableO (s := { s with heap := twoH s.heap vs }) (by omega) (fun v hm => (hp v hm).keeps fun b o eb _ => (two_old eb).2) fun o eo ec => ?_
    rw [two_at] at eo
    cases eo
    exact absurd (Value.type.inj ec) (by decide)
  · exact wpAny_pure ⟨_, rfl, q _ _ out so st (fun b o eb => sortedAll_old eb) (Nat.le_succ _) (sortedAll_at s.heap vs out.toArray)⟩
end
end RcT
namespace Rc
open PySem PySem.Spec PyProof.Rows L2
variable [LamTbl]
abbrev prD (q : Int × Int) : D := .tuple [.int q.1, .int q.2]
def asPairs : List D → Option (List (Int × Int))
  | [] => some []
  | .tuple [.int a, .int b] :: r => (asPairs r).map ((a, b) :: ·)
  | _ => none
def lexLe (p q : Int × Int) : Bool := decide (p.1 < q.1 ∨ (p.1 = q.1 ∧ p.2 ≤ q.2))
def srtP (ps : List (Int × Int)) : List (Int × Int) := ps.mergeSort lexLe
/-- sorted(list of pairs) -/
def dSrtP : D → Option Sv
  | .list ds => (asPairs ds).map fun ps => .ow ((srtP ps).map prD)
  | .tuple ds => (asPairs ds).map fun ps => .ow ((srtP ps).map prD)
  | _ => none
theorem asPairs_eq : ∀ {ds : List D} {ps : List (Int × Int)}, asPairs ds = some ps → ds = ps.map prD
  | [], ps, h => by cases h; rfl
  | .tuple [.int a, .int b] :: r, ps, h => by
    have h : (asPairs r).map ((a, b) :: ·) = some ps := h
    cases e : asPairs r with
    | none => rw [e] at h; cases h
    | some qs =>
      rw [e] at h
      cases h
      rw [List.map_cons, ← asPairs_eq e]
theorem asPairs_map : ∀ ps : List (Int × Int), asPairs (ps.map prD) = some ps
  | [] => rfl
  | p :: ps => by
    show (asPairs (ps.map prD)).map ((p.1, p.2) :: ·) = _
    rw [asPairs_map ps]
    rfl
theorem srtP_uniq {ps qs : List (Int × Int)} (p : qs.Perm ps) (s : qs.Pairwise fun a b => lexLe a b = true) : qs = srtP ps := by
  have h1 : (srtP ps).Perm ps := List.mergeSort_perm _ _
  have h2 : (srtP ps).Pairwise fun a b => lexLe a b = true := List.pairwise_mergeSort (fun a b c h1 h2 => by
    have h1 := of_decide_eq_true h1
    have h2 := of_decide_eq_true h2
    exact decide_eq_true (by omega)) (fun a b => by
    unfold lexLe
    simp only [Bool.or_eq_true, decide_eq_true_eq]
    omega) ps
  refine (p.trans h1.symm).eq_of_pairwise (fun a b _ _ h1 h2 => ?_) s h2
  have h1 := of_decide_eq_true h1
  have h2 := of_decide_eq_true h2
  exact Prod.ext (by omega) (by omega)
/-- x stands for the pair q -/
abbrev PrV (K : PySem.W.Frag) (H : Hp) (x : V) (q : Int × Int) : Prop := ∃ t, x = .ref t ∧ SqT K H t [.int q.1, .int q.2]
theorem repL_pairs {K : PySem.W.Frag} {mg : Str → Option Value} {H : Hp} : ∀ {ps : List (Int × Int)} {xs : List V}, RepL K mg H (ps.map prD) xs ↔ Paired (PrV K H) xs ps
  | [], xs => by
    constructor
    · intro h
      rw [show xs = [] from h]
      exact .nil
    · intro h
      cases h
      rfl
  | p :: ps, xs => by
    constructor
    · rintro ⟨v, vs, rfl, ⟨a, ys, rfl, s, r⟩, h⟩
      have : ys = [V.int p.1, V.int p.2] := RepL.ints (ns := [p.1, p.2]) r
      subst this
      exact .cons ⟨a, rfl, s⟩ (repL_pairs.mp h)
    · intro h
      cases h with
      | cons h t =>
        obtain ⟨a, rfl, s⟩ := h
        exact ⟨_, _, rfl, ⟨a, _, rfl, s, repL_ints [p.1, p.2]⟩, repL_pairs.mpr t⟩
/-- sorted(xs): the pairs in their order, each by a value that stood for it -/
def rSrtP (K : PySem.W.Frag) : V → Hp → VK → Prop := fun x H Q => ∃ (a : Addr) (xs : List V) (ps : List (Int × Int)), x = .ref a ∧ (SqL K H a xs ∨ SqT K H a xs) ∧ Paired (PrV K H) xs ps ∧
  ∀ (ys : List V) (p : Addr), Paired (PrV K H) ys (srtP ps) → H p = none → Q (.ref p) (upd H p (.lst ys))
theorem op1_srtP {K : PySem.W.Frag} {mg : Str → Option Value} : Op1 K mg dSrtP (rSrtP K) := by
  intro H x d res Q hf hx q
  match d, hf with
  | .list ds, hf =>
    simp only [dSrtP] at hf
    cases hn : asPairs ds with
    | none => rw [hn] at hf; cases hf
    | some ps =>
      rw [hn] at hf
      cases hf
      obtain ⟨a, vs, rfl, sa, ra⟩ := hx.list
      rw [asPairs_eq hn] at ra
      refine ⟨a, vs, ps, rfl, .inl sa.sq, repL_pairs.mp ra, fun ys p h np => ?_⟩
      exact q _ _ (same_upd np) ⟨p, rfl, np, p, _, rfl, upd_same, RepL.mono (Mono.of_same (same_upd np)) _ (repL_pairs.mpr h)⟩
  | .tuple ds, hf =>
    simp only [dSrtP] at hf
    cases hn : asPairs ds with
    | none => rw [hn] at hf; cases hf
    | some ps =>
      rw [hn] at hf
      cases hf
      obtain ⟨a, vs, rfl, sa, ra⟩ := hx.tuple
      rw [asPairs_eq hn] at ra
      refine ⟨a, vs, ps, rfl, .inr sa, repL_pairs.mp ra, fun ys p h np => ?_⟩
      exact q _ _ (same_upd np) ⟨p, rfl, np, p, _, rfl, upd_same, RepL.mono (Mono.of_same (same_upd np)) _ (repL_pairs.mpr h)⟩
theorem f2_map {α β γ : Type} {R : α → β → Prop} {f : γ → α} {g : γ → β} : ∀ {l : List γ}, (∀ x ∈ l, R (f x) (g x)) → Paired R (l.map f) (l.map g)
  | [], _ => .nil
  | x :: l, h => .cons (h x List.mem_cons_self) (f2_map fun y hy => h y (List.mem_cons_of_mem _ hy))
/-- the pair that the heap holds at v -/
noncomputable def kOf (h : Heap) (v : Value) : Int × Int := @dite _ (∃ q : Int × Int, Srt.IsPair h v q.1 q.2) (Classical.propDecidable _) (fun e => Classical.choose e) (fun _ => (0, 0))
theorem kOf_eq {h : Heap} {v : Value} {q : Int × Int} (e : Srt.IsPair h v q.1 q.2) : kOf h v = q := by
  have ex : ∃ q : Int × Int, Srt.IsPair h v q.1 q.2 := ⟨q, e⟩
  unfold kOf
  rw [dif_pos ex]
  obtain ⟨a, o, t, u, n, e1, e2, _, e3⟩ := Classical.choose_spec ex
  obtain ⟨a', o', t', u', n', f1, f2, _, f3⟩ := e
  rw [e1] at f1
  cases f1
  rw [e2] at f2
  cases f2
  rw [e3] at f3
  generalize Classical.choose ex = z at f3
  cases z
  cases q
  simp only [Data.seq.injEq, Array.mk.injEq, List.cons.injEq, Value.int.injEq] at f3
  exact Prod.ext f3.1.1.1 f3.1.2.1.1
theorem f2_of {α β γ : Type} {R : α → β → Prop} {f : γ → α} {g : γ → β} : ∀ {l : List γ}, Paired R (l.map f) (l.map g) → ∀ x ∈ l, R (f x) (g x)
  | [], _, x, hx => by cases hx
  | y :: l, h, x, hx => by
    rw [List.map_cons, List.map_cons] at h
    cases h with
    | cons h t =>
      rcases List.mem_cons.mp hx with rfl | hx
      · exact h
      · exact f2_of t x hx
section
variable {X : Cx}
theorem cr_srtP : CallR X (.builtin "sorted") (fun vs H Q => ∃ x, vs = [x] ∧ rSrtP X.K x H Q) := by
  intro pins s σ H vs us Q I r ⟨x, ev, a, xs, ps, ex, hs, hx, q⟩
  subst ev ex
  obtain ⟨its, rv, hl, hz⟩ : ∃ its : List Value, Vals xs its ∧ (s.heap.IsList a its.toArray ∨ IsTup s.heap a its.toArray) ∧ xs.length ≤ sizeLine := by
    rcases hs with hs | hs
    · obtain ⟨its, rv, hl, hz⟩ := I.list hs
      exact ⟨its, rv, .inl hl.isList, hz⟩
    · obtain ⟨its, rv, hl, hz⟩ := I.tuple hs
      exact ⟨its, rv, .inr hl, hz⟩
  obtain ⟨u, rfl, ru⟩ := vals1 r
  obtain rfl : u = Value.ref a := ru
  have href : ∀ x ∈ xs, ∃ a, x = V.ref a := by
    clear q rv hz hs hl
    induction hx with
    | nil => intro x hx; cases hx
    | cons h t ih =>
      intro x hx
      rcases List.mem_cons.mp hx with rfl | hx
      · obtain ⟨t, e, _⟩ := h; exact ⟨t, e⟩
      · exact ih x hx
  obtain ⟨e1, e2⟩ := refs_back rv href
  have hk : ps = its.map (kOf s.heap) ∧ ∀ v ∈ its, Srt.IsPair s.heap v (kOf s.heap v).1 (kOf s.heap v).2 := by
    clear q e1 e2 href hz hl hs
    induction hx generalizing its with
    | nil => cases rv; exact ⟨rfl, fun v hv => by cases hv⟩
    | @cons x p xs ps h t ih =>
      obtain ⟨tt, rfl, hq⟩ := h
      cases rv with
      | @cons _ u _ us ru rv =>
        obtain rfl : u = Value.ref tt := ru
        obtain ⟨its2, r2, ⟨o, ho, hc, n, hd⟩, _⟩ := I.tuple hq
        obtain ⟨u1, u2, rfl, ri, rj⟩ := vals2 r2
        obtain ⟨t1, rfl⟩ := ri
        obtain ⟨t2, rfl⟩ := rj
        have ip : Srt.IsPair s.heap (.ref tt) p.1 p.2 := ⟨tt, o, t1, t2, n, rfl, ho, hc, hd⟩
        have ek := kOf_eq ip
        obtain ⟨e, a⟩ := ih us rv
        refine ⟨by rw [List.map_cons, ek, ← e], fun v hv => ?_⟩
        rcases List.mem_cons.mp hv with rfl | hv
        · rw [ek]; exact ip
        · exact a v hv
  obtain ⟨ep, hp⟩ := hk
  have fin : ∀ (h' : Heap) (d : Addr) (out : List Value), SrtO.Srtd (fun v u => SrtO.lexB (kOf s.heap v) (kOf s.heap u)) out → SrtO.Stb (fun v u => SrtO.lexB (kOf s.heap v) (kOf s.heap u)) out its → (∀ b o, s.heap.get? b = some o → h'.get? b = some o) → s.heap.objs.size ≤ d → (∃ n, h'.get? d = some (seqObj "list" out.toArray n)) → EP X pins σ Q (.ref d) { s with heap := h' } := by
    intro h' d out h1 h2 kp hd hn
    have h3 : ∀ u ∈ out, ∃ a, u = Value.ref a := fun u hu => e2 u (h2.perm.mem_iff.mp hu)
    obtain ⟨n, hn⟩ := hn
    have es : out.map (kOf s.heap) = srtP ps := by
      refine srtP_uniq (by rw [ep]; exact h2.perm.map _) (List.pairwise_map.mpr (h1.imp fun {a b} h => ?_))
      have h := SrtO.lexB_no.mp h
      exact decide_eq_true (by omega)
    have hy : Paired (PrV X.K H) (out.map backV) (srtP ps) := by
      rw [← es]
      rw [e1, ep] at hx
      exact f2_map fun v hv => f2_of hx v (h2.perm.mem_iff.mp hv)
    refine ⟨.ref d, upd H d (.lst (out.map backV)), I.laid (t' := s.toks) kp hd ⟨?_, out, n, vals_back h3, hn⟩, rfl, q _ d hy (I.hok.fresh hd)⟩
    rw [List.length_map, h2.perm.length_eq, ← rv.length]
    exact hz
  rcases hl with hl | hl
  · exact SrtO.sorted_pairsO (k := kOf s.heap) hl (by rw [← rv.length]; exact hz) hp fin
  · exact RcT.sorted_pairsT (k := kOf s.heap) hl (by rw [← rv.length]; exact hz) hp fin
end
section
variable {X : Cx} {F : Fx} {E : XK} {a : Expr} {oa : Od} {p pos : Pos}
theorem cl_srtP {K : PySem.W.Frag} {mg : Str → Option Value} : Cl1 K mg dSrtP (fun vs H Q => ∃ x, vs = [x] ∧ rSrtP K x H Q) := by
  intro H x d res Q hf hx q
  exact ⟨x, rfl, op1_srtP H x d res Q hf hx q⟩
theorem a_srtP (hm : X.mg "sorted" = none) (ha : AO X F E a oa) (hg : Gl X "sorted" := by rfl) (he : starEach (a :: []) X.env = (false, eval a X.env) :: starEach [] X.env := by rfl) : AE X F E (.Call (.Name "sorted" p) [a] [] pos) (eOp1 dSrtP oa) :=
  a_b1 cr_srtP cl_srtP hg hm (by decide +kernel) ha (by decide) (by decide) he rfl
end
theorem op_srtP {ps : List (Int × Int)} {k : Sv → Prop} : op1 dSrtP (.list (ps.map prD)) k = k (.ow ((srtP ps).map prD)) := by
  unfold op1 dSrtP
  simp only [asPairs_map, Option.map_some]
theorem op_srtPT {ps : List (Int × Int)} {k : Sv → Prop} : op1 dSrtP (.tuple (ps.map prD)) k = k (.ow ((srtP ps).map prD)) := by
  unfold op1 dSrtP
  simp only [asPairs_map, Option.map_some]
end Rc

/-! Rc: sorted(x.items()), x a dict of one's own with ints as keys and as values. -/
namespace Rc
open PySem PySem.Spec PyProof.Rows L2
open L2.DX (itemsO itemsO_ok takeT pget)
variable [LamTbl]
/-- the keys and the values, all ints -/
def intVals : List (Int × D) → Option (List (Int × Int))
  | [] => some []
  | (k, .int v) :: r => (intVals r).map ((k, v) :: ·)
  | _ => none
abbrev kvI (q : Int × Int) : Int × D := (q.1, .int q.2)
theorem intVals_eq : ∀ {kvs : List (Int × D)} {ps : List (Int × Int)}, intVals kvs = some ps → kvs = ps.map kvI
  | [], ps, h => by cases h; rfl
  | (k, .int v) :: r, ps, h => by
    have h : (intVals r).map ((k, v) :: ·) = some ps := h
    cases e : intVals r with
    | none => rw [e] at h; cases h
    | some qs =>
      rw [e] at h
      cases h
      rw [List.map_cons, ← intVals_eq e]
theorem intVals_map : ∀ ps : List (Int × Int), intVals (ps.map kvI) = some ps
  | [] => rfl
  | p :: ps => by
    show (intVals (ps.map kvI)).map ((p.1, p.2) :: ·) = _
    rw [intVals_map ps]
    rfl
/-- sorted(x.items()) -/
def eSItems (i : Nat) : M Sv := fun S => match dkAt S i with
  | some kvs => (match intVals kvs with
    | some ps => .ok (.ow ((srtP ps).map prD)) S
    | none => .no)
  | none => .no
def ipk (kvs : List (Int × D)) (k : List (Int × Int) → Prop) : Prop := match intVals kvs with
  | some ps => k ps
  | none => False
theorem ipk_map {ps : List (Int × Int)} {k : List (Int × Int) → Prop} : ipk (ps.map kvI) k = k ps := by
  unfold ipk
  rw [intVals_map]
theorem ipk_map' {ps : List (Int × Int)} {k : List (Int × Int) → Prop} : ipk (ps.map fun q => (q.1, PyData.int q.2)) k = k ps := ipk_map
theorem ipk_nil {k : List (Int × Int) → Prop} : ipk [] k = k [] := rfl
theorem Ok_sitems {S : Sl} {i : Nat} {Q : Sv → Sl → Prop} : Ok (eSItems i S) Q = sg S i fun s => dkk s fun kvs => ipk kvs fun ps => Q (.ow ((srtP ps).map prD)) S := by
  rw [← dkAtE]
  unfold eSItems
  cases dkAt S i with
  | none => exact Ok_no
  | some kvs =>
    unfold ipk
    simp only
    cases intVals kvs with
    | none => exact Ok_no
    | some ps => exact Ok_ok
theorem pairs_get {prog : Program} {w : World} {K : Type} [DecidableEq K] {knd : KeyKind prog w K} : ∀ {es : List DictEntry} {vs : List (K × Value)}, Pairs knd es vs → ∀ {j : Nat} {e : DictEntry}, es[j]? = some e → ∃ kv, vs[j]? = some kv ∧ knd.is kv.1 e.key = true ∧ e.val = kv.2
  | _, _, .nil, j, e, h => by cases h
  | _, _, .cons a b t, 0, e, h => by
    have h := Option.some.inj h
    subst h
    exact ⟨_, rfl, a, b⟩
  | _, _, .cons a b t, j + 1, e, h => pairs_get t h
/-- x is a dict of one's own -/
def tyDk (x : V) (H : Hp) : Prop := ∃ a kvs, x = .ref a ∧ H a = some (.dK kvs)
theorem ty_dk {X : Cx} : TyOk X "dict" tyDk := by
  intro pins σ H s x v I r ⟨a, kvs, ex, hd⟩
  subst ex
  cases r
  obtain ⟨z, lo, vs, rel, dd⟩ := dk_of I.hok hd
  exact ⟨dd.typeIs, dd.mapOf.noDict⟩
section
variable {X : Cx}
theorem mt_itemsK : MtR X "dict.items" (fun x xs H Q => ∃ (a : Addr) (kvs : List (L2.Key × V)), x = .ref a ∧ xs = [] ∧ H a = some (.dK kvs) ∧ ∀ p, H p = none → Q (.ref p) (upd H p (itemsO p a))) := by
  intro pins s σ H x xs v us Q I rx rxs h
  obtain ⟨a, kvs, rfl, rfl, ha, q⟩ := h
  cases rx
  cases rxs
  obtain ⟨z, lo, vs, rel, dd⟩ := dk_of I.hok ha
  refine call_meetsIn PySem.F.slot_dict_items dd.typeIs PySem.F.entry_dict_items (PySem.F.args_dict_items_1 _) (meets_dict_items (mixKind X.prog X.w) a lo) ⟨⟨vs, dd⟩, ?_⟩
  have hf : H s.heap.objs.size = none := I.hok.fresh (Nat.le_refl _)
  exact ⟨.ref s.heap.objs.size, upd H s.heap.objs.size (itemsO s.heap.objs.size a), I.laid (t' := s.toks) (fun b u e => Heap.get?_push_of_some _ e) (Nat.le_refl _) (itemsO_ok (Heap.get?_push_size _ rfl)), rfl, q _ hf⟩
theorem cr_sitemsK (hcalm : X.calm = true) : CallR X (.builtin "sorted") (fun xs H Q => ∃ (p a : Addr) (kvs : List (L2.Key × V)) (ps : List (Int × Int)), xs = [.ref p] ∧ H p = some (itemsO p a) ∧ H a = some (.dK kvs) ∧ kvs = ps.map (fun q => (Sum.inl q.1, V.int q.2)) ∧
    ∀ (H' : Hp) (l : Addr) (ys : List V), (∀ b o, H b = some o → H' b = some o) → H l = none → H' l = some (.lst ys) → Paired (PrV X.K H') ys (srtP ps) → Q (.ref l) H') := by
  intro pins s σ H xs us Q I r h
  obtain ⟨p, a, kvs, ps, ex, hp, hd, hks, q⟩ := h
  subst ex
  obtain ⟨u, eu, rx⟩ := vals1 r
  subst eu
  cases rx
  have view : s.heap.IsItemsView p a := (show ObjOk X.prog X.w H s.heap p (itemsO p a) from I.hok p _ hp).1
  obtain ⟨z, lo, vs, rel, dd⟩ := dk_of I.hok hd
  obtain ⟨od, es, ep, ho, hx, hdat, hkeys, hpairs, hnd⟩ := id dd
  have lk : kvs.length = vs.length := Paired.length rel
  have lp : kvs.length = ps.length := by rw [hks, List.length_map]
  have h16 : vs.length ≤ sizeLine := by rw [← lk]; exact z
  have le : es.size = vs.length := by rw [← hpairs.length, Array.length_toList]
  refine DT.sortedI (es := es) (ep := ep) (I.ok.hd hcalm) view ⟨od, ho, hx, hdat⟩ (by rw [le]; exact h16) fun h' tk as hk hlt hl hG => ?_
  have lap : as.length = ps.length := by omega
  have nd : as.Nodup := List.Pairwise.imp (fun h => Nat.ne_of_lt h) hG.rise
  -- the pairs that were made
  have pr : ∀ (j : Nat) (b : Addr), as[j]? = some b → ∃ e : Int × Int, ps[j]? = some e ∧ Srt.IsPair h' (.ref b) e.1 e.2 := by
    intro j b hj
    obtain ⟨en, f0, f3⟩ := hG.pairs j b hj
    obtain ⟨⟨k, x⟩, f1, f2, f4⟩ := pairs_get hpairs (show es.toList[j]? = some en by rw [Array.getElem?_toList]; exact f0)
    obtain ⟨e0, g1, g2, g3⟩ := pget rel f1
    rw [hks, List.getElem?_map] at g1
    cases hpj : ps[j]? with
    | none => rw [hpj] at g1; cases g1
    | some e =>
      rw [hpj] at g1
      have g1 : (Sum.inl e.1, V.int e.2) = e0 := Option.some.inj g1
      subst g1
      obtain ⟨t2, et2⟩ : ∃ t, x = .int e.2 t := g3
      obtain ⟨kh, key, xv⟩ := en
      have f4 : xv = x := f4
      subst f4
      have g2 : (Sum.inl e.1 : L2.Key) = k := g2
      subst g2
      rcases keyIs_shape (show keyIs (Sum.inl e.1) key = true from f2) with ⟨i, t, ek, ev⟩ | ⟨z, t, ek, ev⟩
      · cases ek
        subst ev et2
        exact ⟨e, rfl, b, _, t, t2, _, rfl, f3, rfl, rfl⟩
      · cases ek
  have hall : ∀ v ∈ as.map Value.ref, Srt.IsPair h' v (kOf h' v).1 (kOf h' v).2 := by
    intro v hv
    obtain ⟨b, hb, rfl⟩ := List.mem_map.mp hv
    obtain ⟨j, hj⟩ := List.mem_iff_getElem?.mp hb
    obtain ⟨e, _, ip⟩ := pr j b hj
    rw [kOf_eq ip]
    exact ip
  have ep' : ps = (as.map Value.ref).map (kOf h') := by
    refine List.ext_getElem? fun j => ?_
    rw [List.map_map, List.getElem?_map]
    cases hj : as[j]? with
    | none =>
      have : ps.length ≤ j := by rw [← lap]; exact List.getElem?_eq_none_iff.mp hj
      rw [List.getElem?_eq_none_iff.mpr this]
      rfl
    | some b =>
      obtain ⟨e, he, ip⟩ := pr j b hj
      rw [he]
      show some e = some (kOf h' (.ref b))
      rw [kOf_eq ip]
  -- the sort
  have hoL : (h'.push (seqObj "list" (as.map Value.ref).toArray 0)).get? h'.objs.size = some (seqObj "list" (as.map Value.ref).toArray 0) := Heap.get?_push_size _ rfl
  have ka : ∀ b o, h'.get? b = some o → (h'.push (seqObj "list" (as.map Value.ref).toArray 0)).get? b = some o := fun b o e => Heap.get?_push_of_some _ e
  have hz2 : (as.map Value.ref).length ≤ sizeLine := by rw [List.length_map, hl, le]; exact h16
  show wpAny _ _ (call (.builtin "list.sort") [.ref h'.objs.size]) _ _ { s with heap := h'.push (seqObj "list" (as.map Value.ref).toArray 0), toks := tk }
  refine wpAny_call_entry PyProof.Rows.slot_list_sort ⟨_, hoL, rfl⟩ PyProof.Rows.entry_list_sort
    (SrtO.list_sort_ord (s := { s with heap := h'.push (seqObj "list" (as.map Value.ref).toArray 0), toks := tk }) (SrtO.swo_lex (kOf h')) hoL hz2 (fun h2 => ?_) fun out h1 h2 => ⟨_, rfl, ?_⟩) (PyProof.Rows.args_list_sort _)
  · refine SrtO.pairs_sortableO (s := { s with heap := h'.push (seqObj "list" (as.map Value.ref).toArray 0), toks := tk }) (by omega) (fun v hm => (hall v hm).keeps fun b o eb _ => ka b o eb) fun o eo ec => ?_
    have eo' : some o = some (seqObj "list" (as.map Value.ref).toArray 0) := eo.symm.trans hoL
    cases eo'
    exact absurd (Value.type.inj ec) (by decide)
  obtain ⟨n, hn⟩ := PyProof.Rows.sortedHeap_at (vs := as.map Value.ref) (out := out.toArray) hoL
  have kb : ∀ b o, h'.get? b = some o → (sortedHeap (h'.push (seqObj "list" (as.map Value.ref).toArray 0)) h'.objs.size (as.map Value.ref) out.toArray).get? b = some o := by
    intro b o e
    have hb : b < h'.objs.size := Heap.lt_size e
    rw [PyProof.Rows.sortedHeap_old (Nat.ne_of_lt hb) (by rw [size_push']; exact Nat.lt_succ_of_lt hb)]
    exact ka b o e
  have lt' : s.heap.objs.size ≤ h'.objs.size := Nat.le_of_lt hlt
  have h3 : ∀ u ∈ out, ∃ b, u = Value.ref b := fun u hu => by
    obtain ⟨b, _, rfl⟩ := List.mem_map.mp (h2.perm.mem_iff.mp hu)
    exact ⟨b, rfl⟩
  have es : out.map (kOf h') = srtP ps := by
    refine srtP_uniq (by rw [ep']; exact h2.perm.map _) (List.pairwise_map.mpr (h1.imp fun {a b} h => ?_))
    have h := SrtO.lexB_no.mp h
    exact decide_eq_true (by omega)
  have fl : H h'.objs.size = none := I.hok.fresh lt'
  have I1 : Inv X pins σ (upd H h'.objs.size (.lst (out.map backV))) { s with heap := sortedHeap (h'.push (seqObj "list" (as.map Value.ref).toArray 0)) h'.objs.size (as.map Value.ref) out.toArray, toks := tk } :=
    I.laid (t' := tk) (fun b o e => kb b o (hk b o e)) lt' (show ObjOk X.prog X.w _ _ _ (.lst (out.map backV)) from ⟨by rw [List.length_map, h2.perm.length_eq]; exact hz2, out, n, vals_back h3, hn⟩)
  obtain ⟨H2, I2, k2, t2⟩ := takeT (P := fun b xs => xs = [V.int (kOf h' (.ref b)).1, V.int (kOf h' (.ref b)).2]) I as _ I1 nd fun b hb => by
    have hlo : s.heap.objs.size ≤ b := Nat.le_of_lt (hG.above b hb)
    refine ⟨hlo, ?_, _, rfl, fun H2 => ?_⟩
    · rw [upd_ne (show b ≠ h'.objs.size from Nat.ne_of_lt (hG.there hb))]
      exact I.hok.fresh hlo
    · obtain ⟨b', o, t, u, n, e1, e2, e3, e4⟩ := hall (.ref b) (List.mem_map.mpr ⟨b, hb, rfl⟩)
      cases e1
      exact ⟨by show 2 ≤ sizeLine; decide, [Value.int (kOf h' (.ref b)).1 t, Value.int (kOf h' (.ref b)).2 u], .cons ⟨t, rfl⟩ (.cons ⟨u, rfl⟩ .nil), o, kb _ _ e2, e3, n, e4⟩
  refine ⟨.ref h'.objs.size, H2, I2, rfl, q H2 h'.objs.size (out.map backV) (fun b o e => k2 b o ?_) fl (k2 _ _ upd_same) ?_⟩
  · rw [upd_ne (fun z => by rw [z, fl] at e; cases e)]
    exact e
  · rw [← es]
    refine f2_map fun v hv => ?_
    obtain ⟨b, hb, rfl⟩ := List.mem_map.mp (h2.perm.mem_iff.mp hv)
    obtain ⟨xs, rfl, hx⟩ := t2 b hb
    exact ⟨b, rfl, .inl (.inl hx)⟩
end
section
variable {X : Cx} {F : Fx} {E : XK} {pos p p3 p4 p5 : Pos} {x : Str}
theorem tabR_ints {K : PySem.W.Frag} {mg : Str → Option Value} {H : Hp} : ∀ {ps : List (Int × Int)} {ks : List (L2.Key × V)}, TabR K mg H (ps.map kvI) ks → ks = ps.map (fun q => (Sum.inl q.1, V.int q.2))
  | [], ks, h => h.nil
  | q :: ps, ks, h => by
    obtain ⟨v, r, rfl, rv, hr⟩ := h.cons
    rw [tabR_ints hr]
    have : v = .int q.2 := rv
    rw [this]
    rfl
theorem paired_mono {K : PySem.W.Frag} {H H' : Hp} : ∀ {ys : List V} {qs : List (Int × Int)}, Paired (PrV K H) ys qs → (∀ t xs, SqT K H t xs → SqT K H' t xs) → Paired (PrV K H') ys qs
  | _, _, .nil, _ => .nil
  | _, _, .cons ⟨t, e, s⟩ r, h => .cons ⟨t, e, h _ _ s⟩ (paired_mono r h)
/-- sorted(x.items()) -/
theorem a_sitems (i : Nat) (hm : X.mg "sorted" = none) (hc : X.calm = true := by rfl) (hN : X.N[i]? = some x := by rfl) (hv : Vis X.env.scope x := by first | exact Or.inl rfl | exact Or.inr (Or.inl rfl) | exact Or.inr (Or.inr rfl)) (hg : Gl X "sorted" := by rfl) (hd : (x == ("__debug__" : Str)) = false := by decide) (hcd : (x == ("__classdict__" : Str)) = false := by decide)
    (hbase : attributeBase (.Name x p) "items" X.env (eval (.Name x p) X.env) = eval (.Name x p) X.env := by rfl) (hline : (p4.endLine == p5.line) = true := by rfl) :
    AE X F E (.Call (.Name "sorted" p3) [.Call (.Attribute (.Name x p) "items" p4) [] [] p5] [] pos) (eSItems i) := by
  refine PE_imp (pe_callB (cr_sitemsK hc) hg hm (by decide +kernel) (pa_cons (pe_mG0 ty_dk PySem.F.plainAttrs_dict PySem.F.slot_dict_items PySem.F.type_dict_items mt_itemsK (pe_var hN hv hd hcd) hbase hline) pa_nil (by rfl)) (by decide) (by decide) (by rfl) (by rfl)) fun σ H Q ⟨S, st, q⟩ => ?_
  unfold eSItems at q
  cases e1 : dkAt S i with
  | none => rw [e1] at q; exact q.elim
  | some kvs =>
    rw [e1] at q
    simp only at q
    cases e2 : intVals kvs with
    | none => rw [e2] at q; exact q.elim
    | some ps =>
      rw [e2] at q
      simp only at q
      obtain ⟨a, ks, ea, eH, tr⟩ := st.at_ i _ (dkAt_some e1)
      rw [intVals_eq e2] at tr
      have ek := tabR_ints tr
      refine ⟨.ref a, ea, ⟨a, ks, rfl, eH⟩, a, ks, rfl, rfl, eH, fun p np => ?_⟩
      have pa : a ≠ p := fun z => by rw [z, np] at eH; cases eH
      refine ⟨p, a, ks, ps, rfl, upd_same, by rw [upd_ne pa]; exact eH, ek, fun H' l ys k nl el hy => ?_⟩
      have sm : Same H H' := fun b o e => k b o (by rw [upd_ne (fun z => by rw [z, np] at e; cases e)]; exact e)
      have nl' : H l = none := by
        cases hl : H l with
        | none => rfl
        | some o =>
          rw [upd_ne (fun z => by rw [z, np] at hl; cases hl), hl] at nl
          cases nl
      exact q (.ref l) _ (Go.of_same st sm) ⟨l, rfl, nl', l, _, rfl, el, repL_pairs.mpr hy⟩
end
end Rc

/-! Rc: dict(t), t a tuple of pairs that bears no instance dict. -/
namespace Rc
open PySem PySem.Spec PyProof.Rows L2
section
variable {X : Cx}
theorem pairs_of2 {pins : List (Addr × Obj)} {σ : St} {H : Hp} {s : Shared} (I : Inv X pins σ H s) : ∀ {ps : List Addr} {kvs : List (L2.Key × V)}, Paired (fun p kv => SqT X.K H p [kV kv.1, kv.2]) ps kvs →
    ∃ (prs : List (L2.Key × Value)) (pv : List (Value × Value)), KV kvs prs ∧ prs.length = ps.length ∧ pv.length = ps.length ∧
      (∀ (j : Nat) (u y : Value), pv[j]? = some (u, y) → ∃ (b : Addr) (k : L2.Key), ps[j]? = some b ∧ prs[j]? = some (k, y) ∧ IsTup s.heap b #[u, y] ∧ keyIs k u = true)
  | _, _, .nil => ⟨[], [], .nil, rfl, rfl, fun j u y e => by simp at e⟩
  | _, _, .cons (a := p) (b := kv) h t => by
    obtain ⟨prs, pv, r, hl, hl2, hp⟩ := pairs_of2 I t
    obtain ⟨its, rv, ht, _⟩ := I.tuple h
    obtain ⟨u, y, ei, ru, ry⟩ := vals2 rv
    subst ei
    refine ⟨(kv.1, y) :: prs, (u, y) :: pv, .cons ⟨rfl, ry⟩ r, by rw [List.length_cons, List.length_cons, hl], by rw [List.length_cons, List.length_cons, hl2], fun j u' y' e => ?_⟩
    cases j with
    | zero =>
      have e' : (u, y) = (u', y') := Option.some.inj e
      cases e'
      exact ⟨p, kv.1, rfl, rfl, ht, kV_is (P := X.prog) (w := X.w) ru⟩
    | succ j =>
      obtain ⟨b, k, e1, e2, e3, e4⟩ := hp j u' y' (by simpa using e)
      exact ⟨b, k, by simpa using e1, by simpa using e2, e3, e4⟩
/-- dict(t), t kept as it is -/
theorem call_dictTX (hcalm : X.calm = true) : CallR X (.type "dict") (fun xs H Q => ∃ (a : Addr) (o : Obj) (ps : List Addr) (kvs : List (L2.Key × V)), xs = [.ref a] ∧ H a = some (.frz o (.tup (ps.map V.ref))) ∧ o.dict = none ∧ Paired (fun p kv => SqT X.K H p [kV kv.1, kv.2]) ps kvs ∧
    ∀ p, H p = none → Q (.ref p) (upd H p (.dK (mergeK [] kvs)))) := by
  intro pins s σ H xs us Q I r q
  obtain ⟨a, o, ps, kvs, ex, ha, hd, hp, q⟩ := q
  subst ex
  obtain ⟨u, eu, rx⟩ := vals1 r
  subst eu
  cases rx
  obtain ⟨ho, hz, its, rv, o', ho', hc, n, hdat⟩ := (show ObjOk X.prog X.w H s.heap a (.frz o (.tup (ps.map V.ref))) from I.hok a _ ha)
  rw [ho] at ho'
  cases ho'
  have ei := refs_at rv
  subst ei
  rw [List.length_map] at hz
  obtain ⟨prs, pv, rel, hl, hl2, hpr⟩ := pairs_of2 I hp
  refine PySem.call_dict_pairs (knd := mixKind X.prog X.w) (kvs := prs) (PairArg.tuple a (ps.map Value.ref).toArray (fun j => ps.getD j 0) pv) (I.ok.hd hcalm) ⟨⟨o, n, ho, hc, hd, hdat⟩, by simp [hl2], fun j k v e => ?_⟩ ⟨by rw [hl, hl2], fun i key v e => ?_⟩ (by rw [hl2]; exact hz) fun h' tk hd' k => ?_
  · obtain ⟨b, kk, e1, e2, e3, e4⟩ := hpr j k v e
    refine ⟨by simp [e1], .inl ?_⟩
    show s.heap.IsTuple (ps.getD j 0) #[k, v]
    rw [List.getD_eq_getElem?_getD, e1]
    exact e3
  · obtain ⟨b, kk, e1, e2, e3, e4⟩ := hpr i key v e
    exact ⟨kk, e2, e4⟩
  · have hm : (s.heap.objs.size == sysModules) = false := beq_eq_false_iff_ne.mpr (Nat.ne_of_gt I.big)
    have hlen : (mergeK [] kvs).length ≤ sizeLine := by
      refine Nat.le_trans (length_mergeK kvs []) ?_
      rw [List.length_nil, Nat.zero_add, rel.length, hl]
      exact hz
    exact ⟨.ref s.heap.objs.size, upd H s.heap.objs.size (.dK (mergeK [] kvs)), I.laid (t' := tk) (fun b o e => k b o (by simp) e) (Nat.le_refl _) (show ObjOk X.prog X.w _ _ _ (.dK (mergeK [] kvs)) from ⟨hlen, hm, merged [] prs, KV.merge rel .nil, hd'⟩), rfl, q _ (I.hok.fresh (Nat.le_refl _))⟩
end
section
variable [LamTbl]
theorem any_c {α : Type} {p q : α → Bool} {l : List α} (h : ∀ x ∈ l, p x = q x) : l.any p = l.any q := by
  induction l with
  | nil => rfl
  | cons a l ih => rw [List.any_cons, List.any_cons, h a List.mem_cons_self, ih fun x hx => h x (List.mem_cons_of_mem _ hx)]
/-- a tuple of pairs of ints that bears no instance dict, as data -/
abbrev sx (ps : List (Int × Int)) : D := .dict [(.none, .tuple (ps.map prD))]
def unX : D → Option (List (Int × Int))
  | .dict [(.none, .tuple ds)] => asPairs ds
  | _ => none
theorem unX_sx (ps : List (Int × Int)) : unX (sx ps) = some ps := asPairs_map ps
theorem unX_eq {d : D} {ps : List (Int × Int)} (h : unX d = some ps) : d = sx ps := by
  unfold unX at h
  split at h
  · rw [asPairs_eq h]
  · cases h
/-- tuple(list of pairs), known to bear no dict -/
def dTupX : D → Option Sv
  | .list ds => (asPairs ds).map fun ps => .val (sx ps)
  | _ => none
def hasP (ps : List (Int × Int)) (n : Int) : Bool := ps.any fun p => decide (p.1 = n)
/-- the pairs as a dict holds them -/
def putP (ps : List (Int × Int)) (q : Int × Int) : List (Int × Int) := if hasP ps q.1 = true then ps.map (fun p => if p.1 = q.1 then (p.1, q.2) else p) else ps ++ [q]
def dctP (ps : List (Int × Int)) : List (Int × Int) := ps.foldl putP []
def xAt (S : Sl) (i : Nat) : Option (List (Int × Int)) := match S[i]? with
  | some (.val d) => unX d
  | _ => none
def eW (i : Nat) : M Sv := fun S => match xAt S i with
  | some ps => .ok (.val (.tuple (ps.map prD))) S
  | none => .no
/-- sorted(dict(x).items()) -/
def eSrtDct (i : Nat) : M Sv := fun S => match xAt S i with
  | some ps => .ok (.ow ((srtP (dctP ps)).map prD)) S
  | none => .no
/-- k not in dict(x) -/
def tNinDct (i : Nat) (k : M Sv) : M Bool := fun S => (k S).bind fun r S1 => match r, xAt S1 i with
  | .val (.int n), some ps => .ok (!hasP ps n) S1
  | _, _ => .no
abbrev kvV (q : Int × Int) : L2.Key × V := (Sum.inl q.1, V.int q.2)
theorem putK_P (ps : List (Int × Int)) (q : Int × Int) : L2.putK (ps.map kvV) (Sum.inl q.1) (V.int q.2) = (putP ps q).map kvV := by
  have e : ((ps.map kvV).any fun kv => decide (kv.1 = (Sum.inl q.1 : L2.Key))) = hasP ps q.1 := by
    unfold hasP
    rw [List.any_map]
    refine any_c fun p _ => ?_
    exact decide_eq_decide.mpr ⟨fun h => Sum.inl.inj h, fun h => congrArg Sum.inl h⟩
  unfold L2.putK putP
  rw [e]
  by_cases z : hasP ps q.1 = true
  · rw [if_pos z, if_pos z, List.map_map, List.map_map]
    refine List.map_congr_left fun p _ => ?_
    show (if (Sum.inl p.1 : L2.Key) = Sum.inl q.1 then (Sum.inl p.1, V.int q.2) else (Sum.inl p.1, V.int p.2)) = kvV (if p.1 = q.1 then (p.1, q.2) else p)
    by_cases y : p.1 = q.1
    · rw [if_pos y, if_pos (by rw [y])]
    · rw [if_neg y, if_neg fun z => y (Sum.inl.inj z)]
  · rw [if_neg z, if_neg z, List.map_append]
    rfl
theorem mergeK_P : ∀ (ps acc : List (Int × Int)), L2.mergeK (acc.map kvV) (ps.map kvV) = (ps.foldl putP acc).map kvV
  | [], acc => rfl
  | q :: ps, acc => by
    show L2.mergeK (L2.putK (acc.map kvV) (Sum.inl q.1) (V.int q.2)) (ps.map kvV) = _
    rw [putK_P, mergeK_P ps]
    rfl
theorem mergeK_D (ps : List (Int × Int)) : L2.mergeK [] (ps.map kvV) = (dctP ps).map kvV := mergeK_P ps []
theorem mem_putP {ps : List (Int × Int)} {q : Int × Int} {n : Int} : hasP (putP ps q) n = (hasP ps n || decide (q.1 = n)) := by
  unfold putP
  by_cases z : hasP ps q.1 = true
  · rw [if_pos z]
    have e : hasP (ps.map fun p => if p.1 = q.1 then (p.1, q.2) else p) n = hasP ps n := by
      unfold hasP
      rw [List.any_map]
      refine any_c fun p _ => ?_
      show decide ((if p.1 = q.1 then (p.1, q.2) else p).1 = n) = decide (p.1 = n)
      split <;> rfl
    rw [e]
    by_cases y : q.1 = n
    · rw [← y, z]; rfl
    · rw [decide_eq_false y, Bool.or_false]
  · rw [if_neg z]
    unfold hasP
    rw [List.any_append]
    simp
theorem has_dct : ∀ (ps acc : List (Int × Int)) (n : Int), hasP (ps.foldl putP acc) n = (hasP acc n || hasP ps n)
  | [], acc, n => by simp [hasP]
  | q :: ps, acc, n => by
    rw [List.foldl_cons, has_dct ps, mem_putP, Bool.or_assoc]
    rfl
theorem hasP_dct (ps : List (Int × Int)) (n : Int) : hasP (dctP ps) n = hasP ps n := by
  unfold dctP
  rw [has_dct]
  rfl
theorem valV_P (ps : List (Int × Int)) (n : Int) : (L2.valV (ps.map kvV) (Sum.inl n : L2.Key)).isSome = hasP ps n := by
  rw [← L2.valV_any]
  unfold hasP
  rw [List.any_map]
  refine any_c fun p _ => ?_
  exact decide_eq_decide.mpr ⟨fun h => Sum.inl.inj h, fun h => congrArg Sum.inl h⟩
/-- what x stands for -/
theorem sx_rep {K : PySem.W.Frag} {mg : Str → Option Value} {H : Hp} {ps : List (Int × Int)} {v : V} (h : Rep K mg H (sx ps) v) : ∃ a o xs, v = .ref a ∧ H a = some (.frz o (.tup xs)) ∧ o.dict = none ∧ Paired (PrV K H) xs ps := by
  rcases h with ⟨x, a, e, _⟩ | ⟨x, a, c, L, e, _⟩ | ⟨a, o, ks, ts, _, u, _⟩ | ⟨a, o, xs, qs, e, ev, q, hd, r⟩
  · simp at e
  · simp at e
  · cases u
  · have e : [((PyData.none : D), (PyData.tuple (ps.map prD) : D))] = [(PyData.none, PyData.tuple (qs.map prD))] := e
    have e2 : ps.map prD = qs.map prD := by
      simp only [List.cons.injEq, Prod.mk.injEq, PyData.tuple.injEq, and_true, true_and] at e
      exact e
    have e3 : some ps = some qs := by rw [← asPairs_map ps, ← asPairs_map qs, e2]
    cases e3
    exact ⟨a, o, xs, ev, q, hd, r⟩
theorem rep_sx {K : PySem.W.Frag} {mg : Str → Option Value} {H : Hp} {ps : List (Int × Int)} {a : Addr} {o : Obj} {xs : List V} (q : H a = some (.frz o (.tup xs))) (hd : o.dict = none) (r : Paired (PrV K H) xs ps) : Rep K mg H (sx ps) (.ref a) :=
  .inr (.inr (.inr ⟨a, o, xs, ps, rfl, rfl, q, hd, r⟩))
/-- the pairs' addresses -/
theorem refs_of {K : PySem.W.Frag} {H : Hp} : ∀ {xs : List V} {ps : List (Int × Int)}, Paired (PrV K H) xs ps → ∃ as : List Addr, xs = as.map V.ref ∧ Paired (fun p kv => SqT K H p [kV kv.1, kv.2]) as (ps.map kvV)
  | _, _, .nil => ⟨[], rfl, .nil⟩
  | _, _, .cons ⟨t, e, s⟩ r => by
    obtain ⟨as, e2, h⟩ := refs_of r
    exact ⟨t :: as, by rw [e, e2]; rfl, .cons s h⟩
theorem xAt_some {S : Sl} {i : Nat} {ps : List (Int × Int)} (h : xAt S i = some ps) : S[i]? = some (.val (sx ps)) := by
  unfold xAt at h
  split at h
  · rename_i d e
    rw [e, unX_eq h]
  · cases h
end
section
variable [LamTbl] {X : Cx}
/-- tuple(l): what is made bears no dict -/
theorem call_tupleX : CallR X (.type "tuple") (fun xs H Q => ∃ p ys, xs = [.ref p] ∧ SqL X.K H p ys ∧ ∀ l o, H l = none → o.dict = none → Q (.ref l) (upd H l (.frz o (.tup ys)))) := by
  intro pins s σ H xs us Q I r h
  obtain ⟨p, ys, rfl, hq, q⟩ := h
  obtain ⟨u, rfl, rx⟩ := vals1 r
  cases rx
  obtain ⟨its, r', pl, hz⟩ := I.list hq
  have hlen := r'.length
  refine call_tuple_list pl.isList (fun h' kp => ?_) (by simp only [List.size_toArray] <;> omega)
  have I1 : Inv X pins σ H { s with heap := h' } := I.kept (t' := s.toks) kp
  have I2 : Inv X pins σ (upd H h'.objs.size (.frz { cls := .type "tuple", data := .seq its.toArray } (.tup ys))) { s with heap := h'.push { cls := .type "tuple", data := .seq its.toArray } } :=
    I1.laid (t' := s.toks) (fun b o e => Heap.get?_push_of_some _ e) (Nat.le_refl _) (show ObjOk X.prog X.w _ _ _ (.frz _ (.tup ys)) from ⟨Heap.get?_push_size _ rfl, hz, its, r', IsTup.new _ _⟩)
  exact ⟨.ref h'.objs.size, _, I2, rfl, q _ _ (I1.hok.fresh (Nat.le_refl _)) rfl⟩
theorem cl_tupX {K : PySem.W.Frag} {mg : Str → Option Value} : Cl1 K mg dTupX (fun xs H Q => ∃ p ys, xs = [.ref p] ∧ SqL K H p ys ∧ ∀ l o, H l = none → o.dict = none → Q (.ref l) (upd H l (.frz o (.tup ys)))) := by
  intro H x d res Q hf hx q
  match d, hf with
  | .list ds, hf =>
    simp only [dTupX] at hf
    cases hn : asPairs ds with
    | none => rw [hn] at hf; cases hf
    | some ps =>
      rw [hn] at hf
      cases hf
      obtain ⟨a, vs, rfl, sa, ra⟩ := hx.list
      rw [asPairs_eq hn] at ra
      refine ⟨a, vs, rfl, sa.sq, fun l o nl hd => ?_⟩
      exact q _ _ (same_upd nl) (rep_sx upd_same hd (repL_pairs.mp (RepL.mono (Mono.of_same (same_upd nl)) _ ra)))
end
section
variable [LamTbl] {X : Cx} {F : Fx} {E : XK} {pos p p2 p3 p4 p5 p6 : Pos} {x : Str} {a k : Expr} {oa : Od} {mk : M Sv}
theorem f_tupX (hm : X.mg "tuple" = none) (ha : AO X F E a oa) (hg : Gl X "tuple" := by rfl) (he : starEach (a :: []) X.env = (false, eval a X.env) :: starEach [] X.env := by rfl) : AE X F E (.Call (.Name "tuple" p) [a] [] pos) (eOp1 dTupX oa) :=
  a_t1 call_tupleX cl_tupX hg hm (by decide +kernel) ha (by decide) (by decide) he rfl
/-- x, read as a tuple -/
theorem a_w (i : Nat) (hN : X.N[i]? = some x := by rfl) (hv : Vis X.env.scope x := by first | exact Or.inl rfl | exact Or.inr (Or.inl rfl) | exact Or.inr (Or.inr rfl)) (hd : (x == ("__debug__" : Str)) = false := by decide) (hcd : (x == ("__classdict__" : Str)) = false := by decide) : AE X F E (.Name x pos) (eW i) := by
  refine PE_imp (pe_var hN hv hd hcd) fun σ H Q ⟨S, st, q⟩ => ?_
  unfold eW at q
  cases e1 : xAt S i with
  | none => rw [e1] at q; exact q.elim
  | some ps =>
    rw [e1] at q
    obtain ⟨v, ev, rv⟩ := st.at_ i _ (xAt_some e1)
    obtain ⟨a, o, xs, rfl, ha, hd, hp⟩ := sx_rep rv
    exact ⟨.ref a, ev, q _ H (Go.refl st) ⟨a, xs, rfl, .inl (.inr ⟨o, ha⟩), repL_pairs.mpr hp⟩⟩
theorem tabR_kv {K : PySem.W.Frag} {mg : Str → Option Value} {H : Hp} (ps : List (Int × Int)) : (dctP ps).map kvV = (dctP ps).map (fun q => (Sum.inl q.1, V.int q.2)) := rfl
/-- sorted(dict(x).items()) -/
theorem a_srtDct (i : Nat) (hm : X.mg "sorted" = none) (hm2 : X.mg "dict" = none) (hc : X.calm = true := by rfl) (hN : X.N[i]? = some x := by rfl) (hv : Vis X.env.scope x := by first | exact Or.inl rfl | exact Or.inr (Or.inl rfl) | exact Or.inr (Or.inr rfl)) (hg : Gl X "sorted" := by rfl) (hg2 : Gl X "dict" := by rfl)
    (hd : (x == ("__debug__" : Str)) = false := by decide) (hcd : (x == ("__classdict__" : Str)) = false := by decide)
    (hbase : attributeBase (.Call (.Name "dict" p) [.Name x p2] [] p3) "items" X.env (eval (.Call (.Name "dict" p) [.Name x p2] [] p3) X.env) = eval (.Call (.Name "dict" p) [.Name x p2] [] p3) X.env := by rfl) (hline : (p4.endLine == p5.line) = true := by rfl)
    (hs1 : starEach (.Name x p2 :: []) X.env = (false, eval (.Name x p2) X.env) :: starEach [] X.env := by rfl)
    (hs2 : starEach (.Call (.Attribute (.Call (.Name "dict" p) [.Name x p2] [] p3) "items" p4) [] [] p5 :: []) X.env = (false, eval (.Call (.Attribute (.Call (.Name "dict" p) [.Name x p2] [] p3) "items" p4) [] [] p5) X.env) :: starEach [] X.env := by rfl) :
    AE X F E (.Call (.Name "sorted" p6) [.Call (.Attribute (.Call (.Name "dict" p) [.Name x p2] [] p3) "items" p4) [] [] p5] [] pos) (eSrtDct i) := by
  refine PE_imp (pe_callB (cr_sitemsK hc) hg hm (by decide +kernel) (pa_cons (pe_mG0 ty_dk PySem.F.plainAttrs_dict PySem.F.slot_dict_items PySem.F.type_dict_items mt_itemsK (pe_callTy (call_dictTX hc) hg2 hm2 (by decide +kernel) (pa_cons (pe_var hN hv hd hcd) pa_nil hs1) (by decide) (by decide) hs1 rfl) hbase hline) pa_nil hs2) (by decide) (by decide) hs2 rfl) fun σ H Q ⟨S, st, q⟩ => ?_
  unfold eSrtDct at q
  cases e1 : xAt S i with
  | none => rw [e1] at q; exact q.elim
  | some ps =>
    rw [e1] at q
    obtain ⟨v, ev, rv⟩ := st.at_ i _ (xAt_some e1)
    obtain ⟨a, o, xs, rfl, ha, hd, hp⟩ := sx_rep rv
    obtain ⟨as, rfl, hpr⟩ := refs_of hp
    refine ⟨.ref a, ev, a, o, as, ps.map kvV, rfl, ha, hd, hpr, fun b nb => ?_⟩
    rw [mergeK_D]
    have sb : Same H (upd H b (.dK ((dctP ps).map kvV))) := same_upd nb
    refine ⟨⟨b, _, rfl, upd_same⟩, b, _, rfl, rfl, upd_same, fun p np => ?_⟩
    have pb : b ≠ p := fun z => by rw [← z, upd_same] at np; cases np
    refine ⟨p, b, _, dctP ps, rfl, upd_same, by rw [upd_ne pb]; exact upd_same, rfl, fun H' l ys kk nl el hy => ?_⟩
    have sm : Same H H' := fun c u e => kk c u (by rw [upd_ne (fun z => by rw [z] at e; rw [sb p u e] at np; cases np)]; exact sb c u e)
    have nl' : H l = none := by
      cases hl : H l with
      | none => rfl
      | some u =>
        have := sb l u hl
        rw [upd_ne (fun z => by rw [z] at this; rw [np] at this; cases this), this] at nl
        cases nl
    exact q (.ref l) _ (Go.of_same st sm) ⟨l, rfl, nl', l, _, rfl, el, repL_pairs.mpr hy⟩
/-- k not in dict(x) -/
theorem at_ninDct {N : Nat} (i : Nat) (hr : Room N X.A) (hm2 : X.mg "dict" = none) (hk : AE X F E k mk) (hc : X.calm = true := by rfl) (hN : X.N[i]? = some x := by rfl) (hv : Vis X.env.scope x := by first | exact Or.inl rfl | exact Or.inr (Or.inl rfl) | exact Or.inr (Or.inr rfl)) (hg2 : Gl X "dict" := by rfl)
    (hd : (x == ("__debug__" : Str)) = false := by decide) (hcd : (x == ("__classdict__" : Str)) = false := by decide)
    (hs1 : starEach (.Name x p2 :: []) X.env = (false, eval (.Name x p2) X.env) :: starEach [] X.env := by rfl) (hbm : behindInMarks .NotIn (.Call (.Name "dict" p) [.Name x p2] [] p3) = false := by rfl) :
    AT X F E (.Compare k [.NotIn] [.Call (.Name "dict" p) [.Name x p2] [] p3] pos) (tNinDct i mk) := by
  refine PT_imp (pt_cmp (pc_dnotin (hu_of hr) hk (pe_callTy (call_dictTX hc) hg2 hm2 (by decide +kernel) (pa_cons (pe_var hN hv hd hcd) pa_nil hs1) (by decide) (by decide) hs1 rfl)) hbm) fun σ H Q ⟨S, st, q⟩ => ?_
  refine ⟨S, st, ?_⟩
  unfold tNinDct at q
  cases em : mk S with
  | no => rw [em] at q; exact q
  | ex c S1 => rw [em] at q; exact q
  | ok r S1 =>
    rw [em] at q
    simp only [Res.bind] at q
    intro v H1 g rv
    match r, q, rv with
    | .val (.int n), q, rv =>
      have rv : v = .int n := rv
      subst rv
      cases e1 : xAt S1 i with
      | none => rw [e1] at q; exact q.elim
      | some ps =>
        rw [e1] at q
        simp only at q
        obtain ⟨w, ew, rw'⟩ := g.rst.at_ i _ (xAt_some e1)
        obtain ⟨a, o, xs, rfl, ha, hd, hp⟩ := sx_rep rw'
        obtain ⟨as, rfl, hpr⟩ := refs_of hp
        refine ⟨.ref a, ew, a, o, as, ps.map kvV, rfl, ha, hd, hpr, fun b nb => ?_⟩
        rw [mergeK_D]
        refine ⟨b, _, rfl, DGet.k (k := Sum.inl n) upd_same, !hasP ps n, ?_, ?_⟩
        · rw [valV_P, hasP_dct]
        · exact q _ (g.trans (Go.of_same g.rst (same_upd nb)))
end
section
variable [LamTbl] {S : Sl} {i : Nat} {m : M Sv}
def sxk (s : Sv) (k : List (Int × Int) → Prop) : Prop := match s with
  | .val d => ∃ ps, unX d = some ps ∧ k ps
  | _ => False
theorem sxk_x {ps : List (Int × Int)} {k : List (Int × Int) → Prop} : sxk (.val (sx ps)) k = k ps := by
  show (∃ qs, unX (sx ps) = some qs ∧ k qs) = k ps
  rw [unX_sx]
  simp
theorem xAtE {k : List (Int × Int) → Prop} : (match xAt S i with | some ps => k ps | none => False) = sg S i fun s => sxk s k := by
  rw [sg_iff]
  unfold xAt
  cases S[i]? with
  | none => simp
  | some s =>
    cases s with
    | val d =>
      simp only [Option.some.injEq, exists_eq_left', sxk]
      cases unX d <;> simp
    | _ => simp [sxk]
theorem Ok_eW {Q : Sv → Sl → Prop} : Ok (eW i S) Q = sg S i fun s => sxk s fun ps => Q (.val (.tuple (ps.map prD))) S := by
  rw [← xAtE]
  unfold eW
  cases xAt S i with
  | none => exact Ok_no
  | some ps => exact Ok_ok
theorem Ok_srtDct {Q : Sv → Sl → Prop} : Ok (eSrtDct i S) Q = sg S i fun s => sxk s fun ps => Q (.ow ((srtP (dctP ps)).map prD)) S := by
  rw [← xAtE]
  unfold eSrtDct
  cases xAt S i with
  | none => exact Ok_no
  | some ps => exact Ok_ok
def ink (s : Sv) (k : Int → Prop) : Prop := match s with
  | .val (.int n) => k n
  | _ => False
theorem ink_i {n : Int} {k : Int → Prop} : ink (.val (.int n)) k = k n := rfl
theorem Ok_ninDct {Q : Bool → Sl → Prop} : Ok (tNinDct i m S) Q = Ok (m S) fun r S1 => ink r fun n => sg S1 i fun s => sxk s fun ps => Q (!hasP ps n) S1 := by
  unfold tNinDct
  rw [Ok_bind]
  congr 1
  funext r S1
  cases r with
  | val d =>
    cases d with
    | int n =>
      rw [ink_i, ← xAtE]
      cases xAt S1 i with
      | none => exact Ok_no
      | some ps => exact Ok_ok
    | _ => exact Ok_no
  | _ => exact Ok_no
theorem op_tupX {ps : List (Int × Int)} {k : Sv → Prop} : op1 dTupX (.list (ps.map prD)) k = k (.val (sx ps)) := by
  unfold op1 dTupX
  simp only [asPairs_map, Option.map_some]
end
end Rc

/-! Rc: a, b = x, y where a comprehension captures a or b; own lists stay own. -/
namespace Rc
open PySem PySem.Spec PyProof.Rows L2
variable [LamTbl]
section
variable {X : Cx} {F : Fx} {E : XK} {pos : Pos}
theorem s_parC (i j : Nat) {x y : Str} {a b : Expr} {ma mb : M Sv} {px py pt : Pos} {kt k2 pt2} (hbi : F.brw i = none) (hbj : F.brw j = none) (hc : X.calm = true) (hN : X.N.Nodup) (ha : AE X F E a ma) (hb : AE X F E b mb) (hi : X.N[i]? = some x := by rfl) (hj : X.N[j]? = some y := by rfl) (hij : i ≠ j := by decide)
    (hx : Loc X.env.scope x := by first | exact Or.inl rfl | exact Or.inr rfl) (hfx : X.fn x = true ∨ X.env.scope.names.lookup x = some .local := by first | exact .inl rfl | exact .inr rfl)
    (hy : Loc X.env.scope y := by first | exact Or.inl rfl | exact Or.inr rfl) (hfy : X.fn y = true ∨ X.env.scope.names.lookup y = some .local := by first | exact .inl rfl | exact .inr rfl)
    (hw : swappedStores [.Tuple [.Name x px, .Name y py] kt pt] (.Tuple [a, b] k2 pt2) X.env = pure none := by rfl)
    (hs : swapsWithSole [.Tuple [.Name x px, .Name y py] kt pt] (.Tuple [a, b] k2 pt2) pos.line X.env = pure false := by rfl)
    (h1 : (assignEach [.Tuple [.Name x px, .Name y py] kt pt] X.env).map (·.2) = [assign (.Tuple [.Name x px, .Name y py] kt pt) X.env] := by rfl)
    (hs1 : starEach [a, b] X.env = (false, eval a X.env) :: starEach [b] X.env := by rfl) (hs2 : starEach (b :: []) X.env = (false, eval b X.env) :: starEach [] X.env := by rfl)
    (hn : (assignEach [.Name x px, .Name y py] X.env).length = 2 := by rfl) (hst : (assignEach [.Name x px, .Name y py] X.env).findIdx? (·.1) = none := by rfl)
    (ht1 : (assignEach [.Name x px, .Name y py] X.env).map (·.2) = assign (.Name x px) X.env :: (assignEach [.Name y py] X.env).map (·.2) := by rfl) (ht2 : (assignEach [.Name y py] X.env).map (·.2) = assign (.Name y py) X.env :: (assignEach [] X.env).map (·.2) := by rfl) :
    AS X F E (.Assign [.Tuple [.Name x px, .Name y py] kt pt] (.Tuple [a, b] k2 pt2) pos) (sPar i j ma mb) := by
  refine PS_imp (ps_asg (pe_tup (pa_cons ha (pa_cons hb pa_nil hs2) hs1)) (pg_tup (n := 2) hc (pgs_cons (pg_name hN hi hx hfx) (pgs_cons (pg_name hN hj hy hfy) pgs_nil ht2) ht1) hn hst) hs hw h1) fun C σ H ⟨S, st, q⟩ => ⟨S, st, ?_⟩
  have q : OutS X.K X.mg F E C H ((ma S).bind fun x S1 => (mb S1).bind fun y S2 => match x, y with
    | .un, _ => .no
    | _, .un => .no
    | x, y => .ok .nx ((S2.set i x).set j y)) := q
  cases e1 : ma S with
  | no => rw [e1] at q; exact q
  | ex k S1 => rw [e1] at q; exact fun cls d H' r e => q cls d σ H' r e
  | ok r1 S1 =>
    rw [e1] at q
    simp only [Res.bind] at q
    intro v1 H1 g1 rr1
    refine ⟨S1, g1.rst, ?_⟩
    cases e2 : mb S1 with
    | no => rw [e2] at q; exact q
    | ex k S2 => rw [e2] at q; exact fun cls d H' r e => q cls d σ H' r e
    | ok r2 S2 =>
      rw [e2] at q
      simp only at q
      intro v2 H2 g2 rr2
      refine ⟨show 2 ≤ sizeLine by rw [sizeLine_eq]; decide, fun p np => ?_⟩
      have g := g1.trans g2
      have s1 : RepR X.K X.mg H H2 r1 v1 := rr1.stay st g1 g2
      have st1 := st.storeR g hbi s1
      -- the second value, behind the first store
      have n0 : ∀ a, H1 a = none → F.H0 a = none := fun a n => by
        cases z : F.H0 a with
        | none => rfl
        | some u => exact absurd n (g1.rst.dom a (by rw [z]; exact fun z => by cases z))
      have no2 : ∀ a, H1 a = none → ¬ Owns (σ.set i (some v1)) (S2.set i r1) a := fun a n ⟨l, t, h1, h2, h3⟩ => by
        by_cases hl : l = i
        · subst hl
          by_cases hlen : l < S2.length
          · rw [List.getElem?_set_self hlen] at h1
            have h1 := Option.some.inj h1
            subst h1
            have hl2 : l < σ.length := by
              have := g.rst.len
              omega
            rw [List.getElem?_set_self hl2] at h3
            have h3 := Option.some.inj (Option.some.inj h3)
            subst h3
            -- v1 lay in H1 already
            have : H1 a ≠ none := by
              cases r1 with
              | un => cases h2
              | val d => cases h2
              | ow ds => obtain ⟨_, e, _, _, _, e4, e5, _⟩ := rr1; cases e; cases e4; rw [e5]; exact fun z => by cases z
              | dki ds => obtain ⟨_, e, _, _, _, e4, e5, _⟩ := rr1; cases e; cases e4; rw [e5]; exact fun z => by cases z
              | dkt ds => obtain ⟨_, e, _, _, _, e4, e5, _⟩ := rr1; cases e; cases e4; rw [e5]; exact fun z => by cases z
            exact this n
          · rw [List.getElem?_eq_none (by rw [List.length_set]; omega)] at h1; cases h1
        · rw [List.getElem?_set_ne (Ne.symm hl)] at h1 h3
          exact g1.rst.fresh_not n (g2.sub a ⟨l, t, h1, h2, h3⟩)
      have fin : RSt X.K X.mg F ((σ.set i (some v1)).set j (some v2)) H2 ((S2.set i r1).set j r2) := by
        cases r2 with
        | un => exact rr2.elim
        | val d => exact st1.store hbj ⟨v2, rfl, rr2⟩ fun a m => by cases m
        | ow ds =>
          obtain ⟨a, rfl, n, x⟩ := rr2
          exact st1.store hbj x fun b _ e => by cases e; exact ⟨n0 a n, no2 a n⟩
        | dki ds =>
          obtain ⟨a, rfl, n, x⟩ := rr2
          exact st1.store hbj x fun b _ e => by cases e; exact ⟨n0 a n, no2 a n⟩
        | dkt ds =>
          obtain ⟨a, rfl, n, x⟩ := rr2
          exact st1.store hbj x fun b _ e => by cases e; exact ⟨n0 a n, no2 a n⟩
      have sm : Same H2 (upd H2 p (.tup [v1, v2])) := same_upd np
      have fin2 := fin.grow sm
      have mo := (g.mono st).trans (Mono.of_same sm)
      refine ⟨p, [v1, v2], rfl, SqT.of upd_same, rfl, v1, [v2], rfl, v2, [], rfl, rfl, ?_⟩
      cases r1 with
      | un => exact rr1.elim
      | val d1 => cases r2 <;> first | exact rr2.elim | exact q _ _ fin2 mo
      | ow d1 => cases r2 <;> first | exact rr2.elim | exact q _ _ fin2 mo
      | dki d1 => cases r2 <;> first | exact rr2.elim | exact q _ _ fin2 mo
      | dkt d1 => cases r2 <;> first | exact rr2.elim | exact q _ _ fin2 mo
end
end Rc

/-! Rc: list(range(n)), range(a, b, -1) as a walk, chains of three comparisons. -/
namespace Rc
open PySem PySem.Spec PyProof.Rows L2
variable [LamTbl]
/-! ### list(range(n)) -/
def dLRng : D → Option Sv
  | .int b => if rngOk 0 b = true then some (.ow (numsD 0 b.toNat)) else none
  | _ => none
theorem numsD_ints (lo : Int) (n : Nat) : numsD lo n = ((List.range n).map fun i : Nat => lo + (i : Int)).map PyData.int := by
  unfold numsD
  rw [List.map_map]
  rfl
theorem rgV_ints (b : Int) : rgV 0 b = ((List.range b.toNat).map fun i : Nat => 0 + (i : Int)).map V.int := by
  unfold rgV
  rw [List.map_map, Int.sub_zero]
  rfl
theorem op1_lrng {K : PySem.W.Frag} {mg : Str → Option Value} : Op1 K mg dLRng (fun x H Q => ∃ n, x = .int n ∧ RgOk 0 n ∧ ∀ q, H q = none → Q (.ref q) (upd H q (.lst (rgV 0 n)))) := by
  intro H x d res Q hf hx q
  match d, hf with
  | .int b, hf =>
    simp only [dLRng] at hf
    by_cases hr : rngOk 0 b = true
    case neg => rw [if_neg hr] at hf; cases hf
    rw [if_pos hr] at hf
    cases hf
    have ex : x = V.int b := hx.int
    subst ex
    have h := of_decide_eq_true hr
    refine ⟨b, rfl, ⟨by omega, by omega, by omega, by omega, by omega⟩, fun p np => ?_⟩
    refine q _ _ (same_upd np) ⟨p, rfl, np, p, _, rfl, upd_same, ?_⟩
    rw [numsD_ints, rgV_ints]
    exact repL_ints _
section
variable {X : Cx} {F : Fx} {E : XK} {a b c d : Expr} {oa ob oc od : Od} {p p2 q pos : Pos}
theorem a_lrng (hm : X.mg "list" = none) (hm2 : X.mg "range" = none) (ha : AO X F E a oa) (hc : X.calm = true := by rfl) (hg : Gl X "list" := by rfl) (hg2 : Gl X "range" := by rfl) (na : starEach [a] X.env = (false, eval a X.env) :: starEach [] X.env := by rfl)
    (na2 : starEach [.Call (.Name "range" p2) [a] [] q] X.env = (false, eval (.Call (.Name "range" p2) [a] [] q) X.env) :: starEach [] X.env := by rfl) :
    AE X F E (.Call (.Name "list" p) [.Call (.Name "range" p2) [a] [] q] [] pos) (eOp1 dLRng oa) :=
  PE_imp (pe_listRg hc hg hm (prg_1 hg2 hm2 ha na) na2) (imp1 op1_lrng oa)
end
theorem op_lrng {b : Int} {k : Sv → Prop} : op1 dLRng (.int b) k = (rngOk 0 b = true ∧ k (.ow (numsD 0 b.toNat))) := by
  unfold op1 dLRng
  by_cases h : rngOk 0 b = true <;> simp [h]

/-! ### a op b op c op d -/
def eChain3 (f g h : D → D → Option Sv) (a b c d : Od) : M Sv := fun S => (evS a S).bind fun x S1 => (evS b S1).bind fun y S2 => match f x y with
  | some (.val (.bool true)) => (evS c S2).bind fun z S3 => match g y z with
    | some (.val (.bool true)) => (evS d S3).bind fun w S4 => lift (h z w) S4
    | some (.val (.bool false)) => .ok (.val (.bool false)) S3
    | _ => .no
  | some (.val (.bool false)) => .ok (.val (.bool false)) S2
  | _ => .no
def tChain3 (r r' r2 : R2) (ta tb tc td : TE) : TE := fun σ H Q => ta σ H fun x H1 => tb σ H1 fun y H2 => r x y H2 fun z H3 => ∃ k, z = .bl k ∧
  (if k = true then tc σ H3 fun w H4 => r' y w H4 fun z2 H5 => ∃ k2, z2 = .bl k2 ∧ (if k2 = true then td σ H5 fun u H6 => r2 w u H6 Q else Q (.bl false) H5) else Q (.bl false) H3)
section
variable {X : Cx} {F : Fx} {E : XK} {a b c d : Expr} {oa ob oc od : Od} {p p2 q pos : Pos} {ta tb tc td : TE}
theorem pt_chain3 {op op' op2 : CmpOp} {r r' r2 : R2} (ho : OpR X (compareOp op) r) (ho' : OpR X (compareOp op') r') (ho2 : OpR X (compareOp op2) r2) (ha : PE X a ta) (hb : PE X b tb) (hc : PE X c tc) (hd : PE X d td)
    (hm : lastMarks [op, op', op2] [b, c, d] = false := by with_unfolding_all rfl) : PT X (.Compare a [op, op', op2] [b, c, d] pos) (tTest (tChain3 r r' r2 ta tb tc td)) := by
  refine ⟨fun pins s σ H Q I h => ?_⟩
  refine isTrue_chain (thn (ha.run pins s σ H _ I h) fun v s1 ⟨x, H1, I1, r1, q1⟩ => test_link (thn (hb.run pins s1 σ H1 _ I1 q1) fun u s2 ⟨y, H2, I2, r2, q2⟩ =>
    thn (ho pins s2 σ H2 x y v u _ I2 r1 r2 q2) fun d s3 ⟨z, H3, I3, r3, k, e, q3⟩ => ?_)) hm
  subst e
  cases r3
  refine wpAny_truthy_bool ?_
  cases k with
  | false =>
    obtain ⟨k', e', q'⟩ := q3
    cases e'
    exact ite_ff ⟨H3, I3, q'⟩
  | true =>
    refine ite_tt (test_link (thn (hc.run pins s3 σ H3 _ I3 q3) fun w' s4 ⟨z', H4, I4, r4, q4⟩ => thn (ho' pins s4 σ H4 y z' u w' _ I4 r2 r4 q4) fun d' s5 ⟨z2, H5, I5, r5, k2, e2, q5⟩ => ?_))
    subst e2
    cases r5
    refine wpAny_truthy_bool ?_
    cases k2 with
    | false =>
      obtain ⟨k', e', q'⟩ := q5
      cases e'
      exact ite_ff ⟨H5, I5, q'⟩
    | true =>
      refine ite_tt (test_last (thn (hd.run pins s5 σ H5 _ I5 q5) fun w2 s6 ⟨z6, H6, I6, r6, q6⟩ => thn (ho2 pins s6 σ H6 z' z6 w' w2 _ I6 r4 r6 q6) fun d2 s7 ⟨z7, H7, I7, r7, k7, e7, q7⟩ => ?_))
      subst e7
      cases r7
      exact wpAny_truthy_bool ⟨H7, I7, q7⟩
theorem chain3_imp {K : PySem.W.Frag} {mg : Str → Option Value} {f g h : D → D → Option Sv} {r r' r2 : R2} {oa ob oc od : Od} (hf : Op2 K mg f r) (hg : Op2 K mg g r') (hh : Op2 K mg h r2) : ∀ σ H Q, tOf K mg F E (eChain3 f g h oa ob oc od) σ H Q →
    tChain3 r r' r2 (tOfF K mg F E (evS oa)) (tOfF K mg F E (evS ob)) (tOfF K mg F E (evS oc)) (tOfF K mg F E (evS od)) σ H Q := by
  intro σ H Q ⟨S, st, q⟩
  refine ⟨S, st, ?_⟩
  unfold eChain3 at q
  cases ea : evS oa S with
  | no => rw [ea] at q; exact q.elim
  | ex k S1 => rw [ea] at q; exact q
  | ok x S1 =>
    rw [ea] at q
    simp only [Res.bind] at q
    intro v1 H1 g1 f1 r1
    refine ⟨S1, g1.rst, ?_⟩
    cases eb : evS ob S1 with
    | no => rw [eb] at q; exact q.elim
    | ex k S2 => rw [eb] at q; exact q
    | ok y S2 =>
      rw [eb] at q
      simp only at q
      intro v2 H2 g2 f2 r2
      cases ef : f x y with
      | none => rw [ef] at q; exact q.elim
      | some res =>
        rw [ef] at q
        refine hf H2 v1 v2 x y res _ ef (.inl (Rep.flat_any f1 r1)) (.inl r2) fun z H3 sm rr => ?_
        have g12 := (g1.trans g2).trans (Go.of_same g2.rst sm)
        match res, q, rr with
        | .val (.bool false), q, rr =>
          refine ⟨false, rr, ?_⟩
          simp only [Bool.false_eq_true, if_false] at q ⊢
          exact q _ H3 g12 rfl
        | .val (.bool true), q, rr =>
          refine ⟨true, rr, ?_⟩
          simp only [if_true] at q ⊢
          refine ⟨S2, g12.rst, ?_⟩
          cases ec : evS oc S2 with
          | no => rw [ec] at q; exact q.elim
          | ex k S3 => rw [ec] at q; exact q
          | ok w S3 =>
            rw [ec] at q
            simp only at q
            intro v3 H4 g3 f3 r3
            cases eg : g y w with
            | none => rw [eg] at q; exact q.elim
            | some res2 =>
              rw [eg] at q
              refine hg H4 v2 v3 y w res2 _ eg (.inl (Rep.flat_any f2 r2)) (.inl r3) fun z2 H5 sm2 rr2 => ?_
              have g15 := (g12.trans g3).trans (Go.of_same g3.rst sm2)
              match res2, q, rr2 with
              | .val (.bool false), q, rr2 =>
                refine ⟨false, rr2, ?_⟩
                simp only [Bool.false_eq_true, if_false] at q ⊢
                exact q _ H5 g15 rfl
              | .val (.bool true), q, rr2 =>
                refine ⟨true, rr2, ?_⟩
                simp only [if_true] at q ⊢
                refine ⟨S3, g15.rst, ?_⟩
                cases ed : evS od S3 with
                | no => rw [ed] at q; exact q.elim
                | ex k S4 => rw [ed] at q; exact q
                | ok w4 S4 =>
                  rw [ed] at q
                  simp only at q
                  intro v4 H6 g4 f4 r4
                  cases eh : h w w4 with
                  | none => rw [eh] at q; exact q.elim
                  | some res3 =>
                    rw [eh] at q
                    exact hh H6 v3 v4 w w4 res3 _ eh (.inl (Rep.flat_any f3 r3)) (.inl r4) fun z3 H7 sm3 rr3 => q z3 H7 ((g15.trans g4).trans (Go.of_same g4.rst sm3)) (rr3.cast (g15.trans g4).dm)
theorem at_chain3 {op op' op2 : CmpOp} {r r' r2 : R2} {f g h : D → D → Option Sv} (ho : OpR X (compareOp op) r) (hf : Op2 X.K X.mg f r) (ho' : OpR X (compareOp op') r') (hg : Op2 X.K X.mg g r') (ho2 : OpR X (compareOp op2) r2) (hh : Op2 X.K X.mg h r2)
    (ha : AO X F E a oa) (hb : AO X F E b ob) (hc : AO X F E c oc) (hd : AO X F E d od)
    (hm : lastMarks [op, op', op2] [b, c, d] = false := by with_unfolding_all rfl) : AT X F E (.Compare a [op, op', op2] [b, c, d] pos) (Rc.tB (eChain3 f g h oa ob oc od)) :=
  PT_imp (pt_chain3 ho ho' ho2 (af_of ha) (af_of hb) (af_of hc) (af_of hd) hm) (tB_imp (chain3_imp hf hg hh))
end
/-- behind a chain's second comparison -/
def ck3 (d : Od) (h : D → D → Option Sv) (z : D) (S : Sl) (Q : Sv → Sl → Prop) : Sv → Prop
  | .val (.bool b) => if b = true then Ok (evS d S) (fun w S4 => op2 h z w fun r => Q r S4) else Q (.val (.bool false)) S
  | _ => False
theorem ck3_b {d : Od} {h : D → D → Option Sv} {z : D} {S : Sl} {Q : Sv → Sl → Prop} {b : Bool} : ck3 d h z S Q (.val (.bool b)) = if b = true then Ok (evS d S) (fun w S4 => op2 h z w fun r => Q r S4) else Q (.val (.bool false)) S := rfl
def ck4 (c d : Od) (g h : D → D → Option Sv) (y : D) (S : Sl) (Q : Sv → Sl → Prop) : Sv → Prop
  | .val (.bool b) => if b = true then Ok (evS c S) (fun z S3 => op2 g y z (ck3 d h z S3 Q)) else Q (.val (.bool false)) S
  | _ => False
theorem ck4_b {c d : Od} {g h : D → D → Option Sv} {y : D} {S : Sl} {Q : Sv → Sl → Prop} {b : Bool} : ck4 c d g h y S Q (.val (.bool b)) = if b = true then Ok (evS c S) (fun z S3 => op2 g y z (ck3 d h z S3 Q)) else Q (.val (.bool false)) S := rfl
theorem Ok_eChain3 {f g h : D → D → Option Sv} {a b c d : Od} {S : Sl} {Q : Sv → Sl → Prop} : Ok (eChain3 f g h a b c d S) Q = Ok (evS a S) fun x S1 => Ok (evS b S1) fun y S2 => op2 f x y (ck4 c d g h y S2 Q) := by
  with_unfolding_all
  unfold eChain3
  simp only [Ok_bind]
  congr 1
  funext x S1
  congr 1
  funext y S2
  unfold op2
  cases f x y with
  | none => rfl
  | some r =>
    simp only
    unfold ck4
    split
    · rename_i e
      cases e
      simp only [if_true, Ok_bind]
      congr 1
      funext z S3
      unfold op2
      cases g y z with
      | none => rfl
      | some r2 =>
        simp only
        unfold ck3
        split
        · rename_i e
          cases e
          simp only [if_true, Ok_bind]
          congr 1
          funext w S4
          rw [Ok_lift]
          rfl
        · rename_i e
          cases e
          rfl
        · rename_i h1 h2
          split
          · rename_i b
            cases b
            · exact absurd rfl h2
            · exact absurd rfl h1
          · rfl
    · rename_i e
      cases e
      rfl
    · rename_i h1 h2
      split
      · rename_i b
        cases b
        · exact absurd rfl h2
        · exact absurd rfl h1
      · rfl

/-! ### range(a, b, -1) -/
def numsM (lo : Int) (n : Nat) : List D := (List.range n).map fun i : Nat => PyData.int (lo - i)
def rngMOk (lo hi : Int) : Bool := decide (-4611686018427387904 ≤ lo ∧ lo < 4611686018427387904 ∧ -4611686018427387904 ≤ hi ∧ hi < 4611686018427387904 ∧ lo - hi ≤ 16777216)
def dRngM (lo hi c : D) : Option (List D) := match lo, hi, c with
  | .int a, .int b, .int c => if c = -1 ∧ rngMOk a b = true then some (numsM a (a - b).toNat) else none
  | _, _, _ => none
def wRngM (a b c : M Sv) : M (List D) := fun S => (datum a S).bind fun p S1 => (datum b S1).bind fun q S2 => (datum c S2).bind fun r S3 => ofOpt (dRngM p q r) S3
theorem wk_rngM {K : PySem.W.Frag} {mg : Str → Option Value} {H : Hp} (lo : Int) (n : Nat) (z : n ≤ sizeLine) : Wk K mg (Itc lo (-1) n) H (numsM lo n) where
  go := fun i H1 m h => by
    show i < n
    simpa [numsM] using h
  stop := fun H1 m => by
    show n ≤ (numsM lo n).length
    simp [numsM]
  yld := fun i H1 x H' m h ⟨e1, e2⟩ => by
    subst e1 e2
    have h' : i < n := by simpa [numsM] using h
    refine ⟨Same.refl _, .int (lo - i), ?_, ?_⟩
    · unfold numsM
      rw [List.getElem?_map, List.getElem?_range h']
      rfl
    · have e : lo + (i : Int) * (-1) = lo - i := by omega
      rw [e]
      rfl
  size := by simpa [numsM] using z
section
variable {X : Cx} {F : Fx} {E : XK} {a b c tg : Expr} {m n o : M Sv} {p pos : Pos}
theorem w_rangeM (hm : X.mg "range" = none) (ha : AL X F E [a, b, c] (evL [m, n, o])) (hg : Gl X "range" := by rfl)
    (hs : starEach [a, b, c] X.env = (false, eval a X.env) :: starEach [b, c] X.env := by rfl) (hpl : (backTo pos (starEach [b, c] X.env)).any (·.1) = false := by rfl) :
    AI X F E tg (.Call (.Name "range" p) [a, b, c] [] pos) (wRngM m n o) := by
  refine PI_imp (pi_range3 hg hm ha hs hpl) fun σ H R ⟨S, st, q⟩ => ⟨S, st, ?_⟩
  unfold wRngM at q
  rw [evL_3]
  cases e1 : datum m S with
  | no => rw [e1] at q; exact q.elim
  | ex k S1 => rw [e1] at q; exact q
  | ok d1 S1 =>
    rw [e1] at q
    simp only [Res.bind] at q ⊢
    cases e2 : datum n S1 with
    | no => rw [e2] at q; exact q.elim
    | ex k S2 => rw [e2] at q; exact q
    | ok d2 S2 =>
      rw [e2] at q
      simp only at q ⊢
      cases e3 : datum o S2 with
      | no => rw [e3] at q; exact q.elim
      | ex k S3 => rw [e3] at q; exact q
      | ok d3 S3 =>
        rw [e3] at q
        simp only at q ⊢
        cases d1 with
        | int i =>
          cases d2 with
          | int j =>
            cases d3 with
            | int l =>
              simp only [dRngM] at q
              by_cases hr : l = -1 ∧ rngMOk i j = true
              · rw [if_pos hr] at q
                obtain ⟨rfl, hr⟩ := hr
                intro vs H1 g rv
                obtain ⟨v1, _, rfl, r1, v2, _, rfl, r2, v3, _, rfl, r3, rfl⟩ := rv
                cases (show v1 = V.int i from r1)
                cases (show v2 = V.int j from r2)
                cases (show v3 = V.int (-1) from r3)
                have h := of_decide_eq_true hr
                refine ⟨i, j, -1, (i - j).toNat, rfl, RgC.neg (by omega) (by omega) (by omega) (by omega), q _ H1 g (wk_rngM i _ ?_)⟩
                rw [sizeLine_eq]
                omega
              · rw [if_neg hr] at q; exact q.elim
            | _ => exact q.elim
          | _ => exact q.elim
        | _ => exact q.elim
end
end Rc

/-! k20: printed by gen.py: the abstract functions of the text, their tie to the row. -/
namespace K20
open PySem PySem.Spec PyProof.Rows L2 Rc
def top (i : Nat) : Stmt := PySem.Challenge.pw_resetcount_k20_whole_shifted_and_scaled.main.body.getD i (.Pass ⟨0, 0, 0, 0⟩)
instance : LamTbl := ⟨fun _ =>  none⟩
def B_law_deck : M Fl :=
  sSeq (sIf (Rc.tB (eOp2 dGe (.v 0) (.e (eOp2 dPow (.e (eLit (.int 10))) (.e (eLit (.int 18)))))))
    (sRet (eLst [(eOp2 dSub (.v 0) (.e (eOp2 dPow (.e (eLit (.int 10))) (.e (eLit (.int 18)))))), (eOp2 dMod (.v 0) (.e (eLit (.int 2147483579)))), (eV 1)]))
    (sPass))
    (sRet (eLst [(eLit (.int 0)), (eOp2 dMod (.v 0) (.e (eLit (.int 2147483579)))), (eV 1)]))
def F_law_deck : AF := fn 2 [0, 1] B_law_deck
def B_is_from : M Fl :=
  sRet ((Rc.eAnd (eOp1 (dIsi .int) (.v 0)) (Rc.eAnd (eB (Rc.tNot (Rc.tB (eOp1 (dIsi .bool) (.v 0))))) (eChain dLe dLe (.v 1) (.v 0) (.v 2)))))
def F_is_from : AF := fn 3 [0, 1, 2] B_is_from
def B_is_sample : M Fl :=
  sSeq (sIf ((Rc.tOr (Rc.tNot (Rc.tB (eOp1 (dIsi .tuple) (.v 0)))) (Rc.tB (eOp2 dNe (.e (eOp1 dLen (.v 0))) (.e (eLit (.int 2)))))))
    (sRet (eLit (.bool false)))
    (sPass))
    (sRet ((Rc.eAnd (eCall F_is_from [.d (eOp2 dIx (.v 0) (.e (eLit (.int 0)))), .d (eLit (.int 0)), .d (eLit (.int (1000000000)))]) (eCall F_is_from [.d (eOp2 dIx (.v 0) (.e (eLit (.int 1)))), .d (eLit (.int 0)), .d (eLit (.int (1000000)))]))))
def F_is_sample : AF := fn 1 [0] B_is_sample
def B_is_samples : M Fl :=
  sSeq (sIf ((Rc.tOr (Rc.tNot (Rc.tB (eOp1 (dIsi .tuple) (.v 0)))) (Rc.tOr (Rc.tB (eOp2 dGt (.e (eOp1 dLen (.v 0))) (.e (eLit (.int (40)))))) (Rc.tNot (Rc.tB (eOp1 dAll (.e (eLc [1] (ckN 0) (wN 0 id) (.n 1) Rc.tYes (eCall F_is_sample [.b 1])))))))))
    (sRet (eLit (.bool false)))
    (sPass))
    (sRet (eOp1 dAll (.e (eLc [1, 2] ckT (wZip2 (eV 0) (eCut (.v 0) (some (eLit (.int 1))) none)) (.t [.n 1, .n 2]) Rc.tYes (eOp2 dLt (.e (eOp2 dIx (.v 1) (.e (eLit (.int 0))))) (.e (eOp2 dIx (.v 2) (.e (eLit (.int 0))))))))))
def F_is_samples : AF := fn 3 [0] B_is_samples
def B_need_samples : M Fl :=
  sIf (Rc.tNot (Rc.tB (eCall F_is_samples [.b 0])))
    (sRaise ⟨"InvalidSamples", none⟩)
    (sPass)
def F_need_samples : AF := fn 1 [0] B_need_samples
def B_values_of : M Fl :=
  sRet (eLc [1, 2] (ckN 0) (wN 0 id) (.t [.n 1, .n 2]) Rc.tYes (eV 2))
def F_values_of : AF := fn 3 [0] B_values_of
def B_step : M Fl :=
  sRet (Rc.eIf (Rc.tB (eOp2 dGe (.v 1) (.v 0))) (eOp2 dSub (.v 1) (.v 0)) (eV 1))
def F_step : AF := fn 2 [0, 1] B_step
def B_all_steps : M Fl :=
  sSeq (sSet 1 (eCall F_values_of [.b 0]))
    (sRet (eLc [2, 3] ckT (wZip2 (eV 1) (eCut (.v 1) (some (eLit (.int 1))) none)) (.t [.n 2, .n 3]) Rc.tYes (eCall F_step [.b 2, .b 3])))
def F_all_steps : AF := fn 4 [0] B_all_steps
def B_estimate_of : M Fl :=
  sRet (eOp1 dSum (.e (eCall F_all_steps [.b 0])))
def F_estimate_of : AF := fn 1 [0] B_estimate_of
def B_estimate : M Fl :=
  sSeq (sDrop (eCall F_need_samples [.b 0]))
    (sRet (eCall F_estimate_of [.b 0]))
def F_estimate : AF := fn 1 [0] B_estimate
def B_law_pick : M Fl :=
  sSeq (sIf (Rc.tB (eOp2 dGt (.e (eOp2 dIx (.v 0) (.e (eLit (.int 0))))) (.e (eLit (.int 1)))))
    (sSeq (sSet 2 (eOp2 dMod (.e (eOp2 dIx (.v 0) (.e (eLit (.int 0))))) (.v 1)))
    (sSeq (sSetIx 0 (eLit (.int 0)) (eOp2 dDiv (.e (eOp2 dIx (.v 0) (.e (eLit (.int 0))))) (.v 1)))
    (sRetV 2)))
    (sPass))
    (sSeq (sSetIx 0 (eLit (.int 2)) (eOp2 dAdd (.e (eOp2 dIx (.v 0) (.e (eLit (.int 2))))) (.e (eLit (.int 1)))))
    (sSeq (sSet 3 (eOp2 dMod (.e (eOp2 dPow (.e (eOp2 dAdd (.e (eOp2 dIx (.v 0) (.e (eLit (.int 1))))) (.e (eOp2 dMulA (.e (eLit (.int 15485867))) (.e (eOp2 dIx (.v 0) (.e (eLit (.int 2))))))))) (.e (eLit (.int 5))))) (.e (eLit (.int 2147483647)))))
    (sSeq (sSet 2 (eOp2 dDiv (.e (eOp2 dMod (.e (eOp2 dPow (.e (eOp2 dAdd (.v 3) (.e (eOp2 dMulA (.e (eLit (.int 7919))) (.e (eOp2 dIx (.v 0) (.e (eLit (.int 2))))))))) (.e (eLit (.int 3))))) (.e (eLit (.int 2147483629))))) (.e (eLit (.int 32)))))
    (sSeq (sIf (Rc.tB (eOp2 dGt (.v 1) (.e (eLit (.int 1000000)))))
    (sRet (eOp2 dMod (.e (eOp2 dAdd (.e (eOp2 dMulA (.v 2) (.e (eLit (.int 2147483563))))) (.v 3))) (.v 1)))
    (sPass))
    (sRet (eOp2 dMod (.v 2) (.v 1)))))))
def F_law_pick : AF := fn 4 [0, 1] B_law_pick
def B_need_length : M Fl :=
  sIf (Rc.tNot (Rc.tB (eCall F_is_from [.b 0, .d (eLit (.int 0)), .d (eLit (.int (1000000000)))])))
    (sRaise ⟨"InvalidLength", none⟩)
    (sPass)
def F_need_length : AF := fn 1 [0] B_need_length
def B_inside : M Fl :=
  sSeq (sSet 3 (eOp2 dIx (.e (eOp2 dIx (.v 0) (.v 1))) (.e (eLit (.int 0)))))
    (sRet (eOp1 dTuple (.e (eLc [4] ckT (wSeq (eCut (.v 0) none (some (eOp2 dAdd (.v 1) (.e (eLit (.int 1))))))) (.n 4) (Rc.tB (eOp2 dGe (.e (eOp2 dIx (.v 4) (.e (eLit (.int 0))))) (.e (eOp2 dSub (.v 3) (.v 2))))) (eV 4)))))
def F_inside : AF := fn 5 [0, 1, 2] B_inside
def B_window_estimates : M Fl :=
  sSeq (sDrop (eCall F_need_samples [.b 0]))
    (sSeq (sDrop (eCall F_need_length [.b 1]))
    (sRet (eLc [2] ckT (wRng1 (eOp1 dLen (.v 0))) (.n 2) Rc.tYes (eCall F_estimate_of [.d (eCall F_inside [.b 0, .b 2, .b 1])]))))
def F_window_estimates : AF := fn 3 [0, 1] B_window_estimates
def B_need_rate : M Fl :=
  sIf (Rc.tNot (Rc.tB (eCall F_is_from [.b 0, .d (eLit (.int 1)), .d (eLit (.int (1000000)))])))
    (sRaise ⟨"InvalidRate", none⟩)
    (sPass)
def F_need_rate : AF := fn 1 [0] B_need_rate
def B_options : M Fl :=
  sSeq (sUnp (.t [.n 2, .n 3, .n 4]) (eV 0))
    (sSeq (sSet 5 (eOp2 dMulA (.v 1) (.v 2)))
    (sSeq (sSet 6 (Rc.eIf (Rc.tB (eChain dLe dLe (.e (eLit (.int 0))) (.e (eOp2 dSub (.v 4) (.v 3))) (.v 5))) (eTup [(eOp2 dSub (.v 4) (.v 3)), (eOp2 dSub (.v 4) (.v 3))]) (eLit .none)))
    (sRet (eTup [(eV 6), (Rc.eIf (Rc.tB (eOp2 dLe (.v 4) (.v 5))) (eTup [(eV 4), (eV 5)]) (eLit .none))]))))
def F_options : AF := fn 7 [0, 1] B_options
def B_status_of : M Fl :=
  sSeq (sUnp (.t [.n 2, .n 3]) (eCall F_options [.b 0, .b 1]))
    (sSeq (sIf (Rc.tB (eOp1 dIsN (.v 2)))
    (sRet (Rc.eIf (Rc.tB (eOp1 dIsN (.v 3))) (eLit (.str (PySem.Str.ofString "contradiction"))) (eLit (.str (PySem.Str.ofString "certain")))))
    (sPass))
    (sRet (Rc.eIf (Rc.tB (eOp1 dIsN (.v 3))) (eLit (.str (PySem.Str.ofString "impossible"))) (eLit (.str (PySem.Str.ofString "open"))))))
def F_status_of : AF := fn 4 [0, 1] B_status_of
def B_gaps_of : M Fl :=
  sRet (eLc [1, 2] ckT (wZip2 (eV 0) (eCut (.v 0) (some (eLit (.int 1))) none)) (.t [.n 1, .n 2]) Rc.tYes (eTup [(eOp2 dSub (.e (eOp2 dIx (.v 2) (.e (eLit (.int 0))))) (.e (eOp2 dIx (.v 1) (.e (eLit (.int 0)))))), (eOp2 dIx (.v 1) (.e (eLit (.int 1)))), (eOp2 dIx (.v 2) (.e (eLit (.int 1))))]))
def F_gaps_of : AF := fn 3 [0] B_gaps_of
def B_restart_statuses : M Fl :=
  sSeq (sDrop (eCall F_need_samples [.b 0]))
    (sSeq (sDrop (eCall F_need_rate [.b 1]))
    (sRet (eLc [2] ckT (wSeq (eCall F_gaps_of [.b 0])) (.n 2) Rc.tYes (eCall F_status_of [.b 2, .b 1]))))
def F_restart_statuses : AF := fn 3 [0, 1] B_restart_statuses
def B_steps : M Fl :=
  sSeq (sDrop (eCall F_need_samples [.b 0]))
    (sRet (eCall F_all_steps [.b 0]))
def F_steps : AF := fn 1 [0] B_steps
def B_falls : M Fl :=
  sSeq (sDrop (eCall F_need_samples [.b 0]))
    (sSeq (sSet 1 (eCall F_values_of [.b 0]))
    (sRet (eLc [2] ckT (wRng2 (eLit (.int 1)) (eOp1 dLen (.v 1))) (.n 2) (Rc.tB (eOp2 dLt (.e (eOp2 dIx (.v 1) (.v 2))) (.e (eOp2 dIx (.v 1) (.e (eOp2 dSub (.v 2) (.e (eLit (.int 1))))))))) (eV 2))))
def F_falls : AF := fn 3 [0] B_falls
def B_loses_nothing : M Fl :=
  sSeq (sSet 3 (eCut (.v 0) (some (eV 1)) (some (eOp2 dAdd (.v 2) (.e (eLit (.int 1)))))))
    (sSeq (sSet 5 (eLc [4] ckT (wRng2 (eLit (.int 1)) (eOp1 dLen (.v 3))) (.n 4) (Rc.tB (eOp2 dLt (.e (eOp2 dIx (.v 3) (.v 4))) (.e (eOp2 dIx (.v 3) (.e (eOp2 dSub (.v 4) (.e (eLit (.int 1))))))))) (eV 4)))
    (sSeq (sIf (Rc.tB (eOp2 dEq (.v 5) (.e (eLst []))))
    (sRet (eLit (.bool true)))
    (sPass))
    (sSeq (sIf ((Rc.tOr (Rc.tB (eOp2 dGt (.e (eOp1 dLen (.v 5))) (.e (eLit (.int 1))))) (Rc.tB (eOp2 dGe (.e (eOp2 dIx (.v 3) (.e (eOp1 dNeg (.e (eLit (.int 1))))))) (.e (eOp2 dIx (.v 3) (.e (eLit (.int 0)))))))))
    (sRet (eLit (.bool false)))
    (sPass))
    (sRet (eOp2 dEq (.e (eOp2 dIx (.v 3) (.e (eOp2 dSub (.e (eOp2 dIx (.v 5) (.e (eLit (.int 0))))) (.e (eLit (.int 1))))))) (.e (eOp2 dIx (.v 3) (.e (eLit (.int 0))))))))))
def F_loses_nothing : AF := fn 6 [0, 1, 2] B_loses_nothing
def B_layers_f1 : M Fl :=
  sSeq (sSet 7 (eLc [6] ckT (wRng2 (eOp2 dAdd (.v 5) (.e (eLit (.int 1)))) (eV 2)) (.n 6) (Rc.tB (eCall F_loses_nothing [.b 1, .b 5, .b 6])) (eV 6)))
    (sSeq (sSetIx 3 (eV 5) (eOp2 dAdd (.e (eLit (.int 1))) (.e (eOp1 dMin (.e (eLc [6] (ckN 7) (wN 7 id) (.n 6) Rc.tYes (eOp2 dIx (.v 3) (.v 6))))))))
    (sSetIx 4 (eV 5) (eOp1 dSum (.e (eLc [6] (ckN 7) (wN 7 id) (.n 6) (Rc.tB (eOp2 dEq (.e (eOp2 dIx (.v 3) (.v 6))) (.e (eOp2 dSub (.e (eOp2 dIx (.v 3) (.v 5))) (.e (eLit (.int 1))))))) (eOp2 dIx (.v 4) (.v 6)))))))
def B_layers : M Fl :=
  sSeq (sSet 1 (eCall F_values_of [.b 0]))
    (sSeq (sSet 2 (eOp1 dLen (.v 1)))
    (sSeq (sPar 3 4 (eOp2 dMulA (.e (eLst [(eLit (.int 1))])) (.v 2)) (eOp2 dMulA (.e (eLst [(eLit (.int 1))])) (.v 2)))
    (sSeq (sFor (wRngM (eOp2 dSub (.v 2) (.e (eLit (.int 2)))) (eOp1 dNeg (.e (eLit (.int 1)))) (eOp1 dNeg (.e (eLit (.int 1))))) (.n 5) (B_layers_f1))
    (sRet (eTup [(eV 3), (eV 4)])))))
def F_layers : AF := fn 8 [0] B_layers
def B_kept_count : M Fl :=
  sSeq (sDrop (eCall F_need_samples [.b 0]))
    (sSeq (sIf (Rc.tB (eOp2 dEq (.v 0) (.e (eTup []))))
    (sRet (eTup [(eLit (.int 0)), (eLit (.int 1))]))
    (sPass))
    (sSeq (sUnp (.t [.n 1, .n 2]) (eCall F_layers [.b 0]))
    (sRet (eTup [(eOp2 dIx (.v 1) (.e (eLit (.int 0)))), (eOp2 dIx (.v 2) (.e (eLit (.int 0))))]))))
def F_kept_count : AF := fn 3 [0] B_kept_count
def B_need_index : M Fl :=
  sIf (Rc.tNot (Rc.tB (eCall F_is_from [.b 1, .d (eLit (.int 0)), .d (eOp2 dSub (.e (eOp1 dLen (.v 0))) (.e (eLit (.int 1))))])))
    (sRaise ⟨"InvalidIndex", none⟩)
    (sPass)
def F_need_index : AF := fn 2 [0, 1] B_need_index
def B_loss : M Fl :=
  sSeq (sDrop (eCall F_need_samples [.b 0]))
    (sSeq (sDrop (eCall F_need_index [.b 0, .b 1]))
    (sRet (eOp2 dSub (.e (eCall F_estimate_of [.b 0])) (.e (eCall F_estimate_of [.d (eOp2 dAdd (.e (eCut (.v 0) none (some (eV 1)))) (.e (eCut (.v 0) (some (eOp2 dAdd (.v 1) (.e (eLit (.int 1))))) none)))])))))
def F_loss : AF := fn 2 [0, 1] B_loss
def B_law_one : M Fl :=
  sRet (eOp2 dIx (.v 1) (.e (eCall F_law_pick [.b 0, .d (eOp1 dLen (.v 1))])))
def F_law_one : AF := fn 2 [0, 1] B_law_one
def B_law_values_f1 : M Fl :=
  sSeq (sSet 6 (eCall F_law_pick [.b 0, .d (eLit (.int 8))]))
    (sSeq (sIf (Rc.tB (eOp2 dLt (.v 6) (.e (eLit (.int 4)))))
    (sSet 3 (eOp2 dMin2 (.e (eOp2 dPow (.e (eLit (.int 10))) (.e (eLit (.int 6))))) (.e (eOp2 dAdd (.v 3) (.e (eCall F_law_pick [.b 0, .d (eOp2 dAdd (.v 2) (.e (eLit (.int 1))))]))))))
    (sIf (Rc.tB (eOp2 dLt (.v 6) (.e (eLit (.int 6)))))
    (sSet 3 (eCall F_law_pick [.b 0, .d (eOp2 dAdd (.v 2) (.e (eLit (.int 1))))]))
    (sIf (Rc.tB (eOp2 dEq (.v 6) (.e (eLit (.int 6)))))
    (sSet 3 (eCall F_law_pick [.b 0, .d (eOp2 dAdd (.v 3) (.e (eLit (.int 1))))]))
    (sPass))))
    (sApp 4 (eV 3)))
def B_law_values : M Fl :=
  sSeq (sPar3 2 3 4 (eCall F_law_one [.b 0, .d (eLst [(eLit (.int 3)), (eLit (.int 9)), (eLit (.int 60)), (eOp2 dPow (.e (eLit (.int 10))) (.e (eLit (.int 6))))])]) (eLit (.int 0)) (eLst []))
    (sSeq (sFor (wRng1 (eCall F_law_pick [.b 0, .d (eOp2 dAdd (.v 1) (.e (eLit (.int 1))))])) (.n 5) (B_law_values_f1))
    (sRetV 4))
def F_law_values : AF := fn 7 [0, 1] B_law_values
def B_law_samples_f1 : M Fl :=
  sSeq (sSet 3 (eOp2 dAdd (.v 3) (.e (eTup [(eTup [(eV 2), (eV 4)])]))))
    (sSet 2 (eOp2 dAdd (.e (eOp2 dAdd (.v 2) (.e (eLit (.int 1))))) (.e (eCall F_law_pick [.b 0, .d (eCall F_law_one [.b 0, .d (eLst [(eLit (.int 1)), (eLit (.int 3)), (eLit (.int 20)), (eLit (.int 1000))])])]))))
def B_law_samples : M Fl :=
  sSeq (sPar 2 3 (eCall F_law_one [.b 0, .d (eLst [(eLit (.int 0)), (eLit (.int 5)), (eCall F_law_pick [.b 0, .d (eOp2 dPow (.e (eLit (.int 10))) (.e (eLit (.int 8))))])])]) (eTup []))
    (sSeq (sFor (wSeq (eCall F_law_values [.b 0, .b 1])) (.n 4) (B_law_samples_f1))
    (sRetV 3))
def F_law_samples : AF := fn 5 [0, 1] B_law_samples
def B_law_f2 : M Fl :=
  sIf (Rc.tB (eOp2 dNe (.e (eCall F_loss [.b 9, .b 10])) (.e (eOp2 dMulA (.v 7) (.e (eCall F_loss [.d (eW 5), .b 10]))))))
    (sRet (eLit (.bool false)))
    (sPass)
def B_law_f3 : M Fl :=
  sSeq (sPar 3 4 (eCall F_law_pick [.b 2, .d (eOp2 dPow (.e (eLit (.int 10))) (.e (eLit (.int 6))))]) (eCall F_law_pick [.b 2, .d (eOp2 dPow (.e (eLit (.int 10))) (.e (eLit (.int 4))))]))
    (sIf (tNinDct 5 (eV 3))
    (sIf (Rc.tB (eOp2 dLt (.e (eCall F_estimate [.d (eOp1 dTuple (.e (eOp1 dSrtP (.e (eOp2 dAdd (.e (eW 5)) (.e (eTup [(eTup [(eV 3), (eV 4)])])))))))])) (.e (eCall F_estimate [.d (eW 5)]))))
    (sRet (eLit (.bool false)))
    (sPass))
    (sPass))
def B_law_f1 : M Fl :=
  sSeq (sSet 2 (eCall F_law_deck [.b 1, .d (eLit (.int 20))]))
    (sSeq (sSet 5 (eOp1 dTupX (.e (eLc [3, 4] ckT (wSeq (eCall F_law_samples [.b 2, .d (eLit (.int 20))])) (.t [.n 3, .n 4]) Rc.tYes (eTup [(eOp2 dMod (.v 3) (.e (eOp2 dPow (.e (eLit (.int 10))) (.e (eLit (.int 6)))))), (eOp2 dMod (.v 4) (.e (eOp2 dPow (.e (eLit (.int 10))) (.e (eLit (.int 4))))))])))))
    (sSeq (sSet 5 (eOp1 dTupX (.e (eSrtDct 5))))
    (sSeq (sUnp (.t [.n 6, .n 7]) (eTup [(eCall F_law_pick [.b 2, .d (eOp2 dPow (.e (eLit (.int 10))) (.e (eLit (.int 8))))]), (eOp2 dAdd (.e (eLit (.int 1))) (.e (eCall F_law_pick [.b 2, .d (eLit (.int 100))])))]))
    (sSeq (sSet 8 (eOp1 dTuple (.e (eLc [3, 4] ckT (wSeq (eW 5)) (.t [.n 3, .n 4]) Rc.tYes (eTup [(eOp2 dAdd (.v 3) (.v 6)), (eV 4)])))))
    (sSeq (sSet 9 (eOp1 dTuple (.e (eLc [3, 4] ckT (wSeq (eW 5)) (.t [.n 3, .n 4]) Rc.tYes (eTup [(eV 3), (eOp2 dMulA (.v 4) (.v 7))])))))
    (sSeq (sIf ((Rc.tOr (Rc.tB (eOp2 dNe (.e (eCall F_steps [.b 8])) (.e (eCall F_steps [.d (eW 5)])))) (Rc.tB (eOp2 dNe (.e (eCall F_falls [.b 9])) (.e (eCall F_falls [.d (eW 5)]))))))
    (sRet (eLit (.bool false)))
    (sPass))
    (sSeq (sIf ((Rc.tOr (Rc.tB (eOp2 dNe (.e (eCall F_estimate [.b 9])) (.e (eOp2 dMulA (.v 7) (.e (eCall F_estimate [.d (eW 5)])))))) (Rc.tB (eOp2 dNe (.e (eCall F_estimate [.b 8])) (.e (eCall F_estimate [.d (eW 5)]))))))
    (sRet (eLit (.bool false)))
    (sPass))
    (sSeq (sIf ((Rc.tOr (Rc.tB (eOp2 dNe (.e (eCall F_kept_count [.b 8])) (.e (eCall F_kept_count [.d (eW 5)])))) (Rc.tB (eOp2 dNe (.e (eCall F_kept_count [.b 9])) (.e (eCall F_kept_count [.d (eW 5)]))))))
    (sRet (eLit (.bool false)))
    (sPass))
    (sSeq (sFor (wRng1 (eOp1 dLen (.e (eW 5)))) (.n 10) (B_law_f2))
    (sSeq (sIf (Rc.tB (eOp2 dNe (.e (eCall F_window_estimates [.b 8, .d (eLit (.int 50))])) (.e (eCall F_window_estimates [.d (eW 5), .d (eLit (.int 50))]))))
    (sRet (eLit (.bool false)))
    (sPass))
    (sSeq (sIf (Rc.tB (eOp2 dNe (.e (eCall F_restart_statuses [.b 9, .d (eOp2 dMulA (.e (eLit (.int 9))) (.v 7))])) (.e (eCall F_restart_statuses [.d (eW 5), .d (eLit (.int 9))]))))
    (sRet (eLit (.bool false)))
    (sPass))
    (sSeq (sFor (wRng1 (eLit (.int 5))) (.n 11) (B_law_f3))
    (sIf (Rc.tB (eOp2 dNe (.e (eW 5)) (.e (eTup []))))
    (sSeq (sSet 12 (eOp2 dIx (.e (eW 5)) (.e (eOp1 dNeg (.e (eLit (.int 1)))))))
    (sIf (Rc.tB (eOp2 dNe (.e (eCall F_estimate [.d (eOp2 dAdd (.e (eW 5)) (.e (eTup [(eTup [(eOp2 dAdd (.e (eOp2 dIx (.v 12) (.e (eLit (.int 0))))) (.e (eLit (.int 1)))), (eOp2 dIx (.v 12) (.e (eLit (.int 1))))])])))])) (.e (eCall F_estimate [.d (eW 5)]))))
    (sRet (eLit (.bool false)))
    (sPass)))
    (sPass))))))))))))))
def B_law : M Fl :=
  sSeq (sFor (wSeq (eCut (.e (eOp2 dAdd (.e (eLst [(eLit (.int 0))])) (.v 0))) none (some (eLit (.int 8))))) (.n 1) (B_law_f1))
    (sSeq (sIf (Rc.tB (eOp2 dNe (.e (eCall F_estimate [.d (eTup [(eTup [(eLit (.int 0)), (eOp2 dPow (.e (eLit (.int 10))) (.e (eLit (.int 6))))]), (eTup [(eOp2 dPow (.e (eLit (.int 10))) (.e (eLit (.int 9)))), (eOp2 dPow (.e (eLit (.int 10))) (.e (eLit (.int 6))))])])])) (.e (eLit (.int 0)))))
    (sRet (eLit (.bool false)))
    (sPass))
    (sRet (eOp2 dEq (.e (eCall F_estimate [.d (eTup [(eTup [(eLit (.int 0)), (eOp2 dPow (.e (eLit (.int 10))) (.e (eLit (.int 6))))]), (eTup [(eLit (.int 1)), (eLit (.int 0))]), (eTup [(eLit (.int 2)), (eOp2 dPow (.e (eLit (.int 10))) (.e (eLit (.int 6))))])])])) (.e (eOp2 dPow (.e (eLit (.int 10))) (.e (eLit (.int 6))))))))
def F_law : AF := fn 13 [0] B_law
abbrev s_law_deck : Stmt := top 38
abbrev s_is_from : Stmt := top 10
abbrev s_is_sample : Stmt := top 11
abbrev s_is_samples : Stmt := top 12
abbrev s_need_samples : Stmt := top 13
abbrev s_values_of : Stmt := top 16
abbrev s_step : Stmt := top 15
abbrev s_all_steps : Stmt := top 17
abbrev s_estimate_of : Stmt := top 18
abbrev s_estimate : Stmt := top 20
abbrev s_law_pick : Stmt := top 39
abbrev s_need_length : Stmt := top 35
abbrev s_inside : Stmt := top 34
abbrev s_window_estimates : Stmt := top 36
abbrev s_need_rate : Stmt := top 23
abbrev s_options : Stmt := top 25
abbrev s_status_of : Stmt := top 26
abbrev s_gaps_of : Stmt := top 24
abbrev s_restart_statuses : Stmt := top 27
abbrev s_steps : Stmt := top 19
abbrev s_falls : Stmt := top 21
abbrev s_loses_nothing : Stmt := top 30
abbrev s_layers : Stmt := top 31
abbrev s_kept_count : Stmt := top 32
abbrev s_need_index : Stmt := top 14
abbrev s_loss : Stmt := top 29
abbrev s_law_one : Stmt := top 40
abbrev s_law_values : Stmt := top 41
abbrev s_law_samples : Stmt := top 42
abbrev s_law : Stmt := top 43
structure Txt (K : PySem.W.Frag) (mg : Str → Option Value) : Prop where
  b_all : mg "all" = none
  b_bool : mg "bool" = none
  b_dict : mg "dict" = none
  b_int : mg "int" = none
  b_isinstance : mg "isinstance" = none
  b_len : mg "len" = none
  b_min : mg "min" = none
  b_range : mg "range" = none
  b_sorted : mg "sorted" = none
  b_sum : mg "sum" = none
  b_tuple : mg "tuple" = none
  b_zip : mg "zip" = none
  i_MOST_SAMPLES : ∃ t, mg "MOST_SAMPLES" = some (.int 40 t)
  i_HIGHEST : ∃ t, mg "HIGHEST" = some (.int 1000000 t)
  i_LATEST : ∃ t, mg "LATEST" = some (.int 1000000000 t)
  e_InvalidIndex : ∃ C, ExC K mg "InvalidIndex" C
  e_InvalidLength : ∃ C, ExC K mg "InvalidLength" C
  e_InvalidRate : ∃ C, ExC K mg "InvalidRate" C
  e_InvalidSamples : ∃ C, ExC K mg "InvalidSamples" C
  d_law_deck : ∃ f fd, Fun K "_law_deck" "_law_deck" s_law_deck f fd ∧ mg "_law_deck" = some (.ref f)
  d_is_from : ∃ f fd, Fun K "is_from" "is_from" s_is_from f fd ∧ mg "is_from" = some (.ref f)
  d_is_sample : ∃ f fd, Fun K "is_sample" "is_sample" s_is_sample f fd ∧ mg "is_sample" = some (.ref f)
  d_is_samples : ∃ f fd, Fun K "is_samples" "is_samples" s_is_samples f fd ∧ mg "is_samples" = some (.ref f)
  d_need_samples : ∃ f fd, Fun K "need_samples" "need_samples" s_need_samples f fd ∧ mg "need_samples" = some (.ref f)
  d_values_of : ∃ f fd, Fun K "values_of" "values_of" s_values_of f fd ∧ mg "values_of" = some (.ref f)
  d_step : ∃ f fd, Fun K "step" "step" s_step f fd ∧ mg "step" = some (.ref f)
  d_all_steps : ∃ f fd, Fun K "all_steps" "all_steps" s_all_steps f fd ∧ mg "all_steps" = some (.ref f)
  d_estimate_of : ∃ f fd, Fun K "estimate_of" "estimate_of" s_estimate_of f fd ∧ mg "estimate_of" = some (.ref f)
  d_estimate : ∃ f fd, Fun K "estimate" "estimate" s_estimate f fd ∧ mg "estimate" = some (.ref f)
  d_law_pick : ∃ f fd, Fun K "_law_pick" "_law_pick" s_law_pick f fd ∧ mg "_law_pick" = some (.ref f)
  d_need_length : ∃ f fd, Fun K "need_length" "need_length" s_need_length f fd ∧ mg "need_length" = some (.ref f)
  d_inside : ∃ f fd, Fun K "inside" "inside" s_inside f fd ∧ mg "inside" = some (.ref f)
  d_window_estimates : ∃ f fd, Fun K "window_estimates" "window_estimates" s_window_estimates f fd ∧ mg "window_estimates" = some (.ref f)
  d_need_rate : ∃ f fd, Fun K "need_rate" "need_rate" s_need_rate f fd ∧ mg "need_rate" = some (.ref f)
  d_options : ∃ f fd, Fun K "options" "options" s_options f fd ∧ mg "options" = some (.ref f)
  d_status_of : ∃ f fd, Fun K "status_of" "status_of" s_status_of f fd ∧ mg "status_of" = some (.ref f)
  d_gaps_of : ∃ f fd, Fun K "gaps_of" "gaps_of" s_gaps_of f fd ∧ mg "gaps_of" = some (.ref f)
  d_restart_statuses : ∃ f fd, Fun K "restart_statuses" "restart_statuses" s_restart_statuses f fd ∧ mg "restart_statuses" = some (.ref f)
  d_steps : ∃ f fd, Fun K "steps" "steps" s_steps f fd ∧ mg "steps" = some (.ref f)
  d_falls : ∃ f fd, Fun K "falls" "falls" s_falls f fd ∧ mg "falls" = some (.ref f)
  d_loses_nothing : ∃ f fd, Fun K "loses_nothing" "loses_nothing" s_loses_nothing f fd ∧ mg "loses_nothing" = some (.ref f)
  d_layers : ∃ f fd, Fun K "layers" "layers" s_layers f fd ∧ mg "layers" = some (.ref f)
  d_kept_count : ∃ f fd, Fun K "kept_count" "kept_count" s_kept_count f fd ∧ mg "kept_count" = some (.ref f)
  d_need_index : ∃ f fd, Fun K "need_index" "need_index" s_need_index f fd ∧ mg "need_index" = some (.ref f)
  d_loss : ∃ f fd, Fun K "loss" "loss" s_loss f fd ∧ mg "loss" = some (.ref f)
  d_law_one : ∃ f fd, Fun K "_law_one" "_law_one" s_law_one f fd ∧ mg "_law_one" = some (.ref f)
  d_law_values : ∃ f fd, Fun K "_law_values" "_law_values" s_law_values f fd ∧ mg "_law_values" = some (.ref f)
  d_law_samples : ∃ f fd, Fun K "_law_samples" "_law_samples" s_law_samples f fd ∧ mg "_law_samples" = some (.ref f)
  d_law : ∃ f fd, Fun K "law" "law" s_law f fd ∧ mg "law" = some (.ref f)
section
variable {P : Program} {w : World} {K : PySem.W.Frag} {mg : Str → Option Value} {base : Heap}
theorem sc_law_deck : FnScope ["_law_cell", "_law_turn"] ["_law_cell", "_law_turn"] (defScope s_law_deck) := ⟨rfl, rfl, rfl, by decide +kernel, rfl, by decide +kernel, by decide +kernel⟩
theorem has_law_deck (T : Txt K mg)  : Has P w K mg base "_law_deck" 2 1 F_law_deck := by
  obtain ⟨f, fd, hf, hm⟩ := T.d_law_deck
  exact def_has (N := ["_law_cell", "_law_turn"]) (ps := ["_law_cell", "_law_turn"]) (lst := [0, 1]) (body := B_law_deck) hf hm (hf.binds (ps := ["_law_cell", "_law_turn"]) fun _ _ _ _ _ _ us hl => match us, hl with | [_, _], _ => rfl) sc_law_deck (by decide) fun cdv A outer s H E F hr hb =>
    have sc := sc_law_deck
    (as_cons (as_if (t_ge (v_ 0) (e_ (a_pow (e_ (a_int)) (e_ (a_int))))) (as_one (as_ret (a_lst (al_cons (a_sub (v_ 0) (e_ (a_pow (e_ (a_int)) (e_ (a_int))))) (al_cons (a_mod (v_ 0) (e_ (a_int))) (al_cons (k_ 1) al_nil)))))) as_nil)
    (as_one (as_ret (a_lst (al_cons (a_int) (al_cons (a_mod (v_ 0) (e_ (a_int))) (al_cons (k_ 1) al_nil)))))))
theorem sc_is_from : FnScope ["value", "low", "high"] ["value", "low", "high"] (defScope s_is_from) := ⟨rfl, rfl, rfl, by decide +kernel, rfl, by decide +kernel, by decide +kernel⟩
theorem has_is_from (T : Txt K mg)  : Has P w K mg base "is_from" 3 1 F_is_from := by
  obtain ⟨f, fd, hf, hm⟩ := T.d_is_from
  exact def_has (N := ["value", "low", "high"]) (ps := ["value", "low", "high"]) (lst := [0, 1, 2]) (body := B_is_from) hf hm (hf.binds (ps := ["value", "low", "high"]) fun _ _ _ _ _ _ us hl => match us, hl with | [_, _, _], _ => rfl) sc_is_from (by decide) fun cdv A outer s H E F hr hb =>
    have sc := sc_is_from
    (as_one (as_ret ((a_and (f_isi .int T.b_isinstance T.b_int (v_ 0)) (a_and (a_not (f_isi .bool T.b_isinstance T.b_bool (v_ 0))) (a_and1 (a_chain op_le op2_le op_le op2_le (v_ 1) (v_ 0) (v_ 2))))))))
theorem sc_is_sample : FnScope ["value"] ["value"] (defScope s_is_sample) := ⟨rfl, rfl, rfl, by decide +kernel, rfl, by decide +kernel, by decide +kernel⟩
theorem has_is_sample (T : Txt K mg) (h_is_from : Has P w K mg base "is_from" 3 1 F_is_from) : Has P w K mg base "is_sample" 1 2 F_is_sample := by
  obtain ⟨f, fd, hf, hm⟩ := T.d_is_sample
  exact def_has (N := ["value"]) (ps := ["value"]) (lst := [0]) (body := B_is_sample) hf hm (hf.binds (ps := ["value"]) fun _ _ _ _ _ _ us hl => match us, hl with | [_], _ => rfl) sc_is_sample (by decide) fun cdv A outer s H E F hr hb =>
    have sc := sc_is_sample
    (as_cons (as_if (at_w (aw_or (at_not (at_val (f_isi .tuple T.b_isinstance T.b_tuple (v_ 0)))) (aw_or1 (t_ne hr (e_ (f_len T.b_len (v_ 0))) (e_ (a_int)))))) (as_one (as_ret (a_bl))) as_nil)
    (as_one (as_ret ((a_and (f_call h_is_from (hr.mono (by decide)) px (aa_d (a_ix (v_ 0) (e_ (a_int)) (fun _ _ => rfl)) (aa_d (a_int) (aa_d (f_gInt T.i_LATEST) aa_nil)))) (a_and1 (f_call h_is_from (hr.mono (by decide)) px (aa_d (a_ix (v_ 0) (e_ (a_int)) (fun _ _ => rfl)) (aa_d (a_int) (aa_d (f_gInt T.i_HIGHEST) aa_nil))))))))))
theorem sc_is_samples : FnScope ["value", "one", "other"] ["value"] (defScope s_is_samples) := ⟨rfl, rfl, rfl, by decide +kernel, rfl, by decide +kernel, by decide +kernel⟩
theorem has_is_samples (T : Txt K mg) (h_is_sample : Has P w K mg base "is_sample" 1 2 F_is_sample) : Has P w K mg base "is_samples" 1 3 F_is_samples := by
  obtain ⟨f, fd, hf, hm⟩ := T.d_is_samples
  exact def_has (N := ["value", "one", "other"]) (ps := ["value"]) (lst := [0]) (body := B_is_samples) hf hm (hf.binds (ps := ["value"]) fun _ _ _ _ _ _ us hl => match us, hl with | [_], _ => rfl) sc_is_samples (by decide) fun cdv A outer s H E F hr hb =>
    have sc := sc_is_samples
    (as_cons (as_if (at_w (aw_or (at_not (at_val (f_isi .tuple T.b_isinstance T.b_tuple (v_ 0)))) (aw_or (t_gt (e_ (f_len T.b_len (v_ 0))) (e_ (f_gInt T.i_MOST_SAMPLES))) (aw_or1 (at_not (at_val (f_all rfl T.b_all (e_ (w_lc [("one", 1)] rfl sc.nd (j_n 0) (brwL hb) (fun _ _ _ _ _ => g_ 1 (hb 1 (by decide)) sc.nd) (fun _ _ _ _ _ => (ts_yes _)) (fun _ _ _ _ _ => (f_call h_is_sample (hr.mono (by decide)) passE (b_ 1 aa_nil)))))))))))) (as_one (as_ret (a_bl))) as_nil)
    (as_one (as_ret (f_all rfl T.b_all (e_ (w_lc [("one", 1), ("other", 2)] rfl sc.nd (AI.aj (w_zip2 T.b_zip (al_cons (k_ 0) (al_cons (a_cut (v_ 0) (ap_some (a_int)) ap_none) al_nil)))) (brwL hb) (fun _ _ _ _ _ => ag_tup rfl (ags_cons (g_ 1 (hb 1 (by decide)) sc.nd) (ags_cons (g_ 2 (hb 2 (by decide)) sc.nd) ags_nil))) (fun _ _ _ _ _ => (ts_yes _)) (fun _ _ _ _ _ => (c_lt (e_ (a_ix (v_ 1) (e_ (a_int)) (fun _ _ => rfl))) (e_ (a_ix (v_ 2) (e_ (a_int)) (fun _ _ => rfl)))))))))))
theorem sc_need_samples : FnScope ["samples"] ["samples"] (defScope s_need_samples) := ⟨rfl, rfl, rfl, by decide +kernel, rfl, by decide +kernel, by decide +kernel⟩
theorem has_need_samples (T : Txt K mg) (h_is_samples : Has P w K mg base "is_samples" 1 3 F_is_samples) : Has P w K mg base "need_samples" 1 4 F_need_samples := by
  obtain ⟨f, fd, hf, hm⟩ := T.d_need_samples
  exact def_has (N := ["samples"]) (ps := ["samples"]) (lst := [0]) (body := B_need_samples) hf hm (hf.binds (ps := ["samples"]) fun _ _ _ _ _ _ us hl => match us, hl with | [_], _ => rfl) sc_need_samples (by decide) fun cdv A outer s H E F hr hb =>
    have sc := sc_need_samples
    (as_one (as_if (at_not (at_val (f_call h_is_samples (hr.mono (by decide)) px (b_ 0 aa_nil)))) (as_one (s_raise rfl (L2N.takes_of rfl rfl rfl rfl) T.e_InvalidSamples)) as_nil))
theorem sc_values_of : FnScope ["samples", "time", "value"] ["samples"] (defScope s_values_of) := ⟨rfl, rfl, rfl, by decide +kernel, rfl, by decide +kernel, by decide +kernel⟩
theorem has_values_of (T : Txt K mg)  : Has P w K mg base "values_of" 1 1 F_values_of := by
  obtain ⟨f, fd, hf, hm⟩ := T.d_values_of
  exact def_has (N := ["samples", "time", "value"]) (ps := ["samples"]) (lst := [0]) (body := B_values_of) hf hm (hf.binds (ps := ["samples"]) fun _ _ _ _ _ _ us hl => match us, hl with | [_], _ => rfl) sc_values_of (by decide) fun cdv A outer s H E F hr hb =>
    have sc := sc_values_of
    (as_one (as_ret (w_lc [("time", 1), ("value", 2)] rfl sc.nd (j_n 0) (brwL hb) (fun _ _ _ _ _ => ag_tup rfl (ags_cons (g_ 1 (hb 1 (by decide)) sc.nd) (ags_cons (g_ 2 (hb 2 (by decide)) sc.nd) ags_nil))) (fun _ _ _ _ _ => (ts_yes _)) (fun _ _ _ _ _ => (k_ 2)))))
theorem sc_step : FnScope ["one", "other"] ["one", "other"] (defScope s_step) := ⟨rfl, rfl, rfl, by decide +kernel, rfl, by decide +kernel, by decide +kernel⟩
theorem has_step (T : Txt K mg)  : Has P w K mg base "step" 2 1 F_step := by
  obtain ⟨f, fd, hf, hm⟩ := T.d_step
  exact def_has (N := ["one", "other"]) (ps := ["one", "other"]) (lst := [0, 1]) (body := B_step) hf hm (hf.binds (ps := ["one", "other"]) fun _ _ _ _ _ _ us hl => match us, hl with | [_, _], _ => rfl) sc_step (by decide) fun cdv A outer s H E F hr hb =>
    have sc := sc_step
    (as_one (as_ret (a_if (t_ge (v_ 1) (v_ 0)) (a_sub (v_ 1) (v_ 0)) (k_ 1))))
theorem sc_all_steps : FnScope ["samples", "values", "one", "other"] ["samples"] (defScope s_all_steps) := ⟨rfl, rfl, rfl, by decide +kernel, rfl, by decide +kernel, by decide +kernel⟩
theorem has_all_steps (T : Txt K mg) (h_values_of : Has P w K mg base "values_of" 1 1 F_values_of) (h_step : Has P w K mg base "step" 2 1 F_step) : Has P w K mg base "all_steps" 1 2 F_all_steps := by
  obtain ⟨f, fd, hf, hm⟩ := T.d_all_steps
  exact def_has (N := ["samples", "values", "one", "other"]) (ps := ["samples"]) (lst := [0]) (body := B_all_steps) hf hm (hf.binds (ps := ["samples"]) fun _ _ _ _ _ _ us hl => match us, hl with | [_], _ => rfl) sc_all_steps (by decide) fun cdv A outer s H E F hr hb =>
    have sc := sc_all_steps
    (as_cons (s_set 1 (hb 1 (by decide)) sc.nd (f_call h_values_of (hr.mono (by decide)) px (b_ 0 aa_nil)))
    (as_one (as_ret (w_lc [("one", 2), ("other", 3)] rfl sc.nd (AI.aj (w_zip2 T.b_zip (al_cons (k_ 1) (al_cons (a_cut (v_ 1) (ap_some (a_int)) ap_none) al_nil)))) (brwL hb) (fun _ _ _ _ _ => ag_tup rfl (ags_cons (g_ 2 (hb 2 (by decide)) sc.nd) (ags_cons (g_ 3 (hb 3 (by decide)) sc.nd) ags_nil))) (fun _ _ _ _ _ => (ts_yes _)) (fun _ _ _ _ _ => (f_call h_step (hr.mono (by decide)) passE (b_ 2 (b_ 3 aa_nil))))))))
theorem sc_estimate_of : FnScope ["samples"] ["samples"] (defScope s_estimate_of) := ⟨rfl, rfl, rfl, by decide +kernel, rfl, by decide +kernel, by decide +kernel⟩
theorem has_estimate_of (T : Txt K mg) (h_all_steps : Has P w K mg base "all_steps" 1 2 F_all_steps) : Has P w K mg base "estimate_of" 1 3 F_estimate_of := by
  obtain ⟨f, fd, hf, hm⟩ := T.d_estimate_of
  exact def_has (N := ["samples"]) (ps := ["samples"]) (lst := [0]) (body := B_estimate_of) hf hm (hf.binds (ps := ["samples"]) fun _ _ _ _ _ _ us hl => match us, hl with | [_], _ => rfl) sc_estimate_of (by decide) fun cdv A outer s H E F hr hb =>
    have sc := sc_estimate_of
    (as_one (as_ret (f_sum rfl T.b_sum (e_ (f_call h_all_steps (hr.mono (by decide)) px (b_ 0 aa_nil))))))
theorem sc_estimate : FnScope ["samples"] ["samples"] (defScope s_estimate) := ⟨rfl, rfl, rfl, by decide +kernel, rfl, by decide +kernel, by decide +kernel⟩
theorem has_estimate (T : Txt K mg) (h_need_samples : Has P w K mg base "need_samples" 1 4 F_need_samples) (h_estimate_of : Has P w K mg base "estimate_of" 1 3 F_estimate_of) : Has P w K mg base "estimate" 1 5 F_estimate := by
  obtain ⟨f, fd, hf, hm⟩ := T.d_estimate
  exact def_has (N := ["samples"]) (ps := ["samples"]) (lst := [0]) (body := B_estimate) hf hm (hf.binds (ps := ["samples"]) fun _ _ _ _ _ _ us hl => match us, hl with | [_], _ => rfl) sc_estimate (by decide) fun cdv A outer s H E F hr hb =>
    have sc := sc_estimate
    (as_cons (as_drop (f_call h_need_samples (hr.mono (by decide)) px (b_ 0 aa_nil)))
    (as_one (as_ret (f_call h_estimate_of (hr.mono (by decide)) px (b_ 0 aa_nil)))))
theorem sc_law_pick : FnScope ["_law_deck_here", "_law_limit", "_law_found", "_law_number"] ["_law_deck_here", "_law_limit"] (defScope s_law_pick) := ⟨rfl, rfl, rfl, by decide +kernel, rfl, by decide +kernel, by decide +kernel⟩
theorem has_law_pick (T : Txt K mg)  : Has P w K mg base "_law_pick" 2 1 F_law_pick := by
  obtain ⟨f, fd, hf, hm⟩ := T.d_law_pick
  exact def_has (N := ["_law_deck_here", "_law_limit", "_law_found", "_law_number"]) (ps := ["_law_deck_here", "_law_limit"]) (lst := [0, 1]) (body := B_law_pick) hf hm (hf.binds (ps := ["_law_deck_here", "_law_limit"]) fun _ _ _ _ _ _ us hl => match us, hl with | [_, _], _ => rfl) sc_law_pick (by decide) fun cdv A outer s H E F hr hb =>
    have sc := sc_law_pick
    (as_cons (as_if (t_gt (e_ (a_ix (v_ 0) (e_ (a_int)) (fun _ _ => rfl))) (e_ (a_int))) (as_cons (s_set 2 (hb 2 (by decide)) sc.nd (a_mod (e_ (a_ix (v_ 0) (e_ (a_int)) (fun _ _ => rfl))) (v_ 1)))
    (as_cons (s_setIx 0 (a_div (e_ (a_ix (v_ 0) (e_ (a_int)) (fun _ _ => rfl))) (v_ 1)) (a_int))
    (as_one (s_retV 2 (hb 2 (by decide)))))) as_nil)
    (as_cons (s_setIx 0 (a_add (e_ (a_ix (v_ 0) (e_ (a_int)) (fun _ _ => rfl))) (e_ (a_int))) (a_int))
    (as_cons (s_set 3 (hb 3 (by decide)) sc.nd (a_mod (e_ (a_pow (e_ (a_add (e_ (a_ix (v_ 0) (e_ (a_int)) (fun _ _ => rfl))) (e_ (a_mul (e_ (a_int)) (e_ (a_ix (v_ 0) (e_ (a_int)) (fun _ _ => rfl))))))) (e_ (a_int)))) (e_ (a_int))))
    (as_cons (s_set 2 (hb 2 (by decide)) sc.nd (a_div (e_ (a_mod (e_ (a_pow (e_ (a_add (v_ 3) (e_ (a_mul (e_ (a_int)) (e_ (a_ix (v_ 0) (e_ (a_int)) (fun _ _ => rfl))))))) (e_ (a_int)))) (e_ (a_int)))) (e_ (a_int))))
    (as_cons (as_if (t_gt (v_ 1) (e_ (a_int))) (as_one (as_ret (a_mod (e_ (a_add (e_ (a_mul (v_ 2) (e_ (a_int)))) (v_ 3))) (v_ 1)))) as_nil)
    (as_one (as_ret (a_mod (v_ 2) (v_ 1)))))))))
theorem sc_need_length : FnScope ["length"] ["length"] (defScope s_need_length) := ⟨rfl, rfl, rfl, by decide +kernel, rfl, by decide +kernel, by decide +kernel⟩
theorem has_need_length (T : Txt K mg) (h_is_from : Has P w K mg base "is_from" 3 1 F_is_from) : Has P w K mg base "need_length" 1 2 F_need_length := by
  obtain ⟨f, fd, hf, hm⟩ := T.d_need_length
  exact def_has (N := ["length"]) (ps := ["length"]) (lst := [0]) (body := B_need_length) hf hm (hf.binds (ps := ["length"]) fun _ _ _ _ _ _ us hl => match us, hl with | [_], _ => rfl) sc_need_length (by decide) fun cdv A outer s H E F hr hb =>
    have sc := sc_need_length
    (as_one (as_if (at_not (at_val (f_call h_is_from (hr.mono (by decide)) px (b_ 0 (aa_d (a_int) (aa_d (f_gInt T.i_LATEST) aa_nil)))))) (as_one (s_raise rfl (L2N.takes_of rfl rfl rfl rfl) T.e_InvalidLength)) as_nil))
theorem sc_inside : FnScope ["samples", "last", "length", "time", "one"] ["samples", "last", "length"] (defScope s_inside) := ⟨rfl, rfl, rfl, by decide +kernel, rfl, by decide +kernel, by decide +kernel⟩
theorem has_inside (T : Txt K mg)  : Has P w K mg base "inside" 3 1 F_inside := by
  obtain ⟨f, fd, hf, hm⟩ := T.d_inside
  exact def_has (N := ["samples", "last", "length", "time", "one"]) (ps := ["samples", "last", "length"]) (lst := [0, 1, 2]) (body := B_inside) hf hm (hf.binds (ps := ["samples", "last", "length"]) fun _ _ _ _ _ _ us hl => match us, hl with | [_, _, _], _ => rfl) sc_inside (by decide) fun cdv A outer s H E F hr hb =>
    have sc := sc_inside
    (as_cons (s_set 3 (hb 3 (by decide)) sc.nd (a_ix (e_ (a_ix (v_ 0) (v_ 1) (fun _ _ => rfl))) (e_ (a_int)) (fun _ _ => rfl)))
    (as_one (as_ret (f_tuple T.b_tuple (e_ (w_lc [("one", 4)] rfl sc.nd (AI.aj (ai_seq (a_cut (v_ 0) ap_none (ap_some (a_add (v_ 1) (e_ (a_int))))))) (brwL hb) (fun _ _ _ _ _ => g_ 4 (hb 4 (by decide)) sc.nd) (fun _ _ _ _ _ => (ts_one (t_ge (e_ (a_ix (v_ 4) (e_ (a_int)) (fun _ _ => rfl))) (e_ (a_sub (v_ 3) (v_ 2)))))) (fun _ _ _ _ _ => (k_ 4))))))))
theorem sc_window_estimates : FnScope ["samples", "length", "last"] ["samples", "length"] (defScope s_window_estimates) := ⟨rfl, rfl, rfl, by decide +kernel, rfl, by decide +kernel, by decide +kernel⟩
theorem has_window_estimates (T : Txt K mg) (h_need_samples : Has P w K mg base "need_samples" 1 4 F_need_samples) (h_need_length : Has P w K mg base "need_length" 1 2 F_need_length) (h_estimate_of : Has P w K mg base "estimate_of" 1 3 F_estimate_of) (h_inside : Has P w K mg base "inside" 3 1 F_inside) : Has P w K mg base "window_estimates" 2 5 F_window_estimates := by
  obtain ⟨f, fd, hf, hm⟩ := T.d_window_estimates
  exact def_has (N := ["samples", "length", "last"]) (ps := ["samples", "length"]) (lst := [0, 1]) (body := B_window_estimates) hf hm (hf.binds (ps := ["samples", "length"]) fun _ _ _ _ _ _ us hl => match us, hl with | [_, _], _ => rfl) sc_window_estimates (by decide) fun cdv A outer s H E F hr hb =>
    have sc := sc_window_estimates
    (as_cons (as_drop (f_call h_need_samples (hr.mono (by decide)) px (b_ 0 aa_nil)))
    (as_cons (as_drop (f_call h_need_length (hr.mono (by decide)) px (b_ 1 aa_nil)))
    (as_one (as_ret (w_lc [("last", 2)] rfl sc.nd (AI.aj (w_range1 T.b_range (al_cons (f_len T.b_len (v_ 0)) al_nil))) (brwL hb) (fun _ _ _ _ _ => g_ 2 (hb 2 (by decide)) sc.nd) (fun _ _ _ _ _ => (ts_yes _)) (fun _ _ _ _ _ => (f_call h_estimate_of (hr.mono (by decide)) passE (aa_d (f_call h_inside (hr.mono (by decide)) passE (b_ 0 (b_ 2 (b_ 1 aa_nil)))) aa_nil))))))))
theorem sc_need_rate : FnScope ["rate"] ["rate"] (defScope s_need_rate) := ⟨rfl, rfl, rfl, by decide +kernel, rfl, by decide +kernel, by decide +kernel⟩
theorem has_need_rate (T : Txt K mg) (h_is_from : Has P w K mg base "is_from" 3 1 F_is_from) : Has P w K mg base "need_rate" 1 2 F_need_rate := by
  obtain ⟨f, fd, hf, hm⟩ := T.d_need_rate
  exact def_has (N := ["rate"]) (ps := ["rate"]) (lst := [0]) (body := B_need_rate) hf hm (hf.binds (ps := ["rate"]) fun _ _ _ _ _ _ us hl => match us, hl with | [_], _ => rfl) sc_need_rate (by decide) fun cdv A outer s H E F hr hb =>
    have sc := sc_need_rate
    (as_one (as_if (at_not (at_val (f_call h_is_from (hr.mono (by decide)) px (b_ 0 (aa_d (a_int) (aa_d (f_gInt T.i_HIGHEST) aa_nil)))))) (as_one (s_raise rfl (L2N.takes_of rfl rfl rfl rfl) T.e_InvalidRate)) as_nil))
theorem sc_options : FnScope ["gap", "rate", "length", "one", "other", "most", "plain"] ["gap", "rate"] (defScope s_options) := ⟨rfl, rfl, rfl, by decide +kernel, rfl, by decide +kernel, by decide +kernel⟩
theorem has_options (T : Txt K mg)  : Has P w K mg base "options" 2 1 F_options := by
  obtain ⟨f, fd, hf, hm⟩ := T.d_options
  exact def_has (N := ["gap", "rate", "length", "one", "other", "most", "plain"]) (ps := ["gap", "rate"]) (lst := [0, 1]) (body := B_options) hf hm (hf.binds (ps := ["gap", "rate"]) fun _ _ _ _ _ _ us hl => match us, hl with | [_, _], _ => rfl) sc_options (by decide) fun cdv A outer s H E F hr hb =>
    have sc := sc_options
    (as_cons (as_unp (k_ 0) (ag_tup rfl (ags_cons (g_ 2 (hb 2 (by decide)) sc.nd) (ags_cons (g_ 3 (hb 3 (by decide)) sc.nd) (ags_cons (g_ 4 (hb 4 (by decide)) sc.nd) ags_nil)))))
    (as_cons (s_set 5 (hb 5 (by decide)) sc.nd (a_mul (v_ 1) (v_ 2)))
    (as_cons (s_set 6 (hb 6 (by decide)) sc.nd (a_if (at_chain op_le op2_le op_le op2_le (e_ (a_int)) (e_ (a_sub (v_ 4) (v_ 3))) (v_ 5)) (a_tup (al_cons (a_sub (v_ 4) (v_ 3)) (al_cons (a_sub (v_ 4) (v_ 3)) al_nil))) (a_non)))
    (as_one (as_ret (a_tup (al_cons (k_ 6) (al_cons (a_if (t_le (v_ 4) (v_ 5)) (a_tup (al_cons (k_ 4) (al_cons (k_ 5) al_nil))) (a_non)) al_nil))))))))
theorem sc_status_of : FnScope ["gap", "rate", "plain", "restarted"] ["gap", "rate"] (defScope s_status_of) := ⟨rfl, rfl, rfl, by decide +kernel, rfl, by decide +kernel, by decide +kernel⟩
theorem has_status_of (T : Txt K mg) (h_options : Has P w K mg base "options" 2 1 F_options) : Has P w K mg base "status_of" 2 2 F_status_of := by
  obtain ⟨f, fd, hf, hm⟩ := T.d_status_of
  exact def_has (N := ["gap", "rate", "plain", "restarted"]) (ps := ["gap", "rate"]) (lst := [0, 1]) (body := B_status_of) hf hm (hf.binds (ps := ["gap", "rate"]) fun _ _ _ _ _ _ us hl => match us, hl with | [_, _], _ => rfl) sc_status_of (by decide) fun cdv A outer s H E F hr hb =>
    have sc := sc_status_of
    (as_cons (as_unp (f_call h_options (hr.mono (by decide)) px (b_ 0 (b_ 1 aa_nil))) (ag_tup rfl (ags_cons (g_ 2 (hb 2 (by decide)) sc.nd) (ags_cons (g_ 3 (hb 3 (by decide)) sc.nd) ags_nil))))
    (as_cons (as_if (t_isN (v_ 2)) (as_one (as_ret (a_if (t_isN (v_ 3)) (a_str) (a_str)))) as_nil)
    (as_one (as_ret (a_if (t_isN (v_ 3)) (a_str) (a_str))))))
theorem sc_gaps_of : FnScope ["samples", "one", "other"] ["samples"] (defScope s_gaps_of) := ⟨rfl, rfl, rfl, by decide +kernel, rfl, by decide +kernel, by decide +kernel⟩
theorem has_gaps_of (T : Txt K mg)  : Has P w K mg base "gaps_of" 1 1 F_gaps_of := by
  obtain ⟨f, fd, hf, hm⟩ := T.d_gaps_of
  exact def_has (N := ["samples", "one", "other"]) (ps := ["samples"]) (lst := [0]) (body := B_gaps_of) hf hm (hf.binds (ps := ["samples"]) fun _ _ _ _ _ _ us hl => match us, hl with | [_], _ => rfl) sc_gaps_of (by decide) fun cdv A outer s H E F hr hb =>
    have sc := sc_gaps_of
    (as_one (as_ret (w_lc [("one", 1), ("other", 2)] rfl sc.nd (AI.aj (w_zip2 T.b_zip (al_cons (k_ 0) (al_cons (a_cut (v_ 0) (ap_some (a_int)) ap_none) al_nil)))) (brwL hb) (fun _ _ _ _ _ => ag_tup rfl (ags_cons (g_ 1 (hb 1 (by decide)) sc.nd) (ags_cons (g_ 2 (hb 2 (by decide)) sc.nd) ags_nil))) (fun _ _ _ _ _ => (ts_yes _)) (fun _ _ _ _ _ => (a_tup (al_cons (a_sub (e_ (a_ix (v_ 2) (e_ (a_int)) (fun _ _ => rfl))) (e_ (a_ix (v_ 1) (e_ (a_int)) (fun _ _ => rfl)))) (al_cons (a_ix (v_ 1) (e_ (a_int)) (fun _ _ => rfl)) (al_cons (a_ix (v_ 2) (e_ (a_int)) (fun _ _ => rfl)) al_nil))))))))
theorem sc_restart_statuses : FnScope ["samples", "rate", "gap"] ["samples", "rate"] (defScope s_restart_statuses) := ⟨rfl, rfl, rfl, by decide +kernel, rfl, by decide +kernel, by decide +kernel⟩
theorem has_restart_statuses (T : Txt K mg) (h_need_samples : Has P w K mg base "need_samples" 1 4 F_need_samples) (h_need_rate : Has P w K mg base "need_rate" 1 2 F_need_rate) (h_gaps_of : Has P w K mg base "gaps_of" 1 1 F_gaps_of) (h_status_of : Has P w K mg base "status_of" 2 2 F_status_of) : Has P w K mg base "restart_statuses" 2 5 F_restart_statuses := by
  obtain ⟨f, fd, hf, hm⟩ := T.d_restart_statuses
  exact def_has (N := ["samples", "rate", "gap"]) (ps := ["samples", "rate"]) (lst := [0, 1]) (body := B_restart_statuses) hf hm (hf.binds (ps := ["samples", "rate"]) fun _ _ _ _ _ _ us hl => match us, hl with | [_, _], _ => rfl) sc_restart_statuses (by decide) fun cdv A outer s H E F hr hb =>
    have sc := sc_restart_statuses
    (as_cons (as_drop (f_call h_need_samples (hr.mono (by decide)) px (b_ 0 aa_nil)))
    (as_cons (as_drop (f_call h_need_rate (hr.mono (by decide)) px (b_ 1 aa_nil)))
    (as_one (as_ret (w_lc [("gap", 2)] rfl sc.nd (AI.aj (ai_seq (f_call h_gaps_of (hr.mono (by decide)) px (b_ 0 aa_nil)))) (brwL hb) (fun _ _ _ _ _ => g_ 2 (hb 2 (by decide)) sc.nd) (fun _ _ _ _ _ => (ts_yes _)) (fun _ _ _ _ _ => (f_call h_status_of (hr.mono (by decide)) passE (b_ 2 (b_ 1 aa_nil)))))))))
theorem sc_steps : FnScope ["samples"] ["samples"] (defScope s_steps) := ⟨rfl, rfl, rfl, by decide +kernel, rfl, by decide +kernel, by decide +kernel⟩
theorem has_steps (T : Txt K mg) (h_need_samples : Has P w K mg base "need_samples" 1 4 F_need_samples) (h_all_steps : Has P w K mg base "all_steps" 1 2 F_all_steps) : Has P w K mg base "steps" 1 5 F_steps := by
  obtain ⟨f, fd, hf, hm⟩ := T.d_steps
  exact def_has (N := ["samples"]) (ps := ["samples"]) (lst := [0]) (body := B_steps) hf hm (hf.binds (ps := ["samples"]) fun _ _ _ _ _ _ us hl => match us, hl with | [_], _ => rfl) sc_steps (by decide) fun cdv A outer s H E F hr hb =>
    have sc := sc_steps
    (as_cons (as_drop (f_call h_need_samples (hr.mono (by decide)) px (b_ 0 aa_nil)))
    (as_one (as_ret (f_call h_all_steps (hr.mono (by decide)) px (b_ 0 aa_nil)))))
theorem sc_falls : FnScope ["samples", "values", "at"] ["samples"] (defScope s_falls) := ⟨rfl, rfl, rfl, by decide +kernel, rfl, by decide +kernel, by decide +kernel⟩
theorem has_falls (T : Txt K mg) (h_need_samples : Has P w K mg base "need_samples" 1 4 F_need_samples) (h_values_of : Has P w K mg base "values_of" 1 1 F_values_of) : Has P w K mg base "falls" 1 5 F_falls := by
  obtain ⟨f, fd, hf, hm⟩ := T.d_falls
  exact def_has (N := ["samples", "values", "at"]) (ps := ["samples"]) (lst := [0]) (body := B_falls) hf hm (hf.binds (ps := ["samples"]) fun _ _ _ _ _ _ us hl => match us, hl with | [_], _ => rfl) sc_falls (by decide) fun cdv A outer s H E F hr hb =>
    have sc := sc_falls
    (as_cons (as_drop (f_call h_need_samples (hr.mono (by decide)) px (b_ 0 aa_nil)))
    (as_cons (s_set 1 (hb 1 (by decide)) sc.nd (f_call h_values_of (hr.mono (by decide)) px (b_ 0 aa_nil)))
    (as_one (as_ret (w_lc [("at", 2)] rfl sc.nd (AI.aj (w_range2 T.b_range (al_cons (a_int) (al_cons (f_len T.b_len (v_ 1)) al_nil)))) (brwL hb) (fun _ _ _ _ _ => g_ 2 (hb 2 (by decide)) sc.nd) (fun _ _ _ _ _ => (ts_one (t_lt (e_ (a_ix (v_ 1) (v_ 2) (fun _ _ => rfl))) (e_ (a_ix (v_ 1) (e_ (a_sub (v_ 2) (e_ (a_int)))) (fun _ _ => rfl)))))) (fun _ _ _ _ _ => (k_ 2)))))))
theorem sc_loses_nothing : FnScope ["values", "first", "last", "inner", "at", "falls"] ["values", "first", "last"] (defScope s_loses_nothing) := ⟨rfl, rfl, rfl, by decide +kernel, rfl, by decide +kernel, by decide +kernel⟩
theorem has_loses_nothing (T : Txt K mg)  : Has P w K mg base "loses_nothing" 3 1 F_loses_nothing := by
  obtain ⟨f, fd, hf, hm⟩ := T.d_loses_nothing
  exact def_has (N := ["values", "first", "last", "inner", "at", "falls"]) (ps := ["values", "first", "last"]) (lst := [0, 1, 2]) (body := B_loses_nothing) hf hm (hf.binds (ps := ["values", "first", "last"]) fun _ _ _ _ _ _ us hl => match us, hl with | [_, _, _], _ => rfl) sc_loses_nothing (by decide) fun cdv A outer s H E F hr hb =>
    have sc := sc_loses_nothing
    (as_cons (s_set 3 (hb 3 (by decide)) sc.nd (a_cut (v_ 0) (ap_some (k_ 1)) (ap_some (a_add (v_ 2) (e_ (a_int))))))
    (as_cons (s_lc 5 [("at", 4)] (hb 5 (by decide)) rfl sc.nd (AI.aj (w_range2 T.b_range (al_cons (a_int) (al_cons (f_len T.b_len (v_ 3)) al_nil)))) (brwL hb) (fun _ _ _ _ _ => g_ 4 (hb 4 (by decide)) sc.nd) (fun _ _ _ _ _ => (ts_one (t_lt (e_ (a_ix (v_ 3) (v_ 4) (fun _ _ => rfl))) (e_ (a_ix (v_ 3) (e_ (a_sub (v_ 4) (e_ (a_int)))) (fun _ _ => rfl)))))) (fun _ _ _ _ _ => (k_ 4)))
    (as_cons (as_if (t_eq hr (v_ 5) (e_ (a_lst al_nil))) (as_one (as_ret (a_bl))) as_nil)
    (as_cons (as_if (at_w (aw_or (t_gt (e_ (f_len T.b_len (v_ 5))) (e_ (a_int))) (aw_or1 (t_ge (e_ (a_ix (v_ 3) (e_ (a_neg (e_ (a_int)))) (fun _ _ => rfl))) (e_ (a_ix (v_ 3) (e_ (a_int)) (fun _ _ => rfl))))))) (as_one (as_ret (a_bl))) as_nil)
    (as_one (as_ret (c_eq hr (e_ (a_ix (v_ 3) (e_ (a_sub (e_ (a_ix (v_ 5) (e_ (a_int)) (fun _ _ => rfl))) (e_ (a_int)))) (fun _ _ => rfl))) (e_ (a_ix (v_ 3) (e_ (a_int)) (fun _ _ => rfl))))))))))
theorem sc_layers : FnScope ["samples", "values", "many", "fewest", "ways", "at", "later", "some"] ["samples"] (defScope s_layers) := ⟨rfl, rfl, rfl, by decide +kernel, rfl, by decide +kernel, by decide +kernel⟩
theorem has_layers (T : Txt K mg) (h_values_of : Has P w K mg base "values_of" 1 1 F_values_of) (h_loses_nothing : Has P w K mg base "loses_nothing" 3 1 F_loses_nothing) : Has P w K mg base "layers" 1 2 F_layers := by
  obtain ⟨f, fd, hf, hm⟩ := T.d_layers
  exact def_has (N := ["samples", "values", "many", "fewest", "ways", "at", "later", "some"]) (ps := ["samples"]) (lst := [0]) (body := B_layers) hf hm (hf.binds (ps := ["samples"]) fun _ _ _ _ _ _ us hl => match us, hl with | [_], _ => rfl) sc_layers (by decide) fun cdv A outer s H E F hr hb =>
    have sc := sc_layers
    (as_cons (s_set 1 (hb 1 (by decide)) sc.nd (f_call h_values_of (hr.mono (by decide)) px (b_ 0 aa_nil)))
    (as_cons (s_set 2 (hb 2 (by decide)) sc.nd (f_len T.b_len (v_ 1)))
    (as_cons (s_parC 3 4 (hb 3 (by decide)) (hb 4 (by decide)) rfl sc.nd (a_mul (e_ (a_lst (al_cons (a_int) al_nil))) (v_ 2)) (a_mul (e_ (a_lst (al_cons (a_int) al_nil))) (v_ 2)))
    (as_cons (as_for po rfl (w_rangeM T.b_range (al_cons (a_sub (v_ 2) (e_ (a_int))) (al_cons (a_neg (e_ (a_int))) (al_cons (a_neg (e_ (a_int))) al_nil)))) (g_ 5 (hb 5 (by decide)) sc.nd) (as_cons (s_lc 7 [("later", 6)] (hb 7 (by decide)) rfl sc.nd (AI.aj (w_range2 T.b_range (al_cons (a_add (v_ 5) (e_ (a_int))) (al_cons (k_ 2) al_nil)))) (brwL hb) (fun _ _ _ _ _ => g_ 6 (hb 6 (by decide)) sc.nd) (fun _ _ _ _ _ => (ts_one (at_val (f_call h_loses_nothing (hr.mono (by decide)) passE (b_ 1 (b_ 5 (b_ 6 aa_nil))))))) (fun _ _ _ _ _ => (k_ 6)))
    (as_cons (s_setIx 3 (a_add (e_ (a_int)) (e_ (f_min rfl T.b_min (e_ (w_lc [("later", 6)] rfl sc.nd (j_n 7) (brwL hb) (fun _ _ _ _ _ => g_ 6 (hb 6 (by decide)) sc.nd) (fun _ _ _ _ _ => (ts_yes _)) (fun _ _ _ _ _ => (a_ix (v_ 3) (v_ 6) (fun _ _ => rfl)))))))) (k_ 5))
    (as_one (s_setIx 4 (f_sum rfl T.b_sum (e_ (w_lc [("later", 6)] rfl sc.nd (j_n 7) (brwL hb) (fun _ _ _ _ _ => g_ 6 (hb 6 (by decide)) sc.nd) (fun _ _ _ _ _ => (ts_one (t_eq hr (e_ (a_ix (v_ 3) (v_ 6) (fun _ _ => rfl))) (e_ (a_sub (e_ (a_ix (v_ 3) (v_ 5) (fun _ _ => rfl))) (e_ (a_int))))))) (fun _ _ _ _ _ => (a_ix (v_ 4) (v_ 6) (fun _ _ => rfl)))))) (k_ 5))))))
    (as_one (as_ret (a_tup (al_cons (k_ 3) (al_cons (k_ 4) al_nil)))))))))
theorem sc_kept_count : FnScope ["samples", "fewest", "ways"] ["samples"] (defScope s_kept_count) := ⟨rfl, rfl, rfl, by decide +kernel, rfl, by decide +kernel, by decide +kernel⟩
theorem has_kept_count (T : Txt K mg) (h_need_samples : Has P w K mg base "need_samples" 1 4 F_need_samples) (h_layers : Has P w K mg base "layers" 1 2 F_layers) : Has P w K mg base "kept_count" 1 5 F_kept_count := by
  obtain ⟨f, fd, hf, hm⟩ := T.d_kept_count
  exact def_has (N := ["samples", "fewest", "ways"]) (ps := ["samples"]) (lst := [0]) (body := B_kept_count) hf hm (hf.binds (ps := ["samples"]) fun _ _ _ _ _ _ us hl => match us, hl with | [_], _ => rfl) sc_kept_count (by decide) fun cdv A outer s H E F hr hb =>
    have sc := sc_kept_count
    (as_cons (as_drop (f_call h_need_samples (hr.mono (by decide)) px (b_ 0 aa_nil)))
    (as_cons (as_if (t_eq hr (v_ 0) (e_ (a_tup al_nil))) (as_one (as_ret (a_tup (al_cons (a_int) (al_cons (a_int) al_nil))))) as_nil)
    (as_cons (as_unp (f_call h_layers (hr.mono (by decide)) px (b_ 0 aa_nil)) (ag_tup rfl (ags_cons (g_ 1 (hb 1 (by decide)) sc.nd) (ags_cons (g_ 2 (hb 2 (by decide)) sc.nd) ags_nil))))
    (as_one (as_ret (a_tup (al_cons (a_ix (v_ 1) (e_ (a_int)) (fun _ _ => rfl)) (al_cons (a_ix (v_ 2) (e_ (a_int)) (fun _ _ => rfl)) al_nil))))))))
theorem sc_need_index : FnScope ["items", "index"] ["items", "index"] (defScope s_need_index) := ⟨rfl, rfl, rfl, by decide +kernel, rfl, by decide +kernel, by decide +kernel⟩
theorem has_need_index (T : Txt K mg) (h_is_from : Has P w K mg base "is_from" 3 1 F_is_from) : Has P w K mg base "need_index" 2 2 F_need_index := by
  obtain ⟨f, fd, hf, hm⟩ := T.d_need_index
  exact def_has (N := ["items", "index"]) (ps := ["items", "index"]) (lst := [0, 1]) (body := B_need_index) hf hm (hf.binds (ps := ["items", "index"]) fun _ _ _ _ _ _ us hl => match us, hl with | [_, _], _ => rfl) sc_need_index (by decide) fun cdv A outer s H E F hr hb =>
    have sc := sc_need_index
    (as_one (as_if (at_not (at_val (f_call h_is_from (hr.mono (by decide)) px (b_ 1 (aa_d (a_int) (aa_d (a_sub (e_ (f_len T.b_len (v_ 0))) (e_ (a_int))) aa_nil)))))) (as_one (s_raise rfl (L2N.takes_of rfl rfl rfl rfl) T.e_InvalidIndex)) as_nil))
theorem sc_loss : FnScope ["samples", "index"] ["samples", "index"] (defScope s_loss) := ⟨rfl, rfl, rfl, by decide +kernel, rfl, by decide +kernel, by decide +kernel⟩
theorem has_loss (T : Txt K mg) (h_need_samples : Has P w K mg base "need_samples" 1 4 F_need_samples) (h_need_index : Has P w K mg base "need_index" 2 2 F_need_index) (h_estimate_of : Has P w K mg base "estimate_of" 1 3 F_estimate_of) : Has P w K mg base "loss" 2 5 F_loss := by
  obtain ⟨f, fd, hf, hm⟩ := T.d_loss
  exact def_has (N := ["samples", "index"]) (ps := ["samples", "index"]) (lst := [0, 1]) (body := B_loss) hf hm (hf.binds (ps := ["samples", "index"]) fun _ _ _ _ _ _ us hl => match us, hl with | [_, _], _ => rfl) sc_loss (by decide) fun cdv A outer s H E F hr hb =>
    have sc := sc_loss
    (as_cons (as_drop (f_call h_need_samples (hr.mono (by decide)) px (b_ 0 aa_nil)))
    (as_cons (as_drop (f_call h_need_index (hr.mono (by decide)) px (b_ 0 (b_ 1 aa_nil))))
    (as_one (as_ret (a_sub (e_ (f_call h_estimate_of (hr.mono (by decide)) px (b_ 0 aa_nil))) (e_ (f_call h_estimate_of (hr.mono (by decide)) px (aa_d (a_add (e_ (a_cut (v_ 0) ap_none (ap_some (k_ 1)))) (e_ (a_cut (v_ 0) (ap_some (a_add (v_ 1) (e_ (a_int)))) ap_none))) aa_nil))))))))
theorem sc_law_one : FnScope ["_law_deck_here", "_law_some"] ["_law_deck_here", "_law_some"] (defScope s_law_one) := ⟨rfl, rfl, rfl, by decide +kernel, rfl, by decide +kernel, by decide +kernel⟩
theorem has_law_one (T : Txt K mg) (h_law_pick : Has P w K mg base "_law_pick" 2 1 F_law_pick) : Has P w K mg base "_law_one" 2 2 F_law_one := by
  obtain ⟨f, fd, hf, hm⟩ := T.d_law_one
  exact def_has (N := ["_law_deck_here", "_law_some"]) (ps := ["_law_deck_here", "_law_some"]) (lst := [0, 1]) (body := B_law_one) hf hm (hf.binds (ps := ["_law_deck_here", "_law_some"]) fun _ _ _ _ _ _ us hl => match us, hl with | [_, _], _ => rfl) sc_law_one (by decide) fun cdv A outer s H E F hr hb =>
    have sc := sc_law_one
    (as_one (as_ret (a_ix (v_ 1) (e_ (f_call h_law_pick (hr.mono (by decide)) px (b_ 0 (aa_d (f_len T.b_len (v_ 1)) aa_nil)))) (fun _ _ => rfl))))
theorem sc_law_values : FnScope ["_law_deck_here", "_law_many", "_law_top", "_law_value", "_law_found", "_law_turn", "_law_way_here"] ["_law_deck_here", "_law_many"] (defScope s_law_values) := ⟨rfl, rfl, rfl, by decide +kernel, rfl, by decide +kernel, by decide +kernel⟩
theorem has_law_values (T : Txt K mg) (h_law_one : Has P w K mg base "_law_one" 2 2 F_law_one) (h_law_pick : Has P w K mg base "_law_pick" 2 1 F_law_pick) : Has P w K mg base "_law_values" 2 3 F_law_values := by
  obtain ⟨f, fd, hf, hm⟩ := T.d_law_values
  exact def_has (N := ["_law_deck_here", "_law_many", "_law_top", "_law_value", "_law_found", "_law_turn", "_law_way_here"]) (ps := ["_law_deck_here", "_law_many"]) (lst := [0, 1]) (body := B_law_values) hf hm (hf.binds (ps := ["_law_deck_here", "_law_many"]) fun _ _ _ _ _ _ us hl => match us, hl with | [_, _], _ => rfl) sc_law_values (by decide) fun cdv A outer s H E F hr hb =>
    have sc := sc_law_values
    (as_cons (s_par3 2 3 4 (hb 2 (by decide)) (hb 3 (by decide)) (hb 4 (by decide)) rfl sc.nd (f_call h_law_one (hr.mono (by decide)) px (b_ 0 (aa_d (a_lst (al_cons (a_int) (al_cons (a_int) (al_cons (a_int) (al_cons (a_pow (e_ (a_int)) (e_ (a_int))) al_nil))))) aa_nil))) (a_int) (a_lst al_nil))
    (as_cons (as_for po rfl (w_range1 T.b_range (al_cons (f_call h_law_pick (hr.mono (by decide)) px (b_ 0 (aa_d (a_add (v_ 1) (e_ (a_int))) aa_nil))) al_nil)) (g_ 5 (hb 5 (by decide)) sc.nd) (as_cons (s_set 6 (hb 6 (by decide)) sc.nd (f_call h_law_pick (hr.mono (by decide)) px (b_ 0 (aa_d (a_int) aa_nil))))
    (as_cons (as_if (t_lt (v_ 6) (e_ (a_int))) (as_one (s_set 3 (hb 3 (by decide)) sc.nd (f_min2 rfl T.b_min (e_ (a_pow (e_ (a_int)) (e_ (a_int)))) (e_ (a_add (v_ 3) (e_ (f_call h_law_pick (hr.mono (by decide)) px (b_ 0 (aa_d (a_add (v_ 2) (e_ (a_int))) aa_nil))))))))) (as_one (as_if (t_lt (v_ 6) (e_ (a_int))) (as_one (s_set 3 (hb 3 (by decide)) sc.nd (f_call h_law_pick (hr.mono (by decide)) px (b_ 0 (aa_d (a_add (v_ 2) (e_ (a_int))) aa_nil))))) (as_one (as_if (t_eq hr (v_ 6) (e_ (a_int))) (as_one (s_set 3 (hb 3 (by decide)) sc.nd (f_call h_law_pick (hr.mono (by decide)) px (b_ 0 (aa_d (a_add (v_ 3) (e_ (a_int))) aa_nil))))) as_nil)))))
    (as_one (as_app (i := 4) (k_ 3) rfl (by first | exact Or.inl rfl | exact Or.inr (Or.inl rfl) | exact Or.inr (Or.inr rfl)))))))
    (as_one (s_retV 4 (hb 4 (by decide))))))
theorem sc_law_samples : FnScope ["_law_deck_here", "_law_many", "_law_time", "_law_found", "_law_value"] ["_law_deck_here", "_law_many"] (defScope s_law_samples) := ⟨rfl, rfl, rfl, by decide +kernel, rfl, by decide +kernel, by decide +kernel⟩
theorem has_law_samples (T : Txt K mg) (h_law_one : Has P w K mg base "_law_one" 2 2 F_law_one) (h_law_pick : Has P w K mg base "_law_pick" 2 1 F_law_pick) (h_law_values : Has P w K mg base "_law_values" 2 3 F_law_values) : Has P w K mg base "_law_samples" 2 4 F_law_samples := by
  obtain ⟨f, fd, hf, hm⟩ := T.d_law_samples
  exact def_has (N := ["_law_deck_here", "_law_many", "_law_time", "_law_found", "_law_value"]) (ps := ["_law_deck_here", "_law_many"]) (lst := [0, 1]) (body := B_law_samples) hf hm (hf.binds (ps := ["_law_deck_here", "_law_many"]) fun _ _ _ _ _ _ us hl => match us, hl with | [_, _], _ => rfl) sc_law_samples (by decide) fun cdv A outer s H E F hr hb =>
    have sc := sc_law_samples
    (as_cons (s_par 2 3 (hb 2 (by decide)) (hb 3 (by decide)) rfl sc.nd (f_call h_law_one (hr.mono (by decide)) px (b_ 0 (aa_d (a_lst (al_cons (a_int) (al_cons (a_int) (al_cons (f_call h_law_pick (hr.mono (by decide)) px (b_ 0 (aa_d (a_pow (e_ (a_int)) (e_ (a_int))) aa_nil))) al_nil)))) aa_nil))) (a_tup al_nil))
    (as_cons (as_for po rfl (ai_seq (f_call h_law_values (hr.mono (by decide)) px (b_ 0 (b_ 1 aa_nil)))) (g_ 4 (hb 4 (by decide)) sc.nd) (as_cons (s_set 3 (hb 3 (by decide)) sc.nd (a_add (v_ 3) (e_ (a_tup (al_cons (a_tup (al_cons (k_ 2) (al_cons (k_ 4) al_nil))) al_nil)))))
    (as_one (s_set 2 (hb 2 (by decide)) sc.nd (a_add (e_ (a_add (v_ 2) (e_ (a_int)))) (e_ (f_call h_law_pick (hr.mono (by decide)) px (b_ 0 (aa_d (f_call h_law_one (hr.mono (by decide)) px (b_ 0 (aa_d (a_lst (al_cons (a_int) (al_cons (a_int) (al_cons (a_int) (al_cons (a_int) al_nil))))) aa_nil))) aa_nil)))))))))
    (as_one (s_retV 3 (hb 3 (by decide))))))
theorem sc_law : FnScope ["_law_script", "_law_cell", "_law_deck_here", "_law_time", "_law_value", "_law_samples_so", "_law_shift", "_law_factor", "_law_moved_so", "_law_scaled", "_law_at", "_law_turn", "_law_last"] ["_law_script"] (defScope s_law) := ⟨rfl, rfl, rfl, by decide +kernel, rfl, by decide +kernel, by decide +kernel⟩
theorem ok_law (T : Txt K mg) (h_law_deck : Has P w K mg base "_law_deck" 2 1 F_law_deck) (h_law_samples : Has P w K mg base "_law_samples" 2 4 F_law_samples) (h_law_pick : Has P w K mg base "_law_pick" 2 1 F_law_pick) (h_steps : Has P w K mg base "steps" 1 5 F_steps) (h_falls : Has P w K mg base "falls" 1 5 F_falls) (h_estimate : Has P w K mg base "estimate" 1 5 F_estimate) (h_kept_count : Has P w K mg base "kept_count" 1 5 F_kept_count) (h_loss : Has P w K mg base "loss" 2 5 F_loss) (h_window_estimates : Has P w K mg base "window_estimates" 2 5 F_window_estimates) (h_restart_statuses : Has P w K mg base "restart_statuses" 2 5 F_restart_statuses) {f : Addr} {fd : FuncData} (hf : Fun K "law" "law" s_law f fd) : FnOk P w K mg base (L2N.CX P w) 6 f fd ["_law_script"] (spOf K mg 1 F_law) :=
  def_ok (N := ["_law_script", "_law_cell", "_law_deck_here", "_law_time", "_law_value", "_law_samples_so", "_law_shift", "_law_factor", "_law_moved_so", "_law_scaled", "_law_at", "_law_turn", "_law_last"]) (ps := ["_law_script"]) (lst := [0]) (body := B_law) hf sc_law (by decide) fun cdv A outer s H E F hr hb =>
    have sc := sc_law
    (as_cons (as_for po rfl (ai_seq (a_cut (e_ (a_add (e_ (a_lst (al_cons (a_int) al_nil))) (v_ 0))) ap_none (ap_some (a_int)))) (g_ 1 (hb 1 (by decide)) sc.nd) (as_cons (s_set 2 (hb 2 (by decide)) sc.nd (f_call h_law_deck (hr.mono (by decide)) px (b_ 1 (aa_d (a_int) aa_nil))))
    (as_cons (s_set 5 (hb 5 (by decide)) sc.nd (f_tupX T.b_tuple (e_ (w_lc [("_law_time", 3), ("_law_value", 4)] rfl sc.nd (AI.aj (ai_seq (f_call h_law_samples (hr.mono (by decide)) px (b_ 2 (aa_d (a_int) aa_nil))))) (brwL hb) (fun _ _ _ _ _ => ag_tup rfl (ags_cons (g_ 3 (hb 3 (by decide)) sc.nd) (ags_cons (g_ 4 (hb 4 (by decide)) sc.nd) ags_nil))) (fun _ _ _ _ _ => (ts_yes _)) (fun _ _ _ _ _ => (a_tup (al_cons (a_mod (v_ 3) (e_ (a_pow (e_ (a_int)) (e_ (a_int))))) (al_cons (a_mod (v_ 4) (e_ (a_pow (e_ (a_int)) (e_ (a_int))))) al_nil))))))))
    (as_cons (s_set 5 (hb 5 (by decide)) sc.nd (f_tupX T.b_tuple (e_ (a_srtDct 5 T.b_sorted T.b_dict))))
    (as_cons (as_unp (a_tup (al_cons (f_call h_law_pick (hr.mono (by decide)) px (b_ 2 (aa_d (a_pow (e_ (a_int)) (e_ (a_int))) aa_nil))) (al_cons (a_add (e_ (a_int)) (e_ (f_call h_law_pick (hr.mono (by decide)) px (b_ 2 (aa_d (a_int) aa_nil))))) al_nil))) (ag_tup rfl (ags_cons (g_ 6 (hb 6 (by decide)) sc.nd) (ags_cons (g_ 7 (hb 7 (by decide)) sc.nd) ags_nil))))
    (as_cons (s_set 8 (hb 8 (by decide)) sc.nd (f_tuple T.b_tuple (e_ (w_lc [("_law_time", 3), ("_law_value", 4)] rfl sc.nd (AI.aj (ai_seq (a_w 5))) (brwL hb) (fun _ _ _ _ _ => ag_tup rfl (ags_cons (g_ 3 (hb 3 (by decide)) sc.nd) (ags_cons (g_ 4 (hb 4 (by decide)) sc.nd) ags_nil))) (fun _ _ _ _ _ => (ts_yes _)) (fun _ _ _ _ _ => (a_tup (al_cons (a_add (v_ 3) (v_ 6)) (al_cons (k_ 4) al_nil))))))))
    (as_cons (s_set 9 (hb 9 (by decide)) sc.nd (f_tuple T.b_tuple (e_ (w_lc [("_law_time", 3), ("_law_value", 4)] rfl sc.nd (AI.aj (ai_seq (a_w 5))) (brwL hb) (fun _ _ _ _ _ => ag_tup rfl (ags_cons (g_ 3 (hb 3 (by decide)) sc.nd) (ags_cons (g_ 4 (hb 4 (by decide)) sc.nd) ags_nil))) (fun _ _ _ _ _ => (ts_yes _)) (fun _ _ _ _ _ => (a_tup (al_cons (k_ 3) (al_cons (a_mul (v_ 4) (v_ 7)) al_nil))))))))
    (as_cons (as_if (at_w (aw_or (t_ne hr (e_ (f_call h_steps (hr.mono (by decide)) px (b_ 8 aa_nil))) (e_ (f_call h_steps (hr.mono (by decide)) px (aa_d (a_w 5) aa_nil)))) (aw_or1 (t_ne hr (e_ (f_call h_falls (hr.mono (by decide)) px (b_ 9 aa_nil))) (e_ (f_call h_falls (hr.mono (by decide)) px (aa_d (a_w 5) aa_nil))))))) (as_one (as_ret (a_bl))) as_nil)
    (as_cons (as_if (at_w (aw_or (t_ne hr (e_ (f_call h_estimate (hr.mono (by decide)) px (b_ 9 aa_nil))) (e_ (a_mul (v_ 7) (e_ (f_call h_estimate (hr.mono (by decide)) px (aa_d (a_w 5) aa_nil)))))) (aw_or1 (t_ne hr (e_ (f_call h_estimate (hr.mono (by decide)) px (b_ 8 aa_nil))) (e_ (f_call h_estimate (hr.mono (by decide)) px (aa_d (a_w 5) aa_nil))))))) (as_one (as_ret (a_bl))) as_nil)
    (as_cons (as_if (at_w (aw_or (t_ne hr (e_ (f_call h_kept_count (hr.mono (by decide)) px (b_ 8 aa_nil))) (e_ (f_call h_kept_count (hr.mono (by decide)) px (aa_d (a_w 5) aa_nil)))) (aw_or1 (t_ne hr (e_ (f_call h_kept_count (hr.mono (by decide)) px (b_ 9 aa_nil))) (e_ (f_call h_kept_count (hr.mono (by decide)) px (aa_d (a_w 5) aa_nil))))))) (as_one (as_ret (a_bl))) as_nil)
    (as_cons (as_for po rfl (w_range1 T.b_range (al_cons (f_len T.b_len (e_ (a_w 5))) al_nil)) (g_ 10 (hb 10 (by decide)) sc.nd) (as_one (as_if (t_ne hr (e_ (f_call h_loss (hr.mono (by decide)) px (b_ 9 (b_ 10 aa_nil)))) (e_ (a_mul (v_ 7) (e_ (f_call h_loss (hr.mono (by decide)) px (aa_d (a_w 5) (b_ 10 aa_nil))))))) (as_one (as_ret (a_bl))) as_nil)))
    (as_cons (as_if (t_ne hr (e_ (f_call h_window_estimates (hr.mono (by decide)) px (b_ 8 (aa_d (a_int) aa_nil)))) (e_ (f_call h_window_estimates (hr.mono (by decide)) px (aa_d (a_w 5) (aa_d (a_int) aa_nil))))) (as_one (as_ret (a_bl))) as_nil)
    (as_cons (as_if (t_ne hr (e_ (f_call h_restart_statuses (hr.mono (by decide)) px (b_ 9 (aa_d (a_mul (e_ (a_int)) (v_ 7)) aa_nil)))) (e_ (f_call h_restart_statuses (hr.mono (by decide)) px (aa_d (a_w 5) (aa_d (a_int) aa_nil))))) (as_one (as_ret (a_bl))) as_nil)
    (as_cons (as_for po rfl (w_range1 T.b_range (al_cons (a_int) al_nil)) (g_ 11 (hb 11 (by decide)) sc.nd) (as_cons (s_par 3 4 (hb 3 (by decide)) (hb 4 (by decide)) rfl sc.nd (f_call h_law_pick (hr.mono (by decide)) px (b_ 2 (aa_d (a_pow (e_ (a_int)) (e_ (a_int))) aa_nil))) (f_call h_law_pick (hr.mono (by decide)) px (b_ 2 (aa_d (a_pow (e_ (a_int)) (e_ (a_int))) aa_nil))))
    (as_one (as_if (at_ninDct 5 hr T.b_dict (k_ 3)) (as_one (as_if (t_lt (e_ (f_call h_estimate (hr.mono (by decide)) px (aa_d (f_tuple T.b_tuple (e_ (a_srtP T.b_sorted (e_ (a_add (e_ (a_w 5)) (e_ (a_tup (al_cons (a_tup (al_cons (k_ 3) (al_cons (k_ 4) al_nil))) al_nil)))))))) aa_nil))) (e_ (f_call h_estimate (hr.mono (by decide)) px (aa_d (a_w 5) aa_nil)))) (as_one (as_ret (a_bl))) as_nil)) as_nil))))
    (as_one (as_if (t_ne hr (e_ (a_w 5)) (e_ (a_tup al_nil))) (as_cons (s_set 12 (hb 12 (by decide)) sc.nd (a_ix (e_ (a_w 5)) (e_ (a_neg (e_ (a_int)))) (fun _ _ => rfl)))
    (as_one (as_if (t_ne hr (e_ (f_call h_estimate (hr.mono (by decide)) px (aa_d (a_add (e_ (a_w 5)) (e_ (a_tup (al_cons (a_tup (al_cons (a_add (e_ (a_ix (v_ 12) (e_ (a_int)) (fun _ _ => rfl))) (e_ (a_int))) (al_cons (a_ix (v_ 12) (e_ (a_int)) (fun _ _ => rfl)) al_nil))) al_nil)))) aa_nil))) (e_ (f_call h_estimate (hr.mono (by decide)) px (aa_d (a_w 5) aa_nil)))) (as_one (as_ret (a_bl))) as_nil))) as_nil))))))))))))))))
    (as_cons (as_if (t_ne hr (e_ (f_call h_estimate (hr.mono (by decide)) px (aa_d (a_tup (al_cons (a_tup (al_cons (a_int) (al_cons (a_pow (e_ (a_int)) (e_ (a_int))) al_nil))) (al_cons (a_tup (al_cons (a_pow (e_ (a_int)) (e_ (a_int))) (al_cons (a_pow (e_ (a_int)) (e_ (a_int))) al_nil))) al_nil))) aa_nil))) (e_ (a_int))) (as_one (as_ret (a_bl))) as_nil)
    (as_one (as_ret (c_eq hr (e_ (f_call h_estimate (hr.mono (by decide)) px (aa_d (a_tup (al_cons (a_tup (al_cons (a_int) (al_cons (a_pow (e_ (a_int)) (e_ (a_int))) al_nil))) (al_cons (a_tup (al_cons (a_int) (al_cons (a_int) al_nil))) (al_cons (a_tup (al_cons (a_int) (al_cons (a_pow (e_ (a_int)) (e_ (a_int))) al_nil))) al_nil)))) aa_nil))) (e_ (a_pow (e_ (a_int)) (e_ (a_int)))))))))
theorem fin (T : Txt K mg) {fa : Addr} (hmg : mg "law" = some (.ref fa)) : ∃ fd : FuncData, (∀ (s : Shared) (u : Value), BindsTo s fd ⟨[u], []⟩ [("_law_script", u)]) ∧ ∀ base : Heap, K.In base → base.Ns mainGlobals mg → FnOk P w K mg base (L2N.CX P w) 6 fa fd ["_law_script"] (spOf K mg 1 F_law) := by
  obtain ⟨f, fd, hf, hm⟩ := T.d_law
  rw [hmg] at hm
  cases hm
  refine ⟨fd, fun s u => ?_, fun base _ _ => ?_⟩
  · obtain ⟨oc, od, kV, doc, pm, an, cdv, ct, osl, rfl, lk, hcd⟩ := hf.ex
    exact .of_eq rfl
  · skip
    have h_law_deck : Has P w K mg base "_law_deck" 2 1 F_law_deck := has_law_deck T 
    have h_is_from : Has P w K mg base "is_from" 3 1 F_is_from := has_is_from T 
    have h_is_sample : Has P w K mg base "is_sample" 1 2 F_is_sample := has_is_sample T h_is_from
    have h_is_samples : Has P w K mg base "is_samples" 1 3 F_is_samples := has_is_samples T h_is_sample
    have h_need_samples : Has P w K mg base "need_samples" 1 4 F_need_samples := has_need_samples T h_is_samples
    have h_values_of : Has P w K mg base "values_of" 1 1 F_values_of := has_values_of T 
    have h_step : Has P w K mg base "step" 2 1 F_step := has_step T 
    have h_all_steps : Has P w K mg base "all_steps" 1 2 F_all_steps := has_all_steps T h_values_of h_step
    have h_estimate_of : Has P w K mg base "estimate_of" 1 3 F_estimate_of := has_estimate_of T h_all_steps
    have h_estimate : Has P w K mg base "estimate" 1 5 F_estimate := has_estimate T h_need_samples h_estimate_of
    have h_law_pick : Has P w K mg base "_law_pick" 2 1 F_law_pick := has_law_pick T 
    have h_need_length : Has P w K mg base "need_length" 1 2 F_need_length := has_need_length T h_is_from
    have h_inside : Has P w K mg base "inside" 3 1 F_inside := has_inside T 
    have h_window_estimates : Has P w K mg base "window_estimates" 2 5 F_window_estimates := has_window_estimates T h_need_samples h_need_length h_estimate_of h_inside
    have h_need_rate : Has P w K mg base "need_rate" 1 2 F_need_rate := has_need_rate T h_is_from
    have h_options : Has P w K mg base "options" 2 1 F_options := has_options T 
    have h_status_of : Has P w K mg base "status_of" 2 2 F_status_of := has_status_of T h_options
    have h_gaps_of : Has P w K mg base "gaps_of" 1 1 F_gaps_of := has_gaps_of T 
    have h_restart_statuses : Has P w K mg base "restart_statuses" 2 5 F_restart_statuses := has_restart_statuses T h_need_samples h_need_rate h_gaps_of h_status_of
    have h_steps : Has P w K mg base "steps" 1 5 F_steps := has_steps T h_need_samples h_all_steps
    have h_falls : Has P w K mg base "falls" 1 5 F_falls := has_falls T h_need_samples h_values_of
    have h_loses_nothing : Has P w K mg base "loses_nothing" 3 1 F_loses_nothing := has_loses_nothing T 
    have h_layers : Has P w K mg base "layers" 1 2 F_layers := has_layers T h_values_of h_loses_nothing
    have h_kept_count : Has P w K mg base "kept_count" 1 5 F_kept_count := has_kept_count T h_need_samples h_layers
    have h_need_index : Has P w K mg base "need_index" 2 2 F_need_index := has_need_index T h_is_from
    have h_loss : Has P w K mg base "loss" 2 5 F_loss := has_loss T h_need_samples h_need_index h_estimate_of
    have h_law_one : Has P w K mg base "_law_one" 2 2 F_law_one := has_law_one T h_law_pick
    have h_law_values : Has P w K mg base "_law_values" 2 3 F_law_values := has_law_values T h_law_one h_law_pick
    have h_law_samples : Has P w K mg base "_law_samples" 2 4 F_law_samples := has_law_samples T h_law_one h_law_pick h_law_values
    exact ok_law T h_law_deck h_law_samples h_law_pick h_steps h_falls h_estimate h_kept_count h_loss h_window_estimates h_restart_statuses hf
theorem txt_mk {h : Heap} (X : K.In h) (G : h.Ns mainGlobals mg) {t12 : Nat} {C15 : Addr} {C16 : Addr} {C17 : Addr} {C18 : Addr} {g19 : Addr} {od19 an19 : Option Addr} {sl19 : Array (Option Value)} {oc19 kV19 dc19 pm19 cd19 ct19 : Value} {g20 : Addr} {od20 an20 : Option Addr} {sl20 : Array (Option Value)} {oc20 kV20 dc20 pm20 cd20 ct20 : Value} {g21 : Addr} {od21 an21 : Option Addr} {sl21 : Array (Option Value)} {oc21 kV21 dc21 pm21 cd21 ct21 : Value} {g22 : Addr} {od22 an22 : Option Addr} {sl22 : Array (Option Value)} {oc22 kV22 dc22 pm22 cd22 ct22 : Value} {g23 : Addr} {od23 an23 : Option Addr} {sl23 : Array (Option Value)} {oc23 kV23 dc23 pm23 cd23 ct23 : Value} {g24 : Addr} {od24 an24 : Option Addr} {sl24 : Array (Option Value)} {oc24 kV24 dc24 pm24 cd24 ct24 : Value} {g25 : Addr} {od25 an25 : Option Addr} {sl25 : Array (Option Value)} {oc25 kV25 dc25 pm25 cd25 ct25 : Value} {g26 : Addr} {od26 an26 : Option Addr} {sl26 : Array (Option Value)} {oc26 kV26 dc26 pm26 cd26 ct26 : Value} {g27 : Addr} {od27 an27 : Option Addr} {sl27 : Array (Option Value)} {oc27 kV27 dc27 pm27 cd27 ct27 : Value} {g28 : Addr} {od28 an28 : Option Addr} {sl28 : Array (Option Value)} {oc28 kV28 dc28 pm28 cd28 ct28 : Value} {g29 : Addr} {od29 an29 : Option Addr} {sl29 : Array (Option Value)} {oc29 kV29 dc29 pm29 cd29 ct29 : Value} {g30 : Addr} {od30 an30 : Option Addr} {sl30 : Array (Option Value)} {oc30 kV30 dc30 pm30 cd30 ct30 : Value} {g31 : Addr} {od31 an31 : Option Addr} {sl31 : Array (Option Value)} {oc31 kV31 dc31 pm31 cd31 ct31 : Value} {g32 : Addr} {od32 an32 : Option Addr} {sl32 : Array (Option Value)} {oc32 kV32 dc32 pm32 cd32 ct32 : Value} {g33 : Addr} {od33 an33 : Option Addr} {sl33 : Array (Option Value)} {oc33 kV33 dc33 pm33 cd33 ct33 : Value} {g34 : Addr} {od34 an34 : Option Addr} {sl34 : Array (Option Value)} {oc34 kV34 dc34 pm34 cd34 ct34 : Value} {g35 : Addr} {od35 an35 : Option Addr} {sl35 : Array (Option Value)} {oc35 kV35 dc35 pm35 cd35 ct35 : Value} {g36 : Addr} {od36 an36 : Option Addr} {sl36 : Array (Option Value)} {oc36 kV36 dc36 pm36 cd36 ct36 : Value} {g37 : Addr} {od37 an37 : Option Addr} {sl37 : Array (Option Value)} {oc37 kV37 dc37 pm37 cd37 ct37 : Value} {g38 : Addr} {od38 an38 : Option Addr} {sl38 : Array (Option Value)} {oc38 kV38 dc38 pm38 cd38 ct38 : Value} {g39 : Addr} {od39 an39 : Option Addr} {sl39 : Array (Option Value)} {oc39 kV39 dc39 pm39 cd39 ct39 : Value} {g40 : Addr} {od40 an40 : Option Addr} {sl40 : Array (Option Value)} {oc40 kV40 dc40 pm40 cd40 ct40 : Value} {g41 : Addr} {od41 an41 : Option Addr} {sl41 : Array (Option Value)} {oc41 kV41 dc41 pm41 cd41 ct41 : Value} {g42 : Addr} {od42 an42 : Option Addr} {sl42 : Array (Option Value)} {oc42 kV42 dc42 pm42 cd42 ct42 : Value} {g43 : Addr} {od43 an43 : Option Addr} {sl43 : Array (Option Value)} {oc43 kV43 dc43 pm43 cd43 ct43 : Value} {g44 : Addr} {od44 an44 : Option Addr} {sl44 : Array (Option Value)} {oc44 kV44 dc44 pm44 cd44 ct44 : Value} {g45 : Addr} {od45 an45 : Option Addr} {sl45 : Array (Option Value)} {oc45 kV45 dc45 pm45 cd45 ct45 : Value} {g46 : Addr} {od46 an46 : Option Addr} {sl46 : Array (Option Value)} {oc46 kV46 dc46 pm46 cd46 ct46 : Value} {g47 : Addr} {od47 an47 : Option Addr} {sl47 : Array (Option Value)} {oc47 kV47 dc47 pm47 cd47 ct47 : Value} {g48 : Addr} {od48 an48 : Option Addr} {sl48 : Array (Option Value)} {oc48 kV48 dc48 pm48 cd48 ct48 : Value}
    (f0 : PySem.W.nsIn K mainGlobals "all" = some none)
    (f1 : PySem.W.nsIn K mainGlobals "bool" = some none)
    (f2 : PySem.W.nsIn K mainGlobals "dict" = some none)
    (f3 : PySem.W.nsIn K mainGlobals "int" = some none)
    (f4 : PySem.W.nsIn K mainGlobals "isinstance" = some none)
    (f5 : PySem.W.nsIn K mainGlobals "len" = some none)
    (f6 : PySem.W.nsIn K mainGlobals "min" = some none)
    (f7 : PySem.W.nsIn K mainGlobals "range" = some none)
    (f8 : PySem.W.nsIn K mainGlobals "sorted" = some none)
    (f9 : PySem.W.nsIn K mainGlobals "sum" = some none)
    (f10 : PySem.W.nsIn K mainGlobals "tuple" = some none)
    (f11 : PySem.W.nsIn K mainGlobals "zip" = some none)
    (f12 : PySem.W.nsIn K mainGlobals "MOST_SAMPLES" = some (some (.int 40 t12)))
    (f13 : ∃ t, mg "HIGHEST" = some (.int 1000000 t))
    (f14 : ∃ t, mg "LATEST" = some (.int 1000000000 t))
    (a15 : PySem.W.nsIn K mainGlobals "InvalidIndex" = some (some (.ref C15))) (x15 : PySem.W.excIn K C15 [.type "ValueError", .type "Exception", .type "BaseException", .type "object"] "ValueError.__new__" = true) (k15 : PySem.W.keepIn K (.ref C15) = true) (b15 : PySem.W.subIn K (.ref C15) (.type "BaseException") = some true) (t15 : PySem.W.typeIn K (.ref C15) = some (.type "type"))
    (a16 : PySem.W.nsIn K mainGlobals "InvalidLength" = some (some (.ref C16))) (x16 : PySem.W.excIn K C16 [.type "ValueError", .type "Exception", .type "BaseException", .type "object"] "ValueError.__new__" = true) (k16 : PySem.W.keepIn K (.ref C16) = true) (b16 : PySem.W.subIn K (.ref C16) (.type "BaseException") = some true) (t16 : PySem.W.typeIn K (.ref C16) = some (.type "type"))
    (a17 : PySem.W.nsIn K mainGlobals "InvalidRate" = some (some (.ref C17))) (x17 : PySem.W.excIn K C17 [.type "ValueError", .type "Exception", .type "BaseException", .type "object"] "ValueError.__new__" = true) (k17 : PySem.W.keepIn K (.ref C17) = true) (b17 : PySem.W.subIn K (.ref C17) (.type "BaseException") = some true) (t17 : PySem.W.typeIn K (.ref C17) = some (.type "type"))
    (a18 : PySem.W.nsIn K mainGlobals "InvalidSamples" = some (some (.ref C18))) (x18 : PySem.W.excIn K C18 [.type "ValueError", .type "Exception", .type "BaseException", .type "object"] "ValueError.__new__" = true) (k18 : PySem.W.keepIn K (.ref C18) = true) (b18 : PySem.W.subIn K (.ref C18) (.type "BaseException") = some true) (t18 : PySem.W.typeIn K (.ref C18) = some (.type "type"))
    (a19 : PySem.W.nsIn K mainGlobals "_law_deck" = some (some (.ref g19))) (l19 : K.lookup g19 = some ⟨oc19, od19, .func (PySem.W.fnOf "_law_deck" "_law_deck" (defArgs s_law_deck) (defBody s_law_deck) (defScope s_law_deck) .none kV19 dc19 pm19 an19 cd19 ct19), sl19⟩) (c19 : PySem.W.codeIn K cd19 "_law_deck" = true) (k19 : PySem.W.keepIn K (.ref g19) = true)
    (a20 : PySem.W.nsIn K mainGlobals "is_from" = some (some (.ref g20))) (l20 : K.lookup g20 = some ⟨oc20, od20, .func (PySem.W.fnOf "is_from" "is_from" (defArgs s_is_from) (defBody s_is_from) (defScope s_is_from) .none kV20 dc20 pm20 an20 cd20 ct20), sl20⟩) (c20 : PySem.W.codeIn K cd20 "is_from" = true) (k20 : PySem.W.keepIn K (.ref g20) = true)
    (a21 : PySem.W.nsIn K mainGlobals "is_sample" = some (some (.ref g21))) (l21 : K.lookup g21 = some ⟨oc21, od21, .func (PySem.W.fnOf "is_sample" "is_sample" (defArgs s_is_sample) (defBody s_is_sample) (defScope s_is_sample) .none kV21 dc21 pm21 an21 cd21 ct21), sl21⟩) (c21 : PySem.W.codeIn K cd21 "is_sample" = true) (k21 : PySem.W.keepIn K (.ref g21) = true)
    (a22 : PySem.W.nsIn K mainGlobals "is_samples" = some (some (.ref g22))) (l22 : K.lookup g22 = some ⟨oc22, od22, .func (PySem.W.fnOf "is_samples" "is_samples" (defArgs s_is_samples) (defBody s_is_samples) (defScope s_is_samples) .none kV22 dc22 pm22 an22 cd22 ct22), sl22⟩) (c22 : PySem.W.codeIn K cd22 "is_samples" = true) (k22 : PySem.W.keepIn K (.ref g22) = true)
    (a23 : PySem.W.nsIn K mainGlobals "need_samples" = some (some (.ref g23))) (l23 : K.lookup g23 = some ⟨oc23, od23, .func (PySem.W.fnOf "need_samples" "need_samples" (defArgs s_need_samples) (defBody s_need_samples) (defScope s_need_samples) .none kV23 dc23 pm23 an23 cd23 ct23), sl23⟩) (c23 : PySem.W.codeIn K cd23 "need_samples" = true) (k23 : PySem.W.keepIn K (.ref g23) = true)
    (a24 : PySem.W.nsIn K mainGlobals "values_of" = some (some (.ref g24))) (l24 : K.lookup g24 = some ⟨oc24, od24, .func (PySem.W.fnOf "values_of" "values_of" (defArgs s_values_of) (defBody s_values_of) (defScope s_values_of) .none kV24 dc24 pm24 an24 cd24 ct24), sl24⟩) (c24 : PySem.W.codeIn K cd24 "values_of" = true) (k24 : PySem.W.keepIn K (.ref g24) = true)
    (a25 : PySem.W.nsIn K mainGlobals "step" = some (some (.ref g25))) (l25 : K.lookup g25 = some ⟨oc25, od25, .func (PySem.W.fnOf "step" "step" (defArgs s_step) (defBody s_step) (defScope s_step) .none kV25 dc25 pm25 an25 cd25 ct25), sl25⟩) (c25 : PySem.W.codeIn K cd25 "step" = true) (k25 : PySem.W.keepIn K (.ref g25) = true)
    (a26 : PySem.W.nsIn K mainGlobals "all_steps" = some (some (.ref g26))) (l26 : K.lookup g26 = some ⟨oc26, od26, .func (PySem.W.fnOf "all_steps" "all_steps" (defArgs s_all_steps) (defBody s_all_steps) (defScope s_all_steps) .none kV26 dc26 pm26 an26 cd26 ct26), sl26⟩) (c26 : PySem.W.codeIn K cd26 "all_steps" = true) (k26 : PySem.W.keepIn K (.ref g26) = true)
    (a27 : PySem.W.nsIn K mainGlobals "estimate_of" = some (some (.ref g27))) (l27 : K.lookup g27 = some ⟨oc27, od27, .func (PySem.W.fnOf "estimate_of" "estimate_of" (defArgs s_estimate_of) (defBody s_estimate_of) (defScope s_estimate_of) .none kV27 dc27 pm27 an27 cd27 ct27), sl27⟩) (c27 : PySem.W.codeIn K cd27 "estimate_of" = true) (k27 : PySem.W.keepIn K (.ref g27) = true)
    (a28 : PySem.W.nsIn K mainGlobals "estimate" = some (some (.ref g28))) (l28 : K.lookup g28 = some ⟨oc28, od28, .func (PySem.W.fnOf "estimate" "estimate" (defArgs s_estimate) (defBody s_estimate) (defScope s_estimate) .none kV28 dc28 pm28 an28 cd28 ct28), sl28⟩) (c28 : PySem.W.codeIn K cd28 "estimate" = true) (k28 : PySem.W.keepIn K (.ref g28) = true)
    (a29 : PySem.W.nsIn K mainGlobals "_law_pick" = some (some (.ref g29))) (l29 : K.lookup g29 = some ⟨oc29, od29, .func (PySem.W.fnOf "_law_pick" "_law_pick" (defArgs s_law_pick) (defBody s_law_pick) (defScope s_law_pick) .none kV29 dc29 pm29 an29 cd29 ct29), sl29⟩) (c29 : PySem.W.codeIn K cd29 "_law_pick" = true) (k29 : PySem.W.keepIn K (.ref g29) = true)
    (a30 : PySem.W.nsIn K mainGlobals "need_length" = some (some (.ref g30))) (l30 : K.lookup g30 = some ⟨oc30, od30, .func (PySem.W.fnOf "need_length" "need_length" (defArgs s_need_length) (defBody s_need_length) (defScope s_need_length) .none kV30 dc30 pm30 an30 cd30 ct30), sl30⟩) (c30 : PySem.W.codeIn K cd30 "need_length" = true) (k30 : PySem.W.keepIn K (.ref g30) = true)
    (a31 : PySem.W.nsIn K mainGlobals "inside" = some (some (.ref g31))) (l31 : K.lookup g31 = some ⟨oc31, od31, .func (PySem.W.fnOf "inside" "inside" (defArgs s_inside) (defBody s_inside) (defScope s_inside) .none kV31 dc31 pm31 an31 cd31 ct31), sl31⟩) (c31 : PySem.W.codeIn K cd31 "inside" = true) (k31 : PySem.W.keepIn K (.ref g31) = true)
    (a32 : PySem.W.nsIn K mainGlobals "window_estimates" = some (some (.ref g32))) (l32 : K.lookup g32 = some ⟨oc32, od32, .func (PySem.W.fnOf "window_estimates" "window_estimates" (defArgs s_window_estimates) (defBody s_window_estimates) (defScope s_window_estimates) .none kV32 dc32 pm32 an32 cd32 ct32), sl32⟩) (c32 : PySem.W.codeIn K cd32 "window_estimates" = true) (k32 : PySem.W.keepIn K (.ref g32) = true)
    (a33 : PySem.W.nsIn K mainGlobals "need_rate" = some (some (.ref g33))) (l33 : K.lookup g33 = some ⟨oc33, od33, .func (PySem.W.fnOf "need_rate" "need_rate" (defArgs s_need_rate) (defBody s_need_rate) (defScope s_need_rate) .none kV33 dc33 pm33 an33 cd33 ct33), sl33⟩) (c33 : PySem.W.codeIn K cd33 "need_rate" = true) (k33 : PySem.W.keepIn K (.ref g33) = true)
    (a34 : PySem.W.nsIn K mainGlobals "options" = some (some (.ref g34))) (l34 : K.lookup g34 = some ⟨oc34, od34, .func (PySem.W.fnOf "options" "options" (defArgs s_options) (defBody s_options) (defScope s_options) .none kV34 dc34 pm34 an34 cd34 ct34), sl34⟩) (c34 : PySem.W.codeIn K cd34 "options" = true) (k34 : PySem.W.keepIn K (.ref g34) = true)
    (a35 : PySem.W.nsIn K mainGlobals "status_of" = some (some (.ref g35))) (l35 : K.lookup g35 = some ⟨oc35, od35, .func (PySem.W.fnOf "status_of" "status_of" (defArgs s_status_of) (defBody s_status_of) (defScope s_status_of) .none kV35 dc35 pm35 an35 cd35 ct35), sl35⟩) (c35 : PySem.W.codeIn K cd35 "status_of" = true) (k35 : PySem.W.keepIn K (.ref g35) = true)
    (a36 : PySem.W.nsIn K mainGlobals "gaps_of" = some (some (.ref g36))) (l36 : K.lookup g36 = some ⟨oc36, od36, .func (PySem.W.fnOf "gaps_of" "gaps_of" (defArgs s_gaps_of) (defBody s_gaps_of) (defScope s_gaps_of) .none kV36 dc36 pm36 an36 cd36 ct36), sl36⟩) (c36 : PySem.W.codeIn K cd36 "gaps_of" = true) (k36 : PySem.W.keepIn K (.ref g36) = true)
    (a37 : PySem.W.nsIn K mainGlobals "restart_statuses" = some (some (.ref g37))) (l37 : K.lookup g37 = some ⟨oc37, od37, .func (PySem.W.fnOf "restart_statuses" "restart_statuses" (defArgs s_restart_statuses) (defBody s_restart_statuses) (defScope s_restart_statuses) .none kV37 dc37 pm37 an37 cd37 ct37), sl37⟩) (c37 : PySem.W.codeIn K cd37 "restart_statuses" = true) (k37 : PySem.W.keepIn K (.ref g37) = true)
    (a38 : PySem.W.nsIn K mainGlobals "steps" = some (some (.ref g38))) (l38 : K.lookup g38 = some ⟨oc38, od38, .func (PySem.W.fnOf "steps" "steps" (defArgs s_steps) (defBody s_steps) (defScope s_steps) .none kV38 dc38 pm38 an38 cd38 ct38), sl38⟩) (c38 : PySem.W.codeIn K cd38 "steps" = true) (k38 : PySem.W.keepIn K (.ref g38) = true)
    (a39 : PySem.W.nsIn K mainGlobals "falls" = some (some (.ref g39))) (l39 : K.lookup g39 = some ⟨oc39, od39, .func (PySem.W.fnOf "falls" "falls" (defArgs s_falls) (defBody s_falls) (defScope s_falls) .none kV39 dc39 pm39 an39 cd39 ct39), sl39⟩) (c39 : PySem.W.codeIn K cd39 "falls" = true) (k39 : PySem.W.keepIn K (.ref g39) = true)
    (a40 : PySem.W.nsIn K mainGlobals "loses_nothing" = some (some (.ref g40))) (l40 : K.lookup g40 = some ⟨oc40, od40, .func (PySem.W.fnOf "loses_nothing" "loses_nothing" (defArgs s_loses_nothing) (defBody s_loses_nothing) (defScope s_loses_nothing) .none kV40 dc40 pm40 an40 cd40 ct40), sl40⟩) (c40 : PySem.W.codeIn K cd40 "loses_nothing" = true) (k40 : PySem.W.keepIn K (.ref g40) = true)
    (a41 : PySem.W.nsIn K mainGlobals "layers" = some (some (.ref g41))) (l41 : K.lookup g41 = some ⟨oc41, od41, .func (PySem.W.fnOf "layers" "layers" (defArgs s_layers) (defBody s_layers) (defScope s_layers) .none kV41 dc41 pm41 an41 cd41 ct41), sl41⟩) (c41 : PySem.W.codeIn K cd41 "layers" = true) (k41 : PySem.W.keepIn K (.ref g41) = true)
    (a42 : PySem.W.nsIn K mainGlobals "kept_count" = some (some (.ref g42))) (l42 : K.lookup g42 = some ⟨oc42, od42, .func (PySem.W.fnOf "kept_count" "kept_count" (defArgs s_kept_count) (defBody s_kept_count) (defScope s_kept_count) .none kV42 dc42 pm42 an42 cd42 ct42), sl42⟩) (c42 : PySem.W.codeIn K cd42 "kept_count" = true) (k42 : PySem.W.keepIn K (.ref g42) = true)
    (a43 : PySem.W.nsIn K mainGlobals "need_index" = some (some (.ref g43))) (l43 : K.lookup g43 = some ⟨oc43, od43, .func (PySem.W.fnOf "need_index" "need_index" (defArgs s_need_index) (defBody s_need_index) (defScope s_need_index) .none kV43 dc43 pm43 an43 cd43 ct43), sl43⟩) (c43 : PySem.W.codeIn K cd43 "need_index" = true) (k43 : PySem.W.keepIn K (.ref g43) = true)
    (a44 : PySem.W.nsIn K mainGlobals "loss" = some (some (.ref g44))) (l44 : K.lookup g44 = some ⟨oc44, od44, .func (PySem.W.fnOf "loss" "loss" (defArgs s_loss) (defBody s_loss) (defScope s_loss) .none kV44 dc44 pm44 an44 cd44 ct44), sl44⟩) (c44 : PySem.W.codeIn K cd44 "loss" = true) (k44 : PySem.W.keepIn K (.ref g44) = true)
    (a45 : PySem.W.nsIn K mainGlobals "_law_one" = some (some (.ref g45))) (l45 : K.lookup g45 = some ⟨oc45, od45, .func (PySem.W.fnOf "_law_one" "_law_one" (defArgs s_law_one) (defBody s_law_one) (defScope s_law_one) .none kV45 dc45 pm45 an45 cd45 ct45), sl45⟩) (c45 : PySem.W.codeIn K cd45 "_law_one" = true) (k45 : PySem.W.keepIn K (.ref g45) = true)
    (a46 : PySem.W.nsIn K mainGlobals "_law_values" = some (some (.ref g46))) (l46 : K.lookup g46 = some ⟨oc46, od46, .func (PySem.W.fnOf "_law_values" "_law_values" (defArgs s_law_values) (defBody s_law_values) (defScope s_law_values) .none kV46 dc46 pm46 an46 cd46 ct46), sl46⟩) (c46 : PySem.W.codeIn K cd46 "_law_values" = true) (k46 : PySem.W.keepIn K (.ref g46) = true)
    (a47 : PySem.W.nsIn K mainGlobals "_law_samples" = some (some (.ref g47))) (l47 : K.lookup g47 = some ⟨oc47, od47, .func (PySem.W.fnOf "_law_samples" "_law_samples" (defArgs s_law_samples) (defBody s_law_samples) (defScope s_law_samples) .none kV47 dc47 pm47 an47 cd47 ct47), sl47⟩) (c47 : PySem.W.codeIn K cd47 "_law_samples" = true) (k47 : PySem.W.keepIn K (.ref g47) = true)
    (a48 : PySem.W.nsIn K mainGlobals "law" = some (some (.ref g48))) (l48 : K.lookup g48 = some ⟨oc48, od48, .func (PySem.W.fnOf "law" "law" (defArgs s_law) (defBody s_law) (defScope s_law) .none kV48 dc48 pm48 an48 cd48 ct48), sl48⟩) (c48 : PySem.W.codeIn K cd48 "law" = true) (k48 : PySem.W.keepIn K (.ref g48) = true) : Txt K mg :=
  ⟨PySem.W.mg_none_of X G f0, PySem.W.mg_none_of X G f1, PySem.W.mg_none_of X G f2, PySem.W.mg_none_of X G f3, PySem.W.mg_none_of X G f4, PySem.W.mg_none_of X G f5, PySem.W.mg_none_of X G f6, PySem.W.mg_none_of X G f7, PySem.W.mg_none_of X G f8, PySem.W.mg_none_of X G f9, PySem.W.mg_none_of X G f10, PySem.W.mg_none_of X G f11, ⟨t12, PySem.W.mg_of X G f12⟩, f13, f14, ⟨C15, PySem.W.mg_of X G a15, x15, k15, b15, t15⟩, ⟨C16, PySem.W.mg_of X G a16, x16, k16, b16, t16⟩, ⟨C17, PySem.W.mg_of X G a17, x17, k17, b17, t17⟩, ⟨C18, PySem.W.mg_of X G a18, x18, k18, b18, t18⟩, ⟨_, _, fun_mk l19 c19 k19, PySem.W.mg_of X G a19⟩, ⟨_, _, fun_mk l20 c20 k20, PySem.W.mg_of X G a20⟩, ⟨_, _, fun_mk l21 c21 k21, PySem.W.mg_of X G a21⟩, ⟨_, _, fun_mk l22 c22 k22, PySem.W.mg_of X G a22⟩, ⟨_, _, fun_mk l23 c23 k23, PySem.W.mg_of X G a23⟩, ⟨_, _, fun_mk l24 c24 k24, PySem.W.mg_of X G a24⟩, ⟨_, _, fun_mk l25 c25 k25, PySem.W.mg_of X G a25⟩, ⟨_, _, fun_mk l26 c26 k26, PySem.W.mg_of X G a26⟩, ⟨_, _, fun_mk l27 c27 k27, PySem.W.mg_of X G a27⟩, ⟨_, _, fun_mk l28 c28 k28, PySem.W.mg_of X G a28⟩, ⟨_, _, fun_mk l29 c29 k29, PySem.W.mg_of X G a29⟩, ⟨_, _, fun_mk l30 c30 k30, PySem.W.mg_of X G a30⟩, ⟨_, _, fun_mk l31 c31 k31, PySem.W.mg_of X G a31⟩, ⟨_, _, fun_mk l32 c32 k32, PySem.W.mg_of X G a32⟩, ⟨_, _, fun_mk l33 c33 k33, PySem.W.mg_of X G a33⟩, ⟨_, _, fun_mk l34 c34 k34, PySem.W.mg_of X G a34⟩, ⟨_, _, fun_mk l35 c35 k35, PySem.W.mg_of X G a35⟩, ⟨_, _, fun_mk l36 c36 k36, PySem.W.mg_of X G a36⟩, ⟨_, _, fun_mk l37 c37 k37, PySem.W.mg_of X G a37⟩, ⟨_, _, fun_mk l38 c38 k38, PySem.W.mg_of X G a38⟩, ⟨_, _, fun_mk l39 c39 k39, PySem.W.mg_of X G a39⟩, ⟨_, _, fun_mk l40 c40 k40, PySem.W.mg_of X G a40⟩, ⟨_, _, fun_mk l41 c41 k41, PySem.W.mg_of X G a41⟩, ⟨_, _, fun_mk l42 c42 k42, PySem.W.mg_of X G a42⟩, ⟨_, _, fun_mk l43 c43 k43, PySem.W.mg_of X G a43⟩, ⟨_, _, fun_mk l44 c44 k44, PySem.W.mg_of X G a44⟩, ⟨_, _, fun_mk l45 c45 k45, PySem.W.mg_of X G a45⟩, ⟨_, _, fun_mk l46 c46 k46, PySem.W.mg_of X G a46⟩, ⟨_, _, fun_mk l47 c47 k47, PySem.W.mg_of X G a47⟩, ⟨_, _, fun_mk l48 c48 k48, PySem.W.mg_of X G a48⟩⟩
end
end K20

namespace K20
/-! ### the law's own small defs -/
section
open PySem Rc
/-- a deck that is fit to be drawn from: n bounds the turns -/
def Deck (n : Int) (ds : List D) : Prop := ∃ d0 d1 d2 : Int, ds = [.int d0, .int d1, .int d2] ∧ 0 ≤ d1 ∧ d1 < 2147483579 ∧ 0 ≤ d2 ∧ d2 ≤ n
theorem Deck.mono {n m : Int} {ds : List D} (h : Deck n ds) (l : n ≤ m) : Deck m ds := by
  obtain ⟨a, b, c, e, h1, h2, h3, h4⟩ := h
  exact ⟨a, b, c, e, h1, h2, h3, by omega⟩
theorem deck_spec (c t : Int) (h : 0 ≤ t) : Rt (F_law_deck [.val (.int c), .val (.int t)]) fun v outs => ∃ ds, v = .ow ds ∧ outs = [.val (.int c), .val (.int t)] ∧ Deck t ds := by
  have m := Int.emod_nonneg c (show (2147483579 : Int) ≠ 0 by decide)
  have m2 := Int.emod_lt_of_pos c (show (0 : Int) < 2147483579 by decide)
  unfold F_law_deck B_law_deck
  simp -implicitDefEqProofs only [if_true, ↓Ok_ok, ↓Ok_bind, ↓Ok_seq, ↓thenS_nx, ↓thenS_rt, ↓thenS_bk, ↓thenS_ct, ↓Ok_sIf, ↓Ok_pass, ↓Ok_ret, ↓Ok_setk, ↓Ok_park, ↓Ok_par3k, ↓Ok_drop, ↓Ok_for, ↓Ok_while, ↓Ok_unpk, ↓Ok_callk, ↓Ok_tryC, ↓Tr_x, ↓Tr_r, ↓nmk_s, ↓muk_n, ↓muk_c, ↓mu2_s, ↓mu2_v, ↓mu2_o, ↓zrk_n, ↓zrk_c, ↓rs_h, ↓rs_v, ↓rs_o, hd_v, hd_o, hd_u, mh_n, mh_c, ↓Rt_fnk,
  ↓sg_z, ↓sg_s, ↓sw_z, ↓sw_s, ↓td_val, ↓td_ow, ↓Ok_eLit, ↓kp_val, ↓kp_ow, ↓Ok_eV, ↓Ok_op1e, ↓Ok_op1v, ↓Ok_op2ee, ↓Ok_op2ve, ↓Ok_op2ev, ↓Ok_op2vv, ↓op_add, ↓op_addL, ↓op_addT, ↓op_addI, ↓op_subI, ↓op_addB, ↓op_subB, ↓op_sub, ↓op_mul, ↓op_mod, ↓op_div, ↓op_pow, ↓op_lt, ↓op_le, ↓op_gt, ↓op_ge, ↓op_eqI, ↓op_neI, ↓op_neg, ↓op_isN, ↓op_notN, ↓op_lenL, ↓op_lenT,
  ↓op_isi_i, ↓op_isi_b, ↓op_isi_l, ↓op_isi_t, ↓op_isi_n, ↓op_isi_s, ↓op_abs, ↓op_max2, ↓op_min2, ↓op_tupL, ↓op_tupT, ↓op_lstL, ↓op_lstT, ↓ix_0, ↓ix_1, ↓ix_2, ↓ix_3, ↓tx_0, ↓tx_1, ↓tx_2, ↓tx_3, ↓Ok_datum, ↓Ok_evL0, ↓Ok_evLc, ↓Ok_eTup, ↓Ok_eLst, ↓bk_b, ↓Ok_tB, ↓Ok_eB, ↓Ok_tNot, ↓Ok_tAnd, ↓Ok_tOr, ↓Ok_eAnd, ↓Ok_eOr, ↓Ok_eIf, ↓fk_i, ↓fk_b, ↓fk_n, ↓Ok_evSe, ↓Ok_evSv, ↓ck2_b, ↓Ok_eChain,
  ↓pk_n, ↓pk_t, ↓pk_l, ↓pks_n, ↓pks_c, ↓vk_val, ↓vk_ow, ↓rvk_val, ↓rvk_ow, ↓Ok_retV, ↓augk_val, ↓Ok_augk, ↓nk_i, ↓Ok_setIx, ↓ixk_0, ↓ixk_1, ↓ixk_2, ↓apk_ow, ↓owk_ow, ↓Ok_app, ↓ak_n, ↓ak_d, ↓ak_b, ↓gk_n, ↓gk_l, ↓gk_r, ↓zk_n, ↓zk_l, ↓zk_r, ↓sgm_z, ↓sgm_s, ↓mk2_v, ↓mk2_o, ↓ik_z, ↓ik_n, ↓ik_s, ↓uk_z, ↓uk_s, ↓rtk_rt, ↓rtk_nx, ↓nok_n, ↓nok_v, ↓nok_o,
  ↓afk_nx, ↓afk_ct, ↓afk_bk, ↓afk_rt, ↓dk_l, ↓dk_t, ↓Ok_evPn, ↓Ok_evPs, ↓Ok_cutek, ↓Ok_cutv, ↓op_cutL, ↓op_cutT, ↓Ok_wSeq, ↓rk_i, ↓Ok_wRng1, ↓Ok_wRng2, ↓Ok_wEnum, ↓Ok_wZip2, ↓Ok_wZip3, ↓Ok_wN, ↓wk_n, ↓wk_c, ↓op_isB, ↓op_isNB, ↓dkk_d, ↓vk_dki, ↓lkk_s, ↓Ok_newK, ↓Ok_dlen, ↓Ok_dsorted, ↓Ok_dget, ↓Ok_dgetD, ↓Ok_dput,
  okArg_v, okArg_o, ↓Ok_tYes, nc_0, nc_1, nc_2, nc_3, nc_4, not_true_eq_false, not_false_eq_true, isN, List.length_cons, List.length_nil, Nat.zero_add, Nat.reduceAdd, List.mem_cons, List.not_mem_nil, decide_eq_true_eq, Bool.not_eq_true', decide_eq_false_iff_not, Bool.not_true, Bool.not_false, Bool.false_eq_true, if_true, if_false, true_and, and_true, or_false, or_true, true_or, reduceCtorEq, Nat.reduceEqDiff, and_self, decide_true, decide_false, Int.reduceLT, Int.reduceLE, Int.reduceEq, Int.reduceToNat, Int.reducePow, Int.reduceAdd, Int.reduceSub, Int.reduceMul, Int.reduceNeg, Int.reduceMod, Int.reduceDiv, Nat.reduceLeDiff, Nat.reduceLT, false_or, or_self, and_false, false_and]
  exact ifc (fun _ => ⟨_, rfl, _, _, _, rfl, m, m2, h, Int.le_refl _⟩) fun _ => ⟨_, rfl, _, _, _, rfl, m, m2, h, Int.le_refl _⟩
theorem pick_spec {n l : Int} {ds : List D} (hd : Deck n ds) (hn : n < 1000000000) (h0 : 0 < l) (h1 : l < 1000000000000000000) :
    Rt (F_law_pick [.ow ds, .val (.int l)]) fun v outs => ∃ r es, v = .val (.int r) ∧ outs = [.ow es, .val (.int l)] ∧ 0 ≤ r ∧ r < l ∧ Deck (n + 1) es := by
  obtain ⟨d0, d1, d2, rfl, a1, a2, a3, a4⟩ := hd
  have md := fun x => Int.emod_nonneg x (show l ≠ 0 by omega)
  have ml := fun x => Int.emod_lt_of_pos x h0
  have nd := fun x => Int.emod_nonneg x (show (2147483647 : Int) ≠ 0 by decide)
  have nl := fun x => Int.emod_lt_of_pos x (show (0 : Int) < 2147483647 by decide)
  unfold F_law_pick B_law_pick
  simp -implicitDefEqProofs only [if_true, ↓Ok_ok, ↓Ok_bind, ↓Ok_seq, ↓thenS_nx, ↓thenS_rt, ↓thenS_bk, ↓thenS_ct, ↓Ok_sIf, ↓Ok_pass, ↓Ok_ret, ↓Ok_setk, ↓Ok_park, ↓Ok_par3k, ↓Ok_drop, ↓Ok_for, ↓Ok_while, ↓Ok_unpk, ↓Ok_callk, ↓Ok_tryC, ↓Tr_x, ↓Tr_r, ↓nmk_s, ↓muk_n, ↓muk_c, ↓mu2_s, ↓mu2_v, ↓mu2_o, ↓zrk_n, ↓zrk_c, ↓rs_h, ↓rs_v, ↓rs_o, hd_v, hd_o, hd_u, mh_n, mh_c, ↓Rt_fnk,
  ↓sg_z, ↓sg_s, ↓sw_z, ↓sw_s, ↓td_val, ↓td_ow, ↓Ok_eLit, ↓kp_val, ↓kp_ow, ↓Ok_eV, ↓Ok_op1e, ↓Ok_op1v, ↓Ok_op2ee, ↓Ok_op2ve, ↓Ok_op2ev, ↓Ok_op2vv, ↓op_add, ↓op_addL, ↓op_addT, ↓op_addI, ↓op_subI, ↓op_addB, ↓op_subB, ↓op_sub, ↓op_mul, ↓op_mod, ↓op_div, ↓op_pow, ↓op_lt, ↓op_le, ↓op_gt, ↓op_ge, ↓op_eqI, ↓op_neI, ↓op_neg, ↓op_isN, ↓op_notN, ↓op_lenL, ↓op_lenT,
  ↓op_isi_i, ↓op_isi_b, ↓op_isi_l, ↓op_isi_t, ↓op_isi_n, ↓op_isi_s, ↓op_abs, ↓op_max2, ↓op_min2, ↓op_tupL, ↓op_tupT, ↓op_lstL, ↓op_lstT, ↓ix_0, ↓ix_1, ↓ix_2, ↓ix_3, ↓tx_0, ↓tx_1, ↓tx_2, ↓tx_3, ↓Ok_datum, ↓Ok_evL0, ↓Ok_evLc, ↓Ok_eTup, ↓Ok_eLst, ↓bk_b, ↓Ok_tB, ↓Ok_eB, ↓Ok_tNot, ↓Ok_tAnd, ↓Ok_tOr, ↓Ok_eAnd, ↓Ok_eOr, ↓Ok_eIf, ↓fk_i, ↓fk_b, ↓fk_n, ↓Ok_evSe, ↓Ok_evSv, ↓ck2_b, ↓Ok_eChain,
  ↓pk_n, ↓pk_t, ↓pk_l, ↓pks_n, ↓pks_c, ↓vk_val, ↓vk_ow, ↓rvk_val, ↓rvk_ow, ↓Ok_retV, ↓augk_val, ↓Ok_augk, ↓nk_i, ↓Ok_setIx, ↓ixk_0, ↓ixk_1, ↓ixk_2, ↓apk_ow, ↓owk_ow, ↓Ok_app, ↓ak_n, ↓ak_d, ↓ak_b, ↓gk_n, ↓gk_l, ↓gk_r, ↓zk_n, ↓zk_l, ↓zk_r, ↓sgm_z, ↓sgm_s, ↓mk2_v, ↓mk2_o, ↓ik_z, ↓ik_n, ↓ik_s, ↓uk_z, ↓uk_s, ↓rtk_rt, ↓rtk_nx, ↓nok_n, ↓nok_v, ↓nok_o,
  ↓afk_nx, ↓afk_ct, ↓afk_bk, ↓afk_rt, ↓dk_l, ↓dk_t, ↓Ok_evPn, ↓Ok_evPs, ↓Ok_cutek, ↓Ok_cutv, ↓op_cutL, ↓op_cutT, ↓Ok_wSeq, ↓rk_i, ↓Ok_wRng1, ↓Ok_wRng2, ↓Ok_wEnum, ↓Ok_wZip2, ↓Ok_wZip3, ↓Ok_wN, ↓wk_n, ↓wk_c, ↓op_isB, ↓op_isNB, ↓dkk_d, ↓vk_dki, ↓lkk_s, ↓Ok_newK, ↓Ok_dlen, ↓Ok_dsorted, ↓Ok_dget, ↓Ok_dgetD, ↓Ok_dput,
  okArg_v, okArg_o, ↓Ok_tYes, nc_0, nc_1, nc_2, nc_3, nc_4, not_true_eq_false, not_false_eq_true, isN, List.length_cons, List.length_nil, Nat.zero_add, Nat.reduceAdd, List.mem_cons, List.not_mem_nil, decide_eq_true_eq, Bool.not_eq_true', decide_eq_false_iff_not, Bool.not_true, Bool.not_false, Bool.false_eq_true, if_true, if_false, true_and, and_true, or_false, or_true, true_or, reduceCtorEq, Nat.reduceEqDiff, and_self, decide_true, decide_false, Int.reduceLT, Int.reduceLE, Int.reduceEq, Int.reduceToNat, Int.reducePow, Int.reduceAdd, Int.reduceSub, Int.reduceMul, Int.reduceNeg, Int.reduceMod, Int.reduceDiv, Nat.reduceLeDiff, Nat.reduceLT, false_or, or_self, and_false, false_and]
  have q1 := nd ((d1 + 15485867 * (d2 + 1)) ^ 5)
  have q2 := nl ((d1 + 15485867 * (d2 + 1)) ^ 5)
  exact ifc (fun _ => ⟨h0, ⟨h0, by omega⟩, _, _, rfl, rfl, md _, ml _, _, _, _, rfl, a1, a2, a3, by omega⟩) fun _ => ⟨⟨by omega, by omega⟩, ⟨by omega, by omega⟩,
    ifc (fun _ => ⟨h0, _, _, rfl, rfl, md _, ml _, _, _, _, rfl, a1, a2, by omega, by omega⟩) fun _ => ⟨h0, _, _, rfl, rfl, md _, ml _, _, _, _, rfl, a1, a2, by omega, by omega⟩⟩
end

section
open PySem Rc
theorem one_spec {n : Int} {ds xs : List D} (hd : Deck n ds) (hn : n < 1000000000) (h0 : 0 < xs.length) (h1 : xs.length < 1000000) :
    Rt (F_law_one [.ow ds, .val (.list xs)]) fun v outs => ∃ d es, d ∈ xs ∧ v = .val d ∧ outs = [.ow es, .val (.list xs)] ∧ Deck (n + 1) es := by
  unfold F_law_one B_law_one
  simp -implicitDefEqProofs only [if_true, ↓Ok_ok, ↓Ok_bind, ↓Ok_seq, ↓thenS_nx, ↓thenS_rt, ↓thenS_bk, ↓thenS_ct, ↓Ok_sIf, ↓Ok_pass, ↓Ok_ret, ↓Ok_setk, ↓Ok_park, ↓Ok_par3k, ↓Ok_drop, ↓Ok_for, ↓Ok_while, ↓Ok_unpk, ↓Ok_callk, ↓Ok_tryC, ↓Tr_x, ↓Tr_r, ↓nmk_s, ↓muk_n, ↓muk_c, ↓mu2_s, ↓mu2_v, ↓mu2_o, ↓zrk_n, ↓zrk_c, ↓rs_h, ↓rs_v, ↓rs_o, hd_v, hd_o, hd_u, mh_n, mh_c, ↓Rt_fnk,
  ↓sg_z, ↓sg_s, ↓sw_z, ↓sw_s, ↓td_val, ↓td_ow, ↓Ok_eLit, ↓kp_val, ↓kp_ow, ↓Ok_eV, ↓Ok_op1e, ↓Ok_op1v, ↓Ok_op2ee, ↓Ok_op2ve, ↓Ok_op2ev, ↓Ok_op2vv, ↓op_add, ↓op_addL, ↓op_addT, ↓op_addI, ↓op_subI, ↓op_addB, ↓op_subB, ↓op_sub, ↓op_mul, ↓op_mod, ↓op_div, ↓op_pow, ↓op_lt, ↓op_le, ↓op_gt, ↓op_ge, ↓op_eqI, ↓op_neI, ↓op_neg, ↓op_isN, ↓op_notN, ↓op_lenL, ↓op_lenT,
  ↓op_isi_i, ↓op_isi_b, ↓op_isi_l, ↓op_isi_t, ↓op_isi_n, ↓op_isi_s, ↓op_abs, ↓op_max2, ↓op_min2, ↓op_tupL, ↓op_tupT, ↓op_lstL, ↓op_lstT, ↓ix_0, ↓ix_1, ↓ix_2, ↓ix_3, ↓tx_0, ↓tx_1, ↓tx_2, ↓tx_3, ↓Ok_datum, ↓Ok_evL0, ↓Ok_evLc, ↓Ok_eTup, ↓Ok_eLst, ↓bk_b, ↓Ok_tB, ↓Ok_eB, ↓Ok_tNot, ↓Ok_tAnd, ↓Ok_tOr, ↓Ok_eAnd, ↓Ok_eOr, ↓Ok_eIf, ↓fk_i, ↓fk_b, ↓fk_n, ↓Ok_evSe, ↓Ok_evSv, ↓ck2_b, ↓Ok_eChain,
  ↓pk_n, ↓pk_t, ↓pk_l, ↓pks_n, ↓pks_c, ↓vk_val, ↓vk_ow, ↓rvk_val, ↓rvk_ow, ↓Ok_retV, ↓augk_val, ↓Ok_augk, ↓nk_i, ↓Ok_setIx, ↓ixk_0, ↓ixk_1, ↓ixk_2, ↓apk_ow, ↓owk_ow, ↓Ok_app, ↓ak_n, ↓ak_d, ↓ak_b, ↓gk_n, ↓gk_l, ↓gk_r, ↓zk_n, ↓zk_l, ↓zk_r, ↓sgm_z, ↓sgm_s, ↓mk2_v, ↓mk2_o, ↓ik_z, ↓ik_n, ↓ik_s, ↓uk_z, ↓uk_s, ↓rtk_rt, ↓rtk_nx, ↓nok_n, ↓nok_v, ↓nok_o,
  ↓afk_nx, ↓afk_ct, ↓afk_bk, ↓afk_rt, ↓dk_l, ↓dk_t, ↓Ok_evPn, ↓Ok_evPs, ↓Ok_cutek, ↓Ok_cutv, ↓op_cutL, ↓op_cutT, ↓Ok_wSeq, ↓rk_i, ↓Ok_wRng1, ↓Ok_wRng2, ↓Ok_wEnum, ↓Ok_wZip2, ↓Ok_wZip3, ↓Ok_wN, ↓wk_n, ↓wk_c, ↓op_isB, ↓op_isNB, ↓dkk_d, ↓vk_dki, ↓lkk_s, ↓Ok_newK, ↓Ok_dlen, ↓Ok_dsorted, ↓Ok_dget, ↓Ok_dgetD, ↓Ok_dput,
  okArg_v, okArg_o, ↓Ok_tYes, nc_0, nc_1, nc_2, nc_3, nc_4, not_true_eq_false, not_false_eq_true, isN, List.length_cons, List.length_nil, Nat.zero_add, Nat.reduceAdd, List.mem_cons, List.not_mem_nil, decide_eq_true_eq, Bool.not_eq_true', decide_eq_false_iff_not, Bool.not_true, Bool.not_false, Bool.false_eq_true, if_true, if_false, true_and, and_true, or_false, or_true, true_or, reduceCtorEq, Nat.reduceEqDiff, and_self, decide_true, decide_false, Int.reduceLT, Int.reduceLE, Int.reduceEq, Int.reduceToNat, Int.reducePow, Int.reduceAdd, Int.reduceSub, Int.reduceMul, Int.reduceNeg, Int.reduceMod, Int.reduceDiv, Nat.reduceLeDiff, Nat.reduceLT, false_or, or_self, and_false, false_and]
  refine Rt_mono (pick_spec hd hn (by omega) (by omega)) ?_
  rintro _ _ ⟨r, es, rfl, rfl, r0, r1, hd'⟩
  have hr : r.toNat < xs.length := by omega
  simp -implicitDefEqProofs only [↓op_ixL, ↓Ok_ok, ↓Ok_bind, ↓Ok_seq, ↓thenS_nx, ↓thenS_rt, ↓thenS_bk, ↓thenS_ct, ↓Ok_sIf, ↓Ok_pass, ↓Ok_ret, ↓Ok_setk, ↓Ok_park, ↓Ok_par3k, ↓Ok_drop, ↓Ok_for, ↓Ok_while, ↓Ok_unpk, ↓Ok_callk, ↓Ok_tryC, ↓Tr_x, ↓Tr_r, ↓nmk_s, ↓muk_n, ↓muk_c, ↓mu2_s, ↓mu2_v, ↓mu2_o, ↓zrk_n, ↓zrk_c, ↓rs_h, ↓rs_v, ↓rs_o, hd_v, hd_o, hd_u, mh_n, mh_c, ↓Rt_fnk,
  ↓sg_z, ↓sg_s, ↓sw_z, ↓sw_s, ↓td_val, ↓td_ow, ↓Ok_eLit, ↓kp_val, ↓kp_ow, ↓Ok_eV, ↓Ok_op1e, ↓Ok_op1v, ↓Ok_op2ee, ↓Ok_op2ve, ↓Ok_op2ev, ↓Ok_op2vv, ↓op_add, ↓op_addL, ↓op_addT, ↓op_addI, ↓op_subI, ↓op_addB, ↓op_subB, ↓op_sub, ↓op_mul, ↓op_mod, ↓op_div, ↓op_pow, ↓op_lt, ↓op_le, ↓op_gt, ↓op_ge, ↓op_eqI, ↓op_neI, ↓op_neg, ↓op_isN, ↓op_notN, ↓op_lenL, ↓op_lenT,
  ↓op_isi_i, ↓op_isi_b, ↓op_isi_l, ↓op_isi_t, ↓op_isi_n, ↓op_isi_s, ↓op_abs, ↓op_max2, ↓op_min2, ↓op_tupL, ↓op_tupT, ↓op_lstL, ↓op_lstT, ↓ix_0, ↓ix_1, ↓ix_2, ↓ix_3, ↓tx_0, ↓tx_1, ↓tx_2, ↓tx_3, ↓Ok_datum, ↓Ok_evL0, ↓Ok_evLc, ↓Ok_eTup, ↓Ok_eLst, ↓bk_b, ↓Ok_tB, ↓Ok_eB, ↓Ok_tNot, ↓Ok_tAnd, ↓Ok_tOr, ↓Ok_eAnd, ↓Ok_eOr, ↓Ok_eIf, ↓fk_i, ↓fk_b, ↓fk_n, ↓Ok_evSe, ↓Ok_evSv, ↓ck2_b, ↓Ok_eChain,
  ↓pk_n, ↓pk_t, ↓pk_l, ↓pks_n, ↓pks_c, ↓vk_val, ↓vk_ow, ↓rvk_val, ↓rvk_ow, ↓Ok_retV, ↓augk_val, ↓Ok_augk, ↓nk_i, ↓Ok_setIx, ↓ixk_0, ↓ixk_1, ↓ixk_2, ↓apk_ow, ↓owk_ow, ↓Ok_app, ↓ak_n, ↓ak_d, ↓ak_b, ↓gk_n, ↓gk_l, ↓gk_r, ↓zk_n, ↓zk_l, ↓zk_r, ↓sgm_z, ↓sgm_s, ↓mk2_v, ↓mk2_o, ↓ik_z, ↓ik_n, ↓ik_s, ↓uk_z, ↓uk_s, ↓rtk_rt, ↓rtk_nx, ↓nok_n, ↓nok_v, ↓nok_o,
  ↓afk_nx, ↓afk_ct, ↓afk_bk, ↓afk_rt, ↓dk_l, ↓dk_t, ↓Ok_evPn, ↓Ok_evPs, ↓Ok_cutek, ↓Ok_cutv, ↓op_cutL, ↓op_cutT, ↓Ok_wSeq, ↓rk_i, ↓Ok_wRng1, ↓Ok_wRng2, ↓Ok_wEnum, ↓Ok_wZip2, ↓Ok_wZip3, ↓Ok_wN, ↓wk_n, ↓wk_c, ↓op_isB, ↓op_isNB, ↓dkk_d, ↓vk_dki, ↓lkk_s, ↓Ok_newK, ↓Ok_dlen, ↓Ok_dsorted, ↓Ok_dget, ↓Ok_dgetD, ↓Ok_dput,
  okArg_v, okArg_o, ↓Ok_tYes, nc_0, nc_1, nc_2, nc_3, nc_4, not_true_eq_false, not_false_eq_true, isN, List.length_cons, List.length_nil, Nat.zero_add, Nat.reduceAdd, List.mem_cons, List.not_mem_nil, decide_eq_true_eq, Bool.not_eq_true', decide_eq_false_iff_not, Bool.not_true, Bool.not_false, Bool.false_eq_true, if_true, if_false, true_and, and_true, or_false, or_true, true_or, reduceCtorEq, Nat.reduceEqDiff, and_self, decide_true, decide_false, Int.reduceLT, Int.reduceLE, Int.reduceEq, Int.reduceToNat, Int.reducePow, Int.reduceAdd, Int.reduceSub, Int.reduceMul, Int.reduceNeg, Int.reduceMod, Int.reduceDiv, Nat.reduceLeDiff, Nat.reduceLT, false_or, or_self, and_false, false_and]
  exact ⟨xs[r.toNat], atI_of r0 (List.getElem?_eq_getElem hr), xs[r.toNat], es, List.getElem_mem hr, rfl, rfl, hd'⟩
end

/-! ### random values -/
section
open PySem Rc
theorem values_spec {n m : Int} {ds : List D} (hd : Deck n ds) (hn : n < 900000000) (h0 : 0 ≤ m) (h1 : m ≤ 1000) :
    Rt (F_law_values [.ow ds, .val (.int m)]) fun v outs => ∃ (ns : List Int) (es : List D), v = .ow (ns.map PyData.int) ∧ outs = [.ow es, .val (.int m)] ∧ ns.length ≤ m.toNat ∧ (∀ x ∈ ns, 0 ≤ x ∧ x ≤ 1000000) ∧ Deck (n + 2 + 2 * m) es := by
  unfold F_law_values B_law_values
  simp -implicitDefEqProofs only [if_true, ↓Ok_ok, ↓Ok_bind, ↓Ok_seq, ↓thenS_nx, ↓thenS_rt, ↓thenS_bk, ↓thenS_ct, ↓Ok_sIf, ↓Ok_pass, ↓Ok_ret, ↓Ok_setk, ↓Ok_park, ↓Ok_par3k, ↓Ok_drop, ↓Ok_for, ↓Ok_while, ↓Ok_unpk, ↓Ok_callk, ↓Ok_tryC, ↓Tr_x, ↓Tr_r, ↓nmk_s, ↓muk_n, ↓muk_c, ↓mu2_s, ↓mu2_v, ↓mu2_o, ↓zrk_n, ↓zrk_c, ↓rs_h, ↓rs_v, ↓rs_o, hd_v, hd_o, hd_u, mh_n, mh_c, ↓Rt_fnk,
  ↓sg_z, ↓sg_s, ↓sw_z, ↓sw_s, ↓td_val, ↓td_ow, ↓Ok_eLit, ↓kp_val, ↓kp_ow, ↓Ok_eV, ↓Ok_op1e, ↓Ok_op1v, ↓Ok_op2ee, ↓Ok_op2ve, ↓Ok_op2ev, ↓Ok_op2vv, ↓op_add, ↓op_addL, ↓op_addT, ↓op_addI, ↓op_subI, ↓op_addB, ↓op_subB, ↓op_sub, ↓op_mul, ↓op_mod, ↓op_div, ↓op_pow, ↓op_lt, ↓op_le, ↓op_gt, ↓op_ge, ↓op_eqI, ↓op_neI, ↓op_neg, ↓op_isN, ↓op_notN, ↓op_lenL, ↓op_lenT,
  ↓op_isi_i, ↓op_isi_b, ↓op_isi_l, ↓op_isi_t, ↓op_isi_n, ↓op_isi_s, ↓op_abs, ↓op_max2, ↓op_min2, ↓op_tupL, ↓op_tupT, ↓op_lstL, ↓op_lstT, ↓ix_0, ↓ix_1, ↓ix_2, ↓ix_3, ↓tx_0, ↓tx_1, ↓tx_2, ↓tx_3, ↓Ok_datum, ↓Ok_evL0, ↓Ok_evLc, ↓Ok_eTup, ↓Ok_eLst, ↓bk_b, ↓Ok_tB, ↓Ok_eB, ↓Ok_tNot, ↓Ok_tAnd, ↓Ok_tOr, ↓Ok_eAnd, ↓Ok_eOr, ↓Ok_eIf, ↓fk_i, ↓fk_b, ↓fk_n, ↓Ok_evSe, ↓Ok_evSv, ↓ck2_b, ↓Ok_eChain,
  ↓pk_n, ↓pk_t, ↓pk_l, ↓pks_n, ↓pks_c, ↓vk_val, ↓vk_ow, ↓rvk_val, ↓rvk_ow, ↓Ok_retV, ↓augk_val, ↓Ok_augk, ↓nk_i, ↓Ok_setIx, ↓ixk_0, ↓ixk_1, ↓ixk_2, ↓apk_ow, ↓owk_ow, ↓Ok_app, ↓ak_n, ↓ak_d, ↓ak_b, ↓gk_n, ↓gk_l, ↓gk_r, ↓zk_n, ↓zk_l, ↓zk_r, ↓sgm_z, ↓sgm_s, ↓mk2_v, ↓mk2_o, ↓ik_z, ↓ik_n, ↓ik_s, ↓uk_z, ↓uk_s, ↓rtk_rt, ↓rtk_nx, ↓nok_n, ↓nok_v, ↓nok_o,
  ↓afk_nx, ↓afk_ct, ↓afk_bk, ↓afk_rt, ↓dk_l, ↓dk_t, ↓Ok_evPn, ↓Ok_evPs, ↓Ok_cutek, ↓Ok_cutv, ↓op_cutL, ↓op_cutT, ↓Ok_wSeq, ↓rk_i, ↓Ok_wRng1, ↓Ok_wRng2, ↓Ok_wEnum, ↓Ok_wZip2, ↓Ok_wZip3, ↓Ok_wN, ↓wk_n, ↓wk_c, ↓op_isB, ↓op_isNB, ↓dkk_d, ↓vk_dki, ↓lkk_s, ↓Ok_newK, ↓Ok_dlen, ↓Ok_dsorted, ↓Ok_dget, ↓Ok_dgetD, ↓Ok_dput,
  okArg_v, okArg_o, ↓Ok_tYes, nc_0, nc_1, nc_2, nc_3, nc_4, not_true_eq_false, not_false_eq_true, isN, List.length_cons, List.length_nil, Nat.zero_add, Nat.reduceAdd, List.mem_cons, List.not_mem_nil, decide_eq_true_eq, Bool.not_eq_true', decide_eq_false_iff_not, Bool.not_true, Bool.not_false, Bool.false_eq_true, if_true, if_false, true_and, and_true, or_false, or_true, true_or, reduceCtorEq, Nat.reduceEqDiff, and_self, decide_true, decide_false, Int.reduceLT, Int.reduceLE, Int.reduceEq, Int.reduceToNat, Int.reducePow, Int.reduceAdd, Int.reduceSub, Int.reduceMul, Int.reduceNeg, Int.reduceMod, Int.reduceDiv, Nat.reduceLeDiff, Nat.reduceLT, false_or, or_self, and_false, false_and]
  refine Rt_mono (one_spec hd (by omega) (by simp) (by simp)) ?_
  rintro _ _ ⟨d, es1, hm, rfl, rfl, he1⟩
  have hd : ∃ l : Int, d = .int l ∧ 1 ≤ l ∧ l ≤ 1000000 := by
    simp only [List.mem_cons, List.not_mem_nil, or_false] at hm
    rcases hm with rfl | rfl | rfl | rfl <;> exact ⟨_, rfl, by omega, by omega⟩
  obtain ⟨t, rfl, t0, t1⟩ := hd
  simp -implicitDefEqProofs only [if_true, ↓Ok_ok, ↓Ok_bind, ↓Ok_seq, ↓thenS_nx, ↓thenS_rt, ↓thenS_bk, ↓thenS_ct, ↓Ok_sIf, ↓Ok_pass, ↓Ok_ret, ↓Ok_setk, ↓Ok_park, ↓Ok_par3k, ↓Ok_drop, ↓Ok_for, ↓Ok_while, ↓Ok_unpk, ↓Ok_callk, ↓Ok_tryC, ↓Tr_x, ↓Tr_r, ↓nmk_s, ↓muk_n, ↓muk_c, ↓mu2_s, ↓mu2_v, ↓mu2_o, ↓zrk_n, ↓zrk_c, ↓rs_h, ↓rs_v, ↓rs_o, hd_v, hd_o, hd_u, mh_n, mh_c, ↓Rt_fnk,
  ↓sg_z, ↓sg_s, ↓sw_z, ↓sw_s, ↓td_val, ↓td_ow, ↓Ok_eLit, ↓kp_val, ↓kp_ow, ↓Ok_eV, ↓Ok_op1e, ↓Ok_op1v, ↓Ok_op2ee, ↓Ok_op2ve, ↓Ok_op2ev, ↓Ok_op2vv, ↓op_add, ↓op_addL, ↓op_addT, ↓op_addI, ↓op_subI, ↓op_addB, ↓op_subB, ↓op_sub, ↓op_mul, ↓op_mod, ↓op_div, ↓op_pow, ↓op_lt, ↓op_le, ↓op_gt, ↓op_ge, ↓op_eqI, ↓op_neI, ↓op_neg, ↓op_isN, ↓op_notN, ↓op_lenL, ↓op_lenT,
  ↓op_isi_i, ↓op_isi_b, ↓op_isi_l, ↓op_isi_t, ↓op_isi_n, ↓op_isi_s, ↓op_abs, ↓op_max2, ↓op_min2, ↓op_tupL, ↓op_tupT, ↓op_lstL, ↓op_lstT, ↓ix_0, ↓ix_1, ↓ix_2, ↓ix_3, ↓tx_0, ↓tx_1, ↓tx_2, ↓tx_3, ↓Ok_datum, ↓Ok_evL0, ↓Ok_evLc, ↓Ok_eTup, ↓Ok_eLst, ↓bk_b, ↓Ok_tB, ↓Ok_eB, ↓Ok_tNot, ↓Ok_tAnd, ↓Ok_tOr, ↓Ok_eAnd, ↓Ok_eOr, ↓Ok_eIf, ↓fk_i, ↓fk_b, ↓fk_n, ↓Ok_evSe, ↓Ok_evSv, ↓ck2_b, ↓Ok_eChain,
  ↓pk_n, ↓pk_t, ↓pk_l, ↓pks_n, ↓pks_c, ↓vk_val, ↓vk_ow, ↓rvk_val, ↓rvk_ow, ↓Ok_retV, ↓augk_val, ↓Ok_augk, ↓nk_i, ↓Ok_setIx, ↓ixk_0, ↓ixk_1, ↓ixk_2, ↓apk_ow, ↓owk_ow, ↓Ok_app, ↓ak_n, ↓ak_d, ↓ak_b, ↓gk_n, ↓gk_l, ↓gk_r, ↓zk_n, ↓zk_l, ↓zk_r, ↓sgm_z, ↓sgm_s, ↓mk2_v, ↓mk2_o, ↓ik_z, ↓ik_n, ↓ik_s, ↓uk_z, ↓uk_s, ↓rtk_rt, ↓rtk_nx, ↓nok_n, ↓nok_v, ↓nok_o,
  ↓afk_nx, ↓afk_ct, ↓afk_bk, ↓afk_rt, ↓dk_l, ↓dk_t, ↓Ok_evPn, ↓Ok_evPs, ↓Ok_cutek, ↓Ok_cutv, ↓op_cutL, ↓op_cutT, ↓Ok_wSeq, ↓rk_i, ↓Ok_wRng1, ↓Ok_wRng2, ↓Ok_wEnum, ↓Ok_wZip2, ↓Ok_wZip3, ↓Ok_wN, ↓wk_n, ↓wk_c, ↓op_isB, ↓op_isNB, ↓dkk_d, ↓vk_dki, ↓lkk_s, ↓Ok_newK, ↓Ok_dlen, ↓Ok_dsorted, ↓Ok_dget, ↓Ok_dgetD, ↓Ok_dput,
  okArg_v, okArg_o, ↓Ok_tYes, nc_0, nc_1, nc_2, nc_3, nc_4, not_true_eq_false, not_false_eq_true, isN, List.length_cons, List.length_nil, Nat.zero_add, Nat.reduceAdd, List.mem_cons, List.not_mem_nil, decide_eq_true_eq, Bool.not_eq_true', decide_eq_false_iff_not, Bool.not_true, Bool.not_false, Bool.false_eq_true, if_true, if_false, true_and, and_true, or_false, or_true, true_or, reduceCtorEq, Nat.reduceEqDiff, and_self, decide_true, decide_false, Int.reduceLT, Int.reduceLE, Int.reduceEq, Int.reduceToNat, Int.reducePow, Int.reduceAdd, Int.reduceSub, Int.reduceMul, Int.reduceNeg, Int.reduceMod, Int.reduceDiv, Nat.reduceLeDiff, Nat.reduceLT, false_or, or_self, and_false, false_and]
  refine Rt_mono (pick_spec he1 (by omega) (by omega) (by omega)) ?_
  rintro _ _ ⟨r, es2, rfl, rfl, r0, r1, he2⟩
  simp -implicitDefEqProofs only [if_true, ↓Ok_ok, ↓Ok_bind, ↓Ok_seq, ↓thenS_nx, ↓thenS_rt, ↓thenS_bk, ↓thenS_ct, ↓Ok_sIf, ↓Ok_pass, ↓Ok_ret, ↓Ok_setk, ↓Ok_park, ↓Ok_par3k, ↓Ok_drop, ↓Ok_for, ↓Ok_while, ↓Ok_unpk, ↓Ok_callk, ↓Ok_tryC, ↓Tr_x, ↓Tr_r, ↓nmk_s, ↓muk_n, ↓muk_c, ↓mu2_s, ↓mu2_v, ↓mu2_o, ↓zrk_n, ↓zrk_c, ↓rs_h, ↓rs_v, ↓rs_o, hd_v, hd_o, hd_u, mh_n, mh_c, ↓Rt_fnk,
  ↓sg_z, ↓sg_s, ↓sw_z, ↓sw_s, ↓td_val, ↓td_ow, ↓Ok_eLit, ↓kp_val, ↓kp_ow, ↓Ok_eV, ↓Ok_op1e, ↓Ok_op1v, ↓Ok_op2ee, ↓Ok_op2ve, ↓Ok_op2ev, ↓Ok_op2vv, ↓op_add, ↓op_addL, ↓op_addT, ↓op_addI, ↓op_subI, ↓op_addB, ↓op_subB, ↓op_sub, ↓op_mul, ↓op_mod, ↓op_div, ↓op_pow, ↓op_lt, ↓op_le, ↓op_gt, ↓op_ge, ↓op_eqI, ↓op_neI, ↓op_neg, ↓op_isN, ↓op_notN, ↓op_lenL, ↓op_lenT,
  ↓op_isi_i, ↓op_isi_b, ↓op_isi_l, ↓op_isi_t, ↓op_isi_n, ↓op_isi_s, ↓op_abs, ↓op_max2, ↓op_min2, ↓op_tupL, ↓op_tupT, ↓op_lstL, ↓op_lstT, ↓ix_0, ↓ix_1, ↓ix_2, ↓ix_3, ↓tx_0, ↓tx_1, ↓tx_2, ↓tx_3, ↓Ok_datum, ↓Ok_evL0, ↓Ok_evLc, ↓Ok_eTup, ↓Ok_eLst, ↓bk_b, ↓Ok_tB, ↓Ok_eB, ↓Ok_tNot, ↓Ok_tAnd, ↓Ok_tOr, ↓Ok_eAnd, ↓Ok_eOr, ↓Ok_eIf, ↓fk_i, ↓fk_b, ↓fk_n, ↓Ok_evSe, ↓Ok_evSv, ↓ck2_b, ↓Ok_eChain,
  ↓pk_n, ↓pk_t, ↓pk_l, ↓pks_n, ↓pks_c, ↓vk_val, ↓vk_ow, ↓rvk_val, ↓rvk_ow, ↓Ok_retV, ↓augk_val, ↓Ok_augk, ↓nk_i, ↓Ok_setIx, ↓ixk_0, ↓ixk_1, ↓ixk_2, ↓apk_ow, ↓owk_ow, ↓Ok_app, ↓ak_n, ↓ak_d, ↓ak_b, ↓gk_n, ↓gk_l, ↓gk_r, ↓zk_n, ↓zk_l, ↓zk_r, ↓sgm_z, ↓sgm_s, ↓mk2_v, ↓mk2_o, ↓ik_z, ↓ik_n, ↓ik_s, ↓uk_z, ↓uk_s, ↓rtk_rt, ↓rtk_nx, ↓nok_n, ↓nok_v, ↓nok_o,
  ↓afk_nx, ↓afk_ct, ↓afk_bk, ↓afk_rt, ↓dk_l, ↓dk_t, ↓Ok_evPn, ↓Ok_evPs, ↓Ok_cutek, ↓Ok_cutv, ↓op_cutL, ↓op_cutT, ↓Ok_wSeq, ↓rk_i, ↓Ok_wRng1, ↓Ok_wRng2, ↓Ok_wEnum, ↓Ok_wZip2, ↓Ok_wZip3, ↓Ok_wN, ↓wk_n, ↓wk_c, ↓op_isB, ↓op_isNB, ↓dkk_d, ↓vk_dki, ↓lkk_s, ↓Ok_newK, ↓Ok_dlen, ↓Ok_dsorted, ↓Ok_dget, ↓Ok_dgetD, ↓Ok_dput,
  okArg_v, okArg_o, ↓Ok_tYes, nc_0, nc_1, nc_2, nc_3, nc_4, not_true_eq_false, not_false_eq_true, isN, List.length_cons, List.length_nil, Nat.zero_add, Nat.reduceAdd, List.mem_cons, List.not_mem_nil, decide_eq_true_eq, Bool.not_eq_true', decide_eq_false_iff_not, Bool.not_true, Bool.not_false, Bool.false_eq_true, if_true, if_false, true_and, and_true, or_false, or_true, true_or, reduceCtorEq, Nat.reduceEqDiff, and_self, decide_true, decide_false, Int.reduceLT, Int.reduceLE, Int.reduceEq, Int.reduceToNat, Int.reducePow, Int.reduceAdd, Int.reduceSub, Int.reduceMul, Int.reduceNeg, Int.reduceMod, Int.reduceDiv, Nat.reduceLeDiff, Nat.reduceLT, false_or, or_self, and_false, false_and]
  refine ⟨⟨by omega, by omega, by omega⟩, for_ix _ (fun i S => ∃ (es : List D) (x : Int) (ns : List Int) (x5 x6 : Sv), Deck (n + 2 + 2 * i) es ∧ (0 ≤ x ∧ x ≤ 1000000) ∧ ns.length = i ∧ (∀ x ∈ ns, 0 ≤ x ∧ x ≤ 1000000) ∧ S = [.ow es, .val (.int m), .val (.int t), .val (.int x), .ow (ns.map PyData.int), x5, x6])
    (fun S ⟨es, x, ns, x5, x6, he, hx, hl, hns, hS⟩ => ?e) (fun i d S hi ⟨es, x, ns, x5, x6, he, hx, hl, hns, hS⟩ => ?s) _ ⟨es2, 0, [], _, _, he2.mono (by omega), by decide, rfl, by simp, rfl⟩⟩
  case e =>
    subst hS
    rw [numsD_len] at hl he
    simp -implicitDefEqProofs only [if_true, ↓Ok_ok, ↓Ok_bind, ↓Ok_seq, ↓thenS_nx, ↓thenS_rt, ↓thenS_bk, ↓thenS_ct, ↓Ok_sIf, ↓Ok_pass, ↓Ok_ret, ↓Ok_setk, ↓Ok_park, ↓Ok_par3k, ↓Ok_drop, ↓Ok_for, ↓Ok_while, ↓Ok_unpk, ↓Ok_callk, ↓Ok_tryC, ↓Tr_x, ↓Tr_r, ↓nmk_s, ↓muk_n, ↓muk_c, ↓mu2_s, ↓mu2_v, ↓mu2_o, ↓zrk_n, ↓zrk_c, ↓rs_h, ↓rs_v, ↓rs_o, hd_v, hd_o, hd_u, mh_n, mh_c, ↓Rt_fnk,
  ↓sg_z, ↓sg_s, ↓sw_z, ↓sw_s, ↓td_val, ↓td_ow, ↓Ok_eLit, ↓kp_val, ↓kp_ow, ↓Ok_eV, ↓Ok_op1e, ↓Ok_op1v, ↓Ok_op2ee, ↓Ok_op2ve, ↓Ok_op2ev, ↓Ok_op2vv, ↓op_add, ↓op_addL, ↓op_addT, ↓op_addI, ↓op_subI, ↓op_addB, ↓op_subB, ↓op_sub, ↓op_mul, ↓op_mod, ↓op_div, ↓op_pow, ↓op_lt, ↓op_le, ↓op_gt, ↓op_ge, ↓op_eqI, ↓op_neI, ↓op_neg, ↓op_isN, ↓op_notN, ↓op_lenL, ↓op_lenT,
  ↓op_isi_i, ↓op_isi_b, ↓op_isi_l, ↓op_isi_t, ↓op_isi_n, ↓op_isi_s, ↓op_abs, ↓op_max2, ↓op_min2, ↓op_tupL, ↓op_tupT, ↓op_lstL, ↓op_lstT, ↓ix_0, ↓ix_1, ↓ix_2, ↓ix_3, ↓tx_0, ↓tx_1, ↓tx_2, ↓tx_3, ↓Ok_datum, ↓Ok_evL0, ↓Ok_evLc, ↓Ok_eTup, ↓Ok_eLst, ↓bk_b, ↓Ok_tB, ↓Ok_eB, ↓Ok_tNot, ↓Ok_tAnd, ↓Ok_tOr, ↓Ok_eAnd, ↓Ok_eOr, ↓Ok_eIf, ↓fk_i, ↓fk_b, ↓fk_n, ↓Ok_evSe, ↓Ok_evSv, ↓ck2_b, ↓Ok_eChain,
  ↓pk_n, ↓pk_t, ↓pk_l, ↓pks_n, ↓pks_c, ↓vk_val, ↓vk_ow, ↓rvk_val, ↓rvk_ow, ↓Ok_retV, ↓augk_val, ↓Ok_augk, ↓nk_i, ↓Ok_setIx, ↓ixk_0, ↓ixk_1, ↓ixk_2, ↓apk_ow, ↓owk_ow, ↓Ok_app, ↓ak_n, ↓ak_d, ↓ak_b, ↓gk_n, ↓gk_l, ↓gk_r, ↓zk_n, ↓zk_l, ↓zk_r, ↓sgm_z, ↓sgm_s, ↓mk2_v, ↓mk2_o, ↓ik_z, ↓ik_n, ↓ik_s, ↓uk_z, ↓uk_s, ↓rtk_rt, ↓rtk_nx, ↓nok_n, ↓nok_v, ↓nok_o,
  ↓afk_nx, ↓afk_ct, ↓afk_bk, ↓afk_rt, ↓dk_l, ↓dk_t, ↓Ok_evPn, ↓Ok_evPs, ↓Ok_cutek, ↓Ok_cutv, ↓op_cutL, ↓op_cutT, ↓Ok_wSeq, ↓rk_i, ↓Ok_wRng1, ↓Ok_wRng2, ↓Ok_wEnum, ↓Ok_wZip2, ↓Ok_wZip3, ↓Ok_wN, ↓wk_n, ↓wk_c, ↓op_isB, ↓op_isNB, ↓dkk_d, ↓vk_dki, ↓lkk_s, ↓Ok_newK, ↓Ok_dlen, ↓Ok_dsorted, ↓Ok_dget, ↓Ok_dgetD, ↓Ok_dput,
  okArg_v, okArg_o, ↓Ok_tYes, nc_0, nc_1, nc_2, nc_3, nc_4, not_true_eq_false, not_false_eq_true, isN, List.length_cons, List.length_nil, Nat.zero_add, Nat.reduceAdd, List.mem_cons, List.not_mem_nil, decide_eq_true_eq, Bool.not_eq_true', decide_eq_false_iff_not, Bool.not_true, Bool.not_false, Bool.false_eq_true, if_true, if_false, true_and, and_true, or_false, or_true, true_or, reduceCtorEq, Nat.reduceEqDiff, and_self, decide_true, decide_false, Int.reduceLT, Int.reduceLE, Int.reduceEq, Int.reduceToNat, Int.reducePow, Int.reduceAdd, Int.reduceSub, Int.reduceMul, Int.reduceNeg, Int.reduceMod, Int.reduceDiv, Nat.reduceLeDiff, Nat.reduceLT, false_or, or_self, and_false, false_and]
    exact ⟨ns, es, rfl, rfl, by omega, hns, he.mono (by omega)⟩
  case s =>
    obtain ⟨hi, rfl⟩ := numsD_get hi
    subst hS
    have step : ∀ (es : List D) (y : Int) (x6 : Sv), Deck (n + 2 + 2 * i + 2) es → (0 ≤ y ∧ y ≤ 1000000) → ∃ (es' : List D) (x' : Int) (ns' : List Int) (x5 x6' : Sv), Deck (n + 2 + 2 * (i + 1 : Nat)) es' ∧ (0 ≤ x' ∧ x' ≤ 1000000) ∧ ns'.length = i + 1 ∧ (∀ x ∈ ns', 0 ≤ x ∧ x ≤ 1000000) ∧
        ([.ow es, .val (.int m), .val (.int t), .val (.int y), .ow (ns.map PyData.int ++ [.int y]), .val (.int (0 + (i : Int))), x6] : Sl) = [.ow es', .val (.int m), .val (.int t), .val (.int x'), .ow (ns'.map PyData.int), x5, x6'] := fun es y x6 he hy =>
      ⟨es, y, ns ++ [y], _, _, he.mono (by omega), hy, by simp [hl], fun z hz => (List.mem_append.mp hz).elim (hns z) fun q => by rw [List.mem_singleton.mp q]; exact hy, by rw [List.map_append]; rfl⟩
    unfold B_law_values_f1
    simp -implicitDefEqProofs only [if_true, ↓Ok_ok, ↓Ok_bind, ↓Ok_seq, ↓thenS_nx, ↓thenS_rt, ↓thenS_bk, ↓thenS_ct, ↓Ok_sIf, ↓Ok_pass, ↓Ok_ret, ↓Ok_setk, ↓Ok_park, ↓Ok_par3k, ↓Ok_drop, ↓Ok_for, ↓Ok_while, ↓Ok_unpk, ↓Ok_callk, ↓Ok_tryC, ↓Tr_x, ↓Tr_r, ↓nmk_s, ↓muk_n, ↓muk_c, ↓mu2_s, ↓mu2_v, ↓mu2_o, ↓zrk_n, ↓zrk_c, ↓rs_h, ↓rs_v, ↓rs_o, hd_v, hd_o, hd_u, mh_n, mh_c, ↓Rt_fnk,
  ↓sg_z, ↓sg_s, ↓sw_z, ↓sw_s, ↓td_val, ↓td_ow, ↓Ok_eLit, ↓kp_val, ↓kp_ow, ↓Ok_eV, ↓Ok_op1e, ↓Ok_op1v, ↓Ok_op2ee, ↓Ok_op2ve, ↓Ok_op2ev, ↓Ok_op2vv, ↓op_add, ↓op_addL, ↓op_addT, ↓op_addI, ↓op_subI, ↓op_addB, ↓op_subB, ↓op_sub, ↓op_mul, ↓op_mod, ↓op_div, ↓op_pow, ↓op_lt, ↓op_le, ↓op_gt, ↓op_ge, ↓op_eqI, ↓op_neI, ↓op_neg, ↓op_isN, ↓op_notN, ↓op_lenL, ↓op_lenT,
  ↓op_isi_i, ↓op_isi_b, ↓op_isi_l, ↓op_isi_t, ↓op_isi_n, ↓op_isi_s, ↓op_abs, ↓op_max2, ↓op_min2, ↓op_tupL, ↓op_tupT, ↓op_lstL, ↓op_lstT, ↓ix_0, ↓ix_1, ↓ix_2, ↓ix_3, ↓tx_0, ↓tx_1, ↓tx_2, ↓tx_3, ↓Ok_datum, ↓Ok_evL0, ↓Ok_evLc, ↓Ok_eTup, ↓Ok_eLst, ↓bk_b, ↓Ok_tB, ↓Ok_eB, ↓Ok_tNot, ↓Ok_tAnd, ↓Ok_tOr, ↓Ok_eAnd, ↓Ok_eOr, ↓Ok_eIf, ↓fk_i, ↓fk_b, ↓fk_n, ↓Ok_evSe, ↓Ok_evSv, ↓ck2_b, ↓Ok_eChain,
  ↓pk_n, ↓pk_t, ↓pk_l, ↓pks_n, ↓pks_c, ↓vk_val, ↓vk_ow, ↓rvk_val, ↓rvk_ow, ↓Ok_retV, ↓augk_val, ↓Ok_augk, ↓nk_i, ↓Ok_setIx, ↓ixk_0, ↓ixk_1, ↓ixk_2, ↓apk_ow, ↓owk_ow, ↓Ok_app, ↓ak_n, ↓ak_d, ↓ak_b, ↓gk_n, ↓gk_l, ↓gk_r, ↓zk_n, ↓zk_l, ↓zk_r, ↓sgm_z, ↓sgm_s, ↓mk2_v, ↓mk2_o, ↓ik_z, ↓ik_n, ↓ik_s, ↓uk_z, ↓uk_s, ↓rtk_rt, ↓rtk_nx, ↓nok_n, ↓nok_v, ↓nok_o,
  ↓afk_nx, ↓afk_ct, ↓afk_bk, ↓afk_rt, ↓dk_l, ↓dk_t, ↓Ok_evPn, ↓Ok_evPs, ↓Ok_cutek, ↓Ok_cutv, ↓op_cutL, ↓op_cutT, ↓Ok_wSeq, ↓rk_i, ↓Ok_wRng1, ↓Ok_wRng2, ↓Ok_wEnum, ↓Ok_wZip2, ↓Ok_wZip3, ↓Ok_wN, ↓wk_n, ↓wk_c, ↓op_isB, ↓op_isNB, ↓dkk_d, ↓vk_dki, ↓lkk_s, ↓Ok_newK, ↓Ok_dlen, ↓Ok_dsorted, ↓Ok_dget, ↓Ok_dgetD, ↓Ok_dput,
  okArg_v, okArg_o, ↓Ok_tYes, nc_0, nc_1, nc_2, nc_3, nc_4, not_true_eq_false, not_false_eq_true, isN, List.length_cons, List.length_nil, Nat.zero_add, Nat.reduceAdd, List.mem_cons, List.not_mem_nil, decide_eq_true_eq, Bool.not_eq_true', decide_eq_false_iff_not, Bool.not_true, Bool.not_false, Bool.false_eq_true, if_true, if_false, true_and, and_true, or_false, or_true, true_or, reduceCtorEq, Nat.reduceEqDiff, and_self, decide_true, decide_false, Int.reduceLT, Int.reduceLE, Int.reduceEq, Int.reduceToNat, Int.reducePow, Int.reduceAdd, Int.reduceSub, Int.reduceMul, Int.reduceNeg, Int.reduceMod, Int.reduceDiv, Nat.reduceLeDiff, Nat.reduceLT, false_or, or_self, and_false, false_and]
    refine Rt_mono (pick_spec he (by omega) (by decide) (by decide)) ?_
    rintro _ _ ⟨w, es3, rfl, rfl, w0, w1, he3⟩
    have hlen : (ns.map PyData.int).length < 16777216 := by rw [List.length_map]; omega
    simp -implicitDefEqProofs only [if_true, ↓Ok_ok, ↓Ok_bind, ↓Ok_seq, ↓thenS_nx, ↓thenS_rt, ↓thenS_bk, ↓thenS_ct, ↓Ok_sIf, ↓Ok_pass, ↓Ok_ret, ↓Ok_setk, ↓Ok_park, ↓Ok_par3k, ↓Ok_drop, ↓Ok_for, ↓Ok_while, ↓Ok_unpk, ↓Ok_callk, ↓Ok_tryC, ↓Tr_x, ↓Tr_r, ↓nmk_s, ↓muk_n, ↓muk_c, ↓mu2_s, ↓mu2_v, ↓mu2_o, ↓zrk_n, ↓zrk_c, ↓rs_h, ↓rs_v, ↓rs_o, hd_v, hd_o, hd_u, mh_n, mh_c, ↓Rt_fnk,
  ↓sg_z, ↓sg_s, ↓sw_z, ↓sw_s, ↓td_val, ↓td_ow, ↓Ok_eLit, ↓kp_val, ↓kp_ow, ↓Ok_eV, ↓Ok_op1e, ↓Ok_op1v, ↓Ok_op2ee, ↓Ok_op2ve, ↓Ok_op2ev, ↓Ok_op2vv, ↓op_add, ↓op_addL, ↓op_addT, ↓op_addI, ↓op_subI, ↓op_addB, ↓op_subB, ↓op_sub, ↓op_mul, ↓op_mod, ↓op_div, ↓op_pow, ↓op_lt, ↓op_le, ↓op_gt, ↓op_ge, ↓op_eqI, ↓op_neI, ↓op_neg, ↓op_isN, ↓op_notN, ↓op_lenL, ↓op_lenT,
  ↓op_isi_i, ↓op_isi_b, ↓op_isi_l, ↓op_isi_t, ↓op_isi_n, ↓op_isi_s, ↓op_abs, ↓op_max2, ↓op_min2, ↓op_tupL, ↓op_tupT, ↓op_lstL, ↓op_lstT, ↓ix_0, ↓ix_1, ↓ix_2, ↓ix_3, ↓tx_0, ↓tx_1, ↓tx_2, ↓tx_3, ↓Ok_datum, ↓Ok_evL0, ↓Ok_evLc, ↓Ok_eTup, ↓Ok_eLst, ↓bk_b, ↓Ok_tB, ↓Ok_eB, ↓Ok_tNot, ↓Ok_tAnd, ↓Ok_tOr, ↓Ok_eAnd, ↓Ok_eOr, ↓Ok_eIf, ↓fk_i, ↓fk_b, ↓fk_n, ↓Ok_evSe, ↓Ok_evSv, ↓ck2_b, ↓Ok_eChain,
  ↓pk_n, ↓pk_t, ↓pk_l, ↓pks_n, ↓pks_c, ↓vk_val, ↓vk_ow, ↓rvk_val, ↓rvk_ow, ↓Ok_retV, ↓augk_val, ↓Ok_augk, ↓nk_i, ↓Ok_setIx, ↓ixk_0, ↓ixk_1, ↓ixk_2, ↓apk_ow, ↓owk_ow, ↓Ok_app, ↓ak_n, ↓ak_d, ↓ak_b, ↓gk_n, ↓gk_l, ↓gk_r, ↓zk_n, ↓zk_l, ↓zk_r, ↓sgm_z, ↓sgm_s, ↓mk2_v, ↓mk2_o, ↓ik_z, ↓ik_n, ↓ik_s, ↓uk_z, ↓uk_s, ↓rtk_rt, ↓rtk_nx, ↓nok_n, ↓nok_v, ↓nok_o,
  ↓afk_nx, ↓afk_ct, ↓afk_bk, ↓afk_rt, ↓dk_l, ↓dk_t, ↓Ok_evPn, ↓Ok_evPs, ↓Ok_cutek, ↓Ok_cutv, ↓op_cutL, ↓op_cutT, ↓Ok_wSeq, ↓rk_i, ↓Ok_wRng1, ↓Ok_wRng2, ↓Ok_wEnum, ↓Ok_wZip2, ↓Ok_wZip3, ↓Ok_wN, ↓wk_n, ↓wk_c, ↓op_isB, ↓op_isNB, ↓dkk_d, ↓vk_dki, ↓lkk_s, ↓Ok_newK, ↓Ok_dlen, ↓Ok_dsorted, ↓Ok_dget, ↓Ok_dgetD, ↓Ok_dput,
  okArg_v, okArg_o, ↓Ok_tYes, nc_0, nc_1, nc_2, nc_3, nc_4, not_true_eq_false, not_false_eq_true, isN, List.length_cons, List.length_nil, Nat.zero_add, Nat.reduceAdd, List.mem_cons, List.not_mem_nil, decide_eq_true_eq, Bool.not_eq_true', decide_eq_false_iff_not, Bool.not_true, Bool.not_false, Bool.false_eq_true, if_true, if_false, true_and, and_true, or_false, or_true, true_or, reduceCtorEq, Nat.reduceEqDiff, and_self, decide_true, decide_false, Int.reduceLT, Int.reduceLE, Int.reduceEq, Int.reduceToNat, Int.reducePow, Int.reduceAdd, Int.reduceSub, Int.reduceMul, Int.reduceNeg, Int.reduceMod, Int.reduceDiv, Nat.reduceLeDiff, Nat.reduceLT, false_or, or_self, and_false, false_and]
    refine ifc (fun _ => ?_) fun _ => ifc (fun _ => ?_) fun _ => ifc (fun _ => ?_) fun _ => ?_
    · refine Rt_mono (pick_spec he3 (by omega) (by omega) (by omega)) ?_
      rintro _ _ ⟨u, es4, rfl, rfl, u0, u1, he4⟩
      simp -implicitDefEqProofs only [if_true, ↓Ok_ok, ↓Ok_bind, ↓Ok_seq, ↓thenS_nx, ↓thenS_rt, ↓thenS_bk, ↓thenS_ct, ↓Ok_sIf, ↓Ok_pass, ↓Ok_ret, ↓Ok_setk, ↓Ok_park, ↓Ok_par3k, ↓Ok_drop, ↓Ok_for, ↓Ok_while, ↓Ok_unpk, ↓Ok_callk, ↓Ok_tryC, ↓Tr_x, ↓Tr_r, ↓nmk_s, ↓muk_n, ↓muk_c, ↓mu2_s, ↓mu2_v, ↓mu2_o, ↓zrk_n, ↓zrk_c, ↓rs_h, ↓rs_v, ↓rs_o, hd_v, hd_o, hd_u, mh_n, mh_c, ↓Rt_fnk,
  ↓sg_z, ↓sg_s, ↓sw_z, ↓sw_s, ↓td_val, ↓td_ow, ↓Ok_eLit, ↓kp_val, ↓kp_ow, ↓Ok_eV, ↓Ok_op1e, ↓Ok_op1v, ↓Ok_op2ee, ↓Ok_op2ve, ↓Ok_op2ev, ↓Ok_op2vv, ↓op_add, ↓op_addL, ↓op_addT, ↓op_addI, ↓op_subI, ↓op_addB, ↓op_subB, ↓op_sub, ↓op_mul, ↓op_mod, ↓op_div, ↓op_pow, ↓op_lt, ↓op_le, ↓op_gt, ↓op_ge, ↓op_eqI, ↓op_neI, ↓op_neg, ↓op_isN, ↓op_notN, ↓op_lenL, ↓op_lenT,
  ↓op_isi_i, ↓op_isi_b, ↓op_isi_l, ↓op_isi_t, ↓op_isi_n, ↓op_isi_s, ↓op_abs, ↓op_max2, ↓op_min2, ↓op_tupL, ↓op_tupT, ↓op_lstL, ↓op_lstT, ↓ix_0, ↓ix_1, ↓ix_2, ↓ix_3, ↓tx_0, ↓tx_1, ↓tx_2, ↓tx_3, ↓Ok_datum, ↓Ok_evL0, ↓Ok_evLc, ↓Ok_eTup, ↓Ok_eLst, ↓bk_b, ↓Ok_tB, ↓Ok_eB, ↓Ok_tNot, ↓Ok_tAnd, ↓Ok_tOr, ↓Ok_eAnd, ↓Ok_eOr, ↓Ok_eIf, ↓fk_i, ↓fk_b, ↓fk_n, ↓Ok_evSe, ↓Ok_evSv, ↓ck2_b, ↓Ok_eChain,
  ↓pk_n, ↓pk_t, ↓pk_l, ↓pks_n, ↓pks_c, ↓vk_val, ↓vk_ow, ↓rvk_val, ↓rvk_ow, ↓Ok_retV, ↓augk_val, ↓Ok_augk, ↓nk_i, ↓Ok_setIx, ↓ixk_0, ↓ixk_1, ↓ixk_2, ↓apk_ow, ↓owk_ow, ↓Ok_app, ↓ak_n, ↓ak_d, ↓ak_b, ↓gk_n, ↓gk_l, ↓gk_r, ↓zk_n, ↓zk_l, ↓zk_r, ↓sgm_z, ↓sgm_s, ↓mk2_v, ↓mk2_o, ↓ik_z, ↓ik_n, ↓ik_s, ↓uk_z, ↓uk_s, ↓rtk_rt, ↓rtk_nx, ↓nok_n, ↓nok_v, ↓nok_o,
  ↓afk_nx, ↓afk_ct, ↓afk_bk, ↓afk_rt, ↓dk_l, ↓dk_t, ↓Ok_evPn, ↓Ok_evPs, ↓Ok_cutek, ↓Ok_cutv, ↓op_cutL, ↓op_cutT, ↓Ok_wSeq, ↓rk_i, ↓Ok_wRng1, ↓Ok_wRng2, ↓Ok_wEnum, ↓Ok_wZip2, ↓Ok_wZip3, ↓Ok_wN, ↓wk_n, ↓wk_c, ↓op_isB, ↓op_isNB, ↓dkk_d, ↓vk_dki, ↓lkk_s, ↓Ok_newK, ↓Ok_dlen, ↓Ok_dsorted, ↓Ok_dget, ↓Ok_dgetD, ↓Ok_dput,
  okArg_v, okArg_o, ↓Ok_tYes, nc_0, nc_1, nc_2, nc_3, nc_4, not_true_eq_false, not_false_eq_true, isN, List.length_cons, List.length_nil, Nat.zero_add, Nat.reduceAdd, List.mem_cons, List.not_mem_nil, decide_eq_true_eq, Bool.not_eq_true', decide_eq_false_iff_not, Bool.not_true, Bool.not_false, Bool.false_eq_true, if_true, if_false, true_and, and_true, or_false, or_true, true_or, reduceCtorEq, Nat.reduceEqDiff, and_self, decide_true, decide_false, Int.reduceLT, Int.reduceLE, Int.reduceEq, Int.reduceToNat, Int.reducePow, Int.reduceAdd, Int.reduceSub, Int.reduceMul, Int.reduceNeg, Int.reduceMod, Int.reduceDiv, Nat.reduceLeDiff, Nat.reduceLT, false_or, or_self, and_false, false_and]
      refine ⟨hlen, step _ _ _ (he4.mono (by omega)) ?_⟩
      by_cases q : x + u < 1000000
      · rw [if_pos q]; omega
      · rw [if_neg q]; omega
    · refine Rt_mono (pick_spec he3 (by omega) (by omega) (by omega)) ?_
      rintro _ _ ⟨u, es4, rfl, rfl, u0, u1, he4⟩
      simp -implicitDefEqProofs only [if_true, ↓Ok_ok, ↓Ok_bind, ↓Ok_seq, ↓thenS_nx, ↓thenS_rt, ↓thenS_bk, ↓thenS_ct, ↓Ok_sIf, ↓Ok_pass, ↓Ok_ret, ↓Ok_setk, ↓Ok_park, ↓Ok_par3k, ↓Ok_drop, ↓Ok_for, ↓Ok_while, ↓Ok_unpk, ↓Ok_callk, ↓Ok_tryC, ↓Tr_x, ↓Tr_r, ↓nmk_s, ↓muk_n, ↓muk_c, ↓mu2_s, ↓mu2_v, ↓mu2_o, ↓zrk_n, ↓zrk_c, ↓rs_h, ↓rs_v, ↓rs_o, hd_v, hd_o, hd_u, mh_n, mh_c, ↓Rt_fnk,
  ↓sg_z, ↓sg_s, ↓sw_z, ↓sw_s, ↓td_val, ↓td_ow, ↓Ok_eLit, ↓kp_val, ↓kp_ow, ↓Ok_eV, ↓Ok_op1e, ↓Ok_op1v, ↓Ok_op2ee, ↓Ok_op2ve, ↓Ok_op2ev, ↓Ok_op2vv, ↓op_add, ↓op_addL, ↓op_addT, ↓op_addI, ↓op_subI, ↓op_addB, ↓op_subB, ↓op_sub, ↓op_mul, ↓op_mod, ↓op_div, ↓op_pow, ↓op_lt, ↓op_le, ↓op_gt, ↓op_ge, ↓op_eqI, ↓op_neI, ↓op_neg, ↓op_isN, ↓op_notN, ↓op_lenL, ↓op_lenT,
  ↓op_isi_i, ↓op_isi_b, ↓op_isi_l, ↓op_isi_t, ↓op_isi_n, ↓op_isi_s, ↓op_abs, ↓op_max2, ↓op_min2, ↓op_tupL, ↓op_tupT, ↓op_lstL, ↓op_lstT, ↓ix_0, ↓ix_1, ↓ix_2, ↓ix_3, ↓tx_0, ↓tx_1, ↓tx_2, ↓tx_3, ↓Ok_datum, ↓Ok_evL0, ↓Ok_evLc, ↓Ok_eTup, ↓Ok_eLst, ↓bk_b, ↓Ok_tB, ↓Ok_eB, ↓Ok_tNot, ↓Ok_tAnd, ↓Ok_tOr, ↓Ok_eAnd, ↓Ok_eOr, ↓Ok_eIf, ↓fk_i, ↓fk_b, ↓fk_n, ↓Ok_evSe, ↓Ok_evSv, ↓ck2_b, ↓Ok_eChain,
  ↓pk_n, ↓pk_t, ↓pk_l, ↓pks_n, ↓pks_c, ↓vk_val, ↓vk_ow, ↓rvk_val, ↓rvk_ow, ↓Ok_retV, ↓augk_val, ↓Ok_augk, ↓nk_i, ↓Ok_setIx, ↓ixk_0, ↓ixk_1, ↓ixk_2, ↓apk_ow, ↓owk_ow, ↓Ok_app, ↓ak_n, ↓ak_d, ↓ak_b, ↓gk_n, ↓gk_l, ↓gk_r, ↓zk_n, ↓zk_l, ↓zk_r, ↓sgm_z, ↓sgm_s, ↓mk2_v, ↓mk2_o, ↓ik_z, ↓ik_n, ↓ik_s, ↓uk_z, ↓uk_s, ↓rtk_rt, ↓rtk_nx, ↓nok_n, ↓nok_v, ↓nok_o,
  ↓afk_nx, ↓afk_ct, ↓afk_bk, ↓afk_rt, ↓dk_l, ↓dk_t, ↓Ok_evPn, ↓Ok_evPs, ↓Ok_cutek, ↓Ok_cutv, ↓op_cutL, ↓op_cutT, ↓Ok_wSeq, ↓rk_i, ↓Ok_wRng1, ↓Ok_wRng2, ↓Ok_wEnum, ↓Ok_wZip2, ↓Ok_wZip3, ↓Ok_wN, ↓wk_n, ↓wk_c, ↓op_isB, ↓op_isNB, ↓dkk_d, ↓vk_dki, ↓lkk_s, ↓Ok_newK, ↓Ok_dlen, ↓Ok_dsorted, ↓Ok_dget, ↓Ok_dgetD, ↓Ok_dput,
  okArg_v, okArg_o, ↓Ok_tYes, nc_0, nc_1, nc_2, nc_3, nc_4, not_true_eq_false, not_false_eq_true, isN, List.length_cons, List.length_nil, Nat.zero_add, Nat.reduceAdd, List.mem_cons, List.not_mem_nil, decide_eq_true_eq, Bool.not_eq_true', decide_eq_false_iff_not, Bool.not_true, Bool.not_false, Bool.false_eq_true, if_true, if_false, true_and, and_true, or_false, or_true, true_or, reduceCtorEq, Nat.reduceEqDiff, and_self, decide_true, decide_false, Int.reduceLT, Int.reduceLE, Int.reduceEq, Int.reduceToNat, Int.reducePow, Int.reduceAdd, Int.reduceSub, Int.reduceMul, Int.reduceNeg, Int.reduceMod, Int.reduceDiv, Nat.reduceLeDiff, Nat.reduceLT, false_or, or_self, and_false, false_and]
      exact ⟨hlen, step _ _ _ (he4.mono (by omega)) (by omega)⟩
    · refine Rt_mono (pick_spec he3 (by omega) (by omega) (by omega)) ?_
      rintro _ _ ⟨u, es4, rfl, rfl, u0, u1, he4⟩
      simp -implicitDefEqProofs only [if_true, ↓Ok_ok, ↓Ok_bind, ↓Ok_seq, ↓thenS_nx, ↓thenS_rt, ↓thenS_bk, ↓thenS_ct, ↓Ok_sIf, ↓Ok_pass, ↓Ok_ret, ↓Ok_setk, ↓Ok_park, ↓Ok_par3k, ↓Ok_drop, ↓Ok_for, ↓Ok_while, ↓Ok_unpk, ↓Ok_callk, ↓Ok_tryC, ↓Tr_x, ↓Tr_r, ↓nmk_s, ↓muk_n, ↓muk_c, ↓mu2_s, ↓mu2_v, ↓mu2_o, ↓zrk_n, ↓zrk_c, ↓rs_h, ↓rs_v, ↓rs_o, hd_v, hd_o, hd_u, mh_n, mh_c, ↓Rt_fnk,
  ↓sg_z, ↓sg_s, ↓sw_z, ↓sw_s, ↓td_val, ↓td_ow, ↓Ok_eLit, ↓kp_val, ↓kp_ow, ↓Ok_eV, ↓Ok_op1e, ↓Ok_op1v, ↓Ok_op2ee, ↓Ok_op2ve, ↓Ok_op2ev, ↓Ok_op2vv, ↓op_add, ↓op_addL, ↓op_addT, ↓op_addI, ↓op_subI, ↓op_addB, ↓op_subB, ↓op_sub, ↓op_mul, ↓op_mod, ↓op_div, ↓op_pow, ↓op_lt, ↓op_le, ↓op_gt, ↓op_ge, ↓op_eqI, ↓op_neI, ↓op_neg, ↓op_isN, ↓op_notN, ↓op_lenL, ↓op_lenT,
  ↓op_isi_i, ↓op_isi_b, ↓op_isi_l, ↓op_isi_t, ↓op_isi_n, ↓op_isi_s, ↓op_abs, ↓op_max2, ↓op_min2, ↓op_tupL, ↓op_tupT, ↓op_lstL, ↓op_lstT, ↓ix_0, ↓ix_1, ↓ix_2, ↓ix_3, ↓tx_0, ↓tx_1, ↓tx_2, ↓tx_3, ↓Ok_datum, ↓Ok_evL0, ↓Ok_evLc, ↓Ok_eTup, ↓Ok_eLst, ↓bk_b, ↓Ok_tB, ↓Ok_eB, ↓Ok_tNot, ↓Ok_tAnd, ↓Ok_tOr, ↓Ok_eAnd, ↓Ok_eOr, ↓Ok_eIf, ↓fk_i, ↓fk_b, ↓fk_n, ↓Ok_evSe, ↓Ok_evSv, ↓ck2_b, ↓Ok_eChain,
  ↓pk_n, ↓pk_t, ↓pk_l, ↓pks_n, ↓pks_c, ↓vk_val, ↓vk_ow, ↓rvk_val, ↓rvk_ow, ↓Ok_retV, ↓augk_val, ↓Ok_augk, ↓nk_i, ↓Ok_setIx, ↓ixk_0, ↓ixk_1, ↓ixk_2, ↓apk_ow, ↓owk_ow, ↓Ok_app, ↓ak_n, ↓ak_d, ↓ak_b, ↓gk_n, ↓gk_l, ↓gk_r, ↓zk_n, ↓zk_l, ↓zk_r, ↓sgm_z, ↓sgm_s, ↓mk2_v, ↓mk2_o, ↓ik_z, ↓ik_n, ↓ik_s, ↓uk_z, ↓uk_s, ↓rtk_rt, ↓rtk_nx, ↓nok_n, ↓nok_v, ↓nok_o,
  ↓afk_nx, ↓afk_ct, ↓afk_bk, ↓afk_rt, ↓dk_l, ↓dk_t, ↓Ok_evPn, ↓Ok_evPs, ↓Ok_cutek, ↓Ok_cutv, ↓op_cutL, ↓op_cutT, ↓Ok_wSeq, ↓rk_i, ↓Ok_wRng1, ↓Ok_wRng2, ↓Ok_wEnum, ↓Ok_wZip2, ↓Ok_wZip3, ↓Ok_wN, ↓wk_n, ↓wk_c, ↓op_isB, ↓op_isNB, ↓dkk_d, ↓vk_dki, ↓lkk_s, ↓Ok_newK, ↓Ok_dlen, ↓Ok_dsorted, ↓Ok_dget, ↓Ok_dgetD, ↓Ok_dput,
  okArg_v, okArg_o, ↓Ok_tYes, nc_0, nc_1, nc_2, nc_3, nc_4, not_true_eq_false, not_false_eq_true, isN, List.length_cons, List.length_nil, Nat.zero_add, Nat.reduceAdd, List.mem_cons, List.not_mem_nil, decide_eq_true_eq, Bool.not_eq_true', decide_eq_false_iff_not, Bool.not_true, Bool.not_false, Bool.false_eq_true, if_true, if_false, true_and, and_true, or_false, or_true, true_or, reduceCtorEq, Nat.reduceEqDiff, and_self, decide_true, decide_false, Int.reduceLT, Int.reduceLE, Int.reduceEq, Int.reduceToNat, Int.reducePow, Int.reduceAdd, Int.reduceSub, Int.reduceMul, Int.reduceNeg, Int.reduceMod, Int.reduceDiv, Nat.reduceLeDiff, Nat.reduceLT, false_or, or_self, and_false, false_and]
      exact ⟨hlen, step _ _ _ (he4.mono (by omega)) (by omega)⟩
    · exact ⟨hlen, step _ _ _ (he3.mono (by omega)) hx⟩
end

/-! ### random samples -/
section
open PySem Rc
abbrev Smp := List (Int × Int)
def pqD (q : Int × Int) : D := .tuple [.int q.1, .int q.2]
abbrev smD (s : Smp) : D := .tuple (s.map pqD)
structure Sm (s : Smp) : Prop where
  len : s.length ≤ 40
  at_ : ∀ q ∈ s, (0 ≤ q.1 ∧ q.1 ≤ 1000000000) ∧ 0 ≤ q.2 ∧ q.2 ≤ 1000000
  asc : s.Pairwise fun a b => a.1 < b.1
theorem samples_spec {n m : Int} {ds : List D} (hd : Deck n ds) (hn : n < 800000000) (h0 : 0 ≤ m) (h1 : m ≤ 40) :
    Rt (F_law_samples [.ow ds, .val (.int m)]) fun v outs => ∃ (s : Smp) (es : List D), v = .val (smD s) ∧ outs = [.ow es, .val (.int m)] ∧ Sm s ∧ s.length ≤ m.toNat ∧ Deck (n + 200) es := by
  unfold F_law_samples B_law_samples
  simp -implicitDefEqProofs only [if_true, ↓Ok_ok, ↓Ok_bind, ↓Ok_seq, ↓thenS_nx, ↓thenS_rt, ↓thenS_bk, ↓thenS_ct, ↓Ok_sIf, ↓Ok_pass, ↓Ok_ret, ↓Ok_setk, ↓Ok_park, ↓Ok_par3k, ↓Ok_drop, ↓Ok_for, ↓Ok_while, ↓Ok_unpk, ↓Ok_callk, ↓Ok_tryC, ↓Tr_x, ↓Tr_r, ↓nmk_s, ↓muk_n, ↓muk_c, ↓mu2_s, ↓mu2_v, ↓mu2_o, ↓zrk_n, ↓zrk_c, ↓rs_h, ↓rs_v, ↓rs_o, hd_v, hd_o, hd_u, mh_n, mh_c, ↓Rt_fnk,
  ↓sg_z, ↓sg_s, ↓sw_z, ↓sw_s, ↓td_val, ↓td_ow, ↓Ok_eLit, ↓kp_val, ↓kp_ow, ↓Ok_eV, ↓Ok_op1e, ↓Ok_op1v, ↓Ok_op2ee, ↓Ok_op2ve, ↓Ok_op2ev, ↓Ok_op2vv, ↓op_add, ↓op_addL, ↓op_addT, ↓op_addI, ↓op_subI, ↓op_addB, ↓op_subB, ↓op_sub, ↓op_mul, ↓op_mod, ↓op_div, ↓op_pow, ↓op_lt, ↓op_le, ↓op_gt, ↓op_ge, ↓op_eqI, ↓op_neI, ↓op_neg, ↓op_isN, ↓op_notN, ↓op_lenL, ↓op_lenT,
  ↓op_isi_i, ↓op_isi_b, ↓op_isi_l, ↓op_isi_t, ↓op_isi_n, ↓op_isi_s, ↓op_abs, ↓op_max2, ↓op_min2, ↓op_tupL, ↓op_tupT, ↓op_lstL, ↓op_lstT, ↓ix_0, ↓ix_1, ↓ix_2, ↓ix_3, ↓tx_0, ↓tx_1, ↓tx_2, ↓tx_3, ↓Ok_datum, ↓Ok_evL0, ↓Ok_evLc, ↓Ok_eTup, ↓Ok_eLst, ↓bk_b, ↓Ok_tB, ↓Ok_eB, ↓Ok_tNot, ↓Ok_tAnd, ↓Ok_tOr, ↓Ok_eAnd, ↓Ok_eOr, ↓Ok_eIf, ↓fk_i, ↓fk_b, ↓fk_n, ↓Ok_evSe, ↓Ok_evSv, ↓ck2_b, ↓Ok_eChain,
  ↓pk_n, ↓pk_t, ↓pk_l, ↓pks_n, ↓pks_c, ↓vk_val, ↓vk_ow, ↓rvk_val, ↓rvk_ow, ↓Ok_retV, ↓augk_val, ↓Ok_augk, ↓nk_i, ↓Ok_setIx, ↓ixk_0, ↓ixk_1, ↓ixk_2, ↓apk_ow, ↓owk_ow, ↓Ok_app, ↓ak_n, ↓ak_d, ↓ak_b, ↓gk_n, ↓gk_l, ↓gk_r, ↓zk_n, ↓zk_l, ↓zk_r, ↓sgm_z, ↓sgm_s, ↓mk2_v, ↓mk2_o, ↓ik_z, ↓ik_n, ↓ik_s, ↓uk_z, ↓uk_s, ↓rtk_rt, ↓rtk_nx, ↓nok_n, ↓nok_v, ↓nok_o,
  ↓afk_nx, ↓afk_ct, ↓afk_bk, ↓afk_rt, ↓dk_l, ↓dk_t, ↓Ok_evPn, ↓Ok_evPs, ↓Ok_cutek, ↓Ok_cutv, ↓op_cutL, ↓op_cutT, ↓Ok_wSeq, ↓rk_i, ↓Ok_wRng1, ↓Ok_wRng2, ↓Ok_wEnum, ↓Ok_wZip2, ↓Ok_wZip3, ↓Ok_wN, ↓wk_n, ↓wk_c, ↓op_isB, ↓op_isNB, ↓dkk_d, ↓vk_dki, ↓lkk_s, ↓Ok_newK, ↓Ok_dlen, ↓Ok_dsorted, ↓Ok_dget, ↓Ok_dgetD, ↓Ok_dput,
  okArg_v, okArg_o, ↓Ok_tYes, nc_0, nc_1, nc_2, nc_3, nc_4, not_true_eq_false, not_false_eq_true, isN, List.length_cons, List.length_nil, Nat.zero_add, Nat.reduceAdd, List.mem_cons, List.not_mem_nil, decide_eq_true_eq, Bool.not_eq_true', decide_eq_false_iff_not, Bool.not_true, Bool.not_false, Bool.false_eq_true, if_true, if_false, true_and, and_true, or_false, or_true, true_or, reduceCtorEq, Nat.reduceEqDiff, and_self, decide_true, decide_false, Int.reduceLT, Int.reduceLE, Int.reduceEq, Int.reduceToNat, Int.reducePow, Int.reduceAdd, Int.reduceSub, Int.reduceMul, Int.reduceNeg, Int.reduceMod, Int.reduceDiv, Nat.reduceLeDiff, Nat.reduceLT, false_or, or_self, and_false, false_and]
  refine Rt_mono (pick_spec hd (by omega) (by omega) (by omega)) ?_
  rintro _ _ ⟨r, es1, rfl, rfl, r0, r1, he1⟩
  simp -implicitDefEqProofs only [if_true, ↓Ok_ok, ↓Ok_bind, ↓Ok_seq, ↓thenS_nx, ↓thenS_rt, ↓thenS_bk, ↓thenS_ct, ↓Ok_sIf, ↓Ok_pass, ↓Ok_ret, ↓Ok_setk, ↓Ok_park, ↓Ok_par3k, ↓Ok_drop, ↓Ok_for, ↓Ok_while, ↓Ok_unpk, ↓Ok_callk, ↓Ok_tryC, ↓Tr_x, ↓Tr_r, ↓nmk_s, ↓muk_n, ↓muk_c, ↓mu2_s, ↓mu2_v, ↓mu2_o, ↓zrk_n, ↓zrk_c, ↓rs_h, ↓rs_v, ↓rs_o, hd_v, hd_o, hd_u, mh_n, mh_c, ↓Rt_fnk,
  ↓sg_z, ↓sg_s, ↓sw_z, ↓sw_s, ↓td_val, ↓td_ow, ↓Ok_eLit, ↓kp_val, ↓kp_ow, ↓Ok_eV, ↓Ok_op1e, ↓Ok_op1v, ↓Ok_op2ee, ↓Ok_op2ve, ↓Ok_op2ev, ↓Ok_op2vv, ↓op_add, ↓op_addL, ↓op_addT, ↓op_addI, ↓op_subI, ↓op_addB, ↓op_subB, ↓op_sub, ↓op_mul, ↓op_mod, ↓op_div, ↓op_pow, ↓op_lt, ↓op_le, ↓op_gt, ↓op_ge, ↓op_eqI, ↓op_neI, ↓op_neg, ↓op_isN, ↓op_notN, ↓op_lenL, ↓op_lenT,
  ↓op_isi_i, ↓op_isi_b, ↓op_isi_l, ↓op_isi_t, ↓op_isi_n, ↓op_isi_s, ↓op_abs, ↓op_max2, ↓op_min2, ↓op_tupL, ↓op_tupT, ↓op_lstL, ↓op_lstT, ↓ix_0, ↓ix_1, ↓ix_2, ↓ix_3, ↓tx_0, ↓tx_1, ↓tx_2, ↓tx_3, ↓Ok_datum, ↓Ok_evL0, ↓Ok_evLc, ↓Ok_eTup, ↓Ok_eLst, ↓bk_b, ↓Ok_tB, ↓Ok_eB, ↓Ok_tNot, ↓Ok_tAnd, ↓Ok_tOr, ↓Ok_eAnd, ↓Ok_eOr, ↓Ok_eIf, ↓fk_i, ↓fk_b, ↓fk_n, ↓Ok_evSe, ↓Ok_evSv, ↓ck2_b, ↓Ok_eChain,
  ↓pk_n, ↓pk_t, ↓pk_l, ↓pks_n, ↓pks_c, ↓vk_val, ↓vk_ow, ↓rvk_val, ↓rvk_ow, ↓Ok_retV, ↓augk_val, ↓Ok_augk, ↓nk_i, ↓Ok_setIx, ↓ixk_0, ↓ixk_1, ↓ixk_2, ↓apk_ow, ↓owk_ow, ↓Ok_app, ↓ak_n, ↓ak_d, ↓ak_b, ↓gk_n, ↓gk_l, ↓gk_r, ↓zk_n, ↓zk_l, ↓zk_r, ↓sgm_z, ↓sgm_s, ↓mk2_v, ↓mk2_o, ↓ik_z, ↓ik_n, ↓ik_s, ↓uk_z, ↓uk_s, ↓rtk_rt, ↓rtk_nx, ↓nok_n, ↓nok_v, ↓nok_o,
  ↓afk_nx, ↓afk_ct, ↓afk_bk, ↓afk_rt, ↓dk_l, ↓dk_t, ↓Ok_evPn, ↓Ok_evPs, ↓Ok_cutek, ↓Ok_cutv, ↓op_cutL, ↓op_cutT, ↓Ok_wSeq, ↓rk_i, ↓Ok_wRng1, ↓Ok_wRng2, ↓Ok_wEnum, ↓Ok_wZip2, ↓Ok_wZip3, ↓Ok_wN, ↓wk_n, ↓wk_c, ↓op_isB, ↓op_isNB, ↓dkk_d, ↓vk_dki, ↓lkk_s, ↓Ok_newK, ↓Ok_dlen, ↓Ok_dsorted, ↓Ok_dget, ↓Ok_dgetD, ↓Ok_dput,
  okArg_v, okArg_o, ↓Ok_tYes, nc_0, nc_1, nc_2, nc_3, nc_4, not_true_eq_false, not_false_eq_true, isN, List.length_cons, List.length_nil, Nat.zero_add, Nat.reduceAdd, List.mem_cons, List.not_mem_nil, decide_eq_true_eq, Bool.not_eq_true', decide_eq_false_iff_not, Bool.not_true, Bool.not_false, Bool.false_eq_true, if_true, if_false, true_and, and_true, or_false, or_true, true_or, reduceCtorEq, Nat.reduceEqDiff, and_self, decide_true, decide_false, Int.reduceLT, Int.reduceLE, Int.reduceEq, Int.reduceToNat, Int.reducePow, Int.reduceAdd, Int.reduceSub, Int.reduceMul, Int.reduceNeg, Int.reduceMod, Int.reduceDiv, Nat.reduceLeDiff, Nat.reduceLT, false_or, or_self, and_false, false_and]
  refine Rt_mono (one_spec he1 (by omega) (by simp) (by simp)) ?_
  rintro _ _ ⟨d, es2, hm, rfl, rfl, he2⟩
  have hd : ∃ l : Int, d = .int l ∧ 0 ≤ l ∧ l ≤ 100000000 := by
    simp only [List.mem_cons, List.not_mem_nil, or_false] at hm
    rcases hm with rfl | rfl | rfl <;> exact ⟨_, rfl, by omega, by omega⟩
  obtain ⟨t, rfl, t0, t1⟩ := hd
  simp -implicitDefEqProofs only [if_true, ↓Ok_ok, ↓Ok_bind, ↓Ok_seq, ↓thenS_nx, ↓thenS_rt, ↓thenS_bk, ↓thenS_ct, ↓Ok_sIf, ↓Ok_pass, ↓Ok_ret, ↓Ok_setk, ↓Ok_park, ↓Ok_par3k, ↓Ok_drop, ↓Ok_for, ↓Ok_while, ↓Ok_unpk, ↓Ok_callk, ↓Ok_tryC, ↓Tr_x, ↓Tr_r, ↓nmk_s, ↓muk_n, ↓muk_c, ↓mu2_s, ↓mu2_v, ↓mu2_o, ↓zrk_n, ↓zrk_c, ↓rs_h, ↓rs_v, ↓rs_o, hd_v, hd_o, hd_u, mh_n, mh_c, ↓Rt_fnk,
  ↓sg_z, ↓sg_s, ↓sw_z, ↓sw_s, ↓td_val, ↓td_ow, ↓Ok_eLit, ↓kp_val, ↓kp_ow, ↓Ok_eV, ↓Ok_op1e, ↓Ok_op1v, ↓Ok_op2ee, ↓Ok_op2ve, ↓Ok_op2ev, ↓Ok_op2vv, ↓op_add, ↓op_addL, ↓op_addT, ↓op_addI, ↓op_subI, ↓op_addB, ↓op_subB, ↓op_sub, ↓op_mul, ↓op_mod, ↓op_div, ↓op_pow, ↓op_lt, ↓op_le, ↓op_gt, ↓op_ge, ↓op_eqI, ↓op_neI, ↓op_neg, ↓op_isN, ↓op_notN, ↓op_lenL, ↓op_lenT,
  ↓op_isi_i, ↓op_isi_b, ↓op_isi_l, ↓op_isi_t, ↓op_isi_n, ↓op_isi_s, ↓op_abs, ↓op_max2, ↓op_min2, ↓op_tupL, ↓op_tupT, ↓op_lstL, ↓op_lstT, ↓ix_0, ↓ix_1, ↓ix_2, ↓ix_3, ↓tx_0, ↓tx_1, ↓tx_2, ↓tx_3, ↓Ok_datum, ↓Ok_evL0, ↓Ok_evLc, ↓Ok_eTup, ↓Ok_eLst, ↓bk_b, ↓Ok_tB, ↓Ok_eB, ↓Ok_tNot, ↓Ok_tAnd, ↓Ok_tOr, ↓Ok_eAnd, ↓Ok_eOr, ↓Ok_eIf, ↓fk_i, ↓fk_b, ↓fk_n, ↓Ok_evSe, ↓Ok_evSv, ↓ck2_b, ↓Ok_eChain,
  ↓pk_n, ↓pk_t, ↓pk_l, ↓pks_n, ↓pks_c, ↓vk_val, ↓vk_ow, ↓rvk_val, ↓rvk_ow, ↓Ok_retV, ↓augk_val, ↓Ok_augk, ↓nk_i, ↓Ok_setIx, ↓ixk_0, ↓ixk_1, ↓ixk_2, ↓apk_ow, ↓owk_ow, ↓Ok_app, ↓ak_n, ↓ak_d, ↓ak_b, ↓gk_n, ↓gk_l, ↓gk_r, ↓zk_n, ↓zk_l, ↓zk_r, ↓sgm_z, ↓sgm_s, ↓mk2_v, ↓mk2_o, ↓ik_z, ↓ik_n, ↓ik_s, ↓uk_z, ↓uk_s, ↓rtk_rt, ↓rtk_nx, ↓nok_n, ↓nok_v, ↓nok_o,
  ↓afk_nx, ↓afk_ct, ↓afk_bk, ↓afk_rt, ↓dk_l, ↓dk_t, ↓Ok_evPn, ↓Ok_evPs, ↓Ok_cutek, ↓Ok_cutv, ↓op_cutL, ↓op_cutT, ↓Ok_wSeq, ↓rk_i, ↓Ok_wRng1, ↓Ok_wRng2, ↓Ok_wEnum, ↓Ok_wZip2, ↓Ok_wZip3, ↓Ok_wN, ↓wk_n, ↓wk_c, ↓op_isB, ↓op_isNB, ↓dkk_d, ↓vk_dki, ↓lkk_s, ↓Ok_newK, ↓Ok_dlen, ↓Ok_dsorted, ↓Ok_dget, ↓Ok_dgetD, ↓Ok_dput,
  okArg_v, okArg_o, ↓Ok_tYes, nc_0, nc_1, nc_2, nc_3, nc_4, not_true_eq_false, not_false_eq_true, isN, List.length_cons, List.length_nil, Nat.zero_add, Nat.reduceAdd, List.mem_cons, List.not_mem_nil, decide_eq_true_eq, Bool.not_eq_true', decide_eq_false_iff_not, Bool.not_true, Bool.not_false, Bool.false_eq_true, if_true, if_false, true_and, and_true, or_false, or_true, true_or, reduceCtorEq, Nat.reduceEqDiff, and_self, decide_true, decide_false, Int.reduceLT, Int.reduceLE, Int.reduceEq, Int.reduceToNat, Int.reducePow, Int.reduceAdd, Int.reduceSub, Int.reduceMul, Int.reduceNeg, Int.reduceMod, Int.reduceDiv, Nat.reduceLeDiff, Nat.reduceLT, false_or, or_self, and_false, false_and]
  refine Rt_mono (values_spec he2 (by omega) h0 (by omega)) ?_
  rintro _ _ ⟨ns, es3, rfl, rfl, hl, hns, he3⟩
  simp -implicitDefEqProofs only [if_true, ↓Ok_ok, ↓Ok_bind, ↓Ok_seq, ↓thenS_nx, ↓thenS_rt, ↓thenS_bk, ↓thenS_ct, ↓Ok_sIf, ↓Ok_pass, ↓Ok_ret, ↓Ok_setk, ↓Ok_park, ↓Ok_par3k, ↓Ok_drop, ↓Ok_for, ↓Ok_while, ↓Ok_unpk, ↓Ok_callk, ↓Ok_tryC, ↓Tr_x, ↓Tr_r, ↓nmk_s, ↓muk_n, ↓muk_c, ↓mu2_s, ↓mu2_v, ↓mu2_o, ↓zrk_n, ↓zrk_c, ↓rs_h, ↓rs_v, ↓rs_o, hd_v, hd_o, hd_u, mh_n, mh_c, ↓Rt_fnk,
  ↓sg_z, ↓sg_s, ↓sw_z, ↓sw_s, ↓td_val, ↓td_ow, ↓Ok_eLit, ↓kp_val, ↓kp_ow, ↓Ok_eV, ↓Ok_op1e, ↓Ok_op1v, ↓Ok_op2ee, ↓Ok_op2ve, ↓Ok_op2ev, ↓Ok_op2vv, ↓op_add, ↓op_addL, ↓op_addT, ↓op_addI, ↓op_subI, ↓op_addB, ↓op_subB, ↓op_sub, ↓op_mul, ↓op_mod, ↓op_div, ↓op_pow, ↓op_lt, ↓op_le, ↓op_gt, ↓op_ge, ↓op_eqI, ↓op_neI, ↓op_neg, ↓op_isN, ↓op_notN, ↓op_lenL, ↓op_lenT,
  ↓op_isi_i, ↓op_isi_b, ↓op_isi_l, ↓op_isi_t, ↓op_isi_n, ↓op_isi_s, ↓op_abs, ↓op_max2, ↓op_min2, ↓op_tupL, ↓op_tupT, ↓op_lstL, ↓op_lstT, ↓ix_0, ↓ix_1, ↓ix_2, ↓ix_3, ↓tx_0, ↓tx_1, ↓tx_2, ↓tx_3, ↓Ok_datum, ↓Ok_evL0, ↓Ok_evLc, ↓Ok_eTup, ↓Ok_eLst, ↓bk_b, ↓Ok_tB, ↓Ok_eB, ↓Ok_tNot, ↓Ok_tAnd, ↓Ok_tOr, ↓Ok_eAnd, ↓Ok_eOr, ↓Ok_eIf, ↓fk_i, ↓fk_b, ↓fk_n, ↓Ok_evSe, ↓Ok_evSv, ↓ck2_b, ↓Ok_eChain,
  ↓pk_n, ↓pk_t, ↓pk_l, ↓pks_n, ↓pks_c, ↓vk_val, ↓vk_ow, ↓rvk_val, ↓rvk_ow, ↓Ok_retV, ↓augk_val, ↓Ok_augk, ↓nk_i, ↓Ok_setIx, ↓ixk_0, ↓ixk_1, ↓ixk_2, ↓apk_ow, ↓owk_ow, ↓Ok_app, ↓ak_n, ↓ak_d, ↓ak_b, ↓gk_n, ↓gk_l, ↓gk_r, ↓zk_n, ↓zk_l, ↓zk_r, ↓sgm_z, ↓sgm_s, ↓mk2_v, ↓mk2_o, ↓ik_z, ↓ik_n, ↓ik_s, ↓uk_z, ↓uk_s, ↓rtk_rt, ↓rtk_nx, ↓nok_n, ↓nok_v, ↓nok_o,
  ↓afk_nx, ↓afk_ct, ↓afk_bk, ↓afk_rt, ↓dk_l, ↓dk_t, ↓Ok_evPn, ↓Ok_evPs, ↓Ok_cutek, ↓Ok_cutv, ↓op_cutL, ↓op_cutT, ↓Ok_wSeq, ↓rk_i, ↓Ok_wRng1, ↓Ok_wRng2, ↓Ok_wEnum, ↓Ok_wZip2, ↓Ok_wZip3, ↓Ok_wN, ↓wk_n, ↓wk_c, ↓op_isB, ↓op_isNB, ↓dkk_d, ↓vk_dki, ↓lkk_s, ↓Ok_newK, ↓Ok_dlen, ↓Ok_dsorted, ↓Ok_dget, ↓Ok_dgetD, ↓Ok_dput,
  okArg_v, okArg_o, ↓Ok_tYes, nc_0, nc_1, nc_2, nc_3, nc_4, not_true_eq_false, not_false_eq_true, isN, List.length_cons, List.length_nil, Nat.zero_add, Nat.reduceAdd, List.mem_cons, List.not_mem_nil, decide_eq_true_eq, Bool.not_eq_true', decide_eq_false_iff_not, Bool.not_true, Bool.not_false, Bool.false_eq_true, if_true, if_false, true_and, and_true, or_false, or_true, true_or, reduceCtorEq, Nat.reduceEqDiff, and_self, decide_true, decide_false, Int.reduceLT, Int.reduceLE, Int.reduceEq, Int.reduceToNat, Int.reducePow, Int.reduceAdd, Int.reduceSub, Int.reduceMul, Int.reduceNeg, Int.reduceMod, Int.reduceDiv, Nat.reduceLeDiff, Nat.reduceLT, false_or, or_self, and_false, false_and]
  refine for_ix _ (fun i S => ∃ (es : List D) (u : Int) (s : Smp) (x4 : Sv), Deck (n + 84 + 2 * i) es ∧ (0 ≤ u ∧ u ≤ 100000000 + 1001 * i) ∧ s.length = i ∧ (∀ q ∈ s, (0 ≤ q.1 ∧ q.1 < u) ∧ 0 ≤ q.2 ∧ q.2 ≤ 1000000) ∧ s.Pairwise (fun a b => a.1 < b.1) ∧ S = [.ow es, .val (.int m), .val (.int u), .val (smD s), x4])
    (fun S ⟨es, u, s, x4, he, hu, hs, hq, hp, hS⟩ => ?e) (fun i d S hi ⟨es, u, s, x4, he, hu, hs, hq, hp, hS⟩ => ?s) _ ⟨es3, t, [], _, he3.mono (by omega), by omega, rfl, by simp, List.Pairwise.nil, rfl⟩
  case e =>
    subst hS
    rw [List.length_map] at hs he hu
    simp -implicitDefEqProofs only [if_true, ↓Ok_ok, ↓Ok_bind, ↓Ok_seq, ↓thenS_nx, ↓thenS_rt, ↓thenS_bk, ↓thenS_ct, ↓Ok_sIf, ↓Ok_pass, ↓Ok_ret, ↓Ok_setk, ↓Ok_park, ↓Ok_par3k, ↓Ok_drop, ↓Ok_for, ↓Ok_while, ↓Ok_unpk, ↓Ok_callk, ↓Ok_tryC, ↓Tr_x, ↓Tr_r, ↓nmk_s, ↓muk_n, ↓muk_c, ↓mu2_s, ↓mu2_v, ↓mu2_o, ↓zrk_n, ↓zrk_c, ↓rs_h, ↓rs_v, ↓rs_o, hd_v, hd_o, hd_u, mh_n, mh_c, ↓Rt_fnk,
  ↓sg_z, ↓sg_s, ↓sw_z, ↓sw_s, ↓td_val, ↓td_ow, ↓Ok_eLit, ↓kp_val, ↓kp_ow, ↓Ok_eV, ↓Ok_op1e, ↓Ok_op1v, ↓Ok_op2ee, ↓Ok_op2ve, ↓Ok_op2ev, ↓Ok_op2vv, ↓op_add, ↓op_addL, ↓op_addT, ↓op_addI, ↓op_subI, ↓op_addB, ↓op_subB, ↓op_sub, ↓op_mul, ↓op_mod, ↓op_div, ↓op_pow, ↓op_lt, ↓op_le, ↓op_gt, ↓op_ge, ↓op_eqI, ↓op_neI, ↓op_neg, ↓op_isN, ↓op_notN, ↓op_lenL, ↓op_lenT,
  ↓op_isi_i, ↓op_isi_b, ↓op_isi_l, ↓op_isi_t, ↓op_isi_n, ↓op_isi_s, ↓op_abs, ↓op_max2, ↓op_min2, ↓op_tupL, ↓op_tupT, ↓op_lstL, ↓op_lstT, ↓ix_0, ↓ix_1, ↓ix_2, ↓ix_3, ↓tx_0, ↓tx_1, ↓tx_2, ↓tx_3, ↓Ok_datum, ↓Ok_evL0, ↓Ok_evLc, ↓Ok_eTup, ↓Ok_eLst, ↓bk_b, ↓Ok_tB, ↓Ok_eB, ↓Ok_tNot, ↓Ok_tAnd, ↓Ok_tOr, ↓Ok_eAnd, ↓Ok_eOr, ↓Ok_eIf, ↓fk_i, ↓fk_b, ↓fk_n, ↓Ok_evSe, ↓Ok_evSv, ↓ck2_b, ↓Ok_eChain,
  ↓pk_n, ↓pk_t, ↓pk_l, ↓pks_n, ↓pks_c, ↓vk_val, ↓vk_ow, ↓rvk_val, ↓rvk_ow, ↓Ok_retV, ↓augk_val, ↓Ok_augk, ↓nk_i, ↓Ok_setIx, ↓ixk_0, ↓ixk_1, ↓ixk_2, ↓apk_ow, ↓owk_ow, ↓Ok_app, ↓ak_n, ↓ak_d, ↓ak_b, ↓gk_n, ↓gk_l, ↓gk_r, ↓zk_n, ↓zk_l, ↓zk_r, ↓sgm_z, ↓sgm_s, ↓mk2_v, ↓mk2_o, ↓ik_z, ↓ik_n, ↓ik_s, ↓uk_z, ↓uk_s, ↓rtk_rt, ↓rtk_nx, ↓nok_n, ↓nok_v, ↓nok_o,
  ↓afk_nx, ↓afk_ct, ↓afk_bk, ↓afk_rt, ↓dk_l, ↓dk_t, ↓Ok_evPn, ↓Ok_evPs, ↓Ok_cutek, ↓Ok_cutv, ↓op_cutL, ↓op_cutT, ↓Ok_wSeq, ↓rk_i, ↓Ok_wRng1, ↓Ok_wRng2, ↓Ok_wEnum, ↓Ok_wZip2, ↓Ok_wZip3, ↓Ok_wN, ↓wk_n, ↓wk_c, ↓op_isB, ↓op_isNB, ↓dkk_d, ↓vk_dki, ↓lkk_s, ↓Ok_newK, ↓Ok_dlen, ↓Ok_dsorted, ↓Ok_dget, ↓Ok_dgetD, ↓Ok_dput,
  okArg_v, okArg_o, ↓Ok_tYes, nc_0, nc_1, nc_2, nc_3, nc_4, not_true_eq_false, not_false_eq_true, isN, List.length_cons, List.length_nil, Nat.zero_add, Nat.reduceAdd, List.mem_cons, List.not_mem_nil, decide_eq_true_eq, Bool.not_eq_true', decide_eq_false_iff_not, Bool.not_true, Bool.not_false, Bool.false_eq_true, if_true, if_false, true_and, and_true, or_false, or_true, true_or, reduceCtorEq, Nat.reduceEqDiff, and_self, decide_true, decide_false, Int.reduceLT, Int.reduceLE, Int.reduceEq, Int.reduceToNat, Int.reducePow, Int.reduceAdd, Int.reduceSub, Int.reduceMul, Int.reduceNeg, Int.reduceMod, Int.reduceDiv, Nat.reduceLeDiff, Nat.reduceLT, false_or, or_self, and_false, false_and]
    exact ⟨s, es, rfl, rfl, ⟨by omega, fun q h => ⟨⟨(hq q h).1.1, by have := (hq q h).1.2; omega⟩, (hq q h).2⟩, hp⟩, by omega, he.mono (by omega)⟩
  case s =>
    have hil : i < ns.length := by
      have := (List.getElem?_eq_some_iff.mp hi).1
      rwa [List.length_map] at this
    obtain ⟨y, hy, rfl⟩ : ∃ y, y ∈ ns ∧ d = .int y := by
      obtain ⟨y, h1, h2⟩ := List.mem_map.mp (List.mem_of_getElem? hi)
      exact ⟨y, h1, h2.symm⟩
    have hy := hns y hy
    subst hS
    unfold B_law_samples_f1
    simp -implicitDefEqProofs only [List.length_map, ↓Ok_ok, ↓Ok_bind, ↓Ok_seq, ↓thenS_nx, ↓thenS_rt, ↓thenS_bk, ↓thenS_ct, ↓Ok_sIf, ↓Ok_pass, ↓Ok_ret, ↓Ok_setk, ↓Ok_park, ↓Ok_par3k, ↓Ok_drop, ↓Ok_for, ↓Ok_while, ↓Ok_unpk, ↓Ok_callk, ↓Ok_tryC, ↓Tr_x, ↓Tr_r, ↓nmk_s, ↓muk_n, ↓muk_c, ↓mu2_s, ↓mu2_v, ↓mu2_o, ↓zrk_n, ↓zrk_c, ↓rs_h, ↓rs_v, ↓rs_o, hd_v, hd_o, hd_u, mh_n, mh_c, ↓Rt_fnk,
  ↓sg_z, ↓sg_s, ↓sw_z, ↓sw_s, ↓td_val, ↓td_ow, ↓Ok_eLit, ↓kp_val, ↓kp_ow, ↓Ok_eV, ↓Ok_op1e, ↓Ok_op1v, ↓Ok_op2ee, ↓Ok_op2ve, ↓Ok_op2ev, ↓Ok_op2vv, ↓op_add, ↓op_addL, ↓op_addT, ↓op_addI, ↓op_subI, ↓op_addB, ↓op_subB, ↓op_sub, ↓op_mul, ↓op_mod, ↓op_div, ↓op_pow, ↓op_lt, ↓op_le, ↓op_gt, ↓op_ge, ↓op_eqI, ↓op_neI, ↓op_neg, ↓op_isN, ↓op_notN, ↓op_lenL, ↓op_lenT,
  ↓op_isi_i, ↓op_isi_b, ↓op_isi_l, ↓op_isi_t, ↓op_isi_n, ↓op_isi_s, ↓op_abs, ↓op_max2, ↓op_min2, ↓op_tupL, ↓op_tupT, ↓op_lstL, ↓op_lstT, ↓ix_0, ↓ix_1, ↓ix_2, ↓ix_3, ↓tx_0, ↓tx_1, ↓tx_2, ↓tx_3, ↓Ok_datum, ↓Ok_evL0, ↓Ok_evLc, ↓Ok_eTup, ↓Ok_eLst, ↓bk_b, ↓Ok_tB, ↓Ok_eB, ↓Ok_tNot, ↓Ok_tAnd, ↓Ok_tOr, ↓Ok_eAnd, ↓Ok_eOr, ↓Ok_eIf, ↓fk_i, ↓fk_b, ↓fk_n, ↓Ok_evSe, ↓Ok_evSv, ↓ck2_b, ↓Ok_eChain,
  ↓pk_n, ↓pk_t, ↓pk_l, ↓pks_n, ↓pks_c, ↓vk_val, ↓vk_ow, ↓rvk_val, ↓rvk_ow, ↓Ok_retV, ↓augk_val, ↓Ok_augk, ↓nk_i, ↓Ok_setIx, ↓ixk_0, ↓ixk_1, ↓ixk_2, ↓apk_ow, ↓owk_ow, ↓Ok_app, ↓ak_n, ↓ak_d, ↓ak_b, ↓gk_n, ↓gk_l, ↓gk_r, ↓zk_n, ↓zk_l, ↓zk_r, ↓sgm_z, ↓sgm_s, ↓mk2_v, ↓mk2_o, ↓ik_z, ↓ik_n, ↓ik_s, ↓uk_z, ↓uk_s, ↓rtk_rt, ↓rtk_nx, ↓nok_n, ↓nok_v, ↓nok_o,
  ↓afk_nx, ↓afk_ct, ↓afk_bk, ↓afk_rt, ↓dk_l, ↓dk_t, ↓Ok_evPn, ↓Ok_evPs, ↓Ok_cutek, ↓Ok_cutv, ↓op_cutL, ↓op_cutT, ↓Ok_wSeq, ↓rk_i, ↓Ok_wRng1, ↓Ok_wRng2, ↓Ok_wEnum, ↓Ok_wZip2, ↓Ok_wZip3, ↓Ok_wN, ↓wk_n, ↓wk_c, ↓op_isB, ↓op_isNB, ↓dkk_d, ↓vk_dki, ↓lkk_s, ↓Ok_newK, ↓Ok_dlen, ↓Ok_dsorted, ↓Ok_dget, ↓Ok_dgetD, ↓Ok_dput,
  okArg_v, okArg_o, ↓Ok_tYes, nc_0, nc_1, nc_2, nc_3, nc_4, not_true_eq_false, not_false_eq_true, isN, List.length_cons, List.length_nil, Nat.zero_add, Nat.reduceAdd, List.mem_cons, List.not_mem_nil, decide_eq_true_eq, Bool.not_eq_true', decide_eq_false_iff_not, Bool.not_true, Bool.not_false, Bool.false_eq_true, if_true, if_false, true_and, and_true, or_false, or_true, true_or, reduceCtorEq, Nat.reduceEqDiff, and_self, decide_true, decide_false, Int.reduceLT, Int.reduceLE, Int.reduceEq, Int.reduceToNat, Int.reducePow, Int.reduceAdd, Int.reduceSub, Int.reduceMul, Int.reduceNeg, Int.reduceMod, Int.reduceDiv, Nat.reduceLeDiff, Nat.reduceLT, false_or, or_self, and_false, false_and]
    refine ⟨by omega, ?_⟩
    refine Rt_mono (one_spec he (by omega) (by simp) (by simp)) ?_
    rintro _ _ ⟨d, es4, hm, rfl, rfl, he4⟩
    have hd : ∃ l : Int, d = .int l ∧ 1 ≤ l ∧ l ≤ 1000 := by
      simp only [List.mem_cons, List.not_mem_nil, or_false] at hm
      rcases hm with rfl | rfl | rfl | rfl <;> exact ⟨_, rfl, by omega, by omega⟩
    obtain ⟨g, rfl, g0, g1⟩ := hd
    simp -implicitDefEqProofs only [if_true, ↓Ok_ok, ↓Ok_bind, ↓Ok_seq, ↓thenS_nx, ↓thenS_rt, ↓thenS_bk, ↓thenS_ct, ↓Ok_sIf, ↓Ok_pass, ↓Ok_ret, ↓Ok_setk, ↓Ok_park, ↓Ok_par3k, ↓Ok_drop, ↓Ok_for, ↓Ok_while, ↓Ok_unpk, ↓Ok_callk, ↓Ok_tryC, ↓Tr_x, ↓Tr_r, ↓nmk_s, ↓muk_n, ↓muk_c, ↓mu2_s, ↓mu2_v, ↓mu2_o, ↓zrk_n, ↓zrk_c, ↓rs_h, ↓rs_v, ↓rs_o, hd_v, hd_o, hd_u, mh_n, mh_c, ↓Rt_fnk,
  ↓sg_z, ↓sg_s, ↓sw_z, ↓sw_s, ↓td_val, ↓td_ow, ↓Ok_eLit, ↓kp_val, ↓kp_ow, ↓Ok_eV, ↓Ok_op1e, ↓Ok_op1v, ↓Ok_op2ee, ↓Ok_op2ve, ↓Ok_op2ev, ↓Ok_op2vv, ↓op_add, ↓op_addL, ↓op_addT, ↓op_addI, ↓op_subI, ↓op_addB, ↓op_subB, ↓op_sub, ↓op_mul, ↓op_mod, ↓op_div, ↓op_pow, ↓op_lt, ↓op_le, ↓op_gt, ↓op_ge, ↓op_eqI, ↓op_neI, ↓op_neg, ↓op_isN, ↓op_notN, ↓op_lenL, ↓op_lenT,
  ↓op_isi_i, ↓op_isi_b, ↓op_isi_l, ↓op_isi_t, ↓op_isi_n, ↓op_isi_s, ↓op_abs, ↓op_max2, ↓op_min2, ↓op_tupL, ↓op_tupT, ↓op_lstL, ↓op_lstT, ↓ix_0, ↓ix_1, ↓ix_2, ↓ix_3, ↓tx_0, ↓tx_1, ↓tx_2, ↓tx_3, ↓Ok_datum, ↓Ok_evL0, ↓Ok_evLc, ↓Ok_eTup, ↓Ok_eLst, ↓bk_b, ↓Ok_tB, ↓Ok_eB, ↓Ok_tNot, ↓Ok_tAnd, ↓Ok_tOr, ↓Ok_eAnd, ↓Ok_eOr, ↓Ok_eIf, ↓fk_i, ↓fk_b, ↓fk_n, ↓Ok_evSe, ↓Ok_evSv, ↓ck2_b, ↓Ok_eChain,
  ↓pk_n, ↓pk_t, ↓pk_l, ↓pks_n, ↓pks_c, ↓vk_val, ↓vk_ow, ↓rvk_val, ↓rvk_ow, ↓Ok_retV, ↓augk_val, ↓Ok_augk, ↓nk_i, ↓Ok_setIx, ↓ixk_0, ↓ixk_1, ↓ixk_2, ↓apk_ow, ↓owk_ow, ↓Ok_app, ↓ak_n, ↓ak_d, ↓ak_b, ↓gk_n, ↓gk_l, ↓gk_r, ↓zk_n, ↓zk_l, ↓zk_r, ↓sgm_z, ↓sgm_s, ↓mk2_v, ↓mk2_o, ↓ik_z, ↓ik_n, ↓ik_s, ↓uk_z, ↓uk_s, ↓rtk_rt, ↓rtk_nx, ↓nok_n, ↓nok_v, ↓nok_o,
  ↓afk_nx, ↓afk_ct, ↓afk_bk, ↓afk_rt, ↓dk_l, ↓dk_t, ↓Ok_evPn, ↓Ok_evPs, ↓Ok_cutek, ↓Ok_cutv, ↓op_cutL, ↓op_cutT, ↓Ok_wSeq, ↓rk_i, ↓Ok_wRng1, ↓Ok_wRng2, ↓Ok_wEnum, ↓Ok_wZip2, ↓Ok_wZip3, ↓Ok_wN, ↓wk_n, ↓wk_c, ↓op_isB, ↓op_isNB, ↓dkk_d, ↓vk_dki, ↓lkk_s, ↓Ok_newK, ↓Ok_dlen, ↓Ok_dsorted, ↓Ok_dget, ↓Ok_dgetD, ↓Ok_dput,
  okArg_v, okArg_o, ↓Ok_tYes, nc_0, nc_1, nc_2, nc_3, nc_4, not_true_eq_false, not_false_eq_true, isN, List.length_cons, List.length_nil, Nat.zero_add, Nat.reduceAdd, List.mem_cons, List.not_mem_nil, decide_eq_true_eq, Bool.not_eq_true', decide_eq_false_iff_not, Bool.not_true, Bool.not_false, Bool.false_eq_true, if_true, if_false, true_and, and_true, or_false, or_true, true_or, reduceCtorEq, Nat.reduceEqDiff, and_self, decide_true, decide_false, Int.reduceLT, Int.reduceLE, Int.reduceEq, Int.reduceToNat, Int.reducePow, Int.reduceAdd, Int.reduceSub, Int.reduceMul, Int.reduceNeg, Int.reduceMod, Int.reduceDiv, Nat.reduceLeDiff, Nat.reduceLT, false_or, or_self, and_false, false_and]
    refine Rt_mono (pick_spec he4 (by omega) (by omega) (by omega)) ?_
    rintro _ _ ⟨w, es5, rfl, rfl, w0, w1, he5⟩
    simp -implicitDefEqProofs only [if_true, ↓Ok_ok, ↓Ok_bind, ↓Ok_seq, ↓thenS_nx, ↓thenS_rt, ↓thenS_bk, ↓thenS_ct, ↓Ok_sIf, ↓Ok_pass, ↓Ok_ret, ↓Ok_setk, ↓Ok_park, ↓Ok_par3k, ↓Ok_drop, ↓Ok_for, ↓Ok_while, ↓Ok_unpk, ↓Ok_callk, ↓Ok_tryC, ↓Tr_x, ↓Tr_r, ↓nmk_s, ↓muk_n, ↓muk_c, ↓mu2_s, ↓mu2_v, ↓mu2_o, ↓zrk_n, ↓zrk_c, ↓rs_h, ↓rs_v, ↓rs_o, hd_v, hd_o, hd_u, mh_n, mh_c, ↓Rt_fnk,
  ↓sg_z, ↓sg_s, ↓sw_z, ↓sw_s, ↓td_val, ↓td_ow, ↓Ok_eLit, ↓kp_val, ↓kp_ow, ↓Ok_eV, ↓Ok_op1e, ↓Ok_op1v, ↓Ok_op2ee, ↓Ok_op2ve, ↓Ok_op2ev, ↓Ok_op2vv, ↓op_add, ↓op_addL, ↓op_addT, ↓op_addI, ↓op_subI, ↓op_addB, ↓op_subB, ↓op_sub, ↓op_mul, ↓op_mod, ↓op_div, ↓op_pow, ↓op_lt, ↓op_le, ↓op_gt, ↓op_ge, ↓op_eqI, ↓op_neI, ↓op_neg, ↓op_isN, ↓op_notN, ↓op_lenL, ↓op_lenT,
  ↓op_isi_i, ↓op_isi_b, ↓op_isi_l, ↓op_isi_t, ↓op_isi_n, ↓op_isi_s, ↓op_abs, ↓op_max2, ↓op_min2, ↓op_tupL, ↓op_tupT, ↓op_lstL, ↓op_lstT, ↓ix_0, ↓ix_1, ↓ix_2, ↓ix_3, ↓tx_0, ↓tx_1, ↓tx_2, ↓tx_3, ↓Ok_datum, ↓Ok_evL0, ↓Ok_evLc, ↓Ok_eTup, ↓Ok_eLst, ↓bk_b, ↓Ok_tB, ↓Ok_eB, ↓Ok_tNot, ↓Ok_tAnd, ↓Ok_tOr, ↓Ok_eAnd, ↓Ok_eOr, ↓Ok_eIf, ↓fk_i, ↓fk_b, ↓fk_n, ↓Ok_evSe, ↓Ok_evSv, ↓ck2_b, ↓Ok_eChain,
  ↓pk_n, ↓pk_t, ↓pk_l, ↓pks_n, ↓pks_c, ↓vk_val, ↓vk_ow, ↓rvk_val, ↓rvk_ow, ↓Ok_retV, ↓augk_val, ↓Ok_augk, ↓nk_i, ↓Ok_setIx, ↓ixk_0, ↓ixk_1, ↓ixk_2, ↓apk_ow, ↓owk_ow, ↓Ok_app, ↓ak_n, ↓ak_d, ↓ak_b, ↓gk_n, ↓gk_l, ↓gk_r, ↓zk_n, ↓zk_l, ↓zk_r, ↓sgm_z, ↓sgm_s, ↓mk2_v, ↓mk2_o, ↓ik_z, ↓ik_n, ↓ik_s, ↓uk_z, ↓uk_s, ↓rtk_rt, ↓rtk_nx, ↓nok_n, ↓nok_v, ↓nok_o,
  ↓afk_nx, ↓afk_ct, ↓afk_bk, ↓afk_rt, ↓dk_l, ↓dk_t, ↓Ok_evPn, ↓Ok_evPs, ↓Ok_cutek, ↓Ok_cutv, ↓op_cutL, ↓op_cutT, ↓Ok_wSeq, ↓rk_i, ↓Ok_wRng1, ↓Ok_wRng2, ↓Ok_wEnum, ↓Ok_wZip2, ↓Ok_wZip3, ↓Ok_wN, ↓wk_n, ↓wk_c, ↓op_isB, ↓op_isNB, ↓dkk_d, ↓vk_dki, ↓lkk_s, ↓Ok_newK, ↓Ok_dlen, ↓Ok_dsorted, ↓Ok_dget, ↓Ok_dgetD, ↓Ok_dput,
  okArg_v, okArg_o, ↓Ok_tYes, nc_0, nc_1, nc_2, nc_3, nc_4, not_true_eq_false, not_false_eq_true, isN, List.length_cons, List.length_nil, Nat.zero_add, Nat.reduceAdd, List.mem_cons, List.not_mem_nil, decide_eq_true_eq, Bool.not_eq_true', decide_eq_false_iff_not, Bool.not_true, Bool.not_false, Bool.false_eq_true, if_true, if_false, true_and, and_true, or_false, or_true, true_or, reduceCtorEq, Nat.reduceEqDiff, and_self, decide_true, decide_false, Int.reduceLT, Int.reduceLE, Int.reduceEq, Int.reduceToNat, Int.reducePow, Int.reduceAdd, Int.reduceSub, Int.reduceMul, Int.reduceNeg, Int.reduceMod, Int.reduceDiv, Nat.reduceLeDiff, Nat.reduceLT, false_or, or_self, and_false, false_and]
    refine ⟨es5, u + 1 + w, s ++ [(u, y)], _, he5.mono (by omega), by omega, by simp [hs], fun q h => ?_, ?_, by rw [smD, List.map_append]; rfl⟩
    · rcases List.mem_append.mp h with h | h
      · have := hq q h
        exact ⟨⟨this.1.1, by omega⟩, this.2⟩
      · rw [List.mem_singleton.mp h]
        exact ⟨⟨hu.1, by show u < u + 1 + w; omega⟩, hy⟩
    · rw [List.pairwise_append]
      refine ⟨hp, List.pairwise_singleton _ _, fun a ha b hb => ?_⟩
      rw [List.mem_singleton.mp hb]
      exact (hq a ha).1.2
end

section
open PySem Rc
theorem is_from_eq (a lo hi : Int) (Q : Sv → Sl → Prop) : Rt (F_is_from [.val (.int a), .val (.int lo), .val (.int hi)]) Q = Q (.val (.bool (decide (lo ≤ a ∧ a ≤ hi)))) [.val (.int a), .val (.int lo), .val (.int hi)] := by
  unfold F_is_from B_is_from
  simp -implicitDefEqProofs only [if_true, ↓Ok_ok, ↓Ok_bind, ↓Ok_seq, ↓thenS_nx, ↓thenS_rt, ↓thenS_bk, ↓thenS_ct, ↓Ok_sIf, ↓Ok_pass, ↓Ok_ret, ↓Ok_setk, ↓Ok_park, ↓Ok_par3k, ↓Ok_drop, ↓Ok_for, ↓Ok_while, ↓Ok_unpk, ↓Ok_callk, ↓Ok_tryC, ↓Tr_x, ↓Tr_r, ↓nmk_s, ↓muk_n, ↓muk_c, ↓mu2_s, ↓mu2_v, ↓mu2_o, ↓zrk_n, ↓zrk_c, ↓rs_h, ↓rs_v, ↓rs_o, hd_v, hd_o, hd_u, mh_n, mh_c, ↓Rt_fnk,
  ↓sg_z, ↓sg_s, ↓sw_z, ↓sw_s, ↓td_val, ↓td_ow, ↓Ok_eLit, ↓kp_val, ↓kp_ow, ↓Ok_eV, ↓Ok_op1e, ↓Ok_op1v, ↓Ok_op2ee, ↓Ok_op2ve, ↓Ok_op2ev, ↓Ok_op2vv, ↓op_add, ↓op_addL, ↓op_addT, ↓op_addI, ↓op_subI, ↓op_addB, ↓op_subB, ↓op_sub, ↓op_mul, ↓op_mod, ↓op_div, ↓op_pow, ↓op_lt, ↓op_le, ↓op_gt, ↓op_ge, ↓op_eqI, ↓op_neI, ↓op_neg, ↓op_isN, ↓op_notN, ↓op_lenL, ↓op_lenT,
  ↓op_isi_i, ↓op_isi_b, ↓op_isi_l, ↓op_isi_t, ↓op_isi_n, ↓op_isi_s, ↓op_abs, ↓op_max2, ↓op_min2, ↓op_tupL, ↓op_tupT, ↓op_lstL, ↓op_lstT, ↓ix_0, ↓ix_1, ↓ix_2, ↓ix_3, ↓tx_0, ↓tx_1, ↓tx_2, ↓tx_3, ↓Ok_datum, ↓Ok_evL0, ↓Ok_evLc, ↓Ok_eTup, ↓Ok_eLst, ↓bk_b, ↓Ok_tB, ↓Ok_eB, ↓Ok_tNot, ↓Ok_tAnd, ↓Ok_tOr, ↓Ok_eAnd, ↓Ok_eOr, ↓Ok_eIf, ↓fk_i, ↓fk_b, ↓fk_n, ↓Ok_evSe, ↓Ok_evSv, ↓ck2_b, ↓Ok_eChain,
  ↓pk_n, ↓pk_t, ↓pk_l, ↓pks_n, ↓pks_c, ↓vk_val, ↓vk_ow, ↓rvk_val, ↓rvk_ow, ↓Ok_retV, ↓augk_val, ↓Ok_augk, ↓nk_i, ↓Ok_setIx, ↓ixk_0, ↓ixk_1, ↓ixk_2, ↓apk_ow, ↓owk_ow, ↓Ok_app, ↓ak_n, ↓ak_d, ↓ak_b, ↓gk_n, ↓gk_l, ↓gk_r, ↓zk_n, ↓zk_l, ↓zk_r, ↓sgm_z, ↓sgm_s, ↓mk2_v, ↓mk2_o, ↓ik_z, ↓ik_n, ↓ik_s, ↓uk_z, ↓uk_s, ↓rtk_rt, ↓rtk_nx, ↓nok_n, ↓nok_v, ↓nok_o,
  ↓afk_nx, ↓afk_ct, ↓afk_bk, ↓afk_rt, ↓dk_l, ↓dk_t, ↓Ok_evPn, ↓Ok_evPs, ↓Ok_cutek, ↓Ok_cutv, ↓op_cutL, ↓op_cutT, ↓Ok_wSeq, ↓rk_i, ↓Ok_wRng1, ↓Ok_wRng2, ↓Ok_wEnum, ↓Ok_wZip2, ↓Ok_wZip3, ↓Ok_wN, ↓wk_n, ↓wk_c, ↓op_isB, ↓op_isNB, ↓dkk_d, ↓vk_dki, ↓lkk_s, ↓Ok_newK, ↓Ok_dlen, ↓Ok_dsorted, ↓Ok_dget, ↓Ok_dgetD, ↓Ok_dput,
  okArg_v, okArg_o, ↓Ok_tYes, nc_0, nc_1, nc_2, nc_3, nc_4, not_true_eq_false, not_false_eq_true, isN, List.length_cons, List.length_nil, Nat.zero_add, Nat.reduceAdd, List.mem_cons, List.not_mem_nil, decide_eq_true_eq, Bool.not_eq_true', decide_eq_false_iff_not, Bool.not_true, Bool.not_false, Bool.false_eq_true, if_true, if_false, true_and, and_true, or_false, or_true, true_or, reduceCtorEq, Nat.reduceEqDiff, and_self, decide_true, decide_false, Int.reduceLT, Int.reduceLE, Int.reduceEq, Int.reduceToNat, Int.reducePow, Int.reduceAdd, Int.reduceSub, Int.reduceMul, Int.reduceNeg, Int.reduceMod, Int.reduceDiv, Nat.reduceLeDiff, Nat.reduceLT, false_or, or_self, and_false, false_and]
  by_cases h : lo ≤ a <;> simp [h]
abbrev stp (a b : Int) : Int := if a ≤ b then b - a else b
theorem step_eq (a b : Int) (Q : Sv → Sl → Prop) : Rt (F_step [.val (.int a), .val (.int b)]) Q = Q (.val (.int (stp a b))) [.val (.int a), .val (.int b)] := by
  unfold F_step B_step
  simp -implicitDefEqProofs only [if_true, ↓Ok_ok, ↓Ok_bind, ↓Ok_seq, ↓thenS_nx, ↓thenS_rt, ↓thenS_bk, ↓thenS_ct, ↓Ok_sIf, ↓Ok_pass, ↓Ok_ret, ↓Ok_setk, ↓Ok_park, ↓Ok_par3k, ↓Ok_drop, ↓Ok_for, ↓Ok_while, ↓Ok_unpk, ↓Ok_callk, ↓Ok_tryC, ↓Tr_x, ↓Tr_r, ↓nmk_s, ↓muk_n, ↓muk_c, ↓mu2_s, ↓mu2_v, ↓mu2_o, ↓zrk_n, ↓zrk_c, ↓rs_h, ↓rs_v, ↓rs_o, hd_v, hd_o, hd_u, mh_n, mh_c, ↓Rt_fnk,
  ↓sg_z, ↓sg_s, ↓sw_z, ↓sw_s, ↓td_val, ↓td_ow, ↓Ok_eLit, ↓kp_val, ↓kp_ow, ↓Ok_eV, ↓Ok_op1e, ↓Ok_op1v, ↓Ok_op2ee, ↓Ok_op2ve, ↓Ok_op2ev, ↓Ok_op2vv, ↓op_add, ↓op_addL, ↓op_addT, ↓op_addI, ↓op_subI, ↓op_addB, ↓op_subB, ↓op_sub, ↓op_mul, ↓op_mod, ↓op_div, ↓op_pow, ↓op_lt, ↓op_le, ↓op_gt, ↓op_ge, ↓op_eqI, ↓op_neI, ↓op_neg, ↓op_isN, ↓op_notN, ↓op_lenL, ↓op_lenT,
  ↓op_isi_i, ↓op_isi_b, ↓op_isi_l, ↓op_isi_t, ↓op_isi_n, ↓op_isi_s, ↓op_abs, ↓op_max2, ↓op_min2, ↓op_tupL, ↓op_tupT, ↓op_lstL, ↓op_lstT, ↓ix_0, ↓ix_1, ↓ix_2, ↓ix_3, ↓tx_0, ↓tx_1, ↓tx_2, ↓tx_3, ↓Ok_datum, ↓Ok_evL0, ↓Ok_evLc, ↓Ok_eTup, ↓Ok_eLst, ↓bk_b, ↓Ok_tB, ↓Ok_eB, ↓Ok_tNot, ↓Ok_tAnd, ↓Ok_tOr, ↓Ok_eAnd, ↓Ok_eOr, ↓Ok_eIf, ↓fk_i, ↓fk_b, ↓fk_n, ↓Ok_evSe, ↓Ok_evSv, ↓ck2_b, ↓Ok_eChain,
  ↓pk_n, ↓pk_t, ↓pk_l, ↓pks_n, ↓pks_c, ↓vk_val, ↓vk_ow, ↓rvk_val, ↓rvk_ow, ↓Ok_retV, ↓augk_val, ↓Ok_augk, ↓nk_i, ↓Ok_setIx, ↓ixk_0, ↓ixk_1, ↓ixk_2, ↓apk_ow, ↓owk_ow, ↓Ok_app, ↓ak_n, ↓ak_d, ↓ak_b, ↓gk_n, ↓gk_l, ↓gk_r, ↓zk_n, ↓zk_l, ↓zk_r, ↓sgm_z, ↓sgm_s, ↓mk2_v, ↓mk2_o, ↓ik_z, ↓ik_n, ↓ik_s, ↓uk_z, ↓uk_s, ↓rtk_rt, ↓rtk_nx, ↓nok_n, ↓nok_v, ↓nok_o,
  ↓afk_nx, ↓afk_ct, ↓afk_bk, ↓afk_rt, ↓dk_l, ↓dk_t, ↓Ok_evPn, ↓Ok_evPs, ↓Ok_cutek, ↓Ok_cutv, ↓op_cutL, ↓op_cutT, ↓Ok_wSeq, ↓rk_i, ↓Ok_wRng1, ↓Ok_wRng2, ↓Ok_wEnum, ↓Ok_wZip2, ↓Ok_wZip3, ↓Ok_wN, ↓wk_n, ↓wk_c, ↓op_isB, ↓op_isNB, ↓dkk_d, ↓vk_dki, ↓lkk_s, ↓Ok_newK, ↓Ok_dlen, ↓Ok_dsorted, ↓Ok_dget, ↓Ok_dgetD, ↓Ok_dput,
  okArg_v, okArg_o, ↓Ok_tYes, nc_0, nc_1, nc_2, nc_3, nc_4, not_true_eq_false, not_false_eq_true, isN, List.length_cons, List.length_nil, Nat.zero_add, Nat.reduceAdd, List.mem_cons, List.not_mem_nil, decide_eq_true_eq, Bool.not_eq_true', decide_eq_false_iff_not, Bool.not_true, Bool.not_false, Bool.false_eq_true, if_true, if_false, true_and, and_true, or_false, or_true, true_or, reduceCtorEq, Nat.reduceEqDiff, and_self, decide_true, decide_false, Int.reduceLT, Int.reduceLE, Int.reduceEq, Int.reduceToNat, Int.reducePow, Int.reduceAdd, Int.reduceSub, Int.reduceMul, Int.reduceNeg, Int.reduceMod, Int.reduceDiv, Nat.reduceLeDiff, Nat.reduceLT, false_or, or_self, and_false, false_and]
  unfold stp
  by_cases h : a ≤ b <;> simp [h]
def prs {α : Type} (xs : List α) : List (α × α) := xs.zip (xs.drop 1)
def stps (xs : List Int) : List Int := (prs xs).map fun q => stp q.1 q.2
def dns (xs : List Int) : List Nat := (List.range (xs.length - 1)).filter fun k => decide (xs.getD (k + 1) 0 < xs.getD k 0)
theorem all_true {α : Type} {l : List α} : (l.map fun _ => PyData.bool true) = (l.map fun _ => true).map PyData.bool := by simp
theorem prs_asc {α : Type} {R : α → α → Prop} : ∀ {s : List α}, s.Pairwise R → ∀ q ∈ prs s, R q.1 q.2
  | [], _, q, h => by simp [prs] at h
  | [a], _, q, h => by simp [prs] at h
  | a :: b :: l, hp, q, h => by
    have h : q ∈ (a, b) :: prs (b :: l) := h
    rw [List.pairwise_cons] at hp
    rcases List.mem_cons.mp h with rfl | h
    · exact hp.1 b List.mem_cons_self
    · exact prs_asc hp.2 q h
end

/-! ### the package's samples -/
section
open PySem Rc
def vals (s : Smp) : List Int := s.map fun q => q.2
def est (s : Smp) : Int := (stps (vals s)).sum
theorem is_sample_eq {q : Int × Int} (h1 : 0 ≤ q.1 ∧ q.1 ≤ 1000000000) (h2 : 0 ≤ q.2 ∧ q.2 ≤ 1000000) (Q : Sv → Sl → Prop) : Rt (F_is_sample [.val (pqD q)]) Q = Q (.val (.bool true)) [.val (pqD q)] := by
  unfold F_is_sample B_is_sample pqD
  simp -implicitDefEqProofs only [↓is_from_eq, h1, h2, ↓Ok_ok, ↓Ok_bind, ↓Ok_seq, ↓thenS_nx, ↓thenS_rt, ↓thenS_bk, ↓thenS_ct, ↓Ok_sIf, ↓Ok_pass, ↓Ok_ret, ↓Ok_setk, ↓Ok_park, ↓Ok_par3k, ↓Ok_drop, ↓Ok_for, ↓Ok_while, ↓Ok_unpk, ↓Ok_callk, ↓Ok_tryC, ↓Tr_x, ↓Tr_r, ↓nmk_s, ↓muk_n, ↓muk_c, ↓mu2_s, ↓mu2_v, ↓mu2_o, ↓zrk_n, ↓zrk_c, ↓rs_h, ↓rs_v, ↓rs_o, hd_v, hd_o, hd_u, mh_n, mh_c, ↓Rt_fnk,
  ↓sg_z, ↓sg_s, ↓sw_z, ↓sw_s, ↓td_val, ↓td_ow, ↓Ok_eLit, ↓kp_val, ↓kp_ow, ↓Ok_eV, ↓Ok_op1e, ↓Ok_op1v, ↓Ok_op2ee, ↓Ok_op2ve, ↓Ok_op2ev, ↓Ok_op2vv, ↓op_add, ↓op_addL, ↓op_addT, ↓op_addI, ↓op_subI, ↓op_addB, ↓op_subB, ↓op_sub, ↓op_mul, ↓op_mod, ↓op_div, ↓op_pow, ↓op_lt, ↓op_le, ↓op_gt, ↓op_ge, ↓op_eqI, ↓op_neI, ↓op_neg, ↓op_isN, ↓op_notN, ↓op_lenL, ↓op_lenT,
  ↓op_isi_i, ↓op_isi_b, ↓op_isi_l, ↓op_isi_t, ↓op_isi_n, ↓op_isi_s, ↓op_abs, ↓op_max2, ↓op_min2, ↓op_tupL, ↓op_tupT, ↓op_lstL, ↓op_lstT, ↓ix_0, ↓ix_1, ↓ix_2, ↓ix_3, ↓tx_0, ↓tx_1, ↓tx_2, ↓tx_3, ↓Ok_datum, ↓Ok_evL0, ↓Ok_evLc, ↓Ok_eTup, ↓Ok_eLst, ↓bk_b, ↓Ok_tB, ↓Ok_eB, ↓Ok_tNot, ↓Ok_tAnd, ↓Ok_tOr, ↓Ok_eAnd, ↓Ok_eOr, ↓Ok_eIf, ↓fk_i, ↓fk_b, ↓fk_n, ↓Ok_evSe, ↓Ok_evSv, ↓ck2_b, ↓Ok_eChain,
  ↓pk_n, ↓pk_t, ↓pk_l, ↓pks_n, ↓pks_c, ↓vk_val, ↓vk_ow, ↓rvk_val, ↓rvk_ow, ↓Ok_retV, ↓augk_val, ↓Ok_augk, ↓nk_i, ↓Ok_setIx, ↓ixk_0, ↓ixk_1, ↓ixk_2, ↓apk_ow, ↓owk_ow, ↓Ok_app, ↓ak_n, ↓ak_d, ↓ak_b, ↓gk_n, ↓gk_l, ↓gk_r, ↓zk_n, ↓zk_l, ↓zk_r, ↓sgm_z, ↓sgm_s, ↓mk2_v, ↓mk2_o, ↓ik_z, ↓ik_n, ↓ik_s, ↓uk_z, ↓uk_s, ↓rtk_rt, ↓rtk_nx, ↓nok_n, ↓nok_v, ↓nok_o,
  ↓afk_nx, ↓afk_ct, ↓afk_bk, ↓afk_rt, ↓dk_l, ↓dk_t, ↓Ok_evPn, ↓Ok_evPs, ↓Ok_cutek, ↓Ok_cutv, ↓op_cutL, ↓op_cutT, ↓Ok_wSeq, ↓rk_i, ↓Ok_wRng1, ↓Ok_wRng2, ↓Ok_wEnum, ↓Ok_wZip2, ↓Ok_wZip3, ↓Ok_wN, ↓wk_n, ↓wk_c, ↓op_isB, ↓op_isNB, ↓dkk_d, ↓vk_dki, ↓lkk_s, ↓Ok_newK, ↓Ok_dlen, ↓Ok_dsorted, ↓Ok_dget, ↓Ok_dgetD, ↓Ok_dput,
  okArg_v, okArg_o, ↓Ok_tYes, nc_0, nc_1, nc_2, nc_3, nc_4, not_true_eq_false, not_false_eq_true, isN, List.length_cons, List.length_nil, Nat.zero_add, Nat.reduceAdd, List.mem_cons, List.not_mem_nil, decide_eq_true_eq, Bool.not_eq_true', decide_eq_false_iff_not, Bool.not_true, Bool.not_false, Bool.false_eq_true, if_true, if_false, true_and, and_true, or_false, or_true, true_or, reduceCtorEq, Nat.reduceEqDiff, and_self, decide_true, decide_false, Int.reduceLT, Int.reduceLE, Int.reduceEq, Int.reduceToNat, Int.reducePow, Int.reduceAdd, Int.reduceSub, Int.reduceMul, Int.reduceNeg, Int.reduceMod, Int.reduceDiv, Nat.reduceLeDiff, Nat.reduceLT, false_or, or_self, and_false, false_and]
theorem is_samples_ret {s : Smp} (g : Sm s) : F_is_samples [.val (smD s)] = .ret (.val (.bool true)) [.val (smD s)] := by
  have l40 := g.len
  refine ret_of ?_
  unfold F_is_samples B_is_samples
  simp -implicitDefEqProofs only [List.length_map, ↓Ok_ok, ↓Ok_bind, ↓Ok_seq, ↓thenS_nx, ↓thenS_rt, ↓thenS_bk, ↓thenS_ct, ↓Ok_sIf, ↓Ok_pass, ↓Ok_ret, ↓Ok_setk, ↓Ok_park, ↓Ok_par3k, ↓Ok_drop, ↓Ok_for, ↓Ok_while, ↓Ok_unpk, ↓Ok_callk, ↓Ok_tryC, ↓Tr_x, ↓Tr_r, ↓nmk_s, ↓muk_n, ↓muk_c, ↓mu2_s, ↓mu2_v, ↓mu2_o, ↓zrk_n, ↓zrk_c, ↓rs_h, ↓rs_v, ↓rs_o, hd_v, hd_o, hd_u, mh_n, mh_c, ↓Rt_fnk,
  ↓sg_z, ↓sg_s, ↓sw_z, ↓sw_s, ↓td_val, ↓td_ow, ↓Ok_eLit, ↓kp_val, ↓kp_ow, ↓Ok_eV, ↓Ok_op1e, ↓Ok_op1v, ↓Ok_op2ee, ↓Ok_op2ve, ↓Ok_op2ev, ↓Ok_op2vv, ↓op_add, ↓op_addL, ↓op_addT, ↓op_addI, ↓op_subI, ↓op_addB, ↓op_subB, ↓op_sub, ↓op_mul, ↓op_mod, ↓op_div, ↓op_pow, ↓op_lt, ↓op_le, ↓op_gt, ↓op_ge, ↓op_eqI, ↓op_neI, ↓op_neg, ↓op_isN, ↓op_notN, ↓op_lenL, ↓op_lenT,
  ↓op_isi_i, ↓op_isi_b, ↓op_isi_l, ↓op_isi_t, ↓op_isi_n, ↓op_isi_s, ↓op_abs, ↓op_max2, ↓op_min2, ↓op_tupL, ↓op_tupT, ↓op_lstL, ↓op_lstT, ↓ix_0, ↓ix_1, ↓ix_2, ↓ix_3, ↓tx_0, ↓tx_1, ↓tx_2, ↓tx_3, ↓Ok_datum, ↓Ok_evL0, ↓Ok_evLc, ↓Ok_eTup, ↓Ok_eLst, ↓bk_b, ↓Ok_tB, ↓Ok_eB, ↓Ok_tNot, ↓Ok_tAnd, ↓Ok_tOr, ↓Ok_eAnd, ↓Ok_eOr, ↓Ok_eIf, ↓fk_i, ↓fk_b, ↓fk_n, ↓Ok_evSe, ↓Ok_evSv, ↓ck2_b, ↓Ok_eChain,
  ↓pk_n, ↓pk_t, ↓pk_l, ↓pks_n, ↓pks_c, ↓vk_val, ↓vk_ow, ↓rvk_val, ↓rvk_ow, ↓Ok_retV, ↓augk_val, ↓Ok_augk, ↓nk_i, ↓Ok_setIx, ↓ixk_0, ↓ixk_1, ↓ixk_2, ↓apk_ow, ↓owk_ow, ↓Ok_app, ↓ak_n, ↓ak_d, ↓ak_b, ↓gk_n, ↓gk_l, ↓gk_r, ↓zk_n, ↓zk_l, ↓zk_r, ↓sgm_z, ↓sgm_s, ↓mk2_v, ↓mk2_o, ↓ik_z, ↓ik_n, ↓ik_s, ↓uk_z, ↓uk_s, ↓rtk_rt, ↓rtk_nx, ↓nok_n, ↓nok_v, ↓nok_o,
  ↓afk_nx, ↓afk_ct, ↓afk_bk, ↓afk_rt, ↓dk_l, ↓dk_t, ↓Ok_evPn, ↓Ok_evPs, ↓Ok_cutek, ↓Ok_cutv, ↓op_cutL, ↓op_cutT, ↓Ok_wSeq, ↓rk_i, ↓Ok_wRng1, ↓Ok_wRng2, ↓Ok_wEnum, ↓Ok_wZip2, ↓Ok_wZip3, ↓Ok_wN, ↓wk_n, ↓wk_c, ↓op_isB, ↓op_isNB, ↓dkk_d, ↓vk_dki, ↓lkk_s, ↓Ok_newK, ↓Ok_dlen, ↓Ok_dsorted, ↓Ok_dget, ↓Ok_dgetD, ↓Ok_dput,
  okArg_v, okArg_o, ↓Ok_tYes, nc_0, nc_1, nc_2, nc_3, nc_4, not_true_eq_false, not_false_eq_true, isN, List.length_cons, List.length_nil, Nat.zero_add, Nat.reduceAdd, List.mem_cons, List.not_mem_nil, decide_eq_true_eq, Bool.not_eq_true', decide_eq_false_iff_not, Bool.not_true, Bool.not_false, Bool.false_eq_true, if_true, if_false, true_and, and_true, or_false, or_true, true_or, reduceCtorEq, Nat.reduceEqDiff, and_self, decide_true, decide_false, Int.reduceLT, Int.reduceLE, Int.reduceEq, Int.reduceToNat, Int.reducePow, Int.reduceAdd, Int.reduceSub, Int.reduceMul, Int.reduceNeg, Int.reduceMod, Int.reduceDiv, Nat.reduceLeDiff, Nat.reduceLT, false_or, or_self, and_false, false_and]
  refine iff' (by omega) ?_
  refine Ok_lcM s pqD (fun _ => .bool true) ?_
  simp -implicitDefEqProofs only [if_true, ↓Ok_ok, ↓Ok_bind, ↓Ok_seq, ↓thenS_nx, ↓thenS_rt, ↓thenS_bk, ↓thenS_ct, ↓Ok_sIf, ↓Ok_pass, ↓Ok_ret, ↓Ok_setk, ↓Ok_park, ↓Ok_par3k, ↓Ok_drop, ↓Ok_for, ↓Ok_while, ↓Ok_unpk, ↓Ok_callk, ↓Ok_tryC, ↓Tr_x, ↓Tr_r, ↓nmk_s, ↓muk_n, ↓muk_c, ↓mu2_s, ↓mu2_v, ↓mu2_o, ↓zrk_n, ↓zrk_c, ↓rs_h, ↓rs_v, ↓rs_o, hd_v, hd_o, hd_u, mh_n, mh_c, ↓Rt_fnk,
  ↓sg_z, ↓sg_s, ↓sw_z, ↓sw_s, ↓td_val, ↓td_ow, ↓Ok_eLit, ↓kp_val, ↓kp_ow, ↓Ok_eV, ↓Ok_op1e, ↓Ok_op1v, ↓Ok_op2ee, ↓Ok_op2ve, ↓Ok_op2ev, ↓Ok_op2vv, ↓op_add, ↓op_addL, ↓op_addT, ↓op_addI, ↓op_subI, ↓op_addB, ↓op_subB, ↓op_sub, ↓op_mul, ↓op_mod, ↓op_div, ↓op_pow, ↓op_lt, ↓op_le, ↓op_gt, ↓op_ge, ↓op_eqI, ↓op_neI, ↓op_neg, ↓op_isN, ↓op_notN, ↓op_lenL, ↓op_lenT,
  ↓op_isi_i, ↓op_isi_b, ↓op_isi_l, ↓op_isi_t, ↓op_isi_n, ↓op_isi_s, ↓op_abs, ↓op_max2, ↓op_min2, ↓op_tupL, ↓op_tupT, ↓op_lstL, ↓op_lstT, ↓ix_0, ↓ix_1, ↓ix_2, ↓ix_3, ↓tx_0, ↓tx_1, ↓tx_2, ↓tx_3, ↓Ok_datum, ↓Ok_evL0, ↓Ok_evLc, ↓Ok_eTup, ↓Ok_eLst, ↓bk_b, ↓Ok_tB, ↓Ok_eB, ↓Ok_tNot, ↓Ok_tAnd, ↓Ok_tOr, ↓Ok_eAnd, ↓Ok_eOr, ↓Ok_eIf, ↓fk_i, ↓fk_b, ↓fk_n, ↓Ok_evSe, ↓Ok_evSv, ↓ck2_b, ↓Ok_eChain,
  ↓pk_n, ↓pk_t, ↓pk_l, ↓pks_n, ↓pks_c, ↓vk_val, ↓vk_ow, ↓rvk_val, ↓rvk_ow, ↓Ok_retV, ↓augk_val, ↓Ok_augk, ↓nk_i, ↓Ok_setIx, ↓ixk_0, ↓ixk_1, ↓ixk_2, ↓apk_ow, ↓owk_ow, ↓Ok_app, ↓ak_n, ↓ak_d, ↓ak_b, ↓gk_n, ↓gk_l, ↓gk_r, ↓zk_n, ↓zk_l, ↓zk_r, ↓sgm_z, ↓sgm_s, ↓mk2_v, ↓mk2_o, ↓ik_z, ↓ik_n, ↓ik_s, ↓uk_z, ↓uk_s, ↓rtk_rt, ↓rtk_nx, ↓nok_n, ↓nok_v, ↓nok_o,
  ↓afk_nx, ↓afk_ct, ↓afk_bk, ↓afk_rt, ↓dk_l, ↓dk_t, ↓Ok_evPn, ↓Ok_evPs, ↓Ok_cutek, ↓Ok_cutv, ↓op_cutL, ↓op_cutT, ↓Ok_wSeq, ↓rk_i, ↓Ok_wRng1, ↓Ok_wRng2, ↓Ok_wEnum, ↓Ok_wZip2, ↓Ok_wZip3, ↓Ok_wN, ↓wk_n, ↓wk_c, ↓op_isB, ↓op_isNB, ↓dkk_d, ↓vk_dki, ↓lkk_s, ↓Ok_newK, ↓Ok_dlen, ↓Ok_dsorted, ↓Ok_dget, ↓Ok_dgetD, ↓Ok_dput,
  okArg_v, okArg_o, ↓Ok_tYes, nc_0, nc_1, nc_2, nc_3, nc_4, not_true_eq_false, not_false_eq_true, isN, List.length_cons, List.length_nil, Nat.zero_add, Nat.reduceAdd, List.mem_cons, List.not_mem_nil, decide_eq_true_eq, Bool.not_eq_true', decide_eq_false_iff_not, Bool.not_true, Bool.not_false, Bool.false_eq_true, if_true, if_false, true_and, and_true, or_false, or_true, true_or, reduceCtorEq, Nat.reduceEqDiff, and_self, decide_true, decide_false, Int.reduceLT, Int.reduceLE, Int.reduceEq, Int.reduceToNat, Int.reducePow, Int.reduceAdd, Int.reduceSub, Int.reduceMul, Int.reduceNeg, Int.reduceMod, Int.reduceDiv, Nat.reduceLeDiff, Nat.reduceLT, false_or, or_self, and_false, false_and]
  refine ⟨rfl, ⟨ckN_eq (d := smD s) rfl rfl, fun q hq => ?_⟩, ?_⟩
  · have h := g.at_ q hq
    have e := fun Q => is_sample_eq (q := q) h.1 h.2 Q
    unfold itemm
    simp -implicitDefEqProofs only [↓e, ↓Ok_ok, ↓Ok_bind, ↓Ok_seq, ↓thenS_nx, ↓thenS_rt, ↓thenS_bk, ↓thenS_ct, ↓Ok_sIf, ↓Ok_pass, ↓Ok_ret, ↓Ok_setk, ↓Ok_park, ↓Ok_par3k, ↓Ok_drop, ↓Ok_for, ↓Ok_while, ↓Ok_unpk, ↓Ok_callk, ↓Ok_tryC, ↓Tr_x, ↓Tr_r, ↓nmk_s, ↓muk_n, ↓muk_c, ↓mu2_s, ↓mu2_v, ↓mu2_o, ↓zrk_n, ↓zrk_c, ↓rs_h, ↓rs_v, ↓rs_o, hd_v, hd_o, hd_u, mh_n, mh_c, ↓Rt_fnk,
  ↓sg_z, ↓sg_s, ↓sw_z, ↓sw_s, ↓td_val, ↓td_ow, ↓Ok_eLit, ↓kp_val, ↓kp_ow, ↓Ok_eV, ↓Ok_op1e, ↓Ok_op1v, ↓Ok_op2ee, ↓Ok_op2ve, ↓Ok_op2ev, ↓Ok_op2vv, ↓op_add, ↓op_addL, ↓op_addT, ↓op_addI, ↓op_subI, ↓op_addB, ↓op_subB, ↓op_sub, ↓op_mul, ↓op_mod, ↓op_div, ↓op_pow, ↓op_lt, ↓op_le, ↓op_gt, ↓op_ge, ↓op_eqI, ↓op_neI, ↓op_neg, ↓op_isN, ↓op_notN, ↓op_lenL, ↓op_lenT,
  ↓op_isi_i, ↓op_isi_b, ↓op_isi_l, ↓op_isi_t, ↓op_isi_n, ↓op_isi_s, ↓op_abs, ↓op_max2, ↓op_min2, ↓op_tupL, ↓op_tupT, ↓op_lstL, ↓op_lstT, ↓ix_0, ↓ix_1, ↓ix_2, ↓ix_3, ↓tx_0, ↓tx_1, ↓tx_2, ↓tx_3, ↓Ok_datum, ↓Ok_evL0, ↓Ok_evLc, ↓Ok_eTup, ↓Ok_eLst, ↓bk_b, ↓Ok_tB, ↓Ok_eB, ↓Ok_tNot, ↓Ok_tAnd, ↓Ok_tOr, ↓Ok_eAnd, ↓Ok_eOr, ↓Ok_eIf, ↓fk_i, ↓fk_b, ↓fk_n, ↓Ok_evSe, ↓Ok_evSv, ↓ck2_b, ↓Ok_eChain,
  ↓pk_n, ↓pk_t, ↓pk_l, ↓pks_n, ↓pks_c, ↓vk_val, ↓vk_ow, ↓rvk_val, ↓rvk_ow, ↓Ok_retV, ↓augk_val, ↓Ok_augk, ↓nk_i, ↓Ok_setIx, ↓ixk_0, ↓ixk_1, ↓ixk_2, ↓apk_ow, ↓owk_ow, ↓Ok_app, ↓ak_n, ↓ak_d, ↓ak_b, ↓gk_n, ↓gk_l, ↓gk_r, ↓zk_n, ↓zk_l, ↓zk_r, ↓sgm_z, ↓sgm_s, ↓mk2_v, ↓mk2_o, ↓ik_z, ↓ik_n, ↓ik_s, ↓uk_z, ↓uk_s, ↓rtk_rt, ↓rtk_nx, ↓nok_n, ↓nok_v, ↓nok_o,
  ↓afk_nx, ↓afk_ct, ↓afk_bk, ↓afk_rt, ↓dk_l, ↓dk_t, ↓Ok_evPn, ↓Ok_evPs, ↓Ok_cutek, ↓Ok_cutv, ↓op_cutL, ↓op_cutT, ↓Ok_wSeq, ↓rk_i, ↓Ok_wRng1, ↓Ok_wRng2, ↓Ok_wEnum, ↓Ok_wZip2, ↓Ok_wZip3, ↓Ok_wN, ↓wk_n, ↓wk_c, ↓op_isB, ↓op_isNB, ↓dkk_d, ↓vk_dki, ↓lkk_s, ↓Ok_newK, ↓Ok_dlen, ↓Ok_dsorted, ↓Ok_dget, ↓Ok_dgetD, ↓Ok_dput,
  okArg_v, okArg_o, ↓Ok_tYes, nc_0, nc_1, nc_2, nc_3, nc_4, not_true_eq_false, not_false_eq_true, isN, List.length_cons, List.length_nil, Nat.zero_add, Nat.reduceAdd, List.mem_cons, List.not_mem_nil, decide_eq_true_eq, Bool.not_eq_true', decide_eq_false_iff_not, Bool.not_true, Bool.not_false, Bool.false_eq_true, if_true, if_false, true_and, and_true, or_false, or_true, true_or, reduceCtorEq, Nat.reduceEqDiff, and_self, decide_true, decide_false, Int.reduceLT, Int.reduceLE, Int.reduceEq, Int.reduceToNat, Int.reducePow, Int.reduceAdd, Int.reduceSub, Int.reduceMul, Int.reduceNeg, Int.reduceMod, Int.reduceDiv, Nat.reduceLeDiff, Nat.reduceLT, false_or, or_self, and_false, false_and]
  · rw [all_true]
    simp -implicitDefEqProofs only [↓op_all, ↓Ok_ok, ↓Ok_bind, ↓Ok_seq, ↓thenS_nx, ↓thenS_rt, ↓thenS_bk, ↓thenS_ct, ↓Ok_sIf, ↓Ok_pass, ↓Ok_ret, ↓Ok_setk, ↓Ok_park, ↓Ok_par3k, ↓Ok_drop, ↓Ok_for, ↓Ok_while, ↓Ok_unpk, ↓Ok_callk, ↓Ok_tryC, ↓Tr_x, ↓Tr_r, ↓nmk_s, ↓muk_n, ↓muk_c, ↓mu2_s, ↓mu2_v, ↓mu2_o, ↓zrk_n, ↓zrk_c, ↓rs_h, ↓rs_v, ↓rs_o, hd_v, hd_o, hd_u, mh_n, mh_c, ↓Rt_fnk,
  ↓sg_z, ↓sg_s, ↓sw_z, ↓sw_s, ↓td_val, ↓td_ow, ↓Ok_eLit, ↓kp_val, ↓kp_ow, ↓Ok_eV, ↓Ok_op1e, ↓Ok_op1v, ↓Ok_op2ee, ↓Ok_op2ve, ↓Ok_op2ev, ↓Ok_op2vv, ↓op_add, ↓op_addL, ↓op_addT, ↓op_addI, ↓op_subI, ↓op_addB, ↓op_subB, ↓op_sub, ↓op_mul, ↓op_mod, ↓op_div, ↓op_pow, ↓op_lt, ↓op_le, ↓op_gt, ↓op_ge, ↓op_eqI, ↓op_neI, ↓op_neg, ↓op_isN, ↓op_notN, ↓op_lenL, ↓op_lenT,
  ↓op_isi_i, ↓op_isi_b, ↓op_isi_l, ↓op_isi_t, ↓op_isi_n, ↓op_isi_s, ↓op_abs, ↓op_max2, ↓op_min2, ↓op_tupL, ↓op_tupT, ↓op_lstL, ↓op_lstT, ↓ix_0, ↓ix_1, ↓ix_2, ↓ix_3, ↓tx_0, ↓tx_1, ↓tx_2, ↓tx_3, ↓Ok_datum, ↓Ok_evL0, ↓Ok_evLc, ↓Ok_eTup, ↓Ok_eLst, ↓bk_b, ↓Ok_tB, ↓Ok_eB, ↓Ok_tNot, ↓Ok_tAnd, ↓Ok_tOr, ↓Ok_eAnd, ↓Ok_eOr, ↓Ok_eIf, ↓fk_i, ↓fk_b, ↓fk_n, ↓Ok_evSe, ↓Ok_evSv, ↓ck2_b, ↓Ok_eChain,
  ↓pk_n, ↓pk_t, ↓pk_l, ↓pks_n, ↓pks_c, ↓vk_val, ↓vk_ow, ↓rvk_val, ↓rvk_ow, ↓Ok_retV, ↓augk_val, ↓Ok_augk, ↓nk_i, ↓Ok_setIx, ↓ixk_0, ↓ixk_1, ↓ixk_2, ↓apk_ow, ↓owk_ow, ↓Ok_app, ↓ak_n, ↓ak_d, ↓ak_b, ↓gk_n, ↓gk_l, ↓gk_r, ↓zk_n, ↓zk_l, ↓zk_r, ↓sgm_z, ↓sgm_s, ↓mk2_v, ↓mk2_o, ↓ik_z, ↓ik_n, ↓ik_s, ↓uk_z, ↓uk_s, ↓rtk_rt, ↓rtk_nx, ↓nok_n, ↓nok_v, ↓nok_o,
  ↓afk_nx, ↓afk_ct, ↓afk_bk, ↓afk_rt, ↓dk_l, ↓dk_t, ↓Ok_evPn, ↓Ok_evPs, ↓Ok_cutek, ↓Ok_cutv, ↓op_cutL, ↓op_cutT, ↓Ok_wSeq, ↓rk_i, ↓Ok_wRng1, ↓Ok_wRng2, ↓Ok_wEnum, ↓Ok_wZip2, ↓Ok_wZip3, ↓Ok_wN, ↓wk_n, ↓wk_c, ↓op_isB, ↓op_isNB, ↓dkk_d, ↓vk_dki, ↓lkk_s, ↓Ok_newK, ↓Ok_dlen, ↓Ok_dsorted, ↓Ok_dget, ↓Ok_dgetD, ↓Ok_dput,
  okArg_v, okArg_o, ↓Ok_tYes, nc_0, nc_1, nc_2, nc_3, nc_4, not_true_eq_false, not_false_eq_true, isN, List.length_cons, List.length_nil, Nat.zero_add, Nat.reduceAdd, List.mem_cons, List.not_mem_nil, decide_eq_true_eq, Bool.not_eq_true', decide_eq_false_iff_not, Bool.not_true, Bool.not_false, Bool.false_eq_true, if_true, if_false, true_and, and_true, or_false, or_true, true_or, reduceCtorEq, Nat.reduceEqDiff, and_self, decide_true, decide_false, Int.reduceLT, Int.reduceLE, Int.reduceEq, Int.reduceToNat, Int.reducePow, Int.reduceAdd, Int.reduceSub, Int.reduceMul, Int.reduceNeg, Int.reduceMod, Int.reduceDiv, Nat.reduceLeDiff, Nat.reduceLT, false_or, or_self, and_false, false_and]
    refine iff' (by simp) ?_
    refine Ok_lcM (prs s) (fun q => .tuple [pqD q.1, pqD q.2]) (fun _ => .bool true) ?_
    simp -implicitDefEqProofs only [if_true, ↓Ok_ok, ↓Ok_bind, ↓Ok_seq, ↓thenS_nx, ↓thenS_rt, ↓thenS_bk, ↓thenS_ct, ↓Ok_sIf, ↓Ok_pass, ↓Ok_ret, ↓Ok_setk, ↓Ok_park, ↓Ok_par3k, ↓Ok_drop, ↓Ok_for, ↓Ok_while, ↓Ok_unpk, ↓Ok_callk, ↓Ok_tryC, ↓Tr_x, ↓Tr_r, ↓nmk_s, ↓muk_n, ↓muk_c, ↓mu2_s, ↓mu2_v, ↓mu2_o, ↓zrk_n, ↓zrk_c, ↓rs_h, ↓rs_v, ↓rs_o, hd_v, hd_o, hd_u, mh_n, mh_c, ↓Rt_fnk,
  ↓sg_z, ↓sg_s, ↓sw_z, ↓sw_s, ↓td_val, ↓td_ow, ↓Ok_eLit, ↓kp_val, ↓kp_ow, ↓Ok_eV, ↓Ok_op1e, ↓Ok_op1v, ↓Ok_op2ee, ↓Ok_op2ve, ↓Ok_op2ev, ↓Ok_op2vv, ↓op_add, ↓op_addL, ↓op_addT, ↓op_addI, ↓op_subI, ↓op_addB, ↓op_subB, ↓op_sub, ↓op_mul, ↓op_mod, ↓op_div, ↓op_pow, ↓op_lt, ↓op_le, ↓op_gt, ↓op_ge, ↓op_eqI, ↓op_neI, ↓op_neg, ↓op_isN, ↓op_notN, ↓op_lenL, ↓op_lenT,
  ↓op_isi_i, ↓op_isi_b, ↓op_isi_l, ↓op_isi_t, ↓op_isi_n, ↓op_isi_s, ↓op_abs, ↓op_max2, ↓op_min2, ↓op_tupL, ↓op_tupT, ↓op_lstL, ↓op_lstT, ↓ix_0, ↓ix_1, ↓ix_2, ↓ix_3, ↓tx_0, ↓tx_1, ↓tx_2, ↓tx_3, ↓Ok_datum, ↓Ok_evL0, ↓Ok_evLc, ↓Ok_eTup, ↓Ok_eLst, ↓bk_b, ↓Ok_tB, ↓Ok_eB, ↓Ok_tNot, ↓Ok_tAnd, ↓Ok_tOr, ↓Ok_eAnd, ↓Ok_eOr, ↓Ok_eIf, ↓fk_i, ↓fk_b, ↓fk_n, ↓Ok_evSe, ↓Ok_evSv, ↓ck2_b, ↓Ok_eChain,
  ↓pk_n, ↓pk_t, ↓pk_l, ↓pks_n, ↓pks_c, ↓vk_val, ↓vk_ow, ↓rvk_val, ↓rvk_ow, ↓Ok_retV, ↓augk_val, ↓Ok_augk, ↓nk_i, ↓Ok_setIx, ↓ixk_0, ↓ixk_1, ↓ixk_2, ↓apk_ow, ↓owk_ow, ↓Ok_app, ↓ak_n, ↓ak_d, ↓ak_b, ↓gk_n, ↓gk_l, ↓gk_r, ↓zk_n, ↓zk_l, ↓zk_r, ↓sgm_z, ↓sgm_s, ↓mk2_v, ↓mk2_o, ↓ik_z, ↓ik_n, ↓ik_s, ↓uk_z, ↓uk_s, ↓rtk_rt, ↓rtk_nx, ↓nok_n, ↓nok_v, ↓nok_o,
  ↓afk_nx, ↓afk_ct, ↓afk_bk, ↓afk_rt, ↓dk_l, ↓dk_t, ↓Ok_evPn, ↓Ok_evPs, ↓Ok_cutek, ↓Ok_cutv, ↓op_cutL, ↓op_cutT, ↓Ok_wSeq, ↓rk_i, ↓Ok_wRng1, ↓Ok_wRng2, ↓Ok_wEnum, ↓Ok_wZip2, ↓Ok_wZip3, ↓Ok_wN, ↓wk_n, ↓wk_c, ↓op_isB, ↓op_isNB, ↓dkk_d, ↓vk_dki, ↓lkk_s, ↓Ok_newK, ↓Ok_dlen, ↓Ok_dsorted, ↓Ok_dget, ↓Ok_dgetD, ↓Ok_dput,
  okArg_v, okArg_o, ↓Ok_tYes, nc_0, nc_1, nc_2, nc_3, nc_4, not_true_eq_false, not_false_eq_true, isN, List.length_cons, List.length_nil, Nat.zero_add, Nat.reduceAdd, List.mem_cons, List.not_mem_nil, decide_eq_true_eq, Bool.not_eq_true', decide_eq_false_iff_not, Bool.not_true, Bool.not_false, Bool.false_eq_true, if_true, if_false, true_and, and_true, or_false, or_true, true_or, reduceCtorEq, Nat.reduceEqDiff, and_self, decide_true, decide_false, Int.reduceLT, Int.reduceLE, Int.reduceEq, Int.reduceToNat, Int.reducePow, Int.reduceAdd, Int.reduceSub, Int.reduceMul, Int.reduceNeg, Int.reduceMod, Int.reduceDiv, Nat.reduceLeDiff, Nat.reduceLT, false_or, or_self, and_false, false_and]
    refine ⟨zip2_cut pqD s, ⟨ckT_eq.mpr trivial, fun q hq => ?_⟩, ?_⟩
    · have := prs_asc g.asc q hq
      unfold itemm pqD
      simp -implicitDefEqProofs only [this, ↓Ok_ok, ↓Ok_bind, ↓Ok_seq, ↓thenS_nx, ↓thenS_rt, ↓thenS_bk, ↓thenS_ct, ↓Ok_sIf, ↓Ok_pass, ↓Ok_ret, ↓Ok_setk, ↓Ok_park, ↓Ok_par3k, ↓Ok_drop, ↓Ok_for, ↓Ok_while, ↓Ok_unpk, ↓Ok_callk, ↓Ok_tryC, ↓Tr_x, ↓Tr_r, ↓nmk_s, ↓muk_n, ↓muk_c, ↓mu2_s, ↓mu2_v, ↓mu2_o, ↓zrk_n, ↓zrk_c, ↓rs_h, ↓rs_v, ↓rs_o, hd_v, hd_o, hd_u, mh_n, mh_c, ↓Rt_fnk,
  ↓sg_z, ↓sg_s, ↓sw_z, ↓sw_s, ↓td_val, ↓td_ow, ↓Ok_eLit, ↓kp_val, ↓kp_ow, ↓Ok_eV, ↓Ok_op1e, ↓Ok_op1v, ↓Ok_op2ee, ↓Ok_op2ve, ↓Ok_op2ev, ↓Ok_op2vv, ↓op_add, ↓op_addL, ↓op_addT, ↓op_addI, ↓op_subI, ↓op_addB, ↓op_subB, ↓op_sub, ↓op_mul, ↓op_mod, ↓op_div, ↓op_pow, ↓op_lt, ↓op_le, ↓op_gt, ↓op_ge, ↓op_eqI, ↓op_neI, ↓op_neg, ↓op_isN, ↓op_notN, ↓op_lenL, ↓op_lenT,
  ↓op_isi_i, ↓op_isi_b, ↓op_isi_l, ↓op_isi_t, ↓op_isi_n, ↓op_isi_s, ↓op_abs, ↓op_max2, ↓op_min2, ↓op_tupL, ↓op_tupT, ↓op_lstL, ↓op_lstT, ↓ix_0, ↓ix_1, ↓ix_2, ↓ix_3, ↓tx_0, ↓tx_1, ↓tx_2, ↓tx_3, ↓Ok_datum, ↓Ok_evL0, ↓Ok_evLc, ↓Ok_eTup, ↓Ok_eLst, ↓bk_b, ↓Ok_tB, ↓Ok_eB, ↓Ok_tNot, ↓Ok_tAnd, ↓Ok_tOr, ↓Ok_eAnd, ↓Ok_eOr, ↓Ok_eIf, ↓fk_i, ↓fk_b, ↓fk_n, ↓Ok_evSe, ↓Ok_evSv, ↓ck2_b, ↓Ok_eChain,
  ↓pk_n, ↓pk_t, ↓pk_l, ↓pks_n, ↓pks_c, ↓vk_val, ↓vk_ow, ↓rvk_val, ↓rvk_ow, ↓Ok_retV, ↓augk_val, ↓Ok_augk, ↓nk_i, ↓Ok_setIx, ↓ixk_0, ↓ixk_1, ↓ixk_2, ↓apk_ow, ↓owk_ow, ↓Ok_app, ↓ak_n, ↓ak_d, ↓ak_b, ↓gk_n, ↓gk_l, ↓gk_r, ↓zk_n, ↓zk_l, ↓zk_r, ↓sgm_z, ↓sgm_s, ↓mk2_v, ↓mk2_o, ↓ik_z, ↓ik_n, ↓ik_s, ↓uk_z, ↓uk_s, ↓rtk_rt, ↓rtk_nx, ↓nok_n, ↓nok_v, ↓nok_o,
  ↓afk_nx, ↓afk_ct, ↓afk_bk, ↓afk_rt, ↓dk_l, ↓dk_t, ↓Ok_evPn, ↓Ok_evPs, ↓Ok_cutek, ↓Ok_cutv, ↓op_cutL, ↓op_cutT, ↓Ok_wSeq, ↓rk_i, ↓Ok_wRng1, ↓Ok_wRng2, ↓Ok_wEnum, ↓Ok_wZip2, ↓Ok_wZip3, ↓Ok_wN, ↓wk_n, ↓wk_c, ↓op_isB, ↓op_isNB, ↓dkk_d, ↓vk_dki, ↓lkk_s, ↓Ok_newK, ↓Ok_dlen, ↓Ok_dsorted, ↓Ok_dget, ↓Ok_dgetD, ↓Ok_dput,
  okArg_v, okArg_o, ↓Ok_tYes, nc_0, nc_1, nc_2, nc_3, nc_4, not_true_eq_false, not_false_eq_true, isN, List.length_cons, List.length_nil, Nat.zero_add, Nat.reduceAdd, List.mem_cons, List.not_mem_nil, decide_eq_true_eq, Bool.not_eq_true', decide_eq_false_iff_not, Bool.not_true, Bool.not_false, Bool.false_eq_true, if_true, if_false, true_and, and_true, or_false, or_true, true_or, reduceCtorEq, Nat.reduceEqDiff, and_self, decide_true, decide_false, Int.reduceLT, Int.reduceLE, Int.reduceEq, Int.reduceToNat, Int.reducePow, Int.reduceAdd, Int.reduceSub, Int.reduceMul, Int.reduceNeg, Int.reduceMod, Int.reduceDiv, Nat.reduceLeDiff, Nat.reduceLT, false_or, or_self, and_false, false_and]
    · rw [all_true]
      simp -implicitDefEqProofs only [↓op_all, ↓Ok_ok, ↓Ok_bind, ↓Ok_seq, ↓thenS_nx, ↓thenS_rt, ↓thenS_bk, ↓thenS_ct, ↓Ok_sIf, ↓Ok_pass, ↓Ok_ret, ↓Ok_setk, ↓Ok_park, ↓Ok_par3k, ↓Ok_drop, ↓Ok_for, ↓Ok_while, ↓Ok_unpk, ↓Ok_callk, ↓Ok_tryC, ↓Tr_x, ↓Tr_r, ↓nmk_s, ↓muk_n, ↓muk_c, ↓mu2_s, ↓mu2_v, ↓mu2_o, ↓zrk_n, ↓zrk_c, ↓rs_h, ↓rs_v, ↓rs_o, hd_v, hd_o, hd_u, mh_n, mh_c, ↓Rt_fnk,
  ↓sg_z, ↓sg_s, ↓sw_z, ↓sw_s, ↓td_val, ↓td_ow, ↓Ok_eLit, ↓kp_val, ↓kp_ow, ↓Ok_eV, ↓Ok_op1e, ↓Ok_op1v, ↓Ok_op2ee, ↓Ok_op2ve, ↓Ok_op2ev, ↓Ok_op2vv, ↓op_add, ↓op_addL, ↓op_addT, ↓op_addI, ↓op_subI, ↓op_addB, ↓op_subB, ↓op_sub, ↓op_mul, ↓op_mod, ↓op_div, ↓op_pow, ↓op_lt, ↓op_le, ↓op_gt, ↓op_ge, ↓op_eqI, ↓op_neI, ↓op_neg, ↓op_isN, ↓op_notN, ↓op_lenL, ↓op_lenT,
  ↓op_isi_i, ↓op_isi_b, ↓op_isi_l, ↓op_isi_t, ↓op_isi_n, ↓op_isi_s, ↓op_abs, ↓op_max2, ↓op_min2, ↓op_tupL, ↓op_tupT, ↓op_lstL, ↓op_lstT, ↓ix_0, ↓ix_1, ↓ix_2, ↓ix_3, ↓tx_0, ↓tx_1, ↓tx_2, ↓tx_3, ↓Ok_datum, ↓Ok_evL0, ↓Ok_evLc, ↓Ok_eTup, ↓Ok_eLst, ↓bk_b, ↓Ok_tB, ↓Ok_eB, ↓Ok_tNot, ↓Ok_tAnd, ↓Ok_tOr, ↓Ok_eAnd, ↓Ok_eOr, ↓Ok_eIf, ↓fk_i, ↓fk_b, ↓fk_n, ↓Ok_evSe, ↓Ok_evSv, ↓ck2_b, ↓Ok_eChain,
  ↓pk_n, ↓pk_t, ↓pk_l, ↓pks_n, ↓pks_c, ↓vk_val, ↓vk_ow, ↓rvk_val, ↓rvk_ow, ↓Ok_retV, ↓augk_val, ↓Ok_augk, ↓nk_i, ↓Ok_setIx, ↓ixk_0, ↓ixk_1, ↓ixk_2, ↓apk_ow, ↓owk_ow, ↓Ok_app, ↓ak_n, ↓ak_d, ↓ak_b, ↓gk_n, ↓gk_l, ↓gk_r, ↓zk_n, ↓zk_l, ↓zk_r, ↓sgm_z, ↓sgm_s, ↓mk2_v, ↓mk2_o, ↓ik_z, ↓ik_n, ↓ik_s, ↓uk_z, ↓uk_s, ↓rtk_rt, ↓rtk_nx, ↓nok_n, ↓nok_v, ↓nok_o,
  ↓afk_nx, ↓afk_ct, ↓afk_bk, ↓afk_rt, ↓dk_l, ↓dk_t, ↓Ok_evPn, ↓Ok_evPs, ↓Ok_cutek, ↓Ok_cutv, ↓op_cutL, ↓op_cutT, ↓Ok_wSeq, ↓rk_i, ↓Ok_wRng1, ↓Ok_wRng2, ↓Ok_wEnum, ↓Ok_wZip2, ↓Ok_wZip3, ↓Ok_wN, ↓wk_n, ↓wk_c, ↓op_isB, ↓op_isNB, ↓dkk_d, ↓vk_dki, ↓lkk_s, ↓Ok_newK, ↓Ok_dlen, ↓Ok_dsorted, ↓Ok_dget, ↓Ok_dgetD, ↓Ok_dput,
  okArg_v, okArg_o, ↓Ok_tYes, nc_0, nc_1, nc_2, nc_3, nc_4, not_true_eq_false, not_false_eq_true, isN, List.length_cons, List.length_nil, Nat.zero_add, Nat.reduceAdd, List.mem_cons, List.not_mem_nil, decide_eq_true_eq, Bool.not_eq_true', decide_eq_false_iff_not, Bool.not_true, Bool.not_false, Bool.false_eq_true, if_true, if_false, true_and, and_true, or_false, or_true, true_or, reduceCtorEq, Nat.reduceEqDiff, and_self, decide_true, decide_false, Int.reduceLT, Int.reduceLE, Int.reduceEq, Int.reduceToNat, Int.reducePow, Int.reduceAdd, Int.reduceSub, Int.reduceMul, Int.reduceNeg, Int.reduceMod, Int.reduceDiv, Nat.reduceLeDiff, Nat.reduceLT, false_or, or_self, and_false, false_and]
      simp
theorem need_s {s : Smp} (g : Sm s) (Q : Sv → Sl → Prop) : Rt (F_need_samples [.val (smD s)]) Q = Q (.val .none) [.val (smD s)] := by
  have h := fun Q => Rt_eq (Q := Q) (is_samples_ret g)
  refine Rt_eq (ret_of ?_)
  unfold F_need_samples B_need_samples
  simp -implicitDefEqProofs only [↓h, ↓Ok_ok, ↓Ok_bind, ↓Ok_seq, ↓thenS_nx, ↓thenS_rt, ↓thenS_bk, ↓thenS_ct, ↓Ok_sIf, ↓Ok_pass, ↓Ok_ret, ↓Ok_setk, ↓Ok_park, ↓Ok_par3k, ↓Ok_drop, ↓Ok_for, ↓Ok_while, ↓Ok_unpk, ↓Ok_callk, ↓Ok_tryC, ↓Tr_x, ↓Tr_r, ↓nmk_s, ↓muk_n, ↓muk_c, ↓mu2_s, ↓mu2_v, ↓mu2_o, ↓zrk_n, ↓zrk_c, ↓rs_h, ↓rs_v, ↓rs_o, hd_v, hd_o, hd_u, mh_n, mh_c, ↓Rt_fnk,
  ↓sg_z, ↓sg_s, ↓sw_z, ↓sw_s, ↓td_val, ↓td_ow, ↓Ok_eLit, ↓kp_val, ↓kp_ow, ↓Ok_eV, ↓Ok_op1e, ↓Ok_op1v, ↓Ok_op2ee, ↓Ok_op2ve, ↓Ok_op2ev, ↓Ok_op2vv, ↓op_add, ↓op_addL, ↓op_addT, ↓op_addI, ↓op_subI, ↓op_addB, ↓op_subB, ↓op_sub, ↓op_mul, ↓op_mod, ↓op_div, ↓op_pow, ↓op_lt, ↓op_le, ↓op_gt, ↓op_ge, ↓op_eqI, ↓op_neI, ↓op_neg, ↓op_isN, ↓op_notN, ↓op_lenL, ↓op_lenT,
  ↓op_isi_i, ↓op_isi_b, ↓op_isi_l, ↓op_isi_t, ↓op_isi_n, ↓op_isi_s, ↓op_abs, ↓op_max2, ↓op_min2, ↓op_tupL, ↓op_tupT, ↓op_lstL, ↓op_lstT, ↓ix_0, ↓ix_1, ↓ix_2, ↓ix_3, ↓tx_0, ↓tx_1, ↓tx_2, ↓tx_3, ↓Ok_datum, ↓Ok_evL0, ↓Ok_evLc, ↓Ok_eTup, ↓Ok_eLst, ↓bk_b, ↓Ok_tB, ↓Ok_eB, ↓Ok_tNot, ↓Ok_tAnd, ↓Ok_tOr, ↓Ok_eAnd, ↓Ok_eOr, ↓Ok_eIf, ↓fk_i, ↓fk_b, ↓fk_n, ↓Ok_evSe, ↓Ok_evSv, ↓ck2_b, ↓Ok_eChain,
  ↓pk_n, ↓pk_t, ↓pk_l, ↓pks_n, ↓pks_c, ↓vk_val, ↓vk_ow, ↓rvk_val, ↓rvk_ow, ↓Ok_retV, ↓augk_val, ↓Ok_augk, ↓nk_i, ↓Ok_setIx, ↓ixk_0, ↓ixk_1, ↓ixk_2, ↓apk_ow, ↓owk_ow, ↓Ok_app, ↓ak_n, ↓ak_d, ↓ak_b, ↓gk_n, ↓gk_l, ↓gk_r, ↓zk_n, ↓zk_l, ↓zk_r, ↓sgm_z, ↓sgm_s, ↓mk2_v, ↓mk2_o, ↓ik_z, ↓ik_n, ↓ik_s, ↓uk_z, ↓uk_s, ↓rtk_rt, ↓rtk_nx, ↓nok_n, ↓nok_v, ↓nok_o,
  ↓afk_nx, ↓afk_ct, ↓afk_bk, ↓afk_rt, ↓dk_l, ↓dk_t, ↓Ok_evPn, ↓Ok_evPs, ↓Ok_cutek, ↓Ok_cutv, ↓op_cutL, ↓op_cutT, ↓Ok_wSeq, ↓rk_i, ↓Ok_wRng1, ↓Ok_wRng2, ↓Ok_wEnum, ↓Ok_wZip2, ↓Ok_wZip3, ↓Ok_wN, ↓wk_n, ↓wk_c, ↓op_isB, ↓op_isNB, ↓dkk_d, ↓vk_dki, ↓lkk_s, ↓Ok_newK, ↓Ok_dlen, ↓Ok_dsorted, ↓Ok_dget, ↓Ok_dgetD, ↓Ok_dput,
  okArg_v, okArg_o, ↓Ok_tYes, nc_0, nc_1, nc_2, nc_3, nc_4, not_true_eq_false, not_false_eq_true, isN, List.length_cons, List.length_nil, Nat.zero_add, Nat.reduceAdd, List.mem_cons, List.not_mem_nil, decide_eq_true_eq, Bool.not_eq_true', decide_eq_false_iff_not, Bool.not_true, Bool.not_false, Bool.false_eq_true, if_true, if_false, true_and, and_true, or_false, or_true, true_or, reduceCtorEq, Nat.reduceEqDiff, and_self, decide_true, decide_false, Int.reduceLT, Int.reduceLE, Int.reduceEq, Int.reduceToNat, Int.reducePow, Int.reduceAdd, Int.reduceSub, Int.reduceMul, Int.reduceNeg, Int.reduceMod, Int.reduceDiv, Nat.reduceLeDiff, Nat.reduceLT, false_or, or_self, and_false, false_and]
theorem values_rt (s : Smp) (Q : Sv → Sl → Prop) : Rt (F_values_of [.val (smD s)]) Q = Q (.ow ((vals s).map PyData.int)) [.val (smD s)] := by
  refine Rt_eq (ret_of ?_)
  unfold F_values_of B_values_of
  simp -implicitDefEqProofs only [if_true, ↓Ok_ok, ↓Ok_bind, ↓Ok_seq, ↓thenS_nx, ↓thenS_rt, ↓thenS_bk, ↓thenS_ct, ↓Ok_sIf, ↓Ok_pass, ↓Ok_ret, ↓Ok_setk, ↓Ok_park, ↓Ok_par3k, ↓Ok_drop, ↓Ok_for, ↓Ok_while, ↓Ok_unpk, ↓Ok_callk, ↓Ok_tryC, ↓Tr_x, ↓Tr_r, ↓nmk_s, ↓muk_n, ↓muk_c, ↓mu2_s, ↓mu2_v, ↓mu2_o, ↓zrk_n, ↓zrk_c, ↓rs_h, ↓rs_v, ↓rs_o, hd_v, hd_o, hd_u, mh_n, mh_c, ↓Rt_fnk,
  ↓sg_z, ↓sg_s, ↓sw_z, ↓sw_s, ↓td_val, ↓td_ow, ↓Ok_eLit, ↓kp_val, ↓kp_ow, ↓Ok_eV, ↓Ok_op1e, ↓Ok_op1v, ↓Ok_op2ee, ↓Ok_op2ve, ↓Ok_op2ev, ↓Ok_op2vv, ↓op_add, ↓op_addL, ↓op_addT, ↓op_addI, ↓op_subI, ↓op_addB, ↓op_subB, ↓op_sub, ↓op_mul, ↓op_mod, ↓op_div, ↓op_pow, ↓op_lt, ↓op_le, ↓op_gt, ↓op_ge, ↓op_eqI, ↓op_neI, ↓op_neg, ↓op_isN, ↓op_notN, ↓op_lenL, ↓op_lenT,
  ↓op_isi_i, ↓op_isi_b, ↓op_isi_l, ↓op_isi_t, ↓op_isi_n, ↓op_isi_s, ↓op_abs, ↓op_max2, ↓op_min2, ↓op_tupL, ↓op_tupT, ↓op_lstL, ↓op_lstT, ↓ix_0, ↓ix_1, ↓ix_2, ↓ix_3, ↓tx_0, ↓tx_1, ↓tx_2, ↓tx_3, ↓Ok_datum, ↓Ok_evL0, ↓Ok_evLc, ↓Ok_eTup, ↓Ok_eLst, ↓bk_b, ↓Ok_tB, ↓Ok_eB, ↓Ok_tNot, ↓Ok_tAnd, ↓Ok_tOr, ↓Ok_eAnd, ↓Ok_eOr, ↓Ok_eIf, ↓fk_i, ↓fk_b, ↓fk_n, ↓Ok_evSe, ↓Ok_evSv, ↓ck2_b, ↓Ok_eChain,
  ↓pk_n, ↓pk_t, ↓pk_l, ↓pks_n, ↓pks_c, ↓vk_val, ↓vk_ow, ↓rvk_val, ↓rvk_ow, ↓Ok_retV, ↓augk_val, ↓Ok_augk, ↓nk_i, ↓Ok_setIx, ↓ixk_0, ↓ixk_1, ↓ixk_2, ↓apk_ow, ↓owk_ow, ↓Ok_app, ↓ak_n, ↓ak_d, ↓ak_b, ↓gk_n, ↓gk_l, ↓gk_r, ↓zk_n, ↓zk_l, ↓zk_r, ↓sgm_z, ↓sgm_s, ↓mk2_v, ↓mk2_o, ↓ik_z, ↓ik_n, ↓ik_s, ↓uk_z, ↓uk_s, ↓rtk_rt, ↓rtk_nx, ↓nok_n, ↓nok_v, ↓nok_o,
  ↓afk_nx, ↓afk_ct, ↓afk_bk, ↓afk_rt, ↓dk_l, ↓dk_t, ↓Ok_evPn, ↓Ok_evPs, ↓Ok_cutek, ↓Ok_cutv, ↓op_cutL, ↓op_cutT, ↓Ok_wSeq, ↓rk_i, ↓Ok_wRng1, ↓Ok_wRng2, ↓Ok_wEnum, ↓Ok_wZip2, ↓Ok_wZip3, ↓Ok_wN, ↓wk_n, ↓wk_c, ↓op_isB, ↓op_isNB, ↓dkk_d, ↓vk_dki, ↓lkk_s, ↓Ok_newK, ↓Ok_dlen, ↓Ok_dsorted, ↓Ok_dget, ↓Ok_dgetD, ↓Ok_dput,
  okArg_v, okArg_o, ↓Ok_tYes, nc_0, nc_1, nc_2, nc_3, nc_4, not_true_eq_false, not_false_eq_true, isN, List.length_cons, List.length_nil, Nat.zero_add, Nat.reduceAdd, List.mem_cons, List.not_mem_nil, decide_eq_true_eq, Bool.not_eq_true', decide_eq_false_iff_not, Bool.not_true, Bool.not_false, Bool.false_eq_true, if_true, if_false, true_and, and_true, or_false, or_true, true_or, reduceCtorEq, Nat.reduceEqDiff, and_self, decide_true, decide_false, Int.reduceLT, Int.reduceLE, Int.reduceEq, Int.reduceToNat, Int.reducePow, Int.reduceAdd, Int.reduceSub, Int.reduceMul, Int.reduceNeg, Int.reduceMod, Int.reduceDiv, Nat.reduceLeDiff, Nat.reduceLT, false_or, or_self, and_false, false_and]
  refine Ok_lcM s pqD (fun q => .int q.2) ?_
  simp -implicitDefEqProofs only [if_true, ↓Ok_ok, ↓Ok_bind, ↓Ok_seq, ↓thenS_nx, ↓thenS_rt, ↓thenS_bk, ↓thenS_ct, ↓Ok_sIf, ↓Ok_pass, ↓Ok_ret, ↓Ok_setk, ↓Ok_park, ↓Ok_par3k, ↓Ok_drop, ↓Ok_for, ↓Ok_while, ↓Ok_unpk, ↓Ok_callk, ↓Ok_tryC, ↓Tr_x, ↓Tr_r, ↓nmk_s, ↓muk_n, ↓muk_c, ↓mu2_s, ↓mu2_v, ↓mu2_o, ↓zrk_n, ↓zrk_c, ↓rs_h, ↓rs_v, ↓rs_o, hd_v, hd_o, hd_u, mh_n, mh_c, ↓Rt_fnk,
  ↓sg_z, ↓sg_s, ↓sw_z, ↓sw_s, ↓td_val, ↓td_ow, ↓Ok_eLit, ↓kp_val, ↓kp_ow, ↓Ok_eV, ↓Ok_op1e, ↓Ok_op1v, ↓Ok_op2ee, ↓Ok_op2ve, ↓Ok_op2ev, ↓Ok_op2vv, ↓op_add, ↓op_addL, ↓op_addT, ↓op_addI, ↓op_subI, ↓op_addB, ↓op_subB, ↓op_sub, ↓op_mul, ↓op_mod, ↓op_div, ↓op_pow, ↓op_lt, ↓op_le, ↓op_gt, ↓op_ge, ↓op_eqI, ↓op_neI, ↓op_neg, ↓op_isN, ↓op_notN, ↓op_lenL, ↓op_lenT,
  ↓op_isi_i, ↓op_isi_b, ↓op_isi_l, ↓op_isi_t, ↓op_isi_n, ↓op_isi_s, ↓op_abs, ↓op_max2, ↓op_min2, ↓op_tupL, ↓op_tupT, ↓op_lstL, ↓op_lstT, ↓ix_0, ↓ix_1, ↓ix_2, ↓ix_3, ↓tx_0, ↓tx_1, ↓tx_2, ↓tx_3, ↓Ok_datum, ↓Ok_evL0, ↓Ok_evLc, ↓Ok_eTup, ↓Ok_eLst, ↓bk_b, ↓Ok_tB, ↓Ok_eB, ↓Ok_tNot, ↓Ok_tAnd, ↓Ok_tOr, ↓Ok_eAnd, ↓Ok_eOr, ↓Ok_eIf, ↓fk_i, ↓fk_b, ↓fk_n, ↓Ok_evSe, ↓Ok_evSv, ↓ck2_b, ↓Ok_eChain,
  ↓pk_n, ↓pk_t, ↓pk_l, ↓pks_n, ↓pks_c, ↓vk_val, ↓vk_ow, ↓rvk_val, ↓rvk_ow, ↓Ok_retV, ↓augk_val, ↓Ok_augk, ↓nk_i, ↓Ok_setIx, ↓ixk_0, ↓ixk_1, ↓ixk_2, ↓apk_ow, ↓owk_ow, ↓Ok_app, ↓ak_n, ↓ak_d, ↓ak_b, ↓gk_n, ↓gk_l, ↓gk_r, ↓zk_n, ↓zk_l, ↓zk_r, ↓sgm_z, ↓sgm_s, ↓mk2_v, ↓mk2_o, ↓ik_z, ↓ik_n, ↓ik_s, ↓uk_z, ↓uk_s, ↓rtk_rt, ↓rtk_nx, ↓nok_n, ↓nok_v, ↓nok_o,
  ↓afk_nx, ↓afk_ct, ↓afk_bk, ↓afk_rt, ↓dk_l, ↓dk_t, ↓Ok_evPn, ↓Ok_evPs, ↓Ok_cutek, ↓Ok_cutv, ↓op_cutL, ↓op_cutT, ↓Ok_wSeq, ↓rk_i, ↓Ok_wRng1, ↓Ok_wRng2, ↓Ok_wEnum, ↓Ok_wZip2, ↓Ok_wZip3, ↓Ok_wN, ↓wk_n, ↓wk_c, ↓op_isB, ↓op_isNB, ↓dkk_d, ↓vk_dki, ↓lkk_s, ↓Ok_newK, ↓Ok_dlen, ↓Ok_dsorted, ↓Ok_dget, ↓Ok_dgetD, ↓Ok_dput,
  okArg_v, okArg_o, ↓Ok_tYes, nc_0, nc_1, nc_2, nc_3, nc_4, not_true_eq_false, not_false_eq_true, isN, List.length_cons, List.length_nil, Nat.zero_add, Nat.reduceAdd, List.mem_cons, List.not_mem_nil, decide_eq_true_eq, Bool.not_eq_true', decide_eq_false_iff_not, Bool.not_true, Bool.not_false, Bool.false_eq_true, if_true, if_false, true_and, and_true, or_false, or_true, true_or, reduceCtorEq, Nat.reduceEqDiff, and_self, decide_true, decide_false, Int.reduceLT, Int.reduceLE, Int.reduceEq, Int.reduceToNat, Int.reducePow, Int.reduceAdd, Int.reduceSub, Int.reduceMul, Int.reduceNeg, Int.reduceMod, Int.reduceDiv, Nat.reduceLeDiff, Nat.reduceLT, false_or, or_self, and_false, false_and]
  refine ⟨rfl, ⟨ckN_eq (d := smD s) rfl rfl, fun q hq => ?_⟩, ?_⟩
  · unfold itemm pqD
    simp -implicitDefEqProofs only [if_true, ↓Ok_ok, ↓Ok_bind, ↓Ok_seq, ↓thenS_nx, ↓thenS_rt, ↓thenS_bk, ↓thenS_ct, ↓Ok_sIf, ↓Ok_pass, ↓Ok_ret, ↓Ok_setk, ↓Ok_park, ↓Ok_par3k, ↓Ok_drop, ↓Ok_for, ↓Ok_while, ↓Ok_unpk, ↓Ok_callk, ↓Ok_tryC, ↓Tr_x, ↓Tr_r, ↓nmk_s, ↓muk_n, ↓muk_c, ↓mu2_s, ↓mu2_v, ↓mu2_o, ↓zrk_n, ↓zrk_c, ↓rs_h, ↓rs_v, ↓rs_o, hd_v, hd_o, hd_u, mh_n, mh_c, ↓Rt_fnk,
  ↓sg_z, ↓sg_s, ↓sw_z, ↓sw_s, ↓td_val, ↓td_ow, ↓Ok_eLit, ↓kp_val, ↓kp_ow, ↓Ok_eV, ↓Ok_op1e, ↓Ok_op1v, ↓Ok_op2ee, ↓Ok_op2ve, ↓Ok_op2ev, ↓Ok_op2vv, ↓op_add, ↓op_addL, ↓op_addT, ↓op_addI, ↓op_subI, ↓op_addB, ↓op_subB, ↓op_sub, ↓op_mul, ↓op_mod, ↓op_div, ↓op_pow, ↓op_lt, ↓op_le, ↓op_gt, ↓op_ge, ↓op_eqI, ↓op_neI, ↓op_neg, ↓op_isN, ↓op_notN, ↓op_lenL, ↓op_lenT,
  ↓op_isi_i, ↓op_isi_b, ↓op_isi_l, ↓op_isi_t, ↓op_isi_n, ↓op_isi_s, ↓op_abs, ↓op_max2, ↓op_min2, ↓op_tupL, ↓op_tupT, ↓op_lstL, ↓op_lstT, ↓ix_0, ↓ix_1, ↓ix_2, ↓ix_3, ↓tx_0, ↓tx_1, ↓tx_2, ↓tx_3, ↓Ok_datum, ↓Ok_evL0, ↓Ok_evLc, ↓Ok_eTup, ↓Ok_eLst, ↓bk_b, ↓Ok_tB, ↓Ok_eB, ↓Ok_tNot, ↓Ok_tAnd, ↓Ok_tOr, ↓Ok_eAnd, ↓Ok_eOr, ↓Ok_eIf, ↓fk_i, ↓fk_b, ↓fk_n, ↓Ok_evSe, ↓Ok_evSv, ↓ck2_b, ↓Ok_eChain,
  ↓pk_n, ↓pk_t, ↓pk_l, ↓pks_n, ↓pks_c, ↓vk_val, ↓vk_ow, ↓rvk_val, ↓rvk_ow, ↓Ok_retV, ↓augk_val, ↓Ok_augk, ↓nk_i, ↓Ok_setIx, ↓ixk_0, ↓ixk_1, ↓ixk_2, ↓apk_ow, ↓owk_ow, ↓Ok_app, ↓ak_n, ↓ak_d, ↓ak_b, ↓gk_n, ↓gk_l, ↓gk_r, ↓zk_n, ↓zk_l, ↓zk_r, ↓sgm_z, ↓sgm_s, ↓mk2_v, ↓mk2_o, ↓ik_z, ↓ik_n, ↓ik_s, ↓uk_z, ↓uk_s, ↓rtk_rt, ↓rtk_nx, ↓nok_n, ↓nok_v, ↓nok_o,
  ↓afk_nx, ↓afk_ct, ↓afk_bk, ↓afk_rt, ↓dk_l, ↓dk_t, ↓Ok_evPn, ↓Ok_evPs, ↓Ok_cutek, ↓Ok_cutv, ↓op_cutL, ↓op_cutT, ↓Ok_wSeq, ↓rk_i, ↓Ok_wRng1, ↓Ok_wRng2, ↓Ok_wEnum, ↓Ok_wZip2, ↓Ok_wZip3, ↓Ok_wN, ↓wk_n, ↓wk_c, ↓op_isB, ↓op_isNB, ↓dkk_d, ↓vk_dki, ↓lkk_s, ↓Ok_newK, ↓Ok_dlen, ↓Ok_dsorted, ↓Ok_dget, ↓Ok_dgetD, ↓Ok_dput,
  okArg_v, okArg_o, ↓Ok_tYes, nc_0, nc_1, nc_2, nc_3, nc_4, not_true_eq_false, not_false_eq_true, isN, List.length_cons, List.length_nil, Nat.zero_add, Nat.reduceAdd, List.mem_cons, List.not_mem_nil, decide_eq_true_eq, Bool.not_eq_true', decide_eq_false_iff_not, Bool.not_true, Bool.not_false, Bool.false_eq_true, if_true, if_false, true_and, and_true, or_false, or_true, true_or, reduceCtorEq, Nat.reduceEqDiff, and_self, decide_true, decide_false, Int.reduceLT, Int.reduceLE, Int.reduceEq, Int.reduceToNat, Int.reducePow, Int.reduceAdd, Int.reduceSub, Int.reduceMul, Int.reduceNeg, Int.reduceMod, Int.reduceDiv, Nat.reduceLeDiff, Nat.reduceLT, false_or, or_self, and_false, false_and]
  · rw [vals, List.map_map]
    rfl
end

section
open PySem Rc
theorem all_steps_rt (s : Smp) (Q : Sv → Sl → Prop) : Rt (F_all_steps [.val (smD s)]) Q = Q (.ow ((stps (vals s)).map PyData.int)) [.val (smD s)] := by
  refine Rt_eq (ret_of ?_)
  unfold F_all_steps B_all_steps
  simp -implicitDefEqProofs only [↓values_rt, ↓Ok_ok, ↓Ok_bind, ↓Ok_seq, ↓thenS_nx, ↓thenS_rt, ↓thenS_bk, ↓thenS_ct, ↓Ok_sIf, ↓Ok_pass, ↓Ok_ret, ↓Ok_setk, ↓Ok_park, ↓Ok_par3k, ↓Ok_drop, ↓Ok_for, ↓Ok_while, ↓Ok_unpk, ↓Ok_callk, ↓Ok_tryC, ↓Tr_x, ↓Tr_r, ↓nmk_s, ↓muk_n, ↓muk_c, ↓mu2_s, ↓mu2_v, ↓mu2_o, ↓zrk_n, ↓zrk_c, ↓rs_h, ↓rs_v, ↓rs_o, hd_v, hd_o, hd_u, mh_n, mh_c, ↓Rt_fnk,
  ↓sg_z, ↓sg_s, ↓sw_z, ↓sw_s, ↓td_val, ↓td_ow, ↓Ok_eLit, ↓kp_val, ↓kp_ow, ↓Ok_eV, ↓Ok_op1e, ↓Ok_op1v, ↓Ok_op2ee, ↓Ok_op2ve, ↓Ok_op2ev, ↓Ok_op2vv, ↓op_add, ↓op_addL, ↓op_addT, ↓op_addI, ↓op_subI, ↓op_addB, ↓op_subB, ↓op_sub, ↓op_mul, ↓op_mod, ↓op_div, ↓op_pow, ↓op_lt, ↓op_le, ↓op_gt, ↓op_ge, ↓op_eqI, ↓op_neI, ↓op_neg, ↓op_isN, ↓op_notN, ↓op_lenL, ↓op_lenT,
  ↓op_isi_i, ↓op_isi_b, ↓op_isi_l, ↓op_isi_t, ↓op_isi_n, ↓op_isi_s, ↓op_abs, ↓op_max2, ↓op_min2, ↓op_tupL, ↓op_tupT, ↓op_lstL, ↓op_lstT, ↓ix_0, ↓ix_1, ↓ix_2, ↓ix_3, ↓tx_0, ↓tx_1, ↓tx_2, ↓tx_3, ↓Ok_datum, ↓Ok_evL0, ↓Ok_evLc, ↓Ok_eTup, ↓Ok_eLst, ↓bk_b, ↓Ok_tB, ↓Ok_eB, ↓Ok_tNot, ↓Ok_tAnd, ↓Ok_tOr, ↓Ok_eAnd, ↓Ok_eOr, ↓Ok_eIf, ↓fk_i, ↓fk_b, ↓fk_n, ↓Ok_evSe, ↓Ok_evSv, ↓ck2_b, ↓Ok_eChain,
  ↓pk_n, ↓pk_t, ↓pk_l, ↓pks_n, ↓pks_c, ↓vk_val, ↓vk_ow, ↓rvk_val, ↓rvk_ow, ↓Ok_retV, ↓augk_val, ↓Ok_augk, ↓nk_i, ↓Ok_setIx, ↓ixk_0, ↓ixk_1, ↓ixk_2, ↓apk_ow, ↓owk_ow, ↓Ok_app, ↓ak_n, ↓ak_d, ↓ak_b, ↓gk_n, ↓gk_l, ↓gk_r, ↓zk_n, ↓zk_l, ↓zk_r, ↓sgm_z, ↓sgm_s, ↓mk2_v, ↓mk2_o, ↓ik_z, ↓ik_n, ↓ik_s, ↓uk_z, ↓uk_s, ↓rtk_rt, ↓rtk_nx, ↓nok_n, ↓nok_v, ↓nok_o,
  ↓afk_nx, ↓afk_ct, ↓afk_bk, ↓afk_rt, ↓dk_l, ↓dk_t, ↓Ok_evPn, ↓Ok_evPs, ↓Ok_cutek, ↓Ok_cutv, ↓op_cutL, ↓op_cutT, ↓Ok_wSeq, ↓rk_i, ↓Ok_wRng1, ↓Ok_wRng2, ↓Ok_wEnum, ↓Ok_wZip2, ↓Ok_wZip3, ↓Ok_wN, ↓wk_n, ↓wk_c, ↓op_isB, ↓op_isNB, ↓dkk_d, ↓vk_dki, ↓lkk_s, ↓Ok_newK, ↓Ok_dlen, ↓Ok_dsorted, ↓Ok_dget, ↓Ok_dgetD, ↓Ok_dput,
  okArg_v, okArg_o, ↓Ok_tYes, nc_0, nc_1, nc_2, nc_3, nc_4, not_true_eq_false, not_false_eq_true, isN, List.length_cons, List.length_nil, Nat.zero_add, Nat.reduceAdd, List.mem_cons, List.not_mem_nil, decide_eq_true_eq, Bool.not_eq_true', decide_eq_false_iff_not, Bool.not_true, Bool.not_false, Bool.false_eq_true, if_true, if_false, true_and, and_true, or_false, or_true, true_or, reduceCtorEq, Nat.reduceEqDiff, and_self, decide_true, decide_false, Int.reduceLT, Int.reduceLE, Int.reduceEq, Int.reduceToNat, Int.reducePow, Int.reduceAdd, Int.reduceSub, Int.reduceMul, Int.reduceNeg, Int.reduceMod, Int.reduceDiv, Nat.reduceLeDiff, Nat.reduceLT, false_or, or_self, and_false, false_and]
  refine Ok_lcM (prs (vals s)) (fun q => .tuple [.int q.1, .int q.2]) (fun q => .int (stp q.1 q.2)) ?_
  simp -implicitDefEqProofs only [if_true, ↓Ok_ok, ↓Ok_bind, ↓Ok_seq, ↓thenS_nx, ↓thenS_rt, ↓thenS_bk, ↓thenS_ct, ↓Ok_sIf, ↓Ok_pass, ↓Ok_ret, ↓Ok_setk, ↓Ok_park, ↓Ok_par3k, ↓Ok_drop, ↓Ok_for, ↓Ok_while, ↓Ok_unpk, ↓Ok_callk, ↓Ok_tryC, ↓Tr_x, ↓Tr_r, ↓nmk_s, ↓muk_n, ↓muk_c, ↓mu2_s, ↓mu2_v, ↓mu2_o, ↓zrk_n, ↓zrk_c, ↓rs_h, ↓rs_v, ↓rs_o, hd_v, hd_o, hd_u, mh_n, mh_c, ↓Rt_fnk,
  ↓sg_z, ↓sg_s, ↓sw_z, ↓sw_s, ↓td_val, ↓td_ow, ↓Ok_eLit, ↓kp_val, ↓kp_ow, ↓Ok_eV, ↓Ok_op1e, ↓Ok_op1v, ↓Ok_op2ee, ↓Ok_op2ve, ↓Ok_op2ev, ↓Ok_op2vv, ↓op_add, ↓op_addL, ↓op_addT, ↓op_addI, ↓op_subI, ↓op_addB, ↓op_subB, ↓op_sub, ↓op_mul, ↓op_mod, ↓op_div, ↓op_pow, ↓op_lt, ↓op_le, ↓op_gt, ↓op_ge, ↓op_eqI, ↓op_neI, ↓op_neg, ↓op_isN, ↓op_notN, ↓op_lenL, ↓op_lenT,
  ↓op_isi_i, ↓op_isi_b, ↓op_isi_l, ↓op_isi_t, ↓op_isi_n, ↓op_isi_s, ↓op_abs, ↓op_max2, ↓op_min2, ↓op_tupL, ↓op_tupT, ↓op_lstL, ↓op_lstT, ↓ix_0, ↓ix_1, ↓ix_2, ↓ix_3, ↓tx_0, ↓tx_1, ↓tx_2, ↓tx_3, ↓Ok_datum, ↓Ok_evL0, ↓Ok_evLc, ↓Ok_eTup, ↓Ok_eLst, ↓bk_b, ↓Ok_tB, ↓Ok_eB, ↓Ok_tNot, ↓Ok_tAnd, ↓Ok_tOr, ↓Ok_eAnd, ↓Ok_eOr, ↓Ok_eIf, ↓fk_i, ↓fk_b, ↓fk_n, ↓Ok_evSe, ↓Ok_evSv, ↓ck2_b, ↓Ok_eChain,
  ↓pk_n, ↓pk_t, ↓pk_l, ↓pks_n, ↓pks_c, ↓vk_val, ↓vk_ow, ↓rvk_val, ↓rvk_ow, ↓Ok_retV, ↓augk_val, ↓Ok_augk, ↓nk_i, ↓Ok_setIx, ↓ixk_0, ↓ixk_1, ↓ixk_2, ↓apk_ow, ↓owk_ow, ↓Ok_app, ↓ak_n, ↓ak_d, ↓ak_b, ↓gk_n, ↓gk_l, ↓gk_r, ↓zk_n, ↓zk_l, ↓zk_r, ↓sgm_z, ↓sgm_s, ↓mk2_v, ↓mk2_o, ↓ik_z, ↓ik_n, ↓ik_s, ↓uk_z, ↓uk_s, ↓rtk_rt, ↓rtk_nx, ↓nok_n, ↓nok_v, ↓nok_o,
  ↓afk_nx, ↓afk_ct, ↓afk_bk, ↓afk_rt, ↓dk_l, ↓dk_t, ↓Ok_evPn, ↓Ok_evPs, ↓Ok_cutek, ↓Ok_cutv, ↓op_cutL, ↓op_cutT, ↓Ok_wSeq, ↓rk_i, ↓Ok_wRng1, ↓Ok_wRng2, ↓Ok_wEnum, ↓Ok_wZip2, ↓Ok_wZip3, ↓Ok_wN, ↓wk_n, ↓wk_c, ↓op_isB, ↓op_isNB, ↓dkk_d, ↓vk_dki, ↓lkk_s, ↓Ok_newK, ↓Ok_dlen, ↓Ok_dsorted, ↓Ok_dget, ↓Ok_dgetD, ↓Ok_dput,
  okArg_v, okArg_o, ↓Ok_tYes, nc_0, nc_1, nc_2, nc_3, nc_4, not_true_eq_false, not_false_eq_true, isN, List.length_cons, List.length_nil, Nat.zero_add, Nat.reduceAdd, List.mem_cons, List.not_mem_nil, decide_eq_true_eq, Bool.not_eq_true', decide_eq_false_iff_not, Bool.not_true, Bool.not_false, Bool.false_eq_true, if_true, if_false, true_and, and_true, or_false, or_true, true_or, reduceCtorEq, Nat.reduceEqDiff, and_self, decide_true, decide_false, Int.reduceLT, Int.reduceLE, Int.reduceEq, Int.reduceToNat, Int.reducePow, Int.reduceAdd, Int.reduceSub, Int.reduceMul, Int.reduceNeg, Int.reduceMod, Int.reduceDiv, Nat.reduceLeDiff, Nat.reduceLT, false_or, or_self, and_false, false_and]
  refine ⟨zip2_cut PyData.int (vals s), ⟨ckT_eq.mpr trivial, fun q hq => ?_⟩, ?_⟩
  · unfold itemm
    simp -implicitDefEqProofs only [↓step_eq, ↓Ok_ok, ↓Ok_bind, ↓Ok_seq, ↓thenS_nx, ↓thenS_rt, ↓thenS_bk, ↓thenS_ct, ↓Ok_sIf, ↓Ok_pass, ↓Ok_ret, ↓Ok_setk, ↓Ok_park, ↓Ok_par3k, ↓Ok_drop, ↓Ok_for, ↓Ok_while, ↓Ok_unpk, ↓Ok_callk, ↓Ok_tryC, ↓Tr_x, ↓Tr_r, ↓nmk_s, ↓muk_n, ↓muk_c, ↓mu2_s, ↓mu2_v, ↓mu2_o, ↓zrk_n, ↓zrk_c, ↓rs_h, ↓rs_v, ↓rs_o, hd_v, hd_o, hd_u, mh_n, mh_c, ↓Rt_fnk,
  ↓sg_z, ↓sg_s, ↓sw_z, ↓sw_s, ↓td_val, ↓td_ow, ↓Ok_eLit, ↓kp_val, ↓kp_ow, ↓Ok_eV, ↓Ok_op1e, ↓Ok_op1v, ↓Ok_op2ee, ↓Ok_op2ve, ↓Ok_op2ev, ↓Ok_op2vv, ↓op_add, ↓op_addL, ↓op_addT, ↓op_addI, ↓op_subI, ↓op_addB, ↓op_subB, ↓op_sub, ↓op_mul, ↓op_mod, ↓op_div, ↓op_pow, ↓op_lt, ↓op_le, ↓op_gt, ↓op_ge, ↓op_eqI, ↓op_neI, ↓op_neg, ↓op_isN, ↓op_notN, ↓op_lenL, ↓op_lenT,
  ↓op_isi_i, ↓op_isi_b, ↓op_isi_l, ↓op_isi_t, ↓op_isi_n, ↓op_isi_s, ↓op_abs, ↓op_max2, ↓op_min2, ↓op_tupL, ↓op_tupT, ↓op_lstL, ↓op_lstT, ↓ix_0, ↓ix_1, ↓ix_2, ↓ix_3, ↓tx_0, ↓tx_1, ↓tx_2, ↓tx_3, ↓Ok_datum, ↓Ok_evL0, ↓Ok_evLc, ↓Ok_eTup, ↓Ok_eLst, ↓bk_b, ↓Ok_tB, ↓Ok_eB, ↓Ok_tNot, ↓Ok_tAnd, ↓Ok_tOr, ↓Ok_eAnd, ↓Ok_eOr, ↓Ok_eIf, ↓fk_i, ↓fk_b, ↓fk_n, ↓Ok_evSe, ↓Ok_evSv, ↓ck2_b, ↓Ok_eChain,
  ↓pk_n, ↓pk_t, ↓pk_l, ↓pks_n, ↓pks_c, ↓vk_val, ↓vk_ow, ↓rvk_val, ↓rvk_ow, ↓Ok_retV, ↓augk_val, ↓Ok_augk, ↓nk_i, ↓Ok_setIx, ↓ixk_0, ↓ixk_1, ↓ixk_2, ↓apk_ow, ↓owk_ow, ↓Ok_app, ↓ak_n, ↓ak_d, ↓ak_b, ↓gk_n, ↓gk_l, ↓gk_r, ↓zk_n, ↓zk_l, ↓zk_r, ↓sgm_z, ↓sgm_s, ↓mk2_v, ↓mk2_o, ↓ik_z, ↓ik_n, ↓ik_s, ↓uk_z, ↓uk_s, ↓rtk_rt, ↓rtk_nx, ↓nok_n, ↓nok_v, ↓nok_o,
  ↓afk_nx, ↓afk_ct, ↓afk_bk, ↓afk_rt, ↓dk_l, ↓dk_t, ↓Ok_evPn, ↓Ok_evPs, ↓Ok_cutek, ↓Ok_cutv, ↓op_cutL, ↓op_cutT, ↓Ok_wSeq, ↓rk_i, ↓Ok_wRng1, ↓Ok_wRng2, ↓Ok_wEnum, ↓Ok_wZip2, ↓Ok_wZip3, ↓Ok_wN, ↓wk_n, ↓wk_c, ↓op_isB, ↓op_isNB, ↓dkk_d, ↓vk_dki, ↓lkk_s, ↓Ok_newK, ↓Ok_dlen, ↓Ok_dsorted, ↓Ok_dget, ↓Ok_dgetD, ↓Ok_dput,
  okArg_v, okArg_o, ↓Ok_tYes, nc_0, nc_1, nc_2, nc_3, nc_4, not_true_eq_false, not_false_eq_true, isN, List.length_cons, List.length_nil, Nat.zero_add, Nat.reduceAdd, List.mem_cons, List.not_mem_nil, decide_eq_true_eq, Bool.not_eq_true', decide_eq_false_iff_not, Bool.not_true, Bool.not_false, Bool.false_eq_true, if_true, if_false, true_and, and_true, or_false, or_true, true_or, reduceCtorEq, Nat.reduceEqDiff, and_self, decide_true, decide_false, Int.reduceLT, Int.reduceLE, Int.reduceEq, Int.reduceToNat, Int.reducePow, Int.reduceAdd, Int.reduceSub, Int.reduceMul, Int.reduceNeg, Int.reduceMod, Int.reduceDiv, Nat.reduceLeDiff, Nat.reduceLT, false_or, or_self, and_false, false_and]
  · rw [stps, List.map_map]
    rfl
theorem estimate_of_rt (s : Smp) (Q : Sv → Sl → Prop) : Rt (F_estimate_of [.val (smD s)]) Q = Q (.val (.int (est s))) [.val (smD s)] := by
  unfold F_estimate_of B_estimate_of
  simp -implicitDefEqProofs only [↓all_steps_rt, ↓op_sumL, ↓Ok_ok, ↓Ok_bind, ↓Ok_seq, ↓thenS_nx, ↓thenS_rt, ↓thenS_bk, ↓thenS_ct, ↓Ok_sIf, ↓Ok_pass, ↓Ok_ret, ↓Ok_setk, ↓Ok_park, ↓Ok_par3k, ↓Ok_drop, ↓Ok_for, ↓Ok_while, ↓Ok_unpk, ↓Ok_callk, ↓Ok_tryC, ↓Tr_x, ↓Tr_r, ↓nmk_s, ↓muk_n, ↓muk_c, ↓mu2_s, ↓mu2_v, ↓mu2_o, ↓zrk_n, ↓zrk_c, ↓rs_h, ↓rs_v, ↓rs_o, hd_v, hd_o, hd_u, mh_n, mh_c, ↓Rt_fnk,
  ↓sg_z, ↓sg_s, ↓sw_z, ↓sw_s, ↓td_val, ↓td_ow, ↓Ok_eLit, ↓kp_val, ↓kp_ow, ↓Ok_eV, ↓Ok_op1e, ↓Ok_op1v, ↓Ok_op2ee, ↓Ok_op2ve, ↓Ok_op2ev, ↓Ok_op2vv, ↓op_add, ↓op_addL, ↓op_addT, ↓op_addI, ↓op_subI, ↓op_addB, ↓op_subB, ↓op_sub, ↓op_mul, ↓op_mod, ↓op_div, ↓op_pow, ↓op_lt, ↓op_le, ↓op_gt, ↓op_ge, ↓op_eqI, ↓op_neI, ↓op_neg, ↓op_isN, ↓op_notN, ↓op_lenL, ↓op_lenT,
  ↓op_isi_i, ↓op_isi_b, ↓op_isi_l, ↓op_isi_t, ↓op_isi_n, ↓op_isi_s, ↓op_abs, ↓op_max2, ↓op_min2, ↓op_tupL, ↓op_tupT, ↓op_lstL, ↓op_lstT, ↓ix_0, ↓ix_1, ↓ix_2, ↓ix_3, ↓tx_0, ↓tx_1, ↓tx_2, ↓tx_3, ↓Ok_datum, ↓Ok_evL0, ↓Ok_evLc, ↓Ok_eTup, ↓Ok_eLst, ↓bk_b, ↓Ok_tB, ↓Ok_eB, ↓Ok_tNot, ↓Ok_tAnd, ↓Ok_tOr, ↓Ok_eAnd, ↓Ok_eOr, ↓Ok_eIf, ↓fk_i, ↓fk_b, ↓fk_n, ↓Ok_evSe, ↓Ok_evSv, ↓ck2_b, ↓Ok_eChain,
  ↓pk_n, ↓pk_t, ↓pk_l, ↓pks_n, ↓pks_c, ↓vk_val, ↓vk_ow, ↓rvk_val, ↓rvk_ow, ↓Ok_retV, ↓augk_val, ↓Ok_augk, ↓nk_i, ↓Ok_setIx, ↓ixk_0, ↓ixk_1, ↓ixk_2, ↓apk_ow, ↓owk_ow, ↓Ok_app, ↓ak_n, ↓ak_d, ↓ak_b, ↓gk_n, ↓gk_l, ↓gk_r, ↓zk_n, ↓zk_l, ↓zk_r, ↓sgm_z, ↓sgm_s, ↓mk2_v, ↓mk2_o, ↓ik_z, ↓ik_n, ↓ik_s, ↓uk_z, ↓uk_s, ↓rtk_rt, ↓rtk_nx, ↓nok_n, ↓nok_v, ↓nok_o,
  ↓afk_nx, ↓afk_ct, ↓afk_bk, ↓afk_rt, ↓dk_l, ↓dk_t, ↓Ok_evPn, ↓Ok_evPs, ↓Ok_cutek, ↓Ok_cutv, ↓op_cutL, ↓op_cutT, ↓Ok_wSeq, ↓rk_i, ↓Ok_wRng1, ↓Ok_wRng2, ↓Ok_wEnum, ↓Ok_wZip2, ↓Ok_wZip3, ↓Ok_wN, ↓wk_n, ↓wk_c, ↓op_isB, ↓op_isNB, ↓dkk_d, ↓vk_dki, ↓lkk_s, ↓Ok_newK, ↓Ok_dlen, ↓Ok_dsorted, ↓Ok_dget, ↓Ok_dgetD, ↓Ok_dput,
  okArg_v, okArg_o, ↓Ok_tYes, nc_0, nc_1, nc_2, nc_3, nc_4, not_true_eq_false, not_false_eq_true, isN, List.length_cons, List.length_nil, Nat.zero_add, Nat.reduceAdd, List.mem_cons, List.not_mem_nil, decide_eq_true_eq, Bool.not_eq_true', decide_eq_false_iff_not, Bool.not_true, Bool.not_false, Bool.false_eq_true, if_true, if_false, true_and, and_true, or_false, or_true, true_or, reduceCtorEq, Nat.reduceEqDiff, and_self, decide_true, decide_false, Int.reduceLT, Int.reduceLE, Int.reduceEq, Int.reduceToNat, Int.reducePow, Int.reduceAdd, Int.reduceSub, Int.reduceMul, Int.reduceNeg, Int.reduceMod, Int.reduceDiv, Nat.reduceLeDiff, Nat.reduceLT, false_or, or_self, and_false, false_and]
  rfl
end

section
open PySem Rc
theorem estimate_rt {s : Smp} (g : Sm s) (Q : Sv → Sl → Prop) : Rt (F_estimate [.val (smD s)]) Q = Q (.val (.int (est s))) [.val (smD s)] := by
  unfold F_estimate B_estimate
  simp -implicitDefEqProofs only [↓need_s g, ↓estimate_of_rt, ↓Ok_ok, ↓Ok_bind, ↓Ok_seq, ↓thenS_nx, ↓thenS_rt, ↓thenS_bk, ↓thenS_ct, ↓Ok_sIf, ↓Ok_pass, ↓Ok_ret, ↓Ok_setk, ↓Ok_park, ↓Ok_par3k, ↓Ok_drop, ↓Ok_for, ↓Ok_while, ↓Ok_unpk, ↓Ok_callk, ↓Ok_tryC, ↓Tr_x, ↓Tr_r, ↓nmk_s, ↓muk_n, ↓muk_c, ↓mu2_s, ↓mu2_v, ↓mu2_o, ↓zrk_n, ↓zrk_c, ↓rs_h, ↓rs_v, ↓rs_o, hd_v, hd_o, hd_u, mh_n, mh_c, ↓Rt_fnk,
  ↓sg_z, ↓sg_s, ↓sw_z, ↓sw_s, ↓td_val, ↓td_ow, ↓Ok_eLit, ↓kp_val, ↓kp_ow, ↓Ok_eV, ↓Ok_op1e, ↓Ok_op1v, ↓Ok_op2ee, ↓Ok_op2ve, ↓Ok_op2ev, ↓Ok_op2vv, ↓op_add, ↓op_addL, ↓op_addT, ↓op_addI, ↓op_subI, ↓op_addB, ↓op_subB, ↓op_sub, ↓op_mul, ↓op_mod, ↓op_div, ↓op_pow, ↓op_lt, ↓op_le, ↓op_gt, ↓op_ge, ↓op_eqI, ↓op_neI, ↓op_neg, ↓op_isN, ↓op_notN, ↓op_lenL, ↓op_lenT,
  ↓op_isi_i, ↓op_isi_b, ↓op_isi_l, ↓op_isi_t, ↓op_isi_n, ↓op_isi_s, ↓op_abs, ↓op_max2, ↓op_min2, ↓op_tupL, ↓op_tupT, ↓op_lstL, ↓op_lstT, ↓ix_0, ↓ix_1, ↓ix_2, ↓ix_3, ↓tx_0, ↓tx_1, ↓tx_2, ↓tx_3, ↓Ok_datum, ↓Ok_evL0, ↓Ok_evLc, ↓Ok_eTup, ↓Ok_eLst, ↓bk_b, ↓Ok_tB, ↓Ok_eB, ↓Ok_tNot, ↓Ok_tAnd, ↓Ok_tOr, ↓Ok_eAnd, ↓Ok_eOr, ↓Ok_eIf, ↓fk_i, ↓fk_b, ↓fk_n, ↓Ok_evSe, ↓Ok_evSv, ↓ck2_b, ↓Ok_eChain,
  ↓pk_n, ↓pk_t, ↓pk_l, ↓pks_n, ↓pks_c, ↓vk_val, ↓vk_ow, ↓rvk_val, ↓rvk_ow, ↓Ok_retV, ↓augk_val, ↓Ok_augk, ↓nk_i, ↓Ok_setIx, ↓ixk_0, ↓ixk_1, ↓ixk_2, ↓apk_ow, ↓owk_ow, ↓Ok_app, ↓ak_n, ↓ak_d, ↓ak_b, ↓gk_n, ↓gk_l, ↓gk_r, ↓zk_n, ↓zk_l, ↓zk_r, ↓sgm_z, ↓sgm_s, ↓mk2_v, ↓mk2_o, ↓ik_z, ↓ik_n, ↓ik_s, ↓uk_z, ↓uk_s, ↓rtk_rt, ↓rtk_nx, ↓nok_n, ↓nok_v, ↓nok_o,
  ↓afk_nx, ↓afk_ct, ↓afk_bk, ↓afk_rt, ↓dk_l, ↓dk_t, ↓Ok_evPn, ↓Ok_evPs, ↓Ok_cutek, ↓Ok_cutv, ↓op_cutL, ↓op_cutT, ↓Ok_wSeq, ↓rk_i, ↓Ok_wRng1, ↓Ok_wRng2, ↓Ok_wEnum, ↓Ok_wZip2, ↓Ok_wZip3, ↓Ok_wN, ↓wk_n, ↓wk_c, ↓op_isB, ↓op_isNB, ↓dkk_d, ↓vk_dki, ↓lkk_s, ↓Ok_newK, ↓Ok_dlen, ↓Ok_dsorted, ↓Ok_dget, ↓Ok_dgetD, ↓Ok_dput,
  okArg_v, okArg_o, ↓Ok_tYes, nc_0, nc_1, nc_2, nc_3, nc_4, not_true_eq_false, not_false_eq_true, isN, List.length_cons, List.length_nil, Nat.zero_add, Nat.reduceAdd, List.mem_cons, List.not_mem_nil, decide_eq_true_eq, Bool.not_eq_true', decide_eq_false_iff_not, Bool.not_true, Bool.not_false, Bool.false_eq_true, if_true, if_false, true_and, and_true, or_false, or_true, true_or, reduceCtorEq, Nat.reduceEqDiff, and_self, decide_true, decide_false, Int.reduceLT, Int.reduceLE, Int.reduceEq, Int.reduceToNat, Int.reducePow, Int.reduceAdd, Int.reduceSub, Int.reduceMul, Int.reduceNeg, Int.reduceMod, Int.reduceDiv, Nat.reduceLeDiff, Nat.reduceLT, false_or, or_self, and_false, false_and]
end

section
open PySem Rc
theorem falls_rt {s : Smp} (g : Sm s) (Q : Sv → Sl → Prop) : Rt (F_falls [.val (smD s)]) Q = Q (.ow ((dns (vals s)).map fun k : Nat => .int (1 + (k : Int)))) [.val (smD s)] := by
  refine Rt_eq (ret_of ?_)
  have hl : (vals s).length ≤ 40 := by rw [vals, List.length_map]; exact g.len
  unfold F_falls B_falls
  simp -implicitDefEqProofs only [↓need_s g, ↓values_rt, ↓Ok_ok, ↓Ok_bind, ↓Ok_seq, ↓thenS_nx, ↓thenS_rt, ↓thenS_bk, ↓thenS_ct, ↓Ok_sIf, ↓Ok_pass, ↓Ok_ret, ↓Ok_setk, ↓Ok_park, ↓Ok_par3k, ↓Ok_drop, ↓Ok_for, ↓Ok_while, ↓Ok_unpk, ↓Ok_callk, ↓Ok_tryC, ↓Tr_x, ↓Tr_r, ↓nmk_s, ↓muk_n, ↓muk_c, ↓mu2_s, ↓mu2_v, ↓mu2_o, ↓zrk_n, ↓zrk_c, ↓rs_h, ↓rs_v, ↓rs_o, hd_v, hd_o, hd_u, mh_n, mh_c, ↓Rt_fnk,
  ↓sg_z, ↓sg_s, ↓sw_z, ↓sw_s, ↓td_val, ↓td_ow, ↓Ok_eLit, ↓kp_val, ↓kp_ow, ↓Ok_eV, ↓Ok_op1e, ↓Ok_op1v, ↓Ok_op2ee, ↓Ok_op2ve, ↓Ok_op2ev, ↓Ok_op2vv, ↓op_add, ↓op_addL, ↓op_addT, ↓op_addI, ↓op_subI, ↓op_addB, ↓op_subB, ↓op_sub, ↓op_mul, ↓op_mod, ↓op_div, ↓op_pow, ↓op_lt, ↓op_le, ↓op_gt, ↓op_ge, ↓op_eqI, ↓op_neI, ↓op_neg, ↓op_isN, ↓op_notN, ↓op_lenL, ↓op_lenT,
  ↓op_isi_i, ↓op_isi_b, ↓op_isi_l, ↓op_isi_t, ↓op_isi_n, ↓op_isi_s, ↓op_abs, ↓op_max2, ↓op_min2, ↓op_tupL, ↓op_tupT, ↓op_lstL, ↓op_lstT, ↓ix_0, ↓ix_1, ↓ix_2, ↓ix_3, ↓tx_0, ↓tx_1, ↓tx_2, ↓tx_3, ↓Ok_datum, ↓Ok_evL0, ↓Ok_evLc, ↓Ok_eTup, ↓Ok_eLst, ↓bk_b, ↓Ok_tB, ↓Ok_eB, ↓Ok_tNot, ↓Ok_tAnd, ↓Ok_tOr, ↓Ok_eAnd, ↓Ok_eOr, ↓Ok_eIf, ↓fk_i, ↓fk_b, ↓fk_n, ↓Ok_evSe, ↓Ok_evSv, ↓ck2_b, ↓Ok_eChain,
  ↓pk_n, ↓pk_t, ↓pk_l, ↓pks_n, ↓pks_c, ↓vk_val, ↓vk_ow, ↓rvk_val, ↓rvk_ow, ↓Ok_retV, ↓augk_val, ↓Ok_augk, ↓nk_i, ↓Ok_setIx, ↓ixk_0, ↓ixk_1, ↓ixk_2, ↓apk_ow, ↓owk_ow, ↓Ok_app, ↓ak_n, ↓ak_d, ↓ak_b, ↓gk_n, ↓gk_l, ↓gk_r, ↓zk_n, ↓zk_l, ↓zk_r, ↓sgm_z, ↓sgm_s, ↓mk2_v, ↓mk2_o, ↓ik_z, ↓ik_n, ↓ik_s, ↓uk_z, ↓uk_s, ↓rtk_rt, ↓rtk_nx, ↓nok_n, ↓nok_v, ↓nok_o,
  ↓afk_nx, ↓afk_ct, ↓afk_bk, ↓afk_rt, ↓dk_l, ↓dk_t, ↓Ok_evPn, ↓Ok_evPs, ↓Ok_cutek, ↓Ok_cutv, ↓op_cutL, ↓op_cutT, ↓Ok_wSeq, ↓rk_i, ↓Ok_wRng1, ↓Ok_wRng2, ↓Ok_wEnum, ↓Ok_wZip2, ↓Ok_wZip3, ↓Ok_wN, ↓wk_n, ↓wk_c, ↓op_isB, ↓op_isNB, ↓dkk_d, ↓vk_dki, ↓lkk_s, ↓Ok_newK, ↓Ok_dlen, ↓Ok_dsorted, ↓Ok_dget, ↓Ok_dgetD, ↓Ok_dput,
  okArg_v, okArg_o, ↓Ok_tYes, nc_0, nc_1, nc_2, nc_3, nc_4, not_true_eq_false, not_false_eq_true, isN, List.length_cons, List.length_nil, Nat.zero_add, Nat.reduceAdd, List.mem_cons, List.not_mem_nil, decide_eq_true_eq, Bool.not_eq_true', decide_eq_false_iff_not, Bool.not_true, Bool.not_false, Bool.false_eq_true, if_true, if_false, true_and, and_true, or_false, or_true, true_or, reduceCtorEq, Nat.reduceEqDiff, and_self, decide_true, decide_false, Int.reduceLT, Int.reduceLE, Int.reduceEq, Int.reduceToNat, Int.reducePow, Int.reduceAdd, Int.reduceSub, Int.reduceMul, Int.reduceNeg, Int.reduceMod, Int.reduceDiv, Nat.reduceLeDiff, Nat.reduceLT, false_or, or_self, and_false, false_and]
  refine Ok_lcF (List.range ((vals s).length - 1)) (fun k : Nat => .int (1 + (k : Int))) (fun k => (vals s).getD (k + 1) 0 < (vals s).getD k 0) (fun k : Nat => .int (1 + (k : Int))) ?_
  simp -implicitDefEqProofs only [List.length_map, ↓Ok_ok, ↓Ok_bind, ↓Ok_seq, ↓thenS_nx, ↓thenS_rt, ↓thenS_bk, ↓thenS_ct, ↓Ok_sIf, ↓Ok_pass, ↓Ok_ret, ↓Ok_setk, ↓Ok_park, ↓Ok_par3k, ↓Ok_drop, ↓Ok_for, ↓Ok_while, ↓Ok_unpk, ↓Ok_callk, ↓Ok_tryC, ↓Tr_x, ↓Tr_r, ↓nmk_s, ↓muk_n, ↓muk_c, ↓mu2_s, ↓mu2_v, ↓mu2_o, ↓zrk_n, ↓zrk_c, ↓rs_h, ↓rs_v, ↓rs_o, hd_v, hd_o, hd_u, mh_n, mh_c, ↓Rt_fnk,
  ↓sg_z, ↓sg_s, ↓sw_z, ↓sw_s, ↓td_val, ↓td_ow, ↓Ok_eLit, ↓kp_val, ↓kp_ow, ↓Ok_eV, ↓Ok_op1e, ↓Ok_op1v, ↓Ok_op2ee, ↓Ok_op2ve, ↓Ok_op2ev, ↓Ok_op2vv, ↓op_add, ↓op_addL, ↓op_addT, ↓op_addI, ↓op_subI, ↓op_addB, ↓op_subB, ↓op_sub, ↓op_mul, ↓op_mod, ↓op_div, ↓op_pow, ↓op_lt, ↓op_le, ↓op_gt, ↓op_ge, ↓op_eqI, ↓op_neI, ↓op_neg, ↓op_isN, ↓op_notN, ↓op_lenL, ↓op_lenT,
  ↓op_isi_i, ↓op_isi_b, ↓op_isi_l, ↓op_isi_t, ↓op_isi_n, ↓op_isi_s, ↓op_abs, ↓op_max2, ↓op_min2, ↓op_tupL, ↓op_tupT, ↓op_lstL, ↓op_lstT, ↓ix_0, ↓ix_1, ↓ix_2, ↓ix_3, ↓tx_0, ↓tx_1, ↓tx_2, ↓tx_3, ↓Ok_datum, ↓Ok_evL0, ↓Ok_evLc, ↓Ok_eTup, ↓Ok_eLst, ↓bk_b, ↓Ok_tB, ↓Ok_eB, ↓Ok_tNot, ↓Ok_tAnd, ↓Ok_tOr, ↓Ok_eAnd, ↓Ok_eOr, ↓Ok_eIf, ↓fk_i, ↓fk_b, ↓fk_n, ↓Ok_evSe, ↓Ok_evSv, ↓ck2_b, ↓Ok_eChain,
  ↓pk_n, ↓pk_t, ↓pk_l, ↓pks_n, ↓pks_c, ↓vk_val, ↓vk_ow, ↓rvk_val, ↓rvk_ow, ↓Ok_retV, ↓augk_val, ↓Ok_augk, ↓nk_i, ↓Ok_setIx, ↓ixk_0, ↓ixk_1, ↓ixk_2, ↓apk_ow, ↓owk_ow, ↓Ok_app, ↓ak_n, ↓ak_d, ↓ak_b, ↓gk_n, ↓gk_l, ↓gk_r, ↓zk_n, ↓zk_l, ↓zk_r, ↓sgm_z, ↓sgm_s, ↓mk2_v, ↓mk2_o, ↓ik_z, ↓ik_n, ↓ik_s, ↓uk_z, ↓uk_s, ↓rtk_rt, ↓rtk_nx, ↓nok_n, ↓nok_v, ↓nok_o,
  ↓afk_nx, ↓afk_ct, ↓afk_bk, ↓afk_rt, ↓dk_l, ↓dk_t, ↓Ok_evPn, ↓Ok_evPs, ↓Ok_cutek, ↓Ok_cutv, ↓op_cutL, ↓op_cutT, ↓Ok_wSeq, ↓rk_i, ↓Ok_wRng1, ↓Ok_wRng2, ↓Ok_wEnum, ↓Ok_wZip2, ↓Ok_wZip3, ↓Ok_wN, ↓wk_n, ↓wk_c, ↓op_isB, ↓op_isNB, ↓dkk_d, ↓vk_dki, ↓lkk_s, ↓Ok_newK, ↓Ok_dlen, ↓Ok_dsorted, ↓Ok_dget, ↓Ok_dgetD, ↓Ok_dput,
  okArg_v, okArg_o, ↓Ok_tYes, nc_0, nc_1, nc_2, nc_3, nc_4, not_true_eq_false, not_false_eq_true, isN, List.length_cons, List.length_nil, Nat.zero_add, Nat.reduceAdd, List.mem_cons, List.not_mem_nil, decide_eq_true_eq, Bool.not_eq_true', decide_eq_false_iff_not, Bool.not_true, Bool.not_false, Bool.false_eq_true, if_true, if_false, true_and, and_true, or_false, or_true, true_or, reduceCtorEq, Nat.reduceEqDiff, and_self, decide_true, decide_false, Int.reduceLT, Int.reduceLE, Int.reduceEq, Int.reduceToNat, Int.reducePow, Int.reduceAdd, Int.reduceSub, Int.reduceMul, Int.reduceNeg, Int.reduceMod, Int.reduceDiv, Nat.reduceLeDiff, Nat.reduceLT, false_or, or_self, and_false, false_and]
  refine ⟨by omega, ?_, ⟨ckT_eq.mpr trivial, fun k hk => ?_⟩, ?_⟩
  · rw [numsD_map, show (((vals s).length : Int) - 1).toNat = (vals s).length - 1 by omega]
  · have hk := List.mem_range.mp hk
    unfold itemt
    simp -implicitDefEqProofs only [↓ixL 0 (show (0 : Int) ≤ 1 + (k : Int) by omega) (show 1 + (k : Int) < (vals s).length by omega), ↓ixL 0 (show (0 : Int) ≤ 1 + (k : Int) - 1 by omega) (show 1 + (k : Int) - 1 < (vals s).length by omega), ↓Ok_ok, ↓Ok_bind, ↓Ok_seq, ↓thenS_nx, ↓thenS_rt, ↓thenS_bk, ↓thenS_ct, ↓Ok_sIf, ↓Ok_pass, ↓Ok_ret, ↓Ok_setk, ↓Ok_park, ↓Ok_par3k, ↓Ok_drop, ↓Ok_for, ↓Ok_while, ↓Ok_unpk, ↓Ok_callk, ↓Ok_tryC, ↓Tr_x, ↓Tr_r, ↓nmk_s, ↓muk_n, ↓muk_c, ↓mu2_s, ↓mu2_v, ↓mu2_o, ↓zrk_n, ↓zrk_c, ↓rs_h, ↓rs_v, ↓rs_o, hd_v, hd_o, hd_u, mh_n, mh_c, ↓Rt_fnk,
  ↓sg_z, ↓sg_s, ↓sw_z, ↓sw_s, ↓td_val, ↓td_ow, ↓Ok_eLit, ↓kp_val, ↓kp_ow, ↓Ok_eV, ↓Ok_op1e, ↓Ok_op1v, ↓Ok_op2ee, ↓Ok_op2ve, ↓Ok_op2ev, ↓Ok_op2vv, ↓op_add, ↓op_addL, ↓op_addT, ↓op_addI, ↓op_subI, ↓op_addB, ↓op_subB, ↓op_sub, ↓op_mul, ↓op_mod, ↓op_div, ↓op_pow, ↓op_lt, ↓op_le, ↓op_gt, ↓op_ge, ↓op_eqI, ↓op_neI, ↓op_neg, ↓op_isN, ↓op_notN, ↓op_lenL, ↓op_lenT,
  ↓op_isi_i, ↓op_isi_b, ↓op_isi_l, ↓op_isi_t, ↓op_isi_n, ↓op_isi_s, ↓op_abs, ↓op_max2, ↓op_min2, ↓op_tupL, ↓op_tupT, ↓op_lstL, ↓op_lstT, ↓ix_0, ↓ix_1, ↓ix_2, ↓ix_3, ↓tx_0, ↓tx_1, ↓tx_2, ↓tx_3, ↓Ok_datum, ↓Ok_evL0, ↓Ok_evLc, ↓Ok_eTup, ↓Ok_eLst, ↓bk_b, ↓Ok_tB, ↓Ok_eB, ↓Ok_tNot, ↓Ok_tAnd, ↓Ok_tOr, ↓Ok_eAnd, ↓Ok_eOr, ↓Ok_eIf, ↓fk_i, ↓fk_b, ↓fk_n, ↓Ok_evSe, ↓Ok_evSv, ↓ck2_b, ↓Ok_eChain,
  ↓pk_n, ↓pk_t, ↓pk_l, ↓pks_n, ↓pks_c, ↓vk_val, ↓vk_ow, ↓rvk_val, ↓rvk_ow, ↓Ok_retV, ↓augk_val, ↓Ok_augk, ↓nk_i, ↓Ok_setIx, ↓ixk_0, ↓ixk_1, ↓ixk_2, ↓apk_ow, ↓owk_ow, ↓Ok_app, ↓ak_n, ↓ak_d, ↓ak_b, ↓gk_n, ↓gk_l, ↓gk_r, ↓zk_n, ↓zk_l, ↓zk_r, ↓sgm_z, ↓sgm_s, ↓mk2_v, ↓mk2_o, ↓ik_z, ↓ik_n, ↓ik_s, ↓uk_z, ↓uk_s, ↓rtk_rt, ↓rtk_nx, ↓nok_n, ↓nok_v, ↓nok_o,
  ↓afk_nx, ↓afk_ct, ↓afk_bk, ↓afk_rt, ↓dk_l, ↓dk_t, ↓Ok_evPn, ↓Ok_evPs, ↓Ok_cutek, ↓Ok_cutv, ↓op_cutL, ↓op_cutT, ↓Ok_wSeq, ↓rk_i, ↓Ok_wRng1, ↓Ok_wRng2, ↓Ok_wEnum, ↓Ok_wZip2, ↓Ok_wZip3, ↓Ok_wN, ↓wk_n, ↓wk_c, ↓op_isB, ↓op_isNB, ↓dkk_d, ↓vk_dki, ↓lkk_s, ↓Ok_newK, ↓Ok_dlen, ↓Ok_dsorted, ↓Ok_dget, ↓Ok_dgetD, ↓Ok_dput,
  okArg_v, okArg_o, ↓Ok_tYes, nc_0, nc_1, nc_2, nc_3, nc_4, not_true_eq_false, not_false_eq_true, isN, List.length_cons, List.length_nil, Nat.zero_add, Nat.reduceAdd, List.mem_cons, List.not_mem_nil, decide_eq_true_eq, Bool.not_eq_true', decide_eq_false_iff_not, Bool.not_true, Bool.not_false, Bool.false_eq_true, if_true, if_false, true_and, and_true, or_false, or_true, true_or, reduceCtorEq, Nat.reduceEqDiff, and_self, decide_true, decide_false, Int.reduceLT, Int.reduceLE, Int.reduceEq, Int.reduceToNat, Int.reducePow, Int.reduceAdd, Int.reduceSub, Int.reduceMul, Int.reduceNeg, Int.reduceMod, Int.reduceDiv, Nat.reduceLeDiff, Nat.reduceLT, false_or, or_self, and_false, false_and]
    rw [show (1 + (k : Int)).toNat = k + 1 by omega, show (1 + (k : Int) - 1).toNat = k by omega]
    by_cases h : (vals s).getD (k + 1) 0 < (vals s).getD k 0 <;> simp [h]
  · rfl
end

/-! ### the law's sum of steps -/
section
open PySem Rc
theorem sum_id : ∀ (a : Int) (l : List Int), (stps (a :: l)).sum = (a :: l).getLast?.getD 0 - a + (((prs (a :: l)).filter fun q => decide (q.2 < q.1)).map fun q => q.1).sum
  | a, [] => by simp [stps, prs]
  | a, b :: l => by
    have ih := sum_id b l
    have e1 : prs (a :: b :: l) = (a, b) :: prs (b :: l) := rfl
    have e2 : (a :: b :: l).getLast? = (b :: l).getLast? := List.getLast?_cons_cons
    unfold stps at ih ⊢
    rw [e1, e2, List.map_cons, List.sum_cons, ih, List.filter_cons]
    unfold stp
    by_cases h : b < a
    · simp [h]
      rw [if_neg (by omega)]
      omega
    · simp [h]
      rw [if_pos (by omega)]
      omega
end

/-! ### the plain law of samples left out together -/
section
open PySem Rc
abbrev sumS (xs : List Int) : Int := (stps xs).sum
theorem sumS_c (a b : Int) (l : List Int) : sumS (a :: b :: l) = stp a b + sumS (b :: l) := by
  show (stps (a :: b :: l)).sum = _
  unfold stps
  rw [show prs (a :: b :: l) = (a, b) :: prs (b :: l) from rfl, List.map_cons, List.sum_cons]
  rfl
theorem sumS_1 (a : Int) : sumS [a] = 0 := rfl
theorem stp_nn {a b : Int} (ha : 0 ≤ a) (hb : 0 ≤ b) : 0 ≤ stp a b := by
  unfold stp
  split <;> omega
theorem stp_tri {a b c : Int} (ha : 0 ≤ a) (hb : 0 ≤ b) (hc : 0 ≤ c) : stp a c ≤ stp a b + stp b c := by
  unfold stp
  repeat' split
  all_goals omega
theorem stp_self (a : Int) : stp a a = 0 := by unfold stp; simp
theorem glue (a : Int) (l2 : List Int) : ∀ l1 : List Int, sumS (l1 ++ a :: l2) = sumS (l1 ++ [a]) + sumS (a :: l2)
  | [] => by rw [List.nil_append, List.nil_append, sumS_1, Int.zero_add]
  | [x] => by
    show sumS (x :: a :: l2) = sumS [x, a] + _
    rw [sumS_c, sumS_c, sumS_1]
    omega
  | x :: y :: l => by
    have := glue a l2 (y :: l)
    show sumS (x :: y :: (l ++ a :: l2)) = sumS (x :: y :: (l ++ [a])) + _
    rw [sumS_c, sumS_c]
    simp only [List.cons_append] at this
    omega
/-- cut at k -/
theorem cut_at {xs : List Int} {k : Nat} (h : k < xs.length) : sumS xs = sumS (xs.take (k + 1)) + sumS (xs.drop k) := by
  have e : xs = xs.take k ++ xs[k] :: xs.drop (k + 1) := by
    rw [← List.drop_eq_getElem_cons h, List.take_append_drop]
  have e1 : xs.take (k + 1) = xs.take k ++ [xs[k]] := (List.take_append_getElem h).symm
  rw [e1, List.drop_eq_getElem_cons h, ← glue]
  exact congrArg sumS e
/-- the values from f to l -/
def row (xs : List Int) (f l : Nat) : List Int := (xs.drop f).take (l + 1 - f)
def W (xs : List Int) (f l : Nat) : Int := sumS (row xs f l)
theorem W_add {xs : List Int} {f m l : Nat} (h1 : f ≤ m) (h2 : m ≤ l) (h3 : l < xs.length) : W xs f l = W xs f m + W xs m l := by
  unfold W row
  have h : m - f < ((xs.drop f).take (l + 1 - f)).length := by rw [List.length_take, List.length_drop]; omega
  rw [cut_at h, List.take_take, List.drop_take, List.drop_drop]
  rw [show min (m - f + 1) (l + 1 - f) = m + 1 - f by omega, show f + (m - f) = m by omega, show l + 1 - f - (m - f) = l + 1 - m by omega]
theorem W_self {xs : List Int} {f : Nat} (h : f < xs.length) : W xs f f = 0 := by
  unfold W row
  rw [show f + 1 - f = 1 by omega, List.drop_eq_getElem_cons h, List.take_succ_cons, List.take_zero]
  rfl
theorem W_one {xs : List Int} {f : Nat} (h : f + 1 < xs.length) : W xs f (f + 1) = stp (xs.getD f 0) (xs.getD (f + 1) 0) := by
  unfold W row
  rw [show f + 1 + 1 - f = 2 by omega, List.drop_eq_getElem_cons (by omega), List.drop_eq_getElem_cons h, List.take_succ_cons, List.take_succ_cons, List.take_zero, sumS_c, sumS_1]
  rw [List.getD_eq_getElem?_getD, List.getD_eq_getElem?_getD, List.getElem?_eq_getElem h, List.getElem?_eq_getElem (by omega)]
  simp
theorem getD_nn {xs : List Int} (hx : ∀ x ∈ xs, 0 ≤ x) (k : Nat) : 0 ≤ xs.getD k 0 := by
  rw [List.getD_eq_getElem?_getD]
  cases e : xs[k]? with
  | none => exact Int.le_refl _
  | some x => exact hx x (List.mem_of_getElem? e)
theorem W_tri {xs : List Int} (hx : ∀ x ∈ xs, 0 ≤ x) {f : Nat} : ∀ {n : Nat}, f + n < xs.length → stp (xs.getD f 0) (xs.getD (f + n) 0) ≤ W xs f (f + n)
  | 0, h => by rw [Nat.add_zero, stp_self, W_self (by omega)]; exact Int.le_refl _
  | n + 1, h => by
    have ih := W_tri hx (f := f) (n := n) (by omega)
    have h1 := W_add (xs := xs) (f := f) (m := f + n) (l := f + (n + 1)) (by omega) (by omega) h
    have h2 := W_one (xs := xs) (f := f + n) (by omega)
    rw [show f + n + 1 = f + (n + 1) by omega] at h2
    have h3 := stp_tri (getD_nn hx f) (getD_nn hx (f + n)) (getD_nn hx (f + (n + 1)))
    omega
theorem W_le {xs : List Int} (hx : ∀ x ∈ xs, 0 ≤ x) {f l : Nat} (h1 : f ≤ l) (h2 : l < xs.length) : stp (xs.getD f 0) (xs.getD l 0) ≤ W xs f l := by
  have := W_tri hx (f := f) (n := l - f) (by omega)
  rwa [show f + (l - f) = l by omega] at this
/-- nothing is lost between f and l -/
def gd (xs : List Int) (f l : Nat) : Bool := decide (W xs f l = stp (xs.getD f 0) (xs.getD l 0))
theorem gd_left {xs : List Int} (hx : ∀ x ∈ xs, 0 ≤ x) {f l : Nat} (h1 : f + 1 < l) (h2 : l < xs.length) (h : gd xs f l = true) : gd xs (f + 1) l = true := by
  have h := of_decide_eq_true h
  refine decide_eq_true ?_
  have a1 := W_add (xs := xs) (f := f) (m := f + 1) (l := l) (by omega) (by omega) h2
  have a2 := W_one (xs := xs) (f := f) (by omega)
  have a3 := W_le hx (f := f + 1) (l := l) (by omega) h2
  have a4 := stp_tri (getD_nn hx f) (getD_nn hx (f + 1)) (getD_nn hx l)
  omega
theorem gd_right {xs : List Int} (hx : ∀ x ∈ xs, 0 ≤ x) {f l : Nat} (h1 : f + 1 < l) (h2 : l < xs.length) (h : gd xs f l = true) : gd xs f (l - 1) = true := by
  have h := of_decide_eq_true h
  refine decide_eq_true ?_
  have a1 := W_add (xs := xs) (f := f) (m := l - 1) (l := l) (by omega) (by omega) h2
  have a2 := W_one (xs := xs) (f := l - 1) (by omega)
  rw [show l - 1 + 1 = l by omega] at a2
  have a3 := W_le hx (f := f) (l := l - 1) (by omega) (by omega)
  have a4 := stp_tri (getD_nn hx f) (getD_nn hx (l - 1)) (getD_nn hx l)
  omega
/-- .. is that the sum stays -/
theorem gd_rest {xs : List Int} {f l : Nat} (h1 : f ≤ l) (h2 : l < xs.length) : gd xs f l = decide (sumS (xs.take (f + 1) ++ xs.drop (max (f + 1) l)) = sumS xs) := by
  unfold gd
  by_cases e : f = l
  · subst e
    rw [W_self h2, stp_self, show max (f + 1) f = f + 1 by omega, List.take_append_drop]
    simp
  · rw [show max (f + 1) l = l by omega]
    have c1 := cut_at (xs := xs) (k := f) (by omega)
    have c2 := cut_at (xs := xs.drop f) (k := l - f) (by rw [List.length_drop]; omega)
    rw [List.drop_drop, show f + (l - f) = l by omega, show l - f + 1 = l + 1 - f by omega] at c2
    have e1 : xs.take (f + 1) = xs.take f ++ [xs[f]] := (List.take_append_getElem (by omega)).symm
    have c3 : sumS (xs.take (f + 1) ++ xs.drop l) = sumS (xs.take (f + 1)) + (stp xs[f] xs[l] + sumS (xs.drop l)) := by
      rw [e1, List.append_assoc, List.singleton_append, glue, List.drop_eq_getElem_cons h2, sumS_c]
    rw [c3, c1, c2]
    have g1 : xs.getD f 0 = xs[f] := by rw [List.getD_eq_getElem?_getD, List.getElem?_eq_getElem (by omega)]; rfl
    have g2 : xs.getD l 0 = xs[l] := by rw [List.getD_eq_getElem?_getD, List.getElem?_eq_getElem h2]; rfl
    rw [g1, g2]
    unfold W row
    congr 1
    apply propext
    constructor <;> intro h <;> omega
/-! ### the two conditions -/
theorem prs_ix : ∀ xs : List Int, prs xs = (List.range (xs.length - 1)).map fun k => (xs.getD k 0, xs.getD (k + 1) 0)
  | [] => rfl
  | [a] => rfl
  | a :: b :: l => by
    have ih := prs_ix (b :: l)
    rw [show prs (a :: b :: l) = (a, b) :: prs (b :: l) from rfl, ih, show (a :: b :: l).length - 1 = l.length + 1 from rfl, List.range_succ_eq_map, List.map_cons, List.map_map]
    rfl
theorem sum_dns (a : Int) (l : List Int) : sumS (a :: l) = (a :: l).getLast?.getD 0 - a + ((dns (a :: l)).map fun k => (a :: l).getD k 0).sum := by
  have h := sum_id a l
  rw [prs_ix, List.filter_map, List.map_map] at h
  exact h
theorem dns_lt {xs : List Int} {k : Nat} (h : k ∈ dns xs) : k + 1 < xs.length ∧ xs.getD (k + 1) 0 < xs.getD k 0 := by
  obtain ⟨h1, h2⟩ := List.mem_filter.mp h
  have := List.mem_range.mp h1
  exact ⟨by omega, of_decide_eq_true h2⟩
theorem dns_head {xs : List Int} {k : Nat} {l : List Nat} (h : dns xs = k :: l) : ∀ j, j ≤ k → xs.getD 0 0 ≤ xs.getD j 0
  | 0, _ => Int.le_refl _
  | j + 1, hj => by
    have ih := dns_head h j (by omega)
    have hk := (dns_lt (xs := xs) (k := k) (by rw [h]; simp)).1
    have hp : (dns xs).Pairwise (· < ·) := List.Pairwise.filter _ List.pairwise_lt_range
    have nj : j ∉ dns xs := fun hm => by
      rw [h] at hp hm
      rcases List.mem_cons.mp hm with e | hm
      · omega
      · have := (List.pairwise_cons.mp hp).1 j hm
        omega
    by_cases z : xs.getD (j + 1) 0 < xs.getD j 0
    · exact absurd (List.mem_filter.mpr ⟨List.mem_range.mpr (by omega), decide_eq_true z⟩) nj
    · omega
theorem sum_pos {α : Type} (g : α → Int) : ∀ {l : List α}, (∀ x ∈ l, 1 ≤ g x) → (l.length : Int) ≤ (l.map g).sum
  | [], _ => by simp
  | a :: l, h => by
    have := sum_pos g (l := l) fun x hx => h x (List.mem_cons_of_mem _ hx)
    have := h a (by simp)
    rw [List.map_cons, List.sum_cons, List.length_cons]
    omega
/-- never a fall; or one, from the first value's height, to an end below it -/
def okC (xs : List Int) : Bool := match dns xs with
  | [] => true
  | [k] => decide (xs.getD k 0 = xs.getD 0 0) && decide (xs.getLast?.getD 0 < xs.getD 0 0)
  | _ => false
theorem okC_eq {a : Int} {l : List Int} (hx : ∀ x ∈ a :: l, 0 ≤ x) : okC (a :: l) = decide (sumS (a :: l) = stp a ((a :: l).getLast?.getD 0)) := by
  have sd := sum_dns a l
  have g0 : (a :: l).getD 0 0 = a := rfl
  have pos : ∀ k ∈ dns (a :: l), 1 ≤ (a :: l).getD k 0 := fun k hk => by
    have := (dns_lt hk).2
    have := getD_nn hx (k + 1)
    omega
  have sn : 0 ≤ sumS (a :: l) := by
    have := W_le hx (f := 0) (l := l.length) (by omega) (by simp)
    have e : W (a :: l) 0 l.length = sumS (a :: l) := by
      unfold W row
      rw [List.drop_zero, Nat.sub_zero, List.take_of_length_le (by simp)]
    rw [e] at this
    exact Int.le_trans (stp_nn (getD_nn hx _) (getD_nn hx _)) this
  generalize hz : (a :: l).getLast?.getD 0 = z at sd ⊢
  unfold okC
  rw [hz, g0]
  have hd : ∀ k l', dns (a :: l) = k :: l' → ∀ j, j ≤ k → a ≤ (a :: l).getD j 0 := fun k l' h => dns_head (xs := a :: l) h
  generalize dns (a :: l) = ds at sd pos hd ⊢
  match ds, sd, pos, hd with
  | [], sd, pos, hd =>
    simp only [List.map_nil, List.sum_nil, Int.add_zero] at sd
    refine (decide_eq_true ?_).symm
    unfold stp
    rw [if_pos (by omega), sd]
  | [k], sd, pos, hd =>
    have p1 := pos k (by simp)
    have h1 := hd _ _ rfl k (Nat.le_refl _)
    simp only [List.map_cons, List.map_nil, List.sum_cons, List.sum_nil, Int.add_zero] at sd
    show (decide ((a :: l).getD k 0 = a) && decide (z < a)) = _
    rw [← Bool.decide_and]
    congr 1
    apply propext
    unfold stp
    constructor
    · rintro ⟨e1, e2⟩
      rw [if_neg (by omega)]
      omega
    · intro h
      split at h <;> constructor <;> omega
  | k :: j :: r, sd, pos, hd =>
    have p1 := pos k (by simp)
    have h1 := hd _ _ rfl k (Nat.le_refl _)
    have p2 := sum_pos (fun k => (a :: l).getD k 0) (l := j :: r) fun x hx => pos x (List.mem_cons_of_mem _ hx)
    rw [List.length_cons] at p2
    rw [List.map_cons, List.sum_cons] at sd
    refine (decide_eq_false fun h => ?_).symm
    unfold stp at h
    split at h <;> omega
theorem row_cons {xs : List Int} {f l : Nat} (h1 : f ≤ l) (h2 : l < xs.length) : ∃ a r, row xs f l = a :: r ∧ a = xs.getD f 0 ∧ (row xs f l).getLast?.getD 0 = xs.getD l 0 ∧ (row xs f l).length = l + 1 - f := by
  have hl : (row xs f l).length = l + 1 - f := by unfold row; rw [List.length_take, List.length_drop]; omega
  refine ⟨xs[f], (xs.drop (f + 1)).take (l - f), ?_, ?_, ?_, hl⟩
  · unfold row
    rw [List.drop_eq_getElem_cons (by omega), show l + 1 - f = (l - f) + 1 by omega, List.take_succ_cons]
  · rw [List.getD_eq_getElem?_getD, List.getElem?_eq_getElem (by omega)]; rfl
  · rw [List.getLast?_eq_getElem?, hl]
    unfold row
    rw [List.getElem?_take_of_lt (by omega), List.getElem?_drop, show f + (l + 1 - f - 1) = l by omega]
    rfl
theorem okC_gd {xs : List Int} (hx : ∀ x ∈ xs, 0 ≤ x) {f l : Nat} (h1 : f ≤ l) (h2 : l < xs.length) : okC (row xs f l) = gd xs f l := by
  obtain ⟨a, r, e, ea, ez, _⟩ := row_cons h1 h2
  have hr : ∀ x ∈ row xs f l, 0 ≤ x := fun x hm => hx x (List.mem_of_mem_drop (List.mem_of_mem_take hm))
  have h := okC_eq (a := a) (l := r) (by rw [← e]; exact hr)
  rw [← e, ez, ea] at h
  exact h
end

/-! ### the machine's sides -/
section
open PySem Rc
theorem cut_mid (ds : List D) {a b : Nat} (h : a ≤ b) : cutD ds (some (a : Int)) (some (b : Int)) = (ds.drop a).take (b - a) := by
  unfold cutD
  have e1 : HT.sIx ds.length 0 (some (a : Int)) = min a ds.length := by
    unfold HT.sIx
    simp
    omega
  have e2 : HT.sIx ds.length ds.length (some (b : Int)) = min b ds.length := by
    unfold HT.sIx
    simp
    omega
  rw [e1, e2]
  by_cases ha : a ≤ ds.length
  · rw [Nat.min_eq_left ha]
    by_cases hb : b ≤ ds.length
    · rw [Nat.min_eq_left hb]
    · rw [Nat.min_eq_right (by omega), List.take_of_length_le (by rw [List.length_drop]; omega), List.take_of_length_le (by rw [List.length_drop]; omega)]
  · rw [Nat.min_eq_right (by omega), List.drop_of_length_le (by omega), List.drop_of_length_le (by omega), List.take_nil, List.take_nil]
theorem ixm {xs : List Int} (h : xs ≠ []) {k : Sv → Prop} : op2 dIx (.list (xs.map PyData.int)) (.int (-1)) k = k (.val (.int (xs.getLast?.getD 0))) := by
  rw [op_ixL, atI_neg, List.getLast?_map]
  cases e : xs.getLast? with
  | none => exact absurd (List.getLast?_eq_none_iff.mp e) h
  | some x => simp
theorem ixz {xs : List Int} (h : xs ≠ []) {k : Sv → Prop} : op2 dIx (.list (xs.map PyData.int)) (.int 0) k = k (.val (.int (xs.getD 0 0))) := by
  have := List.length_pos_iff.mpr h
  rw [ixL (f := PyData.int) 0 (by omega) (by omega)]
  rfl
theorem mapFalls {xs : List Int} : (dns xs).map (fun k : Nat => PyData.int (1 + (k : Int))) = ((dns xs).map fun k : Nat => (1 + (k : Int))).map PyData.int := by rw [List.map_map]; rfl
theorem falls_lc {xs : List Int} : List.map (fun k : Nat => PyData.int (1 + (k : Int))) (List.filter (fun a => decide (xs.getD (a + 1) 0 < xs.getD a 0)) (List.range (xs.length - 1))) = ((dns xs).map fun k : Nat => (1 + (k : Int))).map PyData.int := by
  rw [List.map_map]
  rfl
theorem row_ne {xs : List Int} {f l : Nat} (h1 : f ≤ l) (h2 : l < xs.length) : row xs f l ≠ [] := by
  obtain ⟨a, r, e, _⟩ := row_cons h1 h2
  rw [e]
  exact fun z => by cases z
theorem loses_rt {xs : List Int} (hx : ∀ x ∈ xs, 0 ≤ x) (hl : xs.length ≤ 1000) {f l : Nat} (h1 : f ≤ l) (h2 : l < xs.length) {s0 : Sv} (hs : s0 = .ow (xs.map PyData.int) ∨ s0 = .val (.list (xs.map PyData.int))) (Q : Sv → Sl → Prop) :
    Rt (F_loses_nothing [s0, .val (.int (f : Int)), .val (.int (l : Int))]) Q = Q (.val (.bool (gd xs f l))) [s0, .val (.int (f : Int)), .val (.int (l : Int))] := by
  refine Rt_eq (ret_of ?_)
  have cm : cutD (xs.map PyData.int) (some (f : Int)) (some ((l : Int) + 1)) = (row xs f l).map PyData.int := by
    rw [show (l : Int) + 1 = ((l + 1 : Nat) : Int) by omega, cut_mid _ (by omega), row, List.map_take, List.map_drop]
  have h := row_ne h1 h2
  have rl : (row xs f l).length ≤ 1000 := by
    obtain ⟨_, _, _, _, _, e⟩ := row_cons h1 h2
    rw [e]; omega
  rw [← okC_gd hx h1 h2]
  have pos := List.length_pos_iff.mpr h
  unfold F_loses_nothing B_loses_nothing
  rcases hs with rfl | rfl
  all_goals
    simp -implicitDefEqProofs only [cm, ↓Ok_ok, ↓Ok_bind, ↓Ok_seq, ↓thenS_nx, ↓thenS_rt, ↓thenS_bk, ↓thenS_ct, ↓Ok_sIf, ↓Ok_pass, ↓Ok_ret, ↓Ok_setk, ↓Ok_park, ↓Ok_par3k, ↓Ok_drop, ↓Ok_for, ↓Ok_while, ↓Ok_unpk, ↓Ok_callk, ↓Ok_tryC, ↓Tr_x, ↓Tr_r, ↓nmk_s, ↓muk_n, ↓muk_c, ↓mu2_s, ↓mu2_v, ↓mu2_o, ↓zrk_n, ↓zrk_c, ↓rs_h, ↓rs_v, ↓rs_o, hd_v, hd_o, hd_u, mh_n, mh_c, ↓Rt_fnk,
  ↓sg_z, ↓sg_s, ↓sw_z, ↓sw_s, ↓td_val, ↓td_ow, ↓Ok_eLit, ↓kp_val, ↓kp_ow, ↓Ok_eV, ↓Ok_op1e, ↓Ok_op1v, ↓Ok_op2ee, ↓Ok_op2ve, ↓Ok_op2ev, ↓Ok_op2vv, ↓op_add, ↓op_addL, ↓op_addT, ↓op_addI, ↓op_subI, ↓op_addB, ↓op_subB, ↓op_sub, ↓op_mul, ↓op_mod, ↓op_div, ↓op_pow, ↓op_lt, ↓op_le, ↓op_gt, ↓op_ge, ↓op_eqI, ↓op_neI, ↓op_neg, ↓op_isN, ↓op_notN, ↓op_lenL, ↓op_lenT,
  ↓op_isi_i, ↓op_isi_b, ↓op_isi_l, ↓op_isi_t, ↓op_isi_n, ↓op_isi_s, ↓op_abs, ↓op_max2, ↓op_min2, ↓op_tupL, ↓op_tupT, ↓op_lstL, ↓op_lstT, ↓ix_0, ↓ix_1, ↓ix_2, ↓ix_3, ↓tx_0, ↓tx_1, ↓tx_2, ↓tx_3, ↓Ok_datum, ↓Ok_evL0, ↓Ok_evLc, ↓Ok_eTup, ↓Ok_eLst, ↓bk_b, ↓Ok_tB, ↓Ok_eB, ↓Ok_tNot, ↓Ok_tAnd, ↓Ok_tOr, ↓Ok_eAnd, ↓Ok_eOr, ↓Ok_eIf, ↓fk_i, ↓fk_b, ↓fk_n, ↓Ok_evSe, ↓Ok_evSv, ↓ck2_b, ↓Ok_eChain,
  ↓pk_n, ↓pk_t, ↓pk_l, ↓pks_n, ↓pks_c, ↓vk_val, ↓vk_ow, ↓rvk_val, ↓rvk_ow, ↓Ok_retV, ↓augk_val, ↓Ok_augk, ↓nk_i, ↓Ok_setIx, ↓ixk_0, ↓ixk_1, ↓ixk_2, ↓apk_ow, ↓owk_ow, ↓Ok_app, ↓ak_n, ↓ak_d, ↓ak_b, ↓gk_n, ↓gk_l, ↓gk_r, ↓zk_n, ↓zk_l, ↓zk_r, ↓sgm_z, ↓sgm_s, ↓mk2_v, ↓mk2_o, ↓ik_z, ↓ik_n, ↓ik_s, ↓uk_z, ↓uk_s, ↓rtk_rt, ↓rtk_nx, ↓nok_n, ↓nok_v, ↓nok_o,
  ↓afk_nx, ↓afk_ct, ↓afk_bk, ↓afk_rt, ↓dk_l, ↓dk_t, ↓Ok_evPn, ↓Ok_evPs, ↓Ok_cutek, ↓Ok_cutv, ↓op_cutL, ↓op_cutT, ↓Ok_wSeq, ↓rk_i, ↓Ok_wRng1, ↓Ok_wRng2, ↓Ok_wEnum, ↓Ok_wZip2, ↓Ok_wZip3, ↓Ok_wN, ↓wk_n, ↓wk_c, ↓op_isB, ↓op_isNB, ↓dkk_d, ↓vk_dki, ↓lkk_s, ↓Ok_newK, ↓Ok_dlen, ↓Ok_dsorted, ↓Ok_dget, ↓Ok_dgetD, ↓Ok_dput,
  okArg_v, okArg_o, ↓Ok_tYes, nc_0, nc_1, nc_2, nc_3, nc_4, not_true_eq_false, not_false_eq_true, isN, List.length_cons, List.length_nil, Nat.zero_add, Nat.reduceAdd, List.mem_cons, List.not_mem_nil, decide_eq_true_eq, Bool.not_eq_true', decide_eq_false_iff_not, Bool.not_true, Bool.not_false, Bool.false_eq_true, if_true, if_false, true_and, and_true, or_false, or_true, true_or, reduceCtorEq, Nat.reduceEqDiff, and_self, decide_true, decide_false, Int.reduceLT, Int.reduceLE, Int.reduceEq, Int.reduceToNat, Int.reducePow, Int.reduceAdd, Int.reduceSub, Int.reduceMul, Int.reduceNeg, Int.reduceMod, Int.reduceDiv, Nat.reduceLeDiff, Nat.reduceLT, false_or, or_self, and_false, false_and]
    generalize row xs f l = ys at h rl pos
    have iz := fun k => ixz h (k := k)
    have im := fun k => ixm h (k := k)
    have sh := shaped_ints (ns := (dns ys).map fun k : Nat => (1 + (k : Int)))
    have dl : ∀ k ∈ dns ys, k + 1 < ys.length := fun k hk => (dns_lt hk).1
    refine Ok_lcF (List.range (ys.length - 1)) (fun k : Nat => .int (1 + (k : Int))) (fun k => ys.getD (k + 1) 0 < ys.getD k 0) (fun k : Nat => .int (1 + (k : Int))) ?_
    simp -implicitDefEqProofs only [List.length_map, ↓Ok_ok, ↓Ok_bind, ↓Ok_seq, ↓thenS_nx, ↓thenS_rt, ↓thenS_bk, ↓thenS_ct, ↓Ok_sIf, ↓Ok_pass, ↓Ok_ret, ↓Ok_setk, ↓Ok_park, ↓Ok_par3k, ↓Ok_drop, ↓Ok_for, ↓Ok_while, ↓Ok_unpk, ↓Ok_callk, ↓Ok_tryC, ↓Tr_x, ↓Tr_r, ↓nmk_s, ↓muk_n, ↓muk_c, ↓mu2_s, ↓mu2_v, ↓mu2_o, ↓zrk_n, ↓zrk_c, ↓rs_h, ↓rs_v, ↓rs_o, hd_v, hd_o, hd_u, mh_n, mh_c, ↓Rt_fnk,
  ↓sg_z, ↓sg_s, ↓sw_z, ↓sw_s, ↓td_val, ↓td_ow, ↓Ok_eLit, ↓kp_val, ↓kp_ow, ↓Ok_eV, ↓Ok_op1e, ↓Ok_op1v, ↓Ok_op2ee, ↓Ok_op2ve, ↓Ok_op2ev, ↓Ok_op2vv, ↓op_add, ↓op_addL, ↓op_addT, ↓op_addI, ↓op_subI, ↓op_addB, ↓op_subB, ↓op_sub, ↓op_mul, ↓op_mod, ↓op_div, ↓op_pow, ↓op_lt, ↓op_le, ↓op_gt, ↓op_ge, ↓op_eqI, ↓op_neI, ↓op_neg, ↓op_isN, ↓op_notN, ↓op_lenL, ↓op_lenT,
  ↓op_isi_i, ↓op_isi_b, ↓op_isi_l, ↓op_isi_t, ↓op_isi_n, ↓op_isi_s, ↓op_abs, ↓op_max2, ↓op_min2, ↓op_tupL, ↓op_tupT, ↓op_lstL, ↓op_lstT, ↓ix_0, ↓ix_1, ↓ix_2, ↓ix_3, ↓tx_0, ↓tx_1, ↓tx_2, ↓tx_3, ↓Ok_datum, ↓Ok_evL0, ↓Ok_evLc, ↓Ok_eTup, ↓Ok_eLst, ↓bk_b, ↓Ok_tB, ↓Ok_eB, ↓Ok_tNot, ↓Ok_tAnd, ↓Ok_tOr, ↓Ok_eAnd, ↓Ok_eOr, ↓Ok_eIf, ↓fk_i, ↓fk_b, ↓fk_n, ↓Ok_evSe, ↓Ok_evSv, ↓ck2_b, ↓Ok_eChain,
  ↓pk_n, ↓pk_t, ↓pk_l, ↓pks_n, ↓pks_c, ↓vk_val, ↓vk_ow, ↓rvk_val, ↓rvk_ow, ↓Ok_retV, ↓augk_val, ↓Ok_augk, ↓nk_i, ↓Ok_setIx, ↓ixk_0, ↓ixk_1, ↓ixk_2, ↓apk_ow, ↓owk_ow, ↓Ok_app, ↓ak_n, ↓ak_d, ↓ak_b, ↓gk_n, ↓gk_l, ↓gk_r, ↓zk_n, ↓zk_l, ↓zk_r, ↓sgm_z, ↓sgm_s, ↓mk2_v, ↓mk2_o, ↓ik_z, ↓ik_n, ↓ik_s, ↓uk_z, ↓uk_s, ↓rtk_rt, ↓rtk_nx, ↓nok_n, ↓nok_v, ↓nok_o,
  ↓afk_nx, ↓afk_ct, ↓afk_bk, ↓afk_rt, ↓dk_l, ↓dk_t, ↓Ok_evPn, ↓Ok_evPs, ↓Ok_cutek, ↓Ok_cutv, ↓op_cutL, ↓op_cutT, ↓Ok_wSeq, ↓rk_i, ↓Ok_wRng1, ↓Ok_wRng2, ↓Ok_wEnum, ↓Ok_wZip2, ↓Ok_wZip3, ↓Ok_wN, ↓wk_n, ↓wk_c, ↓op_isB, ↓op_isNB, ↓dkk_d, ↓vk_dki, ↓lkk_s, ↓Ok_newK, ↓Ok_dlen, ↓Ok_dsorted, ↓Ok_dget, ↓Ok_dgetD, ↓Ok_dput,
  okArg_v, okArg_o, ↓Ok_tYes, nc_0, nc_1, nc_2, nc_3, nc_4, not_true_eq_false, not_false_eq_true, isN, List.length_cons, List.length_nil, Nat.zero_add, Nat.reduceAdd, List.mem_cons, List.not_mem_nil, decide_eq_true_eq, Bool.not_eq_true', decide_eq_false_iff_not, Bool.not_true, Bool.not_false, Bool.false_eq_true, if_true, if_false, true_and, and_true, or_false, or_true, true_or, reduceCtorEq, Nat.reduceEqDiff, and_self, decide_true, decide_false, Int.reduceLT, Int.reduceLE, Int.reduceEq, Int.reduceToNat, Int.reducePow, Int.reduceAdd, Int.reduceSub, Int.reduceMul, Int.reduceNeg, Int.reduceMod, Int.reduceDiv, Nat.reduceLeDiff, Nat.reduceLT, false_or, or_self, and_false, false_and]
    refine ⟨by omega, ?_, ⟨ckT_eq.mpr trivial, fun k hk => ?_⟩, ?_⟩
    · rw [numsD_map, show ((ys.length : Int) - 1).toNat = ys.length - 1 by omega]
    · have hk := List.mem_range.mp hk
      unfold itemt
      simp -implicitDefEqProofs only [↓ixL 0 (show (0 : Int) ≤ 1 + (k : Int) by omega) (show 1 + (k : Int) < ys.length by omega), ↓ixL 0 (show (0 : Int) ≤ 1 + (k : Int) - 1 by omega) (show 1 + (k : Int) - 1 < ys.length by omega), ↓Ok_ok, ↓Ok_bind, ↓Ok_seq, ↓thenS_nx, ↓thenS_rt, ↓thenS_bk, ↓thenS_ct, ↓Ok_sIf, ↓Ok_pass, ↓Ok_ret, ↓Ok_setk, ↓Ok_park, ↓Ok_par3k, ↓Ok_drop, ↓Ok_for, ↓Ok_while, ↓Ok_unpk, ↓Ok_callk, ↓Ok_tryC, ↓Tr_x, ↓Tr_r, ↓nmk_s, ↓muk_n, ↓muk_c, ↓mu2_s, ↓mu2_v, ↓mu2_o, ↓zrk_n, ↓zrk_c, ↓rs_h, ↓rs_v, ↓rs_o, hd_v, hd_o, hd_u, mh_n, mh_c, ↓Rt_fnk,
  ↓sg_z, ↓sg_s, ↓sw_z, ↓sw_s, ↓td_val, ↓td_ow, ↓Ok_eLit, ↓kp_val, ↓kp_ow, ↓Ok_eV, ↓Ok_op1e, ↓Ok_op1v, ↓Ok_op2ee, ↓Ok_op2ve, ↓Ok_op2ev, ↓Ok_op2vv, ↓op_add, ↓op_addL, ↓op_addT, ↓op_addI, ↓op_subI, ↓op_addB, ↓op_subB, ↓op_sub, ↓op_mul, ↓op_mod, ↓op_div, ↓op_pow, ↓op_lt, ↓op_le, ↓op_gt, ↓op_ge, ↓op_eqI, ↓op_neI, ↓op_neg, ↓op_isN, ↓op_notN, ↓op_lenL, ↓op_lenT,
  ↓op_isi_i, ↓op_isi_b, ↓op_isi_l, ↓op_isi_t, ↓op_isi_n, ↓op_isi_s, ↓op_abs, ↓op_max2, ↓op_min2, ↓op_tupL, ↓op_tupT, ↓op_lstL, ↓op_lstT, ↓ix_0, ↓ix_1, ↓ix_2, ↓ix_3, ↓tx_0, ↓tx_1, ↓tx_2, ↓tx_3, ↓Ok_datum, ↓Ok_evL0, ↓Ok_evLc, ↓Ok_eTup, ↓Ok_eLst, ↓bk_b, ↓Ok_tB, ↓Ok_eB, ↓Ok_tNot, ↓Ok_tAnd, ↓Ok_tOr, ↓Ok_eAnd, ↓Ok_eOr, ↓Ok_eIf, ↓fk_i, ↓fk_b, ↓fk_n, ↓Ok_evSe, ↓Ok_evSv, ↓ck2_b, ↓Ok_eChain,
  ↓pk_n, ↓pk_t, ↓pk_l, ↓pks_n, ↓pks_c, ↓vk_val, ↓vk_ow, ↓rvk_val, ↓rvk_ow, ↓Ok_retV, ↓augk_val, ↓Ok_augk, ↓nk_i, ↓Ok_setIx, ↓ixk_0, ↓ixk_1, ↓ixk_2, ↓apk_ow, ↓owk_ow, ↓Ok_app, ↓ak_n, ↓ak_d, ↓ak_b, ↓gk_n, ↓gk_l, ↓gk_r, ↓zk_n, ↓zk_l, ↓zk_r, ↓sgm_z, ↓sgm_s, ↓mk2_v, ↓mk2_o, ↓ik_z, ↓ik_n, ↓ik_s, ↓uk_z, ↓uk_s, ↓rtk_rt, ↓rtk_nx, ↓nok_n, ↓nok_v, ↓nok_o,
  ↓afk_nx, ↓afk_ct, ↓afk_bk, ↓afk_rt, ↓dk_l, ↓dk_t, ↓Ok_evPn, ↓Ok_evPs, ↓Ok_cutek, ↓Ok_cutv, ↓op_cutL, ↓op_cutT, ↓Ok_wSeq, ↓rk_i, ↓Ok_wRng1, ↓Ok_wRng2, ↓Ok_wEnum, ↓Ok_wZip2, ↓Ok_wZip3, ↓Ok_wN, ↓wk_n, ↓wk_c, ↓op_isB, ↓op_isNB, ↓dkk_d, ↓vk_dki, ↓lkk_s, ↓Ok_newK, ↓Ok_dlen, ↓Ok_dsorted, ↓Ok_dget, ↓Ok_dgetD, ↓Ok_dput,
  okArg_v, okArg_o, ↓Ok_tYes, nc_0, nc_1, nc_2, nc_3, nc_4, not_true_eq_false, not_false_eq_true, isN, List.length_cons, List.length_nil, Nat.zero_add, Nat.reduceAdd, List.mem_cons, List.not_mem_nil, decide_eq_true_eq, Bool.not_eq_true', decide_eq_false_iff_not, Bool.not_true, Bool.not_false, Bool.false_eq_true, if_true, if_false, true_and, and_true, or_false, or_true, true_or, reduceCtorEq, Nat.reduceEqDiff, and_self, decide_true, decide_false, Int.reduceLT, Int.reduceLE, Int.reduceEq, Int.reduceToNat, Int.reducePow, Int.reduceAdd, Int.reduceSub, Int.reduceMul, Int.reduceNeg, Int.reduceMod, Int.reduceDiv, Nat.reduceLeDiff, Nat.reduceLT, false_or, or_self, and_false, false_and]
      rw [show (1 + (k : Int)).toNat = k + 1 by omega, show (1 + (k : Int) - 1).toNat = k by omega]
      by_cases h : ys.getD (k + 1) 0 < ys.getD k 0 <;> simp [h]
    · rw [falls_lc]
      unfold okC
      generalize dns ys = ds at sh dl
      match ds, sh, dl with
      | [], sh, dl => simp -implicitDefEqProofs only [↓op_eq_e sh, List.map_nil, List.isEmpty_nil, ↓Ok_ok, ↓Ok_bind, ↓Ok_seq, ↓thenS_nx, ↓thenS_rt, ↓thenS_bk, ↓thenS_ct, ↓Ok_sIf, ↓Ok_pass, ↓Ok_ret, ↓Ok_setk, ↓Ok_park, ↓Ok_par3k, ↓Ok_drop, ↓Ok_for, ↓Ok_while, ↓Ok_unpk, ↓Ok_callk, ↓Ok_tryC, ↓Tr_x, ↓Tr_r, ↓nmk_s, ↓muk_n, ↓muk_c, ↓mu2_s, ↓mu2_v, ↓mu2_o, ↓zrk_n, ↓zrk_c, ↓rs_h, ↓rs_v, ↓rs_o, hd_v, hd_o, hd_u, mh_n, mh_c, ↓Rt_fnk,
  ↓sg_z, ↓sg_s, ↓sw_z, ↓sw_s, ↓td_val, ↓td_ow, ↓Ok_eLit, ↓kp_val, ↓kp_ow, ↓Ok_eV, ↓Ok_op1e, ↓Ok_op1v, ↓Ok_op2ee, ↓Ok_op2ve, ↓Ok_op2ev, ↓Ok_op2vv, ↓op_add, ↓op_addL, ↓op_addT, ↓op_addI, ↓op_subI, ↓op_addB, ↓op_subB, ↓op_sub, ↓op_mul, ↓op_mod, ↓op_div, ↓op_pow, ↓op_lt, ↓op_le, ↓op_gt, ↓op_ge, ↓op_eqI, ↓op_neI, ↓op_neg, ↓op_isN, ↓op_notN, ↓op_lenL, ↓op_lenT,
  ↓op_isi_i, ↓op_isi_b, ↓op_isi_l, ↓op_isi_t, ↓op_isi_n, ↓op_isi_s, ↓op_abs, ↓op_max2, ↓op_min2, ↓op_tupL, ↓op_tupT, ↓op_lstL, ↓op_lstT, ↓ix_0, ↓ix_1, ↓ix_2, ↓ix_3, ↓tx_0, ↓tx_1, ↓tx_2, ↓tx_3, ↓Ok_datum, ↓Ok_evL0, ↓Ok_evLc, ↓Ok_eTup, ↓Ok_eLst, ↓bk_b, ↓Ok_tB, ↓Ok_eB, ↓Ok_tNot, ↓Ok_tAnd, ↓Ok_tOr, ↓Ok_eAnd, ↓Ok_eOr, ↓Ok_eIf, ↓fk_i, ↓fk_b, ↓fk_n, ↓Ok_evSe, ↓Ok_evSv, ↓ck2_b, ↓Ok_eChain,
  ↓pk_n, ↓pk_t, ↓pk_l, ↓pks_n, ↓pks_c, ↓vk_val, ↓vk_ow, ↓rvk_val, ↓rvk_ow, ↓Ok_retV, ↓augk_val, ↓Ok_augk, ↓nk_i, ↓Ok_setIx, ↓ixk_0, ↓ixk_1, ↓ixk_2, ↓apk_ow, ↓owk_ow, ↓Ok_app, ↓ak_n, ↓ak_d, ↓ak_b, ↓gk_n, ↓gk_l, ↓gk_r, ↓zk_n, ↓zk_l, ↓zk_r, ↓sgm_z, ↓sgm_s, ↓mk2_v, ↓mk2_o, ↓ik_z, ↓ik_n, ↓ik_s, ↓uk_z, ↓uk_s, ↓rtk_rt, ↓rtk_nx, ↓nok_n, ↓nok_v, ↓nok_o,
  ↓afk_nx, ↓afk_ct, ↓afk_bk, ↓afk_rt, ↓dk_l, ↓dk_t, ↓Ok_evPn, ↓Ok_evPs, ↓Ok_cutek, ↓Ok_cutv, ↓op_cutL, ↓op_cutT, ↓Ok_wSeq, ↓rk_i, ↓Ok_wRng1, ↓Ok_wRng2, ↓Ok_wEnum, ↓Ok_wZip2, ↓Ok_wZip3, ↓Ok_wN, ↓wk_n, ↓wk_c, ↓op_isB, ↓op_isNB, ↓dkk_d, ↓vk_dki, ↓lkk_s, ↓Ok_newK, ↓Ok_dlen, ↓Ok_dsorted, ↓Ok_dget, ↓Ok_dgetD, ↓Ok_dput,
  okArg_v, okArg_o, ↓Ok_tYes, nc_0, nc_1, nc_2, nc_3, nc_4, not_true_eq_false, not_false_eq_true, isN, List.length_cons, List.length_nil, Nat.zero_add, Nat.reduceAdd, List.mem_cons, List.not_mem_nil, decide_eq_true_eq, Bool.not_eq_true', decide_eq_false_iff_not, Bool.not_true, Bool.not_false, Bool.false_eq_true, if_true, if_false, true_and, and_true, or_false, or_true, true_or, reduceCtorEq, Nat.reduceEqDiff, and_self, decide_true, decide_false, Int.reduceLT, Int.reduceLE, Int.reduceEq, Int.reduceToNat, Int.reducePow, Int.reduceAdd, Int.reduceSub, Int.reduceMul, Int.reduceNeg, Int.reduceMod, Int.reduceDiv, Nat.reduceLeDiff, Nat.reduceLT, false_or, or_self, and_false, false_and]
      | [k], sh, dl =>
        have hk := dl k (by simp)
        have e1 : (1 + (k : Int) - 1).toNat = k := by omega
        simp -implicitDefEqProofs only [↓op_eq_e sh, List.map_cons, List.map_nil, List.isEmpty_cons, List.length_cons, List.length_nil, ↓iz, ↓im, ↓ixL (xs := ys) 0 (show (0 : Int) ≤ 1 + (k : Int) - 1 by omega) (show 1 + (k : Int) - 1 < ys.length by omega), e1, ↓Ok_ok, ↓Ok_bind, ↓Ok_seq, ↓thenS_nx, ↓thenS_rt, ↓thenS_bk, ↓thenS_ct, ↓Ok_sIf, ↓Ok_pass, ↓Ok_ret, ↓Ok_setk, ↓Ok_park, ↓Ok_par3k, ↓Ok_drop, ↓Ok_for, ↓Ok_while, ↓Ok_unpk, ↓Ok_callk, ↓Ok_tryC, ↓Tr_x, ↓Tr_r, ↓nmk_s, ↓muk_n, ↓muk_c, ↓mu2_s, ↓mu2_v, ↓mu2_o, ↓zrk_n, ↓zrk_c, ↓rs_h, ↓rs_v, ↓rs_o, hd_v, hd_o, hd_u, mh_n, mh_c, ↓Rt_fnk,
  ↓sg_z, ↓sg_s, ↓sw_z, ↓sw_s, ↓td_val, ↓td_ow, ↓Ok_eLit, ↓kp_val, ↓kp_ow, ↓Ok_eV, ↓Ok_op1e, ↓Ok_op1v, ↓Ok_op2ee, ↓Ok_op2ve, ↓Ok_op2ev, ↓Ok_op2vv, ↓op_add, ↓op_addL, ↓op_addT, ↓op_addI, ↓op_subI, ↓op_addB, ↓op_subB, ↓op_sub, ↓op_mul, ↓op_mod, ↓op_div, ↓op_pow, ↓op_lt, ↓op_le, ↓op_gt, ↓op_ge, ↓op_eqI, ↓op_neI, ↓op_neg, ↓op_isN, ↓op_notN, ↓op_lenL, ↓op_lenT,
  ↓op_isi_i, ↓op_isi_b, ↓op_isi_l, ↓op_isi_t, ↓op_isi_n, ↓op_isi_s, ↓op_abs, ↓op_max2, ↓op_min2, ↓op_tupL, ↓op_tupT, ↓op_lstL, ↓op_lstT, ↓ix_0, ↓ix_1, ↓ix_2, ↓ix_3, ↓tx_0, ↓tx_1, ↓tx_2, ↓tx_3, ↓Ok_datum, ↓Ok_evL0, ↓Ok_evLc, ↓Ok_eTup, ↓Ok_eLst, ↓bk_b, ↓Ok_tB, ↓Ok_eB, ↓Ok_tNot, ↓Ok_tAnd, ↓Ok_tOr, ↓Ok_eAnd, ↓Ok_eOr, ↓Ok_eIf, ↓fk_i, ↓fk_b, ↓fk_n, ↓Ok_evSe, ↓Ok_evSv, ↓ck2_b, ↓Ok_eChain,
  ↓pk_n, ↓pk_t, ↓pk_l, ↓pks_n, ↓pks_c, ↓vk_val, ↓vk_ow, ↓rvk_val, ↓rvk_ow, ↓Ok_retV, ↓augk_val, ↓Ok_augk, ↓nk_i, ↓Ok_setIx, ↓ixk_0, ↓ixk_1, ↓ixk_2, ↓apk_ow, ↓owk_ow, ↓Ok_app, ↓ak_n, ↓ak_d, ↓ak_b, ↓gk_n, ↓gk_l, ↓gk_r, ↓zk_n, ↓zk_l, ↓zk_r, ↓sgm_z, ↓sgm_s, ↓mk2_v, ↓mk2_o, ↓ik_z, ↓ik_n, ↓ik_s, ↓uk_z, ↓uk_s, ↓rtk_rt, ↓rtk_nx, ↓nok_n, ↓nok_v, ↓nok_o,
  ↓afk_nx, ↓afk_ct, ↓afk_bk, ↓afk_rt, ↓dk_l, ↓dk_t, ↓Ok_evPn, ↓Ok_evPs, ↓Ok_cutek, ↓Ok_cutv, ↓op_cutL, ↓op_cutT, ↓Ok_wSeq, ↓rk_i, ↓Ok_wRng1, ↓Ok_wRng2, ↓Ok_wEnum, ↓Ok_wZip2, ↓Ok_wZip3, ↓Ok_wN, ↓wk_n, ↓wk_c, ↓op_isB, ↓op_isNB, ↓dkk_d, ↓vk_dki, ↓lkk_s, ↓Ok_newK, ↓Ok_dlen, ↓Ok_dsorted, ↓Ok_dget, ↓Ok_dgetD, ↓Ok_dput,
  okArg_v, okArg_o, ↓Ok_tYes, nc_0, nc_1, nc_2, nc_3, nc_4, not_true_eq_false, not_false_eq_true, isN, List.length_cons, List.length_nil, Nat.zero_add, Nat.reduceAdd, List.mem_cons, List.not_mem_nil, decide_eq_true_eq, Bool.not_eq_true', decide_eq_false_iff_not, Bool.not_true, Bool.not_false, Bool.false_eq_true, if_true, if_false, true_and, and_true, or_false, or_true, true_or, reduceCtorEq, Nat.reduceEqDiff, and_self, decide_true, decide_false, Int.reduceLT, Int.reduceLE, Int.reduceEq, Int.reduceToNat, Int.reducePow, Int.reduceAdd, Int.reduceSub, Int.reduceMul, Int.reduceNeg, Int.reduceMod, Int.reduceDiv, Nat.reduceLeDiff, Nat.reduceLT, false_or, or_self, and_false, false_and]
        generalize ys.getD k 0 = u, ys.getD 0 0 = v, ys.getLast?.getD 0 = w
        by_cases z1 : u = v <;> by_cases z2 : w < v <;> simp [z1, z2] <;> try omega
      | k :: j :: r, sh, dl =>
        simp -implicitDefEqProofs only [↓op_eq_e sh, List.map_cons, List.isEmpty_cons, List.length_cons, ↓Ok_ok, ↓Ok_bind, ↓Ok_seq, ↓thenS_nx, ↓thenS_rt, ↓thenS_bk, ↓thenS_ct, ↓Ok_sIf, ↓Ok_pass, ↓Ok_ret, ↓Ok_setk, ↓Ok_park, ↓Ok_par3k, ↓Ok_drop, ↓Ok_for, ↓Ok_while, ↓Ok_unpk, ↓Ok_callk, ↓Ok_tryC, ↓Tr_x, ↓Tr_r, ↓nmk_s, ↓muk_n, ↓muk_c, ↓mu2_s, ↓mu2_v, ↓mu2_o, ↓zrk_n, ↓zrk_c, ↓rs_h, ↓rs_v, ↓rs_o, hd_v, hd_o, hd_u, mh_n, mh_c, ↓Rt_fnk,
  ↓sg_z, ↓sg_s, ↓sw_z, ↓sw_s, ↓td_val, ↓td_ow, ↓Ok_eLit, ↓kp_val, ↓kp_ow, ↓Ok_eV, ↓Ok_op1e, ↓Ok_op1v, ↓Ok_op2ee, ↓Ok_op2ve, ↓Ok_op2ev, ↓Ok_op2vv, ↓op_add, ↓op_addL, ↓op_addT, ↓op_addI, ↓op_subI, ↓op_addB, ↓op_subB, ↓op_sub, ↓op_mul, ↓op_mod, ↓op_div, ↓op_pow, ↓op_lt, ↓op_le, ↓op_gt, ↓op_ge, ↓op_eqI, ↓op_neI, ↓op_neg, ↓op_isN, ↓op_notN, ↓op_lenL, ↓op_lenT,
  ↓op_isi_i, ↓op_isi_b, ↓op_isi_l, ↓op_isi_t, ↓op_isi_n, ↓op_isi_s, ↓op_abs, ↓op_max2, ↓op_min2, ↓op_tupL, ↓op_tupT, ↓op_lstL, ↓op_lstT, ↓ix_0, ↓ix_1, ↓ix_2, ↓ix_3, ↓tx_0, ↓tx_1, ↓tx_2, ↓tx_3, ↓Ok_datum, ↓Ok_evL0, ↓Ok_evLc, ↓Ok_eTup, ↓Ok_eLst, ↓bk_b, ↓Ok_tB, ↓Ok_eB, ↓Ok_tNot, ↓Ok_tAnd, ↓Ok_tOr, ↓Ok_eAnd, ↓Ok_eOr, ↓Ok_eIf, ↓fk_i, ↓fk_b, ↓fk_n, ↓Ok_evSe, ↓Ok_evSv, ↓ck2_b, ↓Ok_eChain,
  ↓pk_n, ↓pk_t, ↓pk_l, ↓pks_n, ↓pks_c, ↓vk_val, ↓vk_ow, ↓rvk_val, ↓rvk_ow, ↓Ok_retV, ↓augk_val, ↓Ok_augk, ↓nk_i, ↓Ok_setIx, ↓ixk_0, ↓ixk_1, ↓ixk_2, ↓apk_ow, ↓owk_ow, ↓Ok_app, ↓ak_n, ↓ak_d, ↓ak_b, ↓gk_n, ↓gk_l, ↓gk_r, ↓zk_n, ↓zk_l, ↓zk_r, ↓sgm_z, ↓sgm_s, ↓mk2_v, ↓mk2_o, ↓ik_z, ↓ik_n, ↓ik_s, ↓uk_z, ↓uk_s, ↓rtk_rt, ↓rtk_nx, ↓nok_n, ↓nok_v, ↓nok_o,
  ↓afk_nx, ↓afk_ct, ↓afk_bk, ↓afk_rt, ↓dk_l, ↓dk_t, ↓Ok_evPn, ↓Ok_evPs, ↓Ok_cutek, ↓Ok_cutv, ↓op_cutL, ↓op_cutT, ↓Ok_wSeq, ↓rk_i, ↓Ok_wRng1, ↓Ok_wRng2, ↓Ok_wEnum, ↓Ok_wZip2, ↓Ok_wZip3, ↓Ok_wN, ↓wk_n, ↓wk_c, ↓op_isB, ↓op_isNB, ↓dkk_d, ↓vk_dki, ↓lkk_s, ↓Ok_newK, ↓Ok_dlen, ↓Ok_dsorted, ↓Ok_dget, ↓Ok_dgetD, ↓Ok_dput,
  okArg_v, okArg_o, ↓Ok_tYes, nc_0, nc_1, nc_2, nc_3, nc_4, not_true_eq_false, not_false_eq_true, isN, List.length_cons, List.length_nil, Nat.zero_add, Nat.reduceAdd, List.mem_cons, List.not_mem_nil, decide_eq_true_eq, Bool.not_eq_true', decide_eq_false_iff_not, Bool.not_true, Bool.not_false, Bool.false_eq_true, if_true, if_false, true_and, and_true, or_false, or_true, true_or, reduceCtorEq, Nat.reduceEqDiff, and_self, decide_true, decide_false, Int.reduceLT, Int.reduceLE, Int.reduceEq, Int.reduceToNat, Int.reducePow, Int.reduceAdd, Int.reduceSub, Int.reduceMul, Int.reduceNeg, Int.reduceMod, Int.reduceDiv, Nat.reduceLeDiff, Nat.reduceLT, false_or, or_self, and_false, false_and]
        exact ift (by omega) trivial
end

/-! ### the fewest samples kept, and in how many ways -/
section
open PySem Rc
def lay (g : Nat → Nat → Bool) (n : Nat) : Nat → List (Int × Int)
  | 0 => []
  | m + 1 => match (List.range m).filter fun j => g (n - (m + 1)) (n - m + j) with
    | [] => (1, 1) :: lay g n m
    | j :: js => (1 + (minL ((j :: js).map fun j => ((lay g n m).getD j (0, 0)).1)).getD 0,
      (((j :: js).filter fun i => decide (((lay g n m).getD i (0, 0)).1 = (minL ((j :: js).map fun j => ((lay g n m).getD j (0, 0)).1)).getD 0)).map fun i => ((lay g n m).getD i (0, 0)).2).sum) :: lay g n m
theorem lay_len (g : Nat → Nat → Bool) (n : Nat) : ∀ m, (lay g n m).length = m
  | 0 => rfl
  | m + 1 => by
    unfold lay
    split <;> simp [lay_len g n m]
theorem gd_one {xs : List Int} {f : Nat} (h : f + 1 < xs.length) : gd xs f (f + 1) = true := decide_eq_true (W_one h)
theorem op_minI {ns : List Int} {m : Int} (h : minL ns = some m) {k : Sv → Prop} : op1 dMin (.list (ns.map PyData.int)) k = k (.val (.int m)) := by
  unfold op1 dMin
  simp only [asInts_map, Option.bind_some, h, Option.map_some]
theorem ixk_nat {S : Sl} {Q : Fl → Sl → Prop} {x : Nat} {d : D} {l : List D} {i : Nat} (h : i < l.length) : ixk S x d (i : Int) Q (.ow l) = sw S x (.ow (l.set i d)) fun T => Q .nx T := by
  simp only [ixk]
  rw [ixN_nat h]
  simp
theorem Ok_wRngM {a b c : M Sv} {S : Sl} {Q : List D → Sl → Prop} : Ok (wRngM a b c S) Q = Ok (datum a S) fun p S1 => Ok (datum b S1) fun q S2 => Ok (datum c S2) fun r S3 => (match dRngM p q r with | some ds => Q ds S3 | none => False) := by
  unfold wRngM
  rw [Ok_bind]
  congr 1
  funext p S1
  rw [Ok_bind]
  congr 1
  funext q S2
  rw [Ok_bind]
  congr 1
  funext r S3
  rw [Ok_ofOpt]
  cases dRngM p q r <;> simp
abbrev fwD (n k : Nat) (ls : List (Int × Int)) : List D := List.replicate (n - 1 - k) (.int 1) ++ ls.map fun q => .int q.1
abbrev wyD (n k : Nat) (ls : List (Int × Int)) : List D := List.replicate (n - 1 - k) (.int 1) ++ ls.map fun q => .int q.2
theorem fw_at {n k : Nat} {ls : List (Int × Int)} {j : Nat} (hk : k + 1 ≤ n) (hl : ls.length = k + 1) (hj : j < k + 1) {Q : Sv → Prop} : op2 dIx (.list (fwD n k ls)) (.int ((n - 1 - k + j : Nat) : Int)) Q = Q (.val (.int (ls.getD j (0, 0)).1)) := by
  rw [op_ixL, atI_nat, List.getElem?_append_right (by simp), List.length_replicate, show n - 1 - k + j - (n - 1 - k) = j by omega, List.getElem?_map, List.getElem?_eq_getElem (by omega), List.getD_eq_getElem?_getD, List.getElem?_eq_getElem (by omega)]
  simp
theorem wy_at {n k : Nat} {ls : List (Int × Int)} {j : Nat} (hk : k + 1 ≤ n) (hl : ls.length = k + 1) (hj : j < k + 1) {Q : Sv → Prop} : op2 dIx (.list (wyD n k ls)) (.int ((n - 1 - k + j : Nat) : Int)) Q = Q (.val (.int (ls.getD j (0, 0)).2)) := by
  rw [op_ixL, atI_nat, List.getElem?_append_right (by simp), List.length_replicate, show n - 1 - k + j - (n - 1 - k) = j by omega, List.getElem?_map, List.getElem?_eq_getElem (by omega), List.getD_eq_getElem?_getD, List.getElem?_eq_getElem (by omega)]
  simp
theorem fw_set {n k : Nat} {ls : List (Int × Int)} {a b : Int} (hk : k + 1 < n) : (fwD n k ls).set (n - 1 - (k + 1)) (.int a) = fwD n (k + 1) ((a, b) :: ls) := by
  have e : n - 1 - k = (n - 1 - (k + 1)) + 1 := by omega
  unfold fwD
  rw [e, List.replicate_succ', List.set_append_left _ _ (by simp), List.set_append_right _ _ (by simp)]
  simp
theorem wy_set {n k : Nat} {ls : List (Int × Int)} {a b : Int} (hk : k + 1 < n) : (wyD n k ls).set (n - 1 - (k + 1)) (.int b) = wyD n (k + 1) ((a, b) :: ls) := by
  have e : n - 1 - k = (n - 1 - (k + 1)) + 1 := by omega
  unfold wyD
  rw [e, List.replicate_succ', List.set_append_left _ _ (by simp), List.set_append_right _ _ (by simp)]
  simp
end

section
open PySem Rc
theorem lay_next {g : Nat → Nat → Bool} {n k : Nat} {j : Nat} {js : List Nat} (h : ((List.range (k + 1)).filter fun j => g (n - 1 - (k + 1)) (n - 1 - (k + 1) + 1 + j)) = j :: js) (hk : k + 1 < n) {mn : Int} (hm : minL ((j :: js).map fun j => ((lay g n (k + 1)).getD j (0, 0)).1) = some mn) :
    lay g n (k + 1 + 1) = (1 + mn, (((j :: js).filter fun i => decide (((lay g n (k + 1)).getD i (0, 0)).1 = mn)).map fun i => ((lay g n (k + 1)).getD i (0, 0)).2).sum) :: lay g n (k + 1) := by
  have e : ((List.range (k + 1)).filter fun j => g (n - (k + 1 + 1)) (n - (k + 1) + j)) = j :: js := by
    rw [← h]
    congr 1
    funext i
    congr 1 <;> omega
  conv => lhs; unfold lay
  rw [e]
  simp only [hm, Option.getD_some]
theorem layers_f1 {xs : List Int} (hx : ∀ x ∈ xs, 0 ≤ x) (hl : xs.length ≤ 1000) {k : Nat} (hk : k + 1 < xs.length) {s0 x6 x7 : Sv} (Q : Fl → Sl → Prop)
    (h : ∀ x6 x7, Q .nx [s0, .ow (xs.map PyData.int), .val (.int (xs.length : Int)), .ow (fwD xs.length (k + 1) (lay (gd xs) xs.length (k + 2))), .ow (wyD xs.length (k + 1) (lay (gd xs) xs.length (k + 2))), .val (.int ((xs.length - 1 - (k + 1) : Nat) : Int)), x6, x7]) :
    Ok (B_layers_f1 [s0, .ow (xs.map PyData.int), .val (.int (xs.length : Int)), .ow (fwD xs.length k (lay (gd xs) xs.length (k + 1))), .ow (wyD xs.length k (lay (gd xs) xs.length (k + 1))), .val (.int ((xs.length - 1 - (k + 1) : Nat) : Int)), x6, x7]) Q := by
  obtain ⟨a, ha⟩ : ∃ a : Nat, xs.length - 1 - (k + 1) = a := ⟨_, rfl⟩
  have hn : xs.length - 1 - k = a + 1 := by omega
  have Ll := lay_len (gd xs) xs.length (k + 1)
  have jne : ∃ j js, ((List.range (k + 1)).filter fun j => gd xs a (a + 1 + j)) = j :: js := by
    have : 0 ∈ (List.range (k + 1)).filter fun j => gd xs a (a + 1 + j) := List.mem_filter.mpr ⟨List.mem_range.mpr (by omega), gd_one (by omega)⟩
    cases e : (List.range (k + 1)).filter fun j => gd xs a (a + 1 + j) with
    | nil => rw [e] at this; cases this
    | cons j js => exact ⟨j, js, rfl⟩
  obtain ⟨j, js, hj⟩ := jne
  have jlt : ∀ i ∈ j :: js, i < k + 1 := fun i hi => by
    rw [← hj] at hi
    exact List.mem_range.mp (List.mem_filter.mp hi).1
  obtain ⟨mn, hm⟩ : ∃ mn, minL ((j :: js).map fun j => ((lay (gd xs) xs.length (k + 1)).getD j (0, 0)).1) = some mn := ⟨_, rfl⟩
  have nx := lay_next (g := gd xs) (n := xs.length) (k := k) (by rw [ha]; exact hj) hk hm
  rw [nx] at h
  generalize lay (gd xs) xs.length (k + 1) = L at Ll hm h
  have f_at := fun (i : Nat) (hi : i < k + 1) Q => fw_at (n := xs.length) (ls := L) (by omega) Ll hi (Q := Q)
  rw [ha] at h ⊢
  have lo := fun (i : Nat) (hi : i < k + 1) Q => loses_rt hx hl (f := a) (l := a + 1 + i) (by omega) (by omega) (s0 := .ow (xs.map PyData.int)) (.inl rfl) Q
  unfold B_layers_f1
  simp -implicitDefEqProofs only [if_true, ↓Ok_ok, ↓Ok_bind, ↓Ok_seq, ↓thenS_nx, ↓thenS_rt, ↓thenS_bk, ↓thenS_ct, ↓Ok_sIf, ↓Ok_pass, ↓Ok_ret, ↓Ok_setk, ↓Ok_park, ↓Ok_par3k, ↓Ok_drop, ↓Ok_for, ↓Ok_while, ↓Ok_unpk, ↓Ok_callk, ↓Ok_tryC, ↓Tr_x, ↓Tr_r, ↓nmk_s, ↓muk_n, ↓muk_c, ↓mu2_s, ↓mu2_v, ↓mu2_o, ↓zrk_n, ↓zrk_c, ↓rs_h, ↓rs_v, ↓rs_o, hd_v, hd_o, hd_u, mh_n, mh_c, ↓Rt_fnk,
  ↓sg_z, ↓sg_s, ↓sw_z, ↓sw_s, ↓td_val, ↓td_ow, ↓Ok_eLit, ↓kp_val, ↓kp_ow, ↓Ok_eV, ↓Ok_op1e, ↓Ok_op1v, ↓Ok_op2ee, ↓Ok_op2ve, ↓Ok_op2ev, ↓Ok_op2vv, ↓op_add, ↓op_addL, ↓op_addT, ↓op_addI, ↓op_subI, ↓op_addB, ↓op_subB, ↓op_sub, ↓op_mul, ↓op_mod, ↓op_div, ↓op_pow, ↓op_lt, ↓op_le, ↓op_gt, ↓op_ge, ↓op_eqI, ↓op_neI, ↓op_neg, ↓op_isN, ↓op_notN, ↓op_lenL, ↓op_lenT,
  ↓op_isi_i, ↓op_isi_b, ↓op_isi_l, ↓op_isi_t, ↓op_isi_n, ↓op_isi_s, ↓op_abs, ↓op_max2, ↓op_min2, ↓op_tupL, ↓op_tupT, ↓op_lstL, ↓op_lstT, ↓ix_0, ↓ix_1, ↓ix_2, ↓ix_3, ↓tx_0, ↓tx_1, ↓tx_2, ↓tx_3, ↓Ok_datum, ↓Ok_evL0, ↓Ok_evLc, ↓Ok_eTup, ↓Ok_eLst, ↓bk_b, ↓Ok_tB, ↓Ok_eB, ↓Ok_tNot, ↓Ok_tAnd, ↓Ok_tOr, ↓Ok_eAnd, ↓Ok_eOr, ↓Ok_eIf, ↓fk_i, ↓fk_b, ↓fk_n, ↓Ok_evSe, ↓Ok_evSv, ↓ck2_b, ↓Ok_eChain,
  ↓pk_n, ↓pk_t, ↓pk_l, ↓pks_n, ↓pks_c, ↓vk_val, ↓vk_ow, ↓rvk_val, ↓rvk_ow, ↓Ok_retV, ↓augk_val, ↓Ok_augk, ↓nk_i, ↓Ok_setIx, ↓ixk_0, ↓ixk_1, ↓ixk_2, ↓apk_ow, ↓owk_ow, ↓Ok_app, ↓ak_n, ↓ak_d, ↓ak_b, ↓gk_n, ↓gk_l, ↓gk_r, ↓zk_n, ↓zk_l, ↓zk_r, ↓sgm_z, ↓sgm_s, ↓mk2_v, ↓mk2_o, ↓ik_z, ↓ik_n, ↓ik_s, ↓uk_z, ↓uk_s, ↓rtk_rt, ↓rtk_nx, ↓nok_n, ↓nok_v, ↓nok_o,
  ↓afk_nx, ↓afk_ct, ↓afk_bk, ↓afk_rt, ↓dk_l, ↓dk_t, ↓Ok_evPn, ↓Ok_evPs, ↓Ok_cutek, ↓Ok_cutv, ↓op_cutL, ↓op_cutT, ↓Ok_wSeq, ↓rk_i, ↓Ok_wRng1, ↓Ok_wRng2, ↓Ok_wEnum, ↓Ok_wZip2, ↓Ok_wZip3, ↓Ok_wN, ↓wk_n, ↓wk_c, ↓op_isB, ↓op_isNB, ↓dkk_d, ↓vk_dki, ↓lkk_s, ↓Ok_newK, ↓Ok_dlen, ↓Ok_dsorted, ↓Ok_dget, ↓Ok_dgetD, ↓Ok_dput,
  okArg_v, okArg_o, ↓Ok_tYes, nc_0, nc_1, nc_2, nc_3, nc_4, not_true_eq_false, not_false_eq_true, isN, List.length_cons, List.length_nil, Nat.zero_add, Nat.reduceAdd, List.mem_cons, List.not_mem_nil, decide_eq_true_eq, Bool.not_eq_true', decide_eq_false_iff_not, Bool.not_true, Bool.not_false, Bool.false_eq_true, if_true, if_false, true_and, and_true, or_false, or_true, true_or, reduceCtorEq, Nat.reduceEqDiff, and_self, decide_true, decide_false, Int.reduceLT, Int.reduceLE, Int.reduceEq, Int.reduceToNat, Int.reducePow, Int.reduceAdd, Int.reduceSub, Int.reduceMul, Int.reduceNeg, Int.reduceMod, Int.reduceDiv, Nat.reduceLeDiff, Nat.reduceLT, false_or, or_self, and_false, false_and]
  refine Ok_lcF (List.range (k + 1)) (fun i : Nat => .int ((a : Int) + 1 + i)) (fun i => gd xs a (a + 1 + i) = true) (fun i : Nat => .int ((a : Int) + 1 + i)) ?_
  simp -implicitDefEqProofs only [if_true, ↓Ok_ok, ↓Ok_bind, ↓Ok_seq, ↓thenS_nx, ↓thenS_rt, ↓thenS_bk, ↓thenS_ct, ↓Ok_sIf, ↓Ok_pass, ↓Ok_ret, ↓Ok_setk, ↓Ok_park, ↓Ok_par3k, ↓Ok_drop, ↓Ok_for, ↓Ok_while, ↓Ok_unpk, ↓Ok_callk, ↓Ok_tryC, ↓Tr_x, ↓Tr_r, ↓nmk_s, ↓muk_n, ↓muk_c, ↓mu2_s, ↓mu2_v, ↓mu2_o, ↓zrk_n, ↓zrk_c, ↓rs_h, ↓rs_v, ↓rs_o, hd_v, hd_o, hd_u, mh_n, mh_c, ↓Rt_fnk,
  ↓sg_z, ↓sg_s, ↓sw_z, ↓sw_s, ↓td_val, ↓td_ow, ↓Ok_eLit, ↓kp_val, ↓kp_ow, ↓Ok_eV, ↓Ok_op1e, ↓Ok_op1v, ↓Ok_op2ee, ↓Ok_op2ve, ↓Ok_op2ev, ↓Ok_op2vv, ↓op_add, ↓op_addL, ↓op_addT, ↓op_addI, ↓op_subI, ↓op_addB, ↓op_subB, ↓op_sub, ↓op_mul, ↓op_mod, ↓op_div, ↓op_pow, ↓op_lt, ↓op_le, ↓op_gt, ↓op_ge, ↓op_eqI, ↓op_neI, ↓op_neg, ↓op_isN, ↓op_notN, ↓op_lenL, ↓op_lenT,
  ↓op_isi_i, ↓op_isi_b, ↓op_isi_l, ↓op_isi_t, ↓op_isi_n, ↓op_isi_s, ↓op_abs, ↓op_max2, ↓op_min2, ↓op_tupL, ↓op_tupT, ↓op_lstL, ↓op_lstT, ↓ix_0, ↓ix_1, ↓ix_2, ↓ix_3, ↓tx_0, ↓tx_1, ↓tx_2, ↓tx_3, ↓Ok_datum, ↓Ok_evL0, ↓Ok_evLc, ↓Ok_eTup, ↓Ok_eLst, ↓bk_b, ↓Ok_tB, ↓Ok_eB, ↓Ok_tNot, ↓Ok_tAnd, ↓Ok_tOr, ↓Ok_eAnd, ↓Ok_eOr, ↓Ok_eIf, ↓fk_i, ↓fk_b, ↓fk_n, ↓Ok_evSe, ↓Ok_evSv, ↓ck2_b, ↓Ok_eChain,
  ↓pk_n, ↓pk_t, ↓pk_l, ↓pks_n, ↓pks_c, ↓vk_val, ↓vk_ow, ↓rvk_val, ↓rvk_ow, ↓Ok_retV, ↓augk_val, ↓Ok_augk, ↓nk_i, ↓Ok_setIx, ↓ixk_0, ↓ixk_1, ↓ixk_2, ↓apk_ow, ↓owk_ow, ↓Ok_app, ↓ak_n, ↓ak_d, ↓ak_b, ↓gk_n, ↓gk_l, ↓gk_r, ↓zk_n, ↓zk_l, ↓zk_r, ↓sgm_z, ↓sgm_s, ↓mk2_v, ↓mk2_o, ↓ik_z, ↓ik_n, ↓ik_s, ↓uk_z, ↓uk_s, ↓rtk_rt, ↓rtk_nx, ↓nok_n, ↓nok_v, ↓nok_o,
  ↓afk_nx, ↓afk_ct, ↓afk_bk, ↓afk_rt, ↓dk_l, ↓dk_t, ↓Ok_evPn, ↓Ok_evPs, ↓Ok_cutek, ↓Ok_cutv, ↓op_cutL, ↓op_cutT, ↓Ok_wSeq, ↓rk_i, ↓Ok_wRng1, ↓Ok_wRng2, ↓Ok_wEnum, ↓Ok_wZip2, ↓Ok_wZip3, ↓Ok_wN, ↓wk_n, ↓wk_c, ↓op_isB, ↓op_isNB, ↓dkk_d, ↓vk_dki, ↓lkk_s, ↓Ok_newK, ↓Ok_dlen, ↓Ok_dsorted, ↓Ok_dget, ↓Ok_dgetD, ↓Ok_dput,
  okArg_v, okArg_o, ↓Ok_tYes, nc_0, nc_1, nc_2, nc_3, nc_4, not_true_eq_false, not_false_eq_true, isN, List.length_cons, List.length_nil, Nat.zero_add, Nat.reduceAdd, List.mem_cons, List.not_mem_nil, decide_eq_true_eq, Bool.not_eq_true', decide_eq_false_iff_not, Bool.not_true, Bool.not_false, Bool.false_eq_true, if_true, if_false, true_and, and_true, or_false, or_true, true_or, reduceCtorEq, Nat.reduceEqDiff, and_self, decide_true, decide_false, Int.reduceLT, Int.reduceLE, Int.reduceEq, Int.reduceToNat, Int.reducePow, Int.reduceAdd, Int.reduceSub, Int.reduceMul, Int.reduceNeg, Int.reduceMod, Int.reduceDiv, Nat.reduceLeDiff, Nat.reduceLT, false_or, or_self, and_false, false_and]
  refine ⟨by omega, ?_, ⟨ckT_eq.mpr trivial, fun i hi => ?_⟩, ?_⟩
  · rw [numsD_map, show ((xs.length : Int) - ((a : Int) + 1)).toNat = k + 1 by omega]
  · have hi := List.mem_range.mp hi
    have lo := lo i hi
    rw [show ((a + 1 + i : Nat) : Int) = (a : Int) + 1 + i by omega] at lo
    unfold itemt
    simp -implicitDefEqProofs only [↓lo, ↓Ok_ok, ↓Ok_bind, ↓Ok_seq, ↓thenS_nx, ↓thenS_rt, ↓thenS_bk, ↓thenS_ct, ↓Ok_sIf, ↓Ok_pass, ↓Ok_ret, ↓Ok_setk, ↓Ok_park, ↓Ok_par3k, ↓Ok_drop, ↓Ok_for, ↓Ok_while, ↓Ok_unpk, ↓Ok_callk, ↓Ok_tryC, ↓Tr_x, ↓Tr_r, ↓nmk_s, ↓muk_n, ↓muk_c, ↓mu2_s, ↓mu2_v, ↓mu2_o, ↓zrk_n, ↓zrk_c, ↓rs_h, ↓rs_v, ↓rs_o, hd_v, hd_o, hd_u, mh_n, mh_c, ↓Rt_fnk,
  ↓sg_z, ↓sg_s, ↓sw_z, ↓sw_s, ↓td_val, ↓td_ow, ↓Ok_eLit, ↓kp_val, ↓kp_ow, ↓Ok_eV, ↓Ok_op1e, ↓Ok_op1v, ↓Ok_op2ee, ↓Ok_op2ve, ↓Ok_op2ev, ↓Ok_op2vv, ↓op_add, ↓op_addL, ↓op_addT, ↓op_addI, ↓op_subI, ↓op_addB, ↓op_subB, ↓op_sub, ↓op_mul, ↓op_mod, ↓op_div, ↓op_pow, ↓op_lt, ↓op_le, ↓op_gt, ↓op_ge, ↓op_eqI, ↓op_neI, ↓op_neg, ↓op_isN, ↓op_notN, ↓op_lenL, ↓op_lenT,
  ↓op_isi_i, ↓op_isi_b, ↓op_isi_l, ↓op_isi_t, ↓op_isi_n, ↓op_isi_s, ↓op_abs, ↓op_max2, ↓op_min2, ↓op_tupL, ↓op_tupT, ↓op_lstL, ↓op_lstT, ↓ix_0, ↓ix_1, ↓ix_2, ↓ix_3, ↓tx_0, ↓tx_1, ↓tx_2, ↓tx_3, ↓Ok_datum, ↓Ok_evL0, ↓Ok_evLc, ↓Ok_eTup, ↓Ok_eLst, ↓bk_b, ↓Ok_tB, ↓Ok_eB, ↓Ok_tNot, ↓Ok_tAnd, ↓Ok_tOr, ↓Ok_eAnd, ↓Ok_eOr, ↓Ok_eIf, ↓fk_i, ↓fk_b, ↓fk_n, ↓Ok_evSe, ↓Ok_evSv, ↓ck2_b, ↓Ok_eChain,
  ↓pk_n, ↓pk_t, ↓pk_l, ↓pks_n, ↓pks_c, ↓vk_val, ↓vk_ow, ↓rvk_val, ↓rvk_ow, ↓Ok_retV, ↓augk_val, ↓Ok_augk, ↓nk_i, ↓Ok_setIx, ↓ixk_0, ↓ixk_1, ↓ixk_2, ↓apk_ow, ↓owk_ow, ↓Ok_app, ↓ak_n, ↓ak_d, ↓ak_b, ↓gk_n, ↓gk_l, ↓gk_r, ↓zk_n, ↓zk_l, ↓zk_r, ↓sgm_z, ↓sgm_s, ↓mk2_v, ↓mk2_o, ↓ik_z, ↓ik_n, ↓ik_s, ↓uk_z, ↓uk_s, ↓rtk_rt, ↓rtk_nx, ↓nok_n, ↓nok_v, ↓nok_o,
  ↓afk_nx, ↓afk_ct, ↓afk_bk, ↓afk_rt, ↓dk_l, ↓dk_t, ↓Ok_evPn, ↓Ok_evPs, ↓Ok_cutek, ↓Ok_cutv, ↓op_cutL, ↓op_cutT, ↓Ok_wSeq, ↓rk_i, ↓Ok_wRng1, ↓Ok_wRng2, ↓Ok_wEnum, ↓Ok_wZip2, ↓Ok_wZip3, ↓Ok_wN, ↓wk_n, ↓wk_c, ↓op_isB, ↓op_isNB, ↓dkk_d, ↓vk_dki, ↓lkk_s, ↓Ok_newK, ↓Ok_dlen, ↓Ok_dsorted, ↓Ok_dget, ↓Ok_dgetD, ↓Ok_dput,
  okArg_v, okArg_o, ↓Ok_tYes, nc_0, nc_1, nc_2, nc_3, nc_4, not_true_eq_false, not_false_eq_true, isN, List.length_cons, List.length_nil, Nat.zero_add, Nat.reduceAdd, List.mem_cons, List.not_mem_nil, decide_eq_true_eq, Bool.not_eq_true', decide_eq_false_iff_not, Bool.not_true, Bool.not_false, Bool.false_eq_true, if_true, if_false, true_and, and_true, or_false, or_true, true_or, reduceCtorEq, Nat.reduceEqDiff, and_self, decide_true, decide_false, Int.reduceLT, Int.reduceLE, Int.reduceEq, Int.reduceToNat, Int.reducePow, Int.reduceAdd, Int.reduceSub, Int.reduceMul, Int.reduceNeg, Int.reduceMod, Int.reduceDiv, Nat.reduceLeDiff, Nat.reduceLT, false_or, or_self, and_false, false_and]
    by_cases z : gd xs a (a + 1 + i) = true <;> simp [z]
  · simp only [Bool.decide_eq_true, hj]
    clear hj nx lo
    generalize j :: js = J at jlt hm h
    generalize hb : ((J.filter fun i => decide ((L.getD i (0, 0)).1 = mn)).map fun i => (L.getD i (0, 0)).2).sum = b at h
    have fl : (fwD xs.length k L).length = xs.length := by simp [Ll]; omega
    have wl : (wyD xs.length k L).length = xs.length := by simp [Ll]; omega
    have f1 : ∀ i, i < k + 1 → ∀ Q, op2 dIx (.list (fwD xs.length k L)) (.int ((a : Int) + 1 + i)) Q = Q (.val (.int (L.getD i (0, 0)).1)) := fun i hi Q => by
      have := f_at i hi Q
      rwa [show ((xs.length - 1 - k + i : Nat) : Int) = (a : Int) + 1 + i by omega] at this
    have w1 : ∀ i, i < k + 1 → ∀ Q, op2 dIx (.list (wyD xs.length k L)) (.int ((a : Int) + 1 + i)) Q = Q (.val (.int (L.getD i (0, 0)).2)) := fun i hi Q => by
      have := wy_at (n := xs.length) (ls := L) (by omega) Ll hi (Q := Q)
      rwa [show ((xs.length - 1 - k + i : Nat) : Int) = (a : Int) + 1 + i by omega] at this
    have f2 : ∀ i, i < k + 1 → ∀ Q, op2 dIx (.list (fwD xs.length (k + 1) ((1 + mn, b) :: L))) (.int ((a : Int) + 1 + i)) Q = Q (.val (.int (L.getD i (0, 0)).1)) := fun i hi Q => by
      have := fw_at (n := xs.length) (k := k + 1) (ls := (1 + mn, b) :: L) (j := i + 1) (by omega) (by simp [Ll]) (by omega) (Q := Q)
      rwa [show ((xs.length - 1 - (k + 1) + (i + 1) : Nat) : Int) = (a : Int) + 1 + i by omega, List.getD_cons_succ] at this
    have f0 : ∀ Q, op2 dIx (.list (fwD xs.length (k + 1) ((1 + mn, b) :: L))) (.int (a : Int)) Q = Q (.val (.int (1 + mn))) := fun Q => by
      have := fw_at (n := xs.length) (k := k + 1) (ls := (1 + mn, b) :: L) (j := 0) (by omega) (by simp [Ll]) (by omega) (Q := Q)
      rwa [show ((xs.length - 1 - (k + 1) + 0 : Nat) : Int) = (a : Int) by omega] at this
    have fs : (fwD xs.length k L).set a (.int (1 + mn)) = fwD xs.length (k + 1) ((1 + mn, b) :: L) := by
      have := fw_set (n := xs.length) (k := k) (ls := L) (a := 1 + mn) (b := b) hk
      rwa [ha] at this
    have ws : (wyD xs.length k L).set a (.int b) = wyD xs.length (k + 1) ((1 + mn, b) :: L) := by
      have := wy_set (n := xs.length) (k := k) (ls := L) (a := 1 + mn) (b := b) hk
      rwa [ha] at this
    generalize fwD xs.length k L = fw0, wyD xs.length k L = wy0 at fl wl f1 w1 fs ws
    generalize fwD xs.length (k + 1) ((1 + mn, b) :: L) = fw2, wyD xs.length (k + 1) ((1 + mn, b) :: L) = wy2 at f2 f0 fs ws h
    refine Ok_lcM J (fun i : Nat => .int ((a : Int) + 1 + i)) (fun i : Nat => .int (L.getD i (0, 0)).1) ?_
    simp -implicitDefEqProofs only [if_true, ↓Ok_ok, ↓Ok_bind, ↓Ok_seq, ↓thenS_nx, ↓thenS_rt, ↓thenS_bk, ↓thenS_ct, ↓Ok_sIf, ↓Ok_pass, ↓Ok_ret, ↓Ok_setk, ↓Ok_park, ↓Ok_par3k, ↓Ok_drop, ↓Ok_for, ↓Ok_while, ↓Ok_unpk, ↓Ok_callk, ↓Ok_tryC, ↓Tr_x, ↓Tr_r, ↓nmk_s, ↓muk_n, ↓muk_c, ↓mu2_s, ↓mu2_v, ↓mu2_o, ↓zrk_n, ↓zrk_c, ↓rs_h, ↓rs_v, ↓rs_o, hd_v, hd_o, hd_u, mh_n, mh_c, ↓Rt_fnk,
  ↓sg_z, ↓sg_s, ↓sw_z, ↓sw_s, ↓td_val, ↓td_ow, ↓Ok_eLit, ↓kp_val, ↓kp_ow, ↓Ok_eV, ↓Ok_op1e, ↓Ok_op1v, ↓Ok_op2ee, ↓Ok_op2ve, ↓Ok_op2ev, ↓Ok_op2vv, ↓op_add, ↓op_addL, ↓op_addT, ↓op_addI, ↓op_subI, ↓op_addB, ↓op_subB, ↓op_sub, ↓op_mul, ↓op_mod, ↓op_div, ↓op_pow, ↓op_lt, ↓op_le, ↓op_gt, ↓op_ge, ↓op_eqI, ↓op_neI, ↓op_neg, ↓op_isN, ↓op_notN, ↓op_lenL, ↓op_lenT,
  ↓op_isi_i, ↓op_isi_b, ↓op_isi_l, ↓op_isi_t, ↓op_isi_n, ↓op_isi_s, ↓op_abs, ↓op_max2, ↓op_min2, ↓op_tupL, ↓op_tupT, ↓op_lstL, ↓op_lstT, ↓ix_0, ↓ix_1, ↓ix_2, ↓ix_3, ↓tx_0, ↓tx_1, ↓tx_2, ↓tx_3, ↓Ok_datum, ↓Ok_evL0, ↓Ok_evLc, ↓Ok_eTup, ↓Ok_eLst, ↓bk_b, ↓Ok_tB, ↓Ok_eB, ↓Ok_tNot, ↓Ok_tAnd, ↓Ok_tOr, ↓Ok_eAnd, ↓Ok_eOr, ↓Ok_eIf, ↓fk_i, ↓fk_b, ↓fk_n, ↓Ok_evSe, ↓Ok_evSv, ↓ck2_b, ↓Ok_eChain,
  ↓pk_n, ↓pk_t, ↓pk_l, ↓pks_n, ↓pks_c, ↓vk_val, ↓vk_ow, ↓rvk_val, ↓rvk_ow, ↓Ok_retV, ↓augk_val, ↓Ok_augk, ↓nk_i, ↓Ok_setIx, ↓ixk_0, ↓ixk_1, ↓ixk_2, ↓apk_ow, ↓owk_ow, ↓Ok_app, ↓ak_n, ↓ak_d, ↓ak_b, ↓gk_n, ↓gk_l, ↓gk_r, ↓zk_n, ↓zk_l, ↓zk_r, ↓sgm_z, ↓sgm_s, ↓mk2_v, ↓mk2_o, ↓ik_z, ↓ik_n, ↓ik_s, ↓uk_z, ↓uk_s, ↓rtk_rt, ↓rtk_nx, ↓nok_n, ↓nok_v, ↓nok_o,
  ↓afk_nx, ↓afk_ct, ↓afk_bk, ↓afk_rt, ↓dk_l, ↓dk_t, ↓Ok_evPn, ↓Ok_evPs, ↓Ok_cutek, ↓Ok_cutv, ↓op_cutL, ↓op_cutT, ↓Ok_wSeq, ↓rk_i, ↓Ok_wRng1, ↓Ok_wRng2, ↓Ok_wEnum, ↓Ok_wZip2, ↓Ok_wZip3, ↓Ok_wN, ↓wk_n, ↓wk_c, ↓op_isB, ↓op_isNB, ↓dkk_d, ↓vk_dki, ↓lkk_s, ↓Ok_newK, ↓Ok_dlen, ↓Ok_dsorted, ↓Ok_dget, ↓Ok_dgetD, ↓Ok_dput,
  okArg_v, okArg_o, ↓Ok_tYes, nc_0, nc_1, nc_2, nc_3, nc_4, not_true_eq_false, not_false_eq_true, isN, List.length_cons, List.length_nil, Nat.zero_add, Nat.reduceAdd, List.mem_cons, List.not_mem_nil, decide_eq_true_eq, Bool.not_eq_true', decide_eq_false_iff_not, Bool.not_true, Bool.not_false, Bool.false_eq_true, if_true, if_false, true_and, and_true, or_false, or_true, true_or, reduceCtorEq, Nat.reduceEqDiff, and_self, decide_true, decide_false, Int.reduceLT, Int.reduceLE, Int.reduceEq, Int.reduceToNat, Int.reducePow, Int.reduceAdd, Int.reduceSub, Int.reduceMul, Int.reduceNeg, Int.reduceMod, Int.reduceDiv, Nat.reduceLeDiff, Nat.reduceLT, false_or, or_self, and_false, false_and]
    refine ⟨rfl, ⟨ckN_eq (d := .list (J.map fun i : Nat => .int ((a : Int) + 1 + i))) rfl rfl, fun i hi => ?_⟩, ?_⟩
    · have f1 := f1 i (jlt i hi)
      unfold itemm
      simp -implicitDefEqProofs only [↓f1, ↓Ok_ok, ↓Ok_bind, ↓Ok_seq, ↓thenS_nx, ↓thenS_rt, ↓thenS_bk, ↓thenS_ct, ↓Ok_sIf, ↓Ok_pass, ↓Ok_ret, ↓Ok_setk, ↓Ok_park, ↓Ok_par3k, ↓Ok_drop, ↓Ok_for, ↓Ok_while, ↓Ok_unpk, ↓Ok_callk, ↓Ok_tryC, ↓Tr_x, ↓Tr_r, ↓nmk_s, ↓muk_n, ↓muk_c, ↓mu2_s, ↓mu2_v, ↓mu2_o, ↓zrk_n, ↓zrk_c, ↓rs_h, ↓rs_v, ↓rs_o, hd_v, hd_o, hd_u, mh_n, mh_c, ↓Rt_fnk,
  ↓sg_z, ↓sg_s, ↓sw_z, ↓sw_s, ↓td_val, ↓td_ow, ↓Ok_eLit, ↓kp_val, ↓kp_ow, ↓Ok_eV, ↓Ok_op1e, ↓Ok_op1v, ↓Ok_op2ee, ↓Ok_op2ve, ↓Ok_op2ev, ↓Ok_op2vv, ↓op_add, ↓op_addL, ↓op_addT, ↓op_addI, ↓op_subI, ↓op_addB, ↓op_subB, ↓op_sub, ↓op_mul, ↓op_mod, ↓op_div, ↓op_pow, ↓op_lt, ↓op_le, ↓op_gt, ↓op_ge, ↓op_eqI, ↓op_neI, ↓op_neg, ↓op_isN, ↓op_notN, ↓op_lenL, ↓op_lenT,
  ↓op_isi_i, ↓op_isi_b, ↓op_isi_l, ↓op_isi_t, ↓op_isi_n, ↓op_isi_s, ↓op_abs, ↓op_max2, ↓op_min2, ↓op_tupL, ↓op_tupT, ↓op_lstL, ↓op_lstT, ↓ix_0, ↓ix_1, ↓ix_2, ↓ix_3, ↓tx_0, ↓tx_1, ↓tx_2, ↓tx_3, ↓Ok_datum, ↓Ok_evL0, ↓Ok_evLc, ↓Ok_eTup, ↓Ok_eLst, ↓bk_b, ↓Ok_tB, ↓Ok_eB, ↓Ok_tNot, ↓Ok_tAnd, ↓Ok_tOr, ↓Ok_eAnd, ↓Ok_eOr, ↓Ok_eIf, ↓fk_i, ↓fk_b, ↓fk_n, ↓Ok_evSe, ↓Ok_evSv, ↓ck2_b, ↓Ok_eChain,
  ↓pk_n, ↓pk_t, ↓pk_l, ↓pks_n, ↓pks_c, ↓vk_val, ↓vk_ow, ↓rvk_val, ↓rvk_ow, ↓Ok_retV, ↓augk_val, ↓Ok_augk, ↓nk_i, ↓Ok_setIx, ↓ixk_0, ↓ixk_1, ↓ixk_2, ↓apk_ow, ↓owk_ow, ↓Ok_app, ↓ak_n, ↓ak_d, ↓ak_b, ↓gk_n, ↓gk_l, ↓gk_r, ↓zk_n, ↓zk_l, ↓zk_r, ↓sgm_z, ↓sgm_s, ↓mk2_v, ↓mk2_o, ↓ik_z, ↓ik_n, ↓ik_s, ↓uk_z, ↓uk_s, ↓rtk_rt, ↓rtk_nx, ↓nok_n, ↓nok_v, ↓nok_o,
  ↓afk_nx, ↓afk_ct, ↓afk_bk, ↓afk_rt, ↓dk_l, ↓dk_t, ↓Ok_evPn, ↓Ok_evPs, ↓Ok_cutek, ↓Ok_cutv, ↓op_cutL, ↓op_cutT, ↓Ok_wSeq, ↓rk_i, ↓Ok_wRng1, ↓Ok_wRng2, ↓Ok_wEnum, ↓Ok_wZip2, ↓Ok_wZip3, ↓Ok_wN, ↓wk_n, ↓wk_c, ↓op_isB, ↓op_isNB, ↓dkk_d, ↓vk_dki, ↓lkk_s, ↓Ok_newK, ↓Ok_dlen, ↓Ok_dsorted, ↓Ok_dget, ↓Ok_dgetD, ↓Ok_dput,
  okArg_v, okArg_o, ↓Ok_tYes, nc_0, nc_1, nc_2, nc_3, nc_4, not_true_eq_false, not_false_eq_true, isN, List.length_cons, List.length_nil, Nat.zero_add, Nat.reduceAdd, List.mem_cons, List.not_mem_nil, decide_eq_true_eq, Bool.not_eq_true', decide_eq_false_iff_not, Bool.not_true, Bool.not_false, Bool.false_eq_true, if_true, if_false, true_and, and_true, or_false, or_true, true_or, reduceCtorEq, Nat.reduceEqDiff, and_self, decide_true, decide_false, Int.reduceLT, Int.reduceLE, Int.reduceEq, Int.reduceToNat, Int.reducePow, Int.reduceAdd, Int.reduceSub, Int.reduceMul, Int.reduceNeg, Int.reduceMod, Int.reduceDiv, Nat.reduceLeDiff, Nat.reduceLT, false_or, or_self, and_false, false_and]
    · have e1 : J.map (fun i => PyData.int (L.getD i (0, 0)).1) = (J.map fun i => (L.getD i (0, 0)).1).map PyData.int := by rw [List.map_map]; rfl
      rw [e1]
      simp -implicitDefEqProofs only [↓op_minI hm, ↓ixk_nat (show a < fw0.length by omega), fs, ↓Ok_ok, ↓Ok_bind, ↓Ok_seq, ↓thenS_nx, ↓thenS_rt, ↓thenS_bk, ↓thenS_ct, ↓Ok_sIf, ↓Ok_pass, ↓Ok_ret, ↓Ok_setk, ↓Ok_park, ↓Ok_par3k, ↓Ok_drop, ↓Ok_for, ↓Ok_while, ↓Ok_unpk, ↓Ok_callk, ↓Ok_tryC, ↓Tr_x, ↓Tr_r, ↓nmk_s, ↓muk_n, ↓muk_c, ↓mu2_s, ↓mu2_v, ↓mu2_o, ↓zrk_n, ↓zrk_c, ↓rs_h, ↓rs_v, ↓rs_o, hd_v, hd_o, hd_u, mh_n, mh_c, ↓Rt_fnk,
  ↓sg_z, ↓sg_s, ↓sw_z, ↓sw_s, ↓td_val, ↓td_ow, ↓Ok_eLit, ↓kp_val, ↓kp_ow, ↓Ok_eV, ↓Ok_op1e, ↓Ok_op1v, ↓Ok_op2ee, ↓Ok_op2ve, ↓Ok_op2ev, ↓Ok_op2vv, ↓op_add, ↓op_addL, ↓op_addT, ↓op_addI, ↓op_subI, ↓op_addB, ↓op_subB, ↓op_sub, ↓op_mul, ↓op_mod, ↓op_div, ↓op_pow, ↓op_lt, ↓op_le, ↓op_gt, ↓op_ge, ↓op_eqI, ↓op_neI, ↓op_neg, ↓op_isN, ↓op_notN, ↓op_lenL, ↓op_lenT,
  ↓op_isi_i, ↓op_isi_b, ↓op_isi_l, ↓op_isi_t, ↓op_isi_n, ↓op_isi_s, ↓op_abs, ↓op_max2, ↓op_min2, ↓op_tupL, ↓op_tupT, ↓op_lstL, ↓op_lstT, ↓ix_0, ↓ix_1, ↓ix_2, ↓ix_3, ↓tx_0, ↓tx_1, ↓tx_2, ↓tx_3, ↓Ok_datum, ↓Ok_evL0, ↓Ok_evLc, ↓Ok_eTup, ↓Ok_eLst, ↓bk_b, ↓Ok_tB, ↓Ok_eB, ↓Ok_tNot, ↓Ok_tAnd, ↓Ok_tOr, ↓Ok_eAnd, ↓Ok_eOr, ↓Ok_eIf, ↓fk_i, ↓fk_b, ↓fk_n, ↓Ok_evSe, ↓Ok_evSv, ↓ck2_b, ↓Ok_eChain,
  ↓pk_n, ↓pk_t, ↓pk_l, ↓pks_n, ↓pks_c, ↓vk_val, ↓vk_ow, ↓rvk_val, ↓rvk_ow, ↓Ok_retV, ↓augk_val, ↓Ok_augk, ↓nk_i, ↓Ok_setIx, ↓ixk_0, ↓ixk_1, ↓ixk_2, ↓apk_ow, ↓owk_ow, ↓Ok_app, ↓ak_n, ↓ak_d, ↓ak_b, ↓gk_n, ↓gk_l, ↓gk_r, ↓zk_n, ↓zk_l, ↓zk_r, ↓sgm_z, ↓sgm_s, ↓mk2_v, ↓mk2_o, ↓ik_z, ↓ik_n, ↓ik_s, ↓uk_z, ↓uk_s, ↓rtk_rt, ↓rtk_nx, ↓nok_n, ↓nok_v, ↓nok_o,
  ↓afk_nx, ↓afk_ct, ↓afk_bk, ↓afk_rt, ↓dk_l, ↓dk_t, ↓Ok_evPn, ↓Ok_evPs, ↓Ok_cutek, ↓Ok_cutv, ↓op_cutL, ↓op_cutT, ↓Ok_wSeq, ↓rk_i, ↓Ok_wRng1, ↓Ok_wRng2, ↓Ok_wEnum, ↓Ok_wZip2, ↓Ok_wZip3, ↓Ok_wN, ↓wk_n, ↓wk_c, ↓op_isB, ↓op_isNB, ↓dkk_d, ↓vk_dki, ↓lkk_s, ↓Ok_newK, ↓Ok_dlen, ↓Ok_dsorted, ↓Ok_dget, ↓Ok_dgetD, ↓Ok_dput,
  okArg_v, okArg_o, ↓Ok_tYes, nc_0, nc_1, nc_2, nc_3, nc_4, not_true_eq_false, not_false_eq_true, isN, List.length_cons, List.length_nil, Nat.zero_add, Nat.reduceAdd, List.mem_cons, List.not_mem_nil, decide_eq_true_eq, Bool.not_eq_true', decide_eq_false_iff_not, Bool.not_true, Bool.not_false, Bool.false_eq_true, if_true, if_false, true_and, and_true, or_false, or_true, true_or, reduceCtorEq, Nat.reduceEqDiff, and_self, decide_true, decide_false, Int.reduceLT, Int.reduceLE, Int.reduceEq, Int.reduceToNat, Int.reducePow, Int.reduceAdd, Int.reduceSub, Int.reduceMul, Int.reduceNeg, Int.reduceMod, Int.reduceDiv, Nat.reduceLeDiff, Nat.reduceLT, false_or, or_self, and_false, false_and]
      refine Ok_lcF J (fun i : Nat => .int ((a : Int) + 1 + i)) (fun i => (L.getD i (0, 0)).1 = mn) (fun i : Nat => .int (L.getD i (0, 0)).2) ?_
      simp -implicitDefEqProofs only [if_true, ↓Ok_ok, ↓Ok_bind, ↓Ok_seq, ↓thenS_nx, ↓thenS_rt, ↓thenS_bk, ↓thenS_ct, ↓Ok_sIf, ↓Ok_pass, ↓Ok_ret, ↓Ok_setk, ↓Ok_park, ↓Ok_par3k, ↓Ok_drop, ↓Ok_for, ↓Ok_while, ↓Ok_unpk, ↓Ok_callk, ↓Ok_tryC, ↓Tr_x, ↓Tr_r, ↓nmk_s, ↓muk_n, ↓muk_c, ↓mu2_s, ↓mu2_v, ↓mu2_o, ↓zrk_n, ↓zrk_c, ↓rs_h, ↓rs_v, ↓rs_o, hd_v, hd_o, hd_u, mh_n, mh_c, ↓Rt_fnk,
  ↓sg_z, ↓sg_s, ↓sw_z, ↓sw_s, ↓td_val, ↓td_ow, ↓Ok_eLit, ↓kp_val, ↓kp_ow, ↓Ok_eV, ↓Ok_op1e, ↓Ok_op1v, ↓Ok_op2ee, ↓Ok_op2ve, ↓Ok_op2ev, ↓Ok_op2vv, ↓op_add, ↓op_addL, ↓op_addT, ↓op_addI, ↓op_subI, ↓op_addB, ↓op_subB, ↓op_sub, ↓op_mul, ↓op_mod, ↓op_div, ↓op_pow, ↓op_lt, ↓op_le, ↓op_gt, ↓op_ge, ↓op_eqI, ↓op_neI, ↓op_neg, ↓op_isN, ↓op_notN, ↓op_lenL, ↓op_lenT,
  ↓op_isi_i, ↓op_isi_b, ↓op_isi_l, ↓op_isi_t, ↓op_isi_n, ↓op_isi_s, ↓op_abs, ↓op_max2, ↓op_min2, ↓op_tupL, ↓op_tupT, ↓op_lstL, ↓op_lstT, ↓ix_0, ↓ix_1, ↓ix_2, ↓ix_3, ↓tx_0, ↓tx_1, ↓tx_2, ↓tx_3, ↓Ok_datum, ↓Ok_evL0, ↓Ok_evLc, ↓Ok_eTup, ↓Ok_eLst, ↓bk_b, ↓Ok_tB, ↓Ok_eB, ↓Ok_tNot, ↓Ok_tAnd, ↓Ok_tOr, ↓Ok_eAnd, ↓Ok_eOr, ↓Ok_eIf, ↓fk_i, ↓fk_b, ↓fk_n, ↓Ok_evSe, ↓Ok_evSv, ↓ck2_b, ↓Ok_eChain,
  ↓pk_n, ↓pk_t, ↓pk_l, ↓pks_n, ↓pks_c, ↓vk_val, ↓vk_ow, ↓rvk_val, ↓rvk_ow, ↓Ok_retV, ↓augk_val, ↓Ok_augk, ↓nk_i, ↓Ok_setIx, ↓ixk_0, ↓ixk_1, ↓ixk_2, ↓apk_ow, ↓owk_ow, ↓Ok_app, ↓ak_n, ↓ak_d, ↓ak_b, ↓gk_n, ↓gk_l, ↓gk_r, ↓zk_n, ↓zk_l, ↓zk_r, ↓sgm_z, ↓sgm_s, ↓mk2_v, ↓mk2_o, ↓ik_z, ↓ik_n, ↓ik_s, ↓uk_z, ↓uk_s, ↓rtk_rt, ↓rtk_nx, ↓nok_n, ↓nok_v, ↓nok_o,
  ↓afk_nx, ↓afk_ct, ↓afk_bk, ↓afk_rt, ↓dk_l, ↓dk_t, ↓Ok_evPn, ↓Ok_evPs, ↓Ok_cutek, ↓Ok_cutv, ↓op_cutL, ↓op_cutT, ↓Ok_wSeq, ↓rk_i, ↓Ok_wRng1, ↓Ok_wRng2, ↓Ok_wEnum, ↓Ok_wZip2, ↓Ok_wZip3, ↓Ok_wN, ↓wk_n, ↓wk_c, ↓op_isB, ↓op_isNB, ↓dkk_d, ↓vk_dki, ↓lkk_s, ↓Ok_newK, ↓Ok_dlen, ↓Ok_dsorted, ↓Ok_dget, ↓Ok_dgetD, ↓Ok_dput,
  okArg_v, okArg_o, ↓Ok_tYes, nc_0, nc_1, nc_2, nc_3, nc_4, not_true_eq_false, not_false_eq_true, isN, List.length_cons, List.length_nil, Nat.zero_add, Nat.reduceAdd, List.mem_cons, List.not_mem_nil, decide_eq_true_eq, Bool.not_eq_true', decide_eq_false_iff_not, Bool.not_true, Bool.not_false, Bool.false_eq_true, if_true, if_false, true_and, and_true, or_false, or_true, true_or, reduceCtorEq, Nat.reduceEqDiff, and_self, decide_true, decide_false, Int.reduceLT, Int.reduceLE, Int.reduceEq, Int.reduceToNat, Int.reducePow, Int.reduceAdd, Int.reduceSub, Int.reduceMul, Int.reduceNeg, Int.reduceMod, Int.reduceDiv, Nat.reduceLeDiff, Nat.reduceLT, false_or, or_self, and_false, false_and]
      refine ⟨rfl, ⟨ckN_eq (d := .list (J.map fun i : Nat => .int ((a : Int) + 1 + i))) rfl rfl, fun i hi => ?_⟩, ?_⟩
      · have f2 := f2 i (jlt i hi)
        have w1 := w1 i (jlt i hi)
        have e2 : (1 + mn - 1 : Int) = mn := by omega
        unfold itemt
        simp -implicitDefEqProofs only [↓f2, ↓f0, ↓w1, e2, ↓Ok_ok, ↓Ok_bind, ↓Ok_seq, ↓thenS_nx, ↓thenS_rt, ↓thenS_bk, ↓thenS_ct, ↓Ok_sIf, ↓Ok_pass, ↓Ok_ret, ↓Ok_setk, ↓Ok_park, ↓Ok_par3k, ↓Ok_drop, ↓Ok_for, ↓Ok_while, ↓Ok_unpk, ↓Ok_callk, ↓Ok_tryC, ↓Tr_x, ↓Tr_r, ↓nmk_s, ↓muk_n, ↓muk_c, ↓mu2_s, ↓mu2_v, ↓mu2_o, ↓zrk_n, ↓zrk_c, ↓rs_h, ↓rs_v, ↓rs_o, hd_v, hd_o, hd_u, mh_n, mh_c, ↓Rt_fnk,
  ↓sg_z, ↓sg_s, ↓sw_z, ↓sw_s, ↓td_val, ↓td_ow, ↓Ok_eLit, ↓kp_val, ↓kp_ow, ↓Ok_eV, ↓Ok_op1e, ↓Ok_op1v, ↓Ok_op2ee, ↓Ok_op2ve, ↓Ok_op2ev, ↓Ok_op2vv, ↓op_add, ↓op_addL, ↓op_addT, ↓op_addI, ↓op_subI, ↓op_addB, ↓op_subB, ↓op_sub, ↓op_mul, ↓op_mod, ↓op_div, ↓op_pow, ↓op_lt, ↓op_le, ↓op_gt, ↓op_ge, ↓op_eqI, ↓op_neI, ↓op_neg, ↓op_isN, ↓op_notN, ↓op_lenL, ↓op_lenT,
  ↓op_isi_i, ↓op_isi_b, ↓op_isi_l, ↓op_isi_t, ↓op_isi_n, ↓op_isi_s, ↓op_abs, ↓op_max2, ↓op_min2, ↓op_tupL, ↓op_tupT, ↓op_lstL, ↓op_lstT, ↓ix_0, ↓ix_1, ↓ix_2, ↓ix_3, ↓tx_0, ↓tx_1, ↓tx_2, ↓tx_3, ↓Ok_datum, ↓Ok_evL0, ↓Ok_evLc, ↓Ok_eTup, ↓Ok_eLst, ↓bk_b, ↓Ok_tB, ↓Ok_eB, ↓Ok_tNot, ↓Ok_tAnd, ↓Ok_tOr, ↓Ok_eAnd, ↓Ok_eOr, ↓Ok_eIf, ↓fk_i, ↓fk_b, ↓fk_n, ↓Ok_evSe, ↓Ok_evSv, ↓ck2_b, ↓Ok_eChain,
  ↓pk_n, ↓pk_t, ↓pk_l, ↓pks_n, ↓pks_c, ↓vk_val, ↓vk_ow, ↓rvk_val, ↓rvk_ow, ↓Ok_retV, ↓augk_val, ↓Ok_augk, ↓nk_i, ↓Ok_setIx, ↓ixk_0, ↓ixk_1, ↓ixk_2, ↓apk_ow, ↓owk_ow, ↓Ok_app, ↓ak_n, ↓ak_d, ↓ak_b, ↓gk_n, ↓gk_l, ↓gk_r, ↓zk_n, ↓zk_l, ↓zk_r, ↓sgm_z, ↓sgm_s, ↓mk2_v, ↓mk2_o, ↓ik_z, ↓ik_n, ↓ik_s, ↓uk_z, ↓uk_s, ↓rtk_rt, ↓rtk_nx, ↓nok_n, ↓nok_v, ↓nok_o,
  ↓afk_nx, ↓afk_ct, ↓afk_bk, ↓afk_rt, ↓dk_l, ↓dk_t, ↓Ok_evPn, ↓Ok_evPs, ↓Ok_cutek, ↓Ok_cutv, ↓op_cutL, ↓op_cutT, ↓Ok_wSeq, ↓rk_i, ↓Ok_wRng1, ↓Ok_wRng2, ↓Ok_wEnum, ↓Ok_wZip2, ↓Ok_wZip3, ↓Ok_wN, ↓wk_n, ↓wk_c, ↓op_isB, ↓op_isNB, ↓dkk_d, ↓vk_dki, ↓lkk_s, ↓Ok_newK, ↓Ok_dlen, ↓Ok_dsorted, ↓Ok_dget, ↓Ok_dgetD, ↓Ok_dput,
  okArg_v, okArg_o, ↓Ok_tYes, nc_0, nc_1, nc_2, nc_3, nc_4, not_true_eq_false, not_false_eq_true, isN, List.length_cons, List.length_nil, Nat.zero_add, Nat.reduceAdd, List.mem_cons, List.not_mem_nil, decide_eq_true_eq, Bool.not_eq_true', decide_eq_false_iff_not, Bool.not_true, Bool.not_false, Bool.false_eq_true, if_true, if_false, true_and, and_true, or_false, or_true, true_or, reduceCtorEq, Nat.reduceEqDiff, and_self, decide_true, decide_false, Int.reduceLT, Int.reduceLE, Int.reduceEq, Int.reduceToNat, Int.reducePow, Int.reduceAdd, Int.reduceSub, Int.reduceMul, Int.reduceNeg, Int.reduceMod, Int.reduceDiv, Nat.reduceLeDiff, Nat.reduceLT, false_or, or_self, and_false, false_and]
        by_cases z : (L.getD i (0, 0)).1 = mn <;> simp [z]
      · have e3 : (J.filter fun i => decide ((L.getD i (0, 0)).1 = mn)).map (fun i => PyData.int (L.getD i (0, 0)).2) = ((J.filter fun i => decide ((L.getD i (0, 0)).1 = mn)).map fun i => (L.getD i (0, 0)).2).map PyData.int := by rw [List.map_map]; rfl
        rw [e3]
        simp -implicitDefEqProofs only [↓op_sumL, hb, ↓ixk_nat (show a < wy0.length by omega), ws, ↓Ok_ok, ↓Ok_bind, ↓Ok_seq, ↓thenS_nx, ↓thenS_rt, ↓thenS_bk, ↓thenS_ct, ↓Ok_sIf, ↓Ok_pass, ↓Ok_ret, ↓Ok_setk, ↓Ok_park, ↓Ok_par3k, ↓Ok_drop, ↓Ok_for, ↓Ok_while, ↓Ok_unpk, ↓Ok_callk, ↓Ok_tryC, ↓Tr_x, ↓Tr_r, ↓nmk_s, ↓muk_n, ↓muk_c, ↓mu2_s, ↓mu2_v, ↓mu2_o, ↓zrk_n, ↓zrk_c, ↓rs_h, ↓rs_v, ↓rs_o, hd_v, hd_o, hd_u, mh_n, mh_c, ↓Rt_fnk,
  ↓sg_z, ↓sg_s, ↓sw_z, ↓sw_s, ↓td_val, ↓td_ow, ↓Ok_eLit, ↓kp_val, ↓kp_ow, ↓Ok_eV, ↓Ok_op1e, ↓Ok_op1v, ↓Ok_op2ee, ↓Ok_op2ve, ↓Ok_op2ev, ↓Ok_op2vv, ↓op_add, ↓op_addL, ↓op_addT, ↓op_addI, ↓op_subI, ↓op_addB, ↓op_subB, ↓op_sub, ↓op_mul, ↓op_mod, ↓op_div, ↓op_pow, ↓op_lt, ↓op_le, ↓op_gt, ↓op_ge, ↓op_eqI, ↓op_neI, ↓op_neg, ↓op_isN, ↓op_notN, ↓op_lenL, ↓op_lenT,
  ↓op_isi_i, ↓op_isi_b, ↓op_isi_l, ↓op_isi_t, ↓op_isi_n, ↓op_isi_s, ↓op_abs, ↓op_max2, ↓op_min2, ↓op_tupL, ↓op_tupT, ↓op_lstL, ↓op_lstT, ↓ix_0, ↓ix_1, ↓ix_2, ↓ix_3, ↓tx_0, ↓tx_1, ↓tx_2, ↓tx_3, ↓Ok_datum, ↓Ok_evL0, ↓Ok_evLc, ↓Ok_eTup, ↓Ok_eLst, ↓bk_b, ↓Ok_tB, ↓Ok_eB, ↓Ok_tNot, ↓Ok_tAnd, ↓Ok_tOr, ↓Ok_eAnd, ↓Ok_eOr, ↓Ok_eIf, ↓fk_i, ↓fk_b, ↓fk_n, ↓Ok_evSe, ↓Ok_evSv, ↓ck2_b, ↓Ok_eChain,
  ↓pk_n, ↓pk_t, ↓pk_l, ↓pks_n, ↓pks_c, ↓vk_val, ↓vk_ow, ↓rvk_val, ↓rvk_ow, ↓Ok_retV, ↓augk_val, ↓Ok_augk, ↓nk_i, ↓Ok_setIx, ↓ixk_0, ↓ixk_1, ↓ixk_2, ↓apk_ow, ↓owk_ow, ↓Ok_app, ↓ak_n, ↓ak_d, ↓ak_b, ↓gk_n, ↓gk_l, ↓gk_r, ↓zk_n, ↓zk_l, ↓zk_r, ↓sgm_z, ↓sgm_s, ↓mk2_v, ↓mk2_o, ↓ik_z, ↓ik_n, ↓ik_s, ↓uk_z, ↓uk_s, ↓rtk_rt, ↓rtk_nx, ↓nok_n, ↓nok_v, ↓nok_o,
  ↓afk_nx, ↓afk_ct, ↓afk_bk, ↓afk_rt, ↓dk_l, ↓dk_t, ↓Ok_evPn, ↓Ok_evPs, ↓Ok_cutek, ↓Ok_cutv, ↓op_cutL, ↓op_cutT, ↓Ok_wSeq, ↓rk_i, ↓Ok_wRng1, ↓Ok_wRng2, ↓Ok_wEnum, ↓Ok_wZip2, ↓Ok_wZip3, ↓Ok_wN, ↓wk_n, ↓wk_c, ↓op_isB, ↓op_isNB, ↓dkk_d, ↓vk_dki, ↓lkk_s, ↓Ok_newK, ↓Ok_dlen, ↓Ok_dsorted, ↓Ok_dget, ↓Ok_dgetD, ↓Ok_dput,
  okArg_v, okArg_o, ↓Ok_tYes, nc_0, nc_1, nc_2, nc_3, nc_4, not_true_eq_false, not_false_eq_true, isN, List.length_cons, List.length_nil, Nat.zero_add, Nat.reduceAdd, List.mem_cons, List.not_mem_nil, decide_eq_true_eq, Bool.not_eq_true', decide_eq_false_iff_not, Bool.not_true, Bool.not_false, Bool.false_eq_true, if_true, if_false, true_and, and_true, or_false, or_true, true_or, reduceCtorEq, Nat.reduceEqDiff, and_self, decide_true, decide_false, Int.reduceLT, Int.reduceLE, Int.reduceEq, Int.reduceToNat, Int.reducePow, Int.reduceAdd, Int.reduceSub, Int.reduceMul, Int.reduceNeg, Int.reduceMod, Int.reduceDiv, Nat.reduceLeDiff, Nat.reduceLT, false_or, or_self, and_false, false_and]
        exact h ..
end

section
open PySem Rc
theorem vals_nn {s : Smp} (g : Sm s) : ∀ x ∈ vals s, 0 ≤ x := fun x hx => by
  obtain ⟨q, hq, rfl⟩ := List.mem_map.mp hx
  exact (g.at_ q hq).2.1
theorem vals_len (s : Smp) : (vals s).length = s.length := by rw [vals, List.length_map]
theorem op_rep1 {d : D} {k : Int} (h0 : 0 ≤ k) (h1 : k ≤ 100000) {Q : Sv → Prop} : op2 dMulA (.list [d]) (.int k) Q = Q (.ow (List.replicate k.toNat d)) := by
  have e : repD k.toNat [d] = List.replicate k.toNat d := by
    unfold repD
    generalize k.toNat = n
    induction n with
    | zero => rfl
    | succ n ih => rw [List.replicate_succ, List.flatten_cons, ih]; rfl
  unfold op2 dMulA
  simp only [List.length_cons, List.length_nil]
  rw [if_pos ⟨h0, h1, by decide⟩, e]
theorem numsM_get {lo : Int} {n i : Nat} {d : D} (h : (numsM lo n)[i]? = some d) : i < n ∧ d = .int (lo - i) := by
  unfold numsM at h
  rw [List.getElem?_map] at h
  cases e : (List.range n)[i]? with
  | none => rw [e] at h; cases h
  | some j =>
    rw [e] at h
    have hi := (List.getElem?_eq_some_iff.mp e).1
    rw [List.getElem?_eq_getElem hi, List.getElem_range] at e
    cases e
    exact ⟨by simpa using hi, (Option.some.inj h).symm⟩
theorem lay_1 (g : Nat → Nat → Bool) (n : Nat) : lay g n 1 = [(1, 1)] := rfl
theorem fw_start {n : Nat} (h : 0 < n) : fwD n 0 [(1, 1)] = List.replicate n (.int 1) := by
  unfold fwD
  rw [show n - 1 - 0 = n - 1 by omega, show ([(1, 1)].map fun q : Int × Int => PyData.int q.1) = [.int 1] from rfl, ← List.replicate_succ', show n - 1 + 1 = n by omega]
theorem wy_start {n : Nat} (h : 0 < n) : wyD n 0 [(1, 1)] = List.replicate n (.int 1) := by
  unfold wyD
  rw [show n - 1 - 0 = n - 1 by omega, show ([(1, 1)].map fun q : Int × Int => PyData.int q.2) = [.int 1] from rfl, ← List.replicate_succ', show n - 1 + 1 = n by omega]
/-- what layers tells -/
def lys (s : Smp) : List (Int × Int) := lay (gd (vals s)) s.length s.length
theorem layers_rt {s : Smp} (g : Sm s) (ne : 0 < s.length) (Q : Sv → Sl → Prop) :
    Rt (F_layers [.val (smD s)]) Q = Q (.val (.tuple [.list ((lys s).map fun q => .int q.1), .list ((lys s).map fun q => .int q.2)])) [.val (smD s)] := by
  refine Rt_eq (ret_of ?_)
  have l40 := g.len
  have ll := vals_len s
  have l1 := fun Q => op_rep1 (d := .int 1) (k := (s.length : Int)) (by omega) (by omega) (Q := Q)
  unfold F_layers B_layers
  simp -implicitDefEqProofs only [↓values_rt, List.length_map, ll, ↓l1, Int.toNat_natCast, ↓Ok_wRngM, ↓Ok_ok, ↓Ok_bind, ↓Ok_seq, ↓thenS_nx, ↓thenS_rt, ↓thenS_bk, ↓thenS_ct, ↓Ok_sIf, ↓Ok_pass, ↓Ok_ret, ↓Ok_setk, ↓Ok_park, ↓Ok_par3k, ↓Ok_drop, ↓Ok_for, ↓Ok_while, ↓Ok_unpk, ↓Ok_callk, ↓Ok_tryC, ↓Tr_x, ↓Tr_r, ↓nmk_s, ↓muk_n, ↓muk_c, ↓mu2_s, ↓mu2_v, ↓mu2_o, ↓zrk_n, ↓zrk_c, ↓rs_h, ↓rs_v, ↓rs_o, hd_v, hd_o, hd_u, mh_n, mh_c, ↓Rt_fnk,
  ↓sg_z, ↓sg_s, ↓sw_z, ↓sw_s, ↓td_val, ↓td_ow, ↓Ok_eLit, ↓kp_val, ↓kp_ow, ↓Ok_eV, ↓Ok_op1e, ↓Ok_op1v, ↓Ok_op2ee, ↓Ok_op2ve, ↓Ok_op2ev, ↓Ok_op2vv, ↓op_add, ↓op_addL, ↓op_addT, ↓op_addI, ↓op_subI, ↓op_addB, ↓op_subB, ↓op_sub, ↓op_mul, ↓op_mod, ↓op_div, ↓op_pow, ↓op_lt, ↓op_le, ↓op_gt, ↓op_ge, ↓op_eqI, ↓op_neI, ↓op_neg, ↓op_isN, ↓op_notN, ↓op_lenL, ↓op_lenT,
  ↓op_isi_i, ↓op_isi_b, ↓op_isi_l, ↓op_isi_t, ↓op_isi_n, ↓op_isi_s, ↓op_abs, ↓op_max2, ↓op_min2, ↓op_tupL, ↓op_tupT, ↓op_lstL, ↓op_lstT, ↓ix_0, ↓ix_1, ↓ix_2, ↓ix_3, ↓tx_0, ↓tx_1, ↓tx_2, ↓tx_3, ↓Ok_datum, ↓Ok_evL0, ↓Ok_evLc, ↓Ok_eTup, ↓Ok_eLst, ↓bk_b, ↓Ok_tB, ↓Ok_eB, ↓Ok_tNot, ↓Ok_tAnd, ↓Ok_tOr, ↓Ok_eAnd, ↓Ok_eOr, ↓Ok_eIf, ↓fk_i, ↓fk_b, ↓fk_n, ↓Ok_evSe, ↓Ok_evSv, ↓ck2_b, ↓Ok_eChain,
  ↓pk_n, ↓pk_t, ↓pk_l, ↓pks_n, ↓pks_c, ↓vk_val, ↓vk_ow, ↓rvk_val, ↓rvk_ow, ↓Ok_retV, ↓augk_val, ↓Ok_augk, ↓nk_i, ↓Ok_setIx, ↓ixk_0, ↓ixk_1, ↓ixk_2, ↓apk_ow, ↓owk_ow, ↓Ok_app, ↓ak_n, ↓ak_d, ↓ak_b, ↓gk_n, ↓gk_l, ↓gk_r, ↓zk_n, ↓zk_l, ↓zk_r, ↓sgm_z, ↓sgm_s, ↓mk2_v, ↓mk2_o, ↓ik_z, ↓ik_n, ↓ik_s, ↓uk_z, ↓uk_s, ↓rtk_rt, ↓rtk_nx, ↓nok_n, ↓nok_v, ↓nok_o,
  ↓afk_nx, ↓afk_ct, ↓afk_bk, ↓afk_rt, ↓dk_l, ↓dk_t, ↓Ok_evPn, ↓Ok_evPs, ↓Ok_cutek, ↓Ok_cutv, ↓op_cutL, ↓op_cutT, ↓Ok_wSeq, ↓rk_i, ↓Ok_wRng1, ↓Ok_wRng2, ↓Ok_wEnum, ↓Ok_wZip2, ↓Ok_wZip3, ↓Ok_wN, ↓wk_n, ↓wk_c, ↓op_isB, ↓op_isNB, ↓dkk_d, ↓vk_dki, ↓lkk_s, ↓Ok_newK, ↓Ok_dlen, ↓Ok_dsorted, ↓Ok_dget, ↓Ok_dgetD, ↓Ok_dput,
  okArg_v, okArg_o, ↓Ok_tYes, nc_0, nc_1, nc_2, nc_3, nc_4, not_true_eq_false, not_false_eq_true, isN, List.length_cons, List.length_nil, Nat.zero_add, Nat.reduceAdd, List.mem_cons, List.not_mem_nil, decide_eq_true_eq, Bool.not_eq_true', decide_eq_false_iff_not, Bool.not_true, Bool.not_false, Bool.false_eq_true, if_true, if_false, true_and, and_true, or_false, or_true, true_or, reduceCtorEq, Nat.reduceEqDiff, and_self, decide_true, decide_false, Int.reduceLT, Int.reduceLE, Int.reduceEq, Int.reduceToNat, Int.reducePow, Int.reduceAdd, Int.reduceSub, Int.reduceMul, Int.reduceNeg, Int.reduceMod, Int.reduceDiv, Nat.reduceLeDiff, Nat.reduceLT, false_or, or_self, and_false, false_and]
  unfold dRngM
  simp only
  rw [if_pos ⟨trivial, decide_eq_true (by omega)⟩]
  refine for_ix _ (fun i S => ∃ x5 x6 x7, S = [.val (smD s), .ow ((vals s).map PyData.int), .val (.int (s.length : Int)), .ow (fwD s.length i (lay (gd (vals s)) s.length (i + 1))), .ow (wyD s.length i (lay (gd (vals s)) s.length (i + 1))), x5, x6, x7])
    (fun S ⟨x5, x6, x7, hS⟩ => ?en) (fun i d S hi ⟨x5, x6, x7, hS⟩ => ?st) _ ⟨_, _, _, by rw [lay_1, fw_start ne, wy_start ne]⟩
  case st =>
    subst hS
    obtain ⟨hi, rfl⟩ := numsM_get hi
    have hi : i + 1 < s.length := by omega
    simp -implicitDefEqProofs only [if_true, ↓Ok_ok, ↓Ok_bind, ↓Ok_seq, ↓thenS_nx, ↓thenS_rt, ↓thenS_bk, ↓thenS_ct, ↓Ok_sIf, ↓Ok_pass, ↓Ok_ret, ↓Ok_setk, ↓Ok_park, ↓Ok_par3k, ↓Ok_drop, ↓Ok_for, ↓Ok_while, ↓Ok_unpk, ↓Ok_callk, ↓Ok_tryC, ↓Tr_x, ↓Tr_r, ↓nmk_s, ↓muk_n, ↓muk_c, ↓mu2_s, ↓mu2_v, ↓mu2_o, ↓zrk_n, ↓zrk_c, ↓rs_h, ↓rs_v, ↓rs_o, hd_v, hd_o, hd_u, mh_n, mh_c, ↓Rt_fnk,
  ↓sg_z, ↓sg_s, ↓sw_z, ↓sw_s, ↓td_val, ↓td_ow, ↓Ok_eLit, ↓kp_val, ↓kp_ow, ↓Ok_eV, ↓Ok_op1e, ↓Ok_op1v, ↓Ok_op2ee, ↓Ok_op2ve, ↓Ok_op2ev, ↓Ok_op2vv, ↓op_add, ↓op_addL, ↓op_addT, ↓op_addI, ↓op_subI, ↓op_addB, ↓op_subB, ↓op_sub, ↓op_mul, ↓op_mod, ↓op_div, ↓op_pow, ↓op_lt, ↓op_le, ↓op_gt, ↓op_ge, ↓op_eqI, ↓op_neI, ↓op_neg, ↓op_isN, ↓op_notN, ↓op_lenL, ↓op_lenT,
  ↓op_isi_i, ↓op_isi_b, ↓op_isi_l, ↓op_isi_t, ↓op_isi_n, ↓op_isi_s, ↓op_abs, ↓op_max2, ↓op_min2, ↓op_tupL, ↓op_tupT, ↓op_lstL, ↓op_lstT, ↓ix_0, ↓ix_1, ↓ix_2, ↓ix_3, ↓tx_0, ↓tx_1, ↓tx_2, ↓tx_3, ↓Ok_datum, ↓Ok_evL0, ↓Ok_evLc, ↓Ok_eTup, ↓Ok_eLst, ↓bk_b, ↓Ok_tB, ↓Ok_eB, ↓Ok_tNot, ↓Ok_tAnd, ↓Ok_tOr, ↓Ok_eAnd, ↓Ok_eOr, ↓Ok_eIf, ↓fk_i, ↓fk_b, ↓fk_n, ↓Ok_evSe, ↓Ok_evSv, ↓ck2_b, ↓Ok_eChain,
  ↓pk_n, ↓pk_t, ↓pk_l, ↓pks_n, ↓pks_c, ↓vk_val, ↓vk_ow, ↓rvk_val, ↓rvk_ow, ↓Ok_retV, ↓augk_val, ↓Ok_augk, ↓nk_i, ↓Ok_setIx, ↓ixk_0, ↓ixk_1, ↓ixk_2, ↓apk_ow, ↓owk_ow, ↓Ok_app, ↓ak_n, ↓ak_d, ↓ak_b, ↓gk_n, ↓gk_l, ↓gk_r, ↓zk_n, ↓zk_l, ↓zk_r, ↓sgm_z, ↓sgm_s, ↓mk2_v, ↓mk2_o, ↓ik_z, ↓ik_n, ↓ik_s, ↓uk_z, ↓uk_s, ↓rtk_rt, ↓rtk_nx, ↓nok_n, ↓nok_v, ↓nok_o,
  ↓afk_nx, ↓afk_ct, ↓afk_bk, ↓afk_rt, ↓dk_l, ↓dk_t, ↓Ok_evPn, ↓Ok_evPs, ↓Ok_cutek, ↓Ok_cutv, ↓op_cutL, ↓op_cutT, ↓Ok_wSeq, ↓rk_i, ↓Ok_wRng1, ↓Ok_wRng2, ↓Ok_wEnum, ↓Ok_wZip2, ↓Ok_wZip3, ↓Ok_wN, ↓wk_n, ↓wk_c, ↓op_isB, ↓op_isNB, ↓dkk_d, ↓vk_dki, ↓lkk_s, ↓Ok_newK, ↓Ok_dlen, ↓Ok_dsorted, ↓Ok_dget, ↓Ok_dgetD, ↓Ok_dput,
  okArg_v, okArg_o, ↓Ok_tYes, nc_0, nc_1, nc_2, nc_3, nc_4, not_true_eq_false, not_false_eq_true, isN, List.length_cons, List.length_nil, Nat.zero_add, Nat.reduceAdd, List.mem_cons, List.not_mem_nil, decide_eq_true_eq, Bool.not_eq_true', decide_eq_false_iff_not, Bool.not_true, Bool.not_false, Bool.false_eq_true, if_true, if_false, true_and, and_true, or_false, or_true, true_or, reduceCtorEq, Nat.reduceEqDiff, and_self, decide_true, decide_false, Int.reduceLT, Int.reduceLE, Int.reduceEq, Int.reduceToNat, Int.reducePow, Int.reduceAdd, Int.reduceSub, Int.reduceMul, Int.reduceNeg, Int.reduceMod, Int.reduceDiv, Nat.reduceLeDiff, Nat.reduceLT, false_or, or_self, and_false, false_and]
    have f1 := fun {x6 x7} Q h => layers_f1 (vals_nn g) (by omega) (k := i) (by rw [ll]; exact hi) (s0 := .val (smD s)) (x6 := x6) (x7 := x7) Q h
    rw [ll] at f1
    rw [show (s.length : Int) - 2 - i = ((s.length - 1 - (i + 1) : Nat) : Int) by omega]
    exact f1 _ fun x6 x7 => ⟨_, _, _, rfl⟩
  case en =>
    subst hS
    have e : (numsM ((s.length : Int) - 2) ((s.length : Int) - 2 - -1).toNat).length = s.length - 1 := by rw [numsM, List.length_map, List.length_range]; omega
    rw [e, show s.length - 1 + 1 = s.length by omega]
    unfold fwD wyD
    rw [Nat.sub_self, List.replicate_zero, List.nil_append, List.nil_append]
    simp -implicitDefEqProofs only [if_true, ↓Ok_ok, ↓Ok_bind, ↓Ok_seq, ↓thenS_nx, ↓thenS_rt, ↓thenS_bk, ↓thenS_ct, ↓Ok_sIf, ↓Ok_pass, ↓Ok_ret, ↓Ok_setk, ↓Ok_park, ↓Ok_par3k, ↓Ok_drop, ↓Ok_for, ↓Ok_while, ↓Ok_unpk, ↓Ok_callk, ↓Ok_tryC, ↓Tr_x, ↓Tr_r, ↓nmk_s, ↓muk_n, ↓muk_c, ↓mu2_s, ↓mu2_v, ↓mu2_o, ↓zrk_n, ↓zrk_c, ↓rs_h, ↓rs_v, ↓rs_o, hd_v, hd_o, hd_u, mh_n, mh_c, ↓Rt_fnk,
  ↓sg_z, ↓sg_s, ↓sw_z, ↓sw_s, ↓td_val, ↓td_ow, ↓Ok_eLit, ↓kp_val, ↓kp_ow, ↓Ok_eV, ↓Ok_op1e, ↓Ok_op1v, ↓Ok_op2ee, ↓Ok_op2ve, ↓Ok_op2ev, ↓Ok_op2vv, ↓op_add, ↓op_addL, ↓op_addT, ↓op_addI, ↓op_subI, ↓op_addB, ↓op_subB, ↓op_sub, ↓op_mul, ↓op_mod, ↓op_div, ↓op_pow, ↓op_lt, ↓op_le, ↓op_gt, ↓op_ge, ↓op_eqI, ↓op_neI, ↓op_neg, ↓op_isN, ↓op_notN, ↓op_lenL, ↓op_lenT,
  ↓op_isi_i, ↓op_isi_b, ↓op_isi_l, ↓op_isi_t, ↓op_isi_n, ↓op_isi_s, ↓op_abs, ↓op_max2, ↓op_min2, ↓op_tupL, ↓op_tupT, ↓op_lstL, ↓op_lstT, ↓ix_0, ↓ix_1, ↓ix_2, ↓ix_3, ↓tx_0, ↓tx_1, ↓tx_2, ↓tx_3, ↓Ok_datum, ↓Ok_evL0, ↓Ok_evLc, ↓Ok_eTup, ↓Ok_eLst, ↓bk_b, ↓Ok_tB, ↓Ok_eB, ↓Ok_tNot, ↓Ok_tAnd, ↓Ok_tOr, ↓Ok_eAnd, ↓Ok_eOr, ↓Ok_eIf, ↓fk_i, ↓fk_b, ↓fk_n, ↓Ok_evSe, ↓Ok_evSv, ↓ck2_b, ↓Ok_eChain,
  ↓pk_n, ↓pk_t, ↓pk_l, ↓pks_n, ↓pks_c, ↓vk_val, ↓vk_ow, ↓rvk_val, ↓rvk_ow, ↓Ok_retV, ↓augk_val, ↓Ok_augk, ↓nk_i, ↓Ok_setIx, ↓ixk_0, ↓ixk_1, ↓ixk_2, ↓apk_ow, ↓owk_ow, ↓Ok_app, ↓ak_n, ↓ak_d, ↓ak_b, ↓gk_n, ↓gk_l, ↓gk_r, ↓zk_n, ↓zk_l, ↓zk_r, ↓sgm_z, ↓sgm_s, ↓mk2_v, ↓mk2_o, ↓ik_z, ↓ik_n, ↓ik_s, ↓uk_z, ↓uk_s, ↓rtk_rt, ↓rtk_nx, ↓nok_n, ↓nok_v, ↓nok_o,
  ↓afk_nx, ↓afk_ct, ↓afk_bk, ↓afk_rt, ↓dk_l, ↓dk_t, ↓Ok_evPn, ↓Ok_evPs, ↓Ok_cutek, ↓Ok_cutv, ↓op_cutL, ↓op_cutT, ↓Ok_wSeq, ↓rk_i, ↓Ok_wRng1, ↓Ok_wRng2, ↓Ok_wEnum, ↓Ok_wZip2, ↓Ok_wZip3, ↓Ok_wN, ↓wk_n, ↓wk_c, ↓op_isB, ↓op_isNB, ↓dkk_d, ↓vk_dki, ↓lkk_s, ↓Ok_newK, ↓Ok_dlen, ↓Ok_dsorted, ↓Ok_dget, ↓Ok_dgetD, ↓Ok_dput,
  okArg_v, okArg_o, ↓Ok_tYes, nc_0, nc_1, nc_2, nc_3, nc_4, not_true_eq_false, not_false_eq_true, isN, List.length_cons, List.length_nil, Nat.zero_add, Nat.reduceAdd, List.mem_cons, List.not_mem_nil, decide_eq_true_eq, Bool.not_eq_true', decide_eq_false_iff_not, Bool.not_true, Bool.not_false, Bool.false_eq_true, if_true, if_false, true_and, and_true, or_false, or_true, true_or, reduceCtorEq, Nat.reduceEqDiff, and_self, decide_true, decide_false, Int.reduceLT, Int.reduceLE, Int.reduceEq, Int.reduceToNat, Int.reducePow, Int.reduceAdd, Int.reduceSub, Int.reduceMul, Int.reduceNeg, Int.reduceMod, Int.reduceDiv, Nat.reduceLeDiff, Nat.reduceLT, false_or, or_self, and_false, false_and]
    rfl
theorem op_eq_t {ds : List D} {k : Sv → Prop} (h : SeqAt.shaped (.tuple ds) = true) : op2 dEq (.tuple ds) (.tuple []) k = k (.val (.bool ds.isEmpty)) := by
  unfold op2 dEq
  rw [h, show SeqAt.shaped (.tuple []) = true from rfl]
  cases ds <;> rfl
theorem shaped_sm (s : Smp) : SeqAt.shaped (smD s) = true := by
  rw [shaped_iff, canLay_tuple]
  refine ⟨fun d hd => ?_, Nat.le_trans ((depth_tuple (n := 6)).mpr fun d hd => ?_) (by decide)⟩
  · obtain ⟨q, _, rfl⟩ := List.mem_map.mp hd
    rfl
  · obtain ⟨q, _, rfl⟩ := List.mem_map.mp hd
    simp [pqD, PyData.depth, PyData.depthAll]
/-- how many are kept, in how many ways -/
def kc (s : Smp) : Int × Int := match lys s with
  | [] => (0, 1)
  | q :: _ => q
theorem kept_rt {s : Smp} (g : Sm s) (Q : Sv → Sl → Prop) : Rt (F_kept_count [.val (smD s)]) Q = Q (.val (.tuple [.int (kc s).1, .int (kc s).2])) [.val (smD s)] := by
  refine Rt_eq (ret_of ?_)
  have sh := shaped_sm s
  unfold F_kept_count B_kept_count
  simp -implicitDefEqProofs only [↓need_s g, ↓op_eq_t sh, ↓Ok_ok, ↓Ok_bind, ↓Ok_seq, ↓thenS_nx, ↓thenS_rt, ↓thenS_bk, ↓thenS_ct, ↓Ok_sIf, ↓Ok_pass, ↓Ok_ret, ↓Ok_setk, ↓Ok_park, ↓Ok_par3k, ↓Ok_drop, ↓Ok_for, ↓Ok_while, ↓Ok_unpk, ↓Ok_callk, ↓Ok_tryC, ↓Tr_x, ↓Tr_r, ↓nmk_s, ↓muk_n, ↓muk_c, ↓mu2_s, ↓mu2_v, ↓mu2_o, ↓zrk_n, ↓zrk_c, ↓rs_h, ↓rs_v, ↓rs_o, hd_v, hd_o, hd_u, mh_n, mh_c, ↓Rt_fnk,
  ↓sg_z, ↓sg_s, ↓sw_z, ↓sw_s, ↓td_val, ↓td_ow, ↓Ok_eLit, ↓kp_val, ↓kp_ow, ↓Ok_eV, ↓Ok_op1e, ↓Ok_op1v, ↓Ok_op2ee, ↓Ok_op2ve, ↓Ok_op2ev, ↓Ok_op2vv, ↓op_add, ↓op_addL, ↓op_addT, ↓op_addI, ↓op_subI, ↓op_addB, ↓op_subB, ↓op_sub, ↓op_mul, ↓op_mod, ↓op_div, ↓op_pow, ↓op_lt, ↓op_le, ↓op_gt, ↓op_ge, ↓op_eqI, ↓op_neI, ↓op_neg, ↓op_isN, ↓op_notN, ↓op_lenL, ↓op_lenT,
  ↓op_isi_i, ↓op_isi_b, ↓op_isi_l, ↓op_isi_t, ↓op_isi_n, ↓op_isi_s, ↓op_abs, ↓op_max2, ↓op_min2, ↓op_tupL, ↓op_tupT, ↓op_lstL, ↓op_lstT, ↓ix_0, ↓ix_1, ↓ix_2, ↓ix_3, ↓tx_0, ↓tx_1, ↓tx_2, ↓tx_3, ↓Ok_datum, ↓Ok_evL0, ↓Ok_evLc, ↓Ok_eTup, ↓Ok_eLst, ↓bk_b, ↓Ok_tB, ↓Ok_eB, ↓Ok_tNot, ↓Ok_tAnd, ↓Ok_tOr, ↓Ok_eAnd, ↓Ok_eOr, ↓Ok_eIf, ↓fk_i, ↓fk_b, ↓fk_n, ↓Ok_evSe, ↓Ok_evSv, ↓ck2_b, ↓Ok_eChain,
  ↓pk_n, ↓pk_t, ↓pk_l, ↓pks_n, ↓pks_c, ↓vk_val, ↓vk_ow, ↓rvk_val, ↓rvk_ow, ↓Ok_retV, ↓augk_val, ↓Ok_augk, ↓nk_i, ↓Ok_setIx, ↓ixk_0, ↓ixk_1, ↓ixk_2, ↓apk_ow, ↓owk_ow, ↓Ok_app, ↓ak_n, ↓ak_d, ↓ak_b, ↓gk_n, ↓gk_l, ↓gk_r, ↓zk_n, ↓zk_l, ↓zk_r, ↓sgm_z, ↓sgm_s, ↓mk2_v, ↓mk2_o, ↓ik_z, ↓ik_n, ↓ik_s, ↓uk_z, ↓uk_s, ↓rtk_rt, ↓rtk_nx, ↓nok_n, ↓nok_v, ↓nok_o,
  ↓afk_nx, ↓afk_ct, ↓afk_bk, ↓afk_rt, ↓dk_l, ↓dk_t, ↓Ok_evPn, ↓Ok_evPs, ↓Ok_cutek, ↓Ok_cutv, ↓op_cutL, ↓op_cutT, ↓Ok_wSeq, ↓rk_i, ↓Ok_wRng1, ↓Ok_wRng2, ↓Ok_wEnum, ↓Ok_wZip2, ↓Ok_wZip3, ↓Ok_wN, ↓wk_n, ↓wk_c, ↓op_isB, ↓op_isNB, ↓dkk_d, ↓vk_dki, ↓lkk_s, ↓Ok_newK, ↓Ok_dlen, ↓Ok_dsorted, ↓Ok_dget, ↓Ok_dgetD, ↓Ok_dput,
  okArg_v, okArg_o, ↓Ok_tYes, nc_0, nc_1, nc_2, nc_3, nc_4, not_true_eq_false, not_false_eq_true, isN, List.length_cons, List.length_nil, Nat.zero_add, Nat.reduceAdd, List.mem_cons, List.not_mem_nil, decide_eq_true_eq, Bool.not_eq_true', decide_eq_false_iff_not, Bool.not_true, Bool.not_false, Bool.false_eq_true, if_true, if_false, true_and, and_true, or_false, or_true, true_or, reduceCtorEq, Nat.reduceEqDiff, and_self, decide_true, decide_false, Int.reduceLT, Int.reduceLE, Int.reduceEq, Int.reduceToNat, Int.reducePow, Int.reduceAdd, Int.reduceSub, Int.reduceMul, Int.reduceNeg, Int.reduceMod, Int.reduceDiv, Nat.reduceLeDiff, Nat.reduceLT, false_or, or_self, and_false, false_and]
  cases s with
  | nil =>
    simp -implicitDefEqProofs only [List.map_nil, List.isEmpty_nil, ↓Ok_ok, ↓Ok_bind, ↓Ok_seq, ↓thenS_nx, ↓thenS_rt, ↓thenS_bk, ↓thenS_ct, ↓Ok_sIf, ↓Ok_pass, ↓Ok_ret, ↓Ok_setk, ↓Ok_park, ↓Ok_par3k, ↓Ok_drop, ↓Ok_for, ↓Ok_while, ↓Ok_unpk, ↓Ok_callk, ↓Ok_tryC, ↓Tr_x, ↓Tr_r, ↓nmk_s, ↓muk_n, ↓muk_c, ↓mu2_s, ↓mu2_v, ↓mu2_o, ↓zrk_n, ↓zrk_c, ↓rs_h, ↓rs_v, ↓rs_o, hd_v, hd_o, hd_u, mh_n, mh_c, ↓Rt_fnk,
  ↓sg_z, ↓sg_s, ↓sw_z, ↓sw_s, ↓td_val, ↓td_ow, ↓Ok_eLit, ↓kp_val, ↓kp_ow, ↓Ok_eV, ↓Ok_op1e, ↓Ok_op1v, ↓Ok_op2ee, ↓Ok_op2ve, ↓Ok_op2ev, ↓Ok_op2vv, ↓op_add, ↓op_addL, ↓op_addT, ↓op_addI, ↓op_subI, ↓op_addB, ↓op_subB, ↓op_sub, ↓op_mul, ↓op_mod, ↓op_div, ↓op_pow, ↓op_lt, ↓op_le, ↓op_gt, ↓op_ge, ↓op_eqI, ↓op_neI, ↓op_neg, ↓op_isN, ↓op_notN, ↓op_lenL, ↓op_lenT,
  ↓op_isi_i, ↓op_isi_b, ↓op_isi_l, ↓op_isi_t, ↓op_isi_n, ↓op_isi_s, ↓op_abs, ↓op_max2, ↓op_min2, ↓op_tupL, ↓op_tupT, ↓op_lstL, ↓op_lstT, ↓ix_0, ↓ix_1, ↓ix_2, ↓ix_3, ↓tx_0, ↓tx_1, ↓tx_2, ↓tx_3, ↓Ok_datum, ↓Ok_evL0, ↓Ok_evLc, ↓Ok_eTup, ↓Ok_eLst, ↓bk_b, ↓Ok_tB, ↓Ok_eB, ↓Ok_tNot, ↓Ok_tAnd, ↓Ok_tOr, ↓Ok_eAnd, ↓Ok_eOr, ↓Ok_eIf, ↓fk_i, ↓fk_b, ↓fk_n, ↓Ok_evSe, ↓Ok_evSv, ↓ck2_b, ↓Ok_eChain,
  ↓pk_n, ↓pk_t, ↓pk_l, ↓pks_n, ↓pks_c, ↓vk_val, ↓vk_ow, ↓rvk_val, ↓rvk_ow, ↓Ok_retV, ↓augk_val, ↓Ok_augk, ↓nk_i, ↓Ok_setIx, ↓ixk_0, ↓ixk_1, ↓ixk_2, ↓apk_ow, ↓owk_ow, ↓Ok_app, ↓ak_n, ↓ak_d, ↓ak_b, ↓gk_n, ↓gk_l, ↓gk_r, ↓zk_n, ↓zk_l, ↓zk_r, ↓sgm_z, ↓sgm_s, ↓mk2_v, ↓mk2_o, ↓ik_z, ↓ik_n, ↓ik_s, ↓uk_z, ↓uk_s, ↓rtk_rt, ↓rtk_nx, ↓nok_n, ↓nok_v, ↓nok_o,
  ↓afk_nx, ↓afk_ct, ↓afk_bk, ↓afk_rt, ↓dk_l, ↓dk_t, ↓Ok_evPn, ↓Ok_evPs, ↓Ok_cutek, ↓Ok_cutv, ↓op_cutL, ↓op_cutT, ↓Ok_wSeq, ↓rk_i, ↓Ok_wRng1, ↓Ok_wRng2, ↓Ok_wEnum, ↓Ok_wZip2, ↓Ok_wZip3, ↓Ok_wN, ↓wk_n, ↓wk_c, ↓op_isB, ↓op_isNB, ↓dkk_d, ↓vk_dki, ↓lkk_s, ↓Ok_newK, ↓Ok_dlen, ↓Ok_dsorted, ↓Ok_dget, ↓Ok_dgetD, ↓Ok_dput,
  okArg_v, okArg_o, ↓Ok_tYes, nc_0, nc_1, nc_2, nc_3, nc_4, not_true_eq_false, not_false_eq_true, isN, List.length_cons, List.length_nil, Nat.zero_add, Nat.reduceAdd, List.mem_cons, List.not_mem_nil, decide_eq_true_eq, Bool.not_eq_true', decide_eq_false_iff_not, Bool.not_true, Bool.not_false, Bool.false_eq_true, if_true, if_false, true_and, and_true, or_false, or_true, true_or, reduceCtorEq, Nat.reduceEqDiff, and_self, decide_true, decide_false, Int.reduceLT, Int.reduceLE, Int.reduceEq, Int.reduceToNat, Int.reducePow, Int.reduceAdd, Int.reduceSub, Int.reduceMul, Int.reduceNeg, Int.reduceMod, Int.reduceDiv, Nat.reduceLeDiff, Nat.reduceLT, false_or, or_self, and_false, false_and]
    rfl
  | cons a l =>
    have ly := fun Q => layers_rt g (by simp) Q
    have hl : (lys (a :: l)).length = l.length + 1 := lay_len _ _ _
    simp -implicitDefEqProofs only [List.map_cons, List.isEmpty_cons, ↓Ok_ok, ↓Ok_bind, ↓Ok_seq, ↓thenS_nx, ↓thenS_rt, ↓thenS_bk, ↓thenS_ct, ↓Ok_sIf, ↓Ok_pass, ↓Ok_ret, ↓Ok_setk, ↓Ok_park, ↓Ok_par3k, ↓Ok_drop, ↓Ok_for, ↓Ok_while, ↓Ok_unpk, ↓Ok_callk, ↓Ok_tryC, ↓Tr_x, ↓Tr_r, ↓nmk_s, ↓muk_n, ↓muk_c, ↓mu2_s, ↓mu2_v, ↓mu2_o, ↓zrk_n, ↓zrk_c, ↓rs_h, ↓rs_v, ↓rs_o, hd_v, hd_o, hd_u, mh_n, mh_c, ↓Rt_fnk,
  ↓sg_z, ↓sg_s, ↓sw_z, ↓sw_s, ↓td_val, ↓td_ow, ↓Ok_eLit, ↓kp_val, ↓kp_ow, ↓Ok_eV, ↓Ok_op1e, ↓Ok_op1v, ↓Ok_op2ee, ↓Ok_op2ve, ↓Ok_op2ev, ↓Ok_op2vv, ↓op_add, ↓op_addL, ↓op_addT, ↓op_addI, ↓op_subI, ↓op_addB, ↓op_subB, ↓op_sub, ↓op_mul, ↓op_mod, ↓op_div, ↓op_pow, ↓op_lt, ↓op_le, ↓op_gt, ↓op_ge, ↓op_eqI, ↓op_neI, ↓op_neg, ↓op_isN, ↓op_notN, ↓op_lenL, ↓op_lenT,
  ↓op_isi_i, ↓op_isi_b, ↓op_isi_l, ↓op_isi_t, ↓op_isi_n, ↓op_isi_s, ↓op_abs, ↓op_max2, ↓op_min2, ↓op_tupL, ↓op_tupT, ↓op_lstL, ↓op_lstT, ↓ix_0, ↓ix_1, ↓ix_2, ↓ix_3, ↓tx_0, ↓tx_1, ↓tx_2, ↓tx_3, ↓Ok_datum, ↓Ok_evL0, ↓Ok_evLc, ↓Ok_eTup, ↓Ok_eLst, ↓bk_b, ↓Ok_tB, ↓Ok_eB, ↓Ok_tNot, ↓Ok_tAnd, ↓Ok_tOr, ↓Ok_eAnd, ↓Ok_eOr, ↓Ok_eIf, ↓fk_i, ↓fk_b, ↓fk_n, ↓Ok_evSe, ↓Ok_evSv, ↓ck2_b, ↓Ok_eChain,
  ↓pk_n, ↓pk_t, ↓pk_l, ↓pks_n, ↓pks_c, ↓vk_val, ↓vk_ow, ↓rvk_val, ↓rvk_ow, ↓Ok_retV, ↓augk_val, ↓Ok_augk, ↓nk_i, ↓Ok_setIx, ↓ixk_0, ↓ixk_1, ↓ixk_2, ↓apk_ow, ↓owk_ow, ↓Ok_app, ↓ak_n, ↓ak_d, ↓ak_b, ↓gk_n, ↓gk_l, ↓gk_r, ↓zk_n, ↓zk_l, ↓zk_r, ↓sgm_z, ↓sgm_s, ↓mk2_v, ↓mk2_o, ↓ik_z, ↓ik_n, ↓ik_s, ↓uk_z, ↓uk_s, ↓rtk_rt, ↓rtk_nx, ↓nok_n, ↓nok_v, ↓nok_o,
  ↓afk_nx, ↓afk_ct, ↓afk_bk, ↓afk_rt, ↓dk_l, ↓dk_t, ↓Ok_evPn, ↓Ok_evPs, ↓Ok_cutek, ↓Ok_cutv, ↓op_cutL, ↓op_cutT, ↓Ok_wSeq, ↓rk_i, ↓Ok_wRng1, ↓Ok_wRng2, ↓Ok_wEnum, ↓Ok_wZip2, ↓Ok_wZip3, ↓Ok_wN, ↓wk_n, ↓wk_c, ↓op_isB, ↓op_isNB, ↓dkk_d, ↓vk_dki, ↓lkk_s, ↓Ok_newK, ↓Ok_dlen, ↓Ok_dsorted, ↓Ok_dget, ↓Ok_dgetD, ↓Ok_dput,
  okArg_v, okArg_o, ↓Ok_tYes, nc_0, nc_1, nc_2, nc_3, nc_4, not_true_eq_false, not_false_eq_true, isN, List.length_cons, List.length_nil, Nat.zero_add, Nat.reduceAdd, List.mem_cons, List.not_mem_nil, decide_eq_true_eq, Bool.not_eq_true', decide_eq_false_iff_not, Bool.not_true, Bool.not_false, Bool.false_eq_true, if_true, if_false, true_and, and_true, or_false, or_true, true_or, reduceCtorEq, Nat.reduceEqDiff, and_self, decide_true, decide_false, Int.reduceLT, Int.reduceLE, Int.reduceEq, Int.reduceToNat, Int.reducePow, Int.reduceAdd, Int.reduceSub, Int.reduceMul, Int.reduceNeg, Int.reduceMod, Int.reduceDiv, Nat.reduceLeDiff, Nat.reduceLT, false_or, or_self, and_false, false_and]
    simp -implicitDefEqProofs only [↓ly, ↓Ok_ok, ↓Ok_bind, ↓Ok_seq, ↓thenS_nx, ↓thenS_rt, ↓thenS_bk, ↓thenS_ct, ↓Ok_sIf, ↓Ok_pass, ↓Ok_ret, ↓Ok_setk, ↓Ok_park, ↓Ok_par3k, ↓Ok_drop, ↓Ok_for, ↓Ok_while, ↓Ok_unpk, ↓Ok_callk, ↓Ok_tryC, ↓Tr_x, ↓Tr_r, ↓nmk_s, ↓muk_n, ↓muk_c, ↓mu2_s, ↓mu2_v, ↓mu2_o, ↓zrk_n, ↓zrk_c, ↓rs_h, ↓rs_v, ↓rs_o, hd_v, hd_o, hd_u, mh_n, mh_c, ↓Rt_fnk,
  ↓sg_z, ↓sg_s, ↓sw_z, ↓sw_s, ↓td_val, ↓td_ow, ↓Ok_eLit, ↓kp_val, ↓kp_ow, ↓Ok_eV, ↓Ok_op1e, ↓Ok_op1v, ↓Ok_op2ee, ↓Ok_op2ve, ↓Ok_op2ev, ↓Ok_op2vv, ↓op_add, ↓op_addL, ↓op_addT, ↓op_addI, ↓op_subI, ↓op_addB, ↓op_subB, ↓op_sub, ↓op_mul, ↓op_mod, ↓op_div, ↓op_pow, ↓op_lt, ↓op_le, ↓op_gt, ↓op_ge, ↓op_eqI, ↓op_neI, ↓op_neg, ↓op_isN, ↓op_notN, ↓op_lenL, ↓op_lenT,
  ↓op_isi_i, ↓op_isi_b, ↓op_isi_l, ↓op_isi_t, ↓op_isi_n, ↓op_isi_s, ↓op_abs, ↓op_max2, ↓op_min2, ↓op_tupL, ↓op_tupT, ↓op_lstL, ↓op_lstT, ↓ix_0, ↓ix_1, ↓ix_2, ↓ix_3, ↓tx_0, ↓tx_1, ↓tx_2, ↓tx_3, ↓Ok_datum, ↓Ok_evL0, ↓Ok_evLc, ↓Ok_eTup, ↓Ok_eLst, ↓bk_b, ↓Ok_tB, ↓Ok_eB, ↓Ok_tNot, ↓Ok_tAnd, ↓Ok_tOr, ↓Ok_eAnd, ↓Ok_eOr, ↓Ok_eIf, ↓fk_i, ↓fk_b, ↓fk_n, ↓Ok_evSe, ↓Ok_evSv, ↓ck2_b, ↓Ok_eChain,
  ↓pk_n, ↓pk_t, ↓pk_l, ↓pks_n, ↓pks_c, ↓vk_val, ↓vk_ow, ↓rvk_val, ↓rvk_ow, ↓Ok_retV, ↓augk_val, ↓Ok_augk, ↓nk_i, ↓Ok_setIx, ↓ixk_0, ↓ixk_1, ↓ixk_2, ↓apk_ow, ↓owk_ow, ↓Ok_app, ↓ak_n, ↓ak_d, ↓ak_b, ↓gk_n, ↓gk_l, ↓gk_r, ↓zk_n, ↓zk_l, ↓zk_r, ↓sgm_z, ↓sgm_s, ↓mk2_v, ↓mk2_o, ↓ik_z, ↓ik_n, ↓ik_s, ↓uk_z, ↓uk_s, ↓rtk_rt, ↓rtk_nx, ↓nok_n, ↓nok_v, ↓nok_o,
  ↓afk_nx, ↓afk_ct, ↓afk_bk, ↓afk_rt, ↓dk_l, ↓dk_t, ↓Ok_evPn, ↓Ok_evPs, ↓Ok_cutek, ↓Ok_cutv, ↓op_cutL, ↓op_cutT, ↓Ok_wSeq, ↓rk_i, ↓Ok_wRng1, ↓Ok_wRng2, ↓Ok_wEnum, ↓Ok_wZip2, ↓Ok_wZip3, ↓Ok_wN, ↓wk_n, ↓wk_c, ↓op_isB, ↓op_isNB, ↓dkk_d, ↓vk_dki, ↓lkk_s, ↓Ok_newK, ↓Ok_dlen, ↓Ok_dsorted, ↓Ok_dget, ↓Ok_dgetD, ↓Ok_dput,
  okArg_v, okArg_o, ↓Ok_tYes, nc_0, nc_1, nc_2, nc_3, nc_4, not_true_eq_false, not_false_eq_true, isN, List.length_cons, List.length_nil, Nat.zero_add, Nat.reduceAdd, List.mem_cons, List.not_mem_nil, decide_eq_true_eq, Bool.not_eq_true', decide_eq_false_iff_not, Bool.not_true, Bool.not_false, Bool.false_eq_true, if_true, if_false, true_and, and_true, or_false, or_true, true_or, reduceCtorEq, Nat.reduceEqDiff, and_self, decide_true, decide_false, Int.reduceLT, Int.reduceLE, Int.reduceEq, Int.reduceToNat, Int.reducePow, Int.reduceAdd, Int.reduceSub, Int.reduceMul, Int.reduceNeg, Int.reduceMod, Int.reduceDiv, Nat.reduceLeDiff, Nat.reduceLT, false_or, or_self, and_false, false_and]
    unfold kc
    cases e : lys (a :: l) with
    | nil => rw [e] at hl; cases hl
    | cons q r => simp -implicitDefEqProofs only [List.map_cons, ↓Ok_ok, ↓Ok_bind, ↓Ok_seq, ↓thenS_nx, ↓thenS_rt, ↓thenS_bk, ↓thenS_ct, ↓Ok_sIf, ↓Ok_pass, ↓Ok_ret, ↓Ok_setk, ↓Ok_park, ↓Ok_par3k, ↓Ok_drop, ↓Ok_for, ↓Ok_while, ↓Ok_unpk, ↓Ok_callk, ↓Ok_tryC, ↓Tr_x, ↓Tr_r, ↓nmk_s, ↓muk_n, ↓muk_c, ↓mu2_s, ↓mu2_v, ↓mu2_o, ↓zrk_n, ↓zrk_c, ↓rs_h, ↓rs_v, ↓rs_o, hd_v, hd_o, hd_u, mh_n, mh_c, ↓Rt_fnk,
  ↓sg_z, ↓sg_s, ↓sw_z, ↓sw_s, ↓td_val, ↓td_ow, ↓Ok_eLit, ↓kp_val, ↓kp_ow, ↓Ok_eV, ↓Ok_op1e, ↓Ok_op1v, ↓Ok_op2ee, ↓Ok_op2ve, ↓Ok_op2ev, ↓Ok_op2vv, ↓op_add, ↓op_addL, ↓op_addT, ↓op_addI, ↓op_subI, ↓op_addB, ↓op_subB, ↓op_sub, ↓op_mul, ↓op_mod, ↓op_div, ↓op_pow, ↓op_lt, ↓op_le, ↓op_gt, ↓op_ge, ↓op_eqI, ↓op_neI, ↓op_neg, ↓op_isN, ↓op_notN, ↓op_lenL, ↓op_lenT,
  ↓op_isi_i, ↓op_isi_b, ↓op_isi_l, ↓op_isi_t, ↓op_isi_n, ↓op_isi_s, ↓op_abs, ↓op_max2, ↓op_min2, ↓op_tupL, ↓op_tupT, ↓op_lstL, ↓op_lstT, ↓ix_0, ↓ix_1, ↓ix_2, ↓ix_3, ↓tx_0, ↓tx_1, ↓tx_2, ↓tx_3, ↓Ok_datum, ↓Ok_evL0, ↓Ok_evLc, ↓Ok_eTup, ↓Ok_eLst, ↓bk_b, ↓Ok_tB, ↓Ok_eB, ↓Ok_tNot, ↓Ok_tAnd, ↓Ok_tOr, ↓Ok_eAnd, ↓Ok_eOr, ↓Ok_eIf, ↓fk_i, ↓fk_b, ↓fk_n, ↓Ok_evSe, ↓Ok_evSv, ↓ck2_b, ↓Ok_eChain,
  ↓pk_n, ↓pk_t, ↓pk_l, ↓pks_n, ↓pks_c, ↓vk_val, ↓vk_ow, ↓rvk_val, ↓rvk_ow, ↓Ok_retV, ↓augk_val, ↓Ok_augk, ↓nk_i, ↓Ok_setIx, ↓ixk_0, ↓ixk_1, ↓ixk_2, ↓apk_ow, ↓owk_ow, ↓Ok_app, ↓ak_n, ↓ak_d, ↓ak_b, ↓gk_n, ↓gk_l, ↓gk_r, ↓zk_n, ↓zk_l, ↓zk_r, ↓sgm_z, ↓sgm_s, ↓mk2_v, ↓mk2_o, ↓ik_z, ↓ik_n, ↓ik_s, ↓uk_z, ↓uk_s, ↓rtk_rt, ↓rtk_nx, ↓nok_n, ↓nok_v, ↓nok_o,
  ↓afk_nx, ↓afk_ct, ↓afk_bk, ↓afk_rt, ↓dk_l, ↓dk_t, ↓Ok_evPn, ↓Ok_evPs, ↓Ok_cutek, ↓Ok_cutv, ↓op_cutL, ↓op_cutT, ↓Ok_wSeq, ↓rk_i, ↓Ok_wRng1, ↓Ok_wRng2, ↓Ok_wEnum, ↓Ok_wZip2, ↓Ok_wZip3, ↓Ok_wN, ↓wk_n, ↓wk_c, ↓op_isB, ↓op_isNB, ↓dkk_d, ↓vk_dki, ↓lkk_s, ↓Ok_newK, ↓Ok_dlen, ↓Ok_dsorted, ↓Ok_dget, ↓Ok_dgetD, ↓Ok_dput,
  okArg_v, okArg_o, ↓Ok_tYes, nc_0, nc_1, nc_2, nc_3, nc_4, not_true_eq_false, not_false_eq_true, isN, List.length_cons, List.length_nil, Nat.zero_add, Nat.reduceAdd, List.mem_cons, List.not_mem_nil, decide_eq_true_eq, Bool.not_eq_true', decide_eq_false_iff_not, Bool.not_true, Bool.not_false, Bool.false_eq_true, if_true, if_false, true_and, and_true, or_false, or_true, true_or, reduceCtorEq, Nat.reduceEqDiff, and_self, decide_true, decide_false, Int.reduceLT, Int.reduceLE, Int.reduceEq, Int.reduceToNat, Int.reducePow, Int.reduceAdd, Int.reduceSub, Int.reduceMul, Int.reduceNeg, Int.reduceMod, Int.reduceDiv, Nat.reduceLeDiff, Nat.reduceLT, false_or, or_self, and_false, false_and]
end

/-! ### windows -/
section
open PySem Rc
/-- the samples of the window of length L that ends at k -/
def win (s : Smp) (k : Nat) (L : Int) : Smp := (s.take (k + 1)).filter fun q => decide ((s.getD k (0, 0)).1 - L ≤ q.1)
theorem pq_0 {q : Int × Int} {k : Sv → Prop} : op2 dIx (pqD q) (.int 0) k = k (.val (.int q.1)) := tx_0
theorem pq_1 {q : Int × Int} {k : Sv → Prop} : op2 dIx (pqD q) (.int 1) k = k (.val (.int q.2)) := tx_1
theorem inside_rt {s : Smp} {k : Nat} (hk : k < s.length) (L : Int) (Q : Sv → Sl → Prop) :
    Rt (F_inside [.val (smD s), .val (.int (k : Int)), .val (.int L)]) Q = Q (.val (smD (win s k L))) [.val (smD s), .val (.int (k : Int)), .val (.int L)] := by
  refine Rt_eq (ret_of ?_)
  have c1 : cutD (s.map pqD) none (some ((k : Int) + 1)) = (s.take (k + 1)).map pqD := by rw [show (k : Int) + 1 = ((k + 1 : Nat) : Int) by omega, cut_to, List.map_take]
  have ix : ∀ Q, op2 dIx (.tuple (s.map pqD)) (.int (k : Int)) Q = Q (.val (pqD (s.getD k (0, 0)))) := fun Q => by
    rw [ixT (f := pqD) (0, 0) (by omega) (by omega), Int.toNat_natCast]
  unfold F_inside B_inside
  simp -implicitDefEqProofs only [↓ix, ↓pq_0, ↓Ok_ok, ↓Ok_bind, ↓Ok_seq, ↓thenS_nx, ↓thenS_rt, ↓thenS_bk, ↓thenS_ct, ↓Ok_sIf, ↓Ok_pass, ↓Ok_ret, ↓Ok_setk, ↓Ok_park, ↓Ok_par3k, ↓Ok_drop, ↓Ok_for, ↓Ok_while, ↓Ok_unpk, ↓Ok_callk, ↓Ok_tryC, ↓Tr_x, ↓Tr_r, ↓nmk_s, ↓muk_n, ↓muk_c, ↓mu2_s, ↓mu2_v, ↓mu2_o, ↓zrk_n, ↓zrk_c, ↓rs_h, ↓rs_v, ↓rs_o, hd_v, hd_o, hd_u, mh_n, mh_c, ↓Rt_fnk,
  ↓sg_z, ↓sg_s, ↓sw_z, ↓sw_s, ↓td_val, ↓td_ow, ↓Ok_eLit, ↓kp_val, ↓kp_ow, ↓Ok_eV, ↓Ok_op1e, ↓Ok_op1v, ↓Ok_op2ee, ↓Ok_op2ve, ↓Ok_op2ev, ↓Ok_op2vv, ↓op_add, ↓op_addL, ↓op_addT, ↓op_addI, ↓op_subI, ↓op_addB, ↓op_subB, ↓op_sub, ↓op_mul, ↓op_mod, ↓op_div, ↓op_pow, ↓op_lt, ↓op_le, ↓op_gt, ↓op_ge, ↓op_eqI, ↓op_neI, ↓op_neg, ↓op_isN, ↓op_notN, ↓op_lenL, ↓op_lenT,
  ↓op_isi_i, ↓op_isi_b, ↓op_isi_l, ↓op_isi_t, ↓op_isi_n, ↓op_isi_s, ↓op_abs, ↓op_max2, ↓op_min2, ↓op_tupL, ↓op_tupT, ↓op_lstL, ↓op_lstT, ↓ix_0, ↓ix_1, ↓ix_2, ↓ix_3, ↓tx_0, ↓tx_1, ↓tx_2, ↓tx_3, ↓Ok_datum, ↓Ok_evL0, ↓Ok_evLc, ↓Ok_eTup, ↓Ok_eLst, ↓bk_b, ↓Ok_tB, ↓Ok_eB, ↓Ok_tNot, ↓Ok_tAnd, ↓Ok_tOr, ↓Ok_eAnd, ↓Ok_eOr, ↓Ok_eIf, ↓fk_i, ↓fk_b, ↓fk_n, ↓Ok_evSe, ↓Ok_evSv, ↓ck2_b, ↓Ok_eChain,
  ↓pk_n, ↓pk_t, ↓pk_l, ↓pks_n, ↓pks_c, ↓vk_val, ↓vk_ow, ↓rvk_val, ↓rvk_ow, ↓Ok_retV, ↓augk_val, ↓Ok_augk, ↓nk_i, ↓Ok_setIx, ↓ixk_0, ↓ixk_1, ↓ixk_2, ↓apk_ow, ↓owk_ow, ↓Ok_app, ↓ak_n, ↓ak_d, ↓ak_b, ↓gk_n, ↓gk_l, ↓gk_r, ↓zk_n, ↓zk_l, ↓zk_r, ↓sgm_z, ↓sgm_s, ↓mk2_v, ↓mk2_o, ↓ik_z, ↓ik_n, ↓ik_s, ↓uk_z, ↓uk_s, ↓rtk_rt, ↓rtk_nx, ↓nok_n, ↓nok_v, ↓nok_o,
  ↓afk_nx, ↓afk_ct, ↓afk_bk, ↓afk_rt, ↓dk_l, ↓dk_t, ↓Ok_evPn, ↓Ok_evPs, ↓Ok_cutek, ↓Ok_cutv, ↓op_cutL, ↓op_cutT, ↓Ok_wSeq, ↓rk_i, ↓Ok_wRng1, ↓Ok_wRng2, ↓Ok_wEnum, ↓Ok_wZip2, ↓Ok_wZip3, ↓Ok_wN, ↓wk_n, ↓wk_c, ↓op_isB, ↓op_isNB, ↓dkk_d, ↓vk_dki, ↓lkk_s, ↓Ok_newK, ↓Ok_dlen, ↓Ok_dsorted, ↓Ok_dget, ↓Ok_dgetD, ↓Ok_dput,
  okArg_v, okArg_o, ↓Ok_tYes, nc_0, nc_1, nc_2, nc_3, nc_4, not_true_eq_false, not_false_eq_true, isN, List.length_cons, List.length_nil, Nat.zero_add, Nat.reduceAdd, List.mem_cons, List.not_mem_nil, decide_eq_true_eq, Bool.not_eq_true', decide_eq_false_iff_not, Bool.not_true, Bool.not_false, Bool.false_eq_true, if_true, if_false, true_and, and_true, or_false, or_true, true_or, reduceCtorEq, Nat.reduceEqDiff, and_self, decide_true, decide_false, Int.reduceLT, Int.reduceLE, Int.reduceEq, Int.reduceToNat, Int.reducePow, Int.reduceAdd, Int.reduceSub, Int.reduceMul, Int.reduceNeg, Int.reduceMod, Int.reduceDiv, Nat.reduceLeDiff, Nat.reduceLT, false_or, or_self, and_false, false_and]
  refine Ok_lcF (s.take (k + 1)) pqD (fun q => (s.getD k (0, 0)).1 - L ≤ q.1) pqD ?_
  simp -implicitDefEqProofs only [c1, ↓Ok_ok, ↓Ok_bind, ↓Ok_seq, ↓thenS_nx, ↓thenS_rt, ↓thenS_bk, ↓thenS_ct, ↓Ok_sIf, ↓Ok_pass, ↓Ok_ret, ↓Ok_setk, ↓Ok_park, ↓Ok_par3k, ↓Ok_drop, ↓Ok_for, ↓Ok_while, ↓Ok_unpk, ↓Ok_callk, ↓Ok_tryC, ↓Tr_x, ↓Tr_r, ↓nmk_s, ↓muk_n, ↓muk_c, ↓mu2_s, ↓mu2_v, ↓mu2_o, ↓zrk_n, ↓zrk_c, ↓rs_h, ↓rs_v, ↓rs_o, hd_v, hd_o, hd_u, mh_n, mh_c, ↓Rt_fnk,
  ↓sg_z, ↓sg_s, ↓sw_z, ↓sw_s, ↓td_val, ↓td_ow, ↓Ok_eLit, ↓kp_val, ↓kp_ow, ↓Ok_eV, ↓Ok_op1e, ↓Ok_op1v, ↓Ok_op2ee, ↓Ok_op2ve, ↓Ok_op2ev, ↓Ok_op2vv, ↓op_add, ↓op_addL, ↓op_addT, ↓op_addI, ↓op_subI, ↓op_addB, ↓op_subB, ↓op_sub, ↓op_mul, ↓op_mod, ↓op_div, ↓op_pow, ↓op_lt, ↓op_le, ↓op_gt, ↓op_ge, ↓op_eqI, ↓op_neI, ↓op_neg, ↓op_isN, ↓op_notN, ↓op_lenL, ↓op_lenT,
  ↓op_isi_i, ↓op_isi_b, ↓op_isi_l, ↓op_isi_t, ↓op_isi_n, ↓op_isi_s, ↓op_abs, ↓op_max2, ↓op_min2, ↓op_tupL, ↓op_tupT, ↓op_lstL, ↓op_lstT, ↓ix_0, ↓ix_1, ↓ix_2, ↓ix_3, ↓tx_0, ↓tx_1, ↓tx_2, ↓tx_3, ↓Ok_datum, ↓Ok_evL0, ↓Ok_evLc, ↓Ok_eTup, ↓Ok_eLst, ↓bk_b, ↓Ok_tB, ↓Ok_eB, ↓Ok_tNot, ↓Ok_tAnd, ↓Ok_tOr, ↓Ok_eAnd, ↓Ok_eOr, ↓Ok_eIf, ↓fk_i, ↓fk_b, ↓fk_n, ↓Ok_evSe, ↓Ok_evSv, ↓ck2_b, ↓Ok_eChain,
  ↓pk_n, ↓pk_t, ↓pk_l, ↓pks_n, ↓pks_c, ↓vk_val, ↓vk_ow, ↓rvk_val, ↓rvk_ow, ↓Ok_retV, ↓augk_val, ↓Ok_augk, ↓nk_i, ↓Ok_setIx, ↓ixk_0, ↓ixk_1, ↓ixk_2, ↓apk_ow, ↓owk_ow, ↓Ok_app, ↓ak_n, ↓ak_d, ↓ak_b, ↓gk_n, ↓gk_l, ↓gk_r, ↓zk_n, ↓zk_l, ↓zk_r, ↓sgm_z, ↓sgm_s, ↓mk2_v, ↓mk2_o, ↓ik_z, ↓ik_n, ↓ik_s, ↓uk_z, ↓uk_s, ↓rtk_rt, ↓rtk_nx, ↓nok_n, ↓nok_v, ↓nok_o,
  ↓afk_nx, ↓afk_ct, ↓afk_bk, ↓afk_rt, ↓dk_l, ↓dk_t, ↓Ok_evPn, ↓Ok_evPs, ↓Ok_cutek, ↓Ok_cutv, ↓op_cutL, ↓op_cutT, ↓Ok_wSeq, ↓rk_i, ↓Ok_wRng1, ↓Ok_wRng2, ↓Ok_wEnum, ↓Ok_wZip2, ↓Ok_wZip3, ↓Ok_wN, ↓wk_n, ↓wk_c, ↓op_isB, ↓op_isNB, ↓dkk_d, ↓vk_dki, ↓lkk_s, ↓Ok_newK, ↓Ok_dlen, ↓Ok_dsorted, ↓Ok_dget, ↓Ok_dgetD, ↓Ok_dput,
  okArg_v, okArg_o, ↓Ok_tYes, nc_0, nc_1, nc_2, nc_3, nc_4, not_true_eq_false, not_false_eq_true, isN, List.length_cons, List.length_nil, Nat.zero_add, Nat.reduceAdd, List.mem_cons, List.not_mem_nil, decide_eq_true_eq, Bool.not_eq_true', decide_eq_false_iff_not, Bool.not_true, Bool.not_false, Bool.false_eq_true, if_true, if_false, true_and, and_true, or_false, or_true, true_or, reduceCtorEq, Nat.reduceEqDiff, and_self, decide_true, decide_false, Int.reduceLT, Int.reduceLE, Int.reduceEq, Int.reduceToNat, Int.reducePow, Int.reduceAdd, Int.reduceSub, Int.reduceMul, Int.reduceNeg, Int.reduceMod, Int.reduceDiv, Nat.reduceLeDiff, Nat.reduceLT, false_or, or_self, and_false, false_and]
  refine ⟨⟨ckT_eq.mpr trivial, fun q _ => ?_⟩, ?_⟩
  · unfold itemt
    simp -implicitDefEqProofs only [↓pq_0, ↓Ok_ok, ↓Ok_bind, ↓Ok_seq, ↓thenS_nx, ↓thenS_rt, ↓thenS_bk, ↓thenS_ct, ↓Ok_sIf, ↓Ok_pass, ↓Ok_ret, ↓Ok_setk, ↓Ok_park, ↓Ok_par3k, ↓Ok_drop, ↓Ok_for, ↓Ok_while, ↓Ok_unpk, ↓Ok_callk, ↓Ok_tryC, ↓Tr_x, ↓Tr_r, ↓nmk_s, ↓muk_n, ↓muk_c, ↓mu2_s, ↓mu2_v, ↓mu2_o, ↓zrk_n, ↓zrk_c, ↓rs_h, ↓rs_v, ↓rs_o, hd_v, hd_o, hd_u, mh_n, mh_c, ↓Rt_fnk,
  ↓sg_z, ↓sg_s, ↓sw_z, ↓sw_s, ↓td_val, ↓td_ow, ↓Ok_eLit, ↓kp_val, ↓kp_ow, ↓Ok_eV, ↓Ok_op1e, ↓Ok_op1v, ↓Ok_op2ee, ↓Ok_op2ve, ↓Ok_op2ev, ↓Ok_op2vv, ↓op_add, ↓op_addL, ↓op_addT, ↓op_addI, ↓op_subI, ↓op_addB, ↓op_subB, ↓op_sub, ↓op_mul, ↓op_mod, ↓op_div, ↓op_pow, ↓op_lt, ↓op_le, ↓op_gt, ↓op_ge, ↓op_eqI, ↓op_neI, ↓op_neg, ↓op_isN, ↓op_notN, ↓op_lenL, ↓op_lenT,
  ↓op_isi_i, ↓op_isi_b, ↓op_isi_l, ↓op_isi_t, ↓op_isi_n, ↓op_isi_s, ↓op_abs, ↓op_max2, ↓op_min2, ↓op_tupL, ↓op_tupT, ↓op_lstL, ↓op_lstT, ↓ix_0, ↓ix_1, ↓ix_2, ↓ix_3, ↓tx_0, ↓tx_1, ↓tx_2, ↓tx_3, ↓Ok_datum, ↓Ok_evL0, ↓Ok_evLc, ↓Ok_eTup, ↓Ok_eLst, ↓bk_b, ↓Ok_tB, ↓Ok_eB, ↓Ok_tNot, ↓Ok_tAnd, ↓Ok_tOr, ↓Ok_eAnd, ↓Ok_eOr, ↓Ok_eIf, ↓fk_i, ↓fk_b, ↓fk_n, ↓Ok_evSe, ↓Ok_evSv, ↓ck2_b, ↓Ok_eChain,
  ↓pk_n, ↓pk_t, ↓pk_l, ↓pks_n, ↓pks_c, ↓vk_val, ↓vk_ow, ↓rvk_val, ↓rvk_ow, ↓Ok_retV, ↓augk_val, ↓Ok_augk, ↓nk_i, ↓Ok_setIx, ↓ixk_0, ↓ixk_1, ↓ixk_2, ↓apk_ow, ↓owk_ow, ↓Ok_app, ↓ak_n, ↓ak_d, ↓ak_b, ↓gk_n, ↓gk_l, ↓gk_r, ↓zk_n, ↓zk_l, ↓zk_r, ↓sgm_z, ↓sgm_s, ↓mk2_v, ↓mk2_o, ↓ik_z, ↓ik_n, ↓ik_s, ↓uk_z, ↓uk_s, ↓rtk_rt, ↓rtk_nx, ↓nok_n, ↓nok_v, ↓nok_o,
  ↓afk_nx, ↓afk_ct, ↓afk_bk, ↓afk_rt, ↓dk_l, ↓dk_t, ↓Ok_evPn, ↓Ok_evPs, ↓Ok_cutek, ↓Ok_cutv, ↓op_cutL, ↓op_cutT, ↓Ok_wSeq, ↓rk_i, ↓Ok_wRng1, ↓Ok_wRng2, ↓Ok_wEnum, ↓Ok_wZip2, ↓Ok_wZip3, ↓Ok_wN, ↓wk_n, ↓wk_c, ↓op_isB, ↓op_isNB, ↓dkk_d, ↓vk_dki, ↓lkk_s, ↓Ok_newK, ↓Ok_dlen, ↓Ok_dsorted, ↓Ok_dget, ↓Ok_dgetD, ↓Ok_dput,
  okArg_v, okArg_o, ↓Ok_tYes, nc_0, nc_1, nc_2, nc_3, nc_4, not_true_eq_false, not_false_eq_true, isN, List.length_cons, List.length_nil, Nat.zero_add, Nat.reduceAdd, List.mem_cons, List.not_mem_nil, decide_eq_true_eq, Bool.not_eq_true', decide_eq_false_iff_not, Bool.not_true, Bool.not_false, Bool.false_eq_true, if_true, if_false, true_and, and_true, or_false, or_true, true_or, reduceCtorEq, Nat.reduceEqDiff, and_self, decide_true, decide_false, Int.reduceLT, Int.reduceLE, Int.reduceEq, Int.reduceToNat, Int.reducePow, Int.reduceAdd, Int.reduceSub, Int.reduceMul, Int.reduceNeg, Int.reduceMod, Int.reduceDiv, Nat.reduceLeDiff, Nat.reduceLT, false_or, or_self, and_false, false_and]
    by_cases z : (s.getD k (0, 0)).1 - L ≤ q.1 <;> simp [z]
  · rfl
theorem need_len {L : Int} (h0 : 0 ≤ L) (h1 : L ≤ 1000000000) (Q : Sv → Sl → Prop) : Rt (F_need_length [.val (.int L)]) Q = Q (.val .none) [.val (.int L)] := by
  refine Rt_eq (ret_of ?_)
  unfold F_need_length B_need_length
  simp -implicitDefEqProofs only [↓is_from_eq, ↓Ok_ok, ↓Ok_bind, ↓Ok_seq, ↓thenS_nx, ↓thenS_rt, ↓thenS_bk, ↓thenS_ct, ↓Ok_sIf, ↓Ok_pass, ↓Ok_ret, ↓Ok_setk, ↓Ok_park, ↓Ok_par3k, ↓Ok_drop, ↓Ok_for, ↓Ok_while, ↓Ok_unpk, ↓Ok_callk, ↓Ok_tryC, ↓Tr_x, ↓Tr_r, ↓nmk_s, ↓muk_n, ↓muk_c, ↓mu2_s, ↓mu2_v, ↓mu2_o, ↓zrk_n, ↓zrk_c, ↓rs_h, ↓rs_v, ↓rs_o, hd_v, hd_o, hd_u, mh_n, mh_c, ↓Rt_fnk,
  ↓sg_z, ↓sg_s, ↓sw_z, ↓sw_s, ↓td_val, ↓td_ow, ↓Ok_eLit, ↓kp_val, ↓kp_ow, ↓Ok_eV, ↓Ok_op1e, ↓Ok_op1v, ↓Ok_op2ee, ↓Ok_op2ve, ↓Ok_op2ev, ↓Ok_op2vv, ↓op_add, ↓op_addL, ↓op_addT, ↓op_addI, ↓op_subI, ↓op_addB, ↓op_subB, ↓op_sub, ↓op_mul, ↓op_mod, ↓op_div, ↓op_pow, ↓op_lt, ↓op_le, ↓op_gt, ↓op_ge, ↓op_eqI, ↓op_neI, ↓op_neg, ↓op_isN, ↓op_notN, ↓op_lenL, ↓op_lenT,
  ↓op_isi_i, ↓op_isi_b, ↓op_isi_l, ↓op_isi_t, ↓op_isi_n, ↓op_isi_s, ↓op_abs, ↓op_max2, ↓op_min2, ↓op_tupL, ↓op_tupT, ↓op_lstL, ↓op_lstT, ↓ix_0, ↓ix_1, ↓ix_2, ↓ix_3, ↓tx_0, ↓tx_1, ↓tx_2, ↓tx_3, ↓Ok_datum, ↓Ok_evL0, ↓Ok_evLc, ↓Ok_eTup, ↓Ok_eLst, ↓bk_b, ↓Ok_tB, ↓Ok_eB, ↓Ok_tNot, ↓Ok_tAnd, ↓Ok_tOr, ↓Ok_eAnd, ↓Ok_eOr, ↓Ok_eIf, ↓fk_i, ↓fk_b, ↓fk_n, ↓Ok_evSe, ↓Ok_evSv, ↓ck2_b, ↓Ok_eChain,
  ↓pk_n, ↓pk_t, ↓pk_l, ↓pks_n, ↓pks_c, ↓vk_val, ↓vk_ow, ↓rvk_val, ↓rvk_ow, ↓Ok_retV, ↓augk_val, ↓Ok_augk, ↓nk_i, ↓Ok_setIx, ↓ixk_0, ↓ixk_1, ↓ixk_2, ↓apk_ow, ↓owk_ow, ↓Ok_app, ↓ak_n, ↓ak_d, ↓ak_b, ↓gk_n, ↓gk_l, ↓gk_r, ↓zk_n, ↓zk_l, ↓zk_r, ↓sgm_z, ↓sgm_s, ↓mk2_v, ↓mk2_o, ↓ik_z, ↓ik_n, ↓ik_s, ↓uk_z, ↓uk_s, ↓rtk_rt, ↓rtk_nx, ↓nok_n, ↓nok_v, ↓nok_o,
  ↓afk_nx, ↓afk_ct, ↓afk_bk, ↓afk_rt, ↓dk_l, ↓dk_t, ↓Ok_evPn, ↓Ok_evPs, ↓Ok_cutek, ↓Ok_cutv, ↓op_cutL, ↓op_cutT, ↓Ok_wSeq, ↓rk_i, ↓Ok_wRng1, ↓Ok_wRng2, ↓Ok_wEnum, ↓Ok_wZip2, ↓Ok_wZip3, ↓Ok_wN, ↓wk_n, ↓wk_c, ↓op_isB, ↓op_isNB, ↓dkk_d, ↓vk_dki, ↓lkk_s, ↓Ok_newK, ↓Ok_dlen, ↓Ok_dsorted, ↓Ok_dget, ↓Ok_dgetD, ↓Ok_dput,
  okArg_v, okArg_o, ↓Ok_tYes, nc_0, nc_1, nc_2, nc_3, nc_4, not_true_eq_false, not_false_eq_true, isN, List.length_cons, List.length_nil, Nat.zero_add, Nat.reduceAdd, List.mem_cons, List.not_mem_nil, decide_eq_true_eq, Bool.not_eq_true', decide_eq_false_iff_not, Bool.not_true, Bool.not_false, Bool.false_eq_true, if_true, if_false, true_and, and_true, or_false, or_true, true_or, reduceCtorEq, Nat.reduceEqDiff, and_self, decide_true, decide_false, Int.reduceLT, Int.reduceLE, Int.reduceEq, Int.reduceToNat, Int.reducePow, Int.reduceAdd, Int.reduceSub, Int.reduceMul, Int.reduceNeg, Int.reduceMod, Int.reduceDiv, Nat.reduceLeDiff, Nat.reduceLT, false_or, or_self, and_false, false_and]
  exact iff' (fun h => h ⟨h0, h1⟩) trivial
theorem window_rt {s : Smp} (g : Sm s) {L : Int} (h0 : 0 ≤ L) (h1 : L ≤ 1000000000) (Q : Sv → Sl → Prop) :
    Rt (F_window_estimates [.val (smD s), .val (.int L)]) Q = Q (.ow (((List.range s.length).map fun k => est (win s k L)).map PyData.int)) [.val (smD s), .val (.int L)] := by
  refine Rt_eq (ret_of ?_)
  have l40 := g.len
  unfold F_window_estimates B_window_estimates
  simp -implicitDefEqProofs only [↓need_s g, ↓need_len h0 h1, ↓Ok_ok, ↓Ok_bind, ↓Ok_seq, ↓thenS_nx, ↓thenS_rt, ↓thenS_bk, ↓thenS_ct, ↓Ok_sIf, ↓Ok_pass, ↓Ok_ret, ↓Ok_setk, ↓Ok_park, ↓Ok_par3k, ↓Ok_drop, ↓Ok_for, ↓Ok_while, ↓Ok_unpk, ↓Ok_callk, ↓Ok_tryC, ↓Tr_x, ↓Tr_r, ↓nmk_s, ↓muk_n, ↓muk_c, ↓mu2_s, ↓mu2_v, ↓mu2_o, ↓zrk_n, ↓zrk_c, ↓rs_h, ↓rs_v, ↓rs_o, hd_v, hd_o, hd_u, mh_n, mh_c, ↓Rt_fnk,
  ↓sg_z, ↓sg_s, ↓sw_z, ↓sw_s, ↓td_val, ↓td_ow, ↓Ok_eLit, ↓kp_val, ↓kp_ow, ↓Ok_eV, ↓Ok_op1e, ↓Ok_op1v, ↓Ok_op2ee, ↓Ok_op2ve, ↓Ok_op2ev, ↓Ok_op2vv, ↓op_add, ↓op_addL, ↓op_addT, ↓op_addI, ↓op_subI, ↓op_addB, ↓op_subB, ↓op_sub, ↓op_mul, ↓op_mod, ↓op_div, ↓op_pow, ↓op_lt, ↓op_le, ↓op_gt, ↓op_ge, ↓op_eqI, ↓op_neI, ↓op_neg, ↓op_isN, ↓op_notN, ↓op_lenL, ↓op_lenT,
  ↓op_isi_i, ↓op_isi_b, ↓op_isi_l, ↓op_isi_t, ↓op_isi_n, ↓op_isi_s, ↓op_abs, ↓op_max2, ↓op_min2, ↓op_tupL, ↓op_tupT, ↓op_lstL, ↓op_lstT, ↓ix_0, ↓ix_1, ↓ix_2, ↓ix_3, ↓tx_0, ↓tx_1, ↓tx_2, ↓tx_3, ↓Ok_datum, ↓Ok_evL0, ↓Ok_evLc, ↓Ok_eTup, ↓Ok_eLst, ↓bk_b, ↓Ok_tB, ↓Ok_eB, ↓Ok_tNot, ↓Ok_tAnd, ↓Ok_tOr, ↓Ok_eAnd, ↓Ok_eOr, ↓Ok_eIf, ↓fk_i, ↓fk_b, ↓fk_n, ↓Ok_evSe, ↓Ok_evSv, ↓ck2_b, ↓Ok_eChain,
  ↓pk_n, ↓pk_t, ↓pk_l, ↓pks_n, ↓pks_c, ↓vk_val, ↓vk_ow, ↓rvk_val, ↓rvk_ow, ↓Ok_retV, ↓augk_val, ↓Ok_augk, ↓nk_i, ↓Ok_setIx, ↓ixk_0, ↓ixk_1, ↓ixk_2, ↓apk_ow, ↓owk_ow, ↓Ok_app, ↓ak_n, ↓ak_d, ↓ak_b, ↓gk_n, ↓gk_l, ↓gk_r, ↓zk_n, ↓zk_l, ↓zk_r, ↓sgm_z, ↓sgm_s, ↓mk2_v, ↓mk2_o, ↓ik_z, ↓ik_n, ↓ik_s, ↓uk_z, ↓uk_s, ↓rtk_rt, ↓rtk_nx, ↓nok_n, ↓nok_v, ↓nok_o,
  ↓afk_nx, ↓afk_ct, ↓afk_bk, ↓afk_rt, ↓dk_l, ↓dk_t, ↓Ok_evPn, ↓Ok_evPs, ↓Ok_cutek, ↓Ok_cutv, ↓op_cutL, ↓op_cutT, ↓Ok_wSeq, ↓rk_i, ↓Ok_wRng1, ↓Ok_wRng2, ↓Ok_wEnum, ↓Ok_wZip2, ↓Ok_wZip3, ↓Ok_wN, ↓wk_n, ↓wk_c, ↓op_isB, ↓op_isNB, ↓dkk_d, ↓vk_dki, ↓lkk_s, ↓Ok_newK, ↓Ok_dlen, ↓Ok_dsorted, ↓Ok_dget, ↓Ok_dgetD, ↓Ok_dput,
  okArg_v, okArg_o, ↓Ok_tYes, nc_0, nc_1, nc_2, nc_3, nc_4, not_true_eq_false, not_false_eq_true, isN, List.length_cons, List.length_nil, Nat.zero_add, Nat.reduceAdd, List.mem_cons, List.not_mem_nil, decide_eq_true_eq, Bool.not_eq_true', decide_eq_false_iff_not, Bool.not_true, Bool.not_false, Bool.false_eq_true, if_true, if_false, true_and, and_true, or_false, or_true, true_or, reduceCtorEq, Nat.reduceEqDiff, and_self, decide_true, decide_false, Int.reduceLT, Int.reduceLE, Int.reduceEq, Int.reduceToNat, Int.reducePow, Int.reduceAdd, Int.reduceSub, Int.reduceMul, Int.reduceNeg, Int.reduceMod, Int.reduceDiv, Nat.reduceLeDiff, Nat.reduceLT, false_or, or_self, and_false, false_and]
  refine Ok_lcM (List.range s.length) (fun k : Nat => .int (0 + (k : Int))) (fun k : Nat => .int (est (win s k L))) ?_
  simp -implicitDefEqProofs only [List.length_map, ↓Ok_ok, ↓Ok_bind, ↓Ok_seq, ↓thenS_nx, ↓thenS_rt, ↓thenS_bk, ↓thenS_ct, ↓Ok_sIf, ↓Ok_pass, ↓Ok_ret, ↓Ok_setk, ↓Ok_park, ↓Ok_par3k, ↓Ok_drop, ↓Ok_for, ↓Ok_while, ↓Ok_unpk, ↓Ok_callk, ↓Ok_tryC, ↓Tr_x, ↓Tr_r, ↓nmk_s, ↓muk_n, ↓muk_c, ↓mu2_s, ↓mu2_v, ↓mu2_o, ↓zrk_n, ↓zrk_c, ↓rs_h, ↓rs_v, ↓rs_o, hd_v, hd_o, hd_u, mh_n, mh_c, ↓Rt_fnk,
  ↓sg_z, ↓sg_s, ↓sw_z, ↓sw_s, ↓td_val, ↓td_ow, ↓Ok_eLit, ↓kp_val, ↓kp_ow, ↓Ok_eV, ↓Ok_op1e, ↓Ok_op1v, ↓Ok_op2ee, ↓Ok_op2ve, ↓Ok_op2ev, ↓Ok_op2vv, ↓op_add, ↓op_addL, ↓op_addT, ↓op_addI, ↓op_subI, ↓op_addB, ↓op_subB, ↓op_sub, ↓op_mul, ↓op_mod, ↓op_div, ↓op_pow, ↓op_lt, ↓op_le, ↓op_gt, ↓op_ge, ↓op_eqI, ↓op_neI, ↓op_neg, ↓op_isN, ↓op_notN, ↓op_lenL, ↓op_lenT,
  ↓op_isi_i, ↓op_isi_b, ↓op_isi_l, ↓op_isi_t, ↓op_isi_n, ↓op_isi_s, ↓op_abs, ↓op_max2, ↓op_min2, ↓op_tupL, ↓op_tupT, ↓op_lstL, ↓op_lstT, ↓ix_0, ↓ix_1, ↓ix_2, ↓ix_3, ↓tx_0, ↓tx_1, ↓tx_2, ↓tx_3, ↓Ok_datum, ↓Ok_evL0, ↓Ok_evLc, ↓Ok_eTup, ↓Ok_eLst, ↓bk_b, ↓Ok_tB, ↓Ok_eB, ↓Ok_tNot, ↓Ok_tAnd, ↓Ok_tOr, ↓Ok_eAnd, ↓Ok_eOr, ↓Ok_eIf, ↓fk_i, ↓fk_b, ↓fk_n, ↓Ok_evSe, ↓Ok_evSv, ↓ck2_b, ↓Ok_eChain,
  ↓pk_n, ↓pk_t, ↓pk_l, ↓pks_n, ↓pks_c, ↓vk_val, ↓vk_ow, ↓rvk_val, ↓rvk_ow, ↓Ok_retV, ↓augk_val, ↓Ok_augk, ↓nk_i, ↓Ok_setIx, ↓ixk_0, ↓ixk_1, ↓ixk_2, ↓apk_ow, ↓owk_ow, ↓Ok_app, ↓ak_n, ↓ak_d, ↓ak_b, ↓gk_n, ↓gk_l, ↓gk_r, ↓zk_n, ↓zk_l, ↓zk_r, ↓sgm_z, ↓sgm_s, ↓mk2_v, ↓mk2_o, ↓ik_z, ↓ik_n, ↓ik_s, ↓uk_z, ↓uk_s, ↓rtk_rt, ↓rtk_nx, ↓nok_n, ↓nok_v, ↓nok_o,
  ↓afk_nx, ↓afk_ct, ↓afk_bk, ↓afk_rt, ↓dk_l, ↓dk_t, ↓Ok_evPn, ↓Ok_evPs, ↓Ok_cutek, ↓Ok_cutv, ↓op_cutL, ↓op_cutT, ↓Ok_wSeq, ↓rk_i, ↓Ok_wRng1, ↓Ok_wRng2, ↓Ok_wEnum, ↓Ok_wZip2, ↓Ok_wZip3, ↓Ok_wN, ↓wk_n, ↓wk_c, ↓op_isB, ↓op_isNB, ↓dkk_d, ↓vk_dki, ↓lkk_s, ↓Ok_newK, ↓Ok_dlen, ↓Ok_dsorted, ↓Ok_dget, ↓Ok_dgetD, ↓Ok_dput,
  okArg_v, okArg_o, ↓Ok_tYes, nc_0, nc_1, nc_2, nc_3, nc_4, not_true_eq_false, not_false_eq_true, isN, List.length_cons, List.length_nil, Nat.zero_add, Nat.reduceAdd, List.mem_cons, List.not_mem_nil, decide_eq_true_eq, Bool.not_eq_true', decide_eq_false_iff_not, Bool.not_true, Bool.not_false, Bool.false_eq_true, if_true, if_false, true_and, and_true, or_false, or_true, true_or, reduceCtorEq, Nat.reduceEqDiff, and_self, decide_true, decide_false, Int.reduceLT, Int.reduceLE, Int.reduceEq, Int.reduceToNat, Int.reducePow, Int.reduceAdd, Int.reduceSub, Int.reduceMul, Int.reduceNeg, Int.reduceMod, Int.reduceDiv, Nat.reduceLeDiff, Nat.reduceLT, false_or, or_self, and_false, false_and]
  refine ⟨⟨by omega, by omega⟩, ?_, ⟨ckT_eq.mpr trivial, fun k hk => ?_⟩, ?_⟩
  · rw [numsD_map, show ((s.length : Int) - 0).toNat = s.length by omega]
  · have hk := List.mem_range.mp hk
    have ir := fun Q => inside_rt hk L Q
    have er := fun Q => estimate_of_rt (win s k L) Q
    unfold itemm
    simp -implicitDefEqProofs only [Int.zero_add, ↓ir, ↓er, ↓Ok_ok, ↓Ok_bind, ↓Ok_seq, ↓thenS_nx, ↓thenS_rt, ↓thenS_bk, ↓thenS_ct, ↓Ok_sIf, ↓Ok_pass, ↓Ok_ret, ↓Ok_setk, ↓Ok_park, ↓Ok_par3k, ↓Ok_drop, ↓Ok_for, ↓Ok_while, ↓Ok_unpk, ↓Ok_callk, ↓Ok_tryC, ↓Tr_x, ↓Tr_r, ↓nmk_s, ↓muk_n, ↓muk_c, ↓mu2_s, ↓mu2_v, ↓mu2_o, ↓zrk_n, ↓zrk_c, ↓rs_h, ↓rs_v, ↓rs_o, hd_v, hd_o, hd_u, mh_n, mh_c, ↓Rt_fnk,
  ↓sg_z, ↓sg_s, ↓sw_z, ↓sw_s, ↓td_val, ↓td_ow, ↓Ok_eLit, ↓kp_val, ↓kp_ow, ↓Ok_eV, ↓Ok_op1e, ↓Ok_op1v, ↓Ok_op2ee, ↓Ok_op2ve, ↓Ok_op2ev, ↓Ok_op2vv, ↓op_add, ↓op_addL, ↓op_addT, ↓op_addI, ↓op_subI, ↓op_addB, ↓op_subB, ↓op_sub, ↓op_mul, ↓op_mod, ↓op_div, ↓op_pow, ↓op_lt, ↓op_le, ↓op_gt, ↓op_ge, ↓op_eqI, ↓op_neI, ↓op_neg, ↓op_isN, ↓op_notN, ↓op_lenL, ↓op_lenT,
  ↓op_isi_i, ↓op_isi_b, ↓op_isi_l, ↓op_isi_t, ↓op_isi_n, ↓op_isi_s, ↓op_abs, ↓op_max2, ↓op_min2, ↓op_tupL, ↓op_tupT, ↓op_lstL, ↓op_lstT, ↓ix_0, ↓ix_1, ↓ix_2, ↓ix_3, ↓tx_0, ↓tx_1, ↓tx_2, ↓tx_3, ↓Ok_datum, ↓Ok_evL0, ↓Ok_evLc, ↓Ok_eTup, ↓Ok_eLst, ↓bk_b, ↓Ok_tB, ↓Ok_eB, ↓Ok_tNot, ↓Ok_tAnd, ↓Ok_tOr, ↓Ok_eAnd, ↓Ok_eOr, ↓Ok_eIf, ↓fk_i, ↓fk_b, ↓fk_n, ↓Ok_evSe, ↓Ok_evSv, ↓ck2_b, ↓Ok_eChain,
  ↓pk_n, ↓pk_t, ↓pk_l, ↓pks_n, ↓pks_c, ↓vk_val, ↓vk_ow, ↓rvk_val, ↓rvk_ow, ↓Ok_retV, ↓augk_val, ↓Ok_augk, ↓nk_i, ↓Ok_setIx, ↓ixk_0, ↓ixk_1, ↓ixk_2, ↓apk_ow, ↓owk_ow, ↓Ok_app, ↓ak_n, ↓ak_d, ↓ak_b, ↓gk_n, ↓gk_l, ↓gk_r, ↓zk_n, ↓zk_l, ↓zk_r, ↓sgm_z, ↓sgm_s, ↓mk2_v, ↓mk2_o, ↓ik_z, ↓ik_n, ↓ik_s, ↓uk_z, ↓uk_s, ↓rtk_rt, ↓rtk_nx, ↓nok_n, ↓nok_v, ↓nok_o,
  ↓afk_nx, ↓afk_ct, ↓afk_bk, ↓afk_rt, ↓dk_l, ↓dk_t, ↓Ok_evPn, ↓Ok_evPs, ↓Ok_cutek, ↓Ok_cutv, ↓op_cutL, ↓op_cutT, ↓Ok_wSeq, ↓rk_i, ↓Ok_wRng1, ↓Ok_wRng2, ↓Ok_wEnum, ↓Ok_wZip2, ↓Ok_wZip3, ↓Ok_wN, ↓wk_n, ↓wk_c, ↓op_isB, ↓op_isNB, ↓dkk_d, ↓vk_dki, ↓lkk_s, ↓Ok_newK, ↓Ok_dlen, ↓Ok_dsorted, ↓Ok_dget, ↓Ok_dgetD, ↓Ok_dput,
  okArg_v, okArg_o, ↓Ok_tYes, nc_0, nc_1, nc_2, nc_3, nc_4, not_true_eq_false, not_false_eq_true, isN, List.length_cons, List.length_nil, Nat.zero_add, Nat.reduceAdd, List.mem_cons, List.not_mem_nil, decide_eq_true_eq, Bool.not_eq_true', decide_eq_false_iff_not, Bool.not_true, Bool.not_false, Bool.false_eq_true, if_true, if_false, true_and, and_true, or_false, or_true, true_or, reduceCtorEq, Nat.reduceEqDiff, and_self, decide_true, decide_false, Int.reduceLT, Int.reduceLE, Int.reduceEq, Int.reduceToNat, Int.reducePow, Int.reduceAdd, Int.reduceSub, Int.reduceMul, Int.reduceNeg, Int.reduceMod, Int.reduceDiv, Nat.reduceLeDiff, Nat.reduceLT, false_or, or_self, and_false, false_and]
  · rw [List.map_map]
    rfl
end

/-! ### statuses -/
section
open PySem Rc
abbrev Gp := Int × Int × Int
abbrev gpD (q : Gp) : D := .tuple [.int q.1, .int q.2.1, .int q.2.2]
def gps (s : Smp) : List Gp := (prs s).map fun q => (q.2.1 - q.1.1, q.1.2, q.2.2)
theorem gaps_rt (s : Smp) (Q : Sv → Sl → Prop) : Rt (F_gaps_of [.val (smD s)]) Q = Q (.ow ((gps s).map gpD)) [.val (smD s)] := by
  refine Rt_eq (ret_of ?_)
  unfold F_gaps_of B_gaps_of
  simp -implicitDefEqProofs only [if_true, ↓Ok_ok, ↓Ok_bind, ↓Ok_seq, ↓thenS_nx, ↓thenS_rt, ↓thenS_bk, ↓thenS_ct, ↓Ok_sIf, ↓Ok_pass, ↓Ok_ret, ↓Ok_setk, ↓Ok_park, ↓Ok_par3k, ↓Ok_drop, ↓Ok_for, ↓Ok_while, ↓Ok_unpk, ↓Ok_callk, ↓Ok_tryC, ↓Tr_x, ↓Tr_r, ↓nmk_s, ↓muk_n, ↓muk_c, ↓mu2_s, ↓mu2_v, ↓mu2_o, ↓zrk_n, ↓zrk_c, ↓rs_h, ↓rs_v, ↓rs_o, hd_v, hd_o, hd_u, mh_n, mh_c, ↓Rt_fnk,
  ↓sg_z, ↓sg_s, ↓sw_z, ↓sw_s, ↓td_val, ↓td_ow, ↓Ok_eLit, ↓kp_val, ↓kp_ow, ↓Ok_eV, ↓Ok_op1e, ↓Ok_op1v, ↓Ok_op2ee, ↓Ok_op2ve, ↓Ok_op2ev, ↓Ok_op2vv, ↓op_add, ↓op_addL, ↓op_addT, ↓op_addI, ↓op_subI, ↓op_addB, ↓op_subB, ↓op_sub, ↓op_mul, ↓op_mod, ↓op_div, ↓op_pow, ↓op_lt, ↓op_le, ↓op_gt, ↓op_ge, ↓op_eqI, ↓op_neI, ↓op_neg, ↓op_isN, ↓op_notN, ↓op_lenL, ↓op_lenT,
  ↓op_isi_i, ↓op_isi_b, ↓op_isi_l, ↓op_isi_t, ↓op_isi_n, ↓op_isi_s, ↓op_abs, ↓op_max2, ↓op_min2, ↓op_tupL, ↓op_tupT, ↓op_lstL, ↓op_lstT, ↓ix_0, ↓ix_1, ↓ix_2, ↓ix_3, ↓tx_0, ↓tx_1, ↓tx_2, ↓tx_3, ↓Ok_datum, ↓Ok_evL0, ↓Ok_evLc, ↓Ok_eTup, ↓Ok_eLst, ↓bk_b, ↓Ok_tB, ↓Ok_eB, ↓Ok_tNot, ↓Ok_tAnd, ↓Ok_tOr, ↓Ok_eAnd, ↓Ok_eOr, ↓Ok_eIf, ↓fk_i, ↓fk_b, ↓fk_n, ↓Ok_evSe, ↓Ok_evSv, ↓ck2_b, ↓Ok_eChain,
  ↓pk_n, ↓pk_t, ↓pk_l, ↓pks_n, ↓pks_c, ↓vk_val, ↓vk_ow, ↓rvk_val, ↓rvk_ow, ↓Ok_retV, ↓augk_val, ↓Ok_augk, ↓nk_i, ↓Ok_setIx, ↓ixk_0, ↓ixk_1, ↓ixk_2, ↓apk_ow, ↓owk_ow, ↓Ok_app, ↓ak_n, ↓ak_d, ↓ak_b, ↓gk_n, ↓gk_l, ↓gk_r, ↓zk_n, ↓zk_l, ↓zk_r, ↓sgm_z, ↓sgm_s, ↓mk2_v, ↓mk2_o, ↓ik_z, ↓ik_n, ↓ik_s, ↓uk_z, ↓uk_s, ↓rtk_rt, ↓rtk_nx, ↓nok_n, ↓nok_v, ↓nok_o,
  ↓afk_nx, ↓afk_ct, ↓afk_bk, ↓afk_rt, ↓dk_l, ↓dk_t, ↓Ok_evPn, ↓Ok_evPs, ↓Ok_cutek, ↓Ok_cutv, ↓op_cutL, ↓op_cutT, ↓Ok_wSeq, ↓rk_i, ↓Ok_wRng1, ↓Ok_wRng2, ↓Ok_wEnum, ↓Ok_wZip2, ↓Ok_wZip3, ↓Ok_wN, ↓wk_n, ↓wk_c, ↓op_isB, ↓op_isNB, ↓dkk_d, ↓vk_dki, ↓lkk_s, ↓Ok_newK, ↓Ok_dlen, ↓Ok_dsorted, ↓Ok_dget, ↓Ok_dgetD, ↓Ok_dput,
  okArg_v, okArg_o, ↓Ok_tYes, nc_0, nc_1, nc_2, nc_3, nc_4, not_true_eq_false, not_false_eq_true, isN, List.length_cons, List.length_nil, Nat.zero_add, Nat.reduceAdd, List.mem_cons, List.not_mem_nil, decide_eq_true_eq, Bool.not_eq_true', decide_eq_false_iff_not, Bool.not_true, Bool.not_false, Bool.false_eq_true, if_true, if_false, true_and, and_true, or_false, or_true, true_or, reduceCtorEq, Nat.reduceEqDiff, and_self, decide_true, decide_false, Int.reduceLT, Int.reduceLE, Int.reduceEq, Int.reduceToNat, Int.reducePow, Int.reduceAdd, Int.reduceSub, Int.reduceMul, Int.reduceNeg, Int.reduceMod, Int.reduceDiv, Nat.reduceLeDiff, Nat.reduceLT, false_or, or_self, and_false, false_and]
  refine Ok_lcM (prs s) (fun q => .tuple [pqD q.1, pqD q.2]) (fun q => gpD (q.2.1 - q.1.1, q.1.2, q.2.2)) ?_
  simp -implicitDefEqProofs only [if_true, ↓Ok_ok, ↓Ok_bind, ↓Ok_seq, ↓thenS_nx, ↓thenS_rt, ↓thenS_bk, ↓thenS_ct, ↓Ok_sIf, ↓Ok_pass, ↓Ok_ret, ↓Ok_setk, ↓Ok_park, ↓Ok_par3k, ↓Ok_drop, ↓Ok_for, ↓Ok_while, ↓Ok_unpk, ↓Ok_callk, ↓Ok_tryC, ↓Tr_x, ↓Tr_r, ↓nmk_s, ↓muk_n, ↓muk_c, ↓mu2_s, ↓mu2_v, ↓mu2_o, ↓zrk_n, ↓zrk_c, ↓rs_h, ↓rs_v, ↓rs_o, hd_v, hd_o, hd_u, mh_n, mh_c, ↓Rt_fnk,
  ↓sg_z, ↓sg_s, ↓sw_z, ↓sw_s, ↓td_val, ↓td_ow, ↓Ok_eLit, ↓kp_val, ↓kp_ow, ↓Ok_eV, ↓Ok_op1e, ↓Ok_op1v, ↓Ok_op2ee, ↓Ok_op2ve, ↓Ok_op2ev, ↓Ok_op2vv, ↓op_add, ↓op_addL, ↓op_addT, ↓op_addI, ↓op_subI, ↓op_addB, ↓op_subB, ↓op_sub, ↓op_mul, ↓op_mod, ↓op_div, ↓op_pow, ↓op_lt, ↓op_le, ↓op_gt, ↓op_ge, ↓op_eqI, ↓op_neI, ↓op_neg, ↓op_isN, ↓op_notN, ↓op_lenL, ↓op_lenT,
  ↓op_isi_i, ↓op_isi_b, ↓op_isi_l, ↓op_isi_t, ↓op_isi_n, ↓op_isi_s, ↓op_abs, ↓op_max2, ↓op_min2, ↓op_tupL, ↓op_tupT, ↓op_lstL, ↓op_lstT, ↓ix_0, ↓ix_1, ↓ix_2, ↓ix_3, ↓tx_0, ↓tx_1, ↓tx_2, ↓tx_3, ↓Ok_datum, ↓Ok_evL0, ↓Ok_evLc, ↓Ok_eTup, ↓Ok_eLst, ↓bk_b, ↓Ok_tB, ↓Ok_eB, ↓Ok_tNot, ↓Ok_tAnd, ↓Ok_tOr, ↓Ok_eAnd, ↓Ok_eOr, ↓Ok_eIf, ↓fk_i, ↓fk_b, ↓fk_n, ↓Ok_evSe, ↓Ok_evSv, ↓ck2_b, ↓Ok_eChain,
  ↓pk_n, ↓pk_t, ↓pk_l, ↓pks_n, ↓pks_c, ↓vk_val, ↓vk_ow, ↓rvk_val, ↓rvk_ow, ↓Ok_retV, ↓augk_val, ↓Ok_augk, ↓nk_i, ↓Ok_setIx, ↓ixk_0, ↓ixk_1, ↓ixk_2, ↓apk_ow, ↓owk_ow, ↓Ok_app, ↓ak_n, ↓ak_d, ↓ak_b, ↓gk_n, ↓gk_l, ↓gk_r, ↓zk_n, ↓zk_l, ↓zk_r, ↓sgm_z, ↓sgm_s, ↓mk2_v, ↓mk2_o, ↓ik_z, ↓ik_n, ↓ik_s, ↓uk_z, ↓uk_s, ↓rtk_rt, ↓rtk_nx, ↓nok_n, ↓nok_v, ↓nok_o,
  ↓afk_nx, ↓afk_ct, ↓afk_bk, ↓afk_rt, ↓dk_l, ↓dk_t, ↓Ok_evPn, ↓Ok_evPs, ↓Ok_cutek, ↓Ok_cutv, ↓op_cutL, ↓op_cutT, ↓Ok_wSeq, ↓rk_i, ↓Ok_wRng1, ↓Ok_wRng2, ↓Ok_wEnum, ↓Ok_wZip2, ↓Ok_wZip3, ↓Ok_wN, ↓wk_n, ↓wk_c, ↓op_isB, ↓op_isNB, ↓dkk_d, ↓vk_dki, ↓lkk_s, ↓Ok_newK, ↓Ok_dlen, ↓Ok_dsorted, ↓Ok_dget, ↓Ok_dgetD, ↓Ok_dput,
  okArg_v, okArg_o, ↓Ok_tYes, nc_0, nc_1, nc_2, nc_3, nc_4, not_true_eq_false, not_false_eq_true, isN, List.length_cons, List.length_nil, Nat.zero_add, Nat.reduceAdd, List.mem_cons, List.not_mem_nil, decide_eq_true_eq, Bool.not_eq_true', decide_eq_false_iff_not, Bool.not_true, Bool.not_false, Bool.false_eq_true, if_true, if_false, true_and, and_true, or_false, or_true, true_or, reduceCtorEq, Nat.reduceEqDiff, and_self, decide_true, decide_false, Int.reduceLT, Int.reduceLE, Int.reduceEq, Int.reduceToNat, Int.reducePow, Int.reduceAdd, Int.reduceSub, Int.reduceMul, Int.reduceNeg, Int.reduceMod, Int.reduceDiv, Nat.reduceLeDiff, Nat.reduceLT, false_or, or_self, and_false, false_and]
  refine ⟨zip2_cut pqD s, ⟨ckT_eq.mpr trivial, fun q _ => ?_⟩, ?_⟩
  · unfold itemm
    simp -implicitDefEqProofs only [↓pq_0, ↓pq_1, ↓Ok_ok, ↓Ok_bind, ↓Ok_seq, ↓thenS_nx, ↓thenS_rt, ↓thenS_bk, ↓thenS_ct, ↓Ok_sIf, ↓Ok_pass, ↓Ok_ret, ↓Ok_setk, ↓Ok_park, ↓Ok_par3k, ↓Ok_drop, ↓Ok_for, ↓Ok_while, ↓Ok_unpk, ↓Ok_callk, ↓Ok_tryC, ↓Tr_x, ↓Tr_r, ↓nmk_s, ↓muk_n, ↓muk_c, ↓mu2_s, ↓mu2_v, ↓mu2_o, ↓zrk_n, ↓zrk_c, ↓rs_h, ↓rs_v, ↓rs_o, hd_v, hd_o, hd_u, mh_n, mh_c, ↓Rt_fnk,
  ↓sg_z, ↓sg_s, ↓sw_z, ↓sw_s, ↓td_val, ↓td_ow, ↓Ok_eLit, ↓kp_val, ↓kp_ow, ↓Ok_eV, ↓Ok_op1e, ↓Ok_op1v, ↓Ok_op2ee, ↓Ok_op2ve, ↓Ok_op2ev, ↓Ok_op2vv, ↓op_add, ↓op_addL, ↓op_addT, ↓op_addI, ↓op_subI, ↓op_addB, ↓op_subB, ↓op_sub, ↓op_mul, ↓op_mod, ↓op_div, ↓op_pow, ↓op_lt, ↓op_le, ↓op_gt, ↓op_ge, ↓op_eqI, ↓op_neI, ↓op_neg, ↓op_isN, ↓op_notN, ↓op_lenL, ↓op_lenT,
  ↓op_isi_i, ↓op_isi_b, ↓op_isi_l, ↓op_isi_t, ↓op_isi_n, ↓op_isi_s, ↓op_abs, ↓op_max2, ↓op_min2, ↓op_tupL, ↓op_tupT, ↓op_lstL, ↓op_lstT, ↓ix_0, ↓ix_1, ↓ix_2, ↓ix_3, ↓tx_0, ↓tx_1, ↓tx_2, ↓tx_3, ↓Ok_datum, ↓Ok_evL0, ↓Ok_evLc, ↓Ok_eTup, ↓Ok_eLst, ↓bk_b, ↓Ok_tB, ↓Ok_eB, ↓Ok_tNot, ↓Ok_tAnd, ↓Ok_tOr, ↓Ok_eAnd, ↓Ok_eOr, ↓Ok_eIf, ↓fk_i, ↓fk_b, ↓fk_n, ↓Ok_evSe, ↓Ok_evSv, ↓ck2_b, ↓Ok_eChain,
  ↓pk_n, ↓pk_t, ↓pk_l, ↓pks_n, ↓pks_c, ↓vk_val, ↓vk_ow, ↓rvk_val, ↓rvk_ow, ↓Ok_retV, ↓augk_val, ↓Ok_augk, ↓nk_i, ↓Ok_setIx, ↓ixk_0, ↓ixk_1, ↓ixk_2, ↓apk_ow, ↓owk_ow, ↓Ok_app, ↓ak_n, ↓ak_d, ↓ak_b, ↓gk_n, ↓gk_l, ↓gk_r, ↓zk_n, ↓zk_l, ↓zk_r, ↓sgm_z, ↓sgm_s, ↓mk2_v, ↓mk2_o, ↓ik_z, ↓ik_n, ↓ik_s, ↓uk_z, ↓uk_s, ↓rtk_rt, ↓rtk_nx, ↓nok_n, ↓nok_v, ↓nok_o,
  ↓afk_nx, ↓afk_ct, ↓afk_bk, ↓afk_rt, ↓dk_l, ↓dk_t, ↓Ok_evPn, ↓Ok_evPs, ↓Ok_cutek, ↓Ok_cutv, ↓op_cutL, ↓op_cutT, ↓Ok_wSeq, ↓rk_i, ↓Ok_wRng1, ↓Ok_wRng2, ↓Ok_wEnum, ↓Ok_wZip2, ↓Ok_wZip3, ↓Ok_wN, ↓wk_n, ↓wk_c, ↓op_isB, ↓op_isNB, ↓dkk_d, ↓vk_dki, ↓lkk_s, ↓Ok_newK, ↓Ok_dlen, ↓Ok_dsorted, ↓Ok_dget, ↓Ok_dgetD, ↓Ok_dput,
  okArg_v, okArg_o, ↓Ok_tYes, nc_0, nc_1, nc_2, nc_3, nc_4, not_true_eq_false, not_false_eq_true, isN, List.length_cons, List.length_nil, Nat.zero_add, Nat.reduceAdd, List.mem_cons, List.not_mem_nil, decide_eq_true_eq, Bool.not_eq_true', decide_eq_false_iff_not, Bool.not_true, Bool.not_false, Bool.false_eq_true, if_true, if_false, true_and, and_true, or_false, or_true, true_or, reduceCtorEq, Nat.reduceEqDiff, and_self, decide_true, decide_false, Int.reduceLT, Int.reduceLE, Int.reduceEq, Int.reduceToNat, Int.reducePow, Int.reduceAdd, Int.reduceSub, Int.reduceMul, Int.reduceNeg, Int.reduceMod, Int.reduceDiv, Nat.reduceLeDiff, Nat.reduceLT, false_or, or_self, and_false, false_and]
  · rw [gps, List.map_map]
    rfl
theorem need_r {r : Int} (h0 : 1 ≤ r) (h1 : r ≤ 1000000) (Q : Sv → Sl → Prop) : Rt (F_need_rate [.val (.int r)]) Q = Q (.val .none) [.val (.int r)] := by
  refine Rt_eq (ret_of ?_)
  unfold F_need_rate B_need_rate
  simp -implicitDefEqProofs only [↓is_from_eq, ↓Ok_ok, ↓Ok_bind, ↓Ok_seq, ↓thenS_nx, ↓thenS_rt, ↓thenS_bk, ↓thenS_ct, ↓Ok_sIf, ↓Ok_pass, ↓Ok_ret, ↓Ok_setk, ↓Ok_park, ↓Ok_par3k, ↓Ok_drop, ↓Ok_for, ↓Ok_while, ↓Ok_unpk, ↓Ok_callk, ↓Ok_tryC, ↓Tr_x, ↓Tr_r, ↓nmk_s, ↓muk_n, ↓muk_c, ↓mu2_s, ↓mu2_v, ↓mu2_o, ↓zrk_n, ↓zrk_c, ↓rs_h, ↓rs_v, ↓rs_o, hd_v, hd_o, hd_u, mh_n, mh_c, ↓Rt_fnk,
  ↓sg_z, ↓sg_s, ↓sw_z, ↓sw_s, ↓td_val, ↓td_ow, ↓Ok_eLit, ↓kp_val, ↓kp_ow, ↓Ok_eV, ↓Ok_op1e, ↓Ok_op1v, ↓Ok_op2ee, ↓Ok_op2ve, ↓Ok_op2ev, ↓Ok_op2vv, ↓op_add, ↓op_addL, ↓op_addT, ↓op_addI, ↓op_subI, ↓op_addB, ↓op_subB, ↓op_sub, ↓op_mul, ↓op_mod, ↓op_div, ↓op_pow, ↓op_lt, ↓op_le, ↓op_gt, ↓op_ge, ↓op_eqI, ↓op_neI, ↓op_neg, ↓op_isN, ↓op_notN, ↓op_lenL, ↓op_lenT,
  ↓op_isi_i, ↓op_isi_b, ↓op_isi_l, ↓op_isi_t, ↓op_isi_n, ↓op_isi_s, ↓op_abs, ↓op_max2, ↓op_min2, ↓op_tupL, ↓op_tupT, ↓op_lstL, ↓op_lstT, ↓ix_0, ↓ix_1, ↓ix_2, ↓ix_3, ↓tx_0, ↓tx_1, ↓tx_2, ↓tx_3, ↓Ok_datum, ↓Ok_evL0, ↓Ok_evLc, ↓Ok_eTup, ↓Ok_eLst, ↓bk_b, ↓Ok_tB, ↓Ok_eB, ↓Ok_tNot, ↓Ok_tAnd, ↓Ok_tOr, ↓Ok_eAnd, ↓Ok_eOr, ↓Ok_eIf, ↓fk_i, ↓fk_b, ↓fk_n, ↓Ok_evSe, ↓Ok_evSv, ↓ck2_b, ↓Ok_eChain,
  ↓pk_n, ↓pk_t, ↓pk_l, ↓pks_n, ↓pks_c, ↓vk_val, ↓vk_ow, ↓rvk_val, ↓rvk_ow, ↓Ok_retV, ↓augk_val, ↓Ok_augk, ↓nk_i, ↓Ok_setIx, ↓ixk_0, ↓ixk_1, ↓ixk_2, ↓apk_ow, ↓owk_ow, ↓Ok_app, ↓ak_n, ↓ak_d, ↓ak_b, ↓gk_n, ↓gk_l, ↓gk_r, ↓zk_n, ↓zk_l, ↓zk_r, ↓sgm_z, ↓sgm_s, ↓mk2_v, ↓mk2_o, ↓ik_z, ↓ik_n, ↓ik_s, ↓uk_z, ↓uk_s, ↓rtk_rt, ↓rtk_nx, ↓nok_n, ↓nok_v, ↓nok_o,
  ↓afk_nx, ↓afk_ct, ↓afk_bk, ↓afk_rt, ↓dk_l, ↓dk_t, ↓Ok_evPn, ↓Ok_evPs, ↓Ok_cutek, ↓Ok_cutv, ↓op_cutL, ↓op_cutT, ↓Ok_wSeq, ↓rk_i, ↓Ok_wRng1, ↓Ok_wRng2, ↓Ok_wEnum, ↓Ok_wZip2, ↓Ok_wZip3, ↓Ok_wN, ↓wk_n, ↓wk_c, ↓op_isB, ↓op_isNB, ↓dkk_d, ↓vk_dki, ↓lkk_s, ↓Ok_newK, ↓Ok_dlen, ↓Ok_dsorted, ↓Ok_dget, ↓Ok_dgetD, ↓Ok_dput,
  okArg_v, okArg_o, ↓Ok_tYes, nc_0, nc_1, nc_2, nc_3, nc_4, not_true_eq_false, not_false_eq_true, isN, List.length_cons, List.length_nil, Nat.zero_add, Nat.reduceAdd, List.mem_cons, List.not_mem_nil, decide_eq_true_eq, Bool.not_eq_true', decide_eq_false_iff_not, Bool.not_true, Bool.not_false, Bool.false_eq_true, if_true, if_false, true_and, and_true, or_false, or_true, true_or, reduceCtorEq, Nat.reduceEqDiff, and_self, decide_true, decide_false, Int.reduceLT, Int.reduceLE, Int.reduceEq, Int.reduceToNat, Int.reducePow, Int.reduceAdd, Int.reduceSub, Int.reduceMul, Int.reduceNeg, Int.reduceMod, Int.reduceDiv, Nat.reduceLeDiff, Nat.reduceLT, false_or, or_self, and_false, false_and]
  exact iff' (fun h => h ⟨h0, h1⟩) trivial
/-- without a restart it can be; with one -/
abbrev plain (q : Gp) (r : Int) : Bool := decide (0 ≤ q.2.2 - q.2.1 ∧ q.2.2 - q.2.1 ≤ r * q.1)
abbrev again (q : Gp) (r : Int) : Bool := decide (q.2.2 ≤ r * q.1)
theorem options_rt (q : Gp) {r : Int} (h0 : 0 ≤ r) (h1 : r ≤ 1000000) (Q : Sv → Sl → Prop) : Rt (F_options [.val (gpD q), .val (.int r)]) Q =
    Q (.val (.tuple [if plain q r then .tuple [.int (q.2.2 - q.2.1), .int (q.2.2 - q.2.1)] else .none, if again q r then .tuple [.int q.2.2, .int (r * q.1)] else .none])) [.val (gpD q), .val (.int r)] := by
  refine Rt_eq (ret_of ?_)
  unfold F_options B_options
  simp -implicitDefEqProofs only [if_true, ↓Ok_ok, ↓Ok_bind, ↓Ok_seq, ↓thenS_nx, ↓thenS_rt, ↓thenS_bk, ↓thenS_ct, ↓Ok_sIf, ↓Ok_pass, ↓Ok_ret, ↓Ok_setk, ↓Ok_park, ↓Ok_par3k, ↓Ok_drop, ↓Ok_for, ↓Ok_while, ↓Ok_unpk, ↓Ok_callk, ↓Ok_tryC, ↓Tr_x, ↓Tr_r, ↓nmk_s, ↓muk_n, ↓muk_c, ↓mu2_s, ↓mu2_v, ↓mu2_o, ↓zrk_n, ↓zrk_c, ↓rs_h, ↓rs_v, ↓rs_o, hd_v, hd_o, hd_u, mh_n, mh_c, ↓Rt_fnk,
  ↓sg_z, ↓sg_s, ↓sw_z, ↓sw_s, ↓td_val, ↓td_ow, ↓Ok_eLit, ↓kp_val, ↓kp_ow, ↓Ok_eV, ↓Ok_op1e, ↓Ok_op1v, ↓Ok_op2ee, ↓Ok_op2ve, ↓Ok_op2ev, ↓Ok_op2vv, ↓op_add, ↓op_addL, ↓op_addT, ↓op_addI, ↓op_subI, ↓op_addB, ↓op_subB, ↓op_sub, ↓op_mul, ↓op_mod, ↓op_div, ↓op_pow, ↓op_lt, ↓op_le, ↓op_gt, ↓op_ge, ↓op_eqI, ↓op_neI, ↓op_neg, ↓op_isN, ↓op_notN, ↓op_lenL, ↓op_lenT,
  ↓op_isi_i, ↓op_isi_b, ↓op_isi_l, ↓op_isi_t, ↓op_isi_n, ↓op_isi_s, ↓op_abs, ↓op_max2, ↓op_min2, ↓op_tupL, ↓op_tupT, ↓op_lstL, ↓op_lstT, ↓ix_0, ↓ix_1, ↓ix_2, ↓ix_3, ↓tx_0, ↓tx_1, ↓tx_2, ↓tx_3, ↓Ok_datum, ↓Ok_evL0, ↓Ok_evLc, ↓Ok_eTup, ↓Ok_eLst, ↓bk_b, ↓Ok_tB, ↓Ok_eB, ↓Ok_tNot, ↓Ok_tAnd, ↓Ok_tOr, ↓Ok_eAnd, ↓Ok_eOr, ↓Ok_eIf, ↓fk_i, ↓fk_b, ↓fk_n, ↓Ok_evSe, ↓Ok_evSv, ↓ck2_b, ↓Ok_eChain,
  ↓pk_n, ↓pk_t, ↓pk_l, ↓pks_n, ↓pks_c, ↓vk_val, ↓vk_ow, ↓rvk_val, ↓rvk_ow, ↓Ok_retV, ↓augk_val, ↓Ok_augk, ↓nk_i, ↓Ok_setIx, ↓ixk_0, ↓ixk_1, ↓ixk_2, ↓apk_ow, ↓owk_ow, ↓Ok_app, ↓ak_n, ↓ak_d, ↓ak_b, ↓gk_n, ↓gk_l, ↓gk_r, ↓zk_n, ↓zk_l, ↓zk_r, ↓sgm_z, ↓sgm_s, ↓mk2_v, ↓mk2_o, ↓ik_z, ↓ik_n, ↓ik_s, ↓uk_z, ↓uk_s, ↓rtk_rt, ↓rtk_nx, ↓nok_n, ↓nok_v, ↓nok_o,
  ↓afk_nx, ↓afk_ct, ↓afk_bk, ↓afk_rt, ↓dk_l, ↓dk_t, ↓Ok_evPn, ↓Ok_evPs, ↓Ok_cutek, ↓Ok_cutv, ↓op_cutL, ↓op_cutT, ↓Ok_wSeq, ↓rk_i, ↓Ok_wRng1, ↓Ok_wRng2, ↓Ok_wEnum, ↓Ok_wZip2, ↓Ok_wZip3, ↓Ok_wN, ↓wk_n, ↓wk_c, ↓op_isB, ↓op_isNB, ↓dkk_d, ↓vk_dki, ↓lkk_s, ↓Ok_newK, ↓Ok_dlen, ↓Ok_dsorted, ↓Ok_dget, ↓Ok_dgetD, ↓Ok_dput,
  okArg_v, okArg_o, ↓Ok_tYes, nc_0, nc_1, nc_2, nc_3, nc_4, not_true_eq_false, not_false_eq_true, isN, List.length_cons, List.length_nil, Nat.zero_add, Nat.reduceAdd, List.mem_cons, List.not_mem_nil, decide_eq_true_eq, Bool.not_eq_true', decide_eq_false_iff_not, Bool.not_true, Bool.not_false, Bool.false_eq_true, if_true, if_false, true_and, and_true, or_false, or_true, true_or, reduceCtorEq, Nat.reduceEqDiff, and_self, decide_true, decide_false, Int.reduceLT, Int.reduceLE, Int.reduceEq, Int.reduceToNat, Int.reducePow, Int.reduceAdd, Int.reduceSub, Int.reduceMul, Int.reduceNeg, Int.reduceMod, Int.reduceDiv, Nat.reduceLeDiff, Nat.reduceLT, false_or, or_self, and_false, false_and]
  refine ⟨.inl ⟨by omega, by omega⟩, ?_⟩
  by_cases z1 : 0 ≤ q.2.2 - q.2.1 <;> by_cases z2 : q.2.2 - q.2.1 ≤ r * q.1 <;> by_cases z3 : q.2.2 ≤ r * q.1 <;> simp only [plain, again, z1, z2, z3, and_self, and_true, and_false, decide_true, decide_false, if_true, if_false, Bool.false_eq_true] <;> simp -implicitDefEqProofs only [if_true, ↓Ok_ok, ↓Ok_bind, ↓Ok_seq, ↓thenS_nx, ↓thenS_rt, ↓thenS_bk, ↓thenS_ct, ↓Ok_sIf, ↓Ok_pass, ↓Ok_ret, ↓Ok_setk, ↓Ok_park, ↓Ok_par3k, ↓Ok_drop, ↓Ok_for, ↓Ok_while, ↓Ok_unpk, ↓Ok_callk, ↓Ok_tryC, ↓Tr_x, ↓Tr_r, ↓nmk_s, ↓muk_n, ↓muk_c, ↓mu2_s, ↓mu2_v, ↓mu2_o, ↓zrk_n, ↓zrk_c, ↓rs_h, ↓rs_v, ↓rs_o, hd_v, hd_o, hd_u, mh_n, mh_c, ↓Rt_fnk,
  ↓sg_z, ↓sg_s, ↓sw_z, ↓sw_s, ↓td_val, ↓td_ow, ↓Ok_eLit, ↓kp_val, ↓kp_ow, ↓Ok_eV, ↓Ok_op1e, ↓Ok_op1v, ↓Ok_op2ee, ↓Ok_op2ve, ↓Ok_op2ev, ↓Ok_op2vv, ↓op_add, ↓op_addL, ↓op_addT, ↓op_addI, ↓op_subI, ↓op_addB, ↓op_subB, ↓op_sub, ↓op_mul, ↓op_mod, ↓op_div, ↓op_pow, ↓op_lt, ↓op_le, ↓op_gt, ↓op_ge, ↓op_eqI, ↓op_neI, ↓op_neg, ↓op_isN, ↓op_notN, ↓op_lenL, ↓op_lenT,
  ↓op_isi_i, ↓op_isi_b, ↓op_isi_l, ↓op_isi_t, ↓op_isi_n, ↓op_isi_s, ↓op_abs, ↓op_max2, ↓op_min2, ↓op_tupL, ↓op_tupT, ↓op_lstL, ↓op_lstT, ↓ix_0, ↓ix_1, ↓ix_2, ↓ix_3, ↓tx_0, ↓tx_1, ↓tx_2, ↓tx_3, ↓Ok_datum, ↓Ok_evL0, ↓Ok_evLc, ↓Ok_eTup, ↓Ok_eLst, ↓bk_b, ↓Ok_tB, ↓Ok_eB, ↓Ok_tNot, ↓Ok_tAnd, ↓Ok_tOr, ↓Ok_eAnd, ↓Ok_eOr, ↓Ok_eIf, ↓fk_i, ↓fk_b, ↓fk_n, ↓Ok_evSe, ↓Ok_evSv, ↓ck2_b, ↓Ok_eChain,
  ↓pk_n, ↓pk_t, ↓pk_l, ↓pks_n, ↓pks_c, ↓vk_val, ↓vk_ow, ↓rvk_val, ↓rvk_ow, ↓Ok_retV, ↓augk_val, ↓Ok_augk, ↓nk_i, ↓Ok_setIx, ↓ixk_0, ↓ixk_1, ↓ixk_2, ↓apk_ow, ↓owk_ow, ↓Ok_app, ↓ak_n, ↓ak_d, ↓ak_b, ↓gk_n, ↓gk_l, ↓gk_r, ↓zk_n, ↓zk_l, ↓zk_r, ↓sgm_z, ↓sgm_s, ↓mk2_v, ↓mk2_o, ↓ik_z, ↓ik_n, ↓ik_s, ↓uk_z, ↓uk_s, ↓rtk_rt, ↓rtk_nx, ↓nok_n, ↓nok_v, ↓nok_o,
  ↓afk_nx, ↓afk_ct, ↓afk_bk, ↓afk_rt, ↓dk_l, ↓dk_t, ↓Ok_evPn, ↓Ok_evPs, ↓Ok_cutek, ↓Ok_cutv, ↓op_cutL, ↓op_cutT, ↓Ok_wSeq, ↓rk_i, ↓Ok_wRng1, ↓Ok_wRng2, ↓Ok_wEnum, ↓Ok_wZip2, ↓Ok_wZip3, ↓Ok_wN, ↓wk_n, ↓wk_c, ↓op_isB, ↓op_isNB, ↓dkk_d, ↓vk_dki, ↓lkk_s, ↓Ok_newK, ↓Ok_dlen, ↓Ok_dsorted, ↓Ok_dget, ↓Ok_dgetD, ↓Ok_dput,
  okArg_v, okArg_o, ↓Ok_tYes, nc_0, nc_1, nc_2, nc_3, nc_4, not_true_eq_false, not_false_eq_true, isN, List.length_cons, List.length_nil, Nat.zero_add, Nat.reduceAdd, List.mem_cons, List.not_mem_nil, decide_eq_true_eq, Bool.not_eq_true', decide_eq_false_iff_not, Bool.not_true, Bool.not_false, Bool.false_eq_true, if_true, if_false, true_and, and_true, or_false, or_true, true_or, reduceCtorEq, Nat.reduceEqDiff, and_self, decide_true, decide_false, Int.reduceLT, Int.reduceLE, Int.reduceEq, Int.reduceToNat, Int.reducePow, Int.reduceAdd, Int.reduceSub, Int.reduceMul, Int.reduceNeg, Int.reduceMod, Int.reduceDiv, Nat.reduceLeDiff, Nat.reduceLT, false_or, or_self, and_false, false_and]
def stat (q : Gp) (r : Int) : Str := if plain q r then (if again q r then PySem.Str.ofString "open" else PySem.Str.ofString "impossible") else (if again q r then PySem.Str.ofString "certain" else PySem.Str.ofString "contradiction")
theorem status_rt (q : Gp) {r : Int} (h0 : 0 ≤ r) (h1 : r ≤ 1000000) (Q : Sv → Sl → Prop) : Rt (F_status_of [.val (gpD q), .val (.int r)]) Q = Q (.val (.str (stat q r))) [.val (gpD q), .val (.int r)] := by
  refine Rt_eq (ret_of ?_)
  have o := fun Q => options_rt q h0 h1 Q
  unfold F_status_of B_status_of stat
  simp -implicitDefEqProofs only [↓o, ↓Ok_ok, ↓Ok_bind, ↓Ok_seq, ↓thenS_nx, ↓thenS_rt, ↓thenS_bk, ↓thenS_ct, ↓Ok_sIf, ↓Ok_pass, ↓Ok_ret, ↓Ok_setk, ↓Ok_park, ↓Ok_par3k, ↓Ok_drop, ↓Ok_for, ↓Ok_while, ↓Ok_unpk, ↓Ok_callk, ↓Ok_tryC, ↓Tr_x, ↓Tr_r, ↓nmk_s, ↓muk_n, ↓muk_c, ↓mu2_s, ↓mu2_v, ↓mu2_o, ↓zrk_n, ↓zrk_c, ↓rs_h, ↓rs_v, ↓rs_o, hd_v, hd_o, hd_u, mh_n, mh_c, ↓Rt_fnk,
  ↓sg_z, ↓sg_s, ↓sw_z, ↓sw_s, ↓td_val, ↓td_ow, ↓Ok_eLit, ↓kp_val, ↓kp_ow, ↓Ok_eV, ↓Ok_op1e, ↓Ok_op1v, ↓Ok_op2ee, ↓Ok_op2ve, ↓Ok_op2ev, ↓Ok_op2vv, ↓op_add, ↓op_addL, ↓op_addT, ↓op_addI, ↓op_subI, ↓op_addB, ↓op_subB, ↓op_sub, ↓op_mul, ↓op_mod, ↓op_div, ↓op_pow, ↓op_lt, ↓op_le, ↓op_gt, ↓op_ge, ↓op_eqI, ↓op_neI, ↓op_neg, ↓op_isN, ↓op_notN, ↓op_lenL, ↓op_lenT,
  ↓op_isi_i, ↓op_isi_b, ↓op_isi_l, ↓op_isi_t, ↓op_isi_n, ↓op_isi_s, ↓op_abs, ↓op_max2, ↓op_min2, ↓op_tupL, ↓op_tupT, ↓op_lstL, ↓op_lstT, ↓ix_0, ↓ix_1, ↓ix_2, ↓ix_3, ↓tx_0, ↓tx_1, ↓tx_2, ↓tx_3, ↓Ok_datum, ↓Ok_evL0, ↓Ok_evLc, ↓Ok_eTup, ↓Ok_eLst, ↓bk_b, ↓Ok_tB, ↓Ok_eB, ↓Ok_tNot, ↓Ok_tAnd, ↓Ok_tOr, ↓Ok_eAnd, ↓Ok_eOr, ↓Ok_eIf, ↓fk_i, ↓fk_b, ↓fk_n, ↓Ok_evSe, ↓Ok_evSv, ↓ck2_b, ↓Ok_eChain,
  ↓pk_n, ↓pk_t, ↓pk_l, ↓pks_n, ↓pks_c, ↓vk_val, ↓vk_ow, ↓rvk_val, ↓rvk_ow, ↓Ok_retV, ↓augk_val, ↓Ok_augk, ↓nk_i, ↓Ok_setIx, ↓ixk_0, ↓ixk_1, ↓ixk_2, ↓apk_ow, ↓owk_ow, ↓Ok_app, ↓ak_n, ↓ak_d, ↓ak_b, ↓gk_n, ↓gk_l, ↓gk_r, ↓zk_n, ↓zk_l, ↓zk_r, ↓sgm_z, ↓sgm_s, ↓mk2_v, ↓mk2_o, ↓ik_z, ↓ik_n, ↓ik_s, ↓uk_z, ↓uk_s, ↓rtk_rt, ↓rtk_nx, ↓nok_n, ↓nok_v, ↓nok_o,
  ↓afk_nx, ↓afk_ct, ↓afk_bk, ↓afk_rt, ↓dk_l, ↓dk_t, ↓Ok_evPn, ↓Ok_evPs, ↓Ok_cutek, ↓Ok_cutv, ↓op_cutL, ↓op_cutT, ↓Ok_wSeq, ↓rk_i, ↓Ok_wRng1, ↓Ok_wRng2, ↓Ok_wEnum, ↓Ok_wZip2, ↓Ok_wZip3, ↓Ok_wN, ↓wk_n, ↓wk_c, ↓op_isB, ↓op_isNB, ↓dkk_d, ↓vk_dki, ↓lkk_s, ↓Ok_newK, ↓Ok_dlen, ↓Ok_dsorted, ↓Ok_dget, ↓Ok_dgetD, ↓Ok_dput,
  okArg_v, okArg_o, ↓Ok_tYes, nc_0, nc_1, nc_2, nc_3, nc_4, not_true_eq_false, not_false_eq_true, isN, List.length_cons, List.length_nil, Nat.zero_add, Nat.reduceAdd, List.mem_cons, List.not_mem_nil, decide_eq_true_eq, Bool.not_eq_true', decide_eq_false_iff_not, Bool.not_true, Bool.not_false, Bool.false_eq_true, if_true, if_false, true_and, and_true, or_false, or_true, true_or, reduceCtorEq, Nat.reduceEqDiff, and_self, decide_true, decide_false, Int.reduceLT, Int.reduceLE, Int.reduceEq, Int.reduceToNat, Int.reducePow, Int.reduceAdd, Int.reduceSub, Int.reduceMul, Int.reduceNeg, Int.reduceMod, Int.reduceDiv, Nat.reduceLeDiff, Nat.reduceLT, false_or, or_self, and_false, false_and]
  by_cases z1 : 0 ≤ q.2.2 - q.2.1 <;> by_cases z3 : q.2.2 - q.2.1 ≤ r * q.1 <;> by_cases z2 : q.2.2 ≤ r * q.1 <;> simp only [z1, z2, z3, and_self, and_true, and_false, if_true, if_false, Bool.false_eq_true]
theorem restart_rt {s : Smp} (g : Sm s) {r : Int} (h0 : 1 ≤ r) (h1 : r ≤ 1000000) (Q : Sv → Sl → Prop) :
    Rt (F_restart_statuses [.val (smD s), .val (.int r)]) Q = Q (.ow (((gps s).map fun q => stat q r).map PyData.str)) [.val (smD s), .val (.int r)] := by
  refine Rt_eq (ret_of ?_)
  have l40 := g.len
  unfold F_restart_statuses B_restart_statuses
  simp -implicitDefEqProofs only [↓need_s g, ↓need_r h0 h1, ↓gaps_rt, ↓Ok_ok, ↓Ok_bind, ↓Ok_seq, ↓thenS_nx, ↓thenS_rt, ↓thenS_bk, ↓thenS_ct, ↓Ok_sIf, ↓Ok_pass, ↓Ok_ret, ↓Ok_setk, ↓Ok_park, ↓Ok_par3k, ↓Ok_drop, ↓Ok_for, ↓Ok_while, ↓Ok_unpk, ↓Ok_callk, ↓Ok_tryC, ↓Tr_x, ↓Tr_r, ↓nmk_s, ↓muk_n, ↓muk_c, ↓mu2_s, ↓mu2_v, ↓mu2_o, ↓zrk_n, ↓zrk_c, ↓rs_h, ↓rs_v, ↓rs_o, hd_v, hd_o, hd_u, mh_n, mh_c, ↓Rt_fnk,
  ↓sg_z, ↓sg_s, ↓sw_z, ↓sw_s, ↓td_val, ↓td_ow, ↓Ok_eLit, ↓kp_val, ↓kp_ow, ↓Ok_eV, ↓Ok_op1e, ↓Ok_op1v, ↓Ok_op2ee, ↓Ok_op2ve, ↓Ok_op2ev, ↓Ok_op2vv, ↓op_add, ↓op_addL, ↓op_addT, ↓op_addI, ↓op_subI, ↓op_addB, ↓op_subB, ↓op_sub, ↓op_mul, ↓op_mod, ↓op_div, ↓op_pow, ↓op_lt, ↓op_le, ↓op_gt, ↓op_ge, ↓op_eqI, ↓op_neI, ↓op_neg, ↓op_isN, ↓op_notN, ↓op_lenL, ↓op_lenT,
  ↓op_isi_i, ↓op_isi_b, ↓op_isi_l, ↓op_isi_t, ↓op_isi_n, ↓op_isi_s, ↓op_abs, ↓op_max2, ↓op_min2, ↓op_tupL, ↓op_tupT, ↓op_lstL, ↓op_lstT, ↓ix_0, ↓ix_1, ↓ix_2, ↓ix_3, ↓tx_0, ↓tx_1, ↓tx_2, ↓tx_3, ↓Ok_datum, ↓Ok_evL0, ↓Ok_evLc, ↓Ok_eTup, ↓Ok_eLst, ↓bk_b, ↓Ok_tB, ↓Ok_eB, ↓Ok_tNot, ↓Ok_tAnd, ↓Ok_tOr, ↓Ok_eAnd, ↓Ok_eOr, ↓Ok_eIf, ↓fk_i, ↓fk_b, ↓fk_n, ↓Ok_evSe, ↓Ok_evSv, ↓ck2_b, ↓Ok_eChain,
  ↓pk_n, ↓pk_t, ↓pk_l, ↓pks_n, ↓pks_c, ↓vk_val, ↓vk_ow, ↓rvk_val, ↓rvk_ow, ↓Ok_retV, ↓augk_val, ↓Ok_augk, ↓nk_i, ↓Ok_setIx, ↓ixk_0, ↓ixk_1, ↓ixk_2, ↓apk_ow, ↓owk_ow, ↓Ok_app, ↓ak_n, ↓ak_d, ↓ak_b, ↓gk_n, ↓gk_l, ↓gk_r, ↓zk_n, ↓zk_l, ↓zk_r, ↓sgm_z, ↓sgm_s, ↓mk2_v, ↓mk2_o, ↓ik_z, ↓ik_n, ↓ik_s, ↓uk_z, ↓uk_s, ↓rtk_rt, ↓rtk_nx, ↓nok_n, ↓nok_v, ↓nok_o,
  ↓afk_nx, ↓afk_ct, ↓afk_bk, ↓afk_rt, ↓dk_l, ↓dk_t, ↓Ok_evPn, ↓Ok_evPs, ↓Ok_cutek, ↓Ok_cutv, ↓op_cutL, ↓op_cutT, ↓Ok_wSeq, ↓rk_i, ↓Ok_wRng1, ↓Ok_wRng2, ↓Ok_wEnum, ↓Ok_wZip2, ↓Ok_wZip3, ↓Ok_wN, ↓wk_n, ↓wk_c, ↓op_isB, ↓op_isNB, ↓dkk_d, ↓vk_dki, ↓lkk_s, ↓Ok_newK, ↓Ok_dlen, ↓Ok_dsorted, ↓Ok_dget, ↓Ok_dgetD, ↓Ok_dput,
  okArg_v, okArg_o, ↓Ok_tYes, nc_0, nc_1, nc_2, nc_3, nc_4, not_true_eq_false, not_false_eq_true, isN, List.length_cons, List.length_nil, Nat.zero_add, Nat.reduceAdd, List.mem_cons, List.not_mem_nil, decide_eq_true_eq, Bool.not_eq_true', decide_eq_false_iff_not, Bool.not_true, Bool.not_false, Bool.false_eq_true, if_true, if_false, true_and, and_true, or_false, or_true, true_or, reduceCtorEq, Nat.reduceEqDiff, and_self, decide_true, decide_false, Int.reduceLT, Int.reduceLE, Int.reduceEq, Int.reduceToNat, Int.reducePow, Int.reduceAdd, Int.reduceSub, Int.reduceMul, Int.reduceNeg, Int.reduceMod, Int.reduceDiv, Nat.reduceLeDiff, Nat.reduceLT, false_or, or_self, and_false, false_and]
  refine Ok_lcM (gps s) gpD (fun q => .str (stat q r)) ?_
  simp -implicitDefEqProofs only [↓gaps_rt, ↓Ok_ok, ↓Ok_bind, ↓Ok_seq, ↓thenS_nx, ↓thenS_rt, ↓thenS_bk, ↓thenS_ct, ↓Ok_sIf, ↓Ok_pass, ↓Ok_ret, ↓Ok_setk, ↓Ok_park, ↓Ok_par3k, ↓Ok_drop, ↓Ok_for, ↓Ok_while, ↓Ok_unpk, ↓Ok_callk, ↓Ok_tryC, ↓Tr_x, ↓Tr_r, ↓nmk_s, ↓muk_n, ↓muk_c, ↓mu2_s, ↓mu2_v, ↓mu2_o, ↓zrk_n, ↓zrk_c, ↓rs_h, ↓rs_v, ↓rs_o, hd_v, hd_o, hd_u, mh_n, mh_c, ↓Rt_fnk,
  ↓sg_z, ↓sg_s, ↓sw_z, ↓sw_s, ↓td_val, ↓td_ow, ↓Ok_eLit, ↓kp_val, ↓kp_ow, ↓Ok_eV, ↓Ok_op1e, ↓Ok_op1v, ↓Ok_op2ee, ↓Ok_op2ve, ↓Ok_op2ev, ↓Ok_op2vv, ↓op_add, ↓op_addL, ↓op_addT, ↓op_addI, ↓op_subI, ↓op_addB, ↓op_subB, ↓op_sub, ↓op_mul, ↓op_mod, ↓op_div, ↓op_pow, ↓op_lt, ↓op_le, ↓op_gt, ↓op_ge, ↓op_eqI, ↓op_neI, ↓op_neg, ↓op_isN, ↓op_notN, ↓op_lenL, ↓op_lenT,
  ↓op_isi_i, ↓op_isi_b, ↓op_isi_l, ↓op_isi_t, ↓op_isi_n, ↓op_isi_s, ↓op_abs, ↓op_max2, ↓op_min2, ↓op_tupL, ↓op_tupT, ↓op_lstL, ↓op_lstT, ↓ix_0, ↓ix_1, ↓ix_2, ↓ix_3, ↓tx_0, ↓tx_1, ↓tx_2, ↓tx_3, ↓Ok_datum, ↓Ok_evL0, ↓Ok_evLc, ↓Ok_eTup, ↓Ok_eLst, ↓bk_b, ↓Ok_tB, ↓Ok_eB, ↓Ok_tNot, ↓Ok_tAnd, ↓Ok_tOr, ↓Ok_eAnd, ↓Ok_eOr, ↓Ok_eIf, ↓fk_i, ↓fk_b, ↓fk_n, ↓Ok_evSe, ↓Ok_evSv, ↓ck2_b, ↓Ok_eChain,
  ↓pk_n, ↓pk_t, ↓pk_l, ↓pks_n, ↓pks_c, ↓vk_val, ↓vk_ow, ↓rvk_val, ↓rvk_ow, ↓Ok_retV, ↓augk_val, ↓Ok_augk, ↓nk_i, ↓Ok_setIx, ↓ixk_0, ↓ixk_1, ↓ixk_2, ↓apk_ow, ↓owk_ow, ↓Ok_app, ↓ak_n, ↓ak_d, ↓ak_b, ↓gk_n, ↓gk_l, ↓gk_r, ↓zk_n, ↓zk_l, ↓zk_r, ↓sgm_z, ↓sgm_s, ↓mk2_v, ↓mk2_o, ↓ik_z, ↓ik_n, ↓ik_s, ↓uk_z, ↓uk_s, ↓rtk_rt, ↓rtk_nx, ↓nok_n, ↓nok_v, ↓nok_o,
  ↓afk_nx, ↓afk_ct, ↓afk_bk, ↓afk_rt, ↓dk_l, ↓dk_t, ↓Ok_evPn, ↓Ok_evPs, ↓Ok_cutek, ↓Ok_cutv, ↓op_cutL, ↓op_cutT, ↓Ok_wSeq, ↓rk_i, ↓Ok_wRng1, ↓Ok_wRng2, ↓Ok_wEnum, ↓Ok_wZip2, ↓Ok_wZip3, ↓Ok_wN, ↓wk_n, ↓wk_c, ↓op_isB, ↓op_isNB, ↓dkk_d, ↓vk_dki, ↓lkk_s, ↓Ok_newK, ↓Ok_dlen, ↓Ok_dsorted, ↓Ok_dget, ↓Ok_dgetD, ↓Ok_dput,
  okArg_v, okArg_o, ↓Ok_tYes, nc_0, nc_1, nc_2, nc_3, nc_4, not_true_eq_false, not_false_eq_true, isN, List.length_cons, List.length_nil, Nat.zero_add, Nat.reduceAdd, List.mem_cons, List.not_mem_nil, decide_eq_true_eq, Bool.not_eq_true', decide_eq_false_iff_not, Bool.not_true, Bool.not_false, Bool.false_eq_true, if_true, if_false, true_and, and_true, or_false, or_true, true_or, reduceCtorEq, Nat.reduceEqDiff, and_self, decide_true, decide_false, Int.reduceLT, Int.reduceLE, Int.reduceEq, Int.reduceToNat, Int.reducePow, Int.reduceAdd, Int.reduceSub, Int.reduceMul, Int.reduceNeg, Int.reduceMod, Int.reduceDiv, Nat.reduceLeDiff, Nat.reduceLT, false_or, or_self, and_false, false_and]
  refine ⟨⟨ckT_eq.mpr trivial, fun q _ => ?_⟩, ?_⟩
  · have sr := fun Q => status_rt q (r := r) (by omega) h1 Q
    unfold itemm
    simp -implicitDefEqProofs only [↓sr, ↓Ok_ok, ↓Ok_bind, ↓Ok_seq, ↓thenS_nx, ↓thenS_rt, ↓thenS_bk, ↓thenS_ct, ↓Ok_sIf, ↓Ok_pass, ↓Ok_ret, ↓Ok_setk, ↓Ok_park, ↓Ok_par3k, ↓Ok_drop, ↓Ok_for, ↓Ok_while, ↓Ok_unpk, ↓Ok_callk, ↓Ok_tryC, ↓Tr_x, ↓Tr_r, ↓nmk_s, ↓muk_n, ↓muk_c, ↓mu2_s, ↓mu2_v, ↓mu2_o, ↓zrk_n, ↓zrk_c, ↓rs_h, ↓rs_v, ↓rs_o, hd_v, hd_o, hd_u, mh_n, mh_c, ↓Rt_fnk,
  ↓sg_z, ↓sg_s, ↓sw_z, ↓sw_s, ↓td_val, ↓td_ow, ↓Ok_eLit, ↓kp_val, ↓kp_ow, ↓Ok_eV, ↓Ok_op1e, ↓Ok_op1v, ↓Ok_op2ee, ↓Ok_op2ve, ↓Ok_op2ev, ↓Ok_op2vv, ↓op_add, ↓op_addL, ↓op_addT, ↓op_addI, ↓op_subI, ↓op_addB, ↓op_subB, ↓op_sub, ↓op_mul, ↓op_mod, ↓op_div, ↓op_pow, ↓op_lt, ↓op_le, ↓op_gt, ↓op_ge, ↓op_eqI, ↓op_neI, ↓op_neg, ↓op_isN, ↓op_notN, ↓op_lenL, ↓op_lenT,
  ↓op_isi_i, ↓op_isi_b, ↓op_isi_l, ↓op_isi_t, ↓op_isi_n, ↓op_isi_s, ↓op_abs, ↓op_max2, ↓op_min2, ↓op_tupL, ↓op_tupT, ↓op_lstL, ↓op_lstT, ↓ix_0, ↓ix_1, ↓ix_2, ↓ix_3, ↓tx_0, ↓tx_1, ↓tx_2, ↓tx_3, ↓Ok_datum, ↓Ok_evL0, ↓Ok_evLc, ↓Ok_eTup, ↓Ok_eLst, ↓bk_b, ↓Ok_tB, ↓Ok_eB, ↓Ok_tNot, ↓Ok_tAnd, ↓Ok_tOr, ↓Ok_eAnd, ↓Ok_eOr, ↓Ok_eIf, ↓fk_i, ↓fk_b, ↓fk_n, ↓Ok_evSe, ↓Ok_evSv, ↓ck2_b, ↓Ok_eChain,
  ↓pk_n, ↓pk_t, ↓pk_l, ↓pks_n, ↓pks_c, ↓vk_val, ↓vk_ow, ↓rvk_val, ↓rvk_ow, ↓Ok_retV, ↓augk_val, ↓Ok_augk, ↓nk_i, ↓Ok_setIx, ↓ixk_0, ↓ixk_1, ↓ixk_2, ↓apk_ow, ↓owk_ow, ↓Ok_app, ↓ak_n, ↓ak_d, ↓ak_b, ↓gk_n, ↓gk_l, ↓gk_r, ↓zk_n, ↓zk_l, ↓zk_r, ↓sgm_z, ↓sgm_s, ↓mk2_v, ↓mk2_o, ↓ik_z, ↓ik_n, ↓ik_s, ↓uk_z, ↓uk_s, ↓rtk_rt, ↓rtk_nx, ↓nok_n, ↓nok_v, ↓nok_o,
  ↓afk_nx, ↓afk_ct, ↓afk_bk, ↓afk_rt, ↓dk_l, ↓dk_t, ↓Ok_evPn, ↓Ok_evPs, ↓Ok_cutek, ↓Ok_cutv, ↓op_cutL, ↓op_cutT, ↓Ok_wSeq, ↓rk_i, ↓Ok_wRng1, ↓Ok_wRng2, ↓Ok_wEnum, ↓Ok_wZip2, ↓Ok_wZip3, ↓Ok_wN, ↓wk_n, ↓wk_c, ↓op_isB, ↓op_isNB, ↓dkk_d, ↓vk_dki, ↓lkk_s, ↓Ok_newK, ↓Ok_dlen, ↓Ok_dsorted, ↓Ok_dget, ↓Ok_dgetD, ↓Ok_dput,
  okArg_v, okArg_o, ↓Ok_tYes, nc_0, nc_1, nc_2, nc_3, nc_4, not_true_eq_false, not_false_eq_true, isN, List.length_cons, List.length_nil, Nat.zero_add, Nat.reduceAdd, List.mem_cons, List.not_mem_nil, decide_eq_true_eq, Bool.not_eq_true', decide_eq_false_iff_not, Bool.not_true, Bool.not_false, Bool.false_eq_true, if_true, if_false, true_and, and_true, or_false, or_true, true_or, reduceCtorEq, Nat.reduceEqDiff, and_self, decide_true, decide_false, Int.reduceLT, Int.reduceLE, Int.reduceEq, Int.reduceToNat, Int.reducePow, Int.reduceAdd, Int.reduceSub, Int.reduceMul, Int.reduceNeg, Int.reduceMod, Int.reduceDiv, Nat.reduceLeDiff, Nat.reduceLT, false_or, or_self, and_false, false_and]
  · rw [List.map_map]
    rfl
end

section
open PySem Rc
theorem cut_erase (s : Smp) (k : Nat) : (s.map pqD).take k ++ (s.map pqD).drop (k + 1) = (s.eraseIdx k).map pqD := by
  rw [List.eraseIdx_eq_take_drop_succ, List.map_append, List.map_take, List.map_drop]
theorem vals_erase (s : Smp) (k : Nat) : vals (s.eraseIdx k) = (vals s).eraseIdx k := by
  unfold vals
  rw [List.eraseIdx_eq_take_drop_succ, List.eraseIdx_eq_take_drop_succ, List.map_append, List.map_take, List.map_drop]
variable {s : Smp}
theorem need_ix {k : Nat} (hk : k < s.length) (Q : Sv → Sl → Prop) : Rt (F_need_index [.val (smD s), .val (.int k)]) Q = Q (.val .none) [.val (smD s), .val (.int k)] := by
  have h : decide (0 ≤ (k : Int) ∧ (k : Int) ≤ (s.length : Int) - 1) = true := decide_eq_true (by omega)
  refine Rt_eq (ret_of ?_)
  unfold F_need_index B_need_index
  simp -implicitDefEqProofs only [List.length_map, ↓is_from_eq, h, ↓Ok_ok, ↓Ok_bind, ↓Ok_seq, ↓thenS_nx, ↓thenS_rt, ↓thenS_bk, ↓thenS_ct, ↓Ok_sIf, ↓Ok_pass, ↓Ok_ret, ↓Ok_setk, ↓Ok_park, ↓Ok_par3k, ↓Ok_drop, ↓Ok_for, ↓Ok_while, ↓Ok_unpk, ↓Ok_callk, ↓Ok_tryC, ↓Tr_x, ↓Tr_r, ↓nmk_s, ↓muk_n, ↓muk_c, ↓mu2_s, ↓mu2_v, ↓mu2_o, ↓zrk_n, ↓zrk_c, ↓rs_h, ↓rs_v, ↓rs_o, hd_v, hd_o, hd_u, mh_n, mh_c, ↓Rt_fnk,
  ↓sg_z, ↓sg_s, ↓sw_z, ↓sw_s, ↓td_val, ↓td_ow, ↓Ok_eLit, ↓kp_val, ↓kp_ow, ↓Ok_eV, ↓Ok_op1e, ↓Ok_op1v, ↓Ok_op2ee, ↓Ok_op2ve, ↓Ok_op2ev, ↓Ok_op2vv, ↓op_add, ↓op_addL, ↓op_addT, ↓op_addI, ↓op_subI, ↓op_addB, ↓op_subB, ↓op_sub, ↓op_mul, ↓op_mod, ↓op_div, ↓op_pow, ↓op_lt, ↓op_le, ↓op_gt, ↓op_ge, ↓op_eqI, ↓op_neI, ↓op_neg, ↓op_isN, ↓op_notN, ↓op_lenL, ↓op_lenT,
  ↓op_isi_i, ↓op_isi_b, ↓op_isi_l, ↓op_isi_t, ↓op_isi_n, ↓op_isi_s, ↓op_abs, ↓op_max2, ↓op_min2, ↓op_tupL, ↓op_tupT, ↓op_lstL, ↓op_lstT, ↓ix_0, ↓ix_1, ↓ix_2, ↓ix_3, ↓tx_0, ↓tx_1, ↓tx_2, ↓tx_3, ↓Ok_datum, ↓Ok_evL0, ↓Ok_evLc, ↓Ok_eTup, ↓Ok_eLst, ↓bk_b, ↓Ok_tB, ↓Ok_eB, ↓Ok_tNot, ↓Ok_tAnd, ↓Ok_tOr, ↓Ok_eAnd, ↓Ok_eOr, ↓Ok_eIf, ↓fk_i, ↓fk_b, ↓fk_n, ↓Ok_evSe, ↓Ok_evSv, ↓ck2_b, ↓Ok_eChain,
  ↓pk_n, ↓pk_t, ↓pk_l, ↓pks_n, ↓pks_c, ↓vk_val, ↓vk_ow, ↓rvk_val, ↓rvk_ow, ↓Ok_retV, ↓augk_val, ↓Ok_augk, ↓nk_i, ↓Ok_setIx, ↓ixk_0, ↓ixk_1, ↓ixk_2, ↓apk_ow, ↓owk_ow, ↓Ok_app, ↓ak_n, ↓ak_d, ↓ak_b, ↓gk_n, ↓gk_l, ↓gk_r, ↓zk_n, ↓zk_l, ↓zk_r, ↓sgm_z, ↓sgm_s, ↓mk2_v, ↓mk2_o, ↓ik_z, ↓ik_n, ↓ik_s, ↓uk_z, ↓uk_s, ↓rtk_rt, ↓rtk_nx, ↓nok_n, ↓nok_v, ↓nok_o,
  ↓afk_nx, ↓afk_ct, ↓afk_bk, ↓afk_rt, ↓dk_l, ↓dk_t, ↓Ok_evPn, ↓Ok_evPs, ↓Ok_cutek, ↓Ok_cutv, ↓op_cutL, ↓op_cutT, ↓Ok_wSeq, ↓rk_i, ↓Ok_wRng1, ↓Ok_wRng2, ↓Ok_wEnum, ↓Ok_wZip2, ↓Ok_wZip3, ↓Ok_wN, ↓wk_n, ↓wk_c, ↓op_isB, ↓op_isNB, ↓dkk_d, ↓vk_dki, ↓lkk_s, ↓Ok_newK, ↓Ok_dlen, ↓Ok_dsorted, ↓Ok_dget, ↓Ok_dgetD, ↓Ok_dput,
  okArg_v, okArg_o, ↓Ok_tYes, nc_0, nc_1, nc_2, nc_3, nc_4, not_true_eq_false, not_false_eq_true, isN, List.length_cons, List.length_nil, Nat.zero_add, Nat.reduceAdd, List.mem_cons, List.not_mem_nil, decide_eq_true_eq, Bool.not_eq_true', decide_eq_false_iff_not, Bool.not_true, Bool.not_false, Bool.false_eq_true, if_true, if_false, true_and, and_true, or_false, or_true, true_or, reduceCtorEq, Nat.reduceEqDiff, and_self, decide_true, decide_false, Int.reduceLT, Int.reduceLE, Int.reduceEq, Int.reduceToNat, Int.reducePow, Int.reduceAdd, Int.reduceSub, Int.reduceMul, Int.reduceNeg, Int.reduceMod, Int.reduceDiv, Nat.reduceLeDiff, Nat.reduceLT, false_or, or_self, and_false, false_and]
theorem loss_rt (g : Sm s) {k : Nat} (hk : k < s.length) (Q : Sv → Sl → Prop) : Rt (F_loss [.val (smD s), .val (.int k)]) Q = Q (.val (.int (est s - est (s.eraseIdx k)))) [.val (smD s), .val (.int k)] := by
  have l40 := g.len
  have c1 : cutD (s.map pqD) none (some (k : Int)) = (s.map pqD).take k := cut_to _ k
  have c2 : cutD (s.map pqD) (some ((k : Int) + 1)) none = (s.map pqD).drop (k + 1) := cut_from _ (k + 1)
  have c3 := cut_erase s k
  have l3 : ((s.map pqD).take k).length + ((s.map pqD).drop (k + 1)).length ≤ 16777216 := by
    rw [← List.length_append, c3, List.length_map]
    have := (s.eraseIdx_sublist k).length_le
    omega
  refine Rt_eq (ret_of ?_)
  unfold F_loss B_loss
  simp -implicitDefEqProofs only [↓need_s g, ↓need_ix hk, ↓estimate_of_rt s, c1, c2, c3, ↓estimate_of_rt (s.eraseIdx k), ↓Ok_ok, ↓Ok_bind, ↓Ok_seq, ↓thenS_nx, ↓thenS_rt, ↓thenS_bk, ↓thenS_ct, ↓Ok_sIf, ↓Ok_pass, ↓Ok_ret, ↓Ok_setk, ↓Ok_park, ↓Ok_par3k, ↓Ok_drop, ↓Ok_for, ↓Ok_while, ↓Ok_unpk, ↓Ok_callk, ↓Ok_tryC, ↓Tr_x, ↓Tr_r, ↓nmk_s, ↓muk_n, ↓muk_c, ↓mu2_s, ↓mu2_v, ↓mu2_o, ↓zrk_n, ↓zrk_c, ↓rs_h, ↓rs_v, ↓rs_o, hd_v, hd_o, hd_u, mh_n, mh_c, ↓Rt_fnk,
  ↓sg_z, ↓sg_s, ↓sw_z, ↓sw_s, ↓td_val, ↓td_ow, ↓Ok_eLit, ↓kp_val, ↓kp_ow, ↓Ok_eV, ↓Ok_op1e, ↓Ok_op1v, ↓Ok_op2ee, ↓Ok_op2ve, ↓Ok_op2ev, ↓Ok_op2vv, ↓op_add, ↓op_addL, ↓op_addT, ↓op_addI, ↓op_subI, ↓op_addB, ↓op_subB, ↓op_sub, ↓op_mul, ↓op_mod, ↓op_div, ↓op_pow, ↓op_lt, ↓op_le, ↓op_gt, ↓op_ge, ↓op_eqI, ↓op_neI, ↓op_neg, ↓op_isN, ↓op_notN, ↓op_lenL, ↓op_lenT,
  ↓op_isi_i, ↓op_isi_b, ↓op_isi_l, ↓op_isi_t, ↓op_isi_n, ↓op_isi_s, ↓op_abs, ↓op_max2, ↓op_min2, ↓op_tupL, ↓op_tupT, ↓op_lstL, ↓op_lstT, ↓ix_0, ↓ix_1, ↓ix_2, ↓ix_3, ↓tx_0, ↓tx_1, ↓tx_2, ↓tx_3, ↓Ok_datum, ↓Ok_evL0, ↓Ok_evLc, ↓Ok_eTup, ↓Ok_eLst, ↓bk_b, ↓Ok_tB, ↓Ok_eB, ↓Ok_tNot, ↓Ok_tAnd, ↓Ok_tOr, ↓Ok_eAnd, ↓Ok_eOr, ↓Ok_eIf, ↓fk_i, ↓fk_b, ↓fk_n, ↓Ok_evSe, ↓Ok_evSv, ↓ck2_b, ↓Ok_eChain,
  ↓pk_n, ↓pk_t, ↓pk_l, ↓pks_n, ↓pks_c, ↓vk_val, ↓vk_ow, ↓rvk_val, ↓rvk_ow, ↓Ok_retV, ↓augk_val, ↓Ok_augk, ↓nk_i, ↓Ok_setIx, ↓ixk_0, ↓ixk_1, ↓ixk_2, ↓apk_ow, ↓owk_ow, ↓Ok_app, ↓ak_n, ↓ak_d, ↓ak_b, ↓gk_n, ↓gk_l, ↓gk_r, ↓zk_n, ↓zk_l, ↓zk_r, ↓sgm_z, ↓sgm_s, ↓mk2_v, ↓mk2_o, ↓ik_z, ↓ik_n, ↓ik_s, ↓uk_z, ↓uk_s, ↓rtk_rt, ↓rtk_nx, ↓nok_n, ↓nok_v, ↓nok_o,
  ↓afk_nx, ↓afk_ct, ↓afk_bk, ↓afk_rt, ↓dk_l, ↓dk_t, ↓Ok_evPn, ↓Ok_evPs, ↓Ok_cutek, ↓Ok_cutv, ↓op_cutL, ↓op_cutT, ↓Ok_wSeq, ↓rk_i, ↓Ok_wRng1, ↓Ok_wRng2, ↓Ok_wEnum, ↓Ok_wZip2, ↓Ok_wZip3, ↓Ok_wN, ↓wk_n, ↓wk_c, ↓op_isB, ↓op_isNB, ↓dkk_d, ↓vk_dki, ↓lkk_s, ↓Ok_newK, ↓Ok_dlen, ↓Ok_dsorted, ↓Ok_dget, ↓Ok_dgetD, ↓Ok_dput,
  okArg_v, okArg_o, ↓Ok_tYes, nc_0, nc_1, nc_2, nc_3, nc_4, not_true_eq_false, not_false_eq_true, isN, List.length_cons, List.length_nil, Nat.zero_add, Nat.reduceAdd, List.mem_cons, List.not_mem_nil, decide_eq_true_eq, Bool.not_eq_true', decide_eq_false_iff_not, Bool.not_true, Bool.not_false, Bool.false_eq_true, if_true, if_false, true_and, and_true, or_false, or_true, true_or, reduceCtorEq, Nat.reduceEqDiff, and_self, decide_true, decide_false, Int.reduceLT, Int.reduceLE, Int.reduceEq, Int.reduceToNat, Int.reducePow, Int.reduceAdd, Int.reduceSub, Int.reduceMul, Int.reduceNeg, Int.reduceMod, Int.reduceDiv, Nat.reduceLeDiff, Nat.reduceLT, false_or, or_self, and_false, false_and]
  exact l3
end

/-! ### the values scaled -/
section
open PySem Rc
variable {f : Int}
theorem stp_scl (hf : 0 < f) (a b : Int) : stp (a * f) (b * f) = stp a b * f := by
  unfold stp
  by_cases h : a ≤ b
  · rw [if_pos h, if_pos (Int.mul_le_mul_of_nonneg_right h (by omega)), Int.sub_mul]
  · rw [if_neg h, if_neg fun z => h (Int.le_of_mul_le_mul_right z hf)]
theorem prs_map {α β : Type} (g : α → β) (xs : List α) : prs (xs.map g) = (prs xs).map fun q => (g q.1, g q.2) := by
  unfold prs
  rw [← List.map_drop, List.zip_map]
  rfl
theorem stps_scl (hf : 0 < f) (xs : List Int) : stps (xs.map (· * f)) = (stps xs).map (· * f) := by
  unfold stps
  rw [prs_map, List.map_map, List.map_map]
  exact List.map_congr_left fun q _ => stp_scl hf q.1 q.2
theorem sum_scl (xs : List Int) : (xs.map (· * f)).sum = xs.sum * f := by
  induction xs with
  | nil => rw [List.map_nil, List.sum_nil, Int.zero_mul]
  | cons a xs ih => rw [List.map_cons, List.sum_cons, List.sum_cons, ih, Int.add_mul]
theorem getD_scl (xs : List Int) (k : Nat) : (xs.map (· * f)).getD k 0 = xs.getD k 0 * f := by
  rw [List.getD_eq_getElem?_getD, List.getD_eq_getElem?_getD, List.getElem?_map]
  cases xs[k]? with
  | none => exact (Int.zero_mul f).symm
  | some x => rfl
theorem row_scl (xs : List Int) (a l : Nat) : row (xs.map (· * f)) a l = (row xs a l).map (· * f) := by
  unfold row
  rw [← List.map_drop, ← List.map_take]
theorem W_scl (hf : 0 < f) (xs : List Int) (a l : Nat) : W (xs.map (· * f)) a l = W xs a l * f := by
  unfold W
  rw [row_scl]
  show (stps _).sum = (stps _).sum * f
  rw [stps_scl hf, sum_scl]
theorem gd_scl (hf : 0 < f) (xs : List Int) : gd (xs.map (· * f)) = gd xs := by
  funext a l
  unfold gd
  rw [W_scl hf, getD_scl, getD_scl, stp_scl hf]
  refine decide_eq_decide.mpr ⟨fun h => Int.eq_of_mul_eq_mul_right (by omega) h, fun h => by rw [h]⟩
theorem dns_scl (hf : 0 < f) (xs : List Int) : dns (xs.map (· * f)) = dns xs := by
  unfold dns
  rw [List.length_map]
  refine List.filter_congr fun k _ => ?_
  rw [getD_scl, getD_scl]
  exact decide_eq_decide.mpr ⟨fun h => Int.lt_of_mul_lt_mul_right h (by omega), fun h => Int.mul_lt_mul_of_pos_right h hf⟩
def scl (s : Smp) (f : Int) : Smp := s.map fun q => (q.1, q.2 * f)
theorem vals_scl (s : Smp) : vals (scl s f) = (vals s).map (· * f) := by
  unfold vals scl
  rw [List.map_map, List.map_map]
  rfl
theorem est_scl (hf : 0 < f) (s : Smp) : est (scl s f) = est s * f := by
  unfold est
  rw [vals_scl, stps_scl hf, sum_scl]
end
section
open PySem Rc
theorem steps_rt {s : Smp} (g : Sm s) (Q : Sv → Sl → Prop) : Rt (F_steps [.val (smD s)]) Q = Q (.ow ((stps (vals s)).map PyData.int)) [.val (smD s)] := by
  unfold F_steps B_steps
  simp -implicitDefEqProofs only [↓need_s g, ↓all_steps_rt, ↓Ok_ok, ↓Ok_bind, ↓Ok_seq, ↓thenS_nx, ↓thenS_rt, ↓thenS_bk, ↓thenS_ct, ↓Ok_sIf, ↓Ok_pass, ↓Ok_ret, ↓Ok_setk, ↓Ok_park, ↓Ok_par3k, ↓Ok_drop, ↓Ok_for, ↓Ok_while, ↓Ok_unpk, ↓Ok_callk, ↓Ok_tryC, ↓Tr_x, ↓Tr_r, ↓nmk_s, ↓muk_n, ↓muk_c, ↓mu2_s, ↓mu2_v, ↓mu2_o, ↓zrk_n, ↓zrk_c, ↓rs_h, ↓rs_v, ↓rs_o, hd_v, hd_o, hd_u, mh_n, mh_c, ↓Rt_fnk,
  ↓sg_z, ↓sg_s, ↓sw_z, ↓sw_s, ↓td_val, ↓td_ow, ↓Ok_eLit, ↓kp_val, ↓kp_ow, ↓Ok_eV, ↓Ok_op1e, ↓Ok_op1v, ↓Ok_op2ee, ↓Ok_op2ve, ↓Ok_op2ev, ↓Ok_op2vv, ↓op_add, ↓op_addL, ↓op_addT, ↓op_addI, ↓op_subI, ↓op_addB, ↓op_subB, ↓op_sub, ↓op_mul, ↓op_mod, ↓op_div, ↓op_pow, ↓op_lt, ↓op_le, ↓op_gt, ↓op_ge, ↓op_eqI, ↓op_neI, ↓op_neg, ↓op_isN, ↓op_notN, ↓op_lenL, ↓op_lenT,
  ↓op_isi_i, ↓op_isi_b, ↓op_isi_l, ↓op_isi_t, ↓op_isi_n, ↓op_isi_s, ↓op_abs, ↓op_max2, ↓op_min2, ↓op_tupL, ↓op_tupT, ↓op_lstL, ↓op_lstT, ↓ix_0, ↓ix_1, ↓ix_2, ↓ix_3, ↓tx_0, ↓tx_1, ↓tx_2, ↓tx_3, ↓Ok_datum, ↓Ok_evL0, ↓Ok_evLc, ↓Ok_eTup, ↓Ok_eLst, ↓bk_b, ↓Ok_tB, ↓Ok_eB, ↓Ok_tNot, ↓Ok_tAnd, ↓Ok_tOr, ↓Ok_eAnd, ↓Ok_eOr, ↓Ok_eIf, ↓fk_i, ↓fk_b, ↓fk_n, ↓Ok_evSe, ↓Ok_evSv, ↓ck2_b, ↓Ok_eChain,
  ↓pk_n, ↓pk_t, ↓pk_l, ↓pks_n, ↓pks_c, ↓vk_val, ↓vk_ow, ↓rvk_val, ↓rvk_ow, ↓Ok_retV, ↓augk_val, ↓Ok_augk, ↓nk_i, ↓Ok_setIx, ↓ixk_0, ↓ixk_1, ↓ixk_2, ↓apk_ow, ↓owk_ow, ↓Ok_app, ↓ak_n, ↓ak_d, ↓ak_b, ↓gk_n, ↓gk_l, ↓gk_r, ↓zk_n, ↓zk_l, ↓zk_r, ↓sgm_z, ↓sgm_s, ↓mk2_v, ↓mk2_o, ↓ik_z, ↓ik_n, ↓ik_s, ↓uk_z, ↓uk_s, ↓rtk_rt, ↓rtk_nx, ↓nok_n, ↓nok_v, ↓nok_o,
  ↓afk_nx, ↓afk_ct, ↓afk_bk, ↓afk_rt, ↓dk_l, ↓dk_t, ↓Ok_evPn, ↓Ok_evPs, ↓Ok_cutek, ↓Ok_cutv, ↓op_cutL, ↓op_cutT, ↓Ok_wSeq, ↓rk_i, ↓Ok_wRng1, ↓Ok_wRng2, ↓Ok_wEnum, ↓Ok_wZip2, ↓Ok_wZip3, ↓Ok_wN, ↓wk_n, ↓wk_c, ↓op_isB, ↓op_isNB, ↓dkk_d, ↓vk_dki, ↓lkk_s, ↓Ok_newK, ↓Ok_dlen, ↓Ok_dsorted, ↓Ok_dget, ↓Ok_dgetD, ↓Ok_dput,
  okArg_v, okArg_o, ↓Ok_tYes, nc_0, nc_1, nc_2, nc_3, nc_4, not_true_eq_false, not_false_eq_true, isN, List.length_cons, List.length_nil, Nat.zero_add, Nat.reduceAdd, List.mem_cons, List.not_mem_nil, decide_eq_true_eq, Bool.not_eq_true', decide_eq_false_iff_not, Bool.not_true, Bool.not_false, Bool.false_eq_true, if_true, if_false, true_and, and_true, or_false, or_true, true_or, reduceCtorEq, Nat.reduceEqDiff, and_self, decide_true, decide_false, Int.reduceLT, Int.reduceLE, Int.reduceEq, Int.reduceToNat, Int.reducePow, Int.reduceAdd, Int.reduceSub, Int.reduceMul, Int.reduceNeg, Int.reduceMod, Int.reduceDiv, Nat.reduceLeDiff, Nat.reduceLT, false_or, or_self, and_false, false_and]
end

namespace U
section
open PySem Rc
abbrev sumS (xs : List Int) : Int := (stps xs).sum
theorem sumS_c (a b : Int) (l : List Int) : sumS (a :: b :: l) = stp a b + sumS (b :: l) := by
  show (stps (a :: b :: l)).sum = _
  unfold stps
  rw [show prs (a :: b :: l) = (a, b) :: prs (b :: l) from rfl, List.map_cons, List.sum_cons]
  rfl
theorem sumS_1 (a : Int) : sumS [a] = 0 := rfl
theorem sumS_0 : sumS [] = 0 := rfl
theorem stp_nn {a b : Int} (ha : 0 ≤ a) (hb : 0 ≤ b) : 0 ≤ stp a b := by
  unfold stp
  split <;> omega
theorem stp_tri {a b c : Int} (ha : 0 ≤ a) (hb : 0 ≤ b) (hc : 0 ≤ c) : stp a c ≤ stp a b + stp b c := by
  unfold stp
  repeat' split
  all_goals omega
theorem sumS_nn : ∀ {l : List Int}, (∀ x ∈ l, 0 ≤ x) → 0 ≤ sumS l
  | [], _ => Int.le_refl _
  | [a], _ => Int.le_refl _
  | a :: b :: l, h => by
    rw [sumS_c]
    have := stp_nn (h a (by simp)) (h b (by simp))
    have := sumS_nn (l := b :: l) fun x hx => h x (List.mem_cons_of_mem _ hx)
    omega
/-- values left out never add -/
theorem sub_le1 {l1 l2 : List Int} (s : l1.Sublist l2) : (∀ x ∈ l2, 0 ≤ x) → ∀ a, 0 ≤ a → sumS (a :: l1) ≤ sumS (a :: l2) := by
  induction s with
  | slnil => exact fun _ a _ => Int.le_refl _
  | cons b s ih =>
    rename_i l1 l2
    intro h a ha
    have hb := h b List.mem_cons_self
    have i1 := ih (fun x hx => h x (List.mem_cons_of_mem _ hx)) a ha
    refine Int.le_trans i1 ?_
    cases l2 with
    | nil =>
      rw [sumS_1, sumS_c, sumS_1]
      have := stp_nn ha hb
      omega
    | cons c l =>
      rw [sumS_c, sumS_c, sumS_c]
      have := stp_tri ha hb (h c (by simp))
      omega
  | cons_cons b s ih =>
    intro h a ha
    rw [sumS_c, sumS_c]
    have := ih (fun x hx => h x (List.mem_cons_of_mem _ hx)) b (h b List.mem_cons_self)
    omega
theorem sub_le {l1 l2 : List Int} (s : l1.Sublist l2) (h : ∀ x ∈ l2, 0 ≤ x) : sumS l1 ≤ sumS l2 := by
  induction s with
  | slnil => exact Int.le_refl _
  | cons b s ih =>
    rename_i l1 l2
    refine Int.le_trans (ih fun x hx => h x (List.mem_cons_of_mem _ hx)) ?_
    cases l2 with
    | nil => exact Int.le_refl _
    | cons c l =>
      rw [sumS_c]
      have := stp_nn (h b (by simp)) (h c (by simp))
      omega
  | cons_cons b s _ => exact sub_le1 s (fun x hx => h x (List.mem_cons_of_mem _ hx)) b (h b List.mem_cons_self)
end
section
open PySem Rc
theorem Sm.sub {s t : Smp} (g : Sm s) (h : t.Sublist s) : Sm t := ⟨Nat.le_trans h.length_le g.len, fun q hq => g.at_ q (h.subset hq), g.asc.sublist h⟩
theorem vals_nn {s : Smp} (g : Sm s) : ∀ x ∈ vals s, 0 ≤ x := fun x hx => by
  obtain ⟨q, hq, rfl⟩ := List.mem_map.mp hx
  exact (g.at_ q hq).2.1
theorem est_sub {s t : Smp} (g : Sm s) (h : t.Sublist s) : est t ≤ est s := sub_le (h.map _) (vals_nn g)
theorem est_nn {s : Smp} (g : Sm s) : 0 ≤ est s := sumS_nn (vals_nn g)
end

end U
/-! ### moved, scaled, made anew -/
section
open PySem Rc
def Sq (s : Smp) : Prop := s.length ≤ 20 ∧ (∀ q ∈ s, (0 ≤ q.1 ∧ q.1 < 1000000) ∧ 0 ≤ q.2 ∧ q.2 < 10000) ∧ s.Pairwise fun a b => a.1 < b.1
theorem Sq.sm {s : Smp} (h : Sq s) : Sm s := ⟨by have := h.1; omega, fun q hq => by have := h.2.1 q hq; omega, h.2.2⟩
def mv (s : Smp) (d : Int) : Smp := s.map fun q => (q.1 + d, q.2)
theorem Sq.mv {s : Smp} (h : Sq s) {d : Int} (h0 : 0 ≤ d) (h1 : d ≤ 100000000) : Sm (mv s d) := by
  refine ⟨by unfold K20.mv; rw [List.length_map]; have := h.1; omega, fun q hq => ?_, ?_⟩
  · obtain ⟨p, hp, rfl⟩ := List.mem_map.mp hq
    have := h.2.1 p hp
    simp only
    omega
  · refine List.pairwise_map.mpr (h.2.2.imp fun {a b} h => ?_)
    simp only
    omega
theorem Sq.scl {s : Smp} (h : Sq s) {f : Int} (h0 : 0 < f) (h1 : f ≤ 100) : Sm (scl s f) := by
  refine ⟨by unfold K20.scl; rw [List.length_map]; have := h.1; omega, fun q hq => ?_, ?_⟩
  · obtain ⟨p, hp, rfl⟩ := List.mem_map.mp hq
    have := h.2.1 p hp
    have m1 := Int.mul_nonneg this.2.1 (show 0 ≤ f by omega)
    have m2 := Int.mul_le_mul (show p.2 ≤ 9999 by omega) h1 (by omega) (by omega)
    simp only
    omega
  · exact List.pairwise_map.mpr (h.2.2.imp fun {a b} h => h)
theorem vals_mv (s : Smp) (d : Int) : vals (mv s d) = vals s := by
  unfold vals mv
  rw [List.map_map]
  rfl
theorem est_mv (s : Smp) (d : Int) : est (mv s d) = est s := by unfold est; rw [vals_mv]
theorem kc_mv (s : Smp) (d : Int) : kc (mv s d) = kc s := by
  unfold kc lys
  rw [vals_mv, show (mv s d).length = s.length by unfold mv; rw [List.length_map]]
theorem kc_scl (s : Smp) {f : Int} (h0 : 0 < f) : kc (scl s f) = kc s := by
  unfold kc lys
  rw [vals_scl, gd_scl h0, show (scl s f).length = s.length by unfold scl; rw [List.length_map]]
theorem erase_scl (s : Smp) (f : Int) (k : Nat) : (scl s f).eraseIdx k = scl (s.eraseIdx k) f := by
  unfold scl
  simp only [List.eraseIdx_eq_take_drop_succ, List.map_append, List.map_take, List.map_drop]
theorem win_mv (s : Smp) (d : Int) {k : Nat} (hk : k < s.length) (L : Int) : win (mv s d) k L = mv (win s k L) d := by
  have e : ((mv s d).getD k (0, 0)).1 = (s.getD k (0, 0)).1 + d := by
    unfold mv
    rw [List.getD_eq_getElem?_getD, List.getD_eq_getElem?_getD, List.getElem?_map, List.getElem?_eq_getElem hk]
    rfl
  unfold win
  rw [e]
  unfold mv
  rw [← List.map_take, List.filter_map]
  refine congrArg _ (List.filter_congr fun q _ => ?_)
  exact decide_eq_decide.mpr (by simp only; omega)
theorem gps_scl (s : Smp) (f : Int) : gps (scl s f) = (gps s).map fun q => (q.1, q.2.1 * f, q.2.2 * f) := by
  unfold gps scl
  rw [prs_map, List.map_map, List.map_map]
  rfl
theorem stat_scl (q : Gp) {f : Int} (h0 : 0 < f) (r : Int) : stat (q.1, q.2.1 * f, q.2.2 * f) (r * f) = stat q r := by
  have e1 : r * f * q.1 = r * q.1 * f := by rw [Int.mul_assoc, Int.mul_comm f, ← Int.mul_assoc]
  have le : ∀ a b : Int, a * f ≤ b * f ↔ a ≤ b := fun a b => ⟨fun h => Int.le_of_mul_le_mul_right h h0, fun h => Int.mul_le_mul_of_nonneg_right h (by omega)⟩
  have p : plain (q.1, q.2.1 * f, q.2.2 * f) (r * f) = plain q r := by
    refine decide_eq_decide.mpr ?_
    simp only
    rw [← Int.sub_mul, e1, le]
    have := le 0 (q.2.2 - q.2.1)
    rw [Int.zero_mul] at this
    rw [this]
  have a : again (q.1, q.2.1 * f, q.2.2 * f) (r * f) = again q r := by
    refine decide_eq_decide.mpr ?_
    simp only
    rw [e1, le]
  unfold stat
  rw [p, a]
/-! sorted -/
theorem srt_strict {l : Smp} (h : (l.map (·.1)).Nodup) : (srtP l).Pairwise fun a b => a.1 < b.1 := by
  have hp : (srtP l).Perm l := List.mergeSort_perm _ _
  have hn : ((srtP l).map (·.1)).Nodup := (hp.map _).nodup_iff.mpr h
  have h2 : (srtP l).Pairwise fun a b => lexLe a b = true := List.pairwise_mergeSort (fun a b c h1 h2 => by
    have h1 := of_decide_eq_true h1
    have h2 := of_decide_eq_true h2
    exact decide_eq_true (by omega)) (fun a b => by
    unfold lexLe
    simp only [Bool.or_eq_true, decide_eq_true_eq]
    omega) l
  have h3 : (srtP l).Pairwise fun a b => a.1 ≠ b.1 := List.pairwise_map.mp hn
  refine (h2.and h3).imp fun {a b} ⟨h1, h2⟩ => ?_
  have h1 := of_decide_eq_true h1
  omega
theorem srt_sub {c l : Smp} (hc : c.Pairwise fun a b => a.1 < b.1) (h : c.Sublist l) : c.Sublist (srtP l) := by
  refine List.sublist_mergeSort (fun a b c h1 h2 => ?_) (fun a b => ?_) (hc.imp fun {a b} h => ?_) h
  · have h1 := of_decide_eq_true h1
    have h2 := of_decide_eq_true h2
    exact decide_eq_true (by omega)
  · unfold lexLe
    simp only [Bool.or_eq_true, decide_eq_true_eq]
    omega
  · exact decide_eq_true (by omega)
theorem hasP_mem {ps : Smp} {n : Int} : hasP ps n = true ↔ n ∈ ps.map (·.1) := by
  unfold hasP
  rw [List.any_eq_true, List.mem_map]
  exact ⟨fun ⟨p, hp, e⟩ => ⟨p, hp, of_decide_eq_true e⟩, fun ⟨p, hp, e⟩ => ⟨p, hp, decide_eq_true e⟩⟩
theorem put_ok {A : Int × Int → Prop} (hA : ∀ a b c d, A (a, b) → A (c, d) → A (a, d)) {ps : Smp} {q : Int × Int} (h : ∀ p ∈ ps, A p) (hq : A q) : ∀ p ∈ putP ps q, A p := by
  intro p hp
  unfold putP at hp
  split at hp
  · obtain ⟨r, hr, rfl⟩ := List.mem_map.mp hp
    split
    · exact hA r.1 r.2 q.1 q.2 (h r hr) hq
    · exact h r hr
  · rcases List.mem_append.mp hp with hp | hp
    · exact h p hp
    · rw [List.mem_singleton.mp hp]; exact hq
theorem put_nd {ps : Smp} {q : Int × Int} (h : (ps.map (·.1)).Nodup) : ((putP ps q).map (·.1)).Nodup := by
  unfold putP
  split
  · have : (ps.map fun p => if p.1 = q.1 then (p.1, q.2) else p).map (·.1) = ps.map (·.1) := by
      rw [List.map_map]
      refine List.map_congr_left fun p _ => ?_
      show (if p.1 = q.1 then (p.1, q.2) else p).1 = p.1
      split <;> rfl
    rw [this]
    exact h
  · rename_i z
    rw [List.map_append, List.nodup_append]
    refine ⟨h, by simp, fun a ha b hb => ?_⟩
    rw [List.map_singleton, List.mem_singleton] at hb
    subst hb
    exact fun e => z (hasP_mem.mpr (e ▸ ha))
theorem put_len (ps : Smp) (q : Int × Int) : (putP ps q).length ≤ ps.length + 1 := by
  unfold putP
  split <;> simp
theorem dct_ok {A : Int × Int → Prop} (hA : ∀ a b c d, A (a, b) → A (c, d) → A (a, d)) : ∀ (l acc : Smp), (∀ p ∈ l, A p) → (∀ p ∈ acc, A p) → (acc.map (·.1)).Nodup →
    (∀ p ∈ l.foldl putP acc, A p) ∧ ((l.foldl putP acc).map (·.1)).Nodup ∧ (l.foldl putP acc).length ≤ acc.length + l.length
  | [], acc, _, h, hn => ⟨h, hn, Nat.le_refl _⟩
  | q :: l, acc, hl, h, hn => by
    obtain ⟨h1, h2, h3⟩ := dct_ok hA l (putP acc q) (fun p hp => hl p (List.mem_cons_of_mem _ hp)) (put_ok hA h (hl q List.mem_cons_self)) (put_nd hn)
    have := put_len acc q
    rw [List.foldl_cons, List.length_cons]
    exact ⟨h1, h2, by omega⟩
def md (s : Smp) : Smp := s.map fun q => (q.1 % 1000000, q.2 % 10000)
theorem made {s : Smp} (hl : s.length ≤ 20) : Sq (srtP (dctP (md s))) := by
  obtain ⟨h1, h2, h3⟩ := dct_ok (A := fun p => (0 ≤ p.1 ∧ p.1 < 1000000) ∧ 0 ≤ p.2 ∧ p.2 < 10000) (fun a b c d x y => ⟨x.1, y.2⟩) (md s) [] (fun p hp => by
    obtain ⟨q, _, rfl⟩ := List.mem_map.mp hp
    simp only
    omega) (fun p hp => by cases hp) List.nodup_nil
  have hp : (srtP (dctP (md s))).Perm (dctP (md s)) := List.mergeSort_perm _ _
  refine ⟨?_, fun q hq => h1 q (hp.mem_iff.mp hq), srt_strict h2⟩
  rw [hp.length_eq]
  have : (md s).length = s.length := by unfold md; rw [List.length_map]
  unfold dctP
  simp only [List.length_nil] at h3
  omega
theorem ins_ok {s : Smp} (h : Sq s) {q : Int × Int} (hq : (0 ≤ q.1 ∧ q.1 < 1000000) ∧ 0 ≤ q.2 ∧ q.2 < 10000) (hn : hasP s q.1 = false) : Sm (srtP (s ++ [q])) ∧ s.Sublist (srtP (s ++ [q])) := by
  have hp : (srtP (s ++ [q])).Perm (s ++ [q]) := List.mergeSort_perm _ _
  have nd : ((s ++ [q]).map (·.1)).Nodup := by
    rw [List.map_append, List.nodup_append]
    refine ⟨List.pairwise_map.mpr (h.2.2.imp fun {a b} h e => by omega), by simp, fun a ha b hb => ?_⟩
    rw [List.map_singleton, List.mem_singleton] at hb
    subst hb
    intro e
    have := hasP_mem.mpr (e ▸ ha)
    rw [hn] at this
    cases this
  refine ⟨⟨?_, fun p hp' => ?_, srt_strict nd⟩, srt_sub h.2.2 (List.sublist_append_left _ _)⟩
  · rw [hp.length_eq, List.length_append]
    have := h.1
    simp only [List.length_cons, List.length_nil]
    omega
  · rcases List.mem_append.mp (hp.mem_iff.mp hp') with hp' | hp'
    · have := h.2.1 p hp'
      omega
    · rw [List.mem_singleton.mp hp']
      omega
theorem sumS_snoc : ∀ (xs : List Int) (a b : Int), sumS (xs ++ [a, b]) = sumS (xs ++ [a]) + stp a b
  | [], a, b => by
    rw [List.nil_append, List.nil_append, sumS_c, sumS_1, sumS_1]
    omega
  | [x], a, b => by
    show sumS [x, a, b] = sumS [x, a] + stp a b
    simp only [sumS_c, sumS_1]
    omega
  | x :: y :: xs, a, b => by
    have ih := sumS_snoc (y :: xs) a b
    show sumS (x :: y :: (xs ++ [a, b])) = sumS (x :: y :: (xs ++ [a])) + _
    rw [sumS_c, sumS_c]
    have ih : sumS (y :: (xs ++ [a, b])) = sumS (y :: (xs ++ [a])) + stp a b := ih
    omega
theorem est_last (s : Smp) (q : Int × Int) (t : Int) : est (s ++ [q] ++ [(t, q.2)]) = est (s ++ [q]) := by
  show sumS (vals (s ++ [q] ++ [(t, q.2)])) = sumS (vals (s ++ [q]))
  have e1 : vals (s ++ [q] ++ [(t, q.2)]) = vals s ++ [q.2, q.2] := by unfold vals; simp
  have e2 : vals (s ++ [q]) = vals s ++ [q.2] := by unfold vals; simp
  rw [e1, e2, sumS_snoc]
  have : stp q.2 q.2 = 0 := by unfold stp; simp
  omega
end

section
open PySem Rc
theorem lay_stat (q : Gp) (r : Int) : PyData.canLay0 (.str (stat q r)) = true := by
  unfold stat
  split <;> split <;> decide +kernel
theorem shaped_st (l : List Gp) (r : Int) : SeqAt.shaped (.list ((l.map fun q => stat q r).map PyData.str)) = true := by
  rw [shaped_iff, canLay_list]
  refine ⟨fun d hd => ?_, Nat.le_trans ((depth_list (n := 6)).mpr fun d hd => ?_) (by decide)⟩
  · obtain ⟨x, hx, rfl⟩ := List.mem_map.mp hd
    obtain ⟨q, _, rfl⟩ := List.mem_map.mp hx
    exact lay_stat q r
  · obtain ⟨x, _, rfl⟩ := List.mem_map.mp hd
    simp [PyData.depth]
theorem shaped_is (ns : List Int) : SeqAt.shaped (.list (ns.map PyData.int)) = true := by
  rw [shaped_iff, canLay_list]
  refine ⟨fun d hd => ?_, Nat.le_trans ((depth_list (n := 6)).mpr fun d hd => ?_) (by decide)⟩
  · obtain ⟨q, _, rfl⟩ := List.mem_map.mp hd
    rfl
  · obtain ⟨q, _, rfl⟩ := List.mem_map.mp hd
    simp [PyData.depth]
def dnI (xs : List Int) : List Int := (dns xs).map fun k : Nat => 1 + (k : Int)
theorem dnI_map (xs : List Int) : ((dns xs).map fun k : Nat => PyData.int (1 + (k : Int))) = (dnI xs).map PyData.int := by
  unfold dnI
  rw [List.map_map]
  rfl
theorem op_ne_t {ds : List D} {k : Sv → Prop} (h : SeqAt.shaped (.tuple ds) = true) : op2 dNe (.tuple ds) (.tuple []) k = k (.val (.bool (!ds.isEmpty))) := by
  unfold op2 dNe
  rw [h, show SeqAt.shaped (.tuple []) = true from rfl]
  cases ds <;> rfl
/-- the walk is evaluated first -/
theorem Ok_lcX {own : List Nat} {ck : Ck} {w : M (List D)} {p : Pat} {c : M Bool} {e : M Sv} {S : Sl} {Q : Sv → Sl → Prop} {P : List D → Sl → Prop} (hw : Ok (w S) P) (h : ∀ ds S1, P ds S1 → Ok (eLc own ck (fun _ => .ok ds S1) p c e S) Q) : Ok (eLc own ck w p c e S) Q := by
  unfold eLc
  rw [Ok_bind]
  refine Ok_mono hw fun ds S1 hp => ?_
  have := h ds S1 hp
  unfold eLc at this
  rw [Ok_bind, Ok_ok] at this
  exact this
theorem tupX_pq {ps : Smp} {k : Sv → Prop} : op1 dTupX (.list (ps.map pqD)) k = k (.val (sx ps)) := op_tupX
theorem eW_pq {S : Sl} {i : Nat} {Q : Sv → Sl → Prop} : Ok (eW i S) Q = sg S i fun s => sxk s fun ps => Q (.val (smD ps)) S := Ok_eW
theorem srtDct_pq {S : Sl} {i : Nat} {Q : Sv → Sl → Prop} : Ok (eSrtDct i S) Q = sg S i fun s => sxk s fun ps => Q (.ow ((srtP (dctP ps)).map pqD)) S := Ok_srtDct
theorem srtPT_pq {ps : Smp} {k : Sv → Prop} : op1 dSrtP (.tuple (ps.map pqD)) k = k (.ow ((srtP ps).map pqD)) := op_srtPT
variable {s : Smp} {d f : Int}
/-- the samples of a cell -/
theorem mk_spec {ds : List D} (hd : Deck 20 ds) {s0 s1 x3 x4 x5 x6 x7 x8 x9 x10 x11 x12 : Sv} (Q : Sv → Sl → Prop)
    (h : ∀ (s : Smp) es, s.length ≤ 20 → Deck 220 es → Q (.ow ((md s).map pqD)) [s0, s1, .ow es, x3, x4, x5, x6, x7, x8, x9, x10, x11, x12]) :
    Ok (eLc [3, 4] ckT (wSeq (eCall F_law_samples [.b 2, .d (eLit (.int 20))])) (.t [.n 3, .n 4]) Rc.tYes (eTup [(eOp2 dMod (.v 3) (.e (eOp2 dPow (.e (eLit (.int 10))) (.e (eLit (.int 6)))))), (eOp2 dMod (.v 4) (.e (eOp2 dPow (.e (eLit (.int 10))) (.e (eLit (.int 4))))))]) [s0, s1, .ow ds, x3, x4, x5, x6, x7, x8, x9, x10, x11, x12]) Q := by
  refine Ok_lcX (P := fun l S1 => ∃ (s : Smp) (es : List D), l = s.map pqD ∧ s.length ≤ 20 ∧ Deck 220 es ∧ S1 = [s0, s1, .ow es, x3, x4, x5, x6, x7, x8, x9, x10, x11, x12]) ?_ ?_
  · simp -implicitDefEqProofs only [if_true, ↓Ok_ok, ↓Ok_bind, ↓Ok_seq, ↓thenS_nx, ↓thenS_rt, ↓thenS_bk, ↓thenS_ct, ↓Ok_sIf, ↓Ok_pass, ↓Ok_ret, ↓Ok_setk, ↓Ok_park, ↓Ok_par3k, ↓Ok_drop, ↓Ok_for, ↓Ok_while, ↓Ok_unpk, ↓Ok_callk, ↓Ok_tryC, ↓Tr_x, ↓Tr_r, ↓nmk_s, ↓muk_n, ↓muk_c, ↓mu2_s, ↓mu2_v, ↓mu2_o, ↓zrk_n, ↓zrk_c, ↓rs_h, ↓rs_v, ↓rs_o, hd_v, hd_o, hd_u, mh_n, mh_c, ↓Rt_fnk,
  ↓sg_z, ↓sg_s, ↓sw_z, ↓sw_s, ↓td_val, ↓td_ow, ↓Ok_eLit, ↓kp_val, ↓kp_ow, ↓Ok_eV, ↓Ok_op1e, ↓Ok_op1v, ↓Ok_op2ee, ↓Ok_op2ve, ↓Ok_op2ev, ↓Ok_op2vv, ↓op_add, ↓op_addL, ↓op_addT, ↓op_addI, ↓op_subI, ↓op_addB, ↓op_subB, ↓op_sub, ↓op_mul, ↓op_mod, ↓op_div, ↓op_pow, ↓op_lt, ↓op_le, ↓op_gt, ↓op_ge, ↓op_eqI, ↓op_neI, ↓op_neg, ↓op_isN, ↓op_notN, ↓op_lenL, ↓op_lenT,
  ↓op_isi_i, ↓op_isi_b, ↓op_isi_l, ↓op_isi_t, ↓op_isi_n, ↓op_isi_s, ↓op_abs, ↓op_max2, ↓op_min2, ↓op_tupL, ↓op_tupT, ↓op_lstL, ↓op_lstT, ↓ix_0, ↓ix_1, ↓ix_2, ↓ix_3, ↓tx_0, ↓tx_1, ↓tx_2, ↓tx_3, ↓Ok_datum, ↓Ok_evL0, ↓Ok_evLc, ↓Ok_eTup, ↓Ok_eLst, ↓bk_b, ↓Ok_tB, ↓Ok_eB, ↓Ok_tNot, ↓Ok_tAnd, ↓Ok_tOr, ↓Ok_eAnd, ↓Ok_eOr, ↓Ok_eIf, ↓fk_i, ↓fk_b, ↓fk_n, ↓Ok_evSe, ↓Ok_evSv, ↓ck2_b, ↓Ok_eChain,
  ↓pk_n, ↓pk_t, ↓pk_l, ↓pks_n, ↓pks_c, ↓vk_val, ↓vk_ow, ↓rvk_val, ↓rvk_ow, ↓Ok_retV, ↓augk_val, ↓Ok_augk, ↓nk_i, ↓Ok_setIx, ↓ixk_0, ↓ixk_1, ↓ixk_2, ↓apk_ow, ↓owk_ow, ↓Ok_app, ↓ak_n, ↓ak_d, ↓ak_b, ↓gk_n, ↓gk_l, ↓gk_r, ↓zk_n, ↓zk_l, ↓zk_r, ↓sgm_z, ↓sgm_s, ↓mk2_v, ↓mk2_o, ↓ik_z, ↓ik_n, ↓ik_s, ↓uk_z, ↓uk_s, ↓rtk_rt, ↓rtk_nx, ↓nok_n, ↓nok_v, ↓nok_o,
  ↓afk_nx, ↓afk_ct, ↓afk_bk, ↓afk_rt, ↓dk_l, ↓dk_t, ↓Ok_evPn, ↓Ok_evPs, ↓Ok_cutek, ↓Ok_cutv, ↓op_cutL, ↓op_cutT, ↓Ok_wSeq, ↓rk_i, ↓Ok_wRng1, ↓Ok_wRng2, ↓Ok_wEnum, ↓Ok_wZip2, ↓Ok_wZip3, ↓Ok_wN, ↓wk_n, ↓wk_c, ↓op_isB, ↓op_isNB, ↓dkk_d, ↓vk_dki, ↓lkk_s, ↓Ok_newK, ↓Ok_dlen, ↓Ok_dsorted, ↓Ok_dget, ↓Ok_dgetD, ↓Ok_dput,
  okArg_v, okArg_o, ↓Ok_tYes, nc_0, nc_1, nc_2, nc_3, nc_4, not_true_eq_false, not_false_eq_true, isN, List.length_cons, List.length_nil, Nat.zero_add, Nat.reduceAdd, List.mem_cons, List.not_mem_nil, decide_eq_true_eq, Bool.not_eq_true', decide_eq_false_iff_not, Bool.not_true, Bool.not_false, Bool.false_eq_true, if_true, if_false, true_and, and_true, or_false, or_true, true_or, reduceCtorEq, Nat.reduceEqDiff, and_self, decide_true, decide_false, Int.reduceLT, Int.reduceLE, Int.reduceEq, Int.reduceToNat, Int.reducePow, Int.reduceAdd, Int.reduceSub, Int.reduceMul, Int.reduceNeg, Int.reduceMod, Int.reduceDiv, Nat.reduceLeDiff, Nat.reduceLT, false_or, or_self, and_false, false_and]
    refine Rt_mono (samples_spec hd (by decide) (by decide) (by decide)) ?_
    rintro _ _ ⟨s, es, rfl, rfl, g, hl, he⟩
    simp -implicitDefEqProofs only [if_true, ↓Ok_ok, ↓Ok_bind, ↓Ok_seq, ↓thenS_nx, ↓thenS_rt, ↓thenS_bk, ↓thenS_ct, ↓Ok_sIf, ↓Ok_pass, ↓Ok_ret, ↓Ok_setk, ↓Ok_park, ↓Ok_par3k, ↓Ok_drop, ↓Ok_for, ↓Ok_while, ↓Ok_unpk, ↓Ok_callk, ↓Ok_tryC, ↓Tr_x, ↓Tr_r, ↓nmk_s, ↓muk_n, ↓muk_c, ↓mu2_s, ↓mu2_v, ↓mu2_o, ↓zrk_n, ↓zrk_c, ↓rs_h, ↓rs_v, ↓rs_o, hd_v, hd_o, hd_u, mh_n, mh_c, ↓Rt_fnk,
  ↓sg_z, ↓sg_s, ↓sw_z, ↓sw_s, ↓td_val, ↓td_ow, ↓Ok_eLit, ↓kp_val, ↓kp_ow, ↓Ok_eV, ↓Ok_op1e, ↓Ok_op1v, ↓Ok_op2ee, ↓Ok_op2ve, ↓Ok_op2ev, ↓Ok_op2vv, ↓op_add, ↓op_addL, ↓op_addT, ↓op_addI, ↓op_subI, ↓op_addB, ↓op_subB, ↓op_sub, ↓op_mul, ↓op_mod, ↓op_div, ↓op_pow, ↓op_lt, ↓op_le, ↓op_gt, ↓op_ge, ↓op_eqI, ↓op_neI, ↓op_neg, ↓op_isN, ↓op_notN, ↓op_lenL, ↓op_lenT,
  ↓op_isi_i, ↓op_isi_b, ↓op_isi_l, ↓op_isi_t, ↓op_isi_n, ↓op_isi_s, ↓op_abs, ↓op_max2, ↓op_min2, ↓op_tupL, ↓op_tupT, ↓op_lstL, ↓op_lstT, ↓ix_0, ↓ix_1, ↓ix_2, ↓ix_3, ↓tx_0, ↓tx_1, ↓tx_2, ↓tx_3, ↓Ok_datum, ↓Ok_evL0, ↓Ok_evLc, ↓Ok_eTup, ↓Ok_eLst, ↓bk_b, ↓Ok_tB, ↓Ok_eB, ↓Ok_tNot, ↓Ok_tAnd, ↓Ok_tOr, ↓Ok_eAnd, ↓Ok_eOr, ↓Ok_eIf, ↓fk_i, ↓fk_b, ↓fk_n, ↓Ok_evSe, ↓Ok_evSv, ↓ck2_b, ↓Ok_eChain,
  ↓pk_n, ↓pk_t, ↓pk_l, ↓pks_n, ↓pks_c, ↓vk_val, ↓vk_ow, ↓rvk_val, ↓rvk_ow, ↓Ok_retV, ↓augk_val, ↓Ok_augk, ↓nk_i, ↓Ok_setIx, ↓ixk_0, ↓ixk_1, ↓ixk_2, ↓apk_ow, ↓owk_ow, ↓Ok_app, ↓ak_n, ↓ak_d, ↓ak_b, ↓gk_n, ↓gk_l, ↓gk_r, ↓zk_n, ↓zk_l, ↓zk_r, ↓sgm_z, ↓sgm_s, ↓mk2_v, ↓mk2_o, ↓ik_z, ↓ik_n, ↓ik_s, ↓uk_z, ↓uk_s, ↓rtk_rt, ↓rtk_nx, ↓nok_n, ↓nok_v, ↓nok_o,
  ↓afk_nx, ↓afk_ct, ↓afk_bk, ↓afk_rt, ↓dk_l, ↓dk_t, ↓Ok_evPn, ↓Ok_evPs, ↓Ok_cutek, ↓Ok_cutv, ↓op_cutL, ↓op_cutT, ↓Ok_wSeq, ↓rk_i, ↓Ok_wRng1, ↓Ok_wRng2, ↓Ok_wEnum, ↓Ok_wZip2, ↓Ok_wZip3, ↓Ok_wN, ↓wk_n, ↓wk_c, ↓op_isB, ↓op_isNB, ↓dkk_d, ↓vk_dki, ↓lkk_s, ↓Ok_newK, ↓Ok_dlen, ↓Ok_dsorted, ↓Ok_dget, ↓Ok_dgetD, ↓Ok_dput,
  okArg_v, okArg_o, ↓Ok_tYes, nc_0, nc_1, nc_2, nc_3, nc_4, not_true_eq_false, not_false_eq_true, isN, List.length_cons, List.length_nil, Nat.zero_add, Nat.reduceAdd, List.mem_cons, List.not_mem_nil, decide_eq_true_eq, Bool.not_eq_true', decide_eq_false_iff_not, Bool.not_true, Bool.not_false, Bool.false_eq_true, if_true, if_false, true_and, and_true, or_false, or_true, true_or, reduceCtorEq, Nat.reduceEqDiff, and_self, decide_true, decide_false, Int.reduceLT, Int.reduceLE, Int.reduceEq, Int.reduceToNat, Int.reducePow, Int.reduceAdd, Int.reduceSub, Int.reduceMul, Int.reduceNeg, Int.reduceMod, Int.reduceDiv, Nat.reduceLeDiff, Nat.reduceLT, false_or, or_self, and_false, false_and]
    exact ⟨s, es, rfl, by simpa using hl, he.mono (by omega), rfl⟩
  · rintro l S1 ⟨s, es, rfl, hl, he, rfl⟩
    refine Ok_lcM s pqD (fun q => pqD (q.1 % 1000000, q.2 % 10000)) ?_
    rw [Ok_ok]
    simp -implicitDefEqProofs only [if_true, ↓Ok_ok, ↓Ok_bind, ↓Ok_seq, ↓thenS_nx, ↓thenS_rt, ↓thenS_bk, ↓thenS_ct, ↓Ok_sIf, ↓Ok_pass, ↓Ok_ret, ↓Ok_setk, ↓Ok_park, ↓Ok_par3k, ↓Ok_drop, ↓Ok_for, ↓Ok_while, ↓Ok_unpk, ↓Ok_callk, ↓Ok_tryC, ↓Tr_x, ↓Tr_r, ↓nmk_s, ↓muk_n, ↓muk_c, ↓mu2_s, ↓mu2_v, ↓mu2_o, ↓zrk_n, ↓zrk_c, ↓rs_h, ↓rs_v, ↓rs_o, hd_v, hd_o, hd_u, mh_n, mh_c, ↓Rt_fnk,
  ↓sg_z, ↓sg_s, ↓sw_z, ↓sw_s, ↓td_val, ↓td_ow, ↓Ok_eLit, ↓kp_val, ↓kp_ow, ↓Ok_eV, ↓Ok_op1e, ↓Ok_op1v, ↓Ok_op2ee, ↓Ok_op2ve, ↓Ok_op2ev, ↓Ok_op2vv, ↓op_add, ↓op_addL, ↓op_addT, ↓op_addI, ↓op_subI, ↓op_addB, ↓op_subB, ↓op_sub, ↓op_mul, ↓op_mod, ↓op_div, ↓op_pow, ↓op_lt, ↓op_le, ↓op_gt, ↓op_ge, ↓op_eqI, ↓op_neI, ↓op_neg, ↓op_isN, ↓op_notN, ↓op_lenL, ↓op_lenT,
  ↓op_isi_i, ↓op_isi_b, ↓op_isi_l, ↓op_isi_t, ↓op_isi_n, ↓op_isi_s, ↓op_abs, ↓op_max2, ↓op_min2, ↓op_tupL, ↓op_tupT, ↓op_lstL, ↓op_lstT, ↓ix_0, ↓ix_1, ↓ix_2, ↓ix_3, ↓tx_0, ↓tx_1, ↓tx_2, ↓tx_3, ↓Ok_datum, ↓Ok_evL0, ↓Ok_evLc, ↓Ok_eTup, ↓Ok_eLst, ↓bk_b, ↓Ok_tB, ↓Ok_eB, ↓Ok_tNot, ↓Ok_tAnd, ↓Ok_tOr, ↓Ok_eAnd, ↓Ok_eOr, ↓Ok_eIf, ↓fk_i, ↓fk_b, ↓fk_n, ↓Ok_evSe, ↓Ok_evSv, ↓ck2_b, ↓Ok_eChain,
  ↓pk_n, ↓pk_t, ↓pk_l, ↓pks_n, ↓pks_c, ↓vk_val, ↓vk_ow, ↓rvk_val, ↓rvk_ow, ↓Ok_retV, ↓augk_val, ↓Ok_augk, ↓nk_i, ↓Ok_setIx, ↓ixk_0, ↓ixk_1, ↓ixk_2, ↓apk_ow, ↓owk_ow, ↓Ok_app, ↓ak_n, ↓ak_d, ↓ak_b, ↓gk_n, ↓gk_l, ↓gk_r, ↓zk_n, ↓zk_l, ↓zk_r, ↓sgm_z, ↓sgm_s, ↓mk2_v, ↓mk2_o, ↓ik_z, ↓ik_n, ↓ik_s, ↓uk_z, ↓uk_s, ↓rtk_rt, ↓rtk_nx, ↓nok_n, ↓nok_v, ↓nok_o,
  ↓afk_nx, ↓afk_ct, ↓afk_bk, ↓afk_rt, ↓dk_l, ↓dk_t, ↓Ok_evPn, ↓Ok_evPs, ↓Ok_cutek, ↓Ok_cutv, ↓op_cutL, ↓op_cutT, ↓Ok_wSeq, ↓rk_i, ↓Ok_wRng1, ↓Ok_wRng2, ↓Ok_wEnum, ↓Ok_wZip2, ↓Ok_wZip3, ↓Ok_wN, ↓wk_n, ↓wk_c, ↓op_isB, ↓op_isNB, ↓dkk_d, ↓vk_dki, ↓lkk_s, ↓Ok_newK, ↓Ok_dlen, ↓Ok_dsorted, ↓Ok_dget, ↓Ok_dgetD, ↓Ok_dput,
  okArg_v, okArg_o, ↓Ok_tYes, nc_0, nc_1, nc_2, nc_3, nc_4, not_true_eq_false, not_false_eq_true, isN, List.length_cons, List.length_nil, Nat.zero_add, Nat.reduceAdd, List.mem_cons, List.not_mem_nil, decide_eq_true_eq, Bool.not_eq_true', decide_eq_false_iff_not, Bool.not_true, Bool.not_false, Bool.false_eq_true, if_true, if_false, true_and, and_true, or_false, or_true, true_or, reduceCtorEq, Nat.reduceEqDiff, and_self, decide_true, decide_false, Int.reduceLT, Int.reduceLE, Int.reduceEq, Int.reduceToNat, Int.reducePow, Int.reduceAdd, Int.reduceSub, Int.reduceMul, Int.reduceNeg, Int.reduceMod, Int.reduceDiv, Nat.reduceLeDiff, Nat.reduceLT, false_or, or_self, and_false, false_and]
    refine ⟨⟨ckT_eq.mpr trivial, fun q hq => ?_⟩, ?_⟩
    · unfold itemm pqD
      simp -implicitDefEqProofs only [if_true, ↓Ok_ok, ↓Ok_bind, ↓Ok_seq, ↓thenS_nx, ↓thenS_rt, ↓thenS_bk, ↓thenS_ct, ↓Ok_sIf, ↓Ok_pass, ↓Ok_ret, ↓Ok_setk, ↓Ok_park, ↓Ok_par3k, ↓Ok_drop, ↓Ok_for, ↓Ok_while, ↓Ok_unpk, ↓Ok_callk, ↓Ok_tryC, ↓Tr_x, ↓Tr_r, ↓nmk_s, ↓muk_n, ↓muk_c, ↓mu2_s, ↓mu2_v, ↓mu2_o, ↓zrk_n, ↓zrk_c, ↓rs_h, ↓rs_v, ↓rs_o, hd_v, hd_o, hd_u, mh_n, mh_c, ↓Rt_fnk,
  ↓sg_z, ↓sg_s, ↓sw_z, ↓sw_s, ↓td_val, ↓td_ow, ↓Ok_eLit, ↓kp_val, ↓kp_ow, ↓Ok_eV, ↓Ok_op1e, ↓Ok_op1v, ↓Ok_op2ee, ↓Ok_op2ve, ↓Ok_op2ev, ↓Ok_op2vv, ↓op_add, ↓op_addL, ↓op_addT, ↓op_addI, ↓op_subI, ↓op_addB, ↓op_subB, ↓op_sub, ↓op_mul, ↓op_mod, ↓op_div, ↓op_pow, ↓op_lt, ↓op_le, ↓op_gt, ↓op_ge, ↓op_eqI, ↓op_neI, ↓op_neg, ↓op_isN, ↓op_notN, ↓op_lenL, ↓op_lenT,
  ↓op_isi_i, ↓op_isi_b, ↓op_isi_l, ↓op_isi_t, ↓op_isi_n, ↓op_isi_s, ↓op_abs, ↓op_max2, ↓op_min2, ↓op_tupL, ↓op_tupT, ↓op_lstL, ↓op_lstT, ↓ix_0, ↓ix_1, ↓ix_2, ↓ix_3, ↓tx_0, ↓tx_1, ↓tx_2, ↓tx_3, ↓Ok_datum, ↓Ok_evL0, ↓Ok_evLc, ↓Ok_eTup, ↓Ok_eLst, ↓bk_b, ↓Ok_tB, ↓Ok_eB, ↓Ok_tNot, ↓Ok_tAnd, ↓Ok_tOr, ↓Ok_eAnd, ↓Ok_eOr, ↓Ok_eIf, ↓fk_i, ↓fk_b, ↓fk_n, ↓Ok_evSe, ↓Ok_evSv, ↓ck2_b, ↓Ok_eChain,
  ↓pk_n, ↓pk_t, ↓pk_l, ↓pks_n, ↓pks_c, ↓vk_val, ↓vk_ow, ↓rvk_val, ↓rvk_ow, ↓Ok_retV, ↓augk_val, ↓Ok_augk, ↓nk_i, ↓Ok_setIx, ↓ixk_0, ↓ixk_1, ↓ixk_2, ↓apk_ow, ↓owk_ow, ↓Ok_app, ↓ak_n, ↓ak_d, ↓ak_b, ↓gk_n, ↓gk_l, ↓gk_r, ↓zk_n, ↓zk_l, ↓zk_r, ↓sgm_z, ↓sgm_s, ↓mk2_v, ↓mk2_o, ↓ik_z, ↓ik_n, ↓ik_s, ↓uk_z, ↓uk_s, ↓rtk_rt, ↓rtk_nx, ↓nok_n, ↓nok_v, ↓nok_o,
  ↓afk_nx, ↓afk_ct, ↓afk_bk, ↓afk_rt, ↓dk_l, ↓dk_t, ↓Ok_evPn, ↓Ok_evPs, ↓Ok_cutek, ↓Ok_cutv, ↓op_cutL, ↓op_cutT, ↓Ok_wSeq, ↓rk_i, ↓Ok_wRng1, ↓Ok_wRng2, ↓Ok_wEnum, ↓Ok_wZip2, ↓Ok_wZip3, ↓Ok_wN, ↓wk_n, ↓wk_c, ↓op_isB, ↓op_isNB, ↓dkk_d, ↓vk_dki, ↓lkk_s, ↓Ok_newK, ↓Ok_dlen, ↓Ok_dsorted, ↓Ok_dget, ↓Ok_dgetD, ↓Ok_dput,
  okArg_v, okArg_o, ↓Ok_tYes, nc_0, nc_1, nc_2, nc_3, nc_4, not_true_eq_false, not_false_eq_true, isN, List.length_cons, List.length_nil, Nat.zero_add, Nat.reduceAdd, List.mem_cons, List.not_mem_nil, decide_eq_true_eq, Bool.not_eq_true', decide_eq_false_iff_not, Bool.not_true, Bool.not_false, Bool.false_eq_true, if_true, if_false, true_and, and_true, or_false, or_true, true_or, reduceCtorEq, Nat.reduceEqDiff, and_self, decide_true, decide_false, Int.reduceLT, Int.reduceLE, Int.reduceEq, Int.reduceToNat, Int.reducePow, Int.reduceAdd, Int.reduceSub, Int.reduceMul, Int.reduceNeg, Int.reduceMod, Int.reduceDiv, Nat.reduceLeDiff, Nat.reduceLT, false_or, or_self, and_false, false_and]
    · have e : (s.map fun q => pqD (q.1 % 1000000, q.2 % 10000)) = (md s).map pqD := by unfold md; rw [List.map_map]; rfl
      rw [e]
      exact h s es hl he
theorem f2_spec (hs : Sq s) (f0 : 0 < f) (f1 : f ≤ 100) {k : Nat} (hk : k < s.length) {s0 s1 s2 s3 s4 s6 s8 s11 s12 : Sv} (Q : Fl → Sl → Prop)
    (h : Q .nx [s0, s1, s2, s3, s4, .val (sx s), s6, .val (.int f), s8, .val (smD (scl s f)), .val (.int (k : Int)), s11, s12]) :
    Ok (B_law_f2 [s0, s1, s2, s3, s4, .val (sx s), s6, .val (.int f), s8, .val (smD (scl s f)), .val (.int (k : Int)), s11, s12]) Q := by
  have ls : (scl s f).length = s.length := by unfold scl; rw [List.length_map]
  have e1 := fun Q => loss_rt (hs.scl f0 f1) (k := k) (by rw [ls]; exact hk) Q
  rw [erase_scl, est_scl f0, est_scl f0, ← Int.sub_mul, Int.mul_comm] at e1
  have e2 := fun Q => loss_rt hs.sm hk Q
  have fb : (-18446744073709551616 < f ∧ f < 18446744073709551616) = True := eq_true ⟨by omega, by omega⟩
  unfold B_law_f2
  simp -implicitDefEqProofs only [↓eW_pq, ↓sxk_x, ↓e1, ↓e2, fb, true_or, true_and, ↓Ok_ok, ↓Ok_bind, ↓Ok_seq, ↓thenS_nx, ↓thenS_rt, ↓thenS_bk, ↓thenS_ct, ↓Ok_sIf, ↓Ok_pass, ↓Ok_ret, ↓Ok_setk, ↓Ok_park, ↓Ok_par3k, ↓Ok_drop, ↓Ok_for, ↓Ok_while, ↓Ok_unpk, ↓Ok_callk, ↓Ok_tryC, ↓Tr_x, ↓Tr_r, ↓nmk_s, ↓muk_n, ↓muk_c, ↓mu2_s, ↓mu2_v, ↓mu2_o, ↓zrk_n, ↓zrk_c, ↓rs_h, ↓rs_v, ↓rs_o, hd_v, hd_o, hd_u, mh_n, mh_c, ↓Rt_fnk,
  ↓sg_z, ↓sg_s, ↓sw_z, ↓sw_s, ↓td_val, ↓td_ow, ↓Ok_eLit, ↓kp_val, ↓kp_ow, ↓Ok_eV, ↓Ok_op1e, ↓Ok_op1v, ↓Ok_op2ee, ↓Ok_op2ve, ↓Ok_op2ev, ↓Ok_op2vv, ↓op_add, ↓op_addL, ↓op_addT, ↓op_addI, ↓op_subI, ↓op_addB, ↓op_subB, ↓op_sub, ↓op_mul, ↓op_mod, ↓op_div, ↓op_pow, ↓op_lt, ↓op_le, ↓op_gt, ↓op_ge, ↓op_eqI, ↓op_neI, ↓op_neg, ↓op_isN, ↓op_notN, ↓op_lenL, ↓op_lenT,
  ↓op_isi_i, ↓op_isi_b, ↓op_isi_l, ↓op_isi_t, ↓op_isi_n, ↓op_isi_s, ↓op_abs, ↓op_max2, ↓op_min2, ↓op_tupL, ↓op_tupT, ↓op_lstL, ↓op_lstT, ↓ix_0, ↓ix_1, ↓ix_2, ↓ix_3, ↓tx_0, ↓tx_1, ↓tx_2, ↓tx_3, ↓Ok_datum, ↓Ok_evL0, ↓Ok_evLc, ↓Ok_eTup, ↓Ok_eLst, ↓bk_b, ↓Ok_tB, ↓Ok_eB, ↓Ok_tNot, ↓Ok_tAnd, ↓Ok_tOr, ↓Ok_eAnd, ↓Ok_eOr, ↓Ok_eIf, ↓fk_i, ↓fk_b, ↓fk_n, ↓Ok_evSe, ↓Ok_evSv, ↓ck2_b, ↓Ok_eChain,
  ↓pk_n, ↓pk_t, ↓pk_l, ↓pks_n, ↓pks_c, ↓vk_val, ↓vk_ow, ↓rvk_val, ↓rvk_ow, ↓Ok_retV, ↓augk_val, ↓Ok_augk, ↓nk_i, ↓Ok_setIx, ↓ixk_0, ↓ixk_1, ↓ixk_2, ↓apk_ow, ↓owk_ow, ↓Ok_app, ↓ak_n, ↓ak_d, ↓ak_b, ↓gk_n, ↓gk_l, ↓gk_r, ↓zk_n, ↓zk_l, ↓zk_r, ↓sgm_z, ↓sgm_s, ↓mk2_v, ↓mk2_o, ↓ik_z, ↓ik_n, ↓ik_s, ↓uk_z, ↓uk_s, ↓rtk_rt, ↓rtk_nx, ↓nok_n, ↓nok_v, ↓nok_o,
  ↓afk_nx, ↓afk_ct, ↓afk_bk, ↓afk_rt, ↓dk_l, ↓dk_t, ↓Ok_evPn, ↓Ok_evPs, ↓Ok_cutek, ↓Ok_cutv, ↓op_cutL, ↓op_cutT, ↓Ok_wSeq, ↓rk_i, ↓Ok_wRng1, ↓Ok_wRng2, ↓Ok_wEnum, ↓Ok_wZip2, ↓Ok_wZip3, ↓Ok_wN, ↓wk_n, ↓wk_c, ↓op_isB, ↓op_isNB, ↓dkk_d, ↓vk_dki, ↓lkk_s, ↓Ok_newK, ↓Ok_dlen, ↓Ok_dsorted, ↓Ok_dget, ↓Ok_dgetD, ↓Ok_dput,
  okArg_v, okArg_o, ↓Ok_tYes, nc_0, nc_1, nc_2, nc_3, nc_4, not_true_eq_false, not_false_eq_true, isN, List.length_cons, List.length_nil, Nat.zero_add, Nat.reduceAdd, List.mem_cons, List.not_mem_nil, decide_eq_true_eq, Bool.not_eq_true', decide_eq_false_iff_not, Bool.not_true, Bool.not_false, Bool.false_eq_true, if_true, if_false, true_and, and_true, or_false, or_true, true_or, reduceCtorEq, Nat.reduceEqDiff, and_self, decide_true, decide_false, Int.reduceLT, Int.reduceLE, Int.reduceEq, Int.reduceToNat, Int.reducePow, Int.reduceAdd, Int.reduceSub, Int.reduceMul, Int.reduceNeg, Int.reduceMod, Int.reduceDiv, Nat.reduceLeDiff, Nat.reduceLT, false_or, or_self, and_false, false_and]
  exact h
theorem f3_spec (hs : Sq s) {n : Int} {ds : List D} (hd : Deck n ds) (hn : n < 900000000) {s0 s1 s3 s4 s6 s7 s8 s9 s10 s11 s12 : Sv} (Q : Fl → Sl → Prop)
    (h : ∀ es s3 s4, Deck (n + 2) es → Q .nx [s0, s1, .ow es, s3, s4, .val (sx s), s6, s7, s8, s9, s10, s11, s12]) :
    Ok (B_law_f3 [s0, s1, .ow ds, s3, s4, .val (sx s), s6, s7, s8, s9, s10, s11, s12]) Q := by
  have l20 := hs.1
  unfold B_law_f3
  simp -implicitDefEqProofs only [if_true, ↓Ok_ok, ↓Ok_bind, ↓Ok_seq, ↓thenS_nx, ↓thenS_rt, ↓thenS_bk, ↓thenS_ct, ↓Ok_sIf, ↓Ok_pass, ↓Ok_ret, ↓Ok_setk, ↓Ok_park, ↓Ok_par3k, ↓Ok_drop, ↓Ok_for, ↓Ok_while, ↓Ok_unpk, ↓Ok_callk, ↓Ok_tryC, ↓Tr_x, ↓Tr_r, ↓nmk_s, ↓muk_n, ↓muk_c, ↓mu2_s, ↓mu2_v, ↓mu2_o, ↓zrk_n, ↓zrk_c, ↓rs_h, ↓rs_v, ↓rs_o, hd_v, hd_o, hd_u, mh_n, mh_c, ↓Rt_fnk,
  ↓sg_z, ↓sg_s, ↓sw_z, ↓sw_s, ↓td_val, ↓td_ow, ↓Ok_eLit, ↓kp_val, ↓kp_ow, ↓Ok_eV, ↓Ok_op1e, ↓Ok_op1v, ↓Ok_op2ee, ↓Ok_op2ve, ↓Ok_op2ev, ↓Ok_op2vv, ↓op_add, ↓op_addL, ↓op_addT, ↓op_addI, ↓op_subI, ↓op_addB, ↓op_subB, ↓op_sub, ↓op_mul, ↓op_mod, ↓op_div, ↓op_pow, ↓op_lt, ↓op_le, ↓op_gt, ↓op_ge, ↓op_eqI, ↓op_neI, ↓op_neg, ↓op_isN, ↓op_notN, ↓op_lenL, ↓op_lenT,
  ↓op_isi_i, ↓op_isi_b, ↓op_isi_l, ↓op_isi_t, ↓op_isi_n, ↓op_isi_s, ↓op_abs, ↓op_max2, ↓op_min2, ↓op_tupL, ↓op_tupT, ↓op_lstL, ↓op_lstT, ↓ix_0, ↓ix_1, ↓ix_2, ↓ix_3, ↓tx_0, ↓tx_1, ↓tx_2, ↓tx_3, ↓Ok_datum, ↓Ok_evL0, ↓Ok_evLc, ↓Ok_eTup, ↓Ok_eLst, ↓bk_b, ↓Ok_tB, ↓Ok_eB, ↓Ok_tNot, ↓Ok_tAnd, ↓Ok_tOr, ↓Ok_eAnd, ↓Ok_eOr, ↓Ok_eIf, ↓fk_i, ↓fk_b, ↓fk_n, ↓Ok_evSe, ↓Ok_evSv, ↓ck2_b, ↓Ok_eChain,
  ↓pk_n, ↓pk_t, ↓pk_l, ↓pks_n, ↓pks_c, ↓vk_val, ↓vk_ow, ↓rvk_val, ↓rvk_ow, ↓Ok_retV, ↓augk_val, ↓Ok_augk, ↓nk_i, ↓Ok_setIx, ↓ixk_0, ↓ixk_1, ↓ixk_2, ↓apk_ow, ↓owk_ow, ↓Ok_app, ↓ak_n, ↓ak_d, ↓ak_b, ↓gk_n, ↓gk_l, ↓gk_r, ↓zk_n, ↓zk_l, ↓zk_r, ↓sgm_z, ↓sgm_s, ↓mk2_v, ↓mk2_o, ↓ik_z, ↓ik_n, ↓ik_s, ↓uk_z, ↓uk_s, ↓rtk_rt, ↓rtk_nx, ↓nok_n, ↓nok_v, ↓nok_o,
  ↓afk_nx, ↓afk_ct, ↓afk_bk, ↓afk_rt, ↓dk_l, ↓dk_t, ↓Ok_evPn, ↓Ok_evPs, ↓Ok_cutek, ↓Ok_cutv, ↓op_cutL, ↓op_cutT, ↓Ok_wSeq, ↓rk_i, ↓Ok_wRng1, ↓Ok_wRng2, ↓Ok_wEnum, ↓Ok_wZip2, ↓Ok_wZip3, ↓Ok_wN, ↓wk_n, ↓wk_c, ↓op_isB, ↓op_isNB, ↓dkk_d, ↓vk_dki, ↓lkk_s, ↓Ok_newK, ↓Ok_dlen, ↓Ok_dsorted, ↓Ok_dget, ↓Ok_dgetD, ↓Ok_dput,
  okArg_v, okArg_o, ↓Ok_tYes, nc_0, nc_1, nc_2, nc_3, nc_4, not_true_eq_false, not_false_eq_true, isN, List.length_cons, List.length_nil, Nat.zero_add, Nat.reduceAdd, List.mem_cons, List.not_mem_nil, decide_eq_true_eq, Bool.not_eq_true', decide_eq_false_iff_not, Bool.not_true, Bool.not_false, Bool.false_eq_true, if_true, if_false, true_and, and_true, or_false, or_true, true_or, reduceCtorEq, Nat.reduceEqDiff, and_self, decide_true, decide_false, Int.reduceLT, Int.reduceLE, Int.reduceEq, Int.reduceToNat, Int.reducePow, Int.reduceAdd, Int.reduceSub, Int.reduceMul, Int.reduceNeg, Int.reduceMod, Int.reduceDiv, Nat.reduceLeDiff, Nat.reduceLT, false_or, or_self, and_false, false_and]
  refine Rt_mono (pick_spec (l := 1000000) hd (by omega) (by decide) (by decide)) ?_
  rintro _ _ ⟨t, es, rfl, rfl, t0, t1, hd⟩
  simp -implicitDefEqProofs only [if_true, ↓Ok_ok, ↓Ok_bind, ↓Ok_seq, ↓thenS_nx, ↓thenS_rt, ↓thenS_bk, ↓thenS_ct, ↓Ok_sIf, ↓Ok_pass, ↓Ok_ret, ↓Ok_setk, ↓Ok_park, ↓Ok_par3k, ↓Ok_drop, ↓Ok_for, ↓Ok_while, ↓Ok_unpk, ↓Ok_callk, ↓Ok_tryC, ↓Tr_x, ↓Tr_r, ↓nmk_s, ↓muk_n, ↓muk_c, ↓mu2_s, ↓mu2_v, ↓mu2_o, ↓zrk_n, ↓zrk_c, ↓rs_h, ↓rs_v, ↓rs_o, hd_v, hd_o, hd_u, mh_n, mh_c, ↓Rt_fnk,
  ↓sg_z, ↓sg_s, ↓sw_z, ↓sw_s, ↓td_val, ↓td_ow, ↓Ok_eLit, ↓kp_val, ↓kp_ow, ↓Ok_eV, ↓Ok_op1e, ↓Ok_op1v, ↓Ok_op2ee, ↓Ok_op2ve, ↓Ok_op2ev, ↓Ok_op2vv, ↓op_add, ↓op_addL, ↓op_addT, ↓op_addI, ↓op_subI, ↓op_addB, ↓op_subB, ↓op_sub, ↓op_mul, ↓op_mod, ↓op_div, ↓op_pow, ↓op_lt, ↓op_le, ↓op_gt, ↓op_ge, ↓op_eqI, ↓op_neI, ↓op_neg, ↓op_isN, ↓op_notN, ↓op_lenL, ↓op_lenT,
  ↓op_isi_i, ↓op_isi_b, ↓op_isi_l, ↓op_isi_t, ↓op_isi_n, ↓op_isi_s, ↓op_abs, ↓op_max2, ↓op_min2, ↓op_tupL, ↓op_tupT, ↓op_lstL, ↓op_lstT, ↓ix_0, ↓ix_1, ↓ix_2, ↓ix_3, ↓tx_0, ↓tx_1, ↓tx_2, ↓tx_3, ↓Ok_datum, ↓Ok_evL0, ↓Ok_evLc, ↓Ok_eTup, ↓Ok_eLst, ↓bk_b, ↓Ok_tB, ↓Ok_eB, ↓Ok_tNot, ↓Ok_tAnd, ↓Ok_tOr, ↓Ok_eAnd, ↓Ok_eOr, ↓Ok_eIf, ↓fk_i, ↓fk_b, ↓fk_n, ↓Ok_evSe, ↓Ok_evSv, ↓ck2_b, ↓Ok_eChain,
  ↓pk_n, ↓pk_t, ↓pk_l, ↓pks_n, ↓pks_c, ↓vk_val, ↓vk_ow, ↓rvk_val, ↓rvk_ow, ↓Ok_retV, ↓augk_val, ↓Ok_augk, ↓nk_i, ↓Ok_setIx, ↓ixk_0, ↓ixk_1, ↓ixk_2, ↓apk_ow, ↓owk_ow, ↓Ok_app, ↓ak_n, ↓ak_d, ↓ak_b, ↓gk_n, ↓gk_l, ↓gk_r, ↓zk_n, ↓zk_l, ↓zk_r, ↓sgm_z, ↓sgm_s, ↓mk2_v, ↓mk2_o, ↓ik_z, ↓ik_n, ↓ik_s, ↓uk_z, ↓uk_s, ↓rtk_rt, ↓rtk_nx, ↓nok_n, ↓nok_v, ↓nok_o,
  ↓afk_nx, ↓afk_ct, ↓afk_bk, ↓afk_rt, ↓dk_l, ↓dk_t, ↓Ok_evPn, ↓Ok_evPs, ↓Ok_cutek, ↓Ok_cutv, ↓op_cutL, ↓op_cutT, ↓Ok_wSeq, ↓rk_i, ↓Ok_wRng1, ↓Ok_wRng2, ↓Ok_wEnum, ↓Ok_wZip2, ↓Ok_wZip3, ↓Ok_wN, ↓wk_n, ↓wk_c, ↓op_isB, ↓op_isNB, ↓dkk_d, ↓vk_dki, ↓lkk_s, ↓Ok_newK, ↓Ok_dlen, ↓Ok_dsorted, ↓Ok_dget, ↓Ok_dgetD, ↓Ok_dput,
  okArg_v, okArg_o, ↓Ok_tYes, nc_0, nc_1, nc_2, nc_3, nc_4, not_true_eq_false, not_false_eq_true, isN, List.length_cons, List.length_nil, Nat.zero_add, Nat.reduceAdd, List.mem_cons, List.not_mem_nil, decide_eq_true_eq, Bool.not_eq_true', decide_eq_false_iff_not, Bool.not_true, Bool.not_false, Bool.false_eq_true, if_true, if_false, true_and, and_true, or_false, or_true, true_or, reduceCtorEq, Nat.reduceEqDiff, and_self, decide_true, decide_false, Int.reduceLT, Int.reduceLE, Int.reduceEq, Int.reduceToNat, Int.reducePow, Int.reduceAdd, Int.reduceSub, Int.reduceMul, Int.reduceNeg, Int.reduceMod, Int.reduceDiv, Nat.reduceLeDiff, Nat.reduceLT, false_or, or_self, and_false, false_and]
  refine Rt_mono (pick_spec (l := 10000) hd (by omega) (by decide) (by decide)) ?_
  rintro _ _ ⟨v, es, rfl, rfl, v0, v1, hd⟩
  simp -implicitDefEqProofs only [↓Ok_ninDct, ↓ink_i, ↓sxk_x, ↓Ok_ok, ↓Ok_bind, ↓Ok_seq, ↓thenS_nx, ↓thenS_rt, ↓thenS_bk, ↓thenS_ct, ↓Ok_sIf, ↓Ok_pass, ↓Ok_ret, ↓Ok_setk, ↓Ok_park, ↓Ok_par3k, ↓Ok_drop, ↓Ok_for, ↓Ok_while, ↓Ok_unpk, ↓Ok_callk, ↓Ok_tryC, ↓Tr_x, ↓Tr_r, ↓nmk_s, ↓muk_n, ↓muk_c, ↓mu2_s, ↓mu2_v, ↓mu2_o, ↓zrk_n, ↓zrk_c, ↓rs_h, ↓rs_v, ↓rs_o, hd_v, hd_o, hd_u, mh_n, mh_c, ↓Rt_fnk,
  ↓sg_z, ↓sg_s, ↓sw_z, ↓sw_s, ↓td_val, ↓td_ow, ↓Ok_eLit, ↓kp_val, ↓kp_ow, ↓Ok_eV, ↓Ok_op1e, ↓Ok_op1v, ↓Ok_op2ee, ↓Ok_op2ve, ↓Ok_op2ev, ↓Ok_op2vv, ↓op_add, ↓op_addL, ↓op_addT, ↓op_addI, ↓op_subI, ↓op_addB, ↓op_subB, ↓op_sub, ↓op_mul, ↓op_mod, ↓op_div, ↓op_pow, ↓op_lt, ↓op_le, ↓op_gt, ↓op_ge, ↓op_eqI, ↓op_neI, ↓op_neg, ↓op_isN, ↓op_notN, ↓op_lenL, ↓op_lenT,
  ↓op_isi_i, ↓op_isi_b, ↓op_isi_l, ↓op_isi_t, ↓op_isi_n, ↓op_isi_s, ↓op_abs, ↓op_max2, ↓op_min2, ↓op_tupL, ↓op_tupT, ↓op_lstL, ↓op_lstT, ↓ix_0, ↓ix_1, ↓ix_2, ↓ix_3, ↓tx_0, ↓tx_1, ↓tx_2, ↓tx_3, ↓Ok_datum, ↓Ok_evL0, ↓Ok_evLc, ↓Ok_eTup, ↓Ok_eLst, ↓bk_b, ↓Ok_tB, ↓Ok_eB, ↓Ok_tNot, ↓Ok_tAnd, ↓Ok_tOr, ↓Ok_eAnd, ↓Ok_eOr, ↓Ok_eIf, ↓fk_i, ↓fk_b, ↓fk_n, ↓Ok_evSe, ↓Ok_evSv, ↓ck2_b, ↓Ok_eChain,
  ↓pk_n, ↓pk_t, ↓pk_l, ↓pks_n, ↓pks_c, ↓vk_val, ↓vk_ow, ↓rvk_val, ↓rvk_ow, ↓Ok_retV, ↓augk_val, ↓Ok_augk, ↓nk_i, ↓Ok_setIx, ↓ixk_0, ↓ixk_1, ↓ixk_2, ↓apk_ow, ↓owk_ow, ↓Ok_app, ↓ak_n, ↓ak_d, ↓ak_b, ↓gk_n, ↓gk_l, ↓gk_r, ↓zk_n, ↓zk_l, ↓zk_r, ↓sgm_z, ↓sgm_s, ↓mk2_v, ↓mk2_o, ↓ik_z, ↓ik_n, ↓ik_s, ↓uk_z, ↓uk_s, ↓rtk_rt, ↓rtk_nx, ↓nok_n, ↓nok_v, ↓nok_o,
  ↓afk_nx, ↓afk_ct, ↓afk_bk, ↓afk_rt, ↓dk_l, ↓dk_t, ↓Ok_evPn, ↓Ok_evPs, ↓Ok_cutek, ↓Ok_cutv, ↓op_cutL, ↓op_cutT, ↓Ok_wSeq, ↓rk_i, ↓Ok_wRng1, ↓Ok_wRng2, ↓Ok_wEnum, ↓Ok_wZip2, ↓Ok_wZip3, ↓Ok_wN, ↓wk_n, ↓wk_c, ↓op_isB, ↓op_isNB, ↓dkk_d, ↓vk_dki, ↓lkk_s, ↓Ok_newK, ↓Ok_dlen, ↓Ok_dsorted, ↓Ok_dget, ↓Ok_dgetD, ↓Ok_dput,
  okArg_v, okArg_o, ↓Ok_tYes, nc_0, nc_1, nc_2, nc_3, nc_4, not_true_eq_false, not_false_eq_true, isN, List.length_cons, List.length_nil, Nat.zero_add, Nat.reduceAdd, List.mem_cons, List.not_mem_nil, decide_eq_true_eq, Bool.not_eq_true', decide_eq_false_iff_not, Bool.not_true, Bool.not_false, Bool.false_eq_true, if_true, if_false, true_and, and_true, or_false, or_true, true_or, reduceCtorEq, Nat.reduceEqDiff, and_self, decide_true, decide_false, Int.reduceLT, Int.reduceLE, Int.reduceEq, Int.reduceToNat, Int.reducePow, Int.reduceAdd, Int.reduceSub, Int.reduceMul, Int.reduceNeg, Int.reduceMod, Int.reduceDiv, Nat.reduceLeDiff, Nat.reduceLT, false_or, or_self, and_false, false_and]
  cases hp : hasP s t with
  | true =>
    simp -implicitDefEqProofs only [Bool.not_true, ↓Ok_ok, ↓Ok_bind, ↓Ok_seq, ↓thenS_nx, ↓thenS_rt, ↓thenS_bk, ↓thenS_ct, ↓Ok_sIf, ↓Ok_pass, ↓Ok_ret, ↓Ok_setk, ↓Ok_park, ↓Ok_par3k, ↓Ok_drop, ↓Ok_for, ↓Ok_while, ↓Ok_unpk, ↓Ok_callk, ↓Ok_tryC, ↓Tr_x, ↓Tr_r, ↓nmk_s, ↓muk_n, ↓muk_c, ↓mu2_s, ↓mu2_v, ↓mu2_o, ↓zrk_n, ↓zrk_c, ↓rs_h, ↓rs_v, ↓rs_o, hd_v, hd_o, hd_u, mh_n, mh_c, ↓Rt_fnk,
  ↓sg_z, ↓sg_s, ↓sw_z, ↓sw_s, ↓td_val, ↓td_ow, ↓Ok_eLit, ↓kp_val, ↓kp_ow, ↓Ok_eV, ↓Ok_op1e, ↓Ok_op1v, ↓Ok_op2ee, ↓Ok_op2ve, ↓Ok_op2ev, ↓Ok_op2vv, ↓op_add, ↓op_addL, ↓op_addT, ↓op_addI, ↓op_subI, ↓op_addB, ↓op_subB, ↓op_sub, ↓op_mul, ↓op_mod, ↓op_div, ↓op_pow, ↓op_lt, ↓op_le, ↓op_gt, ↓op_ge, ↓op_eqI, ↓op_neI, ↓op_neg, ↓op_isN, ↓op_notN, ↓op_lenL, ↓op_lenT,
  ↓op_isi_i, ↓op_isi_b, ↓op_isi_l, ↓op_isi_t, ↓op_isi_n, ↓op_isi_s, ↓op_abs, ↓op_max2, ↓op_min2, ↓op_tupL, ↓op_tupT, ↓op_lstL, ↓op_lstT, ↓ix_0, ↓ix_1, ↓ix_2, ↓ix_3, ↓tx_0, ↓tx_1, ↓tx_2, ↓tx_3, ↓Ok_datum, ↓Ok_evL0, ↓Ok_evLc, ↓Ok_eTup, ↓Ok_eLst, ↓bk_b, ↓Ok_tB, ↓Ok_eB, ↓Ok_tNot, ↓Ok_tAnd, ↓Ok_tOr, ↓Ok_eAnd, ↓Ok_eOr, ↓Ok_eIf, ↓fk_i, ↓fk_b, ↓fk_n, ↓Ok_evSe, ↓Ok_evSv, ↓ck2_b, ↓Ok_eChain,
  ↓pk_n, ↓pk_t, ↓pk_l, ↓pks_n, ↓pks_c, ↓vk_val, ↓vk_ow, ↓rvk_val, ↓rvk_ow, ↓Ok_retV, ↓augk_val, ↓Ok_augk, ↓nk_i, ↓Ok_setIx, ↓ixk_0, ↓ixk_1, ↓ixk_2, ↓apk_ow, ↓owk_ow, ↓Ok_app, ↓ak_n, ↓ak_d, ↓ak_b, ↓gk_n, ↓gk_l, ↓gk_r, ↓zk_n, ↓zk_l, ↓zk_r, ↓sgm_z, ↓sgm_s, ↓mk2_v, ↓mk2_o, ↓ik_z, ↓ik_n, ↓ik_s, ↓uk_z, ↓uk_s, ↓rtk_rt, ↓rtk_nx, ↓nok_n, ↓nok_v, ↓nok_o,
  ↓afk_nx, ↓afk_ct, ↓afk_bk, ↓afk_rt, ↓dk_l, ↓dk_t, ↓Ok_evPn, ↓Ok_evPs, ↓Ok_cutek, ↓Ok_cutv, ↓op_cutL, ↓op_cutT, ↓Ok_wSeq, ↓rk_i, ↓Ok_wRng1, ↓Ok_wRng2, ↓Ok_wEnum, ↓Ok_wZip2, ↓Ok_wZip3, ↓Ok_wN, ↓wk_n, ↓wk_c, ↓op_isB, ↓op_isNB, ↓dkk_d, ↓vk_dki, ↓lkk_s, ↓Ok_newK, ↓Ok_dlen, ↓Ok_dsorted, ↓Ok_dget, ↓Ok_dgetD, ↓Ok_dput,
  okArg_v, okArg_o, ↓Ok_tYes, nc_0, nc_1, nc_2, nc_3, nc_4, not_true_eq_false, not_false_eq_true, isN, List.length_cons, List.length_nil, Nat.zero_add, Nat.reduceAdd, List.mem_cons, List.not_mem_nil, decide_eq_true_eq, Bool.not_eq_true', decide_eq_false_iff_not, Bool.not_true, Bool.not_false, Bool.false_eq_true, if_true, if_false, true_and, and_true, or_false, or_true, true_or, reduceCtorEq, Nat.reduceEqDiff, and_self, decide_true, decide_false, Int.reduceLT, Int.reduceLE, Int.reduceEq, Int.reduceToNat, Int.reducePow, Int.reduceAdd, Int.reduceSub, Int.reduceMul, Int.reduceNeg, Int.reduceMod, Int.reduceDiv, Nat.reduceLeDiff, Nat.reduceLT, false_or, or_self, and_false, false_and]
    exact h _ _ _ (hd.mono (by omega))
  | false =>
    obtain ⟨g, sub⟩ := ins_ok hs (q := (t, v)) ⟨⟨t0, t1⟩, v0, v1⟩ hp
    have le := U.est_sub g sub
    have e1 := fun Q => estimate_rt hs.sm Q
    have e2 := fun Q => estimate_rt g Q
    have e3 : (s.map pqD ++ [.tuple [.int t, .int v]] : List D) = (s ++ [(t, v)]).map pqD := by rw [List.map_append]; rfl
    simp -implicitDefEqProofs only [Bool.not_false, ↓eW_pq, ↓sxk_x, e3, ↓srtPT_pq, ↓e2, ↓e1, List.length_map, ↓Ok_ok, ↓Ok_bind, ↓Ok_seq, ↓thenS_nx, ↓thenS_rt, ↓thenS_bk, ↓thenS_ct, ↓Ok_sIf, ↓Ok_pass, ↓Ok_ret, ↓Ok_setk, ↓Ok_park, ↓Ok_par3k, ↓Ok_drop, ↓Ok_for, ↓Ok_while, ↓Ok_unpk, ↓Ok_callk, ↓Ok_tryC, ↓Tr_x, ↓Tr_r, ↓nmk_s, ↓muk_n, ↓muk_c, ↓mu2_s, ↓mu2_v, ↓mu2_o, ↓zrk_n, ↓zrk_c, ↓rs_h, ↓rs_v, ↓rs_o, hd_v, hd_o, hd_u, mh_n, mh_c, ↓Rt_fnk,
  ↓sg_z, ↓sg_s, ↓sw_z, ↓sw_s, ↓td_val, ↓td_ow, ↓Ok_eLit, ↓kp_val, ↓kp_ow, ↓Ok_eV, ↓Ok_op1e, ↓Ok_op1v, ↓Ok_op2ee, ↓Ok_op2ve, ↓Ok_op2ev, ↓Ok_op2vv, ↓op_add, ↓op_addL, ↓op_addT, ↓op_addI, ↓op_subI, ↓op_addB, ↓op_subB, ↓op_sub, ↓op_mul, ↓op_mod, ↓op_div, ↓op_pow, ↓op_lt, ↓op_le, ↓op_gt, ↓op_ge, ↓op_eqI, ↓op_neI, ↓op_neg, ↓op_isN, ↓op_notN, ↓op_lenL, ↓op_lenT,
  ↓op_isi_i, ↓op_isi_b, ↓op_isi_l, ↓op_isi_t, ↓op_isi_n, ↓op_isi_s, ↓op_abs, ↓op_max2, ↓op_min2, ↓op_tupL, ↓op_tupT, ↓op_lstL, ↓op_lstT, ↓ix_0, ↓ix_1, ↓ix_2, ↓ix_3, ↓tx_0, ↓tx_1, ↓tx_2, ↓tx_3, ↓Ok_datum, ↓Ok_evL0, ↓Ok_evLc, ↓Ok_eTup, ↓Ok_eLst, ↓bk_b, ↓Ok_tB, ↓Ok_eB, ↓Ok_tNot, ↓Ok_tAnd, ↓Ok_tOr, ↓Ok_eAnd, ↓Ok_eOr, ↓Ok_eIf, ↓fk_i, ↓fk_b, ↓fk_n, ↓Ok_evSe, ↓Ok_evSv, ↓ck2_b, ↓Ok_eChain,
  ↓pk_n, ↓pk_t, ↓pk_l, ↓pks_n, ↓pks_c, ↓vk_val, ↓vk_ow, ↓rvk_val, ↓rvk_ow, ↓Ok_retV, ↓augk_val, ↓Ok_augk, ↓nk_i, ↓Ok_setIx, ↓ixk_0, ↓ixk_1, ↓ixk_2, ↓apk_ow, ↓owk_ow, ↓Ok_app, ↓ak_n, ↓ak_d, ↓ak_b, ↓gk_n, ↓gk_l, ↓gk_r, ↓zk_n, ↓zk_l, ↓zk_r, ↓sgm_z, ↓sgm_s, ↓mk2_v, ↓mk2_o, ↓ik_z, ↓ik_n, ↓ik_s, ↓uk_z, ↓uk_s, ↓rtk_rt, ↓rtk_nx, ↓nok_n, ↓nok_v, ↓nok_o,
  ↓afk_nx, ↓afk_ct, ↓afk_bk, ↓afk_rt, ↓dk_l, ↓dk_t, ↓Ok_evPn, ↓Ok_evPs, ↓Ok_cutek, ↓Ok_cutv, ↓op_cutL, ↓op_cutT, ↓Ok_wSeq, ↓rk_i, ↓Ok_wRng1, ↓Ok_wRng2, ↓Ok_wEnum, ↓Ok_wZip2, ↓Ok_wZip3, ↓Ok_wN, ↓wk_n, ↓wk_c, ↓op_isB, ↓op_isNB, ↓dkk_d, ↓vk_dki, ↓lkk_s, ↓Ok_newK, ↓Ok_dlen, ↓Ok_dsorted, ↓Ok_dget, ↓Ok_dgetD, ↓Ok_dput,
  okArg_v, okArg_o, ↓Ok_tYes, nc_0, nc_1, nc_2, nc_3, nc_4, not_true_eq_false, not_false_eq_true, isN, List.length_cons, List.length_nil, Nat.zero_add, Nat.reduceAdd, List.mem_cons, List.not_mem_nil, decide_eq_true_eq, Bool.not_eq_true', decide_eq_false_iff_not, Bool.not_true, Bool.not_false, Bool.false_eq_true, if_true, if_false, true_and, and_true, or_false, or_true, true_or, reduceCtorEq, Nat.reduceEqDiff, and_self, decide_true, decide_false, Int.reduceLT, Int.reduceLE, Int.reduceEq, Int.reduceToNat, Int.reducePow, Int.reduceAdd, Int.reduceSub, Int.reduceMul, Int.reduceNeg, Int.reduceMod, Int.reduceDiv, Nat.reduceLeDiff, Nat.reduceLT, false_or, or_self, and_false, false_and]
    exact ⟨by omega, iff' (by omega) (h _ _ _ (hd.mono (by omega)))⟩
end

section
open PySem Rc
theorem f1_spec {c : Int} {s0 x2 x3 x4 x5 x6 x7 x8 x9 x10 x11 x12 : Sv} (Q : Fl → Sl → Prop) (h : ∀ x2 x3 x4 x5 x6 x7 x8 x9 x10 x11 x12, Q .nx [s0, .val (.int c), x2, x3, x4, x5, x6, x7, x8, x9, x10, x11, x12]) : Ok (B_law_f1 [s0, .val (.int c), x2, x3, x4, x5, x6, x7, x8, x9, x10, x11, x12]) Q := by
  unfold B_law_f1
  simp -implicitDefEqProofs only [if_true, ↓Ok_ok, ↓Ok_bind, ↓Ok_seq, ↓thenS_nx, ↓thenS_rt, ↓thenS_bk, ↓thenS_ct, ↓Ok_sIf, ↓Ok_pass, ↓Ok_ret, ↓Ok_setk, ↓Ok_park, ↓Ok_par3k, ↓Ok_drop, ↓Ok_for, ↓Ok_while, ↓Ok_unpk, ↓Ok_callk, ↓Ok_tryC, ↓Tr_x, ↓Tr_r, ↓nmk_s, ↓muk_n, ↓muk_c, ↓mu2_s, ↓mu2_v, ↓mu2_o, ↓zrk_n, ↓zrk_c, ↓rs_h, ↓rs_v, ↓rs_o, hd_v, hd_o, hd_u, mh_n, mh_c, ↓Rt_fnk,
  ↓sg_z, ↓sg_s, ↓sw_z, ↓sw_s, ↓td_val, ↓td_ow, ↓Ok_eLit, ↓kp_val, ↓kp_ow, ↓Ok_eV, ↓Ok_op1e, ↓Ok_op1v, ↓Ok_op2ee, ↓Ok_op2ve, ↓Ok_op2ev, ↓Ok_op2vv, ↓op_add, ↓op_addL, ↓op_addT, ↓op_addI, ↓op_subI, ↓op_addB, ↓op_subB, ↓op_sub, ↓op_mul, ↓op_mod, ↓op_div, ↓op_pow, ↓op_lt, ↓op_le, ↓op_gt, ↓op_ge, ↓op_eqI, ↓op_neI, ↓op_neg, ↓op_isN, ↓op_notN, ↓op_lenL, ↓op_lenT,
  ↓op_isi_i, ↓op_isi_b, ↓op_isi_l, ↓op_isi_t, ↓op_isi_n, ↓op_isi_s, ↓op_abs, ↓op_max2, ↓op_min2, ↓op_tupL, ↓op_tupT, ↓op_lstL, ↓op_lstT, ↓ix_0, ↓ix_1, ↓ix_2, ↓ix_3, ↓tx_0, ↓tx_1, ↓tx_2, ↓tx_3, ↓Ok_datum, ↓Ok_evL0, ↓Ok_evLc, ↓Ok_eTup, ↓Ok_eLst, ↓bk_b, ↓Ok_tB, ↓Ok_eB, ↓Ok_tNot, ↓Ok_tAnd, ↓Ok_tOr, ↓Ok_eAnd, ↓Ok_eOr, ↓Ok_eIf, ↓fk_i, ↓fk_b, ↓fk_n, ↓Ok_evSe, ↓Ok_evSv, ↓ck2_b, ↓Ok_eChain,
  ↓pk_n, ↓pk_t, ↓pk_l, ↓pks_n, ↓pks_c, ↓vk_val, ↓vk_ow, ↓rvk_val, ↓rvk_ow, ↓Ok_retV, ↓augk_val, ↓Ok_augk, ↓nk_i, ↓Ok_setIx, ↓ixk_0, ↓ixk_1, ↓ixk_2, ↓apk_ow, ↓owk_ow, ↓Ok_app, ↓ak_n, ↓ak_d, ↓ak_b, ↓gk_n, ↓gk_l, ↓gk_r, ↓zk_n, ↓zk_l, ↓zk_r, ↓sgm_z, ↓sgm_s, ↓mk2_v, ↓mk2_o, ↓ik_z, ↓ik_n, ↓ik_s, ↓uk_z, ↓uk_s, ↓rtk_rt, ↓rtk_nx, ↓nok_n, ↓nok_v, ↓nok_o,
  ↓afk_nx, ↓afk_ct, ↓afk_bk, ↓afk_rt, ↓dk_l, ↓dk_t, ↓Ok_evPn, ↓Ok_evPs, ↓Ok_cutek, ↓Ok_cutv, ↓op_cutL, ↓op_cutT, ↓Ok_wSeq, ↓rk_i, ↓Ok_wRng1, ↓Ok_wRng2, ↓Ok_wEnum, ↓Ok_wZip2, ↓Ok_wZip3, ↓Ok_wN, ↓wk_n, ↓wk_c, ↓op_isB, ↓op_isNB, ↓dkk_d, ↓vk_dki, ↓lkk_s, ↓Ok_newK, ↓Ok_dlen, ↓Ok_dsorted, ↓Ok_dget, ↓Ok_dgetD, ↓Ok_dput,
  okArg_v, okArg_o, ↓Ok_tYes, nc_0, nc_1, nc_2, nc_3, nc_4, not_true_eq_false, not_false_eq_true, isN, List.length_cons, List.length_nil, Nat.zero_add, Nat.reduceAdd, List.mem_cons, List.not_mem_nil, decide_eq_true_eq, Bool.not_eq_true', decide_eq_false_iff_not, Bool.not_true, Bool.not_false, Bool.false_eq_true, if_true, if_false, true_and, and_true, or_false, or_true, true_or, reduceCtorEq, Nat.reduceEqDiff, and_self, decide_true, decide_false, Int.reduceLT, Int.reduceLE, Int.reduceEq, Int.reduceToNat, Int.reducePow, Int.reduceAdd, Int.reduceSub, Int.reduceMul, Int.reduceNeg, Int.reduceMod, Int.reduceDiv, Nat.reduceLeDiff, Nat.reduceLT, false_or, or_self, and_false, false_and]
  refine Rt_mono (deck_spec c 20 (by decide)) ?_
  rintro _ _ ⟨ds, rfl, rfl, hd⟩
  simp -implicitDefEqProofs only [if_true, ↓Ok_ok, ↓Ok_bind, ↓Ok_seq, ↓thenS_nx, ↓thenS_rt, ↓thenS_bk, ↓thenS_ct, ↓Ok_sIf, ↓Ok_pass, ↓Ok_ret, ↓Ok_setk, ↓Ok_park, ↓Ok_par3k, ↓Ok_drop, ↓Ok_for, ↓Ok_while, ↓Ok_unpk, ↓Ok_callk, ↓Ok_tryC, ↓Tr_x, ↓Tr_r, ↓nmk_s, ↓muk_n, ↓muk_c, ↓mu2_s, ↓mu2_v, ↓mu2_o, ↓zrk_n, ↓zrk_c, ↓rs_h, ↓rs_v, ↓rs_o, hd_v, hd_o, hd_u, mh_n, mh_c, ↓Rt_fnk,
  ↓sg_z, ↓sg_s, ↓sw_z, ↓sw_s, ↓td_val, ↓td_ow, ↓Ok_eLit, ↓kp_val, ↓kp_ow, ↓Ok_eV, ↓Ok_op1e, ↓Ok_op1v, ↓Ok_op2ee, ↓Ok_op2ve, ↓Ok_op2ev, ↓Ok_op2vv, ↓op_add, ↓op_addL, ↓op_addT, ↓op_addI, ↓op_subI, ↓op_addB, ↓op_subB, ↓op_sub, ↓op_mul, ↓op_mod, ↓op_div, ↓op_pow, ↓op_lt, ↓op_le, ↓op_gt, ↓op_ge, ↓op_eqI, ↓op_neI, ↓op_neg, ↓op_isN, ↓op_notN, ↓op_lenL, ↓op_lenT,
  ↓op_isi_i, ↓op_isi_b, ↓op_isi_l, ↓op_isi_t, ↓op_isi_n, ↓op_isi_s, ↓op_abs, ↓op_max2, ↓op_min2, ↓op_tupL, ↓op_tupT, ↓op_lstL, ↓op_lstT, ↓ix_0, ↓ix_1, ↓ix_2, ↓ix_3, ↓tx_0, ↓tx_1, ↓tx_2, ↓tx_3, ↓Ok_datum, ↓Ok_evL0, ↓Ok_evLc, ↓Ok_eTup, ↓Ok_eLst, ↓bk_b, ↓Ok_tB, ↓Ok_eB, ↓Ok_tNot, ↓Ok_tAnd, ↓Ok_tOr, ↓Ok_eAnd, ↓Ok_eOr, ↓Ok_eIf, ↓fk_i, ↓fk_b, ↓fk_n, ↓Ok_evSe, ↓Ok_evSv, ↓ck2_b, ↓Ok_eChain,
  ↓pk_n, ↓pk_t, ↓pk_l, ↓pks_n, ↓pks_c, ↓vk_val, ↓vk_ow, ↓rvk_val, ↓rvk_ow, ↓Ok_retV, ↓augk_val, ↓Ok_augk, ↓nk_i, ↓Ok_setIx, ↓ixk_0, ↓ixk_1, ↓ixk_2, ↓apk_ow, ↓owk_ow, ↓Ok_app, ↓ak_n, ↓ak_d, ↓ak_b, ↓gk_n, ↓gk_l, ↓gk_r, ↓zk_n, ↓zk_l, ↓zk_r, ↓sgm_z, ↓sgm_s, ↓mk2_v, ↓mk2_o, ↓ik_z, ↓ik_n, ↓ik_s, ↓uk_z, ↓uk_s, ↓rtk_rt, ↓rtk_nx, ↓nok_n, ↓nok_v, ↓nok_o,
  ↓afk_nx, ↓afk_ct, ↓afk_bk, ↓afk_rt, ↓dk_l, ↓dk_t, ↓Ok_evPn, ↓Ok_evPs, ↓Ok_cutek, ↓Ok_cutv, ↓op_cutL, ↓op_cutT, ↓Ok_wSeq, ↓rk_i, ↓Ok_wRng1, ↓Ok_wRng2, ↓Ok_wEnum, ↓Ok_wZip2, ↓Ok_wZip3, ↓Ok_wN, ↓wk_n, ↓wk_c, ↓op_isB, ↓op_isNB, ↓dkk_d, ↓vk_dki, ↓lkk_s, ↓Ok_newK, ↓Ok_dlen, ↓Ok_dsorted, ↓Ok_dget, ↓Ok_dgetD, ↓Ok_dput,
  okArg_v, okArg_o, ↓Ok_tYes, nc_0, nc_1, nc_2, nc_3, nc_4, not_true_eq_false, not_false_eq_true, isN, List.length_cons, List.length_nil, Nat.zero_add, Nat.reduceAdd, List.mem_cons, List.not_mem_nil, decide_eq_true_eq, Bool.not_eq_true', decide_eq_false_iff_not, Bool.not_true, Bool.not_false, Bool.false_eq_true, if_true, if_false, true_and, and_true, or_false, or_true, true_or, reduceCtorEq, Nat.reduceEqDiff, and_self, decide_true, decide_false, Int.reduceLT, Int.reduceLE, Int.reduceEq, Int.reduceToNat, Int.reducePow, Int.reduceAdd, Int.reduceSub, Int.reduceMul, Int.reduceNeg, Int.reduceMod, Int.reduceDiv, Nat.reduceLeDiff, Nat.reduceLT, false_or, or_self, and_false, false_and]
  refine mk_spec hd _ fun sm es hl hd => ?_
  simp -implicitDefEqProofs only [↓tupX_pq, ↓srtDct_pq, ↓sxk_x, ↓Ok_ok, ↓Ok_bind, ↓Ok_seq, ↓thenS_nx, ↓thenS_rt, ↓thenS_bk, ↓thenS_ct, ↓Ok_sIf, ↓Ok_pass, ↓Ok_ret, ↓Ok_setk, ↓Ok_park, ↓Ok_par3k, ↓Ok_drop, ↓Ok_for, ↓Ok_while, ↓Ok_unpk, ↓Ok_callk, ↓Ok_tryC, ↓Tr_x, ↓Tr_r, ↓nmk_s, ↓muk_n, ↓muk_c, ↓mu2_s, ↓mu2_v, ↓mu2_o, ↓zrk_n, ↓zrk_c, ↓rs_h, ↓rs_v, ↓rs_o, hd_v, hd_o, hd_u, mh_n, mh_c, ↓Rt_fnk,
  ↓sg_z, ↓sg_s, ↓sw_z, ↓sw_s, ↓td_val, ↓td_ow, ↓Ok_eLit, ↓kp_val, ↓kp_ow, ↓Ok_eV, ↓Ok_op1e, ↓Ok_op1v, ↓Ok_op2ee, ↓Ok_op2ve, ↓Ok_op2ev, ↓Ok_op2vv, ↓op_add, ↓op_addL, ↓op_addT, ↓op_addI, ↓op_subI, ↓op_addB, ↓op_subB, ↓op_sub, ↓op_mul, ↓op_mod, ↓op_div, ↓op_pow, ↓op_lt, ↓op_le, ↓op_gt, ↓op_ge, ↓op_eqI, ↓op_neI, ↓op_neg, ↓op_isN, ↓op_notN, ↓op_lenL, ↓op_lenT,
  ↓op_isi_i, ↓op_isi_b, ↓op_isi_l, ↓op_isi_t, ↓op_isi_n, ↓op_isi_s, ↓op_abs, ↓op_max2, ↓op_min2, ↓op_tupL, ↓op_tupT, ↓op_lstL, ↓op_lstT, ↓ix_0, ↓ix_1, ↓ix_2, ↓ix_3, ↓tx_0, ↓tx_1, ↓tx_2, ↓tx_3, ↓Ok_datum, ↓Ok_evL0, ↓Ok_evLc, ↓Ok_eTup, ↓Ok_eLst, ↓bk_b, ↓Ok_tB, ↓Ok_eB, ↓Ok_tNot, ↓Ok_tAnd, ↓Ok_tOr, ↓Ok_eAnd, ↓Ok_eOr, ↓Ok_eIf, ↓fk_i, ↓fk_b, ↓fk_n, ↓Ok_evSe, ↓Ok_evSv, ↓ck2_b, ↓Ok_eChain,
  ↓pk_n, ↓pk_t, ↓pk_l, ↓pks_n, ↓pks_c, ↓vk_val, ↓vk_ow, ↓rvk_val, ↓rvk_ow, ↓Ok_retV, ↓augk_val, ↓Ok_augk, ↓nk_i, ↓Ok_setIx, ↓ixk_0, ↓ixk_1, ↓ixk_2, ↓apk_ow, ↓owk_ow, ↓Ok_app, ↓ak_n, ↓ak_d, ↓ak_b, ↓gk_n, ↓gk_l, ↓gk_r, ↓zk_n, ↓zk_l, ↓zk_r, ↓sgm_z, ↓sgm_s, ↓mk2_v, ↓mk2_o, ↓ik_z, ↓ik_n, ↓ik_s, ↓uk_z, ↓uk_s, ↓rtk_rt, ↓rtk_nx, ↓nok_n, ↓nok_v, ↓nok_o,
  ↓afk_nx, ↓afk_ct, ↓afk_bk, ↓afk_rt, ↓dk_l, ↓dk_t, ↓Ok_evPn, ↓Ok_evPs, ↓Ok_cutek, ↓Ok_cutv, ↓op_cutL, ↓op_cutT, ↓Ok_wSeq, ↓rk_i, ↓Ok_wRng1, ↓Ok_wRng2, ↓Ok_wEnum, ↓Ok_wZip2, ↓Ok_wZip3, ↓Ok_wN, ↓wk_n, ↓wk_c, ↓op_isB, ↓op_isNB, ↓dkk_d, ↓vk_dki, ↓lkk_s, ↓Ok_newK, ↓Ok_dlen, ↓Ok_dsorted, ↓Ok_dget, ↓Ok_dgetD, ↓Ok_dput,
  okArg_v, okArg_o, ↓Ok_tYes, nc_0, nc_1, nc_2, nc_3, nc_4, not_true_eq_false, not_false_eq_true, isN, List.length_cons, List.length_nil, Nat.zero_add, Nat.reduceAdd, List.mem_cons, List.not_mem_nil, decide_eq_true_eq, Bool.not_eq_true', decide_eq_false_iff_not, Bool.not_true, Bool.not_false, Bool.false_eq_true, if_true, if_false, true_and, and_true, or_false, or_true, true_or, reduceCtorEq, Nat.reduceEqDiff, and_self, decide_true, decide_false, Int.reduceLT, Int.reduceLE, Int.reduceEq, Int.reduceToNat, Int.reducePow, Int.reduceAdd, Int.reduceSub, Int.reduceMul, Int.reduceNeg, Int.reduceMod, Int.reduceDiv, Nat.reduceLeDiff, Nat.reduceLT, false_or, or_self, and_false, false_and]
  have hs := made hl
  generalize srtP (dctP (md sm)) = s at hs ⊢
  refine Rt_mono (pick_spec (l := 100000000) hd (by decide) (by decide) (by decide)) ?_
  rintro _ _ ⟨d, es, rfl, rfl, d0, d1, hd⟩
  simp -implicitDefEqProofs only [if_true, ↓Ok_ok, ↓Ok_bind, ↓Ok_seq, ↓thenS_nx, ↓thenS_rt, ↓thenS_bk, ↓thenS_ct, ↓Ok_sIf, ↓Ok_pass, ↓Ok_ret, ↓Ok_setk, ↓Ok_park, ↓Ok_par3k, ↓Ok_drop, ↓Ok_for, ↓Ok_while, ↓Ok_unpk, ↓Ok_callk, ↓Ok_tryC, ↓Tr_x, ↓Tr_r, ↓nmk_s, ↓muk_n, ↓muk_c, ↓mu2_s, ↓mu2_v, ↓mu2_o, ↓zrk_n, ↓zrk_c, ↓rs_h, ↓rs_v, ↓rs_o, hd_v, hd_o, hd_u, mh_n, mh_c, ↓Rt_fnk,
  ↓sg_z, ↓sg_s, ↓sw_z, ↓sw_s, ↓td_val, ↓td_ow, ↓Ok_eLit, ↓kp_val, ↓kp_ow, ↓Ok_eV, ↓Ok_op1e, ↓Ok_op1v, ↓Ok_op2ee, ↓Ok_op2ve, ↓Ok_op2ev, ↓Ok_op2vv, ↓op_add, ↓op_addL, ↓op_addT, ↓op_addI, ↓op_subI, ↓op_addB, ↓op_subB, ↓op_sub, ↓op_mul, ↓op_mod, ↓op_div, ↓op_pow, ↓op_lt, ↓op_le, ↓op_gt, ↓op_ge, ↓op_eqI, ↓op_neI, ↓op_neg, ↓op_isN, ↓op_notN, ↓op_lenL, ↓op_lenT,
  ↓op_isi_i, ↓op_isi_b, ↓op_isi_l, ↓op_isi_t, ↓op_isi_n, ↓op_isi_s, ↓op_abs, ↓op_max2, ↓op_min2, ↓op_tupL, ↓op_tupT, ↓op_lstL, ↓op_lstT, ↓ix_0, ↓ix_1, ↓ix_2, ↓ix_3, ↓tx_0, ↓tx_1, ↓tx_2, ↓tx_3, ↓Ok_datum, ↓Ok_evL0, ↓Ok_evLc, ↓Ok_eTup, ↓Ok_eLst, ↓bk_b, ↓Ok_tB, ↓Ok_eB, ↓Ok_tNot, ↓Ok_tAnd, ↓Ok_tOr, ↓Ok_eAnd, ↓Ok_eOr, ↓Ok_eIf, ↓fk_i, ↓fk_b, ↓fk_n, ↓Ok_evSe, ↓Ok_evSv, ↓ck2_b, ↓Ok_eChain,
  ↓pk_n, ↓pk_t, ↓pk_l, ↓pks_n, ↓pks_c, ↓vk_val, ↓vk_ow, ↓rvk_val, ↓rvk_ow, ↓Ok_retV, ↓augk_val, ↓Ok_augk, ↓nk_i, ↓Ok_setIx, ↓ixk_0, ↓ixk_1, ↓ixk_2, ↓apk_ow, ↓owk_ow, ↓Ok_app, ↓ak_n, ↓ak_d, ↓ak_b, ↓gk_n, ↓gk_l, ↓gk_r, ↓zk_n, ↓zk_l, ↓zk_r, ↓sgm_z, ↓sgm_s, ↓mk2_v, ↓mk2_o, ↓ik_z, ↓ik_n, ↓ik_s, ↓uk_z, ↓uk_s, ↓rtk_rt, ↓rtk_nx, ↓nok_n, ↓nok_v, ↓nok_o,
  ↓afk_nx, ↓afk_ct, ↓afk_bk, ↓afk_rt, ↓dk_l, ↓dk_t, ↓Ok_evPn, ↓Ok_evPs, ↓Ok_cutek, ↓Ok_cutv, ↓op_cutL, ↓op_cutT, ↓Ok_wSeq, ↓rk_i, ↓Ok_wRng1, ↓Ok_wRng2, ↓Ok_wEnum, ↓Ok_wZip2, ↓Ok_wZip3, ↓Ok_wN, ↓wk_n, ↓wk_c, ↓op_isB, ↓op_isNB, ↓dkk_d, ↓vk_dki, ↓lkk_s, ↓Ok_newK, ↓Ok_dlen, ↓Ok_dsorted, ↓Ok_dget, ↓Ok_dgetD, ↓Ok_dput,
  okArg_v, okArg_o, ↓Ok_tYes, nc_0, nc_1, nc_2, nc_3, nc_4, not_true_eq_false, not_false_eq_true, isN, List.length_cons, List.length_nil, Nat.zero_add, Nat.reduceAdd, List.mem_cons, List.not_mem_nil, decide_eq_true_eq, Bool.not_eq_true', decide_eq_false_iff_not, Bool.not_true, Bool.not_false, Bool.false_eq_true, if_true, if_false, true_and, and_true, or_false, or_true, true_or, reduceCtorEq, Nat.reduceEqDiff, and_self, decide_true, decide_false, Int.reduceLT, Int.reduceLE, Int.reduceEq, Int.reduceToNat, Int.reducePow, Int.reduceAdd, Int.reduceSub, Int.reduceMul, Int.reduceNeg, Int.reduceMod, Int.reduceDiv, Nat.reduceLeDiff, Nat.reduceLT, false_or, or_self, and_false, false_and]
  refine Rt_mono (pick_spec (l := 100) hd (by decide) (by decide) (by decide)) ?_
  rintro _ _ ⟨r, es, rfl, rfl, r0, r1, hd⟩
  simp -implicitDefEqProofs only [if_true, ↓Ok_ok, ↓Ok_bind, ↓Ok_seq, ↓thenS_nx, ↓thenS_rt, ↓thenS_bk, ↓thenS_ct, ↓Ok_sIf, ↓Ok_pass, ↓Ok_ret, ↓Ok_setk, ↓Ok_park, ↓Ok_par3k, ↓Ok_drop, ↓Ok_for, ↓Ok_while, ↓Ok_unpk, ↓Ok_callk, ↓Ok_tryC, ↓Tr_x, ↓Tr_r, ↓nmk_s, ↓muk_n, ↓muk_c, ↓mu2_s, ↓mu2_v, ↓mu2_o, ↓zrk_n, ↓zrk_c, ↓rs_h, ↓rs_v, ↓rs_o, hd_v, hd_o, hd_u, mh_n, mh_c, ↓Rt_fnk,
  ↓sg_z, ↓sg_s, ↓sw_z, ↓sw_s, ↓td_val, ↓td_ow, ↓Ok_eLit, ↓kp_val, ↓kp_ow, ↓Ok_eV, ↓Ok_op1e, ↓Ok_op1v, ↓Ok_op2ee, ↓Ok_op2ve, ↓Ok_op2ev, ↓Ok_op2vv, ↓op_add, ↓op_addL, ↓op_addT, ↓op_addI, ↓op_subI, ↓op_addB, ↓op_subB, ↓op_sub, ↓op_mul, ↓op_mod, ↓op_div, ↓op_pow, ↓op_lt, ↓op_le, ↓op_gt, ↓op_ge, ↓op_eqI, ↓op_neI, ↓op_neg, ↓op_isN, ↓op_notN, ↓op_lenL, ↓op_lenT,
  ↓op_isi_i, ↓op_isi_b, ↓op_isi_l, ↓op_isi_t, ↓op_isi_n, ↓op_isi_s, ↓op_abs, ↓op_max2, ↓op_min2, ↓op_tupL, ↓op_tupT, ↓op_lstL, ↓op_lstT, ↓ix_0, ↓ix_1, ↓ix_2, ↓ix_3, ↓tx_0, ↓tx_1, ↓tx_2, ↓tx_3, ↓Ok_datum, ↓Ok_evL0, ↓Ok_evLc, ↓Ok_eTup, ↓Ok_eLst, ↓bk_b, ↓Ok_tB, ↓Ok_eB, ↓Ok_tNot, ↓Ok_tAnd, ↓Ok_tOr, ↓Ok_eAnd, ↓Ok_eOr, ↓Ok_eIf, ↓fk_i, ↓fk_b, ↓fk_n, ↓Ok_evSe, ↓Ok_evSv, ↓ck2_b, ↓Ok_eChain,
  ↓pk_n, ↓pk_t, ↓pk_l, ↓pks_n, ↓pks_c, ↓vk_val, ↓vk_ow, ↓rvk_val, ↓rvk_ow, ↓Ok_retV, ↓augk_val, ↓Ok_augk, ↓nk_i, ↓Ok_setIx, ↓ixk_0, ↓ixk_1, ↓ixk_2, ↓apk_ow, ↓owk_ow, ↓Ok_app, ↓ak_n, ↓ak_d, ↓ak_b, ↓gk_n, ↓gk_l, ↓gk_r, ↓zk_n, ↓zk_l, ↓zk_r, ↓sgm_z, ↓sgm_s, ↓mk2_v, ↓mk2_o, ↓ik_z, ↓ik_n, ↓ik_s, ↓uk_z, ↓uk_s, ↓rtk_rt, ↓rtk_nx, ↓nok_n, ↓nok_v, ↓nok_o,
  ↓afk_nx, ↓afk_ct, ↓afk_bk, ↓afk_rt, ↓dk_l, ↓dk_t, ↓Ok_evPn, ↓Ok_evPs, ↓Ok_cutek, ↓Ok_cutv, ↓op_cutL, ↓op_cutT, ↓Ok_wSeq, ↓rk_i, ↓Ok_wRng1, ↓Ok_wRng2, ↓Ok_wEnum, ↓Ok_wZip2, ↓Ok_wZip3, ↓Ok_wN, ↓wk_n, ↓wk_c, ↓op_isB, ↓op_isNB, ↓dkk_d, ↓vk_dki, ↓lkk_s, ↓Ok_newK, ↓Ok_dlen, ↓Ok_dsorted, ↓Ok_dget, ↓Ok_dgetD, ↓Ok_dput,
  okArg_v, okArg_o, ↓Ok_tYes, nc_0, nc_1, nc_2, nc_3, nc_4, not_true_eq_false, not_false_eq_true, isN, List.length_cons, List.length_nil, Nat.zero_add, Nat.reduceAdd, List.mem_cons, List.not_mem_nil, decide_eq_true_eq, Bool.not_eq_true', decide_eq_false_iff_not, Bool.not_true, Bool.not_false, Bool.false_eq_true, if_true, if_false, true_and, and_true, or_false, or_true, true_or, reduceCtorEq, Nat.reduceEqDiff, and_self, decide_true, decide_false, Int.reduceLT, Int.reduceLE, Int.reduceEq, Int.reduceToNat, Int.reducePow, Int.reduceAdd, Int.reduceSub, Int.reduceMul, Int.reduceNeg, Int.reduceMod, Int.reduceDiv, Nat.reduceLeDiff, Nat.reduceLT, false_or, or_self, and_false, false_and]
  have f0 : 0 < 1 + r := by omega
  have f1 : 1 + r ≤ 100 := by omega
  generalize 1 + r = f at f0 f1 ⊢
  have l20 := hs.1
  have g0 := hs.sm
  have gm := hs.mv d0 (show d ≤ 100000000 by omega)
  have gs := hs.scl f0 f1
  have lm : (mv s d).length = s.length := by unfold mv; rw [List.length_map]
  have fb : (-18446744073709551616 < f ∧ f < 18446744073709551616) = True := eq_true ⟨by omega, by omega⟩
  refine Ok_lcM s pqD (fun q => pqD (q.1 + d, q.2)) ?_
  simp -implicitDefEqProofs only [↓eW_pq, ↓sxk_x, ↓Ok_ok, ↓Ok_bind, ↓Ok_seq, ↓thenS_nx, ↓thenS_rt, ↓thenS_bk, ↓thenS_ct, ↓Ok_sIf, ↓Ok_pass, ↓Ok_ret, ↓Ok_setk, ↓Ok_park, ↓Ok_par3k, ↓Ok_drop, ↓Ok_for, ↓Ok_while, ↓Ok_unpk, ↓Ok_callk, ↓Ok_tryC, ↓Tr_x, ↓Tr_r, ↓nmk_s, ↓muk_n, ↓muk_c, ↓mu2_s, ↓mu2_v, ↓mu2_o, ↓zrk_n, ↓zrk_c, ↓rs_h, ↓rs_v, ↓rs_o, hd_v, hd_o, hd_u, mh_n, mh_c, ↓Rt_fnk,
  ↓sg_z, ↓sg_s, ↓sw_z, ↓sw_s, ↓td_val, ↓td_ow, ↓Ok_eLit, ↓kp_val, ↓kp_ow, ↓Ok_eV, ↓Ok_op1e, ↓Ok_op1v, ↓Ok_op2ee, ↓Ok_op2ve, ↓Ok_op2ev, ↓Ok_op2vv, ↓op_add, ↓op_addL, ↓op_addT, ↓op_addI, ↓op_subI, ↓op_addB, ↓op_subB, ↓op_sub, ↓op_mul, ↓op_mod, ↓op_div, ↓op_pow, ↓op_lt, ↓op_le, ↓op_gt, ↓op_ge, ↓op_eqI, ↓op_neI, ↓op_neg, ↓op_isN, ↓op_notN, ↓op_lenL, ↓op_lenT,
  ↓op_isi_i, ↓op_isi_b, ↓op_isi_l, ↓op_isi_t, ↓op_isi_n, ↓op_isi_s, ↓op_abs, ↓op_max2, ↓op_min2, ↓op_tupL, ↓op_tupT, ↓op_lstL, ↓op_lstT, ↓ix_0, ↓ix_1, ↓ix_2, ↓ix_3, ↓tx_0, ↓tx_1, ↓tx_2, ↓tx_3, ↓Ok_datum, ↓Ok_evL0, ↓Ok_evLc, ↓Ok_eTup, ↓Ok_eLst, ↓bk_b, ↓Ok_tB, ↓Ok_eB, ↓Ok_tNot, ↓Ok_tAnd, ↓Ok_tOr, ↓Ok_eAnd, ↓Ok_eOr, ↓Ok_eIf, ↓fk_i, ↓fk_b, ↓fk_n, ↓Ok_evSe, ↓Ok_evSv, ↓ck2_b, ↓Ok_eChain,
  ↓pk_n, ↓pk_t, ↓pk_l, ↓pks_n, ↓pks_c, ↓vk_val, ↓vk_ow, ↓rvk_val, ↓rvk_ow, ↓Ok_retV, ↓augk_val, ↓Ok_augk, ↓nk_i, ↓Ok_setIx, ↓ixk_0, ↓ixk_1, ↓ixk_2, ↓apk_ow, ↓owk_ow, ↓Ok_app, ↓ak_n, ↓ak_d, ↓ak_b, ↓gk_n, ↓gk_l, ↓gk_r, ↓zk_n, ↓zk_l, ↓zk_r, ↓sgm_z, ↓sgm_s, ↓mk2_v, ↓mk2_o, ↓ik_z, ↓ik_n, ↓ik_s, ↓uk_z, ↓uk_s, ↓rtk_rt, ↓rtk_nx, ↓nok_n, ↓nok_v, ↓nok_o,
  ↓afk_nx, ↓afk_ct, ↓afk_bk, ↓afk_rt, ↓dk_l, ↓dk_t, ↓Ok_evPn, ↓Ok_evPs, ↓Ok_cutek, ↓Ok_cutv, ↓op_cutL, ↓op_cutT, ↓Ok_wSeq, ↓rk_i, ↓Ok_wRng1, ↓Ok_wRng2, ↓Ok_wEnum, ↓Ok_wZip2, ↓Ok_wZip3, ↓Ok_wN, ↓wk_n, ↓wk_c, ↓op_isB, ↓op_isNB, ↓dkk_d, ↓vk_dki, ↓lkk_s, ↓Ok_newK, ↓Ok_dlen, ↓Ok_dsorted, ↓Ok_dget, ↓Ok_dgetD, ↓Ok_dput,
  okArg_v, okArg_o, ↓Ok_tYes, nc_0, nc_1, nc_2, nc_3, nc_4, not_true_eq_false, not_false_eq_true, isN, List.length_cons, List.length_nil, Nat.zero_add, Nat.reduceAdd, List.mem_cons, List.not_mem_nil, decide_eq_true_eq, Bool.not_eq_true', decide_eq_false_iff_not, Bool.not_true, Bool.not_false, Bool.false_eq_true, if_true, if_false, true_and, and_true, or_false, or_true, true_or, reduceCtorEq, Nat.reduceEqDiff, and_self, decide_true, decide_false, Int.reduceLT, Int.reduceLE, Int.reduceEq, Int.reduceToNat, Int.reducePow, Int.reduceAdd, Int.reduceSub, Int.reduceMul, Int.reduceNeg, Int.reduceMod, Int.reduceDiv, Nat.reduceLeDiff, Nat.reduceLT, false_or, or_self, and_false, false_and]
  refine ⟨⟨ckT_eq.mpr trivial, fun q hq => ?_⟩, ?_⟩
  · unfold itemm pqD
    simp -implicitDefEqProofs only [if_true, ↓Ok_ok, ↓Ok_bind, ↓Ok_seq, ↓thenS_nx, ↓thenS_rt, ↓thenS_bk, ↓thenS_ct, ↓Ok_sIf, ↓Ok_pass, ↓Ok_ret, ↓Ok_setk, ↓Ok_park, ↓Ok_par3k, ↓Ok_drop, ↓Ok_for, ↓Ok_while, ↓Ok_unpk, ↓Ok_callk, ↓Ok_tryC, ↓Tr_x, ↓Tr_r, ↓nmk_s, ↓muk_n, ↓muk_c, ↓mu2_s, ↓mu2_v, ↓mu2_o, ↓zrk_n, ↓zrk_c, ↓rs_h, ↓rs_v, ↓rs_o, hd_v, hd_o, hd_u, mh_n, mh_c, ↓Rt_fnk,
  ↓sg_z, ↓sg_s, ↓sw_z, ↓sw_s, ↓td_val, ↓td_ow, ↓Ok_eLit, ↓kp_val, ↓kp_ow, ↓Ok_eV, ↓Ok_op1e, ↓Ok_op1v, ↓Ok_op2ee, ↓Ok_op2ve, ↓Ok_op2ev, ↓Ok_op2vv, ↓op_add, ↓op_addL, ↓op_addT, ↓op_addI, ↓op_subI, ↓op_addB, ↓op_subB, ↓op_sub, ↓op_mul, ↓op_mod, ↓op_div, ↓op_pow, ↓op_lt, ↓op_le, ↓op_gt, ↓op_ge, ↓op_eqI, ↓op_neI, ↓op_neg, ↓op_isN, ↓op_notN, ↓op_lenL, ↓op_lenT,
  ↓op_isi_i, ↓op_isi_b, ↓op_isi_l, ↓op_isi_t, ↓op_isi_n, ↓op_isi_s, ↓op_abs, ↓op_max2, ↓op_min2, ↓op_tupL, ↓op_tupT, ↓op_lstL, ↓op_lstT, ↓ix_0, ↓ix_1, ↓ix_2, ↓ix_3, ↓tx_0, ↓tx_1, ↓tx_2, ↓tx_3, ↓Ok_datum, ↓Ok_evL0, ↓Ok_evLc, ↓Ok_eTup, ↓Ok_eLst, ↓bk_b, ↓Ok_tB, ↓Ok_eB, ↓Ok_tNot, ↓Ok_tAnd, ↓Ok_tOr, ↓Ok_eAnd, ↓Ok_eOr, ↓Ok_eIf, ↓fk_i, ↓fk_b, ↓fk_n, ↓Ok_evSe, ↓Ok_evSv, ↓ck2_b, ↓Ok_eChain,
  ↓pk_n, ↓pk_t, ↓pk_l, ↓pks_n, ↓pks_c, ↓vk_val, ↓vk_ow, ↓rvk_val, ↓rvk_ow, ↓Ok_retV, ↓augk_val, ↓Ok_augk, ↓nk_i, ↓Ok_setIx, ↓ixk_0, ↓ixk_1, ↓ixk_2, ↓apk_ow, ↓owk_ow, ↓Ok_app, ↓ak_n, ↓ak_d, ↓ak_b, ↓gk_n, ↓gk_l, ↓gk_r, ↓zk_n, ↓zk_l, ↓zk_r, ↓sgm_z, ↓sgm_s, ↓mk2_v, ↓mk2_o, ↓ik_z, ↓ik_n, ↓ik_s, ↓uk_z, ↓uk_s, ↓rtk_rt, ↓rtk_nx, ↓nok_n, ↓nok_v, ↓nok_o,
  ↓afk_nx, ↓afk_ct, ↓afk_bk, ↓afk_rt, ↓dk_l, ↓dk_t, ↓Ok_evPn, ↓Ok_evPs, ↓Ok_cutek, ↓Ok_cutv, ↓op_cutL, ↓op_cutT, ↓Ok_wSeq, ↓rk_i, ↓Ok_wRng1, ↓Ok_wRng2, ↓Ok_wEnum, ↓Ok_wZip2, ↓Ok_wZip3, ↓Ok_wN, ↓wk_n, ↓wk_c, ↓op_isB, ↓op_isNB, ↓dkk_d, ↓vk_dki, ↓lkk_s, ↓Ok_newK, ↓Ok_dlen, ↓Ok_dsorted, ↓Ok_dget, ↓Ok_dgetD, ↓Ok_dput,
  okArg_v, okArg_o, ↓Ok_tYes, nc_0, nc_1, nc_2, nc_3, nc_4, not_true_eq_false, not_false_eq_true, isN, List.length_cons, List.length_nil, Nat.zero_add, Nat.reduceAdd, List.mem_cons, List.not_mem_nil, decide_eq_true_eq, Bool.not_eq_true', decide_eq_false_iff_not, Bool.not_true, Bool.not_false, Bool.false_eq_true, if_true, if_false, true_and, and_true, or_false, or_true, true_or, reduceCtorEq, Nat.reduceEqDiff, and_self, decide_true, decide_false, Int.reduceLT, Int.reduceLE, Int.reduceEq, Int.reduceToNat, Int.reducePow, Int.reduceAdd, Int.reduceSub, Int.reduceMul, Int.reduceNeg, Int.reduceMod, Int.reduceDiv, Nat.reduceLeDiff, Nat.reduceLT, false_or, or_self, and_false, false_and]
  rw [show (s.map fun q => pqD (q.1 + d, q.2)) = (mv s d).map pqD by unfold mv; rw [List.map_map]; rfl]
  refine Ok_lcM s pqD (fun q => pqD (q.1, q.2 * f)) ?_
  simp -implicitDefEqProofs only [↓eW_pq, ↓sxk_x, ↓Ok_ok, ↓Ok_bind, ↓Ok_seq, ↓thenS_nx, ↓thenS_rt, ↓thenS_bk, ↓thenS_ct, ↓Ok_sIf, ↓Ok_pass, ↓Ok_ret, ↓Ok_setk, ↓Ok_park, ↓Ok_par3k, ↓Ok_drop, ↓Ok_for, ↓Ok_while, ↓Ok_unpk, ↓Ok_callk, ↓Ok_tryC, ↓Tr_x, ↓Tr_r, ↓nmk_s, ↓muk_n, ↓muk_c, ↓mu2_s, ↓mu2_v, ↓mu2_o, ↓zrk_n, ↓zrk_c, ↓rs_h, ↓rs_v, ↓rs_o, hd_v, hd_o, hd_u, mh_n, mh_c, ↓Rt_fnk,
  ↓sg_z, ↓sg_s, ↓sw_z, ↓sw_s, ↓td_val, ↓td_ow, ↓Ok_eLit, ↓kp_val, ↓kp_ow, ↓Ok_eV, ↓Ok_op1e, ↓Ok_op1v, ↓Ok_op2ee, ↓Ok_op2ve, ↓Ok_op2ev, ↓Ok_op2vv, ↓op_add, ↓op_addL, ↓op_addT, ↓op_addI, ↓op_subI, ↓op_addB, ↓op_subB, ↓op_sub, ↓op_mul, ↓op_mod, ↓op_div, ↓op_pow, ↓op_lt, ↓op_le, ↓op_gt, ↓op_ge, ↓op_eqI, ↓op_neI, ↓op_neg, ↓op_isN, ↓op_notN, ↓op_lenL, ↓op_lenT,
  ↓op_isi_i, ↓op_isi_b, ↓op_isi_l, ↓op_isi_t, ↓op_isi_n, ↓op_isi_s, ↓op_abs, ↓op_max2, ↓op_min2, ↓op_tupL, ↓op_tupT, ↓op_lstL, ↓op_lstT, ↓ix_0, ↓ix_1, ↓ix_2, ↓ix_3, ↓tx_0, ↓tx_1, ↓tx_2, ↓tx_3, ↓Ok_datum, ↓Ok_evL0, ↓Ok_evLc, ↓Ok_eTup, ↓Ok_eLst, ↓bk_b, ↓Ok_tB, ↓Ok_eB, ↓Ok_tNot, ↓Ok_tAnd, ↓Ok_tOr, ↓Ok_eAnd, ↓Ok_eOr, ↓Ok_eIf, ↓fk_i, ↓fk_b, ↓fk_n, ↓Ok_evSe, ↓Ok_evSv, ↓ck2_b, ↓Ok_eChain,
  ↓pk_n, ↓pk_t, ↓pk_l, ↓pks_n, ↓pks_c, ↓vk_val, ↓vk_ow, ↓rvk_val, ↓rvk_ow, ↓Ok_retV, ↓augk_val, ↓Ok_augk, ↓nk_i, ↓Ok_setIx, ↓ixk_0, ↓ixk_1, ↓ixk_2, ↓apk_ow, ↓owk_ow, ↓Ok_app, ↓ak_n, ↓ak_d, ↓ak_b, ↓gk_n, ↓gk_l, ↓gk_r, ↓zk_n, ↓zk_l, ↓zk_r, ↓sgm_z, ↓sgm_s, ↓mk2_v, ↓mk2_o, ↓ik_z, ↓ik_n, ↓ik_s, ↓uk_z, ↓uk_s, ↓rtk_rt, ↓rtk_nx, ↓nok_n, ↓nok_v, ↓nok_o,
  ↓afk_nx, ↓afk_ct, ↓afk_bk, ↓afk_rt, ↓dk_l, ↓dk_t, ↓Ok_evPn, ↓Ok_evPs, ↓Ok_cutek, ↓Ok_cutv, ↓op_cutL, ↓op_cutT, ↓Ok_wSeq, ↓rk_i, ↓Ok_wRng1, ↓Ok_wRng2, ↓Ok_wEnum, ↓Ok_wZip2, ↓Ok_wZip3, ↓Ok_wN, ↓wk_n, ↓wk_c, ↓op_isB, ↓op_isNB, ↓dkk_d, ↓vk_dki, ↓lkk_s, ↓Ok_newK, ↓Ok_dlen, ↓Ok_dsorted, ↓Ok_dget, ↓Ok_dgetD, ↓Ok_dput,
  okArg_v, okArg_o, ↓Ok_tYes, nc_0, nc_1, nc_2, nc_3, nc_4, not_true_eq_false, not_false_eq_true, isN, List.length_cons, List.length_nil, Nat.zero_add, Nat.reduceAdd, List.mem_cons, List.not_mem_nil, decide_eq_true_eq, Bool.not_eq_true', decide_eq_false_iff_not, Bool.not_true, Bool.not_false, Bool.false_eq_true, if_true, if_false, true_and, and_true, or_false, or_true, true_or, reduceCtorEq, Nat.reduceEqDiff, and_self, decide_true, decide_false, Int.reduceLT, Int.reduceLE, Int.reduceEq, Int.reduceToNat, Int.reducePow, Int.reduceAdd, Int.reduceSub, Int.reduceMul, Int.reduceNeg, Int.reduceMod, Int.reduceDiv, Nat.reduceLeDiff, Nat.reduceLT, false_or, or_self, and_false, false_and]
  refine ⟨⟨ckT_eq.mpr trivial, fun q hq => ?_⟩, ?_⟩
  · unfold itemm pqD
    simp -implicitDefEqProofs only [fb, or_true, true_and, ↓Ok_ok, ↓Ok_bind, ↓Ok_seq, ↓thenS_nx, ↓thenS_rt, ↓thenS_bk, ↓thenS_ct, ↓Ok_sIf, ↓Ok_pass, ↓Ok_ret, ↓Ok_setk, ↓Ok_park, ↓Ok_par3k, ↓Ok_drop, ↓Ok_for, ↓Ok_while, ↓Ok_unpk, ↓Ok_callk, ↓Ok_tryC, ↓Tr_x, ↓Tr_r, ↓nmk_s, ↓muk_n, ↓muk_c, ↓mu2_s, ↓mu2_v, ↓mu2_o, ↓zrk_n, ↓zrk_c, ↓rs_h, ↓rs_v, ↓rs_o, hd_v, hd_o, hd_u, mh_n, mh_c, ↓Rt_fnk,
  ↓sg_z, ↓sg_s, ↓sw_z, ↓sw_s, ↓td_val, ↓td_ow, ↓Ok_eLit, ↓kp_val, ↓kp_ow, ↓Ok_eV, ↓Ok_op1e, ↓Ok_op1v, ↓Ok_op2ee, ↓Ok_op2ve, ↓Ok_op2ev, ↓Ok_op2vv, ↓op_add, ↓op_addL, ↓op_addT, ↓op_addI, ↓op_subI, ↓op_addB, ↓op_subB, ↓op_sub, ↓op_mul, ↓op_mod, ↓op_div, ↓op_pow, ↓op_lt, ↓op_le, ↓op_gt, ↓op_ge, ↓op_eqI, ↓op_neI, ↓op_neg, ↓op_isN, ↓op_notN, ↓op_lenL, ↓op_lenT,
  ↓op_isi_i, ↓op_isi_b, ↓op_isi_l, ↓op_isi_t, ↓op_isi_n, ↓op_isi_s, ↓op_abs, ↓op_max2, ↓op_min2, ↓op_tupL, ↓op_tupT, ↓op_lstL, ↓op_lstT, ↓ix_0, ↓ix_1, ↓ix_2, ↓ix_3, ↓tx_0, ↓tx_1, ↓tx_2, ↓tx_3, ↓Ok_datum, ↓Ok_evL0, ↓Ok_evLc, ↓Ok_eTup, ↓Ok_eLst, ↓bk_b, ↓Ok_tB, ↓Ok_eB, ↓Ok_tNot, ↓Ok_tAnd, ↓Ok_tOr, ↓Ok_eAnd, ↓Ok_eOr, ↓Ok_eIf, ↓fk_i, ↓fk_b, ↓fk_n, ↓Ok_evSe, ↓Ok_evSv, ↓ck2_b, ↓Ok_eChain,
  ↓pk_n, ↓pk_t, ↓pk_l, ↓pks_n, ↓pks_c, ↓vk_val, ↓vk_ow, ↓rvk_val, ↓rvk_ow, ↓Ok_retV, ↓augk_val, ↓Ok_augk, ↓nk_i, ↓Ok_setIx, ↓ixk_0, ↓ixk_1, ↓ixk_2, ↓apk_ow, ↓owk_ow, ↓Ok_app, ↓ak_n, ↓ak_d, ↓ak_b, ↓gk_n, ↓gk_l, ↓gk_r, ↓zk_n, ↓zk_l, ↓zk_r, ↓sgm_z, ↓sgm_s, ↓mk2_v, ↓mk2_o, ↓ik_z, ↓ik_n, ↓ik_s, ↓uk_z, ↓uk_s, ↓rtk_rt, ↓rtk_nx, ↓nok_n, ↓nok_v, ↓nok_o,
  ↓afk_nx, ↓afk_ct, ↓afk_bk, ↓afk_rt, ↓dk_l, ↓dk_t, ↓Ok_evPn, ↓Ok_evPs, ↓Ok_cutek, ↓Ok_cutv, ↓op_cutL, ↓op_cutT, ↓Ok_wSeq, ↓rk_i, ↓Ok_wRng1, ↓Ok_wRng2, ↓Ok_wEnum, ↓Ok_wZip2, ↓Ok_wZip3, ↓Ok_wN, ↓wk_n, ↓wk_c, ↓op_isB, ↓op_isNB, ↓dkk_d, ↓vk_dki, ↓lkk_s, ↓Ok_newK, ↓Ok_dlen, ↓Ok_dsorted, ↓Ok_dget, ↓Ok_dgetD, ↓Ok_dput,
  okArg_v, okArg_o, ↓Ok_tYes, nc_0, nc_1, nc_2, nc_3, nc_4, not_true_eq_false, not_false_eq_true, isN, List.length_cons, List.length_nil, Nat.zero_add, Nat.reduceAdd, List.mem_cons, List.not_mem_nil, decide_eq_true_eq, Bool.not_eq_true', decide_eq_false_iff_not, Bool.not_true, Bool.not_false, Bool.false_eq_true, if_true, if_false, true_and, and_true, or_false, or_true, true_or, reduceCtorEq, Nat.reduceEqDiff, and_self, decide_true, decide_false, Int.reduceLT, Int.reduceLE, Int.reduceEq, Int.reduceToNat, Int.reducePow, Int.reduceAdd, Int.reduceSub, Int.reduceMul, Int.reduceNeg, Int.reduceMod, Int.reduceDiv, Nat.reduceLeDiff, Nat.reduceLT, false_or, or_self, and_false, false_and]
  rw [show (s.map fun q => pqD (q.1, q.2 * f)) = (scl s f).map pqD by unfold scl; rw [List.map_map]; rfl]
  have a1 := fun Q => steps_rt gm Q
  have a2 := fun Q => steps_rt g0 Q
  rw [vals_mv] at a1
  have b1 := fun Q => falls_rt gs Q
  have b2 := fun Q => falls_rt g0 Q
  simp only [dnI_map, vals_scl] at b1
  rw [show dnI ((vals s).map (· * f)) = dnI (vals s) by unfold dnI; rw [dns_scl f0]] at b1
  simp only [dnI_map] at b2
  have c1 := fun Q => estimate_rt gs Q
  rw [est_scl f0, Int.mul_comm] at c1
  have c2 := fun Q => estimate_rt gm Q
  rw [est_mv] at c2
  have c3 := fun Q => estimate_rt g0 Q
  have k1 := fun Q => kept_rt gm Q
  rw [kc_mv] at k1
  have k2 := fun Q => kept_rt gs Q
  rw [kc_scl s f0] at k2
  have k3 := fun Q => kept_rt g0 Q
  have w1 : ∀ Q, Rt (F_window_estimates [.val (smD (mv s d)), .val (.int 50)]) Q = Q (.ow (((List.range s.length).map fun k => est (win s k 50)).map PyData.int)) [.val (smD (mv s d)), .val (.int 50)] := fun Q => by
    rw [window_rt gm (by omega) (by omega), lm]
    rw [show (List.range s.length).map (fun k => est (win (mv s d) k 50)) = (List.range s.length).map fun k => est (win s k 50) from List.map_congr_left fun k hk => by rw [win_mv s d (List.mem_range.mp hk), est_mv]]
  have w2 := fun Q => window_rt g0 (L := 50) (by omega) (by omega) Q
  have r1 : ∀ Q, Rt (F_restart_statuses [.val (smD (scl s f)), .val (.int (9 * f))]) Q = Q (.ow (((gps s).map fun q => stat q 9).map PyData.str)) [.val (smD (scl s f)), .val (.int (9 * f))] := fun Q => by
    rw [restart_rt gs (by omega) (by omega), gps_scl]
    rw [show ((gps s).map fun q => (q.1, q.2.1 * f, q.2.2 * f)).map (fun q => stat q (9 * f)) = (gps s).map fun q => stat q 9 by
      rw [List.map_map]
      exact List.map_congr_left fun q _ => stat_scl q f0 9]
  have r2 := fun Q => restart_rt g0 (r := 9) (by omega) (by omega) Q
  have n4 : ∀ (a b : Int) k, op2 dNe (.tuple [.int a, .int b]) (.tuple [.int a, .int b]) k = k (.val (.bool false)) := fun a b k => op_ne_same rfl
  simp -implicitDefEqProofs only [↓eW_pq, ↓sxk_x, ↓a1, ↓a2, ↓b1, ↓b2, ↓c1, ↓c2, ↓c3, ↓k1, ↓k2, ↓k3, ↓n4, ↓op_ne_same (shaped_is _), fb, true_or, true_and, List.length_map, ↓Ok_ok, ↓Ok_bind, ↓Ok_seq, ↓thenS_nx, ↓thenS_rt, ↓thenS_bk, ↓thenS_ct, ↓Ok_sIf, ↓Ok_pass, ↓Ok_ret, ↓Ok_setk, ↓Ok_park, ↓Ok_par3k, ↓Ok_drop, ↓Ok_for, ↓Ok_while, ↓Ok_unpk, ↓Ok_callk, ↓Ok_tryC, ↓Tr_x, ↓Tr_r, ↓nmk_s, ↓muk_n, ↓muk_c, ↓mu2_s, ↓mu2_v, ↓mu2_o, ↓zrk_n, ↓zrk_c, ↓rs_h, ↓rs_v, ↓rs_o, hd_v, hd_o, hd_u, mh_n, mh_c, ↓Rt_fnk,
  ↓sg_z, ↓sg_s, ↓sw_z, ↓sw_s, ↓td_val, ↓td_ow, ↓Ok_eLit, ↓kp_val, ↓kp_ow, ↓Ok_eV, ↓Ok_op1e, ↓Ok_op1v, ↓Ok_op2ee, ↓Ok_op2ve, ↓Ok_op2ev, ↓Ok_op2vv, ↓op_add, ↓op_addL, ↓op_addT, ↓op_addI, ↓op_subI, ↓op_addB, ↓op_subB, ↓op_sub, ↓op_mul, ↓op_mod, ↓op_div, ↓op_pow, ↓op_lt, ↓op_le, ↓op_gt, ↓op_ge, ↓op_eqI, ↓op_neI, ↓op_neg, ↓op_isN, ↓op_notN, ↓op_lenL, ↓op_lenT,
  ↓op_isi_i, ↓op_isi_b, ↓op_isi_l, ↓op_isi_t, ↓op_isi_n, ↓op_isi_s, ↓op_abs, ↓op_max2, ↓op_min2, ↓op_tupL, ↓op_tupT, ↓op_lstL, ↓op_lstT, ↓ix_0, ↓ix_1, ↓ix_2, ↓ix_3, ↓tx_0, ↓tx_1, ↓tx_2, ↓tx_3, ↓Ok_datum, ↓Ok_evL0, ↓Ok_evLc, ↓Ok_eTup, ↓Ok_eLst, ↓bk_b, ↓Ok_tB, ↓Ok_eB, ↓Ok_tNot, ↓Ok_tAnd, ↓Ok_tOr, ↓Ok_eAnd, ↓Ok_eOr, ↓Ok_eIf, ↓fk_i, ↓fk_b, ↓fk_n, ↓Ok_evSe, ↓Ok_evSv, ↓ck2_b, ↓Ok_eChain,
  ↓pk_n, ↓pk_t, ↓pk_l, ↓pks_n, ↓pks_c, ↓vk_val, ↓vk_ow, ↓rvk_val, ↓rvk_ow, ↓Ok_retV, ↓augk_val, ↓Ok_augk, ↓nk_i, ↓Ok_setIx, ↓ixk_0, ↓ixk_1, ↓ixk_2, ↓apk_ow, ↓owk_ow, ↓Ok_app, ↓ak_n, ↓ak_d, ↓ak_b, ↓gk_n, ↓gk_l, ↓gk_r, ↓zk_n, ↓zk_l, ↓zk_r, ↓sgm_z, ↓sgm_s, ↓mk2_v, ↓mk2_o, ↓ik_z, ↓ik_n, ↓ik_s, ↓uk_z, ↓uk_s, ↓rtk_rt, ↓rtk_nx, ↓nok_n, ↓nok_v, ↓nok_o,
  ↓afk_nx, ↓afk_ct, ↓afk_bk, ↓afk_rt, ↓dk_l, ↓dk_t, ↓Ok_evPn, ↓Ok_evPs, ↓Ok_cutek, ↓Ok_cutv, ↓op_cutL, ↓op_cutT, ↓Ok_wSeq, ↓rk_i, ↓Ok_wRng1, ↓Ok_wRng2, ↓Ok_wEnum, ↓Ok_wZip2, ↓Ok_wZip3, ↓Ok_wN, ↓wk_n, ↓wk_c, ↓op_isB, ↓op_isNB, ↓dkk_d, ↓vk_dki, ↓lkk_s, ↓Ok_newK, ↓Ok_dlen, ↓Ok_dsorted, ↓Ok_dget, ↓Ok_dgetD, ↓Ok_dput,
  okArg_v, okArg_o, ↓Ok_tYes, nc_0, nc_1, nc_2, nc_3, nc_4, not_true_eq_false, not_false_eq_true, isN, List.length_cons, List.length_nil, Nat.zero_add, Nat.reduceAdd, List.mem_cons, List.not_mem_nil, decide_eq_true_eq, Bool.not_eq_true', decide_eq_false_iff_not, Bool.not_true, Bool.not_false, Bool.false_eq_true, if_true, if_false, true_and, and_true, or_false, or_true, true_or, reduceCtorEq, Nat.reduceEqDiff, and_self, decide_true, decide_false, Int.reduceLT, Int.reduceLE, Int.reduceEq, Int.reduceToNat, Int.reducePow, Int.reduceAdd, Int.reduceSub, Int.reduceMul, Int.reduceNeg, Int.reduceMod, Int.reduceDiv, Nat.reduceLeDiff, Nat.reduceLT, false_or, or_self, and_false, false_and]
  refine ⟨by omega, ?_⟩
  rw [numsD_map, show ((s.length : Int) - 0).toNat = s.length by omega]
  refine for_ty (List.range s.length) (fun k : Nat => .int (0 + (k : Int))) (fun pre S => ∃ y10, S = [s0, .val (.int c), .ow es, x3, x4, .val (sx s), .val (.int d), .val (.int f), .val (smD (mv s d)), .val (smD (scl s f)), y10, x11, x12])
    (fun S ⟨y10, hS⟩ => ?en) (fun pre k post S hx ⟨y10, hS⟩ => ?st) _ ⟨_, rfl⟩
  case st =>
    subst hS
    have hk : k < s.length := List.mem_range.mp (by rw [hx]; simp)
    simp -implicitDefEqProofs only [Int.zero_add, ↓Ok_ok, ↓Ok_bind, ↓Ok_seq, ↓thenS_nx, ↓thenS_rt, ↓thenS_bk, ↓thenS_ct, ↓Ok_sIf, ↓Ok_pass, ↓Ok_ret, ↓Ok_setk, ↓Ok_park, ↓Ok_par3k, ↓Ok_drop, ↓Ok_for, ↓Ok_while, ↓Ok_unpk, ↓Ok_callk, ↓Ok_tryC, ↓Tr_x, ↓Tr_r, ↓nmk_s, ↓muk_n, ↓muk_c, ↓mu2_s, ↓mu2_v, ↓mu2_o, ↓zrk_n, ↓zrk_c, ↓rs_h, ↓rs_v, ↓rs_o, hd_v, hd_o, hd_u, mh_n, mh_c, ↓Rt_fnk,
  ↓sg_z, ↓sg_s, ↓sw_z, ↓sw_s, ↓td_val, ↓td_ow, ↓Ok_eLit, ↓kp_val, ↓kp_ow, ↓Ok_eV, ↓Ok_op1e, ↓Ok_op1v, ↓Ok_op2ee, ↓Ok_op2ve, ↓Ok_op2ev, ↓Ok_op2vv, ↓op_add, ↓op_addL, ↓op_addT, ↓op_addI, ↓op_subI, ↓op_addB, ↓op_subB, ↓op_sub, ↓op_mul, ↓op_mod, ↓op_div, ↓op_pow, ↓op_lt, ↓op_le, ↓op_gt, ↓op_ge, ↓op_eqI, ↓op_neI, ↓op_neg, ↓op_isN, ↓op_notN, ↓op_lenL, ↓op_lenT,
  ↓op_isi_i, ↓op_isi_b, ↓op_isi_l, ↓op_isi_t, ↓op_isi_n, ↓op_isi_s, ↓op_abs, ↓op_max2, ↓op_min2, ↓op_tupL, ↓op_tupT, ↓op_lstL, ↓op_lstT, ↓ix_0, ↓ix_1, ↓ix_2, ↓ix_3, ↓tx_0, ↓tx_1, ↓tx_2, ↓tx_3, ↓Ok_datum, ↓Ok_evL0, ↓Ok_evLc, ↓Ok_eTup, ↓Ok_eLst, ↓bk_b, ↓Ok_tB, ↓Ok_eB, ↓Ok_tNot, ↓Ok_tAnd, ↓Ok_tOr, ↓Ok_eAnd, ↓Ok_eOr, ↓Ok_eIf, ↓fk_i, ↓fk_b, ↓fk_n, ↓Ok_evSe, ↓Ok_evSv, ↓ck2_b, ↓Ok_eChain,
  ↓pk_n, ↓pk_t, ↓pk_l, ↓pks_n, ↓pks_c, ↓vk_val, ↓vk_ow, ↓rvk_val, ↓rvk_ow, ↓Ok_retV, ↓augk_val, ↓Ok_augk, ↓nk_i, ↓Ok_setIx, ↓ixk_0, ↓ixk_1, ↓ixk_2, ↓apk_ow, ↓owk_ow, ↓Ok_app, ↓ak_n, ↓ak_d, ↓ak_b, ↓gk_n, ↓gk_l, ↓gk_r, ↓zk_n, ↓zk_l, ↓zk_r, ↓sgm_z, ↓sgm_s, ↓mk2_v, ↓mk2_o, ↓ik_z, ↓ik_n, ↓ik_s, ↓uk_z, ↓uk_s, ↓rtk_rt, ↓rtk_nx, ↓nok_n, ↓nok_v, ↓nok_o,
  ↓afk_nx, ↓afk_ct, ↓afk_bk, ↓afk_rt, ↓dk_l, ↓dk_t, ↓Ok_evPn, ↓Ok_evPs, ↓Ok_cutek, ↓Ok_cutv, ↓op_cutL, ↓op_cutT, ↓Ok_wSeq, ↓rk_i, ↓Ok_wRng1, ↓Ok_wRng2, ↓Ok_wEnum, ↓Ok_wZip2, ↓Ok_wZip3, ↓Ok_wN, ↓wk_n, ↓wk_c, ↓op_isB, ↓op_isNB, ↓dkk_d, ↓vk_dki, ↓lkk_s, ↓Ok_newK, ↓Ok_dlen, ↓Ok_dsorted, ↓Ok_dget, ↓Ok_dgetD, ↓Ok_dput,
  okArg_v, okArg_o, ↓Ok_tYes, nc_0, nc_1, nc_2, nc_3, nc_4, not_true_eq_false, not_false_eq_true, isN, List.length_cons, List.length_nil, Nat.zero_add, Nat.reduceAdd, List.mem_cons, List.not_mem_nil, decide_eq_true_eq, Bool.not_eq_true', decide_eq_false_iff_not, Bool.not_true, Bool.not_false, Bool.false_eq_true, if_true, if_false, true_and, and_true, or_false, or_true, true_or, reduceCtorEq, Nat.reduceEqDiff, and_self, decide_true, decide_false, Int.reduceLT, Int.reduceLE, Int.reduceEq, Int.reduceToNat, Int.reducePow, Int.reduceAdd, Int.reduceSub, Int.reduceMul, Int.reduceNeg, Int.reduceMod, Int.reduceDiv, Nat.reduceLeDiff, Nat.reduceLT, false_or, or_self, and_false, false_and]
    exact f2_spec hs f0 f1 hk _ ⟨_, rfl⟩
  case en =>
    subst hS
    simp -implicitDefEqProofs only [↓eW_pq, ↓sxk_x, ↓w1, ↓w2, ↓r1, ↓r2, ↓op_ne_same (shaped_is _), ↓op_ne_same (shaped_st _ _), fb, true_or, or_true, true_and, ↓Ok_ok, ↓Ok_bind, ↓Ok_seq, ↓thenS_nx, ↓thenS_rt, ↓thenS_bk, ↓thenS_ct, ↓Ok_sIf, ↓Ok_pass, ↓Ok_ret, ↓Ok_setk, ↓Ok_park, ↓Ok_par3k, ↓Ok_drop, ↓Ok_for, ↓Ok_while, ↓Ok_unpk, ↓Ok_callk, ↓Ok_tryC, ↓Tr_x, ↓Tr_r, ↓nmk_s, ↓muk_n, ↓muk_c, ↓mu2_s, ↓mu2_v, ↓mu2_o, ↓zrk_n, ↓zrk_c, ↓rs_h, ↓rs_v, ↓rs_o, hd_v, hd_o, hd_u, mh_n, mh_c, ↓Rt_fnk,
  ↓sg_z, ↓sg_s, ↓sw_z, ↓sw_s, ↓td_val, ↓td_ow, ↓Ok_eLit, ↓kp_val, ↓kp_ow, ↓Ok_eV, ↓Ok_op1e, ↓Ok_op1v, ↓Ok_op2ee, ↓Ok_op2ve, ↓Ok_op2ev, ↓Ok_op2vv, ↓op_add, ↓op_addL, ↓op_addT, ↓op_addI, ↓op_subI, ↓op_addB, ↓op_subB, ↓op_sub, ↓op_mul, ↓op_mod, ↓op_div, ↓op_pow, ↓op_lt, ↓op_le, ↓op_gt, ↓op_ge, ↓op_eqI, ↓op_neI, ↓op_neg, ↓op_isN, ↓op_notN, ↓op_lenL, ↓op_lenT,
  ↓op_isi_i, ↓op_isi_b, ↓op_isi_l, ↓op_isi_t, ↓op_isi_n, ↓op_isi_s, ↓op_abs, ↓op_max2, ↓op_min2, ↓op_tupL, ↓op_tupT, ↓op_lstL, ↓op_lstT, ↓ix_0, ↓ix_1, ↓ix_2, ↓ix_3, ↓tx_0, ↓tx_1, ↓tx_2, ↓tx_3, ↓Ok_datum, ↓Ok_evL0, ↓Ok_evLc, ↓Ok_eTup, ↓Ok_eLst, ↓bk_b, ↓Ok_tB, ↓Ok_eB, ↓Ok_tNot, ↓Ok_tAnd, ↓Ok_tOr, ↓Ok_eAnd, ↓Ok_eOr, ↓Ok_eIf, ↓fk_i, ↓fk_b, ↓fk_n, ↓Ok_evSe, ↓Ok_evSv, ↓ck2_b, ↓Ok_eChain,
  ↓pk_n, ↓pk_t, ↓pk_l, ↓pks_n, ↓pks_c, ↓vk_val, ↓vk_ow, ↓rvk_val, ↓rvk_ow, ↓Ok_retV, ↓augk_val, ↓Ok_augk, ↓nk_i, ↓Ok_setIx, ↓ixk_0, ↓ixk_1, ↓ixk_2, ↓apk_ow, ↓owk_ow, ↓Ok_app, ↓ak_n, ↓ak_d, ↓ak_b, ↓gk_n, ↓gk_l, ↓gk_r, ↓zk_n, ↓zk_l, ↓zk_r, ↓sgm_z, ↓sgm_s, ↓mk2_v, ↓mk2_o, ↓ik_z, ↓ik_n, ↓ik_s, ↓uk_z, ↓uk_s, ↓rtk_rt, ↓rtk_nx, ↓nok_n, ↓nok_v, ↓nok_o,
  ↓afk_nx, ↓afk_ct, ↓afk_bk, ↓afk_rt, ↓dk_l, ↓dk_t, ↓Ok_evPn, ↓Ok_evPs, ↓Ok_cutek, ↓Ok_cutv, ↓op_cutL, ↓op_cutT, ↓Ok_wSeq, ↓rk_i, ↓Ok_wRng1, ↓Ok_wRng2, ↓Ok_wEnum, ↓Ok_wZip2, ↓Ok_wZip3, ↓Ok_wN, ↓wk_n, ↓wk_c, ↓op_isB, ↓op_isNB, ↓dkk_d, ↓vk_dki, ↓lkk_s, ↓Ok_newK, ↓Ok_dlen, ↓Ok_dsorted, ↓Ok_dget, ↓Ok_dgetD, ↓Ok_dput,
  okArg_v, okArg_o, ↓Ok_tYes, nc_0, nc_1, nc_2, nc_3, nc_4, not_true_eq_false, not_false_eq_true, isN, List.length_cons, List.length_nil, Nat.zero_add, Nat.reduceAdd, List.mem_cons, List.not_mem_nil, decide_eq_true_eq, Bool.not_eq_true', decide_eq_false_iff_not, Bool.not_true, Bool.not_false, Bool.false_eq_true, if_true, if_false, true_and, and_true, or_false, or_true, true_or, reduceCtorEq, Nat.reduceEqDiff, and_self, decide_true, decide_false, Int.reduceLT, Int.reduceLE, Int.reduceEq, Int.reduceToNat, Int.reducePow, Int.reduceAdd, Int.reduceSub, Int.reduceMul, Int.reduceNeg, Int.reduceMod, Int.reduceDiv, Nat.reduceLeDiff, Nat.reduceLT, false_or, or_self, and_false, false_and]
    refine for_ix _ (fun i S => ∃ es z3 z4 z11, Deck (222 + 2 * i) es ∧ S = [s0, .val (.int c), .ow es, z3, z4, .val (sx s), .val (.int d), .val (.int f), .val (smD (mv s d)), .val (smD (scl s f)), y10, z11, x12])
      (fun S ⟨es, z3, z4, z11, _, hS⟩ => ?e2) (fun i v S hi ⟨es, z3, z4, z11, he, hS⟩ => ?s2) _ ⟨es, _, _, _, hd.mono (by omega), rfl⟩
    case s2 =>
      obtain ⟨hi, rfl⟩ := numsD_get hi
      subst hS
      simp -implicitDefEqProofs only [if_true, ↓Ok_ok, ↓Ok_bind, ↓Ok_seq, ↓thenS_nx, ↓thenS_rt, ↓thenS_bk, ↓thenS_ct, ↓Ok_sIf, ↓Ok_pass, ↓Ok_ret, ↓Ok_setk, ↓Ok_park, ↓Ok_par3k, ↓Ok_drop, ↓Ok_for, ↓Ok_while, ↓Ok_unpk, ↓Ok_callk, ↓Ok_tryC, ↓Tr_x, ↓Tr_r, ↓nmk_s, ↓muk_n, ↓muk_c, ↓mu2_s, ↓mu2_v, ↓mu2_o, ↓zrk_n, ↓zrk_c, ↓rs_h, ↓rs_v, ↓rs_o, hd_v, hd_o, hd_u, mh_n, mh_c, ↓Rt_fnk,
  ↓sg_z, ↓sg_s, ↓sw_z, ↓sw_s, ↓td_val, ↓td_ow, ↓Ok_eLit, ↓kp_val, ↓kp_ow, ↓Ok_eV, ↓Ok_op1e, ↓Ok_op1v, ↓Ok_op2ee, ↓Ok_op2ve, ↓Ok_op2ev, ↓Ok_op2vv, ↓op_add, ↓op_addL, ↓op_addT, ↓op_addI, ↓op_subI, ↓op_addB, ↓op_subB, ↓op_sub, ↓op_mul, ↓op_mod, ↓op_div, ↓op_pow, ↓op_lt, ↓op_le, ↓op_gt, ↓op_ge, ↓op_eqI, ↓op_neI, ↓op_neg, ↓op_isN, ↓op_notN, ↓op_lenL, ↓op_lenT,
  ↓op_isi_i, ↓op_isi_b, ↓op_isi_l, ↓op_isi_t, ↓op_isi_n, ↓op_isi_s, ↓op_abs, ↓op_max2, ↓op_min2, ↓op_tupL, ↓op_tupT, ↓op_lstL, ↓op_lstT, ↓ix_0, ↓ix_1, ↓ix_2, ↓ix_3, ↓tx_0, ↓tx_1, ↓tx_2, ↓tx_3, ↓Ok_datum, ↓Ok_evL0, ↓Ok_evLc, ↓Ok_eTup, ↓Ok_eLst, ↓bk_b, ↓Ok_tB, ↓Ok_eB, ↓Ok_tNot, ↓Ok_tAnd, ↓Ok_tOr, ↓Ok_eAnd, ↓Ok_eOr, ↓Ok_eIf, ↓fk_i, ↓fk_b, ↓fk_n, ↓Ok_evSe, ↓Ok_evSv, ↓ck2_b, ↓Ok_eChain,
  ↓pk_n, ↓pk_t, ↓pk_l, ↓pks_n, ↓pks_c, ↓vk_val, ↓vk_ow, ↓rvk_val, ↓rvk_ow, ↓Ok_retV, ↓augk_val, ↓Ok_augk, ↓nk_i, ↓Ok_setIx, ↓ixk_0, ↓ixk_1, ↓ixk_2, ↓apk_ow, ↓owk_ow, ↓Ok_app, ↓ak_n, ↓ak_d, ↓ak_b, ↓gk_n, ↓gk_l, ↓gk_r, ↓zk_n, ↓zk_l, ↓zk_r, ↓sgm_z, ↓sgm_s, ↓mk2_v, ↓mk2_o, ↓ik_z, ↓ik_n, ↓ik_s, ↓uk_z, ↓uk_s, ↓rtk_rt, ↓rtk_nx, ↓nok_n, ↓nok_v, ↓nok_o,
  ↓afk_nx, ↓afk_ct, ↓afk_bk, ↓afk_rt, ↓dk_l, ↓dk_t, ↓Ok_evPn, ↓Ok_evPs, ↓Ok_cutek, ↓Ok_cutv, ↓op_cutL, ↓op_cutT, ↓Ok_wSeq, ↓rk_i, ↓Ok_wRng1, ↓Ok_wRng2, ↓Ok_wEnum, ↓Ok_wZip2, ↓Ok_wZip3, ↓Ok_wN, ↓wk_n, ↓wk_c, ↓op_isB, ↓op_isNB, ↓dkk_d, ↓vk_dki, ↓lkk_s, ↓Ok_newK, ↓Ok_dlen, ↓Ok_dsorted, ↓Ok_dget, ↓Ok_dgetD, ↓Ok_dput,
  okArg_v, okArg_o, ↓Ok_tYes, nc_0, nc_1, nc_2, nc_3, nc_4, not_true_eq_false, not_false_eq_true, isN, List.length_cons, List.length_nil, Nat.zero_add, Nat.reduceAdd, List.mem_cons, List.not_mem_nil, decide_eq_true_eq, Bool.not_eq_true', decide_eq_false_iff_not, Bool.not_true, Bool.not_false, Bool.false_eq_true, if_true, if_false, true_and, and_true, or_false, or_true, true_or, reduceCtorEq, Nat.reduceEqDiff, and_self, decide_true, decide_false, Int.reduceLT, Int.reduceLE, Int.reduceEq, Int.reduceToNat, Int.reducePow, Int.reduceAdd, Int.reduceSub, Int.reduceMul, Int.reduceNeg, Int.reduceMod, Int.reduceDiv, Nat.reduceLeDiff, Nat.reduceLT, false_or, or_self, and_false, false_and]
      exact f3_spec hs he (by omega) _ fun es s3 s4 he => ⟨es, s3, s4, _, he.mono (by omega), rfl⟩
    case e2 =>
      subst hS
      rcases List.eq_nil_or_concat s with rfl | ⟨s', q, ec⟩
      · simp -implicitDefEqProofs only [↓eW_pq, ↓sxk_x, ↓op_ne_t (shaped_sm []), List.map_nil, List.isEmpty_nil, ↓Ok_ok, ↓Ok_bind, ↓Ok_seq, ↓thenS_nx, ↓thenS_rt, ↓thenS_bk, ↓thenS_ct, ↓Ok_sIf, ↓Ok_pass, ↓Ok_ret, ↓Ok_setk, ↓Ok_park, ↓Ok_par3k, ↓Ok_drop, ↓Ok_for, ↓Ok_while, ↓Ok_unpk, ↓Ok_callk, ↓Ok_tryC, ↓Tr_x, ↓Tr_r, ↓nmk_s, ↓muk_n, ↓muk_c, ↓mu2_s, ↓mu2_v, ↓mu2_o, ↓zrk_n, ↓zrk_c, ↓rs_h, ↓rs_v, ↓rs_o, hd_v, hd_o, hd_u, mh_n, mh_c, ↓Rt_fnk,
  ↓sg_z, ↓sg_s, ↓sw_z, ↓sw_s, ↓td_val, ↓td_ow, ↓Ok_eLit, ↓kp_val, ↓kp_ow, ↓Ok_eV, ↓Ok_op1e, ↓Ok_op1v, ↓Ok_op2ee, ↓Ok_op2ve, ↓Ok_op2ev, ↓Ok_op2vv, ↓op_add, ↓op_addL, ↓op_addT, ↓op_addI, ↓op_subI, ↓op_addB, ↓op_subB, ↓op_sub, ↓op_mul, ↓op_mod, ↓op_div, ↓op_pow, ↓op_lt, ↓op_le, ↓op_gt, ↓op_ge, ↓op_eqI, ↓op_neI, ↓op_neg, ↓op_isN, ↓op_notN, ↓op_lenL, ↓op_lenT,
  ↓op_isi_i, ↓op_isi_b, ↓op_isi_l, ↓op_isi_t, ↓op_isi_n, ↓op_isi_s, ↓op_abs, ↓op_max2, ↓op_min2, ↓op_tupL, ↓op_tupT, ↓op_lstL, ↓op_lstT, ↓ix_0, ↓ix_1, ↓ix_2, ↓ix_3, ↓tx_0, ↓tx_1, ↓tx_2, ↓tx_3, ↓Ok_datum, ↓Ok_evL0, ↓Ok_evLc, ↓Ok_eTup, ↓Ok_eLst, ↓bk_b, ↓Ok_tB, ↓Ok_eB, ↓Ok_tNot, ↓Ok_tAnd, ↓Ok_tOr, ↓Ok_eAnd, ↓Ok_eOr, ↓Ok_eIf, ↓fk_i, ↓fk_b, ↓fk_n, ↓Ok_evSe, ↓Ok_evSv, ↓ck2_b, ↓Ok_eChain,
  ↓pk_n, ↓pk_t, ↓pk_l, ↓pks_n, ↓pks_c, ↓vk_val, ↓vk_ow, ↓rvk_val, ↓rvk_ow, ↓Ok_retV, ↓augk_val, ↓Ok_augk, ↓nk_i, ↓Ok_setIx, ↓ixk_0, ↓ixk_1, ↓ixk_2, ↓apk_ow, ↓owk_ow, ↓Ok_app, ↓ak_n, ↓ak_d, ↓ak_b, ↓gk_n, ↓gk_l, ↓gk_r, ↓zk_n, ↓zk_l, ↓zk_r, ↓sgm_z, ↓sgm_s, ↓mk2_v, ↓mk2_o, ↓ik_z, ↓ik_n, ↓ik_s, ↓uk_z, ↓uk_s, ↓rtk_rt, ↓rtk_nx, ↓nok_n, ↓nok_v, ↓nok_o,
  ↓afk_nx, ↓afk_ct, ↓afk_bk, ↓afk_rt, ↓dk_l, ↓dk_t, ↓Ok_evPn, ↓Ok_evPs, ↓Ok_cutek, ↓Ok_cutv, ↓op_cutL, ↓op_cutT, ↓Ok_wSeq, ↓rk_i, ↓Ok_wRng1, ↓Ok_wRng2, ↓Ok_wEnum, ↓Ok_wZip2, ↓Ok_wZip3, ↓Ok_wN, ↓wk_n, ↓wk_c, ↓op_isB, ↓op_isNB, ↓dkk_d, ↓vk_dki, ↓lkk_s, ↓Ok_newK, ↓Ok_dlen, ↓Ok_dsorted, ↓Ok_dget, ↓Ok_dgetD, ↓Ok_dput,
  okArg_v, okArg_o, ↓Ok_tYes, nc_0, nc_1, nc_2, nc_3, nc_4, not_true_eq_false, not_false_eq_true, isN, List.length_cons, List.length_nil, Nat.zero_add, Nat.reduceAdd, List.mem_cons, List.not_mem_nil, decide_eq_true_eq, Bool.not_eq_true', decide_eq_false_iff_not, Bool.not_true, Bool.not_false, Bool.false_eq_true, if_true, if_false, true_and, and_true, or_false, or_true, true_or, reduceCtorEq, Nat.reduceEqDiff, and_self, decide_true, decide_false, Int.reduceLT, Int.reduceLE, Int.reduceEq, Int.reduceToNat, Int.reducePow, Int.reduceAdd, Int.reduceSub, Int.reduceMul, Int.reduceNeg, Int.reduceMod, Int.reduceDiv, Nat.reduceLeDiff, Nat.reduceLT, false_or, or_self, and_false, false_and]
        exact h ..
      · rw [List.concat_eq_append] at ec
        subst ec
        have hq := hs.2.1 q (by simp)
        have gE : Sm (s' ++ [q] ++ [(q.1 + 1, q.2)]) := by
          refine ⟨by rw [List.length_append]; simp only [List.length_cons, List.length_nil]; omega, fun p hp => ?_, ?_⟩
          · rcases List.mem_append.mp hp with hp | hp
            · have := hs.2.1 p hp
              omega
            · rw [List.mem_singleton.mp hp]
              simp only
              omega
          · rw [List.pairwise_append]
            refine ⟨hs.2.2, List.pairwise_singleton _ _, fun p hp b hb => ?_⟩
            rw [List.mem_singleton.mp hb]
            rcases List.mem_append.mp hp with hp | hp
            · have := (List.pairwise_append.mp hs.2.2).2.2 p hp q (by simp)
              show p.1 < q.1 + 1
              omega
            · rw [List.mem_singleton.mp hp]
              show q.1 < q.1 + 1
              omega
        have c4 := fun Q => estimate_rt gE Q
        rw [est_last] at c4
        have i1 : ∀ k, op2 dNe (.tuple ((s' ++ [q]).map pqD)) (.tuple []) k = k (.val (.bool true)) := fun k => by
          have e : ((s' ++ [q]).map pqD).isEmpty = false := by cases s' <;> rfl
          rw [op_ne_t (shaped_sm _), e]
          rfl
        have i2 : ∀ k, op2 dIx (.tuple ((s' ++ [q]).map pqD)) (.int (-1)) k = k (.val (pqD q)) := fun k => by
          rw [List.map_append]
          exact ix_lastT
        have i3 : ((s' ++ [q]).map pqD ++ [.tuple [.int (q.1 + 1), .int q.2]] : List D) = (s' ++ [q] ++ [(q.1 + 1, q.2)]).map pqD := by
          rw [List.map_append (l₂ := [(q.1 + 1, q.2)])]
          rfl
        simp -implicitDefEqProofs only [↓eW_pq, ↓sxk_x, ↓i1, ↓i2, ↓pq_0, ↓pq_1, i3, ↓c4, ↓c3, List.length_map, ↓Ok_ok, ↓Ok_bind, ↓Ok_seq, ↓thenS_nx, ↓thenS_rt, ↓thenS_bk, ↓thenS_ct, ↓Ok_sIf, ↓Ok_pass, ↓Ok_ret, ↓Ok_setk, ↓Ok_park, ↓Ok_par3k, ↓Ok_drop, ↓Ok_for, ↓Ok_while, ↓Ok_unpk, ↓Ok_callk, ↓Ok_tryC, ↓Tr_x, ↓Tr_r, ↓nmk_s, ↓muk_n, ↓muk_c, ↓mu2_s, ↓mu2_v, ↓mu2_o, ↓zrk_n, ↓zrk_c, ↓rs_h, ↓rs_v, ↓rs_o, hd_v, hd_o, hd_u, mh_n, mh_c, ↓Rt_fnk,
  ↓sg_z, ↓sg_s, ↓sw_z, ↓sw_s, ↓td_val, ↓td_ow, ↓Ok_eLit, ↓kp_val, ↓kp_ow, ↓Ok_eV, ↓Ok_op1e, ↓Ok_op1v, ↓Ok_op2ee, ↓Ok_op2ve, ↓Ok_op2ev, ↓Ok_op2vv, ↓op_add, ↓op_addL, ↓op_addT, ↓op_addI, ↓op_subI, ↓op_addB, ↓op_subB, ↓op_sub, ↓op_mul, ↓op_mod, ↓op_div, ↓op_pow, ↓op_lt, ↓op_le, ↓op_gt, ↓op_ge, ↓op_eqI, ↓op_neI, ↓op_neg, ↓op_isN, ↓op_notN, ↓op_lenL, ↓op_lenT,
  ↓op_isi_i, ↓op_isi_b, ↓op_isi_l, ↓op_isi_t, ↓op_isi_n, ↓op_isi_s, ↓op_abs, ↓op_max2, ↓op_min2, ↓op_tupL, ↓op_tupT, ↓op_lstL, ↓op_lstT, ↓ix_0, ↓ix_1, ↓ix_2, ↓ix_3, ↓tx_0, ↓tx_1, ↓tx_2, ↓tx_3, ↓Ok_datum, ↓Ok_evL0, ↓Ok_evLc, ↓Ok_eTup, ↓Ok_eLst, ↓bk_b, ↓Ok_tB, ↓Ok_eB, ↓Ok_tNot, ↓Ok_tAnd, ↓Ok_tOr, ↓Ok_eAnd, ↓Ok_eOr, ↓Ok_eIf, ↓fk_i, ↓fk_b, ↓fk_n, ↓Ok_evSe, ↓Ok_evSv, ↓ck2_b, ↓Ok_eChain,
  ↓pk_n, ↓pk_t, ↓pk_l, ↓pks_n, ↓pks_c, ↓vk_val, ↓vk_ow, ↓rvk_val, ↓rvk_ow, ↓Ok_retV, ↓augk_val, ↓Ok_augk, ↓nk_i, ↓Ok_setIx, ↓ixk_0, ↓ixk_1, ↓ixk_2, ↓apk_ow, ↓owk_ow, ↓Ok_app, ↓ak_n, ↓ak_d, ↓ak_b, ↓gk_n, ↓gk_l, ↓gk_r, ↓zk_n, ↓zk_l, ↓zk_r, ↓sgm_z, ↓sgm_s, ↓mk2_v, ↓mk2_o, ↓ik_z, ↓ik_n, ↓ik_s, ↓uk_z, ↓uk_s, ↓rtk_rt, ↓rtk_nx, ↓nok_n, ↓nok_v, ↓nok_o,
  ↓afk_nx, ↓afk_ct, ↓afk_bk, ↓afk_rt, ↓dk_l, ↓dk_t, ↓Ok_evPn, ↓Ok_evPs, ↓Ok_cutek, ↓Ok_cutv, ↓op_cutL, ↓op_cutT, ↓Ok_wSeq, ↓rk_i, ↓Ok_wRng1, ↓Ok_wRng2, ↓Ok_wEnum, ↓Ok_wZip2, ↓Ok_wZip3, ↓Ok_wN, ↓wk_n, ↓wk_c, ↓op_isB, ↓op_isNB, ↓dkk_d, ↓vk_dki, ↓lkk_s, ↓Ok_newK, ↓Ok_dlen, ↓Ok_dsorted, ↓Ok_dget, ↓Ok_dgetD, ↓Ok_dput,
  okArg_v, okArg_o, ↓Ok_tYes, nc_0, nc_1, nc_2, nc_3, nc_4, not_true_eq_false, not_false_eq_true, isN, List.length_cons, List.length_nil, Nat.zero_add, Nat.reduceAdd, List.mem_cons, List.not_mem_nil, decide_eq_true_eq, Bool.not_eq_true', decide_eq_false_iff_not, Bool.not_true, Bool.not_false, Bool.false_eq_true, if_true, if_false, true_and, and_true, or_false, or_true, true_or, reduceCtorEq, Nat.reduceEqDiff, and_self, decide_true, decide_false, Int.reduceLT, Int.reduceLE, Int.reduceEq, Int.reduceToNat, Int.reducePow, Int.reduceAdd, Int.reduceSub, Int.reduceMul, Int.reduceNeg, Int.reduceMod, Int.reduceDiv, Nat.reduceLeDiff, Nat.reduceLT, false_or, or_self, and_false, false_and]
        exact ⟨by omega, h ..⟩
theorem for_spec {s0 x1 x2 x3 x4 x5 x6 x7 x8 x9 x10 x11 x12 : Sv} (ds : List D) (hds : ∀ d ∈ ds, ∃ c : Int, d = .int c) (Q : Fl → Sl → Prop)
    (h : ∀ x1 x2 x3 x4 x5 x6 x7 x8 x9 x10 x11 x12, Q .nx [s0, x1, x2, x3, x4, x5, x6, x7, x8, x9, x10, x11, x12]) :
    Ok (forLoop (.n 1) B_law_f1 ds [s0, x1, x2, x3, x4, x5, x6, x7, x8, x9, x10, x11, x12]) Q := by
  refine for_inv2 (fun l S => (∀ d ∈ l, ∃ c : Int, d = .int c) ∧ ∃ x1 x2 x3 x4 x5 x6 x7 x8 x9 x10 x11 x12, S = [s0, x1, x2, x3, x4, x5, x6, x7, x8, x9, x10, x11, x12])
    (fun S ⟨_, x1, x2, x3, x4, x5, x6, x7, x8, x9, x10, x11, x12, hS⟩ => ?e) (fun d l S ⟨hl, x1, x2, x3, x4, x5, x6, x7, x8, x9, x10, x11, x12, hS⟩ => ?s) _ _ ⟨hds, _, _, _, _, _, _, _, _, _, _, _, _, rfl⟩
  case e =>
    subst hS
    exact h ..
  case s =>
    subst hS
    obtain ⟨c, rfl⟩ := hl d List.mem_cons_self
    simp -implicitDefEqProofs only [if_true, ↓Ok_ok, ↓Ok_bind, ↓Ok_seq, ↓thenS_nx, ↓thenS_rt, ↓thenS_bk, ↓thenS_ct, ↓Ok_sIf, ↓Ok_pass, ↓Ok_ret, ↓Ok_setk, ↓Ok_park, ↓Ok_par3k, ↓Ok_drop, ↓Ok_for, ↓Ok_while, ↓Ok_unpk, ↓Ok_callk, ↓Ok_tryC, ↓Tr_x, ↓Tr_r, ↓nmk_s, ↓muk_n, ↓muk_c, ↓mu2_s, ↓mu2_v, ↓mu2_o, ↓zrk_n, ↓zrk_c, ↓rs_h, ↓rs_v, ↓rs_o, hd_v, hd_o, hd_u, mh_n, mh_c, ↓Rt_fnk,
  ↓sg_z, ↓sg_s, ↓sw_z, ↓sw_s, ↓td_val, ↓td_ow, ↓Ok_eLit, ↓kp_val, ↓kp_ow, ↓Ok_eV, ↓Ok_op1e, ↓Ok_op1v, ↓Ok_op2ee, ↓Ok_op2ve, ↓Ok_op2ev, ↓Ok_op2vv, ↓op_add, ↓op_addL, ↓op_addT, ↓op_addI, ↓op_subI, ↓op_addB, ↓op_subB, ↓op_sub, ↓op_mul, ↓op_mod, ↓op_div, ↓op_pow, ↓op_lt, ↓op_le, ↓op_gt, ↓op_ge, ↓op_eqI, ↓op_neI, ↓op_neg, ↓op_isN, ↓op_notN, ↓op_lenL, ↓op_lenT,
  ↓op_isi_i, ↓op_isi_b, ↓op_isi_l, ↓op_isi_t, ↓op_isi_n, ↓op_isi_s, ↓op_abs, ↓op_max2, ↓op_min2, ↓op_tupL, ↓op_tupT, ↓op_lstL, ↓op_lstT, ↓ix_0, ↓ix_1, ↓ix_2, ↓ix_3, ↓tx_0, ↓tx_1, ↓tx_2, ↓tx_3, ↓Ok_datum, ↓Ok_evL0, ↓Ok_evLc, ↓Ok_eTup, ↓Ok_eLst, ↓bk_b, ↓Ok_tB, ↓Ok_eB, ↓Ok_tNot, ↓Ok_tAnd, ↓Ok_tOr, ↓Ok_eAnd, ↓Ok_eOr, ↓Ok_eIf, ↓fk_i, ↓fk_b, ↓fk_n, ↓Ok_evSe, ↓Ok_evSv, ↓ck2_b, ↓Ok_eChain,
  ↓pk_n, ↓pk_t, ↓pk_l, ↓pks_n, ↓pks_c, ↓vk_val, ↓vk_ow, ↓rvk_val, ↓rvk_ow, ↓Ok_retV, ↓augk_val, ↓Ok_augk, ↓nk_i, ↓Ok_setIx, ↓ixk_0, ↓ixk_1, ↓ixk_2, ↓apk_ow, ↓owk_ow, ↓Ok_app, ↓ak_n, ↓ak_d, ↓ak_b, ↓gk_n, ↓gk_l, ↓gk_r, ↓zk_n, ↓zk_l, ↓zk_r, ↓sgm_z, ↓sgm_s, ↓mk2_v, ↓mk2_o, ↓ik_z, ↓ik_n, ↓ik_s, ↓uk_z, ↓uk_s, ↓rtk_rt, ↓rtk_nx, ↓nok_n, ↓nok_v, ↓nok_o,
  ↓afk_nx, ↓afk_ct, ↓afk_bk, ↓afk_rt, ↓dk_l, ↓dk_t, ↓Ok_evPn, ↓Ok_evPs, ↓Ok_cutek, ↓Ok_cutv, ↓op_cutL, ↓op_cutT, ↓Ok_wSeq, ↓rk_i, ↓Ok_wRng1, ↓Ok_wRng2, ↓Ok_wEnum, ↓Ok_wZip2, ↓Ok_wZip3, ↓Ok_wN, ↓wk_n, ↓wk_c, ↓op_isB, ↓op_isNB, ↓dkk_d, ↓vk_dki, ↓lkk_s, ↓Ok_newK, ↓Ok_dlen, ↓Ok_dsorted, ↓Ok_dget, ↓Ok_dgetD, ↓Ok_dput,
  okArg_v, okArg_o, ↓Ok_tYes, nc_0, nc_1, nc_2, nc_3, nc_4, not_true_eq_false, not_false_eq_true, isN, List.length_cons, List.length_nil, Nat.zero_add, Nat.reduceAdd, List.mem_cons, List.not_mem_nil, decide_eq_true_eq, Bool.not_eq_true', decide_eq_false_iff_not, Bool.not_true, Bool.not_false, Bool.false_eq_true, if_true, if_false, true_and, and_true, or_false, or_true, true_or, reduceCtorEq, Nat.reduceEqDiff, and_self, decide_true, decide_false, Int.reduceLT, Int.reduceLE, Int.reduceEq, Int.reduceToNat, Int.reducePow, Int.reduceAdd, Int.reduceSub, Int.reduceMul, Int.reduceNeg, Int.reduceMod, Int.reduceDiv, Nat.reduceLeDiff, Nat.reduceLT, false_or, or_self, and_false, false_and]
    exact f1_spec _ fun x2 x3 x4 x5 x6 x7 x8 x9 x10 x11 x12 => ⟨fun d hd => hl d (List.mem_cons_of_mem _ hd), _, _, _, _, _, _, _, _, _, _, _, _, rfl⟩
theorem items {ns : List Int} {l h : Option Int} : ∀ d ∈ cutD (.int 0 :: ns.map PyData.int) l h, ∃ c : Int, d = .int c := fun d hd => by
  rcases List.mem_cons.mp (cutD_mem hd) with rfl | h
  · exact ⟨_, rfl⟩
  · obtain ⟨c, _, rfl⟩ := List.mem_map.mp h
    exact ⟨c, rfl⟩
theorem ev1 : F_estimate [.val (.tuple [.tuple [.int 0, .int 1000000], .tuple [.int 1000000000, .int 1000000]])] = .ret (.val (.int 0)) [.val (.tuple [.tuple [.int 0, .int 1000000], .tuple [.int 1000000000, .int 1000000]])] := by kernel_rfl
theorem ev2 : F_estimate [.val (.tuple [.tuple [.int 0, .int 1000000], .tuple [.int 1, .int 0], .tuple [.int 2, .int 1000000]])] = .ret (.val (.int 1000000)) [.val (.tuple [.tuple [.int 0, .int 1000000], .tuple [.int 1, .int 0], .tuple [.int 2, .int 1000000]])] := by kernel_rfl
theorem main (ns : List Int) (hn : ns.length ≤ 63) : Rt (F_law [.val (.list (ns.map PyData.int))]) fun v _ => v = .val (.bool true) := by
  have hl : (ns.map PyData.int).length ≤ 63 := by rw [List.length_map]; exact hn
  have r1 := fun Q => Rt_eq (Q := Q) ev1
  have r2 := fun Q => Rt_eq (Q := Q) ev2
  unfold F_law B_law
  simp -implicitDefEqProofs only [if_true, ↓Ok_ok, ↓Ok_bind, ↓Ok_seq, ↓thenS_nx, ↓thenS_rt, ↓thenS_bk, ↓thenS_ct, ↓Ok_sIf, ↓Ok_pass, ↓Ok_ret, ↓Ok_setk, ↓Ok_park, ↓Ok_par3k, ↓Ok_drop, ↓Ok_for, ↓Ok_while, ↓Ok_unpk, ↓Ok_callk, ↓Ok_tryC, ↓Tr_x, ↓Tr_r, ↓nmk_s, ↓muk_n, ↓muk_c, ↓mu2_s, ↓mu2_v, ↓mu2_o, ↓zrk_n, ↓zrk_c, ↓rs_h, ↓rs_v, ↓rs_o, hd_v, hd_o, hd_u, mh_n, mh_c, ↓Rt_fnk,
  ↓sg_z, ↓sg_s, ↓sw_z, ↓sw_s, ↓td_val, ↓td_ow, ↓Ok_eLit, ↓kp_val, ↓kp_ow, ↓Ok_eV, ↓Ok_op1e, ↓Ok_op1v, ↓Ok_op2ee, ↓Ok_op2ve, ↓Ok_op2ev, ↓Ok_op2vv, ↓op_add, ↓op_addL, ↓op_addT, ↓op_addI, ↓op_subI, ↓op_addB, ↓op_subB, ↓op_sub, ↓op_mul, ↓op_mod, ↓op_div, ↓op_pow, ↓op_lt, ↓op_le, ↓op_gt, ↓op_ge, ↓op_eqI, ↓op_neI, ↓op_neg, ↓op_isN, ↓op_notN, ↓op_lenL, ↓op_lenT,
  ↓op_isi_i, ↓op_isi_b, ↓op_isi_l, ↓op_isi_t, ↓op_isi_n, ↓op_isi_s, ↓op_abs, ↓op_max2, ↓op_min2, ↓op_tupL, ↓op_tupT, ↓op_lstL, ↓op_lstT, ↓ix_0, ↓ix_1, ↓ix_2, ↓ix_3, ↓tx_0, ↓tx_1, ↓tx_2, ↓tx_3, ↓Ok_datum, ↓Ok_evL0, ↓Ok_evLc, ↓Ok_eTup, ↓Ok_eLst, ↓bk_b, ↓Ok_tB, ↓Ok_eB, ↓Ok_tNot, ↓Ok_tAnd, ↓Ok_tOr, ↓Ok_eAnd, ↓Ok_eOr, ↓Ok_eIf, ↓fk_i, ↓fk_b, ↓fk_n, ↓Ok_evSe, ↓Ok_evSv, ↓ck2_b, ↓Ok_eChain,
  ↓pk_n, ↓pk_t, ↓pk_l, ↓pks_n, ↓pks_c, ↓vk_val, ↓vk_ow, ↓rvk_val, ↓rvk_ow, ↓Ok_retV, ↓augk_val, ↓Ok_augk, ↓nk_i, ↓Ok_setIx, ↓ixk_0, ↓ixk_1, ↓ixk_2, ↓apk_ow, ↓owk_ow, ↓Ok_app, ↓ak_n, ↓ak_d, ↓ak_b, ↓gk_n, ↓gk_l, ↓gk_r, ↓zk_n, ↓zk_l, ↓zk_r, ↓sgm_z, ↓sgm_s, ↓mk2_v, ↓mk2_o, ↓ik_z, ↓ik_n, ↓ik_s, ↓uk_z, ↓uk_s, ↓rtk_rt, ↓rtk_nx, ↓nok_n, ↓nok_v, ↓nok_o,
  ↓afk_nx, ↓afk_ct, ↓afk_bk, ↓afk_rt, ↓dk_l, ↓dk_t, ↓Ok_evPn, ↓Ok_evPs, ↓Ok_cutek, ↓Ok_cutv, ↓op_cutL, ↓op_cutT, ↓Ok_wSeq, ↓rk_i, ↓Ok_wRng1, ↓Ok_wRng2, ↓Ok_wEnum, ↓Ok_wZip2, ↓Ok_wZip3, ↓Ok_wN, ↓wk_n, ↓wk_c, ↓op_isB, ↓op_isNB, ↓dkk_d, ↓vk_dki, ↓lkk_s, ↓Ok_newK, ↓Ok_dlen, ↓Ok_dsorted, ↓Ok_dget, ↓Ok_dgetD, ↓Ok_dput,
  okArg_v, okArg_o, ↓Ok_tYes, nc_0, nc_1, nc_2, nc_3, nc_4, not_true_eq_false, not_false_eq_true, isN, List.length_cons, List.length_nil, Nat.zero_add, Nat.reduceAdd, List.mem_cons, List.not_mem_nil, decide_eq_true_eq, Bool.not_eq_true', decide_eq_false_iff_not, Bool.not_true, Bool.not_false, Bool.false_eq_true, if_true, if_false, true_and, and_true, or_false, or_true, true_or, reduceCtorEq, Nat.reduceEqDiff, and_self, decide_true, decide_false, Int.reduceLT, Int.reduceLE, Int.reduceEq, Int.reduceToNat, Int.reducePow, Int.reduceAdd, Int.reduceSub, Int.reduceMul, Int.reduceNeg, Int.reduceMod, Int.reduceDiv, Nat.reduceLeDiff, Nat.reduceLT, false_or, or_self, and_false, false_and]
  refine And.intro (by omega) (for_spec _ items _ ?_)
  intro x1 x2 x3 x4 x5 x6 x7 x8 x9 x10 x11 x12
  simp -implicitDefEqProofs only [↓r1, ↓r2, ↓Ok_ok, ↓Ok_bind, ↓Ok_seq, ↓thenS_nx, ↓thenS_rt, ↓thenS_bk, ↓thenS_ct, ↓Ok_sIf, ↓Ok_pass, ↓Ok_ret, ↓Ok_setk, ↓Ok_park, ↓Ok_par3k, ↓Ok_drop, ↓Ok_for, ↓Ok_while, ↓Ok_unpk, ↓Ok_callk, ↓Ok_tryC, ↓Tr_x, ↓Tr_r, ↓nmk_s, ↓muk_n, ↓muk_c, ↓mu2_s, ↓mu2_v, ↓mu2_o, ↓zrk_n, ↓zrk_c, ↓rs_h, ↓rs_v, ↓rs_o, hd_v, hd_o, hd_u, mh_n, mh_c, ↓Rt_fnk,
  ↓sg_z, ↓sg_s, ↓sw_z, ↓sw_s, ↓td_val, ↓td_ow, ↓Ok_eLit, ↓kp_val, ↓kp_ow, ↓Ok_eV, ↓Ok_op1e, ↓Ok_op1v, ↓Ok_op2ee, ↓Ok_op2ve, ↓Ok_op2ev, ↓Ok_op2vv, ↓op_add, ↓op_addL, ↓op_addT, ↓op_addI, ↓op_subI, ↓op_addB, ↓op_subB, ↓op_sub, ↓op_mul, ↓op_mod, ↓op_div, ↓op_pow, ↓op_lt, ↓op_le, ↓op_gt, ↓op_ge, ↓op_eqI, ↓op_neI, ↓op_neg, ↓op_isN, ↓op_notN, ↓op_lenL, ↓op_lenT,
  ↓op_isi_i, ↓op_isi_b, ↓op_isi_l, ↓op_isi_t, ↓op_isi_n, ↓op_isi_s, ↓op_abs, ↓op_max2, ↓op_min2, ↓op_tupL, ↓op_tupT, ↓op_lstL, ↓op_lstT, ↓ix_0, ↓ix_1, ↓ix_2, ↓ix_3, ↓tx_0, ↓tx_1, ↓tx_2, ↓tx_3, ↓Ok_datum, ↓Ok_evL0, ↓Ok_evLc, ↓Ok_eTup, ↓Ok_eLst, ↓bk_b, ↓Ok_tB, ↓Ok_eB, ↓Ok_tNot, ↓Ok_tAnd, ↓Ok_tOr, ↓Ok_eAnd, ↓Ok_eOr, ↓Ok_eIf, ↓fk_i, ↓fk_b, ↓fk_n, ↓Ok_evSe, ↓Ok_evSv, ↓ck2_b, ↓Ok_eChain,
  ↓pk_n, ↓pk_t, ↓pk_l, ↓pks_n, ↓pks_c, ↓vk_val, ↓vk_ow, ↓rvk_val, ↓rvk_ow, ↓Ok_retV, ↓augk_val, ↓Ok_augk, ↓nk_i, ↓Ok_setIx, ↓ixk_0, ↓ixk_1, ↓ixk_2, ↓apk_ow, ↓owk_ow, ↓Ok_app, ↓ak_n, ↓ak_d, ↓ak_b, ↓gk_n, ↓gk_l, ↓gk_r, ↓zk_n, ↓zk_l, ↓zk_r, ↓sgm_z, ↓sgm_s, ↓mk2_v, ↓mk2_o, ↓ik_z, ↓ik_n, ↓ik_s, ↓uk_z, ↓uk_s, ↓rtk_rt, ↓rtk_nx, ↓nok_n, ↓nok_v, ↓nok_o,
  ↓afk_nx, ↓afk_ct, ↓afk_bk, ↓afk_rt, ↓dk_l, ↓dk_t, ↓Ok_evPn, ↓Ok_evPs, ↓Ok_cutek, ↓Ok_cutv, ↓op_cutL, ↓op_cutT, ↓Ok_wSeq, ↓rk_i, ↓Ok_wRng1, ↓Ok_wRng2, ↓Ok_wEnum, ↓Ok_wZip2, ↓Ok_wZip3, ↓Ok_wN, ↓wk_n, ↓wk_c, ↓op_isB, ↓op_isNB, ↓dkk_d, ↓vk_dki, ↓lkk_s, ↓Ok_newK, ↓Ok_dlen, ↓Ok_dsorted, ↓Ok_dget, ↓Ok_dgetD, ↓Ok_dput,
  okArg_v, okArg_o, ↓Ok_tYes, nc_0, nc_1, nc_2, nc_3, nc_4, not_true_eq_false, not_false_eq_true, isN, List.length_cons, List.length_nil, Nat.zero_add, Nat.reduceAdd, List.mem_cons, List.not_mem_nil, decide_eq_true_eq, Bool.not_eq_true', decide_eq_false_iff_not, Bool.not_true, Bool.not_false, Bool.false_eq_true, if_true, if_false, true_and, and_true, or_false, or_true, true_or, reduceCtorEq, Nat.reduceEqDiff, and_self, decide_true, decide_false, Int.reduceLT, Int.reduceLE, Int.reduceEq, Int.reduceToNat, Int.reducePow, Int.reduceAdd, Int.reduceSub, Int.reduceMul, Int.reduceNeg, Int.reduceMod, Int.reduceDiv, Nat.reduceLeDiff, Nat.reduceLT, false_or, or_self, and_false, false_and]
theorem goal (ns : List Int) (hn : ns.length ≤ 63) : ∃ outs, F_law [.val (.list (ns.map PyData.int))] = .ret (.val (.bool true)) outs := by
  obtain ⟨v, o, e, rfl⟩ := Rt_iff.mp (main ns hn)
  exact ⟨o, e⟩
end

end K20
open PySem PySem.W PyProof.Rows
set_option maxHeartbeats 0 in
theorem PySem.Challenge.cw_resetcount_k20_whole_shifted_and_scaled_holds : PySem.Challenge.rw_resetcount_k20_whole_shifted_and_scaled.Holds := by
  w_on; o_law; k_head; (case hw => w_witness2)
  k_fill
  refine Rc.walk_rc (l := PySem.Challenge.rw_resetcount_k20_whole_shifted_and_scaled) (n := 63) (k := 6) (x := "_law_script") K20.F_law rfl (by decide) rfl ⟨rfl, by decide, by decide⟩ (fun w h Y => PySem.W.kIn_of Y) ?F K20.goal
  case F =>
    intro w mg fa h KX G XP hmg
    refine K20.fin ?T hmg
    refine' K20.txt_mk KX G ?f0 ?f1 ?f2 ?f3 ?f4 ?f5 ?f6 ?f7 ?f8 ?f9 ?f10 ?f11 ?f12 ?f13 ?f14 ?a15 ?x15 ?k15 ?b15 ?t15 ?a16 ?x16 ?k16 ?b16 ?t16 ?a17 ?x17 ?k17 ?b17 ?t17 ?a18 ?x18 ?k18 ?b18 ?t18 ?a19 ?l19 ?c19 ?k19 ?a20 ?l20 ?c20 ?k20 ?a21 ?l21 ?c21 ?k21 ?a22 ?l22 ?c22 ?k22 ?a23 ?l23 ?c23 ?k23 ?a24 ?l24 ?c24 ?k24 ?a25 ?l25 ?c25 ?k25 ?a26 ?l26 ?c26 ?k26 ?a27 ?l27 ?c27 ?k27 ?a28 ?l28 ?c28 ?k28 ?a29 ?l29 ?c29 ?k29 ?a30 ?l30 ?c30 ?k30 ?a31 ?l31 ?c31 ?k31 ?a32 ?l32 ?c32 ?k32 ?a33 ?l33 ?c33 ?k33 ?a34 ?l34 ?c34 ?k34 ?a35 ?l35 ?c35 ?k35 ?a36 ?l36 ?c36 ?k36 ?a37 ?l37 ?c37 ?k37 ?a38 ?l38 ?c38 ?k38 ?a39 ?l39 ?c39 ?k39 ?a40 ?l40 ?c40 ?k40 ?a41 ?l41 ?c41 ?k41 ?a42 ?l42 ?c42 ?k42 ?a43 ?l43 ?c43 ?k43 ?a44 ?l44 ?c44 ?k44 ?a45 ?l45 ?c45 ?k45 ?a46 ?l46 ?c46 ?k46 ?a47 ?l47 ?c47 ?k47 ?a48 ?l48 ?c48 ?k48
    (case f0 => k_is)
    (case f1 => k_is)
    (case f2 => k_is)
    (case f3 => k_is)
    (case f4 => k_is)
    (case f5 => k_is)
    (case f6 => k_is)
    (case f7 => k_is)
    (case f8 => k_is)
    (case f9 => k_is)
    (case f10 => k_is)
    (case f11 => k_is)
    (case f12 => k_is)
    (case f13 => exact Rc.loose_int XP (by simp))
    (case f14 => exact Rc.loose_int XP (by simp))
    (case a15 => k_is)
    (case x15 => k_exc)
    (case k15 => k_is)
    (case b15 => k_is)
    (case t15 => k_is)
    (case a16 => k_is)
    (case x16 => k_exc)
    (case k16 => k_is)
    (case b16 => k_is)
    (case t16 => k_is)
    (case a17 => k_is)
    (case x17 => k_exc)
    (case k17 => k_is)
    (case b17 => k_is)
    (case t17 => k_is)
    (case a18 => k_is)
    (case x18 => k_exc)
    (case k18 => k_is)
    (case b18 => k_is)
    (case t18 => k_is)
    (case a19 => k_is)
    (case l19 => k_is)
    (case c19 => k_is)
    (case k19 => k_is)
    (case a20 => k_is)
    (case l20 => k_is)
    (case c20 => k_is)
    (case k20 => k_is)
    (case a21 => k_is)
    (case l21 => k_is)
    (case c21 => k_is)
    (case k21 => k_is)
    (case a22 => k_is)
    (case l22 => k_is)
    (case c22 => k_is)
    (case k22 => k_is)
    (case a23 => k_is)
    (case l23 => k_is)
    (case c23 => k_is)
    (case k23 => k_is)
    (case a24 => k_is)
    (case l24 => k_is)
    (case c24 => k_is)
    (case k24 => k_is)
    (case a25 => k_is)
    (case l25 => k_is)
    (case c25 => k_is)
    (case k25 => k_is)
    (case a26 => k_is)
    (case l26 => k_is)
    (case c26 => k_is)
    (case k26 => k_is)
    (case a27 => k_is)
    (case l27 => k_is)
    (case c27 => k_is)
    (case k27 => k_is)
    (case a28 => k_is)
    (case l28 => k_is)
    (case c28 => k_is)
    (case k28 => k_is)
    (case a29 => k_is)
    (case l29 => k_is)
    (case c29 => k_is)
    (case k29 => k_is)
    (case a30 => k_is)
    (case l30 => k_is)
    (case c30 => k_is)
    (case k30 => k_is)
    (case a31 => k_is)
    (case l31 => k_is)
    (case c31 => k_is)
    (case k31 => k_is)
    (case a32 => k_is)
    (case l32 => k_is)
    (case c32 => k_is)
    (case k32 => k_is)
    (case a33 => k_is)
    (case l33 => k_is)
    (case c33 => k_is)
    (case k33 => k_is)
    (case a34 => k_is)
    (case l34 => k_is)
    (case c34 => k_is)
    (case k34 => k_is)
    (case a35 => k_is)
    (case l35 => k_is)
    (case c35 => k_is)
    (case k35 => k_is)
    (case a36 => k_is)
    (case l36 => k_is)
    (case c36 => k_is)
    (case k36 => k_is)
    (case a37 => k_is)
    (case l37 => k_is)
    (case c37 => k_is)
    (case k37 => k_is)
    (case a38 => k_is)
    (case l38 => k_is)
    (case c38 => k_is)
    (case k38 => k_is)
    (case a39 => k_is)
    (case l39 => k_is)
    (case c39 => k_is)
    (case k39 => k_is)
    (case a40 => k_is)
    (case l40 => k_is)
    (case c40 => k_is)
    (case k40 => k_is)
    (case a41 => k_is)
    (case l41 => k_is)
    (case c41 => k_is)
    (case k41 => k_is)
    (case a42 => k_is)
    (case l42 => k_is)
    (case c42 => k_is)
    (case k42 => k_is)
    (case a43 => k_is)
    (case l43 => k_is)
    (case c43 => k_is)
    (case k43 => k_is)
    (case a44 => k_is)
    (case l44 => k_is)
    (case c44 => k_is)
    (case k44 => k_is)
    (case a45 => k_is)
    (case l45 => k_is)
    (case c45 => k_is)
    (case k45 => k_is)
    (case a46 => k_is)
    (case l46 => k_is)
    (case c46 => k_is)
    (case k46 => k_is)
    (case a47 => k_is)
    (case l47 => k_is)
    (case c47 => k_is)
    (case k47 => k_is)
    (case a48 => k_is)
    (case l48 => k_is)
    (case c48 => k_is)
    (case k48 => k_is)
