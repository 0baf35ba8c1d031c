import PyProof.Rows.All
import Wide.All
import OpenK.AllK
import Wide.FinOn
import HandS.ForMost
import HandS.Lambda
import HandS.TupAny
import HandS.TupMul
import HandS.Style
import HandS.Wide
import HandS.IsInst
import HandS.Conv
import PyProof.Rows.IntBool
import HandS.WordsExc
import HandS.TryOnly
import KE.GoesEnum
import HandS.Comp
import HandS.ExcCtx
import HandS.HotCalls
import HandS.ExcIs
import HandS.EndTab
import HandS.TupLe
import HandS.More
import HandS.SortOrd
import HandS.SortRule
import PySem.Challenge.RW_resetcount_k10_restart_statuses
set_option Elab.async false
set_option linter.all false
set_option maxRecDepth 100000
set_option maxHeartbeats 4000000
/-! Rc: a small machine over trees: a def's body as a plain function of its slots. -/
namespace Rc
open PySem

abbrev D := PyData

/-- what a slot (or a passing value) holds: nothing, a value that nobody changes, a list that is one's own, a dict of one's own -/
inductive Sv where
  | un
  | val (d : D)
  | ow (ds : List D)
  | dki (kvs : List (Int × D))
  | dkt (kvs : List (List Int × D))
abbrev Sl := List Sv

/-- an exception: its class, the limit that it bears -/
structure Ek where
  cls : Str
  lim : Option Int

inductive Res (α : Type) where
  | ok (a : α) (S : Sl)
  | ex (e : Ek) (S : Sl)
  | no
def Res.bind {α β : Type} : Res α → (α → Sl → Res β) → Res β
  | .ok a S, f => f a S
  | .ex e S, _ => .ex e S
  | .no, _ => .no
abbrev M (α : Type) := Sl → Res α

def toD : Sv → Option D
  | .val d => some d
  | .ow ds => some (.list ds)
  | _ => none
def rd (S : Sl) (i : Nat) : Option D := (S[i]?).bind toD
def lift (o : Option Sv) (S : Sl) : Res Sv := match o with
  | some r => .ok r S
  | none => .no

/-! ### expressions -/
inductive Od where
  | e (m : M Sv)
  | v (i : Nat)
def eLit (d : D) : M Sv := fun S => .ok (.val d) S
/-- a name as a value that is kept: an own list is locked from then on -/
def eV (i : Nat) : M Sv := fun S => match S[i]? with
  | some (.val d) => .ok (.val d) S
  | some (.ow ds) => .ok (.val (.list ds)) (S.set i (.val (.list ds)))
  | _ => .no
def b1 (f : D → Option Sv) (x : Option D) : Option Sv := x.bind f
def b2 (f : D → D → Option Sv) (x y : Option D) : Option Sv := x.bind fun a => y.bind fun b => f a b
def eOp1 (f : D → Option Sv) : Od → M Sv
  | .e m => fun S => (m S).bind fun r S1 => lift (b1 f (toD r)) S1
  | .v i => fun S => lift (b1 f (rd S i)) S
def eOp2 (f : D → D → Option Sv) : Od → Od → M Sv
  | .e m, .e n => fun S => (m S).bind fun x S1 => (n S1).bind fun y S2 => lift (b2 f (toD x) (toD y)) S2
  | .v i, .e n => fun S => if (rd S i).isSome then (n S).bind fun y S1 => lift (b2 f (rd S1 i) (toD y)) S1 else .no
  | .e m, .v j => fun S => (m S).bind fun x S1 => lift (b2 f (toD x) (rd S1 j)) S1
  | .v i, .v j => fun S => lift (b2 f (rd S i) (rd S j)) S
/-- several values that are kept, from the left -/
def evL : List (M Sv) → M (List D)
  | [], S => .ok [] S
  | m :: ms, S => (m S).bind fun r S1 => match toD r with
    | some d => (evL ms S1).bind fun ds S2 => .ok (d :: ds) S2
    | none => .no
def eTup (ms : List (M Sv)) : M Sv := fun S => (evL ms S).bind fun ds S1 => .ok (.val (.tuple ds)) S1
def eLst (ms : List (M Sv)) : M Sv := fun S => (evL ms S).bind fun ds S1 => .ok (.ow ds) S1
def asB (r : Sv) (S : Sl) : Res Bool := match r with
  | .val (.bool b) => .ok b S
  | _ => .no
def tB (m : M Sv) : M Bool := fun S => (m S).bind asB
def eB (m : M Bool) : M Sv := fun S => (m S).bind fun b S1 => .ok (.val (.bool b)) S1
def tAnd (a b : M Bool) : M Bool := fun S => (a S).bind fun x S1 => if x then b S1 else .ok false S1
def tOr (a b : M Bool) : M Bool := fun S => (a S).bind fun x S1 => if x then .ok true S1 else b S1
def tNot (a : M Bool) : M Bool := fun S => (a S).bind fun x S1 => .ok (!x) S1
/-- and, or as values: all but the last one True or False -/
def eAnd (a b : M Sv) : M Sv := fun S => (tB a S).bind fun x S1 => if x then b S1 else .ok (.val (.bool false)) S1
def eOr (a b : M Sv) : M Sv := fun S => (tB a S).bind fun x S1 => if x then .ok (.val (.bool true)) S1 else b S1
def eIf (c : M Bool) (a b : M Sv) : M Sv := fun S => (c S).bind fun x S1 => if x then a S1 else b S1

/-- a plain value: no object -/
def flat : D → Bool
  | .none => true
  | .bool _ => true
  | .int _ => true
  | .str _ => true
  | _ => false
def evS : Od → M D
  | .e m => fun S => (m S).bind fun r S1 => match r with
    | .val d => if flat d then .ok d S1 else .no
    | _ => .no
  | .v i => fun S => match S[i]? with
    | some (.val d) => if flat d then .ok d S else .no
    | _ => .no
/-- a op b op' c of plain values -/
def eChain (f g : D → D → Option Sv) (a b c : Od) : M Sv := fun S => (evS a S).bind fun x S1 => (evS b S1).bind fun y S2 => match f x y with
  | some (.val (.bool true)) => (evS c S2).bind fun z S3 => lift (g y z) S3
  | some (.val (.bool false)) => .ok (.val (.bool false)) S2
  | _ => .no

/-! ### targets -/
inductive Pat where
  | n (i : Nat)
  | t (ps : List Pat)
mutual
def Pat.put : Pat → D → Sl → Option Sl
  | .n i, d, S => some (S.set i (.val d))
  | .t ps, .tuple ds, S => Pat.puts ps ds S
  | .t ps, .list ds, S => Pat.puts ps ds S
  | .t _, _, _ => none
def Pat.puts : List Pat → List D → Sl → Option Sl
  | [], [], S => some S
  | p :: ps, d :: ds, S => (Pat.put p d S).bind fun S1 => Pat.puts ps ds S1
  | _, _, _ => none
end

/-! ### what is walked -/
def dSeq : D → Option (List D)
  | .list ds => some ds
  | .tuple ds => some ds
  | _ => none
def ofOpt {α : Type} (o : Option α) (S : Sl) : Res α := match o with
  | some a => .ok a S
  | none => .no
def datum (m : M Sv) : M D := fun S => (m S).bind fun r S1 => match toD r with
  | some d => .ok d S1
  | none => .no
/-- a list or tuple -/
def wSeq (m : M Sv) : M (List D) := fun S => (m S).bind fun r S1 => ofOpt ((toD r).bind dSeq) S1
def numsD (lo : Int) (n : Nat) : List D := (List.range n).map fun i : Nat => PyData.int (lo + i)
def rngOk (lo hi : Int) : Bool := decide (-4611686018427387904 ≤ lo ∧ lo < 4611686018427387904 ∧ -4611686018427387904 ≤ hi ∧ hi < 4611686018427387904 ∧ hi - lo ≤ 16777216)
def dRng (lo hi : D) : Option (List D) := match lo, hi with
  | .int a, .int b => if rngOk a b = true then some (numsD a (b - a).toNat) else none
  | _, _ => none
def wRng1 (m : M Sv) : M (List D) := fun S => (datum m S).bind fun b S1 => ofOpt (dRng (.int 0) b) S1
def wRng2 (a b : M Sv) : M (List D) := fun S => (datum a S).bind fun p S1 => (datum b S1).bind fun q S2 => ofOpt (dRng p q) S2
def zip2 : List D → List D → List D
  | a :: as, b :: bs => .tuple [a, b] :: zip2 as bs
  | _, _ => []
def zip3 : List D → List D → List D → List D
  | a :: as, b :: bs, c :: cs => .tuple [a, b, c] :: zip3 as bs cs
  | _, _, _ => []
def wZip2 (a b : M Sv) : M (List D) := fun S => (datum a S).bind fun p S1 => (datum b S1).bind fun q S2 =>
  ofOpt ((dSeq p).bind fun as => (dSeq q).bind fun bs => some (zip2 as bs)) S2
def wZip3 (a b c : M Sv) : M (List D) := fun S => (datum a S).bind fun p S1 => (datum b S1).bind fun q S2 => (datum c S2).bind fun r S3 =>
  ofOpt ((dSeq p).bind fun as => (dSeq q).bind fun bs => (dSeq r).bind fun cs => some (zip3 as bs cs)) S3
def enumF : Nat → List D → List D
  | _, [] => []
  | i, d :: ds => .tuple [.int i, d] :: enumF (i + 1) ds
def wEnum (m : M Sv) : M (List D) := fun S => (m S).bind fun r S1 => ofOpt (((toD r).bind dSeq).map (enumF 0)) S1

/-! ### comprehensions -/
def wipeS (own : List Nat) (S : Sl) : Sl := own.foldr (fun i T => T.set i .un) S
def backS (own : List Nat) (S1 S2 : Sl) : Sl := own.foldr (fun i T => T.set i (S1.getD i .un)) S2
mutual
def sameD : D → D → Bool
  | .none, .none => true
  | .bool a, .bool b => a == b
  | .int a, .int b => decide (a = b)
  | .str a, .str b => decide (a = b)
  | .list a, .list b => sameL a b
  | .tuple a, .tuple b => sameL a b
  | .dict a, .dict b => sameK a b
  | _, _ => false
def sameL : List D → List D → Bool
  | [], [] => true
  | a :: as, b :: bs => sameD a b && sameL as bs
  | _, _ => false
def sameK : List (D × D) → List (D × D) → Bool
  | [], [] => true
  | (a, b) :: r, (c, d) :: t => sameD a c && sameD b d && sameK r t
  | _, _ => false
end
def sameO : Option D → Option D → Bool
  | some a, some b => sameD a b
  | _, _ => false
/-- a check at each turn: the walked thing still stands -/
abbrev Ck := Sl → Sl → Bool
def ckT : Ck := fun _ _ => true
def ckN (i : Nat) : Ck := fun S S1 => sameO (rd S i) (rd S1 i)
/-- a name's list, walked without being locked -/
def wN (i : Nat) (f : List D → List D) : M (List D) := fun S => match rd S i with
  | some (.list ds) => .ok (f ds) S
  | some (.tuple ds) => .ok (f ds) S
  | _ => .no
def lcLoop (own : List Nat) (ck : Sl → Bool) (p : Pat) (c : M Bool) (e : M Sv) : List D → M (List D)
  | [], S => if ck (wipeS own S) = true then .ok [] S else .no
  | d :: ds, S => if ck (wipeS own S) = true then (match p.put d (wipeS own S) with
    | none => .no
    | some S1 => match c S1 with
      | .ok true S2 => (match e S2 with
        | .ok r S3 => (match toD r with
          | some x => (lcLoop own ck p c e ds S3).bind fun xs S4 => .ok (x :: xs) S4
          | none => .no)
        | _ => .no)
      | .ok false S2 => lcLoop own ck p c e ds S2
      | _ => .no) else .no
def tYes : M Bool := fun S => .ok true S
def eLc (own : List Nat) (ck : Ck) (w : M (List D)) (p : Pat) (c : M Bool) (e : M Sv) : M Sv := fun S =>
  (w S).bind fun ds S1 => match lcLoop own (ck S1) p c e ds S1 with
    | .ok xs S2 => .ok (.ow xs) (backS own S1 S2)
    | _ => .no

/-- [e for p in w if c for p1 in w1 if c1] -/
def lc2Loop (own own1 : List Nat) (ck : Sl → Bool) (p : Pat) (c : M Bool) (w1 : M (List D)) (p1 : Pat) (c1 : M Bool) (e : M Sv) : List D → M (List D)
  | [], S => if ck (wipeS own S) = true then .ok [] S else .no
  | d :: ds, S => if ck (wipeS own S) = true then (match p.put d (wipeS own S) with
    | none => .no
    | some S1 => match c S1 with
      | .ok true S2 => (match w1 S2 with
        | .ok ds1 S3 => (match lcLoop own1 (fun _ => true) p1 c1 e ds1 S3 with
          | .ok xs S4 => (lc2Loop own own1 ck p c w1 p1 c1 e ds S4).bind fun ys S5 => .ok (xs ++ ys) S5
          | _ => .no)
        | _ => .no)
      | .ok false S2 => lc2Loop own own1 ck p c w1 p1 c1 e ds S2
      | _ => .no) else .no
def eLc2 (own own1 : List Nat) (ck : Ck) (w : M (List D)) (p : Pat) (c : M Bool) (w1 : M (List D)) (p1 : Pat) (c1 : M Bool) (e : M Sv) : M Sv := fun S =>
  (w S).bind fun ds S1 => match lc2Loop own own1 (ck S1) p c w1 p1 c1 e ds S1 with
    | .ok xs S2 => if xs.length ≤ 16777216 then .ok (.ow xs) (backS own S1 S2) else .no
    | _ => .no

/-! ### statements -/
inductive Fl where
  | nx
  | rt (v : Sv)
  | bk
  | ct
def sPass : M Fl := fun S => .ok .nx S
def sSeq (a b : M Fl) : M Fl := fun S => (a S).bind fun f S1 => match f with
  | .nx => b S1
  | f => .ok f S1
def sIf (c : M Bool) (a b : M Fl) : M Fl := fun S => (c S).bind fun x S1 => if x then a S1 else b S1
def sRet (m : M Sv) : M Fl := fun S => (m S).bind fun r S1 => .ok (.rt r) S1
/-- return of an own name: a list goes out as it is -/
def sRetV (i : Nat) : M Fl := fun S => match S[i]? with
  | some (.val d) => .ok (.rt (.val d)) S
  | some (.ow ds) => .ok (.rt (.ow ds)) S
  | _ => .no
def sSet (i : Nat) (m : M Sv) : M Fl := fun S => (m S).bind fun r S1 => match r with
  | .un => .no
  | r => .ok .nx (S1.set i r)
/-- a, b = x, y -/
def sPar (i j : Nat) (m n : M Sv) : M Fl := fun S => (m S).bind fun x S1 => (n S1).bind fun y S2 => match x, y with
  | .un, _ => .no
  | _, .un => .no
  | x, y => .ok .nx ((S2.set i x).set j y)
/-- a, b, c = x, y, z -/
def sPar3 (i j l : Nat) (m n o : M Sv) : M Fl := fun S => (m S).bind fun x S1 => (n S1).bind fun y S2 => (o S2).bind fun z S3 => .ok .nx (((S3.set i x).set j y).set l z)
/-- a, b, .. = a tuple -/
def sUnp (p : Pat) (m : M Sv) : M Fl := fun S => (m S).bind fun r S1 => match (toD r).bind fun d => p.put d S1 with
  | some S2 => .ok .nx S2
  | none => .no
def sDrop (m : M Sv) : M Fl := fun S => (m S).bind fun _ S1 => .ok .nx S1
def forLoop (p : Pat) (b : M Fl) : List D → M Fl
  | [], S => .ok .nx S
  | d :: ds, S => match p.put d S with
    | none => .no
    | some S1 => (b S1).bind fun f S2 => match f with
      | .nx => forLoop p b ds S2
      | .ct => forLoop p b ds S2
      | .bk => .ok .nx S2
      | .rt v => .ok (.rt v) S2
def sFor (w : M (List D)) (p : Pat) (b : M Fl) : M Fl := fun S => (w S).bind fun ds S1 => forLoop p b ds S1
def whLoop (c : M Bool) (b : M Fl) : Nat → M Fl
  | 0, _ => .no
  | n + 1, S => (c S).bind fun x S1 => if x then (b S1).bind fun f S2 => (match f with
      | .nx => whLoop c b n S2
      | .ct => whLoop c b n S2
      | .bk => .ok .nx S2
      | .rt v => .ok (.rt v) S2) else .ok .nx S1
/-- a while of at most n turns -/
def sWhile (n : Nat) (c : M Bool) (b : M Fl) : M Fl := whLoop c b n

/-- x[k] = e, x a list of one's own -/
def sSetIx (x : Nat) (k e : M Sv) : M Fl := fun S => (datum e S).bind fun d S1 => if (rd S1 x).isSome then (k S1).bind fun i S2 => match i, S2[x]? with
  | .val (.int i), some (.ow ds) => (match L2.ixN ds.length i with
    | some j => .ok .nx (S2.set x (.ow (ds.set j d)))
    | none => .no)
  | _, _ => .no
  else .no
/-- x.append(e) -/
def isOw (S : Sl) (x : Nat) : Bool := match S[x]? with
  | some (.ow _) => true
  | _ => false
def sApp (x : Nat) (e : M Sv) : M Fl := fun S => if isOw S x then (datum e S).bind fun d S1 => match S1[x]? with
  | some (.ow ds) => if ds.length < 16777216 then .ok .nx (S1.set x (.ow (ds ++ [d]))) else .no
  | _ => .no
  else .no
/-- x op= e, x an int -/
def sAug (x : Nat) (f : D → D → Option Sv) (e : M Sv) : M Fl := fun S => match S[x]? with
  | some (.val a) => (e S).bind fun r S1 => match b2 f (some a) (toD r) with
    | some z => .ok .nx (S1.set x z)
    | none => .no
  | _ => .no
def sRaise (e : Ek) : M Fl := fun S => .ex e S

/-! ### defs -/
inductive FR where
  | ret (v : Sv) (outs : Sl)
  | ex (e : Ek) (outs : Sl)
  | no
abbrev AF := Sl → FR
def outsOf : Nat → Sl → Sl
  | 0, _ => []
  | n + 1, [] => .un :: outsOf n []
  | n + 1, s :: S => s :: outsOf n S
def mkF (n : Nat) (body : M Fl) : AF := fun args => match body (args ++ List.replicate (n - args.length) .un) with
  | .ok (.rt v) S => .ret v (outsOf args.length S)
  | .ok .nx S => .ret (.val .none) (outsOf args.length S)
  | .ex e S => .ex e (outsOf args.length S)
  | _ => .no
def bound (S : Sl) (i : Nat) : Bool := match S[i]? with
  | some (.val _) => true
  | some (.ow _) => true
  | _ => false
/-- an argument: a value, or a name whose list the callee may change -/
inductive Am where
  | d (m : M Sv)
  | b (i : Nat)
def evA : List Am → M (List (D ⊕ Nat))
  | [], S => .ok [] S
  | .d m :: as, S => (m S).bind fun r S1 => match toD r with
    | some d => (evA as S1).bind fun ds S2 => .ok (.inl d :: ds) S2
    | none => .no
  | .b i :: as, S => if bound S i then (evA as S).bind fun ds S2 => .ok (.inr i :: ds) S2 else .no
def argOf (S : Sl) : D ⊕ Nat → Sv
  | .inl d => .val d
  | .inr i => S.getD i .un
def isMut : Sv → Bool
  | .ow _ => true
  | .dki _ => true
  | .dkt _ => true
  | _ => false
def backA (S : Sl) : List (D ⊕ Nat) → Sl → Sl
  | .inr i :: as, o :: os => if isMut (S.getD i .un) then (backA S as os).set i o else backA S as os
  | .inl _ :: as, _ :: os => backA S as os
  | _, _ => S
def okB (S : Sl) : D ⊕ Nat → Bool
  | .inl _ => true
  | .inr i => bound S i
def eCall (F : AF) (as : List Am) : M Sv := fun S => (evA as S).bind fun vs S1 => if vs.all (okB S1) then (match F (vs.map (argOf S1)) with
  | .ret v outs => .ok v (backA S1 vs outs)
  | .ex e outs => .ex e (backA S1 vs outs)
  | .no => .no) else .no

/-! ### operators -/
def small (n : Nat) : Bool := decide (n ≤ 16777216)
def dAdd : D → D → Option Sv
  | .int i, .int j => some (.val (.int (i + j)))
  | .tuple xs, .tuple ys => if small (xs.length + ys.length) then some (.val (.tuple (xs ++ ys))) else none
  | .list xs, .list ys => if small (xs.length + ys.length) then some (.ow (xs ++ ys)) else none
  | .str x, .str y => if small (x.length + y.length) then some (.val (.str (x ++ y))) else none
  | .bool b, .int j => some (.val (.int ((if b = true then 1 else 0) + j)))
  | _, _ => none
def dAddI : D → D → Option Sv
  | .int i, .int j => some (.val (.int (i + j)))
  | _, _ => none
def dSubI : D → D → Option Sv
  | .int i, .int j => some (.val (.int (i - j)))
  | _, _ => none
def dSub : D → D → Option Sv
  | .int i, .int j => some (.val (.int (i - j)))
  | .bool b, .int j => some (.val (.int ((if b = true then 1 else 0) - j)))
  | _, _ => none
def w64 (i : Int) : Bool := decide (-18446744073709551616 < i ∧ i < 18446744073709551616)
def dMul : D → D → Option Sv
  | .int i, .int j => if w64 i || w64 j then some (.val (.int (i * j))) else none
  | _, _ => none
def dMod : D → D → Option Sv
  | .int i, .int j => if 0 < j then some (.val (.int (i % j))) else none
  | _, _ => none
def dDiv : D → D → Option Sv
  | .int i, .int j => if 0 < j ∧ j < 18446744073709551616 then some (.val (.int (i / j))) else none
  | _, _ => none
def dPow : D → D → Option Sv
  | .int i, .int j => if 0 ≤ j ∧ j ≤ 100 ∧ w64 i = true then some (.val (.int (i ^ j.toNat))) else none
  | _, _ => none
def dNeg : D → Option Sv
  | .int i => some (.val (.int (-i)))
  | _ => none
def dLt : D → D → Option Sv
  | .int i, .int j => some (.val (.bool (decide (i < j))))
  | _, _ => none
def dLe : D → D → Option Sv
  | .int i, .int j => some (.val (.bool (decide (i ≤ j))))
  | _, _ => none
def dGt : D → D → Option Sv
  | .int i, .int j => some (.val (.bool (decide (j < i))))
  | _, _ => none
def dGe : D → D → Option Sv
  | .int i, .int j => some (.val (.bool (decide (j ≤ i))))
  | _, _ => none
def dEq (x y : D) : Option Sv := if SeqAt.shaped x && SeqAt.shaped y then some (.val (.bool (PyData.eqv x y))) else none
def dNe (x y : D) : Option Sv := if SeqAt.shaped x && SeqAt.shaped y then some (.val (.bool (!PyData.eqv x y))) else none
def isN : D → Bool
  | .none => true
  | _ => false
def dIsN (x : D) : Option Sv := some (.val (.bool (isN x)))
def dNotN (x : D) : Option Sv := some (.val (.bool (!isN x)))
def dIx : D → D → Option Sv
  | .list xs, .int i => (L2.atI xs i).map .val
  | .tuple xs, .int i => (L2.atI xs i).map .val
  | _, _ => none
def dLen : D → Option Sv
  | .list xs => some (.val (.int xs.length))
  | .tuple xs => some (.val (.int xs.length))
  | _ => none
end Rc
namespace Rc
open PySem
/-! ### built-in functions -/
inductive Ty where
  | int | bool | str | list | tuple
def Ty.nm : Ty → String
  | .int => "int"
  | .bool => "bool"
  | .str => "str"
  | .list => "list"
  | .tuple => "tuple"
def isTy : Ty → D → Option Bool
  | .int, .int _ => some true
  | .int, .bool _ => some true
  | .int, .none => some false
  | .int, .str _ => some false
  | .int, .list _ => some false
  | .int, .tuple _ => some false
  | .bool, .int _ => some false
  | .bool, .bool _ => some true
  | .bool, .none => some false
  | .bool, .str _ => some false
  | .bool, .list _ => some false
  | .bool, .tuple _ => some false
  | .str, .int _ => some false
  | .str, .bool _ => some false
  | .str, .none => some false
  | .str, .str _ => some true
  | .str, .list _ => some false
  | .str, .tuple _ => some false
  | .list, .int _ => some false
  | .list, .bool _ => some false
  | .list, .none => some false
  | .list, .str _ => some false
  | .list, .list _ => some true
  | .list, .tuple _ => some false
  | .tuple, .int _ => some false
  | .tuple, .bool _ => some false
  | .tuple, .none => some false
  | .tuple, .str _ => some false
  | .tuple, .list _ => some false
  | .tuple, .tuple _ => some true
  | _, .dict _ => none
def dIsi (T : Ty) (d : D) : Option Sv := (isTy T d).map fun b => .val (.bool b)
def dAbs : D → Option Sv
  | .int i => some (.val (.int (if i < 0 then -i else i)))
  | _ => none
def dMax2 : D → D → Option Sv
  | .int i, .int j => some (.val (.int (if j > i then j else i)))
  | _, _ => none
def dMin2 : D → D → Option Sv
  | .int i, .int j => some (.val (.int (if j < i then j else i)))
  | _, _ => none
def asInts : List D → Option (List Int)
  | [] => some []
  | .int i :: ds => (asInts ds).map (i :: ·)
  | _ :: _ => none
/-- a kept table: tuples of ints as keys -/
def unT : List (D × D) → Option (List (List Int × D))
  | [] => some []
  | (.tuple ds, d) :: r => (asInts ds).bind fun ns => (unT r).map ((ns, d) :: ·)
  | _ => none
def asBools : List D → Option (List Bool)
  | [] => some []
  | .bool b :: ds => (asBools ds).map (b :: ·)
  | _ :: _ => none
def dSum (d : D) : Option Sv := (dSeq d).bind fun ds => (asInts ds).map fun ns => .val (.int ns.sum)
def dAll : D → Option Sv
  | .list ds => (asBools ds).map fun bs => .val (.bool (bs.all id))
  | _ => none
def maxL : List Int → Option Int
  | [] => none
  | a :: as => some (as.foldl (fun m x => if x > m then x else m) a)
def minL : List Int → Option Int
  | [] => none
  | a :: as => some (as.foldl (fun m x => if x < m then x else m) a)
def dMax : D → Option Sv
  | .list ds => (asInts ds).bind fun ns => (maxL ns).map fun m => .val (.int m)
  | _ => none
def dMin : D → Option Sv
  | .list ds => (asInts ds).bind fun ns => (minL ns).map fun m => .val (.int m)
  | _ => none
def dTuple : D → Option Sv
  | .list ds => some (.val (.tuple ds))
  | .tuple ds => some (.val (.tuple ds))
  | _ => none
def dList : D → Option Sv
  | .list ds => some (.ow ds)
  | .tuple ds => some (.ow ds)
  | _ => none
def repD (k : Nat) (ds : List D) : List D := (List.replicate k ds).flatten
/-- n * m, list * n, tuple * n -/
def dMulA : D → D → Option Sv
  | .list ds, .int k => if 0 ≤ k ∧ k ≤ 100000 ∧ ds.length ≤ 100 then some (.ow (repD k.toNat ds)) else none
  | .tuple ds, .int k => if 2 ≤ k ∧ k ≤ 1000 ∧ ds.length ≤ 1000 ∧ ds.isEmpty = false then some (.val (.tuple (repD k.toNat ds))) else none
  | a, b => dMul a b
/-- a slice with parts -/
def cutD (ds : List D) (lo hi : Option Int) : List D := (ds.drop (HT.sIx ds.length 0 lo)).take (HT.sIx ds.length ds.length hi - HT.sIx ds.length 0 lo)
def asPart : Option D → Option (Option Int)
  | none => some none
  | some (.int i) => some (some i)
  | _ => none
def dCut (lo hi : Option Int) : D → Option Sv
  | .list ds => some (.ow (cutD ds lo hi))
  | .tuple ds => some (.val (.tuple (cutD ds lo hi)))
  | _ => none
/-- x[lo:hi] -/
def evP : Option (M Sv) → M (Option Int)
  | none, S => .ok none S
  | some m, S => (m S).bind fun r S1 => match r with
    | .val (.int i) => .ok (some i) S1
    | _ => .no
def eCut (o : Od) (lo hi : Option (M Sv)) : M Sv := match o with
  | .e m => fun S => (m S).bind fun x S1 => (evP lo S1).bind fun l S2 => (evP hi S2).bind fun h S3 => lift ((toD x).bind (dCut l h)) S3
  | .v i => fun S => if (rd S i).isSome then (evP lo S).bind fun l S2 => (evP hi S2).bind fun h S3 => lift ((rd S3 i).bind (dCut l h)) S3 else .no
/-! ### a lambda that is handed to a def -/
/-- a dict is put away, and back -/
def hd : Sv → Sv
  | .dki _ | .dkt _ => .un
  | s => s
def rs (s t : Sv) : Sv := match s with
  | .dki _ | .dkt _ => s
  | _ => t
def mutOk (S S1 : Sl) : Bool := (S1.zip S).all fun p => !isMut p.1 || isMut p.2
/-- what the lambda gives is told, or the name of what it raises -/
def eTry (nms : Str → Option Str) (m : M Sv) : M Sv := fun S => match m (S.map hd) with
  | .ok (.val d) S1 => if mutOk (S.map hd) S1 then .ok (.val (.tuple [.str "told", d])) (List.zipWith rs S S1) else .no
  | .ok _ _ => .no
  | .ex e S1 => if mutOk (S.map hd) S1 && e.lim.isNone then (match nms e.cls with
    | some nm => .ok (.val (.str nm)) (List.zipWith rs S S1)
    | none => .no) else .no
  | .no => .no
/-- what the called def makes of it -/
def tellF (nms : Str → Option Str) (S S1 : Sl) (vs : List (D ⊕ Nat)) : FR → Res Sv
  | .ret (.val d) outs => if mutOk (S.map hd) (backA S1 vs outs) then .ok (.val (.tuple [.str "told", d])) (List.zipWith rs S (backA S1 vs outs)) else .no
  | .ex e outs => if mutOk (S.map hd) (backA S1 vs outs) && e.lim.isNone then (match nms e.cls with
    | some nm => .ok (.val (.str nm)) (List.zipWith rs S (backA S1 vs outs))
    | none => .no) else .no
  | _ => .no
def eTryC (nms : Str → Option Str) (F : AF) (as : List Am) : M Sv := fun S => match evA as (S.map hd) with
  | .ok vs S1 => if vs.all (okB S1) then tellF nms S S1 vs (F (vs.map (argOf S1))) else .no
  | _ => .no
/-! ### dicts of one's own with ints as keys -/
def lookD (kvs : List (Int × D)) (k : Int) : Option D := (kvs.find? fun p => decide (p.1 = k)).map (·.2)
def hasD (kvs : List (Int × D)) (k : Int) : Bool := kvs.any fun p => decide (p.1 = k)
def putD (kvs : List (Int × D)) (k : Int) (d : D) : List (Int × D) :=
  if hasD kvs k = true then kvs.map (fun p => if p.1 = k then (p.1, d) else p) else kvs ++ [(k, d)]
def eNewK : M Sv := fun S => .ok (.dki []) S
def dkAt (S : Sl) (i : Nat) : Option (List (Int × D)) := match S[i]? with
  | some (.dki kvs) => some kvs
  | _ => none
def eDGet (i : Nat) (k : M Sv) : M Sv := fun S => if (dkAt S i).isSome then (k S).bind fun r S1 => match r, dkAt S1 i with
  | .val (.int n), some kvs => (match lookD kvs n with
    | some d => .ok (.val d) S1
    | none => .no)
  | _, _ => .no else .no
def eDGetD (i : Nat) (k x : M Sv) : M Sv := fun S => if (dkAt S i).isSome then (k S).bind fun r S1 => (datum x S1).bind fun z S2 => match r, dkAt S2 i with
  | .val (.int n), some kvs => .ok (.val ((lookD kvs n).getD z)) S2
  | _, _ => .no else .no
def eDLen (i : Nat) : M Sv := fun S => match dkAt S i with
  | some kvs => .ok (.val (.int kvs.length)) S
  | none => .no
def srtI (ns : List Int) : List Int := ns.mergeSort fun a b => decide (a ≤ b)
def eDSorted (i : Nat) : M Sv := fun S => match dkAt S i with
  | some kvs => if kvs.length < 64 then .ok (.ow ((srtI (kvs.map (·.1))).map PyData.int)) S else .no
  | none => .no
def sDPut (i : Nat) (k e : M Sv) : M Fl := fun S => (datum e S).bind fun d S1 => if (dkAt S1 i).isSome then (k S1).bind fun r S2 => match r, dkAt S2 i with
  | .val (.int n), some kvs => if kvs.length < 16777216 then .ok .nx (S2.set i (.dki (putD kvs n d))) else .no
  | _, _ => .no else .no

/-! ### dicts of one's own with tuples of ints as keys; kept ones -/
def lookT (kvs : List (List Int × D)) (k : List Int) : Option D := (kvs.find? fun p => decide (p.1 = k)).map (·.2)
def hasT (kvs : List (List Int × D)) (k : List Int) : Bool := kvs.any fun p => decide (p.1 = k)
def putT (kvs : List (List Int × D)) (k : List Int) (d : D) : List (List Int × D) :=
  if hasT kvs k = true then kvs.map (fun p => if p.1 = k then (p.1, d) else p) else kvs ++ [(k, d)]
def eNewT : M Sv := fun S => .ok (.dkt []) S
def dtAt (S : Sl) (i : Nat) : Option (List (List Int × D)) := match S[i]? with
  | some (.dkt kvs) => some kvs
  | _ => none
def sTPut (i : Nat) (ks : List (M Sv)) (e : M Sv) : M Fl := fun S => (datum e S).bind fun d S1 => if (dtAt S1 i).isSome then (evL ks S1).bind fun ds S2 => match asInts ds, dtAt S2 i with
  | some ns, some kvs => if kvs.length < 16777216 then .ok .nx (S2.set i (.dkt (putT kvs ns d))) else .no
  | _, _ => .no else .no
/-- a kept table, as a value -/
def fzD (ts : List (List Int × D)) : D := .dict (ts.map fun p => (.tuple (p.1.map PyData.int), p.2))
def fzAt (S : Sl) (i : Nat) : Option (List (List Int × D)) := match S[i]? with
  | some (.val (.dict kvs)) => unT kvs
  | _ => none
/-- x[a, b] of a kept table -/
def eTGet (i : Nat) (ks : List (M Sv)) : M Sv := fun S => if (fzAt S i).isSome then (evL ks S).bind fun ds S1 => match asInts ds, fzAt S1 i with
  | some ns, some kvs => (match lookT kvs ns with
    | some d => .ok (.val d) S1
    | none => .no)
  | _, _ => .no else .no
/-- its keys are walked: from then on it is kept -/
def wKeysT (i : Nat) : M (List D) := fun S => match dtAt S i with
  | some ts => if ts.all (fun p => flat p.2) = true ∧ ts.length ≤ 16777216 then .ok (ts.map fun p => .tuple (p.1.map PyData.int)) (S.set i (.val (fzD ts))) else .no
  | none => .no

/-! ### ascending, each once -/
def insU (k : Int) : List Int → List Int
  | [] => [k]
  | a :: l => if k < a then k :: a :: l else if k = a then a :: l else a :: insU k l
def srtU (ns : List Int) : List Int := ns.foldr insU []
/-- sorted(set(a)) -/
def dSrtSet : D → Option Sv
  | .list ds => (asInts ds).bind fun ns => if ns.length < 64 then some (.ow ((srtU ns).map PyData.int)) else none
  | _ => none
/-! ### a text among texts -/
def asStrs : List D → Option (List Str)
  | [] => some []
  | .str x :: ds => (asStrs ds).map (x :: ·)
  | _ :: _ => none
def dIn : D → D → Option Sv
  | .str x, c => ((dSeq c).bind asStrs).map fun ss => .val (.bool (ss.any fun y => y == x))
  | _, _ => none
def dNotIn : D → D → Option Sv
  | .str x, c => ((dSeq c).bind asStrs).map fun ss => .val (.bool (!ss.any fun y => y == x))
  | _, _ => none
/-- a is True, a is False -/
def dIsB (b : Bool) : D → Option Sv
  | .bool c => some (.val (.bool (c == b)))
  | _ => none
def dIsNB (b : Bool) : D → Option Sv
  | .bool c => some (.val (.bool (!(c == b))))
  | _ => none
end Rc

/-! Rc: how the machine's values lie in the layer's heap. -/
namespace Rc
open PySem PySem.Spec PyProof.Rows L2
abbrev St := L2.St

/-- a list that nobody changes -/
def FzL (K : PySem.W.Frag) (H : Hp) (a : Addr) (xs : List V) : Prop :=
  (∃ o, H a = some (.frz o (.lst xs))) ∨
    ∃ (its : Array Value) (n : Nat), K.lookup a = some { cls := .type "list", data := .seq its n } ∧ its.size ≤ sizeLine ∧ Vals xs its.toList
theorem FzL.sq {K : PySem.W.Frag} {H : Hp} {a : Addr} {xs : List V} (h : FzL K H a xs) : SqL K H a xs := by
  rcases h with h | ⟨its, n, h, z, r⟩
  · exact .inl (.inr h)
  · exact .inr ⟨_, its, n, h, rfl, rfl, rfl, z, r⟩
/-- a list that is read -/
def LsX (K : PySem.W.Frag) (H : Hp) (a : Addr) (xs : List V) : Prop := H a = some (.lst xs) ∨ FzL K H a xs
theorem LsX.sq {K : PySem.W.Frag} {H : Hp} {a : Addr} {xs : List V} (h : LsX K H a xs) : SqL K H a xs := by
  rcases h with h | h
  · exact .inl (.inl h)
  · exact h.sq
theorem LsX.at {X : Cx} {pins : List (Addr × Obj)} {σ : L2.St} {H : Hp} {s : Shared} {a : Addr} {xs : List V} (I : Inv X pins σ H s) (h : LsX X.K H a xs) :
    xs.length ≤ sizeLine ∧ ∃ (its : List Value) (n : Nat), Vals xs its ∧ xs.length = its.length ∧ s.heap.get? a = some { cls := .type "list", data := .seq its.toArray n } := by
  rcases h with h | ⟨o, h⟩ | ⟨its, n, h, z, r⟩
  · exact Inv.lstM I h
  · obtain ⟨_, z, its, n, r, e⟩ := I.hok a _ h
    exact ⟨z, its, n, r, r.length, e⟩
  · have e := r.length
    simp only [Array.length_toList] at e
    exact ⟨by omega, its.toList, n, r, by simpa using e, by simpa using I.kIn a _ h⟩

/-- the name of the lambdas of the def that is asked -/
def lamQ : Str := "law.<locals>.<lambda>"
/-- the lambdas that stand among the doors, by their tags -/
class LamTbl where
  f : Str → Option (Arguments × Expr × Scope)
/-- the function object of a lambda without captured names -/
def LamO (a c : Addr) (L : Arguments × Expr × Scope) : HO := .ext fun h => ∃ pm ctv, h.get? a = some (PySem.W.kla_obj "<lambda>" lamQ L.1 L.2.1 L.2.2 [] pm c ctv)
variable [LamTbl]
section
variable (K : PySem.W.Frag) (mg : Str → Option Value)
/-- a plain value, as it lies -/
def flV : D → V
  | .bool b => .bl b
  | .int i => .int i
  | .str x => .str x
  | _ => .non
mutual
def Rep (H : Hp) : D → V → Prop
  | .none, v => v = .non
  | .bool b, v => v = .bl b
  | .int i, v => v = .int i
  | .str x, v => v = .str x
  | .tuple ds, v => ∃ a xs, v = .ref a ∧ SqT K H a xs ∧ RepL H ds xs
  | .list ds, v => ∃ a xs, v = .ref a ∧ FzL K H a xs ∧ RepL H ds xs
  | .dict kvs, v => (∃ x a, kvs = [(.str x, .none)] ∧ mg x = some (.ref a) ∧ v = .ref a) ∨
    (∃ x a c L, kvs = [(.str x, .bool true)] ∧ LamTbl.f x = some L ∧ v = .ref a ∧ H a = some (LamO a c L) ∧ H c = some (LamX.CodeO c lamQ)) ∨
    ∃ a o ks ts, v = .ref a ∧ unT kvs = some ts ∧ H a = some (.frz o (.dT ks)) ∧ ks.map (·.1) = ts.map (fun p => p.1.map Sum.inl) ∧ ks.map (·.2) = ts.map (fun p => flV p.2) ∧ ts.all (fun p => flat p.2) = true
def RepL (H : Hp) : List D → List V → Prop
  | [], xs => xs = []
  | d :: ds, xs => ∃ v vs, xs = v :: vs ∧ Rep H d v ∧ RepL H ds vs
end
end

/-- no table of code objects -/
abbrev nT (o : HO) : Prop := ∀ ps, o ≠ .tbl ps
theorem nT.lst {xs : List V} : nT (.lst xs) := fun _ z => by cases z
theorem nT.tup {xs : List V} : nT (.tup xs) := fun _ z => by cases z
theorem nT.frz {o : Obj} {u : HO} : nT (.frz o u) := fun _ z => by cases z
theorem nT.dK {ks} : nT (.dK ks) := fun _ z => by cases z
theorem nT.dT {ks} : nT (.dT ks) := fun _ z => by cases z
theorem nT.ext {φ : Heap → Prop} : nT (.ext φ) := fun _ z => by cases z
/-- the tables of these lambdas stay such tables -/
def TbM (H H' : Hp) : Prop := ∀ P, LamX.TabS H P lamQ → LamX.TabS H' P lamQ
theorem TbM.refl (H : Hp) : TbM H H := fun _ t => t
theorem TbM.trans {H H1 H2 : Hp} (a : TbM H H1) (b : TbM H1 H2) : TbM H H2 := fun P t => b P (a P t)
theorem TbM.of_same {H H' : Hp} (s : ∀ a o, H a = some o → H' a = some o) : TbM H H' := fun _ t => t.ext s
/-- an address that bears no table and no code object is written -/
theorem TbM.upd {H : Hp} {a : Addr} {u v : HO} (h : H a = some u) (n1 : nT u) (n2 : ∀ q, u ≠ LamX.CodeO a q) : TbM H (upd H a v) := fun P t => by
  obtain ⟨ps, h1, h2, h3⟩ := t
  refine ⟨ps, ?_, h2, fun pos cv hc => ?_⟩
  · rw [upd_ne]
    · exact h1
    · rintro rfl
      rw [h] at h1
      exact n1 ps (Option.some.inj h1)
  · obtain ⟨c, e1, e2⟩ := h3 pos cv hc
    refine ⟨c, e1, ?_⟩
    rw [upd_ne]
    · exact e2
    · rintro rfl
      rw [h] at e2
      exact n2 _ (Option.some.inj e2)
theorem TbM.hide {H : Hp} {a : Addr} {xs : List V} (h : H a = some (.lst xs)) : TbM H (fun b => if b = a then none else H b) := fun P t => by
  obtain ⟨ps, h1, h2, h3⟩ := t
  refine ⟨ps, ?_, h2, fun pos cv hc => ?_⟩
  · show (if P = a then none else H P) = _
    rw [if_neg]
    · exact h1
    · rintro rfl
      rw [h] at h1
      cases h1
  · obtain ⟨c, e1, e2⟩ := h3 pos cv hc
    refine ⟨c, e1, ?_⟩
    show (if c = a then none else H c) = _
    rw [if_neg]
    · exact e2
    · rintro rfl
      rw [h] at e2
      have z := Option.some.inj e2
      unfold LamX.CodeO at z
      cases z
theorem lst_ne {xs : List V} {a : Addr} (q : Str) : HO.lst xs ≠ LamX.CodeO a q := fun z => by unfold LamX.CodeO at z; cases z
/-- what is never written stays -/
def Mono (H H' : Hp) : Prop := (∀ a xs, H a = some (.tup xs) → H' a = some (.tup xs)) ∧ (∀ a o u, H a = some (.frz o u) → H' a = some (.frz o u)) ∧ ∀ a φ, H a = some (.ext φ) → H' a = some (.ext φ)
theorem Mono.refl (H : Hp) : Mono H H := ⟨fun _ _ h => h, fun _ _ _ h => h, fun _ _ h => h⟩
theorem Mono.trans {H H1 H2 : Hp} (a : Mono H H1) (b : Mono H1 H2) : Mono H H2 := ⟨fun c xs h => b.1 c xs (a.1 c xs h), fun c o u h => b.2.1 c o u (a.2.1 c o u h), fun c φ h => b.2.2 c φ (a.2.2 c φ h)⟩
theorem Mono.of_same {H H' : Hp} (s : Same H H') : Mono H H' := ⟨fun a xs h => s a _ h, fun a o u h => s a _ h, fun a φ h => s a _ h⟩
section
variable {K : PySem.W.Frag} {mg : Str → Option Value} {H H' : Hp}
theorem Mono.sqT (m : Mono H H') {a : Addr} {xs : List V} (h : SqT K H a xs) : SqT K H' a xs := by
  rcases h with (h | ⟨o, h⟩) | h
  · exact .inl (.inl (m.1 _ _ h))
  · exact .inl (.inr ⟨o, m.2.1 _ _ _ h⟩)
  · exact .inr h
theorem Mono.fzL (m : Mono H H') {a : Addr} {xs : List V} (h : FzL K H a xs) : FzL K H' a xs := by
  rcases h with ⟨o, h⟩ | h
  · exact .inl ⟨o, m.2.1 _ _ _ h⟩
  · exact .inr h
mutual
theorem Rep.mono (m : Mono H H') : ∀ (d : D) {v : V}, Rep K mg H d v → Rep K mg H' d v
  | .none, _, h => h
  | .bool _, _, h => h
  | .int _, _, h => h
  | .str _, _, h => h
  | .tuple ds, _, h => by
    obtain ⟨a, xs, e, s, r⟩ := h
    exact ⟨a, xs, e, m.sqT s, RepL.mono m ds r⟩
  | .list ds, _, h => by
    obtain ⟨a, xs, e, s, r⟩ := h
    exact ⟨a, xs, e, m.fzL s, RepL.mono m ds r⟩
  | .dict _, _, h => by
    rcases h with h | ⟨x, a, c, L, e1, e2, e3, e4, e5⟩ | ⟨a, o, ks, ts, e, u, q, r⟩
    · exact .inl h
    · exact .inr (.inl ⟨x, a, c, L, e1, e2, e3, m.2.2 _ _ e4, m.2.2 _ _ e5⟩)
    · exact .inr (.inr ⟨a, o, ks, ts, e, u, m.2.1 a o _ q, r⟩)
theorem RepL.mono (m : Mono H H') : ∀ (ds : List D) {xs : List V}, RepL K mg H ds xs → RepL K mg H' ds xs
  | [], _, h => h
  | d :: ds, _, h => by
    obtain ⟨v, vs, e, r, rs⟩ := h
    exact ⟨v, vs, e, Rep.mono m d r, RepL.mono m ds rs⟩
end
theorem RepL.length : ∀ {ds : List D} {xs : List V}, RepL K mg H ds xs → xs.length = ds.length
  | [], _, h => by rw [show _ = _ from h]; rfl
  | d :: ds, _, h => by
    obtain ⟨v, vs, e, _, rs⟩ := h
    rw [e, List.length_cons, List.length_cons, RepL.length rs]
theorem RepL.append : ∀ {ds es : List D} {xs ys : List V}, RepL K mg H ds xs → RepL K mg H es ys → RepL K mg H (ds ++ es) (xs ++ ys)
  | [], _, _, _, h, h' => by rw [show _ = _ from h]; exact h'
  | d :: ds, es, _, ys, h, h' => by
    obtain ⟨v, vs, e, r, rs⟩ := h
    subst e
    exact ⟨v, vs ++ ys, rfl, r, RepL.append rs h'⟩
theorem RepL.one {d : D} {v : V} (h : Rep K mg H d v) : RepL K mg H [d] [v] := ⟨v, [], rfl, h, rfl⟩
theorem RepL.get : ∀ {ds : List D} {xs : List V} {i : Nat} {d : D}, RepL K mg H ds xs → ds[i]? = some d → ∃ v, xs[i]? = some v ∧ Rep K mg H d v
  | [], _, _, _, _, e => by simp at e
  | d :: ds, _, 0, _, h, e => by
    obtain ⟨v, vs, e', r, rs⟩ := h
    subst e'
    simp at e
    subst e
    exact ⟨v, rfl, r⟩
  | d :: ds, _, i + 1, _, h, e => by
    obtain ⟨v, vs, e', r, rs⟩ := h
    subst e'
    obtain ⟨u, h1, h2⟩ := RepL.get (i := i) rs (by simpa using e)
    exact ⟨u, by simpa using h1, h2⟩
theorem RepL.getv : ∀ {ds : List D} {xs : List V} {i : Nat} {v : V}, RepL K mg H ds xs → xs[i]? = some v → ∃ d, ds[i]? = some d ∧ Rep K mg H d v
  | [], _, _, _, h, e => by
    rw [show _ = _ from h] at e
    simp at e
  | d :: ds, _, 0, _, h, e => by
    obtain ⟨v, vs, e', r, rs⟩ := h
    subst e'
    simp at e
    subst e
    exact ⟨d, rfl, r⟩
  | d :: ds, _, i + 1, _, h, e => by
    obtain ⟨v, vs, e', r, rs⟩ := h
    subst e'
    obtain ⟨u, h1, h2⟩ := RepL.getv (i := i) rs (by simpa using e)
    exact ⟨u, by simpa using h1, h2⟩
theorem RepL.set : ∀ {ds : List D} {xs : List V} (i : Nat) {d : D} {v : V}, RepL K mg H ds xs → Rep K mg H d v → RepL K mg H (ds.set i d) (xs.set i v)
  | [], _, _, _, _, h, _ => by
    rw [show _ = _ from h]
    exact rfl
  | c :: ds, _, 0, _, _, h, r => by
    obtain ⟨u, us, e, _, rs⟩ := h
    subst e
    exact ⟨_, us, rfl, r, rs⟩
  | c :: ds, _, i + 1, _, _, h, r => by
    obtain ⟨u, us, e, q, rs⟩ := h
    subst e
    exact ⟨u, us.set i _, rfl, q, RepL.set i rs r⟩
theorem RepL.take : ∀ {ds : List D} {xs : List V} (n : Nat), RepL K mg H ds xs → RepL K mg H (ds.take n) (xs.take n)
  | _, _, 0, _ => rfl
  | [], _, n + 1, h => by
    rw [show _ = _ from h]
    exact rfl
  | d :: ds, _, n + 1, h => by
    obtain ⟨v, vs, e, r, rs⟩ := h
    subst e
    exact ⟨v, vs.take n, rfl, r, RepL.take n rs⟩
theorem RepL.drop : ∀ {ds : List D} {xs : List V} (n : Nat), RepL K mg H ds xs → RepL K mg H (ds.drop n) (xs.drop n)
  | _, _, 0, h => h
  | [], _, n + 1, h => by
    rw [show _ = _ from h]
    exact rfl
  | d :: ds, _, n + 1, h => by
    obtain ⟨v, vs, e, r, rs⟩ := h
    subst e
    exact RepL.drop n rs
theorem RepL.reverse : ∀ {ds : List D} {xs : List V}, RepL K mg H ds xs → RepL K mg H ds.reverse xs.reverse
  | [], _, h => by
    rw [show _ = _ from h]
    exact rfl
  | d :: ds, _, h => by
    obtain ⟨v, vs, e, r, rs⟩ := h
    subst e
    rw [List.reverse_cons, List.reverse_cons]
    exact RepL.append (RepL.reverse rs) (RepL.one r)
end

/-! ### the slots -/
/-- what a frame was given: the heap at its entry, the lists that it may change -/
structure Fx where
  H0 : Hp
  brw : Nat → Option Addr

section
variable (K : PySem.W.Frag) (mg : Str → Option Value)
/-- a value as it lies: own lists stand as lists -/
def RSv (H : Hp) (ov : Option (Option V)) : Sv → Prop
  | .un => True
  | .val d => ∃ v, ov = some (some v) ∧ Rep K mg H d v
  | .ow ds => ∃ a xs, ov = some (some (.ref a)) ∧ H a = some (.lst xs) ∧ RepL K mg H ds xs
  | .dki kvs => ∃ a ks, ov = some (some (.ref a)) ∧ H a = some (.dK ks) ∧ ks.map (·.1) = kvs.map (fun p => Sum.inl p.1) ∧ RepL K mg H (kvs.map (·.2)) (ks.map (·.2))
  | .dkt kvs => ∃ a ks, ov = some (some (.ref a)) ∧ H a = some (.dT ks) ∧ ks.map (·.1) = kvs.map (fun p => p.1.map Sum.inl) ∧ RepL K mg H (kvs.map (·.2)) (ks.map (·.2))
structure RSt (F : Fx) (σ : St) (H : Hp) (S : Sl) : Prop where
  len : S.length = σ.length
  at_ : ∀ (i : Nat) s, S[i]? = some s → RSv K mg H σ[i]? s
  inj : ∀ (i j : Nat) s t a, S[i]? = some s → S[j]? = some t → isMut s = true → isMut t = true → σ[i]? = some (some (.ref a)) → σ[j]? = some (some (.ref a)) → i = j
  ownd : ∀ (i : Nat) s a, S[i]? = some s → isMut s = true → σ[i]? = some (some (.ref a)) → F.brw i = some a ∨ F.H0 a = none
  lent : ∀ (i : Nat) a, F.brw i = some a → σ[i]? = some (some (.ref a)) ∧ F.H0 a ≠ none ∧ ∃ ds, S[i]? = some (.ow ds) ∨ S[i]? = some (.val (.list ds))
  frame : ∀ a o, F.H0 a = some o → nT o → (∀ i, F.brw i ≠ some a) → H a = some o
  dom : ∀ a, F.H0 a ≠ none → H a ≠ none
  mono : Mono F.H0 H
  tabs : TbM F.H0 H
end

/-- the addresses of the lists that the slots own -/
def Owns (σ : St) (S : Sl) (a : Addr) : Prop := ∃ (i : Nat) (s : Sv), S[i]? = some s ∧ isMut s = true ∧ σ[i]? = some (some (.ref a))
/-- all that the slots don't own is as it was -/
structure Keep (σ : St) (S : Sl) (H H' : Hp) : Prop where
  kp : ∀ a o, H a = some o → nT o → ¬ Owns σ S a → H' a = some o
  tb : TbM H H'
theorem Keep.refl (σ : St) (S : Sl) (H : Hp) : Keep σ S H H := ⟨fun _ _ h _ _ => h, TbM.refl H⟩
theorem Keep.of_same {σ : St} {S : Sl} {H H' : Hp} (s : Same H H') : Keep σ S H H' := ⟨fun a o h _ _ => s a o h, TbM.of_same s⟩
theorem Keep.trans {σ : St} {S S1 : Sl} {H H1 H2 : Hp} (a : Keep σ S H H1) (b : Keep σ S1 H1 H2) (sub : ∀ x, Owns σ S1 x → Owns σ S x) : Keep σ S H H2 :=
  ⟨fun c o h t n => b.kp c o (a.kp c o h t n) t fun z => n (sub c z), a.tb.trans b.tb⟩
def sub (σ : St) (S1 S : Sl) : Prop := ∀ x, Owns σ S1 x → Owns σ S x
theorem sub.refl (σ : St) (S : Sl) : sub σ S S := fun _ h => h
theorem sub.trans {σ : St} {S S1 S2 : Sl} (a : sub σ S1 S) (b : sub σ S2 S1) : sub σ S2 S := fun x h => a x (b x h)

section
variable {K : PySem.W.Frag} {mg : Str → Option Value} {F : Fx} {σ : St} {H H' : Hp} {S S' : Sl}
/-- an own address bears a list or a dict -/
theorem RSt.own_kind (r : RSt K mg F σ H S) {a : Addr} (h : Owns σ S a) : (∃ xs, H a = some (.lst xs)) ∨ (∃ ks, H a = some (.dK ks)) ∨ ∃ ks, H a = some (.dT ks) := by
  obtain ⟨i, s, e, m, q⟩ := h
  have z := r.at_ i s e
  cases s with
  | un => cases m
  | val d => cases m
  | ow ds =>
    obtain ⟨b, xs, e1, e2, _⟩ := z
    rw [q] at e1
    cases e1
    exact .inl ⟨xs, e2⟩
  | dki kvs =>
    obtain ⟨b, xs, e1, e2, _⟩ := z
    rw [q] at e1
    cases e1
    exact .inr (.inl ⟨xs, e2⟩)
  | dkt kvs =>
    obtain ⟨b, xs, e1, e2, _⟩ := z
    rw [q] at e1
    cases e1
    exact .inr (.inr ⟨xs, e2⟩)
theorem RSt.own_nT (r : RSt K mg F σ H S) {a : Addr} (h : Owns σ S a) {u : HO} (e : H a = some u) : nT u := by
  rcases r.own_kind h with ⟨_, z⟩ | ⟨_, z⟩ | ⟨_, z⟩ <;> rw [z] at e <;> cases e
  · exact nT.lst
  · exact nT.dK
  · exact nT.dT
theorem RSt.own_ne (r : RSt K mg F σ H S) {a : Addr} (h : Owns σ S a) : H a ≠ none := by
  rcases r.own_kind h with ⟨_, e⟩ | ⟨_, e⟩ | ⟨_, e⟩ <;> rw [e] <;> exact fun z => by cases z
theorem RSt.fresh_not (r : RSt K mg F σ H S) {a : Addr} (h : H a = none) : ¬ Owns σ S a := fun z => r.own_ne z h
theorem RSt.keep_mono (r : RSt K mg F σ H S) (k : Keep σ S H H') : Mono H H' := by
  refine ⟨fun a xs h => k.kp a _ h nT.tup fun z => ?_, fun a o u h => k.kp a _ h nT.frz fun z => ?_, fun a φ h => k.kp a _ h nT.ext fun z => ?_⟩ <;>
    (rcases r.own_kind z with ⟨_, e⟩ | ⟨_, e⟩ | ⟨_, e⟩ <;> rw [e] at h <;> cases h)
theorem RSv.mono {ov : Option (Option V)} {s : Sv} (m : Mono H H') (h : RSv K mg H ov s) (k : ∀ a, isMut s = true → ov = some (some (.ref a)) → H' a = H a) : RSv K mg H' ov s := by
  cases s with
  | un => exact trivial
  | val d =>
    obtain ⟨v, e, r⟩ := h
    exact ⟨v, e, Rep.mono m d r⟩
  | ow ds =>
    obtain ⟨a, xs, e, q, r⟩ := h
    exact ⟨a, xs, e, by rw [k a rfl e]; exact q, RepL.mono m ds r⟩
  | dki kvs =>
    obtain ⟨a, xs, e, q, z, r⟩ := h
    exact ⟨a, xs, e, by rw [k a rfl e]; exact q, z, RepL.mono m _ r⟩
  | dkt kvs =>
    obtain ⟨a, xs, e, q, z, r⟩ := h
    exact ⟨a, xs, e, by rw [k a rfl e]; exact q, z, RepL.mono m _ r⟩
/-- the heap has grown -/
theorem RSt.grow (r : RSt K mg F σ H S) (s : Same H H') : RSt K mg F σ H' S where
  len := r.len
  at_ := fun i x e => (r.at_ i x e).mono (Mono.of_same s) fun a m q => by
    have o : Owns σ S a := ⟨i, x, e, m, q⟩
    cases h : H a with
    | none => exact absurd h (r.own_ne o)
    | some u => exact s a u h
  inj := r.inj
  ownd := r.ownd
  lent := r.lent
  frame := fun a o e t n => s a o (r.frame a o e t n)
  dom := fun a n => by
    cases h : H a with
    | none => exact absurd h (r.dom a n)
    | some u => rw [s a u h]; exact fun z => by cases z
  mono := r.mono.trans (Mono.of_same s)
  tabs := r.tabs.trans (TbM.of_same s)
end
end Rc

/-! Rc: readings of the layer out of the machine's functions. -/
namespace Rc
open PySem PySem.Spec PyProof.Rows L2
variable [LamTbl]

theorem PE_imp {X : Cx} {e : Expr} {t t' : TE} (h : PE X e t) (i : ∀ σ H Q, t' σ H Q → t σ H Q) : PE X e t' := ⟨fun pins s σ H Q I hw => h.run pins s σ H Q I (i σ H Q hw)⟩
theorem PT_imp {X : Cx} {e : Expr} {t t' : TT} (h : PT X e t) (i : ∀ σ H Q, t' σ H Q → t σ H Q) : PT X e t' := ⟨fun pins s σ H Q I hw => h.run pins s σ H Q I (i σ H Q hw)⟩
theorem PA_imp {X : Cx} {es : List Expr} {t t' : TA} (h : PA X es t) (i : ∀ σ H Q, t' σ H Q → t σ H Q) : PA X es t' := ⟨fun pos pins s σ H Q I hw => h.run pos pins s σ H Q I (i σ H Q hw)⟩
theorem PS_imp {X : Cx} {st : Stmt} {t t' : TS} (h : PS X st t) (i : ∀ D σ H, t' D σ H → t D σ H) : PS X st t' := ⟨fun pins s σ H D I hw => h.run pins s σ H D I (i D σ H hw)⟩
theorem PSs_imp {X : Cx} {st : List Stmt} {t t' : TS} (h : PSs X st t) (i : ∀ D σ H, t' D σ H → t D σ H) : PSs X st t' := ⟨fun pins s σ H D I hw => h.run pins s σ H D I (i D σ H hw)⟩

/-! ### a list is locked -/
theorem Inv_lock {X : Cx} {pins : List (Addr × Obj)} {σ : St} {H : Hp} {s : Shared} {a : Addr} {xs : List V} (I : Inv X pins σ H s) (h : H a = some (.lst xs)) :
    ∃ o, Inv X pins σ (upd H a (.frz o (.lst xs))) s := by
  obtain ⟨z, its, n, r, ho⟩ := I.hok a _ h
  refine ⟨{ cls := .type "list", data := .seq its.toArray n }, ?_⟩
  have hn : ∀ b, H b = none → b ≠ a := fun b e q => by
    rw [q, h] at e
    cases e
  have hk : ∀ b u, H b = some u → (∀ ys, u ≠ .lst ys) → b ≠ a := fun b u e q z => by
    rw [z, h] at e
    exact q xs (Option.some.inj e).symm
  have ok : HOk X.prog X.w (upd H a (.frz { cls := .type "list", data := .seq its.toArray n } (.lst xs))) s.heap := fun b u e => by
    by_cases hb : b = a
    · subst hb
      rw [upd_same] at e
      cases e
      exact ⟨ho, z, its, n, r, ho⟩
    · rw [upd_ne hb] at e
      exact (I.hok b u e).stay (fun _ _ _ q => q) (fun c q => by rw [upd_ne (hk c _ q fun ys w => by cases w)]; exact q) fun c ys q => by rw [upd_ne (hk c _ q fun ys w => by cases w)]; exact q
  have un : Un X.fs [] H (upd H a (.frz { cls := .type "list", data := .seq its.toArray n } (.lst xs))) s.heap s.heap := by
    refine ⟨fun b o e _ _ _ => e, fun b o e _ _ _ => ⟨o.slots, e⟩, fun b o _ n _ => by rw [upd_ne (hn b n)]; exact n, fun b o e _ => ⟨o, e⟩, fun b ys q => ?_, fun b o u q => ?_, fun b ps q => ⟨#[], ?_⟩⟩
    · rw [upd_ne (hk b _ q fun ys w => by cases w)]; exact q
    · rw [upd_ne (hk b _ q fun ys w => by cases w)]; exact q
    · rw [upd_ne (hk b _ q fun ys w => by cases w), q]; simp
  exact I.un (h' := s.heap) (t' := s.toks) un ok

/-! ### the reading of a function -/
section
variable (K : PySem.W.Frag) (mg : Str → Option Value)
def RepE (e : Ek) (cls : Value) (d : Option Addr) (H : Hp) : Prop := ∃ C, mg e.cls = some (.ref C) ∧ cls = .ref C ∧
  match e.lim with
  | none => d = none
  | some l => ∃ a, d = some a ∧ H a = some (.xd [("limit", .int l)])
/-- a passing value: a list of one's own is new -/
def RepR (H H' : Hp) (r : Sv) (v : V) : Prop := match r with
  | .un => False
  | .val d => Rep K mg H' d v
  | r => ∃ a, v = .ref a ∧ H a = none ∧ RSv K mg H' (some (some (.ref a))) r
/-- an expression has run -/
structure Go (F : Fx) (σ : St) (S : Sl) (H : Hp) (S' : Sl) (H' : Hp) : Prop where
  rst : RSt K mg F σ H' S'
  keep : Keep σ S H H'
  sub : sub σ S' S
  dm : ∀ a, H a ≠ none → H' a ≠ none
def tOf (F : Fx) (E : XK) (m : M Sv) : TE := fun σ H Q => ∃ S, RSt K mg F σ H S ∧ match m S with
  | .ok r S' => ∀ v H', Go K mg F σ S H S' H' → RepR K mg H H' r v → Q v H'
  | .ex e S' => ∀ cls d H', RSt K mg F σ H' S' → RepE mg e cls d H' → E cls d H'
  | .no => False
def tOfB (F : Fx) (E : XK) (m : M Bool) : TT := fun σ H Q => ∃ S, RSt K mg F σ H S ∧ match m S with
  | .ok b S' => ∀ H', Go K mg F σ S H S' H' → Q b H'
  | .ex e S' => ∀ cls d H', RSt K mg F σ H' S' → RepE mg e cls d H' → E cls d H'
  | .no => False
/-- values that are kept -/
def tOfL (F : Fx) (E : XK) (m : M (List D)) : TA := fun σ H Q => ∃ S, RSt K mg F σ H S ∧ match m S with
  | .ok ds S' => ∀ vs H', Go K mg F σ S H S' H' → RepL K mg H' ds vs → Q vs H'
  | .ex e S' => ∀ cls d H', RSt K mg F σ H' S' → RepE mg e cls d H' → E cls d H'
  | .no => False
/-- a returned value: a list of one's own was made by the def -/
def RepT (F : Fx) (H' : Hp) (r : Sv) (v : V) : Prop := match r with
  | .un => False
  | .val d => Rep K mg H' d v
  | r => ∃ a, v = .ref a ∧ F.H0 a = none ∧ RSv K mg H' (some (some (.ref a))) r
def tOfS (F : Fx) (E : XK) (m : M Fl) : TS := fun C σ H => ∃ S, RSt K mg F σ H S ∧ match m S with
  | .ok .nx S' => ∀ σ' H', RSt K mg F σ' H' S' → Mono H H' → C.nx σ' H'
  | .ok (.rt r) S' => ∀ σ' v H', RSt K mg F σ' H' S' → RepT K mg F H' r v → C.rt v H'
  | .ok .bk S' => ∀ σ' H', RSt K mg F σ' H' S' → Mono H H' → C.bk σ' H'
  | .ok .ct S' => ∀ σ' H', RSt K mg F σ' H' S' → Mono H H' → C.ct σ' H'
  | .ex e S' => ∀ cls d σ' H', RSt K mg F σ' H' S' → RepE mg e cls d H' → E cls d H'
  | .no => False
end

section
variable {K : PySem.W.Frag} {mg : Str → Option Value} {F : Fx} {E : XK} {σ : St} {S S1 S2 : Sl} {H H1 H2 : Hp}
theorem Go.refl (r : RSt K mg F σ H S) : Go K mg F σ S H S H := ⟨r, Keep.refl _ _ _, sub.refl _ _, fun _ n => n⟩
theorem Go.trans (a : Go K mg F σ S H S1 H1) (b : Go K mg F σ S1 H1 S2 H2) : Go K mg F σ S H S2 H2 :=
  ⟨b.rst, a.keep.trans b.keep a.sub, a.sub.trans b.sub, fun c n => b.dm c (a.dm c n)⟩
theorem Go.mono (g : Go K mg F σ S H S1 H1) (r : RSt K mg F σ H S) : Mono H H1 := r.keep_mono g.keep
theorem Go.of_same (r : RSt K mg F σ H S) (s : Same H H1) : Go K mg F σ S H S H1 := ⟨r.grow s, Keep.of_same s, sub.refl _ _, fun a n => by
  cases h : H a with
  | none => exact absurd h n
  | some u => rw [s a u h]; exact fun z => by cases z⟩
theorem RepR.cast {H0 : Hp} {r : Sv} {v : V} (dm : ∀ a, H0 a ≠ none → H a ≠ none) (h : RepR K mg H H1 r v) : RepR K mg H0 H1 r v := by
  have key : ∀ a, H a = none → H0 a = none := fun a n => by
    cases q : H0 a with
    | none => rfl
    | some u => exact absurd n (dm a (by rw [q]; exact fun z => by cases z))
  cases r with
  | un => exact h
  | val d => exact h
  | ow ds => obtain ⟨a, e, n, x⟩ := h; exact ⟨a, e, key a n, x⟩
  | dki ds => obtain ⟨a, e, n, x⟩ := h; exact ⟨a, e, key a n, x⟩
  | dkt ds => obtain ⟨a, e, n, x⟩ := h; exact ⟨a, e, key a n, x⟩
end

/-- a value as an operation reads it: a list of one's own, too -/
def RepW (K : PySem.W.Frag) (mg : Str → Option Value) (H : Hp) (d : D) (v : V) : Prop := Rep K mg H d v ∨ ∃ ds a xs, d = .list ds ∧ v = .ref a ∧ H a = some (.lst xs) ∧ RepL K mg H ds xs
section
variable {K : PySem.W.Frag} {mg : Str → Option Value} {F : Fx} {E : XK} {σ : St} {S S1 S2 : Sl} {H H1 H2 : Hp}
theorem RepW.of {d : D} {v : V} (h : Rep K mg H d v) : RepW K mg H d v := .inl h
theorem RepW.int {i : Int} {v : V} (h : RepW K mg H (.int i) v) : v = .int i := by
  rcases h with h | ⟨_, _, _, e, _⟩
  · exact h
  · cases e
theorem RepW.bool {i : Bool} {v : V} (h : RepW K mg H (.bool i) v) : v = .bl i := by
  rcases h with h | ⟨_, _, _, e, _⟩
  · exact h
  · cases e
theorem RepW.str {i : Str} {v : V} (h : RepW K mg H (.str i) v) : v = .str i := by
  rcases h with h | ⟨_, _, _, e, _⟩
  · exact h
  · cases e
theorem RepW.none {v : V} (h : RepW K mg H .none v) : v = .non := by
  rcases h with h | ⟨_, _, _, e, _⟩
  · exact h
  · cases e
theorem RepW.tuple {ds : List D} {v : V} (h : RepW K mg H (.tuple ds) v) : ∃ a xs, v = .ref a ∧ SqT K H a xs ∧ RepL K mg H ds xs := by
  rcases h with h | ⟨_, _, _, e, _⟩
  · exact h
  · cases e
theorem RepW.list {ds : List D} {v : V} (h : RepW K mg H (.list ds) v) : ∃ a xs, v = .ref a ∧ LsX K H a xs ∧ RepL K mg H ds xs := by
  rcases h with ⟨a, xs, e, q, r⟩ | ⟨_, a, xs, e, ev, q, r⟩
  · exact ⟨a, xs, e, .inr q, r⟩
  · cases e
    exact ⟨a, xs, ev, .inl q, r⟩
/-- what an operation reads of a passing value -/
theorem RepR.toW {r : Sv} {v : V} {d : D} (h : RepR K mg H H1 r v) (e : toD r = some d) : RepW K mg H1 d v := by
  cases r with
  | un => cases e
  | val c => cases e; exact .inl h
  | ow ds =>
    cases e
    obtain ⟨a, ev, _, b, xs, e1, e2, e3⟩ := h
    cases e1
    exact .inr ⟨ds, a, xs, rfl, ev, e2, e3⟩
  | dki _ => cases e
  | dkt _ => cases e
/-- .. behind a further expression -/
theorem RepR.stay {r : Sv} {v : V} (st : RSt K mg F σ H S) (g : Go K mg F σ S H S1 H1) (h : RepR K mg H H1 r v) (g2 : Go K mg F σ S1 H1 S2 H2) : RepR K mg H H2 r v := by
  have m : Mono H1 H2 := g2.mono g.rst
  have nw : ∀ a, H a = none → ∀ o, H1 a = some o → nT o → H2 a = some o := fun a n o e t => g2.keep.kp a o e t fun z => st.fresh_not n (g.sub a z)
  cases r with
  | un => exact h
  | val d => exact Rep.mono m d h
  | ow ds =>
    obtain ⟨a, ev, n, b, xs, e1, e2, e3⟩ := h
    cases e1
    exact ⟨a, ev, n, a, xs, rfl, nw a n _ e2 nT.lst, RepL.mono m ds e3⟩
  | dki ds =>
    obtain ⟨a, ev, n, b, xs, e1, e2, e4, e3⟩ := h
    cases e1
    exact ⟨a, ev, n, a, xs, rfl, nw a n _ e2 nT.dK, e4, RepL.mono m _ e3⟩
  | dkt ds =>
    obtain ⟨a, ev, n, b, xs, e1, e2, e4, e3⟩ := h
    cases e1
    exact ⟨a, ev, n, a, xs, rfl, nw a n _ e2 nT.dT, e4, RepL.mono m _ e3⟩
theorem RSt.rd {i : Nat} {d : D} (st : RSt K mg F σ H S) (e : rd S i = some d) : ∃ v, σ[i]? = some (some v) ∧ RepW K mg H d v := by
  unfold Rc.rd at e
  cases q : S[i]? with
  | none => rw [q] at e; cases e
  | some s =>
    rw [q] at e
    have z := st.at_ i s q
    cases s with
    | un => cases e
    | val c =>
      cases e
      obtain ⟨v, h1, h2⟩ := z
      exact ⟨v, h1, .inl h2⟩
    | ow ds =>
      cases e
      obtain ⟨a, xs, h1, h2, h3⟩ := z
      exact ⟨.ref a, h1, .inr ⟨ds, a, xs, rfl, rfl, h2, h3⟩⟩
    | dki _ => cases e
    | dkt _ => cases e
end

/-! ### judgements -/
abbrev AE (X : Cx) (F : Fx) (E : XK) (e : Expr) (m : M Sv) : Prop := PE X e (tOf X.K X.mg F E m)
abbrev AT (X : Cx) (F : Fx) (E : XK) (e : Expr) (m : M Bool) : Prop := PT X e (tOfB X.K X.mg F E m)
abbrev AL (X : Cx) (F : Fx) (E : XK) (es : List Expr) (m : M (List D)) : Prop := PA X es (tOfL X.K X.mg F E m)
abbrev AS (X : Cx) (F : Fx) (E : XK) (st : Stmt) (m : M Fl) : Prop := PS X st (tOfS X.K X.mg F E m)
abbrev ASs (X : Cx) (F : Fx) (E : XK) (st : List Stmt) (m : M Fl) : Prop := PSs X st (tOfS X.K X.mg F E m)
/-- an operand: an expression, or a name that is only read -/
def tOd (K : PySem.W.Frag) (mg : Str → Option Value) (F : Fx) (E : XK) : Od → TE
  | .e m => tOf K mg F E m
  | .v i => tVar i
abbrev AO (X : Cx) (F : Fx) (E : XK) (e : Expr) (o : Od) : Prop := PE X e (tOd X.K X.mg F E o)

section
variable {X : Cx} {F : Fx} {E : XK} {pos : Pos}
theorem a_lit {e : Expr} {d : D} {v : V} (h : PE X e (tC v)) (r : ∀ H, Rep X.K X.mg H d v) : AE X F E e (eLit d) :=
  PE_imp h fun σ H Q ⟨S, st, q⟩ => q v H (Go.refl st) (r H)
theorem a_int {i : Int} {j} : AE X F E (.Constant (.int i) j pos) (eLit (.int i)) := a_lit pe_int fun _ => rfl
theorem a_bl {b : Bool} {j} : AE X F E (.Constant (.bool b) j pos) (eLit (.bool b)) := a_lit pe_bl fun _ => rfl
theorem a_non {j} : AE X F E (.Constant .none j pos) (eLit .none) := a_lit pe_non fun _ => rfl
theorem a_str {x : Str} {j} : AE X F E (.Constant (.str x) j pos) (eLit (.str x)) := a_lit pe_str fun _ => rfl
theorem ao_v {i : Nat} {x : Str} (hN : X.N[i]? = some x) (hv : Vis X.env.scope x) (hd : (x == ("__debug__" : Str)) = false := by decide) (hcd : (x == ("__classdict__" : Str)) = false := by decide) : AO X F E (.Name x pos) (.v i) :=
  pe_var hN hv hd hcd
theorem ao_e {e : Expr} {m : M Sv} (h : AE X F E e m) : AO X F E e (.e m) := h

theorem RSt.lock {K : PySem.W.Frag} {mg : Str → Option Value} {σ : St} {H : Hp} {S : Sl} {i : Nat} {ds : List D} {a : Addr} {xs : List V} {o : Obj} (st : RSt K mg F σ H S) (e : S[i]? = some (.ow ds)) (ea : σ[i]? = some (some (.ref a))) (eH : H a = some (.lst xs)) (rp : RepL K mg H ds xs) :
    Go K mg F σ S H (S.set i (.val (.list ds))) (upd H a (.frz o (.lst xs))) ∧ Rep K mg (upd H a (.frz o (.lst xs))) (.list ds) (.ref a) := by
  have ow : Owns σ S a := ⟨i, _, e, rfl, ea⟩
  have hi : i < S.length := (List.getElem?_eq_some_iff.mp e).1
  have tb : TbM H (upd H a (.frz o (.lst xs))) := TbM.upd eH nT.lst lst_ne
  have keep : Keep σ S H (upd H a (.frz o (.lst xs))) := ⟨fun b u h _ n => by
    rw [upd_ne (show b ≠ a from fun z => n (z ▸ ow))]
    exact h, tb⟩
  have mo : Mono H (upd H a (.frz o (.lst xs))) := st.keep_mono keep
  have rp' : Rep K mg (upd H a (.frz o (.lst xs))) (.list ds) (.ref a) := ⟨a, xs, rfl, .inl ⟨o, upd_same⟩, RepL.mono mo ds rp⟩
  have dm : ∀ b, H b ≠ none → upd H a (.frz o (.lst xs)) b ≠ none := fun b n => by
    by_cases hb : b = a
    · rw [hb, upd_same]; exact fun z => by cases z
    · rw [upd_ne hb]; exact n
  have at2 : ∀ (j : Nat) s, (S.set i (.val (.list ds)))[j]? = some s → (j = i ∧ s = .val (.list ds)) ∨ (j ≠ i ∧ S[j]? = some s) := fun j s q => by
    by_cases hj : j = i
    · rw [hj, List.getElem?_set_self hi] at q
      exact .inl ⟨hj, (Option.some.inj q).symm⟩
    · rw [List.getElem?_set_ne (Ne.symm hj)] at q
      exact .inr ⟨hj, q⟩
  refine ⟨⟨⟨by rw [List.length_set]; exact st.len, fun j s q => ?_, fun j k s t b q1 q2 m1 m2 e1 e2 => ?_, fun j s b q m e1 => ?_, fun j b q => ?_, fun b u q t n => ?_, fun b n => dm b (st.dom b n), st.mono.trans mo, st.tabs.trans tb⟩, keep, fun b ⟨j, s, q, m, e1⟩ => ?_, dm⟩, rp'⟩
  · rcases at2 j s q with ⟨rfl, rfl⟩ | ⟨hj, q⟩
    · exact ⟨.ref a, ea, rp'⟩
    · refine (st.at_ j s q).mono mo fun b m e1 => ?_
      rw [upd_ne]
      rintro rfl
      exact hj (st.inj j i s _ _ q e m rfl e1 ea)
  · rcases at2 j s q1 with ⟨rfl, rfl⟩ | ⟨_, q1⟩
    · cases m1
    · rcases at2 k t q2 with ⟨rfl, rfl⟩ | ⟨_, q2⟩
      · cases m2
      · exact st.inj j k s t b q1 q2 m1 m2 e1 e2
  · rcases at2 j s q with ⟨rfl, rfl⟩ | ⟨_, q⟩
    · cases m
    · exact st.ownd j s b q m e1
  · obtain ⟨h1, h2, es, h3⟩ := st.lent j b q
    refine ⟨h1, h2, ?_⟩
    by_cases hj : j = i
    · exact ⟨ds, .inr (by rw [hj, List.getElem?_set_self hi])⟩
    · exact ⟨es, by rw [List.getElem?_set_ne (Ne.symm hj)]; exact h3⟩
  · by_cases hb : b = a
    · subst hb
      rcases st.ownd i _ b e rfl ea with z | z
      · exact absurd z (n i)
      · rw [z] at q; cases q
    · rw [upd_ne hb]; exact st.frame b u q t n
  · rcases at2 j s q with ⟨rfl, rfl⟩ | ⟨_, q⟩
    · cases m
    · exact ⟨j, s, q, m, e1⟩

/-- a name whose value is kept -/
theorem a_v {i : Nat} {x : Str} (hN : X.N[i]? = some x) (hv : Vis X.env.scope x) (hd : (x == ("__debug__" : Str)) = false := by decide) (hcd : (x == ("__classdict__" : Str)) = false := by decide) : AE X F E (.Name x pos) (eV i) := by
  refine ⟨fun pins s σ H Q I ⟨S, st, q⟩ => ?_⟩
  have base := fun Q' h => (pe_var (X := X) (pos := pos) hN hv hd hcd).run pins s σ H Q' I h
  unfold eV at q
  cases e : S[i]? with
  | none => rw [e] at q; exact q.elim
  | some z =>
    rw [e] at q
    have r := st.at_ i z e
    cases z with
    | un => exact q.elim
    | dki _ => exact q.elim
    | dkt _ => exact q.elim
    | val d =>
      obtain ⟨v, ev, rv⟩ := r
      exact base Q ⟨v, ev, q v H (Go.refl st) rv⟩
    | ow ds =>
      obtain ⟨a, xs, ev, eH, rl⟩ := r
      refine thn (base (fun v H' => v = .ref a ∧ H' = H) ⟨.ref a, ev, rfl, rfl⟩) fun u s1 ⟨v, H', I1, rv, e1, e2⟩ => ?_
      subst e1 e2
      obtain ⟨o, I2⟩ := Inv_lock I1 eH
      obtain ⟨g, rp⟩ := st.lock (o := o) e ev eH rl
      exact ⟨.ref a, _, I2, rv, q _ _ g rp⟩

/-! ### a passing list is locked where it is kept -/
def eFz (m : M Sv) : M Sv := fun S => (m S).bind fun r S1 => match toD r with
  | some d => .ok (.val d) S1
  | none => .no
theorem eFz_datum (m : M Sv) (S : Sl) : eFz m S = (datum m S).bind fun d S1 => .ok (.val d) S1 := by
  unfold eFz datum
  cases m S with
  | no => rfl
  | ex k S1 => rfl
  | ok r S1 => cases r <;> rfl
theorem upd_lock_go {K : PySem.W.Frag} {mg : Str → Option Value} {σ : St} {H H1 : Hp} {S S1 : Sl} {a : Addr} {xs : List V} {o : Obj} (st : RSt K mg F σ H S) (g : Go K mg F σ S H S1 H1) (n : H a = none) (eH : H1 a = some (.lst xs)) :
    Go K mg F σ S H S1 (upd H1 a (.frz o (.lst xs))) := by
  have no : ¬ Owns σ S1 a := fun z => st.fresh_not n (g.sub a z)
  have mo : Mono H1 (upd H1 a (.frz o (.lst xs))) := by
    refine ⟨fun b ys h => ?_, fun b u w h => ?_, fun b φ h => ?_⟩ <;>
      (rw [upd_ne]; exact h; rintro rfl; rw [eH] at h; cases h)
  have dm1 : ∀ b, H1 b ≠ none → upd H1 a (.frz o (.lst xs)) b ≠ none := fun b h => by
    by_cases hb : b = a
    · rw [hb, upd_same]; exact fun z => by cases z
    · rw [upd_ne hb]; exact h
  have n0 : F.H0 a = none := by
    cases q : F.H0 a with
    | none => rfl
    | some u => exact absurd n (st.dom a (by rw [q]; exact fun z => by cases z))
  have r1 := g.rst
  have tb : TbM H1 (upd H1 a (.frz o (.lst xs))) := TbM.upd eH nT.lst lst_ne
  refine ⟨⟨r1.len, fun j s q => ?_, r1.inj, r1.ownd, r1.lent, fun b u q t m => ?_, fun b h => dm1 b (r1.dom b h), r1.mono.trans mo, r1.tabs.trans tb⟩, ⟨fun b u h t m => ?_, g.keep.tb.trans tb⟩, g.sub, fun b h => dm1 b (g.dm b h)⟩
  · refine (r1.at_ j s q).mono mo fun b m e1 => ?_
    rw [upd_ne]
    rintro rfl
    exact no ⟨j, s, q, m, e1⟩
  · rw [upd_ne]
    · exact r1.frame b u q t m
    · rintro rfl
      rw [n0] at q; cases q
  · rw [upd_ne]
    · exact g.keep.kp b u h t m
    · rintro rfl
      rw [n] at h; cases h
theorem a_fz {e : Expr} {m : M Sv} (h : AE X F E e m) : AE X F E e (eFz m) := by
  refine ⟨fun pins s σ H Q I ⟨S, st, q⟩ => ?_⟩
  unfold eFz at q
  cases em : m S with
  | no => rw [em] at q; exact q.elim
  | ex k S1 =>
    rw [em] at q
    exact h.run pins s σ H Q I ⟨S, st, by rw [em]; exact q⟩
  | ok r S1 =>
    rw [em] at q
    cases r with
    | un => exact q.elim
    | dki _ => exact q.elim
    | dkt _ => exact q.elim
    | val d => exact h.run pins s σ H Q I ⟨S, st, by rw [em]; exact q⟩
    | ow ds =>
      refine thn (h.run pins s σ H (fun v H' => Go X.K X.mg F σ S H S1 H' ∧ RepR X.K X.mg H H' (.ow ds) v) I ⟨S, st, by rw [em]; exact fun v H' g r => ⟨g, r⟩⟩) fun u s1 ⟨v, H', I1, rv, g, rr⟩ => ?_
      obtain ⟨a, rfl, n, b, xs, e1, eH, rl⟩ := rr
      cases e1
      obtain ⟨o, I2⟩ := Inv_lock I1 eH
      have g2 := upd_lock_go (o := o) st g n eH
      have mo : Mono H' (upd H' a (.frz o (.lst xs))) := by
        refine ⟨fun b ys h => ?_, fun b u w h => ?_, fun b φ h => ?_⟩ <;>
          (rw [upd_ne]; exact h; rintro rfl; rw [eH] at h; cases h)
      exact ⟨.ref a, _, I2, rv, q _ _ g2 ⟨a, xs, rfl, .inl ⟨o, upd_same⟩, RepL.mono mo ds rl⟩⟩
end
end Rc

/-! Rc: operators and built-in functions. -/
namespace Rc
open PySem PySem.Spec PyProof.Rows L2
variable [LamTbl]

section
variable (K : PySem.W.Frag) (mg : Str → Option Value)
def Op1 (f : D → Option Sv) (r : V → Hp → VK → Prop) : Prop := ∀ (H : Hp) (x : V) (d : D) (res : Sv) (Q : VK), f d = some res → RepW K mg H d x → (∀ v H', Same H H' → RepR K mg H H' res v → Q v H') → r x H Q
def Op2 (f : D → D → Option Sv) (r : R2) : Prop := ∀ (H : Hp) (x y : V) (d e : D) (res : Sv) (Q : VK), f d e = some res → RepW K mg H d x → RepW K mg H e y → (∀ v H', Same H H' → RepR K mg H H' res v → Q v H') → r x y H Q
end

section
variable {K : PySem.W.Frag} {mg : Str → Option Value} {F : Fx} {E : XK}
theorem Go.dmT {σ : St} {S S1 : Sl} {H H1 : Hp} (g : Go K mg F σ S H S1 H1) : ∀ a, H a ≠ none → H1 a ≠ none := g.dm
theorem imp1 {f : D → Option Sv} {r : V → Hp → VK → Prop} (h : Op1 K mg f r) (o : Od) : ∀ σ H Q, tOf K mg F E (eOp1 f o) σ H Q → tOd K mg F E o σ H fun x H1 => r x H1 Q := by
  intro σ H Q ⟨S, st, q⟩
  cases o with
  | e m =>
    refine ⟨S, st, ?_⟩
    have q : match (m S).bind fun r S1 => lift (b1 f (toD r)) S1 with
      | .ok r S' => ∀ v H', Go K mg F σ S H S' H' → RepR K mg H H' r v → Q v H'
      | .ex e S' => ∀ cls d H', RSt K mg F σ H' S' → RepE mg e cls d H' → E cls d H'
      | .no => False := q
    cases em : m S with
    | no => rw [em] at q; exact q.elim
    | ex k S1 => rw [em] at q; exact q
    | ok z S1 =>
      rw [em] at q
      intro v1 H1 g1 r1
      cases ed : toD z with
      | none => simp [Res.bind, ed, b1, lift] at q
      | some d =>
        cases ef : f d with
        | none => simp [Res.bind, ed, b1, lift, ef] at q
        | some res =>
          simp only [Res.bind, ed, b1, lift, ef, Option.bind_some] at q
          exact h H1 v1 d res Q ef (r1.toW ed) fun v H' sm rr => q v H' (g1.trans (Go.of_same g1.rst sm)) (rr.cast g1.dm)
  | v i =>
    have q : match lift (b1 f (rd S i)) S with
      | .ok r S' => ∀ v H', Go K mg F σ S H S' H' → RepR K mg H H' r v → Q v H'
      | .ex e S' => ∀ cls d H', RSt K mg F σ H' S' → RepE mg e cls d H' → E cls d H'
      | .no => False := q
    cases ed : rd S i with
    | none => simp [ed, b1, lift] at q
    | some d =>
      cases ef : f d with
      | none => simp [ed, b1, lift, ef] at q
      | some res =>
        simp only [ed, b1, lift, ef, Option.bind_some] at q
        obtain ⟨v, ev, rw'⟩ := RSt.rd st ed
        exact ⟨v, ev, h H v d res Q ef rw' fun v H' sm rr => q v H' (Go.of_same st sm) rr⟩
theorem imp2 {f : D → D → Option Sv} {r : R2} (h : Op2 K mg f r) (o o' : Od) : ∀ σ H Q, tOf K mg F E (eOp2 f o o') σ H Q → tOp r (tOd K mg F E o) (tOd K mg F E o') σ H Q := by
  intro σ H Q ⟨S, st, q⟩
  have fin : ∀ {S2 : Sl} {H2 : Hp} {a b : Option D} {x y : V}, Go K mg F σ S H S2 H2 →
      (match lift (b2 f a b) S2 with
        | .ok r S' => ∀ v H', Go K mg F σ S H S' H' → RepR K mg H H' r v → Q v H'
        | .ex e S' => ∀ cls d H', RSt K mg F σ H' S' → RepE mg e cls d H' → E cls d H'
        | .no => False) → (∀ d, a = some d → RepW K mg H2 d x) → (∀ d, b = some d → RepW K mg H2 d y) → r x y H2 Q := by
    intro S2 H2 a b x y g q ha hb
    cases a with
    | none => simp [b2, lift] at q
    | some d =>
      cases b with
      | none => simp [b2, lift] at q
      | some e =>
        cases ef : f d e with
        | none => simp [b2, lift, ef] at q
        | some res =>
          simp only [b2, lift, ef, Option.bind_some] at q
          exact h H2 x y d e res Q ef (ha d rfl) (hb e rfl) fun v H' sm rr => q v H' (g.trans (Go.of_same g.rst sm)) (rr.cast g.dm)
  cases o with
  | e m =>
    refine ⟨S, st, ?_⟩
    cases o' with
    | e n =>
      have q : match (m S).bind fun x S1 => (n S1).bind fun y S2 => lift (b2 f (toD x) (toD y)) S2 with
        | .ok r S' => ∀ v H', Go K mg F σ S H S' H' → RepR K mg H H' r v → Q v H'
        | .ex e S' => ∀ cls d H', RSt K mg F σ H' S' → RepE mg e cls d H' → E cls d H'
        | .no => False := q
      cases em : m S with
      | no => rw [em] at q; exact q.elim
      | ex k S1 => rw [em] at q; exact q
      | ok z S1 =>
        rw [em] at q
        intro v1 H1 g1 r1
        refine ⟨S1, g1.rst, ?_⟩
        have q : match (n S1).bind fun y S2 => lift (b2 f (toD z) (toD y)) S2 with
          | .ok r S' => ∀ v H', Go K mg F σ S H S' H' → RepR K mg H H' r v → Q v H'
          | .ex e S' => ∀ cls d H', RSt K mg F σ H' S' → RepE mg e cls d H' → E cls d H'
          | .no => False := q
        cases en : n S1 with
        | no => rw [en] at q; exact q.elim
        | ex k S2 => rw [en] at q; exact q
        | ok w S2 =>
          rw [en] at q
          intro v2 H2 g2 r2
          exact fin (g1.trans g2) q (fun d e => (r1.stay st g1 g2).toW e) fun d e => r2.toW e
    | v j =>
      have q : match (m S).bind fun x S1 => lift (b2 f (toD x) (rd S1 j)) S1 with
        | .ok r S' => ∀ v H', Go K mg F σ S H S' H' → RepR K mg H H' r v → Q v H'
        | .ex e S' => ∀ cls d H', RSt K mg F σ H' S' → RepE mg e cls d H' → E cls d H'
        | .no => False := q
      cases em : m S with
      | no => rw [em] at q; exact q.elim
      | ex k S1 => rw [em] at q; exact q
      | ok z S1 =>
        rw [em] at q
        intro v1 H1 g1 r1
        cases ed : rd S1 j with
        | none =>
          have q : (match lift (b2 f (toD z) (rd S1 j)) S1 with
            | .ok r S' => ∀ v H', Go K mg F σ S H S' H' → RepR K mg H H' r v → Q v H'
            | .ex e S' => ∀ cls d H', RSt K mg F σ H' S' → RepE mg e cls d H' → E cls d H'
            | .no => False) := q
          rw [ed] at q
          cases toD z <;> simp [b2, lift] at q
        | some d =>
          obtain ⟨v, ev, rw'⟩ := RSt.rd g1.rst ed
          refine ⟨v, ev, fin g1 q (fun d e => r1.toW e) fun d' e => ?_⟩
          rw [ed] at e
          cases e
          exact rw'
  | v i =>
    cases o' with
    | e n =>
      have q : match (if (rd S i).isSome then (n S).bind fun y S1 => lift (b2 f (rd S1 i) (toD y)) S1 else .no) with
        | .ok r S' => ∀ v H', Go K mg F σ S H S' H' → RepR K mg H H' r v → Q v H'
        | .ex e S' => ∀ cls d H', RSt K mg F σ H' S' → RepE mg e cls d H' → E cls d H'
        | .no => False := q
      cases e0 : rd S i with
      | none => rw [e0] at q; exact q.elim
      | some d0 =>
        rw [e0] at q
        obtain ⟨v, ev, _⟩ := RSt.rd st e0
        refine ⟨v, ev, S, st, ?_⟩
        have q : match (n S).bind fun y S1 => lift (b2 f (rd S1 i) (toD y)) S1 with
          | .ok r S' => ∀ v H', Go K mg F σ S H S' H' → RepR K mg H H' r v → Q v H'
          | .ex e S' => ∀ cls d H', RSt K mg F σ H' S' → RepE mg e cls d H' → E cls d H'
          | .no => False := q
        cases en : n S with
        | no => rw [en] at q; exact q.elim
        | ex k S1 => rw [en] at q; exact q
        | ok w S1 =>
          rw [en] at q
          intro v2 H2 g2 r2
          refine fin g2 q (fun d e => ?_) fun d e => r2.toW e
          obtain ⟨v', ev', rw'⟩ := RSt.rd g2.rst e
          rw [ev] at ev'
          cases ev'
          exact rw'
    | v j =>
      have q : match lift (b2 f (rd S i) (rd S j)) S with
        | .ok r S' => ∀ v H', Go K mg F σ S H S' H' → RepR K mg H H' r v → Q v H'
        | .ex e S' => ∀ cls d H', RSt K mg F σ H' S' → RepE mg e cls d H' → E cls d H'
        | .no => False := q
      cases e1 : rd S i with
      | none => simp [e1, b2, lift] at q
      | some d1 =>
        cases e2 : rd S j with
        | none => simp [e1, e2, b2, lift] at q
        | some d2 =>
          obtain ⟨v1, ev1, rw1⟩ := RSt.rd st e1
          obtain ⟨v2, ev2, rw2⟩ := RSt.rd st e2
          refine ⟨v1, ev1, v2, ev2, ?_⟩
          rw [e1, e2] at q
          exact fin (Go.refl st) q (fun d e => by cases e; exact rw1) fun d e => by cases e; exact rw2
end
end Rc

/-! Rc: each operator and built-in function, by its rule. -/
namespace Rc
open PySem PySem.Spec PyProof.Rows L2
variable [LamTbl]

theorem same_upd {H : Hp} {p : Addr} {o : HO} (h : H p = none) : Same H (upd H p o) := fun b x e => by
  rw [upd_ne (ne_of_none e h)]
  exact e
theorem asInts_eq : ∀ {ds : List D} {ns : List Int}, asInts ds = some ns → ds = ns.map PyData.int
  | [], ns, e => by cases e; rfl
  | d :: ds, ns, e => by
    cases d with
    | int i =>
      cases q : asInts ds with
      | none => simp [asInts, q] at e
      | some ms =>
        simp [asInts, q] at e
        subst e
        rw [asInts_eq q]
        rfl
    | _ => simp [asInts] at e
theorem asBools_eq : ∀ {ds : List D} {ns : List Bool}, asBools ds = some ns → ds = ns.map PyData.bool
  | [], ns, e => by cases e; rfl
  | d :: ds, ns, e => by
    cases d with
    | bool i =>
      cases q : asBools ds with
      | none => simp [asBools, q] at e
      | some ms =>
        simp [asBools, q] at e
        subst e
        rw [asBools_eq q]
        rfl
    | _ => simp [asBools] at e
section
variable {K : PySem.W.Frag} {mg : Str → Option Value} {H : Hp}
theorem RepL.ints : ∀ {ns : List Int} {xs : List V}, RepL K mg H (ns.map PyData.int) xs → xs = ns.map V.int
  | [], _, h => h
  | n :: ns, _, h => by
    obtain ⟨v, vs, e, r, rs⟩ := h
    rw [e, show v = _ from r, RepL.ints rs]
    rfl
theorem RepL.bools : ∀ {ns : List Bool} {xs : List V}, RepL K mg H (ns.map PyData.bool) xs → xs = ns.map V.bl
  | [], _, h => h
  | n :: ns, _, h => by
    obtain ⟨v, vs, e, r, rs⟩ := h
    rw [e, show v = _ from r, RepL.bools rs]
    rfl
mutual
theorem Rep.dp : ∀ (d : D) {v : V}, d.canLay0 = true → Rep K mg H d v → Dp K H v d
  | .none, _, _, h => by rw [show _ = _ from h]; exact .non
  | .bool b, _, _, h => by rw [show _ = _ from h]; exact .bl b
  | .int b, _, _, h => by rw [show _ = _ from h]; exact .int b
  | .str b, _, _, h => by rw [show _ = _ from h]; exact .str b
  | .tuple ds, _, c, h => by
    obtain ⟨a, xs, e, s, r⟩ := h
    rw [e]
    exact .tup s (RepL.dp ds (by simpa [PyData.canLay0] using c) r)
  | .list ds, _, c, h => by
    obtain ⟨a, xs, e, s, r⟩ := h
    rw [e]
    exact .lst s.sq (RepL.dp ds (by simpa [PyData.canLay0] using c) r)
  | .dict kvs, _, c, h => by simp [PyData.canLay0] at c
theorem RepL.dp : ∀ (ds : List D) {xs : List V}, PyData.canLayAll0 ds = true → RepL K mg H ds xs → DpAll K H xs ds
  | [], _, _, h => by rw [show _ = _ from h]; exact .nil
  | d :: ds, _, c, h => by
    obtain ⟨v, vs, e, r, rs⟩ := h
    rw [e]
    have c' : d.canLay0 = true ∧ PyData.canLayAll0 ds = true := by simpa [PyData.canLayAll0] using c
    exact .cons (Rep.dp d c'.1 r) (RepL.dp ds c'.2 rs)
end
theorem RepW.dp {d : D} {v : V} (c : SeqAt.shaped d = true) (h : RepW K mg H d v) : Dp K H v d := by
  have c0 := SeqAt.canLay_of_shaped c
  rcases h with h | ⟨ds, a, xs, rfl, rfl, q, r⟩
  · exact Rep.dp d c0 h
  · exact .lst (.inl (.inl q)) (RepL.dp ds (by simpa [PyData.canLay0] using c0) r)
end

/-! ### lists as they are read -/
def rCatX (K : PySem.W.Frag) : R2 := fun x y H Q => ∃ l b xs zs, x = .ref l ∧ y = .ref b ∧ LsX K H l xs ∧ LsX K H b zs ∧ xs.length + zs.length ≤ sizeLine ∧ ∀ p, H p = none → Q (.ref p) (upd H p (.lst (xs ++ zs)))
def rRepX (K : PySem.W.Frag) : R2 := fun x y H Q => ∃ l k xs, x = .ref l ∧ y = .int k ∧ LsX K H l xs ∧ -(2 ^ 63) ≤ k ∧ k < 2 ^ 63 ∧ xs.length * k.toNat ≤ sizeLine ∧ ∀ p, H p = none → Q (.ref p) (upd H p (.lst (List.replicate k.toNat xs).flatten))
section
variable {X : Cx}
theorem op_catX : OpR X (binaryOp .Add) (rCatX X.K) := by
  intro pins s σ H x y v u Q I rx ry h
  obtain ⟨l, b, xs, zs, rfl, rfl, hH, hB, hz, q⟩ := h
  cases rx
  cases ry
  obtain ⟨z, its, n, r, hl, e⟩ := LsX.at I hH
  obtain ⟨z2, its2, n2, r2, hl2, e2⟩ := LsX.at I hB
  refine PySem.P.add_list e e2 ?_ (by rw [List.size_toArray, List.size_toArray]; omega)
  have ea : its.toArray ++ its2.toArray = (its ++ its2).toArray := by simp
  rw [ea]
  exact ⟨.ref _, _, Inv.lnew (t' := s.toks) I (r.append r2) (by rw [List.length_append]; omega), rfl, q _ (Inv.fresh I)⟩
theorem op_repX : OpR X (binaryOp .Mult) (rRepX X.K) := by
  intro pins s σ H x y v u Q I rx ry h
  obtain ⟨l, k, xs, rfl, rfl, hH, h1, h2, hz, q⟩ := h
  cases rx
  obtain ⟨t, rfl⟩ := ry
  obtain ⟨z, its, n, r, hl, e⟩ := LsX.at I hH
  have hlen : its.toArray.size * k.toNat ≤ sizeLine := by rw [List.size_toArray, ← hl]; exact hz
  have hcap : ¬ its.toArray.size * k.toNat > (2 ^ 63 - 1) / 8 := by
    have : (sizeLine : Nat) ≤ (2 ^ 63 - 1) / 8 := by decide
    omega
  have hfit : ¬ (!Builtin.List.listFitsIndex k) = true := by
    rw [fitsIndex_both h1 h2]
    exact Bool.false_ne_true
  have hlong : ¬ Builtin.List.listTooLong (its.toArray.size * k.toNat) = true := by
    rw [notLongL hlen]
    exact Bool.false_ne_true
  have hnew : List.foldl (fun x1 x2 => x1 ++ x2) #[] (List.replicate (if its.toArray.isEmpty = true then 0 else k.toNat) its.toArray) = (List.replicate k.toNat its).flatten.toArray := by
    have f0 : ∀ m : Nat, List.foldl (fun x1 x2 => x1 ++ x2) #[] (List.replicate m its.toArray) = (List.replicate m its).flatten.toArray := fun m => by
      have := foldl_rep its m []
      rw [List.nil_append] at this
      exact this
    rw [f0]
    cases its with
    | nil => simp
    | cons a r' => rw [if_neg (by simp)]
  refine wpAny_binaryOp_repeat_ref (T := "list") (U := "int") (by decide) ⟨_, e, rfl⟩ (fun s' => typeIs_int s' k t) noFill_list_mul F.fills_int_mul F.slot_int_rmul repeat_list F.slot_int_index.lookup
    (call_meets F.slot_int_rmul (typeIs_int s k t) F.entry_int_rmul (F.args_int_rmul_2 _ _) (int___rmul___int_list k t l its.toArray n)
      ⟨e, rfl, ⟨_, e, rfl⟩, call_meets F.slot_list_mul ⟨_, e, rfl⟩ F.entry_list_mul (F.args_list_mul_2 _ _) (AutoListH.list___mul___list_int_3 l its.toArray n k t hfit hcap hlong) ⟨e, ?_⟩⟩)
  rw [hnew]
  exact ⟨.ref _, _, Inv.lnew (t' := s.toks) I (r.rep k.toNat) (by rw [PyProof.Rows.lm_len_rep_flat, Nat.mul_comm]; exact hz), rfl, q _ (Inv.fresh I)⟩
end

/-! ### the operators -/
def rOr (r r' : R2) : R2 := fun x y H Q => r x y H Q ∨ r' x y H Q
section
variable {K : PySem.W.Frag} {mg : Str → Option Value}
theorem small_le {n : Nat} (h : small n = true) : n ≤ sizeLine := by
  rw [sizeLine_eq]
  have := of_decide_eq_true h
  omega
/-- a truth value and an int -/
def rBI (g : Int → Int → Int) : R2 := fun x y H Q => ∃ b j, x = .bl b ∧ y = .int j ∧ Q (.int (g (if b = true then 1 else 0) j)) H
theorem op_add_bi {X : Cx} : OpR X (binaryOp .Add) (rBI fun i j => i + j) := by
  intro pins s σ H x y v u Q I rx ry ⟨b, j, ex, ey, q⟩
  subst ex ey
  cases rx
  obtain ⟨t, rfl⟩ := ry
  exact PySem.IntBool.add_bool_int ⟨.int _, H, I.tok _, ⟨_, rfl⟩, q⟩
theorem op_sub_bi {X : Cx} : OpR X (binaryOp .Sub) (rBI fun i j => i - j) := by
  intro pins s σ H x y v u Q I rx ry ⟨b, j, ex, ey, q⟩
  subst ex ey
  cases rx
  obtain ⟨t, rfl⟩ := ry
  exact PySem.IntBool.sub_bool_int ⟨.int _, H, I.tok _, ⟨_, rfl⟩, q⟩
def rAddA (K : PySem.W.Frag) : R2 := rOr (rI0 fun i j => .int (i + j)) (rOr (rCatA K) (rOr (rCatX K) (rOr (fun x y H Q => ∃ i j, x = .str i ∧ y = .str j ∧ i.length + j.length ≤ sizeLine ∧ Q (.str (i ++ j)) H) (rBI fun i j => i + j))))
theorem opr_add {X : Cx} : OpR X (binaryOp .Add) (rAddA X.K) := OpR.or op_add (OpR.or op_catA (OpR.or op_catX (OpR.or op_add_str op_add_bi)))
def rSubA : R2 := rOr (rI0 fun i j => .int (i - j)) (rBI fun i j => i - j)
theorem opr_sub {X : Cx} : OpR X (binaryOp .Sub) rSubA := OpR.or op_sub op_sub_bi
theorem op2_add : Op2 K mg dAdd (rAddA K) := by
  intro H x y d e res Q hf hx hy q
  match d, e, hf with
  | .bool b, .int j, hf =>
    cases hf
    exact .inr (.inr (.inr (.inr ⟨b, j, hx.bool, hy.int, q _ H (Same.refl H) rfl⟩)))
  | .int i, .int j, hf =>
    cases hf
    exact .inl ⟨i, j, hx.int, hy.int, q _ H (Same.refl H) rfl⟩
  | .str i, .str j, hf =>
    simp only [dAdd] at hf
    split at hf
    · rename_i hs
      cases hf
      exact .inr (.inr (.inr (.inl ⟨i, j, hx.str, hy.str, small_le hs, q _ H (Same.refl H) rfl⟩)))
    · cases hf
  | .tuple xs, .tuple ys, hf =>
    simp only [dAdd] at hf
    split at hf
    · rename_i hs
      cases hf
      obtain ⟨a, vs, rfl, sa, ra⟩ := hx.tuple
      obtain ⟨b, ws, rfl, sb, rb⟩ := hy.tuple
      refine .inr (.inl ⟨a, b, vs, ws, rfl, rfl, sa, sb, ?_, fun e0 => ?_, fun _ e0 => ?_, fun _ _ p np => ?_⟩)
      · rw [ra.length, rb.length]
        exact small_le hs
      · refine q _ H (Same.refl H) ⟨b, ws, rfl, sb, ?_⟩
        subst e0
        have : xs = [] := List.eq_nil_of_length_eq_zero ra.length.symm
        rw [this]
        exact rb
      · refine q _ H (Same.refl H) ⟨a, vs, rfl, sa, ?_⟩
        subst e0
        have : ys = [] := List.eq_nil_of_length_eq_zero rb.length.symm
        rw [this, List.append_nil]
        exact ra
      · exact q _ _ (same_upd np) ⟨p, vs ++ ws, rfl, SqT.of upd_same, RepL.append (RepL.mono (Mono.of_same (same_upd np)) xs ra) (RepL.mono (Mono.of_same (same_upd np)) ys rb)⟩
    · cases hf
  | .list xs, .list ys, hf =>
    simp only [dAdd] at hf
    split at hf
    · rename_i hs
      cases hf
      obtain ⟨a, vs, rfl, sa, ra⟩ := hx.list
      obtain ⟨b, ws, rfl, sb, rb⟩ := hy.list
      refine .inr (.inr (.inl ⟨a, b, vs, ws, rfl, rfl, sa, sb, ?_, fun p np => ?_⟩))
      · rw [ra.length, rb.length]
        exact small_le hs
      · exact q _ _ (same_upd np) ⟨p, rfl, np, p, vs ++ ws, rfl, upd_same, RepL.append (RepL.mono (Mono.of_same (same_upd np)) xs ra) (RepL.mono (Mono.of_same (same_upd np)) ys rb)⟩
    · cases hf
theorem op2_sub : Op2 K mg dSub rSubA := by
  intro H x y d e res Q hf hx hy q
  match d, e, hf with
  | .int i, .int j, hf =>
    cases hf
    exact .inl ⟨i, j, hx.int, hy.int, q _ H (Same.refl H) rfl⟩
  | .bool b, .int j, hf =>
    cases hf
    exact .inr ⟨b, j, hx.bool, hy.int, q _ H (Same.refl H) rfl⟩
theorem w64_iff {i : Int} (h : w64 i = true) : -(2 ^ 64) < i ∧ i < 2 ^ 64 := by
  have := of_decide_eq_true h
  omega
def rMulA (K : PySem.W.Frag) : R2 := rOr (rI CMul fun i j => .int (i * j)) (rOr (rRepX K) (rRepT K))
theorem opr_mul {X : Cx} : OpR X (binaryOp .Mult) (rMulA X.K) := OpR.or op_mul (OpR.or op_repX op_repT)
theorem RepL.rep {H : Hp} {ds : List D} {xs : List V} (h : RepL K mg H ds xs) : ∀ k : Nat, RepL K mg H (repD k ds) (List.replicate k xs).flatten
  | 0 => rfl
  | k + 1 => by
    unfold repD
    rw [List.replicate_succ, List.replicate_succ, List.flatten_cons, List.flatten_cons]
    exact RepL.append h (RepL.rep h k)
theorem op2_mul : Op2 K mg dMulA (rMulA K) := by
  intro H x y d e res Q hf hx hy q
  match d, e, hf with
  | .int i, .int j, hf =>
    simp only [dMulA, dMul] at hf
    split at hf
    · rename_i hs
      cases hf
      refine .inl ⟨i, j, hx.int, hy.int, ?_, q _ H (Same.refl H) rfl⟩
      rcases Bool.or_eq_true_iff.mp hs with h | h
      · exact .inl (w64_iff h)
      · exact .inr (w64_iff h)
    · cases hf
  | .list xs, .int k, hf =>
    simp only [dMulA] at hf
    split at hf
    · rename_i hs
      cases hf
      obtain ⟨a, vs, rfl, sa, ra⟩ := hx.list
      refine .inr (.inl ⟨a, k, vs, rfl, hy.int, sa, by omega, by omega, ?_, fun p np => ?_⟩)
      · rw [ra.length, sizeLine_eq]
        have a1 : xs.length * k.toNat ≤ 100 * 100000 := Nat.mul_le_mul hs.2.2 (by omega)
        omega
      · exact q _ _ (same_upd np) ⟨p, rfl, np, p, _, rfl, upd_same, RepL.mono (Mono.of_same (same_upd np)) _ (RepL.rep ra k.toNat)⟩
    · cases hf
  | .tuple xs, .int k, hf =>
    simp only [dMulA] at hf
    split at hf
    · rename_i hs
      cases hf
      obtain ⟨a, vs, rfl, sa, ra⟩ := hx.tuple
      refine .inr (.inr ⟨a, k, vs, rfl, hy.int, sa, fun z => ?_, hs.1, hs.2.1, by rw [ra.length]; exact hs.2.2.1, fun p np => ?_⟩)
      · subst z
        have : xs = [] := List.eq_nil_of_length_eq_zero ra.length.symm
        rw [this] at hs
        exact absurd hs.2.2.2 (by decide)
      · exact q _ _ (same_upd np) ⟨p, _, rfl, SqT.of upd_same, RepL.mono (Mono.of_same (same_upd np)) _ (RepL.rep ra k.toNat)⟩
    · cases hf
theorem op2_mod : Op2 K mg dMod (rI (fun _ j => 0 < j) fun i j => .int (i % j)) := by
  intro H x y d e res Q hf hx hy q
  match d, e, hf with
  | .int i, .int j, hf =>
    simp only [dMod] at hf
    split at hf
    · rename_i hs
      cases hf
      exact ⟨i, j, hx.int, hy.int, hs, q _ H (Same.refl H) rfl⟩
    · cases hf
theorem op2_div : Op2 K mg dDiv (rI CDivW fun i j => .int (i / j)) := by
  intro H x y d e res Q hf hx hy q
  match d, e, hf with
  | .int i, .int j, hf =>
    simp only [dDiv] at hf
    split at hf
    · rename_i hs
      cases hf
      exact ⟨i, j, hx.int, hy.int, wide_div (b := 64) hs.1 (by omega) (by decide) (by decide), q _ H (Same.refl H) rfl⟩
    · cases hf
theorem op2_pow : Op2 K mg dPow (rI CPow fun i j => .int (i ^ j.toNat)) := by
  intro H x y d e res Q hf hx hy q
  match d, e, hf with
  | .int i, .int j, hf =>
    simp only [dPow] at hf
    split at hf
    · rename_i hs
      cases hf
      have h2 := w64_iff hs.2.2
      exact ⟨i, j, hx.int, hy.int, ⟨hs.1, by omega, by omega⟩, q _ H (Same.refl H) rfl⟩
    · cases hf
theorem op1_neg : Op1 K mg dNeg (rU fun i => .int (-i)) := by
  intro H x d res Q hf hx q
  match d, hf with
  | .int i, hf =>
    cases hf
    exact ⟨i, hx.int, q _ H (Same.refl H) rfl⟩
theorem op2_lt : Op2 K mg dLt (rI0 fun i j => .bl (decide (i < j))) := by
  intro H x y d e res Q hf hx hy q
  match d, e, hf with
  | .int i, .int j, hf =>
    cases hf
    exact ⟨i, j, hx.int, hy.int, q _ H (Same.refl H) rfl⟩
theorem op2_le : Op2 K mg dLe (rI0 fun i j => .bl (decide (i ≤ j))) := by
  intro H x y d e res Q hf hx hy q
  match d, e, hf with
  | .int i, .int j, hf =>
    cases hf
    exact ⟨i, j, hx.int, hy.int, q _ H (Same.refl H) rfl⟩
theorem op2_gt : Op2 K mg dGt (rI0 fun i j => .bl (decide (j < i))) := by
  intro H x y d e res Q hf hx hy q
  match d, e, hf with
  | .int i, .int j, hf =>
    cases hf
    exact ⟨i, j, hx.int, hy.int, q _ H (Same.refl H) rfl⟩
theorem op2_ge : Op2 K mg dGe (rI0 fun i j => .bl (decide (j ≤ i))) := by
  intro H x y d e res Q hf hx hy q
  match d, e, hf with
  | .int i, .int j, hf =>
    cases hf
    exact ⟨i, j, hx.int, hy.int, q _ H (Same.refl H) rfl⟩
theorem op2_eq : Op2 K mg dEq (rEqD K) := by
  intro H x y d e res Q hf hx hy q
  unfold dEq at hf
  split at hf
  · rename_i hs
    cases hf
    have hs := Bool.and_eq_true_iff.mp hs
    exact ⟨d, e, hx.dp hs.1, hy.dp hs.2, hs.1, hs.2, q _ H (Same.refl H) rfl⟩
  · cases hf
theorem op2_ne : Op2 K mg dNe (rNeD K) := by
  intro H x y d e res Q hf hx hy q
  unfold dNe at hf
  split at hf
  · rename_i hs
    cases hf
    have hs := Bool.and_eq_true_iff.mp hs
    exact ⟨d, e, hx.dp hs.1, hy.dp hs.2, hs.1, hs.2, q _ H (Same.refl H) rfl⟩
  · cases hf
theorem RepW.isN {H : Hp} {d : D} {v : V} (h : RepW K mg H d v) : decide (v = .non) = isN d := by
  cases d with
  | none => rw [h.none]; rfl
  | bool b => rw [h.bool]; rfl
  | int b => rw [h.int]; rfl
  | str b => rw [h.str]; rfl
  | tuple b => obtain ⟨a, xs, e, _⟩ := h.tuple; rw [e]; rfl
  | list b => obtain ⟨a, xs, e, _⟩ := h.list; rw [e]; rfl
  | dict b =>
    rcases h with (⟨x, a, _, _, e⟩ | ⟨_, _, _, _, _, _, e, _⟩ | ⟨_, _, _, _, e, _⟩) | ⟨_, _, _, e, _⟩
    · rw [e]; rfl
    · rw [e]; rfl
    · rw [e]; rfl
    · cases e
theorem op1_isN : Op1 K mg dIsN (fun x H Q => Q (.bl (decide (x = .non))) H) := by
  intro H x d res Q hf hx q
  cases hf
  rw [hx.isN]
  exact q _ H (Same.refl H) rfl
theorem op1_notN : Op1 K mg dNotN (fun x H Q => Q (.bl (!decide (x = .non))) H) := by
  intro H x d res Q hf hx q
  cases hf
  rw [hx.isN]
  exact q _ H (Same.refl H) rfl
theorem RepL.atI {H : Hp} {ds : List D} {xs : List V} {i : Int} {d : D} (h : RepL K mg H ds xs) (e : L2.atI ds i = some d) : ∃ v, L2.atI xs i = some v ∧ Rep K mg H d v := by
  unfold L2.atI at e ⊢
  rw [h.length]
  cases q : L2.ixN ds.length i with
  | none => rw [q] at e; cases e
  | some j =>
    rw [q] at e
    exact RepL.get h e
def rIxA (K : PySem.W.Frag) : R2 := rOr (rIxL K) (rIxT K)
theorem ixr_a {X : Cx} : IxR X (rIxA X.K) := IxR.or ix_list ix_tup
theorem op2_ix : Op2 K mg dIx (rIxA K) := by
  intro H x y d e res Q hf hx hy q
  match d, e, hf with
  | .list xs, .int i, hf =>
    simp only [dIx] at hf
    cases hd : L2.atI xs i with
    | none => rw [hd] at hf; cases hf
    | some d =>
      rw [hd] at hf
      cases hf
      obtain ⟨a, vs, rfl, sa, ra⟩ := hx.list
      obtain ⟨v, ev, rv⟩ := ra.atI hd
      exact .inl ⟨a, vs, i, v, rfl, hy.int, sa.sq, ev, q _ H (Same.refl H) rv⟩
  | .tuple xs, .int i, hf =>
    simp only [dIx] at hf
    cases hd : L2.atI xs i with
    | none => rw [hd] at hf; cases hf
    | some d =>
      rw [hd] at hf
      cases hf
      obtain ⟨a, vs, rfl, sa, ra⟩ := hx.tuple
      obtain ⟨v, ev, rv⟩ := ra.atI hd
      exact .inr ⟨a, vs, i, v, rfl, hy.int, sa, ev, q _ H (Same.refl H) rv⟩
end
end Rc

/-! Rc: built-in functions. -/
namespace Rc
open PySem PySem.Spec PyProof.Rows L2
variable [LamTbl]

theorem foldl_max_ge : ∀ (l : List Int) (a : Int), a ≤ l.foldl (fun m x => if x > m then x else m) a ∧ (∀ y ∈ l, y ≤ l.foldl (fun m x => if x > m then x else m) a) ∧ (l.foldl (fun m x => if x > m then x else m) a = a ∨ l.foldl (fun m x => if x > m then x else m) a ∈ l)
  | [], a => ⟨Int.le_refl _, fun _ h => (by cases h), .inl rfl⟩
  | x :: l, a => by
    obtain ⟨h1, h2, h3⟩ := foldl_max_ge l (if x > a then x else a)
    rw [List.foldl_cons]
    have ga : a ≤ (if x > a then x else a) := by split <;> omega
    have gx : x ≤ (if x > a then x else a) := by split <;> omega
    refine ⟨Int.le_trans ga h1, fun y hy => ?_, ?_⟩
    · rcases List.mem_cons.mp hy with rfl | hy
      · exact Int.le_trans gx h1
      · exact h2 y hy
    · rcases h3 with h3 | h3
      · by_cases hx : x > a
        · rw [if_pos hx] at h3 ⊢
          exact .inr (by rw [h3]; exact List.mem_cons_self)
        · rw [if_neg hx] at h3 ⊢
          exact .inl h3
      · exact .inr (List.mem_cons_of_mem _ h3)
theorem foldl_min_le : ∀ (l : List Int) (a : Int), l.foldl (fun m x => if x < m then x else m) a ≤ a ∧ (∀ y ∈ l, l.foldl (fun m x => if x < m then x else m) a ≤ y) ∧ (l.foldl (fun m x => if x < m then x else m) a = a ∨ l.foldl (fun m x => if x < m then x else m) a ∈ l)
  | [], a => ⟨Int.le_refl _, fun _ h => (by cases h), .inl rfl⟩
  | x :: l, a => by
    obtain ⟨h1, h2, h3⟩ := foldl_min_le l (if x < a then x else a)
    rw [List.foldl_cons]
    have ga : (if x < a then x else a) ≤ a := by split <;> omega
    have gx : (if x < a then x else a) ≤ x := by split <;> omega
    refine ⟨Int.le_trans h1 ga, fun y hy => ?_, ?_⟩
    · rcases List.mem_cons.mp hy with rfl | hy
      · exact Int.le_trans h1 gx
      · exact h2 y hy
    · rcases h3 with h3 | h3
      · by_cases hx : x < a
        · rw [if_pos hx] at h3 ⊢
          exact .inr (by rw [h3]; exact List.mem_cons_self)
        · rw [if_neg hx] at h3 ⊢
          exact .inl h3
      · exact .inr (List.mem_cons_of_mem _ h3)
theorem maxL_spec {ns : List Int} {m : Int} (h : maxL ns = some m) : m ∈ ns ∧ ∀ y ∈ ns, y ≤ m := by
  cases ns with
  | nil => cases h
  | cons a l =>
    cases h
    obtain ⟨h1, h2, h3⟩ := foldl_max_ge l a
    refine ⟨?_, fun y hy => ?_⟩
    · rcases h3 with h3 | h3
      · rw [h3]; exact List.mem_cons_self
      · exact List.mem_cons_of_mem _ h3
    · rcases List.mem_cons.mp hy with rfl | hy
      · exact h1
      · exact h2 y hy
theorem minL_spec {ns : List Int} {m : Int} (h : minL ns = some m) : m ∈ ns ∧ ∀ y ∈ ns, m ≤ y := by
  cases ns with
  | nil => cases h
  | cons a l =>
    cases h
    obtain ⟨h1, h2, h3⟩ := foldl_min_le l a
    refine ⟨?_, fun y hy => ?_⟩
    · rcases h3 with h3 | h3
      · rw [h3]; exact List.mem_cons_self
      · exact List.mem_cons_of_mem _ h3
    · rcases List.mem_cons.mp hy with rfl | hy
      · exact h1
      · exact h2 y hy

section
variable {prog : Program} {w : World} {A : Around} {E : Value → Shared → Prop} {s : Shared} {l : Addr} {xs : Array (Int × Tok)}
theorem sum_intTup {Q : Value → Shared → Prop} (hh : A.handled = none) (hl : s.heap.IsTuple l (intItems xs))
    (h : ∀ h' tk t', (∀ b o, s.heap.get? b = some o → h'.get? b = some o) → Q (.int (preSum (numAt xs) xs.size) t') { s with heap := h', toks := tk }) :
    wpAny (model prog w) A (call (.builtin "sum") [.ref l]) Q E s := by
  have hlt : l < s.heap.objs.size := by obtain ⟨_, e, _⟩ := hl; exact Heap.lt_size e
  refine call_sum_walkG (wpAny_pyIter_tuple hl ?_)
  refine ⟨_, [_, l], [_], _, _, _, numAt xs, rfl, Walks.tuple (A := A.in1) hh _ l (Nat.ne_of_lt hlt) (intItems xs),
    ⟨⟨_, Heap.get?_push_size _ rfl, rfl, rfl⟩, hl.push _⟩, fun c hc => ?_, (fun _ _ => intItems_at), fun h' tk t' hk => ?_⟩
  · show c < (s.heap.push _).objs.size
    rw [Heap.size_push]
    rcases List.mem_cons.mp hc with rfl | hc
    · exact Nat.lt_succ_self _
    · rcases List.mem_cons.mp hc with rfl | hc
      · exact Nat.lt_succ_of_lt hlt
      · cases hc
  · have := h h' tk t' fun b o e => by
      refine hk b o (fun hm => ?_) (Heap.get?_push_of_some _ e)
      rcases List.mem_cons.mp hm with e1 | hm
      · exact absurd (e1 ▸ Heap.lt_size e) (Nat.lt_irrefl _)
      · cases hm
    simpa [intItems] using this
theorem sum_rawT {its : List Value} {ns : List Int} {Q : Value → Shared → Prop} (hh : A.handled = none) (hl : s.heap.IsTuple l its.toArray) (hi : IntsAre its ns)
    (h : ∀ h' tk t', (∀ b o, s.heap.get? b = some o → h'.get? b = some o) → Q (.int ns.sum t') { s with heap := h', toks := tk }) : wpAny (model prog w) A (call (.builtin "sum") [.ref l]) Q E s := by
  obtain ⟨xs, e⟩ := hi.allInts.items
  have hn : numsOf (intItems xs).toList = ns := by rw [← e]; exact hi.numsOf
  rw [nums_intItems] at hn
  rw [e] at hl
  refine sum_intTup hh hl fun h' tk t' hk => ?_
  have := h h' tk t' hk
  rw [preSum_eq, List.take_of_length_le (by simp), hn]; exact this
end

section
variable {X : Cx}
def rSumT (K : PySem.W.Frag) : List V → Hp → VK → Prop := fun vs H Q => ∃ (a : Addr) (ns : List Int), vs = [V.ref a] ∧ SqT K H a (ns.map V.int) ∧ Q (.int ns.sum) H
theorem cr_sumT (hc : X.calm = true) : CallR X (.builtin "sum") (rSumT X.K) := by
  intro pins s σ H vs us Q I r h
  obtain ⟨a, ns, rfl, hs, q⟩ := h
  obtain ⟨its, rv, hl, _⟩ := I.tuple hs
  rw [Vals.ref1 r]
  exact sum_rawT (I.ok.hd hc) hl rv.ints fun h' tk t' hk => ⟨.int _, H, I.kept hk, ⟨_, rfl⟩, q⟩
end

/-! ### one argument -/
def cOr (r r' : List V → Hp → VK → Prop) : List V → Hp → VK → Prop := fun xs H Q => r xs H Q ∨ r' xs H Q
section
variable {K : PySem.W.Frag} {mg : Str → Option Value}
def Cl1 (K : PySem.W.Frag) (mg : Str → Option Value) (f : D → Option Sv) (r : List V → Hp → VK → Prop) : Prop := Op1 K mg f fun x H Q => r [x] H Q
def Cl2 (K : PySem.W.Frag) (mg : Str → Option Value) (f : D → D → Option Sv) (r : List V → Hp → VK → Prop) : Prop := Op2 K mg f fun x y H Q => r [x, y] H Q
theorem cl_len : Cl1 K mg dLen (fun xs H Q => ∃ p ys, xs = [.ref p] ∧ (SqL K H p ys ∨ SqT K H p ys) ∧ Q (.int ys.length) H) := by
  intro H x d res Q hf hx q
  match d, hf with
  | .list ds, hf =>
    cases hf
    obtain ⟨a, vs, rfl, sa, ra⟩ := hx.list
    exact ⟨a, vs, rfl, .inl sa.sq, by rw [ra.length]; exact q _ H (Same.refl H) rfl⟩
  | .tuple ds, hf =>
    cases hf
    obtain ⟨a, vs, rfl, sa, ra⟩ := hx.tuple
    exact ⟨a, vs, rfl, .inr sa, by rw [ra.length]; exact q _ H (Same.refl H) rfl⟩
def tyN : D → String
  | .none => "NoneType"
  | .bool _ => "bool"
  | .int _ => "int"
  | .str _ => "str"
  | .list _ => "list"
  | .tuple _ => "tuple"
  | .dict _ => ""
theorem RepW.tyx {H : Hp} {d : D} {v : V} (h : RepW K mg H d v) (nd : ∀ kvs, d ≠ .dict kvs) : ∃ n, TyX K H v (.type n) ∧ n = tyN d := by
  cases d with
  | none => rw [h.none]; exact ⟨_, .base .non, rfl⟩
  | bool b => rw [h.bool]; exact ⟨_, .base (.bl b), rfl⟩
  | int b => rw [h.int]; exact ⟨_, .base (.int b), rfl⟩
  | str b => rw [h.str]; exact ⟨_, .base (.str b), rfl⟩
  | list ds =>
    obtain ⟨a, xs, e, s, _⟩ := h.list
    rw [e]
    rcases s with s | ⟨o, s⟩ | ⟨its, n, s, _⟩
    · exact ⟨_, .base (.lst s), rfl⟩
    · exact ⟨_, .base (.frz s), rfl⟩
    · exact ⟨_, .kList s rfl, rfl⟩
  | tuple ds =>
    obtain ⟨a, xs, e, s, _⟩ := h.tuple
    rw [e]
    rcases s with (s | ⟨o, s⟩) | ⟨o, its, n, s, c, _⟩
    · exact ⟨_, .base (.tup s), rfl⟩
    · exact ⟨_, .fTuple s, rfl⟩
    · exact ⟨_, .kTuple s c, rfl⟩
  | dict kvs => exact absurd rfl (nd kvs)
theorem kitB_of {T : Ty} {d : D} {b : Bool} (h : isTy T d = some b) : kitB (tyN d) T.nm = some b := by
  cases T <;> cases d <;> simp only [isTy, Option.some.injEq, reduceCtorEq] at h <;> subst h <;> simp only [tyN, Ty.nm] <;> decide +kernel
/-- isinstance(x, T) -/
theorem cl_isi (T : Ty) : Op1 K mg (dIsi T) (fun x H Q => rIsi K [x, .ty T.nm] H Q) := by
  intro H x d res Q hf hx q
  unfold dIsi at hf
  cases hb : isTy T d with
  | none => rw [hb] at hf; cases hf
  | some b =>
    rw [hb] at hf
    cases hf
    obtain ⟨n, ty, en⟩ := hx.tyx fun kvs e => by rw [e] at hb; cases T <;> cases hb
    refine ⟨x, .ty T.nm, .type n, .type T.nm, b, rfl, .ty _, ty, ?_, q _ H (Same.refl H) rfl⟩
    rw [en]
    exact kit_ty (kitB_of hb)
theorem cl_abs : Cl1 K mg dAbs (fun xs H Q => ∃ i, xs = [.int i] ∧ Q (.int (if i < 0 then -i else i)) H) := by
  intro H x d res Q hf hx q
  match d, hf with
  | .int i, hf =>
    cases hf
    exact ⟨i, by rw [hx.int], q _ H (Same.refl H) rfl⟩
theorem cl_max2 : Cl2 K mg dMax2 (fun xs H Q => ∃ i j, xs = [.int i, .int j] ∧ Q (.int (if j > i then j else i)) H) := by
  intro H x y d e res Q hf hx hy q
  match d, e, hf with
  | .int i, .int j, hf =>
    cases hf
    exact ⟨i, j, by rw [hx.int, hy.int], q _ H (Same.refl H) rfl⟩
theorem cl_min2 : Cl2 K mg dMin2 (fun xs H Q => ∃ i j, xs = [.int i, .int j] ∧ Q (.int (if j < i then j else i)) H) := by
  intro H x y d e res Q hf hx hy q
  match d, e, hf with
  | .int i, .int j, hf =>
    cases hf
    exact ⟨i, j, by rw [hx.int, hy.int], q _ H (Same.refl H) rfl⟩
theorem cl_sum : Cl1 K mg dSum (cOr (rSum K) (rSumT K)) := by
  intro H x d res Q hf hx q
  match d, hf with
  | .list ds, hf =>
    simp only [dSum, dSeq, Option.bind_some] at hf
    cases hn : asInts ds with
    | none => rw [hn] at hf; cases hf
    | some ns =>
      rw [hn] at hf
      cases hf
      obtain ⟨a, vs, rfl, sa, ra⟩ := hx.list
      rw [asInts_eq hn] at ra
      have ev := RepL.ints ra
      subst ev
      exact .inl ⟨a, ns, rfl, sa.sq, q _ H (Same.refl H) rfl⟩
  | .tuple ds, hf =>
    simp only [dSum, dSeq, Option.bind_some] at hf
    cases hn : asInts ds with
    | none => rw [hn] at hf; cases hf
    | some ns =>
      rw [hn] at hf
      cases hf
      obtain ⟨a, vs, rfl, sa, ra⟩ := hx.tuple
      rw [asInts_eq hn] at ra
      have ev := RepL.ints ra
      subst ev
      exact .inr ⟨a, ns, rfl, sa, q _ H (Same.refl H) rfl⟩
theorem cl_all : Cl1 K mg dAll (rAll K) := by
  intro H x d res Q hf hx q
  match d, hf with
  | .list ds, hf =>
    simp only [dAll] at hf
    cases hn : asBools ds with
    | none => rw [hn] at hf; cases hf
    | some ns =>
      rw [hn] at hf
      cases hf
      obtain ⟨a, vs, rfl, sa, ra⟩ := hx.list
      rw [asBools_eq hn] at ra
      have ev := RepL.bools ra
      subst ev
      exact ⟨a, ns, rfl, sa.sq, q _ H (Same.refl H) rfl⟩
theorem cl_max : Cl1 K mg dMax (rMax K) := by
  intro H x d res Q hf hx q
  match d, hf with
  | .list ds, hf =>
    simp only [dMax] at hf
    cases hn : asInts ds with
    | none => rw [hn] at hf; cases hf
    | some ns =>
      rw [hn] at hf
      simp only [Option.bind_some] at hf
      cases hm : maxL ns with
      | none => rw [hm] at hf; cases hf
      | some m =>
        rw [hm] at hf
        cases hf
        obtain ⟨a, vs, rfl, sa, ra⟩ := hx.list
        rw [asInts_eq hn] at ra
        have ev := RepL.ints ra
        subst ev
        obtain ⟨h1, h2⟩ := maxL_spec hm
        refine ⟨a, ns, rfl, sa.sq, List.length_pos_of_mem h1, fun m' g1 g2 => ?_⟩
        have : m' = m := Int.le_antisymm (h2 m' g1) (g2 m h1)
        subst this
        exact q _ H (Same.refl H) rfl
theorem cl_min : Cl1 K mg dMin (rMin K) := by
  intro H x d res Q hf hx q
  match d, hf with
  | .list ds, hf =>
    simp only [dMin] at hf
    cases hn : asInts ds with
    | none => rw [hn] at hf; cases hf
    | some ns =>
      rw [hn] at hf
      simp only [Option.bind_some] at hf
      cases hm : minL ns with
      | none => rw [hm] at hf; cases hf
      | some m =>
        rw [hm] at hf
        cases hf
        obtain ⟨a, vs, rfl, sa, ra⟩ := hx.list
        rw [asInts_eq hn] at ra
        have ev := RepL.ints ra
        subst ev
        obtain ⟨h1, h2⟩ := minL_spec hm
        refine ⟨a, ns, rfl, sa.sq, List.length_pos_of_mem h1, fun m' g1 g2 => ?_⟩
        have : m' = m := Int.le_antisymm (g2 m h1) (h2 m' g1)
        subst this
        exact q _ H (Same.refl H) rfl
theorem cl_tuple : Cl1 K mg dTuple (fun xs H Q => ∃ p ys, xs = [.ref p] ∧ ((SqL K H p ys ∧ ∀ l, H l = none → Q (.ref l) (upd H l (.tup ys))) ∨ (SqT K H p ys ∧ Q (.ref p) H))) := by
  intro H x d res Q hf hx q
  match d, hf with
  | .list ds, hf =>
    cases hf
    obtain ⟨a, vs, rfl, sa, ra⟩ := hx.list
    exact ⟨a, vs, rfl, .inl ⟨sa.sq, fun l nl => q _ _ (same_upd nl) ⟨l, vs, rfl, SqT.of upd_same, RepL.mono (Mono.of_same (same_upd nl)) ds ra⟩⟩⟩
  | .tuple ds, hf =>
    cases hf
    obtain ⟨a, vs, rfl, sa, ra⟩ := hx.tuple
    exact ⟨a, vs, rfl, .inr ⟨sa, q _ H (Same.refl H) ⟨a, vs, rfl, sa, ra⟩⟩⟩
theorem cl_list : Cl1 K mg dList (fun xs H Q => ∃ p ys, xs = [.ref p] ∧ (SqL K H p ys ∨ SqT K H p ys) ∧ ∀ l, H l = none → Q (.ref l) (upd H l (.lst ys))) := by
  intro H x d res Q hf hx q
  match d, hf with
  | .list ds, hf =>
    cases hf
    obtain ⟨a, vs, rfl, sa, ra⟩ := hx.list
    exact ⟨a, vs, rfl, .inl sa.sq, fun l nl => q _ _ (same_upd nl) ⟨l, rfl, nl, l, vs, rfl, upd_same, RepL.mono (Mono.of_same (same_upd nl)) ds ra⟩⟩
  | .tuple ds, hf =>
    cases hf
    obtain ⟨a, vs, rfl, sa, ra⟩ := hx.tuple
    exact ⟨a, vs, rfl, .inr sa, fun l nl => q _ _ (same_upd nl) ⟨l, rfl, nl, l, vs, rfl, upd_same, RepL.mono (Mono.of_same (same_upd nl)) ds ra⟩⟩
end

/-! ### the forms that a derivation uses -/
section
variable {X : Cx} {F : Fx} {E : XK} {pos p : Pos} {a b : Expr} {oa ob : Od}
theorem a_bin {op : Operator} {r : R2} {f : D → D → Option Sv} (ho : OpR X (binaryOp op) r) (hf : Op2 X.K X.mg f r) (ha : AO X F E a oa) (hb : AO X F E b ob) : AE X F E (.BinOp a op b pos) (eOp2 f oa ob) :=
  PE_imp (pe_op ho ha hb) (imp2 hf oa ob)
theorem a_add (ha : AO X F E a oa) (hb : AO X F E b ob) : AE X F E (.BinOp a .Add b pos) (eOp2 dAdd oa ob) := a_bin opr_add op2_add ha hb
theorem a_sub (ha : AO X F E a oa) (hb : AO X F E b ob) : AE X F E (.BinOp a .Sub b pos) (eOp2 dSub oa ob) := a_bin opr_sub op2_sub ha hb
theorem a_mul (ha : AO X F E a oa) (hb : AO X F E b ob) : AE X F E (.BinOp a .Mult b pos) (eOp2 dMulA oa ob) := a_bin opr_mul op2_mul ha hb
theorem a_mod (ha : AO X F E a oa) (hb : AO X F E b ob) : AE X F E (.BinOp a .Mod b pos) (eOp2 dMod oa ob) := a_bin op_mod op2_mod ha hb
theorem a_div (ha : AO X F E a oa) (hb : AO X F E b ob) : AE X F E (.BinOp a .FloorDiv b pos) (eOp2 dDiv oa ob) := a_bin op_fdivW op2_div ha hb
theorem a_pow (ha : AO X F E a oa) (hb : AO X F E b ob) : AE X F E (.BinOp a .Pow b pos) (eOp2 dPow oa ob) := a_bin op_pow op2_pow ha hb
theorem a_neg (ha : AO X F E a oa) : AE X F E (.UnaryOp .USub a pos) (eOp1 dNeg oa) := PE_imp (pe_un un_neg ha) (imp1 op1_neg oa)
theorem a_cmp {op : CmpOp} {r : R2} {f : D → D → Option Sv} (ho : OpR X (compareOp op) r) (hf : Op2 X.K X.mg f r) (ha : AO X F E a oa) (hb : AO X F E b ob) (hm : behindInMarks op b = false) : AE X F E (.Compare a [op] [b] pos) (eOp2 f oa ob) :=
  PE_imp (pe_cmpR ho ha hb hm) (imp2 hf oa ob)
theorem tB_imp {K : PySem.W.Frag} {mg : Str → Option Value} {m : M Sv} {t : TE} (h : ∀ σ H Q, tOf K mg F E m σ H Q → t σ H Q) : ∀ σ H Q, tOfB K mg F E (Rc.tB m) σ H Q → t σ H fun x H' => ∃ k, x = .bl k ∧ Q k H' := by
  intro σ H Q ⟨S, st, q⟩
  refine h σ H _ ⟨S, st, ?_⟩
  unfold Rc.tB at q
  cases em : m S with
  | no => rw [em] at q; exact q.elim
  | ex k S1 => rw [em] at q; exact q
  | ok r S1 =>
    rw [em] at q
    intro v H' g rr
    match r, q, rr with
    | .val (.bool b), q, rr => exact ⟨b, rr, q H' g⟩
theorem at_cmp {op : CmpOp} {r : R2} {f : D → D → Option Sv} (ho : OpR X (compareOp op) r) (hf : Op2 X.K X.mg f r) (ha : AO X F E a oa) (hb : AO X F E b ob) (hm : behindInMarks op b = false) : AT X F E (.Compare a [op] [b] pos) (Rc.tB (eOp2 f oa ob)) :=
  PT_imp (pt_cmpR ho ha hb hm) (tB_imp (imp2 hf oa ob))
/-- any other expression as a test -/
theorem at_val {e : Expr} {m : M Sv} (h : AE X F E e m) (he : ∀ whole, isTrue e X.env whole = (do let v ← whole; standAt e.pos; holding [v] (truthy v)) := by intro _; rfl) : AT X F E e (Rc.tB m) :=
  PT_imp (pt_val h he) (tB_imp fun _ _ _ h => h)
theorem a_ix (ha : AO X F E a oa) (hb : AO X F E b ob) (hs : PlainIx b) : AE X F E (.Subscript a b pos) (eOp2 dIx oa ob) :=
  PE_imp (pe_ix ixr_a ha hb hs) (imp2 op2_ix oa ob)
/-- f(a), f a built-in function -/
theorem a_b1 {x : Str} {id : String} {r : List V → Hp → VK → Prop} {f : D → Option Sv} (hc : CallR X (.builtin id) r) (hf : Cl1 X.K X.mg f r) (hg : Gl X x) (hm : X.mg x = none) (hv : bootBuiltins x = some (.builtin id)) (ha : AO X F E a oa) (hn : x ≠ "__name__" := by decide) (hdb : (x == ("__debug__" : Str)) = false := by decide)
    (he : starEach (a :: []) X.env = (false, eval a X.env) :: starEach [] X.env := by rfl) (hpl : (backTo pos (starEach [] X.env)).any (·.1) = false := by rfl) : AE X F E (.Call (.Name x p) [a] [] pos) (eOp1 f oa) :=
  PE_imp (pe_callB hc hg hm hv (pa_cons ha pa_nil he) hn hdb he hpl) (imp1 hf oa)
theorem a_b2 {x : Str} {id : String} {r : List V → Hp → VK → Prop} {f : D → D → Option Sv} (hc : CallR X (.builtin id) r) (hf : Cl2 X.K X.mg f r) (hg : Gl X x) (hm : X.mg x = none) (hv : bootBuiltins x = some (.builtin id)) (ha : AO X F E a oa) (hb : AO X F E b ob) (hn : x ≠ "__name__" := by decide) (hdb : (x == ("__debug__" : Str)) = false := by decide)
    (he : starEach (a :: b :: []) X.env = (false, eval a X.env) :: starEach [b] X.env := by rfl) (he2 : starEach (b :: []) X.env = (false, eval b X.env) :: starEach [] X.env := by rfl) (hpl : (backTo pos (starEach [b] X.env)).any (·.1) = false := by rfl) : AE X F E (.Call (.Name x p) [a, b] [] pos) (eOp2 f oa ob) :=
  PE_imp (pe_callB hc hg hm hv (pa_cons ha (pa_cons hb pa_nil he2) he) hn hdb he hpl) (imp2 hf oa ob)
/-- T(a), T a built-in type -/
theorem a_t1 {x : Str} {T : String} {r : List V → Hp → VK → Prop} {f : D → Option Sv} (hc : CallR X (.type T) r) (hf : Cl1 X.K X.mg f r) (hg : Gl X x) (hm : X.mg x = none) (hv : bootBuiltins x = some (.type T)) (ha : AO X F E a oa) (hn : x ≠ "__name__" := by decide) (hdb : (x == ("__debug__" : Str)) = false := by decide)
    (he : starEach (a :: []) X.env = (false, eval a X.env) :: starEach [] X.env := by rfl) (hpl : (backTo pos (starEach [] X.env)).any (·.1) = false := by rfl) : AE X F E (.Call (.Name x p) [a] [] pos) (eOp1 f oa) :=
  PE_imp (pe_callTy hc hg hm hv (pa_cons ha pa_nil he) hn hdb he hpl) (imp1 hf oa)
/-- isinstance(a, T) -/
theorem a_isi {y : Str} {p2 : Pos} (T : Ty) (hg : Gl X "isinstance") (hm : X.mg "isinstance" = none) (hgy : Gl X y) (hmy : X.mg y = none) (hy : bootBuiltins y = some (.type T.nm)) (ha : AO X F E a oa) (hn : y ≠ "__name__" := by decide) (hdb : (y == ("__debug__" : Str)) = false := by decide)
    (he : starEach (a :: [.Name y p2]) X.env = (false, eval a X.env) :: starEach [.Name y p2] X.env := by rfl) (hpl : (backTo pos (starEach [.Name y p2] X.env)).any (·.1) = false := by rfl) : AE X F E (.Call (.Name "isinstance" p) [a, .Name y p2] [] pos) (eOp1 (dIsi T) oa) :=
  PE_imp (pe_callB call_isi hg hm (by decide +kernel) (pa_cons ha (pa_cons (pe_bltn (v := .ty T.nm) hgy hmy hy rfl hn hdb) pa_nil (by rfl)) he) (by decide) (by decide) he hpl) (imp1 (cl_isi T) oa)
end
end Rc

/-! Rc: displays, and, or, not, calls of defs, a def by its body. -/
namespace Rc
open PySem PySem.Spec PyProof.Rows L2
variable [LamTbl]

/-! ### displays -/
section
variable {X : Cx} {F : Fx} {E : XK} {pos : Pos}
theorem al_nil : AL X F E [] (evL []) := PA_imp pa_nil fun σ H Q ⟨S, st, q⟩ => q [] H (Go.refl st) rfl
theorem al_cons {e : Expr} {es : List Expr} {m : M Sv} {ms : List (M Sv)} (ha : AE X F E e m) (hr : AL X F E es (evL ms)) (hs : starEach (e :: es) X.env = (false, eval e X.env) :: starEach es X.env := by rfl) : AL X F E (e :: es) (evL (m :: ms)) := by
  refine PA_imp (pa_cons (a_fz ha) hr hs) fun σ H Q ⟨S, st, q⟩ => ⟨S, st, ?_⟩
  simp only [evL] at q
  unfold eFz
  cases em : m S with
  | no => rw [em] at q; exact q.elim
  | ex k S1 => rw [em] at q; exact q
  | ok r S1 =>
    rw [em] at q
    simp only [Res.bind] at q ⊢
    cases ed : toD r with
    | none => rw [ed] at q; exact q.elim
    | some d =>
      rw [ed] at q
      simp only at q ⊢
      intro v H1 g1 r1
      refine ⟨S1, g1.rst, ?_⟩
      cases el : evL ms S1 with
      | no => rw [el] at q; exact q.elim
      | ex k S2 => rw [el] at q; exact q
      | ok ds S2 =>
        rw [el] at q
        intro vs H2 g2 r2
        exact q (v :: vs) H2 (g1.trans g2) ⟨v, vs, rfl, Rep.mono (g2.mono g1.rst) d r1, r2⟩
theorem evL_length : ∀ {ms : List (M Sv)} {S : Sl} {ds : List D} {S1 : Sl}, evL ms S = .ok ds S1 → ds.length = ms.length
  | [], _, _, _, h => by cases h; rfl
  | m :: ms, S, ds, S1, h => by
    simp only [evL] at h
    cases em : m S with
    | no => rw [em] at h; cases h
    | ex k S1 => rw [em] at h; cases h
    | ok r S1 =>
      rw [em] at h
      simp only [Res.bind] at h
      cases ed : toD r with
      | none => rw [ed] at h; cases h
      | some d =>
        rw [ed] at h
        simp only at h
        cases el : evL ms S1 with
        | no => rw [el] at h; cases h
        | ex k S2 => rw [el] at h; cases h
        | ok ds S2 =>
          rw [el] at h
          cases h
          rw [List.length_cons, List.length_cons, evL_length el]
theorem a_tup {es : List Expr} {k} {ms : List (M Sv)} (h : AL X F E es (evL ms)) (hz : ms.length ≤ 1000 := by decide) : AE X F E (.Tuple es k pos) (eTup ms) := by
  refine PE_imp (pe_tup h) fun σ H Q ⟨S, st, q⟩ => ⟨S, st, ?_⟩
  unfold eTup at q
  cases el : evL ms S with
  | no => rw [el] at q; exact q.elim
  | ex k S1 => rw [el] at q; exact q
  | ok ds S1 =>
    rw [el] at q
    intro vs H1 g1 r1
    refine ⟨by rw [r1.length, evL_length el, sizeLine_eq]; omega, fun p np => ?_⟩
    have sm : Same H1 (upd H1 p (.tup vs)) := fun b x e => by rw [upd_ne (ne_of_none e np)]; exact e
    exact q (.ref p) _ (g1.trans (Go.of_same g1.rst sm)) ⟨p, vs, rfl, SqT.of upd_same, RepL.mono (Mono.of_same sm) ds r1⟩
theorem a_lst {es : List Expr} {ms : List (M Sv)} (h : AL X F E es (evL ms)) (hz : ms.length ≤ 1000 := by decide) : AE X F E (.List es pos) (eLst ms) := by
  refine PE_imp (pe_lst h) fun σ H Q ⟨S, st, q⟩ => ⟨S, st, ?_⟩
  unfold eLst at q
  cases el : evL ms S with
  | no => rw [el] at q; exact q.elim
  | ex k S1 => rw [el] at q; exact q
  | ok ds S1 =>
    rw [el] at q
    intro vs H1 g1 r1
    refine ⟨by rw [r1.length, evL_length el, sizeLine_eq]; omega, fun p np => ?_⟩
    have sm : Same H1 (upd H1 p (.lst vs)) := fun b x e => by rw [upd_ne (ne_of_none e np)]; exact e
    have n0 : H p = none := by
      cases e : H p with
      | none => rfl
      | some u => exact absurd np (g1.dm p (by rw [e]; exact fun z => by cases z))
    exact q (.ref p) _ (g1.trans (Go.of_same g1.rst sm)) ⟨p, rfl, n0, p, vs, rfl, upd_same, RepL.mono (Mono.of_same sm) ds r1⟩

/-! ### and, or, not, if as a value -/
variable {a b c : Expr} {rest : List Expr} {ma mb mc : M Bool} {va vb : M Sv}
theorem tAnd_imp {K : PySem.W.Frag} {mg : Str → Option Value} {u : TT} (hu : ∀ σ H Q, tOfB K mg F E mb σ H Q → u σ H Q) : ∀ σ H Q, tOfB K mg F E (Rc.tAnd ma mb) σ H Q → L2.tAnd (tOfB K mg F E ma) u σ H Q := by
  intro σ H Q ⟨S, st, q⟩
  refine ⟨S, st, ?_⟩
  unfold Rc.tAnd at q
  cases em : ma S with
  | no => rw [em] at q; exact q.elim
  | ex k S1 => rw [em] at q; exact q
  | ok x S1 =>
    rw [em] at q
    simp only [Res.bind] at q
    intro H1 g1
    cases x with
    | false =>
      simp only [Bool.false_eq_true, if_false] at q ⊢
      exact q H1 g1
    | true =>
      simp only [if_true] at q ⊢
      refine hu σ H1 Q ⟨S1, g1.rst, ?_⟩
      cases en : mb S1 with
      | no => rw [en] at q; exact q.elim
      | ex k S2 => rw [en] at q; exact q
      | ok y S2 =>
        rw [en] at q
        exact fun H2 g2 => q H2 (g1.trans g2)
theorem tOr_imp {K : PySem.W.Frag} {mg : Str → Option Value} {u : TT} (hu : ∀ σ H Q, tOfB K mg F E mb σ H Q → u σ H Q) : ∀ σ H Q, tOfB K mg F E (Rc.tOr ma mb) σ H Q → L2.tOr (tOfB K mg F E ma) u σ H Q := by
  intro σ H Q ⟨S, st, q⟩
  refine ⟨S, st, ?_⟩
  unfold Rc.tOr at q
  cases em : ma S with
  | no => rw [em] at q; exact q.elim
  | ex k S1 => rw [em] at q; exact q
  | ok x S1 =>
    rw [em] at q
    simp only [Res.bind] at q
    intro H1 g1
    cases x with
    | true =>
      simp only [if_true] at q ⊢
      exact q H1 g1
    | false =>
      simp only [Bool.false_eq_true, if_false] at q ⊢
      refine hu σ H1 Q ⟨S1, g1.rst, ?_⟩
      cases en : mb S1 with
      | no => rw [en] at q; exact q.elim
      | ex k S2 => rw [en] at q; exact q
      | ok y S2 =>
        rw [en] at q
        exact fun H2 g2 => q H2 (g1.trans g2)
abbrev AW (X : Cx) (F : Fx) (E : XK) (e : Expr) (m : M Bool) : Prop := PW X e (tOfB X.K X.mg F E m)
theorem PW_imp {e : Expr} {t t' : TT} (h : PW X e t) (i : ∀ σ H Q, t' σ H Q → t σ H Q) : PW X e t' := ⟨fun w pins s σ H Q I hw => h.run w pins s σ H Q I (i σ H Q hw)⟩
theorem aw_and1 (ha : AT X F E a ma) : AW X F E (.BoolOp .And [a] pos) ma := pw_and1 ha
theorem aw_or1 (ha : AT X F E a ma) : AW X F E (.BoolOp .Or [a] pos) ma := pw_or1 ha
theorem aw_and (ha : AT X F E a ma) (hb : AW X F E (.BoolOp .And (b :: rest) pos) mb) : AW X F E (.BoolOp .And (a :: b :: rest) pos) (Rc.tAnd ma mb) := PW_imp (pw_and ha hb) (tAnd_imp fun _ _ _ h => h)
theorem aw_or (ha : AT X F E a ma) (hb : AW X F E (.BoolOp .Or (b :: rest) pos) mb) : AW X F E (.BoolOp .Or (a :: b :: rest) pos) (Rc.tOr ma mb) := PW_imp (pw_or ha hb) (tOr_imp fun _ _ _ h => h)
theorem at_w (h : AW X F E a ma) : AT X F E a ma := PW.pt h
theorem at_not (ha : AT X F E a ma) : AT X F E (.UnaryOp .Not a pos) (Rc.tNot ma) := by
  refine PT_imp (pt_not ha) fun σ H Q ⟨S, st, q⟩ => ⟨S, st, ?_⟩
  unfold Rc.tNot at q
  cases em : ma S with
  | no => rw [em] at q; exact q.elim
  | ex k S1 => rw [em] at q; exact q
  | ok x S1 => rw [em] at q; exact q
/-- not a, as a value -/
theorem a_not {m : M Sv} (ha : AE X F E a m) : AE X F E (.UnaryOp .Not a pos) (eB (Rc.tNot (Rc.tB m))) := by
  refine PE_imp (pe_not ha) fun σ H Q ⟨S, st, q⟩ => ⟨S, st, ?_⟩
  unfold eB Rc.tNot Rc.tB at q
  cases em : m S with
  | no => rw [em] at q; exact q.elim
  | ex k S1 => rw [em] at q; exact q
  | ok r S1 =>
    rw [em] at q
    intro v H' g rr
    match r, q, rr with
    | .val (.bool x), q, rr => exact ⟨x, rr, q _ H' g rfl⟩
theorem a_and1 (ha : AE X F E a va) : AE X F E (.BoolOp .And [a] pos) va := pe_one ha
theorem a_or1 (ha : AE X F E a va) : AE X F E (.BoolOp .Or [a] pos) va := pe_one ha
/-- what a value's test hands on -/
theorem tB_ok {m : M Sv} {S S1 : Sl} {x : Bool} (h : Rc.tB m S = .ok x S1) : m S = .ok (.val (.bool x)) S1 := by
  unfold Rc.tB at h
  cases em : m S with
  | no => rw [em] at h; cases h
  | ex k S1 => rw [em] at h; cases h
  | ok r S1 =>
    rw [em] at h
    match r, h with
    | .val (.bool x), h => cases h; rfl
theorem a_and (ha : AE X F E a va) (hb : AE X F E (.BoolOp .And (b :: rest) pos) vb) : AE X F E (.BoolOp .And (a :: b :: rest) pos) (Rc.eAnd va vb) := by
  refine PE_imp (pe_and ha hb) fun σ H Q ⟨S, st, q⟩ => ⟨S, st, ?_⟩
  unfold Rc.eAnd Rc.tB at q
  cases em : va S with
  | no => rw [em] at q; exact q.elim
  | ex k S1 => rw [em] at q; exact q
  | ok r S1 =>
    rw [em] at q
    intro v H1 g1 rr
    match r, q, rr with
    | .val (.bool x), q, rr =>
      refine ⟨x, rr, ?_⟩
      simp only [Res.bind, asB] at q
      cases x with
      | false =>
        simp only [Bool.false_eq_true, if_false] at q ⊢
        exact q _ H1 g1 rfl
      | true =>
        simp only [if_true] at q ⊢
        refine ⟨S1, g1.rst, ?_⟩
        cases en : vb S1 with
        | no => rw [en] at q; exact q.elim
        | ex k S2 => rw [en] at q; exact q
        | ok y S2 =>
          rw [en] at q
          exact fun w H2 g2 r2 => q w H2 (g1.trans g2) (r2.cast g1.dm)
theorem a_or (ha : AE X F E a va) (hb : AE X F E (.BoolOp .Or (b :: rest) pos) vb) : AE X F E (.BoolOp .Or (a :: b :: rest) pos) (Rc.eOr va vb) := by
  refine PE_imp (pe_or ha hb) fun σ H Q ⟨S, st, q⟩ => ⟨S, st, ?_⟩
  unfold Rc.eOr Rc.tB at q
  cases em : va S with
  | no => rw [em] at q; exact q.elim
  | ex k S1 => rw [em] at q; exact q
  | ok r S1 =>
    rw [em] at q
    intro v H1 g1 rr
    match r, q, rr with
    | .val (.bool x), q, rr =>
      refine ⟨x, rr, ?_⟩
      simp only [Res.bind, asB] at q
      cases x with
      | true =>
        simp only [if_true] at q ⊢
        exact q _ H1 g1 rfl
      | false =>
        simp only [Bool.false_eq_true, if_false] at q ⊢
        refine ⟨S1, g1.rst, ?_⟩
        cases en : vb S1 with
        | no => rw [en] at q; exact q.elim
        | ex k S2 => rw [en] at q; exact q
        | ok y S2 =>
          rw [en] at q
          exact fun w H2 g2 r2 => q w H2 (g1.trans g2) (r2.cast g1.dm)
theorem a_if (hc : AT X F E c mc) (ha : AE X F E a va) (hb : AE X F E b vb) : AE X F E (.IfExp c a b pos) (Rc.eIf mc va vb) := by
  refine PE_imp (pe_ifExp hc ha hb) fun σ H Q ⟨S, st, q⟩ => ⟨S, st, ?_⟩
  unfold Rc.eIf at q
  cases em : mc S with
  | no => rw [em] at q; exact q.elim
  | ex k S1 => rw [em] at q; exact q
  | ok x S1 =>
    rw [em] at q
    simp only [Res.bind] at q
    intro H1 g1
    cases x with
    | true =>
      simp only [if_true] at q ⊢
      refine ⟨S1, g1.rst, ?_⟩
      cases en : va S1 with
      | no => rw [en] at q; exact q.elim
      | ex k S2 => rw [en] at q; exact q
      | ok y S2 =>
        rw [en] at q
        exact fun w H2 g2 r2 => q w H2 (g1.trans g2) (r2.cast g1.dm)
    | false =>
      simp only [Bool.false_eq_true, if_false] at q ⊢
      refine ⟨S1, g1.rst, ?_⟩
      cases en : vb S1 with
      | no => rw [en] at q; exact q.elim
      | ex k S2 => rw [en] at q; exact q
      | ok y S2 =>
        rw [en] at q
        exact fun w H2 g2 r2 => q w H2 (g1.trans g2) (r2.cast g1.dm)

/-! ### a op b op' c -/
theorem Rep.flat_any {K : PySem.W.Frag} {mg : Str → Option Value} {H H' : Hp} {d : D} {v : V} (f : flat d = true) (h : Rep K mg H d v) : Rep K mg H' d v := by
  cases d with
  | none => exact h
  | bool _ => exact h
  | int _ => exact h
  | str _ => exact h
  | list _ => cases f
  | tuple _ => cases f
  | dict _ => cases f
/-- an operand that gives a plain value -/
def tOfF (K : PySem.W.Frag) (mg : Str → Option Value) (F : Fx) (E : XK) (m : M D) : TE := fun σ H Q => ∃ S, RSt K mg F σ H S ∧ match m S with
  | .ok d S' => ∀ v H', Go K mg F σ S H S' H' → flat d = true → Rep K mg H' d v → Q v H'
  | .ex e S' => ∀ cls d H', RSt K mg F σ H' S' → RepE mg e cls d H' → E cls d H'
  | .no => False
theorem af_of {e : Expr} {o : Od} (h : AO X F E e o) : PE X e (tOfF X.K X.mg F E (evS o)) := by
  refine PE_imp h fun σ H Q ⟨S, st, q⟩ => ?_
  cases o with
  | e m =>
    refine ⟨S, st, ?_⟩
    simp only [evS] at q
    cases em : m S with
    | no => rw [em] at q; exact q.elim
    | ex k S1 => rw [em] at q; exact q
    | ok r S1 =>
      rw [em] at q
      intro v H' g rr
      match r, q, rr with
      | .val d, q, rr =>
        simp only [Res.bind] at q
        cases fd : flat d with
        | false => rw [fd] at q; exact q.elim
        | true => rw [fd] at q; exact q v H' g fd rr
  | v i =>
    simp only [evS] at q
    cases es : S[i]? with
    | none => rw [es] at q; exact q.elim
    | some s =>
      rw [es] at q
      match s, es, q with
      | .val d, es, q =>
        obtain ⟨v, ev, rv⟩ := st.at_ i _ es
        simp only at q
        cases fd : flat d with
        | false => rw [fd] at q; exact q.elim
        | true => rw [fd] at q; exact ⟨v, ev, q v H (Go.refl st) fd rv⟩
theorem chain_imp {K : PySem.W.Frag} {mg : Str → Option Value} {f g : D → D → Option Sv} {r r' : R2} {oa ob oc : Od} (hf : Op2 K mg f r) (hg : Op2 K mg g r') : ∀ σ H Q, tOf K mg F E (eChain f g oa ob oc) σ H Q →
    tChain r r' (tOfF K mg F E (evS oa)) (tOfF K mg F E (evS ob)) (tOfF K mg F E (evS oc)) σ H Q := by
  intro σ H Q ⟨S, st, q⟩
  refine ⟨S, st, ?_⟩
  unfold eChain at q
  cases ea : evS oa S with
  | no => rw [ea] at q; exact q.elim
  | ex k S1 => rw [ea] at q; exact q
  | ok x S1 =>
    rw [ea] at q
    simp only [Res.bind] at q
    intro v1 H1 g1 f1 r1
    refine ⟨S1, g1.rst, ?_⟩
    cases eb : evS ob S1 with
    | no => rw [eb] at q; exact q.elim
    | ex k S2 => rw [eb] at q; exact q
    | ok y S2 =>
      rw [eb] at q
      simp only at q
      intro v2 H2 g2 f2 r2
      cases ef : f x y with
      | none => rw [ef] at q; exact q.elim
      | some res =>
        rw [ef] at q
        refine hf H2 v1 v2 x y res _ ef (.inl (Rep.flat_any f1 r1)) (.inl r2) fun z H3 sm rr => ?_
        have g12 := (g1.trans g2).trans (Go.of_same g2.rst sm)
        match res, q, rr with
        | .val (.bool false), q, rr =>
          refine ⟨false, rr, ?_⟩
          simp only [Bool.false_eq_true, if_false] at q ⊢
          exact q _ H3 g12 rfl
        | .val (.bool true), q, rr =>
          refine ⟨true, rr, ?_⟩
          simp only [if_true] at q ⊢
          refine ⟨S2, g12.rst, ?_⟩
          cases ec : evS oc S2 with
          | no => rw [ec] at q; exact q.elim
          | ex k S3 => rw [ec] at q; exact q
          | ok w S3 =>
            rw [ec] at q
            simp only at q
            intro v3 H4 g3 f3 r3
            cases eg : g y w with
            | none => rw [eg] at q; exact q.elim
            | some res2 =>
              rw [eg] at q
              exact hg H4 v2 v3 y w res2 _ eg (.inl (Rep.flat_any f2 r2)) (.inl r3) fun z H5 sm2 rr2 => q z H5 ((g12.trans g3).trans (Go.of_same g3.rst sm2)) (rr2.cast (g12.trans g3).dm)
end
end Rc

/-! Rc: statements. -/
namespace Rc
open PySem PySem.Spec PyProof.Rows L2
variable [LamTbl]

section
variable {K : PySem.W.Frag} {mg : Str → Option Value} {F : Fx} {E : XK} {σ : St} {S S1 : Sl} {H H1 : Hp}
/-- a slot is stored -/
theorem RSt.store {i : Nat} {v : V} {s : Sv} (st : RSt K mg F σ H S) (hb : F.brw i = none) (hv : RSv K mg H (some (some v)) s)
    (hn : ∀ a, isMut s = true → v = .ref a → F.H0 a = none ∧ ¬ Owns σ S a) : RSt K mg F (σ.set i (some v)) H (S.set i s) := by
  have hl := st.len
  by_cases hi : i < S.length
  case neg =>
    rw [List.set_eq_of_length_le (by omega), List.set_eq_of_length_le (by omega)]
    exact st
  have hi2 : i < σ.length := by omega
  have at2 : ∀ (j : Nat) t, (S.set i s)[j]? = some t → (j = i ∧ t = s) ∨ (j ≠ i ∧ S[j]? = some t) := fun j t q => by
    by_cases hj : j = i
    · rw [hj, List.getElem?_set_self hi] at q
      exact .inl ⟨hj, (Option.some.inj q).symm⟩
    · rw [List.getElem?_set_ne (Ne.symm hj)] at q
      exact .inr ⟨hj, q⟩
  have si : (σ.set i (some v))[i]? = some (some v) := List.getElem?_set_self hi2
  have sj : ∀ j, j ≠ i → (σ.set i (some v))[j]? = σ[j]? := fun j hj => List.getElem?_set_ne (Ne.symm hj)
  refine ⟨by simp [hl], fun j t q => ?_, fun j k t u b q1 q2 m1 m2 e1 e2 => ?_, fun j t b q m e1 => ?_, fun j b q => ?_, st.frame, st.dom, st.mono, st.tabs⟩
  · rcases at2 j t q with ⟨rfl, rfl⟩ | ⟨hj, q⟩
    · rw [si]; exact hv
    · rw [sj j hj]; exact st.at_ j t q
  · rcases at2 j t q1 with ⟨hj, ht⟩ | ⟨hj, g1⟩
    · rcases at2 k u q2 with ⟨hk, hu⟩ | ⟨hk, g2⟩
      · rw [hj, hk]
      · exfalso
        rw [hj, si] at e1
        rw [sj k hk] at e2
        rw [ht] at m1
        exact (hn b m1 (Option.some.inj (Option.some.inj e1))).2 ⟨k, u, g2, m2, e2⟩
    · rcases at2 k u q2 with ⟨hk, hu⟩ | ⟨hk, g2⟩
      · exfalso
        rw [hk, si] at e2
        rw [sj j hj] at e1
        rw [hu] at m2
        exact (hn b m2 (Option.some.inj (Option.some.inj e2))).2 ⟨j, t, g1, m1, e1⟩
      · rw [sj j hj] at e1
        rw [sj k hk] at e2
        exact st.inj j k t u b g1 g2 m1 m2 e1 e2
  · rcases at2 j t q with ⟨rfl, rfl⟩ | ⟨hj, q⟩
    · rw [si] at e1
      exact .inr (hn b m (Option.some.inj (Option.some.inj e1))).1
    · rw [sj j hj] at e1
      exact st.ownd j t b q m e1
  · have hj : j ≠ i := fun z => by rw [z, hb] at q; cases q
    obtain ⟨h1, h2, ds, h3⟩ := st.lent j b q
    rw [sj j hj, List.getElem?_set_ne (Ne.symm hj)]
    exact ⟨h1, h2, ds, h3⟩
/-- .. with a passing value -/
theorem RSt.storeR {i : Nat} {v : V} {r : Sv} (st : RSt K mg F σ H S) (g : Go K mg F σ S H S1 H1) (hb : F.brw i = none) (rr : RepR K mg H H1 r v) : RSt K mg F (σ.set i (some v)) H1 (S1.set i r) := by
  have nw : ∀ a, H a = none → F.H0 a = none ∧ ¬ Owns σ S1 a := fun a n => ⟨by
    cases q : F.H0 a with
    | none => rfl
    | some u => exact absurd n (st.dom a (by rw [q]; exact fun z => by cases z)), fun z => st.fresh_not n (g.sub a z)⟩
  cases r with
  | un => exact rr.elim
  | val d => exact g.rst.store hb ⟨v, rfl, rr⟩ fun a m => by cases m
  | ow ds =>
    obtain ⟨a, rfl, n, x⟩ := rr
    exact g.rst.store hb x fun b _ e => by cases e; exact nw a n
  | dki ds =>
    obtain ⟨a, rfl, n, x⟩ := rr
    exact g.rst.store hb x fun b _ e => by cases e; exact nw a n
  | dkt ds =>
    obtain ⟨a, rfl, n, x⟩ := rr
    exact g.rst.store hb x fun b _ e => by cases e; exact nw a n
theorem RepR.toT {r : Sv} {v : V} (st : RSt K mg F σ H S) (h : RepR K mg H H1 r v) : RepT K mg F H1 r v := by
  have n0 : ∀ a, H a = none → F.H0 a = none := fun a n => by
    cases q : F.H0 a with
    | none => rfl
    | some u => exact absurd n (st.dom a (by rw [q]; exact fun z => by cases z))
  cases r with
  | un => exact h
  | val d => exact h
  | ow ds => obtain ⟨a, e, n, x⟩ := h; exact ⟨a, e, n0 a n, x⟩
  | dki ds => obtain ⟨a, e, n, x⟩ := h; exact ⟨a, e, n0 a n, x⟩
  | dkt ds => obtain ⟨a, e, n, x⟩ := h; exact ⟨a, e, n0 a n, x⟩
end

/-- what is wanted behind a statement's function -/
def OutS (K : PySem.W.Frag) (mg : Str → Option Value) (F : Fx) (E : XK) (C : Ends) (H : Hp) (o : Res Fl) : Prop := match o with
  | .ok .nx S' => ∀ σ' H', RSt K mg F σ' H' S' → Mono H H' → C.nx σ' H'
  | .ok (.rt r) S' => ∀ σ' v H', RSt K mg F σ' H' S' → RepT K mg F H' r v → C.rt v H'
  | .ok .bk S' => ∀ σ' H', RSt K mg F σ' H' S' → Mono H H' → C.bk σ' H'
  | .ok .ct S' => ∀ σ' H', RSt K mg F σ' H' S' → Mono H H' → C.ct σ' H'
  | .ex e S' => ∀ cls d σ' H', RSt K mg F σ' H' S' → RepE mg e cls d H' → E cls d H'
  | .no => False
theorem OutS.back {K : PySem.W.Frag} {mg : Str → Option Value} {F : Fx} {E : XK} {C : Ends} {H H1 : Hp} {o : Res Fl} (h : OutS K mg F E C H o) (m : Mono H H1) : OutS K mg F E C H1 o := by
  cases o with
  | no => exact h
  | ex e S => exact h
  | ok f S =>
    cases f with
    | nx => exact fun σ' H' r m2 => h σ' H' r (m.trans m2)
    | rt v => exact h
    | bk => exact fun σ' H' r m2 => h σ' H' r (m.trans m2)
    | ct => exact fun σ' H' r m2 => h σ' H' r (m.trans m2)
theorem tOfS_iff {K : PySem.W.Frag} {mg : Str → Option Value} {F : Fx} {E : XK} {m : M Fl} {C : Ends} {σ : St} {H : Hp} : tOfS K mg F E m C σ H ↔ ∃ S, RSt K mg F σ H S ∧ OutS K mg F E C H (m S) := Iff.rfl

section
variable {X : Cx} {F : Fx} {E : XK} {pos : Pos}
theorem as_nil : ASs X F E [] sPass := PSs_imp pss_nil fun D σ H ⟨S, st, q⟩ => q σ H st (Mono.refl H)
theorem as_cons {s : Stmt} {r : List Stmt} {a b : M Fl} (h1 : AS X F E s a) (h2 : ASs X F E r b) : ASs X F E (s :: r) (sSeq a b) := by
  refine PSs_imp (pss_cons h1 h2) fun D σ H ⟨S, st, q⟩ => ⟨S, st, ?_⟩
  have q : OutS X.K X.mg F E D H ((a S).bind fun f S1 => match f with | .nx => b S1 | f => .ok f S1) := q
  show OutS X.K X.mg F E { D with nx := tOfS X.K X.mg F E b D } H (a S)
  cases ea : a S with
  | no => rw [ea] at q; exact q
  | ex k S1 => rw [ea] at q; exact q
  | ok f S1 =>
    rw [ea] at q
    cases f with
    | nx => exact fun σ' H' r m => ⟨S1, r, q.back m⟩
    | rt v => exact q
    | bk => exact q
    | ct => exact q
theorem as_one {s : Stmt} {a : M Fl} (h1 : AS X F E s a) : ASs X F E [s] a := pss_one h1
theorem as_pass : AS X F E (.Pass pos) sPass := PS_imp ps_pass fun D σ H ⟨S, st, q⟩ => q σ H st (Mono.refl H)
theorem as_brk : AS X F E (.Break pos) (fun S => .ok .bk S) := PS_imp ps_break fun D σ H ⟨S, st, q⟩ => q σ H st (Mono.refl H)
theorem as_if {c : Expr} {a b : List Stmt} {mc : M Bool} {ma mb : M Fl} (hc : AT X F E c mc) (ha : ASs X F E a ma) (hb : ASs X F E b mb) : AS X F E (.If c a b pos) (sIf mc ma mb) := by
  refine PS_imp (ps_if hc ha hb) fun D σ H ⟨S, st, q⟩ => ⟨S, st, ?_⟩
  have q : OutS X.K X.mg F E D H ((mc S).bind fun x S1 => if x then ma S1 else mb S1) := q
  cases em : mc S with
  | no => rw [em] at q; exact q
  | ex k S1 => rw [em] at q; exact fun cls d H' r e => q cls d σ H' r e
  | ok x S1 =>
    rw [em] at q
    intro H1 g
    have m := g.mono st
    cases x with
    | true =>
      have q : OutS X.K X.mg F E D H (ma S1) := q
      simp only [if_true]
      exact ⟨S1, g.rst, q.back m⟩
    | false =>
      have q : OutS X.K X.mg F E D H (mb S1) := q
      simp only [Bool.false_eq_true, if_false]
      exact ⟨S1, g.rst, q.back m⟩
theorem as_ret {e : Expr} {m : M Sv} (h : AE X F E e m) : AS X F E (.Return (some e) pos) (sRet m) := by
  refine PS_imp (ps_ret h) fun D σ H ⟨S, st, q⟩ => ⟨S, st, ?_⟩
  have q : OutS X.K X.mg F E D H ((m S).bind fun r S1 => .ok (.rt r) S1) := q
  cases em : m S with
  | no => rw [em] at q; exact q
  | ex k S1 => rw [em] at q; exact fun cls d H' r e => q cls d σ H' r e
  | ok r S1 =>
    rw [em] at q
    exact fun v H' g rr => q σ v H' g.rst (rr.toT st)
theorem as_retN : AS X F E (.Return none pos) (sRet (eLit .none)) := PS_imp ps_retN fun D σ H ⟨S, st, q⟩ => q σ .non H st rfl
/-- return x, x a name that is no list that the def was lent -/
theorem as_retV {i : Nat} {x : Str} {p : Pos} (hb : F.brw i = none) (hN : X.N[i]? = some x) (hv : Vis X.env.scope x) (hd : (x == ("__debug__" : Str)) = false := by decide) (hcd : (x == ("__classdict__" : Str)) = false := by decide) : AS X F E (.Return (some (.Name x p)) pos) (sRetV i) := by
  refine PS_imp (ps_ret (pe_var hN hv hd hcd)) fun D σ H ⟨S, st, q⟩ => ?_
  have q : OutS X.K X.mg F E D H (match S[i]? with | some (.val d) => .ok (.rt (.val d)) S | some (.ow ds) => .ok (.rt (.ow ds)) S | _ => .no) := q
  cases e : S[i]? with
  | none => rw [e] at q; exact q.elim
  | some s =>
    rw [e] at q
    have z := st.at_ i s e
    match s, e, q, z with
    | .val d, e, q, z =>
      obtain ⟨v, ev, rv⟩ := z
      exact ⟨v, ev, q σ v H st rv⟩
    | .ow ds, e, q, z =>
      obtain ⟨a, xs, ev, eH, rl⟩ := z
      refine ⟨.ref a, ev, q σ _ H st ⟨a, rfl, ?_, a, xs, rfl, eH, rl⟩⟩
      rcases st.ownd i _ a e rfl ev with w | w
      · rw [hb] at w; cases w
      · exact w
theorem as_set {i : Nat} {x : Str} {e : Expr} {m : M Sv} {p : Pos} (hb : F.brw i = none) (hN : X.N.Nodup) (hi : X.N[i]? = some x) (hx : Loc X.env.scope x) (he : AE X F E e m) (hs : swapsWith e (some (.Name x p)) pos.line X.env = pure false := by rfl)
    (hf : X.fn x = true ∨ X.env.scope.names.lookup x = some .local := by first | exact .inl rfl | exact .inr rfl | assumption) : AS X F E (.Assign [.Name x p] e pos) (sSet i m) := by
  refine PS_imp (ps_set hN hi hx he hs hf) fun D σ H ⟨S, st, q⟩ => ⟨S, st, ?_⟩
  have q : OutS X.K X.mg F E D H ((m S).bind fun r S1 => match r with | .un => .no | r => .ok .nx (S1.set i r)) := q
  cases em : m S with
  | no => rw [em] at q; exact q
  | ex k S1 => rw [em] at q; exact fun cls d H' r e => q cls d σ H' r e
  | ok r S1 =>
    rw [em] at q
    intro v H' g rr
    have fin := st.storeR g hb rr
    cases r with
    | un => exact rr.elim
    | val d => exact q _ H' fin (g.mono st)
    | ow d => exact q _ H' fin (g.mono st)
    | dki d => exact q _ H' fin (g.mono st)
    | dkt d => exact q _ H' fin (g.mono st)
theorem as_drop {e : Expr} {m : M Sv} (he : AE X F E e m) (hs : swapsWith e none pos.line X.env = pure false := by rfl) : AS X F E (.Expr e pos) (sDrop m) := by
  refine PS_imp (ps_expr he hs) fun D σ H ⟨S, st, q⟩ => ⟨S, st, ?_⟩
  have q : OutS X.K X.mg F E D H ((m S).bind fun _ S1 => .ok .nx S1) := q
  cases em : m S with
  | no => rw [em] at q; exact q
  | ex k S1 => rw [em] at q; exact fun cls d H' r e => q cls d σ H' r e
  | ok r S1 =>
    rw [em] at q
    exact fun v H' g _ => q σ H' g.rst (g.mono st)

/-! ### an own list is written -/
theorem RSt.write {K : PySem.W.Frag} {mg : Str → Option Value} {σ : St} {S : Sl} {H : Hp} {i : Nat} {a : Addr} {ds es : List D} {ys : List V} (st : RSt K mg F σ H S) (e : S[i]? = some (.ow ds)) (ea : σ[i]? = some (some (.ref a))) (rp : RepL K mg H es ys) :
    RSt K mg F σ (upd H a (.lst ys)) (S.set i (.ow es)) ∧ Mono H (upd H a (.lst ys)) := by
  have ow : Owns σ S a := ⟨i, _, e, rfl, ea⟩
  have hi : i < S.length := (List.getElem?_eq_some_iff.mp e).1
  obtain ⟨b, xs, e1, eH, rl⟩ := st.at_ i _ e
  rw [ea] at e1
  cases e1
  have tb : TbM H (upd H a (.lst ys)) := TbM.upd eH nT.lst lst_ne
  have keep : Keep σ S H (upd H a (.lst ys)) := ⟨fun b u h _ n => by
    rw [upd_ne (show b ≠ a from fun z => n (z ▸ ow))]
    exact h, tb⟩
  have mo : Mono H (upd H a (.lst ys)) := st.keep_mono keep
  have dm : ∀ b, H b ≠ none → upd H a (.lst ys) b ≠ none := fun b n => by
    by_cases hb : b = a
    · rw [hb, upd_same]; exact fun z => by cases z
    · rw [upd_ne hb]; exact n
  have at2 : ∀ (j : Nat) s, (S.set i (.ow es))[j]? = some s → (j = i ∧ s = .ow es) ∨ (j ≠ i ∧ S[j]? = some s) := fun j s q => by
    by_cases hj : j = i
    · rw [hj, List.getElem?_set_self hi] at q
      exact .inl ⟨hj, (Option.some.inj q).symm⟩
    · rw [List.getElem?_set_ne (Ne.symm hj)] at q
      exact .inr ⟨hj, q⟩
  have old : ∀ (j : Nat) s, (S.set i (.ow es))[j]? = some s → isMut s = true → ∃ t, S[j]? = some t ∧ isMut t = true := fun j s q m => by
    rcases at2 j s q with ⟨rfl, rfl⟩ | ⟨_, q⟩
    · exact ⟨_, e, rfl⟩
    · exact ⟨s, q, m⟩
  refine ⟨⟨by rw [List.length_set]; exact st.len, fun j s q => ?_, fun j k s t b q1 q2 m1 m2 e1 e2 => ?_, fun j s b q m e1 => ?_, fun j b q => ?_, fun b u q t n => ?_, fun b n => dm b (st.dom b n), st.mono.trans mo, st.tabs.trans tb⟩, mo⟩
  · rcases at2 j s q with ⟨rfl, rfl⟩ | ⟨hj, q⟩
    · exact ⟨a, ys, ea, upd_same, RepL.mono mo es rp⟩
    · refine (st.at_ j s q).mono mo fun b m e1 => ?_
      rw [upd_ne]
      rintro rfl
      exact hj (st.inj j i s _ _ q e m rfl e1 ea)
  · obtain ⟨s', g1, n1⟩ := old j s q1 m1
    obtain ⟨t', g2, n2⟩ := old k t q2 m2
    exact st.inj j k s' t' b g1 g2 n1 n2 e1 e2
  · obtain ⟨s', g1, n1⟩ := old j s q m
    exact st.ownd j s' b g1 n1 e1
  · obtain ⟨h1, h2, fs, h3⟩ := st.lent j b q
    refine ⟨h1, h2, ?_⟩
    by_cases hj : j = i
    · exact ⟨es, .inl (by rw [hj, List.getElem?_set_self hi])⟩
    · exact ⟨fs, by rw [List.getElem?_set_ne (Ne.symm hj)]; exact h3⟩
  · by_cases hb : b = a
    · subst hb
      rcases st.ownd i _ b e rfl ea with z | z
      · exact absurd z (n i)
      · rw [z] at q; cases q
    · rw [upd_ne hb]; exact st.frame b u q t n
/-- x[k] = e -/
theorem as_setIx {i : Nat} {x : Str} {k e : Expr} {mk m : M Sv} {p p2 : Pos} (he : AE X F E e m) (hk : AE X F E k mk) (hN : X.N[i]? = some x) (hv : Vis X.env.scope x) (hd : (x == ("__debug__" : Str)) = false := by decide) (hcd : (x == ("__classdict__" : Str)) = false := by decide)
    (ha : ∀ v, assign (.Subscript (.Name x p) k p2) X.env v = (do
      let ov ← holding [v] (eval (.Name x p) X.env)
      let iv ← holding [v, ov] (eval k X.env)
      standAt p2
      holding [v, ov, iv] (setItem ov iv v)
      release [v, ov, iv] []) := by intro _; rfl)
    (hs : swapsWithSole [.Subscript (.Name x p) k p2] e pos.line X.env = pure false := by rfl) (hw : swappedStores [.Subscript (.Name x p) k p2] e X.env = pure none := by rfl)
    (h1 : (assignEach [.Subscript (.Name x p) k p2] X.env).map (·.2) = [assign (.Subscript (.Name x p) k p2) X.env] := by rfl) : AS X F E (.Assign [.Subscript (.Name x p) k p2] e pos) (sSetIx i mk m) := by
  refine PS_imp (ps_asg (a_fz he) (pg_sub (pe_var hN hv hd hcd) hk set_list ha) hs hw h1) fun D σ H ⟨S, st, q⟩ => ⟨S, st, ?_⟩
  have q : OutS X.K X.mg F E D H ((datum m S).bind fun d S1 => if (rd S1 i).isSome then (mk S1).bind fun j S2 => match j, S2[i]? with
    | .val (.int j), some (.ow ds) => (match L2.ixN ds.length j with
      | some j => .ok .nx (S2.set i (.ow (ds.set j d)))
      | none => .no)
    | _, _ => .no else .no) := q
  rw [eFz_datum]
  cases em : datum m S with
  | no => rw [em] at q; exact q
  | ex k S1 => rw [em] at q; exact fun cls d H' r e => q cls d σ H' r e
  | ok d S1 =>
    rw [em] at q
    simp only [Res.bind] at q ⊢
    intro v H1 g1 rv
    cases e0 : rd S1 i with
    | none => rw [e0] at q; exact q.elim
    | some d0 =>
      rw [e0] at q
      simp only [Option.isSome_some, if_true] at q
      obtain ⟨xv, exv, _⟩ := RSt.rd g1.rst e0
      refine ⟨xv, exv, S1, g1.rst, ?_⟩
      cases ek : mk S1 with
      | no => rw [ek] at q; exact q.elim
      | ex k S2 => rw [ek] at q; exact fun cls d H' r e => q cls d σ H' r e
      | ok z S2 =>
        rw [ek] at q
        simp only at q
        intro kv H2 g2 rk
        match z, q, rk with
        | .val (.int j), q, rk =>
          cases es : S2[i]? with
          | none => rw [es] at q; exact q.elim
          | some s =>
            rw [es] at q
            match s, es, q with
            | .ow ds, es, q =>
              simp only at q
              cases ej : L2.ixN ds.length j with
              | none => rw [ej] at q; exact q.elim
              | some n =>
                rw [ej] at q
                obtain ⟨a, xs, ea, eH, rl⟩ := g2.rst.at_ i _ es
                rw [exv] at ea
                cases ea
                refine ⟨a, xs, j, n, rfl, rk, eH, by rw [rl.length]; exact ej, ?_⟩
                obtain ⟨w1, w2⟩ := RSt.write (es := ds.set n d) (ys := xs.set n v) g2.rst es exv (RepL.set n rl (Rep.mono (g2.mono g1.rst) d rv))
                exact q σ _ w1 (((g1.trans g2).mono st).trans w2)
/-- x.append(e) -/
theorem as_app {i : Nat} {x : Str} {e : Expr} {m : M Sv} {p p2 p3 : Pos} (he : AE X F E e m) (hN : X.N[i]? = some x) (hv : Vis X.env.scope x) (hd : (x == ("__debug__" : Str)) = false := by decide) (hcd : (x == ("__classdict__" : Str)) = false := by decide)
    (hbase : attributeBase (.Name x p) "append" X.env (eval (.Name x p) X.env) = eval (.Name x p) X.env := by rfl)
    (hfew : ((backTo p3 (starEach (e :: []) X.env)).all (fun x => !x.1) && (backToKw p3 (keywordEach [] X.env)).all (fun x => x.1.isSome)
      && decide ((e :: []).length + ([] : List Keyword).length + (if ([] : List Keyword).isEmpty then 0 else 1) < 30)) = true := by rfl)
    (hline : (p2.endLine == p3.line) = true := by rfl) (hst : starEach (e :: []) X.env = (false, eval e X.env) :: starEach [] X.env := by rfl) (hplain : (backTo p3 (starEach [] X.env)).any (·.1) = false := by rfl)
    (hs : swapsWith (.Call (.Attribute (.Name x p) "append" p2) [e] [] p3) none pos.line X.env = pure false := by rfl) : AS X F E (.Expr (.Call (.Attribute (.Name x p) "append" p2) [e] [] p3) pos) (sApp i m) := by
  refine PS_imp (ps_expr (pe_bm PySem.F.plainAttrs_list PySem.F.slot_list_append PySem.F.type_list_append mt_append (pe_var hN hv hd hcd) (pa_cons (a_fz he) pa_nil hst) hbase hfew hline hst hplain) hs) fun D σ H ⟨S, st, q⟩ => ?_
  have q : OutS X.K X.mg F E D H (if isOw S i then (datum m S).bind fun d S1 => match S1[i]? with
    | some (.ow ds) => if ds.length < 16777216 then .ok .nx (S1.set i (.ow (ds ++ [d]))) else .no
    | _ => .no
    else .no) := q
  unfold isOw at q
  cases es : S[i]? with
  | none => rw [es] at q; exact q.elim
  | some s =>
    rw [es] at q
    match s, es, q with
    | .ow ds0, es, q =>
      obtain ⟨a, xs0, ea, eH0, _⟩ := st.at_ i _ es
      refine ⟨.ref a, ea, .inl ⟨rfl, _, SqL.of eH0⟩, S, st, ?_⟩
      simp only [if_true] at q
      rw [eFz_datum]
      cases em : datum m S with
      | no => rw [em] at q; exact q
      | ex k S1 => rw [em] at q; exact fun cls d H' r e => q cls d σ H' r e
      | ok d S1 =>
        rw [em] at q
        simp only [Res.bind] at q ⊢
        intro v H1 g1 rv
        cases e1 : S1[i]? with
        | none => rw [e1] at q; exact q.elim
        | some s1 =>
          rw [e1] at q
          match s1, e1, q with
          | .ow ds, e1, q =>
            simp only at q
            obtain ⟨b, xs, eb, eH, rl⟩ := g1.rst.at_ i _ e1
            rw [ea] at eb
            cases eb
            by_cases hl : ds.length < 16777216
            · rw [if_pos hl] at q
              refine ⟨a, xs, v, rfl, rfl, eH, by rw [rl.length, sizeLine_eq]; omega, ?_⟩
              obtain ⟨w1, w2⟩ := RSt.write (es := ds ++ [d]) (ys := xs ++ [v]) g1.rst e1 ea (RepL.append rl (RepL.one rv))
              exact q σ _ w1 ((g1.mono st).trans w2)
            · rw [if_neg hl] at q
              exact q.elim
end
/-- a statement that the run never reaches -/
def sNo : M Fl := fun _ => .no
theorem as_no {X : Cx} {F : Fx} {E : XK} {st : Stmt} : AS X F E st sNo := ⟨fun _ _ _ _ _ _ ⟨_, _, q⟩ => q.elim⟩
end Rc

/-! Rc: targets, what is walked, loops, comprehensions. -/
namespace Rc
open PySem PySem.Spec PyProof.Rows L2
variable [LamTbl]

/-! ### targets -/
mutual
def Pat.sl : Pat → List Nat
  | .n i => [i]
  | .t ps => Pat.sls ps
def Pat.sls : List Pat → List Nat
  | [] => []
  | p :: ps => Pat.sl p ++ Pat.sls ps
end
section
variable (K : PySem.W.Frag) (mg : Str → Option Value)
/-- behind a store: the slots of p alone are changed -/
structure Put (F : Fx) (p : List Nat) (σ : St) (H : Hp) (S' : Sl) (σ' : St) : Prop where
  rst : RSt K mg F σ' H S'
  len : σ'.length = σ.length
  out : ∀ j, j ∉ p → σ'[j]? = σ[j]?
def gOf (F : Fx) (p : Pat) : TG := fun v σ H Q => ∃ S d S', RSt K mg F σ H S ∧ Rep K mg H d v ∧ p.put d S = some S' ∧ ∀ σ', Put K mg F p.sl σ H S' σ' → Q σ' H
def gsOf (F : Fx) (ps : List Pat) : TGs := fun vs σ H Q => ∃ S ds S', RSt K mg F σ H S ∧ RepL K mg H ds vs ∧ Pat.puts ps ds S = some S' ∧ ∀ σ', Put K mg F (Pat.sls ps) σ H S' σ' → Q σ' H
end
theorem PG_imp {X : Cx} {e : Expr} {t t' : TG} (h : PG X e t) (i : ∀ v σ H Q, t' v σ H Q → t v σ H Q) : PG X e t' := ⟨fun pins s σ H v u Q I r hw => h.run pins s σ H v u Q I r (i v σ H Q hw)⟩
theorem PGs_imp {X : Cx} {e : List Expr} {t t' : TGs} (h : PGs X e t) (i : ∀ v σ H Q, t' v σ H Q → t v σ H Q) : PGs X e t' := ⟨fun pins s σ H v u Q I r hw => h.run pins s σ H v u Q I r (i v σ H Q hw)⟩
abbrev AG (X : Cx) (F : Fx) (e : Expr) (p : Pat) : Prop := PG X e (gOf X.K X.mg F p)
abbrev AGs (X : Cx) (F : Fx) (e : List Expr) (p : List Pat) : Prop := PGs X e (gsOf X.K X.mg F p)
section
variable {X : Cx} {F : Fx} {pos : Pos}
theorem Put.trans {K : PySem.W.Frag} {mg : Str → Option Value} {p q : List Nat} {σ σ1 σ2 : St} {H : Hp} {S1 S2 : Sl} (a : Put K mg F p σ H S1 σ1) (b : Put K mg F q σ1 H S2 σ2) : Put K mg F (p ++ q) σ H S2 σ2 :=
  ⟨b.rst, b.len.trans a.len, fun j hj => (b.out j fun z => hj (List.mem_append_right _ z)).trans (a.out j fun z => hj (List.mem_append_left _ z))⟩
theorem ag_name {i : Nat} {x : Str} (hb : F.brw i = none) (hN : X.N.Nodup) (hi : X.N[i]? = some x) (hx : Loc X.env.scope x) (hf : X.fn x = true ∨ X.env.scope.names.lookup x = some .local := by first | exact .inl rfl | exact .inr rfl | assumption) :
    AG X F (.Name x pos) (.n i) := by
  refine PG_imp (pg_name hN hi hx hf) fun v σ H Q ⟨S, d, S', st, rv, e, q⟩ => ?_
  simp only [Pat.put, Option.some.injEq] at e
  subst e
  refine q _ ⟨st.store hb ⟨v, rfl, rv⟩ (fun a m => by cases m), by simp, fun j hj => List.getElem?_set_ne ?_⟩
  intro z
  exact hj (by rw [z]; simp [Pat.sl])
theorem ags_nil : AGs X F [] [] := by
  refine PGs_imp pgs_nil fun vs σ H Q ⟨S, ds, S', st, rv, e, q⟩ => ?_
  cases ds with
  | nil =>
    simp only [Pat.puts, Option.some.injEq] at e
    subst e
    exact ⟨rv, q σ ⟨st, rfl, fun _ _ => rfl⟩⟩
  | cons d ds => simp [Pat.puts] at e
theorem ags_cons {e : Expr} {es : List Expr} {p : Pat} {ps : List Pat} (h1 : AG X F e p) (h2 : AGs X F es ps)
    (hs : (assignEach (e :: es) X.env).map (·.2) = assign e X.env :: (assignEach es X.env).map (·.2) := by rfl) : AGs X F (e :: es) (p :: ps) := by
  refine PGs_imp (pgs_cons h1 h2 hs) fun vs σ H Q ⟨S, ds, S', st, rv, e, q⟩ => ?_
  cases ds with
  | nil => simp [Pat.puts] at e
  | cons d ds =>
    obtain ⟨v, vs', rfl, r1, r2⟩ := rv
    cases ep : p.put d S with
    | none => simp [Pat.puts, ep] at e
    | some S1 =>
      simp only [Pat.puts, ep, Option.bind_some] at e
      exact ⟨v, vs', rfl, S, d, S1, st, r1, ep, fun σ1 u1 => ⟨S1, ds, S', u1.rst, r2, e, fun σ2 u2 => q σ2 (u1.trans u2)⟩⟩
theorem pg_or {e : Expr} {t t' : TG} (h : PG X e t) (h' : PG X e t') : PG X e (fun v σ H Q => t v σ H Q ∨ t' v σ H Q) := ⟨fun pins s σ H v u Q I r hw => by
  rcases hw with hw | hw
  · exact h.run pins s σ H v u Q I r hw
  · exact h'.run pins s σ H v u Q I r hw⟩
theorem puts_len : ∀ {ps : List Pat} {ds : List D} {S S' : Sl}, Pat.puts ps ds S = some S' → ds.length = ps.length
  | [], [], _, _, _ => rfl
  | [], _ :: _, _, _, h => by simp [Pat.puts] at h
  | _ :: _, [], _, _, h => by simp [Pat.puts] at h
  | p :: ps, d :: ds, S, S', h => by
    cases ep : p.put d S with
    | none => simp [Pat.puts, ep] at h
    | some S1 =>
      simp only [Pat.puts, ep, Option.bind_some] at h
      rw [List.length_cons, List.length_cons, puts_len h]
theorem ag_tup {es : List Expr} {k : Nat} {ps : List Pat} (hc : X.calm = true) (h : AGs X F es ps) (hn : (assignEach es X.env).length = ps.length := by rfl) (hst : (assignEach es X.env).findIdx? (·.1) = none := by rfl) : AG X F (.Tuple es k pos) (.t ps) := by
  refine PG_imp (pg_or (pg_tup (n := ps.length) hc h hn hst) (pg_lst (n := ps.length) hc h hn hst)) fun v σ H Q ⟨S, d, S', st, rv, e, q⟩ => ?_
  cases d with
  | tuple ds =>
    obtain ⟨a, xs, rfl, sa, ra⟩ := rv
    have e : Pat.puts ps ds S = some S' := e
    exact .inl ⟨a, xs, rfl, sa, by rw [ra.length]; exact puts_len e, S, ds, S', st, ra, e, q⟩
  | list ds =>
    obtain ⟨a, xs, rfl, sa, ra⟩ := rv
    have e : Pat.puts ps ds S = some S' := e
    exact .inr ⟨a, xs, rfl, sa.sq, by rw [ra.length]; exact puts_len e, S, ds, S', st, ra, e, q⟩
  | none => simp [Pat.put] at e
  | bool _ => simp [Pat.put] at e
  | int _ => simp [Pat.put] at e
  | str _ => simp [Pat.put] at e
  | dict _ => simp [Pat.put] at e
end

/-! ### what is walked -/
/-- J yields the items ds, from H0 on -/
structure Wk (K : PySem.W.Frag) (mg : Str → Option Value) (J : It) (H0 : Hp) (ds : List D) : Prop where
  go : ∀ i H, Mono H0 H → i < ds.length → J.go i H
  stop : ∀ H, Mono H0 H → J.stop ds.length H
  yld : ∀ i H x H', Mono H0 H → i < ds.length → J.yld i H x H' → Same H H' ∧ ∃ d, ds[i]? = some d ∧ Rep K mg H' d x
  size : ds.length ≤ sizeLine
/-- .. at one state -/
structure WkAt (K : PySem.W.Frag) (mg : Str → Option Value) (J : It) (ds : List D) (H : Hp) : Prop where
  go : ∀ i, i < ds.length → J.go i H
  stop : J.stop ds.length H
  yld : ∀ i x H', i < ds.length → J.yld i H x H' → Same H H' ∧ ∃ d, ds[i]? = some d ∧ Rep K mg H' d x
theorem Wk.at {K : PySem.W.Frag} {mg : Str → Option Value} {J : It} {H0 H : Hp} {ds : List D} (w : Wk K mg J H0 ds) (m : Mono H0 H) : WkAt K mg J ds H := ⟨fun i h => w.go i H m h, w.stop H m, fun i x H' h y => w.yld i H x H' m h y⟩
/-- as long as the check holds, and the slots sl are the same -/
def wOfN (K : PySem.W.Frag) (mg : Str → Option Value) (F : Fx) (E : XK) (w : M (List D)) (ck : Ck) (sl : List Nat) : TI := fun σ H R => ∃ S, RSt K mg F σ H S ∧ match w S with
  | .ok ds S' => ∀ J H', Go K mg F σ S H S' H' → (∀ σ2 S2 H2, (∀ j ∈ sl, σ2[j]? = σ[j]?) → RSt K mg F σ2 H2 S2 → Mono H' H2 → ck S' S2 = true → WkAt K mg J ds H2) → ds.length ≤ sizeLine → R J H'
  | .ex e S' => ∀ cls d H', RSt K mg F σ H' S' → RepE mg e cls d H' → E cls d H'
  | .no => False
def wOf (K : PySem.W.Frag) (mg : Str → Option Value) (F : Fx) (E : XK) (w : M (List D)) : TI := fun σ H R => ∃ S, RSt K mg F σ H S ∧ match w S with
  | .ok ds S' => ∀ J H', Go K mg F σ S H S' H' → Wk K mg J H' ds → R J H'
  | .ex e S' => ∀ cls d H', RSt K mg F σ H' S' → RepE mg e cls d H' → E cls d H'
  | .no => False
abbrev AI (X : Cx) (F : Fx) (E : XK) (tg iter : Expr) (w : M (List D)) : Prop := PI X tg iter (wOf X.K X.mg F E w)
abbrev AJ (X : Cx) (F : Fx) (E : XK) (tg iter : Expr) (w : M (List D)) (ck : Ck) (sl : List Nat) : Prop := PI X tg iter (wOfN X.K X.mg F E w ck sl)
theorem PI_imp {X : Cx} {tg e : Expr} {t t' : TI} (h : PI X tg e t) (i : ∀ σ H R, t' σ H R → t σ H R) : PI X tg e t' := ⟨fun pins s σ H R I hw => h.run pins s σ H R I (i σ H R hw)⟩
section
variable {X : Cx} {F : Fx} {E : XK} {pos : Pos} {tg : Expr}
/-- a list or a tuple; its length is handed on -/
def iSeq (K : PySem.W.Frag) (tl : TE) : TI := fun σ H R => tl σ H fun x H1 => ∃ a xs, x = .ref a ∧ ((SqL K H1 a xs ∧ (xs.length ≤ sizeLine → R (Itl K a) H1)) ∨ (SqT K H1 a xs ∧ (xs.length ≤ sizeLine → R (Itt K a) H1)))
theorem pi_seq {l : Expr} {tl : TE} (hl : PE X l tl) : PI X tg l (iSeq X.K tl) := by
  refine ⟨fun pins s σ H R I h => ?_⟩
  refine thn (hl.run pins s σ H _ I h) fun v s1 ⟨x, H1, I1, r1, a, xs, e, q⟩ => ?_
  subst e
  cases r1
  rcases q with ⟨hq, q⟩ | ⟨hq, q⟩
  · obtain ⟨its, rv, p, hz⟩ := I1.list hq
    refine wpAny_pyIter_list p.isList ?_
    refine ⟨s1.heap.objs.size, [s1.heap.objs.size], _, _, H1, rfl, I1.kept (t' := s1.toks) fun b o e => Heap.get?_push_of_some _ e, turn_list a _, ⟨_, Heap.get?_push_size _ rfl, rfl, rfl⟩, fun b hb => ?_, q hz⟩
    have e : b = s1.heap.objs.size := by simpa using hb
    subst e
    exact I1.fpOk (Nat.le_refl _) (I1.hok.fresh (Nat.le_refl _))
  · obtain ⟨its, rv, p, hz⟩ := I1.tuple hq
    refine wpAny_pyIter_tuple (show s1.heap.IsTuple a its.toArray from p) ?_
    refine ⟨s1.heap.objs.size, [s1.heap.objs.size], _, _, H1, rfl, I1.kept (t' := s1.toks) fun b o e => Heap.get?_push_of_some _ e, turn_tuple a _, ⟨_, Heap.get?_push_size _ rfl, rfl, rfl⟩, fun b hb => ?_, q hz⟩
    have e : b = s1.heap.objs.size := by simpa using hb
    subst e
    exact I1.fpOk (Nat.le_refl _) (I1.hok.fresh (Nat.le_refl _))
theorem wk_list {K : PySem.W.Frag} {mg : Str → Option Value} {H : Hp} {a : Addr} {xs : List V} {ds : List D} (s : FzL K H a xs) (r : RepL K mg H ds xs) (z : xs.length ≤ sizeLine) : Wk K mg (Itl K a) H ds where
  go := fun i H1 m h => by
    have h' : i < xs.length := by rw [r.length]; exact h
    exact ⟨xs, xs[i], (m.fzL s).sq, by simp [h']⟩
  stop := fun H1 m => ⟨xs, (m.fzL s).sq, by rw [r.length]; exact Nat.le_refl _⟩
  yld := fun i H1 x H' m h ⟨e, y⟩ => by
    subst e
    obtain ⟨d, e1, e2⟩ := RepL.getv r (y xs (m.fzL s).sq)
    exact ⟨Same.refl _, d, e1, Rep.mono m d e2⟩
  size := by rw [← r.length]; exact z
theorem wk_tup {K : PySem.W.Frag} {mg : Str → Option Value} {H : Hp} {a : Addr} {xs : List V} {ds : List D} (s : SqT K H a xs) (r : RepL K mg H ds xs) (z : xs.length ≤ sizeLine) : Wk K mg (Itt K a) H ds where
  go := fun i H1 m h => by
    have h' : i < xs.length := by rw [r.length]; exact h
    exact ⟨xs, xs[i], m.sqT s, by simp [h']⟩
  stop := fun H1 m => ⟨xs, m.sqT s, by rw [r.length]; exact Nat.le_refl _⟩
  yld := fun i H1 x H' m h ⟨e, y⟩ => by
    subst e
    obtain ⟨d, e1, e2⟩ := RepL.getv r (y xs (m.sqT s))
    exact ⟨Same.refl _, d, e1, Rep.mono m d e2⟩
  size := by rw [← r.length]; exact z
theorem ai_seq {e : Expr} {m : M Sv} (h : AE X F E e m) : AI X F E tg e (wSeq m) := by
  refine PI_imp (pi_seq (a_fz h)) fun σ H R ⟨S, st, q⟩ => ⟨S, st, ?_⟩
  simp only [wSeq] at q
  rw [eFz_datum]
  unfold datum
  cases em : m S with
  | no => rw [em] at q; exact q.elim
  | ex k S1 => rw [em] at q; exact q
  | ok r S1 =>
    rw [em] at q
    simp only [Res.bind] at q ⊢
    cases ed : toD r with
    | none => rw [ed] at q; exact q.elim
    | some d =>
      rw [ed] at q
      simp only [Option.bind_some] at q ⊢
      intro v H1 g rv
      cases d with
      | list ds =>
        obtain ⟨a, xs, rfl, s, r⟩ := rv
        exact ⟨a, xs, rfl, .inl ⟨s.sq, fun z => q _ H1 g (wk_list s r z)⟩⟩
      | tuple ds =>
        obtain ⟨a, xs, rfl, s, r⟩ := rv
        exact ⟨a, xs, rfl, .inr ⟨s, fun z => q _ H1 g (wk_tup s r z)⟩⟩
      | none => exact q.elim
      | bool _ => exact q.elim
      | int _ => exact q.elim
      | str _ => exact q.elim
      | dict _ => exact q.elim
theorem wk_rng {K : PySem.W.Frag} {mg : Str → Option Value} {H : Hp} (lo : Int) (n : Nat) (z : n ≤ sizeLine) : Wk K mg (Itr lo n) H (numsD lo n) where
  go := fun i H1 m h => by
    show i < n
    simpa [numsD] using h
  stop := fun H1 m => by
    show n ≤ (numsD lo n).length
    simp [numsD]
  yld := fun i H1 x H' m h ⟨e1, e2⟩ => by
    subst e1 e2
    have h' : i < n := by simpa [numsD] using h
    refine ⟨Same.refl _, .int (lo + i), ?_, rfl⟩
    unfold numsD
    rw [List.getElem?_map, List.getElem?_range h']
    rfl
  size := by simpa [numsD] using z
end
end Rc

/-! Rc: zip, enumerate over lists and tuples in any mix. -/
namespace Rc
open PySem PySem.Spec PyProof.Rows L2
variable [LamTbl]
/-! ### a source: a list (true) or a tuple (false) -/
def isIter : Bool → Heap → Addr → Addr → Nat → Prop
  | true, h, it, a, i => h.IsListIter it a i
  | false, h, it, a, i => h.IsTupleIter it a i
def isSrc : Bool → Heap → Addr → Array Value → Prop
  | true, h, a, items => h.IsList a items
  | false, h, a, items => h.IsTuple a items
def itObj : Bool → Addr → Obj
  | true, a => { cls := .type "list_iterator", data := .fields #[.ref a, .int 0 0] }
  | false, a => { cls := .type "tuple_iterator", data := .fields #[.ref a, .int 0 0] }
def SqA (K : PySem.W.Frag) : Bool → Hp → Addr → List V → Prop
  | true, H, a, xs => SqL K H a xs
  | false, H, a, xs => SqT K H a xs
theorem draws_k {prog : Program} {w : World} {A : Around} (hh : A.handled = none) (k : Bool) (it a : Addr) (hne : a ≠ it) (items : Array Value) :
    Draws prog w A it [it, a] items.size (fun i v => items[i]? = some v) (fun i h => isIter k h it a i ∧ isSrc k h a items) := by
  cases k with
  | true => exact Draws.list hh it a hne items
  | false => exact Draws.tuple hh it a hne items
theorem begins_k (k : Bool) (a : Addr) (items : Array Value) : Begins (.ref a) (itObj k a) fun h => isSrc k h a items := by
  cases k with
  | true => exact begins_list a items
  | false => exact begins_tuple a items
theorem isIter.live {k : Bool} {h : Heap} {it a : Addr} {i : Nat} (x : isIter k h it a i) : ∃ o, h.get? it = some o ∧ ∀ v, o.data ≠ .cell v := by
  cases k with
  | true => obtain ⟨o, e, _, d⟩ := x; exact ⟨o, e, fun v q => by rw [d] at q; cases q⟩
  | false => obtain ⟨o, e, _, d⟩ := x; exact ⟨o, e, fun v q => by rw [d] at q; cases q⟩
theorem isIter.at {k : Bool} {h h' : Heap} {it a : Addr} {i : Nat} (x : isIter k h it a i) (e : ∀ o, h.get? it = some o → h'.get? it = some o) : isIter k h' it a i := by
  cases k with
  | true => exact Heap.IsListIter.at x e
  | false => exact Heap.IsTupleIter.at x e
theorem isIter.new {k : Bool} {h : Heap} {it a : Addr} (e : h.get? it = some (itObj k a)) : isIter k h it a 0 := by
  cases k with
  | true => exact ⟨_, e, rfl, rfl⟩
  | false => exact ⟨_, e, rfl, rfl⟩
theorem isSrc.ne {k : Bool} {h : Heap} {it a : Addr} {i : Nat} {items : Array Value} (x : isSrc k h a items) (y : isIter k h it a i) : a ≠ it := by
  rintro rfl
  cases k with
  | true =>
    obtain ⟨o, e, c, n, d⟩ := x
    obtain ⟨o', e', c', d'⟩ := y
    rw [e] at e'
    cases e'
    rw [d] at d'
    cases d'
  | false =>
    obtain ⟨o, e, c, n, d⟩ := x
    obtain ⟨o', e', c', d'⟩ := y
    rw [e] at e'
    cases e'
    rw [d] at d'
    cases d'
theorem SqA.src {X : Cx} {pins : List (Addr × Obj)} {σ : St} {H : Hp} {s : Shared} {k : Bool} {a : Addr} {xs : List V} (I : Inv X pins σ H s) (h : SqA X.K k H a xs) : ∃ its : List Value, Vals xs its ∧ isSrc k s.heap a its.toArray ∧ xs.length ≤ sizeLine := by
  cases k with
  | true =>
    obtain ⟨its, r, p, z⟩ := I.list h
    exact ⟨its, r, p.isList, z⟩
  | false =>
    obtain ⟨its, r, p, z⟩ := I.tuple h
    exact ⟨its, r, p, z⟩
theorem SqA.inj {X : Cx} {pins : List (Addr × Obj)} {σ : St} {H : Hp} {s : Shared} {k : Bool} {a : Addr} {xs ys : List V} (I : Inv X pins σ H s) (h : SqA X.K k H a xs) (h' : SqA X.K k H a ys) : xs = ys := by
  cases k with
  | true => exact I.list_inj h h'
  | false => exact I.tuple_inj h h'

/-! ### enumerate -/
def ItE (K : PySem.W.Frag) (k : Bool) (a : Addr) : It :=
  ⟨fun i H => ∃ (xs : List V) (x : V), SqA K k H a xs ∧ xs[i]? = some x, fun i H v H' => ∃ T x, v = .ref T ∧ H T = none ∧ H' = upd H T (.tup [.int (i : Nat), x]) ∧ ∀ xs, SqA K k H a xs → xs[i]? = some x, fun i H => ∃ xs : List V, SqA K k H a xs ∧ xs.length = i⟩
theorem turn_E {P : Program} {w : World} {K : PySem.W.Frag} {elts : List Expr} {kk : Nat} {tpos : Pos} (k : Bool) (a e it : Addr) :
    Turn P w K (.Tuple elts kk tpos) (ItE K k a) [e, it] e (fun i h => (∃ old, IsEnum h e it ((i : Nat) : Int) old) ∧ isIter k h it a i ∧ e ≠ it) where
  mem := by simp
  obj := fun i h st b hb => by
    obtain ⟨⟨old, he⟩, hi, _⟩ := st
    have e' : b = e ∨ b = it := by simpa using hb
    rcases e' with z | z
    · rw [z]; exact ⟨_, he, fun v q => nomatch q⟩
    · rw [z]; exact hi.live
  keep := fun i h h' st k => let ⟨⟨old, he⟩, hi, hne⟩ := st; ⟨⟨old, k e (by simp) _ he⟩, hi.at fun o q => k it (by simp) o q, hne⟩
  item := by
    intro X hP hw hK hc i pins s σ H E I hf st hg
    subst hP hw hK
    obtain ⟨⟨old, he⟩, hit, hne⟩ := st
    obtain ⟨xs, x, hq, hx⟩ := hg
    obtain ⟨its, rv, p, hz⟩ := SqA.src I hq
    obtain ⟨u, hu, ru⟩ := rv.get hx
    have hel : e < s.heap.objs.size := Heap.lt_size he
    have hil : it < s.heap.objs.size := by obtain ⟨_, q, _⟩ := hit.live; exact Heap.lt_size q
    have hea : e ≠ a := by
      rintro rfl
      cases k with
      | true => obtain ⟨o, e1, c1, _⟩ := p; rw [he] at e1; cases e1; simp at c1
      | false => obtain ⟨o, e1, c1, _⟩ := p; rw [he] at e1; cases e1; simp at c1
    have D := draws_k (prog := X.prog) (w := X.w) (A := X.A.in1) (show X.A.in1.handled = none from I.ok.hd hc) k it a (p.ne hit) its.toArray
    have hlt : i < its.toArray.size := by rw [List.size_toArray]; exact (List.getElem?_eq_some_iff.mp hu).1
    refine wpAny_pyNext_enum_itemC D he ⟨hit, p⟩ hlt hne (by simp [hne, hea]) fun x' h' tk hx' ho hst hT hsz hk => ?_
    have ex : x' = u := by
      have : its.toArray[i]? = some u := by simpa using hu
      rw [hx'] at this
      exact Option.some.inj this
    subst ex
    refine ⟨_, rfl, wpAny_letOwnedTupleGo_enum (s := { s with heap := h', toks := tk + 1 }) ho fun h'' he' sb => ?_⟩
    have hT2 : h''.get? s.heap.objs.size = some { cls := .type "tuple", data := .seq #[.int i tk, x'] } := (sb.2 _ (Nat.ne_of_gt hel)).trans hT
    have new : ObjOk X.prog X.w (upd H s.heap.objs.size (.tup [.int (i : Nat), x])) h'' s.heap.objs.size (.tup [.int (i : Nat), x]) :=
      ⟨by show 2 ≤ sizeLine; decide, [.int i tk, x'], .cons ⟨_, rfl⟩ (.cons ru .nil), ⟨_, hT2, rfl, _, rfl⟩⟩
    have I1 : Inv X pins σ (upd H s.heap.objs.size (.tup [.int (i : Nat), x])) { s with heap := h'', toks := tk + 1 } :=
      I.turnedNew (ch := [e, it]) (fun b ob hb q => (sb.2 b (fun z => hb (by simp [z]))).trans (hk b ob (fun z => hb (by simp [z])) (fun z => hb (by simp [z])) q)) hf (Nat.le_refl _) new
    refine ⟨.ref s.heap.objs.size, _, I1, rfl, ⟨_, x, rfl, I.hok.fresh (Nat.le_refl _), rfl, fun ys hy => by rw [SqA.inj I hy hq]; exact hx⟩, ⟨⟨x', ?_⟩, hst.1.at fun o q => (sb.2 it (Ne.symm hne)).trans q, hne⟩, fun b hb => ?_⟩
    · have e1 : ((i + 1 : Nat) : Int) = (i : Int) + 1 := by omega
      rw [e1]; exact he'
    · have hb' : b < s.heap.objs.size := by
        have e' : b = e ∨ b = it := by simpa using hb
        rcases e' with z | z
        · rw [z]; exact hel
        · rw [z]; exact hil
      rw [upd_ne (Nat.ne_of_lt hb')]
      exact (hf b hb).1
  done := by
    intro X hP hw hK hc i pins s σ H E I hf st hg
    subst hP hw hK
    obtain ⟨⟨old, he⟩, hit, hne⟩ := st
    obtain ⟨xs, hq, hx⟩ := hg
    obtain ⟨its, rv, p, hz⟩ := SqA.src I hq
    obtain ⟨f0, f1, f2, f3, f4, f5⟩ := hf it (by simp)
    have hl := rv.length
    have D := draws_k (prog := X.prog) (w := X.w) (A := X.A.in1) (show X.A.in1.handled = none from I.ok.hd hc) k it a (p.ne hit) its.toArray
    have e1 : i = its.toArray.size := by rw [List.size_toArray]; omega
    rw [e1] at hit
    exact wpAny_pyNext_enum_endD D he ⟨hit, p⟩ fun h' eb => ⟨rfl, I.turned (t' := s.toks) (fun b o hb q => eb b o hb q) f0 f1 f3 f4 f5⟩
  self := fun A i s Q E st h => let ⟨⟨_, he⟩, _⟩ := st; wpAny_pyIter_enum he h
theorem meets_enum1 {v : Value} {o : Obj} {H : Heap → Prop} (B : Begins v o H) :
    Meets (Builtin.«enumerate.__new__» ⟨[.type "enumerate", v], []⟩) (fun _ R s => H s.heap ∧
      R (.ok (.ret (.ref (s.heap.push o).objs.size))) { s with heap := (s.heap.push o).push { cls := .type "enumerate", data := .fields #[.none, .bool false, .ref s.heap.objs.size, rawInt 0, .none, .none] } }) :=
  .of_wp fun prog w A R s h => by
    obtain ⟨hp, g, d, tk, os⟩ := s; obtain ⟨h1, h⟩ := h
    have hsub := sub_enumerate
    have q1 : ∀ {A' : Around} {E : Value → Shared → Prop} {Q : Value → Shared → Prop}, Q (.ref hp.objs.size) ⟨hp.push o, g, d, tk, os⟩ → wpAny (model prog w) A' (pyIter v) Q E ⟨hp, g, d, tk, os⟩ :=
      fun q => B.iter prog w _ _ ⟨hp, g, d, tk, os⟩ _ h1 q
    wp_walk using q1
    refine wpAny_stack_any fun st => wpAny_pure ?_
    split
    · rename_i c _ _ _ _ _
      cases (c == Value.type "enumerate")
      · wp_walk using q1
        exact ⟨_, rfl, h⟩
      · wp_walk using q1
        exact ⟨_, rfl, h⟩
    · wp_walk using q1
      exact ⟨_, rfl, h⟩
theorem enum1_begins {prog : Program} {w : World} {A : Around} {E : Value → Shared → Prop} {s : Shared} {v : Value} {o : Obj} {H : Heap → Prop} {Q : Value → Shared → Prop} (B : Begins v o H) (h1 : H s.heap)
    (h : ∀ h', IsEnum h' (s.heap.objs.size + 1) s.heap.objs.size 0 .none → h'.get? s.heap.objs.size = some o → h'.objs.size = s.heap.objs.size + 2 →
      (∀ b o, s.heap.get? b = some o → h'.get? b = some o) → Q (.ref (s.heap.objs.size + 1)) { s with heap := h' }) :
    wpAny (model prog w) A (call (.type "enumerate") [v]) Q E s := by
  refine callType_new F.called_enumerate (by decide) (F.typeCall_enumerate_1 _) (F.newCall_enumerate_1 _) (fun obj => F.args_object_init_2 obj _) F.entry_enumerate_new
    (meets_enum1 B) ⟨h1, ?_⟩
  have hz : (s.heap.push o).objs.size = s.heap.objs.size + 1 := Heap.size_push ..
  show _ ∧ _
  rw [hz]
  have he : IsEnum ((s.heap.push o).push { cls := .type "enumerate", data := .fields #[.none, .bool false, .ref s.heap.objs.size, rawInt 0, .none, .none] }) (s.heap.objs.size + 1) s.heap.objs.size 0 .none := by
    have := Heap.get?_push_size (s.heap.push o) (o := { cls := .type "enumerate", data := .fields #[.none, .bool false, .ref s.heap.objs.size, rawInt 0, .none, .none] }) rfl
    rw [hz] at this; exact this
  refine ⟨⟨_, he, rfl⟩, h _ he (Heap.get?_push_of_some _ (Heap.get?_push_size _ B.free)) (by rw [Heap.size_push, hz]) fun b o x => Heap.get?_push_of_some _ (Heap.get?_push_of_some _ x)⟩
def iEnumA (K : PySem.W.Frag) (ta : TA) : TI := fun σ H R => ta σ H fun vs H1 => ∃ k a xs, vs = [.ref a] ∧ SqA K k H1 a xs ∧ (xs.length ≤ sizeLine → R (ItE K k a) H1)
theorem pi_enumA {X : Cx} {e : Expr} {ta : TA} {p pos tpos : Pos} {elts : List Expr} {kk : Nat} (hg : Gl X "enumerate") (hm : X.mg "enumerate" = none) (ha : PA X [e] ta) (hs : starEach [e] X.env = [(false, eval e X.env)] := by rfl) :
    PI X (.Tuple elts kk tpos) (.Call (.Name "enumerate" p) [e] [] pos) (iEnumA X.K ta) := by
  refine ⟨fun pins s σ H R I h => ?_⟩
  refine Call_ (ld_blt I hg hm boot_enumerate (PyProof.Rows.callWith_type1 (thn (ha.run pos pins s σ H _ I h) fun us s1 ⟨vs, H1, I1, r1, q1⟩ => ?_) hs rfl))
  obtain ⟨k, a, xs, ex, hq, q⟩ := q1
  subst ex
  cases r1 with
  | cons r rr =>
    cases rr
    cases r
    obtain ⟨its, rv, p', hz⟩ := SqA.src I1 hq
    refine enum1_begins (begins_k k a its.toArray) p' fun h' he hit hsz hk => wpAny_pyIter_enum he ?_
    have I2 : Inv X pins σ H1 { s1 with heap := h' } := I1.kept (t' := s1.toks) hk
    refine ⟨s1.heap.objs.size + 1, [s1.heap.objs.size + 1, s1.heap.objs.size], _, _, H1, rfl, I2, turn_E k a (s1.heap.objs.size + 1) s1.heap.objs.size, ⟨⟨.none, he⟩, isIter.new hit, Nat.succ_ne_self _⟩, fun b hb => ?_, q hz⟩
    have e' : b = s1.heap.objs.size + 1 ∨ b = s1.heap.objs.size := by simpa using hb
    have hle : s1.heap.objs.size ≤ b := by
      rcases e' with z | z
      · rw [z]; exact Nat.le_add_right _ _
      · rw [z]; exact Nat.le_refl _
    exact I1.fpOk hle (I1.hok.fresh hle)

/-! ### zip of two -/
def ItZ2 (K : PySem.W.Frag) (k l : Bool) (a b : Addr) : It :=
  ⟨fun i H => ∃ (xs ys : List V) (x y : V), SqA K k H a xs ∧ SqA K l H b ys ∧ xs[i]? = some x ∧ ys[i]? = some y,
    fun i H v H' => ∃ T x y, v = .ref T ∧ H T = none ∧ H' = upd H T (.tup [x, y]) ∧ (∀ xs, SqA K k H a xs → xs[i]? = some x) ∧ ∀ ys, SqA K l H b ys → ys[i]? = some y,
    fun i H => ∃ xs ys : List V, SqA K k H a xs ∧ SqA K l H b ys ∧ i ≤ xs.length ∧ i ≤ ys.length ∧ (i = xs.length ∨ i = ys.length)⟩
theorem turn_Z2 {P : Program} {w : World} {K : PySem.W.Frag} {elts : List Expr} {kk : Nat} {tpos : Pos} (k l : Bool) (a b N : Addr) (ha : a < N) (hb : b < N) :
    Turn P w K (.Tuple elts kk tpos) (ItZ2 K k l a b) [N + 4, N + 2, N + 3, N, N + 1] (N + 4) (fun i h => IsZip h (N + 4) (N + 2) (N + 3) .none ∧ IsTupOf2 h (N + 2) (.ref N) (.ref (N + 1)) ∧ (∃ x y, IsTupOf2 h (N + 3) x y) ∧ isIter k h N a i ∧ isIter l h (N + 1) b i) where
  mem := by simp
  obj := fun i h st c hc => by
    obtain ⟨hz, hTI, ⟨x, y, hTO⟩, h1, h2⟩ := st
    have e' : c = N + 4 ∨ c = N + 2 ∨ c = N + 3 ∨ c = N ∨ c = N + 1 := by simpa using hc
    rcases e' with q | q | q | q | q
    · rw [q]; exact ⟨_, hz, fun v q => nomatch q⟩
    · rw [q]; exact ⟨_, hTI, fun v q => nomatch q⟩
    · rw [q]; exact ⟨_, hTO, fun v q => nomatch q⟩
    · rw [q]; exact h1.live
    · rw [q]; exact h2.live
  keep := fun i h h' st k => by
    obtain ⟨hz, hTI, ⟨x, y, hTO⟩, h1, h2⟩ := st
    exact ⟨k _ (by simp) _ hz, k _ (by simp) _ hTI, ⟨x, y, k _ (by simp) _ hTO⟩, h1.at fun o q => k _ (by simp) o q, h2.at fun o q => k _ (by simp) o q⟩
  item := by
    intro X hP hw hK hc i pins s σ H E I hf st hg
    subst hP hw hK
    obtain ⟨hz, hTI, ⟨x0, y0, hTO⟩, h1, h2⟩ := st
    obtain ⟨xs, ys, x, y, hqx, hqy, hx, hy⟩ := hg
    obtain ⟨its, rv, p, _⟩ := SqA.src I hqx
    obtain ⟨its2, rv2, p2, _⟩ := SqA.src I hqy
    obtain ⟨u, hu, ru⟩ := rv.get hx
    obtain ⟨u2, hu2, ru2⟩ := rv2.get hy
    have hzl : N + 4 < s.heap.objs.size := Heap.lt_size hz
    have D1 := draws_k (prog := X.prog) (w := X.w) (A := X.A.in1) (show X.A.in1.handled = none from I.ok.hd hc) k N a (p.ne h1) its.toArray
    have D2 := draws_k (prog := X.prog) (w := X.w) (A := X.A.in1) (show X.A.in1.handled = none from I.ok.hd hc) l (N + 1) b (p2.ne h2) its2.toArray
    have S := zip_sep2 (N := N) (fp1 := [a]) (fp2 := [b]) (by simpa using ha) (by simpa using hb)
    have l1 : i < its.toArray.size := by rw [List.size_toArray]; exact (List.getElem?_eq_some_iff.mp hu).1
    have l2 : i < its2.toArray.size := by rw [List.size_toArray]; exact (List.getElem?_eq_some_iff.mp hu2).1
    refine wpAny_pyNext_zipD2_item S D1 D2 hz hTI hTO ⟨h1, p⟩ ⟨h2, p2⟩ l1 l2 fun x1 x2 h' tk y1 y2 z' TO' d1 d2 hT hsz hk => ?_
    have e1 : x1 = u := by
      have : its.toArray[i]? = some u := by simpa using hu
      rw [y1] at this
      exact Option.some.inj this
    have e2 : x2 = u2 := by
      have : its2.toArray[i]? = some u2 := by simpa using hu2
      rw [y2] at this
      exact Option.some.inj this
    subst e1 e2
    refine ⟨_, rfl, wpAny_letOwnedTupleGo_zip (s := { s with heap := h', toks := tk }) z' fun h'' z'' sb => ?_⟩
    have hT2 : h''.get? s.heap.objs.size = some { cls := .type "tuple", data := .seq #[x1, x2] } := (sb.2 _ (Nat.ne_of_gt hzl)).trans hT
    have new : ObjOk X.prog X.w (upd H s.heap.objs.size (.tup [x, y])) h'' s.heap.objs.size (.tup [x, y]) :=
      ⟨by show 2 ≤ sizeLine; decide, [x1, x2], .cons ru (.cons ru2 .nil), ⟨_, hT2, rfl, _, rfl⟩⟩
    have I1 : Inv X pins σ (upd H s.heap.objs.size (.tup [x, y])) { s with heap := h'', toks := tk } :=
      I.turnedNew (ch := [N + 4, N + 2, N + 3, N, N + 1]) (fun c o hb q => (sb.2 c (fun q' => hb (by simp [q']))).trans (hk c o (fun q' => hb (by simp [q'])) (fun q' => hb (by simp [q'])) (fun q' => hb (by simp [q'])) (fun q' => hb (by simp [q'])) q)) hf (Nat.le_refl _) new
    have ne : ∀ {m n : Nat}, m ≠ n → N + m ≠ N + n := fun h z => h (Nat.add_left_cancel z)
    have n0 : ∀ {m : Nat}, m ≠ 0 → N ≠ N + m := fun h z => h (Nat.add_left_cancel (show N + 0 = N + _ from z)).symm
    refine ⟨.ref s.heap.objs.size, _, I1, rfl, ⟨_, x, y, rfl, I.hok.fresh (Nat.le_refl _), rfl, fun l hl => by rw [SqA.inj I hl hqx]; exact hx, fun l hl => by rw [SqA.inj I hl hqy]; exact hy⟩, ⟨z'', ?_, ⟨x1, x2, ?_⟩, ?_, ?_⟩, fun c hcm => ?_⟩
    · exact (sb.2 _ (ne (by decide))).trans (hk _ _ (ne (by decide)) (ne (by decide)) (fun z => n0 (m := 2) (by decide) z.symm) (ne (by decide)) hTI)
    · exact (sb.2 _ (ne (by decide))).trans TO'
    · exact d1.1.at fun o q => (sb.2 _ (n0 (by decide))).trans q
    · exact d2.1.at fun o q => (sb.2 _ (ne (by decide))).trans q
    · have hlt : c < s.heap.objs.size := by
        have e' : c = N + 4 ∨ c = N + 2 ∨ c = N + 3 ∨ c = N ∨ c = N + 1 := by simpa using hcm
        rcases e' with q | q | q | q | q <;> rw [q] <;> first | exact hzl | exact Nat.lt_of_le_of_lt (by omega) hzl
      rw [upd_ne (Nat.ne_of_lt hlt)]
      exact (hf c hcm).1
  done := by
    intro X hP hw hK hc i pins s σ H E I hf st hg
    subst hP hw hK
    obtain ⟨hz, hTI, ⟨x0, y0, hTO⟩, h1, h2⟩ := st
    obtain ⟨xs, ys, hqx, hqy, le1, le2, hend⟩ := hg
    obtain ⟨its, rv, p, _⟩ := SqA.src I hqx
    obtain ⟨its2, rv2, p2, _⟩ := SqA.src I hqy
    have l1 := rv.length
    have l2 := rv2.length
    have D1 := draws_k (prog := X.prog) (w := X.w) (A := X.A.in1) (show X.A.in1.handled = none from I.ok.hd hc) k N a (p.ne h1) its.toArray
    have D2 := draws_k (prog := X.prog) (w := X.w) (A := X.A.in1) (show X.A.in1.handled = none from I.ok.hd hc) l (N + 1) b (p2.ne h2) its2.toArray
    have S := zip_sep2 (N := N) (fp1 := [a]) (fp2 := [b]) (by simpa using ha) (by simpa using hb)
    exact wpAny_pyNext_zipD2_end S D1 D2 hz hTI hTO ⟨h1, p⟩ ⟨h2, p2⟩ (by rw [List.size_toArray]; omega) (by rw [List.size_toArray]; omega) (by rw [List.size_toArray, List.size_toArray]; omega) fun h' tk hk => ⟨rfl, I.turnedL (ch := [N + 4, N + 2, N + 3, N, N + 1]) (fun c o hb q =>
      hk c o (fun q' => hb (by simp [q'])) (fun q' => hb (by simp [q'])) (fun q' => hb (by simp [q'])) (fun q' => hb (by simp [q'])) q) hf⟩
  self := fun A i s Q E st h => wpAny_pyIter_zip st.1 h
theorem SqA.lt {X : Cx} {pins : List (Addr × Obj)} {σ : St} {H : Hp} {s : Shared} {k : Bool} {a : Addr} {items : Array Value} (h : isSrc k s.heap a items) : a < s.heap.objs.size := by
  cases k with
  | true => obtain ⟨o, e, _⟩ := h; exact Heap.lt_size e
  | false => obtain ⟨o, e, _⟩ := h; exact Heap.lt_size e
def iZip2 (K : PySem.W.Frag) (ta : TA) : TI := fun σ H R => ta σ H fun vs H1 => ∃ k l a b xs ys, vs = [.ref a, .ref b] ∧ SqA K k H1 a xs ∧ SqA K l H1 b ys ∧ (xs.length ≤ sizeLine → ys.length ≤ sizeLine → R (ItZ2 K k l a b) H1)
theorem pi_zip2 {X : Cx} {e e2 : Expr} {ta : TA} {p pos tpos : Pos} {elts : List Expr} {kk : Nat} (hg : Gl X "zip") (hm : X.mg "zip" = none) (ha : PA X [e, e2] ta)
    (hs : starEach [e, e2] X.env = (false, eval e X.env) :: starEach [e2] X.env := by rfl) (hpl : (backTo pos (starEach [e2] X.env)).any (·.1) = false := by rfl) :
    PI X (.Tuple elts kk tpos) (.Call (.Name "zip" p) [e, e2] [] pos) (iZip2 X.K ta) := by
  refine ⟨fun pins s σ H R I h => ?_⟩
  refine Call_ (ld_blt I hg hm PyProof.Rows.boot_zip (PyProof.Rows.callWith_type1 (thn (ha.run pos pins s σ H _ I h) fun us s1 ⟨vs, H1, I1, r1, q1⟩ => ?_) hs hpl))
  obtain ⟨k, l, a, b, xs, ys, ex, hqx, hqy, q⟩ := q1
  subst ex
  cases r1 with
  | cons r rr =>
    cases rr with
    | cons r' rr =>
      cases rr
      cases r
      cases r'
      have fresh5 : ∀ c, c ∈ [s1.heap.objs.size + 4, s1.heap.objs.size + 2, s1.heap.objs.size + 3, s1.heap.objs.size, s1.heap.objs.size + 1] → FpOk X pins H1 c := fun c hcm => by
        have e' : c = s1.heap.objs.size + 4 ∨ c = s1.heap.objs.size + 2 ∨ c = s1.heap.objs.size + 3 ∨ c = s1.heap.objs.size ∨ c = s1.heap.objs.size + 1 := by simpa using hcm
        have hle : s1.heap.objs.size ≤ c := by
          rcases e' with z | z | z | z | z <;> rw [z] <;> first | exact Nat.le_refl _ | exact Nat.le_add_right _ _
        exact I1.fpOk hle (I1.hok.fresh hle)
      obtain ⟨its, rv, p1, z1⟩ := SqA.src I1 hqx
      obtain ⟨its2, rv2, p2, z2⟩ := SqA.src I1 hqy
      have la := SqA.lt (X := X) (pins := pins) (σ := σ) (H := H) (s := s1) p1
      have lb := SqA.lt (X := X) (pins := pins) (σ := σ) (H := H) (s := s1) p2
      refine zip_begins2 (begins_k k a its.toArray) (begins_k l b its2.toArray) p1 p2 fun h' hz hTI hTO h1 h2 hsz hk => wpAny_pyIter_zip hz ?_
      have I2 : Inv X pins σ H1 { s1 with heap := h' } := I1.kept (t' := s1.toks) hk
      exact ⟨s1.heap.objs.size + 4, [s1.heap.objs.size + 4, s1.heap.objs.size + 2, s1.heap.objs.size + 3, s1.heap.objs.size, s1.heap.objs.size + 1], _, _, H1, rfl, I2, turn_Z2 k l a b s1.heap.objs.size la lb, ⟨hz, hTI, ⟨_, _, hTO⟩, isIter.new h1, isIter.new h2⟩, fresh5, q z1 z2⟩

/-! ### zip of three -/
def ItZ3 (K : PySem.W.Frag) (k l m : Bool) (a b c : Addr) : It :=
  ⟨fun i H => ∃ (xs ys zs : List V) (x y z : V), SqA K k H a xs ∧ SqA K l H b ys ∧ SqA K m H c zs ∧ xs[i]? = some x ∧ ys[i]? = some y ∧ zs[i]? = some z,
    fun i H v H' => ∃ T x y z, v = .ref T ∧ H T = none ∧ H' = upd H T (.tup [x, y, z]) ∧ (∀ xs, SqA K k H a xs → xs[i]? = some x) ∧ (∀ ys, SqA K l H b ys → ys[i]? = some y) ∧ ∀ zs, SqA K m H c zs → zs[i]? = some z,
    fun i H => ∃ xs ys zs : List V, SqA K k H a xs ∧ SqA K l H b ys ∧ SqA K m H c zs ∧ i ≤ xs.length ∧ i ≤ ys.length ∧ i ≤ zs.length ∧ (i = xs.length ∨ i = ys.length ∨ i = zs.length)⟩
theorem turn_Z3 {P : Program} {w : World} {K : PySem.W.Frag} {elts : List Expr} {kk : Nat} {tpos : Pos} (k l m : Bool) (a b c N : Addr) (ha : a < N) (hb : b < N) (hc' : c < N) :
    Turn P w K (.Tuple elts kk tpos) (ItZ3 K k l m a b c) [N + 5, N + 3, N + 4, N, N + 1, N + 2] (N + 5) (fun i h => IsZip h (N + 5) (N + 3) (N + 4) .none ∧ IsTupOf3 h (N + 3) (.ref N) (.ref (N + 1)) (.ref (N + 2)) ∧ (∃ x y z, IsTupOf3 h (N + 4) x y z) ∧ isIter k h N a i ∧ isIter l h (N + 1) b i ∧ isIter m h (N + 2) c i) where
  mem := by simp
  obj := fun i h st c hc => by
    obtain ⟨hz, hTI, ⟨x, y, z, hTO⟩, h1, h2, h3⟩ := st
    have e' : c = N + 5 ∨ c = N + 3 ∨ c = N + 4 ∨ c = N ∨ c = N + 1 ∨ c = N + 2 := by simpa using hc
    rcases e' with q | q | q | q | q | q
    · rw [q]; exact ⟨_, hz, fun v q => nomatch q⟩
    · rw [q]; exact ⟨_, hTI, fun v q => nomatch q⟩
    · rw [q]; exact ⟨_, hTO, fun v q => nomatch q⟩
    · rw [q]; exact h1.live
    · rw [q]; exact h2.live
    · rw [q]; exact h3.live
  keep := fun i h h' st k => by
    obtain ⟨hz, hTI, ⟨x, y, z, hTO⟩, h1, h2, h3⟩ := st
    exact ⟨k _ (by simp) _ hz, k _ (by simp) _ hTI, ⟨x, y, z, k _ (by simp) _ hTO⟩, h1.at fun o q => k _ (by simp) o q, h2.at fun o q => k _ (by simp) o q, h3.at fun o q => k _ (by simp) o q⟩
  item := by
    intro X hP hw hK hc i pins s σ H E I hf st hg
    subst hP hw hK
    obtain ⟨hz, hTI, ⟨x0, y0, z0, hTO⟩, h1, h2, h3⟩ := st
    obtain ⟨xs, ys, zs, x, y, z, hqx, hqy, hqz, hx, hy, hzz⟩ := hg
    obtain ⟨its, rv, p, _⟩ := SqA.src I hqx
    obtain ⟨its2, rv2, p2, _⟩ := SqA.src I hqy
    obtain ⟨its3, rv3, p3, _⟩ := SqA.src I hqz
    obtain ⟨u, hu, ru⟩ := rv.get hx
    obtain ⟨u2, hu2, ru2⟩ := rv2.get hy
    obtain ⟨u3, hu3, ru3⟩ := rv3.get hzz
    have hzl : N + 5 < s.heap.objs.size := Heap.lt_size hz
    have D1 := draws_k (prog := X.prog) (w := X.w) (A := X.A.in1) (show X.A.in1.handled = none from I.ok.hd hc) k N a (p.ne h1) its.toArray
    have D2 := draws_k (prog := X.prog) (w := X.w) (A := X.A.in1) (show X.A.in1.handled = none from I.ok.hd hc) l (N + 1) b (p2.ne h2) its2.toArray
    have D3 := draws_k (prog := X.prog) (w := X.w) (A := X.A.in1) (show X.A.in1.handled = none from I.ok.hd hc) m (N + 2) c (p3.ne h3) its3.toArray
    have S := zip_sep3 (N := N) (fp1 := [a]) (fp2 := [b]) (fp3 := [c]) (by simpa using ha) (by simpa using hb) (by simpa using hc')
    have l1 : i < its.toArray.size := by rw [List.size_toArray]; exact (List.getElem?_eq_some_iff.mp hu).1
    have l2 : i < its2.toArray.size := by rw [List.size_toArray]; exact (List.getElem?_eq_some_iff.mp hu2).1
    have l3 : i < its3.toArray.size := by rw [List.size_toArray]; exact (List.getElem?_eq_some_iff.mp hu3).1
    refine wpAny_pyNext_zipD3_item S D1 D2 D3 hz hTI hTO ⟨h1, p⟩ ⟨h2, p2⟩ ⟨h3, p3⟩ l1 l2 l3 fun x1 x2 x3 h' tk y1 y2 y3 z' TO' d1 d2 d3 hT hsz hk => ?_
    have e1 : x1 = u := by
      have : its.toArray[i]? = some u := by simpa using hu
      rw [y1] at this
      exact Option.some.inj this
    have e2 : x2 = u2 := by
      have : its2.toArray[i]? = some u2 := by simpa using hu2
      rw [y2] at this
      exact Option.some.inj this
    have e3 : x3 = u3 := by
      have : its3.toArray[i]? = some u3 := by simpa using hu3
      rw [y3] at this
      exact Option.some.inj this
    subst e1 e2 e3
    refine ⟨_, rfl, wpAny_letOwnedTupleGo_zip (s := { s with heap := h', toks := tk }) z' fun h'' z'' sb => ?_⟩
    have hT2 : h''.get? s.heap.objs.size = some { cls := .type "tuple", data := .seq #[x1, x2, x3] } := (sb.2 _ (Nat.ne_of_gt hzl)).trans hT
    have new : ObjOk X.prog X.w (upd H s.heap.objs.size (.tup [x, y, z])) h'' s.heap.objs.size (.tup [x, y, z]) :=
      ⟨by show 3 ≤ sizeLine; decide, [x1, x2, x3], .cons ru (.cons ru2 (.cons ru3 .nil)), ⟨_, hT2, rfl, _, rfl⟩⟩
    have I1 : Inv X pins σ (upd H s.heap.objs.size (.tup [x, y, z])) { s with heap := h'', toks := tk } :=
      I.turnedNew (ch := [N + 5, N + 3, N + 4, N, N + 1, N + 2]) (fun c o hb q => (sb.2 c (fun q' => hb (by simp [q']))).trans (hk c o (fun q' => hb (by simp [q'])) (fun q' => hb (by simp [q'])) (fun q' => hb (by simp [q'])) (fun q' => hb (by simp [q'])) (fun q' => hb (by simp [q'])) q)) hf (Nat.le_refl _) new
    have ne : ∀ {m n : Nat}, m ≠ n → N + m ≠ N + n := fun h z => h (Nat.add_left_cancel z)
    have n0 : ∀ {m : Nat}, m ≠ 0 → N ≠ N + m := fun h z => h (Nat.add_left_cancel (show N + 0 = N + _ from z)).symm
    refine ⟨.ref s.heap.objs.size, _, I1, rfl, ⟨_, x, y, z, rfl, I.hok.fresh (Nat.le_refl _), rfl, fun l hl => by rw [SqA.inj I hl hqx]; exact hx, fun l hl => by rw [SqA.inj I hl hqy]; exact hy, fun l hl => by rw [SqA.inj I hl hqz]; exact hzz⟩, ⟨z'', ?_, ⟨x1, x2, x3, ?_⟩, ?_, ?_, ?_⟩, fun c hcm => ?_⟩
    · exact (sb.2 _ (ne (by decide))).trans (hk _ _ (ne (by decide)) (ne (by decide)) (fun z => n0 (m := 3) (by decide) z.symm) (ne (by decide)) (ne (by decide)) hTI)
    · exact (sb.2 _ (ne (by decide))).trans TO'
    · exact d1.1.at fun o q => (sb.2 _ (n0 (by decide))).trans q
    · exact d2.1.at fun o q => (sb.2 _ (ne (by decide))).trans q
    · exact d3.1.at fun o q => (sb.2 _ (ne (by decide))).trans q
    · have hlt : c < s.heap.objs.size := by
        have e' : c = N + 5 ∨ c = N + 3 ∨ c = N + 4 ∨ c = N ∨ c = N + 1 ∨ c = N + 2 := by simpa using hcm
        rcases e' with q | q | q | q | q | q <;> rw [q] <;> first | exact hzl | exact Nat.lt_of_le_of_lt (by omega) hzl
      rw [upd_ne (Nat.ne_of_lt hlt)]
      exact (hf c hcm).1
  done := by
    intro X hP hw hK hc i pins s σ H E I hf st hg
    subst hP hw hK
    obtain ⟨hz, hTI, ⟨x0, y0, z0, hTO⟩, h1, h2, h3⟩ := st
    obtain ⟨xs, ys, zs, hqx, hqy, hqz, le1, le2, le3, hend⟩ := hg
    obtain ⟨its, rv, p, _⟩ := SqA.src I hqx
    obtain ⟨its2, rv2, p2, _⟩ := SqA.src I hqy
    obtain ⟨its3, rv3, p3, _⟩ := SqA.src I hqz
    have l1 := rv.length
    have l2 := rv2.length
    have l3 := rv3.length
    have D1 := draws_k (prog := X.prog) (w := X.w) (A := X.A.in1) (show X.A.in1.handled = none from I.ok.hd hc) k N a (p.ne h1) its.toArray
    have D2 := draws_k (prog := X.prog) (w := X.w) (A := X.A.in1) (show X.A.in1.handled = none from I.ok.hd hc) l (N + 1) b (p2.ne h2) its2.toArray
    have D3 := draws_k (prog := X.prog) (w := X.w) (A := X.A.in1) (show X.A.in1.handled = none from I.ok.hd hc) m (N + 2) c (p3.ne h3) its3.toArray
    have S := zip_sep3 (N := N) (fp1 := [a]) (fp2 := [b]) (fp3 := [c]) (by simpa using ha) (by simpa using hb) (by simpa using hc')
    exact wpAny_pyNext_zipD3_end S D1 D2 D3 hz hTI hTO ⟨h1, p⟩ ⟨h2, p2⟩ ⟨h3, p3⟩ (by rw [List.size_toArray]; omega) (by rw [List.size_toArray]; omega) (by rw [List.size_toArray]; omega) (by rw [List.size_toArray, List.size_toArray, List.size_toArray]; omega) fun h' tk hk => ⟨rfl, I.turnedL (ch := [N + 5, N + 3, N + 4, N, N + 1, N + 2]) (fun c o hb q =>
      hk c o (fun q' => hb (by simp [q'])) (fun q' => hb (by simp [q'])) (fun q' => hb (by simp [q'])) (fun q' => hb (by simp [q'])) (fun q' => hb (by simp [q'])) q) hf⟩
  self := fun A i s Q E st h => wpAny_pyIter_zip st.1 h
def iZip3 (K : PySem.W.Frag) (ta : TA) : TI := fun σ H R => ta σ H fun vs H1 => ∃ k l m a b c xs ys zs, vs = [.ref a, .ref b, .ref c] ∧ SqA K k H1 a xs ∧ SqA K l H1 b ys ∧ SqA K m H1 c zs ∧ (xs.length ≤ sizeLine → ys.length ≤ sizeLine → zs.length ≤ sizeLine → R (ItZ3 K k l m a b c) H1)
theorem pi_zip3 {X : Cx} {e e2 e3 : Expr} {ta : TA} {p pos tpos : Pos} {elts : List Expr} {kk : Nat} (hg : Gl X "zip") (hm : X.mg "zip" = none) (ha : PA X [e, e2, e3] ta)
    (hs : starEach [e, e2, e3] X.env = (false, eval e X.env) :: starEach [e2, e3] X.env := by rfl) (hpl : (backTo pos (starEach [e2, e3] X.env)).any (·.1) = false := by rfl) :
    PI X (.Tuple elts kk tpos) (.Call (.Name "zip" p) [e, e2, e3] [] pos) (iZip3 X.K ta) := by
  refine ⟨fun pins s σ H R I h => ?_⟩
  refine Call_ (ld_blt I hg hm PyProof.Rows.boot_zip (PyProof.Rows.callWith_type1 (thn (ha.run pos pins s σ H _ I h) fun us s1 ⟨vs, H1, I1, r1, q1⟩ => ?_) hs hpl))
  obtain ⟨k, l, m, a, b, c, xs, ys, zs, ex, hqx, hqy, hqz, q⟩ := q1
  subst ex
  cases r1 with
  | cons r rr =>
    cases rr with
    | cons r' rr =>
      cases rr with
      | cons r'' rr =>
        cases rr
        cases r
        cases r'
        cases r''
        have fresh6 : ∀ c, c ∈ [s1.heap.objs.size + 5, s1.heap.objs.size + 3, s1.heap.objs.size + 4, s1.heap.objs.size, s1.heap.objs.size + 1, s1.heap.objs.size + 2] → FpOk X pins H1 c := fun c hcm => by
          have e' : c = s1.heap.objs.size + 5 ∨ c = s1.heap.objs.size + 3 ∨ c = s1.heap.objs.size + 4 ∨ c = s1.heap.objs.size ∨ c = s1.heap.objs.size + 1 ∨ c = s1.heap.objs.size + 2 := by simpa using hcm
          have hle : s1.heap.objs.size ≤ c := by
            rcases e' with z | z | z | z | z | z <;> rw [z] <;> first | exact Nat.le_refl _ | exact Nat.le_add_right _ _
          exact I1.fpOk hle (I1.hok.fresh hle)
        obtain ⟨its, rv, p1, z1⟩ := SqA.src I1 hqx
        obtain ⟨its2, rv2, p2, z2⟩ := SqA.src I1 hqy
        obtain ⟨its3, rv3, p3, z3⟩ := SqA.src I1 hqz
        have la := SqA.lt (X := X) (pins := pins) (σ := σ) (H := H) (s := s1) p1
        have lb := SqA.lt (X := X) (pins := pins) (σ := σ) (H := H) (s := s1) p2
        have lc := SqA.lt (X := X) (pins := pins) (σ := σ) (H := H) (s := s1) p3
        refine zip_begins3 (begins_k k a its.toArray) (begins_k l b its2.toArray) (begins_k m c its3.toArray) p1 p2 p3 fun h' hz hTI hTO h1 h2 h3 hsz hk => wpAny_pyIter_zip hz ?_
        have I2 : Inv X pins σ H1 { s1 with heap := h' } := I1.kept (t' := s1.toks) hk
        exact ⟨s1.heap.objs.size + 5, [s1.heap.objs.size + 5, s1.heap.objs.size + 3, s1.heap.objs.size + 4, s1.heap.objs.size, s1.heap.objs.size + 1, s1.heap.objs.size + 2], _, _, H1, rfl, I2, turn_Z3 k l m a b c s1.heap.objs.size la lb lc, ⟨hz, hTI, ⟨_, _, _, hTO⟩, isIter.new h1, isIter.new h2, isIter.new h3⟩, fresh6, q z1 z2 z3⟩
end Rc

/-! Rc: what is walked, by functions; for, while, comprehensions. -/
namespace Rc
open PySem PySem.Spec PyProof.Rows L2
variable [LamTbl]

theorem zip2_length : ∀ (as bs : List D), (zip2 as bs).length = min as.length bs.length
  | [], _ => by simp [zip2]
  | _ :: _, [] => by simp [zip2]
  | a :: as, b :: bs => by simp [zip2, zip2_length as bs, Nat.succ_min_succ]
theorem zip2_get : ∀ {as bs : List D} {i : Nat} {a b : D}, as[i]? = some a → bs[i]? = some b → (zip2 as bs)[i]? = some (.tuple [a, b])
  | [], _, _, _, _, h, _ => by simp at h
  | _ :: _, [], _, _, _, _, h => by simp at h
  | x :: as, y :: bs, 0, _, _, h, h' => by simp at h h'; subst h h'; rfl
  | x :: as, y :: bs, i + 1, _, _, h, h' => by
    simp only [zip2, List.getElem?_cons_succ] at h h' ⊢
    exact zip2_get h h'
theorem zip3_length : ∀ (as bs cs : List D), (zip3 as bs cs).length = min (min as.length bs.length) cs.length
  | [], _, _ => by simp [zip3]
  | _ :: _, [], _ => by simp [zip3]
  | _ :: _, _ :: _, [] => by simp [zip3]
  | a :: as, b :: bs, c :: cs => by simp [zip3, zip3_length as bs cs, Nat.succ_min_succ]
theorem zip3_get : ∀ {as bs cs : List D} {i : Nat} {a b c : D}, as[i]? = some a → bs[i]? = some b → cs[i]? = some c → (zip3 as bs cs)[i]? = some (.tuple [a, b, c])
  | [], _, _, _, _, _, _, h, _, _ => by simp at h
  | _ :: _, [], _, _, _, _, _, _, h, _ => by simp at h
  | _ :: _, _ :: _, [], _, _, _, _, _, _, h => by simp at h
  | x :: as, y :: bs, z :: cs, 0, _, _, _, h, h', h'' => by simp at h h' h''; subst h h' h''; rfl
  | x :: as, y :: bs, z :: cs, i + 1, _, _, _, h, h', h'' => by
    simp only [zip3, List.getElem?_cons_succ] at h h' h'' ⊢
    exact zip3_get h h' h''
theorem enumF_length : ∀ (k : Nat) (ds : List D), (enumF k ds).length = ds.length
  | _, [] => rfl
  | k, d :: ds => by simp [enumF, enumF_length (k + 1) ds]
theorem enumF_get : ∀ {k : Nat} {ds : List D} {i : Nat} {d : D}, ds[i]? = some d → (enumF k ds)[i]? = some (.tuple [.int ((k + i : Nat) : Int), d])
  | _, [], _, _, h => by simp at h
  | k, x :: ds, 0, _, h => by simp at h; subst h; simp [enumF]
  | k, x :: ds, i + 1, _, h => by
    simp only [enumF, List.getElem?_cons_succ] at h ⊢
    rw [enumF_get h, show k + 1 + i = k + (i + 1) by omega]

section
variable {K : PySem.W.Frag} {mg : Str → Option Value} {H H1 : Hp}
/-- a list or tuple that is walked -/
theorem dSeq_src {d : D} {v : V} {ds : List D} (h : Rep K mg H d v) (e : dSeq d = some ds) : ∃ k a xs, v = .ref a ∧ (∀ H', Mono H H' → SqA K k H' a xs) ∧ RepL K mg H ds xs := by
  cases d with
  | list es =>
    cases e
    obtain ⟨a, xs, ev, s, r⟩ := h
    exact ⟨true, a, xs, ev, fun H' m => (m.fzL s).sq, r⟩
  | tuple es =>
    cases e
    obtain ⟨a, xs, ev, s, r⟩ := h
    exact ⟨false, a, xs, ev, fun H' m => m.sqT s, r⟩
  | none => cases e
  | bool _ => cases e
  | int _ => cases e
  | str _ => cases e
  | dict _ => cases e
theorem wk_E {k : Bool} {a : Addr} {xs : List V} {ds : List D} (s : ∀ H', Mono H H' → SqA K k H' a xs) (r : RepL K mg H ds xs) (z : xs.length ≤ sizeLine) : Wk K mg (ItE K k a) H (enumF 0 ds) where
  go := fun i H1 m h => by
    rw [enumF_length] at h
    have h' : i < xs.length := by rw [r.length]; exact h
    exact ⟨xs, xs[i], s H1 m, by simp [h']⟩
  stop := fun H1 m => ⟨xs, s H1 m, by rw [enumF_length, r.length]⟩
  yld := fun i H1 x H' m h ⟨T, y, ev, nT, eH, hy⟩ => by
    rw [enumF_length] at h
    obtain ⟨d, e1, e2⟩ := RepL.getv r (hy xs (s H1 m))
    subst eH ev
    have sm := same_upd (o := .tup [.int (i : Nat), y]) nT
    refine ⟨sm, _, enumF_get e1, T, _, rfl, SqT.of upd_same, _, _, rfl, ?_, _, _, rfl, Rep.mono (m.trans (Mono.of_same sm)) d e2, rfl⟩
    rw [Nat.zero_add]
    rfl
  size := by rw [enumF_length, ← r.length]; exact z
theorem wk_Z2 {k l : Bool} {a b : Addr} {xs ys : List V} {ds es : List D} (s : ∀ H', Mono H H' → SqA K k H' a xs) (r : RepL K mg H ds xs) (s' : ∀ H', Mono H H' → SqA K l H' b ys) (r' : RepL K mg H es ys) (z : xs.length ≤ sizeLine) : Wk K mg (ItZ2 K k l a b) H (zip2 ds es) where
  go := fun i H1 m h => by
    rw [zip2_length] at h
    have h1 : i < xs.length := by rw [r.length]; omega
    have h2 : i < ys.length := by rw [r'.length]; omega
    exact ⟨xs, ys, xs[i], ys[i], s H1 m, s' H1 m, by simp [h1], by simp [h2]⟩
  stop := fun H1 m => ⟨xs, ys, s H1 m, s' H1 m, by rw [zip2_length, r.length]; omega, by rw [zip2_length, r'.length]; omega, by rw [zip2_length, r.length, r'.length]; omega⟩
  yld := fun i H1 x H' m h ⟨T, x, y, ev, nT, eH, hx, hy⟩ => by
    obtain ⟨d, e1, e2⟩ := RepL.getv r (hx xs (s H1 m))
    obtain ⟨d', e1', e2'⟩ := RepL.getv r' (hy ys (s' H1 m))
    subst eH ev
    have sm := same_upd (o := .tup [x, y]) nT
    have mo := m.trans (Mono.of_same sm)
    exact ⟨sm, _, zip2_get e1 e1', T, _, rfl, SqT.of upd_same, _, _, rfl, Rep.mono mo d e2, _, _, rfl, Rep.mono mo d' e2', rfl⟩
  size := by rw [zip2_length]; have := r.length; omega
theorem wk_Z3 {k l n : Bool} {a b c : Addr} {xs ys zs : List V} {ds es fs : List D} (s : ∀ H', Mono H H' → SqA K k H' a xs) (r : RepL K mg H ds xs) (s' : ∀ H', Mono H H' → SqA K l H' b ys) (r' : RepL K mg H es ys) (s'' : ∀ H', Mono H H' → SqA K n H' c zs) (r'' : RepL K mg H fs zs) (z : xs.length ≤ sizeLine) :
    Wk K mg (ItZ3 K k l n a b c) H (zip3 ds es fs) where
  go := fun i H1 m h => by
    rw [zip3_length] at h
    have h1 : i < xs.length := by rw [r.length]; omega
    have h2 : i < ys.length := by rw [r'.length]; omega
    have h3 : i < zs.length := by rw [r''.length]; omega
    exact ⟨xs, ys, zs, xs[i], ys[i], zs[i], s H1 m, s' H1 m, s'' H1 m, by simp [h1], by simp [h2], by simp [h3]⟩
  stop := fun H1 m => ⟨xs, ys, zs, s H1 m, s' H1 m, s'' H1 m, by rw [zip3_length, r.length]; omega, by rw [zip3_length, r'.length]; omega, by rw [zip3_length, r''.length]; omega, by rw [zip3_length, r.length, r'.length, r''.length]; omega⟩
  yld := fun i H1 x H' m h ⟨T, x, y, z, ev, nT, eH, hx, hy, hz⟩ => by
    obtain ⟨d, e1, e2⟩ := RepL.getv r (hx xs (s H1 m))
    obtain ⟨d', e1', e2'⟩ := RepL.getv r' (hy ys (s' H1 m))
    obtain ⟨d'', e1'', e2''⟩ := RepL.getv r'' (hz zs (s'' H1 m))
    subst eH ev
    have sm := same_upd (o := .tup [x, y, z]) nT
    have mo := m.trans (Mono.of_same sm)
    exact ⟨sm, _, zip3_get e1 e1' e1'', T, _, rfl, SqT.of upd_same, _, _, rfl, Rep.mono mo d e2, _, _, rfl, Rep.mono mo d' e2', _, _, rfl, Rep.mono mo d'' e2'', rfl⟩
  size := by rw [zip3_length]; have := r.length; omega
end

/-! ### the walked things of a derivation -/
section
variable {X : Cx} {F : Fx} {E : XK} {pos p tpos : Pos} {elts : List Expr} {kk : Nat}
/-- values that are kept, then a function of them -/
def evW (ms : List (M Sv)) (f : List D → Option (List D)) : M (List D) := fun S => (evL ms S).bind fun ds S1 => ofOpt (f ds) S1
theorem ai_enum {e : Expr} {m : M Sv} (hg : Gl X "enumerate") (hm : X.mg "enumerate" = none) (ha : AE X F E e m) (hs : starEach [e] X.env = [(false, eval e X.env)] := by rfl) (hs2 : starEach (e :: []) X.env = (false, eval e X.env) :: starEach [] X.env := by rfl) :
    AI X F E (.Tuple elts kk tpos) (.Call (.Name "enumerate" p) [e] [] pos) (wEnum m) := by
  refine PI_imp (pi_enumA hg hm (pa_cons (a_fz ha) pa_nil hs2) hs) fun σ H R ⟨S, st, q⟩ => ⟨S, st, ?_⟩
  simp only [wEnum] at q
  rw [eFz_datum]
  unfold datum
  cases em : m S with
  | no => rw [em] at q; exact q.elim
  | ex k S1 => rw [em] at q; exact q
  | ok r S1 =>
    rw [em] at q
    simp only [Res.bind] at q ⊢
    cases ed : toD r with
    | none => rw [ed] at q; exact q.elim
    | some d =>
      rw [ed] at q
      simp only [Option.bind_some] at q ⊢
      cases es : dSeq d with
      | none => rw [es] at q; exact q.elim
      | some ds =>
        rw [es] at q
        intro v H1 g rv
        obtain ⟨k, a, xs, rfl, s, r⟩ := dSeq_src rv es
        exact ⟨k, a, xs, rfl, s H1 (Mono.refl _), fun z => q _ H1 g (wk_E s r z)⟩
theorem evL_1 (m : M Sv) (S : Sl) : evL [m] S = (datum m S).bind fun p S1 => .ok [p] S1 := by
  simp only [evL]
  unfold datum
  cases m S with
  | no => rfl
  | ex k S1 => rfl
  | ok r S1 => simp only [Res.bind]; cases toD r <;> rfl
theorem evL_c (m : M Sv) (ms : List (M Sv)) (S : Sl) : evL (m :: ms) S = (datum m S).bind fun p S1 => (evL ms S1).bind fun ds S2 => .ok (p :: ds) S2 := by
  simp only [evL]
  unfold datum
  cases m S with
  | no => rfl
  | ex k S1 => rfl
  | ok r S1 => simp only [Res.bind]; cases toD r <;> rfl
theorem evL_2 (m n : M Sv) (S : Sl) : evL [m, n] S = (datum m S).bind fun p S1 => (datum n S1).bind fun q S2 => .ok [p, q] S2 := by
  rw [evL_c]
  cases datum m S with
  | no => rfl
  | ex k S1 => rfl
  | ok r S1 =>
    simp only [Res.bind]
    rw [evL_1]
    cases datum n S1 <;> rfl
theorem evL_3 (m n o : M Sv) (S : Sl) : evL [m, n, o] S = (datum m S).bind fun p S1 => (datum n S1).bind fun q S2 => (datum o S2).bind fun r S3 => .ok [p, q, r] S3 := by
  rw [evL_c]
  cases datum m S with
  | no => rfl
  | ex k S1 => rfl
  | ok r S1 =>
    simp only [Res.bind]
    rw [evL_2]
    cases datum n S1 with
    | no => rfl
    | ex k S2 => rfl
    | ok r2 S2 =>
      simp only [Res.bind]
      cases datum o S2 <;> rfl
theorem ai_zip2 {e e2 : Expr} {m n : M Sv} (hg : Gl X "zip") (hm : X.mg "zip" = none) (ha : AL X F E [e, e2] (evL [m, n]))
    (hs : starEach [e, e2] X.env = (false, eval e X.env) :: starEach [e2] X.env := by rfl) (hpl : (backTo pos (starEach [e2] X.env)).any (·.1) = false := by rfl) :
    AI X F E (.Tuple elts kk tpos) (.Call (.Name "zip" p) [e, e2] [] pos) (wZip2 m n) := by
  refine PI_imp (pi_zip2 hg hm ha hs hpl) fun σ H R ⟨S, st, q⟩ => ⟨S, st, ?_⟩
  unfold wZip2 at q
  rw [evL_2]
  cases e1 : datum m S with
  | no => rw [e1] at q; exact q.elim
  | ex k S1 => rw [e1] at q; exact q
  | ok d1 S1 =>
    rw [e1] at q
    simp only [Res.bind] at q ⊢
    cases e2 : datum n S1 with
    | no => rw [e2] at q; exact q.elim
    | ex k S2 => rw [e2] at q; exact q
    | ok d2 S2 =>
      rw [e2] at q
      simp only at q ⊢
      cases s1 : dSeq d1 with
      | none => rw [s1] at q; exact q.elim
      | some as =>
        cases s2 : dSeq d2 with
        | none => rw [s1, s2] at q; exact q.elim
        | some bs =>
          rw [s1, s2] at q
          intro vs H1 g rv
          obtain ⟨v1, _, rfl, r1, v2, _, rfl, r2, rfl⟩ := rv
          obtain ⟨k, a, xs, rfl, sa, ra⟩ := dSeq_src r1 s1
          obtain ⟨l, b, ys, rfl, sb, rb⟩ := dSeq_src r2 s2
          exact ⟨k, l, a, b, xs, ys, rfl, sa H1 (Mono.refl _), sb H1 (Mono.refl _), fun z _ => q _ H1 g (wk_Z2 sa ra sb rb z)⟩
theorem ai_zip3 {e e2 e3 : Expr} {m n o : M Sv} (hg : Gl X "zip") (hm : X.mg "zip" = none) (ha : AL X F E [e, e2, e3] (evL [m, n, o]))
    (hs : starEach [e, e2, e3] X.env = (false, eval e X.env) :: starEach [e2, e3] X.env := by rfl) (hpl : (backTo pos (starEach [e2, e3] X.env)).any (·.1) = false := by rfl) :
    AI X F E (.Tuple elts kk tpos) (.Call (.Name "zip" p) [e, e2, e3] [] pos) (wZip3 m n o) := by
  refine PI_imp (pi_zip3 hg hm ha hs hpl) fun σ H R ⟨S, st, q⟩ => ⟨S, st, ?_⟩
  unfold wZip3 at q
  rw [evL_3]
  cases e1 : datum m S with
  | no => rw [e1] at q; exact q.elim
  | ex k S1 => rw [e1] at q; exact q
  | ok d1 S1 =>
    rw [e1] at q
    simp only [Res.bind] at q ⊢
    cases e2 : datum n S1 with
    | no => rw [e2] at q; exact q.elim
    | ex k S2 => rw [e2] at q; exact q
    | ok d2 S2 =>
      rw [e2] at q
      simp only at q ⊢
      cases e3 : datum o S2 with
      | no => rw [e3] at q; exact q.elim
      | ex k S3 => rw [e3] at q; exact q
      | ok d3 S3 =>
        rw [e3] at q
        simp only at q ⊢
        cases s1 : dSeq d1 with
        | none => rw [s1] at q; exact q.elim
        | some as =>
          cases s2 : dSeq d2 with
          | none => rw [s1, s2] at q; exact q.elim
          | some bs =>
            cases s3 : dSeq d3 with
            | none => rw [s1, s2, s3] at q; exact q.elim
            | some cs =>
              rw [s1, s2, s3] at q
              intro vs H1 g rv
              obtain ⟨v1, _, rfl, r1, v2, _, rfl, r2, v3, _, rfl, r3, rfl⟩ := rv
              obtain ⟨k, a, xs, rfl, sa, ra⟩ := dSeq_src r1 s1
              obtain ⟨l, b, ys, rfl, sb, rb⟩ := dSeq_src r2 s2
              obtain ⟨u, c, zs, rfl, sc, rc⟩ := dSeq_src r3 s3
              exact ⟨k, l, u, a, b, c, xs, ys, zs, rfl, sa H1 (Mono.refl _), sb H1 (Mono.refl _), sc H1 (Mono.refl _), fun z _ _ => q _ H1 g (wk_Z3 sa ra sb rb sc rc z)⟩
theorem rng_le {a b : Int} (h : rngOk a b = true) : -(2 ^ 62) ≤ a ∧ a < 2 ^ 62 ∧ -(2 ^ 62) ≤ b ∧ b < 2 ^ 62 ∧ (b - a).toNat ≤ sizeLine := by
  have := of_decide_eq_true h
  rw [sizeLine_eq]
  omega
theorem ai_rng1 {tg e : Expr} {m : M Sv} (hg : Gl X "range") (hm : X.mg "range" = none) (ha : AL X F E [e] (evL [m])) (hs : starEach [e] X.env = [(false, eval e X.env)] := by rfl) : AI X F E tg (.Call (.Name "range" p) [e] [] pos) (wRng1 m) := by
  refine PI_imp (pi_range1 hg hm ha hs) fun σ H R ⟨S, st, q⟩ => ⟨S, st, ?_⟩
  unfold wRng1 at q
  rw [evL_1]
  cases e1 : datum m S with
  | no => rw [e1] at q; exact q.elim
  | ex k S1 => rw [e1] at q; exact q
  | ok d1 S1 =>
    rw [e1] at q
    simp only [Res.bind] at q ⊢
    cases d1 with
    | int j =>
      simp only [dRng] at q
      by_cases hr : rngOk 0 j = true
      · rw [if_pos hr] at q
        intro vs H1 g rv
        obtain ⟨v1, _, rfl, r1, rfl⟩ := rv
        cases (show v1 = V.int j from r1)
        obtain ⟨h1, h2, h3, h4, h5⟩ := rng_le hr
        refine ⟨j, rfl, h3, h4, ?_⟩
        rw [Int.sub_zero] at q h5
        exact q _ H1 g (wk_rng 0 _ h5)
      · rw [if_neg hr] at q; exact q.elim
    | _ => exact q.elim
theorem ai_rng2 {tg e e2 : Expr} {m n : M Sv} (hg : Gl X "range") (hm : X.mg "range" = none) (ha : AL X F E [e, e2] (evL [m, n])) (hs : starEach [e, e2] X.env = [(false, eval e X.env), (false, eval e2 X.env)] := by rfl) (hs2 : starEach [e2] X.env = [(false, eval e2 X.env)] := by rfl) :
    AI X F E tg (.Call (.Name "range" p) [e, e2] [] pos) (wRng2 m n) := by
  refine PI_imp (pi_range2 hg hm ha hs hs2) fun σ H R ⟨S, st, q⟩ => ⟨S, st, ?_⟩
  unfold wRng2 at q
  rw [evL_2]
  cases e1 : datum m S with
  | no => rw [e1] at q; exact q.elim
  | ex k S1 => rw [e1] at q; exact q
  | ok d1 S1 =>
    rw [e1] at q
    simp only [Res.bind] at q ⊢
    cases e2 : datum n S1 with
    | no => rw [e2] at q; exact q.elim
    | ex k S2 => rw [e2] at q; exact q
    | ok d2 S2 =>
      rw [e2] at q
      simp only at q ⊢
      cases d1 with
      | int i =>
        cases d2 with
        | int j =>
          simp only [dRng] at q
          by_cases hr : rngOk i j = true
          · rw [if_pos hr] at q
            intro vs H1 g rv
            obtain ⟨v1, _, rfl, r1, v2, _, rfl, r2, rfl⟩ := rv
            cases (show v1 = V.int i from r1)
            cases (show v2 = V.int j from r2)
            obtain ⟨h1, h2, h3, h4, h5⟩ := rng_le hr
            exact ⟨i, j, rfl, ⟨h1, h2, h3, h4⟩, q _ H1 g (wk_rng i _ h5)⟩
          · rw [if_neg hr] at q; exact q.elim
        | _ => exact q.elim
      | _ => exact q.elim
end

/-! ### a name's list, walked without a lock -/
mutual
theorem sameD_eq : ∀ {a b : D}, sameD a b = true → a = b
  | .none, b, h => by cases b <;> first | rfl | cases h
  | .bool x, b, h => by
    cases b with
    | bool y => rw [eq_of_beq (show (x == y) = true from h)]
    | _ => cases h
  | .int x, b, h => by
    cases b with
    | int y => rw [of_decide_eq_true (show decide (x = y) = true from h)]
    | _ => cases h
  | .str x, b, h => by
    cases b with
    | str y => rw [of_decide_eq_true (show decide (x = y) = true from h)]
    | _ => cases h
  | .list x, b, h => by
    cases b with
    | list y => rw [sameL_eq (show sameL x y = true from h)]
    | _ => cases h
  | .tuple x, b, h => by
    cases b with
    | tuple y => rw [sameL_eq (show sameL x y = true from h)]
    | _ => cases h
  | .dict x, b, h => by
    cases b with
    | dict y => rw [sameK_eq (show sameK x y = true from h)]
    | _ => cases h
theorem sameL_eq : ∀ {a b : List D}, sameL a b = true → a = b
  | [], [], _ => rfl
  | [], _ :: _, h => by cases h
  | _ :: _, [], h => by cases h
  | a :: as, b :: bs, h => by
    have h : (sameD a b && sameL as bs) = true := h
    rw [Bool.and_eq_true] at h
    rw [sameD_eq h.1, sameL_eq h.2]
theorem sameK_eq : ∀ {a b : List (D × D)}, sameK a b = true → a = b
  | [], [], _ => rfl
  | [], _ :: _, h => by cases h
  | _ :: _, [], h => by cases h
  | (a, a') :: as, (b, b') :: bs, h => by
    have h : (sameD a b && sameD a' b' && sameK as bs) = true := h
    rw [Bool.and_eq_true, Bool.and_eq_true] at h
    rw [sameD_eq h.1.1, sameD_eq h.1.2, sameK_eq h.2]
end
omit [LamTbl] in
mutual
theorem sameD_refl : ∀ (a : D), sameD a a = true
  | .none => rfl
  | .bool x => by simp [sameD]
  | .int x => by simp [sameD]
  | .str x => by simp [sameD]
  | .list x => by simp [sameD, sameL_refl x]
  | .tuple x => by simp [sameD, sameL_refl x]
  | .dict x => by simp [sameD, sameK_refl x]
theorem sameL_refl : ∀ (a : List D), sameL a a = true
  | [] => rfl
  | a :: as => by simp [sameL, sameD_refl a, sameL_refl as]
theorem sameK_refl : ∀ (a : List (D × D)), sameK a a = true
  | [] => rfl
  | (a, b) :: as => by simp [sameK, sameD_refl a, sameD_refl b, sameK_refl as]
end
theorem sameO_eq {a b : Option D} {d : D} (h : sameO a b = true) (e : a = some d) : b = some d := by
  subst e
  cases b with
  | none => cases h
  | some c => rw [sameD_eq (show sameD d c = true from h)]
section
variable {X : Cx} {F : Fx} {E : XK} {tg iter : Expr} {w : M (List D)}
theorem AI.aj (h : AI X F E tg iter w) : AJ X F E tg iter w ckT [] := by
  refine PI_imp h fun σ H R ⟨S, st, q⟩ => ⟨S, st, ?_⟩
  cases ew : w S with
  | no => rw [ew] at q; exact q
  | ex k S1 => rw [ew] at q; exact q
  | ok ds S1 =>
    rw [ew] at q
    exact fun J H' g wk => q J H' g (fun _ _ H2 _ _ m _ => wk.at m) wk.size
end
/-- a name's list as it is read -/
theorem rd_src {K : PySem.W.Frag} {mg : Str → Option Value} {F : Fx} {σ : St} {H : Hp} {S : Sl} {i : Nat} {d : D} {ds : List D} {v : V} (st : RSt K mg F σ H S) (e : rd S i = some d) (es : dSeq d = some ds) (ev : σ[i]? = some (some v)) :
    ∃ a xs, v = .ref a ∧ SqA K (match d with | .list _ => true | _ => false) H a xs ∧ RepL K mg H ds xs := by
  obtain ⟨v', ev', rw'⟩ := RSt.rd st e
  rw [ev] at ev'
  cases ev'
  cases d with
  | list es =>
    cases es
    obtain ⟨a, xs, ev, s, r⟩ := rw'.list
    exact ⟨a, xs, ev, s.sq, r⟩
  | tuple es =>
    cases es
    obtain ⟨a, xs, ev, s, r⟩ := rw'.tuple
    exact ⟨a, xs, ev, s, r⟩
  | none => cases es
  | bool _ => cases es
  | int _ => cases es
  | str _ => cases es
  | dict _ => cases es
section
variable {X : Cx} {F : Fx} {E : XK} {tg iter : Expr} {pos p tpos : Pos} {elts : List Expr} {kk i : Nat} {x : Str}
/-- an iterator over a name's list or tuple, of the generic kind -/
theorem aj_of {J : Bool → Addr → It} {f : List D → List D} (hf : ∀ ds, (f ds).length = ds.length)
    (hw : ∀ {H : Hp} {k : Bool} {a : Addr} {xs : List V} {ds : List D}, SqA X.K k H a xs → RepL X.K X.mg H ds xs → WkAt X.K X.mg (J k a) (f ds) H) :
    ∀ σ H R, wOfN X.K X.mg F E (wN i f) (ckN i) [i] σ H R → ∃ v, σ[i]? = some (some v) ∧ ∃ k a xs, v = .ref a ∧ SqA X.K k H a xs ∧ (xs.length ≤ sizeLine → R (J k a) H) := by
  intro σ H R ⟨S, st, q⟩
  unfold wN at q
  have key : ∀ d ds, rd S i = some d → dSeq d = some ds → (∀ J H', Go X.K X.mg F σ S H S H' → (∀ σ2 S2 H2, (∀ j ∈ [i], σ2[j]? = σ[j]?) → RSt X.K X.mg F σ2 H2 S2 → Mono H' H2 → ckN i S S2 = true → WkAt X.K X.mg J (f ds) H2) → (f ds).length ≤ sizeLine → R J H') →
      ∃ v, σ[i]? = some (some v) ∧ ∃ k a xs, v = .ref a ∧ SqA X.K k H a xs ∧ (xs.length ≤ sizeLine → R (J k a) H) := by
    intro d ds e es q
    obtain ⟨v, ev, _⟩ := RSt.rd st e
    obtain ⟨a, xs, rfl, sa, ra⟩ := rd_src st e es ev
    refine ⟨_, ev, _, a, xs, rfl, sa, fun z => q (J _ a) H (Go.refl st) (fun σ2 S2 H2 hs st2 mo hck => ?_) (by rw [hf, ← ra.length]; exact z)⟩
    have e2 : rd S2 i = some d := sameO_eq hck e
    obtain ⟨a2, xs2, ea, sa2, ra2⟩ := rd_src st2 e2 es ((hs i (by simp)).trans ev)
    cases ea
    exact hw sa2 ra2
  cases e : rd S i with
  | none => rw [e] at q; exact q.elim
  | some d =>
    rw [e] at q
    cases d with
    | list ds => exact key _ ds e rfl q
    | tuple ds => exact key _ ds e rfl q
    | none => exact q.elim
    | bool _ => exact q.elim
    | int _ => exact q.elim
    | str _ => exact q.elim
    | dict _ => exact q.elim
/-- a plain walk -/
def ItS (K : PySem.W.Frag) (k : Bool) (a : Addr) : It := if k then Itl K a else Itt K a
theorem wkat_S {K : PySem.W.Frag} {mg : Str → Option Value} {H : Hp} {k : Bool} {a : Addr} {xs : List V} {ds : List D} (s : SqA K k H a xs) (r : RepL K mg H ds xs) : WkAt K mg (ItS K k a) (id ds) H := by
  cases k with
  | true =>
    refine ⟨fun i h => ?_, ⟨xs, s, by rw [r.length]; exact Nat.le_refl _⟩, fun i x H' h ⟨e, y⟩ => ?_⟩
    · have h' : i < xs.length := by rw [r.length]; exact h
      exact ⟨xs, xs[i], s, by simp [h']⟩
    · subst e
      obtain ⟨d, e1, e2⟩ := RepL.getv r (y xs s)
      exact ⟨Same.refl _, d, e1, e2⟩
  | false =>
    refine ⟨fun i h => ?_, ⟨xs, s, by rw [r.length]; exact Nat.le_refl _⟩, fun i x H' h ⟨e, y⟩ => ?_⟩
    · have h' : i < xs.length := by rw [r.length]; exact h
      exact ⟨xs, xs[i], s, by simp [h']⟩
    · subst e
      obtain ⟨d, e1, e2⟩ := RepL.getv r (y xs s)
      exact ⟨Same.refl _, d, e1, e2⟩
theorem wkat_E {K : PySem.W.Frag} {mg : Str → Option Value} {H : Hp} {k : Bool} {a : Addr} {xs : List V} {ds : List D} (s : SqA K k H a xs) (r : RepL K mg H ds xs) : WkAt K mg (ItE K k a) (enumF 0 ds) H := by
  refine ⟨fun i h => ?_, ⟨xs, s, by rw [enumF_length, r.length]⟩, fun i x H' h ⟨T, y, ev, nT, eH, hy⟩ => ?_⟩
  · rw [enumF_length] at h
    have h' : i < xs.length := by rw [r.length]; exact h
    exact ⟨xs, xs[i], s, by simp [h']⟩
  · obtain ⟨d, e1, e2⟩ := RepL.getv r (hy xs s)
    subst eH ev
    have sm := same_upd (o := .tup [.int (i : Nat), y]) nT
    refine ⟨sm, _, enumF_get e1, T, _, rfl, SqT.of upd_same, _, _, rfl, ?_, _, _, rfl, Rep.mono (Mono.of_same sm) d e2, rfl⟩
    rw [Nat.zero_add]
    rfl
theorem aj_n (hN : X.N[i]? = some x) (hv : Vis X.env.scope x) (hd : (x == ("__debug__" : Str)) = false := by decide) (hcd : (x == ("__classdict__" : Str)) = false := by decide) : AJ X F E tg (.Name x p) (wN i id) (ckN i) [i] := by
  refine PI_imp (pi_seq (pe_var hN hv hd hcd)) fun σ H R q => ?_
  obtain ⟨v, ev, k, a, xs, rfl, sa, q⟩ := aj_of (J := ItS X.K) (f := id) (fun _ => rfl) (fun s r => wkat_S s r) σ H R q
  refine ⟨_, ev, a, xs, rfl, ?_⟩
  cases k with
  | true => exact .inl ⟨sa, q⟩
  | false => exact .inr ⟨sa, q⟩
theorem aj_ne (hg : Gl X "enumerate") (hm : X.mg "enumerate" = none) (hN : X.N[i]? = some x) (hv : Vis X.env.scope x) (hd : (x == ("__debug__" : Str)) = false := by decide) (hcd : (x == ("__classdict__" : Str)) = false := by decide) (hs : ∀ q, starEach [.Name x q] X.env = [(false, eval (.Name x q) X.env)] := by intro _; rfl) (hs2 : ∀ q, starEach (.Name x q :: []) X.env = (false, eval (.Name x q) X.env) :: starEach [] X.env := by intro _; rfl) {p2 : Pos} :
    AJ X F E (.Tuple elts kk tpos) (.Call (.Name "enumerate" p) [.Name x p2] [] pos) (wN i (enumF 0)) (ckN i) [i] := by
  refine PI_imp (pi_enumA hg hm (pa_cons (pe_var hN hv hd hcd) pa_nil (hs2 p2)) (hs p2)) fun σ H R q => ?_
  obtain ⟨v, ev, k, a, xs, rfl, sa, q⟩ := aj_of (J := ItE X.K) (f := enumF 0) (fun ds => enumF_length 0 ds) (fun s r => wkat_E s r) σ H R q
  exact ⟨_, ev, k, a, xs, rfl, sa, q⟩
end

/-! ### for -/
section
variable {X : Cx} {F : Fx} {E : XK} {pos : Pos} {tg iter : Expr} {body : List Stmt} {w : M (List D)} {p : Pat} {b : M Fl}
theorem as_for (hp : PassesOwn (model X.prog X.w) X.A X.env X.xe) (hc : X.calm = true) (hi : AI X F E tg iter w) (hg : AG X F tg p) (hb : ASs X F E body b)
    (hs : ∀ x, foldedSetIterable iter X.env x = pure x := by intro _; rfl) : AS X F E (.For tg iter body [] pos) (sFor w p b) := by
  refine PS_imp (ps_for hp hc hi hg hb hs) fun D σ H ⟨S, st, q⟩ => ⟨S, st, ?_⟩
  have q : OutS X.K X.mg F E D H ((w S).bind fun ds S1 => forLoop p b ds S1) := q
  cases ew : w S with
  | no => rw [ew] at q; exact q.elim
  | ex k S1 => rw [ew] at q; exact fun cls d H' r e => q cls d σ H' r e
  | ok ds S1 =>
    rw [ew] at q
    intro J H1 g wk
    have m1 := g.mono st
    have q : OutS X.K X.mg F E D H1 (forLoop p b ds S1) := OutS.back q m1
    refine ⟨fun i m σ' H' => m = ds.length - i ∧ i ≤ ds.length ∧ Mono H1 H' ∧ ∃ S', RSt X.K X.mg F σ' H' S' ∧ OutS X.K X.mg F E D H' (forLoop p b (ds.drop i) S'), ⟨_, rfl, Nat.zero_le _, Mono.refl _, S1, g.rst, q⟩, ?_⟩
    rintro i m σ' H' ⟨rfl, hle, mo, S', st', q'⟩
    by_cases hlt : i < ds.length
    case neg =>
      have e : i = ds.length := by omega
      subst e
      rw [List.drop_length] at q'
      exact .inl ⟨wk.stop H' mo, q' σ' H' st' (Mono.refl _)⟩
    refine .inr ⟨wk.go i H' mo hlt, fun σ2 H2 => Mono H1 H2 ∧ ∃ S2, RSt X.K X.mg F σ2 H2 S2 ∧ OutS X.K X.mg F E D H2 (forLoop p b (ds.drop (i + 1)) S2), fun σ2 H2 ⟨m2, S2, st2, q2⟩ => ⟨_, by omega, rfl, hlt, m2, S2, st2, q2⟩, fun x H3 y => ?_⟩
    obtain ⟨sm, d, ed, rx⟩ := wk.yld i H' x H3 mo hlt y
    have hd : ds.drop i = d :: ds.drop (i + 1) := by
      rw [List.drop_eq_getElem_cons hlt]
      rw [List.getElem?_eq_getElem hlt] at ed
      rw [Option.some.inj ed]
    rw [hd] at q'
    simp only [forLoop] at q'
    cases ep : p.put d S' with
    | none => rw [ep] at q'; exact q'.elim
    | some S3 =>
      rw [ep] at q'
      simp only at q'
      have st3 := st'.grow sm
      refine ⟨S', d, S3, st3, rx, ep, fun σ4 u => ?_⟩
      refine ⟨S3, u.rst, ?_⟩
      have m3 : Mono H1 H3 := mo.trans (Mono.of_same sm)
      have q' := OutS.back q' (Mono.of_same sm)
      show OutS X.K X.mg F E _ H3 (b S3)
      cases eb : b S3 with
      | no => rw [eb] at q'; exact q'
      | ex k S4 => rw [eb] at q'; exact q'
      | ok f S4 =>
        rw [eb] at q'
        cases f with
        | nx => exact fun σ5 H5 r5 m5 => ⟨m3.trans m5, S4, r5, OutS.back q' m5⟩
        | ct => exact fun σ5 H5 r5 m5 => ⟨m3.trans m5, S4, r5, OutS.back q' m5⟩
        | bk => exact q'
        | rt v => exact q'
/-! ### while -/
theorem as_while {c : Expr} {mc : M Bool} {n : Nat} (hp : PassesOwn (model X.prog X.w) X.A X.env X.xe) (h : AT X F E c mc) (hb : ASs X F E body b) : AS X F E (.While c body [] pos) (sWhile n mc b) := by
  refine PS_imp (ps_while hp h hb) fun D σ H ⟨S, st, q⟩ => ?_
  have q : OutS X.K X.mg F E D H (whLoop mc b n S) := q
  refine ⟨fun m σ' H' => ∃ S', RSt X.K X.mg F σ' H' S' ∧ OutS X.K X.mg F E D H' (whLoop mc b m S'), ⟨n, S, st, q⟩, ?_⟩
  rintro m σ' H' ⟨S', st', q'⟩
  cases m with
  | zero => exact q'.elim
  | succ m =>
    refine ⟨S', st', ?_⟩
    simp only [whLoop] at q'
    cases em : mc S' with
    | no => rw [em] at q'; exact q'.elim
    | ex k S1 => rw [em] at q'; exact fun cls d H1 r e => q' cls d σ' H1 r e
    | ok x S1 =>
      rw [em] at q'
      simp only [Res.bind] at q'
      intro H1 g
      have q' := OutS.back q' (g.mono st')
      cases x with
      | false =>
        simp only [Bool.false_eq_true, if_false] at q' ⊢
        exact q' σ' H1 g.rst (Mono.refl _)
      | true =>
        simp only [if_true] at q' ⊢
        refine ⟨fun σ2 H2 => ∃ S2, RSt X.K X.mg F σ2 H2 S2 ∧ OutS X.K X.mg F E D H2 (whLoop mc b m S2), fun σ2 H2 z => ⟨m, Nat.lt_succ_self _, z⟩, S1, g.rst, ?_⟩
        show OutS X.K X.mg F E _ H1 (b S1)
        cases eb : b S1 with
        | no => rw [eb] at q'; exact q'
        | ex k S4 => rw [eb] at q'; exact q'
        | ok f S4 =>
          rw [eb] at q'
          cases f with
          | nx => exact fun σ5 H5 r5 m5 => ⟨S4, r5, OutS.back q' m5⟩
          | ct => exact fun σ5 H5 r5 m5 => ⟨S4, r5, OutS.back q' m5⟩
          | bk => exact q'
          | rt v => exact q'
end
end Rc

/-! Rc: list comprehensions. -/
namespace Rc
open PySem PySem.Spec PyProof.Rows L2
variable [LamTbl]

theorem wipe_get {σ : St} {j : Nat} : ∀ {vs : List Nat}, j ∉ vs → (L2.wipe σ vs)[j]? = σ[j]?
  | [], _ => rfl
  | v :: vs, h => by
    unfold L2.wipe
    rw [List.getElem?_set_ne (fun z => h (by rw [z]; simp)), wipe_get fun z => h (List.mem_cons_of_mem _ z)]
theorem wipe_in {σ : St} {j : Nat} : ∀ {vs : List Nat}, j ∈ vs → j < σ.length → (L2.wipe σ vs)[j]? = some none
  | v :: vs, h, hl => by
    unfold L2.wipe
    by_cases e : v = j
    · subst e
      rw [List.getElem?_set_self (by rw [L2.wipe_length]; exact hl)]
    · rw [List.getElem?_set_ne e]
      exact wipe_in ((List.mem_cons.mp h).resolve_left fun z => e z.symm) hl
theorem wipe_eq {σ σ' : St} {vs : List Nat} (hl : σ'.length = σ.length) (h : ∀ j, j ∉ vs → σ'[j]? = σ[j]?) : L2.wipe σ' vs = L2.wipe σ vs := by
  apply List.ext_getElem?
  intro j
  by_cases hj : j ∈ vs
  · by_cases hlt : j < σ.length
    · rw [wipe_in hj hlt, wipe_in hj (by omega)]
    · rw [List.getElem?_eq_none (by rw [L2.wipe_length]; omega), List.getElem?_eq_none (by rw [L2.wipe_length]; omega)]
  · rw [wipe_get hj, wipe_get hj, h j hj]
omit [LamTbl] in
theorem wipeS_len (S : Sl) : ∀ vs : List Nat, (wipeS vs S).length = S.length
  | [] => rfl
  | v :: vs => by
    show ((wipeS vs S).set v .un).length = _
    rw [List.length_set, wipeS_len S vs]
omit [LamTbl] in
theorem wipeS_get {S : Sl} {j : Nat} : ∀ {vs : List Nat}, j ∉ vs → (wipeS vs S)[j]? = S[j]?
  | [], _ => rfl
  | v :: vs, h => by
    show ((wipeS vs S).set v .un)[j]? = _
    rw [List.getElem?_set_ne (fun z => h (by rw [z]; simp)), wipeS_get fun z => h (List.mem_cons_of_mem _ z)]
omit [LamTbl] in
theorem wipeS_in {S : Sl} {j : Nat} {s : Sv} : ∀ {vs : List Nat}, j ∈ vs → (wipeS vs S)[j]? = some s → s = .un
  | v :: vs, h, e => by
    have e : ((wipeS vs S).set v .un)[j]? = some s := e
    by_cases q : v = j
    · subst q
      by_cases hl : v < (wipeS vs S).length
      · rw [List.getElem?_set_self hl] at e; exact (Option.some.inj e).symm
      · rw [List.getElem?_eq_none (by rw [List.length_set]; omega)] at e; cases e
    · rw [List.getElem?_set_ne q] at e
      exact wipeS_in ((List.mem_cons.mp h).resolve_left fun z => q z.symm) e
omit [LamTbl] in
theorem wipeS_of {S T : Sl} {vs : List Nat} (h : ∀ j, j ∉ vs → T[j]? = S[j]?) : T.length = S.length → wipeS vs T = wipeS vs S := fun hl => by
  apply List.ext_getElem?
  intro j
  by_cases hj : j ∈ vs
  · by_cases hlt : j < S.length
    · have h1 : j < (wipeS vs S).length := by rw [wipeS_len]; exact hlt
      have h2 : j < (wipeS vs T).length := by rw [wipeS_len]; omega
      rw [List.getElem?_eq_getElem h1, List.getElem?_eq_getElem h2, wipeS_in (S := S) hj (List.getElem?_eq_getElem h1), wipeS_in (S := T) hj (List.getElem?_eq_getElem h2)]
    · rw [List.getElem?_eq_none (by rw [wipeS_len]; omega), List.getElem?_eq_none (by rw [wipeS_len]; omega)]
  · rw [wipeS_get hj, wipeS_get hj, h j hj]
omit [LamTbl] in
theorem backS_len (S1 S : Sl) : ∀ vs : List Nat, (backS vs S1 S).length = S.length
  | [] => rfl
  | v :: vs => by
    show ((backS vs S1 S).set v _).length = _
    rw [List.length_set, backS_len S1 S vs]
omit [LamTbl] in
theorem backS_get {S1 S : Sl} {j : Nat} : ∀ {vs : List Nat}, j ∉ vs → (backS vs S1 S)[j]? = S[j]?
  | [], _ => rfl
  | v :: vs, h => by
    show ((backS vs S1 S).set v _)[j]? = _
    rw [List.getElem?_set_ne (fun z => h (by rw [z]; simp)), backS_get fun z => h (List.mem_cons_of_mem _ z)]
omit [LamTbl] in
theorem backS_in {S1 S : Sl} {j : Nat} {s : Sv} (hl : S1.length = S.length) : ∀ {vs : List Nat}, j ∈ vs → (backS vs S1 S)[j]? = some s → S1[j]? = some s
  | v :: vs, h, e => by
    have e : ((backS vs S1 S).set v (S1.getD v .un))[j]? = some s := e
    by_cases q : v = j
    · subst q
      by_cases hv : v < (backS vs S1 S).length
      · rw [List.getElem?_set_self hv] at e
        rw [backS_len] at hv
        rw [← Option.some.inj e, List.getD_eq_getElem?_getD, List.getElem?_eq_getElem (by omega)]
        rfl
      · rw [List.getElem?_eq_none (by rw [List.length_set]; omega)] at e; cases e
    · rw [List.getElem?_set_ne q] at e
      exact backS_in hl ((List.mem_cons.mp h).resolve_left fun z => q z.symm) e

mutual
theorem put_mut : ∀ {p : Pat} {d : D} {S S' : Sl} {j : Nat} {s : Sv}, p.put d S = some S' → S'[j]? = some s → isMut s = true → S[j]? = some s ∧ j ∉ p.sl
  | .n i, d, S, S', j, s, e, h, m => by
    simp only [Pat.put, Option.some.injEq] at e
    subst e
    by_cases q : i = j
    · subst q
      by_cases hv : i < S.length
      · rw [List.getElem?_set_self hv] at h
        rw [← Option.some.inj h] at m
        cases m
      · rw [List.getElem?_eq_none (by rw [List.length_set]; omega)] at h; cases h
    · rw [List.getElem?_set_ne q] at h
      exact ⟨h, by simp only [Pat.sl, List.mem_singleton]; exact fun z => q z.symm⟩
  | .t ps, .tuple ds, S, S', j, s, e, h, m => puts_mut (ps := ps) (ds := ds) e h m
  | .t ps, .list ds, S, S', j, s, e, h, m => puts_mut (ps := ps) (ds := ds) e h m
  | .t _, .none, _, _, _, _, e, _, _ => by simp [Pat.put] at e
  | .t _, .bool _, _, _, _, _, e, _, _ => by simp [Pat.put] at e
  | .t _, .int _, _, _, _, _, e, _, _ => by simp [Pat.put] at e
  | .t _, .str _, _, _, _, _, e, _, _ => by simp [Pat.put] at e
  | .t _, .dict _, _, _, _, _, e, _, _ => by simp [Pat.put] at e
theorem puts_mut : ∀ {ps : List Pat} {ds : List D} {S S' : Sl} {j : Nat} {s : Sv}, Pat.puts ps ds S = some S' → S'[j]? = some s → isMut s = true → S[j]? = some s ∧ j ∉ Pat.sls ps
  | [], [], S, S', j, s, e, h, m => by
    simp only [Pat.puts, Option.some.injEq] at e
    subst e
    exact ⟨h, by simp [Pat.sls]⟩
  | [], _ :: _, _, _, _, _, e, _, _ => by simp [Pat.puts] at e
  | _ :: _, [], _, _, _, _, e, _, _ => by simp [Pat.puts] at e
  | p :: ps, d :: ds, S, S', j, s, e, h, m => by
    cases ep : p.put d S with
    | none => simp [Pat.puts, ep] at e
    | some S1 =>
      simp only [Pat.puts, ep, Option.bind_some] at e
      obtain ⟨h1, n1⟩ := puts_mut e h m
      obtain ⟨h2, n2⟩ := put_mut ep h1 m
      exact ⟨h2, by simp only [Pat.sls, List.mem_append, not_or]; exact ⟨n2, n1⟩⟩
end

section
variable {K : PySem.W.Frag} {mg : Str → Option Value} {F : Fx} {E : XK} {σ σ2 : St} {S S1 S2 : Sl} {H H1 H2 : Hp} {vs : List Nat}
theorem owns_wipe {a : Addr} (h : Owns (L2.wipe σ vs) (wipeS vs S) a) : ∃ i s, i ∉ vs ∧ S[i]? = some s ∧ isMut s = true ∧ σ[i]? = some (some (.ref a)) := by
  obtain ⟨i, s, e, m, q⟩ := h
  have hi : i ∉ vs := fun z => by
    rw [wipeS_in z e] at m
    cases m
  exact ⟨i, s, hi, by rw [← wipeS_get hi]; exact e, m, by rw [← wipe_get hi]; exact q⟩
theorem owns_wipe' {a : Addr} {i : Nat} {s : Sv} (hi : i ∉ vs) (e : S[i]? = some s) (m : isMut s = true) (q : σ[i]? = some (some (.ref a))) : Owns (L2.wipe σ vs) (wipeS vs S) a :=
  ⟨i, s, by rw [wipeS_get hi]; exact e, m, by rw [wipe_get hi]; exact q⟩
theorem owns_of_wipe {a : Addr} (h : Owns (L2.wipe σ vs) (wipeS vs S) a) : Owns σ S a := by
  obtain ⟨i, s, _, e, m, q⟩ := owns_wipe h
  exact ⟨i, s, e, m, q⟩
theorem RSt.wipe (st : RSt K mg F σ H S) (hb : ∀ i ∈ vs, F.brw i = none) : RSt K mg F (L2.wipe σ vs) H (wipeS vs S) where
  len := by rw [wipeS_len, L2.wipe_length]; exact st.len
  at_ := fun i s e => by
    by_cases hi : i ∈ vs
    · rw [wipeS_in hi e]; exact trivial
    · rw [wipeS_get hi] at e
      rw [wipe_get hi]
      exact st.at_ i s e
  inj := fun i j s t a e1 e2 m1 m2 q1 q2 => by
    have hi : i ∉ vs := fun z => by rw [wipeS_in z e1] at m1; cases m1
    have hj : j ∉ vs := fun z => by rw [wipeS_in z e2] at m2; cases m2
    rw [wipeS_get hi] at e1
    rw [wipeS_get hj] at e2
    rw [wipe_get hi] at q1
    rw [wipe_get hj] at q2
    exact st.inj i j s t a e1 e2 m1 m2 q1 q2
  ownd := fun i s a e m q => by
    have hi : i ∉ vs := fun z => by rw [wipeS_in z e] at m; cases m
    rw [wipeS_get hi] at e
    rw [wipe_get hi] at q
    exact st.ownd i s a e m q
  lent := fun i a e => by
    have hi : i ∉ vs := fun z => by rw [hb i z] at e; cases e
    obtain ⟨h1, h2, ds, h3⟩ := st.lent i a e
    rw [wipe_get hi, wipeS_get hi]
    exact ⟨h1, h2, ds, h3⟩
  frame := st.frame
  dom := st.dom
  mono := st.mono
  tabs := st.tabs
/-- behind a comprehension -/
theorem RSt.back (st : RSt K mg F σ H1 S1) (st2 : RSt K mg F (L2.wipe σ vs) H (wipeS vs S2)) (hb : ∀ i ∈ vs, F.brw i = none) (k : Keep (L2.wipe σ vs) (wipeS vs S1) H1 H) (sb : sub (L2.wipe σ vs) (wipeS vs S2) (wipeS vs S1)) (dm : ∀ a, H1 a ≠ none → H a ≠ none) :
    Go K mg F σ S1 H1 (backS vs S1 S2) H := by
  have hl : S1.length = S2.length := by
    have a := st.len
    have b := st2.len
    rw [wipeS_len, L2.wipe_length] at b
    omega
  have mo : Mono H1 H := (st.wipe hb).keep_mono k
  -- a list of an own slot is nobody else's
  have nw : ∀ i s a, i ∈ vs → S1[i]? = some s → isMut s = true → σ[i]? = some (some (.ref a)) → ¬ Owns (L2.wipe σ vs) (wipeS vs S1) a := fun i s a hi e m q z => by
    obtain ⟨j, t, hj, e', m', q'⟩ := owns_wipe z
    exact hj (st.inj i j s t a e e' m m' q q' ▸ hi)
  have cs : ∀ {j s}, (backS vs S1 S2)[j]? = some s → (j ∈ vs ∧ S1[j]? = some s) ∨ (j ∉ vs ∧ S2[j]? = some s) := fun {j s} e => by
    by_cases hj : j ∈ vs
    · exact .inl ⟨hj, backS_in hl hj e⟩
    · exact .inr ⟨hj, by rw [← backS_get hj]; exact e⟩
  refine ⟨⟨by rw [backS_len, ← hl]; exact st.len, fun j s e => ?_, fun i j s t a e1 e2 m1 m2 q1 q2 => ?_, fun j s a e m q => ?_, fun j a e => ?_, st2.frame, st2.dom, st2.mono, st2.tabs⟩, ⟨fun a o e t n => k.kp a o e t fun z => n (owns_of_wipe z), k.tb⟩, fun a ⟨j, s, e, m, q⟩ => ?_, dm⟩
  · rcases cs e with ⟨hj, e⟩ | ⟨hj, e⟩
    · refine (st.at_ j s e).mono mo fun a m q => ?_
      have z := st.at_ j s e
      cases h : H1 a with
      | none => exact absurd h (st.own_ne ⟨j, s, e, m, q⟩)
      | some u => exact k.kp a u h (st.own_nT ⟨j, s, e, m, q⟩ h) (nw j s a hj e m q)
    · have z := st2.at_ j s (by rw [wipeS_get hj]; exact e)
      rw [wipe_get hj] at z
      exact z
  · rcases cs e1 with ⟨hi, e1⟩ | ⟨hi, e1⟩
    · rcases cs e2 with ⟨hj, e2⟩ | ⟨hj, e2⟩
      · exact st.inj i j s t a e1 e2 m1 m2 q1 q2
      · exact absurd (sb a (owns_wipe' hj e2 m2 q2)) (nw i s a hi e1 m1 q1)
    · rcases cs e2 with ⟨hj, e2⟩ | ⟨hj, e2⟩
      · exact absurd (sb a (owns_wipe' hi e1 m1 q1)) (nw j t a hj e2 m2 q2)
      · exact st2.inj i j s t a (by rw [wipeS_get hi]; exact e1) (by rw [wipeS_get hj]; exact e2) m1 m2 (by rw [wipe_get hi]; exact q1) (by rw [wipe_get hj]; exact q2)
  · rcases cs e with ⟨hj, e⟩ | ⟨hj, e⟩
    · exact st.ownd j s a e m q
    · exact st2.ownd j s a (by rw [wipeS_get hj]; exact e) m (by rw [wipe_get hj]; exact q)
  · have hj : j ∉ vs := fun z => by rw [hb j z] at e; cases e
    obtain ⟨h1, h2, ds, h3⟩ := st2.lent j a e
    rw [wipe_get hj] at h1
    rw [wipeS_get hj] at h3
    rw [backS_get hj]
    exact ⟨h1, h2, ds, h3⟩
  · rcases cs e with ⟨hj, e⟩ | ⟨hj, e⟩
    · exact ⟨j, s, e, m, q⟩
    · exact owns_of_wipe (sb a (owns_wipe' hj e m q))
/-- a list that no slot has is written -/
theorem RSt.updFree {a : Addr} {acc ys : List V} (st : RSt K mg F σ H S) (n : ¬ Owns σ S a) (n0 : F.H0 a = none) (e : H a = some (.lst acc)) : RSt K mg F σ (upd H a (.lst ys)) S ∧ Mono H (upd H a (.lst ys)) := by
  have mo : Mono H (upd H a (.lst ys)) := by
    refine ⟨fun b zs h => ?_, fun b u w h => ?_, fun b φ h => ?_⟩ <;>
      (rw [upd_ne]; exact h; rintro rfl; rw [e] at h; cases h)
  refine ⟨⟨st.len, fun j s q => ?_, st.inj, st.ownd, st.lent, fun b u q t m => ?_, fun b h => ?_, st.mono.trans mo, st.tabs.trans (TbM.upd e nT.lst lst_ne)⟩, mo⟩
  · refine (st.at_ j s q).mono mo fun b m e1 => ?_
    rw [upd_ne]
    rintro rfl
    exact n ⟨j, s, q, m, e1⟩
  · rw [upd_ne]
    · exact st.frame b u q t m
    · rintro rfl
      rw [n0] at q; cases q
  · by_cases hb : b = a
    · rw [hb, upd_same]; exact fun z => by cases z
    · rw [upd_ne hb]; exact st.dom b h
end
def E0 : XK := fun _ _ _ => False

section
variable {X : Cx} {F : Fx} {E : XK} {pos : Pos} {tg iter elt : Expr} {ifs : List Expr} {w : M (List D)} {p : Pat} {c : M Bool} {e : M Sv} {scope : Scope} {own : List (Str × Nat)} {ck : Ck} {sl : List Nat}
theorem lc_imp {K : PySem.W.Frag} {mg : Str → Option Value} {vs sl : List Nat} {ck : Ck} (hb : ∀ i ∈ vs, F.brw i = none) (hp : ∀ i ∈ p.sl, i ∈ vs) (hsl : ∀ i ∈ sl, i ∉ vs) :
    ∀ σ H Q, tOf K mg F E (eLc vs ck w p c e) σ H Q → tLc (wOfN K mg F E w ck sl) (gOf K mg F p) (tOfB K mg F E0 c) (tOf K mg F E0 (eFz e)) vs σ H Q := by
  intro σ H Q ⟨S, st, q⟩
  refine ⟨S, st, ?_⟩
  unfold eLc at q
  cases ew : w S with
  | no => rw [ew] at q; exact q.elim
  | ex k S1 => rw [ew] at q; exact q
  | ok ds S1 =>
    rw [ew] at q
    simp only [Res.bind] at q
    cases el : lcLoop vs (ck S1) p c e ds S1 with
    | no => rw [el] at q; exact q.elim
    | ex k S2 => rw [el] at q; exact q.elim
    | ok xs S2 =>
      rw [el] at q
      simp only at q
      intro J H1 g wk wsz A nA
      have st1 := g.rst
      have sw := st1.wipe hb
      have nO : ¬ Owns (L2.wipe σ vs) (wipeS vs S1) A := sw.fresh_not nA
      have n0 : F.H0 A = none := by
        cases z : F.H0 A with
        | none => rfl
        | some u => exact absurd nA (st1.dom A (by rw [z]; exact fun z => by cases z))
      have sm0 : Same H1 (upd H1 A (.lst [])) := fun b x e => by rw [upd_ne (ne_of_none e nA)]; exact e
      refine ⟨fun i m H' => m = ds.length - i ∧ i ≤ ds.length ∧ ∃ S' done rest acc, lcLoop vs (ck S1) p c e (ds.drop i) S' = .ok rest S2 ∧ xs = done ++ rest ∧ RSt K mg F (L2.wipe σ vs) H' (wipeS vs S') ∧ Keep (L2.wipe σ vs) (wipeS vs S1) H1 H' ∧
        sub (L2.wipe σ vs) (wipeS vs S') (wipeS vs S1) ∧ (∀ a, H1 a ≠ none → H' a ≠ none) ∧ H' A = some (.lst acc) ∧ RepL K mg H' done acc ∧ done.length ≤ i, ⟨_, rfl, Nat.zero_le _, S1, [], xs, [], el, rfl, sw.grow sm0, Keep.of_same sm0, sub.refl _ _, (Go.of_same sw sm0).dm, upd_same, rfl, Nat.le_refl _⟩, ?_⟩
      rintro i m H' ⟨rfl, hle, S', done, rest, acc, el', ex, st', kp, sb, dm, eA, ra, hd⟩
      have mo : Mono H1 H' := sw.keep_mono kp
      have hck : ck S1 (wipeS vs S') = true := by
        cases z : ck S1 (wipeS vs S') with
        | true => rfl
        | false => cases hd0 : ds.drop i <;> (rw [hd0] at el'; simp only [lcLoop, z, Bool.false_eq_true, if_false] at el'; cases el')
      have wka : WkAt K mg J ds H' := wk _ _ H' (fun j hj => wipe_get (hsl j hj)) st' mo hck
      by_cases hlt : i < ds.length
      case neg =>
        have e0 : i = ds.length := by omega
        subst e0
        rw [List.drop_length] at el'
        simp only [lcLoop, hck, if_true] at el'
        cases el'
        rw [List.append_nil] at ex
        subst ex
        have gb := RSt.back st1 st' hb kp sb dm
        have nH : H A = none := by
          cases z : H A with
          | none => rfl
          | some u => exact absurd nA (g.dm A (by rw [z]; exact fun z => by cases z))
        exact .inl ⟨wka.stop, q _ H' (g.trans gb) ⟨A, rfl, nH, A, acc, rfl, eA, ra⟩⟩
      have hdrop : ∀ d, ds[i]? = some d → ds.drop i = d :: ds.drop (i + 1) := fun d ed => by
        rw [List.drop_eq_getElem_cons hlt]
        rw [List.getElem?_eq_getElem hlt] at ed
        rw [Option.some.inj ed]
      refine .inr ⟨wka.go i hlt, fun H3 => ∃ S' done rest acc, lcLoop vs (ck S1) p c e (ds.drop (i + 1)) S' = .ok rest S2 ∧ xs = done ++ rest ∧ RSt K mg F (L2.wipe σ vs) H3 (wipeS vs S') ∧ Keep (L2.wipe σ vs) (wipeS vs S1) H1 H3 ∧
        sub (L2.wipe σ vs) (wipeS vs S') (wipeS vs S1) ∧ (∀ a, H1 a ≠ none → H3 a ≠ none) ∧ H3 A = some (.lst acc) ∧ RepL K mg H3 done acc ∧ done.length ≤ i + 1, fun H3 z => ⟨_, by omega, rfl, hlt, z⟩, fun x H3 y => ?_⟩
      obtain ⟨sm, d, ed, rx⟩ := wka.yld i x H3 hlt y
      rw [hdrop d ed] at el'
      simp only [lcLoop, hck, if_true] at el'
      cases ep : p.put d (wipeS vs S') with
      | none => rw [ep] at el'; cases el'
      | some S3 =>
        rw [ep] at el'
        simp only at el'
        refine ⟨_, d, S3, st'.grow sm, rx, ep, fun σ2 u => ?_⟩
        have ws : L2.wipe σ2 vs = L2.wipe σ vs := by
          have h1 : L2.wipe σ2 vs = L2.wipe (L2.wipe σ vs) vs := wipe_eq u.len fun j hj => u.out j fun z => hj (hp j z)
          rw [h1]
          exact wipe_eq (L2.wipe_length _ _) fun j hj => wipe_get hj
        refine ⟨ws, ?_⟩
        have own3 : ∀ a, Owns σ2 S3 a → Owns (L2.wipe σ vs) (wipeS vs S') a := fun a ⟨j, s, e1, m1, q1⟩ => by
          obtain ⟨h1, h2⟩ := put_mut ep e1 m1
          exact ⟨j, s, h1, m1, by rw [← u.out j h2]; exact q1⟩
        have nO3 : ¬ Owns σ2 S3 A := fun z => nO (sb A (own3 A z))
        have go2 : ∀ {S5 : Sl} {H5 : Hp}, Go K mg F σ2 S3 H3 S5 H5 → RSt K mg F (L2.wipe σ vs) H5 (wipeS vs S5) ∧ Keep (L2.wipe σ vs) (wipeS vs S1) H1 H5 ∧ sub (L2.wipe σ vs) (wipeS vs S5) (wipeS vs S1) ∧ (∀ a, H1 a ≠ none → H5 a ≠ none) ∧ H5 A = some (.lst acc) ∧ RepL K mg H5 done acc := fun {S5 H5} g5 => by
          refine ⟨ws ▸ g5.rst.wipe hb, ⟨fun a o e1 t n => g5.keep.kp a o (sm a o (kp.kp a o e1 t n)) t fun z => n (sb a (own3 a z)), kp.tb.trans ((TbM.of_same sm).trans g5.keep.tb)⟩, fun a z => ?_, fun a n => g5.dm a ((Go.of_same st' sm).dm a (dm a n)), g5.keep.kp A _ (sm A _ eA) nT.lst nO3, RepL.mono ((Mono.of_same sm).trans (g5.mono u.rst)) done ra⟩
          rw [← ws] at z
          exact sb a (own3 a (g5.sub a (owns_of_wipe z)))
        refine ⟨S3, u.rst, ?_⟩
        cases ec : c S3 with
        | no => rw [ec] at el'; cases el'
        | ex k S4 => rw [ec] at el'; cases el'
        | ok b S4 =>
          rw [ec] at el'
          intro H4 g4
          cases b with
          | false =>
            simp only [Bool.false_eq_true, if_false] at el' ⊢
            obtain ⟨a1, a2, a3, a4, a5, a6⟩ := go2 g4
            exact ⟨S4, done, rest, acc, el', ex, a1, a2, a3, a4, a5, a6, by omega⟩
          | true =>
            simp only [if_true] at el' ⊢
            refine ⟨S4, g4.rst, ?_⟩
            unfold eFz
            cases ee : e S4 with
            | no => rw [ee] at el'; cases el'
            | ex k S5 => rw [ee] at el'; cases el'
            | ok r S5 =>
              rw [ee] at el'
              simp only [Res.bind] at el' ⊢
              cases er : toD r with
              | none => rw [er] at el'; cases el'
              | some x5 =>
                rw [er] at el'
                simp only at el' ⊢
                cases e6 : lcLoop vs (ck S1) p c e (ds.drop (i + 1)) S5 with
                | no => rw [e6] at el'; cases el'
                | ex k S6 => rw [e6] at el'; cases el'
                | ok r6 S6 =>
                  rw [e6] at el'
                  simp only [Res.ok.injEq] at el'
                  obtain ⟨er1, er2⟩ := el'
                  subst er1 er2
                  intro v5 H5 g5 r5
                  obtain ⟨a1, a2, a3, a4, a5, a6⟩ := go2 (g4.trans g5)
                  have nO5 : ¬ Owns (L2.wipe σ vs) (wipeS vs S5) A := fun z => nO (a3 A z)
                  obtain ⟨b1, b2⟩ := RSt.updFree (ys := acc ++ [v5]) a1 nO5 n0 a5
                  refine ⟨acc, a5, ?_, S5, done ++ [x5], r6, acc ++ [v5], e6, by rw [ex]; simp, b1, ⟨fun a o e1 t n => ?_, a2.tb.trans (TbM.upd a5 nT.lst lst_ne)⟩, a3, fun a n => ?_, upd_same, RepL.append (RepL.mono b2 done a6) (RepL.one (Rep.mono b2 x5 r5)), by rw [List.length_append]; simp; omega⟩
                  · rw [a6.length]
                    have := wsz
                    omega
                  · rw [upd_ne]
                    · exact a2.kp a o e1 t n
                    · rintro rfl
                      rw [nA] at e1; cases e1
                  · by_cases hb : a = A
                    · rw [hb, upd_same]; exact fun z => by cases z
                    · rw [upd_ne hb]; exact a4 a n
theorem a_lc (hc : X.calm = true) (hN : X.N.Nodup) (hi : AJ X F E tg iter w ck sl) (hsl : ∀ i ∈ sl, i ∉ own.map (·.2)) (ok : blkC X.N X.env.scope scope own = true) (hb : ∀ i ∈ own.map (·.2), F.brw i = none) (hp : ∀ i ∈ p.sl, i ∈ own.map (·.2))
    (hg : ∀ (s : Shared) (H : Hp) (C : Addr) (cl : List (Str × Addr)) (fp : List Addr), AG (X.blk s H scope (compEnvC scope cl C X.env) fp) F tg p)
    (ht : ∀ (s : Shared) (H : Hp) (C : Addr) (cl : List (Str × Addr)) (fp : List Addr), PTs (X.blk s H scope (compEnvC scope cl C X.env) fp) ifs (tOfB X.K X.mg F E0 c))
    (he : ∀ (s : Shared) (H : Hp) (C : Addr) (cl : List (Str × Addr)) (fp : List Addr), AE (X.blk s H scope (compEnvC scope cl C X.env) fp) F E0 elt e)
    (hs : ∀ x, foldedSetIterable iter X.env x = pure x := by intro _; rfl) : AE X F E (.ListComp elt [⟨tg, iter, ifs, 0⟩] scope pos) (eLc (own.map (·.2)) ck w p c e) :=
  PE_imp (pe_lc (te := tOf X.K X.mg F E0 (eFz e)) (tt := tOfB X.K X.mg F E0 c) (g := gOf X.K X.mg F p) hc hN hi (blkOk_by ok) hg ht (fun s H C cl fp => a_fz (he s H C cl fp)) hs) (lc_imp hb hp hsl)
/-- name = [..] -/
theorem as_setLc {i : Nat} {y : Str} {py spos : Pos} (hc : X.calm = true) (hN : X.N.Nodup) (hy : X.N[i]? = some y) (hyl : X.env.scope.names.lookup y = some .local) (hbi : F.brw i = none)
    (hsw : swapsWith (.ListComp elt [⟨tg, iter, ifs, 0⟩] scope pos) (some (.Name y py)) spos.line X.env = pure true) (hi : AJ X F E tg iter w ck sl) (hsl : ∀ i ∈ sl, i ∉ own.map (·.2)) (ok : blkC X.N X.env.scope scope own = true) (hb : ∀ i ∈ own.map (·.2), F.brw i = none) (hp : ∀ i ∈ p.sl, i ∈ own.map (·.2))
    (hg : ∀ (s : Shared) (H : Hp) (C : Addr) (cl : List (Str × Addr)) (fp : List Addr), AG (X.blk s H scope (compEnvC scope cl C X.env) fp) F tg p)
    (ht : ∀ (s : Shared) (H : Hp) (C : Addr) (cl : List (Str × Addr)) (fp : List Addr), PTs (X.blk s H scope (compEnvC scope cl C X.env) fp) ifs (tOfB X.K X.mg F E0 c))
    (he : ∀ (s : Shared) (H : Hp) (C : Addr) (cl : List (Str × Addr)) (fp : List Addr), AE (X.blk s H scope (compEnvC scope cl C X.env) fp) F E0 elt e)
    (hs : ∀ x, foldedSetIterable iter X.env x = pure x := by intro _; rfl) : AS X F E (.Assign [.Name y py] (.ListComp elt [⟨tg, iter, ifs, 0⟩] scope pos) spos) (sSet i (eLc (own.map (·.2)) ck w p c e)) := by
  refine PS_imp (ps_setLc (te := tOf X.K X.mg F E0 (eFz e)) (tt := tOfB X.K X.mg F E0 c) (g := gOf X.K X.mg F p) hc hN hy hyl hsw hi (blkOk_by ok) hg ht (fun s H C cl fp => a_fz (he s H C cl fp)) hs) fun C σ H ⟨S, st, q⟩ => ?_
  have q : OutS X.K X.mg F E C H ((eLc (own.map (·.2)) ck w p c e S).bind fun r S1 => match r with | .un => .no | r => .ok .nx (S1.set i r)) := q
  refine lc_imp hb hp hsl σ H _ ⟨S, st, ?_⟩
  cases em : eLc (own.map (·.2)) ck w p c e S with
  | no => rw [em] at q; exact q
  | ex k S1 => rw [em] at q; exact fun cls d H' r e => q cls d σ H' r e
  | ok r S1 =>
    rw [em] at q
    intro v H' g rr
    have fin := st.storeR g hbi rr
    cases r with
    | un => exact rr.elim
    | val d => exact q _ H' fin (g.mono st)
    | ow d => exact q _ H' fin (g.mono st)
    | dki d => exact q _ H' fin (g.mono st)
    | dkt d => exact q _ H' fin (g.mono st)
theorem ts_yes : ∀ (X : Cx), PTs X [] (tOfB X.K X.mg F E0 Rc.tYes) := fun X => ⟨fun pins s σ H Q I ⟨S, st, q⟩ => (pts_nil (X := X)).run pins s σ H Q I (q H (Go.refl st))⟩
theorem ts_one {X : Cx} {a : Expr} (h : AT X F E0 a c) : PTs X [a] (tOfB X.K X.mg F E0 c) := pts_one h
end
end Rc

namespace Rc
open PySem PySem.Spec PyProof.Rows L2
variable [LamTbl]
/-! ### two fors -/
section
variable {X : Cx} {F : Fx} {E : XK} {pos : Pos} {tg iter tg1 iter1 elt : Expr} {ifs ifs1 : List Expr} {w w1 : M (List D)} {p p1 : Pat} {c c1 : M Bool} {e : M Sv} {scope : Scope} {own : List (Str × Nat)} {ck : Ck} {sl : List Nat}
theorem lc2_imp {K : PySem.W.Frag} {mg : Str → Option Value} {vs vs1 sl : List Nat} {ck : Ck} (hb : ∀ i ∈ vs, F.brw i = none) (hp : ∀ i ∈ p.sl, i ∈ vs) (hsl : ∀ i ∈ sl, i ∉ vs) (hv : ∀ i ∈ vs1, i ∈ vs) (hp1 : ∀ i ∈ p1.sl, i ∈ vs1) :
    ∀ σ H Q, tOf K mg F E (eLc2 vs vs1 ck w p c w1 p1 c1 e) σ H Q → tLc2 (wOfN K mg F E w ck sl) (gOf K mg F p) (tOfB K mg F E0 c) (wOf K mg F E0 w1) (gOf K mg F p1) (tOfB K mg F E0 c1) (tOf K mg F E0 (eFz e)) vs vs1 σ H Q := by
  have hb1 : ∀ i ∈ vs1, F.brw i = none := fun i hi => hb i (hv i hi)
  intro σ H Q ⟨S, st, q⟩
  refine ⟨S, st, ?_⟩
  unfold eLc2 at q
  cases ew : w S with
  | no => rw [ew] at q; exact q.elim
  | ex k S1 => rw [ew] at q; exact q
  | ok ds S1 =>
    rw [ew] at q
    simp only [Res.bind] at q
    cases el : lc2Loop vs vs1 (ck S1) p c w1 p1 c1 e ds S1 with
    | no => rw [el] at q; exact q.elim
    | ex k S2 => rw [el] at q; exact q.elim
    | ok xs S2 =>
      rw [el] at q
      simp only at q
      by_cases hz : xs.length ≤ 16777216
      case neg => rw [if_neg hz] at q; exact q.elim
      rw [if_pos hz] at q
      intro J H1 g wk wsz A nA
      have st1 := g.rst
      have sw := st1.wipe hb
      have nO : ¬ Owns (L2.wipe σ vs) (wipeS vs S1) A := sw.fresh_not nA
      have n0 : F.H0 A = none := by
        cases z : F.H0 A with
        | none => rfl
        | some u => exact absurd nA (st1.dom A (by rw [z]; exact fun z => by cases z))
      have sm0 : Same H1 (upd H1 A (.lst [])) := fun b x e => by rw [upd_ne (ne_of_none e nA)]; exact e
      refine ⟨fun i m H' => m = ds.length - i ∧ i ≤ ds.length ∧ ∃ S' done rest acc, lc2Loop vs vs1 (ck S1) p c w1 p1 c1 e (ds.drop i) S' = .ok rest S2 ∧ xs = done ++ rest ∧ RSt K mg F (L2.wipe σ vs) H' (wipeS vs S') ∧ Keep (L2.wipe σ vs) (wipeS vs S1) H1 H' ∧
        sub (L2.wipe σ vs) (wipeS vs S') (wipeS vs S1) ∧ (∀ a, H1 a ≠ none → H' a ≠ none) ∧ H' A = some (.lst acc) ∧ RepL K mg H' done acc, ⟨_, rfl, Nat.zero_le _, S1, [], xs, [], el, rfl, sw.grow sm0, Keep.of_same sm0, sub.refl _ _, (Go.of_same sw sm0).dm, upd_same, rfl⟩, ?_⟩
      rintro i m H' ⟨rfl, hle, S', done, rest, acc, el', ex, st', kp, sb, dm, eA, ra⟩
      have mo : Mono H1 H' := sw.keep_mono kp
      have hck : ck S1 (wipeS vs S') = true := by
        cases z : ck S1 (wipeS vs S') with
        | true => rfl
        | false => cases hd0 : ds.drop i <;> (rw [hd0] at el'; simp only [lc2Loop, z, Bool.false_eq_true, if_false] at el'; cases el')
      have wka : WkAt K mg J ds H' := wk _ _ H' (fun j hj => wipe_get (hsl j hj)) st' mo hck
      by_cases hlt : i < ds.length
      case neg =>
        have e0 : i = ds.length := by omega
        subst e0
        rw [List.drop_length] at el'
        simp only [lc2Loop, hck, if_true] at el'
        cases el'
        rw [List.append_nil] at ex
        subst ex
        have gb := RSt.back st1 st' hb kp sb dm
        have nH : H A = none := by
          cases z : H A with
          | none => rfl
          | some u => exact absurd nA (g.dm A (by rw [z]; exact fun z => by cases z))
        exact .inl ⟨wka.stop, q _ H' (g.trans gb) ⟨A, rfl, nH, A, acc, rfl, eA, ra⟩⟩
      have hdrop : ∀ d, ds[i]? = some d → ds.drop i = d :: ds.drop (i + 1) := fun d ed => by
        rw [List.drop_eq_getElem_cons hlt]
        rw [List.getElem?_eq_getElem hlt] at ed
        rw [Option.some.inj ed]
      refine .inr ⟨wka.go i hlt, fun H3 => ∃ S' done rest acc, lc2Loop vs vs1 (ck S1) p c w1 p1 c1 e (ds.drop (i + 1)) S' = .ok rest S2 ∧ xs = done ++ rest ∧ RSt K mg F (L2.wipe σ vs) H3 (wipeS vs S') ∧ Keep (L2.wipe σ vs) (wipeS vs S1) H1 H3 ∧
        sub (L2.wipe σ vs) (wipeS vs S') (wipeS vs S1) ∧ (∀ a, H1 a ≠ none → H3 a ≠ none) ∧ H3 A = some (.lst acc) ∧ RepL K mg H3 done acc, fun H3 z => ⟨_, by omega, rfl, hlt, z⟩, fun x H3 y => ?_⟩
      obtain ⟨sm, d, ed, rx⟩ := wka.yld i x H3 hlt y
      rw [hdrop d ed] at el'
      simp only [lc2Loop, hck, if_true] at el'
      cases ep : p.put d (wipeS vs S') with
      | none => rw [ep] at el'; cases el'
      | some S3 =>
        rw [ep] at el'
        simp only at el'
        refine ⟨_, d, S3, st'.grow sm, rx, ep, fun σ2 u => ?_⟩
        have ws : L2.wipe σ2 vs = L2.wipe σ vs := by
          have h1 : L2.wipe σ2 vs = L2.wipe (L2.wipe σ vs) vs := wipe_eq u.len fun j hj => u.out j fun z => hj (hp j z)
          rw [h1]
          exact wipe_eq (L2.wipe_length _ _) fun j hj => wipe_get hj
        refine ⟨ws, ?_⟩
        have own3 : ∀ a, Owns σ2 S3 a → Owns (L2.wipe σ vs) (wipeS vs S') a := fun a ⟨j, s, e1, m1, q1⟩ => by
          obtain ⟨h1, h2⟩ := put_mut ep e1 m1
          exact ⟨j, s, h1, m1, by rw [← u.out j h2]; exact q1⟩
        have nO3 : ¬ Owns σ2 S3 A := fun z => nO (sb A (own3 A z))
        have go2 : ∀ {S5 : Sl} {H5 : Hp}, Go K mg F σ2 S3 H3 S5 H5 → RSt K mg F (L2.wipe σ vs) H5 (wipeS vs S5) ∧ Keep (L2.wipe σ vs) (wipeS vs S1) H1 H5 ∧ sub (L2.wipe σ vs) (wipeS vs S5) (wipeS vs S1) ∧ (∀ a, H1 a ≠ none → H5 a ≠ none) ∧ H5 A = some (.lst acc) ∧ RepL K mg H5 done acc := fun {S5 H5} g5 => by
          refine ⟨ws ▸ g5.rst.wipe hb, ⟨fun a o e1 t n => g5.keep.kp a o (sm a o (kp.kp a o e1 t n)) t fun z => n (sb a (own3 a z)), kp.tb.trans ((TbM.of_same sm).trans g5.keep.tb)⟩, fun a z => ?_, fun a n => g5.dm a ((Go.of_same st' sm).dm a (dm a n)), g5.keep.kp A _ (sm A _ eA) nT.lst nO3, RepL.mono ((Mono.of_same sm).trans (g5.mono u.rst)) done ra⟩
          rw [← ws] at z
          exact sb a (own3 a (g5.sub a (owns_of_wipe z)))
        refine ⟨S3, u.rst, ?_⟩
        cases ec : c S3 with
        | no => rw [ec] at el'; cases el'
        | ex k S4 => rw [ec] at el'; cases el'
        | ok b S4 =>
          rw [ec] at el'
          intro H4 g4
          cases b with
          | false =>
            simp only [Bool.false_eq_true, if_false] at el' ⊢
            obtain ⟨a1, a2, a3, a4, a5, a6⟩ := go2 g4
            exact ⟨S4, done, rest, acc, el', ex, a1, a2, a3, a4, a5, a6⟩
          | true =>
            simp only [if_true] at el' ⊢
            refine ⟨S4, g4.rst, ?_⟩
            cases ew1 : w1 S4 with
            | no => rw [ew1] at el'; cases el'
            | ex k S5 => rw [ew1] at el'; cases el'
            | ok ds1 S5 =>
              rw [ew1] at el'
              simp only at el'
              cases ei : lcLoop vs1 (fun _ => true) p1 c1 e ds1 S5 with
              | no => rw [ei] at el'; cases el'
              | ex k S6 => rw [ei] at el'; cases el'
              | ok xs1 S6 =>
                rw [ei] at el'
                simp only at el'
                cases er : lc2Loop vs vs1 (ck S1) p c w1 p1 c1 e (ds.drop (i + 1)) S6 with
                | no => rw [er] at el'; cases el'
                | ex k S7 => rw [er] at el'; cases el'
                | ok rest2 S7 =>
                  rw [er] at el'
                  simp only [Res.bind, Res.ok.injEq] at el'
                  obtain ⟨er1, er2⟩ := el'
                  subst er1 er2
                  intro J1 H5 g5 wk1
                  have g45 := g4.trans g5
                  obtain ⟨a1, a2, a3, a4, a5, a6⟩ := go2 g45
                  -- the inner loop
                  have sw1 := g5.rst.wipe hb1
                  have o1 : ∀ a, Owns (L2.wipe σ2 vs1) (wipeS vs1 S5) a → Owns σ2 S3 a := fun a z => g45.sub a (owns_of_wipe z)
                  have nO1 : ¬ Owns (L2.wipe σ2 vs1) (wipeS vs1 S5) A := fun z => nO3 (o1 A z)
                  refine ⟨fun j k H' => k = ds1.length - j ∧ j ≤ ds1.length ∧ ∃ S8 d1 r1 acc, lcLoop vs1 (fun _ => true) p1 c1 e (ds1.drop j) S8 = .ok r1 S6 ∧ xs1 = d1 ++ r1 ∧ RSt K mg F (L2.wipe σ2 vs1) H' (wipeS vs1 S8) ∧ Keep (L2.wipe σ2 vs1) (wipeS vs1 S5) (fun b => if b = A then none else H5 b) H' ∧
                    sub (L2.wipe σ2 vs1) (wipeS vs1 S8) (wipeS vs1 S5) ∧ (∀ a, H5 a ≠ none → H' a ≠ none) ∧ Mono H5 H' ∧ H' A = some (.lst acc) ∧ RepL K mg H' (done ++ d1) acc, ⟨_, rfl, Nat.zero_le _, S5, [], xs1, acc, ei, rfl, sw1, ?_, sub.refl _ _, fun _ n => n, Mono.refl _, a5, by rw [List.append_nil]; exact a6⟩, ?_⟩
                  · have key : ∀ b o, (if b = A then none else H5 b) = some o → H5 b = some o := fun b o h => by
                      by_cases hA : b = A
                      · rw [if_pos hA] at h; cases h
                      · rw [if_neg hA] at h; exact h
                    exact ⟨fun b o h _ _ => key b o h, TbM.of_same key⟩
                  rintro j k H6 ⟨rfl, hjle, S8, d1, r1, acc1, ej, ex1, st8, kp8, sb8, dm8, mo8, eA8, ra8⟩
                  by_cases hj : j < ds1.length
                  case neg =>
                    have e0 : j = ds1.length := by omega
                    subst e0
                    rw [List.drop_length] at ej
                    simp only [lcLoop, if_true] at ej
                    cases ej
                    rw [List.append_nil] at ex1
                    subst ex1
                    refine .inl ⟨wk1.stop H6 mo8, S6, done ++ xs1, rest2, acc1, er, by rw [ex, List.append_assoc], ?_, ?_, ?_, ?_, eA8, ra8⟩
                    · have z := st8.wipe hb
                      rw [show L2.wipe (L2.wipe σ2 vs1) vs = L2.wipe σ vs by
                        rw [← ws]
                        exact wipe_eq (L2.wipe_length _ _) fun j hj => wipe_get fun z => hj (hv j z)] at z
                      rw [show wipeS vs (wipeS vs1 S6) = wipeS vs S6 from wipeS_of (fun j hj => wipeS_get fun z => hj (hv j z)) (wipeS_len _ _)] at z
                      exact z
                    · refine ⟨fun b o h t n => ?_, a2.tb.trans ((TbM.hide a5).trans kp8.tb)⟩
                      by_cases hA : b = A
                      · rw [hA, nA] at h; cases h
                      · exact kp8.kp b o (by show (if b = A then none else H5 b) = some o; rw [if_neg hA]; exact a2.kp b o h t n) t fun z => n (sb b (own3 b (o1 b z)))
                    · intro b z
                      obtain ⟨jj, s, h1, h2, h3, h4⟩ := owns_wipe z
                      have : Owns (L2.wipe σ2 vs1) (wipeS vs1 S6) b := owns_wipe' (fun z => h1 (hv jj z)) h2 h3 (by rw [← wipe_get (σ := σ2) h1, ws]; rw [wipe_get h1]; exact h4)
                      exact sb b (own3 b (o1 b (sb8 b this)))
                    · exact fun b n => dm8 b (a4 b n)
                  have hdrop1 : ∀ d, ds1[j]? = some d → ds1.drop j = d :: ds1.drop (j + 1) := fun d ed => by
                    rw [List.drop_eq_getElem_cons hj]
                    rw [List.getElem?_eq_getElem hj] at ed
                    rw [Option.some.inj ed]
                  refine .inr ⟨wk1.go j H6 mo8 hj, fun H' => ∃ S8 d1 r1 acc, lcLoop vs1 (fun _ => true) p1 c1 e (ds1.drop (j + 1)) S8 = .ok r1 S6 ∧ xs1 = d1 ++ r1 ∧ RSt K mg F (L2.wipe σ2 vs1) H' (wipeS vs1 S8) ∧ Keep (L2.wipe σ2 vs1) (wipeS vs1 S5) (fun b => if b = A then none else H5 b) H' ∧
                    sub (L2.wipe σ2 vs1) (wipeS vs1 S8) (wipeS vs1 S5) ∧ (∀ a, H5 a ≠ none → H' a ≠ none) ∧ Mono H5 H' ∧ H' A = some (.lst acc) ∧ RepL K mg H' (done ++ d1) acc, fun H9 z => ⟨_, by omega, rfl, hj, z⟩, fun x1 H7 y1 => ?_⟩
                  obtain ⟨sm1, dd, ed1, rx1⟩ := wk1.yld j H6 x1 H7 mo8 hj y1
                  rw [hdrop1 dd ed1] at ej
                  simp only [lcLoop, if_true] at ej
                  cases ep1 : p1.put dd (wipeS vs1 S8) with
                  | none => rw [ep1] at ej; cases ej
                  | some S9 =>
                    rw [ep1] at ej
                    simp only at ej
                    refine ⟨_, dd, S9, st8.grow sm1, rx1, ep1, fun σ3 u3 => ?_⟩
                    have ws3 : L2.wipe σ3 vs1 = L2.wipe σ2 vs1 := by
                      have h1 : L2.wipe σ3 vs1 = L2.wipe (L2.wipe σ2 vs1) vs1 := wipe_eq u3.len fun j hj => u3.out j fun z => hj (hp1 j z)
                      rw [h1]
                      exact wipe_eq (L2.wipe_length _ _) fun j hj => wipe_get hj
                    refine ⟨ws3, ?_⟩
                    have own9 : ∀ a, Owns σ3 S9 a → Owns (L2.wipe σ2 vs1) (wipeS vs1 S8) a := fun a ⟨jj, s, h1, m1, q1⟩ => by
                      obtain ⟨h3, h2⟩ := put_mut ep1 h1 m1
                      exact ⟨jj, s, h3, m1, by rw [← u3.out jj h2]; exact q1⟩
                    have nO9 : ¬ Owns σ3 S9 A := fun z => nO1 (sb8 A (own9 A z))
                    have go3 : ∀ {Sx : Sl} {Hx : Hp}, Go K mg F σ3 S9 H7 Sx Hx → RSt K mg F (L2.wipe σ2 vs1) Hx (wipeS vs1 Sx) ∧ Keep (L2.wipe σ2 vs1) (wipeS vs1 S5) (fun b => if b = A then none else H5 b) Hx ∧ sub (L2.wipe σ2 vs1) (wipeS vs1 Sx) (wipeS vs1 S5) ∧ (∀ a, H5 a ≠ none → Hx a ≠ none) ∧ Mono H5 Hx ∧ Hx A = some (.lst acc1) ∧ RepL K mg Hx (done ++ d1) acc1 := fun {Sx Hx} gx => by
                      have mx := (Mono.of_same sm1).trans (gx.mono u3.rst)
                      refine ⟨ws3 ▸ gx.rst.wipe hb1, ⟨fun a o h1 t n => gx.keep.kp a o (sm1 a o (kp8.kp a o h1 t n)) t fun z => n (sb8 a (own9 a z)), kp8.tb.trans ((TbM.of_same sm1).trans gx.keep.tb)⟩, fun a z => ?_, fun a n => gx.dm a ((Go.of_same st8 sm1).dm a (dm8 a n)), mo8.trans mx, gx.keep.kp A _ (sm1 A _ eA8) nT.lst nO9, RepL.mono mx _ ra8⟩
                      rw [← ws3] at z
                      exact sb8 a (own9 a (gx.sub a (owns_of_wipe z)))
                    refine ⟨S9, u3.rst, ?_⟩
                    cases ec1 : c1 S9 with
                    | no => rw [ec1] at ej; cases ej
                    | ex k S4 => rw [ec1] at ej; cases ej
                    | ok b1 Sa =>
                      rw [ec1] at ej
                      intro Ha ga
                      cases b1 with
                      | false =>
                        simp only [Bool.false_eq_true, if_false] at ej ⊢
                        obtain ⟨b1, b2, b3, b4, b5, b6, b7⟩ := go3 ga
                        exact ⟨Sa, d1, r1, acc1, ej, ex1, b1, b2, b3, b4, b5, b6, b7⟩
                      | true =>
                        simp only [if_true] at ej ⊢
                        refine ⟨Sa, ga.rst, ?_⟩
                        unfold eFz
                        cases ee : e Sa with
                        | no => rw [ee] at ej; cases ej
                        | ex k Sb => rw [ee] at ej; cases ej
                        | ok rv Sb =>
                          rw [ee] at ej
                          simp only [Res.bind] at ej ⊢
                          cases er : toD rv with
                          | none => rw [er] at ej; cases ej
                          | some x5 =>
                            rw [er] at ej
                            simp only at ej ⊢
                            cases e6 : lcLoop vs1 (fun _ => true) p1 c1 e (ds1.drop (j + 1)) Sb with
                            | no => rw [e6] at ej; cases ej
                            | ex k Sc => rw [e6] at ej; cases ej
                            | ok r6 Sc =>
                              rw [e6] at ej
                              simp only [Res.ok.injEq] at ej
                              obtain ⟨ej1, ej2⟩ := ej
                              subst ej1 ej2
                              intro vb Hb gb rb
                              obtain ⟨b1, b2, b3, b4, b5, b6, b7⟩ := go3 (ga.trans gb)
                              have nOb : ¬ Owns (L2.wipe σ2 vs1) (wipeS vs1 Sb) A := fun z => nO1 (b3 A z)
                              obtain ⟨k1, k2⟩ := RSt.updFree (ys := acc1 ++ [vb]) b1 nOb n0 b6
                              refine ⟨acc1, b6, ?_, Sb, d1 ++ [x5], r6, acc1 ++ [vb], e6, by rw [ex1]; simp, k1, ⟨fun a o h1 t n => ?_, b2.tb.trans (TbM.upd b6 nT.lst lst_ne)⟩, b3, fun a n => ?_, b5.trans k2, upd_same, by rw [← List.append_assoc]; exact RepL.append (RepL.mono k2 _ b7) (RepL.one (Rep.mono k2 x5 rb))⟩
                              · rw [b7.length, sizeLine_eq]
                                have : xs.length = done.length + (d1.length + (1 + r6.length) + rest2.length) := by rw [ex, ex1]; simp; omega
                                rw [List.length_append]
                                omega
                              · rw [upd_ne]
                                · exact b2.kp a o h1 t n
                                · rintro rfl
                                  have h1 : (if a = a then none else H5 a) = some o := h1
                                  rw [if_pos rfl] at h1; cases h1
                              · by_cases hbA : a = A
                                · rw [hbA, upd_same]; exact fun z => by cases z
                                · rw [upd_ne hbA]; exact b4 a n
theorem a_lc2 {vs1 : List Nat} (hc : X.calm = true) (hN : X.N.Nodup) (hi : AJ X F E tg iter w ck sl) (hsl : ∀ i ∈ sl, i ∉ own.map (·.2)) (ok : blkC X.N X.env.scope scope own = true) (hb : ∀ i ∈ own.map (·.2), F.brw i = none) (hp : ∀ i ∈ p.sl, i ∈ own.map (·.2)) (hv : ∀ i ∈ vs1, i ∈ own.map (·.2)) (hp1 : ∀ i ∈ p1.sl, i ∈ vs1)
    (hg : ∀ (s : Shared) (H : Hp) (C : Addr) (cl : List (Str × Addr)) (fp : List Addr), AG (X.blk s H scope (compEnvC scope cl C X.env) fp) F tg p)
    (ht : ∀ (s : Shared) (H : Hp) (C : Addr) (cl : List (Str × Addr)) (fp : List Addr), PTs (X.blk s H scope (compEnvC scope cl C X.env) fp) ifs (tOfB X.K X.mg F E0 c))
    (hi1 : ∀ (s : Shared) (H : Hp) (C : Addr) (cl : List (Str × Addr)) (fp : List Addr), AI (X.blk s H scope (compEnvC scope cl C X.env) fp) F E0 tg1 iter1 w1)
    (hg1 : ∀ (s : Shared) (H : Hp) (C : Addr) (cl : List (Str × Addr)) (fp : List Addr), AG (X.blk s H scope (compEnvC scope cl C X.env) fp) F tg1 p1)
    (ht1 : ∀ (s : Shared) (H : Hp) (C : Addr) (cl : List (Str × Addr)) (fp : List Addr), PTs (X.blk s H scope (compEnvC scope cl C X.env) fp) ifs1 (tOfB X.K X.mg F E0 c1))
    (he : ∀ (s : Shared) (H : Hp) (C : Addr) (cl : List (Str × Addr)) (fp : List Addr), AE (X.blk s H scope (compEnvC scope cl C X.env) fp) F E0 elt e)
    (hs : ∀ x, foldedSetIterable iter X.env x = pure x := by intro _; rfl) (hs1 : ∀ env x, foldedSetIterable iter1 env x = pure x := by intro _ _; rfl) :
    AE X F E (.ListComp elt [⟨tg, iter, ifs, 0⟩, ⟨tg1, iter1, ifs1, 0⟩] scope pos) (eLc2 (own.map (·.2)) vs1 ck w p c w1 p1 c1 e) :=
  PE_imp (pe_lc2 (te := tOf X.K X.mg F E0 (eFz e)) (tt := tOfB X.K X.mg F E0 c) (tt1 := tOfB X.K X.mg F E0 c1) (g := gOf X.K X.mg F p) (g1 := gOf X.K X.mg F p1) (wi1 := wOf X.K X.mg F E0 w1) hc hN hi (blkOk_by ok) hv hg ht hi1 hg1 ht1 (fun s H C cl fp => a_fz (he s H C cl fp)) hs hs1) (lc2_imp hb hp hsl hv hp1)
end
end Rc

/-! Rc: defs and their calls. -/
namespace Rc
open PySem PySem.Spec PyProof.Rows L2
variable [LamTbl]

def okArg : Sv → Bool
  | .val _ => true
  | .ow _ => true
  | _ => false
section
variable (K : PySem.W.Frag) (mg : Str → Option Value)
/-- what is handed to a def -/
structure Hands (H : Hp) (args : Sl) (vs : List V) : Prop where
  len : vs.length = args.length
  at_ : ∀ (i : Nat) s, args[i]? = some s → okArg s = true ∧ RSv K mg H (vs[i]?.map some) s
  inj : ∀ (i j : Nat) s t a, args[i]? = some s → args[j]? = some t → isMut s = true → isMut t = true → vs[i]? = some (.ref a) → vs[j]? = some (.ref a) → i = j
def Lent (args : Sl) (vs : List V) (a : Addr) : Prop := ∃ (i : Nat) (s : Sv), args[i]? = some s ∧ isMut s = true ∧ vs[i]? = some (.ref a)
/-- behind the call -/
structure Back (H H' : Hp) (args outs : Sl) (vs : List V) : Prop where
  keep : ∀ a o, H a = some o → nT o → ¬ Lent args vs a → H' a = some o
  tabs : TbM H H'
  dm : ∀ a, H a ≠ none → H' a ≠ none
  mono : Mono H H'
  res : ∀ (i : Nat) s, args[i]? = some s → isMut s = true → ∃ s', outs[i]? = some s' ∧ (∃ ds, s' = .ow ds ∨ s' = .val (.list ds)) ∧ RSv K mg H' (vs[i]?.map some) s'
  len : outs.length = args.length
def spOf (n : Nat) (G : AF) : Sp := fun vs H Q E => ∃ args : Sl, args.length = n ∧ Hands K mg H args vs ∧ match G args with
  | .ret r outs => ∀ v H', Back K mg H H' args outs vs → RepR K mg H H' r v → Q v H'
  | .ex e outs => ∀ cls d H', Back K mg H H' args outs vs → RepE mg e cls d H' → E cls d H'
  | .no => False
end
/-- the def x keeps the promise of G -/
def Has (P : Program) (w : World) (K : PySem.W.Frag) (mg : Str → Option Value) (base : Heap) (x : Str) (n : Nat) (k : Nat) (G : AF) : Prop :=
  ∃ (f : Addr) (fd : FuncData) (ps : List Str), mg x = some (.ref f) ∧ PySem.W.keepIn K (.ref f) = true ∧ Binds K fd ps [] ∧ ps.length = n ∧ FnOk P w K mg base (L2N.CX P w) k f fd ps (spOf K mg n G)
theorem Has.mono {P : Program} {w : World} {K : PySem.W.Frag} {mg : Str → Option Value} {base : Heap} {x : Str} {n j k : Nat} {G : AF} (h : Has P w K mg base x n j G) (hj : j ≤ k) : Has P w K mg base x n k G := by
  obtain ⟨f, fd, ps, a, b, c, d, e⟩ := h
  exact ⟨f, fd, ps, a, b, c, d, e.mono hj⟩

/-! ### arguments -/
section
variable {K : PySem.W.Frag} {mg : Str → Option Value} {F : Fx} {E : XK} {σ : St} {S S1 S2 : Sl} {H H1 H2 : Hp}
/-- the values that go out -/
def Goes (K : PySem.W.Frag) (mg : Str → Option Value) (σ : St) (H : Hp) : List (D ⊕ Nat) → List V → Prop
  | [], vs => vs = []
  | .inl d :: as, vs => ∃ v ws, vs = v :: ws ∧ Rep K mg H d v ∧ Goes K mg σ H as ws
  | .inr i :: as, vs => ∃ v ws, vs = v :: ws ∧ σ[i]? = some (some v) ∧ Goes K mg σ H as ws
theorem Goes.mono (m : Mono H H1) : ∀ {as : List (D ⊕ Nat)} {vs : List V}, Goes K mg σ H as vs → Goes K mg σ H1 as vs
  | [], _, h => h
  | .inl d :: as, _, h => by
    obtain ⟨v, ws, e, r, q⟩ := h
    exact ⟨v, ws, e, Rep.mono m d r, Goes.mono m q⟩
  | .inr i :: as, _, h => by
    obtain ⟨v, ws, e, r, q⟩ := h
    exact ⟨v, ws, e, r, Goes.mono m q⟩
theorem Goes.length : ∀ {as : List (D ⊕ Nat)} {vs : List V}, Goes K mg σ H as vs → vs.length = as.length
  | [], _, h => by rw [show _ = _ from h]; rfl
  | .inl d :: as, _, h => by
    obtain ⟨v, ws, e, r, q⟩ := h
    rw [e, List.length_cons, List.length_cons, Goes.length q]
  | .inr i :: as, _, h => by
    obtain ⟨v, ws, e, r, q⟩ := h
    rw [e, List.length_cons, List.length_cons, Goes.length q]
theorem Goes.get : ∀ {as : List (D ⊕ Nat)} {vs : List V} {j : Nat} {a : D ⊕ Nat}, Goes K mg σ H as vs → as[j]? = some a →
    ∃ v, vs[j]? = some v ∧ match a with | .inl d => Rep K mg H d v | .inr i => σ[i]? = some (some v)
  | [], _, _, _, _, h => by simp at h
  | .inl d :: as, _, 0, _, h, e => by
    obtain ⟨v, ws, e', r, q⟩ := h
    simp at e
    subst e e'
    exact ⟨v, rfl, r⟩
  | .inr i :: as, _, 0, _, h, e => by
    obtain ⟨v, ws, e', r, q⟩ := h
    simp at e
    subst e e'
    exact ⟨v, rfl, r⟩
  | .inl d :: as, _, j + 1, _, h, e => by
    obtain ⟨v, ws, e', r, q⟩ := h
    subst e'
    simp only [List.getElem?_cons_succ] at e ⊢
    exact Goes.get q e
  | .inr i :: as, _, j + 1, _, h, e => by
    obtain ⟨v, ws, e', r, q⟩ := h
    subst e'
    simp only [List.getElem?_cons_succ] at e ⊢
    exact Goes.get q e
def tOfA (K : PySem.W.Frag) (mg : Str → Option Value) (F : Fx) (E : XK) (as : List Am) : TA := fun σ H Q => ∃ S, RSt K mg F σ H S ∧ match evA as S with
  | .ok ls S' => ∀ vs H', Go K mg F σ S H S' H' → Goes K mg σ H' ls vs → Q vs H'
  | .ex e S' => ∀ cls d H', RSt K mg F σ H' S' → RepE mg e cls d H' → E cls d H'
  | .no => False
end
abbrev AA (X : Cx) (F : Fx) (E : XK) (es : List Expr) (as : List Am) : Prop := PA X es (tOfA X.K X.mg F E as)
section
variable {X : Cx} {F : Fx} {E : XK} {pos : Pos} {e : Expr} {es : List Expr} {m : M Sv} {as : List Am}
theorem aa_nil : AA X F E [] [] := PA_imp pa_nil fun σ H Q ⟨S, st, q⟩ => q [] H (Go.refl st) rfl
theorem aa_d (ha : AE X F E e m) (hr : AA X F E es as) (hs : starEach (e :: es) X.env = (false, eval e X.env) :: starEach es X.env := by rfl) : AA X F E (e :: es) (.d m :: as) := by
  refine PA_imp (pa_cons (a_fz ha) hr hs) fun σ H Q ⟨S, st, q⟩ => ⟨S, st, ?_⟩
  simp only [evA] at q
  unfold eFz
  cases em : m S with
  | no => rw [em] at q; exact q.elim
  | ex k S1 => rw [em] at q; exact q
  | ok r S1 =>
    rw [em] at q
    simp only [Res.bind] at q ⊢
    cases ed : toD r with
    | none => rw [ed] at q; exact q.elim
    | some d =>
      rw [ed] at q
      simp only at q ⊢
      intro v H1 g1 r1
      refine ⟨S1, g1.rst, ?_⟩
      cases el : evA as S1 with
      | no => rw [el] at q; exact q.elim
      | ex k S2 => rw [el] at q; exact q
      | ok ds S2 =>
        rw [el] at q
        intro vs H2 g2 r2
        exact q (v :: vs) H2 (g1.trans g2) ⟨v, vs, rfl, Rep.mono (g2.mono g1.rst) d r1, r2⟩
theorem aa_b {i : Nat} {x : Str} {p : Pos} (hN : X.N[i]? = some x) (hv : Vis X.env.scope x) (hr : AA X F E es as) (hd : (x == ("__debug__" : Str)) = false := by decide) (hcd : (x == ("__classdict__" : Str)) = false := by decide)
    (hs : starEach (.Name x p :: es) X.env = (false, eval (.Name x p) X.env) :: starEach es X.env := by rfl) : AA X F E (.Name x p :: es) (.b i :: as) := by
  refine PA_imp (pa_cons (pe_var hN hv hd hcd) hr hs) fun σ H Q ⟨S, st, q⟩ => ?_
  simp only [evA] at q
  by_cases hb : bound S i = true
  case neg =>
    rw [if_neg hb] at q
    exact q.elim
  rw [if_pos hb] at q
  have ev : ∃ v, σ[i]? = some (some v) := by
    unfold bound at hb
    cases es : S[i]? with
    | none => rw [es] at hb; cases hb
    | some s =>
      rw [es] at hb
      cases s with
      | un => cases hb
      | dki _ => cases hb
      | dkt _ => cases hb
      | val d => obtain ⟨v, e, _⟩ := st.at_ i _ es; exact ⟨v, e⟩
      | ow d => obtain ⟨a, _, e, _⟩ := st.at_ i _ es; exact ⟨_, e⟩
  obtain ⟨v, ev⟩ := ev
  refine ⟨v, ev, S, st, ?_⟩
  cases el : evA as S with
  | no => rw [el] at q; exact q.elim
  | ex k S2 => rw [el] at q; exact q
  | ok ds S2 =>
    rw [el] at q
    intro vs H2 g2 r2
    exact q (v :: vs) H2 g2 ⟨v, vs, rfl, ev, r2⟩
end

/-! ### the slots behind a call -/
def bIdx : List Am → List Nat
  | [] => []
  | .d _ :: as => bIdx as
  | .b i :: as => i :: bIdx as
def bIx : List (D ⊕ Nat) → List Nat
  | [] => []
  | .inl _ :: as => bIx as
  | .inr i :: as => i :: bIx as
theorem evA_bIx : ∀ {as : List Am} {S S1 : Sl} {ls : List (D ⊕ Nat)}, evA as S = .ok ls S1 → bIx ls = bIdx as
  | [], _, _, _, h => by cases h; rfl
  | .d m :: as, S, S1, ls, h => by
    simp only [evA] at h
    cases em : m S with
    | no => rw [em] at h; cases h
    | ex k S2 => rw [em] at h; cases h
    | ok r S2 =>
      rw [em] at h
      simp only [Res.bind] at h
      cases ed : toD r with
      | none => rw [ed] at h; cases h
      | some d =>
        rw [ed] at h
        simp only at h
        cases el : evA as S2 with
        | no => rw [el] at h; cases h
        | ex k S3 => rw [el] at h; cases h
        | ok ds S3 =>
          rw [el] at h
          cases h
          show bIx ds = bIdx as
          exact evA_bIx el
  | .b i :: as, S, S1, ls, h => by
    simp only [evA] at h
    by_cases hb : bound S i = true
    case neg => rw [if_neg hb] at h; cases h
    rw [if_pos hb] at h
    cases el : evA as S with
    | no => rw [el] at h; cases h
    | ex k S3 => rw [el] at h; cases h
    | ok ds S3 =>
      rw [el] at h
      cases h
      show i :: bIx ds = i :: bIdx as
      rw [evA_bIx el]
theorem evA_len : ∀ {as : List Am} {S S1 : Sl} {ls : List (D ⊕ Nat)}, evA as S = .ok ls S1 → ls.length = as.length
  | [], _, _, _, h => by cases h; rfl
  | .d m :: as, S, S1, ls, h => by
    simp only [evA] at h
    cases em : m S with
    | no => rw [em] at h; cases h
    | ex k S2 => rw [em] at h; cases h
    | ok r S2 =>
      rw [em] at h
      simp only [Res.bind] at h
      cases ed : toD r with
      | none => rw [ed] at h; cases h
      | some d =>
        rw [ed] at h
        simp only at h
        cases el : evA as S2 with
        | no => rw [el] at h; cases h
        | ex k S3 => rw [el] at h; cases h
        | ok ds S3 =>
          rw [el] at h
          cases h
          rw [List.length_cons, List.length_cons, evA_len el]
  | .b i :: as, S, S1, ls, h => by
    simp only [evA] at h
    by_cases hb : bound S i = true
    case neg => rw [if_neg hb] at h; cases h
    rw [if_pos hb] at h
    cases el : evA as S with
    | no => rw [el] at h; cases h
    | ex k S3 => rw [el] at h; cases h
    | ok ds S3 =>
      rw [el] at h
      cases h
      rw [List.length_cons, List.length_cons, evA_len el]
theorem bIx_mem : ∀ {ls : List (D ⊕ Nat)} {i : Nat}, Sum.inr i ∈ ls → i ∈ bIx ls
  | .inl _ :: ls, i, h => bIx_mem (ls := ls) ((List.mem_cons.mp h).resolve_left fun z => by cases z)
  | .inr j :: ls, i, h => by
    rcases List.mem_cons.mp h with z | z
    · cases z; exact List.mem_cons_self
    · exact List.mem_cons_of_mem _ (bIx_mem z)
theorem bIx_inj : ∀ {ls : List (D ⊕ Nat)} {i j k : Nat}, (bIx ls).Nodup → ls[i]? = some (.inr k) → ls[j]? = some (.inr k) → i = j
  | [], _, _, _, _, h, _ => by simp at h
  | .inl d :: ls, i, j, k, n, h1, h2 => by
    cases i with
    | zero => simp at h1
    | succ i =>
      cases j with
      | zero => simp at h2
      | succ j =>
        simp only [List.getElem?_cons_succ] at h1 h2
        rw [bIx_inj (ls := ls) n h1 h2]
  | .inr d :: ls, i, j, k, n, h1, h2 => by
    have n : (d :: bIx ls).Nodup := n
    rw [List.nodup_cons] at n
    cases i with
    | zero =>
      cases j with
      | zero => rfl
      | succ j =>
        simp at h1
        subst h1
        simp only [List.getElem?_cons_succ] at h2
        exact absurd (bIx_mem (List.mem_of_getElem? h2)) n.1
    | succ i =>
      cases j with
      | zero =>
        simp at h2
        subst h2
        simp only [List.getElem?_cons_succ] at h1
        exact absurd (bIx_mem (List.mem_of_getElem? h1)) n.1
      | succ j =>
        simp only [List.getElem?_cons_succ] at h1 h2
        rw [bIx_inj n.2 h1 h2]
theorem backA_len {S : Sl} : ∀ (ls : List (D ⊕ Nat)) (outs : Sl), (backA S ls outs).length = S.length
  | [], _ => by unfold backA; rfl
  | .inl _ :: ls, [] => by simp [backA]
  | .inr _ :: ls, [] => by simp [backA]
  | .inl _ :: ls, o :: outs => by simp only [backA]; exact backA_len ls outs
  | .inr i :: ls, o :: outs => by
    simp only [backA]
    split
    · rw [List.length_set]; exact backA_len ls outs
    · exact backA_len ls outs
/-- a slot behind a call -/
theorem backA_get {S : Sl} : ∀ {ls : List (D ⊕ Nat)} {outs : Sl} {j : Nat} {s : Sv}, outs.length = ls.length → (backA S ls outs)[j]? = some s →
    (S[j]? = some s ∧ (isMut s = true → Sum.inr j ∉ ls)) ∨ ∃ k : Nat, ls[k]? = some (Sum.inr j) ∧ outs[k]? = some s ∧ ∃ t, S[j]? = some t ∧ isMut t = true
  | [], _, _, s, _, h => by
    unfold backA at h
    exact .inl ⟨h, fun _ z => by cases z⟩
  | .inl _ :: ls, [], _, _, l, _ => by simp at l
  | .inr _ :: ls, [], _, _, l, _ => by simp at l
  | .inl d :: ls, o :: outs, j, s, l, h => by
    simp only [backA] at h
    rcases backA_get (by simpa using l) h with ⟨h1, h2⟩ | ⟨k, h1, h2, h3⟩
    · exact .inl ⟨h1, fun m z => h2 m ((List.mem_cons.mp z).resolve_left fun z => by cases z)⟩
    · exact .inr ⟨k + 1, by simpa using h1, by simpa using h2, h3⟩
  | .inr i :: ls, o :: outs, j, s, l, h => by
    simp only [backA] at h
    by_cases hm : isMut (S.getD i .un) = true
    · rw [if_pos hm] at h
      by_cases e : i = j
      · subst e
        by_cases hl : i < (backA S ls outs).length
        · rw [List.getElem?_set_self hl] at h
          rw [backA_len] at hl
          refine .inr ⟨0, rfl, by simpa using h, S[i], List.getElem?_eq_getElem hl, ?_⟩
          rw [List.getD_eq_getElem?_getD, List.getElem?_eq_getElem hl] at hm
          exact hm
        · rw [List.getElem?_eq_none (by rw [List.length_set]; omega)] at h; cases h
      · rw [List.getElem?_set_ne e] at h
        rcases backA_get (by simpa using l) h with ⟨h1, h2⟩ | ⟨k, h1, h2, h3⟩
        · exact .inl ⟨h1, fun m z => h2 m ((List.mem_cons.mp z).resolve_left fun z => e (by cases z; rfl))⟩
        · exact .inr ⟨k + 1, by simpa using h1, by simpa using h2, h3⟩
    · rw [if_neg hm] at h
      rcases backA_get (by simpa using l) h with ⟨h1, h2⟩ | ⟨k, h1, h2, h3⟩
      · refine .inl ⟨h1, fun m z => ?_⟩
        rcases List.mem_cons.mp z with z | z
        · cases z
          rw [List.getD_eq_getElem?_getD, h1] at hm
          exact hm m
        · exact h2 m z
      · exact .inr ⟨k + 1, by simpa using h1, by simpa using h2, h3⟩

section
variable {K : PySem.W.Frag} {mg : Str → Option Value} {F : Fx} {E : XK} {σ : St} {S S1 S2 : Sl} {H H1 H2 : Hp}
/-- what goes out, as the callee gets it -/
theorem hands_of {ls : List (D ⊕ Nat)} {vs : List V} (st : RSt K mg F σ H S) (g : Goes K mg σ H ls vs) (nd : (bIx ls).Nodup) (ok : ∀ i, Sum.inr i ∈ ls → bound S i = true) : Hands K mg H (ls.map (argOf S)) vs := by
  have cs : ∀ {j s}, (ls.map (argOf S))[j]? = some s → (∃ (d : D) (v : V), ls[j]? = some (Sum.inl d) ∧ s = .val d ∧ vs[j]? = some v ∧ Rep K mg H d v) ∨ ∃ (i : Nat) (v : V), ls[j]? = some (Sum.inr i) ∧ S[i]? = some s ∧ okArg s = true ∧ vs[j]? = some v ∧ σ[i]? = some (some v) := fun {j s} e => by
    rw [List.getElem?_map] at e
    cases el : ls[j]? with
    | none => rw [el] at e; cases e
    | some a =>
      rw [el] at e
      obtain ⟨v, ev, r⟩ := Goes.get g el
      cases a with
      | inl d => exact .inl ⟨d, v, el, (Option.some.inj e).symm, ev, r⟩
      | inr i =>
        have hb := ok i (List.mem_of_getElem? el)
        have e : some (S.getD i .un) = some s := e
        unfold bound at hb
        rw [List.getD_eq_getElem?_getD] at e
        cases es : S[i]? with
        | none => rw [es] at hb; cases hb
        | some t =>
          rw [es] at e hb
          have e : t = s := Option.some.inj e
          subst e
          refine .inr ⟨i, v, el, es, ?_, ev, r⟩
          cases t <;> first | rfl | cases hb
  refine ⟨by rw [List.length_map]; exact g.length, fun j s e => ?_, fun i j s t a e1 e2 m1 m2 q1 q2 => ?_⟩
  · rcases cs e with ⟨d, v, _, rfl, ev, r⟩ | ⟨i, v, _, es, ho, ev, r⟩
    · exact ⟨rfl, v, by rw [ev]; rfl, r⟩
    · refine ⟨ho, ?_⟩
      have z := st.at_ i s es
      rw [r] at z
      rw [ev]
      exact z
  · rcases cs e1 with ⟨d, v, _, rfl, _⟩ | ⟨i1, v1, l1, s1, _, w1, r1⟩
    · cases m1
    · rcases cs e2 with ⟨d, v, _, rfl, _⟩ | ⟨i2, v2, l2, s2, _, w2, r2⟩
      · cases m2
      · rw [q1] at w1
        rw [q2] at w2
        cases w1
        cases w2
        have e := st.inj i1 i2 s t a s1 s2 m1 m2 r1 r2
        subst e
        exact bIx_inj nd l1 l2
theorem lent_owns {ls : List (D ⊕ Nat)} {vs : List V} {a : Addr} (g : Goes K mg σ H ls vs) (h : Lent (ls.map (argOf S)) vs a) : ∃ (j i : Nat) (s : Sv), ls[j]? = some (.inr i) ∧ S[i]? = some s ∧ isMut s = true ∧ σ[i]? = some (some (.ref a)) := by
  obtain ⟨j, s, e, m, q⟩ := h
  rw [List.getElem?_map] at e
  cases el : ls[j]? with
  | none => rw [el] at e; cases e
  | some x =>
    rw [el] at e
    obtain ⟨v, ev, r⟩ := Goes.get g el
    rw [q] at ev
    cases ev
    cases x with
    | inl d => have e := (Option.some.inj e : Sv.val d = s); subst e; cases m
    | inr i =>
      have e : some (S.getD i .un) = some s := e
      rw [List.getD_eq_getElem?_getD] at e
      cases es : S[i]? with
      | none => rw [es] at e; rw [← Option.some.inj e] at m; cases m
      | some t =>
        rw [es] at e
        have e : t = s := Option.some.inj e
        subst e
        exact ⟨j, i, t, el, es, m, r⟩
theorem go_back {ls : List (D ⊕ Nat)} {vs : List V} {outs : Sl} (st : RSt K mg F σ H S) (g : Goes K mg σ H ls vs) (nd : (bIx ls).Nodup) (b : Back K mg H H1 (ls.map (argOf S)) outs vs) : Go K mg F σ S H (backA S ls outs) H1 := by
  have lo : ∀ a, Lent (ls.map (argOf S)) vs a → Owns σ S a := fun a h => by
    obtain ⟨j, i, s, _, e, m, q⟩ := lent_owns g h
    exact ⟨i, s, e, m, q⟩
  have len : outs.length = ls.length := by rw [b.len, List.length_map]
  have cs := fun {j s} (e : (backA S ls outs)[j]? = some s) => backA_get len e
  -- the slot of a mutable out was mutable
  have old : ∀ {j s}, (backA S ls outs)[j]? = some s → isMut s = true → ∃ t, S[j]? = some t ∧ isMut t = true := fun {j s} e m => by
    rcases cs e with ⟨h1, _⟩ | ⟨k, _, _, h3⟩
    · exact ⟨s, h1, m⟩
    · exact h3
  have argm : ∀ {k i : Nat} {t : Sv}, ls[k]? = some (Sum.inr i) → S[i]? = some t → (ls.map (argOf S))[k]? = some t := fun {k i t} h1 h2 => by
    rw [List.getElem?_map, h1]
    show some (S.getD i .un) = some t
    rw [List.getD_eq_getElem?_getD, h2]
    rfl
  refine ⟨⟨by rw [backA_len]; exact st.len, fun j s e => ?_, fun i j s t a e1 e2 m1 m2 q1 q2 => ?_, fun j s a e m q => ?_, fun j a e => ?_, fun a o e t n => ?_, fun a n => b.dm a (st.dom a n), st.mono.trans b.mono, st.tabs.trans b.tabs⟩, ⟨fun a o e t n => b.keep a o e t fun z => n (lo a z), b.tabs⟩, fun a ⟨j, s, e, m, q⟩ => ?_, b.dm⟩
  · rcases cs e with ⟨h1, h2⟩ | ⟨k, h1, h2, t, h3, m3⟩
    · refine (st.at_ j s h1).mono b.mono fun a m q => ?_
      cases h : H a with
      | none => exact absurd h (st.own_ne ⟨j, s, h1, m, q⟩)
      | some u =>
        refine b.keep a u h (st.own_nT ⟨j, s, h1, m, q⟩ h) fun z => ?_
        obtain ⟨k, i, s', hk, hs, hm, hq⟩ := lent_owns g z
        have e := st.inj i j s' s a hs h1 hm m hq q
        subst e
        exact h2 m (List.mem_of_getElem? hk)
    · obtain ⟨s', z1, _, z3⟩ := b.res k t (argm h1 h3) m3
      rw [h2] at z1
      cases z1
      obtain ⟨v, ev, r⟩ := Goes.get g h1
      have r : σ[j]? = some (some v) := r
      rw [ev] at z3
      rw [r]
      exact z3
  · obtain ⟨t1, f1, n1⟩ := old e1 m1
    obtain ⟨t2, f2, n2⟩ := old e2 m2
    exact st.inj i j t1 t2 a f1 f2 n1 n2 q1 q2
  · obtain ⟨t1, f1, n1⟩ := old e m
    exact st.ownd j t1 a f1 n1 q
  · obtain ⟨h1, h2, ds, h3⟩ := st.lent j a e
    refine ⟨h1, h2, ?_⟩
    have hj : j < (backA S ls outs).length := by
      rw [backA_len]
      rcases h3 with h3 | h3 <;> exact (List.getElem?_eq_some_iff.mp h3).1
    have e0 := List.getElem?_eq_getElem hj
    rcases cs e0 with ⟨z1, _⟩ | ⟨k, z1, z2, t, z3, m3⟩
    · exact ⟨ds, by rw [e0, ← z1]; exact h3⟩
    · obtain ⟨s', y1, ⟨es, y2⟩, _⟩ := b.res k t (argm z1 z3) m3
      rw [z2] at y1
      have y1 := Option.some.inj y1
      refine ⟨es, ?_⟩
      rcases y2 with y2 | y2
      · exact .inl (by rw [e0, y1, y2])
      · exact .inr (by rw [e0, y1, y2])
  · refine b.keep a o (st.frame a o e t n) t fun z => ?_
    obtain ⟨i, s, h1, m, q⟩ := lo a z
    rcases st.ownd i s a h1 m q with w | w
    · exact n i w
    · rw [w] at e; cases e
  · obtain ⟨t1, f1, n1⟩ := old e m
    exact ⟨j, t1, f1, n1, q⟩
theorem okB_all {ls : List (D ⊕ Nat)} (h : ls.all (okB S) = true) : ∀ i, Sum.inr i ∈ ls → bound S i = true := fun i m => List.all_eq_true.mp h _ m
end
section
variable {X : Cx} {F : Fx} {E : XK} {k n : Nat} {x : Str} {p pos : Pos} {e : Expr} {es : List Expr} {as : List Am} {G : AF}
theorem call_imp {K : PySem.W.Frag} {mg : Str → Option Value} (hl : as.length = n) (nd : (bIdx as).Nodup) : ∀ σ H Q, tOf K mg F E (eCall G as) σ H Q → tCall (spOf K mg n G) [] E (tOfA K mg F E as) σ H Q := by
  intro σ H Q ⟨S, st, q⟩
  refine ⟨S, st, ?_⟩
  unfold eCall at q
  cases ea : evA as S with
  | no => rw [ea] at q; exact q.elim
  | ex k S1 => rw [ea] at q; exact q
  | ok ls S1 =>
    rw [ea] at q
    simp only [Res.bind] at q
    by_cases hb : ls.all (okB S1) = true
    case neg => rw [if_neg hb] at q; exact q.elim
    rw [if_pos hb] at q
    intro vs H1 g r
    rw [List.append_nil]
    have nd' : (bIx ls).Nodup := by rw [evA_bIx ea]; exact nd
    have hh := hands_of g.rst r nd' (okB_all hb)
    refine ⟨ls.map (argOf S1), by rw [List.length_map, ← hl, evA_len ea], hh, ?_⟩
    cases eg : G (ls.map (argOf S1)) with
    | no => rw [eg] at q; exact q
    | ret v outs =>
      rw [eg] at q
      exact fun v' H' b rr => q v' H' (g.trans (go_back g.rst r nd' b)) (rr.cast g.dm)
    | ex c outs =>
      rw [eg] at q
      exact fun cls d H' b rr => q cls d H' (go_back g.rst r nd' b).rst rr
theorem a_call (hh : Has X.prog X.w X.K X.mg X.base x n k G) (hr : Room k X.A) (hg : Gl X x) (hx : Passes (L2N.CX X.prog X.w) X E) (ha : AA X F E (e :: es) as) (hl : as.length = n := by rfl) (nd : (bIdx as).Nodup := by decide)
    (hdb : (x == ("__debug__" : Str)) = false := by decide) (he : starEach (e :: es) X.env = (false, eval e X.env) :: starEach es X.env := by rfl) (hpl : (backTo pos (starEach es X.env)).any (·.1) = false := by rfl) :
    AE X F E (.Call (.Name x p) (e :: es) [] pos) (eCall G as) := by
  obtain ⟨f, fd, ps, h1, h2, h3, h4, h5⟩ := hh
  exact PE_imp (pe_call h5 hr hg h1 h2 h3 .nil hx ha hdb he hpl) (call_imp hl nd)
theorem a_call0 (hh : Has X.prog X.w X.K X.mg X.base x 0 k G) (hr : Room k X.A) (hg : Gl X x) (hx : Passes (L2N.CX X.prog X.w) X E) (hdb : (x == ("__debug__" : Str)) = false := by decide) : AE X F E (.Call (.Name x p) [] [] pos) (eCall G []) := by
  obtain ⟨f, fd, ps, h1, h2, h3, h4, h5⟩ := hh
  refine PE_imp (pe_call0 h5 hr hg h1 h2 h3 .nil hx hdb) fun σ H Q q => ?_
  obtain ⟨S, st, q⟩ := call_imp (as := []) rfl .nil σ H Q q
  exact q [] H (Go.refl st) rfl
end

/-! ### a def by its body -/
/-- the parameters outside lst are given by value -/
def noOw (lst : List Nat) : Nat → Sl → Bool
  | _, [] => true
  | i, s :: S => (match s with
    | .val _ => true
    | .ow _ => decide (i ∈ lst)
    | _ => false) && noOw lst (i + 1) S
theorem noOw_get {lst : List Nat} : ∀ {S : Sl} {k i : Nat} {ds : List D}, noOw lst k S = true → S[i]? = some (.ow ds) → k + i ∈ lst
  | [], _, _, _, _, e => by simp at e
  | s :: S, k, 0, ds, h, e => by
    simp at e
    subst e
    simp only [noOw, Bool.and_eq_true, decide_eq_true_eq] at h
    exact h.1
  | s :: S, k, i + 1, ds, h, e => by
    simp only [List.getElem?_cons_succ] at e
    simp only [noOw, Bool.and_eq_true] at h
    have := noOw_get h.2 e
    rwa [show k + 1 + i = k + (i + 1) by omega] at this
/-- a def: n slots; lst: the parameters whose list it may change -/
def fn (n : Nat) (lst : List Nat) (body : M Fl) : AF := fun args => if noOw lst 0 args = true then mkF n body args else .no
def brwOf (args : Sl) (vs : List V) (i : Nat) : Option Addr := match args[i]?, vs[i]? with
  | some (.ow _), some (.ref a) => some a
  | _, _ => none
theorem brwOf_some {args : Sl} {vs : List V} {i : Nat} {a : Addr} (h : brwOf args vs i = some a) : ∃ ds, args[i]? = some (.ow ds) ∧ vs[i]? = some (.ref a) := by
  unfold brwOf at h
  split at h
  · rename_i ds b h1 h2
    cases h
    exact ⟨ds, h1, h2⟩
  · cases h
section
variable {P : Program} {w : World} {K : PySem.W.Frag} {mg : Str → Option Value} {base : Heap}
theorem start_get {N : List Str} {vs : List V} {i : Nat} (h : i < vs.length) : (L2.start N vs)[i]? = vs[i]?.map some := by
  unfold L2.start
  rw [List.getElem?_append_left (by rw [List.length_map]; exact h), List.getElem?_map]
theorem rst_start {N : List Str} {args : Sl} {vs : List V} {H : Hp} (hh : Hands K mg H args vs) (hl : args.length ≤ N.length) :
    RSt K mg ⟨H, brwOf args vs⟩ (L2.start N vs) H (args ++ List.replicate (N.length - args.length) Sv.un) := by
  have cs : ∀ {j s}, (args ++ List.replicate (N.length - args.length) Sv.un)[j]? = some s → (args[j]? = some s ∧ (L2.start N vs)[j]? = vs[j]?.map some) ∨ s = Sv.un := fun {j s} e => by
    by_cases hj : j < args.length
    · rw [List.getElem?_append_left hj] at e
      exact .inl ⟨e, start_get (by rw [hh.len]; exact hj)⟩
    · rw [List.getElem?_append_right (by omega)] at e
      exact .inr (List.eq_of_mem_replicate (List.mem_of_getElem? e))
  have rv : ∀ {j : Nat} {a : Addr}, vs[j]?.map some = some (some (V.ref a)) → vs[j]? = some (V.ref a) := fun {j a} e => by
    cases q : vs[j]? with
    | none => rw [q] at e; cases e
    | some v => rw [q] at e; cases e; rfl
  refine ⟨?_, fun j s e => ?_, fun i j s t a e1 e2 m1 m2 q1 q2 => ?_, fun j s a e m q => ?_, fun j a e => ?_, fun a o e _ n => e, fun a n => n, Mono.refl _, TbM.refl _⟩
  · unfold L2.start
    rw [List.length_append, List.length_append, List.length_replicate, List.length_replicate, List.length_map, hh.len]
  · rcases cs e with ⟨e, z⟩ | rfl
    · rw [z]; exact (hh.at_ j s e).2
    · exact trivial
  · rcases cs e1 with ⟨e1, z1⟩ | rfl
    · rcases cs e2 with ⟨e2, z2⟩ | rfl
      · rw [z1] at q1
        rw [z2] at q2
        exact hh.inj i j s t a e1 e2 m1 m2 (rv q1) (rv q2)
      · cases m2
    · cases m1
  · rcases cs e with ⟨e, z⟩ | rfl
    · rw [z] at q
      have q := rv q
      obtain ⟨ok, _⟩ := hh.at_ j s e
      cases s with
      | ow ds => exact .inl (by unfold brwOf; simp only [e, q])
      | un => cases m
      | val d => cases m
      | dki _ => cases ok
      | dkt _ => cases ok
    · cases m
  · obtain ⟨ds, e1, e2⟩ := brwOf_some e
    have hj := (List.getElem?_eq_some_iff.mp e1).1
    refine ⟨?_, ?_, ds, .inl ?_⟩
    · rw [start_get (by rw [hh.len]; exact hj), e2]; rfl
    · obtain ⟨_, b, xs, h1, h2, _⟩ := hh.at_ j _ e1
      rw [e2] at h1
      cases h1
      show H a ≠ none
      rw [h2]
      exact fun z => by cases z
    · rw [List.getElem?_append_left hj]; exact e1
theorem outsOf_len : ∀ (n : Nat) (S : Sl), (outsOf n S).length = n
  | 0, _ => rfl
  | n + 1, [] => by rw [outsOf, List.length_cons, outsOf_len n []]
  | n + 1, s :: S => by rw [outsOf, List.length_cons, outsOf_len n S]
theorem outsOf_get : ∀ {n : Nat} {S : Sl} {i : Nat} {s : Sv}, i < n → S[i]? = some s → (outsOf n S)[i]? = some s
  | 0, _, _, _, h, _ => by omega
  | n + 1, [], _, _, _, e => by simp at e
  | n + 1, t :: S, 0, _, _, e => by simpa [outsOf] using e
  | n + 1, t :: S, i + 1, _, h, e => by
    simp only [outsOf, List.getElem?_cons_succ] at e ⊢
    exact outsOf_get (by omega) e
/-- a def keeps the promise of its body's function -/
theorem def_ok {x : Str} {st : Stmt} {f : Addr} {fd : FuncData} {N ps : List Str} {k : Nat} {lst : List Nat} {body : M Fl} (hf : Fun K x x st f fd) (S : FnScope N ps (defScope st)) (hl : ps.length ≤ N.length)
    (h : ∀ (cdv : Value) (A : Around) (outer : List Env) (s : Shared) (H : Hp) (E : XK) (F : Fx), Room k (A.deeper (envOfC x (defScope st) s.heap.objs.size f cdv)) → (∀ i, i ∉ lst → F.brw i = none) → ASs (cxOf (L2N.CX P w) P w K mg base N x (defScope st) f cdv A outer s H E) F E (defBody st) body) :
    FnOk P w K mg base (L2N.CX P w) (k + 1) f fd ps (spOf K mg ps.length (fn N.length lst body)) := by
  obtain ⟨oc, od, kV, doc, pm, an, cdv, ct, osl, rfl, lk, hcd⟩ := hf.ex
  refine fn_of lk hcd S (fun vs H Q E q => ?_) fun A outer s H vs Q E hr ⟨args, hn, hh, q⟩ => ?_
  · obtain ⟨args, hn, hh, _⟩ := q
    rw [hh.len, hn]
  · have hno : noOw lst 0 args = true := by
      cases z : noOw lst 0 args with
      | true => rfl
      | false => unfold fn at q; rw [if_neg (by rw [z]; exact Bool.false_ne_true)] at q; exact q.elim
    have hbr : ∀ i, i ∉ lst → brwOf args vs i = none := fun i hi => by
      cases z : brwOf args vs i with
      | none => rfl
      | some a =>
        obtain ⟨ds, e1, _⟩ := brwOf_some z
        have := noOw_get hno e1
        rw [Nat.zero_add] at this
        exact absurd this hi
    refine ⟨tOfS K mg ⟨H, brwOf args vs⟩ E body, h cdv A outer s H E ⟨H, brwOf args vs⟩ hr hbr, args ++ List.replicate (N.length - args.length) Sv.un, rst_start (N := N) hh (by omega), ?_⟩
    unfold fn at q
    rw [if_pos hno] at q
    unfold mkF at q
    -- behind the body
    have bk : ∀ {σ' : St} {H' : Hp} {S' : Sl}, RSt K mg ⟨H, brwOf args vs⟩ σ' H' S' → Back K mg H H' args (outsOf args.length S') vs := fun {σ' H' S'} r => by
      refine ⟨fun a o e t n => r.frame a o e t fun i z => ?_, r.tabs, r.dom, r.mono, fun i s e m => ?_, ?_⟩
      · obtain ⟨ds, e1, e2⟩ := brwOf_some z
        exact n ⟨i, _, e1, rfl, e2⟩
      · have hi := (List.getElem?_eq_some_iff.mp e).1
        obtain ⟨ok, rv⟩ := hh.at_ i s e
        cases s with
        | un => cases m
        | val d => cases m
        | dki _ => cases ok
        | dkt _ => cases ok
        | ow ds =>
          obtain ⟨a, xs, e1, e2, _⟩ := rv
          have ev : vs[i]? = some (.ref a) := by
            cases z : vs[i]? with
            | none => rw [z] at e1; cases e1
            | some v => rw [z] at e1; cases e1; rfl
          obtain ⟨h1, h2, es, h3⟩ := r.lent i a (show brwOf args vs i = some a by unfold brwOf; simp only [e, ev])
          have tk : ∀ {s}, S'[i]? = some s → (outsOf args.length S')[i]? = some s := fun e => outsOf_get hi e
          rw [ev]
          rcases h3 with h3 | h3
          · refine ⟨_, tk h3, ⟨es, .inl rfl⟩, ?_⟩
            have z := r.at_ i _ h3
            rw [h1] at z
            exact z
          · refine ⟨_, tk h3, ⟨es, .inr rfl⟩, ?_⟩
            have z := r.at_ i _ h3
            rw [h1] at z
            exact z
      · exact outsOf_len _ _
    cases eb : body (args ++ List.replicate (N.length - args.length) .un) with
    | no => rw [eb] at q; exact q.elim
    | ex c S' => rw [eb] at q; exact fun cls d σ' H' r re => q cls d H' (bk r) re
    | ok fl S' =>
      rw [eb] at q
      cases fl with
      | nx => exact fun σ' H' r m => q .non H' (bk r) rfl
      | bk => exact q.elim
      | ct => exact q.elim
      | rt v =>
        intro σ' v' H' r rt
        refine q v' H' (bk r) ?_
        cases v with
        | un => exact rt
        | val d => exact rt
        | ow ds => exact rt
        | dki ds => exact rt
        | dkt ds => exact rt
theorem def_has {x : Str} {st : Stmt} {f : Addr} {fd : FuncData} {N ps : List Str} {k : Nat} {lst : List Nat} {body : M Fl} (hf : Fun K x x st f fd) (hm : mg x = some (.ref f)) (hb : Binds K fd ps []) (S : FnScope N ps (defScope st)) (hl : ps.length ≤ N.length)
    (h : ∀ (cdv : Value) (A : Around) (outer : List Env) (s : Shared) (H : Hp) (E : XK) (F : Fx), Room k (A.deeper (envOfC x (defScope st) s.heap.objs.size f cdv)) → (∀ i, i ∉ lst → F.brw i = none) → ASs (cxOf (L2N.CX P w) P w K mg base N x (defScope st) f cdv A outer s H E) F E (defBody st) body) :
    Has P w K mg base x ps.length (k + 1) (fn N.length lst body) := ⟨f, fd, ps, hm, hf.kp, hb, rfl, def_ok hf S hl h⟩
end
end Rc

/-! Rc: unpacking, parallel assignment, op=, raise, names of the module. -/
namespace Rc
open PySem PySem.Spec PyProof.Rows L2
variable [LamTbl]
section
variable {X : Cx} {F : Fx} {E : XK} {pos : Pos} {e tg : Expr} {m : M Sv} {p : Pat}
theorem as_unp (he : AE X F E e m) (hg : AG X F tg p) (hs : swapsWithSole [tg] e pos.line X.env = pure false := by rfl) (hw : swappedStores [tg] e X.env = pure none := by rfl)
    (h1 : (assignEach [tg] X.env).map (·.2) = [assign tg X.env] := by rfl) : AS X F E (.Assign [tg] e pos) (sUnp p m) := by
  refine PS_imp (ps_asg (a_fz he) hg hs hw h1) fun C σ H ⟨S, st, q⟩ => ⟨S, st, ?_⟩
  have q : OutS X.K X.mg F E C H ((m S).bind fun r S1 => match (toD r).bind fun d => p.put d S1 with | some S2 => .ok .nx S2 | none => .no) := q
  rw [eFz_datum]
  unfold datum
  cases em : m S with
  | no => rw [em] at q; exact q
  | ex k S1 => rw [em] at q; exact fun cls d H' r e => q cls d σ H' r e
  | ok r S1 =>
    rw [em] at q
    simp only [Res.bind] at q ⊢
    cases ed : toD r with
    | none => rw [ed] at q; exact q.elim
    | some d =>
      rw [ed] at q
      simp only [Option.bind_some] at q ⊢
      cases ep : p.put d S1 with
      | none => rw [ep] at q; exact q.elim
      | some S2 =>
        rw [ep] at q
        exact fun v H1 g rv => ⟨S1, d, S2, g.rst, rv, ep, fun σ' u => q σ' H1 u.rst (g.mono st)⟩
/-- a, b = x, y -/
theorem as_par {i j : Nat} {x y : Str} {a b : Expr} {ma mb : M Sv} {px py pt : Pos} {kt k2 pt2} (hbi : F.brw i = none) (hbj : F.brw j = none) (hc : X.calm = true) (hN : X.N.Nodup) (hi : X.N[i]? = some x) (hj : X.N[j]? = some y) (hij : i ≠ j)
    (hx : X.env.scope.names.lookup x = some .local) (hy : X.env.scope.names.lookup y = some .local) (ha : AE X F E a ma) (hb : AE X F E b mb)
    (hw : swappedStores [.Tuple [.Name x px, .Name y py] kt pt] (.Tuple [a, b] k2 pt2) X.env = pure (some [x, y]))
    (hs : swapsWithSole [.Tuple [.Name x px, .Name y py] kt pt] (.Tuple [a, b] k2 pt2) pos.line X.env = pure false := by rfl)
    (hs1 : starEach [a, b] X.env = (false, eval a X.env) :: starEach [b] X.env := by rfl) (hs2 : starEach (b :: []) X.env = (false, eval b X.env) :: starEach [] X.env := by rfl) :
    AS X F E (.Assign [.Tuple [.Name x px, .Name y py] kt pt] (.Tuple [a, b] k2 pt2) pos) (sPar i j ma mb) := by
  refine PS_imp (ps_par hc hN hi hj hij hx hy (pa_cons ha (pa_cons hb pa_nil hs2) hs1) hw hs) fun C σ H ⟨S, st, q⟩ => ⟨S, st, ?_⟩
  have q : OutS X.K X.mg F E C H ((ma S).bind fun x S1 => (mb S1).bind fun y S2 => match x, y with
    | .un, _ => .no
    | _, .un => .no
    | x, y => .ok .nx ((S2.set i x).set j y)) := q
  cases e1 : ma S with
  | no => rw [e1] at q; exact q
  | ex k S1 => rw [e1] at q; exact fun cls d H' r e => q cls d σ H' r e
  | ok r1 S1 =>
    rw [e1] at q
    simp only [Res.bind] at q
    intro v1 H1 g1 rr1
    refine ⟨S1, g1.rst, ?_⟩
    cases e2 : mb S1 with
    | no => rw [e2] at q; exact q
    | ex k S2 => rw [e2] at q; exact fun cls d H' r e => q cls d σ H' r e
    | ok r2 S2 =>
      rw [e2] at q
      simp only at q
      intro v2 H2 g2 rr2
      refine ⟨v1, v2, rfl, ?_⟩
      have g := g1.trans g2
      have s1 : RepR X.K X.mg H H2 r1 v1 := rr1.stay st g1 g2
      have st1 := st.storeR g hbi s1
      -- the second value, behind the first store
      have n0 : ∀ a, H1 a = none → F.H0 a = none := fun a n => by
        cases z : F.H0 a with
        | none => rfl
        | some u => exact absurd n (g1.rst.dom a (by rw [z]; exact fun z => by cases z))
      have no2 : ∀ a, H1 a = none → ¬ Owns (σ.set i (some v1)) (S2.set i r1) a := fun a n ⟨l, t, h1, h2, h3⟩ => by
        by_cases hl : l = i
        · subst hl
          by_cases hlen : l < S2.length
          · rw [List.getElem?_set_self hlen] at h1
            have h1 := Option.some.inj h1
            subst h1
            have hl2 : l < σ.length := by
              have := g.rst.len
              omega
            rw [List.getElem?_set_self hl2] at h3
            have h3 := Option.some.inj (Option.some.inj h3)
            subst h3
            -- v1 lay in H1 already
            have : H1 a ≠ none := by
              cases r1 with
              | un => cases h2
              | val d => cases h2
              | ow ds => obtain ⟨_, e, _, _, _, e4, e5, _⟩ := rr1; cases e; cases e4; rw [e5]; exact fun z => by cases z
              | dki ds => obtain ⟨_, e, _, _, _, e4, e5, _⟩ := rr1; cases e; cases e4; rw [e5]; exact fun z => by cases z
              | dkt ds => obtain ⟨_, e, _, _, _, e4, e5, _⟩ := rr1; cases e; cases e4; rw [e5]; exact fun z => by cases z
            exact this n
          · rw [List.getElem?_eq_none (by rw [List.length_set]; omega)] at h1; cases h1
        · rw [List.getElem?_set_ne (Ne.symm hl)] at h1 h3
          exact g1.rst.fresh_not n (g2.sub a ⟨l, t, h1, h2, h3⟩)
      have fin : RSt X.K X.mg F ((σ.set i (some v1)).set j (some v2)) H2 ((S2.set i r1).set j r2) := by
        cases r2 with
        | un => exact rr2.elim
        | val d => exact st1.store hbj ⟨v2, rfl, rr2⟩ fun a m => by cases m
        | ow ds =>
          obtain ⟨a, rfl, n, x⟩ := rr2
          exact st1.store hbj x fun b _ e => by cases e; exact ⟨n0 a n, no2 a n⟩
        | dki ds =>
          obtain ⟨a, rfl, n, x⟩ := rr2
          exact st1.store hbj x fun b _ e => by cases e; exact ⟨n0 a n, no2 a n⟩
        | dkt ds =>
          obtain ⟨a, rfl, n, x⟩ := rr2
          exact st1.store hbj x fun b _ e => by cases e; exact ⟨n0 a n, no2 a n⟩
      have mo := g.mono st
      cases r1 with
      | un => exact rr1.elim
      | val d1 => cases r2 <;> first | exact rr2.elim | exact q _ H2 fin mo
      | ow d1 => cases r2 <;> first | exact rr2.elim | exact q _ H2 fin mo
      | dki d1 => cases r2 <;> first | exact rr2.elim | exact q _ H2 fin mo
      | dkt d1 => cases r2 <;> first | exact rr2.elim | exact q _ H2 fin mo
/-- x op= e, on ints -/
theorem as_aug {i : Nat} {x : Str} {px : Pos} {op : Operator} {f : Int → Int → Int} {g : D → D → Option Sv} (hbi : F.brw i = none) (hN : X.N.Nodup) (hi : X.N[i]? = some x) (hx : Loc X.env.scope x) (he : AE X F E e m) (ho : PIp X op (ipI f)) (hgf : ∀ a b r, g a b = some r → ∃ k l, a = .int k ∧ b = .int l ∧ r = .val (.int (f k l)))
    (hf : X.fn x = true ∨ X.env.scope.names.lookup x = some .local := by first | exact .inl rfl | exact .inr rfl | assumption) : AS X F E (.AugAssign (.Name x px) op e pos) (sAug i g m) := by
  refine PS_imp (ps_aug hN hi hx he ho hf) fun C σ H ⟨S, st, q⟩ => ?_
  have q : OutS X.K X.mg F E C H (match S[i]? with
    | some (.val a) => (m S).bind fun r S1 => match b2 g (some a) (toD r) with
      | some z => .ok .nx (S1.set i z)
      | none => .no
    | _ => .no) := q
  cases ei : S[i]? with
  | none => rw [ei] at q; exact q.elim
  | some s =>
    rw [ei] at q
    match s, ei, q with
    | .val a, ei, q =>
      obtain ⟨v, ev, rv⟩ := st.at_ i _ ei
      refine ⟨v, ev, S, st, ?_⟩
      cases em : m S with
      | no => rw [em] at q; exact q
      | ex k S1 => rw [em] at q; exact fun cls d H' r e => q cls d σ H' r e
      | ok r S1 =>
        rw [em] at q
        simp only [Res.bind] at q
        intro v1 H1 g1 r1
        cases ed : toD r with
        | none => rw [ed] at q; exact q.elim
        | some d =>
          rw [ed] at q
          simp only [b2, Option.bind_some] at q
          cases eg : g a d with
          | none => rw [eg] at q; exact q.elim
          | some z =>
            rw [eg] at q
            obtain ⟨k, l, rfl, rfl, rfl⟩ := hgf a d z eg
            refine ⟨k, l, rv, RepW.int (r1.toW ed), ?_⟩
            exact q _ H1 (g1.rst.store hbi ⟨_, rfl, rfl⟩ fun a m => by cases m) (g1.mono st)
theorem as_augAdd {i : Nat} {x : Str} {px : Pos} (hbi : F.brw i = none) (hN : X.N.Nodup) (hi : X.N[i]? = some x) (hx : Loc X.env.scope x) (he : AE X F E e m)
    (hf : X.fn x = true ∨ X.env.scope.names.lookup x = some .local := by first | exact .inl rfl | exact .inr rfl | assumption) : AS X F E (.AugAssign (.Name x px) .Add e pos) (sAug i dAddI m) :=
  as_aug hbi hN hi hx he ip_add (fun a b r h => by
    match a, b, h with
    | .int k, .int l, h => exact ⟨k, l, rfl, rfl, (Option.some.inj h).symm⟩) hf
theorem as_augSub {i : Nat} {x : Str} {px : Pos} (hbi : F.brw i = none) (hN : X.N.Nodup) (hi : X.N[i]? = some x) (hx : Loc X.env.scope x) (he : AE X F E e m)
    (hf : X.fn x = true ∨ X.env.scope.names.lookup x = some .local := by first | exact .inl rfl | exact .inr rfl | assumption) : AS X F E (.AugAssign (.Name x px) .Sub e pos) (sAug i dSubI m) :=
  as_aug hbi hN hi hx he ip_sub (fun a b r h => by
    match a, b, h with
    | .int k, .int l, h => exact ⟨k, l, rfl, rfl, (Option.some.inj h).symm⟩) hf
/-- raise C('m') -/
structure ExC (K : PySem.W.Frag) (mg : Str → Option Value) (x : Str) (C : Addr) : Prop where
  g : mg x = some (.ref C)
  x : PySem.W.excIn K C [.type "ValueError", .type "Exception", .type "BaseException", .type "object"] "ValueError.__new__" = true
  k : PySem.W.keepIn K (.ref C) = true
  b : PySem.W.subIn K (.ref C) (.type "BaseException") = some true
  t : PySem.W.typeIn K (.ref C) = some (.type "type")
theorem as_raise {x t : Str} {C : Addr} {j : Nat} {p1 p2 p3 : Pos} (hc : X.calm = true) (tk : L2N.Takes X (fun cls d _ H => E cls d H)) (T : ExC X.K X.mg x C) (hg : Gl X x) (hdb : (x == ("__debug__" : Str)) = false := by decide) :
    AS X F E (.Raise (some (.Call (.Name x p1) [.Constant (.str t) j p2] [] p3)) none pos) (sRaise ⟨x, none⟩) := by
  refine PS_imp (L2N.ps_raise hc tk (L2N.pmk_own PySem.F.excBase_ValueError T.x T.g T.k (raises_own T.b T.t) hg hdb)) fun C' σ H ⟨S, st, q⟩ => ?_
  exact q _ none σ H st ⟨C, T.g, rfl, rfl⟩
/-- a name of the module that stands for an int -/
theorem a_gInt {x : Str} {i : Int} {t : Nat} (hg : Gl X x) (hm : X.mg x = some (.int i t)) (hd : (x == ("__debug__" : Str)) = false := by decide) : AE X F E (.Name x pos) (eLit (.int i)) := a_lit (pe_glob (v := .int i) hg hm ⟨t, rfl⟩ hd) fun _ => rfl
end
end Rc

/-! Rc: slices, chains. -/
namespace Rc
open PySem PySem.Spec PyProof.Rows L2
variable [LamTbl]
section
variable {X : Cx} {F : Fx} {E : XK} {pos p2 : Pos} {a b c : Expr} {oa ob oc : Od}
theorem a_chain {op op' : CmpOp} {r r' : R2} {f g : D → D → Option Sv} (ho : OpR X (compareOp op) r) (hf : Op2 X.K X.mg f r) (ho' : OpR X (compareOp op') r') (hg : Op2 X.K X.mg g r') (ha : AO X F E a oa) (hb : AO X F E b ob) (hc : AO X F E c oc)
    (hm : lastMarks [op, op'] [b, c] = false := by with_unfolding_all rfl) : AE X F E (.Compare a [op, op'] [b, c] pos) (eChain f g oa ob oc) :=
  PE_imp (pe_chain ho ho' (af_of ha) (af_of hb) (af_of hc) hm) (chain_imp hf hg)
theorem at_chain {op op' : CmpOp} {r r' : R2} {f g : D → D → Option Sv} (ho : OpR X (compareOp op) r) (hf : Op2 X.K X.mg f r) (ho' : OpR X (compareOp op') r') (hg : Op2 X.K X.mg g r') (ha : AO X F E a oa) (hb : AO X F E b ob) (hc : AO X F E c oc)
    (hm : lastMarks [op, op'] [b, c] = false := by with_unfolding_all rfl) : AT X F E (.Compare a [op, op'] [b, c] pos) (Rc.tB (eChain f g oa ob oc)) :=
  PT_imp (pt_chain ho ho' (af_of ha) (af_of hb) (af_of hc) hm) (tB_imp (chain_imp hf hg))

/-! ### slices -/
def tOfP (K : PySem.W.Frag) (mg : Str → Option Value) (F : Fx) (E : XK) (m : M (Option Int)) : TO := fun σ H Q => ∃ S, RSt K mg F σ H S ∧ match m S with
  | .ok d S' => ∀ H', Go K mg F σ S H S' H' → Q d H'
  | .ex e S' => ∀ cls d H', RSt K mg F σ H' S' → RepE mg e cls d H' → E cls d H'
  | .no => False
theorem PO_imp {e : Option Expr} {t t' : TO} (h : PO X e t) (i : ∀ σ H Q, t' σ H Q → t σ H Q) : PO X e t' := ⟨fun pins s σ H Q I hw => h.run pins s σ H Q I (i σ H Q hw)⟩
abbrev AP (X : Cx) (F : Fx) (E : XK) (e : Option Expr) (m : M (Option Int)) : Prop := PO X e (tOfP X.K X.mg F E m)
theorem ap_none : AP X F E none (evP none) := PO_imp po_none fun σ H Q ⟨S, st, q⟩ => q H (Go.refl st)
theorem ap_some {m : M Sv} (h : AE X F E a m) : AP X F E (some a) (evP (some m)) := by
  refine PO_imp (po_some h) fun σ H Q ⟨S, st, q⟩ => ⟨S, st, ?_⟩
  simp only [evP] at q
  cases em : m S with
  | no => rw [em] at q; exact q.elim
  | ex k S1 => rw [em] at q; exact q
  | ok r S1 =>
    rw [em] at q
    intro v H' g rr
    match r, q, rr with
    | .val (.int i), q, rr => exact ⟨i, rr, q H' g⟩
def rCut (K : PySem.W.Frag) : V → Option Int → Option Int → Hp → VK → Prop := fun x lo hi H Q => rSlL K x lo hi H Q ∨ rSlA K x lo hi H Q
theorem slr_cut : SlR X (rCut X.K) := SlR.or sl_list sl_tupA
theorem cutV_rep {K : PySem.W.Frag} {mg : Str → Option Value} {H : Hp} {ds : List D} {xs : List V} (h : RepL K mg H ds xs) (lo hi : Option Int) : RepL K mg H (cutD ds lo hi) (cutV xs lo hi) := by
  unfold cutD cutV
  rw [h.length]
  exact RepL.take _ (RepL.drop _ h)
theorem cut_ok {K : PySem.W.Frag} {mg : Str → Option Value} {H : Hp} {x : V} {d : D} {lo hi : Option Int} {res : Sv} {Q : VK} (hf : dCut lo hi d = some res) (hx : RepW K mg H d x) (q : ∀ v H', Same H H' → RepR K mg H H' res v → Q v H') : rCut K x lo hi H Q := by
  match d, hf with
  | .list ds, hf =>
    cases hf
    obtain ⟨a, xs, rfl, s, r⟩ := hx.list
    exact .inl ⟨a, xs, rfl, s.sq, fun p np => q _ _ (same_upd np) ⟨p, rfl, np, p, _, rfl, upd_same, RepL.mono (Mono.of_same (same_upd np)) _ (cutV_rep r lo hi)⟩⟩
  | .tuple ds, hf =>
    cases hf
    obtain ⟨a, xs, rfl, s, r⟩ := hx.tuple
    refine .inr ⟨a, xs, rfl, s, fun hw => ?_, fun _ p np => ?_⟩
    · refine q _ H (Same.refl H) ⟨a, xs, rfl, s, ?_⟩
      have e : cutD ds lo hi = ds := by
        unfold cutD
        rw [r.length] at hw
        rw [hw.1, hw.2]
        simp
      rw [e]
      exact r
    · exact q _ _ (same_upd np) ⟨p, _, rfl, SqT.of upd_same, RepL.mono (Mono.of_same (same_upd np)) _ (cutV_rep r lo hi)⟩
theorem a_cut {lo hi : Option Expr} {ml mh : Option (M Sv)} (ha : AO X F E a oa) (hl : AP X F E lo (evP ml)) (hh : AP X F E hi (evP mh)) : AE X F E (.Subscript a (.Slice lo hi none p2) pos) (eCut oa ml mh) := by
  refine PE_imp (pe_slice slr_cut ha hl hh) fun σ H Q ⟨S, st, q⟩ => ?_
  cases oa with
  | e m =>
    refine ⟨S, st, ?_⟩
    simp only [eCut] at q
    cases em : m S with
    | no => rw [em] at q; exact q.elim
    | ex k S1 => rw [em] at q; exact q
    | ok r S1 =>
      rw [em] at q
      simp only [Res.bind] at q
      intro v1 H1 g1 r1
      refine ⟨S1, g1.rst, ?_⟩
      cases el : evP ml S1 with
      | no => rw [el] at q; exact q.elim
      | ex k S2 => rw [el] at q; exact q
      | ok l S2 =>
        rw [el] at q
        simp only at q
        intro H2 g2
        refine ⟨S2, g2.rst, ?_⟩
        cases eh : evP mh S2 with
        | no => rw [eh] at q; exact q.elim
        | ex k S3 => rw [eh] at q; exact q
        | ok h S3 =>
          rw [eh] at q
          simp only at q
          intro H3 g3
          cases ed : toD r with
          | none => rw [ed] at q; exact q.elim
          | some d =>
            rw [ed] at q
            simp only [Option.bind_some] at q
            cases ef : dCut l h d with
            | none => rw [ef] at q; exact q.elim
            | some res =>
              rw [ef] at q
              have g23 := g2.trans g3
              exact cut_ok ef ((r1.stay st g1 g23).toW ed) fun v H' sm rr => q v H' ((g1.trans g23).trans (Go.of_same g3.rst sm)) (rr.cast (g1.trans g23).dm)
  | v i =>
    simp only [eCut] at q
    cases e0 : rd S i with
    | none => rw [e0] at q; exact q.elim
    | some d0 =>
      rw [e0] at q
      obtain ⟨v, ev, _⟩ := RSt.rd st e0
      refine ⟨v, ev, S, st, ?_⟩
      simp only [Option.isSome_some, if_true] at q
      cases el : evP ml S with
      | no => rw [el] at q; exact q.elim
      | ex k S2 => rw [el] at q; exact q
      | ok l S2 =>
        rw [el] at q
        simp only [Res.bind] at q
        intro H2 g2
        refine ⟨S2, g2.rst, ?_⟩
        cases eh : evP mh S2 with
        | no => rw [eh] at q; exact q.elim
        | ex k S3 => rw [eh] at q; exact q
        | ok h S3 =>
          rw [eh] at q
          simp only at q
          intro H3 g3
          have g23 := g2.trans g3
          cases ed : rd S3 i with
          | none => rw [ed] at q; exact q.elim
          | some d =>
            rw [ed] at q
            simp only [Option.bind_some] at q
            cases ef : dCut l h d with
            | none => rw [ef] at q; exact q.elim
            | some res =>
              rw [ef] at q
              obtain ⟨v', ev', rw'⟩ := RSt.rd g3.rst ed
              rw [ev] at ev'
              cases ev'
              exact cut_ok ef rw' fun v H' sm rr => q v H' (g23.trans (Go.of_same g3.rst sm)) (rr.cast g23.dm)
end
end Rc

/-! Rc: three names at once. -/
namespace Rc
open PySem PySem.Spec PyProof.Rows L2
variable [LamTbl]
section
variable {K : PySem.W.Frag} {mg : Str → Option Value} {F : Fx} {σ : St} {S : Sl} {H H1 : Hp}
/-- a value that may be stored: a list of its own is nobody's -/
structure Lone (K : PySem.W.Frag) (mg : Str → Option Value) (F : Fx) (σ : St) (S : Sl) (H : Hp) (r : Sv) (v : V) : Prop where
  ne : r ≠ .un
  sv : RSv K mg H (some (some v)) r
  own : ∀ a, isMut r = true → v = .ref a → F.H0 a = none ∧ ¬ Owns σ S a
theorem RSt.storeL {i : Nat} {r : Sv} {v : V} (st : RSt K mg F σ H S) (hb : F.brw i = none) (l : Lone K mg F σ S H r v) : RSt K mg F (σ.set i (some v)) H (S.set i r) := st.store hb l.sv l.own
theorem Lone.after {i : Nat} {r r2 : Sv} {v v2 : V} (hl : S.length = σ.length) (l : Lone K mg F σ S H r v) (d : ∀ a, isMut r = true → isMut r2 = true → v = .ref a → v2 = .ref a → False) : Lone K mg F (σ.set i (some v2)) (S.set i r2) H r v :=
  ⟨l.ne, l.sv, fun a m e => ⟨(l.own a m e).1, fun ⟨j, t, h1, h2, h3⟩ => by
    by_cases hj : j = i
    · subst hj
      by_cases hlen : j < S.length
      · rw [List.getElem?_set_self hlen] at h1
        have h1 := Option.some.inj h1
        subst h1
        rw [List.getElem?_set_self (by omega)] at h3
        exact d a m h2 e (Option.some.inj (Option.some.inj h3))
      · rw [List.getElem?_eq_none (by rw [List.length_set]; omega)] at h1; cases h1
    · rw [List.getElem?_set_ne (Ne.symm hj)] at h1 h3
      exact (l.own a m e).2 ⟨j, t, h1, h2, h3⟩⟩⟩
theorem RepR.lone {S1 : Sl} {r : Sv} {v : V} (st : RSt K mg F σ H S) (g : Go K mg F σ S H S1 H1) (h : RepR K mg H H1 r v) : Lone K mg F σ S1 H1 r v := by
  have n0 : ∀ a, H a = none → F.H0 a = none := fun a n => by
    cases q : F.H0 a with
    | none => rfl
    | some u => exact absurd n (st.dom a (by rw [q]; exact fun z => by cases z))
  cases r with
  | un => exact h.elim
  | val d => exact ⟨(by intro z; cases z), ⟨v, rfl, h⟩, fun a m => by cases m⟩
  | ow ds => obtain ⟨a, rfl, n, x⟩ := h; exact ⟨(by intro z; cases z), x, fun b _ e => by cases e; exact ⟨n0 a n, fun z => st.fresh_not n (g.sub a z)⟩⟩
  | dki ds => obtain ⟨a, rfl, n, x⟩ := h; exact ⟨(by intro z; cases z), x, fun b _ e => by cases e; exact ⟨n0 a n, fun z => st.fresh_not n (g.sub a z)⟩⟩
  | dkt ds => obtain ⟨a, rfl, n, x⟩ := h; exact ⟨(by intro z; cases z), x, fun b _ e => by cases e; exact ⟨n0 a n, fun z => st.fresh_not n (g.sub a z)⟩⟩
theorem RepR.there {r : Sv} {v : V} (h : RepR K mg H H1 r v) : ∀ a, isMut r = true → v = .ref a → H a = none ∧ H1 a ≠ none := fun a m e => by
  cases r with
  | un => cases m
  | val d => cases m
  | ow ds => obtain ⟨b, rfl, n, c, xs, e1, e2, _⟩ := h; cases e; cases e1; exact ⟨n, by rw [e2]; exact fun z => by cases z⟩
  | dki ds => obtain ⟨b, rfl, n, c, xs, e1, e2, _⟩ := h; cases e; cases e1; exact ⟨n, by rw [e2]; exact fun z => by cases z⟩
  | dkt ds => obtain ⟨b, rfl, n, c, xs, e1, e2, _⟩ := h; cases e; cases e1; exact ⟨n, by rw [e2]; exact fun z => by cases z⟩
end
section
variable {X : Cx} {F : Fx} {E : XK} {pos : Pos}
theorem s_par3 (i j l : Nat) {x y z : Str} {a b c : Expr} {ma mb mc : M Sv} {px py pz pt : Pos} {kt k2 pt2} (hbi : F.brw i = none) (hbj : F.brw j = none) (hbl : F.brw l = none) (hc : X.calm = true) (hN : X.N.Nodup) (ha : AE X F E a ma) (hb : AE X F E b mb) (hcc : AE X F E c mc)
    (hi : X.N[i]? = some x := by rfl) (hj : X.N[j]? = some y := by rfl) (hl : X.N[l]? = some z := by rfl) (hij : i ≠ j := by decide) (hil : i ≠ l := by decide) (hjl : j ≠ l := by decide)
    (hx : X.env.scope.names.lookup x = some .local := by rfl) (hy : X.env.scope.names.lookup y = some .local := by rfl) (hz : X.env.scope.names.lookup z = some .local := by rfl)
    (hw : swappedStores [.Tuple [.Name x px, .Name y py, .Name z pz] kt pt] (.Tuple [a, b, c] k2 pt2) X.env = pure (some [x, y, z]) := by rfl)
    (hs : swapsWithSole [.Tuple [.Name x px, .Name y py, .Name z pz] kt pt] (.Tuple [a, b, c] k2 pt2) pos.line X.env = pure false := by rfl)
    (hs1 : starEach [a, b, c] X.env = (false, eval a X.env) :: starEach [b, c] X.env := by rfl) (hs2 : starEach (b :: [c]) X.env = (false, eval b X.env) :: starEach [c] X.env := by rfl) (hs3 : starEach (c :: []) X.env = (false, eval c X.env) :: starEach [] X.env := by rfl) :
    AS X F E (.Assign [.Tuple [.Name x px, .Name y py, .Name z pz] kt pt] (.Tuple [a, b, c] k2 pt2) pos) (sPar3 i j l ma mb mc) := by
  refine PS_imp (ps_par3 hc hN hi hj hl hij hil hjl hx hy hz (pa_cons ha (pa_cons hb (pa_cons hcc pa_nil hs3) hs2) hs1) hw hs) fun C σ H ⟨S, st, q⟩ => ⟨S, st, ?_⟩
  have q : OutS X.K X.mg F E C H ((ma S).bind fun x S1 => (mb S1).bind fun y S2 => (mc S2).bind fun z S3 => .ok .nx (((S3.set i x).set j y).set l z)) := q
  cases e1 : ma S with
  | no => rw [e1] at q; exact q
  | ex k S1 => rw [e1] at q; exact fun cls d H' r e => q cls d σ H' r e
  | ok r1 S1 =>
    rw [e1] at q
    simp only [Res.bind] at q
    intro v1 H1 g1 rr1
    refine ⟨S1, g1.rst, ?_⟩
    cases e2 : mb S1 with
    | no => rw [e2] at q; exact q
    | ex k S2 => rw [e2] at q; exact fun cls d H' r e => q cls d σ H' r e
    | ok r2 S2 =>
      rw [e2] at q
      simp only at q
      intro v2 H2 g2 rr2
      refine ⟨S2, g2.rst, ?_⟩
      cases e3 : mc S2 with
      | no => rw [e3] at q; exact q
      | ex k S3 => rw [e3] at q; exact fun cls d H' r e => q cls d σ H' r e
      | ok r3 S3 =>
        rw [e3] at q
        simp only at q
        intro v3 H3 g3 rr3
        refine ⟨v1, v2, v3, rfl, ?_⟩
        have g23 := g2.trans g3
        have g := g1.trans g23
        have l1 := (rr1.stay st g1 g23).lone st g
        have l2 := (rr2.stay g1.rst g2 g3).lone g1.rst g23
        have l3 := rr3.lone g2.rst g3
        have d21 : ∀ a, isMut r2 = true → isMut r1 = true → v2 = .ref a → v1 = .ref a → False := fun a m m' e e' => (rr1.there a m' e').2 (rr2.there a m e).1
        have d31 : ∀ a, isMut r3 = true → isMut r1 = true → v3 = .ref a → v1 = .ref a → False := fun a m m' e e' => g2.dm a (rr1.there a m' e').2 (rr3.there a m e).1
        have d32 : ∀ a, isMut r3 = true → isMut r2 = true → v3 = .ref a → v2 = .ref a → False := fun a m m' e e' => (rr2.there a m' e').2 (rr3.there a m e).1
        have s1 := g.rst.storeL hbi l1
        have s2 := s1.storeL hbj (l2.after g.rst.len d21)
        have s3 := s2.storeL hbl ((l3.after g.rst.len d31).after s1.len d32)
        exact q _ H3 s3 (g.mono st)
end
end Rc

/-! Rc: the forms that a printed derivation uses. -/
namespace Rc
open PySem PySem.Spec PyProof.Rows L2
variable [LamTbl]
section
variable {X : Cx} {F : Fx} {E : XK} {pos p p2 p3 : Pos} {a b c e : Expr} {oa ob oc : Od} {m n o : M Sv} {x : Str} {j : Nat}
theorem v_ (i : Nat) (hN : X.N[i]? = some x := by rfl) (hv : Vis X.env.scope x := by first | exact Or.inl rfl | exact Or.inr (Or.inl rfl) | exact Or.inr (Or.inr rfl)) (hd : (x == ("__debug__" : Str)) = false := by decide) (hcd : (x == ("__classdict__" : Str)) = false := by decide) : AO X F E (.Name x pos) (.v i) := ao_v hN hv hd hcd
theorem k_ (i : Nat) (hN : X.N[i]? = some x := by rfl) (hv : Vis X.env.scope x := by first | exact Or.inl rfl | exact Or.inr (Or.inl rfl) | exact Or.inr (Or.inr rfl)) (hd : (x == ("__debug__" : Str)) = false := by decide) (hcd : (x == ("__classdict__" : Str)) = false := by decide) : AE X F E (.Name x pos) (eV i) := a_v hN hv hd hcd
theorem e_ (h : AE X F E e m) : AO X F E e (.e m) := h
theorem g_ (i : Nat) (hb : F.brw i = none) (hN : X.N.Nodup) (hi : X.N[i]? = some x := by rfl) (hx : Loc X.env.scope x := by first | exact Or.inl rfl | exact Or.inr rfl) (hf : X.fn x = true ∨ X.env.scope.names.lookup x = some .local := by first | exact .inl rfl | exact .inr rfl) : AG X F (.Name x pos) (.n i) := ag_name hb hN hi hx hf
theorem s_set (i : Nat) (hb : F.brw i = none) (hN : X.N.Nodup) (he : AE X F E e m) (hi : X.N[i]? = some x := by rfl) (hx : Loc X.env.scope x := by first | exact Or.inl rfl | exact Or.inr rfl) (hs : swapsWith e (some (.Name x p)) pos.line X.env = pure false := by rfl)
    (hf : X.fn x = true ∨ X.env.scope.names.lookup x = some .local := by first | exact .inl rfl | exact .inr rfl) : AS X F E (.Assign [.Name x p] e pos) (sSet i m) := as_set hb hN hi hx he hs hf
theorem s_retV (i : Nat) (hb : F.brw i = none) (hN : X.N[i]? = some x := by rfl) (hv : Vis X.env.scope x := by first | exact Or.inl rfl | exact Or.inr (Or.inl rfl) | exact Or.inr (Or.inr rfl)) (hd : (x == ("__debug__" : Str)) = false := by decide) (hcd : (x == ("__classdict__" : Str)) = false := by decide) : AS X F E (.Return (some (.Name x p)) pos) (sRetV i) := as_retV hb hN hv hd hcd
theorem s_setIx (i : Nat) {k : Expr} {mk : M Sv} (he : AE X F E e m) (hk : AE X F E k mk) (hN : X.N[i]? = some x := by rfl) (hv : Vis X.env.scope x := by first | exact Or.inl rfl | exact Or.inr (Or.inl rfl) | exact Or.inr (Or.inr rfl)) (hd : (x == ("__debug__" : Str)) = false := by decide) (hcd : (x == ("__classdict__" : Str)) = false := by decide)
    (ha : ∀ v, assign (.Subscript (.Name x p) k p2) X.env v = (do
      let ov ← holding [v] (eval (.Name x p) X.env)
      let iv ← holding [v, ov] (eval k X.env)
      standAt p2
      holding [v, ov, iv] (setItem ov iv v)
      release [v, ov, iv] []) := by intro _; rfl)
    (hs : swapsWithSole [.Subscript (.Name x p) k p2] e pos.line X.env = pure false := by rfl) (hw : swappedStores [.Subscript (.Name x p) k p2] e X.env = pure none := by rfl)
    (h1 : (assignEach [.Subscript (.Name x p) k p2] X.env).map (·.2) = [assign (.Subscript (.Name x p) k p2) X.env] := by rfl) : AS X F E (.Assign [.Subscript (.Name x p) k p2] e pos) (sSetIx i mk m) := as_setIx he hk hN hv hd hcd ha hs hw h1
theorem s_par (i l : Nat) {y : Str} {py pt px : Pos} {kt k2 pt2} (hbi : F.brw i = none) (hbj : F.brw l = none) (hc : X.calm = true) (hN : X.N.Nodup) (ha : AE X F E a m) (hb : AE X F E b n) (hi : X.N[i]? = some x := by rfl) (hj : X.N[l]? = some y := by rfl) (hij : i ≠ l := by decide)
    (hx : X.env.scope.names.lookup x = some .local := by rfl) (hy : X.env.scope.names.lookup y = some .local := by rfl)
    (hw : swappedStores [.Tuple [.Name x px, .Name y py] kt pt] (.Tuple [a, b] k2 pt2) X.env = pure (some [x, y]) := by rfl)
    (hs : swapsWithSole [.Tuple [.Name x px, .Name y py] kt pt] (.Tuple [a, b] k2 pt2) pos.line X.env = pure false := by rfl)
    (hs1 : starEach [a, b] X.env = (false, eval a X.env) :: starEach [b] X.env := by rfl) (hs2 : starEach (b :: []) X.env = (false, eval b X.env) :: starEach [] X.env := by rfl) :
    AS X F E (.Assign [.Tuple [.Name x px, .Name y py] kt pt] (.Tuple [a, b] k2 pt2) pos) (sPar i l m n) := as_par hbi hbj hc hN hi hj hij hx hy ha hb hw hs hs1 hs2
theorem s_augAdd (i : Nat) (hbi : F.brw i = none) (hN : X.N.Nodup) (he : AE X F E e m) (hi : X.N[i]? = some x := by rfl) (hx : Loc X.env.scope x := by first | exact Or.inl rfl | exact Or.inr rfl)
    (hf : X.fn x = true ∨ X.env.scope.names.lookup x = some .local := by first | exact .inl rfl | exact .inr rfl) : AS X F E (.AugAssign (.Name x p) .Add e pos) (sAug i dAddI m) := as_augAdd hbi hN hi hx he hf
theorem s_augSub (i : Nat) (hbi : F.brw i = none) (hN : X.N.Nodup) (he : AE X F E e m) (hi : X.N[i]? = some x := by rfl) (hx : Loc X.env.scope x := by first | exact Or.inl rfl | exact Or.inr rfl)
    (hf : X.fn x = true ∨ X.env.scope.names.lookup x = some .local := by first | exact .inl rfl | exact .inr rfl) : AS X F E (.AugAssign (.Name x p) .Sub e pos) (sAug i dSubI m) := as_augSub hbi hN hi hx he hf
/-- an argument that is a name: lent -/
theorem b_ (i : Nat) {es : List Expr} {as : List Am} (hr : AA X F E es as) (hN : X.N[i]? = some x := by rfl) (hv : Vis X.env.scope x := by first | exact Or.inl rfl | exact Or.inr (Or.inl rfl) | exact Or.inr (Or.inr rfl)) (hd : (x == ("__debug__" : Str)) = false := by decide) (hcd : (x == ("__classdict__" : Str)) = false := by decide)
    (hs : starEach (.Name x p :: es) X.env = (false, eval (.Name x p) X.env) :: starEach es X.env := by rfl) : AA X F E (.Name x p :: es) (.b i :: as) := aa_b hN hv hr hd hcd hs

/-! ### comparisons -/
theorem c_lt (ha : AO X F E a oa) (hb : AO X F E b ob) : AE X F E (.Compare a [.Lt] [b] pos) (eOp2 dLt oa ob) := a_cmp op_lt op2_lt ha hb (nomark _)
theorem c_le (ha : AO X F E a oa) (hb : AO X F E b ob) : AE X F E (.Compare a [.LtE] [b] pos) (eOp2 dLe oa ob) := a_cmp op_le op2_le ha hb (nomark _)
theorem c_gt (ha : AO X F E a oa) (hb : AO X F E b ob) : AE X F E (.Compare a [.Gt] [b] pos) (eOp2 dGt oa ob) := a_cmp op_gt op2_gt ha hb (nomark _)
theorem c_ge (ha : AO X F E a oa) (hb : AO X F E b ob) : AE X F E (.Compare a [.GtE] [b] pos) (eOp2 dGe oa ob) := a_cmp op_ge op2_ge ha hb (nomark _)
theorem c_eq {k : Nat} (hr : Room k X.A) (ha : AO X F E a oa) (hb : AO X F E b ob) : AE X F E (.Compare a [.Eq] [b] pos) (eOp2 dEq oa ob) := a_cmp (op_eqD hr.units) op2_eq ha hb (nomark _)
theorem c_ne {k : Nat} (hr : Room k X.A) (ha : AO X F E a oa) (hb : AO X F E b ob) : AE X F E (.Compare a [.NotEq] [b] pos) (eOp2 dNe oa ob) := a_cmp (op_neD hr.units) op2_ne ha hb (nomark _)
theorem t_lt (ha : AO X F E a oa) (hb : AO X F E b ob) : AT X F E (.Compare a [.Lt] [b] pos) (Rc.tB (eOp2 dLt oa ob)) := at_cmp op_lt op2_lt ha hb (nomark _)
theorem t_le (ha : AO X F E a oa) (hb : AO X F E b ob) : AT X F E (.Compare a [.LtE] [b] pos) (Rc.tB (eOp2 dLe oa ob)) := at_cmp op_le op2_le ha hb (nomark _)
theorem t_gt (ha : AO X F E a oa) (hb : AO X F E b ob) : AT X F E (.Compare a [.Gt] [b] pos) (Rc.tB (eOp2 dGt oa ob)) := at_cmp op_gt op2_gt ha hb (nomark _)
theorem t_ge (ha : AO X F E a oa) (hb : AO X F E b ob) : AT X F E (.Compare a [.GtE] [b] pos) (Rc.tB (eOp2 dGe oa ob)) := at_cmp op_ge op2_ge ha hb (nomark _)
theorem t_eq {k : Nat} (hr : Room k X.A) (ha : AO X F E a oa) (hb : AO X F E b ob) : AT X F E (.Compare a [.Eq] [b] pos) (Rc.tB (eOp2 dEq oa ob)) := at_cmp (op_eqD hr.units) op2_eq ha hb (nomark _)
theorem t_ne {k : Nat} (hr : Room k X.A) (ha : AO X F E a oa) (hb : AO X F E b ob) : AT X F E (.Compare a [.NotEq] [b] pos) (Rc.tB (eOp2 dNe oa ob)) := at_cmp (op_neD hr.units) op2_ne ha hb (nomark _)
theorem op1_isN' {K : PySem.W.Frag} {mg : Str → Option Value} : Op1 K mg dIsN (fun x H Q => (V.non = V.non) ∧ Q (.bl (decide (x = .non))) H) := fun H x d res Q hf hx q => ⟨rfl, op1_isN H x d res Q hf hx q⟩
theorem op1_notN' {K : PySem.W.Frag} {mg : Str → Option Value} : Op1 K mg dNotN (fun x H Q => (V.non = V.non) ∧ Q (.bl (!decide (x = .non))) H) := fun H x d res Q hf hx q => ⟨rfl, op1_notN H x d res Q hf hx q⟩
theorem c_isN (ha : AO X F E a oa) : AE X F E (.Compare a [.Is] [.Constant .none j p2] pos) (eOp1 dIsN oa) := PE_imp (pe_cmpR op_isN ha pe_non (nomark _)) fun σ H Q q => imp1 op1_isN' oa σ H Q q
theorem c_notN (ha : AO X F E a oa) : AE X F E (.Compare a [.IsNot] [.Constant .none j p2] pos) (eOp1 dNotN oa) := PE_imp (pe_cmpR op_notN ha pe_non (nomark _)) fun σ H Q q => imp1 op1_notN' oa σ H Q q
theorem t_isN (ha : AO X F E a oa) : AT X F E (.Compare a [.Is] [.Constant .none j p2] pos) (Rc.tB (eOp1 dIsN oa)) := PT_imp (pt_cmpR op_isN ha pe_non (nomark _)) (tB_imp fun σ H Q q => imp1 op1_isN' oa σ H Q q)
theorem t_notN (ha : AO X F E a oa) : AT X F E (.Compare a [.IsNot] [.Constant .none j p2] pos) (Rc.tB (eOp1 dNotN oa)) := PT_imp (pt_cmpR op_notN ha pe_non (nomark _)) (tB_imp fun σ H Q q => imp1 op1_notN' oa σ H Q q)

/-! ### built-in functions -/
theorem f_len (hm : X.mg "len" = none) (ha : AO X F E a oa) (hg : Gl X "len" := by rfl) (he : starEach (a :: []) X.env = (false, eval a X.env) :: starEach [] X.env := by rfl) : AE X F E (.Call (.Name "len" p) [a] [] pos) (eOp1 dLen oa) :=
  a_b1 call_len_seq cl_len hg hm PySem.boot_len ha (by decide) (by decide) he rfl
theorem f_abs (hm : X.mg "abs" = none) (ha : AO X F E a oa) (hg : Gl X "abs" := by rfl) (he : starEach (a :: []) X.env = (false, eval a X.env) :: starEach [] X.env := by rfl) : AE X F E (.Call (.Name "abs" p) [a] [] pos) (eOp1 dAbs oa) :=
  a_b1 call_abs cl_abs hg hm (by decide +kernel) ha (by decide) (by decide) he rfl
theorem f_sum (hc : X.calm = true) (hm : X.mg "sum" = none) (ha : AO X F E a oa) (hg : Gl X "sum" := by rfl) (he : starEach (a :: []) X.env = (false, eval a X.env) :: starEach [] X.env := by rfl) : AE X F E (.Call (.Name "sum" p) [a] [] pos) (eOp1 dSum oa) :=
  a_b1 (CallR.or (cr_sum hc) (cr_sumT hc)) cl_sum hg hm (by decide +kernel) ha (by decide) (by decide) he rfl
theorem f_all (hc : X.calm = true) (hm : X.mg "all" = none) (ha : AO X F E a oa) (hg : Gl X "all" := by rfl) (he : starEach (a :: []) X.env = (false, eval a X.env) :: starEach [] X.env := by rfl) : AE X F E (.Call (.Name "all" p) [a] [] pos) (eOp1 dAll oa) :=
  a_b1 (cr_all hc) cl_all hg hm (by decide +kernel) ha (by decide) (by decide) he rfl
theorem f_max (hc : X.calm = true) (hm : X.mg "max" = none) (ha : AO X F E a oa) (hg : Gl X "max" := by rfl) (he : starEach (a :: []) X.env = (false, eval a X.env) :: starEach [] X.env := by rfl) : AE X F E (.Call (.Name "max" p) [a] [] pos) (eOp1 dMax oa) :=
  a_b1 (cr_max hc) cl_max hg hm (by decide +kernel) ha (by decide) (by decide) he rfl
theorem f_min (hc : X.calm = true) (hm : X.mg "min" = none) (ha : AO X F E a oa) (hg : Gl X "min" := by rfl) (he : starEach (a :: []) X.env = (false, eval a X.env) :: starEach [] X.env := by rfl) : AE X F E (.Call (.Name "min" p) [a] [] pos) (eOp1 dMin oa) :=
  a_b1 (cr_min hc) cl_min hg hm (by decide +kernel) ha (by decide) (by decide) he rfl
theorem f_max2 (hc : X.calm = true) (hm : X.mg "max" = none) (ha : AO X F E a oa) (hb : AO X F E b ob) (hg : Gl X "max" := by rfl) (he : starEach (a :: b :: []) X.env = (false, eval a X.env) :: starEach [b] X.env := by rfl) (he2 : starEach (b :: []) X.env = (false, eval b X.env) :: starEach [] X.env := by rfl) (hpl : (backTo pos (starEach [b] X.env)).any (·.1) = false := by rfl) :
    AE X F E (.Call (.Name "max" p) [a, b] [] pos) (eOp2 dMax2 oa ob) := a_b2 (call_max2 hc) cl_max2 hg hm (by decide +kernel) ha hb (by decide) (by decide) he he2 hpl
theorem f_min2 (hc : X.calm = true) (hm : X.mg "min" = none) (ha : AO X F E a oa) (hb : AO X F E b ob) (hg : Gl X "min" := by rfl) (he : starEach (a :: b :: []) X.env = (false, eval a X.env) :: starEach [b] X.env := by rfl) (he2 : starEach (b :: []) X.env = (false, eval b X.env) :: starEach [] X.env := by rfl) (hpl : (backTo pos (starEach [b] X.env)).any (·.1) = false := by rfl) :
    AE X F E (.Call (.Name "min" p) [a, b] [] pos) (eOp2 dMin2 oa ob) := a_b2 (call_min2 hc) cl_min2 hg hm (by decide +kernel) ha hb (by decide) (by decide) he he2 hpl
theorem f_tuple (hm : X.mg "tuple" = none) (ha : AO X F E a oa) (hg : Gl X "tuple" := by rfl) (he : starEach (a :: []) X.env = (false, eval a X.env) :: starEach [] X.env := by rfl) : AE X F E (.Call (.Name "tuple" p) [a] [] pos) (eOp1 dTuple oa) :=
  a_t1 call_tuple_of cl_tuple hg hm (by decide +kernel) ha (by decide) (by decide) he rfl
theorem f_list (hm : X.mg "list" = none) (ha : AO X F E a oa) (hg : Gl X "list" := by rfl) (he : starEach (a :: []) X.env = (false, eval a X.env) :: starEach [] X.env := by rfl) : AE X F E (.Call (.Name "list" p) [a] [] pos) (eOp1 dList oa) :=
  a_t1 call_list_of cl_list hg hm (by decide +kernel) ha (by decide) (by decide) he rfl
theorem f_isi {y : Str} (T : Ty) (hm : X.mg "isinstance" = none) (hmy : X.mg y = none) (ha : AO X F E a oa) (hy : bootBuiltins y = some (.type T.nm) := by decide +kernel) (hg : Gl X "isinstance" := by rfl) (hgy : Gl X y := by rfl) (hn : y ≠ "__name__" := by decide) (hdb : (y == ("__debug__" : Str)) = false := by decide)
    (he : starEach (a :: [.Name y p2]) X.env = (false, eval a X.env) :: starEach [.Name y p2] X.env := by rfl) (hpl : (backTo pos (starEach [.Name y p2] X.env)).any (·.1) = false := by rfl) : AE X F E (.Call (.Name "isinstance" p) [a, .Name y p2] [] pos) (eOp1 (dIsi T) oa) := a_isi T hg hm hgy hmy hy ha hn hdb he hpl
theorem w_range1 {tg : Expr} (hm : X.mg "range" = none) (ha : AL X F E [e] (evL [m])) (hg : Gl X "range" := by rfl) (hs : starEach [e] X.env = [(false, eval e X.env)] := by rfl) : AI X F E tg (.Call (.Name "range" p) [e] [] pos) (wRng1 m) := ai_rng1 hg hm ha hs
theorem w_range2 {tg : Expr} (hm : X.mg "range" = none) (ha : AL X F E [a, b] (evL [m, n])) (hg : Gl X "range" := by rfl) (hs : starEach [a, b] X.env = [(false, eval a X.env), (false, eval b X.env)] := by rfl) (hs2 : starEach [b] X.env = [(false, eval b X.env)] := by rfl) : AI X F E tg (.Call (.Name "range" p) [a, b] [] pos) (wRng2 m n) := ai_rng2 hg hm ha hs hs2
theorem w_enum {tpos : Pos} {elts : List Expr} {kk : Nat} (hm : X.mg "enumerate" = none) (ha : AE X F E e m) (hg : Gl X "enumerate" := by rfl) (hs : starEach [e] X.env = [(false, eval e X.env)] := by rfl) (hs2 : starEach (e :: []) X.env = (false, eval e X.env) :: starEach [] X.env := by rfl) : AI X F E (.Tuple elts kk tpos) (.Call (.Name "enumerate" p) [e] [] pos) (wEnum m) := ai_enum hg hm ha hs hs2
theorem w_zip2 {tpos : Pos} {elts : List Expr} {kk : Nat} (hm : X.mg "zip" = none) (ha : AL X F E [a, b] (evL [m, n])) (hg : Gl X "zip" := by rfl) (hs : starEach [a, b] X.env = (false, eval a X.env) :: starEach [b] X.env := by rfl) (hpl : (backTo pos (starEach [b] X.env)).any (·.1) = false := by rfl) : AI X F E (.Tuple elts kk tpos) (.Call (.Name "zip" p) [a, b] [] pos) (wZip2 m n) := ai_zip2 hg hm ha hs hpl
theorem w_zip3 {tpos : Pos} {elts : List Expr} {kk : Nat} (hm : X.mg "zip" = none) (ha : AL X F E [a, b, c] (evL [m, n, o])) (hg : Gl X "zip" := by rfl) (hs : starEach [a, b, c] X.env = (false, eval a X.env) :: starEach [b, c] X.env := by rfl) (hpl : (backTo pos (starEach [b, c] X.env)).any (·.1) = false := by rfl) : AI X F E (.Tuple elts kk tpos) (.Call (.Name "zip" p) [a, b, c] [] pos) (wZip3 m n o) := ai_zip3 hg hm ha hs hpl
theorem j_n (i : Nat) {tg : Expr} (hN : X.N[i]? = some x := by rfl) (hv : Vis X.env.scope x := by first | exact Or.inl rfl | exact Or.inr (Or.inl rfl) | exact Or.inr (Or.inr rfl)) (hd : (x == ("__debug__" : Str)) = false := by decide) (hcd : (x == ("__classdict__" : Str)) = false := by decide) : AJ X F E tg (.Name x p) (wN i id) (ckN i) [i] := aj_n hN hv hd hcd
theorem j_ne (i : Nat) {tpos : Pos} {elts : List Expr} {kk : Nat} (hm : X.mg "enumerate" = none) (hg : Gl X "enumerate" := by rfl) (hN : X.N[i]? = some x := by rfl) (hv : Vis X.env.scope x := by first | exact Or.inl rfl | exact Or.inr (Or.inl rfl) | exact Or.inr (Or.inr rfl)) (hd : (x == ("__debug__" : Str)) = false := by decide) (hcd : (x == ("__classdict__" : Str)) = false := by decide) (hs : ∀ q, starEach [.Name x q] X.env = [(false, eval (.Name x q) X.env)] := by intro _; rfl) (hs2 : ∀ q, starEach (.Name x q :: []) X.env = (false, eval (.Name x q) X.env) :: starEach [] X.env := by intro _; rfl) :
    AJ X F E (.Tuple elts kk tpos) (.Call (.Name "enumerate" p) [.Name x p2] [] pos) (wN i (enumF 0)) (ckN i) [i] := aj_ne hg hm hN hv hd hcd hs hs2
/-- a call of a def -/
theorem f_call {k n : Nat} {es : List Expr} {as : List Am} {G : AF} (hh : Has X.prog X.w X.K X.mg X.base x n k G) (hr : Room k X.A) (hx : Passes (L2N.CX X.prog X.w) X E) (ha : AA X F E (e :: es) as) (hg : Gl X x := by rfl) (hl : as.length = n := by rfl) (nd : (bIdx as).Nodup := by decide)
    (hdb : (x == ("__debug__" : Str)) = false := by decide) (he : starEach (e :: es) X.env = (false, eval e X.env) :: starEach es X.env := by rfl) (hpl : (backTo pos (starEach es X.env)).any (·.1) = false := by rfl) :
    AE X F E (.Call (.Name x p) (e :: es) [] pos) (eCall G as) := a_call hh hr hg hx ha hl nd hdb he hpl
theorem f_call0 {k : Nat} {G : AF} (hh : Has X.prog X.w X.K X.mg X.base x 0 k G) (hr : Room k X.A) (hx : Passes (L2N.CX X.prog X.w) X E) (hg : Gl X x := by rfl) (hdb : (x == ("__debug__" : Str)) = false := by decide) : AE X F E (.Call (.Name x p) [] [] pos) (eCall G []) := a_call0 hh hr hg hx hdb
theorem f_gInt {i : Int} (hm : ∃ t, X.mg x = some (.int i t)) (hg : Gl X x := by rfl) (hd : (x == ("__debug__" : Str)) = false := by decide) : AE X F E (.Name x pos) (eLit (.int i)) := by
  obtain ⟨t, hm⟩ := hm
  exact a_gInt hg hm hd
theorem s_raise {t : Str} {k : Nat} {p1 p4 : Pos} (hc : X.calm = true) (tk : L2N.Takes X (fun cls d _ H => E cls d H)) (T : ∃ C, ExC X.K X.mg x C) (hg : Gl X x := by rfl) (hdb : (x == ("__debug__" : Str)) = false := by decide) :
    AS X F E (.Raise (some (.Call (.Name x p1) [.Constant (.str t) k p2] [] p3)) none p4) (sRaise ⟨x, none⟩) := by
  obtain ⟨C, T⟩ := T
  exact as_raise hc tk T hg hdb
theorem w_lc {tg iter elt : Expr} {ifs : List Expr} {w : M (List D)} {pt : Pat} {mc : M Bool} {me : M Sv} {scope : Scope} {ck : Ck} {sl : List Nat} (own : List (Str × Nat)) (hc : X.calm = true) (hN : X.N.Nodup) (hi : AJ X F E tg iter w ck sl) (hb : ∀ i ∈ own.map (·.2), F.brw i = none)
    (hg : ∀ (s : Shared) (H : Hp) (C : Addr) (cl : List (Str × Addr)) (fp : List Addr), AG (X.blk s H scope (compEnvC scope cl C X.env) fp) F tg pt)
    (ht : ∀ (s : Shared) (H : Hp) (C : Addr) (cl : List (Str × Addr)) (fp : List Addr), PTs (X.blk s H scope (compEnvC scope cl C X.env) fp) ifs (tOfB X.K X.mg F E0 mc))
    (he : ∀ (s : Shared) (H : Hp) (C : Addr) (cl : List (Str × Addr)) (fp : List Addr), AE (X.blk s H scope (compEnvC scope cl C X.env) fp) F E0 elt me)
    (hsl : ∀ i ∈ sl, i ∉ own.map (·.2) := by decide) (hp : ∀ i ∈ pt.sl, i ∈ own.map (·.2) := by decide) (ok : blkC X.N X.env.scope scope own = true := by kernel_rfl)
    (hs : ∀ x, foldedSetIterable iter X.env x = pure x := by intro _; rfl) : AE X F E (.ListComp elt [⟨tg, iter, ifs, 0⟩] scope pos) (eLc (own.map (·.2)) ck w pt mc me) := a_lc hc hN hi hsl ok hb hp hg ht he hs
theorem s_lc {tg iter elt : Expr} {ifs : List Expr} {w : M (List D)} {pt : Pat} {mc : M Bool} {me : M Sv} {scope : Scope} {ck : Ck} {sl : List Nat} (i : Nat) {py spos : Pos} (own : List (Str × Nat)) (hbi : F.brw i = none) (hc : X.calm = true) (hN : X.N.Nodup) (hi : AJ X F E tg iter w ck sl) (hb : ∀ i ∈ own.map (·.2), F.brw i = none)
    (hg : ∀ (s : Shared) (H : Hp) (C : Addr) (cl : List (Str × Addr)) (fp : List Addr), AG (X.blk s H scope (compEnvC scope cl C X.env) fp) F tg pt)
    (ht : ∀ (s : Shared) (H : Hp) (C : Addr) (cl : List (Str × Addr)) (fp : List Addr), PTs (X.blk s H scope (compEnvC scope cl C X.env) fp) ifs (tOfB X.K X.mg F E0 mc))
    (he : ∀ (s : Shared) (H : Hp) (C : Addr) (cl : List (Str × Addr)) (fp : List Addr), AE (X.blk s H scope (compEnvC scope cl C X.env) fp) F E0 elt me)
    (hy : X.N[i]? = some x := by rfl) (hyl : X.env.scope.names.lookup x = some .local := by rfl) (hsw : swapsWith (.ListComp elt [⟨tg, iter, ifs, 0⟩] scope pos) (some (.Name x py)) spos.line X.env = pure true := by exact sw_true rfl rfl rfl (by decide +kernel))
    (hsl : ∀ i ∈ sl, i ∉ own.map (·.2) := by decide) (hp : ∀ i ∈ pt.sl, i ∈ own.map (·.2) := by decide) (ok : blkC X.N X.env.scope scope own = true := by kernel_rfl)
    (hs : ∀ x, foldedSetIterable iter X.env x = pure x := by intro _; rfl) : AS X F E (.Assign [.Name x py] (.ListComp elt [⟨tg, iter, ifs, 0⟩] scope pos) spos) (sSet i (eLc (own.map (·.2)) ck w pt mc me)) :=
  as_setLc hc hN hy hyl hbi hsw hi hsl ok hb hp hg ht he hs
theorem w_lc2 {tg iter tg1 iter1 elt : Expr} {ifs ifs1 : List Expr} {w w1 : M (List D)} {pt pt1 : Pat} {mc mc1 : M Bool} {me : M Sv} {scope : Scope} {ck : Ck} {sl : List Nat} (own : List (Str × Nat)) (vs1 : List Nat) (hc : X.calm = true) (hN : X.N.Nodup) (hi : AJ X F E tg iter w ck sl) (hb : ∀ i ∈ own.map (·.2), F.brw i = none)
    (hg : ∀ (s : Shared) (H : Hp) (C : Addr) (cl : List (Str × Addr)) (fp : List Addr), AG (X.blk s H scope (compEnvC scope cl C X.env) fp) F tg pt)
    (ht : ∀ (s : Shared) (H : Hp) (C : Addr) (cl : List (Str × Addr)) (fp : List Addr), PTs (X.blk s H scope (compEnvC scope cl C X.env) fp) ifs (tOfB X.K X.mg F E0 mc))
    (hi1 : ∀ (s : Shared) (H : Hp) (C : Addr) (cl : List (Str × Addr)) (fp : List Addr), AI (X.blk s H scope (compEnvC scope cl C X.env) fp) F E0 tg1 iter1 w1)
    (hg1 : ∀ (s : Shared) (H : Hp) (C : Addr) (cl : List (Str × Addr)) (fp : List Addr), AG (X.blk s H scope (compEnvC scope cl C X.env) fp) F tg1 pt1)
    (ht1 : ∀ (s : Shared) (H : Hp) (C : Addr) (cl : List (Str × Addr)) (fp : List Addr), PTs (X.blk s H scope (compEnvC scope cl C X.env) fp) ifs1 (tOfB X.K X.mg F E0 mc1))
    (he : ∀ (s : Shared) (H : Hp) (C : Addr) (cl : List (Str × Addr)) (fp : List Addr), AE (X.blk s H scope (compEnvC scope cl C X.env) fp) F E0 elt me)
    (hsl : ∀ i ∈ sl, i ∉ own.map (·.2) := by decide) (hp : ∀ i ∈ pt.sl, i ∈ own.map (·.2) := by decide) (hv : ∀ i ∈ vs1, i ∈ own.map (·.2) := by decide) (hp1 : ∀ i ∈ pt1.sl, i ∈ vs1 := by decide) (ok : blkC X.N X.env.scope scope own = true := by kernel_rfl)
    (hs : ∀ x, foldedSetIterable iter X.env x = pure x := by intro _; rfl) (hs1 : ∀ env x, foldedSetIterable iter1 env x = pure x := by intro _ _; rfl) : AE X F E (.ListComp elt [⟨tg, iter, ifs, 0⟩, ⟨tg1, iter1, ifs1, 0⟩] scope pos) (eLc2 (own.map (·.2)) vs1 ck w pt mc w1 pt1 mc1 me) :=
  a_lc2 hc hN hi hsl ok hb hp hv hp1 hg ht hi1 hg1 ht1 he hs hs1
/-- nothing is let out -/
theorem passN {X : Cx} {E : XK} (h : ∀ c d H, ¬ E c d H) : Passes (L2N.CX X.prog X.w) X E := fun _ _ _ _ _ _ _ z => by
  obtain ⟨_, _, _, c, d, _, _, _, _, _, _, _, q⟩ := z
  exact (h _ _ _ q).elim
theorem passE {X : Cx} : Passes (L2N.CX X.prog X.w) X E0 := passN fun _ _ _ z => z
/-- no exception is awaited in a block -/
theorem px {P : Program} {w : World} {K : PySem.W.Frag} {mg : Str → Option Value} {base : Heap} {N : List Str} {q : Str} {sc : Scope} {f : Addr} {cd : Value} {A : Around} {outer : List Env} {s : Shared} {H : Hp} {E : XK} :
    Passes (L2N.CX P w) (cxOf (L2N.CX P w) P w K mg base N q sc f cd A outer s H E) E := L2N.passes_call (L2N.takes_of rfl rfl rfl rfl) fun _ _ _ _ h => h
theorem po {P : Program} {w : World} {K : PySem.W.Frag} {mg : Str → Option Value} {base : Heap} {N : List Str} {q : Str} {sc : Scope} {f : Addr} {cd : Value} {A : Around} {outer : List Env} {s : Shared} {H : Hp} {E : XK} :
    PassesOwn (model P w) (cxOf (L2N.CX P w) P w K mg base N q sc f cd A outer s H E).A (cxOf (L2N.CX P w) P w K mg base N q sc f cd A outer s H E).env (cxOf (L2N.CX P w) P w K mg base N q sc f cd A outer s H E).xe := PassesOwn.leaving
theorem brw1 {F : Fx} {i : Nat} (h : F.brw i = none) : ∀ j ∈ [i], F.brw j = none := fun j hj => by rw [List.mem_singleton.mp hj]; exact h
theorem brwL {F : Fx} {lst own : List Nat} (h : ∀ i, i ∉ lst → F.brw i = none) (d : ∀ i ∈ own, i ∉ lst := by decide) : ∀ i ∈ own, F.brw i = none := fun i hi => h i (d i hi)
/-- the def is never run -/
theorem has_no {P : Program} {w : World} {K : PySem.W.Frag} {mg : Str → Option Value} {base : Heap} {x : Str} {f : Addr} {fd : FuncData} {ps : List Str} {st : Stmt} {k : Nat} (hf : Fun K x x st f fd) (hm : mg x = some (.ref f)) (hb : Binds K fd ps []) : Has P w K mg base x ps.length k (fun _ => .no) :=
  ⟨f, fd, ps, hm, hf.kp, hb, rfl, fun vs H Q E q => by obtain ⟨args, hn, hh, _⟩ := q; rw [hh.len, hn], fun A outer s H args us vs Q E hr e0 hbd hv hs => by obtain ⟨_, _, _, z⟩ := hs; exact z.elim⟩
end
end Rc

/-! Rc: the end of a row. -/
namespace Rc
open PySem PySem.Spec PySem.W PyProof.Rows L2
variable [LamTbl]
theorem RepL.ofInts {K : PySem.W.Frag} {mg : Str → Option Value} {H : Hp} : ∀ ns : List Int, RepL K mg H (ns.map PyData.int) (ns.map V.int)
  | [] => rfl
  | n :: ns => ⟨_, _, rfl, rfl, RepL.ofInts ns⟩
theorem loose_int {p : Program} {lv : List (Str × WData)} {mg : Str → Option Value} {h : Heap} (x : XL p lv mg h) {y : Str} {i : Int} (m : (y, WData.int i) ∈ lv) : ∃ t, mg y = some (.int i t) := by
  obtain ⟨v, e, r⟩ := x.2.val _ m
  have e : mg y = some v := e
  cases r with
  | int i t => exact ⟨t, e⟩
theorem walk_rc {l : PySem.W.OpenLaw} {n k : Nat} {q : Program} {loose : List Str} {XP : (Str → Option Value) → Heap → Prop} {YP : World → Heap → Prop} {d : DefRec} {K : Params → PySem.W.Frag} {x : Str} (G : AF)
    (hn : l.most = some n) (hn2 : n ≤ sizeLine) (hdf : d.params.defaults = []) (hr : Room k callerA)
    (hY : ∀ (w : World) (h : Heap), YP w h → (K w.params).In h)
    (F : ∀ (w : World) (mg : Str → Option Value) (fa : Addr) (h : Heap), (K w.params).In h → h.Ns mainGlobals mg → XP mg h → mg d.name = some (.ref fa) →
      ∃ fd : FuncData, (∀ (s : Shared) (u : Value), BindsTo s fd ⟨[u], []⟩ [(x, u)]) ∧
        ∀ base : Heap, (K w.params).In base → base.Ns mainGlobals mg → FnOk l.prog w (K w.params) mg base (L2N.CX l.prog w) k fa fd [x] (spOf (K w.params) mg 1 G))
    (hG : ∀ ns : List Int, ns.length ≤ n → ∃ outs, G [.val (.list (ns.map PyData.int))] = .ret (.val (.bool true)) outs) :
    PySem.W.WalkO q loose XP YP l.row.toRowW d [] (fun f vs => PySem.call f vs) := by
  refine Att.attach_call hn hdf fun w s₀ s₁ mg mb fa o pm cd doc a vs ns G' Y ho hd hcd hmg hobj hints hlen hg => ?_
  have KX := hY w _ Y
  obtain ⟨fd, hb, hF⟩ := F w mg fa _ KX G'.T.g G'.X hmg
  refine law_call KX G'.T.g G'.T.b G'.T.builtins G'.T.nolimit hg hobj hints (Nat.le_trans hlen hn2) hr hF hb (fun H hO hS => ?_) fun H e s' c => ?_
  · have hz : FzL (K w.params) H a (ns.map V.int) := by
      rcases hS with h | ⟨o, its, m, h1, h2, h3, h4, h5, h6⟩
      · rcases hO a with z | ⟨o, xs, z⟩
        · rcases h with h | ⟨_, h⟩ <;> (rw [z] at h; cases h)
        · rcases h with h | ⟨o2, h⟩
          · rw [z] at h; cases h
          · exact .inl ⟨o2, h⟩
      · have e := KX a o h1
        rw [hobj] at e
        have e := Option.some.inj e
        subst e
        have h4 : Data.seq vs.toArray _ = Data.seq its m := h4
        cases h4
        exact .inr ⟨_, _, h1, h5, h6⟩
    obtain ⟨outs, eG⟩ := hG ns hlen
    refine ⟨[.val (.list (ns.map PyData.int))], rfl, ⟨rfl, fun i s e => ?_, fun i j s t b e1 e2 m1 => ?_⟩, ?_⟩
    · cases i with
      | zero =>
        cases e
        exact ⟨rfl, .ref a, rfl, a, _, rfl, hz, RepL.ofInts ns⟩
      | succ i => simp at e
    · cases i with
      | zero => cases e1; cases m1
      | succ i => simp at e1
    · rw [eG]
      exact fun v H' _ rr => rr
  · obtain ⟨_, _, _, _, _, _, _, _, _, _, _, _, z⟩ := c
    exact z
end Rc

/-! Rc: the functions, read. -/
namespace Rc
open PySem
/-- r is a value, and Q holds of it -/
@[irreducible] def Ok {α : Type} (r : Res α) (Q : α → Sl → Prop) : Prop := match r with
  | .ok a S => Q a S
  | _ => False
/-- a def returns, and Q holds of what it gives -/
@[irreducible] def Rt (r : FR) (Q : Sv → Sl → Prop) : Prop := match r with
  | .ret v outs => Q v outs
  | _ => False
section
variable {α β : Type} {Q : α → Sl → Prop} {S : Sl}
theorem Ok_ok {a : α} : Ok (.ok a S) Q = Q a S := by with_unfolding_all rfl
theorem Ok_no : Ok (Res.no : Res α) Q = False := by with_unfolding_all rfl
theorem Ok_ex {e : Ek} : Ok (.ex e S : Res α) Q = False := by with_unfolding_all rfl
theorem Ok_bind {r : Res β} {f : β → Sl → Res α} : Ok (r.bind f) Q = Ok r fun b S1 => Ok (f b S1) Q := by with_unfolding_all (cases r <;> rfl)
theorem Ok_ite {c : Prop} [Decidable c] {a b : Res α} : Ok (if c then a else b) Q = if c then Ok a Q else Ok b Q := by split <;> rfl
theorem Ok_mono {r : Res α} {Q' : α → Sl → Prop} (h : Ok r Q) (m : ∀ a S, Q a S → Q' a S) : Ok r Q' := by
  with_unfolding_all
  cases r with
  | ok a S => exact m a S h
  | ex e S => exact h
  | no => exact h
theorem Ok_ex_iff {r : Res α} : Ok r Q ↔ ∃ a S', r = .ok a S' ∧ Q a S' := by
  with_unfolding_all
  cases r with
  | ok a S => exact ⟨fun h => ⟨a, S, rfl, h⟩, fun ⟨_, _, e, h⟩ => by cases e; exact h⟩
  | ex e S => exact ⟨fun h => h.elim, fun ⟨_, _, e, _⟩ => by cases e⟩
  | no => exact ⟨fun h => h.elim, fun ⟨_, _, e, _⟩ => by cases e⟩
end
section
variable {S : Sl} {Q : Fl → Sl → Prop}
/-- go on behind a statement -/
def thenS (b : M Fl) (Q : Fl → Sl → Prop) (f : Fl) (S : Sl) : Prop := match f with
  | .nx => Ok (b S) Q
  | f => Q f S
theorem thenS_nx {b : M Fl} : thenS b Q .nx S = Ok (b S) Q := rfl
theorem thenS_rt {b : M Fl} {v : Sv} : thenS b Q (.rt v) S = Q (.rt v) S := rfl
theorem thenS_bk {b : M Fl} : thenS b Q .bk S = Q .bk S := rfl
theorem thenS_ct {b : M Fl} : thenS b Q .ct S = Q .ct S := rfl
theorem Ok_seq {a b : M Fl} : Ok (sSeq a b S) Q = Ok (a S) (thenS b Q) := by
  with_unfolding_all
  unfold sSeq
  rw [Ok_bind]
  congr 1
  funext f S1
  cases f <;> rfl
theorem Ok_sIf {c : M Bool} {a b : M Fl} : Ok (sIf c a b S) Q = Ok (c S) fun x S1 => if x = true then Ok (a S1) Q else Ok (b S1) Q := by
  unfold sIf
  rw [Ok_bind]
  congr 1
  funext x S1
  cases x <;> rfl
theorem Ok_pass : Ok (sPass S) Q = Q .nx S := by with_unfolding_all rfl
theorem Ok_ret {m : M Sv} : Ok (sRet m S) Q = Ok (m S) fun r S1 => Q (.rt r) S1 := by with_unfolding_all (unfold sRet; rw [Ok_bind]; rfl)
def isV : Sv → Bool
  | .un => false
  | _ => true
theorem Ok_set {i : Nat} {m : M Sv} : Ok (sSet i m S) Q = Ok (m S) fun r S1 => isV r = true ∧ Q .nx (S1.set i r) := by
  unfold sSet
  rw [Ok_bind]
  congr 1
  funext r S1
  cases r <;> simp [Ok, isV]
theorem Ok_par {i j : Nat} {m n : M Sv} : Ok (sPar i j m n S) Q = Ok (m S) fun x S1 => Ok (n S1) fun y S2 => isV x = true ∧ isV y = true ∧ Q .nx ((S2.set i x).set j y) := by
  unfold sPar
  rw [Ok_bind]
  congr 1
  funext x S1
  rw [Ok_bind]
  congr 1
  funext y S2
  cases x <;> cases y <;> simp [Ok, isV]
theorem Ok_drop {m : M Sv} : Ok (sDrop m S) Q = Ok (m S) fun _ S1 => Q .nx S1 := by with_unfolding_all (unfold sDrop; rw [Ok_bind]; rfl)
theorem Ok_for {w : M (List D)} {p : Pat} {b : M Fl} : Ok (sFor w p b S) Q = Ok (w S) fun ds S1 => Ok (forLoop p b ds S1) Q := by unfold sFor; rw [Ok_bind]
theorem Ok_while {n : Nat} {c : M Bool} {b : M Fl} : Ok (sWhile n c b S) Q = Ok (whLoop c b n S) Q := rfl
theorem Ok_unp {p : Pat} {m : M Sv} : Ok (sUnp p m S) Q = Ok (datum m S) fun d S1 => ∃ S2, p.put d S1 = some S2 ∧ Q .nx S2 := by
  unfold sUnp datum
  rw [Ok_bind, Ok_bind]
  congr 1
  funext r S1
  cases toD r with
  | none => simp [Ok]
  | some d =>
    simp only [Option.bind_some]
    cases e : p.put d S1 <;> simp [Ok, e]
/-- a loop that keeps W, indexed by what is left -/
theorem for_inv {p : Pat} {b : M Fl} (W : List D → Sl → Prop) (hn : ∀ S, W [] S → Q .nx S)
    (hs : ∀ d ds S, W (d :: ds) S → ∃ S1, p.put d S = some S1 ∧ Ok (b S1) fun f S2 => match f with | .nx => W ds S2 | .ct => W ds S2 | .bk => Q .nx S2 | .rt v => Q (.rt v) S2) :
    ∀ ds S, W ds S → Ok (forLoop p b ds S) Q
  | [], S, h => by with_unfolding_all exact hn S h
  | d :: ds, S, h => by
    obtain ⟨S1, e, h1⟩ := hs d ds S h
    unfold forLoop
    rw [e]
    show Ok ((b S1).bind _) Q
    rw [Ok_bind]
    refine Ok_mono h1 fun f S2 z => ?_
    cases f with
    | nx => exact for_inv W hn hs ds S2 z
    | ct => exact for_inv W hn hs ds S2 z
    | bk => with_unfolding_all exact z
    | rt v => with_unfolding_all exact z
theorem wh_inv {c : M Bool} {b : M Fl} (W : Nat → Sl → Prop)
    (hs : ∀ n S, W n S → Ok (c S) fun x S1 => if x = true then Ok (b S1) fun f S2 => match f with | .nx => ∃ m, m < n ∧ W m S2 | .ct => ∃ m, m < n ∧ W m S2 | .bk => Q .nx S2 | .rt v => Q (.rt v) S2 else Q .nx S1) :
    ∀ k n S, n < k → W n S → Ok (whLoop c b k S) Q
  | 0, n, S, hk, _ => absurd hk (Nat.not_lt_zero _)
  | k + 1, n, S, hk, h => by
    have z := hs n S h
    show Ok ((c S).bind _) Q
    rw [Ok_bind]
    refine Ok_mono z fun x S1 z => ?_
    cases x with
    | false => with_unfolding_all exact z
    | true =>
      simp only [if_true] at z ⊢
      rw [Ok_bind]
      refine Ok_mono z fun f S2 z => ?_
      cases f with
      | nx => obtain ⟨m, hm, w⟩ := z; exact wh_inv W hs k m S2 (by omega) w
      | ct => obtain ⟨m, hm, w⟩ := z; exact wh_inv W hs k m S2 (by omega) w
      | bk => with_unfolding_all exact z
      | rt v => with_unfolding_all exact z
end
section
variable {S : Sl}
theorem Rt_fn {n : Nat} {lst : List Nat} {b : M Fl} {args : Sl} {Q : Sv → Sl → Prop} : Rt (fn n lst b args) Q = (noOw lst 0 args = true ∧ Ok (b (args ++ List.replicate (n - args.length) .un)) fun f S => match f with
    | .rt v => Q v (outsOf args.length S)
    | .nx => Q (.val .none) (outsOf args.length S)
    | _ => False) := by
  unfold fn mkF
  by_cases h : noOw lst 0 args = true
  · rw [if_pos h]
    cases e : b (args ++ List.replicate (n - args.length) .un) with
    | no => simp [Rt, Ok, h]
    | ex k S => simp [Rt, Ok, h]
    | ok f S => cases f <;> simp [Rt, Ok, h]
  · rw [if_neg h]
    simp [Rt, h]
theorem Ok_call {F : AF} {as : List Am} {Q : Sv → Sl → Prop} : Ok (eCall F as S) Q = Ok (evA as S) fun vs S1 => vs.all (okB S1) = true ∧ Rt (F (vs.map (argOf S1))) fun v outs => Q v (backA S1 vs outs) := by
  unfold eCall
  rw [Ok_bind]
  congr 1
  funext vs S1
  by_cases h : vs.all (okB S1) = true
  · rw [if_pos h]
    cases F (vs.map (argOf S1)) <;> simp [Rt, Ok, h]
  · rw [if_neg h]
    simp [Ok, h]
theorem Rt_mono {r : FR} {Q Q' : Sv → Sl → Prop} (h : Rt r Q) (m : ∀ v o, Q v o → Q' v o) : Rt r Q' := by
  with_unfolding_all
  cases r with
  | ret v o => exact m v o h
  | ex e o => exact h
  | no => exact h
theorem Rt_eq {F : AF} {args : Sl} {v : Sv} {outs : Sl} {Q : Sv → Sl → Prop} (e : F args = .ret v outs) : Rt (F args) Q = Q v outs := by with_unfolding_all (rw [e]; rfl)
end

/-! ### by continuation: each step from the head -/
/-- a slot is read -/
def sg : Sl → Nat → (Sv → Prop) → Prop
  | [], _, _ => False
  | s :: _, 0, k => k s
  | _ :: S, n + 1, k => sg S n k
theorem sg_iff : ∀ {S : Sl} {i : Nat} {k : Sv → Prop}, sg S i k = (∃ s, S[i]? = some s ∧ k s)
  | [], i, k => by simp [sg]
  | s :: S, 0, k => by simp [sg]
  | s :: S, n + 1, k => by simp only [sg, List.getElem?_cons_succ]; exact sg_iff
/-- a slot is written -/
def sw : Sl → Nat → Sv → (Sl → Prop) → Prop
  | [], _, _, k => k []
  | _ :: S, 0, s, k => k (s :: S)
  | x :: S, n + 1, s, k => sw S n s fun T => k (x :: T)
theorem sw_eq : ∀ {S : Sl} {i : Nat} {s : Sv} {k : Sl → Prop}, sw S i s k = k (S.set i s)
  | [], i, s, k => rfl
  | x :: S, 0, s, k => rfl
  | x :: S, n + 1, s, k => by simp only [sw, List.set_cons_succ]; exact sw_eq
theorem sg_z {s : Sv} {S : Sl} {k : Sv → Prop} : sg (s :: S) 0 k = k s := rfl
theorem sg_s {s : Sv} {S : Sl} {n : Nat} {k : Sv → Prop} : sg (s :: S) (n + 1) k = sg S n k := rfl
theorem sw_z {s x : Sv} {S : Sl} {k : Sl → Prop} : sw (x :: S) 0 s k = k (s :: S) := rfl
theorem sw_s {s x : Sv} {S : Sl} {n : Nat} {k : Sl → Prop} : sw (x :: S) (n + 1) s k = sw S n s fun T => k (x :: T) := rfl
/-- a value that is read -/
def td (r : Sv) (k : D → Prop) : Prop := match toD r with
  | some d => k d
  | none => False
theorem td_val {d : D} {k : D → Prop} : td (.val d) k = k d := rfl
theorem td_ow {ds : List D} {k : D → Prop} : td (.ow ds) k = k (.list ds) := rfl
/-- a name that is kept -/
def kp (i : Nat) (S : Sl) (Q : Sv → Sl → Prop) : Sv → Prop
  | .val d => Q (.val d) S
  | .ow ds => sw S i (.val (.list ds)) fun T => Q (.val (.list ds)) T
  | _ => False
section
variable {S : Sl} {Q : Sv → Sl → Prop}
theorem Ok_eLit {d : D} : Ok (eLit d S) Q = Q (.val d) S := by with_unfolding_all rfl
theorem kp_val {i : Nat} {d : D} : kp i S Q (.val d) = Q (.val d) S := rfl
theorem kp_ow {i : Nat} {ds : List D} : kp i S Q (.ow ds) = sw S i (.val (.list ds)) fun T => Q (.val (.list ds)) T := rfl
theorem Ok_eV {i : Nat} : Ok (eV i S) Q = sg S i (kp i S Q) := by
  rw [sg_iff]
  unfold eV
  cases e : S[i]? with
  | none => simp [Ok]
  | some s => cases s <;> simp [Ok, kp, sw_eq]
/-- an operator's value -/
def op1 (f : D → Option Sv) (x : D) (k : Sv → Prop) : Prop := match f x with
  | some r => k r
  | none => False
def op2 (f : D → D → Option Sv) (x y : D) (k : Sv → Prop) : Prop := match f x y with
  | some r => k r
  | none => False
theorem Ok_lift {o : Option Sv} : Ok (lift o S) Q = (match o with | some r => Q r S | none => False) := by with_unfolding_all (cases o <;> rfl)
theorem rdE {i : Nat} {k : D → Prop} : (match rd S i with | some d => k d | none => False) = sg S i fun s => td s k := by
  rw [sg_iff]
  unfold rd
  cases S[i]? with
  | none => simp
  | some s => simp only [Option.bind_some]; cases e : toD s <;> simp [td, e]
theorem Ok_op1e {f : D → Option Sv} {m : M Sv} : Ok (eOp1 f (.e m) S) Q = Ok (m S) fun r S1 => td r fun x => op1 f x fun z => Q z S1 := by
  unfold eOp1
  simp only [Ok_bind]
  congr 1
  funext r S1
  rw [Ok_lift]
  unfold td b1 op1
  cases toD r with
  | none => rfl
  | some d => simp only [Option.bind_some]
theorem Ok_op1v {f : D → Option Sv} {i : Nat} : Ok (eOp1 f (.v i) S) Q = sg S i fun s => td s fun x => op1 f x fun z => Q z S := by
  rw [← rdE]
  unfold eOp1 b1 op1
  simp only [Ok_lift]
  cases rd S i with
  | none => rfl
  | some d => simp only [Option.bind_some]
theorem b2_eq {f : D → D → Option Sv} {a b : Option D} {k : Sv → Prop} : (match b2 f a b with | some r => k r | none => False) = (match a with | some x => (match b with | some y => op2 f x y k | none => False) | none => False) := by
  unfold b2 op2
  cases a with
  | none => rfl
  | some x => cases b with
    | none => rfl
    | some y => simp only [Option.bind_some]
theorem Ok_op2ee {f : D → D → Option Sv} {m n : M Sv} : Ok (eOp2 f (.e m) (.e n) S) Q = Ok (m S) fun r S1 => td r fun x => Ok (n S1) fun r2 S2 => td r2 fun y => op2 f x y fun z => Q z S2 := by
  with_unfolding_all
  unfold eOp2
  simp only [Ok_bind]
  congr 1
  funext r S1
  unfold td
  cases e : toD r with
  | none =>
    simp only [Ok_lift, b2, Option.bind_none]
    cases n S1 <;> rfl
  | some d =>
    simp only
    congr 1
    funext r2 S2
    rw [Ok_lift, b2_eq]
theorem Ok_op2ve {f : D → D → Option Sv} {i : Nat} {n : M Sv} : Ok (eOp2 f (.v i) (.e n) S) Q = sg S i fun s => td s fun _ => Ok (n S) fun r2 S2 => sg S2 i fun s => td s fun x => td r2 fun y => op2 f x y fun z => Q z S2 := by
  rw [← rdE]
  unfold eOp2
  simp only
  cases e : rd S i with
  | none => simp [Ok]
  | some d =>
    simp only [Option.isSome_some, if_true, Ok_bind]
    congr 1
    funext r S1
    rw [Ok_lift, b2_eq, ← rdE]
    unfold td
    cases rd S1 i <;> rfl
theorem Ok_op2ev {f : D → D → Option Sv} {j : Nat} {m : M Sv} : Ok (eOp2 f (.e m) (.v j) S) Q = Ok (m S) fun r S1 => td r fun x => sg S1 j fun s => td s fun y => op2 f x y fun z => Q z S1 := by
  unfold eOp2
  simp only [Ok_bind]
  congr 1
  funext r S1
  rw [Ok_lift, b2_eq]
  unfold td
  cases toD r with
  | none => rfl
  | some x => simp only; exact rdE (k := fun y => op2 f x y fun z => Q z S1)
theorem Ok_op2vv {f : D → D → Option Sv} {i j : Nat} : Ok (eOp2 f (.v i) (.v j) S) Q = sg S i fun s => td s fun x => sg S j fun s => td s fun y => op2 f x y fun z => Q z S := by
  rw [← rdE]
  unfold eOp2
  simp only
  rw [Ok_lift, b2_eq]
  cases rd S i with
  | none => rfl
  | some x => simp only; exact rdE (k := fun y => op2 f x y fun z => Q z S)
end
section
variable {i j : Int} {k : Sv → Prop} {x y : D} {b : Bool} {ds es : List D}
theorem op_add : op2 dAdd (.int i) (.int j) k = k (.val (.int (i + j))) := rfl
theorem op_addL : op2 dAdd (.list ds) (.list es) k = (ds.length + es.length ≤ 16777216 ∧ k (.ow (ds ++ es))) := by
  unfold op2 dAdd small
  by_cases h : ds.length + es.length ≤ 16777216 <;> simp [h]
theorem op_addT : op2 dAdd (.tuple ds) (.tuple es) k = (ds.length + es.length ≤ 16777216 ∧ k (.val (.tuple (ds ++ es)))) := by
  unfold op2 dAdd small
  by_cases h : ds.length + es.length ≤ 16777216 <;> simp [h]
theorem op_addI : op2 dAddI (.int i) (.int j) k = k (.val (.int (i + j))) := rfl
theorem op_sub : op2 dSub (.int i) (.int j) k = k (.val (.int (i - j))) := rfl
theorem op_subI : op2 dSubI (.int i) (.int j) k = k (.val (.int (i - j))) := rfl
theorem op_addB {b : Bool} : op2 dAdd (.bool b) (.int j) k = k (.val (.int ((if b = true then 1 else 0) + j))) := rfl
theorem op_subB {b : Bool} : op2 dSub (.bool b) (.int j) k = k (.val (.int ((if b = true then 1 else 0) - j))) := rfl
theorem w64_eq {i : Int} : (w64 i = true) = (-18446744073709551616 < i ∧ i < 18446744073709551616) := by unfold w64; simp
theorem op_mul : op2 dMulA (.int i) (.int j) k = (((-18446744073709551616 < i ∧ i < 18446744073709551616) ∨ (-18446744073709551616 < j ∧ j < 18446744073709551616)) ∧ k (.val (.int (i * j)))) := by
  unfold op2 dMulA dMul
  rw [← w64_eq, ← w64_eq]
  by_cases h1 : w64 i = true <;> by_cases h2 : w64 j = true <;> simp [h1, h2]
theorem op_mod : op2 dMod (.int i) (.int j) k = (0 < j ∧ k (.val (.int (i % j)))) := by
  unfold op2 dMod
  by_cases h : 0 < j <;> simp [h]
theorem op_div : op2 dDiv (.int i) (.int j) k = ((0 < j ∧ j < 18446744073709551616) ∧ k (.val (.int (i / j)))) := by
  unfold op2 dDiv
  by_cases h : 0 < j ∧ j < 18446744073709551616
  · simp [h]
  · simp only [h, false_and, if_false]
theorem op_pow : op2 dPow (.int i) (.int j) k = ((0 ≤ j ∧ j ≤ 100 ∧ -18446744073709551616 < i ∧ i < 18446744073709551616) ∧ k (.val (.int (i ^ j.toNat)))) := by
  unfold op2 dPow
  simp only [w64_eq]
  by_cases h : 0 ≤ j ∧ j ≤ 100 ∧ -18446744073709551616 < i ∧ i < 18446744073709551616
  · simp only [if_pos h]; simp [h]
  · simp only [h, false_and, if_false]
theorem op_lt : op2 dLt (.int i) (.int j) k = k (.val (.bool (decide (i < j)))) := rfl
theorem op_le : op2 dLe (.int i) (.int j) k = k (.val (.bool (decide (i ≤ j)))) := rfl
theorem op_gt : op2 dGt (.int i) (.int j) k = k (.val (.bool (decide (j < i)))) := rfl
theorem op_ge : op2 dGe (.int i) (.int j) k = k (.val (.bool (decide (j ≤ i)))) := rfl
theorem op_eqI : op2 dEq (.int i) (.int j) k = k (.val (.bool (decide (i = j)))) := by
  have : PyData.eqv (.int i) (.int j) = decide (i = j) := by simp only [PyData.eqv]; by_cases h : i = j <;> simp [h]
  show k (.val (.bool (PyData.eqv (.int i) (.int j)))) = _
  rw [this]
theorem op_neI : op2 dNe (.int i) (.int j) k = k (.val (.bool (!decide (i = j)))) := by
  have : PyData.eqv (.int i) (.int j) = decide (i = j) := by simp only [PyData.eqv]; by_cases h : i = j <;> simp [h]
  show k (.val (.bool (!PyData.eqv (.int i) (.int j)))) = _
  rw [this]
theorem op_neg : op1 dNeg (.int i) k = k (.val (.int (-i))) := rfl
theorem op_isN : op1 dIsN x k = k (.val (.bool (isN x))) := rfl
theorem op_notN : op1 dNotN x k = k (.val (.bool (!isN x))) := rfl
theorem op_lenL : op1 dLen (.list ds) k = k (.val (.int ds.length)) := rfl
theorem op_lenT : op1 dLen (.tuple ds) k = k (.val (.int ds.length)) := rfl
theorem op_isi_i {T : Ty} : op1 (dIsi T) (.int i) k = k (.val (.bool (match T with | .int => true | _ => false))) := by cases T <;> rfl
theorem op_isi_b {T : Ty} : op1 (dIsi T) (.bool b) k = k (.val (.bool (match T with | .int => true | .bool => true | _ => false))) := by cases T <;> rfl
theorem op_isi_l {T : Ty} : op1 (dIsi T) (.list ds) k = k (.val (.bool (match T with | .list => true | _ => false))) := by cases T <;> rfl
theorem op_isi_t {T : Ty} : op1 (dIsi T) (.tuple ds) k = k (.val (.bool (match T with | .tuple => true | _ => false))) := by cases T <;> rfl
theorem op_isi_n {T : Ty} : op1 (dIsi T) .none k = k (.val (.bool false)) := by cases T <;> rfl
theorem op_isi_s {T : Ty} {s : Str} : op1 (dIsi T) (.str s) k = k (.val (.bool (match T with | .str => true | _ => false))) := by cases T <;> rfl
theorem op_abs : op1 dAbs (.int i) k = k (.val (.int (if i < 0 then -i else i))) := rfl
theorem op_max2 : op2 dMax2 (.int i) (.int j) k = k (.val (.int (if j > i then j else i))) := rfl
theorem op_min2 : op2 dMin2 (.int i) (.int j) k = k (.val (.int (if j < i then j else i))) := rfl
theorem atI_nat {α : Type} (xs : List α) (n : Nat) : L2.atI xs (n : Int) = xs[n]? := by
  unfold L2.atI L2.ixN
  rw [if_pos (by omega)]
  by_cases h : n < xs.length
  · rw [if_pos (by omega)]; simp
  · rw [if_neg (by omega), List.getElem?_eq_none (by omega)]; rfl
theorem atI_of {α : Type} {xs : List α} {i : Int} {a : α} (h0 : 0 ≤ i) (e : xs[i.toNat]? = some a) : L2.atI xs i = some a := by
  rw [← Int.toNat_of_nonneg h0, atI_nat]
  exact e
theorem op_ixL : op2 dIx (.list ds) (.int i) k = (∃ d, L2.atI ds i = some d ∧ k (.val d)) := by
  unfold op2 dIx
  simp only
  cases L2.atI ds i <;> simp
theorem op_ixT : op2 dIx (.tuple ds) (.int i) k = (∃ d, L2.atI ds i = some d ∧ k (.val d)) := by
  unfold op2 dIx
  simp only
  cases L2.atI ds i <;> simp
section
variable {x0 x1 x2 x3 : D}
theorem ix_0 : op2 dIx (.list (x0 :: ds)) (.int 0) k = k (.val x0) := by rw [op_ixL, show (0 : Int) = ((0 : Nat) : Int) from rfl, atI_nat]; simp
theorem ix_1 : op2 dIx (.list (x0 :: x1 :: ds)) (.int 1) k = k (.val x1) := by rw [op_ixL, show (1 : Int) = ((1 : Nat) : Int) from rfl, atI_nat]; simp
theorem ix_2 : op2 dIx (.list (x0 :: x1 :: x2 :: ds)) (.int 2) k = k (.val x2) := by rw [op_ixL, show (2 : Int) = ((2 : Nat) : Int) from rfl, atI_nat]; simp
theorem ix_3 : op2 dIx (.list (x0 :: x1 :: x2 :: x3 :: ds)) (.int 3) k = k (.val x3) := by rw [op_ixL, show (3 : Int) = ((3 : Nat) : Int) from rfl, atI_nat]; simp
theorem tx_0 : op2 dIx (.tuple (x0 :: ds)) (.int 0) k = k (.val x0) := by rw [op_ixT, show (0 : Int) = ((0 : Nat) : Int) from rfl, atI_nat]; simp
theorem tx_1 : op2 dIx (.tuple (x0 :: x1 :: ds)) (.int 1) k = k (.val x1) := by rw [op_ixT, show (1 : Int) = ((1 : Nat) : Int) from rfl, atI_nat]; simp
theorem tx_2 : op2 dIx (.tuple (x0 :: x1 :: x2 :: ds)) (.int 2) k = k (.val x2) := by rw [op_ixT, show (2 : Int) = ((2 : Nat) : Int) from rfl, atI_nat]; simp
theorem tx_3 : op2 dIx (.tuple (x0 :: x1 :: x2 :: x3 :: ds)) (.int 3) k = k (.val x3) := by rw [op_ixT, show (3 : Int) = ((3 : Nat) : Int) from rfl, atI_nat]; simp
end
end

/-! ### the rest of the expressions -/
section
variable {S : Sl}
theorem Ok_datum {m : M Sv} {Q : D → Sl → Prop} : Ok (datum m S) Q = Ok (m S) fun r S1 => td r fun d => Q d S1 := by
  with_unfolding_all
  unfold datum
  rw [Ok_bind]
  congr 1
  funext r S1
  unfold td
  cases toD r <;> rfl
theorem Ok_evL0 {Q : List D → Sl → Prop} : Ok (evL [] S) Q = Q [] S := by with_unfolding_all rfl
theorem Ok_evLc {m : M Sv} {ms : List (M Sv)} {Q : List D → Sl → Prop} : Ok (evL (m :: ms) S) Q = Ok (m S) fun r S1 => td r fun d => Ok (evL ms S1) fun ds S2 => Q (d :: ds) S2 := by
  with_unfolding_all
  simp only [evL, Ok_bind]
  congr 1
  funext r S1
  unfold td
  cases toD r with
  | none => rfl
  | some d => simp only [Ok_bind]; rfl
theorem Ok_eTup {ms : List (M Sv)} {Q : Sv → Sl → Prop} : Ok (eTup ms S) Q = Ok (evL ms S) fun ds S1 => Q (.val (.tuple ds)) S1 := by with_unfolding_all (unfold eTup; rw [Ok_bind]; rfl)
theorem Ok_eLst {ms : List (M Sv)} {Q : Sv → Sl → Prop} : Ok (eLst ms S) Q = Ok (evL ms S) fun ds S1 => Q (.ow ds) S1 := by with_unfolding_all (unfold eLst; rw [Ok_bind]; rfl)
/-- a test's value -/
def bk (S : Sl) (Q : Bool → Sl → Prop) : Sv → Prop
  | .val (.bool b) => Q b S
  | _ => False
theorem bk_b {Q : Bool → Sl → Prop} {b : Bool} : bk S Q (.val (.bool b)) = Q b S := rfl
theorem Ok_tB {m : M Sv} {Q : Bool → Sl → Prop} : Ok (Rc.tB m S) Q = Ok (m S) fun r S1 => bk S1 Q r := by
  unfold Rc.tB
  rw [Ok_bind]
  congr 1
  funext r S1
  unfold asB bk
  split <;> simp [Ok]
theorem Ok_eB {m : M Bool} {Q : Sv → Sl → Prop} : Ok (eB m S) Q = Ok (m S) fun b S1 => Q (.val (.bool b)) S1 := by with_unfolding_all (unfold eB; rw [Ok_bind]; rfl)
theorem Ok_tNot {m : M Bool} {Q : Bool → Sl → Prop} : Ok (Rc.tNot m S) Q = Ok (m S) fun b S1 => Q (!b) S1 := by with_unfolding_all (unfold Rc.tNot; rw [Ok_bind]; rfl)
theorem Ok_tAnd {a b : M Bool} {Q : Bool → Sl → Prop} : Ok (Rc.tAnd a b S) Q = Ok (a S) fun x S1 => if x = true then Ok (b S1) Q else Q false S1 := by
  with_unfolding_all
  unfold Rc.tAnd
  rw [Ok_bind]
  congr 1
  funext x S1
  cases x <;> rfl
theorem Ok_tOr {a b : M Bool} {Q : Bool → Sl → Prop} : Ok (Rc.tOr a b S) Q = Ok (a S) fun x S1 => if x = true then Q true S1 else Ok (b S1) Q := by
  with_unfolding_all
  unfold Rc.tOr
  rw [Ok_bind]
  congr 1
  funext x S1
  cases x <;> rfl
theorem Ok_eAnd {a b : M Sv} {Q : Sv → Sl → Prop} : Ok (Rc.eAnd a b S) Q = Ok (Rc.tB a S) fun x S1 => if x = true then Ok (b S1) Q else Q (.val (.bool false)) S1 := by
  with_unfolding_all
  unfold Rc.eAnd
  rw [Ok_bind]
  congr 1
  funext x S1
  cases x <;> rfl
theorem Ok_eOr {a b : M Sv} {Q : Sv → Sl → Prop} : Ok (Rc.eOr a b S) Q = Ok (Rc.tB a S) fun x S1 => if x = true then Q (.val (.bool true)) S1 else Ok (b S1) Q := by
  with_unfolding_all
  unfold Rc.eOr
  rw [Ok_bind]
  congr 1
  funext x S1
  cases x <;> rfl
theorem Ok_eIf {c : M Bool} {a b : M Sv} {Q : Sv → Sl → Prop} : Ok (Rc.eIf c a b S) Q = Ok (c S) fun x S1 => if x = true then Ok (a S1) Q else Ok (b S1) Q := by
  unfold Rc.eIf
  rw [Ok_bind]
  congr 1
  funext x S1
  cases x <;> rfl
/-- a plain value -/
def fk (r : Sv) (k : D → Prop) : Prop := match r with
  | .val d => flat d = true ∧ k d
  | _ => False
theorem fk_i {i : Int} {k : D → Prop} : fk (.val (.int i)) k = k (.int i) := by simp [fk, flat]
theorem fk_b {i : Bool} {k : D → Prop} : fk (.val (.bool i)) k = k (.bool i) := by simp [fk, flat]
theorem fk_n {k : D → Prop} : fk (.val .none) k = k .none := by simp [fk, flat]
theorem Ok_evSe {m : M Sv} {Q : D → Sl → Prop} : Ok (evS (.e m) S) Q = Ok (m S) fun r S1 => fk r fun d => Q d S1 := by
  with_unfolding_all
  unfold evS
  simp only [Ok_bind]
  congr 1
  funext r S1
  unfold fk
  cases r <;> try rfl
  rename_i d
  simp only
  by_cases h : flat d = true <;> simp [h, Ok]
theorem Ok_evSv {i : Nat} {Q : D → Sl → Prop} : Ok (evS (.v i) S) Q = sg S i fun s => fk s fun d => Q d S := by
  with_unfolding_all
  rw [sg_iff]
  unfold evS fk
  simp only
  cases S[i]? with
  | none => simp [Ok]
  | some s =>
    cases s <;> simp [Ok]
    rename_i d
    by_cases h : flat d = true <;> simp [h, Ok]
/-- behind a chain's first comparison -/
def ck2 (c : Od) (g : D → D → Option Sv) (y : D) (S : Sl) (Q : Sv → Sl → Prop) : Sv → Prop
  | .val (.bool b) => if b = true then Ok (evS c S) (fun z S3 => op2 g y z fun r => Q r S3) else Q (.val (.bool false)) S
  | _ => False
theorem ck2_b {c : Od} {g : D → D → Option Sv} {y : D} {Q : Sv → Sl → Prop} {b : Bool} : ck2 c g y S Q (.val (.bool b)) = if b = true then Ok (evS c S) (fun z S3 => op2 g y z fun r => Q r S3) else Q (.val (.bool false)) S := rfl
theorem Ok_eChain {f g : D → D → Option Sv} {a b c : Od} {Q : Sv → Sl → Prop} : Ok (eChain f g a b c S) Q = Ok (evS a S) fun x S1 => Ok (evS b S1) fun y S2 => op2 f x y fun r => ck2 c g y S2 Q r := by
  with_unfolding_all
  unfold eChain
  simp only [Ok_bind]
  congr 1
  funext x S1
  congr 1
  funext y S2
  unfold op2
  cases f x y with
  | none => rfl
  | some r =>
    simp only
    unfold ck2
    split
    · rename_i e
      cases e
      simp only [if_true, Ok_bind]
      congr 1
      funext z S3
      rw [Ok_lift]
      rfl
    · rename_i e
      cases e
      rfl
    · rename_i h1 h2
      split
      · rename_i b
        cases b
        · exact absurd rfl h2
        · exact absurd rfl h1
      · rfl
/-! ### targets -/
mutual
def pk : Pat → D → Sl → (Sl → Prop) → Prop
  | .n i, d, S, k => sw S i (.val d) k
  | .t ps, .tuple ds, S, k => pks ps ds S k
  | .t ps, .list ds, S, k => pks ps ds S k
  | .t _, _, _, _ => False
def pks : List Pat → List D → Sl → (Sl → Prop) → Prop
  | [], [], S, k => k S
  | p :: ps, d :: ds, S, k => pk p d S fun S1 => pks ps ds S1 k
  | _, _, _, _ => False
end
mutual
theorem pk_iff : ∀ {p : Pat} {d : D} {S : Sl} {k : Sl → Prop}, pk p d S k = (∃ S1, p.put d S = some S1 ∧ k S1)
  | .n i, d, S, k => by simp [pk, Pat.put, sw_eq]
  | .t ps, .tuple ds, S, k => by simp only [pk, Pat.put]; exact pks_iff
  | .t ps, .list ds, S, k => by simp only [pk, Pat.put]; exact pks_iff
  | .t ps, .none, S, k => by simp [pk, Pat.put]
  | .t ps, .bool _, S, k => by simp [pk, Pat.put]
  | .t ps, .int _, S, k => by simp [pk, Pat.put]
  | .t ps, .str _, S, k => by simp [pk, Pat.put]
  | .t ps, .dict _, S, k => by simp [pk, Pat.put]
theorem pks_iff : ∀ {p : List Pat} {d : List D} {S : Sl} {k : Sl → Prop}, pks p d S k = (∃ S1, Pat.puts p d S = some S1 ∧ k S1)
  | [], [], S, k => by simp [pks, Pat.puts]
  | [], _ :: _, S, k => by simp [pks, Pat.puts]
  | _ :: _, [], S, k => by simp [pks, Pat.puts]
  | p :: ps, d :: ds, S, k => by
    simp only [pks, Pat.puts]
    rw [pk_iff]
    cases p.put d S with
    | none => simp
    | some S1 => simp only [Option.bind_some, Option.some.injEq, exists_eq_left']; exact pks_iff
end
theorem pk_n {i : Nat} {d : D} {k : Sl → Prop} : pk (.n i) d S k = sw S i (.val d) k := by simp only [pk]
theorem pk_t {ps : List Pat} {ds : List D} {k : Sl → Prop} : pk (.t ps) (.tuple ds) S k = pks ps ds S k := by simp only [pk]
theorem pk_l {ps : List Pat} {ds : List D} {k : Sl → Prop} : pk (.t ps) (.list ds) S k = pks ps ds S k := by simp only [pk]
theorem pks_n {k : Sl → Prop} : pks [] [] S k = k S := by simp only [pks]
theorem pks_c {p : Pat} {ps : List Pat} {d : D} {ds : List D} {k : Sl → Prop} : pks (p :: ps) (d :: ds) S k = pk p d S fun S1 => pks ps ds S1 k := by simp only [pks]
variable {Q : Fl → Sl → Prop}
theorem Ok_unpk {p : Pat} {m : M Sv} : Ok (sUnp p m S) Q = Ok (datum m S) fun d S1 => pk p d S1 fun S2 => Q .nx S2 := by
  rw [Ok_unp]
  congr 1
  funext d S1
  rw [pk_iff]
/-- a value that may be stored -/
def vk (r : Sv) (P : Prop) : Prop := match r with
  | .un => False
  | _ => P
theorem vk_val {d : D} {P : Prop} : vk (.val d) P = P := rfl
theorem vk_ow {d : List D} {P : Prop} : vk (.ow d) P = P := rfl
theorem Ok_setk {i : Nat} {m : M Sv} : Ok (sSet i m S) Q = Ok (m S) fun r S1 => vk r (sw S1 i r fun T => Q .nx T) := by
  rw [Ok_set]
  congr 1
  funext r S1
  rw [sw_eq]
  cases r <;> simp [vk, isV]
theorem Ok_park {i j : Nat} {m n : M Sv} : Ok (sPar i j m n S) Q = Ok (m S) fun x S1 => Ok (n S1) fun y S2 => vk x (vk y (sw S2 i x fun T => sw T j y fun U => Q .nx U)) := by
  rw [Ok_par]
  congr 1
  funext x S1
  congr 1
  funext y S2
  rw [sw_eq, sw_eq]
  cases x <;> cases y <;> simp [vk, isV]
def rvk (S : Sl) (Q : Fl → Sl → Prop) : Sv → Prop
  | .val d => Q (.rt (.val d)) S
  | .ow ds => Q (.rt (.ow ds)) S
  | _ => False
theorem rvk_val {d : D} : rvk S Q (.val d) = Q (.rt (.val d)) S := rfl
theorem rvk_ow {d : List D} : rvk S Q (.ow d) = Q (.rt (.ow d)) S := rfl
theorem Ok_retV {i : Nat} : Ok (sRetV i S) Q = sg S i (rvk S Q) := by
  rw [sg_iff]
  unfold sRetV
  cases e : S[i]? with
  | none => simp [Ok]
  | some s => cases s <;> simp [Ok, rvk]
def augk (S : Sl) (Q : Fl → Sl → Prop) (x : Nat) (f : D → D → Option Sv) (e : M Sv) : Sv → Prop
  | .val a => Ok (e S) fun r S1 => td r fun b => op2 f a b fun z => sw S1 x z fun T => Q .nx T
  | _ => False
theorem augk_val {x : Nat} {f : D → D → Option Sv} {e : M Sv} {a : D} : augk S Q x f e (.val a) = Ok (e S) fun r S1 => td r fun b => op2 f a b fun z => sw S1 x z fun T => Q .nx T := rfl
theorem Ok_augk {x : Nat} {f : D → D → Option Sv} {e : M Sv} : Ok (sAug x f e S) Q = sg S x (augk S Q x f e) := by
  with_unfolding_all
  rw [sg_iff]
  unfold sAug
  cases hs : S[x]? with
  | none => simp [Ok]
  | some s =>
    simp only [Option.some.injEq, exists_eq_left']
    cases s with
    | val a =>
      rw [augk_val]
      simp only [Ok_bind]
      congr 1
      funext r S1
      unfold td
      cases toD r with
      | none => simp [b2, Ok]
      | some b =>
        simp only [b2, Option.bind_some]
        unfold op2
        cases f a b with
        | none => rfl
        | some z => simp only; rw [sw_eq]; rfl
    | _ => rfl
end

/-! ### lists of one's own; calls -/
section
variable {S : Sl} {Q : Fl → Sl → Prop}
/-- an own list, an index: the store -/
def ixk (S : Sl) (x : Nat) (d : D) (i : Int) (Q : Fl → Sl → Prop) : Sv → Prop
  | .ow ds => (∃ j, L2.ixN ds.length i = some j ∧ sw S x (.ow (ds.set j d)) fun T => Q .nx T)
  | _ => False
def nk (r : Sv) (k : Int → Prop) : Prop := match r with
  | .val (.int i) => k i
  | _ => False
theorem nk_i {i : Int} {k : Int → Prop} : nk (.val (.int i)) k = k i := rfl
theorem Ok_setIx {x : Nat} {k e : M Sv} : Ok (sSetIx x k e S) Q = Ok (datum e S) fun d S1 => sg S1 x fun s => td s fun _ => Ok (k S1) fun i S2 => nk i fun i => sg S2 x (ixk S2 x d i Q) := by
  with_unfolding_all
  unfold sSetIx
  rw [Ok_bind]
  congr 1
  funext d S1
  rw [← rdE]
  cases rd S1 x with
  | none => simp [Ok]
  | some d0 =>
    simp only [Option.isSome_some, if_true, Ok_bind]
    congr 1
    funext r S2
    have no : ∀ {P : Sv → Prop}, sg S2 x P = (match S2[x]? with | some s => P s | none => False) := fun {P} => by
      rw [sg_iff]
      cases S2[x]? <;> simp
    cases r with
    | val dv =>
      cases dv with
      | int i =>
        show _ = sg S2 x (ixk S2 x d i Q)
        rw [no]
        cases S2[x]? with
        | none => rfl
        | some s =>
          cases s with
          | ow ds =>
            simp only [ixk]
            cases L2.ixN ds.length i with
            | none => simp [Ok]
            | some j => simp [Ok, sw_eq]
          | _ => rfl
      | _ => rfl
    | _ => rfl
theorem ixN_nat {n j : Nat} (h : j < n) : L2.ixN n (j : Int) = some j := by
  unfold L2.ixN
  rw [if_pos (by omega), if_pos (by omega)]
  simp
theorem ixk_0 {x : Nat} {d a : D} {l : List D} : ixk S x d 0 Q (.ow (a :: l)) = sw S x (.ow (d :: l)) fun T => Q .nx T := by
  simp only [ixk]
  rw [show (0 : Int) = ((0 : Nat) : Int) from rfl, ixN_nat (by simp)]
  simp
theorem ixk_1 {x : Nat} {d a b : D} {l : List D} : ixk S x d 1 Q (.ow (a :: b :: l)) = sw S x (.ow (a :: d :: l)) fun T => Q .nx T := by
  simp only [ixk]
  rw [show (1 : Int) = ((1 : Nat) : Int) from rfl, ixN_nat (by simp)]
  simp
theorem ixk_2 {x : Nat} {d a b c : D} {l : List D} : ixk S x d 2 Q (.ow (a :: b :: c :: l)) = sw S x (.ow (a :: b :: d :: l)) fun T => Q .nx T := by
  simp only [ixk]
  rw [show (2 : Int) = ((2 : Nat) : Int) from rfl, ixN_nat (by simp)]
  simp
/-- an own list grows -/
def apk (S : Sl) (x : Nat) (d : D) (Q : Fl → Sl → Prop) : Sv → Prop
  | .ow ds => ds.length < 16777216 ∧ sw S x (.ow (ds ++ [d])) fun T => Q .nx T
  | _ => False
theorem apk_ow {x : Nat} {d : D} {ds : List D} : apk S x d Q (.ow ds) = (ds.length < 16777216 ∧ sw S x (.ow (ds ++ [d])) fun T => Q .nx T) := rfl
def owk (P : Prop) : Sv → Prop
  | .ow _ => P
  | _ => False
theorem owk_ow {P : Prop} {ds : List D} : owk P (.ow ds) = P := rfl
theorem Ok_app {x : Nat} {e : M Sv} : Ok (sApp x e S) Q = sg S x (owk (Ok (datum e S) fun d S1 => sg S1 x (apk S1 x d Q))) := by
  with_unfolding_all
  have no : ∀ {T : Sl} {P : Sv → Prop}, sg T x P = (match T[x]? with | some s => P s | none => False) := fun {T P} => by
    rw [sg_iff]
    cases T[x]? <;> simp
  rw [no]
  unfold sApp isOw
  cases S[x]? with
  | none => simp [Ok]
  | some s =>
    cases s with
    | ow ds0 =>
      show Ok ((datum e S).bind _) Q = _
      simp only [owk_ow, Ok_bind]
      congr 1
      funext d S1
      rw [no]
      cases S1[x]? with
      | none => rfl
      | some t =>
        cases t with
        | ow ds =>
          show Ok (if ds.length < 16777216 then _ else _) Q = apk S1 x d Q (.ow ds)
          rw [apk_ow, sw_eq]
          by_cases h : ds.length < 16777216 <;> simp [h, Ok]
        | _ => rfl
    | _ => rfl
end
/-! calls -/
section
variable {S : Sl}
/-- the arguments -/
def ak : List Am → Sl → (List (D ⊕ Nat) → Sl → Prop) → Prop
  | [], S, k => k [] S
  | .d m :: as, S, k => Ok (m S) fun r S1 => td r fun d => ak as S1 fun vs S2 => k (.inl d :: vs) S2
  | .b i :: as, S, k => sg S i fun s => okArg s = true ∧ ak as S fun vs S2 => k (.inr i :: vs) S2
theorem ak_eq : ∀ {as : List Am} {S : Sl} {k : List (D ⊕ Nat) → Sl → Prop}, ak as S k = Ok (evA as S) k
  | [], S, k => by with_unfolding_all rfl
  | .d m :: as, S, k => by
    simp only [ak, evA, Ok_bind]
    congr 1
    funext r S1
    unfold td
    cases toD r with
    | none => with_unfolding_all rfl
    | some d => simp only [Ok_bind]; with_unfolding_all exact ak_eq
  | .b i :: as, S, k => by
    simp only [ak, evA]
    rw [sg_iff]
    unfold bound
    cases S[i]? with
    | none => simp [Ok]
    | some s =>
      cases s <;> simp [Ok, Ok_ite, Ok_no, Ok_bind, okArg] <;> exact iff_of_eq ak_eq
/-- as the callee gets them -/
def gk : List (D ⊕ Nat) → Sl → (Sl → Prop) → Prop
  | [], _, k => k []
  | .inl d :: vs, S, k => gk vs S fun l => k (.val d :: l)
  | .inr i :: vs, S, k => sg S i fun s => okArg s = true ∧ gk vs S fun l => k (s :: l)
theorem gk_eq : ∀ {vs : List (D ⊕ Nat)} {S : Sl} {k : Sl → Prop}, gk vs S k = (vs.all (okB S) = true ∧ k (vs.map (argOf S)))
  | [], S, k => by simp [gk]
  | .inl d :: vs, S, k => by
    simp only [gk]
    rw [gk_eq]
    simp [okB, argOf]
  | .inr i :: vs, S, k => by
    simp only [gk]
    rw [sg_iff, List.all_cons, List.map_cons]
    simp only [okB, argOf, bound, Bool.and_eq_true]
    rw [List.getD_eq_getElem?_getD]
    cases S[i]? with
    | none => simp
    | some s =>
      simp only [Option.some.injEq, exists_eq_left', Option.getD_some]
      rw [gk_eq]
      cases s <;> simp [okArg]
/-- by a slot's kind -/
def mk2 (A B : Prop) : Sv → Prop
  | .ow _ => A
  | .dki _ => A
  | .dkt _ => A
  | _ => B
def sgm : Sl → Nat → Prop → Prop → Prop
  | [], _, _, B => B
  | s :: _, 0, A, B => mk2 A B s
  | _ :: S, n + 1, A, B => sgm S n A B
theorem sgm_eq : ∀ {S : Sl} {i : Nat} {A B : Prop}, sgm S i A B = if isMut (S.getD i .un) = true then A else B
  | [], i, A, B => by simp [sgm, isMut]
  | s :: S, 0, A, B => by cases s <;> simp [sgm, mk2, isMut]
  | s :: S, n + 1, A, B => by simp only [sgm, List.getD_cons_succ]; exact sgm_eq
theorem sgm_z {s : Sv} {A B : Prop} : sgm (s :: S) 0 A B = mk2 A B s := rfl
theorem sgm_s {s : Sv} {n : Nat} {A B : Prop} : sgm (s :: S) (n + 1) A B = sgm S n A B := rfl
theorem mk2_v {A B : Prop} {d : D} : mk2 A B (.val d) = B := rfl
theorem mk2_o {A B : Prop} {d : List D} : mk2 A B (.ow d) = A := rfl
/-- the slots behind the call -/
def zk : List (D ⊕ Nat) → Sl → Sl → (Sl → Prop) → Prop
  | .inr i :: as, S, o :: os, k => if isMut (S.getD i .un) = true then zk as S os fun T => sw T i o k else zk as S os k
  | .inl _ :: as, S, _ :: os, k => zk as S os k
  | _, S, _, k => k S
theorem zk_eq : ∀ {vs : List (D ⊕ Nat)} {S os : Sl} {k : Sl → Prop}, zk vs S os k = k (backA S vs os)
  | [], S, os, k => by simp only [zk, backA]
  | .inl _ :: as, S, [], k => by simp only [zk, backA]
  | .inr _ :: as, S, [], k => by simp only [zk, backA]
  | .inl _ :: as, S, o :: os, k => by simp only [zk, backA]; exact zk_eq
  | .inr i :: as, S, o :: os, k => by
    simp only [zk, backA]
    split
    · rw [zk_eq, sw_eq]
    · rw [zk_eq]
theorem ak_n {k : List (D ⊕ Nat) → Sl → Prop} : ak [] S k = k [] S := by simp only [ak]
theorem ak_d {m : M Sv} {as : List Am} {k : List (D ⊕ Nat) → Sl → Prop} : ak (.d m :: as) S k = Ok (m S) fun r S1 => td r fun d => ak as S1 fun vs S2 => k (.inl d :: vs) S2 := by simp only [ak]
theorem ak_b {i : Nat} {as : List Am} {k : List (D ⊕ Nat) → Sl → Prop} : ak (.b i :: as) S k = sg S i fun s => okArg s = true ∧ ak as S fun vs S2 => k (.inr i :: vs) S2 := by simp only [ak]
theorem gk_n {k : Sl → Prop} : gk [] S k = k [] := by simp only [gk]
theorem gk_l {d : D} {vs : List (D ⊕ Nat)} {k : Sl → Prop} : gk (.inl d :: vs) S k = gk vs S fun l => k (.val d :: l) := by simp only [gk]
theorem gk_r {i : Nat} {vs : List (D ⊕ Nat)} {k : Sl → Prop} : gk (.inr i :: vs) S k = sg S i fun s => okArg s = true ∧ gk vs S fun l => k (s :: l) := by simp only [gk]
theorem zk_n {os : Sl} {k : Sl → Prop} : zk [] S os k = k S := by simp only [zk]
theorem zk_l {d : D} {vs : List (D ⊕ Nat)} {o : Sv} {os : Sl} {k : Sl → Prop} : zk (.inl d :: vs) S (o :: os) k = zk vs S os k := by simp only [zk]
theorem zk_r {i : Nat} {vs : List (D ⊕ Nat)} {o : Sv} {os : Sl} {k : Sl → Prop} : zk (.inr i :: vs) S (o :: os) k = sgm S i (zk vs S os fun T => sw T i o k) (zk vs S os k) := by rw [sgm_eq]; simp only [zk]
theorem Ok_callk {F : AF} {as : List Am} {Q : Sv → Sl → Prop} : Ok (eCall F as S) Q = ak as S fun vs S1 => gk vs S1 fun args => Rt (F args) fun v outs => zk vs S1 outs fun T => Q v T := by
  rw [Ok_call, ak_eq]
  congr 1
  funext vs S1
  rw [gk_eq]
  simp only [zk_eq]
end

/-! ### a def's body -/
section
/-- the slots at a def's entry -/
def ik : Nat → Sl → (Sl → Prop) → Prop
  | 0, as, k => k as
  | n + 1, [], k => ik n [] fun T => k (.un :: T)
  | n + 1, a :: as, k => ik n as fun T => k (a :: T)
theorem ik_eq : ∀ {n : Nat} {as : Sl} {k : Sl → Prop}, ik n as k = k (as ++ List.replicate (n - as.length) .un)
  | 0, as, k => by simp [ik]
  | n + 1, [], k => by simp only [ik]; rw [ik_eq]; simp [List.replicate_succ]
  | n + 1, a :: as, k => by simp only [ik]; rw [ik_eq]; simp
theorem ik_z {as : Sl} {k : Sl → Prop} : ik 0 as k = k as := by simp only [ik]
theorem ik_n {n : Nat} {k : Sl → Prop} : ik (n + 1) [] k = ik n [] fun T => k (.un :: T) := by simp only [ik]
theorem ik_s {n : Nat} {a : Sv} {as : Sl} {k : Sl → Prop} : ik (n + 1) (a :: as) k = ik n as fun T => k (a :: T) := by simp only [ik]
/-- the parameters' slots at its end -/
def uk : Nat → Sl → (Sl → Prop) → Prop
  | 0, _, k => k []
  | n + 1, [], k => uk n [] fun T => k (.un :: T)
  | n + 1, s :: S, k => uk n S fun T => k (s :: T)
theorem uk_eq : ∀ {n : Nat} {S : Sl} {k : Sl → Prop}, uk n S k = k (outsOf n S)
  | 0, S, k => by simp only [uk, outsOf]
  | n + 1, [], k => by simp only [uk, outsOf]; rw [uk_eq]
  | n + 1, s :: S, k => by simp only [uk, outsOf]; rw [uk_eq]
theorem uk_z {S : Sl} {k : Sl → Prop} : uk 0 S k = k [] := by simp only [uk]
theorem uk_s {n : Nat} {s : Sv} {S : Sl} {k : Sl → Prop} : uk (n + 1) (s :: S) k = uk n S fun T => k (s :: T) := by simp only [uk]
def len' : Sl → (Nat → Prop) → Prop := fun as k => k as.length
def rtk (n : Nat) (Q : Sv → Sl → Prop) (f : Fl) (S : Sl) : Prop := match f with
  | .rt v => uk n S fun o => Q v o
  | .nx => uk n S fun o => Q (.val .none) o
  | _ => False
theorem rtk_rt {n : Nat} {Q : Sv → Sl → Prop} {v : Sv} {S : Sl} : rtk n Q (.rt v) S = uk n S fun o => Q v o := rfl
theorem rtk_nx {n : Nat} {Q : Sv → Sl → Prop} {S : Sl} : rtk n Q .nx S = uk n S fun o => Q (.val .none) o := rfl
/-- the parameters' kinds -/
def nok (lst : List Nat) : Nat → Sl → Prop → Prop
  | _, [], P => P
  | i, .val _ :: S, P => nok lst (i + 1) S P
  | i, .ow _ :: S, P => i ∈ lst ∧ nok lst (i + 1) S P
  | _, _ :: _, _ => False
theorem nok_eq {lst : List Nat} : ∀ {S : Sl} {i : Nat} {P : Prop}, nok lst i S P = (noOw lst i S = true ∧ P)
  | [], i, P => by simp [nok, noOw]
  | .val d :: S, i, P => by simp only [nok, noOw, Bool.true_and]; exact nok_eq
  | .ow d :: S, i, P => by
    simp only [nok, noOw, Bool.and_eq_true, decide_eq_true_eq]
    rw [nok_eq, and_assoc]
  | .un :: S, i, P => by simp [nok, noOw]
  | .dki d :: S, i, P => by simp [nok, noOw]
  | .dkt d :: S, i, P => by simp [nok, noOw]
variable {lst : List Nat} {i : Nat} {P : Prop} {S : Sl}
theorem nok_n : nok lst i [] P = P := by simp only [nok]
theorem nok_v {d : D} : nok lst i (.val d :: S) P = nok lst (i + 1) S P := by simp only [nok]
theorem nok_o {d : List D} : nok lst i (.ow d :: S) P = (i ∈ lst ∧ nok lst (i + 1) S P) := by simp only [nok]
theorem Rt_fnk {n : Nat} {lst : List Nat} {b : M Fl} {args : Sl} {Q : Sv → Sl → Prop} : Rt (fn n lst b args) Q = nok lst 0 args (ik n args fun S => Ok (b S) (rtk args.length Q)) := by
  rw [Rt_fn, nok_eq, ik_eq]
  congr 2
  funext f S
  unfold rtk
  cases f with
  | rt v => simp only; rw [uk_eq]
  | nx => simp only; rw [uk_eq]
  | bk => rfl
  | ct => rfl
end
/-! ### loops -/
section
variable {p : Pat} {b : M Fl} {Q : Fl → Sl → Prop} {d : D} {ds : List D} {S : Sl}
/-- a turn's end: on with W -/
def afk (W : Sl → Prop) (Q : Fl → Sl → Prop) (f : Fl) (S : Sl) : Prop := match f with
  | .nx => W S
  | .ct => W S
  | .bk => Q .nx S
  | .rt v => Q (.rt v) S
theorem afk_nx {W : Sl → Prop} : afk W Q .nx S = W S := rfl
theorem afk_ct {W : Sl → Prop} : afk W Q .ct S = W S := rfl
theorem afk_bk {W : Sl → Prop} : afk W Q .bk S = Q .nx S := rfl
theorem afk_rt {W : Sl → Prop} {v : Sv} : afk W Q (.rt v) S = Q (.rt v) S := rfl
theorem for_n : Ok (forLoop p b [] S) Q = Q .nx S := by with_unfolding_all rfl
theorem for_c : Ok (forLoop p b (d :: ds) S) Q = pk p d S fun S1 => Ok (b S1) (afk (fun T => Ok (forLoop p b ds T) Q) Q) := by
  with_unfolding_all
  rw [pk_iff]
  conv => lhs; unfold forLoop
  cases p.put d S with
  | none => simp [Ok]
  | some S1 =>
    simp only [Option.some.injEq, exists_eq_left', Ok_bind]
    congr 1
    funext f S2
    cases f <;> rfl
/-- a loop that keeps W, indexed by what is left -/
theorem for_inv2 (W : List D → Sl → Prop) (hn : ∀ S, W [] S → Q .nx S)
    (hs : ∀ d ds S, W (d :: ds) S → pk p d S fun S1 => Ok (b S1) (afk (W ds) Q)) : ∀ ds S, W ds S → Ok (forLoop p b ds S) Q
  | [], S, h => by with_unfolding_all exact hn S h
  | d :: ds, S, h => by
    rw [for_c, pk_iff]
    have z := hs d ds S h
    rw [pk_iff] at z
    obtain ⟨S1, e, z⟩ := z
    refine ⟨S1, e, Ok_mono z fun f S2 y => ?_⟩
    cases f with
    | nx => exact for_inv2 W hn hs ds S2 y
    | ct => exact for_inv2 W hn hs ds S2 y
    | bk => exact y
    | rt v => exact y
/-- .. over the items by their places -/
theorem for_ix (ds : List D) (W : Nat → Sl → Prop) (hn : ∀ S, W ds.length S → Q .nx S)
    (hs : ∀ i d S, ds[i]? = some d → W i S → pk p d S fun S1 => Ok (b S1) (afk (W (i + 1)) Q)) : ∀ S, W 0 S → Ok (forLoop p b ds S) Q := by
  intro S h
  refine for_inv2 (fun l S => ∃ i, l = ds.drop i ∧ i ≤ ds.length ∧ W i S) ?a ?b ds S ⟨0, rfl, Nat.zero_le _, h⟩
  case a =>
    intro S ⟨i, e, hi, w⟩
    refine hn S ?_
    have : ds.length ≤ i := List.drop_eq_nil_iff.mp e.symm
    rwa [show i = ds.length by omega] at w
  case b =>
    intro d l S ⟨i, e, hi, w⟩
    have hlt : i < ds.length := by
      cases Nat.lt_or_ge i ds.length with
      | inl h => exact h
      | inr h => rw [List.drop_eq_nil_iff.mpr h] at e; cases e
    rw [List.drop_eq_getElem_cons hlt] at e
    injection e with e1 e2
    have z := hs i d S (by rw [List.getElem?_eq_getElem hlt, e1]) w
    rw [pk_iff] at z ⊢
    obtain ⟨S1, e, z⟩ := z
    refine ⟨S1, e, Ok_mono z fun f S2 y => ?_⟩
    cases f with
    | nx => exact ⟨i + 1, e2, hlt, y⟩
    | ct => exact ⟨i + 1, e2, hlt, y⟩
    | bk => exact y
    | rt v => exact y
theorem numsD_get {lo : Int} {n i : Nat} {d : D} (h : (numsD lo n)[i]? = some d) : i < n ∧ d = .int (lo + i) := by
  unfold numsD at h
  rw [List.getElem?_map] at h
  cases e : (List.range n)[i]? with
  | none => rw [e] at h; cases h
  | some j =>
    rw [e] at h
    obtain ⟨h1, h2⟩ := List.getElem?_eq_some_iff.mp e
    rw [List.getElem_range] at h2
    subst h2
    exact ⟨by simpa using h1, (Option.some.inj h).symm⟩
theorem numsD_len {lo : Int} {n : Nat} : (numsD lo n).length = n := by simp [numsD]
theorem wh_inv2 {c : M Bool} (W : Nat → Sl → Prop)
    (hs : ∀ n S, W n S → Ok (c S) fun x S1 => if x = true then Ok (b S1) (afk (fun T => ∃ m, m < n ∧ W m T) Q) else Q .nx S1) :
    ∀ k n S, n < k → W n S → Ok (whLoop c b k S) Q := by
  intro k n S hk h
  refine wh_inv W (fun n S w => Ok_mono (hs n S w) fun x S1 z => ?_) k n S hk h
  cases x with
  | false => exact z
  | true =>
    simp only [if_true] at z ⊢
    refine Ok_mono z fun f S2 y => ?_
    cases f <;> exact y
/-- what is walked -/
def dk (d : D) (k : List D → Prop) : Prop := match d with
  | .list ds => k ds
  | .tuple ds => k ds
  | _ => False
theorem dk_l {l : List D} {k : List D → Prop} : dk (.list l) k = k l := rfl
theorem dk_t {l : List D} {k : List D → Prop} : dk (.tuple l) k = k l := rfl
theorem dk_eq {d : D} {k : List D → Prop} : dk d k = (match dSeq d with | some ds => k ds | none => False) := by cases d <;> rfl
theorem Ok_ofOpt {α : Type} {o : Option α} {Q : α → Sl → Prop} : Ok (ofOpt o S) Q = (match o with | some a => Q a S | none => False) := by with_unfolding_all (cases o <;> rfl)
theorem Ok_wSeq {m : M Sv} {Q : List D → Sl → Prop} : Ok (wSeq m S) Q = Ok (m S) fun r S1 => td r fun d => dk d fun ds => Q ds S1 := by
  unfold wSeq
  rw [Ok_bind]
  congr 1
  funext r S1
  rw [Ok_ofOpt]
  unfold td
  cases toD r with
  | none => rfl
  | some d => simp only [Option.bind_some]; rw [dk_eq]; cases dSeq d <;> rfl
def rk (lo hi : D) (k : List D → Prop) : Prop := match lo, hi with
  | .int a, .int b => rngOk a b = true ∧ k (numsD a (b - a).toNat)
  | _, _ => False
theorem rk_i {a b : Int} {k : List D → Prop} : rk (.int a) (.int b) k = ((-4611686018427387904 ≤ a ∧ a < 4611686018427387904 ∧ -4611686018427387904 ≤ b ∧ b < 4611686018427387904 ∧ b - a ≤ 16777216) ∧ k (numsD a (b - a).toNat)) := by
  unfold rk rngOk
  simp only [decide_eq_true_eq]
theorem rk_eq {lo hi : D} {k : List D → Prop} : (match dRng lo hi with | some ds => k ds | none => False) = rk lo hi k := by
  unfold rk dRng
  cases lo <;> try rfl
  cases hi <;> try rfl
  simp only
  rename_i a b
  by_cases h : rngOk a b = true <;> simp [h]
theorem Ok_wRng1 {m : M Sv} {Q : List D → Sl → Prop} : Ok (wRng1 m S) Q = Ok (m S) fun r S1 => td r fun d => rk (.int 0) d fun ds => Q ds S1 := by
  unfold wRng1
  rw [Ok_bind, Ok_datum]
  congr 1
  funext r S1
  congr 1
  funext d
  rw [Ok_ofOpt, ← rk_eq]
  cases dRng _ _ <;> rfl
theorem Ok_wRng2 {m n : M Sv} {Q : List D → Sl → Prop} : Ok (wRng2 m n S) Q = Ok (m S) fun r S1 => td r fun d => Ok (n S1) fun r2 S2 => td r2 fun d2 => rk d d2 fun ds => Q ds S2 := by
  unfold wRng2
  rw [Ok_bind, Ok_datum]
  congr 1
  funext r S1
  congr 1
  funext d
  rw [Ok_bind, Ok_datum]
  congr 1
  funext r2 S2
  congr 1
  funext d2
  rw [Ok_ofOpt, ← rk_eq]
  cases dRng _ _ <;> rfl
theorem Ok_wEnum {m : M Sv} {Q : List D → Sl → Prop} : Ok (wEnum m S) Q = Ok (m S) fun r S1 => td r fun d => dk d fun ds => Q (enumF 0 ds) S1 := by
  unfold wEnum
  rw [Ok_bind]
  congr 1
  funext r S1
  rw [Ok_ofOpt]
  unfold td
  cases toD r with
  | none => rfl
  | some d => simp only [Option.bind_some]; rw [dk_eq]; cases dSeq d <;> rfl
theorem Ok_wZip2 {m n : M Sv} {Q : List D → Sl → Prop} : Ok (wZip2 m n S) Q = Ok (m S) fun r S1 => td r fun d => Ok (n S1) fun r2 S2 => td r2 fun d2 => dk d fun as => dk d2 fun bs => Q (zip2 as bs) S2 := by
  unfold wZip2
  rw [Ok_bind, Ok_datum]
  congr 1
  funext r S1
  congr 1
  funext d
  rw [Ok_bind, Ok_datum]
  congr 1
  funext r2 S2
  congr 1
  funext d2
  rw [Ok_ofOpt, dk_eq]
  cases dSeq d with
  | none => rfl
  | some as => simp only [Option.bind_some]; rw [dk_eq]; cases dSeq d2 <;> rfl
theorem Ok_wN {i : Nat} {f : List D → List D} {Q : List D → Sl → Prop} : Ok (wN i f S) Q = sg S i fun s => td s fun d => dk d fun ds => Q (f ds) S := by
  with_unfolding_all
  rw [← rdE]
  unfold wN
  cases rd S i with
  | none => rfl
  | some d => cases d <;> rfl
end

/-! ### comprehensions of expressions that leave the slots alone -/
section
variable {p : Pat} {c : M Bool} {e : M Sv} {own : List Nat} {ck : Sl → Bool} {d : D} {ds : List D} {S : Sl}
/-- the slots wiped -/
def wk : List Nat → Sl → (Sl → Prop) → Prop
  | [], S, k => k S
  | i :: l, S, k => wk l S fun T => sw T i .un k
theorem wk_eq : ∀ {l : List Nat} {S : Sl} {k : Sl → Prop}, wk l S k = k (wipeS l S)
  | [], S, k => rfl
  | i :: l, S, k => by
    simp only [wk]
    rw [wk_eq, sw_eq]
    rfl
theorem wk_n {k : Sl → Prop} : wk [] S k = k S := rfl
theorem wk_c {i : Nat} {l : List Nat} {k : Sl → Prop} : wk (i :: l) S k = wk l S fun T => sw T i .un k := rfl
theorem wipeS_set {own : List Nat} {S T : Sl} (h : wipeS own S = wipeS own T) : S.length = T.length ∧ ∀ j, j ∉ own → S[j]? = T[j]? := by
  refine ⟨?_, fun j hj => ?_⟩
  · have := congrArg List.length h
    rwa [wipeS_len, wipeS_len] at this
  · rw [← wipeS_get (S := S) hj, h, wipeS_get hj]
theorem backS_same {own : List Nat} {S T : Sl} (h : wipeS own T = wipeS own S) : backS own S T = S := by
  obtain ⟨h1, h2⟩ := wipeS_set h
  apply List.ext_getElem?
  intro j
  by_cases hj : j ∈ own
  · by_cases hl : j < S.length
    · have hl' : j < (backS own S T).length := by rw [backS_len]; omega
      have := backS_in (S := T) (s := (backS own S T)[j]) h1.symm hj (List.getElem?_eq_getElem hl')
      rw [List.getElem?_eq_getElem hl', this]
    · rw [List.getElem?_eq_none (by rw [backS_len]; omega), List.getElem?_eq_none (by omega)]
  · rw [backS_get hj, h2 j hj]
/-- what an item does: f d the element, none where the test fails -/
def itemk (own : List Nat) (p : Pat) (c : M Bool) (e : M Sv) (W : Sl) (d : D) (r : Option D) : Prop :=
  pk p d W fun S1 => Ok (c S1) fun b S2 => if b = true then Ok (e S2) fun v S3 => td v fun x => r = some x ∧ wk own S3 (· = W) else r = none ∧ wk own S2 (· = W)
theorem lc_pure {W : Sl} (f : D → Option D) (hck : ck W = true) (hW : wipeS own W = W) : ∀ (ds : List D) (S : Sl), wipeS own S = W → (∀ d ∈ ds, itemk own p c e W d (f d)) → ∃ S2, lcLoop own ck p c e ds S = .ok (ds.filterMap f) S2 ∧ wipeS own S2 = W
  | [], S, h, _ => ⟨S, by simp only [lcLoop, h, hck, if_true, List.filterMap_nil], h⟩
  | d :: ds, S, h, hi => by
    have z := hi d List.mem_cons_self
    unfold itemk at z
    rw [pk_iff] at z
    obtain ⟨S1, e1, z⟩ := z
    rw [Ok_ex_iff] at z
    obtain ⟨b, S2, e2, z⟩ := z
    have hi2 : ∀ d ∈ ds, itemk own p c e W d (f d) := fun x hx => hi x (List.mem_cons_of_mem _ hx)
    cases b with
    | false =>
      simp only [Bool.false_eq_true, if_false] at z
      rw [wk_eq] at z
      obtain ⟨S3, e3, w3⟩ := lc_pure f hck hW ds S2 z.2 hi2
      refine ⟨S3, ?_, w3⟩
      simp only [lcLoop, h, hck, if_true, e1, e2]
      rw [e3, List.filterMap_cons_none z.1]
    | true =>
      simp only [if_true] at z
      rw [Ok_ex_iff] at z
      obtain ⟨v, S3, e3, z⟩ := z
      unfold td at z
      cases ev : toD v with
      | none => rw [ev] at z; exact z.elim
      | some x =>
        rw [ev] at z
        simp only at z
        rw [wk_eq] at z
        obtain ⟨S4, e4, w4⟩ := lc_pure f hck hW ds S3 z.2 hi2
        refine ⟨S4, ?_, w4⟩
        simp only [lcLoop, h, hck, if_true, e1, e2, e3, ev]
        rw [e4, List.filterMap_cons_some z.1]
        rfl
theorem wipeS_twice {own : List Nat} {S : Sl} : wipeS own (wipeS own S) = wipeS own S := by
  apply List.ext_getElem?
  intro j
  by_cases hj : j ∈ own
  · by_cases hl : j < S.length
    · have h1 : j < (wipeS own S).length := by rw [wipeS_len]; exact hl
      have h2 : j < (wipeS own (wipeS own S)).length := by rw [wipeS_len, wipeS_len]; exact hl
      rw [List.getElem?_eq_getElem h1, List.getElem?_eq_getElem h2]
      rw [wipeS_in (S := S) hj (List.getElem?_eq_getElem h1), wipeS_in (S := wipeS own S) hj (List.getElem?_eq_getElem h2)]
    · rw [List.getElem?_eq_none (by rw [wipeS_len, wipeS_len]; omega), List.getElem?_eq_none (by rw [wipeS_len]; omega)]
  · rw [wipeS_get hj, wipeS_get hj]
/-- [e for p in w if c], the items' values by f -/
theorem Ok_lc {own : List Nat} {ck : Ck} {w : M (List D)} {Q : Sv → Sl → Prop} (f : D → Option D) (h : Ok (w S) fun ds S1 => wk own S1 (fun W => ck S1 W = true ∧ ∀ d ∈ ds, itemk own p c e W d (f d)) ∧ Q (.ow (ds.filterMap f)) S1) : Ok (eLc own ck w p c e S) Q := by
  unfold eLc
  rw [Ok_bind]
  refine Ok_mono h fun ds S1 ⟨h1, h2⟩ => ?_
  rw [wk_eq] at h1
  obtain ⟨S2, e2, w2⟩ := lc_pure (own := own) (p := p) (c := c) (e := e) (ck := ck S1) f h1.1 wipeS_twice ds S1 rfl h1.2
  rw [e2]
  show Ok (Res.ok (Sv.ow (ds.filterMap f)) (backS own S1 S2)) Q
  rw [Ok_ok]
  rw [backS_same w2]
  exact h2
end
section
variable {p p1 : Pat} {c c1 : M Bool} {e : M Sv} {w1 : M (List D)} {own own1 : List Nat} {ck : Sl → Bool} {d : D} {ds : List D} {S : Sl}
/-- what an outer item does: r the elements that it gives -/
def itemk2 (own own1 : List Nat) (p : Pat) (c : M Bool) (w1 : M (List D)) (p1 : Pat) (c1 : M Bool) (e : M Sv) (W : Sl) (d : D) (f1 : D → Option D) (r : List D) : Prop :=
  pk p d W fun S1 => Ok (c S1) fun b S2 => if b = true then Ok (w1 S2) fun ds1 S3 => r = ds1.filterMap f1 ∧ wk own S3 (· = W) ∧ wk own1 S3 (fun W1 => ∀ d1 ∈ ds1, itemk own1 p1 c1 e W1 d1 (f1 d1)) else r = [] ∧ wk own S2 (· = W)
theorem lc2_pure {W : Sl} (f1 : D → D → Option D) (r : D → List D) (hck : ck W = true) (hW : wipeS own W = W) (hv : ∀ i ∈ own1, i ∈ own) : ∀ (ds : List D) (S : Sl), wipeS own S = W → (∀ d ∈ ds, itemk2 own own1 p c w1 p1 c1 e W d (f1 d) (r d)) → ∃ S2, lc2Loop own own1 ck p c w1 p1 c1 e ds S = .ok (ds.flatMap r) S2 ∧ wipeS own S2 = W
  | [], S, h, _ => ⟨S, by simp only [lc2Loop, h, hck, if_true, List.flatMap_nil], h⟩
  | d :: ds, S, h, hi => by
    have z := hi d List.mem_cons_self
    unfold itemk2 at z
    rw [pk_iff] at z
    obtain ⟨S1, e1, z⟩ := z
    rw [Ok_ex_iff] at z
    obtain ⟨b, S2, e2, z⟩ := z
    have hi2 : ∀ d ∈ ds, itemk2 own own1 p c w1 p1 c1 e W d (f1 d) (r d) := fun x hx => hi x (List.mem_cons_of_mem _ hx)
    cases b with
    | false =>
      simp only [Bool.false_eq_true, if_false] at z
      rw [wk_eq] at z
      obtain ⟨S3, e3, w3⟩ := lc2_pure f1 r hck hW hv ds S2 z.2 hi2
      refine ⟨S3, ?_, w3⟩
      simp only [lc2Loop, h, hck, if_true, e1, e2]
      rw [e3, List.flatMap_cons, z.1, List.nil_append]
    | true =>
      simp only [if_true] at z
      rw [Ok_ex_iff] at z
      obtain ⟨ds1, S3, e3, z1, z2, z3⟩ := z
      rw [wk_eq] at z2 z3
      obtain ⟨S4, e4, w4⟩ := lc_pure (own := own1) (p := p1) (c := c1) (e := e) (ck := fun _ => true) (f1 d) rfl wipeS_twice ds1 S3 rfl z3
      have w5 : wipeS own S4 = W := by
        rw [← z2]
        obtain ⟨a1, a2⟩ := wipeS_set w4
        exact wipeS_of (fun j hj => a2 j fun q => hj (hv j q)) a1
      obtain ⟨S5, e5, w6⟩ := lc2_pure f1 r hck hW hv ds S4 w5 hi2
      refine ⟨S5, ?_, w6⟩
      simp only [lc2Loop, h, hck, if_true, e1, e2, e3, e4]
      rw [e5, List.flatMap_cons, z1]
      rfl
theorem Ok_lc2 {ck : Ck} {w : M (List D)} {Q : Sv → Sl → Prop} (f1 : D → D → Option D) (r : D → List D) (hv : ∀ i ∈ own1, i ∈ own) (h : Ok (w S) fun ds S1 => wk own S1 (fun W => ck S1 W = true ∧ ∀ d ∈ ds, itemk2 own own1 p c w1 p1 c1 e W d (f1 d) (r d)) ∧ (ds.flatMap r).length ≤ 16777216 ∧ Q (.ow (ds.flatMap r)) S1) : Ok (eLc2 own own1 ck w p c w1 p1 c1 e S) Q := by
  unfold eLc2
  rw [Ok_bind]
  refine Ok_mono h fun ds S1 ⟨h1, h2, h3⟩ => ?_
  rw [wk_eq] at h1
  obtain ⟨S2, e2, w2⟩ := lc2_pure (own := own) (own1 := own1) (p := p) (c := c) (w1 := w1) (p1 := p1) (c1 := c1) (e := e) (ck := ck S1) f1 r h1.1 wipeS_twice hv ds S1 rfl h1.2
  rw [e2]
  show Ok (if (ds.flatMap r).length ≤ 16777216 then Res.ok (.ow (ds.flatMap r)) (backS own S1 S2) else .no) Q
  rw [if_pos h2, backS_same w2]
  rw [Ok_ok]
  exact h3
end
theorem ckT_eq {S W : Sl} : (ckT S W = true) = True := by simp [ckT]
theorem ckN_eq {i : Nat} {S W : Sl} {d : D} (h1 : rd S i = some d) (h2 : rd W i = some d) : ckN i S W = true := by
  unfold ckN
  rw [h1, h2]
  exact sameD_refl d
/-! ### data that is compared -/
mutual
theorem eqv_refl : ∀ {d : D}, d.canLay0 = true → PyData.eqv d d = true
  | .none, _ => rfl
  | .bool b, _ => by simp [PyData.eqv]
  | .int b, _ => by simp [PyData.eqv]
  | .str b, _ => by simp [PyData.eqv]
  | .list ds, h => by simp only [PyData.eqv]; exact eqvAll_refl (by simpa [PyData.canLay0] using h)
  | .tuple ds, h => by simp only [PyData.eqv]; exact eqvAll_refl (by simpa [PyData.canLay0] using h)
  | .dict ds, h => by simp [PyData.canLay0] at h
theorem eqvAll_refl : ∀ {ds : List D}, PyData.canLayAll0 ds = true → PyData.eqvAll ds ds = true
  | [], _ => rfl
  | d :: ds, h => by
    have h : d.canLay0 = true ∧ PyData.canLayAll0 ds = true := by simpa [PyData.canLayAll0] using h
    simp only [PyData.eqvAll, eqv_refl h.1, eqvAll_refl h.2, Bool.and_self]
end
theorem canLayAll_iff : ∀ {ds : List D}, PyData.canLayAll0 ds = true ↔ ∀ d ∈ ds, d.canLay0 = true
  | [] => by simp [PyData.canLayAll0]
  | d :: ds => by simp [PyData.canLayAll0, canLayAll_iff (ds := ds)]
theorem depthAll_iff {n : Nat} : ∀ {ds : List D}, PyData.depthAll ds ≤ n ↔ ∀ d ∈ ds, d.depth ≤ n
  | [] => by simp [PyData.depthAll]
  | d :: ds => by
    simp only [PyData.depthAll, List.mem_cons, forall_eq_or_imp]
    rw [Nat.max_le, depthAll_iff (ds := ds)]
theorem canLay_list {ds : List D} : (PyData.list ds).canLay0 = true ↔ ∀ d ∈ ds, d.canLay0 = true := by rw [← canLayAll_iff]; simp [PyData.canLay0]
theorem canLay_tuple {ds : List D} : (PyData.tuple ds).canLay0 = true ↔ ∀ d ∈ ds, d.canLay0 = true := by rw [← canLayAll_iff]; simp [PyData.canLay0]
theorem depth_list {ds : List D} {n : Nat} : (PyData.list ds).depth ≤ n + 1 ↔ ∀ d ∈ ds, d.depth ≤ n := by rw [← depthAll_iff]; simp only [PyData.depth]; omega
theorem depth_tuple {ds : List D} {n : Nat} : (PyData.tuple ds).depth ≤ n + 1 ↔ ∀ d ∈ ds, d.depth ≤ n := by rw [← depthAll_iff]; simp only [PyData.depth]; omega
theorem shaped_iff {d : D} : SeqAt.shaped d = true ↔ d.canLay0 = true ∧ d.depth ≤ 64 := by unfold SeqAt.shaped; rw [Bool.and_eq_true, decide_eq_true_eq]
theorem shaped_ints {ns : List Int} : SeqAt.shaped (.list (ns.map PyData.int)) = true := by
  rw [shaped_iff, canLay_list]
  refine ⟨fun d hd => ?_, (depth_list (n := 63)).mpr fun d hd => ?_⟩ <;>
    (obtain ⟨i, _, rfl⟩ := List.mem_map.mp hd; first | rfl | simp [PyData.depth])
theorem op_eq_same {d : D} {k : Sv → Prop} (h : SeqAt.shaped d = true) : op2 dEq d d k = k (.val (.bool true)) := by
  unfold op2 dEq
  rw [h]
  simp only [Bool.and_self, if_true, eqv_refl (shaped_iff.mp h).1]
theorem op_ne_same {d : D} {k : Sv → Prop} (h : SeqAt.shaped d = true) : op2 dNe d d k = k (.val (.bool false)) := by
  unfold op2 dNe
  rw [h]
  simp only [Bool.and_self, if_true, eqv_refl (shaped_iff.mp h).1, Bool.not_true]
theorem op_eq_nil {k : Sv → Prop} : op2 dEq (.list []) (.list []) k = k (.val (.bool true)) := rfl
/-- a list against the empty one -/
theorem op_eq_e {ds : List D} {k : Sv → Prop} (h : SeqAt.shaped (.list ds) = true) : op2 dEq (.list ds) (.list []) k = k (.val (.bool ds.isEmpty)) := by
  unfold op2 dEq
  rw [h, show SeqAt.shaped (.list []) = true from rfl]
  cases ds <;> rfl
theorem eqv_ints : ∀ {xs ys : List Int}, PyData.eqvAll (xs.map PyData.int) (ys.map PyData.int) = decide (xs = ys)
  | [], [] => rfl
  | [], _ :: _ => rfl
  | _ :: _, [] => rfl
  | x :: xs, y :: ys => by
    simp only [List.map_cons, PyData.eqvAll, PyData.eqv, eqv_ints (xs := xs) (ys := ys)]
    by_cases h : x = y <;> by_cases h2 : xs = ys <;> simp [h, h2]
theorem enumF_mem {k : Nat} {ds : List D} {d : D} (h : d ∈ enumF k ds) : ∃ (i : Nat) (x : D), ds[i]? = some x ∧ d = .tuple [.int ((k + i : Nat) : Int), x] := by
  induction ds generalizing k with
  | nil => cases h
  | cons a as ih =>
    rcases List.mem_cons.mp h with rfl | h
    · exact ⟨0, a, rfl, rfl⟩
    · obtain ⟨i, x, e, rfl⟩ := ih h
      exact ⟨i + 1, x, by simpa using e, by rw [show k + (i + 1) = k + 1 + i by omega]⟩
theorem depth_listL {ds : List D} {n : Nat} (h : (PyData.list ds).depth < n + 1) : ∀ d ∈ ds, d.depth < n := fun d hd => by
  have := depthAll_iff.mp (Nat.le_refl (PyData.depthAll ds)) d hd
  simp only [PyData.depth] at h
  omega
theorem depth_tupleL {ds : List D} {n : Nat} (h : (PyData.tuple ds).depth < n + 1) : ∀ d ∈ ds, d.depth < n := fun d hd => by
  have := depthAll_iff.mp (Nat.le_refl (PyData.depthAll ds)) d hd
  simp only [PyData.depth] at h
  omega
theorem op_ix_at {ds : List D} {i : Nat} {y : D} {k : Sv → Prop} (e : ds[i]? = some y) : op2 dIx (.list ds) (.int (i : Int)) k = k (.val y) := by
  rw [op_ixL, atI_nat, e]; simp
theorem op_ix_atT {ds : List D} {i : Nat} {y : D} {k : Sv → Prop} (e : ds[i]? = some y) : op2 dIx (.tuple ds) (.int (i : Int)) k = k (.val y) := by
  rw [op_ixT, atI_nat, e]; simp
theorem fm_none {α β : Type} {l : List α} : List.filterMap (fun _ => (none : Option β)) l = [] := by
  induction l with
  | nil => rfl
  | cons a l ih => rw [List.filterMap_cons_none rfl]; exact ih
theorem Rt_iff {r : FR} {Q : Sv → Sl → Prop} : Rt r Q ↔ ∃ v o, r = .ret v o ∧ Q v o := by
  cases r with
  | ret v o => with_unfolding_all exact ⟨fun h => ⟨v, o, rfl, h⟩, fun ⟨_, _, e, h⟩ => by cases e; exact h⟩
  | ex e S => with_unfolding_all exact ⟨fun h => h.elim, fun ⟨_, _, e, _⟩ => by cases e⟩
  | no => with_unfolding_all exact ⟨fun h => h.elim, fun ⟨_, _, e, _⟩ => by cases e⟩
theorem Ok_evPn {S : Sl} {Q : Option Int → Sl → Prop} : Ok (evP none S) Q = Q none S := by with_unfolding_all rfl
theorem Ok_evPs {m : M Sv} {S : Sl} {Q : Option Int → Sl → Prop} : Ok (evP (some m) S) Q = Ok (m S) fun r S1 => nk r fun i => Q (some i) S1 := by
  simp only [evP, Ok_bind]
  congr 1
  funext r S1
  unfold nk
  split <;> simp [Ok]
theorem Ok_cute {m : M Sv} {lo hi : Option (M Sv)} {S : Sl} {Q : Sv → Sl → Prop} : Ok (eCut (.e m) lo hi S) Q = Ok (m S) fun x S1 => Ok (evP lo S1) fun l S2 => Ok (evP hi S2) fun h S3 => match toD x with | some d => op1 (dCut l h) d fun z => Q z S3 | none => False := by
  unfold eCut
  simp only [Ok_bind]
  congr 1
  funext x S1
  congr 1
  funext l S2
  congr 1
  funext h S3
  rw [Ok_lift]
  unfold op1
  cases toD x with
  | none => rfl
  | some d => simp only [Option.bind_some]
theorem Ok_cutek {m : M Sv} {lo hi : Option (M Sv)} {S : Sl} {Q : Sv → Sl → Prop} : Ok (eCut (.e m) lo hi S) Q = Ok (m S) fun x S1 => Ok (evP lo S1) fun l S2 => Ok (evP hi S2) fun h S3 => td x fun d => op1 (dCut l h) d fun z => Q z S3 := by
  rw [Ok_cute]
  rfl
theorem Ok_cutv {i : Nat} {lo hi : Option (M Sv)} {S : Sl} {Q : Sv → Sl → Prop} : Ok (eCut (.v i) lo hi S) Q = sg S i fun s => td s fun _ => Ok (evP lo S) fun l S2 => Ok (evP hi S2) fun h S3 => sg S3 i fun s => td s fun d => op1 (dCut l h) d fun z => Q z S3 := by
  rw [← rdE]
  unfold eCut
  simp only
  cases rd S i with
  | none => simp [Ok]
  | some d =>
    simp only [Option.isSome_some, if_true, Ok_bind]
    congr 1
    funext l S2
    congr 1
    funext h S3
    rw [Ok_lift, ← rdE]
    unfold op1
    cases rd S3 i with
    | none => rfl
    | some d => simp only [Option.bind_some]
theorem op_cutL {ds : List D} {l h : Option Int} {k : Sv → Prop} : op1 (dCut l h) (.list ds) k = k (.ow (cutD ds l h)) := rfl
theorem op_cutT {ds : List D} {l h : Option Int} {k : Sv → Prop} : op1 (dCut l h) (.tuple ds) k = k (.val (.tuple (cutD ds l h))) := rfl
theorem cutD_mem {ds : List D} {l h : Option Int} {d : D} (m : d ∈ cutD ds l h) : d ∈ ds := List.mem_of_mem_drop (List.mem_of_mem_take m)
theorem ifc {c : Prop} [Decidable c] {A B : Prop} (a : c → A) (b : ¬ c → B) : if c then A else B := by
  by_cases h : c
  · rw [if_pos h]; exact a h
  · rw [if_neg h]; exact b h
theorem asInts_map (ns : List Int) : asInts (ns.map PyData.int) = some ns := by
  induction ns with
  | nil => rfl
  | cons n ns ih => simp [asInts, ih]
theorem asBools_map (ns : List Bool) : asBools (ns.map PyData.bool) = some ns := by
  induction ns with
  | nil => rfl
  | cons n ns ih => simp [asBools, ih]
theorem op_sumL {ns : List Int} {k : Sv → Prop} : op1 dSum (.list (ns.map PyData.int)) k = k (.val (.int ns.sum)) := by
  unfold op1 dSum
  simp only [dSeq, Option.bind_some, asInts_map, Option.map_some]
theorem op_sumT {ns : List Int} {k : Sv → Prop} : op1 dSum (.tuple (ns.map PyData.int)) k = k (.val (.int ns.sum)) := by
  unfold op1 dSum
  simp only [dSeq, Option.bind_some, asInts_map, Option.map_some]
theorem op_all {ns : List Bool} {k : Sv → Prop} : op1 dAll (.list (ns.map PyData.bool)) k = k (.val (.bool (ns.all id))) := by
  unfold op1 dAll
  simp only [asBools_map, Option.map_some]
theorem zip2_map {α β : Type} (f : α → D) (g : β → D) : ∀ (as : List α) (bs : List β), zip2 (as.map f) (bs.map g) = (as.zip bs).map fun q => .tuple [f q.1, g q.2]
  | [], _ => by simp [zip2]
  | _ :: _, [] => by simp [zip2]
  | a :: as, b :: bs => by simp [zip2, zip2_map f g as bs]
theorem fm_map {α : Type} {f : D → Option D} {g : α → D} {h : α → D} {l : List α} (e : ∀ a ∈ l, f (g a) = some (h a)) : (l.map g).filterMap f = l.map h := by
  induction l with
  | nil => rfl
  | cons a l ih => rw [List.map_cons, List.filterMap_cons_some (e a List.mem_cons_self), ih fun x hx => e x (List.mem_cons_of_mem _ hx), List.map_cons]
theorem Ok_tYes {S : Sl} {Q : Bool → Sl → Prop} : Ok (Rc.tYes S) Q = Q true S := by with_unfolding_all rfl
theorem okArg_v {d : D} : okArg (.val d) = true := rfl
theorem okArg_o {d : List D} : okArg (.ow d) = true := rfl
theorem ret_of {F : AF} {args : Sl} {v : Sv} {o : Sl} (h : Rt (F args) fun v' o' => v' = v ∧ o' = o) : F args = .ret v o := by
  obtain ⟨v', o', e, rfl, rfl⟩ := Rt_iff.mp h
  exact e
theorem cut_1 (ds : List D) : cutD ds (some 1) none = ds.drop 1 := by
  unfold cutD
  have e : HT.sIx ds.length 0 (some 1) = min 1 ds.length := rfl
  have e2 : HT.sIx ds.length ds.length none = ds.length := rfl
  rw [e, e2]
  cases ds with
  | nil => rfl
  | cons d ds =>
    rw [List.length_cons, Nat.min_eq_left (by omega), List.take_of_length_le (by simp)]
theorem zip_cut {α : Type} (f : α → D) (l : List α) : zip2 (l.map f) (cutD (l.map f) (some 1) none) = (l.zip (l.drop 1)).map fun q => .tuple [f q.1, f q.2] := by
  rw [cut_1, ← List.map_drop, zip2_map]
theorem nc_0 : ((0 : Nat) : Int) = 0 := rfl
theorem nc_1 : ((1 : Nat) : Int) = 1 := rfl
theorem nc_2 : ((2 : Nat) : Int) = 2 := rfl
theorem nc_3 : ((3 : Nat) : Int) = 3 := rfl
theorem nc_4 : ((4 : Nat) : Int) = 4 := rfl
theorem ift {c : Prop} [Decidable c] {A B : Prop} (h : c) (a : A) : if c then A else B := by rw [if_pos h]; exact a
theorem iff' {c : Prop} [Decidable c] {A B : Prop} (h : ¬ c) (b : B) : if c then A else B := by rw [if_neg h]; exact b
theorem op_tupL {ds : List D} {k : Sv → Prop} : op1 dTuple (.list ds) k = k (.val (.tuple ds)) := rfl
theorem op_tupT {ds : List D} {k : Sv → Prop} : op1 dTuple (.tuple ds) k = k (.val (.tuple ds)) := rfl
theorem op_lstL {ds : List D} {k : Sv → Prop} : op1 dList (.list ds) k = k (.ow ds) := rfl
theorem op_lstT {ds : List D} {k : Sv → Prop} : op1 dList (.tuple ds) k = k (.ow ds) := rfl
theorem Ok_wZip3 {m n o : M Sv} {S : Sl} {Q : List D → Sl → Prop} : Ok (wZip3 m n o S) Q = Ok (m S) fun r S1 => td r fun d => Ok (n S1) fun r2 S2 => td r2 fun d2 => Ok (o S2) fun r3 S3 => td r3 fun d3 => dk d fun as => dk d2 fun bs => dk d3 fun cs => Q (zip3 as bs cs) S3 := by
  unfold wZip3
  rw [Ok_bind, Ok_datum]
  congr 1
  funext r S1
  congr 1
  funext d
  rw [Ok_bind, Ok_datum]
  congr 1
  funext r2 S2
  congr 1
  funext d2
  rw [Ok_bind, Ok_datum]
  congr 1
  funext r3 S3
  congr 1
  funext d3
  rw [Ok_ofOpt, dk_eq]
  cases dSeq d with
  | none => rfl
  | some as =>
    simp only [Option.bind_some]
    rw [dk_eq]
    cases dSeq d2 with
    | none => rfl
    | some bs => simp only [Option.bind_some]; rw [dk_eq]; cases dSeq d3 <;> rfl
theorem Ok_par3k {i j l : Nat} {m n o : M Sv} {S : Sl} {Q : Fl → Sl → Prop} : Ok (sPar3 i j l m n o S) Q = Ok (m S) fun x S1 => Ok (n S1) fun y S2 => Ok (o S2) fun z S3 => sw S3 i x fun T => sw T j y fun U => sw U l z fun V => Q .nx V := by
  unfold sPar3
  simp only [Ok_bind, sw_eq, Ok_ok]
/-! ### lambdas that are tried -/
section
variable {S S1 : Sl} {nms : Str → Option Str} {vs : List (D ⊕ Nat)} {outs : Sl} {Q : Sv → Sl → Prop}
@[irreducible] def Tr (nms : Str → Option Str) (S S1 : Sl) (vs : List (D ⊕ Nat)) (r : FR) (Q : Sv → Sl → Prop) : Prop := Ok (tellF nms S S1 vs r) Q
theorem Tr_def {r : FR} : Tr nms S S1 vs r Q = Ok (tellF nms S S1 vs r) Q := by unfold Tr; rfl
theorem Ok_tryC {F : AF} {as : List Am} : Ok (eTryC nms F as S) Q = ak as (S.map hd) fun vs S1 => gk vs S1 fun args => Tr nms S S1 vs (F args) Q := by
  rw [ak_eq]
  unfold eTryC
  simp only [gk_eq, Tr_def]
  cases evA as (S.map hd) with
  | no => with_unfolding_all rfl
  | ex e S1 => with_unfolding_all rfl
  | ok vs S1 =>
    rw [Ok_ok]
    show Ok (if vs.all (okB S1) = true then tellF nms S S1 vs (F (vs.map (argOf S1))) else .no) Q = _
    by_cases h : vs.all (okB S1) = true
    · simp only [h, if_true, true_and]
    · simp [h, Ok_no]
def nmk (o : Option Str) (k : Str → Prop) : Prop := match o with
  | some x => k x
  | none => False
theorem nmk_s {x : Str} {k : Str → Prop} : nmk (some x) k = k x := rfl
/-- a slot may be a list if it was one -/
def mu2 (s t : Sv) : Prop := isMut t = true → isMut s = true
def muk : Sl → Sl → Prop
  | s :: S, t :: T => mu2 s t ∧ muk S T
  | _, _ => True
theorem muk_eq : ∀ {S T : Sl}, (mutOk S T = true) = muk S T
  | [], [] => by simp [mutOk, muk]
  | [], _ :: _ => by simp [mutOk, muk]
  | _ :: _, [] => by simp [mutOk, muk]
  | s :: S, t :: T => by
    have ih := muk_eq (S := S) (T := T)
    simp only [muk, ← ih, mu2, mutOk, List.zip_cons_cons, List.all_cons, Bool.and_eq_true, Bool.or_eq_true, Bool.not_eq_true', eq_iff_iff]
    cases isMut t <;> simp
theorem muk_n : muk [] [] = True := rfl
theorem muk_c {s t : Sv} {T : Sl} : muk (s :: S) (t :: T) = (mu2 s t ∧ muk S T) := rfl
theorem mu2_s {s : Sv} : mu2 s s = True := by simp [mu2]
theorem mu2_v {s : Sv} {d : D} : mu2 s (.val d) = True := by simp [mu2, isMut]
theorem mu2_o {l m : List D} : mu2 (.ow l) (.ow m) = True := by simp [mu2, isMut]
/-- the slots are put together again -/
def zrk : Sl → Sl → (Sl → Prop) → Prop
  | s :: S, t :: T, k => zrk S T fun l => k (rs s t :: l)
  | _, _, k => k []
theorem zrk_eq : ∀ {S T : Sl} {k : Sl → Prop}, zrk S T k = k (List.zipWith rs S T)
  | [], [], k => rfl
  | [], _ :: _, k => rfl
  | _ :: _, [], k => rfl
  | s :: S, t :: T, k => by simp only [zrk, List.zipWith_cons_cons]; exact zrk_eq
theorem zrk_n {k : Sl → Prop} : zrk [] [] k = k [] := rfl
theorem zrk_c {s t : Sv} {T : Sl} {k : Sl → Prop} : zrk (s :: S) (t :: T) k = zrk S T fun l => k (rs s t :: l) := rfl
theorem rs_h {s : Sv} : rs s (hd s) = s := by cases s <;> rfl
theorem rs_v {d : D} {t : Sv} : rs (.val d) t = t := rfl
theorem rs_o {l : List D} {t : Sv} : rs (.ow l) t = t := rfl
theorem hd_v {d : D} : hd (.val d) = .val d := rfl
theorem hd_o {l : List D} : hd (.ow l) = .ow l := rfl
theorem hd_u : hd .un = .un := rfl
theorem mh_n : List.map hd [] = [] := rfl
theorem mh_c {s : Sv} : List.map hd (s :: S) = hd s :: List.map hd S := rfl
theorem Tr_x {c : Str} : Tr nms S S1 vs (.ex ⟨c, none⟩ outs) Q = zk vs S1 outs fun T => muk (S.map hd) T ∧ nmk (nms c) fun nm => zrk S T fun U => Q (.val (.str nm)) U := by
  rw [Tr_def, zk_eq, ← muk_eq]
  simp only [zrk_eq]
  by_cases h : mutOk (S.map hd) (backA S1 vs outs) = true
  · have e : tellF nms S S1 vs (.ex ⟨c, none⟩ outs) = match nms c with | some nm => .ok (.val (.str nm)) (List.zipWith rs S (backA S1 vs outs)) | none => .no := by
      unfold tellF
      simp only [h, Option.isNone_none, Bool.and_true, if_true] <;> cases nms c <;> rfl
    rw [e, h]
    cases nms c with
    | none => simp [nmk, Ok_no]
    | some nm => simp [nmk, Ok_ok]
  · have e : tellF nms S S1 vs (.ex ⟨c, none⟩ outs) = .no := by
      unfold tellF
      simp [h]
    rw [e, Ok_no]
    simp [h]
theorem Tr_r {d : D} : Tr nms S S1 vs (.ret (.val d) outs) Q = zk vs S1 outs fun T => muk (S.map hd) T ∧ zrk S T fun U => Q (.val (.tuple [.str "told", d])) U := by
  rw [Tr_def, zk_eq, ← muk_eq]
  simp only [zrk_eq]
  by_cases h : mutOk (S.map hd) (backA S1 vs outs) = true
  · have e : tellF nms S S1 vs (.ret (.val d) outs) = .ok (.val (.tuple [.str "told", d])) (List.zipWith rs S (backA S1 vs outs)) := by
      unfold tellF
      simp only [h, if_true]
    rw [e, h, Ok_ok]
    simp
  · have e : tellF nms S S1 vs (.ret (.val d) outs) = .no := by
      unfold tellF
      simp [h]
    rw [e, Ok_no]
    simp [h]
end
/-! ### dicts of one's own -/
section
variable {S : Sl} {i : Nat} {k e x : M Sv}
def dkk (s : Sv) (k : List (Int × D) → Prop) : Prop := match s with
  | .dki kvs => k kvs
  | _ => False
theorem dkk_d {kvs : List (Int × D)} {k : List (Int × D) → Prop} : dkk (.dki kvs) k = k kvs := rfl
theorem dkAtE {k : List (Int × D) → Prop} : (match dkAt S i with | some kvs => k kvs | none => False) = sg S i fun s => dkk s k := by
  rw [sg_iff]
  unfold dkAt
  cases S[i]? with
  | none => simp
  | some s => cases s <;> simp [dkk]
theorem dkAtS {P : Prop} : ((dkAt S i).isSome = true ∧ P) = sg S i fun s => dkk s fun _ => P := by
  rw [← dkAtE]
  cases dkAt S i <;> simp
theorem vk_dki {kvs : List (Int × D)} {P : Prop} : vk (.dki kvs) P = P := rfl
def lkk (o : Option D) (k : D → Prop) : Prop := match o with
  | some d => k d
  | none => False
theorem lkk_s {d : D} {k : D → Prop} : lkk (some d) k = k d := rfl
theorem Ok_newK {Q : Sv → Sl → Prop} : Ok (eNewK S) Q = Q (.dki []) S := by with_unfolding_all rfl
theorem Ok_dlen {Q : Sv → Sl → Prop} : Ok (eDLen i S) Q = sg S i fun s => dkk s fun kvs => Q (.val (.int kvs.length)) S := by
  rw [← dkAtE]
  unfold eDLen
  cases dkAt S i with
  | none => exact Ok_no
  | some kvs => exact Ok_ok
theorem Ok_dsorted {Q : Sv → Sl → Prop} : Ok (eDSorted i S) Q = sg S i fun s => dkk s fun kvs => kvs.length < 64 ∧ Q (.ow ((srtI (kvs.map (·.1))).map PyData.int)) S := by
  rw [← dkAtE]
  unfold eDSorted
  cases dkAt S i with
  | none => exact Ok_no
  | some kvs =>
    by_cases h : kvs.length < 64
    · simp only [h, if_true, Ok_ok, true_and]
    · simp only [h, if_false, Ok_no, false_and]
theorem Ok_dget {Q : Sv → Sl → Prop} : Ok (eDGet i k S) Q = sg S i fun s => dkk s fun _ => Ok (k S) fun r S1 => nk r fun n => sg S1 i fun s => dkk s fun kvs => lkk (lookD kvs n) fun d => Q (.val d) S1 := by
  rw [← dkAtS]
  unfold eDGet
  by_cases h : (dkAt S i).isSome = true
  case neg => simp [h, Ok_no]
  simp only [h, if_true, true_and, Ok_bind]
  congr 1
  funext r S1
  cases r with
  | val d => cases d with
    | int n =>
      rw [nk_i, ← dkAtE]
      cases dkAt S1 i with
      | none => exact Ok_no
      | some kvs => cases e : lookD kvs n <;> simp [e, lkk, Ok_no, Ok_ok]
    | _ => exact Ok_no
  | _ => exact Ok_no
theorem Ok_dgetD {Q : Sv → Sl → Prop} : Ok (eDGetD i k x S) Q = sg S i fun s => dkk s fun _ => Ok (k S) fun r S1 => Ok (datum x S1) fun z S2 => nk r fun n => sg S2 i fun s => dkk s fun kvs => Q (.val ((lookD kvs n).getD z)) S2 := by
  rw [← dkAtS]
  unfold eDGetD
  by_cases h : (dkAt S i).isSome = true
  case neg => simp [h, Ok_no]
  simp only [h, if_true, true_and, Ok_bind]
  congr 1
  funext r S1
  congr 1
  funext z S2
  cases r with
  | val d => cases d with
    | int n =>
      rw [nk_i, ← dkAtE]
      cases dkAt S2 i with
      | none => exact Ok_no
      | some kvs => exact Ok_ok
    | _ => exact Ok_no
  | _ => exact Ok_no
theorem Ok_dput {Q : Fl → Sl → Prop} : Ok (sDPut i k e S) Q = Ok (datum e S) fun d S1 => sg S1 i fun s => dkk s fun _ => Ok (k S1) fun r S2 => nk r fun n => sg S2 i fun s => dkk s fun kvs => kvs.length < 16777216 ∧ sw S2 i (.dki (putD kvs n d)) fun T => Q .nx T := by
  unfold sDPut
  rw [Ok_bind]
  congr 1
  funext d S1
  rw [← dkAtS]
  by_cases h : (dkAt S1 i).isSome = true
  case neg => simp [h, Ok_no]
  simp only [h, if_true, true_and, Ok_bind]
  congr 1
  funext r S2
  cases r with
  | val d => cases d with
    | int n =>
      rw [nk_i, ← dkAtE]
      cases dkAt S2 i with
      | none => exact Ok_no
      | some kvs =>
        by_cases h : kvs.length < 16777216
        · simp only [h, if_true, Ok_ok, true_and, sw_eq]
        · simp only [h, if_false, Ok_no, false_and]
    | _ => exact Ok_no
  | _ => exact Ok_no
theorem op_srtSet {ns : List Int} {k : Sv → Prop} : op1 dSrtSet (.list (ns.map PyData.int)) k = (ns.length < 64 ∧ k (.ow ((srtU ns).map PyData.int))) := by
  unfold op1 dSrtSet
  simp only [asInts_map, Option.bind_some]
  by_cases h : ns.length < 64 <;> simp [h]
end
theorem asStrs_map (ss : List Str) : asStrs (ss.map PyData.str) = some ss := by
  induction ss with
  | nil => rfl
  | cons n ns ih => simp [asStrs, ih]
theorem op_inL {x : Str} {ss : List Str} {k : Sv → Prop} : op2 dIn (.str x) (.list (ss.map PyData.str)) k = k (.val (.bool (ss.any fun y => y == x))) := by
  unfold op2 dIn
  simp only [dSeq, Option.bind_some, asStrs_map, Option.map_some]
theorem op_inT {x : Str} {ss : List Str} {k : Sv → Prop} : op2 dIn (.str x) (.tuple (ss.map PyData.str)) k = k (.val (.bool (ss.any fun y => y == x))) := by
  unfold op2 dIn
  simp only [dSeq, Option.bind_some, asStrs_map, Option.map_some]
theorem op_ninT {x : Str} {ss : List Str} {k : Sv → Prop} : op2 dNotIn (.str x) (.tuple (ss.map PyData.str)) k = k (.val (.bool (!ss.any fun y => y == x))) := by
  unfold op2 dNotIn
  simp only [dSeq, Option.bind_some, asStrs_map, Option.map_some]
theorem op_isB {b c : Bool} {k : Sv → Prop} : op1 (dIsB b) (.bool c) k = k (.val (.bool (c == b))) := rfl
theorem op_isNB {b c : Bool} {k : Sv → Prop} : op1 (dIsNB b) (.bool c) k = k (.val (.bool (!(c == b)))) := rfl
end Rc

/-! Rc: loops and comprehensions over typed lists; comprehensions that change the slots. -/
namespace Rc
open PySem
section
variable {p : Pat} {c : M Bool} {e : M Sv} {own : List Nat} {ck : Sl → Bool} {d : D} {ds : List D} {S : Sl}
/-- the item a gives h a where t a holds -/
def itemt (own : List Nat) (p : Pat) (c : M Bool) (e : M Sv) (W : Sl) (d : D) (t : Prop) (x : D) : Prop :=
  pk p d W fun S1 => Ok (c S1) fun b S2 => (b = true ↔ t) ∧ if b = true then Ok (e S2) fun v S3 => td v fun y => y = x ∧ wk own S3 (· = W) else wk own S2 (· = W)
theorem lc_typ {α : Type} {W : Sl} (g : α → D) (t : α → Prop) [DecidablePred t] (h : α → D) (hck : ck W = true) : ∀ (xs : List α) (S : Sl), wipeS own S = W → (∀ a ∈ xs, itemt own p c e W (g a) (t a) (h a)) → ∃ S2, lcLoop own ck p c e (xs.map g) S = .ok ((xs.filter fun a => decide (t a)).map h) S2 ∧ wipeS own S2 = W
  | [], S, hS, _ => ⟨S, by simp only [List.map_nil, lcLoop, hS, hck, if_true, List.filter_nil], hS⟩
  | a :: xs, S, hS, hi => by
    have z := hi a List.mem_cons_self
    unfold itemt at z
    rw [pk_iff] at z
    obtain ⟨S1, e1, z⟩ := z
    rw [Ok_ex_iff] at z
    obtain ⟨b, S2, e2, zt, z⟩ := z
    have hi2 : ∀ a ∈ xs, itemt own p c e W (g a) (t a) (h a) := fun x hx => hi x (List.mem_cons_of_mem _ hx)
    cases b with
    | false =>
      simp only [Bool.false_eq_true, if_false] at z
      rw [wk_eq] at z
      have nt : ¬ t a := fun q => absurd (zt.mpr q) Bool.false_ne_true
      obtain ⟨S3, e3, w3⟩ := lc_typ g t h hck xs S2 z hi2
      refine ⟨S3, ?_, w3⟩
      simp only [List.map_cons, lcLoop, hS, hck, if_true, e1, e2]
      rw [e3, List.filter_cons_of_neg (by simpa using nt)]
    | true =>
      simp only [if_true] at z
      have ht : t a := zt.mp rfl
      rw [Ok_ex_iff] at z
      obtain ⟨v, S3, e3, z⟩ := z
      unfold td at z
      cases ev : toD v with
      | none => rw [ev] at z; exact z.elim
      | some x =>
        rw [ev] at z
        simp only at z
        rw [wk_eq] at z
        obtain ⟨S4, e4, w4⟩ := lc_typ g t h hck xs S3 z.2 hi2
        refine ⟨S4, ?_, w4⟩
        simp only [List.map_cons, lcLoop, hS, hck, if_true, e1, e2, e3, ev]
        rw [e4, List.filter_cons_of_pos (by simpa using ht), List.map_cons, z.1]
        rfl
/-- [e for p in w if c], what is walked a typed list -/
theorem Ok_lcF {α : Type} {own : List Nat} {ck : Ck} {w : M (List D)} {Q : Sv → Sl → Prop} (xs : List α) (g : α → D) (t : α → Prop) [DecidablePred t] (h : α → D)
    (hh : Ok (w S) fun ds S1 => ds = xs.map g ∧ wk own S1 (fun W => ck S1 W = true ∧ ∀ a ∈ xs, itemt own p c e W (g a) (t a) (h a)) ∧ Q (.ow ((xs.filter fun a => decide (t a)).map h)) S1) : Ok (eLc own ck w p c e S) Q := by
  unfold eLc
  rw [Ok_bind]
  refine Ok_mono hh fun ds S1 ⟨h0, h1, h2⟩ => ?_
  rw [wk_eq] at h1
  subst h0
  obtain ⟨S2, e2, w2⟩ := lc_typ (own := own) (p := p) (c := c) (e := e) (ck := ck S1) g t h h1.1 xs S1 rfl h1.2
  rw [e2]
  show Ok (Res.ok (Sv.ow _) (backS own S1 S2)) Q
  rw [Ok_ok, backS_same w2]
  exact h2
/-- the item a gives x -/
def itemm (own : List Nat) (p : Pat) (e : M Sv) (W : Sl) (d : D) (x : D) : Prop :=
  pk p d W fun S1 => Ok (e S1) fun v S3 => td v fun y => y = x ∧ wk own S3 (· = W)
/-- [e for p in w], what is walked a typed list -/
theorem Ok_lcM {α : Type} {own : List Nat} {ck : Ck} {w : M (List D)} {Q : Sv → Sl → Prop} (xs : List α) (g : α → D) (h : α → D)
    (hh : Ok (w S) fun ds S1 => ds = xs.map g ∧ wk own S1 (fun W => ck S1 W = true ∧ ∀ a ∈ xs, itemm own p e W (g a) (h a)) ∧ Q (.ow (xs.map h)) S1) : Ok (eLc own ck w p Rc.tYes e S) Q := by
  refine Ok_lcF xs g (fun _ => True) h (Ok_mono hh fun ds S1 ⟨h0, h1, h2⟩ => ⟨h0, ?_, ?_⟩)
  · rw [wk_eq] at h1 ⊢
    refine ⟨h1.1, fun a ha => ?_⟩
    have z := h1.2 a ha
    unfold itemm at z
    unfold itemt
    rw [pk_iff] at z ⊢
    obtain ⟨S1, e1, z⟩ := z
    exact ⟨S1, e1, by rw [Ok_tYes]; exact ⟨by simp, z⟩⟩
  · have : (xs.filter fun _ => decide True) = xs := by simp
    rw [this]
    exact h2

/-! ### that change the slots -/
theorem backS_at {S1 X : Sl} {j : Nat} : ∀ {vs : List Nat}, j ∈ vs → j < S1.length → j < X.length → (backS vs S1 X)[j]? = S1[j]?
  | v :: vs, h, h1, h2 => by
    show ((backS vs S1 X).set v (S1.getD v .un))[j]? = _
    by_cases q : v = j
    · subst q
      rw [List.getElem?_set_self (by rw [backS_len]; exact h2), List.getD_eq_getElem?_getD, List.getElem?_eq_getElem h1]
      rfl
    · rw [List.getElem?_set_ne q]
      exact backS_at ((List.mem_cons.mp h).resolve_left fun z => q z.symm) h1 h2
/-- the own slots given back -/
def bkk : List Nat → Sl → Sl → (Sl → Prop) → Prop
  | [], _, T, k => k T
  | i :: l, S, T, k => bkk l S T fun U => sg S i fun s => sw U i s k
theorem bkk_eq : ∀ {l : List Nat} {S T : Sl} {k : Sl → Prop}, (∀ i ∈ l, i < S.length) → bkk l S T k = k (backS l S T)
  | [], S, T, k, _ => rfl
  | i :: l, S, T, k, h => by
    simp only [bkk]
    rw [bkk_eq fun j hj => h j (List.mem_cons_of_mem _ hj), sg_iff]
    have hi := h i List.mem_cons_self
    simp only [List.getElem?_eq_getElem hi, Option.some.injEq, exists_eq_left', sw_eq]
    show k _ = k ((backS l S T).set i (S.getD i .un))
    rw [List.getD_eq_getElem?_getD, List.getElem?_eq_getElem hi]
    rfl
theorem bkk_n {S T : Sl} {k : Sl → Prop} : bkk [] S T k = k T := rfl
theorem bkk_c {i : Nat} {l : List Nat} {S T : Sl} {k : Sl → Prop} : bkk (i :: l) S T k = bkk l S T fun U => sg S i fun s => sw U i s k := rfl
/-- a turn of a comprehension that may change the slots -/
def turnk (own : List Nat) (p : Pat) (c : M Bool) (e : M Sv) (T : Sl) (d : D) (I0 : Sl → Prop) (I1 : D → Sl → Prop) : Prop :=
  pk p d T fun S1 => Ok (c S1) fun b S2 => if b = true then Ok (e S2) fun v S3 => td v fun x => wk own S3 (I1 x) else wk own S2 I0
theorem lc_inv (I : Nat → List D → Sl → Prop) (ds : List D) (hck : ∀ i xs T, I i xs T → ck T = true)
    (hs : ∀ i d xs T, ds[i]? = some d → I i xs T → turnk own p c e T d (I (i + 1) xs) fun x => I (i + 1) (xs ++ [x])) :
    ∀ (l : List D) (i : Nat) (xs : List D) (S : Sl), l = ds.drop i → i ≤ ds.length → I i xs (wipeS own S) → ∃ ys S2, lcLoop own ck p c e l S = .ok ys S2 ∧ I ds.length (xs ++ ys) (wipeS own S2)
  | [], i, xs, S, hl, hi, h => by
    have : ds.length ≤ i := List.drop_eq_nil_iff.mp hl.symm
    have : i = ds.length := by omega
    subst this
    exact ⟨[], S, by simp only [lcLoop, hck _ _ _ h, if_true], by rw [List.append_nil]; exact h⟩
  | d :: l, i, xs, S, hl, hi, h => by
    have hlt : i < ds.length := by
      cases Nat.lt_or_ge i ds.length with
      | inl h => exact h
      | inr h => rw [List.drop_eq_nil_iff.mpr h] at hl; cases hl
    rw [List.drop_eq_getElem_cons hlt] at hl
    injection hl with hl1 hl2
    have z := hs i d xs _ (by rw [List.getElem?_eq_getElem hlt, hl1]) h
    unfold turnk at z
    rw [pk_iff] at z
    obtain ⟨S1, e1, z⟩ := z
    rw [Ok_ex_iff] at z
    obtain ⟨b, S2, e2, z⟩ := z
    cases b with
    | false =>
      simp only [Bool.false_eq_true, if_false] at z
      rw [wk_eq] at z
      obtain ⟨ys, S3, e3, w3⟩ := lc_inv I ds hck hs l (i + 1) xs S2 hl2 hlt z
      refine ⟨ys, S3, ?_, w3⟩
      simp only [lcLoop, hck _ _ _ h, if_true, e1, e2]
      exact e3
    | true =>
      simp only [if_true] at z
      rw [Ok_ex_iff] at z
      obtain ⟨v, S3, e3, z⟩ := z
      unfold td at z
      cases ev : toD v with
      | none => rw [ev] at z; exact z.elim
      | some x =>
        rw [ev] at z
        simp only at z
        rw [wk_eq] at z
        obtain ⟨ys, S4, e4, w4⟩ := lc_inv I ds hck hs l (i + 1) (xs ++ [x]) S3 hl2 hlt z
        refine ⟨x :: ys, S4, ?_, by rw [List.append_assoc] at w4; exact w4⟩
        simp only [lcLoop, hck _ _ _ h, if_true, e1, e2, e3, ev]
        rw [e4]
        rfl
/-- [e for p in w if c] with an invariant of the turn, the elements so far, the (wiped) slots -/
theorem Ok_lcI {own : List Nat} {ck : Ck} {w : M (List D)} {Q : Sv → Sl → Prop} (I : Nat → List D → Sl → Prop)
    (hh : Ok (w S) fun ds S1 => (∀ i ∈ own, i < S1.length) ∧ (∀ i xs T, I i xs T → ck S1 T = true) ∧ wk own S1 (I 0 []) ∧
      (∀ i d xs T, ds[i]? = some d → I i xs T → turnk own p c e T d (I (i + 1) xs) fun x => I (i + 1) (xs ++ [x])) ∧
      ∀ xs T, I ds.length xs T → bkk own S1 T (Q (.ow xs))) : Ok (eLc own ck w p c e S) Q := by
  unfold eLc
  rw [Ok_bind]
  refine Ok_mono hh fun ds S1 ⟨h0, h1, h2, h3, h4⟩ => ?_
  rw [wk_eq] at h2
  obtain ⟨ys, S2, e2, w2⟩ := lc_inv (own := own) (p := p) (c := c) (e := e) (ck := ck S1) I ds h1 h3 ds 0 [] S1 rfl (Nat.zero_le _) h2
  rw [e2]
  have z := h4 _ _ w2
  rw [bkk_eq h0, List.nil_append] at z
  show Ok (Res.ok (Sv.ow ys) (backS own S1 S2)) Q
  rw [Ok_ok]
  have : backS own S1 (wipeS own S2) = backS own S1 S2 := by
    apply List.ext_getElem?
    intro j
    by_cases hj : j ∈ own
    · by_cases hl : j < S2.length
      · have l1 : j < (backS own S1 (wipeS own S2)).length := by rw [backS_len, wipeS_len]; exact hl
        have l2 : j < (backS own S1 S2).length := by rw [backS_len]; exact hl
        have hs1 := h0 j hj
        rw [backS_at hj hs1 (by rw [wipeS_len]; exact hl), backS_at hj hs1 hl]
      · rw [List.getElem?_eq_none (by rw [backS_len, wipeS_len]; omega), List.getElem?_eq_none (by rw [backS_len]; omega)]
    · rw [backS_get hj, backS_get hj, wipeS_get hj]
  rw [this] at z
  exact z
end
/-! ### typed indices -/
section
variable {α : Type} {k : Sv → Prop} {i : Int}
theorem ixL {f : α → D} {xs : List α} (a0 : α) (h0 : 0 ≤ i) (h1 : i < xs.length) : op2 dIx (.list (xs.map f)) (.int i) k = k (.val (f (xs.getD i.toNat a0))) := by
  have hi : i.toNat < xs.length := by omega
  have e : (xs.map f)[i.toNat]? = some (f (xs.getD i.toNat a0)) := by
    rw [List.getElem?_map, List.getElem?_eq_getElem hi, List.getD_eq_getElem?_getD, List.getElem?_eq_getElem hi]
    rfl
  rw [op_ixL, atI_of h0 e]
  simp
theorem ixT {f : α → D} {xs : List α} (a0 : α) (h0 : 0 ≤ i) (h1 : i < xs.length) : op2 dIx (.tuple (xs.map f)) (.int i) k = k (.val (f (xs.getD i.toNat a0))) := by
  have hi : i.toNat < xs.length := by omega
  have e : (xs.map f)[i.toNat]? = some (f (xs.getD i.toNat a0)) := by
    rw [List.getElem?_map, List.getElem?_eq_getElem hi, List.getD_eq_getElem?_getD, List.getElem?_eq_getElem hi]
    rfl
  rw [op_ixT, atI_of h0 e]
  simp
end
theorem atI_neg {α : Type} {xs : List α} : L2.atI xs (-1) = xs.getLast? := by
  unfold L2.atI L2.ixN
  cases xs with
  | nil => rfl
  | cons a l =>
    rw [if_neg (by omega), if_pos (by simp; omega)]
    rw [List.getLast?_eq_getElem?, List.length_cons]
    simp only [Option.bind_some]
    congr 1
    omega
theorem ix_last {k : Sv → Prop} {ds : List D} {d : D} : op2 dIx (.list (ds ++ [d])) (.int (-1)) k = k (.val d) := by
  rw [op_ixL, atI_neg]; simp
theorem ix_lastT {k : Sv → Prop} {ds : List D} {d : D} : op2 dIx (.tuple (ds ++ [d])) (.int (-1)) k = k (.val d) := by
  rw [op_ixT, atI_neg]; simp
theorem zip2_cut {α : Type} (f : α → D) (l : List α) : zip2 (l.map f) (cutD (l.map f) (some 1) none) = (l.zip (l.drop 1)).map fun q => .tuple [f q.1, f q.2] := zip_cut f l
theorem numsD_map {lo : Int} {n : Nat} : numsD lo n = (List.range n).map fun k : Nat => PyData.int (lo + k) := rfl
/-! ### a loop over a typed list, by what was walked -/
theorem for_ty {α : Type} {p : Pat} {b : M Fl} {Q : Fl → Sl → Prop} (xs : List α) (g : α → D) (W : List α → Sl → Prop) (hn : ∀ S, W xs S → Q .nx S)
    (hs : ∀ pre a post S, xs = pre ++ a :: post → W pre S → pk p (g a) S fun S1 => Ok (b S1) (afk (W (pre ++ [a])) Q)) : ∀ S, W [] S → Ok (forLoop p b (xs.map g) S) Q := by
  intro S h
  refine for_inv2 (fun l S => ∃ pre post, l = post.map g ∧ xs = pre ++ post ∧ W pre S) ?a ?b (xs.map g) S ⟨[], xs, rfl, rfl, h⟩
  case a =>
    rintro S ⟨pre, post, e, rfl, w⟩
    have : post = [] := List.map_eq_nil_iff.mp e.symm
    subst this
    rw [List.append_nil] at hn
    exact hn S w
  case b =>
    rintro d ds S ⟨pre, post, e, hx, w⟩
    cases post with
    | nil => cases e
    | cons a post =>
      rw [List.map_cons] at e
      injection e with e1 e2
      subst e1 e2
      have z := hs pre a post S hx w
      rw [pk_iff] at z ⊢
      obtain ⟨S1, e, z⟩ := z
      have on : ∀ {T}, W (pre ++ [a]) T → ∃ pre' post', post.map g = post'.map g ∧ xs = pre' ++ post' ∧ W pre' T := fun {T} w => ⟨pre ++ [a], post, rfl, by rw [hx]; simp, w⟩
      refine ⟨S1, e, Ok_mono z fun f S2 y => ?_⟩
      cases f with
      | nx => exact on y
      | ct => exact on y
      | bk => exact y
      | rt v => exact y
theorem zip3_map {α β γ : Type} (f : α → D) (g : β → D) (h : γ → D) : ∀ (as : List α) (bs : List β) (cs : List γ), zip3 (as.map f) (bs.map g) (cs.map h) = (as.zip (bs.zip cs)).map fun q => .tuple [f q.1, g q.2.1, h q.2.2]
  | [], _, _ => by simp [zip3]
  | _ :: _, [], _ => by simp [zip3]
  | _ :: _, _ :: _, [] => by simp [zip3]
  | a :: as, b :: bs, c :: cs => by simp [zip3, zip3_map f g h as bs cs]
theorem enumF_map {α : Type} (f : α → D) : ∀ (as : List α) (k : Nat), enumF k (as.map f) = (as.zipIdx k).map fun q => .tuple [.int (q.2 : Int), f q.1]
  | [], _ => rfl
  | a :: as, k => by
    simp only [List.map_cons, enumF, List.zipIdx_cons, List.map_cons, enumF_map f as (k + 1)]
/-! ### two fors, typed -/
section
variable {p p1 : Pat} {e : M Sv} {w1 : M (List D)} {own own1 : List Nat} {ck : Sl → Bool} {S : Sl} {α β : Type}
def itemw (own own1 : List Nat) (p : Pat) (w1 : M (List D)) (p1 : Pat) (e : M Sv) (W : Sl) (d : D) (ys : List β) (g1 : β → D) (h : β → D) : Prop :=
  pk p d W fun S1 => Ok (w1 S1) fun ds1 S3 => ds1 = ys.map g1 ∧ wk own S3 (· = W) ∧ wk own1 S3 (fun W1 => ∀ b ∈ ys, itemm own1 p1 e W1 (g1 b) (h b))
theorem lc2_typ {W : Sl} (g : α → D) (ys : α → List β) (g1 : β → D) (h : α → β → D) (hck : ck W = true) (hv : ∀ i ∈ own1, i ∈ own) : ∀ (xs : List α) (S : Sl), wipeS own S = W → (∀ a ∈ xs, itemw own own1 p w1 p1 e W (g a) (ys a) g1 (h a)) →
    ∃ S2, lc2Loop own own1 ck p Rc.tYes w1 p1 Rc.tYes e (xs.map g) S = .ok (xs.flatMap fun a => (ys a).map (h a)) S2 ∧ wipeS own S2 = W
  | [], S, hS, _ => ⟨S, by simp only [List.map_nil, lc2Loop, hS, hck, if_true, List.flatMap_nil], hS⟩
  | a :: xs, S, hS, hi => by
    have z := hi a List.mem_cons_self
    unfold itemw at z
    rw [pk_iff] at z
    obtain ⟨S1, e1, z⟩ := z
    rw [Ok_ex_iff] at z
    obtain ⟨ds1, S3, e3, z1, z2, z3⟩ := z
    rw [wk_eq] at z2 z3
    have it : ∀ b ∈ ys a, itemt own1 p1 Rc.tYes e (wipeS own1 S3) (g1 b) True (h a b) := fun b hb => by
      have q := z3 b hb
      unfold itemm at q
      unfold itemt
      rw [pk_iff] at q ⊢
      obtain ⟨S1, e1, q⟩ := q
      exact ⟨S1, e1, by rw [Ok_tYes]; exact ⟨by simp, q⟩⟩
    obtain ⟨S4, e4, w4⟩ := lc_typ (own := own1) (p := p1) (c := Rc.tYes) (e := e) (ck := fun _ => true) g1 (fun _ => True) (h a) rfl (ys a) S3 rfl it
    have ef : (ys a).filter (fun _ => decide True) = ys a := List.filter_eq_self.mpr fun _ _ => decide_eq_true trivial
    rw [ef] at e4
    have w5 : wipeS own S4 = W := by
      rw [← z2]
      obtain ⟨a1, a2⟩ := wipeS_set w4
      exact wipeS_of (fun j hj => a2 j fun q => hj (hv j q)) a1
    obtain ⟨S5, e5, w6⟩ := lc2_typ g ys g1 h hck hv xs S4 w5 fun x hx => hi x (List.mem_cons_of_mem _ hx)
    refine ⟨S5, ?_, w6⟩
    have yes : ∀ T, Rc.tYes T = .ok true T := fun _ => rfl
    simp only [List.map_cons, lc2Loop, hS, hck, if_true, e1, yes, e3, z1, e4]
    rw [e5, List.flatMap_cons]
    simp [Res.bind]
theorem Ok_lc2T {ck : Ck} {w : M (List D)} {Q : Sv → Sl → Prop} (xs : List α) (g : α → D) (ys : α → List β) (g1 : β → D) (h : α → β → D) (hv : ∀ i ∈ own1, i ∈ own)
    (hh : Ok (w S) fun ds S1 => ds = xs.map g ∧ wk own S1 (fun W => ck S1 W = true ∧ ∀ a ∈ xs, itemw own own1 p w1 p1 e W (g a) (ys a) g1 (h a)) ∧ (xs.flatMap fun a => (ys a).map (h a)).length ≤ 16777216 ∧ Q (.ow (xs.flatMap fun a => (ys a).map (h a))) S1) : Ok (eLc2 own own1 ck w p Rc.tYes w1 p1 Rc.tYes e S) Q := by
  unfold eLc2
  rw [Ok_bind]
  refine Ok_mono hh fun ds S1 ⟨h0, h1, h2, h3⟩ => ?_
  rw [wk_eq] at h1
  subst h0
  obtain ⟨S2, e2, w2⟩ := lc2_typ (own := own) (own1 := own1) (p := p) (w1 := w1) (p1 := p1) (e := e) (ck := ck S1) g ys g1 h h1.1 hv xs S1 rfl h1.2
  rw [e2]
  show Ok (if (xs.flatMap fun a => (ys a).map (h a)).length ≤ 16777216 then Res.ok (.ow (xs.flatMap fun a => (ys a).map (h a))) (backS own S1 S2) else .no) Q
  rw [if_pos h2, backS_same w2, Ok_ok]
  exact h3
end
theorem cut_to (ds : List D) (n : Nat) : cutD ds none (some (n : Int)) = ds.take n := by
  unfold cutD
  have e1 : HT.sIx ds.length 0 none = 0 := rfl
  have e2 : HT.sIx ds.length ds.length (some (n : Int)) = min n ds.length := by
    unfold HT.sIx
    simp
    omega
  rw [e1, e2]
  simp only [List.drop_zero, Nat.sub_zero]
  rcases Nat.le_total n ds.length with h | h
  · rw [Nat.min_eq_left h]
  · rw [Nat.min_eq_right h, List.take_length, List.take_of_length_le h]
theorem cut_from (ds : List D) (n : Nat) : cutD ds (some (n : Int)) none = ds.drop n := by
  unfold cutD
  have e1 : HT.sIx ds.length 0 (some (n : Int)) = min n ds.length := by
    unfold HT.sIx
    simp
    omega
  have e2 : HT.sIx ds.length ds.length none = ds.length := rfl
  rw [e1, e2]
  rcases Nat.le_total n ds.length with h | h
  · rw [Nat.min_eq_left h, List.take_of_length_le (by simp)]
  · rw [Nat.min_eq_right h, Nat.sub_self, List.take_zero, List.drop_of_length_le h]
end Rc

/-! Rc: a lambda without parameters, handed to a def; its exceptions bear an empty context. -/
namespace Rc
open PySem PySem.Spec PyProof.Rows L2
variable [LamTbl]
/-- what the lambda's frame lets out -/
def lamXe (X : Cx) (A : Around) (outer : List Env) (s : Shared) (H : Hp) (E : XK) (sc : Scope) (f c' : Addr) : Value → Shared → Prop := fun e s' =>
  wpAny (model X.prog X.w) (A.deeper (LamX.lamEnv X sc s.heap.objs.size f c')) (leaving (LamX.lamEnv X sc s.heap.objs.size f c') e) (fun _ t => L2N.CX X.prog X.w outer H s E e t) (fun e' t => L2N.CX X.prog X.w outer H s E e' t) s'
/-- the context of the lambda's body -/
abbrev lamC (X : Cx) (A : Around) (outer : List Env) (s : Shared) (H : Hp) (E : XK) (sc : Scope) (f c' : Addr) : Cx :=
  (LamX.lamCx X A outer s H E sc f c').wish (lamXe X A outer s H E sc f c')
section
variable {X : Cx} {pins : List (Addr × Obj)} {σ : L2.St} {H HZ : Hp} {s s1 : Shared}
/-- a def that calls what it was given: what its body makes of a reading of that -/
def Gives (X : Cx) (k : Nat) (Ng : List Str) (x : Str) (sg : Scope) (g : Addr) (cdg : Value) (bg : List Stmt) (a : Str) (q : Str) (T : (XK → Hp → VK → Prop) → Hp → VK → Prop) : Prop :=
  ∀ (f c' : Addr) (s : Shared) (H : Hp) (Q : VK) (tl : XK → Hp → VK → Prop), Room k (X.A.deeper (envOfC x sg s.heap.objs.size g cdg)) →
    (∀ (W : WX) (pn : List (Addr × Obj)) (xe : Value → Shared → Prop) (E : XK) (p1 p2 : Pos), L2N.Takes ((cxOf C8.CX0 X.prog X.w X.K X.mg X.base Ng x sg g cdg X.A X.stack s H C8.E0).tr pn xe) W → (∀ c d (σ' : L2.St) H', σ'.length = Ng.length → E c d H' → W c d σ' H') →
      PE ((cxOf C8.CX0 X.prog X.w X.K X.mg X.base Ng x sg g cdg X.A X.stack s H C8.E0).tr pn xe) (.Call (.Name a p1) [] [] p2) (fun τ G R => τ[0]? = some (some (.ref f)) ∧ G c' = some (LamX.CodeO c' q) ∧ tl E G R)) →
    H c' = some (LamX.CodeO c' q) → T tl H Q →
    ∃ t, PSs (cxOf C8.CX0 X.prog X.w X.K X.mg X.base Ng x sg g cdg X.A X.stack s H C8.E0).nox bg t ∧ t { nx := fun _ G => Q .non G, rt := Q } (L2.start Ng [.ref f]) H
/-- a(), where a holds the lambda -/
theorem act_lam {Eg : XK} {Ng : List Str} {qg : Str} {sg : Scope} {g f c' : Addr} {cdg pm ctv : Value} {ar : Arguments} {body : Expr} {sc : Scope} {k i : Nat} {a : Str} {pn : List (Addr × Obj)} {xe : Value → Shared → Prop} {W : WX} {E : XK} {tb : TE} {p1 p2 : Pos} {CXg : CXT}
    (I : Inv X pins σ H s) (L : LamX.LamS X.env.scope sc) (hf : s.heap.get? f = some (PySem.W.kla_obj "<lambda>" (X.env.qual ++ "<lambda>") ar body sc (cloFrom X.env.cells sc.names []) pm c' ctv)) (hn : H f = none) (hr : f ∉ frs X.stack)
    (hb : bindArgs (PySem.W.kla_fn "<lambda>" (X.env.qual ++ "<lambda>") ar body sc (cloFrom X.env.cells sc.names []) pm (.ref c') ctv) ⟨[], []⟩ = pure [])
    (tk : L2N.Takes ((cxOf CXg X.prog X.w X.K X.mg X.base Ng qg sg g cdg X.A X.stack s H Eg).tr pn xe) W) (hW : ∀ c d (σ' : L2.St) H', σ'.length = Ng.length → E c d H' → W c d σ' H') (rm : Room (k + 1) (X.A.deeper (envOfC qg sg s.heap.objs.size g cdg)))
    (hbody : ∀ (A : Around) (outer : List Env) (s : Shared) (H : Hp), Room k (A.deeper (LamX.lamEnv X sc s.heap.objs.size f c')) → PE (lamC X A outer s H E sc f c') body tb)
    (hN : Ng[i]? = some a) (hv : Vis sg a) (hd : (a == ("__debug__" : Str)) = false := by decide) (hcd : (a == ("__classdict__" : Str)) = false := by decide) :
    PE ((cxOf CXg X.prog X.w X.K X.mg X.base Ng qg sg g cdg X.A X.stack s H Eg).tr pn xe) (.Call (.Name a p1) [] [] p2) (fun τ G R => τ[i]? = some (some (.ref f)) ∧ G c' = some (LamX.CodeO c' (X.env.qual ++ "<lambda>")) ∧ tb σ G R) := by
  refine ⟨fun pz sz σZ HZ Q IZ ⟨hs, hc, ht⟩ => ?_⟩
  have base := (pe_var (pos := p1) (i := i) hN hv hd hcd).run pz sz σZ HZ (fun v G => v = .ref f ∧ G = HZ) IZ ⟨.ref f, hs, rfl, rfl⟩
  refine wpAny_Call_Name_kw (thn base fun u t ⟨v, G, J, rv, ev, eG⟩ => ?_)
  subst ev eG
  obtain rfl : u = Value.ref f := rv
  have un : Un (frs X.stack) [] H G s.heap t.heap := J.base
  have lf := un.keep f _ hf hn hr (fun z => nomatch (show f ∈ ([] : List Addr) from z))
  obtain ⟨⟨oc, vs, tq, hoc, hdc, hvc⟩, _, _⟩ := J.hok c' _ hc
  refine PySem.W.callWith_F0 ⟨_, _, _, _, lf⟩ ?_
  have run : codeAny (model X.prog X.w) (X.A.deeper (envOfC qg sg s.heap.objs.size g cdg)) (.call (.ref f) ⟨[], []⟩) (CR (L2N.CX X.prog X.w) (envOfC qg sg s.heap.objs.size g cdg :: X.stack) X.prog X.w G t Q E) t := by
    refine PySem.W.kla_callFunE rm.depth lf rfl L.co L.gen rfl ⟨c', oc, vs, tq, rfl, hoc, hdc, hvc⟩ ?_
    rw [hb]
    have no : ∀ y ∈ sc.names, y.2 ≠ .cell := fun y hy => (L.own y hy).2
    refine wpAny_pure (wpAny_newFunctionEnv no (fun y hy => absurd hy (by simp)) (fun h₁ ns sb => ⟨J.nolimit.fresh _ sb, ?_⟩) L.kind)
    show codeAny _ _ (.expr body (LamX.lamEnv X sc t.heap.objs.size f c')) _ _
    have kp : ∀ b o, t.heap.get? b = some o → h₁.get? b = some o := fun b o e => sb.extBut b o (Nat.ne_of_lt (Heap.lt_size e)) (Heap.get?_push_of_some _ e)
    have J1 := LamX.lam_start2 (E := E) (tk := t.toks + ([] : List (Str × Value)).length) (f := f) (c' := c') I L J.env0 rm.hd un ns kp
    have J2 : Inv (lamC X (X.A.deeper (envOfC qg sg s.heap.objs.size g cdg)) (envOfC qg sg s.heap.objs.size g cdg :: X.stack) t G E sc f c') [] σ G { t with heap := h₁, toks := t.toks + ([] : List (Str × Value)).length } := J1.wish _
    refine PySem.W.kla_codeExpr (wpAny_mono ((hbody _ _ t G (rm.deeper _)).run [] _ _ G Q J2 ht) (fun v s' ⟨x, G', J', rv, q⟩ => ⟨x, G', J'.os, J'.bare, J'.base, J'.hok, rv, q⟩) fun _ _ q => q)
  have hx : Passes (L2N.CX X.prog X.w) ((cxOf CXg X.prog X.w X.K X.mg X.base Ng qg sg g cdg X.A X.stack s H Eg).tr pn xe) E := fun _ σ _ _ e s' I c => tk e s' (L2N.XE.of_call I (fun cls d H' h => hW cls d σ H' I.len h) c)
  refine wpAny_call (codeAny_mono run fun r s' hq => ?_)
  rcases r with e | fl
  · exact hx pz σZ G t e s' J hq
  · rcases fl with _ | u | _ | _ <;> first | exact hq.elim | exact J.after hq
/-- a lambda was made: its code object is new, or known -/
def Made (P : Addr) (q : Str) (H G : Hp) : Prop := G = H ∨ ∃ c ps, H c = none ∧ G = upd (upd H P (.tbl ps)) c (LamX.CodeO c q)
structure Grew (H G : Hp) : Prop where
  ext : LamX.ExtN H G
  dom : ∀ b, H b ≠ none → G b ≠ none
  tb : TbM H G
theorem Made.grew {P : Addr} {q : Str} {H G : Hp} (m : Made P q H G) (hq : q = lamQ) (t0 : LamX.TabS H P q) (t1 : LamX.TabS G P q) : Grew H G := by
  subst hq
  rcases m with rfl | ⟨c, ps, hc, rfl⟩
  · exact ⟨LamX.ExtN.refl _, fun _ h => h, TbM.refl _⟩
  obtain ⟨ps0, hP, _, _⟩ := t0
  have away : ∀ {b : Addr} {o : HO}, H b = some o → b ≠ P → upd (upd H P (.tbl ps)) c (LamX.CodeO c lamQ) b = some o := fun {b o} e n => by
    rw [upd_ne (ne_of_none e hc), upd_ne n]
    exact e
  have ex : LamX.ExtN H (upd (upd H P (.tbl ps)) c (LamX.CodeO c lamQ)) := fun b o e n => away e fun z => by
    subst z
    rw [hP] at e
    exact n _ (Option.some.inj e).symm
  refine ⟨ex, fun b h z => ?_, fun P2 t2 => ?_⟩
  · by_cases e : b = P
    · subst e
      obtain ⟨_, w, _⟩ := t1
      rw [z] at w
      cases w
    · cases hb : H b with
      | none => exact h hb
      | some o => rw [away hb e] at z; cases z
  · by_cases e : P2 = P
    · rw [e]; exact t1
    · obtain ⟨ps2, a1, a2, a3⟩ := t2
      refine ⟨ps2, away a1 e, a2, fun p2 v2 h2 => ?_⟩
      obtain ⟨c2, b1, b2⟩ := a3 p2 v2 h2
      exact ⟨c2, b1, ex _ _ b2 LamX.codeO_ne⟩
theorem lam_mk {c P : Addr} {q : Str} {ar : Arguments} {body : Expr} {sc : Scope} {lp : Pos} {EX R : Value → Shared → Prop} (I : Inv X pins σ H s) (TB : LamX.TabB X.base X.mg c P) (hcode : X.env.code = .ref c) (hq : X.env.qual ++ "<lambda>" = q) (hT : LamX.TabS H P q) (hdef : defaultsOf ar X.env = ([], []))
    (hfree : ∀ y ∈ sc.names, y.2 = .free → ∃ c, X.env.cells.lookup y.1 = some c)
    (k : ∀ (f c' : Addr) (pm ctv : Value) (G : Hp) (s2 : Shared), Inv X pins σ G s2 → Made P q H G → LamX.TabS G P q → s2.heap.get? f = some (PySem.W.kla_obj "<lambda>" q ar body sc (cloFrom X.env.cells sc.names []) pm c' ctv) → G f = none → f ∉ frs X.stack → G c' = some (LamX.CodeO c' q) → R (.ref f) s2) :
    wpAny (model X.prog X.w) X.A (eval (.Lambda ar body sc lp) X.env) R EX s := by
  subst hq
  obtain ⟨ps, tP, tt, ta⟩ := id hT
  have far : ∀ g, s.heap.objs.size ≤ g → g ∉ frs X.stack := fun g le z => (List.mem_cons.mp (I.stkSub _ z)).elim (fun e => absurd (e ▸ I.lt) (Nat.not_lt_of_le le)) (I.nofs le)
  have oP := I.hok P _ tP
  refine PySem.W.kla_eval hdef ?_
  cases am : codeAmong lp ps.toList with
  | some cv =>
    obtain ⟨c', rfl, co⟩ := ta lp _ am
    refine PySem.W.kla_makeFunctionHit (c := c) (P := P) (mg := X.mg) (ps := ps) (L2.closure_ok hfree) I.ok.glob (I.mod.glob.keeps I.bk) hcode (TB.code.keeps I.bk) oP tt am (TB.bm.keeps I.bk) fun ct1 hh tk st le => ?_
    exact k hh.objs.size c' _ ct1 H _ (I.kept (t' := tk) fun b o e => Heap.get?_push_of_some _ (st b o e)) (.inl rfl) hT (Heap.get?_push_size _ rfl) (I.hok.fresh le) (far _ le) co
  | none =>
    refine PySem.W.kla_makeFunction (c := c) (P := P) (mg := X.mg) (ps := ps) (L2.closure_ok hfree) I.ok.glob (I.mod.glob.keeps I.bk) hcode (TB.code.keeps I.bk) oP tt am TB.gP (TB.bm.keeps I.bk) fun c' ct1 hh tk st ge lt rec tb => ?_
    obtain ⟨c2, oc, vs, t, e2, o1, o2, o3⟩ := rec
    cases e2
    have le : s.heap.objs.size ≤ hh.objs.size := Nat.le_trans ge (Nat.le_of_lt lt)
    have nC : H c' = none := I.hok.fresh ge
    have J := LamX.inv_table (t' := tk) (q := X.env.qual ++ "<lambda>") (more := #[rawInt lp.line, rawInt lp.col, .ref c']) (h' := hh.push (PySem.W.kla_obj "<lambda>" (X.env.qual ++ "<lambda>") ar body sc (cloFrom X.env.cells sc.names []) ((X.mg "__name__").getD .none) c' ct1)) I tP
      (fun b o nb e => Heap.get?_push_of_some _ (st b o nb e)) (Heap.get?_push_of_some _ tb) ge ⟨oc, vs, t, Heap.get?_push_of_some _ o1, o2, o3⟩
    refine k hh.objs.size c' _ ct1 _ _ J (.inr ⟨c', _, nC, rfl⟩) ⟨_, by rw [upd_ne (ne_of_none tP nC), upd_same], ?_, fun p2 v2 h2 => ?_⟩ (Heap.get?_push_size _ rfl) ?_ (far _ le) upd_same
    · rw [Array.toList_append]
      exact PySem.TriplesOk_snoc _ _ _ _ tt
    · rw [Array.toList_append] at h2
      refine (LamX.among_app _ tt h2).elim (fun z => ?_) fun z => ⟨c', z, upd_same⟩
      obtain ⟨c0, b1, b2⟩ := ta p2 v2 z
      refine ⟨c0, b1, ?_⟩
      rw [upd_ne (ne_of_none b2 nC), upd_ne]
      · exact b2
      · rintro rfl
        rw [tP] at b2
        exact LamX.codeO_ne _ (Option.some.inj b2).symm
    · rw [upd_ne (Nat.ne_of_gt lt), upd_ne (Nat.ne_of_gt (Nat.lt_of_lt_of_le (Heap.lt_size oP) le))]
      exact I.hok.fresh le
/-- the reading of x(lambda: body), from the lambda's own -/
def tLm (P : Addr) (T : (XK → Hp → VK → Prop) → Hp → VK → Prop) (t : XK → TE) : TE := fun σ H Q => LamX.TabS H P lamQ ∧ ∀ G, Grew H G → T (fun E H' Q' => t E σ H' Q') G Q
theorem lam_call {P c g : Addr} {T : (XK → Hp → VK → Prop) → Hp → VK → Prop} {x a : Str} {k : Nat} {pg : Arguments} {bg : List Stmt} {sg : Scope} {dV kV doc pm cdv ct oc : Value} {an od : Option Addr} {osl : Array (Option Value)} {Ng : List Str}
    {ar : Arguments} {body : Expr} {sc : Scope} {t : XK → TE} {p lp pos : Pos} (hg : Gl X x) (hm : X.mg x = some (.ref g)) (hk : PySem.W.keepIn X.K (.ref g) = true)
    (lk : X.K.lookup g = some ⟨oc, od, .func (PySem.W.fnOf x x pg bg sg dV kV doc pm an cdv ct), osl⟩) (hcg : PySem.W.codeIn X.K cdv x = true) (hb : L2.Binds X.K (PySem.W.fnOf x x pg bg sg dV kV doc pm an cdv ct) [a] []) (Sg : FnScope Ng [a] sg) (hNg : Ng[0]? = some a) (hva : Vis sg a)
    (hq : X.env.qual ++ "<lambda>" = lamQ) (hG : Gives X (k + 1) Ng x sg g cdv bg a lamQ T)
    (TB : LamX.TabB X.base X.mg c P) (hcode : X.env.code = .ref c) (rm : Room (k + 2) X.A) (L : LamX.LamS X.env.scope sc) (hdef : defaultsOf ar X.env = ([], []))
    (hbind : ∀ (q : Str) (cl : List (Str × Addr)) (pm cv ctv : Value), bindArgs (PySem.W.kla_fn "<lambda>" q ar body sc cl pm cv ctv) ⟨[], []⟩ = pure [])
    (hbody : ∀ (A : Around) (outer : List Env) (s : Shared) (H : Hp) (E : XK) (f c' : Addr), Room k (A.deeper (LamX.lamEnv X sc s.heap.objs.size f c')) → PE (lamC X A outer s H E sc f c') body (t E))
    (hdb : (x == ("__debug__" : Str)) = false := by decide) (hd : (a == ("__debug__" : Str)) = false := by decide) (hcd : (a == ("__classdict__" : Str)) = false := by decide) :
    PE X (.Call (.Name x p) [.Lambda ar body sc lp] [] pos) (tLm P T t) := by
  refine ⟨fun pins s σ H Q I ⟨hT, h⟩ => ?_⟩
  refine wpAny_Call_Name_kw (ld_glob I hg hm ?_ hdb)
  refine PySem.W.callWith_K (h₀ := X.base) I.ok.mod.kin hk ?_ (by rfl) (by rfl)
  show wpAny _ _ (spliced ((false, eval (.Lambda ar body sc lp) X.env) :: backTo pos (starEach [] X.env))) _ _ s
  refine Calls.spliced_cons (lam_mk I TB hcode hq hT hdef (L.has I.ok) fun f c' pm' ctv G s1 J md T1 hf hn hr hco => ?_)
  refine Calls.spliced_nil ⟨J.kIn, ?_⟩
  have run : codeAny (model X.prog X.w) X.A (.call (.ref g) ⟨[.ref f], []⟩) (CR C8.CX0 X.stack X.prog X.w G s1 Q C8.E0) s1 := by
    refine LamX.run_ofS (N := Ng) (ps := [a]) (us := [.ref f]) (vs := [.ref f]) lk hcg Sg rm J.env0 (hb s1 [.ref f] J.kIn rfl) (.cons rfl .nil) rfl fun rm' => ?_
    obtain ⟨u, hu, hq⟩ := hG f c' s1 G Q (fun E H' Q' => t E σ H' Q') rm' (fun W pn xe E p1 p2 tk hW => by
      have z := act_lam (i := 0) (p1 := p1) (p2 := p2) J L (hq ▸ hf) hn hr (hbind _ _ _ _ _) tk hW rm' (fun A outer s H r2 => hbody A outer s H E f c' r2) hNg hva hd hcd
      rw [hq] at z
      exact z) hco (h G (md.grew rfl hT T1))
    exact ⟨u, hu.nox, hq⟩
  refine wpAny_call (codeAny_mono run fun r s2 hq => ?_)
  rcases r with e | fl
  · exact (show False from hq).elim
  · rcases fl with _ | u | _ | _ <;> first | exact hq.elim | exact J.after hq
end
end Rc

/-! Rc: a try with two clauses that bind one name. -/
namespace Rc
open PySem PySem.Spec PyProof.Rows L2
variable [LamTbl]
/-- behind a suite the name's slot is empty -/
def offE (i : Nat) (D : Ends) : Ends := { nx := fun τ G => D.nx (τ.set i none) G, rt := D.rt, bk := fun τ G => D.bk (τ.set i none) G, ct := fun τ G => D.ct (τ.set i none) G }
abbrev SuT := Addr → Obj → Value → Option Addr → TS
def wTwo (K : PySem.W.Frag) (c1 c2 : Value) (i : Nat) (t1 t2 : SuT) (D : Ends) : WX := fun cls d σ H =>
  (PySem.W.exmOne K cls c1 = some true ∧ ∀ a oe, H a = none → L2N.Zn cls d oe → t1 a oe cls d (offE i D) (σ.set i (some (.ref a))) H) ∨
  (PySem.W.exmOne K cls c1 = some false ∧ PySem.W.exmOne K cls c2 = some true ∧ ∀ a oe, H a = none → L2N.Zn cls d oe → t2 a oe cls d (offE i D) (σ.set i (some (.ref a))) H)
section
variable {X : Cx} {x1 x2 n : Str} {c1 c2 : Value} {i : Nat} {body su1 su2 : List Stmt} {b1 b2 : Stmt} {n1 n2 pos q1 q2 : Pos} {tb : WX → TS} {t1 t2 : SuT}
theorem try_two (hs : X.stack = X.env :: X.outer) (hf : X.env.frame = some X.env.locals) (hN : X.N.Nodup) (hi : X.N[i]? = some n) (hln : X.env.kindOf n = some .local) (hc1 : Names X x1 c1) (hc2 : Names X x2 c2)
    (hb : ∀ (W : WX) (pn : List (Addr × Obj)) (xe : Value → Shared → Prop), L2N.Takes (X.tr pn xe) W → PSs (X.tr pn xe) body (tb W))
    (h1 : ∀ (a : Addr) (oe : Obj) (cls : Value) (d : Option Addr) (pn : List (Addr × Obj)), L2N.Zn cls d oe → (∃ vs, oe.data = .fields vs) → PSs (X.suite a ((a, oe) :: pn)) (b1 :: su1) (t1 a oe cls d))
    (h2 : ∀ (a : Addr) (oe : Obj) (cls : Value) (d : Option Addr) (pn : List (Addr × Obj)), L2N.Zn cls d oe → (∃ vs, oe.data = .fields vs) → PSs (X.suite a ((a, oe) :: pn)) (b2 :: su2) (t2 a oe cls d)) :
    PS X (.Try body [.ExceptHandler (some (.Name x1 n1)) (some n) (b1 :: su1) q1, .ExceptHandler (some (.Name x2 n2)) (some n) (b2 :: su2) q2] [] [] pos) (fun D σ H => tb (wTwo X.K c1 c2 i t1 t2 D) D σ H) := by
  refine ⟨fun pins s σ H D I h => wpAny_Try_except ?_⟩
  have ok := I.ok
  have fr : X.A.frames = some (X.env :: X.outer) := hs ▸ ok.frames
  have mid := (hb (wTwo X.K c1 c2 i t1 t2 D) (X.pn ++ pins) (fun e u1 => wpAny (model X.prog X.w) X.A (noteFrame e X.env) (fun _ u2 => wpAny (model X.prog X.w) X.A (setFlight e none)
    (fun _ u3 => wpAny (model X.prog X.w) X.A (handleBy e X.env [.ExceptHandler (some (.Name x1 n1)) (some n) (b1 :: su1) q1, .ExceptHandler (some (.Name x2 n2)) (some n) (b2 :: su2) q2]) (SP X pins D) X.xe u3) X.xe u2) X.xe u1) (fun u s' xx => ?_)).run [] s σ H D (I.toTry _) h
  · refine wpAny_mono mid (fun fl s1 z => ?_) fun _ _ z => z
    rcases fl with _ | u | _ | _
    all_goals first
      | (obtain ⟨τ, G, J, q⟩ := z; first | exact wpAny_execs_nil ⟨τ, G, J.ofTry ok, q⟩ | exact ⟨τ, G, J.ofTry ok, q⟩)
      | (obtain ⟨v, τ, G, J, r, q⟩ := z; exact ⟨v, τ, G, J.ofTry ok, r, q⟩)
  -- what has flown in
  obtain ⟨a, B, sI, pins', τ, G, cls, d, rfl, J', nb, up, sky, na, os, ag, w⟩ := xx
  have J : Inv X pins τ G sI := J'.ofTry ok
  rw [show (X.tr _ _).stack = X.env :: X.outer from hs] at sky
  show wpAny (model X.prog X.w) X.A (noteFrame (.ref a) X.env) _ _ _
  refine L2N.Sky.land L2N.Zn.steady fr hf sky fun h3 f3 up3 => ?_
  obtain ⟨o3, v3, g3, z3, e3⟩ := f3.there
  have J3 : Inv X pins τ G { s' with heap := h3 } := J.landed nb f3.1 (up.trans up3) os ag
  have far : a ∉ frs (X.env :: X.outer) := fun m => by
    obtain ⟨_, o', g', no⟩ := f3.2.2.1.mem m
    cases g3.symm.trans g'
    exact no _ e3
  have nL : a ≠ X.env.locals := fun z => far (List.mem_filterMap.mpr ⟨X.env, List.mem_cons_self, z ▸ hf⟩)
  have nF : a ∉ X.fs := fun m => by
    obtain ⟨e, m1, m2⟩ := List.mem_filterMap.mp m
    exact far (List.mem_filterMap.mpr ⟨e, List.mem_cons_of_mem _ m1, m2⟩)
  have S3 := J3.suite g3 e3 na nL nF
  have LT : PySem.W.Looks (model X.prog X.w) h3 (typeOf (.ref a)) cls := fun _ _ _ _ k q => wpAny_typeOf_ref (k _ _ g3) (z3.1.symm ▸ q)
  -- a clause's class is looked up
  have look : ∀ {x : Str} {c : Value} {np : Pos} {Q R : Value → Shared → Prop}, Names X x c → Q c { s' with heap := h3 } → wpAny (model X.prog X.w) (X.A.mark (some (.ref a))) (eval (.Name x np) X.env) Q R { s' with heap := h3 } := by
    rintro x c np Q R ⟨hg, hdb, hm | ⟨hm, hv, hnn⟩⟩ q
    · exact ld_glob (X := X.suite a ((a, o3) :: (X.pn ++ pins))) S3 hg hm q hdb
    · exact ld_blt (X := X.suite a ((a, o3) :: (X.pn ++ pins))) S3 hg hm hv q hnn hdb
  -- a clause's suite runs
  have hloc : Loc X.env.scope n := .inl hln
  have runs : ∀ {b : Stmt} {su : List Stmt} {qp : Pos} {t : SuT}, (∀ (a : Addr) (oe : Obj) (cls : Value) (d : Option Addr) (pn : List (Addr × Obj)), L2N.Zn cls d oe → (∃ vs, oe.data = .fields vs) → PSs (X.suite a ((a, oe) :: pn)) (b :: su) (t a oe cls d)) →
      (∀ a oe, G a = none → L2N.Zn cls d oe → t a oe cls d (offE i D) (τ.set i (some (.ref a))) G) →
      codeAny (model X.prog X.w) (X.A.mark (some (.ref a))) (.handlers (.ref a) [.ExceptHandler none (some n) (b :: su) qp] X.env) (fun r u => match r with
        | .ok f => wpAny (model X.prog X.w) X.A (do bindName X.env n .none; unbindBehindTheSuite X.env n qp) (fun _ v => SP X pins D f v) X.xe u
        | .error x => cameBackBy (model X.prog X.w) X.A X.env X.xe x u) { s' with heap := h3 } := by
    intro b su qp t hsu hw
    refine codeAny_handlers_suite_as (HandSPX.lands_againZ f3 fun h4 f4 up4 => ?_)
    obtain ⟨o4, v4, g4, z4, e4⟩ := f4.there
    have J4 : Inv X pins τ G { s' with heap := h4 } := J.landed nb f4.1 ((up.trans up3).trans up4) os ag
    refine store_ok (X := X.suite a ((a, o4) :: (X.pn ++ pins))) (v := .ref a) (J4.suite g4 e4 na nL nF) hN hi hloc rfl (fun s5 S5 => ?_) (.inr hln)
    refine wpAny_mono ((hsu a o4 cls d (X.pn ++ pins) z4 ⟨_, e4⟩).run [] s5 _ G _ S5 (hw a o4 na z4)) (fun fl s6 z => ?_) fun _ _ z => z.elim
    have off : ∀ {τ6 : L2.St} {G6 : Hp} {R : Shared → Prop}, Inv (X.suite a ((a, o4) :: (X.pn ++ pins))) [] τ6 G6 s6 → (∀ s7, Inv X pins (τ6.set i none) G6 s7 → R s7) →
        wpAny (model X.prog X.w) X.A (do bindName X.env n .none; unbindBehindTheSuite X.env n qp) (fun _ s7 => R s7) X.xe s6 := fun S6 k => gone_ok (S6.unsuite ok) hN hi hln k
    rcases fl with _ | u | _ | _
    all_goals first
      | (obtain ⟨τ6, G6, S6, q⟩ := z; exact off S6 fun s7 J7 => ⟨_, _, J7, q⟩)
      | (obtain ⟨v, τ6, G6, S6, r, q⟩ := z; exact off S6 fun s7 J7 => ⟨_, _, _, J7, r, q⟩)
  have nb0 : (Value.ref a) ≠ byPass := by intro z; cases z
  rcases w with ⟨m1, w1⟩ | ⟨m1, m2, w2⟩
  · exact wpAny_handleBy_cons (codeAny_handlers_test (look hc1 ((PySem.W.exm_one (M := model X.prog X.w) J3.kIn LT m1).here (runs h1 w1)))) nb0
  · refine wpAny_handleBy_cons (codeAny_handlers_test (look hc1 ((PySem.W.exm_one (M := model X.prog X.w) J3.kIn LT m1).here ?_))) nb0
    exact wpAny_handleBy_cons (codeAny_handlers_test (look hc2 ((PySem.W.exm_one (M := model X.prog X.w) J3.kIn LT m2).here (runs h2 w2)))) nb0
end
end Rc

/-! Rc: walks while an exception is handled. -/
namespace Rc
open PySem PySem.Spec PyProof.Rows L2 Builtin
variable [LamTbl]
/-- the exception at x1 stands in h with an empty context -/
def CtxAt (x1 : Addr) (h : Heap) : Prop := ∃ (o : Obj) (vs : Array Value), h.get? x1 = some o ∧ o.data = .fields vs ∧ vs[2]? = some .none
theorem CtxAt.keep {x1 : Addr} {h h' : Heap} (c : CtxAt x1 h) (k : ∀ o, h.get? x1 = some o → h'.get? x1 = some o) : CtxAt x1 h' := let ⟨o, vs, e, r⟩ := c; ⟨o, vs, k o e, r⟩
section
variable {prog : Program} {w : World} {A : Around} {E : Value → Shared → Prop} {s : Shared}
/-- StopIteration, raised there -/
theorem stop_hot {α : Type} {x1 : Addr} {Q : α → Shared → Prop} (hd : A.handled = some (.ref x1)) (hx : CtxAt x1 s.heap)
    (hE : ∀ h' e, (∀ b o, s.heap.get? b = some o → h'.get? b = some o) → (∃ o, h'.get? e = some o ∧ o.cls = .type "StopIteration") → E (.ref e) { s with heap := h' }) :
    wpAny (model prog w) A (newExc (.type "StopIteration") [] >>= fun e => (raiseNew e : Sem α)) Q E s := by
  obtain ⟨o1, vs1, g1, d1, c1⟩ := hx
  refine wpAny_bind ?_
  simp only [newExc, newTuple]
  refine wpAny_bind (wpAny_newObj_type ?_ (by size_fits))
  refine wpAny_bind (m := firstArgMember _ _) (wpAny_of_eq (a := Value.none) (by first | rfl | (simp only [firstArgMember]; rfl)) ?_)
  refine wpAny_newObj_type ?_ (by size_fits)
  have g2 := Heap.get?_push_of_some (h := s.heap.push { cls := .type "tuple", data := .seq ([] : List Value).toArray }) { cls := .type "StopIteration", data := .fields ([Value.ref s.heap.objs.size, .none, .none, .none, .bool false, .none] : List Value).toArray } (Heap.get?_push_of_some { cls := .type "tuple", data := .seq ([] : List Value).toArray } g1)
  have stay : ∀ {h2 : Heap} {a : Addr} {f : Obj → Obj}, (∀ b o, s.heap.get? b = some o → h2.get? b = some o) → (∀ b o, s.heap.get? b = some o → b ≠ a) → ∀ b o, s.heap.get? b = some o → (h2.update a f).get? b = some o := fun k n b o e => by
    rw [Heap.get?_update_other _ _ (Ne.symm (n b o e))]; exact k b o e
  refine HotX.raiseNew_hot ⟨hd, o1, vs1, Heap.get?_push_of_some _ (Heap.get?_push_of_some _ g1), d1, c1⟩ (Nat.ne_of_lt (Heap.lt_size (Heap.get?_push_of_some _ g1))) (Heap.get?_push_size _ rfl) rfl (by first | (simp; done) | (simp; omega) | (simp only [Array.size_append]; simp; omega)) ?_
  refine hE _ _ (stay (fun b o e => Heap.get?_push_of_some _ (Heap.get?_push_of_some _ e)) fun b o e => Nat.ne_of_lt (Heap.lt_size (Heap.get?_push_of_some _ e))) ⟨_, Heap.get?_update_self _ (Heap.get?_push_size _ rfl) rfl, rfl⟩
theorem nextOf_end_hot {it l x1 : Addr} {i : Nat} {items : Array Value} {Q : Value → Shared → Prop} (hd : A.handled = some (.ref x1)) (hx : CtxAt x1 s.heap) (ne : x1 ≠ it) (hit : s.heap.IsListIter it l i) (hl : s.heap.IsList l items) (hi : items[i]? = none)
    (hE : ∀ h' e, Heap.ExtBut it s.heap h' → (∃ o, h'.get? e = some o ∧ o.cls = .type "StopIteration") → E (.ref e) { s with heap := h' }) : wpAny (model prog w) A (Builtin.SmallTypes.nextOf (.ref it)) Q E s := by
  obtain ⟨o, go, co, dd⟩ := id hit
  obtain ⟨ol, gl, _, nl, dl⟩ := hl
  have nn : ¬ ((Value.ref l == Value.none) = true) := Bool.false_ne_true
  unfold Builtin.SmallTypes.nextOf
  refine wpAny_bind (wpAny_callSpecial?_slot (name := Str.ofString "__next__") hit.typeIs slot_listiter_next (wpAny_call_entry slot_listiter_next hit.typeIs entry_listiter_next ?_ (args_listiter_next _)))
  show wpAny (model prog w) A.in1 (field (.ref it) 0 >>= _) _ _ s
  refine wpAny_bind (wpAny_field go dd (x := .ref l) rfl ?_)
  show wpAny (model prog w) A.in1 (if (Value.ref l == Value.none) = true then _ else _) _ _ s
  rw [if_neg nn]
  refine wpAny_bind (wpAny_field go dd (x := .int i 0) rfl ?_)
  refine wpAny_bind (m := seqItems? (.ref l)) (wpAny_seqItems gl dl ?_)
  simp only [Int.toNat_natCast, hi]
  refine wpAny_bind (wpAny_rule (wpAny_bind (wpAny_setField go dd (by simp) ?_)))
  have ub : ∀ b u, b ≠ it → s.heap.get? b = some u → (s.heap.update it (Obj.mapFields (·.setIfInBounds 0 Value.none))).get? b = some u := fun b u n e => by
    rw [Heap.get?_update_other _ _ (Ne.symm n)]; exact e
  refine stop_hot (s := { s with heap := s.heap.update it (Obj.mapFields (·.setIfInBounds 0 Value.none)) }) (A := A.in1) hd (hx.keep fun u e => ub _ u ne e) fun h' e k st => ?_
  exact hE h' e (fun b u n g => k b u (ub b u n g)) st
theorem draws_hot {it l x1 : Addr} (hd : A.handled = some (.ref x1)) (ne : x1 ≠ it) (hne : l ≠ it) (items : Array Value) :
    Draws prog w A it [it, l, x1] items.size (fun i v => items[i]? = some v) (fun i h => (h.IsListIter it l i ∧ h.IsList l items) ∧ CtxAt x1 h) where
  live := fun _ _ st => let ⟨o, g, _⟩ := st.1.1; ⟨o, g⟩
  frame := fun _ _ _ st k => ⟨⟨st.1.1.at fun o e => k it (by simp) o e, st.1.2.at fun o e => k l (by simp) o e⟩, st.2.keep fun o e => k x1 (by simp) o e⟩
  item := fun i s Q E hi st hQ => wpAny_nextOf_list_item st.1.1 st.1.2 (x := items[i]) (by simp [hi]) fun h' hit' sb => hQ _ h' s.toks (by simp [hi]) ⟨⟨hit', st.1.2.extBut sb.extBut hne⟩, st.2.keep fun o e => (sb.2 _ ne).trans e⟩ sb
  done := fun s Q E st hE => nextOf_end_hot hd st.2 ne st.1.1 st.1.2 (by simp) hE
end
/-! ### a tuple is unpacked there -/
section
variable {prog : Program} {w : World} {A : Around} {E : Value → Shared → Prop} {s : Shared}
theorem next_tup_end_hot {it t x1 : Addr} {i : Nat} {items : Array Value} {Q : Option Value → Shared → Prop} (hd : A.handled = some (.ref x1)) (hx : CtxAt x1 s.heap) (ne : x1 ≠ it) (hit : IsTupIter s.heap it t i) (ht : IsTup s.heap t items) (hi : items[i]? = none)
    (hQ : ∀ h', Heap.ExtBut it s.heap h' → Q none { s with heap := h' }) : wpAny (model prog w) A (pyNext (.ref it)) Q E s := by
  obtain ⟨o, g, c, dd⟩ := id hit
  obtain ⟨ol, gl, _, nl, dl⟩ := ht
  have nn : ¬ ((Value.ref t == Value.none) = true) := Bool.false_ne_true
  unfold pyNext
  refine wpAny_bind (wpAny_attempt (wpAny_callSpecial?_slot (name := Str.ofString "__next__") hit.typeIs slot_tupleiter_next (wpAny_call_entry slot_tupleiter_next hit.typeIs entry_tupleiter_next ?_ (args_tupleiter_next _))))
  show wpAny (model prog w) A.in1 (field (.ref it) 0 >>= _) _ _ s
  refine wpAny_bind (wpAny_field g dd (x := .ref t) rfl ?_)
  show wpAny (model prog w) A.in1 (if (Value.ref t == Value.none) = true then _ else _) _ _ s
  rw [if_neg nn]
  refine wpAny_bind (wpAny_field g dd (x := .int i 0) rfl ?_)
  refine wpAny_bind (m := seqItems? (.ref t)) (wpAny_seqItems gl dl ?_)
  simp only [Int.toNat_natCast, hi]
  refine wpAny_bind (wpAny_rule (wpAny_bind (wpAny_setField g dd (by simp) ?_)))
  have ub : ∀ b u, b ≠ it → s.heap.get? b = some u → (s.heap.update it (Obj.mapFields (·.setIfInBounds 0 Value.none))).get? b = some u := fun b u n e => by
    rw [Heap.get?_update_other _ _ (Ne.symm n)]; exact e
  refine stop_hot (s := { s with heap := s.heap.update it (Obj.mapFields (·.setIfInBounds 0 Value.none)) }) (A := A.in1) hd (hx.keep fun u e => ub _ u ne e) fun h' e k ⟨oe, h1, h2⟩ => ?_
  refine wpAny_bind (wpAny_isInstance (T := "StopIteration") (b := true) ⟨oe, h1, h2⟩ isSubtype_stop ?_)
  exact wpAny_pure (hQ h' fun b u n y => k b u (ub b u n y))
theorem unpack_hot {t x1 : Addr} {items : Array Value} {tgs : List (Bool × (Value → Sem Unit))} {Q : Unit → Shared → Prop} (hd : A.handled = some (.ref x1)) (hx : CtxAt x1 s.heap) (ht : IsTup s.heap t items) (hn : tgs.length = items.size) (hst : tgs.findIdx? (·.1) = none)
    (h : ∀ h', (∀ b o, s.heap.get? b = some o → h'.get? b = some o) → wpAny (model prog w) A (assignInOrder (tgs.map (·.2)) items.toList) Q E { s with heap := h' }) : wpAny (model prog w) A (unpack (.ref t) tgs) Q E s := by
  have lt : ∀ {b o}, s.heap.get? b = some o → b ≠ s.heap.objs.size := fun e => Nat.ne_of_lt (Heap.lt_size e)
  obtain ⟨ot, gt, rt⟩ := id ht
  obtain ⟨ox, vx, gx, rx⟩ := id hx
  unfold unpack
  rw [hn, hst]
  refine wpAny_bind (wpAny_holding ?_)
  unfold unpackItems notIterableAtAll
  refine wpAny_bind (wpAny_bind (wpAny_specialOf ht.typeIs slot_tuple_iter.lookup (wpAny_pure ?_)))
  simp only [Bool.false_eq_true, if_false]
  refine wpAny_bind (wpAny_holding (iter_tuple ht (wpAny_bind (wpAny_holding (draw_tuple (lt gt) items.size 0 _ _ ⟨_, Heap.get?_push_size _ rfl, rfl, rfl⟩ (ht.push _) (by omega) fun h1 hit sb => ?_)))))
  have all : List.take items.size (List.drop 0 items.toList) = items.toList := by rw [List.drop_zero]; exact List.take_of_length_le (by simp)
  rw [all, if_neg (by simp)]
  have k1 : ∀ b o, s.heap.get? b = some o → h1.get? b = some o := fun b o e => sb.extBut b o (lt e) (Heap.get?_push_of_some _ e)
  refine wpAny_bind (wpAny_holding (next_tup_end_hot hd ⟨ox, vx, k1 _ _ gx, rx⟩ (lt gx) hit ((ht.push _).extBut sb.extBut (lt gt)) (by simp) fun h2 e2 => ?_))
  simp only [Option.isSome_none, Bool.false_eq_true, if_false]
  exact wpAny_pure (h h2 fun b o e => e2 b o (lt e) (k1 b o e))
end
/-- the context's own exception, pinned: it is handled, its context is empty -/
def HotP (X : Cx) (pins : List (Addr × Obj)) (p : Addr × Obj) : Prop := p ∈ X.pn ++ pins ∧ L2H.Hot1 X.A p
theorem HotP.ctx {X : Cx} {pins : List (Addr × Obj)} {p : Addr × Obj} {σ : St} {H : Hp} {s : Shared} (h : HotP X pins p) (I : Inv X pins σ H s) : CtxAt p.1 s.heap := by
  obtain ⟨m, _, vs, e, c⟩ := h
  exact ⟨p.2, vs, (I.pin p m).1, e, c⟩
/-- a target's store while p is pinned -/
structure PGh (X : Cx) (p : Addr × Obj) (tg : Expr) (t : TG) : Prop where
  run : ∀ (pins : List (Addr × Obj)) (s : Shared) (σ : St) (H : Hp) (v : V) (u : Value) (Q : St → Hp → Prop), HotP X pins p → Inv X pins σ H s → RelV v u → t v σ H Q →
    wpAny (model X.prog X.w) X.A (assign tg X.env u) (fun _ s' => ∃ τ G, Inv X pins τ G s' ∧ Q τ G) X.xe s
theorem pgh_tup {X : Cx} {p : Addr × Obj} {es : List Expr} {k n : Nat} {t : TGs} {pos : Pos} (h : PGs X es t) (hn : (assignEach es X.env).length = n := by rfl) (hst : (assignEach es X.env).findIdx? (·.1) = none := by rfl) : PGh X p (.Tuple es k pos) (gTup X.K n t) := by
  refine ⟨fun pins s σ H v u Q hp I r ⟨a, xs, e1, hq, hl, hw⟩ => ?_⟩
  subst e1
  cases r
  obtain ⟨its, rv, ht, hz⟩ := I.tuple hq
  rw [assign_Tuple]
  refine wpAny_bind (wpAny_standAt (unpack_hot hp.2.1 (hp.ctx I) ht (by simp [hn, ← hl, rv.length]) hst fun h' kp => ?_))
  have J : Inv X pins σ H { s with heap := h' } := I.kept (t' := s.toks) kp
  exact h.run pins _ σ H xs _ Q J (by simpa using rv) hw
/-! ### zip of two lists, walked there -/
structure TurnR (P : Program) (w : World) (K : PySem.W.Frag) (tg : Expr) (J : It) (fp : List Addr) (it : Addr) (tn : Nat → Heap → Prop) (p : Addr × Obj) : Prop where
  obj : ∀ i h, tn i h → ∀ b ∈ fp, ∃ o, h.get? b = some o ∧ ∀ v, o.data ≠ .cell v
  keep : ∀ i h h', tn i h → (∀ b ∈ fp, ∀ o, h.get? b = some o → h'.get? b = some o) → tn i h'
  item : ∀ (X : Cx), X.prog = P → X.w = w → X.K = K → ∀ (i : Nat) (pins : List (Addr × Obj)) (s : Shared) (σ : St) (H : Hp) (E : Value → Shared → Prop), HotP X pins p → Inv X pins σ H s → (∀ b ∈ fp, FpOk X pins H b) → tn i s.heap → J.go i H →
    wpAny (model P w) X.A (pyNext (.ref it)) (fun r s1 => ∃ u, r = some u ∧ wpAny (model P w) X.A (letOwnedTupleGo tg (.ref it) u) (fun _ s2 => ∃ x G, Inv X pins σ G s2 ∧ RelV x u ∧ J.yld i H x G ∧ tn (i + 1) s2.heap ∧ ∀ b ∈ fp, G b = none) E s1) E s
  done : ∀ (X : Cx), X.prog = P → X.w = w → X.K = K → ∀ (i : Nat) (pins : List (Addr × Obj)) (s : Shared) (σ : St) (H : Hp) (E : Value → Shared → Prop), HotP X pins p → Inv X pins σ H s → (∀ b ∈ fp, FpOk X pins H b) → tn i s.heap → J.stop i H →
    wpAny (model P w) X.A (pyNext (.ref it)) (fun r s1 => r = none ∧ Inv X pins σ H s1) E s
  self : ∀ (A : Around) (i : Nat) (s : Shared) (Q : Value → Shared → Prop) (E : Value → Shared → Prop), tn i s.heap → Q (.ref it) s → wpAny (model P w) A (pyIter (.ref it)) Q E s
abbrev fpZ (N : Nat) : List Addr := [N + 4, N + 2, N + 3, N, N + 1]
def tnZ (a b N : Nat) (i : Nat) (h : Heap) : Prop := IsZip h (N + 4) (N + 2) (N + 3) .none ∧ IsTupOf2 h (N + 2) (.ref N) (.ref (N + 1)) ∧ (∃ x y, IsTupOf2 h (N + 3) x y) ∧ h.IsListIter N a i ∧ h.IsListIter (N + 1) b i
theorem turn_Zh {P : Program} {w : World} {K : PySem.W.Frag} {elts : List Expr} {kk : Nat} {tpos : Pos} (a b N : Addr) (ha : a < N) (hb : b < N) (p : Addr × Obj) (hp1 : p.1 < N) : TurnR P w K (.Tuple elts kk tpos) (ItZ2 K true true a b) (fpZ N) (N + 4) (tnZ a b N) p where
  obj := fun i h ⟨hz, hTI, ⟨x, y, hTO⟩, h1, h2⟩ c hc => by
    have e' : c = N + 4 ∨ c = N + 2 ∨ c = N + 3 ∨ c = N ∨ c = N + 1 := by simpa using hc
    rcases e' with rfl | rfl | rfl | rfl | rfl
    · exact ⟨_, hz, fun v q => nomatch q⟩
    · exact ⟨_, hTI, fun v q => nomatch q⟩
    · exact ⟨_, hTO, fun v q => nomatch q⟩
    · exact isIter.live (k := true) h1
    · exact isIter.live (k := true) h2
  keep := fun i h h' ⟨hz, hTI, ⟨x, y, hTO⟩, h1, h2⟩ k => ⟨k _ (by simp) _ hz, k _ (by simp) _ hTI, ⟨x, y, k _ (by simp) _ hTO⟩, h1.at fun o q => k _ (by simp) o q, h2.at fun o q => k _ (by simp) o q⟩
  item := by
    intro X hP hw hK i pins s σ H E hp I hf st hg
    subst hP hw hK
    have cx := hp.ctx I
    obtain ⟨hz, hTI, ⟨x0, y0, hTO⟩, h1, h2⟩ := st
    obtain ⟨xs, ys, x, y, hqx, hqy, hx, hy⟩ := hg
    obtain ⟨its, rv, q1, _⟩ := SqA.src (k := true) I hqx
    obtain ⟨its2, rv2, q2, _⟩ := SqA.src (k := true) I hqy
    obtain ⟨u, hu, ru⟩ := rv.get hx
    obtain ⟨u2, hu2, ru2⟩ := rv2.get hy
    have hzl : N + 4 < s.heap.objs.size := Heap.lt_size hz
    have D1 := draws_hot (prog := X.prog) (w := X.w) (A := X.A.in1) (it := N) (l := a) (x1 := p.1) hp.2.1 (Nat.ne_of_lt hp1) (Nat.ne_of_lt ha) its.toArray
    have D2 := draws_hot (prog := X.prog) (w := X.w) (A := X.A.in1) (it := N + 1) (l := b) (x1 := p.1) hp.2.1 (Nat.ne_of_lt (Nat.lt_succ_of_lt hp1)) (Nat.ne_of_lt (Nat.lt_succ_of_lt hb)) its2.toArray
    have S := zip_sep2 (N := N) (fp1 := [a, p.1]) (fp2 := [b, p.1]) (by simpa using ⟨ha, hp1⟩) (by simpa using ⟨hb, hp1⟩)
    have l1 : i < its.toArray.size := by rw [List.size_toArray]; exact (List.getElem?_eq_some_iff.mp hu).1
    have l2 : i < its2.toArray.size := by rw [List.size_toArray]; exact (List.getElem?_eq_some_iff.mp hu2).1
    refine wpAny_pyNext_zipD2_item S D1 D2 hz hTI hTO ⟨⟨h1, q1⟩, cx⟩ ⟨⟨h2, q2⟩, cx⟩ l1 l2 fun x1 x2 h' tk y1 y2 z' TO' d1 d2 hT hsz hk => ?_
    have e1 : x1 = u := by
      have z : its.toArray[i]? = some u := by simpa using hu
      exact Option.some.inj (y1.symm.trans z)
    have e2 : x2 = u2 := by
      have z : its2.toArray[i]? = some u2 := by simpa using hu2
      exact Option.some.inj (y2.symm.trans z)
    subst e1 e2
    refine ⟨_, rfl, wpAny_letOwnedTupleGo_zip (s := { s with heap := h', toks := tk }) z' fun h2' z2 sb => ?_⟩
    have hT2 : h2'.get? s.heap.objs.size = some { cls := .type "tuple", data := .seq #[x1, x2] } := (sb.2 _ (Nat.ne_of_gt hzl)).trans hT
    have new : ObjOk X.prog X.w (upd H s.heap.objs.size (.tup [x, y])) h2' s.heap.objs.size (.tup [x, y]) := ⟨by show 2 ≤ sizeLine; decide, [x1, x2], .cons ru (.cons ru2 .nil), ⟨_, hT2, rfl, _, rfl⟩⟩
    have I1 : Inv X pins σ (upd H s.heap.objs.size (.tup [x, y])) { s with heap := h2', toks := tk } :=
      I.turnedNew (ch := fpZ N) (fun c o hb q => (sb.2 c (fun q' => hb (by simp [q']))).trans (hk c o (fun q' => hb (by simp [q'])) (fun q' => hb (by simp [q'])) (fun q' => hb (by simp [q'])) (fun q' => hb (by simp [q'])) q)) hf (Nat.le_refl _) new
    have nn : ∀ {m n : Nat}, m ≠ n → N + m ≠ N + n := fun h z => h (Nat.add_left_cancel z)
    have n0 : ∀ {m : Nat}, m ≠ 0 → N ≠ N + m := fun h z => h (Nat.add_left_cancel (show N + 0 = N + _ from z)).symm
    refine ⟨.ref s.heap.objs.size, _, I1, rfl, ⟨_, x, y, rfl, I.hok.fresh (Nat.le_refl _), rfl, fun l hl => by rw [SqA.inj (k := true) I hl hqx]; exact hx, fun l hl => by rw [SqA.inj (k := true) I hl hqy]; exact hy⟩, ⟨z2, ?_, ⟨x1, x2, (sb.2 _ (nn (by decide))).trans TO'⟩, d1.1.1.at fun o q => (sb.2 _ (n0 (by decide))).trans q, d2.1.1.at fun o q => (sb.2 _ (nn (by decide))).trans q⟩, fun c hcm => ?_⟩
    · exact (sb.2 _ (nn (by decide))).trans (hk _ _ (nn (by decide)) (nn (by decide)) (fun z => n0 (m := 2) (by decide) z.symm) (nn (by decide)) hTI)
    · have e' : c = N + 4 ∨ c = N + 2 ∨ c = N + 3 ∨ c = N ∨ c = N + 1 := by simpa using hcm
      have hlt : c < s.heap.objs.size := by rcases e' with q | q | q | q | q <;> rw [q] <;> first | exact hzl | exact Nat.lt_of_le_of_lt (by omega) hzl
      rw [upd_ne (Nat.ne_of_lt hlt)]
      exact (hf c hcm).1
  done := by
    intro X hP hw hK i pins s σ H E hp I hf st hg
    subst hP hw hK
    have cx := hp.ctx I
    obtain ⟨hz, hTI, ⟨x0, y0, hTO⟩, h1, h2⟩ := st
    obtain ⟨xs, ys, hqx, hqy, le1, le2, hend⟩ := hg
    obtain ⟨its, rv, q1, _⟩ := SqA.src (k := true) I hqx
    obtain ⟨its2, rv2, q2, _⟩ := SqA.src (k := true) I hqy
    have l1 := rv.length
    have l2 := rv2.length
    have D1 := draws_hot (prog := X.prog) (w := X.w) (A := X.A.in1) (it := N) (l := a) (x1 := p.1) hp.2.1 (Nat.ne_of_lt hp1) (Nat.ne_of_lt ha) its.toArray
    have D2 := draws_hot (prog := X.prog) (w := X.w) (A := X.A.in1) (it := N + 1) (l := b) (x1 := p.1) hp.2.1 (Nat.ne_of_lt (Nat.lt_succ_of_lt hp1)) (Nat.ne_of_lt (Nat.lt_succ_of_lt hb)) its2.toArray
    have S := zip_sep2 (N := N) (fp1 := [a, p.1]) (fp2 := [b, p.1]) (by simpa using ⟨ha, hp1⟩) (by simpa using ⟨hb, hp1⟩)
    exact wpAny_pyNext_zipD2_end S D1 D2 hz hTI hTO ⟨⟨h1, q1⟩, cx⟩ ⟨⟨h2, q2⟩, cx⟩ (by rw [List.size_toArray]; omega) (by rw [List.size_toArray]; omega) (by rw [List.size_toArray, List.size_toArray]; omega) fun h' tk hk => ⟨rfl, I.turnedL (ch := fpZ N)
      (fun c o hb q => hk c o (fun q' => hb (by simp [q'])) (fun q' => hb (by simp [q'])) (fun q' => hb (by simp [q'])) (fun q' => hb (by simp [q'])) q) hf⟩
  self := fun A i s Q E st h => wpAny_pyIter_zip st.1 h
/-! ### a comprehension there -/
def PIEr (X : Cx) (pins : List (Addr × Obj)) (σ : St) (tg : Expr) (p : Addr × Obj) (R : It → Hp → Prop) (v : Value) (t : Shared) : Prop :=
  ∃ (it : Addr) (fp : List Addr) (tn : Nat → Heap → Prop) (J : It) (G : Hp), v = .ref it ∧ Inv X pins σ G t ∧ TurnR X.prog X.w X.K tg J fp it tn p ∧ tn 0 t.heap ∧ (∀ b ∈ fp, FpOk X pins G b) ∧ R J G
structure PIr (X : Cx) (p : Addr × Obj) (tg iter : Expr) (wi : TI) : Prop where
  run : ∀ (pins : List (Addr × Obj)) (s : Shared) (σ : St) (H : Hp) (R : It → Hp → Prop), HotP X pins p → Inv X pins σ H s → wi σ H R →
    wpAny (model X.prog X.w) X.A (eval iter X.env) (fun v s1 => wpAny (model X.prog X.w) X.A (pyIter v) (PIEr X pins σ tg p R) X.xe s1) X.xe s
/-- a pin more -/
theorem Inv_pin {X : Cx} {σ : St} {H : Hp} {s : Shared} {p : Addr × Obj} (I : Inv X [] σ H s) (g : s.heap.get? p.1 = some p.2) (n : H p.1 = none) (nl : p.1 ≠ X.env.locals) (nf : p.1 ∉ X.fs) (nc : ∀ v, p.2.data ≠ .cell v) : Inv X [p] σ H s :=
  ⟨I.ok, I.os, I.bare, I.base, I.loc, I.cell, I.free, I.freeC, fun q hq => by
    rcases List.mem_append.mp hq with z | z
    · exact I.pin q (List.mem_append_left _ z)
    · rw [List.mem_singleton.mp z]; exact ⟨g, n, nl, nf, nc⟩, I.hok, I.len⟩
theorem Inv_unpin {X : Cx} {σ : St} {H : Hp} {s : Shared} {p : List (Addr × Obj)} (I : Inv X p σ H s) : Inv X [] σ H s :=
  ⟨I.ok, I.os, I.bare, I.base, I.loc, I.cell, I.free, I.freeC, fun q hq => I.pin q (List.mem_append_left _ (by rw [List.append_nil] at hq; exact hq)), I.hok, I.len⟩
section
variable {X : Cx} {p : Addr × Obj}
theorem lc_hot {elt tg iter : Expr} {ifs : List Expr} {scope : Scope} {own : List (Str × Nat)} {pos : Pos} {wi : TI} {g : TG} {tt : TT} {te : TE} (hp : p ∈ X.pn ∧ L2H.Hot1 X.A p) (hN : X.N.Nodup) (hi : PIr X p tg iter wi) (ok : BlkOk X.N X.env.scope scope own)
    (hg : ∀ (s : Shared) (H : Hp) (C : Addr) (cl : List (Str × Addr)) (fp : List Addr), PGh (X.blk s H scope (compEnvC scope cl C X.env) fp) p tg g) (ht : ∀ (s : Shared) (H : Hp) (C : Addr) (cl : List (Str × Addr)) (fp : List Addr), PTs (X.blk s H scope (compEnvC scope cl C X.env) fp) ifs tt)
    (he : ∀ (s : Shared) (H : Hp) (C : Addr) (cl : List (Str × Addr)) (fp : List Addr), PE (X.blk s H scope (compEnvC scope cl C X.env) fp) elt te) (hs : ∀ x, foldedSetIterable iter X.env x = pure x := by intro _; rfl) :
    PE X (.ListComp elt [⟨tg, iter, ifs, 0⟩] scope pos) (tLc wi g tt te (own.map (·.2))) := by
  refine ⟨fun pins s σ H Q I h => ?_⟩
  have hot : HotP X pins p := ⟨List.mem_append_left _ hp.1, hp.2⟩
  have cap : ∀ y ∈ scope.names, y.2 = .free → ∃ c, X.env.cells.lookup y.1 = some c := fun y hy e => (ok.free y hy e).elim (fun k => I.ok.has _ (.inl k)) fun k => I.ok.has _ (.inr k)
  rw [eval_ListComp]
  refine wpAny_comprehension_free (use := none) rfl hs (closure_ok cap) ok.kind (fun y hy e => by rw [ok.uniq y hy, e]) (thn (hi.run pins s σ H _ hot I h) fun xv s1 hx => thn hx fun itv s2 ⟨it, fp, tn, J, G2, e, I2, T, st2, f2, q⟩ => ?_)
  subst e
  refine wpAny_newObj_type (newEnv_comp ?_) (by show 0 ≤ sizeLine; decide)
  generalize hD : s2.heap.objs.size = D
  obtain ⟨W, ⟨m0, w0⟩, turn⟩ := q D (I2.hok.fresh (Nat.le_of_eq hD))
  generalize hs3 : ({ s2 with heap := s2.heap.push { cls := .type "list", data := .seq ([] : List Value).toArray } } : Shared) = s3
  have h3 : s3.heap = s2.heap.push { cls := .type "list", data := .seq ([] : List Value).toArray } := by rw [← hs3]
  have up3 : ∀ b o, s2.heap.get? b = some o → s3.heap.get? b = some o := fun b o e => by rw [h3]; exact Heap.get?_push_of_some _ e
  have I3 : Inv X pins σ (upd G2 D (.lst [])) s3 := by
    subst hs3
    exact I2.laid (t' := s2.toks) (fun b o e => Heap.get?_push_of_some _ e) (Nat.le_of_eq hD) ⟨Nat.zero_le _, [], 0, .nil, by rw [← hD]; exact Heap.get?_push_size _ rfl⟩
  have f3 : ∀ b ∈ fp, FpOk X pins (upd G2 D (.lst [])) b ∧ b < s3.heap.objs.size := fun b hb => by
    obtain ⟨o, e, _⟩ := T.obj _ _ st2 b hb
    have lt := Heap.lt_size e
    exact ⟨⟨by rw [upd_ne (by rw [← hD]; exact Nat.ne_of_lt lt)]; exact (f2 b hb).1, (f2 b hb).2⟩, by rw [h3, Heap.size_push]; exact Nat.lt_succ_of_lt lt⟩
  have st3 : tn 0 s3.heap := T.keep _ _ _ st2 fun b _ o e => up3 b o e
  have I4 := block_start I3 ok hN f3
  have px := I3.pin p (List.mem_append_left _ hp.1)
  generalize hcl : cellsFrom (s3.heap.objs.size + 1) scope.names (cloFrom X.env.cells scope.names []) = cl at I4 ⊢
  have pg := hg s3 (upd G2 D (.lst [])) s3.heap.objs.size cl fp
  have pt := ht s3 (upd G2 D (.lst [])) s3.heap.objs.size cl fp
  have pe := he s3 (upd G2 D (.lst [])) s3.heap.objs.size cl fp
  have nfp : ∀ b ∈ fp, (upd G2 D (.lst [])) b = none := fun b hb => (f3 b hb).1.1
  show codeAny _ _ (.compStart (.ListComp elt [⟨tg, iter, ifs, 0⟩] scope pos) 0 (.ref it) (.ref D) (compEnvC scope cl s3.heap.objs.size X.env)) (compPost (model X.prog X.w) X.A X.xe none _ (.ref D) s3.heap.objs.size) { s3 with heap := pushCells (s3.heap.push { cls := .type "dict", data := .dict #[] }) scope.names }
  generalize hce : compEnvC scope cl s3.heap.objs.size X.env = ce at I4 pg pt pe ⊢
  have cL : ce.locals = s3.heap.objs.size := by subst hce; rfl
  generalize hG3 : upd G2 D (.lst []) = G3 at I3 I4 pg pt pe w0 nfp f3 px
  generalize hs4 : ({ s3 with heap := pushCells (s3.heap.push { cls := .type "dict", data := .dict #[] }) scope.names } : Shared) = s4 at I4 ⊢
  have up4 : ∀ b o, s3.heap.get? b = some o → s4.heap.get? b = some o := fun b o e => by rw [← hs4]; exact pushCells_keeps _ _ _ _ (Heap.get?_push_of_some _ e)
  have st4 : tn 0 s4.heap := T.keep _ _ _ st3 fun b _ o e => up4 b o e
  have pfs : p.1 ∉ frs X.stack := fun z => (List.mem_cons.mp (I3.stkSub p.1 z)).elim px.2.2.1 px.2.2.2.1
  have I4p : Inv (X.blk s3 G3 scope ce fp) [p] (wipe σ (own.map (·.2))) G3 s4 := Inv_pin I4 (up4 _ _ px.1) px.2.1 (by show p.1 ≠ ce.locals; rw [cL]; exact Nat.ne_of_lt (Heap.lt_size px.1)) pfs px.2.2.2.2
  have bh : ∀ {more : List (Addr × Obj)}, HotP (X.blk s3 G3 scope ce fp) ([p] ++ more) p := ⟨List.mem_append_right _ (List.mem_append_left _ List.mem_cons_self), hp.2⟩
  have npf : ∀ b ∈ fp, p.1 ≠ b := fun b hb => (f3 b hb).1.2.2.2.2.2 p (List.mem_append_left _ hp.1)
  have stat : ∀ {τ : St} {G : Hp} {u : Shared}, Inv (X.blk s3 G3 scope ce fp) [p] τ G u → (∀ b ∈ fp, G b = none) → ∀ b ∈ fp, FpOk (X.blk s3 G3 scope ce fp) [p] G b := fun {τ G u} J hn b hb =>
    ⟨hn b hb, (J.ok.exf b hb).1, J.ok.exfs b hb, .inl hb, fun x c e => (J.ok.exf b hb).2 x c e, fun r hr => by rw [List.mem_singleton.mp (show r ∈ [p] from hr)]; exact npf b hb⟩
  suffices lp : codeAny (model X.prog X.w) X.A (.compLoop (.ListComp elt [⟨tg, iter, ifs, 0⟩] scope pos) 0 (.ref it) (.ref D) ce) (compPost (model X.prog X.w) X.A X.xe none (EP X pins σ Q) (.ref D) s3.heap.objs.size) s4 from
    codeAny_compStart_list lp (T.self X.A 0 _ _ _ st4 lp)
  refine compLoop_any (fun n u => ∃ i G, Inv (X.blk s3 G3 scope ce fp) [p] (wipe σ (own.map (·.2))) G u ∧ tn i u.heap ∧ (∀ b ∈ fp, G b = none) ∧ W i n G) ?_ m0 ⟨0, G3, I4p, st4, nfp, w0⟩
  rintro n s5 ⟨i, G5, I5, st5, n5, w5⟩
  rcases turn i n G5 w5 with ⟨stop, qq⟩ | ⟨go, Nx, hNx, step⟩
  · refine thnF (T.done (X.blk s3 G3 scope ce fp) rfl rfl rfl i [p] s5 _ G5 (fun _ _ => False) (bh (more := [])) I5 (stat I5 n5) st5 stop) fun r s6 ⟨hr, I6⟩ => ?_
    subst hr
    have I7 : Inv X pins σ G5 s6 := I3.call' (ch := fp) I6.os I6.base I6.hok I6.bare fun b hb => ⟨(f3 b hb).1.2.2.2.1, (f3 b hb).1.2.1, (f3 b hb).1.2.2.2.2.1, (f3 b hb).1.2.2.2.2.2⟩
    have nC : G5 s3.heap.objs.size = none := cL ▸ (show G5 ce.locals = none from I6.free)
    obtain ⟨m, hn, _⟩ := I6.loc
    obtain ⟨y0, y1, y2, y3, y4, y5⟩ := I3.fpOk (H' := G5) (Nat.le_refl _) nC
    exact ⟨m, cL ▸ (show s6.heap.Ns ce.locals m from hn), fun h2 sb => ⟨.ref D, G5, I7.turned (t' := s6.toks) (fun b o hb e => (sb.2 b hb).trans e) y0 y1 y3 y4 y5, rfl, qq⟩⟩
  · refine thnF (T.item (X.blk s3 G3 scope ce fp) rfl rfl rfl i [p] s5 _ G5 (fun _ _ => False) (bh (more := [])) I5 (stat I5 n5) st5 go) fun r s6 ⟨u, hr, h6⟩ => ?_
    subst hr
    refine thnF h6 fun _ s7 ⟨x, G7, I7, r7, y7, st7, n7⟩ => ?_
    have J7 := I7.pinned (stat I7 n7) (T.obj _ _ st7)
    refine thnF (pg.run _ s7 _ G7 x u _ bh J7 r7 (step x G7 y7)) fun _ s8 ⟨τ8, G8, I8, hw8, q8⟩ => ?_
    refine thnF (pt.run _ s8 τ8 G8 _ I8 q8) fun b s9 ⟨G9, I9, q9⟩ => ?_
    have fin : ∀ {t : Shared} {G : Hp}, Inv (X.blk s3 G3 scope ce fp) ([p] ++ pinsAt fp s7.heap) τ8 G t → Nx G → ∃ m, m < n ∧ ∃ i G, Inv (X.blk s3 G3 scope ce fp) [p] (wipe σ (own.map (·.2))) G t ∧ tn i t.heap ∧ (∀ b ∈ fp, G b = none) ∧ W i m G := fun {t G} J nx => by
      obtain ⟨m', hm, w'⟩ := hNx G nx
      have at_ : ∀ b ∈ fp, ∀ o, s7.heap.get? b = some o → t.heap.get? b = some o ∧ G b = none := fun b hb o e =>
        let z := J.pin (b, o) (List.mem_append_right _ (List.mem_append_right _ (mem_pinsAt hb e)))
        ⟨z.1, z.2.1⟩
      have len : (wipe σ (own.map (·.2))).length = τ8.length := by rw [← hw8, wipe_length]
      refine ⟨m', hm, i + 1, G, J.unpinned.weak len (fun j v e => (wipe_some (hw8 ▸ e)).1), T.keep _ _ _ st7 fun b hb o e => (at_ b hb o e).1, fun b hb => ?_, w'⟩
      obtain ⟨o, e, _⟩ := T.obj _ _ st7 b hb
      exact (at_ b hb o e).2
    cases b with
    | false =>
      simp only [Bool.false_eq_true, if_false] at q9 ⊢
      exact fin I9 q9
    | true =>
      simp only [if_true] at q9 ⊢
      refine thnF (pe.run _ s9 τ8 G9 _ I9 q9) fun z s10 ⟨yv, G10, I10, r10, acc, a1, a2, nx⟩ => ?_
      exact app_ok (X := X.blk s3 G3 scope ce fp) I10 a1 a2 r10 fun s11 I11 => fin I11 nx
end
end Rc

/-! Rc: the name of the exception that is handled, told by its classes. -/
namespace Rc
open PySem PySem.Spec PyProof.Rows L2
variable [LamTbl]
/-! ### a def called there, its exception known -/
theorem hot_run {P : Program} {w : World} {K : PySem.W.Frag} {mg : Str → Option Value} {base : Heap} {k : Nat} {f : Addr} {name qual : Str} {params : Arguments} {body : List Stmt} {scope : Scope} {dV kV doc pm cdv ct oc : Value} {an od : Option Addr}
    {osl : Array (Option Value)} {N ps : List Str} (lk : K.lookup f = some ⟨oc, od, .func (PySem.W.fnOf name qual params body scope dV kV doc pm an cdv ct), osl⟩) (hcd : PySem.W.codeIn K cdv qual = true) (S : FnScope N ps scope)
    {A : Around} {outer : List Env} {s : Shared} {H : Hp} {args : Args} {us : List Value} {vs : List V} {Q : VK} {p : Addr × Obj} (hr : L2H.RoomH (k + 1) A) (hot : L2H.Hot1 A p) (hpin : L2H.PinOk outer H s p) (e0 : Env0 P w K mg base A outer s H)
    (hb : BindsTo s (PySem.W.fnOf name qual params body scope dV kV doc pm an cdv ct) args (ps.zip us)) (r : Vals vs us) (hl : vs.length = ps.length)
    (hbody : ∃ t, PSs (L2H.cxH C8.CX0 P w K mg base N qual scope f cdv A outer s H C8.E0 p) body t ∧ t { nx := fun _ H' => Q .non H', rt := Q } (L2.start N vs) H) :
    codeAny (model P w) A (.call (.ref f) args) (CR C8.CX0 outer P w H s Q C8.E0) s := by
  have KX : K.In s.heap := e0.mod.kin.keeps fun b o e => (e0.bs b o e).1
  have lim : s.heap.NoLimit := e0.mod.nolimit.keeps fun b o e => (e0.bs b o e).1
  have kinds : ∀ y ∈ ps.zip us, scope.names.lookup y.1 = some .local ∨ (scope.names.lookup y.1 = some .cell ∧ ((cellsFrom (s.heap.objs.size + 1) scope.names []).lookup y.1).isSome = true) := fun ⟨n, v⟩ hy =>
    (S.par n (List.of_mem_zip hy).1).elim .inl fun q => .inr ⟨q, PySem.W.cellsFrom_some _ _ _ (.inl q)⟩
  refine codeAny_call_function hr.depth (KX _ _ lk) rfl S.co S.gen rfl (PySem.W.codeRec_of KX hcd) (hb _ _ _ _ (wpAny_newFunctionEnv_cells S.kind kinds fun env he s1 x => ?_))
  subst he
  obtain ⟨t, ht, hq⟩ := hbody
  have I := L2H.inv_startH (CX := C8.CX0) (E := C8.E0) (qual := qual) (f := f) (cd := cdv) S hpin e0 hl r x
  refine ⟨lim.keeps x.toInCall.keep, codeAny_func (wpAny_mono (ht.run [] s1 (L2.start N vs) H _ I hq) (fun fl t hs => ?_) fun _ _ q => q)⟩
  rcases fl with _ | u | _ | _
  all_goals first
    | (obtain ⟨v, τ, G, J, rv, q⟩ := hs; exact ⟨v, G, J.os, J.bare, J.base, J.hok, rv, q⟩)
    | (obtain ⟨τ, G, J, q⟩ := hs; first | exact ⟨.non, G, J.os, J.bare, J.base, J.hok, rfl, q⟩ | exact q.elim)
/-- isinstance(e, c) where e is the pinned exception -/
theorem call_isP {X : Cx} {D : Addr} {p : Addr × Obj} (C : ExcC X.K D) (hp : p ∈ X.pn) (hc : p.2.cls = .ref D) (hd : p.2.dict = none) (hf : ∃ vs, p.2.data = .fields vs) : CallR X (.builtin "isinstance") (rIsE X.K D p.1) := by
  rintro pins s σ H xs us Q I r ⟨c, cv, b, rfl, hcv, e, q⟩
  obtain ⟨g, _⟩ := I.pin p (List.mem_append_left _ hp)
  obtain ⟨vs, hv⟩ := hf
  rcases r with _ | ⟨rx, _ | ⟨rt, rr⟩⟩
  cases rr
  cases rx
  cases hcv _ rt
  have J : PySem.W.InstAt s.heap p.1 p.2 D none := by
    obtain ⟨a, oc, od, oda, osl⟩ := p
    dsimp only at hc hd hv g
    subst hc hd hv
    exact ⟨g, rfl, rfl, trivial⟩
  exact PySem.W.kia_one (PySem.W.handS_kitx_exc C.hg C.hk C.hs C.hd C.ha C.hn C.ht C.hm) I.kIn J e (fun z => nomatch z) fun tk => ⟨.bl b, H, I.kept (t' := tk) fun _ _ z => z, rfl, q⟩
/-! ### readings by what is known ahead and behind -/
abbrev HT (X : Cx) (st : Stmt) (P R : St → Hp → Prop) : Prop := PS X st (fun D σ H => P σ H ∧ ∀ τ G, R τ G → D.nx τ G)
section
variable {X : Cx} {a : Addr} {H0 : Hp}
/-- the list of the answers so far stands at slot 1, the words at slot 2 -/
def Nm0 (a : Addr) (H0 : Hp) (σ : St) (H : Hp) : Prop := σ.length = 5 ∧ σ[0]? = some (some (.ref a)) ∧ Same H0 H
def Nm1 (a : Addr) (H0 : Hp) (bs : List Bool) (σ : St) (H : Hp) : Prop := Nm0 a H0 σ H ∧ ∃ q, σ[1]? = some (some (.ref q)) ∧ H q = some (.lst (bs.map V.bl))
def Nm2 (a : Addr) (H0 : Hp) (bs : List Bool) (ws : List Str) (σ : St) (H : Hp) : Prop := Nm1 a H0 bs σ H ∧ ∃ q, σ[2]? = some (some (.ref q)) ∧ H q = some (.lst (ws.map V.str))
theorem same_new {H0 H : Hp} {p : Addr} {o : HO} (s : Same H0 H) (n : H p = none) : Same H0 (upd H p o) := fun b u e => by rw [upd_ne (ne_of_none (s b u e) n)]; exact s b u e
theorem new_at {H : Hp} {p q : Addr} {o u : HO} (e : H q = some u) (n : H p = none) : upd H p o q = some u := by rw [upd_ne (ne_of_none e n)]; exact e
theorem Nm0.new {σ : St} {H : Hp} {p : Addr} {o : HO} (h : Nm0 a H0 σ H) (n : H p = none) : Nm0 a H0 σ (upd H p o) := ⟨h.1, h.2.1, same_new h.2.2 n⟩
theorem Nm1.new {bs : List Bool} {σ : St} {H : Hp} {p : Addr} {o : HO} (h : Nm1 a H0 bs σ H) (n : H p = none) : Nm1 a H0 bs σ (upd H p o) := ⟨h.1.new n, let ⟨q, e1, e2⟩ := h.2; ⟨q, e1, new_at e2 n⟩⟩
theorem Nm2.new {bs : List Bool} {ws : List Str} {σ : St} {H : Hp} {p : Addr} {o : HO} (h : Nm2 a H0 bs ws σ H) (n : H p = none) : Nm2 a H0 bs ws σ (upd H p o) := ⟨h.1.new n, let ⟨q, e1, e2⟩ := h.2; ⟨q, e1, new_at e2 n⟩⟩
/-- an answer; answers; words -/
def tIs (a : Addr) (b : Bool) : TE := fun σ H Q => σ[0]? = some (some (.ref a)) ∧ Q (.bl b) H
def tIsL (a : Addr) (bs : List Bool) : TA := fun σ H Q => σ[0]? = some (some (.ref a)) ∧ Q (bs.map V.bl) H
def tWs (ws : List Str) : TA := fun _ H Q => Q (ws.map V.str) H
theorem isl_nil : PA X [] (tIsL a []) := PA_imp pa_nil fun _ _ _ h => h.2
theorem isl_cons {e : Expr} {es : List Expr} {b : Bool} {bs : List Bool} (h : PE X e (tIs a b)) (r : PA X es (tIsL a bs)) (hs : starEach (e :: es) X.env = (false, eval e X.env) :: starEach es X.env := by rfl) : PA X (e :: es) (tIsL a (b :: bs)) :=
  PA_imp (pa_cons h r hs) fun _ _ _ q => ⟨q.1, q.1, q.2⟩
theorem ws_nil : PA X [] (tWs []) := PA_imp pa_nil fun _ _ _ h => h
theorem ws_cons {x : Str} {j : Nat} {p : Pos} {es : List Expr} {ws : List Str} (r : PA X es (tWs ws)) (hs : starEach (.Constant (.str x) j p :: es) X.env = (false, eval (.Constant (.str x) j p) X.env) :: starEach es X.env := by rfl) : PA X (.Constant (.str x) j p :: es) (tWs (x :: ws)) :=
  PA_imp (pa_cons pe_str r hs) fun _ _ _ q => q
variable {es : List Expr} {bs cs : List Bool} {ws us : List Str} {x : Str} {px p1 p2 p3 p4 : Pos}
theorem nm_first (hN : X.N.Nodup) (hi : X.N[1]? = some x) (hx : Loc X.env.scope x) (h : PA X es (tIsL a bs)) (hz : bs.length ≤ 1000) (hs : swapsWith (.List es p1) (some (.Name x px)) p2.line X.env = pure false := by rfl)
    (hf : X.fn x = true ∨ X.env.scope.names.lookup x = some .local := by first | exact .inl rfl | exact .inr rfl) : HT X (.Assign [.Name x px] (.List es p1) p2) (Nm0 a H0) (Nm1 a H0 bs) := by
  refine PS_imp (ps_set hN hi hx (pe_lst h) hs hf) fun D σ H ⟨n, k⟩ => ⟨n.2.1, by rw [List.length_map, sizeLine_eq]; omega, fun p np => k _ _ ⟨⟨by rw [List.length_set]; exact n.1, by rw [List.getElem?_set_ne (by decide)]; exact n.2.1, same_new n.2.2 np⟩, p, ?_, upd_same⟩⟩
  rw [List.getElem?_set_self (by rw [n.1]; decide)]
theorem nm_more (hN : X.N.Nodup) (hi : X.N[1]? = some x) (hx : Loc X.env.scope x) (hv : Vis X.env.scope x) (h : PA X es (tIsL a cs)) (hz : bs.length + cs.length ≤ 1000) (hd : (x == ("__debug__" : Str)) = false := by decide) (hcd : (x == ("__classdict__" : Str)) = false := by decide)
    (hs : swapsWith (.BinOp (.Name x p3) .Add (.List es p1) p4) (some (.Name x px)) p2.line X.env = pure false := by rfl) (hf : X.fn x = true ∨ X.env.scope.names.lookup x = some .local := by first | exact .inl rfl | exact .inr rfl) :
    HT X (.Assign [.Name x px] (.BinOp (.Name x p3) .Add (.List es p1) p4) p2) (Nm1 a H0 bs) (Nm1 a H0 (bs ++ cs)) := by
  refine PS_imp (ps_set hN hi hx (pe_op op_cat (pe_var hi hv hd hcd) (pe_lst h)) hs hf) fun D σ H ⟨n, k⟩ => ?_
  obtain ⟨n0, q, e1, e2⟩ := n
  refine ⟨.ref q, e1, n0.2.1, by rw [List.length_map, sizeLine_eq]; omega, fun p np => ⟨q, p, bs.map V.bl, cs.map V.bl, rfl, rfl, new_at e2 np, upd_same, by rw [List.length_map, List.length_map, sizeLine_eq]; omega, fun r nr => k _ _ ⟨⟨by rw [List.length_set]; exact n0.1, by rw [List.getElem?_set_ne (by decide)]; exact n0.2.1, same_new (same_new n0.2.2 np) nr⟩, r, ?_, ?_⟩⟩⟩
  · rw [List.getElem?_set_self (by rw [n0.1]; decide)]
  · rw [upd_same, List.map_append]
theorem nm_words (hN : X.N.Nodup) (hi : X.N[2]? = some x) (hx : Loc X.env.scope x) (h : PA X es (tWs ws)) (hz : ws.length ≤ 1000) (hs : swapsWith (.List es p1) (some (.Name x px)) p2.line X.env = pure false := by rfl)
    (hf : X.fn x = true ∨ X.env.scope.names.lookup x = some .local := by first | exact .inl rfl | exact .inr rfl) : HT X (.Assign [.Name x px] (.List es p1) p2) (Nm1 a H0 bs) (Nm2 a H0 bs ws) := by
  refine PS_imp (ps_set hN hi hx (pe_lst h) hs hf) fun D σ H ⟨n, k⟩ => ⟨by rw [List.length_map, sizeLine_eq]; omega, fun p np => k _ _ ?_⟩
  obtain ⟨⟨m1, m2, m3⟩, q, e1, e2⟩ := n.new (p := p) (o := .lst (ws.map V.str)) np
  refine ⟨⟨⟨by rw [List.length_set]; exact m1, by rw [List.getElem?_set_ne (by decide)]; exact m2, m3⟩, q, by rw [List.getElem?_set_ne (by decide)]; exact e1, e2⟩, p, ?_, upd_same⟩
  rw [List.getElem?_set_self (by rw [m1]; decide)]
theorem nm_wmore (hN : X.N.Nodup) (hi : X.N[2]? = some x) (hx : Loc X.env.scope x) (hv : Vis X.env.scope x) (h : PA X es (tWs us)) (hz : ws.length + us.length ≤ 1000) (hd : (x == ("__debug__" : Str)) = false := by decide) (hcd : (x == ("__classdict__" : Str)) = false := by decide)
    (hs : swapsWith (.BinOp (.Name x p3) .Add (.List es p1) p4) (some (.Name x px)) p2.line X.env = pure false := by rfl) (hf : X.fn x = true ∨ X.env.scope.names.lookup x = some .local := by first | exact .inl rfl | exact .inr rfl) :
    HT X (.Assign [.Name x px] (.BinOp (.Name x p3) .Add (.List es p1) p4) p2) (Nm2 a H0 bs ws) (Nm2 a H0 bs (ws ++ us)) := by
  refine PS_imp (ps_set hN hi hx (pe_op op_cat (pe_var hi hv hd hcd) (pe_lst h)) hs hf) fun D σ H ⟨n, k⟩ => ?_
  obtain ⟨q, e1, e2⟩ := n.2
  refine ⟨.ref q, e1, by rw [List.length_map, sizeLine_eq]; omega, fun p np => ⟨q, p, ws.map V.str, us.map V.str, rfl, rfl, new_at e2 np, upd_same, by rw [List.length_map, List.length_map, sizeLine_eq]; omega, fun r nr => k _ _ ?_⟩⟩
  obtain ⟨⟨⟨m1, m2, m3⟩, q1, f1, f2⟩, _⟩ := (n.new (p := p) (o := .lst (us.map V.str)) np).new (p := r) (o := .lst (ws.map V.str ++ us.map V.str)) nr
  refine ⟨⟨⟨by rw [List.length_set]; exact m1, by rw [List.getElem?_set_ne (by decide)]; exact m2, m3⟩, q1, by rw [List.getElem?_set_ne (by decide)]; exact f1, f2⟩, r, ?_, ?_⟩
  · rw [List.getElem?_set_self (by rw [m1]; decide)]
  · rw [upd_same, List.map_append]
end
/-! ### the answer -/
def tZip (K : PySem.W.Frag) (ta : TA) : TI := fun σ H R => ta σ H fun vs H1 => ∃ a b xs ys, vs = [.ref a, .ref b] ∧ SqA K true H1 a xs ∧ SqA K true H1 b ys ∧ R (ItZ2 K true true a b) H1
theorem pir_zip {X : Cx} {p : Addr × Obj} {e e2 : Expr} {ta : TA} {p1 pos tpos : Pos} {elts : List Expr} {kk : Nat} (hp : p ∈ X.pn) (hg : Gl X "zip") (hm : X.mg "zip" = none) (ha : PA X [e, e2] ta)
    (hs : starEach [e, e2] X.env = (false, eval e X.env) :: starEach [e2] X.env := by rfl) (hpl : (backTo pos (starEach [e2] X.env)).any (·.1) = false := by rfl) : PIr X p (.Tuple elts kk tpos) (.Call (.Name "zip" p1) [e, e2] [] pos) (tZip X.K ta) := by
  refine ⟨fun pins s σ H R hot I h => Call_ (ld_blt I hg hm PyProof.Rows.boot_zip (PyProof.Rows.callWith_type1 (thn (ha.run pos pins s σ H _ I h) fun us s1 ⟨vs, H1, I1, r1, a, b, xs, ys, ex, hqx, hqy, q⟩ => ?_) hs hpl))⟩
  subst ex
  rcases r1 with _ | ⟨r, _ | ⟨r', rr⟩⟩
  cases rr
  cases r
  cases r'
  have new5 : ∀ c ∈ fpZ s1.heap.objs.size, FpOk X pins H1 c := fun c hcm => by
    have e' : c = s1.heap.objs.size + 4 ∨ c = s1.heap.objs.size + 2 ∨ c = s1.heap.objs.size + 3 ∨ c = s1.heap.objs.size ∨ c = s1.heap.objs.size + 1 := by simpa using hcm
    have le : s1.heap.objs.size ≤ c := by rcases e' with z | z | z | z | z <;> rw [z] <;> first | exact Nat.le_refl _ | exact Nat.le_add_right _ _
    exact I1.fpOk le (I1.hok.fresh le)
  obtain ⟨its, rv, q1, z1⟩ := SqA.src (k := true) I1 hqx
  obtain ⟨its2, rv2, q2, z2⟩ := SqA.src (k := true) I1 hqy
  have la := SqA.lt (X := X) (pins := pins) (σ := σ) (H := H) (s := s1) (k := true) q1
  have lb := SqA.lt (X := X) (pins := pins) (σ := σ) (H := H) (s := s1) (k := true) q2
  refine zip_begins2 (begins_k true a its.toArray) (begins_k true b its2.toArray) q1 q2 fun h' hz hTI hTO h1 h2 hsz hk => wpAny_pyIter_zip hz ?_
  have I2 : Inv X pins σ H1 { s1 with heap := h' } := I1.kept (t' := s1.toks) hk
  exact ⟨s1.heap.objs.size + 4, fpZ s1.heap.objs.size, tnZ a b s1.heap.objs.size, _, H1, rfl, I2, turn_Zh a b s1.heap.objs.size la lb p (Heap.lt_size (I1.pin p (List.mem_append_left _ hp)).1), ⟨hz, hTI, ⟨_, _, hTO⟩, isIter.new (k := true) h1, isIter.new (k := true) h2⟩, new5, q⟩
/-- the words whose answer is yes -/
def pickW : List Str → List Bool → List Str
  | w :: ws, b :: bs => if b = true then w :: pickW ws bs else pickW ws bs
  | _, _ => []
theorem pickW_snoc : ∀ {ws : List Str} {bs : List Bool} {w : Str} {b : Bool}, ws.length = bs.length → pickW (ws ++ [w]) (bs ++ [b]) = pickW ws bs ++ (if b = true then [w] else [])
  | [], [], w, b, _ => by cases b <;> rfl
  | v :: ws, c :: bs, w, b, h => by
    have ih := pickW_snoc (ws := ws) (bs := bs) (w := w) (b := b) (by simpa using h)
    show (if c = true then v :: pickW (ws ++ [w]) (bs ++ [b]) else pickW (ws ++ [w]) (bs ++ [b])) = (if c = true then v :: pickW ws bs else pickW ws bs) ++ _
    rw [ih]
    cases c <;> rfl
theorem pickW_len : ∀ {ws : List Str} {bs : List Bool}, (pickW ws bs).length ≤ ws.length
  | [], _ => by simp [pickW]
  | _ :: _, [] => by simp [pickW]
  | w :: ws, b :: bs => by
    have := pickW_len (ws := ws) (bs := bs)
    show (if b = true then w :: pickW ws bs else pickW ws bs).length ≤ _
    split <;> simp <;> omega
section
variable {X : Cx} {p : Addr × Obj} {H0 : Hp}
theorem nm_ret {bs : List Bool} {ws : List Str} {e0 : Expr} {wn gn x1 x2 : Str} {scope : Scope} {j : Nat} {kk : Nat} {pp p1 p2 p3 p4 p5 p6 p7 p8 p9 pa pb pc pd pe : Pos}
    (hp : p ∈ X.pn ∧ L2H.Hot1 X.A p) (hN : X.N.Nodup) (hw : X.N[3]? = some wn) (hgn : X.N[4]? = some gn) (h1 : X.N[1]? = some x1) (h2 : X.N[2]? = some x2) (v1 : Vis X.env.scope x1) (v2 : Vis X.env.scope x2) (hg : Gl X "zip") (hm : X.mg "zip" = none) (hV : PE X e0 (tIs p.1 true)) (hl : ws.length = bs.length + 1) (hz : ws.length ≤ 1000) (hzz : ((pickW ws (bs ++ [true])).map (·.length)).sum ≤ 100000)
    (ok : blkC X.N X.env.scope scope [(wn, 3), (gn, 4)] = true)
    (lw : ∀ (s : Shared) (H : Hp) (C : Addr) (cl : List (Str × Addr)) (fp : List Addr), PGs (X.blk s H scope (compEnvC scope cl C X.env) fp) [.Name wn p1, .Name gn p2] (gCons (gName 3) (gCons (gName 4) gNil)))
    (n2 : ∀ (s : Shared) (H : Hp) (C : Addr) (cl : List (Str × Addr)) (fp : List Addr), (assignEach [.Name wn p1, .Name gn p2] (X.blk s H scope (compEnvC scope cl C X.env) fp).env).length = 2 ∧ (assignEach [.Name wn p1, .Name gn p2] (X.blk s H scope (compEnvC scope cl C X.env) fp).env).findIdx? (·.1) = none)
    (lg : ∀ (s : Shared) (H : Hp) (C : Addr) (cl : List (Str × Addr)) (fp : List Addr), PTs (X.blk s H scope (compEnvC scope cl C X.env) fp) [.Name gn p3] (L2.tB (tVar 4)))
    (le : ∀ (s : Shared) (H : Hp) (C : Addr) (cl : List (Str × Addr)) (fp : List Addr), PE (X.blk s H scope (compEnvC scope cl C X.env) fp) (.Name wn p4) (tVar 3))
    (hd1 : (x1 == ("__debug__" : Str)) = false := by decide) (hc1 : (x1 == ("__classdict__" : Str)) = false := by decide) (hd2 : (x2 == ("__debug__" : Str)) = false := by decide) (hc2 : (x2 == ("__classdict__" : Str)) = false := by decide)
    (hs1 : starEach [.Name x2 p5, .BinOp (.Name x1 p6) .Add (.List [e0] p7) p8] X.env = (false, eval (.Name x2 p5) X.env) :: starEach [.BinOp (.Name x1 p6) .Add (.List [e0] p7) p8] X.env := by rfl)
    (hs2 : starEach [e0] X.env = (false, eval e0 X.env) :: starEach [] X.env := by rfl) (hs3 : starEach [.BinOp (.Name x1 p6) .Add (.List [e0] p7) p8] X.env = (false, eval (.BinOp (.Name x1 p6) .Add (.List [e0] p7) p8) X.env) :: starEach [] X.env := by rfl)
    (hpl : (backTo pa (starEach [.BinOp (.Name x1 p6) .Add (.List [e0] p7) p8] X.env)).any (·.1) = false := by rfl)
    (hf : ∀ x, foldedSetIterable (.Call (.Name "zip" p9) [.Name x2 p5, .BinOp (.Name x1 p6) .Add (.List [e0] p7) p8] [] pa) X.env x = pure x := by intro _; rfl)
    (hs4 : starEach [.ListComp (.Name wn p4) [⟨.Tuple [.Name wn p1, .Name gn p2] kk pb, .Call (.Name "zip" p9) [.Name x2 p5, .BinOp (.Name x1 p6) .Add (.List [e0] p7) p8] [] pa, [.Name gn p3], 0⟩] scope pc] X.env = [(false, eval (.ListComp (.Name wn p4) [⟨.Tuple [.Name wn p1, .Name gn p2] kk pb, .Call (.Name "zip" p9) [.Name x2 p5, .BinOp (.Name x1 p6) .Add (.List [e0] p7) p8] [] pa, [.Name gn p3], 0⟩] scope pc) X.env)] := by rfl)
    (hb : attributeBase (.Constant (.str "") j pp) "join" X.env (eval (.Constant (.str "") j pp) X.env) = eval (.Constant (.str "") j pp) X.env := by rfl) (hln : (pd.endLine == pe.line) = true := by rfl) {pr : Pos} :
    PS X (.Return (some (.Call (.Attribute (.Constant (.str "") j pp) "join" pd) [.ListComp (.Name wn p4) [⟨.Tuple [.Name wn p1, .Name gn p2] kk pb, .Call (.Name "zip" p9) [.Name x2 p5, .BinOp (.Name x1 p6) .Add (.List [e0] p7) p8] [] pa, [.Name gn p3], 0⟩] scope pc] [] pe)) pr)
      (fun D σ H => Nm2 p.1 H0 bs ws σ H ∧ ∀ G, Same H0 G → D.rt (.str (Txt.join "" (pickW ws (bs ++ [true])))) G) := by
  have lc := lc_hot (g := gTup X.K 2 (gCons (gName 3) (gCons (gName 4) gNil))) (own := [(wn, 3), (gn, 4)]) (pos := pc) hp hN (pir_zip (elts := [.Name wn p1, .Name gn p2]) (kk := kk) (tpos := pb) hp.1 hg hm (pa_cons (pe_var (pos := p5) h2 v2 hd2 hc2) (pa_cons (pe_op (pos := p8) op_cat (pe_var (pos := p6) h1 v1 hd1 hc1) (pe_lst (pos := p7) (isl_cons hV isl_nil hs2))) pa_nil hs3) hs1) hs1 hpl) (blkOk_by ok)
    (fun s H C cl fp => pgh_tup (lw s H C cl fp) (n2 s H C cl fp).1 (n2 s H C cl fp).2) lg le hf
  have lc' : PE X _ (tLc _ _ _ _ [3, 4]) := lc
  refine PS_imp (ps_ret (pe_join (pe_str (x := "")) lc' hs4 hb hln)) fun D σ H ⟨n, k⟩ => ?_
  obtain ⟨⟨n0, q1, a1, a2⟩, q2, b1, b2⟩ := n
  refine ⟨⟨"", rfl⟩, .ref q2, b1, .ref q1, a1, n0.2.1, by rw [List.length_map, sizeLine_eq]; decide, fun r nr => ⟨q1, r, bs.map V.bl, [V.bl true], rfl, rfl, new_at a2 nr, upd_same, by rw [List.length_map, sizeLine_eq]; simp; omega, fun c nc => ?_⟩⟩
  generalize hH1 : upd (upd H r (.lst ([true].map V.bl))) c (.lst (bs.map V.bl ++ [V.bl true])) = H1
  have s1 : Same H0 H1 := by rw [← hH1]; exact same_new (same_new n0.2.2 nr) nc
  have c2 : H1 q2 = some (.lst (ws.map V.str)) := by rw [← hH1]; exact new_at (new_at b2 nr) nc
  have c1 : H1 c = some (.lst ((bs ++ [true]).map V.bl)) := by rw [← hH1, upd_same, List.map_append]; rfl
  have sq : ∀ {G : Hp} {q : Addr} {xs : List V}, Same H1 G → H1 q = some (.lst xs) → SqA X.K true G q xs := fun s e => .inl (.inl (s _ _ e))
  refine ⟨q2, c, ws.map V.str, (bs ++ [true]).map V.bl, rfl, sq (fun _ _ e => e) c2, sq (fun _ _ e => e) c1, fun d nd => ?_⟩
  refine ⟨fun i m G => m = ws.length - i ∧ i ≤ ws.length ∧ Same H1 G ∧ G d = some (.lst ((pickW (ws.take i) ((bs ++ [true]).take i)).map V.str)), ⟨_, rfl, Nat.zero_le _, same_new (fun _ _ e => e) nd, upd_same⟩, ?_⟩
  rintro i m G ⟨rfl, hi, sG, eG⟩
  have lb : (bs ++ [true]).length = ws.length := by simp [hl]
  by_cases lt : i < ws.length
  case neg =>
    have ei : i = ws.length := by omega
    subst ei
    rw [List.take_of_length_le (Nat.le_refl _), List.take_of_length_le (by omega)] at eG
    refine .inl ⟨⟨_, _, sq sG c2, sq sG c1, by simp, by rw [List.length_map]; omega, .inl (by simp)⟩, ⟨"", d, pickW ws (bs ++ [true]), rfl, rfl, .inl (.inl (.inl eG)), ?_, k G fun b u e => sG b u (s1 b u e)⟩⟩
    show _ + _ * 0 ≤ _
    omega
  case pos =>
    have gw : (ws.map V.str)[i]? = some (.str ws[i]) := by rw [List.getElem?_map, List.getElem?_eq_getElem lt]; rfl
    have lt2 : i < (bs ++ [true]).length := by omega
    have gb : ((bs ++ [true]).map V.bl)[i]? = some (.bl (bs ++ [true])[i]) := by rw [List.getElem?_map, List.getElem?_eq_getElem lt2]; rfl
    refine .inr ⟨⟨_, _, _, _, sq sG c2, sq sG c1, gw, gb⟩, fun G' => (i + 1 ≤ ws.length ∧ Same H1 G' ∧ G' d = some (.lst ((pickW (ws.take (i + 1)) ((bs ++ [true]).take (i + 1))).map V.str))), fun G' z => ⟨_, by omega, rfl, z⟩, ?_⟩
    rintro v G' ⟨T, x, y, rfl, nT, rfl, ex, ey⟩
    have ex := Option.some.inj ((ex _ (sq sG c2)).symm.trans gw)
    have ey := Option.some.inj ((ey _ (sq sG c1)).symm.trans gb)
    subst ex ey
    have l0 : (L2.wipe σ [3, 4]).length = 5 := by rw [L2.wipe_length]; exact n0.1
    have sT : Same H1 (upd G T (.tup [.str ws[i], .bl (bs ++ [true])[i]])) := fun b u e => new_at (sG b u e) nT
    have dT : upd G T (.tup [.str ws[i], .bl (bs ++ [true])[i]]) d = some (.lst ((pickW (ws.take i) ((bs ++ [true]).take i)).map V.str)) := new_at eG nT
    have snoc : pickW (ws.take (i + 1)) ((bs ++ [true]).take (i + 1)) = pickW (ws.take i) ((bs ++ [true]).take i) ++ (if (bs ++ [true])[i] = true then [ws[i]] else []) := by
      rw [List.take_succ_eq_append_getElem lt, List.take_succ_eq_append_getElem lt2]
      exact pickW_snoc (by simp; omega)
    refine ⟨T, _, rfl, .inl (.inl upd_same), rfl, _, _, rfl, _, _, rfl, rfl, wipe_eq (by rw [List.length_set, List.length_set, L2.wipe_length]) fun q hq => ?_, ?_⟩
    · rw [List.getElem?_set_ne (by rintro rfl; simp at hq), List.getElem?_set_ne (by rintro rfl; simp at hq), wipe_get (by simpa using hq)]
    · refine ⟨_, by rw [List.getElem?_set_self (by rw [List.length_set, l0]; decide)], _, rfl, ?_⟩
      by_cases yes : (bs ++ [true])[i] = true
      · show (if (bs ++ [true])[i] = true then _ else _)
        rw [if_pos yes]
        refine ⟨_, by rw [List.getElem?_set_ne (by decide), List.getElem?_set_self (by rw [l0]; decide)], _, dT, ?_, lt, fun b u e => ?_, ?_⟩
        · rw [List.length_map, sizeLine_eq]
          have := pickW_len (ws := ws.take i) (bs := (bs ++ [true]).take i)
          rw [List.length_take] at this
          omega
        · rw [upd_ne]
          · exact sT b u e
          · rintro rfl; rw [nd] at e; cases e
        · rw [upd_same, snoc, if_pos yes, List.map_append]; rfl
      · show (if (bs ++ [true])[i] = true then _ else _)
        rw [if_neg yes]
        rw [if_neg yes, List.append_nil] at snoc
        exact ⟨lt, sT, by rw [snoc]; exact dT⟩
end
end Rc

/-! Rc: a def that tells what a lambda gives, or the name of what it raises. -/
namespace Rc
open PySem PySem.Spec PyProof.Rows L2
variable [LamTbl]
section
variable {X : Cx} {p : Addr × Obj} {D : Addr}
/-- isinstance(e, C), C an own class; C a class of the language -/
theorem is_cls {x y : Str} {i : Nat} {Ca : Addr} {b : Bool} {p1 p2 p3 pos : Pos} (C : ExcC X.K D) (hp : p ∈ X.pn) (hc : p.2.cls = .ref D) (hd : p.2.dict = none) (hf : ∃ vs, p.2.data = .fields vs) (hN : X.N[0]? = some x) (hv : Vis X.env.scope x) (hg : Gl X "isinstance") (hm : X.mg "isinstance" = none) (hgy : Gl X y) (hmy : X.mg y = some (.ref Ca)) (hb : PySem.W.kitOne X.K (.ref D) (.ref Ca) = some b)
    (hdb : (x == ("__debug__" : Str)) = false := by decide) (hcd : (x == ("__classdict__" : Str)) = false := by decide) (hdy : (y == ("__debug__" : Str)) = false := by decide)
    (h1 : starEach [.Name x p1, .Name y p2] X.env = (false, eval (.Name x p1) X.env) :: starEach [.Name y p2] X.env := by rfl) (h2 : starEach [.Name y p2] X.env = (false, eval (.Name y p2) X.env) :: starEach [] X.env := by rfl) (h3 : (backTo pos (starEach [.Name y p2] X.env)).any (·.1) = false := by rfl) :
    PE X (.Call (.Name "isinstance" p3) [.Name x p1, .Name y p2] [] pos) (tIs p.1 b) :=
  PE_imp (pe_callB (call_isP C hp hc hd hf) hg hm (by decide +kernel) (pa_cons (pe_var hN hv hdb hcd) (pa_cons (pe_glob (v := .ref Ca) hgy hmy rfl hdy) pa_nil h2) h1) (by decide) (by decide) h1 h3) fun σ H Q ⟨e, q⟩ =>
    ⟨.ref p.1, e, .ref Ca, .ref Ca, b, rfl, fun u r => r, hb, q⟩
theorem is_blt {x y : Str} {i : Nat} {T : String} {b : Bool} {p1 p2 p3 pos : Pos} (C : ExcC X.K D) (hp : p ∈ X.pn) (hc : p.2.cls = .ref D) (hd : p.2.dict = none) (hf : ∃ vs, p.2.data = .fields vs) (hN : X.N[0]? = some x) (hv : Vis X.env.scope x) (hg : Gl X "isinstance") (hm : X.mg "isinstance" = none) (hgy : Gl X y) (hmy : X.mg y = none) (hy : bootBuiltins y = some (.type T)) (hb : PySem.W.kitOne X.K (.ref D) (.type T) = some b)
    (hn : y ≠ "__name__" := by decide) (hdb : (x == ("__debug__" : Str)) = false := by decide) (hcd : (x == ("__classdict__" : Str)) = false := by decide) (hdy : (y == ("__debug__" : Str)) = false := by decide)
    (h1 : starEach [.Name x p1, .Name y p2] X.env = (false, eval (.Name x p1) X.env) :: starEach [.Name y p2] X.env := by rfl) (h2 : starEach [.Name y p2] X.env = (false, eval (.Name y p2) X.env) :: starEach [] X.env := by rfl) (h3 : (backTo pos (starEach [.Name y p2] X.env)).any (·.1) = false := by rfl) :
    PE X (.Call (.Name "isinstance" p3) [.Name x p1, .Name y p2] [] pos) (tIs p.1 b) :=
  PE_imp (pe_callB (call_isP C hp hc hd hf) hg hm (by decide +kernel) (pa_cons (pe_var hN hv hdb hcd) (pa_cons (pe_bltn (v := .ty T) hgy hmy hy rfl hn hdy) pa_nil h2) h1) (by decide) (by decide) h1 h3) fun σ H Q ⟨e, q⟩ =>
    ⟨.ref p.1, e, .ty T, .type T, b, rfl, fun u r => r, hb, q⟩
end
/-- the def at f, called there with the exception p, answers nm -/
def NameSp (P : Program) (w : World) (K : PySem.W.Frag) (mg : Str → Option Value) (base : Heap) (N : List Str) (x : Str) (sc : Scope) (f : Addr) (cd : Value) (body : List Stmt) (p : Addr × Obj) (nm : Str) : Prop :=
  ∀ (A : Around) (outer : List Env) (s : Shared) (H : Hp) (Q : VK), L2H.Hot1 A p → (∀ G, Same H G → Q (.str nm) G) →
    ∃ t, PSs (L2H.cxH C8.CX0 P w K mg base N x sc f cd A outer s H C8.E0 p) body t ∧ t { nx := fun _ H' => Q .non H', rt := Q } (L2.start N [.ref p.1]) H
section
variable {X : Cx}
/-- name_of(e) in a suite -/
theorem tell_call {a : Addr} {oe : Obj} {pn : List (Addr × Obj)} {x y pa : Str} {i : Nat} {f : Addr} {ar : Arguments} {body : List Stmt} {sc : Scope} {dV kV doc pm cdv ct oc : Value} {an od : Option Addr} {osl : Array (Option Value)} {N : List Str} {p1 p2 pos : Pos} {nm : Str}
    (hN : X.N[i]? = some y) (hv : Vis X.env.scope y) (hg : Gl X x) (hm : X.mg x = some (.ref f)) (hk : PySem.W.keepIn X.K (.ref f) = true) (lk : X.K.lookup f = some ⟨oc, od, .func (PySem.W.fnOf x x ar body sc dV kV doc pm an cdv ct), osl⟩) (hcd : PySem.W.codeIn X.K cdv x = true)
    (hb : L2.Binds X.K (PySem.W.fnOf x x ar body sc dV kV doc pm an cdv ct) [pa] []) (S : FnScope N [pa] sc) (hf : ∃ vs : Array Value, oe.data = .fields vs ∧ vs[2]? = some .none) (hr : Room 2 X.A) (sp : NameSp X.prog X.w X.K X.mg X.base N x sc f cdv body (a, oe) nm)
    (hdb : (x == ("__debug__" : Str)) = false := by decide) (hd : (y == ("__debug__" : Str)) = false := by decide) (hcl : (y == ("__classdict__" : Str)) = false := by decide)
    (he : starEach [.Name y p2] (X.suite a ((a, oe) :: pn)).env = (false, eval (.Name y p2) (X.suite a ((a, oe) :: pn)).env) :: starEach [] (X.suite a ((a, oe) :: pn)).env := by rfl) (hpl : (backTo pos (starEach [] (X.suite a ((a, oe) :: pn)).env)).any (·.1) = false := by rfl) :
    PE (X.suite a ((a, oe) :: pn)) (.Call (.Name x p1) [.Name y p2] [] pos) (fun σ H Q => σ[i]? = some (some (.ref a)) ∧ ∀ G, Same H G → Q (.str nm) G) := by
  refine ⟨fun pins s σ H Q I ⟨e, q⟩ => wpAny_Call_Name_kw (ld_glob I hg hm ?_ hdb)⟩
  have args := (pa_cons (X := X.suite a ((a, oe) :: pn)) (pe_var (pos := p2) hN hv hd hcl) pa_nil he).run pos pins s σ H (fun vs G => vs = [.ref a] ∧ G = H) I ⟨.ref a, e, rfl, rfl⟩
  refine PySem.W.callWith_K (h₀ := X.base) I.ok.mod.kin hk (thn args fun us s1 ⟨vs, G, J, r, ev, eG⟩ => ⟨J.kIn, ?_⟩) he hpl
  subst ev eG
  have b := hb s1 us J.kIn (by rw [List.append_nil, ← r.length]; rfl)
  rw [List.append_nil] at b
  have pin := J.pin (a, oe) (List.mem_append_left _ List.mem_cons_self)
  have stk : L2H.PinOk X.stack G s1 (a, oe) := ⟨pin.1, pin.2.1, fun z => (List.mem_cons.mp (J.stkSub a z)).elim pin.2.2.1 pin.2.2.2.1, pin.2.2.2.2⟩
  have hot : L2H.Hot1 (X.A.mark (some (.ref a))) (a, oe) := ⟨rfl, hf⟩
  obtain ⟨vs, hvs⟩ := hf
  have run : codeAny (model X.prog X.w) (X.A.mark (some (.ref a))) (.call (.ref f) ⟨us, []⟩) (CR C8.CX0 X.stack X.prog X.w G s1 Q C8.E0) s1 :=
    hot_run lk hcd S (L2H.RoomH.mono (j := 2) (k := 2) ⟨hr.dp, hr.un⟩ (Nat.le_refl _)) hot stk J.env0 b r rfl (sp _ _ _ _ _ hot q)
  refine wpAny_call (codeAny_mono run fun z s2 hq => ?_)
  rcases z with e | fl
  · exact hq.elim
  · rcases fl with _ | u | _ | _ <;> first | exact hq.elim | exact J.after hq
/-- what the def makes of the lambda's reading -/
def tTold (told : Str) (Told : Addr → Str → Prop) : (XK → Hp → VK → Prop) → Hp → VK → Prop := fun tl H Q =>
  tl (fun cls d G => ∃ D nm, cls = .ref D ∧ d = none ∧ Told D nm ∧ ∀ G', Same G G' → Q (.str nm) G') H fun v G => ∀ p, G p = none → Q (.ref p) (upd G p (.tup [.str told, v]))
theorem told_gives {k : Nat} {x y a fo en x1 x2 told : Str} {q : Str} {sg : Scope} {g c1 c2 f : Addr} {cdg : Value} {j1 j2 : Nat} {ar : Arguments} {body : List Stmt} {sc : Scope} {dV kV doc pm cdv ct oc : Value} {an od : Option Addr} {osl : Array (Option Value)} {N : List Str} {pa : Str} {Told : Addr → Str → Prop}
    {su1 : Stmt} {kk : Nat} {p1 p2 p3 p4 p5 p6 p7 p8 p9 pA pB pC pD pE pF pG pH pI pJ pK pL : Pos} (hn : [a, fo, en].Nodup)
    (g1 : sg.names.lookup x1 = some .globalImplicit) (g2 : sg.names.lookup x2 = some .globalImplicit) (m1 : X.mg x1 = some (.ref c1)) (m2 : X.mg x2 = some (.ref c2)) (d1 : (x1 == ("__debug__" : Str)) = false) (d2 : (x2 == ("__debug__" : Str)) = false)
    (vf : sg.names.lookup fo = some .local) (ve : sg.names.lookup en = some .local) (gy : sg.names.lookup y = some .globalImplicit)
    (hm : X.mg y = some (.ref f)) (hk : PySem.W.keepIn X.K (.ref f) = true) (lk : X.K.lookup f = some ⟨oc, od, .func (PySem.W.fnOf y y ar body sc dV kV doc pm an cdv ct), osl⟩) (hcd : PySem.W.codeIn X.K cdv y = true)
    (hb : L2.Binds X.K (PySem.W.fnOf y y ar body sc dV kV doc pm an cdv ct) [pa] []) (S : FnScope N [pa] sc)
    (hT : ∀ D nm, Told D nm → PySem.W.exmOne X.K (.ref D) (.ref c1) = some false ∧ PySem.W.exmOne X.K (.ref D) (.ref c2) = some true ∧ ∀ p : Addr × Obj, p.2.cls = .ref D → p.2.dict = none → (∃ vs, p.2.data = .fields vs) → NameSp X.prog X.w X.K X.mg X.base N y sc f cdv body p nm)
    (hda : (a == ("__debug__" : Str)) = false := by decide) (hca : (a == ("__classdict__" : Str)) = false := by decide) (hdy : (y == ("__debug__" : Str)) = false := by decide) (hde : (en == ("__debug__" : Str)) = false := by decide) (hce : (en == ("__classdict__" : Str)) = false := by decide) (hdf : (fo == ("__debug__" : Str)) = false := by decide) (hcf : (fo == ("__classdict__" : Str)) = false := by decide) :
    Gives X (k + 2) [a, fo, en] x sg g cdg [.Assign [.Name fo p1] (.Constant .none j1 p2) p3,
      .Try [.Assign [.Name fo p4] (.Tuple [.Constant (.str told) j2 p5, .Call (.Name a p6) [] [] p7] kk p8) p9] [.ExceptHandler (some (.Name x1 pA)) (some en) [su1] pB, .ExceptHandler (some (.Name x2 pC)) (some en) [.Assign [.Name fo pD] (.Call (.Name y pE) [.Name en pF] [] pG) pH] pI] [] [] pJ,
      .Return (some (.Name fo pK)) pL] a q (tTold told Told) := by
  intro fl c' s H Q tl rm act hco hq
  let Ech : XK := fun cls d G => ∃ D nm, cls = .ref D ∧ d = none ∧ Told D nm ∧ ∀ G', Same G G' → Q (.str nm) G'
  have lf : Loc sg fo := .inl vf
  have vF : Vis sg fo := .inl vf
  have vE : Vis sg en := .inl ve
  have s1 := ps_set (X := (cxOf C8.CX0 X.prog X.w X.K X.mg X.base [a, fo, en] x sg g cdg X.A X.stack s H C8.E0).nox) (i := 1) (x := fo) (pos' := p1) (pos := p3) hn rfl lf (pe_non (j := j1) (pos := p2)) rfl (.inr vf)
  have s3 := ps_ret (X := (cxOf C8.CX0 X.prog X.w X.K X.mg X.base [a, fo, en] x sg g cdg X.A X.stack s H C8.E0).nox) (pos := pL) (pe_var (i := 1) (x := fo) (pos := pK) rfl vF hdf hcf)
  have s2 := try_two (X := (cxOf C8.CX0 X.prog X.w X.K X.mg X.base [a, fo, en] x sg g cdg X.A X.stack s H C8.E0).nox) (x1 := x1) (x2 := x2) (c1 := .ref c1) (c2 := .ref c2) (i := 2) (n := en) (n1 := pA) (n2 := pC) (q1 := pB) (q2 := pI) (pos := pJ)
    (tb := fun W D σ H => (∀ c d (σ' : L2.St) H', σ'.length = 3 → Ech c d H' → W c d σ' H') ∧ σ[0]? = some (some (.ref fl)) ∧ H c' = some (LamX.CodeO c' q) ∧ tl Ech H fun v G => ∀ p, G p = none → D.nx (σ.set 1 (some (.ref p))) (upd G p (.tup [.str told, v])))
    (t1 := fun _ _ _ _ _ _ _ => False) (t2 := fun a' oe cls d D σ H => σ[2]? = some (some (.ref a')) ∧ ∃ D' nm, cls = .ref D' ∧ d = none ∧ Told D' nm ∧ ∀ G, Same H G → D.nx (σ.set 1 (some (.str nm))) G)
    rfl rfl hn rfl ve ⟨g1, d1, .inl m1⟩ ⟨g2, d2, .inl m2⟩ (body := [.Assign [.Name fo p4] (.Tuple [.Constant (.str told) j2 p5, .Call (.Name a p6) [] [] p7] kk p8) p9]) (b1 := su1) (su1 := []) (b2 := .Assign [.Name fo pD] (.Call (.Name y pE) [.Name en pF] [] pG) pH) (su2 := [])
    (fun W pn xe tk => ?_) (fun _ _ _ _ _ _ _ => ⟨fun _ _ _ _ _ _ z => z.elim⟩) (fun a' oe cls d pn zn hf => ?_)
  · refine ⟨_, pss_cons s1 (pss_cons s2 (pss_one s3)), ?_⟩
    refine ⟨fun c d σ' H' hl' e => ?_, rfl, hco, ?_⟩
    · obtain ⟨D', nm, rfl, rfl, tl', hQ⟩ := e
      obtain ⟨e1, e2, _⟩ := hT D' nm tl'
      refine .inr ⟨e1, e2, fun a' oe na z => ⟨?_, D', nm, rfl, rfl, tl', fun G sG => ⟨.str nm, ?_, hQ G sG⟩⟩⟩
      · rw [List.getElem?_set_self (by rw [hl']; decide)]
      · rw [List.getElem?_set_ne (by decide), List.getElem?_set_self (by rw [List.length_set, hl']; decide)]
    · refine cast (congrArg (tl Ech H) (funext fun v => funext fun G => propext ⟨fun h p np => ⟨_, rfl, h p np⟩, fun h p np => ?_⟩)) hq
      obtain ⟨w, e, r⟩ := h p np
      cases Option.some.inj (Option.some.inj e)
      exact r
  · refine ⟨fun pins s' σ H' D I h => ?_⟩
    have ps := PS_imp (t' := fun D σ H => σ[0]? = some (some (.ref fl)) ∧ H c' = some (LamX.CodeO c' q) ∧ tl Ech H fun v G => ∀ p, G p = none → D.nx (σ.set 1 (some (.ref p))) (upd G p (.tup [.str told, v])))
      (ps_set (i := 1) (x := fo) (pos' := p4) (pos := p9) hn rfl lf (pe_tup (pos := p8) (x1 := kk) (pa_cons (pe_str (x := told) (j := j2) (pos := p5)) (pa_cons (act W pn xe Ech p6 p7 tk fun c d σ' H' hl' e => h.1 c d σ' H' hl' e) pa_nil rfl) rfl)) rfl (.inr vf)) fun D σ H1 h => ⟨h.1, h.2.1, cast (congrArg (tl Ech H1) (funext fun v => funext fun G => propext ⟨fun h => ⟨by rw [sizeLine_eq]; show 2 ≤ _; decide, h⟩, fun h => h.2⟩)) h.2.2⟩
    exact (pss_one ps).run pins s' σ H' D I h.2
  · refine ⟨fun pins s' σ H' D I h => ?_⟩
    obtain ⟨h2, D', nm, rfl, rfl, td, h⟩ := h
    have sp := (hT D' nm td).2.2 (a', oe) zn.1 zn.2.1 hf
    have ps := PS_imp (t' := fun D σ H => σ[2]? = some (some (.ref a')) ∧ ∀ G, Same H G → D.nx (σ.set 1 (some (.str nm))) G)
      (ps_set (i := 1) (x := fo) (pos' := pD) (pos := pH) hn rfl lf (tell_call (X := (cxOf C8.CX0 X.prog X.w X.K X.mg X.base [a, fo, en] x sg g cdg X.A X.stack s H C8.E0).nox) (pn := pn) (i := 2) (y := en) (x := y) (p1 := pE) (p2 := pF) (pos := pG) (nm := nm) rfl vE gy hm hk lk hcd hb S ⟨_, hf.choose_spec, zn.2.2 _ hf.choose_spec⟩ (rm.mono ?_) sp hdy hde hce) rfl (.inr vf)) fun D σ H1 h => ?_
    · exact (pss_one ps).run pins s' σ H' D I ⟨h2, h⟩
    · omega
    · exact ⟨h.1, h.2⟩
end
end Rc

/-! Rc: a lambda handed to the def that tells. -/
namespace Rc
open PySem PySem.Spec PyProof.Rows L2
variable [LamTbl]
theorem hd_mut {s : Sv} (h : isMut (hd s) = true) : hd s = s ∧ isMut s = true := by cases s <;> first | exact ⟨rfl, h⟩ | cases h
theorem rs_mut {s t : Sv} (h : isMut (rs s t) = true) (m : isMut t = true → isMut (hd s) = true) : isMut s = true := by
  cases s <;> first | rfl | exact (hd_mut (m h)).2
theorem rs_cases (s t : Sv) : (rs s t = s ∧ isMut s = true ∧ hd s = .un) ∨ rs s t = t := by cases s <;> first | exact .inr rfl | exact .inl ⟨rfl, rfl, rfl⟩
theorem hd_get {S : Sl} {i : Nat} {t : Sv} (h : (S.map hd)[i]? = some t) : ∃ s, S[i]? = some s ∧ t = hd s := by
  rw [List.getElem?_map] at h
  cases e : S[i]? with
  | none => rw [e] at h; cases h
  | some s => rw [e] at h; cases h; exact ⟨s, rfl, rfl⟩
theorem rs_get {S S1 : Sl} {i : Nat} {u : Sv} (h : (List.zipWith rs S S1)[i]? = some u) : ∃ s t, S[i]? = some s ∧ S1[i]? = some t ∧ u = rs s t := by
  rw [List.getElem?_zipWith] at h
  cases e : S[i]? with
  | none => rw [e] at h; cases h
  | some s =>
    cases e1 : S1[i]? with
    | none => rw [e, e1] at h; cases h
    | some t => rw [e, e1] at h; cases h; exact ⟨s, t, rfl, rfl, rfl⟩
theorem mutOk_at {S S1 : Sl} (mu : mutOk (S.map hd) S1 = true) {i : Nat} {s t : Sv} (e : S[i]? = some s) (e1 : S1[i]? = some t) (m : isMut t = true) : isMut (hd s) = true := by
  have z : (S1.zip (S.map hd))[i]? = some (t, hd s) := by rw [List.getElem?_zip_eq_some, List.getElem?_map, e]; exact ⟨e1, rfl⟩
  have w := List.all_eq_true.mp mu _ (List.mem_of_getElem? z)
  simpa only [m, Bool.not_true, Bool.false_or] using w
def ToldBy (mg : Str → Option Value) (nms : Str → Option Str) (D : Addr) (nm : Str) : Prop := ∃ x, mg x = some (.ref D) ∧ nms x = some nm
section
variable {K : PySem.W.Frag} {mg : Str → Option Value} {F : Fx} {σ : L2.St} {S S1 : Sl} {H G H1 : Hp}
theorem Grew.mono (g : Grew H G) : Mono H G := ⟨fun a xs e => g.ext a _ e nT.tup, fun a o u e => g.ext a _ e nT.frz, fun a φ e => g.ext a _ e nT.ext⟩
theorem RSt.grew (r : RSt K mg F σ H S) (g : Grew H G) : RSt K mg F σ G S where
  len := r.len
  at_ := fun i s e => (r.at_ i s e).mono g.mono fun a m z => by
    have ow : Owns σ S a := ⟨i, s, e, m, z⟩
    cases h : H a with
    | none => exact absurd h (r.own_ne ow)
    | some u => exact g.ext a u h (r.own_nT ow h)
  inj := r.inj
  ownd := r.ownd
  lent := r.lent
  frame := fun a o e t n => g.ext a o (r.frame a o e t n) t
  dom := fun a n => g.dom a (r.dom a n)
  mono := r.mono.trans g.mono
  tabs := r.tabs.trans g.tb
theorem Go.grew (r : RSt K mg F σ H S) (g : Grew H G) (h : Go K mg F σ S G S1 H1) : Go K mg F σ S H S1 H1 where
  rst := h.rst
  keep := ⟨fun a o e t n => h.keep.kp a o (g.ext a o e t) t n, g.tb.trans h.keep.tb⟩
  sub := h.sub
  dm := fun a n => h.dm a (g.dom a n)
end
/-- every list that a slot owns is lent -/
def lentAll (S : Sl) (σ : L2.St) (i : Nat) : Option Addr := match S[i]?, σ[i]? with
  | some (.ow _), some (some (.ref a)) => some a
  | _, _ => none
theorem lentAll_some {S : Sl} {σ : L2.St} {i : Nat} {a : Addr} (h : lentAll S σ i = some a) : ∃ ds, S[i]? = some (.ow ds) ∧ σ[i]? = some (some (.ref a)) := by
  unfold lentAll at h
  split at h
  · rename_i ds b e1 e2
    cases h
    exact ⟨ds, e1, e2⟩
  · cases h
section
variable {K : PySem.W.Frag} {mg : Str → Option Value} {F : Fx} {σ : L2.St} {S S1 : Sl} {H G H1 : Hp}
theorem RSt.lend (r : RSt K mg F σ G S) : RSt K mg ⟨G, lentAll S σ⟩ σ G (S.map hd) where
  len := by rw [List.length_map]; exact r.len
  at_ := fun i t e => by
    obtain ⟨s, e1, rfl⟩ := hd_get e
    have z := r.at_ i s e1
    cases s <;> first | exact z | trivial
  inj := fun i j s t a e1 e2 m1 m2 q1 q2 => by
    obtain ⟨s, f1, rfl⟩ := hd_get e1
    obtain ⟨t, f2, rfl⟩ := hd_get e2
    exact r.inj i j s t a f1 f2 (hd_mut m1).2 (hd_mut m2).2 q1 q2
  ownd := fun i t a e m q => by
    obtain ⟨s, e1, rfl⟩ := hd_get e
    cases s with
    | ow ds => exact .inl (by show lentAll S σ i = _; unfold lentAll; rw [e1, q])
    | un => cases m
    | val d => cases m
    | dki d => cases m
    | dkt d => cases m
  lent := fun i a e => by
    obtain ⟨ds, e1, e2⟩ := lentAll_some e
    exact ⟨e2, r.own_ne ⟨i, _, e1, rfl, e2⟩, ds, .inl (by rw [List.getElem?_map, e1]; rfl)⟩
  frame := fun a o e _ _ => e
  dom := fun a n => n
  mono := Mono.refl _
  tabs := TbM.refl _
/-- .. and they are given back -/
theorem RSt.unlend (hF : ∀ i, F.brw i = none) (r : RSt K mg F σ G S) (b : RSt K mg ⟨G, lentAll S σ⟩ σ H1 S1) (mu : mutOk (S.map hd) S1 = true) : RSt K mg F σ H1 (List.zipWith rs S S1) where
  len := by rw [List.length_zipWith, r.len, b.len, Nat.min_self]
  at_ := fun i u e => by
    obtain ⟨s, t, e1, e2, rfl⟩ := rs_get e
    rcases rs_cases s t with ⟨h, m, un⟩ | h
    · rw [h]
      refine (r.at_ i s e1).mono b.mono fun a _ q => ?_
      have ow : Owns σ S a := ⟨i, s, e1, m, q⟩
      cases g : G a with
      | none => exact absurd g (r.own_ne ow)
      | some o =>
        show H1 a = G a
        rw [g]
        refine b.frame a o g (r.own_nT ow g) fun k z => ?_
        obtain ⟨ds, f1, f2⟩ := lentAll_some z
        have := r.inj i k s _ a e1 f1 m rfl q f2
        subst this
        rw [e1] at f1
        cases f1
        cases un
    · rw [h]
      exact b.at_ i t e2
  inj := fun i j s t a e1 e2 m1 m2 q1 q2 => by
    obtain ⟨s1, t1, f1, g1, rfl⟩ := rs_get e1
    obtain ⟨s2, t2, f2, g2, rfl⟩ := rs_get e2
    exact r.inj i j s1 s2 a f1 f2 (rs_mut m1 fun m => mutOk_at mu f1 g1 m) (rs_mut m2 fun m => mutOk_at mu f2 g2 m) q1 q2
  ownd := fun i t a e m q => by
    obtain ⟨s1, t1, f1, g1, rfl⟩ := rs_get e
    exact r.ownd i s1 a f1 (rs_mut m fun m => mutOk_at mu f1 g1 m) q
  lent := fun i a e => by rw [hF] at e; cases e
  frame := fun a o e t n => b.frame a o (r.frame a o e t n) t fun i z => by
    obtain ⟨ds, e1, e2⟩ := lentAll_some z
    refine (r.ownd i _ a e1 rfl e2).elim (fun z => by rw [hF] at z; cases z) fun z => ?_
    rw [z] at e
    cases e
  dom := fun a n => b.dom a (r.dom a n)
  mono := r.mono.trans b.mono
  tabs := r.tabs.trans b.tabs
theorem Go.unlend (hF : ∀ i, F.brw i = none) (r : RSt K mg F σ G S) (b : RSt K mg ⟨G, lentAll S σ⟩ σ H1 S1) (mu : mutOk (S.map hd) S1 = true) : Go K mg F σ S G (List.zipWith rs S S1) H1 where
  rst := RSt.unlend hF r b mu
  keep := ⟨fun a o e t n => b.frame a o e t fun i z => by
    obtain ⟨ds, e1, e2⟩ := lentAll_some z
    exact n ⟨i, _, e1, rfl, e2⟩, b.tabs⟩
  sub := fun a ⟨i, u, e, m, q⟩ => by
    obtain ⟨s1, t1, f1, g1, rfl⟩ := rs_get e
    exact ⟨i, s1, f1, rs_mut m fun m => mutOk_at mu f1 g1 m, q⟩
  dm := b.dom
end
/-- the lambda's body, for any frame -/
def tAny (K : PySem.W.Frag) (mg : Str → Option Value) (m : M Sv) (E : XK) : TE := fun σ H Q => ∃ F, tOf K mg F E m σ H Q
theorem tAny_of {X : Cx} {E : XK} {e : Expr} {m : M Sv} (h : ∀ F, AE X F E e m) : PE X e (tAny X.K X.mg m E) := ⟨fun pins s σ H Q I ⟨F, q⟩ => (h F).run pins s σ H Q I q⟩
theorem a_try {X : Cx} {F : Fx} {E : XK} {P : Addr} {nms : Str → Option Str} {m : M Sv} {e0 : Expr} (hF : ∀ i, F.brw i = none) (hP : LamX.TabS F.H0 P lamQ) (h : PE X e0 (tLm P (tTold "told" (ToldBy X.mg nms)) (tAny X.K X.mg m))) : AE X F E e0 (eTry nms m) := by
  refine PE_imp h fun σ H Q ⟨S, st, q⟩ => ⟨st.tabs P hP, fun G gr => ?_⟩
  unfold eTry at q
  have sG := st.grew gr
  refine ⟨⟨G, lentAll S σ⟩, S.map hd, sG.lend, ?_⟩
  cases em : m (S.map hd) with
  | no => rw [em] at q; exact q.elim
  | ok r S1 =>
    rw [em] at q
    cases r with
    | val d =>
      intro v G1 g rv p np
      have sm : Same G1 (upd G1 p (.tup [.str "told", v])) := fun b x e => by rw [upd_ne (ne_of_none e np)]; exact e
      by_cases mu : mutOk (S.map hd) S1 = true
      case neg => simp only [mu] at q; exact q.elim
      simp only [mu, if_true] at q
      have g2 := Go.unlend hF sG g.rst mu
      refine q (.ref p) _ ((Go.grew st gr g2).trans (Go.of_same g2.rst sm)) ?_
      exact ⟨p, _, rfl, SqT.of upd_same, _, _, rfl, rfl, v, [], rfl, Rep.mono (Mono.of_same sm) d rv, rfl⟩
    | _ => exact q.elim
  | ex e S1 =>
    rw [em] at q
    obtain ⟨ec, el⟩ := e
    by_cases mu : mutOk (S.map hd) S1 = true
    case neg => simp only [mu, Bool.false_and] at q; exact q.elim
    cases el with
    | some l => simp only [mu, Option.isNone_some, Bool.and_false] at q; exact q.elim
    | none =>
      cases en : nms ec with
      | none => simp only [mu, Option.isNone_none, Bool.and_true, if_true, en] at q
      | some nm =>
        simp only [mu, Option.isNone_none, Bool.and_true, if_true, en] at q
        rintro cls d G1 r1 ⟨C, hC, rfl, rfl⟩
        exact ⟨C, nm, rfl, rfl, ⟨ec, hC, en⟩, fun G2 s2 => by
          have g2 := Go.unlend hF sG r1 mu
          exact q (.str nm) G2 ((Go.grew st gr g2).trans (Go.of_same g2.rst s2)) rfl⟩
/-! ### a lambda that is one call -/
theorem AE.le {X : Cx} {F : Fx} {E : XK} {e : Expr} {m n : M Sv} (h : AE X F E e m) (le : ∀ S, n S = .no ∨ n S = m S) : AE X F E e n := by
  refine PE_imp h fun σ H Q ⟨S, st, q⟩ => ⟨S, st, ?_⟩
  rcases le S with z | z
  · rw [z] at q; exact q.elim
  · rw [z] at q; exact q
theorem tryC_le {nms : Str → Option Str} {F : AF} {as : List Am} (S : Sl) : eTryC nms F as S = .no ∨ eTryC nms F as S = eTry nms (eFz (eCall F as)) S := by
  unfold eTryC eTry eFz eCall
  cases evA as (S.map hd) with
  | no => exact .inl rfl
  | ex e S1 => exact .inl rfl
  | ok vs S1 =>
    by_cases ok : vs.all (okB S1) = true
    case neg => simp only [ok]; exact .inl rfl
    simp only [ok, if_true, Res.bind]
    cases F (vs.map (argOf S1)) with
    | no => exact .inl rfl
    | ex e outs => exact .inr rfl
    | ret v outs => cases v <;> first | exact .inl rfl | exact .inr rfl
end Rc

/-! Rc: the end of a row whose law makes lambdas. -/
namespace Rc
open PySem PySem.Spec PySem.W PyProof.Rows L2
variable [LamTbl]
/-- the law's code object and its table, read off the written part -/
structure TabIs (K : PySem.W.Frag) (x : Str) (c P : Addr) : Prop where
  at_ : PySem.W.tabIn K x = some (c, P)
  none : K.lookup P = none
theorem tabIs_of {K : PySem.W.Frag} {x : Str} {f c P : Addr} {oc o1 : Value} {od o2 : Option Addr} {osl o4 : Array (Option Value)} {fd : FuncData} {vs : Array Value} {cd : Value} (h1 : PySem.W.nsIn K mainGlobals x = some (some (.ref f))) (h2 : K.lookup f = some ⟨oc, od, .func fd, osl⟩) (h3 : fd.code = cd) (h4 : cd = .ref c)
    (h5 : K.lookup c = some ⟨o1, o2, .fields vs, o4⟩) (h6 : vs[11]? = some (.ref P)) (h7 : K.lookup P = .none) : TabIs K x c P := by
  refine ⟨?_, h7⟩
  subst h4
  unfold PySem.W.tabIn
  rw [h1]
  dsimp only
  rw [h2]
  dsimp only
  rw [h3]
  dsimp only
  rw [h5]
  dsimp only
  rw [h6]
/-- the law's promise: with its table, for a script on which its function says True -/
def lawSp (K : PySem.W.Frag) (P : Addr) (G : AF) : Sp := fun vs H Q _ => LamX.TabS H P lamQ ∧ ∃ (a : Addr) (ns : List Int) (outs : Sl), vs = [.ref a] ∧ LsX K H a (ns.map V.int) ∧ G [.val (.list (ns.map PyData.int))] = .ret (.val (.bool true)) outs ∧ ∀ H', Q (.bl true) H'
theorem def_okL {Pr : Program} {w : World} {K : PySem.W.Frag} {mg : Str → Option Value} {base : Heap} {P : Addr} {x p0 : Str} {st : Stmt} {f : Addr} {fd : FuncData} {N : List Str} {k : Nat} {body : M Fl} (hf : Fun K x x st f fd) (S : FnScope N [p0] (defScope st)) (hl : 1 ≤ N.length)
    (h : ∀ (cdv : Value), fd.code = cdv → ∀ (A : Around) (outer : List Env) (s : Shared) (H : Hp) (E : XK) (F : Fx), Room k (A.deeper (envOfC x (defScope st) s.heap.objs.size f cdv)) → (∀ i, F.brw i = none) → LamX.TabS F.H0 P lamQ → ASs (cxOf (L2N.CX Pr w) Pr w K mg base N x (defScope st) f cdv A outer s H E) F E (defBody st) body) :
    FnOk Pr w K mg base (L2N.CX Pr w) (k + 1) f fd [p0] (lawSp K P (fn N.length [] body)) := by
  obtain ⟨oc, od, kV, doc, pm, an, cdv, ct, osl, rfl, lk, hcd⟩ := hf.ex
  refine fn_of lk hcd S (fun vs H Q E q => ?_) fun A outer s H vs Q E hr ⟨tH, a, ns, outs, ev, hS, eG, hQ⟩ => ?_
  · obtain ⟨_, a, ns, outs, ev, _⟩ := q
    rw [ev]
    rfl
  subst ev
  -- from a heap in which nobody changes the script
  have go : ∀ H2 : Hp, LamX.TabS H2 P lamQ → FzL K H2 a (ns.map V.int) → tOfS K mg ⟨H2, brwOf [.val (.list (ns.map PyData.int))] [.ref a]⟩ E body { nx := fun _ H' => Q .non H', rt := Q } (L2.start N [.ref a]) H2 := fun H2 t2 fz => by
    have hh : Hands K mg H2 [.val (.list (ns.map PyData.int))] [.ref a] := by
      refine ⟨rfl, fun i s e => ?_, fun i j s t b e1 e2 m1 => ?_⟩
      · cases i with
        | zero =>
          cases e
          exact ⟨rfl, .ref a, rfl, a, _, rfl, fz, RepL.ofInts ns⟩
        | succ i => simp at e
      · cases i with
        | zero => cases e1; cases m1
        | succ i => simp at e1
    refine ⟨_, rst_start (N := N) hh (by exact hl), ?_⟩
    unfold fn at eG
    by_cases hno : noOw [] 0 [.val (.list (ns.map PyData.int))] = true
    case neg => rw [if_neg hno] at eG; cases eG
    rw [if_pos hno] at eG
    unfold mkF at eG
    cases eb : body ([.val (.list (ns.map PyData.int))] ++ List.replicate (N.length - [Sv.val (.list (ns.map PyData.int))].length) .un) with
    | no => rw [eb] at eG; cases eG
    | ex c S' => rw [eb] at eG; cases eG
    | ok fl S' =>
      rw [eb] at eG
      cases fl with
      | nx => cases eG
      | bk => cases eG
      | ct => cases eG
      | rt v =>
        cases eG
        intro σ' v' H' r rt
        obtain rfl : v' = V.bl true := rt
        exact hQ H'
  have nb : ∀ i, brwOf [Sv.val (.list (ns.map PyData.int))] [V.ref a] i = none := fun i => by
    cases z : brwOf [Sv.val (.list (ns.map PyData.int))] [V.ref a] i with
    | none => rfl
    | some b =>
      obtain ⟨ds, e1, _⟩ := brwOf_some z
      cases i with
      | zero => cases e1
      | succ i => simp at e1
  refine ⟨fun D σ G => D = { nx := fun _ H' => Q .non H', rt := Q } ∧ σ = L2.start N [.ref a] ∧ G = H, ⟨fun pins s' σ G D I ⟨e1, e2, e3⟩ => ?_⟩, rfl, rfl, rfl⟩
  subst e1 e2 e3
  rcases hS with hS | hS
  · obtain ⟨o, I2⟩ := Inv_lock I hS
    have t2 : LamX.TabS (upd G a (.frz o (.lst (ns.map V.int)))) P lamQ := TbM.upd hS nT.lst lst_ne _ tH
    exact (h cdv rfl A outer s G E ⟨upd G a (.frz o (.lst (ns.map V.int))), _⟩ hr nb t2).run pins s' _ _ _ I2 (go _ t2 (.inl ⟨o, upd_same⟩))
  · exact (h cdv rfl A outer s G E ⟨G, _⟩ hr nb tH).run pins s' _ _ _ I (go _ tH hS)
theorem walk_rcT {l : PySem.W.OpenLaw} {n k : Nat} {q : Program} {loose : List Str} {XP : (Str → Option Value) → Heap → Prop} {YP : World → Heap → Prop} {d d2 : DefRec} {K : Params → PySem.W.Frag} {x : Str} (G : AF)
    (hn : l.most = some n) (hn2 : n ≤ sizeLine) (hdf : d.params.defaults = []) (hr : Room k callerA)
    (hY : ∀ (w : World) (h : Heap), YP w h → (K w.params).In h) (hd2 : (recsOf q).find? (fun e => e.name == d.name) = some d2)
    (F : ∀ (w : World) (mg : Str → Option Value) (fa : Addr) (h : Heap), (K w.params).In h → h.Ns mainGlobals mg → XP mg h → mg d.name = some (.ref fa) →
      ∃ (fd : FuncData) (c P : Addr), TabIs (K w.params) d.name c P ∧ (∀ (s : Shared) (u : Value), BindsTo s fd ⟨[u], []⟩ [(x, u)]) ∧
        ∀ base : Heap, (K w.params).In base → base.Ns mainGlobals mg → LamX.TabB base mg c P → FnOk l.prog w (K w.params) mg base (L2N.CX l.prog w) k fa fd [x] (lawSp (K w.params) P G))
    (hG : ∀ ns : List Int, ns.length ≤ n → ∃ outs, G [.val (.list (ns.map PyData.int))] = .ret (.val (.bool true)) outs) :
    PySem.W.WalkO q loose XP YP l.row.toRowW d [] (fun f vs => PySem.call f vs) := by
  refine Att.attach_callB hn hdf fun w s₀ s₁ mg mb fa o pm cd doc a vs ns G' Y ho hd hcd hmg hobj hints hlen hbits hg => ?_
  have KX := hY w _ Y
  obtain ⟨fd, c, P, tI, hb, hF⟩ := F w mg fa _ KX G'.T.g G'.X hmg
  obtain ⟨hC, hP⟩ := tab_of G'.T KX hd2 tI.at_
  refine LamX.law_callTs (cs := [(c, P)]) KX G'.T.g G'.T.b G'.T.builtins G'.T.nolimit hg (List.forall_mem_cons.mpr ⟨hP, fun _ z => nomatch z⟩) (List.forall_mem_cons.mpr ⟨tI.none, fun _ z => nomatch z⟩) (List.forall_mem_cons.mpr ⟨hC, fun _ z => nomatch z⟩) G'.T.bmain hobj hints (Nat.le_trans hlen hn2) hr
    (fun base Kb Nb TB => hF base Kb Nb (TB (c, P) List.mem_cons_self)) hb (fun H hH hS => ?_) fun H e s' cx => ?_
  · have tH : LamX.TabS H P lamQ := LamX.TabS.nil (hH (c, P) List.mem_cons_self)
    obtain ⟨outs, eG⟩ := hG ns hlen
    refine ⟨tH, a, ns, outs, rfl, ?_, eG, fun _ => rfl⟩
    rcases hS with h | ⟨o, its, m, h1, h2, h3, h4, h5, h6⟩
    · rcases h with h | ⟨o2, h⟩
      · exact .inl h
      · exact .inr (.inl ⟨o2, h⟩)
    · have e := KX a o h1
      rw [hobj] at e
      have e := Option.some.inj e
      subst e
      have h4 : Data.seq vs.toArray _ = Data.seq its m := h4
      cases h4
      exact .inr (.inr ⟨_, _, h1, h5, h6⟩)
  · obtain ⟨_, _, _, _, _, _, _, _, _, _, _, _, z⟩ := cx
    exact z
end Rc

/-! Rc: the forms that a printed derivation with lambdas uses. -/
namespace Rc
open PySem PySem.Spec PyProof.Rows L2
variable [LamTbl]
/-- whether the class D is a y; whether a clause that names y takes it -/
def KitBy (K : PySem.W.Frag) (mg : Str → Option Value) (D : Addr) (y : Str) (b : Bool) : Prop := ∃ Ca, mg y = some (.ref Ca) ∧ PySem.W.kitOne K (.ref D) (.ref Ca) = some b
def ExmBy (K : PySem.W.Frag) (mg : Str → Option Value) (D : Addr) (y : Str) (b : Bool) : Prop := ∃ Ca, mg y = some (.ref Ca) ∧ PySem.W.exmOne K (.ref D) (.ref Ca) = some b
structure NmX (X : Cx) (x : Str) (p : Addr × Obj) (D : Addr) : Prop where
  C : ExcC X.K D
  hp : p ∈ X.pn
  hc : p.2.cls = .ref D
  hd : p.2.dict = none
  hf : ∃ vs, p.2.data = .fields vs
  hN : X.N[0]? = some x
  hv : Vis X.env.scope x
  hg : Gl X "isinstance"
  hm : X.mg "isinstance" = none
section
variable {X : Cx} {x y : Str} {p : Addr × Obj} {D : Addr} {b : Bool} {p1 p2 p3 pos : Pos}
theorem is_by (nx : NmX X x p D) (h : KitBy X.K X.mg D y b) (hgy : Gl X y := by rfl) (hdb : (x == ("__debug__" : Str)) = false := by decide) (hcd : (x == ("__classdict__" : Str)) = false := by decide) (hdy : (y == ("__debug__" : Str)) = false := by decide)
    (h1 : starEach [.Name x p1, .Name y p2] X.env = (false, eval (.Name x p1) X.env) :: starEach [.Name y p2] X.env := by rfl) (h2 : starEach [.Name y p2] X.env = (false, eval (.Name y p2) X.env) :: starEach [] X.env := by rfl) (h3 : (backTo pos (starEach [.Name y p2] X.env)).any (·.1) = false := by rfl) :
    PE X (.Call (.Name "isinstance" p3) [.Name x p1, .Name y p2] [] pos) (tIs p.1 b) := by
  obtain ⟨Ca, hmy, hb⟩ := h
  exact is_cls (i := 0) nx.C nx.hp nx.hc nx.hd nx.hf nx.hN nx.hv nx.hg nx.hm hgy hmy hb hdb hcd hdy h1 h2 h3
theorem blt_by {T : String} (nx : NmX X x p D) (hmy : X.mg y = none) (hb : PySem.W.kitOne X.K (.ref D) (.type T) = some b) (hy : bootBuiltins y = some (.type T)) (hgy : Gl X y := by rfl) (hn : y ≠ "__name__" := by decide) (hdb : (x == ("__debug__" : Str)) = false := by decide) (hcd : (x == ("__classdict__" : Str)) = false := by decide) (hdy : (y == ("__debug__" : Str)) = false := by decide)
    (h1 : starEach [.Name x p1, .Name y p2] X.env = (false, eval (.Name x p1) X.env) :: starEach [.Name y p2] X.env := by rfl) (h2 : starEach [.Name y p2] X.env = (false, eval (.Name y p2) X.env) :: starEach [] X.env := by rfl) (h3 : (backTo pos (starEach [.Name y p2] X.env)).any (·.1) = false := by rfl) :
    PE X (.Call (.Name "isinstance" p3) [.Name x p1, .Name y p2] [] pos) (tIs p.1 b) :=
  is_blt (i := 0) nx.C nx.hp nx.hc nx.hd nx.hf nx.hN nx.hv nx.hg nx.hm hgy hmy hy hb hn hdb hcd hdy h1 h2 h3
end
/-- the name is told at the end, from a state of that kind -/
def tNm (H0 : Hp) (nm : Str) (P : St → Hp → Prop) : TS := fun D σ H => P σ H ∧ ∀ G, Same H0 G → D.rt (.str nm) G
theorem hts_cons {X : Cx} {st : Stmt} {r : List Stmt} {P R : St → Hp → Prop} {H0 : Hp} {nm : Str} (h : HT X st P R) (hr : PSs X r (tNm H0 nm R)) : PSs X (st :: r) (tNm H0 nm P) :=
  PSs_imp (pss_cons h hr) fun D σ H ⟨p, k⟩ => ⟨p, fun τ G r => ⟨r, k⟩⟩
theorem hts_end {X : Cx} {st : Stmt} {P : St → Hp → Prop} {H0 : Hp} {nm nm2 : Str} (h : PS X st (tNm H0 nm P)) (e : nm2 = nm) : PSs X [st] (tNm H0 nm2 P) := e ▸ pss_one h
theorem pxL {X : Cx} {A : Around} {outer : List Env} {s : Shared} {H : Hp} {E : XK} {sc : Scope} {f c' : Addr} : Passes (L2N.CX X.prog X.w) (lamC X A outer s H E sc f c') E := L2N.passes_call (L2N.takes_of rfl rfl rfl rfl) fun _ _ _ _ h => h
end Rc

/-! Rc: a lambda with parameters and without captured names, as data. -/
namespace Rc
open PySem PySem.Spec PyProof.Rows L2
/-! ### where a lambda stands in a text -/
inductive Nd where
  | s (x : Stmt)
  | e (x : Expr)
def Nd.kids : Nd → List Nd
  | .s (.FunctionDef _ _ b _ _ _ _ _ _ _) => b.map .s
  | .s (.For _ i b _ _) => .e i :: b.map .s
  | .s (.If t b _ _) => .e t :: b.map .s
  | .s (.While t b _ _) => .e t :: b.map .s
  | .s (.Return (some x) _) => [.e x]
  | .s (.Assign _ x _) => [.e x]
  | .s (.Expr x _) => [.e x]
  | .e (.Tuple es _ _) => es.map .e
  | .e (.List es _) => es.map .e
  | .e (.Call f es _ _) => .e f :: es.map .e
  | .e (.Compare l _ es _) => .e l :: es.map .e
  | .e (.BoolOp _ es _) => es.map .e
  | _ => []
def Nd.lam : List Nat → Nd → Option (Arguments × Expr × Scope)
  | [], .e (.Lambda a b c _) => some (a, b, c)
  | [], _ => none
  | i :: is, n => match n.kids[i]? with
    | some k => Nd.lam is k
    | none => none
variable [LamTbl]
/-- the lambda that stands at f keeps the promise of G -/
def LamOk (P : Program) (w : World) (K : PySem.W.Frag) (mg : Str → Option Value) (base : Heap) (L : Arguments × Expr × Scope) (n k : Nat) (G : AF) : Prop :=
  ∀ (A : Around) (outer : List Env) (s : Shared) (H : Hp) (f c' : Addr) (pm ctv : Value) (us : List Value) (vs : List V) (Q : VK) (E : XK), Room k A → Env0 P w K mg base A outer s H →
    s.heap.get? f = some (PySem.W.kla_obj "<lambda>" lamQ L.1 L.2.1 L.2.2 [] pm c' ctv) → H c' = some (LamX.CodeO c' lamQ) → Vals vs us → spOf K mg n G vs H Q E →
    codeAny (model P w) A (.call (.ref f) ⟨us, []⟩) (CR (L2N.CX P w) outer P w H s Q E) s
theorem Room.le {j k : Nat} {A : Around} (h : Room k A) (l : j ≤ k) : Room j A := h.mono l
theorem LamOk.mono {P : Program} {w : World} {K : PySem.W.Frag} {mg : Str → Option Value} {base : Heap} {L : Arguments × Expr × Scope} {n j k : Nat} {G : AF} (h : LamOk P w K mg base L n j G) (hj : j ≤ k) : LamOk P w K mg base L n k G :=
  fun A outer s H f c' pm ctv us vs Q E r => h A outer s H f c' pm ctv us vs Q E (r.mono hj)
section
variable {P : Program} {w : World} {K : PySem.W.Frag} {mg : Str → Option Value} {base : Heap}
/-- a lambda by its body -/
theorem lam_ok {ar : Arguments} {e : Expr} {sc : Scope} {N : List Str} {k : Nat} {m : M Sv} (S : FnScope N N sc)
    (hbind : ∀ (pm cv ctv : Value) (us : List Value), us.length = N.length → bindArgs (PySem.W.kla_fn "<lambda>" lamQ ar e sc [] pm cv ctv) ⟨us, []⟩ = pure (N.zip us))
    (h : ∀ (A : Around) (outer : List Env) (s : Shared) (H : Hp) (E : XK) (F : Fx) (f c' : Addr), Room k (A.deeper (envOfC lamQ sc s.heap.objs.size f (.ref c'))) → (∀ i, F.brw i = none) → AE (cxOf (L2N.CX P w) P w K mg base N lamQ sc f (.ref c') A outer s H E) F E e m) :
    LamOk P w K mg base (ar, e, sc) N.length (k + 1) (fn N.length [] (sRet m)) := by
  rintro A outer s H f c' pm ctv us vs Q E hr e0 lf hc r ⟨args, hn, hh, q⟩
  have lf : s.heap.get? f = some (PySem.W.kla_obj "<lambda>" lamQ ar e sc [] pm c' ctv) := lf
  have hl : vs.length = N.length := by rw [hh.len, hn]
  have KX : K.In s.heap := e0.mod.kin.keeps fun b o e => (e0.bs b o e).1
  have lim : s.heap.NoLimit := e0.mod.nolimit.keeps fun b o e => (e0.bs b o e).1
  have hkind : ∀ y ∈ N.zip us, sc.names.lookup y.1 = some .local ∨ (sc.names.lookup y.1 = some .cell ∧ ((cellsFrom (s.heap.objs.size + 1) sc.names []).lookup y.1).isSome = true) := fun ⟨n, v⟩ hy => by
    rcases S.par n (List.of_mem_zip hy).1 with q | q
    · exact .inl q
    · exact .inr ⟨q, PySem.W.cellsFrom_some _ _ _ (.inl q)⟩
  obtain ⟨⟨oc, vc, t, h1, h2, h3⟩, _, _⟩ := e0.hok c' _ hc
  refine PySem.W.kla_callFunE hr.depth lf rfl S.co S.gen rfl ⟨c', oc, vc, t, rfl, h1, h2, h3⟩ ?_
  rw [hbind _ _ _ _ (by rw [← r.length]; exact hl)]
  refine wpAny_pure (wpAny_newFunctionEnv_cells S.kind hkind fun env he s1 x => ?_)
  subst he
  refine ⟨lim.keeps x.toInCall.keep, ?_⟩
  show codeAny _ _ (.expr e (envOfC lamQ sc s.heap.objs.size f (.ref c'))) _ _
  have I : Inv (cxOf (L2N.CX P w) P w K mg base N lamQ sc f (.ref c') A outer s H E) [] (L2.start N vs) H s1 := inv_start S hr.hd e0 hl r x
  have hno : noOw [] 0 args = true := by
    cases z : noOw [] 0 args with
    | true => rfl
    | false => unfold fn at q; rw [if_neg (by rw [z]; exact Bool.false_ne_true)] at q; exact q.elim
  have hbr : ∀ i, brwOf args vs i = none := fun i => by
    cases z : brwOf args vs i with
    | none => rfl
    | some a =>
      obtain ⟨ds, e1, _⟩ := brwOf_some z
      exact absurd (noOw_get hno e1) (by simp)
  have nomut : ∀ (i : Nat) s, args[i]? = some s → isMut s = false := fun i s e => by
    cases s with
    | ow ds => exact absurd (noOw_get hno e) (by simp)
    | un => rfl
    | val d => rfl
    | dki _ => obtain ⟨ok, _⟩ := hh.at_ i _ e; cases ok
    | dkt _ => obtain ⟨ok, _⟩ := hh.at_ i _ e; cases ok
  have bk : ∀ {σ' : St} {H' : Hp} {S' : Sl}, RSt K mg ⟨H, brwOf args vs⟩ σ' H' S' → Back K mg H H' args (outsOf args.length S') vs := fun {σ' H' S'} r =>
    ⟨fun a o e t n => r.frame a o e t fun i z => absurd ((hbr i).symm.trans z) (by simp), r.tabs, r.dom, r.mono, fun i s e m => absurd ((nomut i s e).symm.trans m) (by decide), outsOf_len _ _⟩
  unfold fn at q
  rw [if_pos hno] at q
  unfold mkF sRet at q
  have go := (h A outer s H E ⟨H, brwOf args vs⟩ f c' (hr.deeper _) hbr).run [] s1 (L2.start N vs) H Q I
  refine PySem.W.kla_codeExpr (wpAny_mono (go ⟨args ++ List.replicate (N.length - args.length) Sv.un, rst_start (N := N) hh (by omega), ?_⟩) (fun v s' ⟨x, G', J', rv, q⟩ => ⟨x, G', J'.os, J'.bare, J'.base, J'.hok, rv, q⟩) fun _ _ q => q)
  cases em : m (args ++ List.replicate (N.length - args.length) Sv.un) with
  | no => rw [em] at q; exact q
  | ex x S1 =>
    rw [em] at q
    exact fun cls d H' r re => q cls d H' (bk r) re
  | ok v S1 =>
    rw [em] at q
    exact fun v' H' g rr => q v' H' (bk g.rst) rr
end
section
variable {X : Cx} {pins : List (Addr × Obj)} {σ : L2.St} {H : Hp} {s : Shared}
theorem lam_lay {f c' : Addr} {ar : Arguments} {e : Expr} {sc : Scope} {pm ctv : Value} {tk : Nat} {h' : Heap} (I : Inv X pins σ H s) (le : s.heap.objs.size ≤ f) (k : ∀ b u, s.heap.get? b = some u → h'.get? b = some u) (lf : h'.get? f = some (PySem.W.kla_obj "<lambda>" lamQ ar e sc [] pm c' ctv)) :
    Inv X pins σ (upd H f (LamO f c' (ar, e, sc))) { s with heap := h', toks := tk } :=
  I.laid k le ⟨⟨pm, ctv, lf⟩, ⟨_, lf⟩, fun h1 h2 ⟨p1, p2, a⟩ st => ⟨p1, p2, st _ a⟩⟩
theorem lam_mkP {c P : Addr} {ar : Arguments} {body : Expr} {sc : Scope} {lp : Pos} {EX R : Value → Shared → Prop} (I : Inv X pins σ H s) (TB : LamX.TabB X.base X.mg c P) (hcode : X.env.code = .ref c) (hq : X.env.qual ++ "<lambda>" = lamQ) (hT : LamX.TabS H P lamQ) (hdef : defaultsOf ar X.env = ([], []))
    (hfree : ∀ y ∈ sc.names, y.2 = .free → ∃ c, X.env.cells.lookup y.1 = some c) (hcl : cloFrom X.env.cells sc.names [] = [])
    (k : ∀ (f c' : Addr) (G : Hp) (s2 : Shared), Inv X pins σ (upd G f (LamO f c' (ar, body, sc))) s2 → Made P lamQ H G → LamX.TabS G P lamQ → G f = none → G c' = some (LamX.CodeO c' lamQ) → R (.ref f) s2) :
    wpAny (model X.prog X.w) X.A (eval (.Lambda ar body sc lp) X.env) R EX s := by
  obtain ⟨ps, tP, tt, ta⟩ := id hT
  have oP := I.hok P _ tP
  refine PySem.W.kla_eval hdef ?_
  rw [hq]
  have hclo := L2.closure_ok hfree
  rw [hcl] at hclo
  cases am : codeAmong lp ps.toList with
  | some cv =>
    obtain ⟨c', rfl, co⟩ := ta lp _ am
    refine PySem.W.kla_makeFunctionHit (c := c) (P := P) (mg := X.mg) (ps := ps) hclo I.ok.glob (I.mod.glob.keeps I.bk) hcode (TB.code.keeps I.bk) oP tt am (TB.bm.keeps I.bk) fun ct1 hh tk st le => ?_
    exact k hh.objs.size c' H _ (lam_lay I le (fun b o e => Heap.get?_push_of_some _ (st b o e)) (Heap.get?_push_size _ rfl)) (.inl rfl) hT (I.hok.fresh le) co
  | none =>
    refine PySem.W.kla_makeFunction (c := c) (P := P) (mg := X.mg) (ps := ps) hclo I.ok.glob (I.mod.glob.keeps I.bk) hcode (TB.code.keeps I.bk) oP tt am TB.gP (TB.bm.keeps I.bk) fun c' ct1 hh tk st ge lt rec tb => ?_
    obtain ⟨c2, oc, vs, t, e2, o1, o2, o3⟩ := rec
    cases e2
    have le : s.heap.objs.size ≤ hh.objs.size := Nat.le_trans ge (Nat.le_of_lt lt)
    have nC : H c' = none := I.hok.fresh ge
    have J := LamX.inv_table (t' := tk) (q := lamQ) (more := #[rawInt lp.line, rawInt lp.col, .ref c']) (h' := hh) I tP (fun b o nb e => st b o nb e) tb ge ⟨oc, vs, t, o1, o2, o3⟩
    refine k hh.objs.size c' _ _ (lam_lay (s := { s with heap := hh, toks := tk }) (tk := tk) J (Nat.le_refl _) (fun b o e => Heap.get?_push_of_some _ e) (Heap.get?_push_size _ rfl)) (.inr ⟨c', _, nC, rfl⟩) ⟨_, by rw [upd_ne (ne_of_none tP nC), upd_same], ?_, fun p2 v2 h2 => ?_⟩ (J.hok.fresh (Nat.le_refl _)) upd_same
    · rw [Array.toList_append]
      exact PySem.TriplesOk_snoc _ _ _ _ tt
    · rw [Array.toList_append] at h2
      refine (LamX.among_app _ tt h2).elim (fun z => ?_) fun z => ⟨c', z, upd_same⟩
      obtain ⟨c0, b1, b2⟩ := ta p2 v2 z
      refine ⟨c0, b1, ?_⟩
      rw [upd_ne (ne_of_none b2 nC), upd_ne]
      · exact b2
      · rintro rfl
        rw [tP] at b2
        exact LamX.codeO_ne _ (Option.some.inj b2).symm
/-- a lambda among the doors, as data -/
abbrev lamD (x : Str) : D := .dict [(.str x, .bool true)]
theorem a_lam {F : Fx} {E : XK} {c P : Addr} {ar : Arguments} {body : Expr} {sc : Scope} {lp : Pos} (tag : Str) (hP : LamX.TabS F.H0 P lamQ) (TB : LamX.TabB X.base X.mg c P) (hcode : X.env.code = .ref c) (hT : LamTbl.f tag = some (ar, body, sc)) (hdef : defaultsOf ar X.env = ([], []) := by rfl)
    (hcl : (sc.names.all fun y => !decide (y.2 = .free)) = true := by decide +kernel) (hq : X.env.qual ++ "<lambda>" = lamQ := by rfl) : AE X F E (.Lambda ar body sc lp) (eLit (lamD tag)) := by
  have nf : ∀ y ∈ sc.names, y.2 ≠ .free := fun y hy z => by
    have := List.all_eq_true.mp hcl y hy
    rw [z] at this
    simp at this
  have cl : ∀ (l : List (Str × NameKind)) (a : List (Str × Addr)), (∀ y ∈ l, y.2 ≠ .free) → cloFrom X.env.cells l a = a := by
    intro l
    induction l with
    | nil => intro a _; rfl
    | cons y l ih =>
      intro a hl
      obtain ⟨y1, y2⟩ := y
      have h0 := hl (y1, y2) List.mem_cons_self
      unfold cloFrom
      cases y2 <;> first | exact absurd rfl h0 | exact ih a fun z hz => hl z (List.mem_cons_of_mem _ hz)
  refine ⟨fun pins s σ H Q I ⟨S, st, q⟩ => lam_mkP I TB hcode hq (st.tabs P hP) hdef (fun y hy z => absurd z (nf y hy)) (cl _ _ nf) fun f c' G s2 J md T1 hn hco => ?_⟩
  have gr : Grew H G := md.grew rfl (st.tabs P hP) T1
  have sm : Same G (upd G f (LamO f c' (ar, body, sc))) := fun b o e => by rw [upd_ne (ne_of_none e hn)]; exact e
  have go := Go.grew st gr (Go.of_same (st.grew gr) sm)
  exact ⟨.ref f, _, J, rfl, q (.ref f) _ go (.inr (.inl ⟨tag, f, c', (ar, body, sc), rfl, hT, rfl, upd_same, sm _ _ hco⟩))⟩
end
end Rc

/-! Rc: defs as data: a local name that holds one is called. -/
namespace Rc
open PySem PySem.Spec PyProof.Rows L2
variable [LamTbl]
abbrev fnD (x : Str) : D := .dict [(.str x, .none)]
/-- a def, or a lambda that stands in the table -/
def fnNm (tbl lam : Str → Option AF) : D → Option AF
  | .dict [(.str x, .none)] => tbl x
  | .dict [(.str x, .bool true)] => lam x
  | _ => none
def pickV (tbl lam : Str → Option AF) (i : Nat) : Sl → Option AF := fun S => match S[i]? with
  | some (.val d) => fnNm tbl lam d
  | _ => none
def eCallP (pick : Sl → Option AF) (as : List Am) : M Sv := fun S => match pick S with
  | some F => eCall F as S
  | none => .no
def eTryP (nms : Str → Option Str) (pick : Sl → Option AF) (as : List Am) : M Sv := fun S => match pick (S.map hd) with
  | some F => eTryC nms F as S
  | none => .no
theorem tryP_le {nms : Str → Option Str} {pick : Sl → Option AF} {as : List Am} (S : Sl) : eTryP nms pick as S = .no ∨ eTryP nms pick as S = eTry nms (eFz (eCallP pick as)) S := by
  unfold eTryP
  cases e : pick (S.map hd) with
  | none => exact .inl rfl
  | some F =>
    refine (tryC_le (nms := nms) (F := F) (as := as) S).imp id fun h => h.trans ?_
    have z : eFz (eCallP pick as) (S.map hd) = eFz (eCall F as) (S.map hd) := by
      unfold eFz eCallP
      rw [e]
    unfold eTry
    rw [z]
section
variable {X : Cx} {F : Fx} {E : XK} {pos p : Pos} {x y : Str} {i n k : Nat}
/-- the name of a def, as data -/
theorem a_fnD (hg : Gl X x) (hm : ∃ a, X.mg x = some (.ref a)) (hdb : (x == ("__debug__" : Str)) = false := by decide) : AE X F E (.Name x pos) (eLit (fnD x)) := by
  obtain ⟨a, hm⟩ := hm
  exact PE_imp (pe_glob (v := .ref a) hg hm rfl hdb) fun σ H Q ⟨S, st, q⟩ => q (.ref a) H (Go.refl st) (.inl ⟨x, a, rfl, hm, rfl⟩)
def DoorT (X : Cx) (n k : Nat) (tbl : Str → Option AF) : Prop := ∀ x G, tbl x = some G → Has X.prog X.w X.K X.mg X.base x n k G
def LamT (X : Cx) (n k : Nat) (lam : Str → Option AF) : Prop := ∀ x G, lam x = some G → ∃ L, LamTbl.f x = some L ∧ LamOk X.prog X.w X.K X.mg X.base L n k G
theorem LamT.no {X : Cx} {n k : Nat} : LamT X n k (fun _ => none) := fun _ _ h => by cases h
theorem tOfA_with {K : PySem.W.Frag} {mg : Str → Option Value} {F : Fx} {E : XK} {as : List Am} {σ : St} {H : Hp} {Q : List V → Hp → Prop} (h : tOfA K mg F E as σ H Q) : tOfA K mg F E as σ H fun vs G => Mono H G ∧ Q vs G := by
  obtain ⟨S, st, q⟩ := h
  refine ⟨S, st, ?_⟩
  cases e : evA as S with
  | no => rw [e] at q; exact q
  | ex x S1 => rw [e] at q; exact q
  | ok ls S1 =>
    rw [e] at q
    exact fun vs G g r => ⟨g.mono st, q vs G g r⟩
theorem a_callP {tbl lam : Str → Option AF} {e : Expr} {es : List Expr} {as : List Am} (hh : DoorT X n k tbl) (hL : LamT X n k lam) (hr : Room k X.A) (hN : X.N[i]? = some y) (hv : Vis X.env.scope y) (hx : Passes (L2N.CX X.prog X.w) X E) (ha : AA X F E (e :: es) as) (hl : as.length = n := by rfl) (nd : (bIdx as).Nodup := by decide)
    (hd : (y == ("__debug__" : Str)) = false := by decide) (hcd : (y == ("__classdict__" : Str)) = false := by decide) (he : starEach (e :: es) X.env = (false, eval e X.env) :: starEach es X.env := by rfl) (hpl : (backTo pos (starEach es X.env)).any (·.1) = false := by rfl) :
    AE X F E (.Call (.Name y p) (e :: es) [] pos) (eCallP (pickV tbl lam i) as) := by
  refine ⟨fun pins s σ H Q I ⟨S, st, q⟩ => ?_⟩
  unfold eCallP at q
  cases pk : pickV tbl lam i S with
  | none => rw [pk] at q; exact q.elim
  | some G =>
    rw [pk] at q
    unfold pickV at pk
    cases eS : S[i]? with
    | none => rw [eS] at pk; cases pk
    | some sv =>
      rw [eS] at pk
      cases sv with
      | val d =>
        have pk : fnNm tbl lam d = some G := pk
        obtain ⟨v, ev, rv⟩ := st.at_ i _ eS
        unfold fnNm at pk
        split at pk
        · rename_i x _
          obtain ⟨x', a, e1, hm, rfl⟩ : ∃ (x' : Str) (a : Addr), [(PyData.str x, PyData.none)] = [(PyData.str x', PyData.none)] ∧ X.mg x' = some (.ref a) ∧ v = .ref a := by
            rcases rv with rv | ⟨_, _, _, _, e, _⟩ | ⟨_, _, _, _, _, u, _⟩
            · exact rv
            · simp at e
            · cases u
          cases e1
          obtain ⟨f, fd, ps, h1, h2, h3, h4, h5⟩ := hh x G pk
          rw [hm] at h1
          cases h1
          have base := (pe_var (pos := p) hN hv hd hcd).run pins s σ H (fun v G => v = .ref a ∧ G = H) I ⟨.ref a, ev, rfl, rfl⟩
          refine wpAny_Call_Name_kw (thn base fun u t ⟨v, H1, J, ru, ev, eG⟩ => ?_)
          subst ev eG
          obtain rfl : u = Value.ref a := ru
          have h := call_imp (K := X.K) (mg := X.mg) (F := F) (E := E) (G := G) (as := as) hl nd σ H1 Q ⟨S, st, q⟩
          refine PySem.W.callWith_K (h₀ := X.base) J.ok.mod.kin h2 (thn (ha.run pos pins t σ H1 _ J h) fun us s1 ⟨vs, H2, I1, r, q⟩ => ⟨I1.kIn, ?_⟩) he hpl
          exact run_fn h5 hr h3 .nil hx I1 r q
        · rename_i x _
          obtain ⟨x', a, c, L, e1, hT, rfl, ea, ec⟩ : ∃ (x' : Str) (a c : Addr) (L : Arguments × Expr × Scope), [(PyData.str x, PyData.bool true)] = [(PyData.str x', PyData.bool true)] ∧ LamTbl.f x' = some L ∧ v = .ref a ∧ H a = some (LamO a c L) ∧ H c = some (LamX.CodeO c lamQ) := by
            rcases rv with ⟨_, _, e, _⟩ | ⟨x', a, c, L, h⟩ | ⟨_, _, _, _, _, u, _⟩
            · simp at e
            · exact ⟨x', a, c, L, h⟩
            · cases u
          cases e1
          obtain ⟨L2, h1, hok⟩ := hL x G pk
          rw [hT] at h1
          cases h1
          have base := (pe_var (pos := p) hN hv hd hcd).run pins s σ H (fun v G => v = .ref a ∧ G = H) I ⟨.ref a, ev, rfl, rfl⟩
          refine wpAny_Call_Name_kw (thn base fun u t ⟨v, H1, J, ru, ev, eG⟩ => ?_)
          subst ev eG
          obtain rfl : u = Value.ref a := ru
          have h := tOfA_with (call_imp (K := X.K) (mg := X.mg) (F := F) (E := E) (G := G) (as := as) hl nd σ H1 Q ⟨S, st, q⟩)
          have at_ : ∀ {G : Hp} {s1 : Shared}, Inv X pins σ G s1 → G a = some (LamO a c L) → ∃ pm ctv, s1.heap.get? a = some (PySem.W.kla_obj "<lambda>" lamQ L.1 L.2.1 L.2.2 [] pm c ctv) := fun J e => by
            obtain ⟨h, _, _⟩ := J.hok a _ e
            exact h
          obtain ⟨pm0, ct0, l0⟩ := at_ J ea
          refine PySem.W.callWith_F ⟨_, _, _, _, l0⟩ (thn (ha.run pos pins t σ H1 _ J h) fun us s1 ⟨vs, H2, I1, r, mo, q⟩ => ?_) he hpl
          obtain ⟨pm, ctv, lf⟩ := at_ I1 (mo.2.2 _ _ ea)
          refine ⟨⟨_, _, _, _, lf⟩, ?_⟩
          rw [List.append_nil] at q
          refine wpAny_call (codeAny_mono (hok X.A X.stack s1 H2 a c pm ctv us vs Q E hr I1.env0 lf (mo.2.2 _ _ ec) r q) fun r s' hq => ?_)
          cases r with
          | error e => exact hx pins σ H2 s1 e s' I1 hq
          | ok fl =>
            cases fl with
            | ret u => exact I1.after hq
            | next => exact False.elim hq
            | brk => exact False.elim hq
            | cont => exact False.elim hq
        · cases pk
      | _ => cases pk
end
/-! ### how it runs -/
section
variable {S : Sl} {Q : Sv → Sl → Prop} {tbl lam : Str → Option AF} {i : Nat} {as : List Am} {nms : Str → Option Str}
def fpk (tbl lam : Str → Option AF) (s : Sv) (k : AF → Prop) : Prop := match s with
  | .val d => (match fnNm tbl lam d with
    | some F => k F
    | none => False)
  | _ => False
theorem fpk_f {x : Str} {F : AF} {k : AF → Prop} (h : tbl x = some F) : fpk tbl lam (.val (fnD x)) k = k F := by
  show (match tbl x with | some F => k F | none => False) = _
  rw [h]
theorem fpk_l {x : Str} {F : AF} {k : AF → Prop} (h : lam x = some F) : fpk tbl lam (.val (lamD x)) k = k F := by
  show (match lam x with | some F => k F | none => False) = _
  rw [h]
theorem pick_eq {k : AF → Prop} : (match pickV tbl lam i S with | some F => k F | none => False) = sg S i fun s => fpk tbl lam s k := by
  rw [sg_iff]
  unfold pickV fpk
  cases S[i]? with
  | none => simp
  | some s => cases s <;> simp
theorem Ok_callP : Ok (eCallP (pickV tbl lam i) as S) Q = sg S i fun s => fpk tbl lam s fun F => Ok (eCall F as S) Q := by
  rw [← pick_eq]
  unfold eCallP
  cases pickV tbl lam i S with
  | none => exact Ok_no
  | some F => rfl
theorem Ok_tryP : Ok (eTryP nms (pickV tbl lam i) as S) Q = sg (S.map hd) i fun s => fpk tbl lam s fun F => Ok (eTryC nms F as S) Q := by
  rw [← pick_eq]
  unfold eTryP
  cases pickV tbl lam i (S.map hd) with
  | none => exact Ok_no
  | some F => rfl
end
end Rc

/-! Rc: a text in a list or tuple of texts; is True, is False; a tuple of texts that the module holds. -/
namespace Rc
open PySem PySem.Spec PyProof.Rows L2
variable [LamTbl]
section
variable {K : PySem.W.Frag} {mg : Str → Option Value} {H : Hp}
theorem asStrs_eq : ∀ {ds : List D} {ss : List Str}, asStrs ds = some ss → ds = ss.map PyData.str
  | [], ns, e => by cases e; rfl
  | d :: ds, ns, e => by
    cases d with
    | str i =>
      cases q : asStrs ds with
      | none => simp [asStrs, q] at e
      | some ms =>
        simp [asStrs, q] at e
        subst e
        rw [asStrs_eq q]
        rfl
    | _ => simp [asStrs] at e
theorem RepL.strs : ∀ {ss : List Str} {xs : List V}, RepL K mg H (ss.map PyData.str) xs → xs = ss.map V.str
  | [], _, h => h
  | n :: ns, _, h => by
    obtain ⟨v, vs, e, r, rs⟩ := h
    rw [e, show v = _ from r, RepL.strs rs]
    rfl
theorem repL_strs : ∀ l : List Str, RepL K mg H (l.map PyData.str) (l.map V.str)
  | [] => rfl
  | _ :: l => ⟨_, _, rfl, rfl, repL_strs l⟩
theorem inV_strs (x : Str) (ss : List Str) : inV (.str x) (ss.map V.str) = ss.any fun y => y == x := by
  unfold inV
  rw [List.any_map]
  rfl
theorem flat_strs (ss : List Str) : (ss.map V.str).all flatV = true := by simp [flatV]
theorem seq_strs {c : D} {v : V} {ss : List Str} (h : (dSeq c).bind asStrs = some ss) (r : RepW K mg H c v) : ∃ p, v = .ref p ∧ (SqL K H p (ss.map V.str) ∨ SqT K H p (ss.map V.str)) := by
  cases c with
  | list ds =>
    have h : asStrs ds = some ss := h
    obtain ⟨a, xs, rfl, s, r⟩ := r.list
    rw [asStrs_eq h] at r
    rw [← RepL.strs r]
    exact ⟨a, rfl, .inl s.sq⟩
  | tuple ds =>
    have h : asStrs ds = some ss := h
    obtain ⟨a, xs, rfl, s, r⟩ := r.tuple
    rw [asStrs_eq h] at r
    rw [← RepL.strs r]
    exact ⟨a, rfl, .inr s⟩
  | _ => cases h
theorem op2_in : Op2 K mg dIn (rIn K false) := by
  intro H x y d e res Q hf hx hy q
  cases d with
  | str z =>
    have hf : (((dSeq e).bind asStrs).map fun ss => Sv.val (.bool (ss.any fun y => y == z))) = some res := hf
    cases hs : (dSeq e).bind asStrs with
    | none => rw [hs] at hf; cases hf
    | some ss =>
      rw [hs] at hf
      cases hf
      obtain ⟨p, rfl, hq⟩ := seq_strs hs hy
      rw [hx.str]
      refine ⟨p, _, rfl, hq, rfl, flat_strs ss, ?_⟩
      rw [inV_strs]
      exact q _ H (Same.refl H) rfl
  | _ => cases hf
theorem op2_nin : Op2 K mg dNotIn (rIn K true) := by
  intro H x y d e res Q hf hx hy q
  cases d with
  | str z =>
    have hf : (((dSeq e).bind asStrs).map fun ss => Sv.val (.bool (!ss.any fun y => y == z))) = some res := hf
    cases hs : (dSeq e).bind asStrs with
    | none => rw [hs] at hf; cases hf
    | some ss =>
      rw [hs] at hf
      cases hf
      obtain ⟨p, rfl, hq⟩ := seq_strs hs hy
      rw [hx.str]
      refine ⟨p, _, rfl, hq, rfl, flat_strs ss, ?_⟩
      rw [inV_strs]
      exact q _ H (Same.refl H) rfl
  | _ => cases hf
theorem op1_isB (b : Bool) : Op1 K mg (dIsB b) (fun x H Q => ∃ a c, x = .bl a ∧ V.bl b = .bl c ∧ Q (.bl (decide (a = c))) H) := by
  intro H x d res Q hf hx q
  cases d with
  | bool c =>
    cases hf
    refine ⟨c, b, hx.bool, rfl, ?_⟩
    have e : decide (c = b) = (c == b) := by cases c <;> cases b <;> rfl
    rw [e]
    exact q _ H (Same.refl H) rfl
  | _ => cases hf
theorem op1_isNB (b : Bool) : Op1 K mg (dIsNB b) (fun x H Q => ∃ a c, x = .bl a ∧ V.bl b = .bl c ∧ Q (.bl (!decide (a = c))) H) := by
  intro H x d res Q hf hx q
  cases d with
  | bool c =>
    cases hf
    refine ⟨c, b, hx.bool, rfl, ?_⟩
    have e : decide (c = b) = (c == b) := by cases c <;> cases b <;> rfl
    rw [e]
    exact q _ H (Same.refl H) rfl
  | _ => cases hf
end
section
variable {X : Cx} {F : Fx} {E : XK} {pos p p2 : Pos} {a b : Expr} {oa ob : Od} {x : Str} {j}
theorem c_in (ha : AO X F E a oa) (hb : AO X F E b ob) (hm : behindInMarks .In b = false := by rfl) : AE X F E (.Compare a [.In] [b] pos) (eOp2 dIn oa ob) := a_cmp op_in_seq op2_in ha hb hm
theorem c_nin (ha : AO X F E a oa) (hb : AO X F E b ob) (hm : behindInMarks .NotIn b = false := by rfl) : AE X F E (.Compare a [.NotIn] [b] pos) (eOp2 dNotIn oa ob) := a_cmp op_notIn_seq op2_nin ha hb hm
theorem t_in (ha : AO X F E a oa) (hb : AO X F E b ob) (hm : behindInMarks .In b = false := by rfl) : AT X F E (.Compare a [.In] [b] pos) (Rc.tB (eOp2 dIn oa ob)) := at_cmp op_in_seq op2_in ha hb hm
theorem t_nin (ha : AO X F E a oa) (hb : AO X F E b ob) (hm : behindInMarks .NotIn b = false := by rfl) : AT X F E (.Compare a [.NotIn] [b] pos) (Rc.tB (eOp2 dNotIn oa ob)) := at_cmp op_notIn_seq op2_nin ha hb hm
theorem c_isB {c : Bool} (ha : AO X F E a oa) : AE X F E (.Compare a [.Is] [.Constant (.bool c) j p2] pos) (eOp1 (dIsB c) oa) := PE_imp (pe_cmpR op_is_bl ha pe_bl (nomark _)) (imp1 (op1_isB c) oa)
theorem c_isNB {c : Bool} (ha : AO X F E a oa) : AE X F E (.Compare a [.IsNot] [.Constant (.bool c) j p2] pos) (eOp1 (dIsNB c) oa) := PE_imp (pe_cmpR op_isnot_bl ha pe_bl (nomark _)) (imp1 (op1_isNB c) oa)
theorem t_isB {c : Bool} (ha : AO X F E a oa) : AT X F E (.Compare a [.Is] [.Constant (.bool c) j p2] pos) (Rc.tB (eOp1 (dIsB c) oa)) := PT_imp (pt_cmpR op_is_bl ha pe_bl (nomark _)) (tB_imp (imp1 (op1_isB c) oa))
theorem t_isNB {c : Bool} (ha : AO X F E a oa) : AT X F E (.Compare a [.IsNot] [.Constant (.bool c) j p2] pos) (Rc.tB (eOp1 (dIsNB c) oa)) := PT_imp (pt_cmpR op_isnot_bl ha pe_bl (nomark _)) (tB_imp (imp1 (op1_isNB c) oa))
/-- a tuple of texts that the module holds -/
structure TxC (K : PySem.W.Frag) (mg : Str → Option Value) (x : Str) (ss : List Str) : Prop where
  ex : ∃ a, mg x = some (.ref a) ∧ ∃ (o : Obj) (its : Array Value) (n : Nat), K.lookup a = some o ∧ o.cls = .type "tuple" ∧ o.data = .seq its n ∧ its.size ≤ sizeLine ∧ Vals (ss.map V.str) its.toList
theorem f_gTx {ss : List Str} (T : TxC X.K X.mg x ss) (hg : Gl X x := by rfl) (hd : (x == ("__debug__" : Str)) = false := by decide) : AE X F E (.Name x pos) (eLit (.tuple (ss.map PyData.str))) := by
  obtain ⟨a, hm, k⟩ := T.ex
  exact a_lit (pe_glob (v := .ref a) hg hm rfl hd) fun H => ⟨a, ss.map V.str, rfl, .inr k, repL_strs ss⟩
end
end Rc

/-! Rc: dicts of one's own with ints as keys. -/
namespace Rc
open PySem PySem.Spec PyProof.Rows L2
variable [LamTbl]

/-! ### tables as they lie -/
section
variable {K : PySem.W.Frag} {mg : Str → Option Value} {H : Hp}
abbrev TabR (K : PySem.W.Frag) (mg : Str → Option Value) (H : Hp) (kvs : List (Int × D)) (ks : List (L2.Key × V)) : Prop :=
  ks.map (·.1) = kvs.map (fun p => Sum.inl p.1) ∧ RepL K mg H (kvs.map (·.2)) (ks.map (·.2))
theorem TabR.cons {p : Int × D} {kvs : List (Int × D)} {ks : List (L2.Key × V)} (h : TabR K mg H (p :: kvs) ks) : ∃ v r, ks = (.inl p.1, v) :: r ∧ Rep K mg H p.2 v ∧ TabR K mg H kvs r := by
  cases ks with
  | nil => exact absurd h.1 (by simp)
  | cons q r =>
    obtain ⟨q1, q2⟩ := q
    obtain ⟨v, vs, e, rv, rs⟩ := h.2
    have h1 := h.1
    simp only [List.map_cons, List.cons.injEq] at h1 e
    obtain ⟨e1, e2⟩ := e
    refine ⟨q2, r, by rw [h1.1], by rw [e1]; exact rv, h1.2, by rw [e2]; exact rs⟩
theorem TabR.nil {ks : List (L2.Key × V)} (h : TabR K mg H [] ks) : ks = [] := by
  cases ks with
  | nil => rfl
  | cons q r => exact absurd h.1 (by simp)
theorem TabR.mk {p : Int × D} {v : V} {kvs : List (Int × D)} {ks : List (L2.Key × V)} (hv : Rep K mg H p.2 v) (h : TabR K mg H kvs ks) : TabR K mg H (p :: kvs) ((.inl p.1, v) :: ks) :=
  ⟨by simp only [List.map_cons, h.1], v, _, rfl, hv, h.2⟩
theorem TabR.len {kvs : List (Int × D)} {ks : List (L2.Key × V)} (h : TabR K mg H kvs ks) : ks.length = kvs.length := by
  have := congrArg List.length h.1
  simpa using this
theorem TabR.look : ∀ {kvs : List (Int × D)} {ks : List (L2.Key × V)}, TabR K mg H kvs ks → ∀ n : Int, (lookD kvs n = none ∧ valV ks (Sum.inl n) = none) ∨ ∃ d v, lookD kvs n = some d ∧ valV ks (Sum.inl n) = some v ∧ Rep K mg H d v
  | [], ks, h, n => by
    rw [h.nil]
    exact .inl ⟨rfl, rfl⟩
  | p :: kvs, ks, h, n => by
    obtain ⟨v, r, rfl, rv, hr⟩ := h.cons
    by_cases e : p.1 = n
    · refine .inr ⟨p.2, v, ?_, valV_pos (p := (Sum.inl p.1, v)) (by rw [e]), rv⟩
      unfold lookD
      rw [List.find?_cons_of_pos (by simpa using e)]
      rfl
    · have e1 : valV ((Sum.inl p.1, v) :: r) (Sum.inl n : L2.Key) = valV r (Sum.inl n) := valV_neg (p := (Sum.inl p.1, v)) fun z => e (Sum.inl.inj z)
      have e2 : lookD (p :: kvs) n = lookD kvs n := by
        unfold lookD
        rw [List.find?_cons_of_neg (by simpa using e)]
      rw [e1, e2]
      exact TabR.look hr n
theorem TabR.any : ∀ {kvs : List (Int × D)} {ks : List (L2.Key × V)}, TabR K mg H kvs ks → ∀ n : Int, (ks.any fun kv => decide (kv.1 = Sum.inl n)) = hasD kvs n
  | [], ks, h, n => by rw [h.nil]; rfl
  | p :: kvs, ks, h, n => by
    obtain ⟨v, r, rfl, rv, hr⟩ := h.cons
    unfold hasD
    rw [List.any_cons, List.any_cons, TabR.any hr n]
    have : decide ((Sum.inl p.1 : L2.Key) = Sum.inl n) = decide (p.1 = n) := by
      by_cases e : p.1 = n
      · simp [e]
      · rw [decide_eq_false e, decide_eq_false fun z => e (Sum.inl.inj z)]
    rw [this]
    rfl
theorem TabR.map (n : Int) {d : D} {v : V} (hv : Rep K mg H d v) : ∀ {kvs : List (Int × D)} {ks : List (L2.Key × V)}, TabR K mg H kvs ks → TabR K mg H (kvs.map fun p => if p.1 = n then (p.1, d) else p) (ks.map fun kv => if kv.1 = Sum.inl n then (kv.1, v) else kv)
  | [], ks, h => by rw [h.nil]; exact ⟨rfl, rfl⟩
  | p :: kvs, ks, h => by
    obtain ⟨w, r, rfl, rw', hr⟩ := h.cons
    rw [List.map_cons, List.map_cons]
    by_cases e : p.1 = n
    · rw [if_pos e, if_pos (by rw [e])]
      exact TabR.mk (p := (p.1, d)) hv (TabR.map n hv hr)
    · rw [if_neg e, if_neg fun z => e (Sum.inl.inj z)]
      exact TabR.mk rw' (TabR.map n hv hr)
theorem TabR.put {kvs : List (Int × D)} {ks : List (L2.Key × V)} (h : TabR K mg H kvs ks) (n : Int) {d : D} {v : V} (hv : Rep K mg H d v) : TabR K mg H (putD kvs n d) (L2.putK ks (Sum.inl n) v) := by
  unfold putD L2.putK
  rw [TabR.any h n]
  by_cases e : hasD kvs n = true
  · rw [if_pos e, if_pos e]
    exact TabR.map n hv h
  · rw [if_neg e, if_neg e]
    refine ⟨by simp [h.1], ?_⟩
    rw [List.map_append, List.map_append]
    exact RepL.append h.2 (RepL.one hv)
theorem dK_ne {ks : List (L2.Key × V)} {a : Addr} (q : Str) : HO.dK ks ≠ LamX.CodeO a q := fun z => by unfold LamX.CodeO at z; cases z
end
/-- a dict of one's own is changed -/
theorem RSt.writeK {K : PySem.W.Frag} {mg : Str → Option Value} {F : Fx} {σ : St} {S : Sl} {H : Hp} {i : Nat} {a : Addr} {kvs nvs : List (Int × D)} {ks : List (L2.Key × V)} (st : RSt K mg F σ H S) (e : S[i]? = some (.dki kvs)) (ea : σ[i]? = some (some (.ref a))) (rp : Mono H (upd H a (.dK ks)) → TabR K mg (upd H a (.dK ks)) nvs ks) :
    RSt K mg F σ (upd H a (.dK ks)) (S.set i (.dki nvs)) ∧ Mono H (upd H a (.dK ks)) := by
  have ow : Owns σ S a := ⟨i, _, e, rfl, ea⟩
  have hi : i < S.length := (List.getElem?_eq_some_iff.mp e).1
  obtain ⟨b, xs, e1, eH, rl⟩ := st.at_ i _ e
  rw [ea] at e1
  cases e1
  have tb : TbM H (upd H a (.dK ks)) := TbM.upd eH nT.dK dK_ne
  have keep : Keep σ S H (upd H a (.dK ks)) := ⟨fun b u h _ n => by
    rw [upd_ne (show b ≠ a from fun z => n (z ▸ ow))]
    exact h, tb⟩
  have mo : Mono H (upd H a (.dK ks)) := st.keep_mono keep
  have dm : ∀ b, H b ≠ none → upd H a (.dK ks) b ≠ none := fun b n => by
    by_cases hb : b = a
    · rw [hb, upd_same]; exact fun z => by cases z
    · rw [upd_ne hb]; exact n
  have at2 : ∀ (j : Nat) s, (S.set i (.dki nvs))[j]? = some s → (j = i ∧ s = .dki nvs) ∨ (j ≠ i ∧ S[j]? = some s) := fun j s q => by
    by_cases hj : j = i
    · rw [hj, List.getElem?_set_self hi] at q
      exact .inl ⟨hj, (Option.some.inj q).symm⟩
    · rw [List.getElem?_set_ne (Ne.symm hj)] at q
      exact .inr ⟨hj, q⟩
  have old : ∀ (j : Nat) s, (S.set i (.dki nvs))[j]? = some s → isMut s = true → ∃ t, S[j]? = some t ∧ isMut t = true := fun j s q m => by
    rcases at2 j s q with ⟨rfl, rfl⟩ | ⟨_, q⟩
    · exact ⟨_, e, rfl⟩
    · exact ⟨s, q, m⟩
  refine ⟨⟨by rw [List.length_set]; exact st.len, fun j s q => ?_, fun j k s t b q1 q2 m1 m2 e1 e2 => ?_, fun j s b q m e1 => ?_, fun j b q => ?_, fun b u q t n => ?_, fun b n => dm b (st.dom b n), st.mono.trans mo, st.tabs.trans tb⟩, mo⟩
  · rcases at2 j s q with ⟨rfl, rfl⟩ | ⟨hj, q⟩
    · exact ⟨a, ks, ea, upd_same, (rp mo).1, (rp mo).2⟩
    · refine (st.at_ j s q).mono mo fun b m e1 => ?_
      rw [upd_ne]
      rintro rfl
      exact hj (st.inj j i s _ _ q e m rfl e1 ea)
  · obtain ⟨s', g1, n1⟩ := old j s q1 m1
    obtain ⟨t', g2, n2⟩ := old k t q2 m2
    exact st.inj j k s' t' b g1 g2 n1 n2 e1 e2
  · obtain ⟨s', g1, n1⟩ := old j s q m
    exact st.ownd j s' b g1 n1 e1
  · obtain ⟨h1, h2, fs, h3⟩ := st.lent j b q
    refine ⟨h1, h2, ?_⟩
    by_cases hj : j = i
    · rw [hj, e] at h3
      rcases h3 with h3 | h3 <;> cases h3
    · exact ⟨fs, by rw [List.getElem?_set_ne (Ne.symm hj)]; exact h3⟩
  · by_cases hb : b = a
    · subst hb
      rcases st.ownd i _ b e rfl ea with z | z
      · exact absurd z (n i)
      · rw [z] at q; cases q
    · rw [upd_ne hb]; exact st.frame b u q t n

/-! ### the forms -/
section
variable {X : Cx} {F : Fx} {E : XK} {pos p p2 : Pos} {i n : Nat} {x : Str} {k e : Expr} {mk m : M Sv}
theorem a_newK : AE X F E (.Dict [] [] pos) eNewK :=
  PE_imp pe_dnewK fun σ H Q ⟨S, st, q⟩ p np => q (.ref p) _ (Go.of_same st (same_upd np)) ⟨p, rfl, np, p, [], rfl, upd_same, rfl, rfl⟩
theorem dk_at {S : Sl} {i : Nat} (h : (dkAt S i).isSome = true) : ∃ kvs, S[i]? = some (.dki kvs) := by
  unfold dkAt at h
  split at h
  · exact ⟨_, by assumption⟩
  · cases h
theorem dkAt_some {S : Sl} {i : Nat} {kvs : List (Int × D)} (h : dkAt S i = some kvs) : S[i]? = some (.dki kvs) := by
  unfold dkAt at h
  split at h
  · cases h; assumption
  · cases h
/-- x[k] -/
theorem a_dget {N : Nat} (i : Nat) (hr : Room N X.A) (hk : AE X F E k mk) (hs : NoSl k := by exact fun _ _ => rfl) (hN : X.N[i]? = some x := by rfl) (hv : Vis X.env.scope x := by first | exact Or.inl rfl | exact Or.inr (Or.inl rfl) | exact Or.inr (Or.inr rfl)) (hd : (x == ("__debug__" : Str)) = false := by decide) (hcd : (x == ("__classdict__" : Str)) = false := by decide) :
    AE X F E (.Subscript (.Name x p) k pos) (eDGet i mk) := by
  refine PE_imp (pe_dget (hu_of hr) (pe_var hN hv hd hcd) hk hs) fun σ H Q ⟨S, st, q⟩ => ?_
  unfold eDGet at q
  by_cases h : (dkAt S i).isSome = true
  case neg => rw [if_neg h] at q; exact q.elim
  rw [if_pos h] at q
  obtain ⟨kvs0, e0⟩ := dk_at h
  obtain ⟨a, ks0, ea, _⟩ := st.at_ i _ e0
  refine ⟨.ref a, ea, S, st, ?_⟩
  cases ek : mk S with
  | no => rw [ek] at q; exact q.elim
  | ex c S1 => rw [ek] at q; exact q
  | ok r S1 =>
    rw [ek] at q
    simp only [Res.bind] at q
    intro v H1 g rv
    match r, q, rv with
    | .val (.int z), q, rv =>
      cases e1 : dkAt S1 i with
      | none => rw [e1] at q; exact q.elim
      | some kvs =>
        rw [e1] at q
        simp only at q
        obtain ⟨a', ks, ea', eH, tr⟩ := g.rst.at_ i _ (dkAt_some e1)
        rw [ea] at ea'
        cases ea'
        rcases TabR.look tr z with ⟨l1, _⟩ | ⟨d, w, l1, l2, rw'⟩
        · rw [l1] at q; exact q.elim
        · rw [l1] at q
          have rv : v = .int z := rv
          subst rv
          refine ⟨a, w, rfl, ?_, q w H1 g rw'⟩
          rw [← l2]
          exact DGet.k (k := Sum.inl z) eH
/-- x.get(k, e) -/
theorem a_dgetD {N : Nat} {p3 p4 : Pos} (i : Nat) (hr : Room N X.A) (hk : AE X F E k mk) (he : AE X F E e m) (hN : X.N[i]? = some x := by rfl) (hv : Vis X.env.scope x := by first | exact Or.inl rfl | exact Or.inr (Or.inl rfl) | exact Or.inr (Or.inr rfl)) (mm : M2 X (.Name x p) "get" p3 k e p4 := by exact ⟨rfl, rfl, rfl, rfl⟩) (hd : (x == ("__debug__" : Str)) = false := by decide) (hcd : (x == ("__classdict__" : Str)) = false := by decide) :
    AE X F E (.Call (.Attribute (.Name x p) "get" p3) [k, e] [] p4) (eDGetD i mk m) := by
  refine PE_imp (pe_dget2 (hu_of hr) (pe_var hN hv hd hcd) hk (a_fz he) mm) fun σ H Q ⟨S, st, q⟩ => ?_
  unfold eDGetD at q
  by_cases h : (dkAt S i).isSome = true
  case neg => rw [if_neg h] at q; exact q.elim
  rw [if_pos h] at q
  obtain ⟨kvs0, e0⟩ := dk_at h
  obtain ⟨a, ks0, ea, eH0, _⟩ := st.at_ i _ e0
  refine ⟨.ref a, ea, a, rfl, .inl ⟨ks0, .inl eH0⟩, S, st, ?_⟩
  cases ek : mk S with
  | no => rw [ek] at q; exact q.elim
  | ex c S1 => rw [ek] at q; exact q
  | ok r S1 =>
    rw [ek] at q
    simp only [Res.bind] at q
    intro v H1 g rv
    refine ⟨S1, g.rst, ?_⟩
    rw [eFz_datum]
    cases em : datum m S1 with
    | no => rw [em] at q; exact q.elim
    | ex c S2 => rw [em] at q; exact q
    | ok z S2 =>
      rw [em] at q
      simp only [Res.bind] at q ⊢
      intro w H2 g2 rw'
      match r, q, rv with
      | .val (.int t), q, rv =>
        have rv : v = .int t := rv
        subst rv
        cases e1 : dkAt S2 i with
        | none => rw [e1] at q; exact q.elim
        | some kvs =>
          rw [e1] at q
          simp only at q
          obtain ⟨a', ks, ea', eH, tr⟩ := g2.rst.at_ i _ (dkAt_some e1)
          rw [ea] at ea'
          cases ea'
          refine ⟨valV ks (Sum.inl t), DGet.k (k := Sum.inl t) eH, q _ H2 (g.trans g2) ?_⟩
          rcases TabR.look tr t with ⟨l1, l2⟩ | ⟨d, u, l1, l2, ru⟩
          · rw [l1, l2]; exact rw'
          · rw [l1, l2]; exact ru
/-- len(x) -/
theorem a_dlen {p3 : Pos} (i : Nat) (hm : X.mg "len" = none) (hN : X.N[i]? = some x := by rfl) (hv : Vis X.env.scope x := by first | exact Or.inl rfl | exact Or.inr (Or.inl rfl) | exact Or.inr (Or.inr rfl)) (hg : Gl X "len" := by rfl) (hd : (x == ("__debug__" : Str)) = false := by decide) (hcd : (x == ("__classdict__" : Str)) = false := by decide) :
    AE X F E (.Call (.Name "len" p3) [.Name x p] [] pos) (eDLen i) := by
  refine PE_imp (pe_callB call_lenD hg hm PySem.boot_len (pa_cons (pe_var hN hv hd hcd) pa_nil (by rfl)) (by decide) (by decide) (by rfl) (by rfl)) fun σ H Q ⟨S, st, q⟩ => ?_
  unfold eDLen at q
  cases e1 : dkAt S i with
  | none => rw [e1] at q; exact q.elim
  | some kvs =>
    rw [e1] at q
    obtain ⟨a, ks, ea, eH, tr⟩ := st.at_ i _ (dkAt_some e1)
    exact ⟨.ref a, ea, a, ks, rfl, eH, by rw [TabR.len tr]; exact q _ H (Go.refl st) rfl⟩
theorem repL_ints {K : PySem.W.Frag} {mg : Str → Option Value} {H : Hp} : ∀ l : List Int, RepL K mg H (l.map PyData.int) (l.map V.int)
  | [] => rfl
  | _ :: l => ⟨_, _, rfl, rfl, repL_ints l⟩
theorem srtI_uniq {ns ms : List Int} (p : ms.Perm ns) (s : ms.Pairwise (· ≤ ·)) : ms = srtI ns := by
  have h1 : (srtI ns).Perm ns := List.mergeSort_perm _ _
  have h2 : (srtI ns).Pairwise fun a b => decide (a ≤ b) = true := List.pairwise_mergeSort (fun a b c h1 h2 => by simp only [decide_eq_true_eq] at *; omega) (fun a b => by simp only [Bool.or_eq_true, decide_eq_true_eq]; omega) ns
  have h2 : (srtI ns).Pairwise (· ≤ ·) := h2.imp fun h => by simpa using h
  exact (p.trans h1.symm).eq_of_pairwise (fun a b _ _ h1 h2 => Int.le_antisymm h1 h2) s h2
/-- sorted(x) -/
theorem a_dsorted {p3 : Pos} (i : Nat) (hm : X.mg "sorted" = none) (hc : X.calm = true := by rfl) (hN : X.N[i]? = some x := by rfl) (hv : Vis X.env.scope x := by first | exact Or.inl rfl | exact Or.inr (Or.inl rfl) | exact Or.inr (Or.inr rfl)) (hg : Gl X "sorted" := by rfl) (hd : (x == ("__debug__" : Str)) = false := by decide) (hcd : (x == ("__classdict__" : Str)) = false := by decide) :
    AE X F E (.Call (.Name "sorted" p3) [.Name x p] [] pos) (eDSorted i) := by
  refine PE_imp (pe_callB (call_sortedDI hc) hg hm (by decide +kernel) (pa_cons (pe_var hN hv hd hcd) pa_nil (by rfl)) (by decide) (by decide) (by rfl) (by rfl)) fun σ H Q ⟨S, st, q⟩ => ?_
  unfold eDSorted at q
  cases e1 : dkAt S i with
  | none => rw [e1] at q; exact q.elim
  | some kvs =>
    rw [e1] at q
    obtain ⟨a, ks, ea, eH, tr⟩ := st.at_ i _ (dkAt_some e1)
    simp only at q
    by_cases hl : kvs.length < 64
    case neg => rw [if_neg hl] at q; exact q.elim
    rw [if_pos hl] at q
    refine ⟨.ref a, ea, a, ks, kvs.map (·.1), rfl, .inl eH, by rw [tr.1, List.map_map]; rfl, by rw [List.length_map]; exact hl, fun ys p hp hs np => ?_⟩
    have := srtI_uniq hp hs
    subst this
    exact q (.ref p) _ (Go.of_same st (same_upd np)) ⟨p, rfl, np, p, _, rfl, upd_same, repL_ints _⟩
/-- x[k] = e -/
theorem as_dput {N : Nat} (i : Nat) (hr : Room N X.A) (he : AE X F E e m) (hk : AE X F E k mk) (hN : X.N[i]? = some x := by rfl) (hv : Vis X.env.scope x := by first | exact Or.inl rfl | exact Or.inr (Or.inl rfl) | exact Or.inr (Or.inr rfl)) (hs : swapsWith e (some (.Subscript (.Name x p) k p2)) pos.line X.env = pure false := by rfl) (hd : (x == ("__debug__" : Str)) = false := by decide) (hcd : (x == ("__classdict__" : Str)) = false := by decide) :
    AS X F E (.Assign [.Subscript (.Name x p) k p2] e pos) (sDPut i mk m) := by
  refine PS_imp (ps_dput (hu_of hr) (pe_var hN hv hd hcd) hk (a_fz he) hs) fun D σ H ⟨S, st, q⟩ => ⟨S, st, ?_⟩
  have q : OutS X.K X.mg F E D H ((datum m S).bind fun d S1 => if (dkAt S1 i).isSome then (mk S1).bind fun r S2 => match r, dkAt S2 i with
    | .val (.int n), some kvs => if kvs.length < 16777216 then .ok .nx (S2.set i (.dki (putD kvs n d))) else .no
    | _, _ => .no else .no) := q
  rw [eFz_datum]
  cases em : datum m S with
  | no => rw [em] at q; exact q
  | ex k S1 => rw [em] at q; exact fun cls d H' r e => q cls d σ H' r e
  | ok d S1 =>
    rw [em] at q
    simp only [Res.bind] at q ⊢
    intro v H1 g1 rv
    by_cases h : (dkAt S1 i).isSome = true
    case neg => rw [if_neg h] at q; exact q.elim
    rw [if_pos h] at q
    obtain ⟨kvs0, e0⟩ := dk_at h
    obtain ⟨a, ks0, ea, _⟩ := g1.rst.at_ i _ e0
    refine ⟨.ref a, ea, S1, g1.rst, ?_⟩
    cases ek : mk S1 with
    | no => rw [ek] at q; exact q.elim
    | ex c S2 => rw [ek] at q; exact fun cls d H' r e => q cls d σ H' r e
    | ok r S2 =>
      rw [ek] at q
      simp only at q
      intro kv H2 g2 rk
      match r, q, rk with
      | .val (.int z), q, rk =>
        have rk : kv = .int z := rk
        subst rk
        cases e1 : dkAt S2 i with
        | none => rw [e1] at q; exact q.elim
        | some kvs =>
          rw [e1] at q
          simp only at q
          by_cases hl : kvs.length < 16777216
          case neg => rw [if_neg hl] at q; exact q.elim
          rw [if_pos hl] at q
          obtain ⟨a', ks, ea', eH, tr⟩ := g2.rst.at_ i _ (dkAt_some e1)
          rw [ea] at ea'
          cases ea'
          refine ⟨a, _, rfl, DPut.k (k := Sum.inl z) eH (by rw [TabR.len tr, sizeLine_eq]; omega), ?_⟩
          have tr2 : TabR X.K X.mg H2 (putD kvs z d) (L2.putK ks (Sum.inl z) v) := TabR.put tr z (Rep.mono (g2.mono g1.rst) d rv)
          obtain ⟨w1, w2⟩ := RSt.writeK (nvs := putD kvs z d) (ks := L2.putK ks (Sum.inl z) v) g2.rst (dkAt_some e1) ea fun mo => ⟨tr2.1, RepL.mono mo _ tr2.2⟩
          exact q σ _ w1 (((g1.trans g2).mono st).trans w2)
end
end Rc

/-! Rc: sorted(list or tuple of pairs of ints). -/
namespace RcT
open PySem PyProof.Rows Srt SrtO
/-- the heap behind the collecting of a tuple's items: a new list with them -/
abbrev colH (h : Heap) (vs : List Value) : Heap := (h.push (seqObj "list" #[] 0)).update h.objs.size (Obj.mapSeq (· ++ vs.toArray))
/-- .. and a second one, which is sorted -/
abbrev twoH (h : Heap) (vs : List Value) : Heap := (colH h vs).push (seqObj "list" vs.toArray 0)
section
variable {prog : Program} {w : World} {A : Around} {E : Value → Shared → Prop} {s : Shared} {l : Addr} {vs : List Value}
theorem col_tup {Q : List Value → Shared → Prop} (ht : IsTup s.heap l vs.toArray) (hz : vs.length ≤ sizeLine) (q : Q vs { s with heap := colH s.heap vs }) : wpAny (model prog w) A (collect (.ref l)) Q E s := by
  obtain ⟨ob, eo, ec, m, ed⟩ := id ht
  have eo2 : (s.heap.push (seqObj "list" #[] 0)).get? l = some ob := Heap.get?_push_of_some _ eo
  have en : (s.heap.push (seqObj "list" #[] 0)).get? s.heap.objs.size = some (seqObj "list" #[] 0) := Heap.get?_push_size _ rfl
  have fits : ((#[] : Array Value) ++ vs.toArray).size ≤ sizeLine + 1 := by
    have e : ((#[] : Array Value) ++ vs.toArray).size = vs.length := by simp
    rw [e]
    exact Nat.le_succ_of_le hz
  unfold collect
  apply wpAny_bind
  apply wpAny_runValue
  refine codeAny_builtin entry_proto_collect' (?_ : wpAny _ _ (do again (.builtin "list.__iadd__" ⟨[← newList [], .ref l], []⟩)) _ _ s)
  apply wpAny_bind
  refine wpAny_newList ?_
  apply wpAny_pure
  refine ⟨Code.quiet_builtin _ (by decide +kernel), codeAny_builtin entry_list_iadd' ?_⟩
  show wpAny _ _ (Builtin.List.listExtendWith (.ref s.heap.objs.size) (.ref l) _) _ _ _
  unfold Builtin.List.listExtendWith
  apply wpAny_bind
  refine wpAny_typeOf (T := "tuple") ⟨ob, eo2, ec⟩ ?_
  rw [if_pos (by first | decide | rfl | simp)]
  apply wpAny_bind
  refine listItems_at eo2 ed ?_
  apply wpAny_bind
  refine listItems_at (xs := #[]) (n := 0) en rfl ?_
  rw [if_neg (by simp)]
  apply wpAny_bind
  refine listUpdate_at (xs := #[]) (n := 0) en rfl ?_ (Nat.zero_le _) fits
  apply wpAny_pure
  refine wpAny_bind (?_ : wpAny (model prog w) A (load s.heap.objs.size) _ E { s with heap := colH s.heap vs })
  refine wpAny_load (get?_update_seq en _) ?_
  refine (?_ : wpAny _ _ (pure ((#[] : Array Value) ++ vs.toArray).toList) Q E _)
  have e0 : ((#[] : Array Value) ++ vs.toArray).toList = vs := by simp
  rw [e0]
  exact wpAny_pure q
theorem two_at : (twoH s.heap vs).get? (s.heap.objs.size + 1) = some (seqObj "list" vs.toArray 0) := by
  have e : (colH s.heap vs).objs.size = s.heap.objs.size + 1 := by
    rw [colH, Heap.size_update, size_push']
  rw [← e]
  exact Heap.get?_push_size _ rfl
theorem two_old {b : Addr} {o : Obj} (h : s.heap.get? b = some o) : b ≠ s.heap.objs.size + 1 ∧ (twoH s.heap vs).get? b = some o := by
  have lt := Heap.lt_size h
  refine ⟨fun z => ?_, Heap.get?_push_of_some _ ?_⟩
  · rw [z] at lt
    exact absurd lt (Nat.not_lt_of_le (Nat.le_succ _))
  · rw [colH, Heap.get?_update_ne _ _ _ _ (Nat.ne_of_lt lt)]
    exact Heap.get?_push_of_some _ h
/-- sorted(t), t a tuple of pairs of ints -/
theorem sorted_pairsT {k : Value → Int × Int} {Q : Value → Shared → Prop} (ht : IsTup s.heap l vs.toArray) (hz : vs.length ≤ sizeLine) (hp : ∀ v ∈ vs, IsPair s.heap v (k v).1 (k v).2)
    (q : ∀ (g : Heap) (d : Addr) (out : List Value), Srtd (fun v u => lexB (k v) (k u)) out → Stb (fun v u => lexB (k v) (k u)) out vs → (∀ b o, s.heap.get? b = some o → g.get? b = some o) → s.heap.objs.size ≤ d → (∃ n, g.get? d = some (seqObj "list" out.toArray n)) → Q (.ref d) { s with heap := g }) :
    wpAny (model prog w) A (call (.builtin "sorted") [.ref l]) Q E s := by
  apply Calls.call_function_entry kind_sorted plain_sorted entry_sorted (args_sorted1 _)
  unfold Builtin.«sorted»
  apply wpAny_bind (m := checkCount "sorted" 1 1 _)
  apply wpAny_pure
  apply wpAny_bind
  refine col_tup ht hz ?_
  apply wpAny_bind
  refine wpAny_newList ?_ hz
  have e : (colH s.heap vs).objs.size = s.heap.objs.size + 1 := by
    rw [colH, Heap.size_update, size_push']
  refine (?_ : wpAny _ _ _ _ _ { s with heap := twoH s.heap vs })
  rw [show (({ s with heap := colH s.heap vs } : Shared).heap.objs.size) = s.heap.objs.size + 1 from e]
  apply wpAny_bind
  apply wpAny_holding
  refine wpAny_call_entry slot_list_sort ⟨_, two_at, rfl⟩ entry_list_sort (list_sort_ord (swo_lex k) two_at hz (fun h2 => ?_) fun out so st => ⟨_, rfl, ?_⟩) (args_list_sort _)
  · refine pairs_sortableO (s := { s with heap := twoH s.heap vs }) (by omega) (fun v hm => (hp v hm).keeps fun b o eb _ => (two_old eb).2) fun o eo ec => ?_
    rw [two_at] at eo
    cases eo
    exact absurd (Value.type.inj ec) (by decide)
  · exact wpAny_pure ⟨_, rfl, q _ _ out so st (fun b o eb => sortedAll_old eb) (Nat.le_succ _) (sortedAll_at s.heap vs out.toArray)⟩
end
end RcT
namespace Rc
open PySem PySem.Spec PyProof.Rows L2
variable [LamTbl]
abbrev prD (q : Int × Int) : D := .tuple [.int q.1, .int q.2]
def asPairs : List D → Option (List (Int × Int))
  | [] => some []
  | .tuple [.int a, .int b] :: r => (asPairs r).map ((a, b) :: ·)
  | _ => none
def lexLe (p q : Int × Int) : Bool := decide (p.1 < q.1 ∨ (p.1 = q.1 ∧ p.2 ≤ q.2))
def srtP (ps : List (Int × Int)) : List (Int × Int) := ps.mergeSort lexLe
/-- sorted(list of pairs) -/
def dSrtP : D → Option Sv
  | .list ds => (asPairs ds).map fun ps => .ow ((srtP ps).map prD)
  | .tuple ds => (asPairs ds).map fun ps => .ow ((srtP ps).map prD)
  | _ => none
theorem asPairs_eq : ∀ {ds : List D} {ps : List (Int × Int)}, asPairs ds = some ps → ds = ps.map prD
  | [], ps, h => by cases h; rfl
  | .tuple [.int a, .int b] :: r, ps, h => by
    have h : (asPairs r).map ((a, b) :: ·) = some ps := h
    cases e : asPairs r with
    | none => rw [e] at h; cases h
    | some qs =>
      rw [e] at h
      cases h
      rw [List.map_cons, ← asPairs_eq e]
theorem asPairs_map : ∀ ps : List (Int × Int), asPairs (ps.map prD) = some ps
  | [] => rfl
  | p :: ps => by
    show (asPairs (ps.map prD)).map ((p.1, p.2) :: ·) = _
    rw [asPairs_map ps]
    rfl
theorem srtP_uniq {ps qs : List (Int × Int)} (p : qs.Perm ps) (s : qs.Pairwise fun a b => lexLe a b = true) : qs = srtP ps := by
  have h1 : (srtP ps).Perm ps := List.mergeSort_perm _ _
  have h2 : (srtP ps).Pairwise fun a b => lexLe a b = true := List.pairwise_mergeSort (fun a b c h1 h2 => by
    have h1 := of_decide_eq_true h1
    have h2 := of_decide_eq_true h2
    exact decide_eq_true (by omega)) (fun a b => by
    unfold lexLe
    simp only [Bool.or_eq_true, decide_eq_true_eq]
    omega) ps
  refine (p.trans h1.symm).eq_of_pairwise (fun a b _ _ h1 h2 => ?_) s h2
  have h1 := of_decide_eq_true h1
  have h2 := of_decide_eq_true h2
  exact Prod.ext (by omega) (by omega)
/-- x stands for the pair q -/
abbrev PrV (K : PySem.W.Frag) (H : Hp) (x : V) (q : Int × Int) : Prop := ∃ t, x = .ref t ∧ SqT K H t [.int q.1, .int q.2]
theorem repL_pairs {K : PySem.W.Frag} {mg : Str → Option Value} {H : Hp} : ∀ {ps : List (Int × Int)} {xs : List V}, RepL K mg H (ps.map prD) xs ↔ Paired (PrV K H) xs ps
  | [], xs => by
    constructor
    · intro h
      rw [show xs = [] from h]
      exact .nil
    · intro h
      cases h
      rfl
  | p :: ps, xs => by
    constructor
    · rintro ⟨v, vs, rfl, ⟨a, ys, rfl, s, r⟩, h⟩
      have : ys = [V.int p.1, V.int p.2] := RepL.ints (ns := [p.1, p.2]) r
      subst this
      exact .cons ⟨a, rfl, s⟩ (repL_pairs.mp h)
    · intro h
      cases h with
      | cons h t =>
        obtain ⟨a, rfl, s⟩ := h
        exact ⟨_, _, rfl, ⟨a, _, rfl, s, repL_ints [p.1, p.2]⟩, repL_pairs.mpr t⟩
/-- sorted(xs): the pairs in their order, each by a value that stood for it -/
def rSrtP (K : PySem.W.Frag) : V → Hp → VK → Prop := fun x H Q => ∃ (a : Addr) (xs : List V) (ps : List (Int × Int)), x = .ref a ∧ (SqL K H a xs ∨ SqT K H a xs) ∧ Paired (PrV K H) xs ps ∧
  ∀ (ys : List V) (p : Addr), Paired (PrV K H) ys (srtP ps) → H p = none → Q (.ref p) (upd H p (.lst ys))
theorem op1_srtP {K : PySem.W.Frag} {mg : Str → Option Value} : Op1 K mg dSrtP (rSrtP K) := by
  intro H x d res Q hf hx q
  match d, hf with
  | .list ds, hf =>
    simp only [dSrtP] at hf
    cases hn : asPairs ds with
    | none => rw [hn] at hf; cases hf
    | some ps =>
      rw [hn] at hf
      cases hf
      obtain ⟨a, vs, rfl, sa, ra⟩ := hx.list
      rw [asPairs_eq hn] at ra
      refine ⟨a, vs, ps, rfl, .inl sa.sq, repL_pairs.mp ra, fun ys p h np => ?_⟩
      exact q _ _ (same_upd np) ⟨p, rfl, np, p, _, rfl, upd_same, RepL.mono (Mono.of_same (same_upd np)) _ (repL_pairs.mpr h)⟩
  | .tuple ds, hf =>
    simp only [dSrtP] at hf
    cases hn : asPairs ds with
    | none => rw [hn] at hf; cases hf
    | some ps =>
      rw [hn] at hf
      cases hf
      obtain ⟨a, vs, rfl, sa, ra⟩ := hx.tuple
      rw [asPairs_eq hn] at ra
      refine ⟨a, vs, ps, rfl, .inr sa, repL_pairs.mp ra, fun ys p h np => ?_⟩
      exact q _ _ (same_upd np) ⟨p, rfl, np, p, _, rfl, upd_same, RepL.mono (Mono.of_same (same_upd np)) _ (repL_pairs.mpr h)⟩
theorem f2_map {α β γ : Type} {R : α → β → Prop} {f : γ → α} {g : γ → β} : ∀ {l : List γ}, (∀ x ∈ l, R (f x) (g x)) → Paired R (l.map f) (l.map g)
  | [], _ => .nil
  | x :: l, h => .cons (h x List.mem_cons_self) (f2_map fun y hy => h y (List.mem_cons_of_mem _ hy))
/-- the pair that the heap holds at v -/
noncomputable def kOf (h : Heap) (v : Value) : Int × Int := @dite _ (∃ q : Int × Int, Srt.IsPair h v q.1 q.2) (Classical.propDecidable _) (fun e => Classical.choose e) (fun _ => (0, 0))
theorem kOf_eq {h : Heap} {v : Value} {q : Int × Int} (e : Srt.IsPair h v q.1 q.2) : kOf h v = q := by
  have ex : ∃ q : Int × Int, Srt.IsPair h v q.1 q.2 := ⟨q, e⟩
  unfold kOf
  rw [dif_pos ex]
  obtain ⟨a, o, t, u, n, e1, e2, _, e3⟩ := Classical.choose_spec ex
  obtain ⟨a', o', t', u', n', f1, f2, _, f3⟩ := e
  rw [e1] at f1
  cases f1
  rw [e2] at f2
  cases f2
  rw [e3] at f3
  generalize Classical.choose ex = z at f3
  cases z
  cases q
  simp only [Data.seq.injEq, Array.mk.injEq, List.cons.injEq, Value.int.injEq] at f3
  exact Prod.ext f3.1.1.1 f3.1.2.1.1
theorem f2_of {α β γ : Type} {R : α → β → Prop} {f : γ → α} {g : γ → β} : ∀ {l : List γ}, Paired R (l.map f) (l.map g) → ∀ x ∈ l, R (f x) (g x)
  | [], _, x, hx => by cases hx
  | y :: l, h, x, hx => by
    rw [List.map_cons, List.map_cons] at h
    cases h with
    | cons h t =>
      rcases List.mem_cons.mp hx with rfl | hx
      · exact h
      · exact f2_of t x hx
section
variable {X : Cx}
theorem cr_srtP : CallR X (.builtin "sorted") (fun vs H Q => ∃ x, vs = [x] ∧ rSrtP X.K x H Q) := by
  intro pins s σ H vs us Q I r ⟨x, ev, a, xs, ps, ex, hs, hx, q⟩
  subst ev ex
  obtain ⟨its, rv, hl, hz⟩ : ∃ its : List Value, Vals xs its ∧ (s.heap.IsList a its.toArray ∨ IsTup s.heap a its.toArray) ∧ xs.length ≤ sizeLine := by
    rcases hs with hs | hs
    · obtain ⟨its, rv, hl, hz⟩ := I.list hs
      exact ⟨its, rv, .inl hl.isList, hz⟩
    · obtain ⟨its, rv, hl, hz⟩ := I.tuple hs
      exact ⟨its, rv, .inr hl, hz⟩
  obtain ⟨u, rfl, ru⟩ := vals1 r
  obtain rfl : u = Value.ref a := ru
  have href : ∀ x ∈ xs, ∃ a, x = V.ref a := by
    clear q rv hz hs hl
    induction hx with
    | nil => intro x hx; cases hx
    | cons h t ih =>
      intro x hx
      rcases List.mem_cons.mp hx with rfl | hx
      · obtain ⟨t, e, _⟩ := h; exact ⟨t, e⟩
      · exact ih x hx
  obtain ⟨e1, e2⟩ := refs_back rv href
  have hk : ps = its.map (kOf s.heap) ∧ ∀ v ∈ its, Srt.IsPair s.heap v (kOf s.heap v).1 (kOf s.heap v).2 := by
    clear q e1 e2 href hz hl hs
    induction hx generalizing its with
    | nil => cases rv; exact ⟨rfl, fun v hv => by cases hv⟩
    | @cons x p xs ps h t ih =>
      obtain ⟨tt, rfl, hq⟩ := h
      cases rv with
      | @cons _ u _ us ru rv =>
        obtain rfl : u = Value.ref tt := ru
        obtain ⟨its2, r2, ⟨o, ho, hc, n, hd⟩, _⟩ := I.tuple hq
        obtain ⟨u1, u2, rfl, ri, rj⟩ := vals2 r2
        obtain ⟨t1, rfl⟩ := ri
        obtain ⟨t2, rfl⟩ := rj
        have ip : Srt.IsPair s.heap (.ref tt) p.1 p.2 := ⟨tt, o, t1, t2, n, rfl, ho, hc, hd⟩
        have ek := kOf_eq ip
        obtain ⟨e, a⟩ := ih us rv
        refine ⟨by rw [List.map_cons, ek, ← e], fun v hv => ?_⟩
        rcases List.mem_cons.mp hv with rfl | hv
        · rw [ek]; exact ip
        · exact a v hv
  obtain ⟨ep, hp⟩ := hk
  have fin : ∀ (h' : Heap) (d : Addr) (out : List Value), SrtO.Srtd (fun v u => SrtO.lexB (kOf s.heap v) (kOf s.heap u)) out → SrtO.Stb (fun v u => SrtO.lexB (kOf s.heap v) (kOf s.heap u)) out its → (∀ b o, s.heap.get? b = some o → h'.get? b = some o) → s.heap.objs.size ≤ d → (∃ n, h'.get? d = some (seqObj "list" out.toArray n)) → EP X pins σ Q (.ref d) { s with heap := h' } := by
    intro h' d out h1 h2 kp hd hn
    have h3 : ∀ u ∈ out, ∃ a, u = Value.ref a := fun u hu => e2 u (h2.perm.mem_iff.mp hu)
    obtain ⟨n, hn⟩ := hn
    have es : out.map (kOf s.heap) = srtP ps := by
      refine srtP_uniq (by rw [ep]; exact h2.perm.map _) (List.pairwise_map.mpr (h1.imp fun {a b} h => ?_))
      have h := SrtO.lexB_no.mp h
      exact decide_eq_true (by omega)
    have hy : Paired (PrV X.K H) (out.map backV) (srtP ps) := by
      rw [← es]
      rw [e1, ep] at hx
      exact f2_map fun v hv => f2_of hx v (h2.perm.mem_iff.mp hv)
    refine ⟨.ref d, upd H d (.lst (out.map backV)), I.laid (t' := s.toks) kp hd ⟨?_, out, n, vals_back h3, hn⟩, rfl, q _ d hy (I.hok.fresh hd)⟩
    rw [List.length_map, h2.perm.length_eq, ← rv.length]
    exact hz
  rcases hl with hl | hl
  · exact SrtO.sorted_pairsO (k := kOf s.heap) hl (by rw [← rv.length]; exact hz) hp fin
  · exact RcT.sorted_pairsT (k := kOf s.heap) hl (by rw [← rv.length]; exact hz) hp fin
end
section
variable {X : Cx} {F : Fx} {E : XK} {a : Expr} {oa : Od} {p pos : Pos}
theorem cl_srtP {K : PySem.W.Frag} {mg : Str → Option Value} : Cl1 K mg dSrtP (fun vs H Q => ∃ x, vs = [x] ∧ rSrtP K x H Q) := by
  intro H x d res Q hf hx q
  exact ⟨x, rfl, op1_srtP H x d res Q hf hx q⟩
theorem a_srtP (hm : X.mg "sorted" = none) (ha : AO X F E a oa) (hg : Gl X "sorted" := by rfl) (he : starEach (a :: []) X.env = (false, eval a X.env) :: starEach [] X.env := by rfl) : AE X F E (.Call (.Name "sorted" p) [a] [] pos) (eOp1 dSrtP oa) :=
  a_b1 cr_srtP cl_srtP hg hm (by decide +kernel) ha (by decide) (by decide) he rfl
end
theorem op_srtP {ps : List (Int × Int)} {k : Sv → Prop} : op1 dSrtP (.list (ps.map prD)) k = k (.ow ((srtP ps).map prD)) := by
  unfold op1 dSrtP
  simp only [asPairs_map, Option.map_some]
theorem op_srtPT {ps : List (Int × Int)} {k : Sv → Prop} : op1 dSrtP (.tuple (ps.map prD)) k = k (.ow ((srtP ps).map prD)) := by
  unfold op1 dSrtP
  simp only [asPairs_map, Option.map_some]
end Rc

/-! k10: printed by gen.py: the abstract functions of the text, their tie to the row. -/
namespace K10
open PySem PySem.Spec PyProof.Rows L2 Rc
def top (i : Nat) : Stmt := PySem.Challenge.pw_resetcount_k10_restart_statuses.main.body.getD i (.Pass ⟨0, 0, 0, 0⟩)
def LM_0 : Option (Arguments × Expr × Scope) := Nd.lam [0, 7, 0, 3] (.s (top 48))
instance : LamTbl := ⟨fun x => if x = "<lambda>0" then LM_0 else none⟩
def nms : Str → Option Str := fun x => if x = "InvalidRate" then some (PySem.Str.ofString "Rate+") else if x = "InvalidSamples" then some (PySem.Str.ofString "Samples+") else none
theorem nms_InvalidRate : nms "InvalidRate" = some (PySem.Str.ofString "Rate+") := by decide
theorem ne_InvalidRate {k : Sv → Prop} : op2 dNe (.str "Rate+") (.str "Rate+") k = k (.val (.bool false)) := op_ne_same (by decide +kernel)
theorem nms_InvalidSamples : nms "InvalidSamples" = some (PySem.Str.ofString "Samples+") := by decide
theorem ne_InvalidSamples {k : Sv → Prop} : op2 dNe (.str "Samples+") (.str "Samples+") k = k (.val (.bool false)) := op_ne_same (by decide +kernel)
def B_law_deck : M Fl :=
  sSeq (sIf (Rc.tB (eOp2 dGe (.v 0) (.e (eOp2 dPow (.e (eLit (.int 10))) (.e (eLit (.int 18)))))))
    (sRet (eLst [(eOp2 dSub (.v 0) (.e (eOp2 dPow (.e (eLit (.int 10))) (.e (eLit (.int 18)))))), (eOp2 dMod (.v 0) (.e (eLit (.int 2147483579)))), (eV 1)]))
    (sPass))
    (sRet (eLst [(eLit (.int 0)), (eOp2 dMod (.v 0) (.e (eLit (.int 2147483579)))), (eV 1)]))
def F_law_deck : AF := fn 2 [0, 1] B_law_deck
def B_law_pick : M Fl :=
  sSeq (sIf (Rc.tB (eOp2 dGt (.e (eOp2 dIx (.v 0) (.e (eLit (.int 0))))) (.e (eLit (.int 1)))))
    (sSeq (sSet 2 (eOp2 dMod (.e (eOp2 dIx (.v 0) (.e (eLit (.int 0))))) (.v 1)))
    (sSeq (sSetIx 0 (eLit (.int 0)) (eOp2 dDiv (.e (eOp2 dIx (.v 0) (.e (eLit (.int 0))))) (.v 1)))
    (sRetV 2)))
    (sPass))
    (sSeq (sSetIx 0 (eLit (.int 2)) (eOp2 dAdd (.e (eOp2 dIx (.v 0) (.e (eLit (.int 2))))) (.e (eLit (.int 1)))))
    (sSeq (sSet 3 (eOp2 dMod (.e (eOp2 dPow (.e (eOp2 dAdd (.e (eOp2 dIx (.v 0) (.e (eLit (.int 1))))) (.e (eOp2 dMulA (.e (eLit (.int 15485867))) (.e (eOp2 dIx (.v 0) (.e (eLit (.int 2))))))))) (.e (eLit (.int 5))))) (.e (eLit (.int 2147483647)))))
    (sSeq (sSet 2 (eOp2 dDiv (.e (eOp2 dMod (.e (eOp2 dPow (.e (eOp2 dAdd (.v 3) (.e (eOp2 dMulA (.e (eLit (.int 7919))) (.e (eOp2 dIx (.v 0) (.e (eLit (.int 2))))))))) (.e (eLit (.int 3))))) (.e (eLit (.int 2147483629))))) (.e (eLit (.int 32)))))
    (sSeq (sIf (Rc.tB (eOp2 dGt (.v 1) (.e (eLit (.int 1000000)))))
    (sRet (eOp2 dMod (.e (eOp2 dAdd (.e (eOp2 dMulA (.v 2) (.e (eLit (.int 2147483563))))) (.v 3))) (.v 1)))
    (sPass))
    (sRet (eOp2 dMod (.v 2) (.v 1)))))))
def F_law_pick : AF := fn 4 [0, 1] B_law_pick
def B_law_one : M Fl :=
  sRet (eOp2 dIx (.v 1) (.e (eCall F_law_pick [.b 0, .d (eOp1 dLen (.v 1))])))
def F_law_one : AF := fn 2 [0, 1] B_law_one
def B_law_values_f1 : M Fl :=
  sSeq (sSet 6 (eCall F_law_pick [.b 0, .d (eLit (.int 8))]))
    (sSeq (sIf (Rc.tB (eOp2 dLt (.v 6) (.e (eLit (.int 4)))))
    (sSet 3 (eOp2 dMin2 (.e (eOp2 dPow (.e (eLit (.int 10))) (.e (eLit (.int 6))))) (.e (eOp2 dAdd (.v 3) (.e (eCall F_law_pick [.b 0, .d (eOp2 dAdd (.v 2) (.e (eLit (.int 1))))]))))))
    (sIf (Rc.tB (eOp2 dLt (.v 6) (.e (eLit (.int 6)))))
    (sSet 3 (eCall F_law_pick [.b 0, .d (eOp2 dAdd (.v 2) (.e (eLit (.int 1))))]))
    (sIf (Rc.tB (eOp2 dEq (.v 6) (.e (eLit (.int 6)))))
    (sSet 3 (eCall F_law_pick [.b 0, .d (eOp2 dAdd (.v 3) (.e (eLit (.int 1))))]))
    (sPass))))
    (sApp 4 (eV 3)))
def B_law_values : M Fl :=
  sSeq (sPar3 2 3 4 (eCall F_law_one [.b 0, .d (eLst [(eLit (.int 3)), (eLit (.int 9)), (eLit (.int 60)), (eOp2 dPow (.e (eLit (.int 10))) (.e (eLit (.int 6))))])]) (eLit (.int 0)) (eLst []))
    (sSeq (sFor (wRng1 (eCall F_law_pick [.b 0, .d (eOp2 dAdd (.v 1) (.e (eLit (.int 1))))])) (.n 5) (B_law_values_f1))
    (sRetV 4))
def F_law_values : AF := fn 7 [0, 1] B_law_values
def B_law_samples_f1 : M Fl :=
  sSeq (sSet 3 (eOp2 dAdd (.v 3) (.e (eTup [(eTup [(eV 2), (eV 4)])]))))
    (sSet 2 (eOp2 dAdd (.e (eOp2 dAdd (.v 2) (.e (eLit (.int 1))))) (.e (eCall F_law_pick [.b 0, .d (eCall F_law_one [.b 0, .d (eLst [(eLit (.int 1)), (eLit (.int 3)), (eLit (.int 20)), (eLit (.int 1000))])])]))))
def B_law_samples : M Fl :=
  sSeq (sPar 2 3 (eCall F_law_one [.b 0, .d (eLst [(eLit (.int 0)), (eLit (.int 5)), (eCall F_law_pick [.b 0, .d (eOp2 dPow (.e (eLit (.int 10))) (.e (eLit (.int 8))))])])]) (eTup []))
    (sSeq (sFor (wSeq (eCall F_law_values [.b 0, .b 1])) (.n 4) (B_law_samples_f1))
    (sRetV 3))
def F_law_samples : AF := fn 5 [0, 1] B_law_samples
def B_is_from : M Fl :=
  sRet ((Rc.eAnd (eOp1 (dIsi .int) (.v 0)) (Rc.eAnd (eB (Rc.tNot (Rc.tB (eOp1 (dIsi .bool) (.v 0))))) (eChain dLe dLe (.v 1) (.v 0) (.v 2)))))
def F_is_from : AF := fn 3 [0, 1, 2] B_is_from
def B_is_sample : M Fl :=
  sSeq (sIf ((Rc.tOr (Rc.tNot (Rc.tB (eOp1 (dIsi .tuple) (.v 0)))) (Rc.tB (eOp2 dNe (.e (eOp1 dLen (.v 0))) (.e (eLit (.int 2)))))))
    (sRet (eLit (.bool false)))
    (sPass))
    (sRet ((Rc.eAnd (eCall F_is_from [.d (eOp2 dIx (.v 0) (.e (eLit (.int 0)))), .d (eLit (.int 0)), .d (eLit (.int (1000000000)))]) (eCall F_is_from [.d (eOp2 dIx (.v 0) (.e (eLit (.int 1)))), .d (eLit (.int 0)), .d (eLit (.int (1000000)))]))))
def F_is_sample : AF := fn 1 [0] B_is_sample
def B_is_samples : M Fl :=
  sSeq (sIf ((Rc.tOr (Rc.tNot (Rc.tB (eOp1 (dIsi .tuple) (.v 0)))) (Rc.tOr (Rc.tB (eOp2 dGt (.e (eOp1 dLen (.v 0))) (.e (eLit (.int (40)))))) (Rc.tNot (Rc.tB (eOp1 dAll (.e (eLc [1] (ckN 0) (wN 0 id) (.n 1) Rc.tYes (eCall F_is_sample [.b 1])))))))))
    (sRet (eLit (.bool false)))
    (sPass))
    (sRet (eOp1 dAll (.e (eLc [1, 2] ckT (wZip2 (eV 0) (eCut (.v 0) (some (eLit (.int 1))) none)) (.t [.n 1, .n 2]) Rc.tYes (eOp2 dLt (.e (eOp2 dIx (.v 1) (.e (eLit (.int 0))))) (.e (eOp2 dIx (.v 2) (.e (eLit (.int 0))))))))))
def F_is_samples : AF := fn 3 [0] B_is_samples
def B_need_samples : M Fl :=
  sIf (Rc.tNot (Rc.tB (eCall F_is_samples [.b 0])))
    (sRaise ⟨"InvalidSamples", none⟩)
    (sPass)
def F_need_samples : AF := fn 1 [0] B_need_samples
def B_gaps_of : M Fl :=
  sRet (eLc [1, 2] ckT (wZip2 (eV 0) (eCut (.v 0) (some (eLit (.int 1))) none)) (.t [.n 1, .n 2]) Rc.tYes (eTup [(eOp2 dSub (.e (eOp2 dIx (.v 2) (.e (eLit (.int 0))))) (.e (eOp2 dIx (.v 1) (.e (eLit (.int 0)))))), (eOp2 dIx (.v 1) (.e (eLit (.int 1)))), (eOp2 dIx (.v 2) (.e (eLit (.int 1))))]))
def F_gaps_of : AF := fn 3 [0] B_gaps_of
def B_step : M Fl :=
  sRet (Rc.eIf (Rc.tB (eOp2 dGe (.v 1) (.v 0))) (eOp2 dSub (.v 1) (.v 0)) (eV 1))
def F_step : AF := fn 2 [0, 1] B_step
def B_least_rate_f1 : M Fl :=
  sSet 1 (eOp2 dMax2 (.v 1) (.e (eOp2 dDiv (.e (eOp2 dSub (.e (eOp2 dAdd (.e (eCall F_step [.b 3, .b 4])) (.v 2))) (.e (eLit (.int 1))))) (.v 2))))
def B_least_rate : M Fl :=
  sSeq (sDrop (eCall F_need_samples [.b 0]))
    (sSeq (sSet 1 (eLit (.int 1)))
    (sSeq (sFor (wSeq (eCall F_gaps_of [.b 0])) (.t [.n 2, .n 3, .n 4]) (B_least_rate_f1))
    (sRetV 1)))
def F_least_rate : AF := fn 5 [0] B_least_rate
def B_need_rate : M Fl :=
  sIf (Rc.tNot (Rc.tB (eCall F_is_from [.b 0, .d (eLit (.int 1)), .d (eLit (.int (1000000)))])))
    (sRaise ⟨"InvalidRate", none⟩)
    (sPass)
def F_need_rate : AF := fn 1 [0] B_need_rate
def B_options : M Fl :=
  sSeq (sUnp (.t [.n 2, .n 3, .n 4]) (eV 0))
    (sSeq (sSet 5 (eOp2 dMulA (.v 1) (.v 2)))
    (sSeq (sSet 6 (Rc.eIf (Rc.tB (eChain dLe dLe (.e (eLit (.int 0))) (.e (eOp2 dSub (.v 4) (.v 3))) (.v 5))) (eTup [(eOp2 dSub (.v 4) (.v 3)), (eOp2 dSub (.v 4) (.v 3))]) (eLit .none)))
    (sRet (eTup [(eV 6), (Rc.eIf (Rc.tB (eOp2 dLe (.v 4) (.v 5))) (eTup [(eV 4), (eV 5)]) (eLit .none))]))))
def F_options : AF := fn 7 [0, 1] B_options
def B_status_of : M Fl :=
  sSeq (sUnp (.t [.n 2, .n 3]) (eCall F_options [.b 0, .b 1]))
    (sSeq (sIf (Rc.tB (eOp1 dIsN (.v 2)))
    (sRet (Rc.eIf (Rc.tB (eOp1 dIsN (.v 3))) (eLit (.str (PySem.Str.ofString "contradiction"))) (eLit (.str (PySem.Str.ofString "certain")))))
    (sPass))
    (sRet (Rc.eIf (Rc.tB (eOp1 dIsN (.v 3))) (eLit (.str (PySem.Str.ofString "impossible"))) (eLit (.str (PySem.Str.ofString "open"))))))
def F_status_of : AF := fn 4 [0, 1] B_status_of
def B_restart_statuses : M Fl :=
  sSeq (sDrop (eCall F_need_samples [.b 0]))
    (sSeq (sDrop (eCall F_need_rate [.b 1]))
    (sRet (eLc [2] ckT (wSeq (eCall F_gaps_of [.b 0])) (.n 2) Rc.tYes (eCall F_status_of [.b 2, .b 1]))))
def F_restart_statuses : AF := fn 3 [0, 1] B_restart_statuses
def B_law_whole : M Fl :=
  sRet ((Rc.eAnd (eOp1 (dIsi .int) (.v 0)) (eB (Rc.tNot (Rc.tB (eOp1 (dIsi .bool) (.v 0)))))))
def F_law_whole : AF := fn 1 [0] B_law_whole
def B_law_status : M Fl :=
  sSeq (sSet 4 ((Rc.eAnd (eOp2 dGe (.v 2) (.v 1)) (eOp2 dLe (.e (eOp2 dSub (.v 2) (.v 1))) (.e (eOp2 dMulA (.v 3) (.v 0)))))))
    (sSeq (sSet 5 (eOp2 dLe (.v 2) (.e (eOp2 dMulA (.v 3) (.v 0)))))
    (sSeq (sIf ((Rc.tAnd (Rc.tB (eV 4)) (Rc.tB (eV 5))))
    (sRet (eLit (.str (PySem.Str.ofString "open"))))
    (sPass))
    (sSeq (sIf (Rc.tB (eV 4))
    (sRet (eLit (.str (PySem.Str.ofString "impossible"))))
    (sPass))
    (sRet (Rc.eIf (Rc.tB (eV 5)) (eLit (.str (PySem.Str.ofString "certain"))) (eLit (.str (PySem.Str.ofString "contradiction"))))))))
def F_law_status : AF := fn 6 [0, 1, 2, 3] B_law_status
def B_law_sort : M Fl :=
  sSeq (sIf (Rc.tB (eOp1 (dIsi .bool) (.v 0)))
    (sRet (eLit (.int 1)))
    (sPass))
    (sSeq (sIf (Rc.tB (eOp1 (dIsi .int) (.v 0)))
    (sRet (eLit (.int 2)))
    (sPass))
    (sSeq (sIf (Rc.tB (eOp1 (dIsi .str) (.v 0)))
    (sRet (eLit (.int 3)))
    (sPass))
    (sSeq (sIf (Rc.tB (eOp1 (dIsi .list) (.v 0)))
    (sRet (eLit (.int 4)))
    (sPass))
    (sRet (Rc.eIf (Rc.tB (eOp1 (dIsi .tuple) (.v 0))) (eLit (.int 5)) (eLit (.int 6)))))))
def F_law_sort : AF := fn 1 [0] B_law_sort
def B_law_same (G : AF) : M Fl :=
  sSeq (sIf (Rc.tB (eOp2 dNe (.e (eCall F_law_sort [.b 0])) (.e (eCall F_law_sort [.b 1]))))
    (sRet (eLit (.bool false)))
    (sPass))
    (sSeq (sIf ((Rc.tAnd (Rc.tB (eOp2 dGt (.e (eCall F_law_sort [.b 0])) (.e (eLit (.int 3))))) (Rc.tB (eOp2 dLt (.e (eCall F_law_sort [.b 0])) (.e (eLit (.int 6)))))))
    (sSeq (sIf (Rc.tB (eOp2 dNe (.e (eOp1 dLen (.v 0))) (.e (eOp1 dLen (.v 1)))))
    (sRet (eLit (.bool false)))
    (sPass))
    (sRet (eOp2 dEq (.e (eLc [2, 3] (ckN 0) (wN 0 (enumF 0)) (.t [.n 2, .n 3]) (Rc.tNot (Rc.tB (eCall (G) [.b 3, .d (eOp2 dIx (.v 1) (.v 2))]))) (eV 2))) (.e (eLst [])))))
    (sPass))
    (sRet (eOp2 dEq (.v 0) (.v 1))))
def F_law_same : Nat → AF
  | 0 => fun _ => .no
  | n + 1 => fn 4 [0, 1] (B_law_same (F_law_same n))
def B_total_bounds_f1 : M Fl :=
  sSeq (sSet 6 (eLc [5] ckT (wSeq (eCall F_options [.b 4, .b 1])) (.n 5) (Rc.tB (eOp1 dNotN (.v 5))) (eV 5)))
    (sSeq (sIf (Rc.tB (eOp2 dEq (.v 6) (.e (eLst []))))
    (sRet (eLit .none))
    (sPass))
    (sPar 2 3 (eOp2 dAdd (.v 2) (.e (eOp1 dMin (.e (eLc [5] (ckN 6) (wN 6 id) (.n 5) Rc.tYes (eOp2 dIx (.v 5) (.e (eLit (.int 0))))))))) (eOp2 dAdd (.v 3) (.e (eOp1 dMax (.e (eLc [5] (ckN 6) (wN 6 id) (.n 5) Rc.tYes (eOp2 dIx (.v 5) (.e (eLit (.int 1)))))))))))
def B_total_bounds : M Fl :=
  sSeq (sDrop (eCall F_need_samples [.b 0]))
    (sSeq (sDrop (eCall F_need_rate [.b 1]))
    (sSeq (sUnp (.t [.n 2, .n 3]) (eTup [(eLit (.int 0)), (eLit (.int 0))]))
    (sSeq (sFor (wSeq (eCall F_gaps_of [.b 0])) (.n 4) (B_total_bounds_f1))
    (sRet (eTup [(eV 2), (eV 3)])))))
def F_total_bounds : AF := fn 7 [0, 1] B_total_bounds
def B_joined_f1 : M Fl :=
  sIf ((Rc.tAnd (Rc.tB (eOp2 dNe (.v 1) (.e (eLst [])))) (Rc.tB (eOp2 dLe (.v 2) (.e (eOp2 dAdd (.e (eOp2 dIx (.e (eOp2 dIx (.v 1) (.e (eOp1 dNeg (.e (eLit (.int 1))))))) (.e (eLit (.int 1))))) (.e (eLit (.int 1)))))))))
    (sSetIx 1 (eOp1 dNeg (.e (eLit (.int 1)))) (eTup [(eOp2 dIx (.e (eOp2 dIx (.v 1) (.e (eOp1 dNeg (.e (eLit (.int 1))))))) (.e (eLit (.int 0)))), (eOp2 dMax2 (.v 3) (.e (eOp2 dIx (.e (eOp2 dIx (.v 1) (.e (eOp1 dNeg (.e (eLit (.int 1))))))) (.e (eLit (.int 1))))))]))
    (sApp 1 (eTup [(eV 2), (eV 3)]))
def B_joined : M Fl :=
  sSeq (sSet 1 (eLst []))
    (sSeq (sFor (wSeq (eOp1 dSrtP (.v 0))) (.t [.n 2, .n 3]) (B_joined_f1))
    (sRetV 1))
def F_joined : AF := fn 4 [0] B_joined
def B_total_ranges_f2 : M Fl :=
  sAug 5 dAddI (eLc [8] ckT (wSeq (eCall F_options [.b 4, .b 1])) (.n 8) (Rc.tB (eOp1 dNotN (.v 8))) (eTup [(eOp2 dAdd (.v 6) (.e (eOp2 dIx (.v 8) (.e (eLit (.int 0)))))), (eOp2 dAdd (.v 7) (.e (eOp2 dIx (.v 8) (.e (eLit (.int 1))))))]))
def B_total_ranges_f1 : M Fl :=
  sSeq (sSet 5 (eLst []))
    (sSeq (sFor (wSeq (eV 3)) (.t [.n 6, .n 7]) (B_total_ranges_f2))
    (sSet 3 (eCall F_joined [.b 5])))
def B_total_ranges : M Fl :=
  sSeq (sDrop (eCall F_need_samples [.b 0]))
    (sSeq (sDrop (eCall F_need_rate [.b 1]))
    (sSeq (sSet 2 (eCall F_gaps_of [.b 0]))
    (sSeq (sIf (Rc.tB (eOp2 dGt (.e (eOp1 dLen (.v 2))) (.e (eLit (.int (10))))))
    (sNo)
    (sPass))
    (sSeq (sSet 3 (eLst [(eTup [(eLit (.int 0)), (eLit (.int 0))])]))
    (sSeq (sFor (wSeq (eV 2)) (.n 4) (B_total_ranges_f1))
    (sRetV 3))))))
def F_total_ranges : AF := fn 9 [0, 1] B_total_ranges
def F_lam0 : AF := fn 2 [] (sRet (eCall F_least_rate [.b 0]))
def lams : Str → Option AF := fun x => if x = "<lambda>0" then some F_lam0 else none
def doors : Str → Option AF := fun x => if x = "restart_statuses" then some F_restart_statuses else if x = "total_bounds" then some F_total_bounds else if x = "total_ranges" then some F_total_ranges else none
def B_law_f3 : M Fl :=
  sApp 6 (eCall F_law_status [.d (eOp2 dSub (.e (eOp2 dIx (.v 8) (.e (eLit (.int 0))))) (.e (eOp2 dIx (.v 7) (.e (eLit (.int 0)))))), .d (eOp2 dIx (.v 7) (.e (eLit (.int 1)))), .d (eOp2 dIx (.v 8) (.e (eLit (.int 1)))), .b 5])
def B_law_f2 : M Fl :=
  sIf (Rc.tB (eChain dLe dLe (.e (eLit (.int 1))) (.v 5) (.e (eOp2 dPow (.e (eLit (.int 10))) (.e (eLit (.int 6)))))))
    (sSeq (sSet 6 (eLst []))
    (sSeq (sFor (wZip2 (eV 3) (eCut (.v 3) (some (eLit (.int 1))) none)) (.t [.n 7, .n 8]) (B_law_f3))
    (sSeq (sSet 9 (eCall F_restart_statuses [.b 3, .b 5]))
    (sSeq (sIf ((Rc.tOr (Rc.tNot (Rc.tB (eCall (F_law_same 8) [.b 9, .b 6]))) (Rc.tB (eOp2 dNe (.e (eOp2 dIn (.e (eLit (.str (PySem.Str.ofString "contradiction")))) (.v 6))) (.e (eOp2 dLt (.v 5) (.v 4)))))))
    (sRet (eLit (.bool false)))
    (sPass))
    (sSeq (sApp 9 (eLit .none))
    (sIf (Rc.tB (eOp2 dNe (.e (eCall F_restart_statuses [.b 3, .b 5])) (.v 6)))
    (sRet (eLit (.bool false)))
    (sPass)))))))
    (sPass)
def B_law_f5 : M Fl :=
  sIf (Rc.tB (eOp2 dNe (.e (eTryP nms (pickV doors lams 11) [.d (eV 3), .d (eV 10)])) (.e (eLit (.str (PySem.Str.ofString "Rate+"))))))
    (sRet (eLit (.bool false)))
    (sPass)
def B_law_f4 : M Fl :=
  sFor (wSeq (eTup [(eLit (fnD "restart_statuses")), (eLit (fnD "total_bounds")), (eLit (fnD "total_ranges"))])) (.n 11) (B_law_f5)
def B_law_f6 : M Fl :=
  sIf (Rc.tB (eOp2 dNe (.e (eTryP nms (pickV doors lams 11) [.d (eLit .none), .d (eLit .none)])) (.e (eLit (.str (PySem.Str.ofString "Samples+"))))))
    (sRet (eLit (.bool false)))
    (sPass)
def B_law_f1 : M Fl :=
  sSeq (sSet 2 (eCall F_law_deck [.b 1, .d (eLit (.int 10))]))
    (sSeq (sSet 3 (eCall F_law_samples [.b 2, .d (eLit (.int 40))]))
    (sSeq (sSet 4 (eCall F_least_rate [.b 3]))
    (sSeq (sIf ((Rc.tOr (Rc.tNot (Rc.tB (eCall F_law_whole [.b 4]))) (Rc.tB (eOp2 dLt (.v 4) (.e (eLit (.int 1)))))))
    (sRet (eLit (.bool false)))
    (sPass))
    (sSeq (sFor (wSeq (eLst [(eV 4), (eOp2 dSub (.v 4) (.e (eLit (.int 1)))), (eOp2 dAdd (.v 4) (.e (eLit (.int 1)))), (eLit (.int 1)), (eOp2 dAdd (.e (eLit (.int 1))) (.e (eCall F_law_pick [.b 2, .d (eLit (.int 60))]))), (eOp2 dAdd (.e (eLit (.int 1))) (.e (eCall F_law_pick [.b 2, .d (eOp2 dPow (.e (eLit (.int 10))) (.e (eLit (.int 6))))]))), (eOp2 dPow (.e (eLit (.int 10))) (.e (eLit (.int 6))))])) (.n 5) (B_law_f2))
    (sSeq (sFor (wSeq (eLst [(eLit .none), (eLit (.bool true)), (eLit (.int 0)), (eOp2 dAdd (.e (eOp2 dPow (.e (eLit (.int 10))) (.e (eLit (.int 6))))) (.e (eLit (.int 1)))), (eLit (.str (PySem.Str.ofString "1")))])) (.n 10) (B_law_f4))
    (sFor (wSeq (eTup [(eLit (fnD "restart_statuses")), (eLit (fnD "total_bounds")), (eLit (fnD "total_ranges")), (eLit (lamD "<lambda>0"))])) (.n 11) (B_law_f6)))))))
def B_law : M Fl :=
  sSeq (sFor (wSeq (eCut (.e (eOp2 dAdd (.e (eLst [(eLit (.int 0))])) (.v 0))) none (some (eLit (.int 8))))) (.n 1) (B_law_f1))
    (sSeq (sIf ((Rc.tOr (Rc.tB (eOp2 dNe (.e (eCall F_least_rate [.d (eTup [])])) (.e (eLit (.int 1))))) (Rc.tB (eOp2 dNe (.e (eCall F_least_rate [.d (eTup [(eTup [(eLit (.int 0)), (eLit (.int 9))]), (eTup [(eLit (.int 2)), (eLit (.int 3))]), (eTup [(eLit (.int 3)), (eLit (.int 9))])])])) (.e (eLit (.int 6)))))))
    (sRet (eLit (.bool false)))
    (sPass))
    (sRet (eOp2 dEq (.e (eCall F_restart_statuses [.d (eTup [(eTup [(eLit (.int 0)), (eLit (.int 9))]), (eTup [(eLit (.int 1)), (eLit (.int 4))]), (eTup [(eLit (.int 2)), (eLit (.int 9))]), (eTup [(eLit (.int 3)), (eLit (.int 12))])]), .d (eLit (.int 5))])) (.e (eLst [(eLit (.str (PySem.Str.ofString "certain"))), (eLit (.str (PySem.Str.ofString "impossible"))), (eLit (.str (PySem.Str.ofString "impossible")))])))))
def F_law : AF := fn 12 [] B_law
abbrev s_law_deck : Stmt := top 37
abbrev s_law_pick : Stmt := top 38
abbrev s_law_one : Stmt := top 42
abbrev s_law_values : Stmt := top 45
abbrev s_law_samples : Stmt := top 46
abbrev s_is_from : Stmt := top 20
abbrev s_is_sample : Stmt := top 21
abbrev s_is_samples : Stmt := top 22
abbrev s_need_samples : Stmt := top 23
abbrev s_gaps_of : Stmt := top 28
abbrev s_step : Stmt := top 24
abbrev s_least_rate : Stmt := top 32
abbrev s_need_rate : Stmt := top 27
abbrev s_options : Stmt := top 29
abbrev s_status_of : Stmt := top 30
abbrev s_restart_statuses : Stmt := top 31
abbrev s_law_whole : Stmt := top 39
abbrev s_law_name_of : Stmt := top 40
abbrev s_law_try : Stmt := top 41
abbrev s_law_status : Stmt := top 47
abbrev s_law_sort : Stmt := top 43
abbrev s_law_same : Stmt := top 44
abbrev s_total_bounds : Stmt := top 33
abbrev s_joined : Stmt := top 34
abbrev s_total_ranges : Stmt := top 35
abbrev s_law : Stmt := top 48
structure Txt (K : PySem.W.Frag) (mg : Str → Option Value) : Prop where
  b_all : mg "all" = none
  b_bool : mg "bool" = none
  b_enumerate : mg "enumerate" = none
  b_int : mg "int" = none
  b_isinstance : mg "isinstance" = none
  b_len : mg "len" = none
  b_list : mg "list" = none
  b_max : mg "max" = none
  b_min : mg "min" = none
  b_range : mg "range" = none
  b_sorted : mg "sorted" = none
  b_str : mg "str" = none
  b_tuple : mg "tuple" = none
  b_zip : mg "zip" = none
  i_MOST_GAPS : ∃ t, mg "MOST_GAPS" = some (.int 10 t)
  i_MOST_SAMPLES : ∃ t, mg "MOST_SAMPLES" = some (.int 40 t)
  i_HIGHEST : ∃ t, mg "HIGHEST" = some (.int 1000000 t)
  i_LATEST : ∃ t, mg "LATEST" = some (.int 1000000000 t)
  e_InvalidRate : ∃ C, ExC K mg "InvalidRate" C
  e_InvalidSamples : ∃ C, ExC K mg "InvalidSamples" C
  b_ValueError : mg "ValueError" = none
  g_TooMany : ∃ C, mg "TooMany" = some (.ref C)
  g_CounterError : ∃ C, mg "CounterError" = some (.ref C)
  n_InvalidRate : ∃ D, mg "InvalidRate" = some (.ref D) ∧ ExcC K D ∧ KitBy K mg D "InvalidSamples" false ∧ KitBy K mg D "InvalidSample" false ∧ KitBy K mg D "InvalidIndex" false ∧ KitBy K mg D "InvalidNumber" false ∧ KitBy K mg D "InvalidRate" true ∧ KitBy K mg D "InvalidAmount" false ∧ KitBy K mg D "InvalidLength" false ∧ KitBy K mg D "InvalidRule" false ∧ KitBy K mg D "InvalidTable" false ∧ KitBy K mg D "InvalidCollectors" false ∧ KitBy K mg D "InvalidCounter" false ∧ KitBy K mg D "Contradiction" false ∧ KitBy K mg D "NothingToUndo" false ∧ KitBy K mg D "TooMany" false ∧ PySem.W.kitOne K (.ref D) (.type "ValueError") = some true ∧ ExmBy K mg D "TooMany" false ∧ ExmBy K mg D "CounterError" true
  n_InvalidSamples : ∃ D, mg "InvalidSamples" = some (.ref D) ∧ ExcC K D ∧ KitBy K mg D "InvalidSamples" true ∧ KitBy K mg D "InvalidSample" false ∧ KitBy K mg D "InvalidIndex" false ∧ KitBy K mg D "InvalidNumber" false ∧ KitBy K mg D "InvalidRate" false ∧ KitBy K mg D "InvalidAmount" false ∧ KitBy K mg D "InvalidLength" false ∧ KitBy K mg D "InvalidRule" false ∧ KitBy K mg D "InvalidTable" false ∧ KitBy K mg D "InvalidCollectors" false ∧ KitBy K mg D "InvalidCounter" false ∧ KitBy K mg D "Contradiction" false ∧ KitBy K mg D "NothingToUndo" false ∧ KitBy K mg D "TooMany" false ∧ PySem.W.kitOne K (.ref D) (.type "ValueError") = some true ∧ ExmBy K mg D "TooMany" false ∧ ExmBy K mg D "CounterError" true
  d_law_deck : ∃ f fd, Fun K "_law_deck" "_law_deck" s_law_deck f fd ∧ mg "_law_deck" = some (.ref f)
  d_law_pick : ∃ f fd, Fun K "_law_pick" "_law_pick" s_law_pick f fd ∧ mg "_law_pick" = some (.ref f)
  d_law_one : ∃ f fd, Fun K "_law_one" "_law_one" s_law_one f fd ∧ mg "_law_one" = some (.ref f)
  d_law_values : ∃ f fd, Fun K "_law_values" "_law_values" s_law_values f fd ∧ mg "_law_values" = some (.ref f)
  d_law_samples : ∃ f fd, Fun K "_law_samples" "_law_samples" s_law_samples f fd ∧ mg "_law_samples" = some (.ref f)
  d_is_from : ∃ f fd, Fun K "is_from" "is_from" s_is_from f fd ∧ mg "is_from" = some (.ref f)
  d_is_sample : ∃ f fd, Fun K "is_sample" "is_sample" s_is_sample f fd ∧ mg "is_sample" = some (.ref f)
  d_is_samples : ∃ f fd, Fun K "is_samples" "is_samples" s_is_samples f fd ∧ mg "is_samples" = some (.ref f)
  d_need_samples : ∃ f fd, Fun K "need_samples" "need_samples" s_need_samples f fd ∧ mg "need_samples" = some (.ref f)
  d_gaps_of : ∃ f fd, Fun K "gaps_of" "gaps_of" s_gaps_of f fd ∧ mg "gaps_of" = some (.ref f)
  d_step : ∃ f fd, Fun K "step" "step" s_step f fd ∧ mg "step" = some (.ref f)
  d_least_rate : ∃ f fd, Fun K "least_rate" "least_rate" s_least_rate f fd ∧ mg "least_rate" = some (.ref f)
  d_need_rate : ∃ f fd, Fun K "need_rate" "need_rate" s_need_rate f fd ∧ mg "need_rate" = some (.ref f)
  d_options : ∃ f fd, Fun K "options" "options" s_options f fd ∧ mg "options" = some (.ref f)
  d_status_of : ∃ f fd, Fun K "status_of" "status_of" s_status_of f fd ∧ mg "status_of" = some (.ref f)
  d_restart_statuses : ∃ f fd, Fun K "restart_statuses" "restart_statuses" s_restart_statuses f fd ∧ mg "restart_statuses" = some (.ref f)
  d_law_whole : ∃ f fd, Fun K "_law_whole" "_law_whole" s_law_whole f fd ∧ mg "_law_whole" = some (.ref f)
  d_law_name_of : ∃ f fd, Fun K "_law_name_of" "_law_name_of" s_law_name_of f fd ∧ mg "_law_name_of" = some (.ref f)
  d_law_try : ∃ f fd, Fun K "_law_try" "_law_try" s_law_try f fd ∧ mg "_law_try" = some (.ref f)
  d_law_status : ∃ f fd, Fun K "_law_status" "_law_status" s_law_status f fd ∧ mg "_law_status" = some (.ref f)
  d_law_sort : ∃ f fd, Fun K "_law_sort" "_law_sort" s_law_sort f fd ∧ mg "_law_sort" = some (.ref f)
  d_law_same : ∃ f fd, Fun K "_law_same" "_law_same" s_law_same f fd ∧ mg "_law_same" = some (.ref f)
  d_total_bounds : ∃ f fd, Fun K "total_bounds" "total_bounds" s_total_bounds f fd ∧ mg "total_bounds" = some (.ref f)
  d_joined : ∃ f fd, Fun K "joined" "joined" s_joined f fd ∧ mg "joined" = some (.ref f)
  d_total_ranges : ∃ f fd, Fun K "total_ranges" "total_ranges" s_total_ranges f fd ∧ mg "total_ranges" = some (.ref f)
  d_law : ∃ f fd, Fun K "law" "law" s_law f fd ∧ mg "law" = some (.ref f)
section
variable {P : Program} {w : World} {K : PySem.W.Frag} {mg : Str → Option Value} {base : Heap}
theorem sc_law_deck : FnScope ["_law_cell", "_law_turn"] ["_law_cell", "_law_turn"] (defScope s_law_deck) := ⟨rfl, rfl, rfl, by decide +kernel, rfl, by decide +kernel, by decide +kernel⟩
theorem has_law_deck (T : Txt K mg)  : Has P w K mg base "_law_deck" 2 1 F_law_deck := by
  obtain ⟨f, fd, hf, hm⟩ := T.d_law_deck
  exact def_has (N := ["_law_cell", "_law_turn"]) (ps := ["_law_cell", "_law_turn"]) (lst := [0, 1]) (body := B_law_deck) hf hm (hf.binds (ps := ["_law_cell", "_law_turn"]) fun _ _ _ _ _ _ us hl => match us, hl with | [_, _], _ => rfl) sc_law_deck (by decide) fun cdv A outer s H E F hr hb =>
    have sc := sc_law_deck
    (as_cons (as_if (t_ge (v_ 0) (e_ (a_pow (e_ (a_int)) (e_ (a_int))))) (as_one (as_ret (a_lst (al_cons (a_sub (v_ 0) (e_ (a_pow (e_ (a_int)) (e_ (a_int))))) (al_cons (a_mod (v_ 0) (e_ (a_int))) (al_cons (k_ 1) al_nil)))))) as_nil)
    (as_one (as_ret (a_lst (al_cons (a_int) (al_cons (a_mod (v_ 0) (e_ (a_int))) (al_cons (k_ 1) al_nil)))))))
theorem sc_law_pick : FnScope ["_law_deck_here", "_law_limit", "_law_found", "_law_number"] ["_law_deck_here", "_law_limit"] (defScope s_law_pick) := ⟨rfl, rfl, rfl, by decide +kernel, rfl, by decide +kernel, by decide +kernel⟩
theorem has_law_pick (T : Txt K mg)  : Has P w K mg base "_law_pick" 2 1 F_law_pick := by
  obtain ⟨f, fd, hf, hm⟩ := T.d_law_pick
  exact def_has (N := ["_law_deck_here", "_law_limit", "_law_found", "_law_number"]) (ps := ["_law_deck_here", "_law_limit"]) (lst := [0, 1]) (body := B_law_pick) hf hm (hf.binds (ps := ["_law_deck_here", "_law_limit"]) fun _ _ _ _ _ _ us hl => match us, hl with | [_, _], _ => rfl) sc_law_pick (by decide) fun cdv A outer s H E F hr hb =>
    have sc := sc_law_pick
    (as_cons (as_if (t_gt (e_ (a_ix (v_ 0) (e_ (a_int)) (fun _ _ => rfl))) (e_ (a_int))) (as_cons (s_set 2 (hb 2 (by decide)) sc.nd (a_mod (e_ (a_ix (v_ 0) (e_ (a_int)) (fun _ _ => rfl))) (v_ 1)))
    (as_cons (s_setIx 0 (a_div (e_ (a_ix (v_ 0) (e_ (a_int)) (fun _ _ => rfl))) (v_ 1)) (a_int))
    (as_one (s_retV 2 (hb 2 (by decide)))))) as_nil)
    (as_cons (s_setIx 0 (a_add (e_ (a_ix (v_ 0) (e_ (a_int)) (fun _ _ => rfl))) (e_ (a_int))) (a_int))
    (as_cons (s_set 3 (hb 3 (by decide)) sc.nd (a_mod (e_ (a_pow (e_ (a_add (e_ (a_ix (v_ 0) (e_ (a_int)) (fun _ _ => rfl))) (e_ (a_mul (e_ (a_int)) (e_ (a_ix (v_ 0) (e_ (a_int)) (fun _ _ => rfl))))))) (e_ (a_int)))) (e_ (a_int))))
    (as_cons (s_set 2 (hb 2 (by decide)) sc.nd (a_div (e_ (a_mod (e_ (a_pow (e_ (a_add (v_ 3) (e_ (a_mul (e_ (a_int)) (e_ (a_ix (v_ 0) (e_ (a_int)) (fun _ _ => rfl))))))) (e_ (a_int)))) (e_ (a_int)))) (e_ (a_int))))
    (as_cons (as_if (t_gt (v_ 1) (e_ (a_int))) (as_one (as_ret (a_mod (e_ (a_add (e_ (a_mul (v_ 2) (e_ (a_int)))) (v_ 3))) (v_ 1)))) as_nil)
    (as_one (as_ret (a_mod (v_ 2) (v_ 1)))))))))
theorem sc_law_one : FnScope ["_law_deck_here", "_law_some"] ["_law_deck_here", "_law_some"] (defScope s_law_one) := ⟨rfl, rfl, rfl, by decide +kernel, rfl, by decide +kernel, by decide +kernel⟩
theorem has_law_one (T : Txt K mg) (h_law_pick : Has P w K mg base "_law_pick" 2 1 F_law_pick) : Has P w K mg base "_law_one" 2 2 F_law_one := by
  obtain ⟨f, fd, hf, hm⟩ := T.d_law_one
  exact def_has (N := ["_law_deck_here", "_law_some"]) (ps := ["_law_deck_here", "_law_some"]) (lst := [0, 1]) (body := B_law_one) hf hm (hf.binds (ps := ["_law_deck_here", "_law_some"]) fun _ _ _ _ _ _ us hl => match us, hl with | [_, _], _ => rfl) sc_law_one (by decide) fun cdv A outer s H E F hr hb =>
    have sc := sc_law_one
    (as_one (as_ret (a_ix (v_ 1) (e_ (f_call h_law_pick (hr.mono (by decide)) px (b_ 0 (aa_d (f_len T.b_len (v_ 1)) aa_nil)))) (fun _ _ => rfl))))
theorem sc_law_values : FnScope ["_law_deck_here", "_law_many", "_law_top", "_law_value", "_law_found", "_law_turn", "_law_way_here"] ["_law_deck_here", "_law_many"] (defScope s_law_values) := ⟨rfl, rfl, rfl, by decide +kernel, rfl, by decide +kernel, by decide +kernel⟩
theorem has_law_values (T : Txt K mg) (h_law_one : Has P w K mg base "_law_one" 2 2 F_law_one) (h_law_pick : Has P w K mg base "_law_pick" 2 1 F_law_pick) : Has P w K mg base "_law_values" 2 3 F_law_values := by
  obtain ⟨f, fd, hf, hm⟩ := T.d_law_values
  exact def_has (N := ["_law_deck_here", "_law_many", "_law_top", "_law_value", "_law_found", "_law_turn", "_law_way_here"]) (ps := ["_law_deck_here", "_law_many"]) (lst := [0, 1]) (body := B_law_values) hf hm (hf.binds (ps := ["_law_deck_here", "_law_many"]) fun _ _ _ _ _ _ us hl => match us, hl with | [_, _], _ => rfl) sc_law_values (by decide) fun cdv A outer s H E F hr hb =>
    have sc := sc_law_values
    (as_cons (s_par3 2 3 4 (hb 2 (by decide)) (hb 3 (by decide)) (hb 4 (by decide)) rfl sc.nd (f_call h_law_one (hr.mono (by decide)) px (b_ 0 (aa_d (a_lst (al_cons (a_int) (al_cons (a_int) (al_cons (a_int) (al_cons (a_pow (e_ (a_int)) (e_ (a_int))) al_nil))))) aa_nil))) (a_int) (a_lst al_nil))
    (as_cons (as_for po rfl (w_range1 T.b_range (al_cons (f_call h_law_pick (hr.mono (by decide)) px (b_ 0 (aa_d (a_add (v_ 1) (e_ (a_int))) aa_nil))) al_nil)) (g_ 5 (hb 5 (by decide)) sc.nd) (as_cons (s_set 6 (hb 6 (by decide)) sc.nd (f_call h_law_pick (hr.mono (by decide)) px (b_ 0 (aa_d (a_int) aa_nil))))
    (as_cons (as_if (t_lt (v_ 6) (e_ (a_int))) (as_one (s_set 3 (hb 3 (by decide)) sc.nd (f_min2 rfl T.b_min (e_ (a_pow (e_ (a_int)) (e_ (a_int)))) (e_ (a_add (v_ 3) (e_ (f_call h_law_pick (hr.mono (by decide)) px (b_ 0 (aa_d (a_add (v_ 2) (e_ (a_int))) aa_nil))))))))) (as_one (as_if (t_lt (v_ 6) (e_ (a_int))) (as_one (s_set 3 (hb 3 (by decide)) sc.nd (f_call h_law_pick (hr.mono (by decide)) px (b_ 0 (aa_d (a_add (v_ 2) (e_ (a_int))) aa_nil))))) (as_one (as_if (t_eq hr (v_ 6) (e_ (a_int))) (as_one (s_set 3 (hb 3 (by decide)) sc.nd (f_call h_law_pick (hr.mono (by decide)) px (b_ 0 (aa_d (a_add (v_ 3) (e_ (a_int))) aa_nil))))) as_nil)))))
    (as_one (as_app (i := 4) (k_ 3) rfl (by first | exact Or.inl rfl | exact Or.inr (Or.inl rfl) | exact Or.inr (Or.inr rfl)))))))
    (as_one (s_retV 4 (hb 4 (by decide))))))
theorem sc_law_samples : FnScope ["_law_deck_here", "_law_many", "_law_time", "_law_found", "_law_value"] ["_law_deck_here", "_law_many"] (defScope s_law_samples) := ⟨rfl, rfl, rfl, by decide +kernel, rfl, by decide +kernel, by decide +kernel⟩
theorem has_law_samples (T : Txt K mg) (h_law_one : Has P w K mg base "_law_one" 2 2 F_law_one) (h_law_pick : Has P w K mg base "_law_pick" 2 1 F_law_pick) (h_law_values : Has P w K mg base "_law_values" 2 3 F_law_values) : Has P w K mg base "_law_samples" 2 4 F_law_samples := by
  obtain ⟨f, fd, hf, hm⟩ := T.d_law_samples
  exact def_has (N := ["_law_deck_here", "_law_many", "_law_time", "_law_found", "_law_value"]) (ps := ["_law_deck_here", "_law_many"]) (lst := [0, 1]) (body := B_law_samples) hf hm (hf.binds (ps := ["_law_deck_here", "_law_many"]) fun _ _ _ _ _ _ us hl => match us, hl with | [_, _], _ => rfl) sc_law_samples (by decide) fun cdv A outer s H E F hr hb =>
    have sc := sc_law_samples
    (as_cons (s_par 2 3 (hb 2 (by decide)) (hb 3 (by decide)) rfl sc.nd (f_call h_law_one (hr.mono (by decide)) px (b_ 0 (aa_d (a_lst (al_cons (a_int) (al_cons (a_int) (al_cons (f_call h_law_pick (hr.mono (by decide)) px (b_ 0 (aa_d (a_pow (e_ (a_int)) (e_ (a_int))) aa_nil))) al_nil)))) aa_nil))) (a_tup al_nil))
    (as_cons (as_for po rfl (ai_seq (f_call h_law_values (hr.mono (by decide)) px (b_ 0 (b_ 1 aa_nil)))) (g_ 4 (hb 4 (by decide)) sc.nd) (as_cons (s_set 3 (hb 3 (by decide)) sc.nd (a_add (v_ 3) (e_ (a_tup (al_cons (a_tup (al_cons (k_ 2) (al_cons (k_ 4) al_nil))) al_nil)))))
    (as_one (s_set 2 (hb 2 (by decide)) sc.nd (a_add (e_ (a_add (v_ 2) (e_ (a_int)))) (e_ (f_call h_law_pick (hr.mono (by decide)) px (b_ 0 (aa_d (f_call h_law_one (hr.mono (by decide)) px (b_ 0 (aa_d (a_lst (al_cons (a_int) (al_cons (a_int) (al_cons (a_int) (al_cons (a_int) al_nil))))) aa_nil))) aa_nil)))))))))
    (as_one (s_retV 3 (hb 3 (by decide))))))
theorem sc_is_from : FnScope ["value", "low", "high"] ["value", "low", "high"] (defScope s_is_from) := ⟨rfl, rfl, rfl, by decide +kernel, rfl, by decide +kernel, by decide +kernel⟩
theorem has_is_from (T : Txt K mg)  : Has P w K mg base "is_from" 3 1 F_is_from := by
  obtain ⟨f, fd, hf, hm⟩ := T.d_is_from
  exact def_has (N := ["value", "low", "high"]) (ps := ["value", "low", "high"]) (lst := [0, 1, 2]) (body := B_is_from) hf hm (hf.binds (ps := ["value", "low", "high"]) fun _ _ _ _ _ _ us hl => match us, hl with | [_, _, _], _ => rfl) sc_is_from (by decide) fun cdv A outer s H E F hr hb =>
    have sc := sc_is_from
    (as_one (as_ret ((a_and (f_isi .int T.b_isinstance T.b_int (v_ 0)) (a_and (a_not (f_isi .bool T.b_isinstance T.b_bool (v_ 0))) (a_and1 (a_chain op_le op2_le op_le op2_le (v_ 1) (v_ 0) (v_ 2))))))))
theorem sc_is_sample : FnScope ["value"] ["value"] (defScope s_is_sample) := ⟨rfl, rfl, rfl, by decide +kernel, rfl, by decide +kernel, by decide +kernel⟩
theorem has_is_sample (T : Txt K mg) (h_is_from : Has P w K mg base "is_from" 3 1 F_is_from) : Has P w K mg base "is_sample" 1 2 F_is_sample := by
  obtain ⟨f, fd, hf, hm⟩ := T.d_is_sample
  exact def_has (N := ["value"]) (ps := ["value"]) (lst := [0]) (body := B_is_sample) hf hm (hf.binds (ps := ["value"]) fun _ _ _ _ _ _ us hl => match us, hl with | [_], _ => rfl) sc_is_sample (by decide) fun cdv A outer s H E F hr hb =>
    have sc := sc_is_sample
    (as_cons (as_if (at_w (aw_or (at_not (at_val (f_isi .tuple T.b_isinstance T.b_tuple (v_ 0)))) (aw_or1 (t_ne hr (e_ (f_len T.b_len (v_ 0))) (e_ (a_int)))))) (as_one (as_ret (a_bl))) as_nil)
    (as_one (as_ret ((a_and (f_call h_is_from (hr.mono (by decide)) px (aa_d (a_ix (v_ 0) (e_ (a_int)) (fun _ _ => rfl)) (aa_d (a_int) (aa_d (f_gInt T.i_LATEST) aa_nil)))) (a_and1 (f_call h_is_from (hr.mono (by decide)) px (aa_d (a_ix (v_ 0) (e_ (a_int)) (fun _ _ => rfl)) (aa_d (a_int) (aa_d (f_gInt T.i_HIGHEST) aa_nil))))))))))
theorem sc_is_samples : FnScope ["value", "one", "other"] ["value"] (defScope s_is_samples) := ⟨rfl, rfl, rfl, by decide +kernel, rfl, by decide +kernel, by decide +kernel⟩
theorem has_is_samples (T : Txt K mg) (h_is_sample : Has P w K mg base "is_sample" 1 2 F_is_sample) : Has P w K mg base "is_samples" 1 3 F_is_samples := by
  obtain ⟨f, fd, hf, hm⟩ := T.d_is_samples
  exact def_has (N := ["value", "one", "other"]) (ps := ["value"]) (lst := [0]) (body := B_is_samples) hf hm (hf.binds (ps := ["value"]) fun _ _ _ _ _ _ us hl => match us, hl with | [_], _ => rfl) sc_is_samples (by decide) fun cdv A outer s H E F hr hb =>
    have sc := sc_is_samples
    (as_cons (as_if (at_w (aw_or (at_not (at_val (f_isi .tuple T.b_isinstance T.b_tuple (v_ 0)))) (aw_or (t_gt (e_ (f_len T.b_len (v_ 0))) (e_ (f_gInt T.i_MOST_SAMPLES))) (aw_or1 (at_not (at_val (f_all rfl T.b_all (e_ (w_lc [("one", 1)] rfl sc.nd (j_n 0) (brwL hb) (fun _ _ _ _ _ => g_ 1 (hb 1 (by decide)) sc.nd) (fun _ _ _ _ _ => (ts_yes _)) (fun _ _ _ _ _ => (f_call h_is_sample (hr.mono (by decide)) passE (b_ 1 aa_nil)))))))))))) (as_one (as_ret (a_bl))) as_nil)
    (as_one (as_ret (f_all rfl T.b_all (e_ (w_lc [("one", 1), ("other", 2)] rfl sc.nd (AI.aj (w_zip2 T.b_zip (al_cons (k_ 0) (al_cons (a_cut (v_ 0) (ap_some (a_int)) ap_none) al_nil)))) (brwL hb) (fun _ _ _ _ _ => ag_tup rfl (ags_cons (g_ 1 (hb 1 (by decide)) sc.nd) (ags_cons (g_ 2 (hb 2 (by decide)) sc.nd) ags_nil))) (fun _ _ _ _ _ => (ts_yes _)) (fun _ _ _ _ _ => (c_lt (e_ (a_ix (v_ 1) (e_ (a_int)) (fun _ _ => rfl))) (e_ (a_ix (v_ 2) (e_ (a_int)) (fun _ _ => rfl)))))))))))
theorem sc_need_samples : FnScope ["samples"] ["samples"] (defScope s_need_samples) := ⟨rfl, rfl, rfl, by decide +kernel, rfl, by decide +kernel, by decide +kernel⟩
theorem has_need_samples (T : Txt K mg) (h_is_samples : Has P w K mg base "is_samples" 1 3 F_is_samples) : Has P w K mg base "need_samples" 1 4 F_need_samples := by
  obtain ⟨f, fd, hf, hm⟩ := T.d_need_samples
  exact def_has (N := ["samples"]) (ps := ["samples"]) (lst := [0]) (body := B_need_samples) hf hm (hf.binds (ps := ["samples"]) fun _ _ _ _ _ _ us hl => match us, hl with | [_], _ => rfl) sc_need_samples (by decide) fun cdv A outer s H E F hr hb =>
    have sc := sc_need_samples
    (as_one (as_if (at_not (at_val (f_call h_is_samples (hr.mono (by decide)) px (b_ 0 aa_nil)))) (as_one (s_raise rfl (L2N.takes_of rfl rfl rfl rfl) T.e_InvalidSamples)) as_nil))
theorem sc_gaps_of : FnScope ["samples", "one", "other"] ["samples"] (defScope s_gaps_of) := ⟨rfl, rfl, rfl, by decide +kernel, rfl, by decide +kernel, by decide +kernel⟩
theorem has_gaps_of (T : Txt K mg)  : Has P w K mg base "gaps_of" 1 1 F_gaps_of := by
  obtain ⟨f, fd, hf, hm⟩ := T.d_gaps_of
  exact def_has (N := ["samples", "one", "other"]) (ps := ["samples"]) (lst := [0]) (body := B_gaps_of) hf hm (hf.binds (ps := ["samples"]) fun _ _ _ _ _ _ us hl => match us, hl with | [_], _ => rfl) sc_gaps_of (by decide) fun cdv A outer s H E F hr hb =>
    have sc := sc_gaps_of
    (as_one (as_ret (w_lc [("one", 1), ("other", 2)] rfl sc.nd (AI.aj (w_zip2 T.b_zip (al_cons (k_ 0) (al_cons (a_cut (v_ 0) (ap_some (a_int)) ap_none) al_nil)))) (brwL hb) (fun _ _ _ _ _ => ag_tup rfl (ags_cons (g_ 1 (hb 1 (by decide)) sc.nd) (ags_cons (g_ 2 (hb 2 (by decide)) sc.nd) ags_nil))) (fun _ _ _ _ _ => (ts_yes _)) (fun _ _ _ _ _ => (a_tup (al_cons (a_sub (e_ (a_ix (v_ 2) (e_ (a_int)) (fun _ _ => rfl))) (e_ (a_ix (v_ 1) (e_ (a_int)) (fun _ _ => rfl)))) (al_cons (a_ix (v_ 1) (e_ (a_int)) (fun _ _ => rfl)) (al_cons (a_ix (v_ 2) (e_ (a_int)) (fun _ _ => rfl)) al_nil))))))))
theorem sc_step : FnScope ["one", "other"] ["one", "other"] (defScope s_step) := ⟨rfl, rfl, rfl, by decide +kernel, rfl, by decide +kernel, by decide +kernel⟩
theorem has_step (T : Txt K mg)  : Has P w K mg base "step" 2 1 F_step := by
  obtain ⟨f, fd, hf, hm⟩ := T.d_step
  exact def_has (N := ["one", "other"]) (ps := ["one", "other"]) (lst := [0, 1]) (body := B_step) hf hm (hf.binds (ps := ["one", "other"]) fun _ _ _ _ _ _ us hl => match us, hl with | [_, _], _ => rfl) sc_step (by decide) fun cdv A outer s H E F hr hb =>
    have sc := sc_step
    (as_one (as_ret (a_if (t_ge (v_ 1) (v_ 0)) (a_sub (v_ 1) (v_ 0)) (k_ 1))))
theorem sc_least_rate : FnScope ["samples", "found", "length", "one", "other"] ["samples"] (defScope s_least_rate) := ⟨rfl, rfl, rfl, by decide +kernel, rfl, by decide +kernel, by decide +kernel⟩
theorem has_least_rate (T : Txt K mg) (h_need_samples : Has P w K mg base "need_samples" 1 4 F_need_samples) (h_gaps_of : Has P w K mg base "gaps_of" 1 1 F_gaps_of) (h_step : Has P w K mg base "step" 2 1 F_step) : Has P w K mg base "least_rate" 1 5 F_least_rate := by
  obtain ⟨f, fd, hf, hm⟩ := T.d_least_rate
  exact def_has (N := ["samples", "found", "length", "one", "other"]) (ps := ["samples"]) (lst := [0]) (body := B_least_rate) hf hm (hf.binds (ps := ["samples"]) fun _ _ _ _ _ _ us hl => match us, hl with | [_], _ => rfl) sc_least_rate (by decide) fun cdv A outer s H E F hr hb =>
    have sc := sc_least_rate
    (as_cons (as_drop (f_call h_need_samples (hr.mono (by decide)) px (b_ 0 aa_nil)))
    (as_cons (s_set 1 (hb 1 (by decide)) sc.nd (a_int))
    (as_cons (as_for po rfl (ai_seq (f_call h_gaps_of (hr.mono (by decide)) px (b_ 0 aa_nil))) (ag_tup rfl (ags_cons (g_ 2 (hb 2 (by decide)) sc.nd) (ags_cons (g_ 3 (hb 3 (by decide)) sc.nd) (ags_cons (g_ 4 (hb 4 (by decide)) sc.nd) ags_nil)))) (as_one (s_set 1 (hb 1 (by decide)) sc.nd (f_max2 rfl T.b_max (v_ 1) (e_ (a_div (e_ (a_sub (e_ (a_add (e_ (f_call h_step (hr.mono (by decide)) px (b_ 3 (b_ 4 aa_nil)))) (v_ 2))) (e_ (a_int)))) (v_ 2)))))))
    (as_one (s_retV 1 (hb 1 (by decide)))))))
theorem sc_need_rate : FnScope ["rate"] ["rate"] (defScope s_need_rate) := ⟨rfl, rfl, rfl, by decide +kernel, rfl, by decide +kernel, by decide +kernel⟩
theorem has_need_rate (T : Txt K mg) (h_is_from : Has P w K mg base "is_from" 3 1 F_is_from) : Has P w K mg base "need_rate" 1 2 F_need_rate := by
  obtain ⟨f, fd, hf, hm⟩ := T.d_need_rate
  exact def_has (N := ["rate"]) (ps := ["rate"]) (lst := [0]) (body := B_need_rate) hf hm (hf.binds (ps := ["rate"]) fun _ _ _ _ _ _ us hl => match us, hl with | [_], _ => rfl) sc_need_rate (by decide) fun cdv A outer s H E F hr hb =>
    have sc := sc_need_rate
    (as_one (as_if (at_not (at_val (f_call h_is_from (hr.mono (by decide)) px (b_ 0 (aa_d (a_int) (aa_d (f_gInt T.i_HIGHEST) aa_nil)))))) (as_one (s_raise rfl (L2N.takes_of rfl rfl rfl rfl) T.e_InvalidRate)) as_nil))
theorem sc_options : FnScope ["gap", "rate", "length", "one", "other", "most", "plain"] ["gap", "rate"] (defScope s_options) := ⟨rfl, rfl, rfl, by decide +kernel, rfl, by decide +kernel, by decide +kernel⟩
theorem has_options (T : Txt K mg)  : Has P w K mg base "options" 2 1 F_options := by
  obtain ⟨f, fd, hf, hm⟩ := T.d_options
  exact def_has (N := ["gap", "rate", "length", "one", "other", "most", "plain"]) (ps := ["gap", "rate"]) (lst := [0, 1]) (body := B_options) hf hm (hf.binds (ps := ["gap", "rate"]) fun _ _ _ _ _ _ us hl => match us, hl with | [_, _], _ => rfl) sc_options (by decide) fun cdv A outer s H E F hr hb =>
    have sc := sc_options
    (as_cons (as_unp (k_ 0) (ag_tup rfl (ags_cons (g_ 2 (hb 2 (by decide)) sc.nd) (ags_cons (g_ 3 (hb 3 (by decide)) sc.nd) (ags_cons (g_ 4 (hb 4 (by decide)) sc.nd) ags_nil)))))
    (as_cons (s_set 5 (hb 5 (by decide)) sc.nd (a_mul (v_ 1) (v_ 2)))
    (as_cons (s_set 6 (hb 6 (by decide)) sc.nd (a_if (at_chain op_le op2_le op_le op2_le (e_ (a_int)) (e_ (a_sub (v_ 4) (v_ 3))) (v_ 5)) (a_tup (al_cons (a_sub (v_ 4) (v_ 3)) (al_cons (a_sub (v_ 4) (v_ 3)) al_nil))) (a_non)))
    (as_one (as_ret (a_tup (al_cons (k_ 6) (al_cons (a_if (t_le (v_ 4) (v_ 5)) (a_tup (al_cons (k_ 4) (al_cons (k_ 5) al_nil))) (a_non)) al_nil))))))))
theorem sc_status_of : FnScope ["gap", "rate", "plain", "restarted"] ["gap", "rate"] (defScope s_status_of) := ⟨rfl, rfl, rfl, by decide +kernel, rfl, by decide +kernel, by decide +kernel⟩
theorem has_status_of (T : Txt K mg) (h_options : Has P w K mg base "options" 2 1 F_options) : Has P w K mg base "status_of" 2 2 F_status_of := by
  obtain ⟨f, fd, hf, hm⟩ := T.d_status_of
  exact def_has (N := ["gap", "rate", "plain", "restarted"]) (ps := ["gap", "rate"]) (lst := [0, 1]) (body := B_status_of) hf hm (hf.binds (ps := ["gap", "rate"]) fun _ _ _ _ _ _ us hl => match us, hl with | [_, _], _ => rfl) sc_status_of (by decide) fun cdv A outer s H E F hr hb =>
    have sc := sc_status_of
    (as_cons (as_unp (f_call h_options (hr.mono (by decide)) px (b_ 0 (b_ 1 aa_nil))) (ag_tup rfl (ags_cons (g_ 2 (hb 2 (by decide)) sc.nd) (ags_cons (g_ 3 (hb 3 (by decide)) sc.nd) ags_nil))))
    (as_cons (as_if (t_isN (v_ 2)) (as_one (as_ret (a_if (t_isN (v_ 3)) (a_str) (a_str)))) as_nil)
    (as_one (as_ret (a_if (t_isN (v_ 3)) (a_str) (a_str))))))
theorem sc_restart_statuses : FnScope ["samples", "rate", "gap"] ["samples", "rate"] (defScope s_restart_statuses) := ⟨rfl, rfl, rfl, by decide +kernel, rfl, by decide +kernel, by decide +kernel⟩
theorem has_restart_statuses (T : Txt K mg) (h_need_samples : Has P w K mg base "need_samples" 1 4 F_need_samples) (h_need_rate : Has P w K mg base "need_rate" 1 2 F_need_rate) (h_gaps_of : Has P w K mg base "gaps_of" 1 1 F_gaps_of) (h_status_of : Has P w K mg base "status_of" 2 2 F_status_of) : Has P w K mg base "restart_statuses" 2 5 F_restart_statuses := by
  obtain ⟨f, fd, hf, hm⟩ := T.d_restart_statuses
  exact def_has (N := ["samples", "rate", "gap"]) (ps := ["samples", "rate"]) (lst := [0, 1]) (body := B_restart_statuses) hf hm (hf.binds (ps := ["samples", "rate"]) fun _ _ _ _ _ _ us hl => match us, hl with | [_, _], _ => rfl) sc_restart_statuses (by decide) fun cdv A outer s H E F hr hb =>
    have sc := sc_restart_statuses
    (as_cons (as_drop (f_call h_need_samples (hr.mono (by decide)) px (b_ 0 aa_nil)))
    (as_cons (as_drop (f_call h_need_rate (hr.mono (by decide)) px (b_ 1 aa_nil)))
    (as_one (as_ret (w_lc [("gap", 2)] rfl sc.nd (AI.aj (ai_seq (f_call h_gaps_of (hr.mono (by decide)) px (b_ 0 aa_nil)))) (brwL hb) (fun _ _ _ _ _ => g_ 2 (hb 2 (by decide)) sc.nd) (fun _ _ _ _ _ => (ts_yes _)) (fun _ _ _ _ _ => (f_call h_status_of (hr.mono (by decide)) passE (b_ 2 (b_ 1 aa_nil)))))))))
theorem sc_law_whole : FnScope ["_law_thing"] ["_law_thing"] (defScope s_law_whole) := ⟨rfl, rfl, rfl, by decide +kernel, rfl, by decide +kernel, by decide +kernel⟩
theorem has_law_whole (T : Txt K mg)  : Has P w K mg base "_law_whole" 1 1 F_law_whole := by
  obtain ⟨f, fd, hf, hm⟩ := T.d_law_whole
  exact def_has (N := ["_law_thing"]) (ps := ["_law_thing"]) (lst := [0]) (body := B_law_whole) hf hm (hf.binds (ps := ["_law_thing"]) fun _ _ _ _ _ _ us hl => match us, hl with | [_], _ => rfl) sc_law_whole (by decide) fun cdv A outer s H E F hr hb =>
    have sc := sc_law_whole
    (as_one (as_ret ((a_and (f_isi .int T.b_isinstance T.b_int (v_ 0)) (a_and1 (a_not (f_isi .bool T.b_isinstance T.b_bool (v_ 0))))))))
theorem sc_law_name_of : FnScope ["_law_e", "_law_matching", "_law_words", "_law_word", "_law_good"] ["_law_e"] (defScope s_law_name_of) := ⟨rfl, rfl, rfl, by decide +kernel, rfl, by decide +kernel, by decide +kernel⟩
theorem sc_law_try : FnScope ["_law_door", "_law_found", "_law_e"] ["_law_door"] (defScope s_law_try) := ⟨rfl, rfl, rfl, by decide +kernel, rfl, by decide +kernel, by decide +kernel⟩
theorem sc_law_status : FnScope ["_law_length", "_law_one_here", "_law_other", "_law_most_so", "_law_plain", "_law_again_so"] ["_law_length", "_law_one_here", "_law_other", "_law_most_so"] (defScope s_law_status) := ⟨rfl, rfl, rfl, by decide +kernel, rfl, by decide +kernel, by decide +kernel⟩
theorem has_law_status (T : Txt K mg)  : Has P w K mg base "_law_status" 4 1 F_law_status := by
  obtain ⟨f, fd, hf, hm⟩ := T.d_law_status
  exact def_has (N := ["_law_length", "_law_one_here", "_law_other", "_law_most_so", "_law_plain", "_law_again_so"]) (ps := ["_law_length", "_law_one_here", "_law_other", "_law_most_so"]) (lst := [0, 1, 2, 3]) (body := B_law_status) hf hm (hf.binds (ps := ["_law_length", "_law_one_here", "_law_other", "_law_most_so"]) fun _ _ _ _ _ _ us hl => match us, hl with | [_, _, _, _], _ => rfl) sc_law_status (by decide) fun cdv A outer s H E F hr hb =>
    have sc := sc_law_status
    (as_cons (s_set 4 (hb 4 (by decide)) sc.nd ((a_and (c_ge (v_ 2) (v_ 1)) (a_and1 (c_le (e_ (a_sub (v_ 2) (v_ 1))) (e_ (a_mul (v_ 3) (v_ 0))))))))
    (as_cons (s_set 5 (hb 5 (by decide)) sc.nd (c_le (v_ 2) (e_ (a_mul (v_ 3) (v_ 0)))))
    (as_cons (as_if (at_w (aw_and (at_val (k_ 4)) (aw_and1 (at_val (k_ 5))))) (as_one (as_ret (a_str))) as_nil)
    (as_cons (as_if (at_val (k_ 4)) (as_one (as_ret (a_str))) as_nil)
    (as_one (as_ret (a_if (at_val (k_ 5)) (a_str) (a_str))))))))
theorem sc_law_sort : FnScope ["_law_thing"] ["_law_thing"] (defScope s_law_sort) := ⟨rfl, rfl, rfl, by decide +kernel, rfl, by decide +kernel, by decide +kernel⟩
theorem has_law_sort (T : Txt K mg)  : Has P w K mg base "_law_sort" 1 1 F_law_sort := by
  obtain ⟨f, fd, hf, hm⟩ := T.d_law_sort
  exact def_has (N := ["_law_thing"]) (ps := ["_law_thing"]) (lst := [0]) (body := B_law_sort) hf hm (hf.binds (ps := ["_law_thing"]) fun _ _ _ _ _ _ us hl => match us, hl with | [_], _ => rfl) sc_law_sort (by decide) fun cdv A outer s H E F hr hb =>
    have sc := sc_law_sort
    (as_cons (as_if (at_val (f_isi .bool T.b_isinstance T.b_bool (v_ 0))) (as_one (as_ret (a_int))) as_nil)
    (as_cons (as_if (at_val (f_isi .int T.b_isinstance T.b_int (v_ 0))) (as_one (as_ret (a_int))) as_nil)
    (as_cons (as_if (at_val (f_isi .str T.b_isinstance T.b_str (v_ 0))) (as_one (as_ret (a_int))) as_nil)
    (as_cons (as_if (at_val (f_isi .list T.b_isinstance T.b_list (v_ 0))) (as_one (as_ret (a_int))) as_nil)
    (as_one (as_ret (a_if (at_val (f_isi .tuple T.b_isinstance T.b_tuple (v_ 0))) (a_int) (a_int))))))))
theorem sc_law_same : FnScope ["_law_told", "_law_due", "_law_k", "_law_part"] ["_law_told", "_law_due"] (defScope s_law_same) := ⟨rfl, rfl, rfl, by decide +kernel, rfl, by decide +kernel, by decide +kernel⟩
theorem has_law_same (T : Txt K mg) (h_law_sort : Has P w K mg base "_law_sort" 1 1 F_law_sort) : ∀ n, Has P w K mg base "_law_same" 2 (1 + n + 1) (F_law_same n)
  | 0 => by
    obtain ⟨f, fd, hf, hm⟩ := T.d_law_same
    exact has_no hf hm (hf.binds (ps := ["_law_told", "_law_due"]) fun _ _ _ _ _ _ us hl => match us, hl with | [_, _], _ => rfl)
  | n + 1 => by
    have ih := has_law_same T h_law_sort n
    obtain ⟨f, fd, hf, hm⟩ := T.d_law_same
    exact def_has (N := ["_law_told", "_law_due", "_law_k", "_law_part"]) (ps := ["_law_told", "_law_due"]) (lst := [0, 1]) (body := B_law_same (F_law_same n)) hf hm (hf.binds (ps := ["_law_told", "_law_due"]) fun _ _ _ _ _ _ us hl => match us, hl with | [_, _], _ => rfl) sc_law_same (by decide) fun cdv A outer s H E F hr hb =>
    have sc := sc_law_same
    (as_cons (as_if (t_ne hr (e_ (f_call h_law_sort (hr.mono (by omega)) px (b_ 0 aa_nil))) (e_ (f_call h_law_sort (hr.mono (by omega)) px (b_ 1 aa_nil)))) (as_one (as_ret (a_bl))) as_nil)
    (as_cons (as_if (at_w (aw_and (t_gt (e_ (f_call h_law_sort (hr.mono (by omega)) px (b_ 0 aa_nil))) (e_ (a_int))) (aw_and1 (t_lt (e_ (f_call h_law_sort (hr.mono (by omega)) px (b_ 0 aa_nil))) (e_ (a_int)))))) (as_cons (as_if (t_ne hr (e_ (f_len T.b_len (v_ 0))) (e_ (f_len T.b_len (v_ 1)))) (as_one (as_ret (a_bl))) as_nil)
    (as_one (as_ret (c_eq hr (e_ (w_lc [("_law_k", 2), ("_law_part", 3)] rfl sc.nd (j_ne 0 T.b_enumerate) (brwL hb) (fun _ _ _ _ _ => ag_tup rfl (ags_cons (g_ 2 (hb 2 (by decide)) sc.nd) (ags_cons (g_ 3 (hb 3 (by decide)) sc.nd) ags_nil))) (fun _ _ _ _ _ => (ts_one (at_not (at_val (f_call ih (hr.mono (by omega)) passE (b_ 3 (aa_d (a_ix (v_ 1) (v_ 2) (fun _ _ => rfl)) aa_nil))))))) (fun _ _ _ _ _ => (k_ 2)))) (e_ (a_lst al_nil (by show 0 ≤ 1000; decide))))))) as_nil)
    (as_one (as_ret (c_eq hr (v_ 0) (v_ 1))))))
theorem sc_total_bounds : FnScope ["samples", "rate", "low", "high", "gap", "one", "some"] ["samples", "rate"] (defScope s_total_bounds) := ⟨rfl, rfl, rfl, by decide +kernel, rfl, by decide +kernel, by decide +kernel⟩
theorem has_total_bounds (T : Txt K mg) (h_need_samples : Has P w K mg base "need_samples" 1 4 F_need_samples) (h_need_rate : Has P w K mg base "need_rate" 1 2 F_need_rate) (h_gaps_of : Has P w K mg base "gaps_of" 1 1 F_gaps_of) (h_options : Has P w K mg base "options" 2 1 F_options) : Has P w K mg base "total_bounds" 2 5 F_total_bounds := by
  obtain ⟨f, fd, hf, hm⟩ := T.d_total_bounds
  exact def_has (N := ["samples", "rate", "low", "high", "gap", "one", "some"]) (ps := ["samples", "rate"]) (lst := [0, 1]) (body := B_total_bounds) hf hm (hf.binds (ps := ["samples", "rate"]) fun _ _ _ _ _ _ us hl => match us, hl with | [_, _], _ => rfl) sc_total_bounds (by decide) fun cdv A outer s H E F hr hb =>
    have sc := sc_total_bounds
    (as_cons (as_drop (f_call h_need_samples (hr.mono (by decide)) px (b_ 0 aa_nil)))
    (as_cons (as_drop (f_call h_need_rate (hr.mono (by decide)) px (b_ 1 aa_nil)))
    (as_cons (as_unp (a_tup (al_cons (a_int) (al_cons (a_int) al_nil))) (ag_tup rfl (ags_cons (g_ 2 (hb 2 (by decide)) sc.nd) (ags_cons (g_ 3 (hb 3 (by decide)) sc.nd) ags_nil))))
    (as_cons (as_for po rfl (ai_seq (f_call h_gaps_of (hr.mono (by decide)) px (b_ 0 aa_nil))) (g_ 4 (hb 4 (by decide)) sc.nd) (as_cons (s_lc 6 [("one", 5)] (hb 6 (by decide)) rfl sc.nd (AI.aj (ai_seq (f_call h_options (hr.mono (by decide)) px (b_ 4 (b_ 1 aa_nil))))) (brwL hb) (fun _ _ _ _ _ => g_ 5 (hb 5 (by decide)) sc.nd) (fun _ _ _ _ _ => (ts_one (t_notN (v_ 5)))) (fun _ _ _ _ _ => (k_ 5)))
    (as_cons (as_if (t_eq hr (v_ 6) (e_ (a_lst al_nil))) (as_one (as_ret (a_non))) as_nil)
    (as_one (s_par 2 3 (hb 2 (by decide)) (hb 3 (by decide)) rfl sc.nd (a_add (v_ 2) (e_ (f_min rfl T.b_min (e_ (w_lc [("one", 5)] rfl sc.nd (j_n 6) (brwL hb) (fun _ _ _ _ _ => g_ 5 (hb 5 (by decide)) sc.nd) (fun _ _ _ _ _ => (ts_yes _)) (fun _ _ _ _ _ => (a_ix (v_ 5) (e_ (a_int)) (fun _ _ => rfl)))))))) (a_add (v_ 3) (e_ (f_max rfl T.b_max (e_ (w_lc [("one", 5)] rfl sc.nd (j_n 6) (brwL hb) (fun _ _ _ _ _ => g_ 5 (hb 5 (by decide)) sc.nd) (fun _ _ _ _ _ => (ts_yes _)) (fun _ _ _ _ _ => (a_ix (v_ 5) (e_ (a_int)) (fun _ _ => rfl)))))))))))))
    (as_one (as_ret (a_tup (al_cons (k_ 2) (al_cons (k_ 3) al_nil)))))))))
theorem sc_joined : FnScope ["ranges", "found", "low", "high"] ["ranges"] (defScope s_joined) := ⟨rfl, rfl, rfl, by decide +kernel, rfl, by decide +kernel, by decide +kernel⟩
theorem has_joined (T : Txt K mg)  : Has P w K mg base "joined" 1 1 F_joined := by
  obtain ⟨f, fd, hf, hm⟩ := T.d_joined
  exact def_has (N := ["ranges", "found", "low", "high"]) (ps := ["ranges"]) (lst := [0]) (body := B_joined) hf hm (hf.binds (ps := ["ranges"]) fun _ _ _ _ _ _ us hl => match us, hl with | [_], _ => rfl) sc_joined (by decide) fun cdv A outer s H E F hr hb =>
    have sc := sc_joined
    (as_cons (s_set 1 (hb 1 (by decide)) sc.nd (a_lst al_nil))
    (as_cons (as_for po rfl (ai_seq (a_srtP T.b_sorted (v_ 0))) (ag_tup rfl (ags_cons (g_ 2 (hb 2 (by decide)) sc.nd) (ags_cons (g_ 3 (hb 3 (by decide)) sc.nd) ags_nil))) (as_one (as_if (at_w (aw_and (t_ne hr (v_ 1) (e_ (a_lst al_nil))) (aw_and1 (t_le (v_ 2) (e_ (a_add (e_ (a_ix (e_ (a_ix (v_ 1) (e_ (a_neg (e_ (a_int)))) (fun _ _ => rfl))) (e_ (a_int)) (fun _ _ => rfl))) (e_ (a_int)))))))) (as_one (s_setIx 1 (a_tup (al_cons (a_ix (e_ (a_ix (v_ 1) (e_ (a_neg (e_ (a_int)))) (fun _ _ => rfl))) (e_ (a_int)) (fun _ _ => rfl)) (al_cons (f_max2 rfl T.b_max (v_ 3) (e_ (a_ix (e_ (a_ix (v_ 1) (e_ (a_neg (e_ (a_int)))) (fun _ _ => rfl))) (e_ (a_int)) (fun _ _ => rfl)))) al_nil))) (a_neg (e_ (a_int))))) (as_one (as_app (i := 1) (a_tup (al_cons (k_ 2) (al_cons (k_ 3) al_nil))) rfl (by first | exact Or.inl rfl | exact Or.inr (Or.inl rfl) | exact Or.inr (Or.inr rfl)))))))
    (as_one (s_retV 1 (hb 1 (by decide))))))
theorem sc_total_ranges : FnScope ["samples", "rate", "gaps", "found", "gap", "longer", "low", "high", "one"] ["samples", "rate"] (defScope s_total_ranges) := ⟨rfl, rfl, rfl, by decide +kernel, rfl, by decide +kernel, by decide +kernel⟩
theorem has_total_ranges (T : Txt K mg) (h_need_samples : Has P w K mg base "need_samples" 1 4 F_need_samples) (h_need_rate : Has P w K mg base "need_rate" 1 2 F_need_rate) (h_gaps_of : Has P w K mg base "gaps_of" 1 1 F_gaps_of) (h_options : Has P w K mg base "options" 2 1 F_options) (h_joined : Has P w K mg base "joined" 1 1 F_joined) : Has P w K mg base "total_ranges" 2 5 F_total_ranges := by
  obtain ⟨f, fd, hf, hm⟩ := T.d_total_ranges
  exact def_has (N := ["samples", "rate", "gaps", "found", "gap", "longer", "low", "high", "one"]) (ps := ["samples", "rate"]) (lst := [0, 1]) (body := B_total_ranges) hf hm (hf.binds (ps := ["samples", "rate"]) fun _ _ _ _ _ _ us hl => match us, hl with | [_, _], _ => rfl) sc_total_ranges (by decide) fun cdv A outer s H E F hr hb =>
    have sc := sc_total_ranges
    (as_cons (as_drop (f_call h_need_samples (hr.mono (by decide)) px (b_ 0 aa_nil)))
    (as_cons (as_drop (f_call h_need_rate (hr.mono (by decide)) px (b_ 1 aa_nil)))
    (as_cons (s_set 2 (hb 2 (by decide)) sc.nd (f_call h_gaps_of (hr.mono (by decide)) px (b_ 0 aa_nil)))
    (as_cons (as_if (t_gt (e_ (f_len T.b_len (v_ 2))) (e_ (f_gInt T.i_MOST_GAPS))) (as_one (as_no)) as_nil)
    (as_cons (s_set 3 (hb 3 (by decide)) sc.nd (a_lst (al_cons (a_tup (al_cons (a_int) (al_cons (a_int) al_nil))) al_nil)))
    (as_cons (as_for po rfl (ai_seq (k_ 2)) (g_ 4 (hb 4 (by decide)) sc.nd) (as_cons (s_set 5 (hb 5 (by decide)) sc.nd (a_lst al_nil))
    (as_cons (as_for po rfl (ai_seq (k_ 3)) (ag_tup rfl (ags_cons (g_ 6 (hb 6 (by decide)) sc.nd) (ags_cons (g_ 7 (hb 7 (by decide)) sc.nd) ags_nil))) (as_one (s_augAdd 5 (hb 5 (by decide)) sc.nd (w_lc [("one", 8)] rfl sc.nd (AI.aj (ai_seq (f_call h_options (hr.mono (by decide)) px (b_ 4 (b_ 1 aa_nil))))) (brwL hb) (fun _ _ _ _ _ => g_ 8 (hb 8 (by decide)) sc.nd) (fun _ _ _ _ _ => (ts_one (t_notN (v_ 8)))) (fun _ _ _ _ _ => (a_tup (al_cons (a_add (v_ 6) (e_ (a_ix (v_ 8) (e_ (a_int)) (fun _ _ => rfl)))) (al_cons (a_add (v_ 7) (e_ (a_ix (v_ 8) (e_ (a_int)) (fun _ _ => rfl)))) al_nil))))))))
    (as_one (s_set 3 (hb 3 (by decide)) sc.nd (f_call h_joined (hr.mono (by decide)) px (b_ 5 aa_nil)))))))
    (as_one (s_retV 3 (hb 3 (by decide))))))))))
theorem sc_law : FnScope ["_law_script", "_law_cell", "_law_deck_here", "_law_samples_so", "_law_least", "_law_near", "_law_due", "_law_one_here", "_law_other", "_law_told", "_law_odd", "_law_door"] ["_law_script"] (defScope s_law) := ⟨rfl, rfl, rfl, by decide +kernel, rfl, by decide +kernel, by decide +kernel⟩
theorem nmo_InvalidRate (T : Txt K mg) {f : Addr} {cd : Value} {D : Addr} (hD : mg "InvalidRate" = some (.ref D)) (p : Addr × Obj) (hc : p.2.cls = .ref D) (hd : p.2.dict = none) (hf : ∃ vs, p.2.data = .fields vs) : NameSp P w K mg base ["_law_e", "_law_matching", "_law_words", "_law_word", "_law_good"] "_law_name_of" (defScope s_law_name_of) f cd (defBody s_law_name_of) p "Rate+" := by
  intro A outer s H Q hot hQ
  obtain ⟨D2, e, C, k0, k1, k2, k3, k4, k5, k6, k7, k8, k9, k10, k11, k12, k13, v, _, _⟩ := T.n_InvalidRate
  obtain rfl : D2 = D := by rw [hD] at e; cases e; rfl
  have sc := sc_law_name_of
  have nx : NmX (L2H.cxH C8.CX0 P w K mg base ["_law_e", "_law_matching", "_law_words", "_law_word", "_law_good"] "_law_name_of" (defScope s_law_name_of) f cd A outer s H C8.E0 p) "_law_e" p D2 := ⟨C, List.mem_cons_self, hc, hd, hf, rfl, by first | exact Or.inl rfl | exact Or.inr (Or.inl rfl) | exact Or.inr (Or.inr rfl), rfl, T.b_isinstance⟩
  exact ⟨_, hts_cons (nm_first (H0 := H) sc.nd rfl (by first | exact Or.inl rfl | exact Or.inr rfl) (isl_cons (is_by nx k0) (isl_cons (is_by nx k1) (isl_cons (is_by nx k2) isl_nil))) (by decide))
    (hts_cons (nm_more sc.nd rfl (by first | exact Or.inl rfl | exact Or.inr rfl) (by first | exact Or.inl rfl | exact Or.inr (Or.inl rfl) | exact Or.inr (Or.inr rfl)) (isl_cons (is_by nx k3) (isl_cons (is_by nx k4) (isl_cons (is_by nx k5) isl_nil))) (by decide))
    (hts_cons (nm_more sc.nd rfl (by first | exact Or.inl rfl | exact Or.inr rfl) (by first | exact Or.inl rfl | exact Or.inr (Or.inl rfl) | exact Or.inr (Or.inr rfl)) (isl_cons (is_by nx k6) (isl_cons (is_by nx k7) (isl_cons (is_by nx k8) isl_nil))) (by decide))
    (hts_cons (nm_more sc.nd rfl (by first | exact Or.inl rfl | exact Or.inr rfl) (by first | exact Or.inl rfl | exact Or.inr (Or.inl rfl) | exact Or.inr (Or.inr rfl)) (isl_cons (is_by nx k9) (isl_cons (is_by nx k10) isl_nil)) (by decide))
    (hts_cons (nm_more sc.nd rfl (by first | exact Or.inl rfl | exact Or.inr rfl) (by first | exact Or.inl rfl | exact Or.inr (Or.inl rfl) | exact Or.inr (Or.inr rfl)) (isl_cons (is_by nx k11) (isl_cons (is_by nx k12) (isl_cons (is_by nx k13) isl_nil))) (by decide))
    (hts_cons (nm_words sc.nd rfl (by first | exact Or.inl rfl | exact Or.inr rfl) (ws_cons (ws_cons (ws_cons (ws_cons (ws_cons (ws_cons (ws_cons (ws_cons (ws_cons (ws_cons ws_nil)))))))))) (by decide))
    (hts_cons (nm_wmore sc.nd rfl (by first | exact Or.inl rfl | exact Or.inr rfl) (by first | exact Or.inl rfl | exact Or.inr (Or.inl rfl) | exact Or.inr (Or.inr rfl)) (ws_cons (ws_cons (ws_cons (ws_cons (ws_cons ws_nil))))) (by decide))
    (hts_end (nm_ret ⟨List.mem_cons_self, hot⟩ sc.nd rfl rfl rfl rfl (by first | exact Or.inl rfl | exact Or.inr (Or.inl rfl) | exact Or.inr (Or.inr rfl)) (by first | exact Or.inl rfl | exact Or.inr (Or.inl rfl) | exact Or.inr (Or.inr rfl)) (by exact rfl) T.b_zip (blt_by nx T.b_ValueError v rfl) rfl (by decide) (by decide) (by exact rfl) (fun _ _ _ _ _ => pgs_cons (pg_name sc.nd rfl (by first | exact Or.inl rfl | exact Or.inr rfl)) (pgs_cons (pg_name sc.nd rfl (by first | exact Or.inl rfl | exact Or.inr rfl)) pgs_nil)) (fun _ _ _ _ _ => ⟨rfl, rfl⟩) (fun _ _ _ _ _ => pts_one (pt_val (pe_var rfl (by first | exact Or.inl rfl | exact Or.inr (Or.inl rfl) | exact Or.inr (Or.inr rfl))))) (fun _ _ _ _ _ => pe_var rfl (by first | exact Or.inl rfl | exact Or.inr (Or.inl rfl) | exact Or.inr (Or.inr rfl)))) (by decide)))))))), ⟨rfl, rfl, fun _ _ e => e⟩, hQ⟩
theorem nmo_InvalidSamples (T : Txt K mg) {f : Addr} {cd : Value} {D : Addr} (hD : mg "InvalidSamples" = some (.ref D)) (p : Addr × Obj) (hc : p.2.cls = .ref D) (hd : p.2.dict = none) (hf : ∃ vs, p.2.data = .fields vs) : NameSp P w K mg base ["_law_e", "_law_matching", "_law_words", "_law_word", "_law_good"] "_law_name_of" (defScope s_law_name_of) f cd (defBody s_law_name_of) p "Samples+" := by
  intro A outer s H Q hot hQ
  obtain ⟨D2, e, C, k0, k1, k2, k3, k4, k5, k6, k7, k8, k9, k10, k11, k12, k13, v, _, _⟩ := T.n_InvalidSamples
  obtain rfl : D2 = D := by rw [hD] at e; cases e; rfl
  have sc := sc_law_name_of
  have nx : NmX (L2H.cxH C8.CX0 P w K mg base ["_law_e", "_law_matching", "_law_words", "_law_word", "_law_good"] "_law_name_of" (defScope s_law_name_of) f cd A outer s H C8.E0 p) "_law_e" p D2 := ⟨C, List.mem_cons_self, hc, hd, hf, rfl, by first | exact Or.inl rfl | exact Or.inr (Or.inl rfl) | exact Or.inr (Or.inr rfl), rfl, T.b_isinstance⟩
  exact ⟨_, hts_cons (nm_first (H0 := H) sc.nd rfl (by first | exact Or.inl rfl | exact Or.inr rfl) (isl_cons (is_by nx k0) (isl_cons (is_by nx k1) (isl_cons (is_by nx k2) isl_nil))) (by decide))
    (hts_cons (nm_more sc.nd rfl (by first | exact Or.inl rfl | exact Or.inr rfl) (by first | exact Or.inl rfl | exact Or.inr (Or.inl rfl) | exact Or.inr (Or.inr rfl)) (isl_cons (is_by nx k3) (isl_cons (is_by nx k4) (isl_cons (is_by nx k5) isl_nil))) (by decide))
    (hts_cons (nm_more sc.nd rfl (by first | exact Or.inl rfl | exact Or.inr rfl) (by first | exact Or.inl rfl | exact Or.inr (Or.inl rfl) | exact Or.inr (Or.inr rfl)) (isl_cons (is_by nx k6) (isl_cons (is_by nx k7) (isl_cons (is_by nx k8) isl_nil))) (by decide))
    (hts_cons (nm_more sc.nd rfl (by first | exact Or.inl rfl | exact Or.inr rfl) (by first | exact Or.inl rfl | exact Or.inr (Or.inl rfl) | exact Or.inr (Or.inr rfl)) (isl_cons (is_by nx k9) (isl_cons (is_by nx k10) isl_nil)) (by decide))
    (hts_cons (nm_more sc.nd rfl (by first | exact Or.inl rfl | exact Or.inr rfl) (by first | exact Or.inl rfl | exact Or.inr (Or.inl rfl) | exact Or.inr (Or.inr rfl)) (isl_cons (is_by nx k11) (isl_cons (is_by nx k12) (isl_cons (is_by nx k13) isl_nil))) (by decide))
    (hts_cons (nm_words sc.nd rfl (by first | exact Or.inl rfl | exact Or.inr rfl) (ws_cons (ws_cons (ws_cons (ws_cons (ws_cons (ws_cons (ws_cons (ws_cons (ws_cons (ws_cons ws_nil)))))))))) (by decide))
    (hts_cons (nm_wmore sc.nd rfl (by first | exact Or.inl rfl | exact Or.inr rfl) (by first | exact Or.inl rfl | exact Or.inr (Or.inl rfl) | exact Or.inr (Or.inr rfl)) (ws_cons (ws_cons (ws_cons (ws_cons (ws_cons ws_nil))))) (by decide))
    (hts_end (nm_ret ⟨List.mem_cons_self, hot⟩ sc.nd rfl rfl rfl rfl (by first | exact Or.inl rfl | exact Or.inr (Or.inl rfl) | exact Or.inr (Or.inr rfl)) (by first | exact Or.inl rfl | exact Or.inr (Or.inl rfl) | exact Or.inr (Or.inr rfl)) (by exact rfl) T.b_zip (blt_by nx T.b_ValueError v rfl) rfl (by decide) (by decide) (by exact rfl) (fun _ _ _ _ _ => pgs_cons (pg_name sc.nd rfl (by first | exact Or.inl rfl | exact Or.inr rfl)) (pgs_cons (pg_name sc.nd rfl (by first | exact Or.inl rfl | exact Or.inr rfl)) pgs_nil)) (fun _ _ _ _ _ => ⟨rfl, rfl⟩) (fun _ _ _ _ _ => pts_one (pt_val (pe_var rfl (by first | exact Or.inl rfl | exact Or.inr (Or.inl rfl) | exact Or.inr (Or.inr rfl))))) (fun _ _ _ _ _ => pe_var rfl (by first | exact Or.inl rfl | exact Or.inr (Or.inl rfl) | exact Or.inr (Or.inr rfl)))) (by decide)))))))), ⟨rfl, rfl, fun _ _ e => e⟩, hQ⟩
theorem try_ok {X : Cx} (T : Txt X.K X.mg) {F : Fx} {E : XK} {kb : Nat} {c P0 : Addr} {ar : Arguments} {body : Expr} {sc : Scope} {m : M Sv} {p lp pos : Pos} (hF : ∀ i, F.brw i = none) (hP : LamX.TabS F.H0 P0 lamQ) (hg : Gl X "_law_try") (TB : LamX.TabB X.base X.mg c P0) (hcode : X.env.code = .ref c)
    (rm : Room (kb + 3) X.A) (L : LamX.LamS X.env.scope sc) (hdef : defaultsOf ar X.env = ([], [])) (hbind : ∀ (q : Str) (cl : List (Str × Addr)) (pm cv ctv : Value), bindArgs (PySem.W.kla_fn "<lambda>" q ar body sc cl pm cv ctv) ⟨[], []⟩ = pure [])
    (hbody : ∀ (A : Around) (outer : List Env) (s : Shared) (H : Hp) (E : XK) (F : Fx) (f c' : Addr), Room (kb + 1) (A.deeper (LamX.lamEnv X sc s.heap.objs.size f c')) → Passes (L2N.CX X.prog X.w) (lamC X A outer s H E sc f c') E → AE (lamC X A outer s H E sc f c') F E body m) (hq : X.env.qual ++ "<lambda>" = lamQ := by rfl) :
    AE X F E (.Call (.Name "_law_try" p) [.Lambda ar body sc lp] [] pos) (eTry nms m) := by
  obtain ⟨f, fd, hf, hm⟩ := T.d_law_try
  obtain ⟨f2, fd2, hf2, hm2⟩ := T.d_law_name_of
  obtain ⟨c1, m1⟩ := T.g_TooMany
  obtain ⟨c2, m2⟩ := T.g_CounterError
  have b1 := hf.binds (ps := ["_law_door"]) fun _ _ _ _ _ _ us hl => match us, hl with | [_], _ => rfl
  have b2 := hf2.binds (ps := ["_law_e"]) fun _ _ _ _ _ _ us hl => match us, hl with | [_], _ => rfl
  have kp := hf.kp
  have kp2 := hf2.kp
  obtain ⟨oc, od, kV, doc, pm, an, cdv, ct, osl, rfl, lk, hcd⟩ := hf.ex
  obtain ⟨oc2, od2, kV2, doc2, pm2, an2, cdv2, ct2, osl2, rfl, lk2, hcd2⟩ := hf2.ex
  refine a_try hF hP (lam_call hg hm kp lk hcd b1 sc_law_try rfl (by first | exact Or.inl rfl | exact Or.inr (Or.inl rfl) | exact Or.inr (Or.inr rfl)) hq (told_gives (a := "_law_door") (fo := "_law_found") (en := "_law_e") (x1 := "TooMany") (x2 := "CounterError") (y := "_law_name_of") (by decide) rfl rfl m1 m2 (by decide) (by decide) rfl rfl rfl hm2 kp2 lk2 hcd2 b2 sc_law_name_of ?_) TB hcode rm L hdef hbind fun A outer s H E f c' r => tAny_of fun F => hbody A outer s H E F f c' r pxL)
  rintro D nm ⟨x, hx, hn⟩
  unfold nms at hn
  split at hn
  · rename_i ex
    subst ex
    cases hn
    obtain ⟨D2, e, _, _, _, _, _, _, _, _, _, _, _, _, _, _, _, _, ⟨d1, e1, x1⟩, ⟨d2, e2, x2⟩⟩ := T.n_InvalidRate
    rw [hx] at e
    cases e
    rw [m1] at e1
    cases e1
    rw [m2] at e2
    cases e2
    exact ⟨x1, x2, fun p hc hd hf => nmo_InvalidRate T hx p hc hd hf⟩
  split at hn
  · rename_i ex
    subst ex
    cases hn
    obtain ⟨D2, e, _, _, _, _, _, _, _, _, _, _, _, _, _, _, _, _, ⟨d1, e1, x1⟩, ⟨d2, e2, x2⟩⟩ := T.n_InvalidSamples
    rw [hx] at e
    cases e
    rw [m1] at e1
    cases e1
    rw [m2] at e2
    cases e2
    exact ⟨x1, x2, fun p hc hd hf => nmo_InvalidSamples T hx p hc hd hf⟩
  cases hn
theorem ok_lam0 (T : Txt K mg) (h_least_rate : Has P w K mg base "least_rate" 1 5 F_least_rate) : ∃ L, LamTbl.f "<lambda>0" = some L ∧ LamOk P w K mg base L 2 6 F_lam0 := by
  refine ⟨_, rfl, ?_⟩
  exact lam_ok (N := ["_law_one_here", "_law_two"]) (k := 5) (m := (eCall F_least_rate [.b 0])) ⟨rfl, rfl, rfl, by decide +kernel, rfl, by decide +kernel, by decide +kernel⟩ (fun _ _ _ us hl => match us, hl with | [_, _], _ => rfl) fun A outer s H E F f c' hr hb0 => (f_call h_least_rate (hr.mono (by decide)) px (b_ 0 aa_nil))
theorem lam_okT {X : Cx} (T : Txt X.K X.mg) (h_least_rate : Has X.prog X.w X.K X.mg X.base "least_rate" 1 5 F_least_rate) : LamT X 2 6 lams := fun x G h => by
  unfold lams at h
  split at h
  · rename_i e
    subst e
    cases h
    obtain ⟨L, e1, e2⟩ := ok_lam0 T h_least_rate
    exact ⟨L, e1, e2.mono (by decide)⟩
  cases h
theorem lam_0 : lams "<lambda>0" = some F_lam0 := by
  unfold lams
  rw [if_pos rfl]
theorem door_ok {X : Cx} (h_restart_statuses : Has X.prog X.w X.K X.mg X.base "restart_statuses" 2 5 F_restart_statuses) (h_total_bounds : Has X.prog X.w X.K X.mg X.base "total_bounds" 2 5 F_total_bounds) (h_total_ranges : Has X.prog X.w X.K X.mg X.base "total_ranges" 2 5 F_total_ranges) : DoorT X 2 6 doors := fun x G h => by
  unfold doors at h
  split at h
  · rename_i e
    subst e
    cases h
    exact h_restart_statuses.mono (by decide)
  split at h
  · rename_i e
    subst e
    cases h
    exact h_total_bounds.mono (by decide)
  split at h
  · rename_i e
    subst e
    cases h
    exact h_total_ranges.mono (by decide)
  cases h
theorem door_restart_statuses : doors "restart_statuses" = some F_restart_statuses := by
  unfold doors
  rw [if_pos rfl]
theorem door_total_bounds : doors "total_bounds" = some F_total_bounds := by
  unfold doors
  rw [if_neg (by decide), if_pos rfl]
theorem door_total_ranges : doors "total_ranges" = some F_total_ranges := by
  unfold doors
  rw [if_neg (by decide), if_neg (by decide), if_pos rfl]
theorem ok_law (T : Txt K mg) (h_law_deck : Has P w K mg base "_law_deck" 2 1 F_law_deck) (h_law_samples : Has P w K mg base "_law_samples" 2 4 F_law_samples) (h_least_rate : Has P w K mg base "least_rate" 1 5 F_least_rate) (h_law_whole : Has P w K mg base "_law_whole" 1 1 F_law_whole) (h_law_pick : Has P w K mg base "_law_pick" 2 1 F_law_pick) (h_law_status : Has P w K mg base "_law_status" 4 1 F_law_status) (h_restart_statuses : Has P w K mg base "restart_statuses" 2 5 F_restart_statuses) (h_law_same : Has P w K mg base "_law_same" 2 10 (F_law_same 8)) (h_total_bounds : Has P w K mg base "total_bounds" 2 5 F_total_bounds) (h_total_ranges : Has P w K mg base "total_ranges" 2 5 F_total_ranges) {f c P0 : Addr} {fd : FuncData} (hf : Fun K "law" "law" s_law f fd) (hcode : fd.code = .ref c) (TB : LamX.TabB base mg c P0) : FnOk P w K mg base (L2N.CX P w) 11 f fd ["_law_script"] (lawSp K P0 F_law) :=
  def_okL (N := ["_law_script", "_law_cell", "_law_deck_here", "_law_samples_so", "_law_least", "_law_near", "_law_due", "_law_one_here", "_law_other", "_law_told", "_law_odd", "_law_door"]) (p0 := "_law_script") (body := B_law) hf sc_law (by decide) fun cdv hcd A outer s H E F hr hb0 hP =>
    have sc := sc_law
    have hco : cdv = .ref c := hcd.symm.trans hcode
    have hb : ∀ i, i ∉ ([] : List Nat) → F.brw i = none := fun i _ => hb0 i
    (as_cons (as_for po rfl (ai_seq (a_cut (e_ (a_add (e_ (a_lst (al_cons (a_int) al_nil))) (v_ 0))) ap_none (ap_some (a_int)))) (g_ 1 (hb 1 (by decide)) sc.nd) (as_cons (s_set 2 (hb 2 (by decide)) sc.nd (f_call h_law_deck (hr.mono (by decide)) px (b_ 1 (aa_d (a_int) aa_nil))))
    (as_cons (s_set 3 (hb 3 (by decide)) sc.nd (f_call h_law_samples (hr.mono (by decide)) px (b_ 2 (aa_d (a_int) aa_nil))))
    (as_cons (s_set 4 (hb 4 (by decide)) sc.nd (f_call h_least_rate (hr.mono (by decide)) px (b_ 3 aa_nil)))
    (as_cons (as_if (at_w (aw_or (at_not (at_val (f_call h_law_whole (hr.mono (by decide)) px (b_ 4 aa_nil)))) (aw_or1 (t_lt (v_ 4) (e_ (a_int)))))) (as_one (as_ret (a_bl))) as_nil)
    (as_cons (as_for po rfl (ai_seq (a_lst (al_cons (k_ 4) (al_cons (a_sub (v_ 4) (e_ (a_int))) (al_cons (a_add (v_ 4) (e_ (a_int))) (al_cons (a_int) (al_cons (a_add (e_ (a_int)) (e_ (f_call h_law_pick (hr.mono (by decide)) px (b_ 2 (aa_d (a_int) aa_nil))))) (al_cons (a_add (e_ (a_int)) (e_ (f_call h_law_pick (hr.mono (by decide)) px (b_ 2 (aa_d (a_pow (e_ (a_int)) (e_ (a_int))) aa_nil))))) (al_cons (a_pow (e_ (a_int)) (e_ (a_int))) al_nil))))))))) (g_ 5 (hb 5 (by decide)) sc.nd) (as_one (as_if (at_chain op_le op2_le op_le op2_le (e_ (a_int)) (v_ 5) (e_ (a_pow (e_ (a_int)) (e_ (a_int))))) (as_cons (s_set 6 (hb 6 (by decide)) sc.nd (a_lst al_nil))
    (as_cons (as_for po rfl (w_zip2 T.b_zip (al_cons (k_ 3) (al_cons (a_cut (v_ 3) (ap_some (a_int)) ap_none) al_nil))) (ag_tup rfl (ags_cons (g_ 7 (hb 7 (by decide)) sc.nd) (ags_cons (g_ 8 (hb 8 (by decide)) sc.nd) ags_nil))) (as_one (as_app (i := 6) (f_call h_law_status (hr.mono (by decide)) px (aa_d (a_sub (e_ (a_ix (v_ 8) (e_ (a_int)) (fun _ _ => rfl))) (e_ (a_ix (v_ 7) (e_ (a_int)) (fun _ _ => rfl)))) (aa_d (a_ix (v_ 7) (e_ (a_int)) (fun _ _ => rfl)) (aa_d (a_ix (v_ 8) (e_ (a_int)) (fun _ _ => rfl)) (b_ 5 aa_nil))))) rfl (by first | exact Or.inl rfl | exact Or.inr (Or.inl rfl) | exact Or.inr (Or.inr rfl)))))
    (as_cons (s_set 9 (hb 9 (by decide)) sc.nd (f_call h_restart_statuses (hr.mono (by decide)) px (b_ 3 (b_ 5 aa_nil))))
    (as_cons (as_if (at_w (aw_or (at_not (at_val (f_call h_law_same (hr.mono (by decide)) px (b_ 9 (b_ 6 aa_nil))))) (aw_or1 (t_ne hr (e_ (c_in (e_ (a_str)) (v_ 6))) (e_ (c_lt (v_ 5) (v_ 4))))))) (as_one (as_ret (a_bl))) as_nil)
    (as_cons (as_app (i := 9) (a_non) rfl (by first | exact Or.inl rfl | exact Or.inr (Or.inl rfl) | exact Or.inr (Or.inr rfl)))
    (as_one (as_if (t_ne hr (e_ (f_call h_restart_statuses (hr.mono (by decide)) px (b_ 3 (b_ 5 aa_nil)))) (v_ 6)) (as_one (as_ret (a_bl))) as_nil))))))) as_nil)))
    (as_cons (as_for po rfl (ai_seq (a_lst (al_cons (a_non) (al_cons (a_bl) (al_cons (a_int) (al_cons (a_add (e_ (a_pow (e_ (a_int)) (e_ (a_int)))) (e_ (a_int))) (al_cons (a_str) al_nil))))))) (g_ 10 (hb 10 (by decide)) sc.nd) (as_one (as_for po rfl (ai_seq (a_tup (al_cons (a_fnD rfl (T.d_restart_statuses.elim fun f h => h.elim fun fd h => ⟨f, h.2⟩)) (al_cons (a_fnD rfl (T.d_total_bounds.elim fun f h => h.elim fun fd h => ⟨f, h.2⟩)) (al_cons (a_fnD rfl (T.d_total_ranges.elim fun f h => h.elim fun fd h => ⟨f, h.2⟩)) al_nil))))) (g_ 11 (hb 11 (by decide)) sc.nd) (as_one (as_if (t_ne hr (e_ (AE.le (try_ok (kb := 7) T hb0 hP rfl TB hco (hr.mono (by decide)) (LamX.lamS_by (by exact rfl)) rfl (fun _ _ _ _ _ => rfl) (fun A outer s H E F f c' hr pxl => a_fz (a_callP (i := 11) (door_ok h_restart_statuses h_total_bounds h_total_ranges) (lam_okT T h_least_rate) (hr.mono (by decide)) rfl (by first | exact Or.inl rfl | exact Or.inr (Or.inl rfl) | exact Or.inr (Or.inr rfl)) pxl (aa_d (k_ 3) (aa_d (k_ 10) aa_nil))))) tryP_le)) (e_ (a_str))) (as_one (as_ret (a_bl))) as_nil)))))
    (as_one (as_for po rfl (ai_seq (a_tup (al_cons (a_fnD rfl (T.d_restart_statuses.elim fun f h => h.elim fun fd h => ⟨f, h.2⟩)) (al_cons (a_fnD rfl (T.d_total_bounds.elim fun f h => h.elim fun fd h => ⟨f, h.2⟩)) (al_cons (a_fnD rfl (T.d_total_ranges.elim fun f h => h.elim fun fd h => ⟨f, h.2⟩)) (al_cons (a_lam "<lambda>0" hP TB hco (by rfl)) al_nil)))))) (g_ 11 (hb 11 (by decide)) sc.nd) (as_one (as_if (t_ne hr (e_ (AE.le (try_ok (kb := 7) T hb0 hP rfl TB hco (hr.mono (by decide)) (LamX.lamS_by (by exact rfl)) rfl (fun _ _ _ _ _ => rfl) (fun A outer s H E F f c' hr pxl => a_fz (a_callP (i := 11) (door_ok h_restart_statuses h_total_bounds h_total_ranges) (lam_okT T h_least_rate) (hr.mono (by decide)) rfl (by first | exact Or.inl rfl | exact Or.inr (Or.inl rfl) | exact Or.inr (Or.inr rfl)) pxl (aa_d (a_non) (aa_d (a_non) aa_nil))))) tryP_le)) (e_ (a_str))) (as_one (as_ret (a_bl))) as_nil)))))))))))
    (as_cons (as_if (at_w (aw_or (t_ne hr (e_ (f_call h_least_rate (hr.mono (by decide)) px (aa_d (a_tup al_nil) aa_nil))) (e_ (a_int))) (aw_or1 (t_ne hr (e_ (f_call h_least_rate (hr.mono (by decide)) px (aa_d (a_tup (al_cons (a_tup (al_cons (a_int) (al_cons (a_int) al_nil))) (al_cons (a_tup (al_cons (a_int) (al_cons (a_int) al_nil))) (al_cons (a_tup (al_cons (a_int) (al_cons (a_int) al_nil))) al_nil)))) aa_nil))) (e_ (a_int)))))) (as_one (as_ret (a_bl))) as_nil)
    (as_one (as_ret (c_eq hr (e_ (f_call h_restart_statuses (hr.mono (by decide)) px (aa_d (a_tup (al_cons (a_tup (al_cons (a_int) (al_cons (a_int) al_nil))) (al_cons (a_tup (al_cons (a_int) (al_cons (a_int) al_nil))) (al_cons (a_tup (al_cons (a_int) (al_cons (a_int) al_nil))) (al_cons (a_tup (al_cons (a_int) (al_cons (a_int) al_nil))) al_nil))))) (aa_d (a_int) aa_nil)))) (e_ (a_lst (al_cons (a_str) (al_cons (a_str) (al_cons (a_str) al_nil))))))))))
theorem fin {h : Heap} {c P0 : Addr} (T : Txt K mg) (tI : TabIs K "law" c P0) (KX : K.In h) (G : h.Ns mainGlobals mg) {fa : Addr} (hmg : mg "law" = some (.ref fa)) : ∃ (fd : FuncData) (c P0 : Addr), TabIs K "law" c P0 ∧ (∀ (s : Shared) (u : Value), BindsTo s fd ⟨[u], []⟩ [("_law_script", u)]) ∧ ∀ base : Heap, K.In base → base.Ns mainGlobals mg → LamX.TabB base mg c P0 → FnOk P w K mg base (L2N.CX P w) 11 fa fd ["_law_script"] (lawSp K P0 F_law) := by
  obtain ⟨f, fd, hf, hm⟩ := T.d_law
  rw [hmg] at hm
  cases hm
  have hcode : fd.code = .ref c := by
    obtain ⟨oc, od, kV, doc, pm, an, cdv, ct, osl, rfl, lk, hcd⟩ := hf.ex
    exact PySem.W.law_code KX G tI.at_ hmg (KX _ _ lk) rfl
  refine ⟨fd, c, P0, tI, fun s u => ?_, fun base _ _ TB => ?_⟩
  · obtain ⟨oc, od, kV, doc, pm, an, cdv, ct, osl, rfl, lk, hcd⟩ := hf.ex
    exact .of_eq rfl
  · skip
    have h_law_deck : Has P w K mg base "_law_deck" 2 1 F_law_deck := has_law_deck T 
    have h_law_pick : Has P w K mg base "_law_pick" 2 1 F_law_pick := has_law_pick T 
    have h_law_one : Has P w K mg base "_law_one" 2 2 F_law_one := has_law_one T h_law_pick
    have h_law_values : Has P w K mg base "_law_values" 2 3 F_law_values := has_law_values T h_law_one h_law_pick
    have h_law_samples : Has P w K mg base "_law_samples" 2 4 F_law_samples := has_law_samples T h_law_one h_law_pick h_law_values
    have h_is_from : Has P w K mg base "is_from" 3 1 F_is_from := has_is_from T 
    have h_is_sample : Has P w K mg base "is_sample" 1 2 F_is_sample := has_is_sample T h_is_from
    have h_is_samples : Has P w K mg base "is_samples" 1 3 F_is_samples := has_is_samples T h_is_sample
    have h_need_samples : Has P w K mg base "need_samples" 1 4 F_need_samples := has_need_samples T h_is_samples
    have h_gaps_of : Has P w K mg base "gaps_of" 1 1 F_gaps_of := has_gaps_of T 
    have h_step : Has P w K mg base "step" 2 1 F_step := has_step T 
    have h_least_rate : Has P w K mg base "least_rate" 1 5 F_least_rate := has_least_rate T h_need_samples h_gaps_of h_step
    have h_need_rate : Has P w K mg base "need_rate" 1 2 F_need_rate := has_need_rate T h_is_from
    have h_options : Has P w K mg base "options" 2 1 F_options := has_options T 
    have h_status_of : Has P w K mg base "status_of" 2 2 F_status_of := has_status_of T h_options
    have h_restart_statuses : Has P w K mg base "restart_statuses" 2 5 F_restart_statuses := has_restart_statuses T h_need_samples h_need_rate h_gaps_of h_status_of
    have h_law_whole : Has P w K mg base "_law_whole" 1 1 F_law_whole := has_law_whole T 
    have h_law_status : Has P w K mg base "_law_status" 4 1 F_law_status := has_law_status T 
    have h_law_sort : Has P w K mg base "_law_sort" 1 1 F_law_sort := has_law_sort T 
    have h_law_same : Has P w K mg base "_law_same" 2 10 (F_law_same 8) := (has_law_same T h_law_sort 8)
    have h_total_bounds : Has P w K mg base "total_bounds" 2 5 F_total_bounds := has_total_bounds T h_need_samples h_need_rate h_gaps_of h_options
    have h_joined : Has P w K mg base "joined" 1 1 F_joined := has_joined T 
    have h_total_ranges : Has P w K mg base "total_ranges" 2 5 F_total_ranges := has_total_ranges T h_need_samples h_need_rate h_gaps_of h_options h_joined
    exact ok_law T h_law_deck h_law_samples h_least_rate h_law_whole h_law_pick h_law_status h_restart_statuses h_law_same h_total_bounds h_total_ranges hf hcode TB
theorem txt_mk {h : Heap} (X : K.In h) (G : h.Ns mainGlobals mg) {t14 : Nat} {t15 : Nat} {C18 : Addr} {C19 : Addr} {Q_InvalidSamples : Addr} {Q_InvalidSample : Addr} {Q_InvalidIndex : Addr} {Q_InvalidNumber : Addr} {Q_InvalidRate : Addr} {Q_InvalidAmount : Addr} {Q_InvalidLength : Addr} {Q_InvalidRule : Addr} {Q_InvalidTable : Addr} {Q_InvalidCollectors : Addr} {Q_InvalidCounter : Addr} {Q_Contradiction : Addr} {Q_NothingToUndo : Addr} {Q_TooMany : Addr} {Q_CounterError : Addr} {g40 : Addr} {od40 an40 : Option Addr} {sl40 : Array (Option Value)} {oc40 kV40 dc40 pm40 cd40 ct40 : Value} {g41 : Addr} {od41 an41 : Option Addr} {sl41 : Array (Option Value)} {oc41 kV41 dc41 pm41 cd41 ct41 : Value} {g42 : Addr} {od42 an42 : Option Addr} {sl42 : Array (Option Value)} {oc42 kV42 dc42 pm42 cd42 ct42 : Value} {g43 : Addr} {od43 an43 : Option Addr} {sl43 : Array (Option Value)} {oc43 kV43 dc43 pm43 cd43 ct43 : Value} {g44 : Addr} {od44 an44 : Option Addr} {sl44 : Array (Option Value)} {oc44 kV44 dc44 pm44 cd44 ct44 : Value} {g45 : Addr} {od45 an45 : Option Addr} {sl45 : Array (Option Value)} {oc45 kV45 dc45 pm45 cd45 ct45 : Value} {g46 : Addr} {od46 an46 : Option Addr} {sl46 : Array (Option Value)} {oc46 kV46 dc46 pm46 cd46 ct46 : Value} {g47 : Addr} {od47 an47 : Option Addr} {sl47 : Array (Option Value)} {oc47 kV47 dc47 pm47 cd47 ct47 : Value} {g48 : Addr} {od48 an48 : Option Addr} {sl48 : Array (Option Value)} {oc48 kV48 dc48 pm48 cd48 ct48 : Value} {g49 : Addr} {od49 an49 : Option Addr} {sl49 : Array (Option Value)} {oc49 kV49 dc49 pm49 cd49 ct49 : Value} {g50 : Addr} {od50 an50 : Option Addr} {sl50 : Array (Option Value)} {oc50 kV50 dc50 pm50 cd50 ct50 : Value} {g51 : Addr} {od51 an51 : Option Addr} {sl51 : Array (Option Value)} {oc51 kV51 dc51 pm51 cd51 ct51 : Value} {g52 : Addr} {od52 an52 : Option Addr} {sl52 : Array (Option Value)} {oc52 kV52 dc52 pm52 cd52 ct52 : Value} {g53 : Addr} {od53 an53 : Option Addr} {sl53 : Array (Option Value)} {oc53 kV53 dc53 pm53 cd53 ct53 : Value} {g54 : Addr} {od54 an54 : Option Addr} {sl54 : Array (Option Value)} {oc54 kV54 dc54 pm54 cd54 ct54 : Value} {g55 : Addr} {od55 an55 : Option Addr} {sl55 : Array (Option Value)} {oc55 kV55 dc55 pm55 cd55 ct55 : Value} {g56 : Addr} {od56 an56 : Option Addr} {sl56 : Array (Option Value)} {oc56 kV56 dc56 pm56 cd56 ct56 : Value} {g57 : Addr} {od57 an57 : Option Addr} {sl57 : Array (Option Value)} {oc57 kV57 dc57 pm57 cd57 ct57 : Value} {g58 : Addr} {od58 an58 : Option Addr} {sl58 : Array (Option Value)} {oc58 kV58 dc58 pm58 cd58 ct58 : Value} {g59 : Addr} {od59 an59 : Option Addr} {sl59 : Array (Option Value)} {oc59 kV59 dc59 pm59 cd59 ct59 : Value} {g60 : Addr} {od60 an60 : Option Addr} {sl60 : Array (Option Value)} {oc60 kV60 dc60 pm60 cd60 ct60 : Value} {g61 : Addr} {od61 an61 : Option Addr} {sl61 : Array (Option Value)} {oc61 kV61 dc61 pm61 cd61 ct61 : Value} {g62 : Addr} {od62 an62 : Option Addr} {sl62 : Array (Option Value)} {oc62 kV62 dc62 pm62 cd62 ct62 : Value} {g63 : Addr} {od63 an63 : Option Addr} {sl63 : Array (Option Value)} {oc63 kV63 dc63 pm63 cd63 ct63 : Value} {g64 : Addr} {od64 an64 : Option Addr} {sl64 : Array (Option Value)} {oc64 kV64 dc64 pm64 cd64 ct64 : Value} {g65 : Addr} {od65 an65 : Option Addr} {sl65 : Array (Option Value)} {oc65 kV65 dc65 pm65 cd65 ct65 : Value}
    (f0 : PySem.W.nsIn K mainGlobals "all" = some none)
    (f1 : PySem.W.nsIn K mainGlobals "bool" = some none)
    (f2 : PySem.W.nsIn K mainGlobals "enumerate" = some none)
    (f3 : PySem.W.nsIn K mainGlobals "int" = some none)
    (f4 : PySem.W.nsIn K mainGlobals "isinstance" = some none)
    (f5 : PySem.W.nsIn K mainGlobals "len" = some none)
    (f6 : PySem.W.nsIn K mainGlobals "list" = some none)
    (f7 : PySem.W.nsIn K mainGlobals "max" = some none)
    (f8 : PySem.W.nsIn K mainGlobals "min" = some none)
    (f9 : PySem.W.nsIn K mainGlobals "range" = some none)
    (f10 : PySem.W.nsIn K mainGlobals "sorted" = some none)
    (f11 : PySem.W.nsIn K mainGlobals "str" = some none)
    (f12 : PySem.W.nsIn K mainGlobals "tuple" = some none)
    (f13 : PySem.W.nsIn K mainGlobals "zip" = some none)
    (f14 : PySem.W.nsIn K mainGlobals "MOST_GAPS" = some (some (.int 10 t14)))
    (f15 : PySem.W.nsIn K mainGlobals "MOST_SAMPLES" = some (some (.int 40 t15)))
    (f16 : ∃ t, mg "HIGHEST" = some (.int 1000000 t))
    (f17 : ∃ t, mg "LATEST" = some (.int 1000000000 t))
    (a18 : PySem.W.nsIn K mainGlobals "InvalidRate" = some (some (.ref C18))) (x18 : PySem.W.excIn K C18 [.type "ValueError", .type "Exception", .type "BaseException", .type "object"] "ValueError.__new__" = true) (k18 : PySem.W.keepIn K (.ref C18) = true) (b18 : PySem.W.subIn K (.ref C18) (.type "BaseException") = some true) (t18 : PySem.W.typeIn K (.ref C18) = some (.type "type"))
    (a19 : PySem.W.nsIn K mainGlobals "InvalidSamples" = some (some (.ref C19))) (x19 : PySem.W.excIn K C19 [.type "ValueError", .type "Exception", .type "BaseException", .type "object"] "ValueError.__new__" = true) (k19 : PySem.W.keepIn K (.ref C19) = true) (b19 : PySem.W.subIn K (.ref C19) (.type "BaseException") = some true) (t19 : PySem.W.typeIn K (.ref C19) = some (.type "type"))
    (f20 : PySem.W.nsIn K mainGlobals "ValueError" = some none)
    (q21 : PySem.W.nsIn K mainGlobals "InvalidSamples" = some (some (.ref Q_InvalidSamples)))
    (q22 : PySem.W.nsIn K mainGlobals "InvalidSample" = some (some (.ref Q_InvalidSample)))
    (q23 : PySem.W.nsIn K mainGlobals "InvalidIndex" = some (some (.ref Q_InvalidIndex)))
    (q24 : PySem.W.nsIn K mainGlobals "InvalidNumber" = some (some (.ref Q_InvalidNumber)))
    (q25 : PySem.W.nsIn K mainGlobals "InvalidRate" = some (some (.ref Q_InvalidRate)))
    (q26 : PySem.W.nsIn K mainGlobals "InvalidAmount" = some (some (.ref Q_InvalidAmount)))
    (q27 : PySem.W.nsIn K mainGlobals "InvalidLength" = some (some (.ref Q_InvalidLength)))
    (q28 : PySem.W.nsIn K mainGlobals "InvalidRule" = some (some (.ref Q_InvalidRule)))
    (q29 : PySem.W.nsIn K mainGlobals "InvalidTable" = some (some (.ref Q_InvalidTable)))
    (q30 : PySem.W.nsIn K mainGlobals "InvalidCollectors" = some (some (.ref Q_InvalidCollectors)))
    (q31 : PySem.W.nsIn K mainGlobals "InvalidCounter" = some (some (.ref Q_InvalidCounter)))
    (q32 : PySem.W.nsIn K mainGlobals "Contradiction" = some (some (.ref Q_Contradiction)))
    (q33 : PySem.W.nsIn K mainGlobals "NothingToUndo" = some (some (.ref Q_NothingToUndo)))
    (q34 : PySem.W.nsIn K mainGlobals "TooMany" = some (some (.ref Q_TooMany)))
    (q35 : PySem.W.nsIn K mainGlobals "CounterError" = some (some (.ref Q_CounterError)))
    (n38_0 : PySem.W.findIn K (.ref Q_InvalidRate) "__getattribute__" = some (some (.builtin "BaseException.__getattribute__")))
    (n38_1 : PySem.W.findIn K (.ref Q_InvalidRate) "__getattr__" = some none)
    (n38_2 : PySem.W.subIn K (.ref Q_InvalidRate) (.type "BaseException") = some true)
    (n38_3 : PySem.W.hasDictIn K Q_InvalidRate = true)
    (n38_4 : PySem.W.findIn K (.ref Q_InvalidRate) "__class__" = some (some (.builtin "object.__class__")))
    (n38_5 : PySem.W.specialIn K (.builtin "object.__class__") "__get__" = some (some (.builtin "getset_descriptor.__get__")))
    (n38_6 : PySem.W.takesIn K (.builtin "object.__class__") = some true)
    (n38_7 : PySem.W.mroIn K Q_InvalidRate (.type "object") = some true)
    (m38_0 : PySem.W.kitOne K (.ref Q_InvalidRate) (.ref Q_InvalidSamples) = some false)
    (m38_1 : PySem.W.kitOne K (.ref Q_InvalidRate) (.ref Q_InvalidSample) = some false)
    (m38_2 : PySem.W.kitOne K (.ref Q_InvalidRate) (.ref Q_InvalidIndex) = some false)
    (m38_3 : PySem.W.kitOne K (.ref Q_InvalidRate) (.ref Q_InvalidNumber) = some false)
    (m38_4 : PySem.W.kitOne K (.ref Q_InvalidRate) (.ref Q_InvalidRate) = some true)
    (m38_5 : PySem.W.kitOne K (.ref Q_InvalidRate) (.ref Q_InvalidAmount) = some false)
    (m38_6 : PySem.W.kitOne K (.ref Q_InvalidRate) (.ref Q_InvalidLength) = some false)
    (m38_7 : PySem.W.kitOne K (.ref Q_InvalidRate) (.ref Q_InvalidRule) = some false)
    (m38_8 : PySem.W.kitOne K (.ref Q_InvalidRate) (.ref Q_InvalidTable) = some false)
    (m38_9 : PySem.W.kitOne K (.ref Q_InvalidRate) (.ref Q_InvalidCollectors) = some false)
    (m38_10 : PySem.W.kitOne K (.ref Q_InvalidRate) (.ref Q_InvalidCounter) = some false)
    (m38_11 : PySem.W.kitOne K (.ref Q_InvalidRate) (.ref Q_Contradiction) = some false)
    (m38_12 : PySem.W.kitOne K (.ref Q_InvalidRate) (.ref Q_NothingToUndo) = some false)
    (m38_13 : PySem.W.kitOne K (.ref Q_InvalidRate) (.ref Q_TooMany) = some false)
    (v38 : PySem.W.kitOne K (.ref Q_InvalidRate) (.type "ValueError") = some true)
    (y38 : PySem.W.exmOne K (.ref Q_InvalidRate) (.ref Q_TooMany) = some false)
    (z38 : PySem.W.exmOne K (.ref Q_InvalidRate) (.ref Q_CounterError) = some true)
    (n39_0 : PySem.W.findIn K (.ref Q_InvalidSamples) "__getattribute__" = some (some (.builtin "BaseException.__getattribute__")))
    (n39_1 : PySem.W.findIn K (.ref Q_InvalidSamples) "__getattr__" = some none)
    (n39_2 : PySem.W.subIn K (.ref Q_InvalidSamples) (.type "BaseException") = some true)
    (n39_3 : PySem.W.hasDictIn K Q_InvalidSamples = true)
    (n39_4 : PySem.W.findIn K (.ref Q_InvalidSamples) "__class__" = some (some (.builtin "object.__class__")))
    (n39_5 : PySem.W.specialIn K (.builtin "object.__class__") "__get__" = some (some (.builtin "getset_descriptor.__get__")))
    (n39_6 : PySem.W.takesIn K (.builtin "object.__class__") = some true)
    (n39_7 : PySem.W.mroIn K Q_InvalidSamples (.type "object") = some true)
    (m39_0 : PySem.W.kitOne K (.ref Q_InvalidSamples) (.ref Q_InvalidSamples) = some true)
    (m39_1 : PySem.W.kitOne K (.ref Q_InvalidSamples) (.ref Q_InvalidSample) = some false)
    (m39_2 : PySem.W.kitOne K (.ref Q_InvalidSamples) (.ref Q_InvalidIndex) = some false)
    (m39_3 : PySem.W.kitOne K (.ref Q_InvalidSamples) (.ref Q_InvalidNumber) = some false)
    (m39_4 : PySem.W.kitOne K (.ref Q_InvalidSamples) (.ref Q_InvalidRate) = some false)
    (m39_5 : PySem.W.kitOne K (.ref Q_InvalidSamples) (.ref Q_InvalidAmount) = some false)
    (m39_6 : PySem.W.kitOne K (.ref Q_InvalidSamples) (.ref Q_InvalidLength) = some false)
    (m39_7 : PySem.W.kitOne K (.ref Q_InvalidSamples) (.ref Q_InvalidRule) = some false)
    (m39_8 : PySem.W.kitOne K (.ref Q_InvalidSamples) (.ref Q_InvalidTable) = some false)
    (m39_9 : PySem.W.kitOne K (.ref Q_InvalidSamples) (.ref Q_InvalidCollectors) = some false)
    (m39_10 : PySem.W.kitOne K (.ref Q_InvalidSamples) (.ref Q_InvalidCounter) = some false)
    (m39_11 : PySem.W.kitOne K (.ref Q_InvalidSamples) (.ref Q_Contradiction) = some false)
    (m39_12 : PySem.W.kitOne K (.ref Q_InvalidSamples) (.ref Q_NothingToUndo) = some false)
    (m39_13 : PySem.W.kitOne K (.ref Q_InvalidSamples) (.ref Q_TooMany) = some false)
    (v39 : PySem.W.kitOne K (.ref Q_InvalidSamples) (.type "ValueError") = some true)
    (y39 : PySem.W.exmOne K (.ref Q_InvalidSamples) (.ref Q_TooMany) = some false)
    (z39 : PySem.W.exmOne K (.ref Q_InvalidSamples) (.ref Q_CounterError) = some true)
    (a40 : PySem.W.nsIn K mainGlobals "_law_deck" = some (some (.ref g40))) (l40 : K.lookup g40 = some ⟨oc40, od40, .func (PySem.W.fnOf "_law_deck" "_law_deck" (defArgs s_law_deck) (defBody s_law_deck) (defScope s_law_deck) .none kV40 dc40 pm40 an40 cd40 ct40), sl40⟩) (c40 : PySem.W.codeIn K cd40 "_law_deck" = true) (k40 : PySem.W.keepIn K (.ref g40) = true)
    (a41 : PySem.W.nsIn K mainGlobals "_law_pick" = some (some (.ref g41))) (l41 : K.lookup g41 = some ⟨oc41, od41, .func (PySem.W.fnOf "_law_pick" "_law_pick" (defArgs s_law_pick) (defBody s_law_pick) (defScope s_law_pick) .none kV41 dc41 pm41 an41 cd41 ct41), sl41⟩) (c41 : PySem.W.codeIn K cd41 "_law_pick" = true) (k41 : PySem.W.keepIn K (.ref g41) = true)
    (a42 : PySem.W.nsIn K mainGlobals "_law_one" = some (some (.ref g42))) (l42 : K.lookup g42 = some ⟨oc42, od42, .func (PySem.W.fnOf "_law_one" "_law_one" (defArgs s_law_one) (defBody s_law_one) (defScope s_law_one) .none kV42 dc42 pm42 an42 cd42 ct42), sl42⟩) (c42 : PySem.W.codeIn K cd42 "_law_one" = true) (k42 : PySem.W.keepIn K (.ref g42) = true)
    (a43 : PySem.W.nsIn K mainGlobals "_law_values" = some (some (.ref g43))) (l43 : K.lookup g43 = some ⟨oc43, od43, .func (PySem.W.fnOf "_law_values" "_law_values" (defArgs s_law_values) (defBody s_law_values) (defScope s_law_values) .none kV43 dc43 pm43 an43 cd43 ct43), sl43⟩) (c43 : PySem.W.codeIn K cd43 "_law_values" = true) (k43 : PySem.W.keepIn K (.ref g43) = true)
    (a44 : PySem.W.nsIn K mainGlobals "_law_samples" = some (some (.ref g44))) (l44 : K.lookup g44 = some ⟨oc44, od44, .func (PySem.W.fnOf "_law_samples" "_law_samples" (defArgs s_law_samples) (defBody s_law_samples) (defScope s_law_samples) .none kV44 dc44 pm44 an44 cd44 ct44), sl44⟩) (c44 : PySem.W.codeIn K cd44 "_law_samples" = true) (k44 : PySem.W.keepIn K (.ref g44) = true)
    (a45 : PySem.W.nsIn K mainGlobals "is_from" = some (some (.ref g45))) (l45 : K.lookup g45 = some ⟨oc45, od45, .func (PySem.W.fnOf "is_from" "is_from" (defArgs s_is_from) (defBody s_is_from) (defScope s_is_from) .none kV45 dc45 pm45 an45 cd45 ct45), sl45⟩) (c45 : PySem.W.codeIn K cd45 "is_from" = true) (k45 : PySem.W.keepIn K (.ref g45) = true)
    (a46 : PySem.W.nsIn K mainGlobals "is_sample" = some (some (.ref g46))) (l46 : K.lookup g46 = some ⟨oc46, od46, .func (PySem.W.fnOf "is_sample" "is_sample" (defArgs s_is_sample) (defBody s_is_sample) (defScope s_is_sample) .none kV46 dc46 pm46 an46 cd46 ct46), sl46⟩) (c46 : PySem.W.codeIn K cd46 "is_sample" = true) (k46 : PySem.W.keepIn K (.ref g46) = true)
    (a47 : PySem.W.nsIn K mainGlobals "is_samples" = some (some (.ref g47))) (l47 : K.lookup g47 = some ⟨oc47, od47, .func (PySem.W.fnOf "is_samples" "is_samples" (defArgs s_is_samples) (defBody s_is_samples) (defScope s_is_samples) .none kV47 dc47 pm47 an47 cd47 ct47), sl47⟩) (c47 : PySem.W.codeIn K cd47 "is_samples" = true) (k47 : PySem.W.keepIn K (.ref g47) = true)
    (a48 : PySem.W.nsIn K mainGlobals "need_samples" = some (some (.ref g48))) (l48 : K.lookup g48 = some ⟨oc48, od48, .func (PySem.W.fnOf "need_samples" "need_samples" (defArgs s_need_samples) (defBody s_need_samples) (defScope s_need_samples) .none kV48 dc48 pm48 an48 cd48 ct48), sl48⟩) (c48 : PySem.W.codeIn K cd48 "need_samples" = true) (k48 : PySem.W.keepIn K (.ref g48) = true)
    (a49 : PySem.W.nsIn K mainGlobals "gaps_of" = some (some (.ref g49))) (l49 : K.lookup g49 = some ⟨oc49, od49, .func (PySem.W.fnOf "gaps_of" "gaps_of" (defArgs s_gaps_of) (defBody s_gaps_of) (defScope s_gaps_of) .none kV49 dc49 pm49 an49 cd49 ct49), sl49⟩) (c49 : PySem.W.codeIn K cd49 "gaps_of" = true) (k49 : PySem.W.keepIn K (.ref g49) = true)
    (a50 : PySem.W.nsIn K mainGlobals "step" = some (some (.ref g50))) (l50 : K.lookup g50 = some ⟨oc50, od50, .func (PySem.W.fnOf "step" "step" (defArgs s_step) (defBody s_step) (defScope s_step) .none kV50 dc50 pm50 an50 cd50 ct50), sl50⟩) (c50 : PySem.W.codeIn K cd50 "step" = true) (k50 : PySem.W.keepIn K (.ref g50) = true)
    (a51 : PySem.W.nsIn K mainGlobals "least_rate" = some (some (.ref g51))) (l51 : K.lookup g51 = some ⟨oc51, od51, .func (PySem.W.fnOf "least_rate" "least_rate" (defArgs s_least_rate) (defBody s_least_rate) (defScope s_least_rate) .none kV51 dc51 pm51 an51 cd51 ct51), sl51⟩) (c51 : PySem.W.codeIn K cd51 "least_rate" = true) (k51 : PySem.W.keepIn K (.ref g51) = true)
    (a52 : PySem.W.nsIn K mainGlobals "need_rate" = some (some (.ref g52))) (l52 : K.lookup g52 = some ⟨oc52, od52, .func (PySem.W.fnOf "need_rate" "need_rate" (defArgs s_need_rate) (defBody s_need_rate) (defScope s_need_rate) .none kV52 dc52 pm52 an52 cd52 ct52), sl52⟩) (c52 : PySem.W.codeIn K cd52 "need_rate" = true) (k52 : PySem.W.keepIn K (.ref g52) = true)
    (a53 : PySem.W.nsIn K mainGlobals "options" = some (some (.ref g53))) (l53 : K.lookup g53 = some ⟨oc53, od53, .func (PySem.W.fnOf "options" "options" (defArgs s_options) (defBody s_options) (defScope s_options) .none kV53 dc53 pm53 an53 cd53 ct53), sl53⟩) (c53 : PySem.W.codeIn K cd53 "options" = true) (k53 : PySem.W.keepIn K (.ref g53) = true)
    (a54 : PySem.W.nsIn K mainGlobals "status_of" = some (some (.ref g54))) (l54 : K.lookup g54 = some ⟨oc54, od54, .func (PySem.W.fnOf "status_of" "status_of" (defArgs s_status_of) (defBody s_status_of) (defScope s_status_of) .none kV54 dc54 pm54 an54 cd54 ct54), sl54⟩) (c54 : PySem.W.codeIn K cd54 "status_of" = true) (k54 : PySem.W.keepIn K (.ref g54) = true)
    (a55 : PySem.W.nsIn K mainGlobals "restart_statuses" = some (some (.ref g55))) (l55 : K.lookup g55 = some ⟨oc55, od55, .func (PySem.W.fnOf "restart_statuses" "restart_statuses" (defArgs s_restart_statuses) (defBody s_restart_statuses) (defScope s_restart_statuses) .none kV55 dc55 pm55 an55 cd55 ct55), sl55⟩) (c55 : PySem.W.codeIn K cd55 "restart_statuses" = true) (k55 : PySem.W.keepIn K (.ref g55) = true)
    (a56 : PySem.W.nsIn K mainGlobals "_law_whole" = some (some (.ref g56))) (l56 : K.lookup g56 = some ⟨oc56, od56, .func (PySem.W.fnOf "_law_whole" "_law_whole" (defArgs s_law_whole) (defBody s_law_whole) (defScope s_law_whole) .none kV56 dc56 pm56 an56 cd56 ct56), sl56⟩) (c56 : PySem.W.codeIn K cd56 "_law_whole" = true) (k56 : PySem.W.keepIn K (.ref g56) = true)
    (a57 : PySem.W.nsIn K mainGlobals "_law_name_of" = some (some (.ref g57))) (l57 : K.lookup g57 = some ⟨oc57, od57, .func (PySem.W.fnOf "_law_name_of" "_law_name_of" (defArgs s_law_name_of) (defBody s_law_name_of) (defScope s_law_name_of) .none kV57 dc57 pm57 an57 cd57 ct57), sl57⟩) (c57 : PySem.W.codeIn K cd57 "_law_name_of" = true) (k57 : PySem.W.keepIn K (.ref g57) = true)
    (a58 : PySem.W.nsIn K mainGlobals "_law_try" = some (some (.ref g58))) (l58 : K.lookup g58 = some ⟨oc58, od58, .func (PySem.W.fnOf "_law_try" "_law_try" (defArgs s_law_try) (defBody s_law_try) (defScope s_law_try) .none kV58 dc58 pm58 an58 cd58 ct58), sl58⟩) (c58 : PySem.W.codeIn K cd58 "_law_try" = true) (k58 : PySem.W.keepIn K (.ref g58) = true)
    (a59 : PySem.W.nsIn K mainGlobals "_law_status" = some (some (.ref g59))) (l59 : K.lookup g59 = some ⟨oc59, od59, .func (PySem.W.fnOf "_law_status" "_law_status" (defArgs s_law_status) (defBody s_law_status) (defScope s_law_status) .none kV59 dc59 pm59 an59 cd59 ct59), sl59⟩) (c59 : PySem.W.codeIn K cd59 "_law_status" = true) (k59 : PySem.W.keepIn K (.ref g59) = true)
    (a60 : PySem.W.nsIn K mainGlobals "_law_sort" = some (some (.ref g60))) (l60 : K.lookup g60 = some ⟨oc60, od60, .func (PySem.W.fnOf "_law_sort" "_law_sort" (defArgs s_law_sort) (defBody s_law_sort) (defScope s_law_sort) .none kV60 dc60 pm60 an60 cd60 ct60), sl60⟩) (c60 : PySem.W.codeIn K cd60 "_law_sort" = true) (k60 : PySem.W.keepIn K (.ref g60) = true)
    (a61 : PySem.W.nsIn K mainGlobals "_law_same" = some (some (.ref g61))) (l61 : K.lookup g61 = some ⟨oc61, od61, .func (PySem.W.fnOf "_law_same" "_law_same" (defArgs s_law_same) (defBody s_law_same) (defScope s_law_same) .none kV61 dc61 pm61 an61 cd61 ct61), sl61⟩) (c61 : PySem.W.codeIn K cd61 "_law_same" = true) (k61 : PySem.W.keepIn K (.ref g61) = true)
    (a62 : PySem.W.nsIn K mainGlobals "total_bounds" = some (some (.ref g62))) (l62 : K.lookup g62 = some ⟨oc62, od62, .func (PySem.W.fnOf "total_bounds" "total_bounds" (defArgs s_total_bounds) (defBody s_total_bounds) (defScope s_total_bounds) .none kV62 dc62 pm62 an62 cd62 ct62), sl62⟩) (c62 : PySem.W.codeIn K cd62 "total_bounds" = true) (k62 : PySem.W.keepIn K (.ref g62) = true)
    (a63 : PySem.W.nsIn K mainGlobals "joined" = some (some (.ref g63))) (l63 : K.lookup g63 = some ⟨oc63, od63, .func (PySem.W.fnOf "joined" "joined" (defArgs s_joined) (defBody s_joined) (defScope s_joined) .none kV63 dc63 pm63 an63 cd63 ct63), sl63⟩) (c63 : PySem.W.codeIn K cd63 "joined" = true) (k63 : PySem.W.keepIn K (.ref g63) = true)
    (a64 : PySem.W.nsIn K mainGlobals "total_ranges" = some (some (.ref g64))) (l64 : K.lookup g64 = some ⟨oc64, od64, .func (PySem.W.fnOf "total_ranges" "total_ranges" (defArgs s_total_ranges) (defBody s_total_ranges) (defScope s_total_ranges) .none kV64 dc64 pm64 an64 cd64 ct64), sl64⟩) (c64 : PySem.W.codeIn K cd64 "total_ranges" = true) (k64 : PySem.W.keepIn K (.ref g64) = true)
    (a65 : PySem.W.nsIn K mainGlobals "law" = some (some (.ref g65))) (l65 : K.lookup g65 = some ⟨oc65, od65, .func (PySem.W.fnOf "law" "law" (defArgs s_law) (defBody s_law) (defScope s_law) .none kV65 dc65 pm65 an65 cd65 ct65), sl65⟩) (c65 : PySem.W.codeIn K cd65 "law" = true) (k65 : PySem.W.keepIn K (.ref g65) = true) : Txt K mg :=
  ⟨PySem.W.mg_none_of X G f0, PySem.W.mg_none_of X G f1, PySem.W.mg_none_of X G f2, PySem.W.mg_none_of X G f3, PySem.W.mg_none_of X G f4, PySem.W.mg_none_of X G f5, PySem.W.mg_none_of X G f6, PySem.W.mg_none_of X G f7, PySem.W.mg_none_of X G f8, PySem.W.mg_none_of X G f9, PySem.W.mg_none_of X G f10, PySem.W.mg_none_of X G f11, PySem.W.mg_none_of X G f12, PySem.W.mg_none_of X G f13, ⟨t14, PySem.W.mg_of X G f14⟩, ⟨t15, PySem.W.mg_of X G f15⟩, f16, f17, ⟨C18, PySem.W.mg_of X G a18, x18, k18, b18, t18⟩, ⟨C19, PySem.W.mg_of X G a19, x19, k19, b19, t19⟩, PySem.W.mg_none_of X G f20, ⟨_, PySem.W.mg_of X G q34⟩, ⟨_, PySem.W.mg_of X G q35⟩, ⟨_, PySem.W.mg_of X G q25, ⟨n38_0, n38_1, n38_2, n38_3, n38_4, n38_5, n38_6, n38_7⟩, ⟨_, PySem.W.mg_of X G q21, m38_0⟩, ⟨_, PySem.W.mg_of X G q22, m38_1⟩, ⟨_, PySem.W.mg_of X G q23, m38_2⟩, ⟨_, PySem.W.mg_of X G q24, m38_3⟩, ⟨_, PySem.W.mg_of X G q25, m38_4⟩, ⟨_, PySem.W.mg_of X G q26, m38_5⟩, ⟨_, PySem.W.mg_of X G q27, m38_6⟩, ⟨_, PySem.W.mg_of X G q28, m38_7⟩, ⟨_, PySem.W.mg_of X G q29, m38_8⟩, ⟨_, PySem.W.mg_of X G q30, m38_9⟩, ⟨_, PySem.W.mg_of X G q31, m38_10⟩, ⟨_, PySem.W.mg_of X G q32, m38_11⟩, ⟨_, PySem.W.mg_of X G q33, m38_12⟩, ⟨_, PySem.W.mg_of X G q34, m38_13⟩, v38, ⟨_, PySem.W.mg_of X G q34, y38⟩, ⟨_, PySem.W.mg_of X G q35, z38⟩⟩, ⟨_, PySem.W.mg_of X G q21, ⟨n39_0, n39_1, n39_2, n39_3, n39_4, n39_5, n39_6, n39_7⟩, ⟨_, PySem.W.mg_of X G q21, m39_0⟩, ⟨_, PySem.W.mg_of X G q22, m39_1⟩, ⟨_, PySem.W.mg_of X G q23, m39_2⟩, ⟨_, PySem.W.mg_of X G q24, m39_3⟩, ⟨_, PySem.W.mg_of X G q25, m39_4⟩, ⟨_, PySem.W.mg_of X G q26, m39_5⟩, ⟨_, PySem.W.mg_of X G q27, m39_6⟩, ⟨_, PySem.W.mg_of X G q28, m39_7⟩, ⟨_, PySem.W.mg_of X G q29, m39_8⟩, ⟨_, PySem.W.mg_of X G q30, m39_9⟩, ⟨_, PySem.W.mg_of X G q31, m39_10⟩, ⟨_, PySem.W.mg_of X G q32, m39_11⟩, ⟨_, PySem.W.mg_of X G q33, m39_12⟩, ⟨_, PySem.W.mg_of X G q34, m39_13⟩, v39, ⟨_, PySem.W.mg_of X G q34, y39⟩, ⟨_, PySem.W.mg_of X G q35, z39⟩⟩, ⟨_, _, fun_mk l40 c40 k40, PySem.W.mg_of X G a40⟩, ⟨_, _, fun_mk l41 c41 k41, PySem.W.mg_of X G a41⟩, ⟨_, _, fun_mk l42 c42 k42, PySem.W.mg_of X G a42⟩, ⟨_, _, fun_mk l43 c43 k43, PySem.W.mg_of X G a43⟩, ⟨_, _, fun_mk l44 c44 k44, PySem.W.mg_of X G a44⟩, ⟨_, _, fun_mk l45 c45 k45, PySem.W.mg_of X G a45⟩, ⟨_, _, fun_mk l46 c46 k46, PySem.W.mg_of X G a46⟩, ⟨_, _, fun_mk l47 c47 k47, PySem.W.mg_of X G a47⟩, ⟨_, _, fun_mk l48 c48 k48, PySem.W.mg_of X G a48⟩, ⟨_, _, fun_mk l49 c49 k49, PySem.W.mg_of X G a49⟩, ⟨_, _, fun_mk l50 c50 k50, PySem.W.mg_of X G a50⟩, ⟨_, _, fun_mk l51 c51 k51, PySem.W.mg_of X G a51⟩, ⟨_, _, fun_mk l52 c52 k52, PySem.W.mg_of X G a52⟩, ⟨_, _, fun_mk l53 c53 k53, PySem.W.mg_of X G a53⟩, ⟨_, _, fun_mk l54 c54 k54, PySem.W.mg_of X G a54⟩, ⟨_, _, fun_mk l55 c55 k55, PySem.W.mg_of X G a55⟩, ⟨_, _, fun_mk l56 c56 k56, PySem.W.mg_of X G a56⟩, ⟨_, _, fun_mk l57 c57 k57, PySem.W.mg_of X G a57⟩, ⟨_, _, fun_mk l58 c58 k58, PySem.W.mg_of X G a58⟩, ⟨_, _, fun_mk l59 c59 k59, PySem.W.mg_of X G a59⟩, ⟨_, _, fun_mk l60 c60 k60, PySem.W.mg_of X G a60⟩, ⟨_, _, fun_mk l61 c61 k61, PySem.W.mg_of X G a61⟩, ⟨_, _, fun_mk l62 c62 k62, PySem.W.mg_of X G a62⟩, ⟨_, _, fun_mk l63 c63 k63, PySem.W.mg_of X G a63⟩, ⟨_, _, fun_mk l64 c64 k64, PySem.W.mg_of X G a64⟩, ⟨_, _, fun_mk l65 c65 k65, PySem.W.mg_of X G a65⟩⟩
end
end K10

namespace K10
/-! ### the law's own small defs -/
section
open PySem Rc
/-- a deck that is fit to be drawn from: n bounds the turns -/
def Deck (n : Int) (ds : List D) : Prop := ∃ d0 d1 d2 : Int, ds = [.int d0, .int d1, .int d2] ∧ 0 ≤ d1 ∧ d1 < 2147483579 ∧ 0 ≤ d2 ∧ d2 ≤ n
theorem Deck.mono {n m : Int} {ds : List D} (h : Deck n ds) (l : n ≤ m) : Deck m ds := by
  obtain ⟨a, b, c, e, h1, h2, h3, h4⟩ := h
  exact ⟨a, b, c, e, h1, h2, h3, by omega⟩
theorem deck_spec (c t : Int) (h : 0 ≤ t) : Rt (F_law_deck [.val (.int c), .val (.int t)]) fun v outs => ∃ ds, v = .ow ds ∧ outs = [.val (.int c), .val (.int t)] ∧ Deck t ds := by
  have m := Int.emod_nonneg c (show (2147483579 : Int) ≠ 0 by decide)
  have m2 := Int.emod_lt_of_pos c (show (0 : Int) < 2147483579 by decide)
  unfold F_law_deck B_law_deck
  simp -implicitDefEqProofs only [if_true, ↓Ok_ok, ↓Ok_bind, ↓Ok_seq, ↓thenS_nx, ↓thenS_rt, ↓thenS_bk, ↓thenS_ct, ↓Ok_sIf, ↓Ok_pass, ↓Ok_ret, ↓Ok_setk, ↓Ok_park, ↓Ok_par3k, ↓Ok_drop, ↓Ok_for, ↓Ok_while, ↓Ok_unpk, ↓Ok_callk, ↓Ok_tryC, ↓Tr_x, ↓Tr_r, ↓nmk_s, ↓muk_n, ↓muk_c, ↓mu2_s, ↓mu2_v, ↓mu2_o, ↓zrk_n, ↓zrk_c, ↓rs_h, ↓rs_v, ↓rs_o, hd_v, hd_o, hd_u, mh_n, mh_c, ↓Rt_fnk,
  ↓sg_z, ↓sg_s, ↓sw_z, ↓sw_s, ↓td_val, ↓td_ow, ↓Ok_eLit, ↓kp_val, ↓kp_ow, ↓Ok_eV, ↓Ok_op1e, ↓Ok_op1v, ↓Ok_op2ee, ↓Ok_op2ve, ↓Ok_op2ev, ↓Ok_op2vv, ↓op_add, ↓op_addL, ↓op_addT, ↓op_addI, ↓op_subI, ↓op_addB, ↓op_subB, ↓op_sub, ↓op_mul, ↓op_mod, ↓op_div, ↓op_pow, ↓op_lt, ↓op_le, ↓op_gt, ↓op_ge, ↓op_eqI, ↓op_neI, ↓op_neg, ↓op_isN, ↓op_notN, ↓op_lenL, ↓op_lenT,
  ↓op_isi_i, ↓op_isi_b, ↓op_isi_l, ↓op_isi_t, ↓op_isi_n, ↓op_isi_s, ↓op_abs, ↓op_max2, ↓op_min2, ↓op_tupL, ↓op_tupT, ↓op_lstL, ↓op_lstT, ↓ix_0, ↓ix_1, ↓ix_2, ↓ix_3, ↓tx_0, ↓tx_1, ↓tx_2, ↓tx_3, ↓Ok_datum, ↓Ok_evL0, ↓Ok_evLc, ↓Ok_eTup, ↓Ok_eLst, ↓bk_b, ↓Ok_tB, ↓Ok_eB, ↓Ok_tNot, ↓Ok_tAnd, ↓Ok_tOr, ↓Ok_eAnd, ↓Ok_eOr, ↓Ok_eIf, ↓fk_i, ↓fk_b, ↓fk_n, ↓Ok_evSe, ↓Ok_evSv, ↓ck2_b, ↓Ok_eChain,
  ↓pk_n, ↓pk_t, ↓pk_l, ↓pks_n, ↓pks_c, ↓vk_val, ↓vk_ow, ↓rvk_val, ↓rvk_ow, ↓Ok_retV, ↓augk_val, ↓Ok_augk, ↓nk_i, ↓Ok_setIx, ↓ixk_0, ↓ixk_1, ↓ixk_2, ↓apk_ow, ↓owk_ow, ↓Ok_app, ↓ak_n, ↓ak_d, ↓ak_b, ↓gk_n, ↓gk_l, ↓gk_r, ↓zk_n, ↓zk_l, ↓zk_r, ↓sgm_z, ↓sgm_s, ↓mk2_v, ↓mk2_o, ↓ik_z, ↓ik_n, ↓ik_s, ↓uk_z, ↓uk_s, ↓rtk_rt, ↓rtk_nx, ↓nok_n, ↓nok_v, ↓nok_o,
  ↓afk_nx, ↓afk_ct, ↓afk_bk, ↓afk_rt, ↓dk_l, ↓dk_t, ↓Ok_evPn, ↓Ok_evPs, ↓Ok_cutek, ↓Ok_cutv, ↓op_cutL, ↓op_cutT, ↓Ok_wSeq, ↓rk_i, ↓Ok_wRng1, ↓Ok_wRng2, ↓Ok_wEnum, ↓Ok_wZip2, ↓Ok_wZip3, ↓Ok_wN, ↓wk_n, ↓wk_c, ↓op_isB, ↓op_isNB, ↓dkk_d, ↓vk_dki, ↓lkk_s, ↓Ok_newK, ↓Ok_dlen, ↓Ok_dsorted, ↓Ok_dget, ↓Ok_dgetD, ↓Ok_dput,
  okArg_v, okArg_o, ↓Ok_tYes, nc_0, nc_1, nc_2, nc_3, nc_4, not_true_eq_false, not_false_eq_true, isN, List.length_cons, List.length_nil, Nat.zero_add, Nat.reduceAdd, List.mem_cons, List.not_mem_nil, decide_eq_true_eq, Bool.not_eq_true', decide_eq_false_iff_not, Bool.not_true, Bool.not_false, Bool.false_eq_true, if_true, if_false, true_and, and_true, or_false, or_true, true_or, reduceCtorEq, Nat.reduceEqDiff, and_self, decide_true, decide_false, Int.reduceLT, Int.reduceLE, Int.reduceEq, Int.reduceToNat, Int.reducePow, Int.reduceAdd, Int.reduceSub, Int.reduceMul, Int.reduceNeg, Int.reduceMod, Int.reduceDiv, Nat.reduceLeDiff, Nat.reduceLT, false_or, or_self, and_false, false_and]
  exact ifc (fun _ => ⟨_, rfl, _, _, _, rfl, m, m2, h, Int.le_refl _⟩) fun _ => ⟨_, rfl, _, _, _, rfl, m, m2, h, Int.le_refl _⟩
theorem pick_spec {n l : Int} {ds : List D} (hd : Deck n ds) (hn : n < 1000000000) (h0 : 0 < l) (h1 : l < 1000000000000000000) :
    Rt (F_law_pick [.ow ds, .val (.int l)]) fun v outs => ∃ r es, v = .val (.int r) ∧ outs = [.ow es, .val (.int l)] ∧ 0 ≤ r ∧ r < l ∧ Deck (n + 1) es := by
  obtain ⟨d0, d1, d2, rfl, a1, a2, a3, a4⟩ := hd
  have md := fun x => Int.emod_nonneg x (show l ≠ 0 by omega)
  have ml := fun x => Int.emod_lt_of_pos x h0
  have nd := fun x => Int.emod_nonneg x (show (2147483647 : Int) ≠ 0 by decide)
  have nl := fun x => Int.emod_lt_of_pos x (show (0 : Int) < 2147483647 by decide)
  unfold F_law_pick B_law_pick
  simp -implicitDefEqProofs only [if_true, ↓Ok_ok, ↓Ok_bind, ↓Ok_seq, ↓thenS_nx, ↓thenS_rt, ↓thenS_bk, ↓thenS_ct, ↓Ok_sIf, ↓Ok_pass, ↓Ok_ret, ↓Ok_setk, ↓Ok_park, ↓Ok_par3k, ↓Ok_drop, ↓Ok_for, ↓Ok_while, ↓Ok_unpk, ↓Ok_callk, ↓Ok_tryC, ↓Tr_x, ↓Tr_r, ↓nmk_s, ↓muk_n, ↓muk_c, ↓mu2_s, ↓mu2_v, ↓mu2_o, ↓zrk_n, ↓zrk_c, ↓rs_h, ↓rs_v, ↓rs_o, hd_v, hd_o, hd_u, mh_n, mh_c, ↓Rt_fnk,
  ↓sg_z, ↓sg_s, ↓sw_z, ↓sw_s, ↓td_val, ↓td_ow, ↓Ok_eLit, ↓kp_val, ↓kp_ow, ↓Ok_eV, ↓Ok_op1e, ↓Ok_op1v, ↓Ok_op2ee, ↓Ok_op2ve, ↓Ok_op2ev, ↓Ok_op2vv, ↓op_add, ↓op_addL, ↓op_addT, ↓op_addI, ↓op_subI, ↓op_addB, ↓op_subB, ↓op_sub, ↓op_mul, ↓op_mod, ↓op_div, ↓op_pow, ↓op_lt, ↓op_le, ↓op_gt, ↓op_ge, ↓op_eqI, ↓op_neI, ↓op_neg, ↓op_isN, ↓op_notN, ↓op_lenL, ↓op_lenT,
  ↓op_isi_i, ↓op_isi_b, ↓op_isi_l, ↓op_isi_t, ↓op_isi_n, ↓op_isi_s, ↓op_abs, ↓op_max2, ↓op_min2, ↓op_tupL, ↓op_tupT, ↓op_lstL, ↓op_lstT, ↓ix_0, ↓ix_1, ↓ix_2, ↓ix_3, ↓tx_0, ↓tx_1, ↓tx_2, ↓tx_3, ↓Ok_datum, ↓Ok_evL0, ↓Ok_evLc, ↓Ok_eTup, ↓Ok_eLst, ↓bk_b, ↓Ok_tB, ↓Ok_eB, ↓Ok_tNot, ↓Ok_tAnd, ↓Ok_tOr, ↓Ok_eAnd, ↓Ok_eOr, ↓Ok_eIf, ↓fk_i, ↓fk_b, ↓fk_n, ↓Ok_evSe, ↓Ok_evSv, ↓ck2_b, ↓Ok_eChain,
  ↓pk_n, ↓pk_t, ↓pk_l, ↓pks_n, ↓pks_c, ↓vk_val, ↓vk_ow, ↓rvk_val, ↓rvk_ow, ↓Ok_retV, ↓augk_val, ↓Ok_augk, ↓nk_i, ↓Ok_setIx, ↓ixk_0, ↓ixk_1, ↓ixk_2, ↓apk_ow, ↓owk_ow, ↓Ok_app, ↓ak_n, ↓ak_d, ↓ak_b, ↓gk_n, ↓gk_l, ↓gk_r, ↓zk_n, ↓zk_l, ↓zk_r, ↓sgm_z, ↓sgm_s, ↓mk2_v, ↓mk2_o, ↓ik_z, ↓ik_n, ↓ik_s, ↓uk_z, ↓uk_s, ↓rtk_rt, ↓rtk_nx, ↓nok_n, ↓nok_v, ↓nok_o,
  ↓afk_nx, ↓afk_ct, ↓afk_bk, ↓afk_rt, ↓dk_l, ↓dk_t, ↓Ok_evPn, ↓Ok_evPs, ↓Ok_cutek, ↓Ok_cutv, ↓op_cutL, ↓op_cutT, ↓Ok_wSeq, ↓rk_i, ↓Ok_wRng1, ↓Ok_wRng2, ↓Ok_wEnum, ↓Ok_wZip2, ↓Ok_wZip3, ↓Ok_wN, ↓wk_n, ↓wk_c, ↓op_isB, ↓op_isNB, ↓dkk_d, ↓vk_dki, ↓lkk_s, ↓Ok_newK, ↓Ok_dlen, ↓Ok_dsorted, ↓Ok_dget, ↓Ok_dgetD, ↓Ok_dput,
  okArg_v, okArg_o, ↓Ok_tYes, nc_0, nc_1, nc_2, nc_3, nc_4, not_true_eq_false, not_false_eq_true, isN, List.length_cons, List.length_nil, Nat.zero_add, Nat.reduceAdd, List.mem_cons, List.not_mem_nil, decide_eq_true_eq, Bool.not_eq_true', decide_eq_false_iff_not, Bool.not_true, Bool.not_false, Bool.false_eq_true, if_true, if_false, true_and, and_true, or_false, or_true, true_or, reduceCtorEq, Nat.reduceEqDiff, and_self, decide_true, decide_false, Int.reduceLT, Int.reduceLE, Int.reduceEq, Int.reduceToNat, Int.reducePow, Int.reduceAdd, Int.reduceSub, Int.reduceMul, Int.reduceNeg, Int.reduceMod, Int.reduceDiv, Nat.reduceLeDiff, Nat.reduceLT, false_or, or_self, and_false, false_and]
  have q1 := nd ((d1 + 15485867 * (d2 + 1)) ^ 5)
  have q2 := nl ((d1 + 15485867 * (d2 + 1)) ^ 5)
  exact ifc (fun _ => ⟨h0, ⟨h0, by omega⟩, _, _, rfl, rfl, md _, ml _, _, _, _, rfl, a1, a2, a3, by omega⟩) fun _ => ⟨⟨by omega, by omega⟩, ⟨by omega, by omega⟩,
    ifc (fun _ => ⟨h0, _, _, rfl, rfl, md _, ml _, _, _, _, rfl, a1, a2, by omega, by omega⟩) fun _ => ⟨h0, _, _, rfl, rfl, md _, ml _, _, _, _, rfl, a1, a2, by omega, by omega⟩⟩
end

section
open PySem Rc
section
variable {d : D} {ds : List D} {Q : Sv → Sl → Prop}
theorem sort_i {i : Int} : Rt (F_law_sort [.val (.int i)]) Q = Q (.val (.int 2)) [.val (.int i)] := by unfold F_law_sort B_law_sort; simp -implicitDefEqProofs only [if_true, ↓Ok_ok, ↓Ok_bind, ↓Ok_seq, ↓thenS_nx, ↓thenS_rt, ↓thenS_bk, ↓thenS_ct, ↓Ok_sIf, ↓Ok_pass, ↓Ok_ret, ↓Ok_setk, ↓Ok_park, ↓Ok_par3k, ↓Ok_drop, ↓Ok_for, ↓Ok_while, ↓Ok_unpk, ↓Ok_callk, ↓Ok_tryC, ↓Tr_x, ↓Tr_r, ↓nmk_s, ↓muk_n, ↓muk_c, ↓mu2_s, ↓mu2_v, ↓mu2_o, ↓zrk_n, ↓zrk_c, ↓rs_h, ↓rs_v, ↓rs_o, hd_v, hd_o, hd_u, mh_n, mh_c, ↓Rt_fnk,
  ↓sg_z, ↓sg_s, ↓sw_z, ↓sw_s, ↓td_val, ↓td_ow, ↓Ok_eLit, ↓kp_val, ↓kp_ow, ↓Ok_eV, ↓Ok_op1e, ↓Ok_op1v, ↓Ok_op2ee, ↓Ok_op2ve, ↓Ok_op2ev, ↓Ok_op2vv, ↓op_add, ↓op_addL, ↓op_addT, ↓op_addI, ↓op_subI, ↓op_addB, ↓op_subB, ↓op_sub, ↓op_mul, ↓op_mod, ↓op_div, ↓op_pow, ↓op_lt, ↓op_le, ↓op_gt, ↓op_ge, ↓op_eqI, ↓op_neI, ↓op_neg, ↓op_isN, ↓op_notN, ↓op_lenL, ↓op_lenT,
  ↓op_isi_i, ↓op_isi_b, ↓op_isi_l, ↓op_isi_t, ↓op_isi_n, ↓op_isi_s, ↓op_abs, ↓op_max2, ↓op_min2, ↓op_tupL, ↓op_tupT, ↓op_lstL, ↓op_lstT, ↓ix_0, ↓ix_1, ↓ix_2, ↓ix_3, ↓tx_0, ↓tx_1, ↓tx_2, ↓tx_3, ↓Ok_datum, ↓Ok_evL0, ↓Ok_evLc, ↓Ok_eTup, ↓Ok_eLst, ↓bk_b, ↓Ok_tB, ↓Ok_eB, ↓Ok_tNot, ↓Ok_tAnd, ↓Ok_tOr, ↓Ok_eAnd, ↓Ok_eOr, ↓Ok_eIf, ↓fk_i, ↓fk_b, ↓fk_n, ↓Ok_evSe, ↓Ok_evSv, ↓ck2_b, ↓Ok_eChain,
  ↓pk_n, ↓pk_t, ↓pk_l, ↓pks_n, ↓pks_c, ↓vk_val, ↓vk_ow, ↓rvk_val, ↓rvk_ow, ↓Ok_retV, ↓augk_val, ↓Ok_augk, ↓nk_i, ↓Ok_setIx, ↓ixk_0, ↓ixk_1, ↓ixk_2, ↓apk_ow, ↓owk_ow, ↓Ok_app, ↓ak_n, ↓ak_d, ↓ak_b, ↓gk_n, ↓gk_l, ↓gk_r, ↓zk_n, ↓zk_l, ↓zk_r, ↓sgm_z, ↓sgm_s, ↓mk2_v, ↓mk2_o, ↓ik_z, ↓ik_n, ↓ik_s, ↓uk_z, ↓uk_s, ↓rtk_rt, ↓rtk_nx, ↓nok_n, ↓nok_v, ↓nok_o,
  ↓afk_nx, ↓afk_ct, ↓afk_bk, ↓afk_rt, ↓dk_l, ↓dk_t, ↓Ok_evPn, ↓Ok_evPs, ↓Ok_cutek, ↓Ok_cutv, ↓op_cutL, ↓op_cutT, ↓Ok_wSeq, ↓rk_i, ↓Ok_wRng1, ↓Ok_wRng2, ↓Ok_wEnum, ↓Ok_wZip2, ↓Ok_wZip3, ↓Ok_wN, ↓wk_n, ↓wk_c, ↓op_isB, ↓op_isNB, ↓dkk_d, ↓vk_dki, ↓lkk_s, ↓Ok_newK, ↓Ok_dlen, ↓Ok_dsorted, ↓Ok_dget, ↓Ok_dgetD, ↓Ok_dput,
  okArg_v, okArg_o, ↓Ok_tYes, nc_0, nc_1, nc_2, nc_3, nc_4, not_true_eq_false, not_false_eq_true, isN, List.length_cons, List.length_nil, Nat.zero_add, Nat.reduceAdd, List.mem_cons, List.not_mem_nil, decide_eq_true_eq, Bool.not_eq_true', decide_eq_false_iff_not, Bool.not_true, Bool.not_false, Bool.false_eq_true, if_true, if_false, true_and, and_true, or_false, or_true, true_or, reduceCtorEq, Nat.reduceEqDiff, and_self, decide_true, decide_false, Int.reduceLT, Int.reduceLE, Int.reduceEq, Int.reduceToNat, Int.reducePow, Int.reduceAdd, Int.reduceSub, Int.reduceMul, Int.reduceNeg, Int.reduceMod, Int.reduceDiv, Nat.reduceLeDiff, Nat.reduceLT, false_or, or_self, and_false, false_and]
theorem sort_b {i : Bool} : Rt (F_law_sort [.val (.bool i)]) Q = Q (.val (.int 1)) [.val (.bool i)] := by unfold F_law_sort B_law_sort; simp -implicitDefEqProofs only [if_true, ↓Ok_ok, ↓Ok_bind, ↓Ok_seq, ↓thenS_nx, ↓thenS_rt, ↓thenS_bk, ↓thenS_ct, ↓Ok_sIf, ↓Ok_pass, ↓Ok_ret, ↓Ok_setk, ↓Ok_park, ↓Ok_par3k, ↓Ok_drop, ↓Ok_for, ↓Ok_while, ↓Ok_unpk, ↓Ok_callk, ↓Ok_tryC, ↓Tr_x, ↓Tr_r, ↓nmk_s, ↓muk_n, ↓muk_c, ↓mu2_s, ↓mu2_v, ↓mu2_o, ↓zrk_n, ↓zrk_c, ↓rs_h, ↓rs_v, ↓rs_o, hd_v, hd_o, hd_u, mh_n, mh_c, ↓Rt_fnk,
  ↓sg_z, ↓sg_s, ↓sw_z, ↓sw_s, ↓td_val, ↓td_ow, ↓Ok_eLit, ↓kp_val, ↓kp_ow, ↓Ok_eV, ↓Ok_op1e, ↓Ok_op1v, ↓Ok_op2ee, ↓Ok_op2ve, ↓Ok_op2ev, ↓Ok_op2vv, ↓op_add, ↓op_addL, ↓op_addT, ↓op_addI, ↓op_subI, ↓op_addB, ↓op_subB, ↓op_sub, ↓op_mul, ↓op_mod, ↓op_div, ↓op_pow, ↓op_lt, ↓op_le, ↓op_gt, ↓op_ge, ↓op_eqI, ↓op_neI, ↓op_neg, ↓op_isN, ↓op_notN, ↓op_lenL, ↓op_lenT,
  ↓op_isi_i, ↓op_isi_b, ↓op_isi_l, ↓op_isi_t, ↓op_isi_n, ↓op_isi_s, ↓op_abs, ↓op_max2, ↓op_min2, ↓op_tupL, ↓op_tupT, ↓op_lstL, ↓op_lstT, ↓ix_0, ↓ix_1, ↓ix_2, ↓ix_3, ↓tx_0, ↓tx_1, ↓tx_2, ↓tx_3, ↓Ok_datum, ↓Ok_evL0, ↓Ok_evLc, ↓Ok_eTup, ↓Ok_eLst, ↓bk_b, ↓Ok_tB, ↓Ok_eB, ↓Ok_tNot, ↓Ok_tAnd, ↓Ok_tOr, ↓Ok_eAnd, ↓Ok_eOr, ↓Ok_eIf, ↓fk_i, ↓fk_b, ↓fk_n, ↓Ok_evSe, ↓Ok_evSv, ↓ck2_b, ↓Ok_eChain,
  ↓pk_n, ↓pk_t, ↓pk_l, ↓pks_n, ↓pks_c, ↓vk_val, ↓vk_ow, ↓rvk_val, ↓rvk_ow, ↓Ok_retV, ↓augk_val, ↓Ok_augk, ↓nk_i, ↓Ok_setIx, ↓ixk_0, ↓ixk_1, ↓ixk_2, ↓apk_ow, ↓owk_ow, ↓Ok_app, ↓ak_n, ↓ak_d, ↓ak_b, ↓gk_n, ↓gk_l, ↓gk_r, ↓zk_n, ↓zk_l, ↓zk_r, ↓sgm_z, ↓sgm_s, ↓mk2_v, ↓mk2_o, ↓ik_z, ↓ik_n, ↓ik_s, ↓uk_z, ↓uk_s, ↓rtk_rt, ↓rtk_nx, ↓nok_n, ↓nok_v, ↓nok_o,
  ↓afk_nx, ↓afk_ct, ↓afk_bk, ↓afk_rt, ↓dk_l, ↓dk_t, ↓Ok_evPn, ↓Ok_evPs, ↓Ok_cutek, ↓Ok_cutv, ↓op_cutL, ↓op_cutT, ↓Ok_wSeq, ↓rk_i, ↓Ok_wRng1, ↓Ok_wRng2, ↓Ok_wEnum, ↓Ok_wZip2, ↓Ok_wZip3, ↓Ok_wN, ↓wk_n, ↓wk_c, ↓op_isB, ↓op_isNB, ↓dkk_d, ↓vk_dki, ↓lkk_s, ↓Ok_newK, ↓Ok_dlen, ↓Ok_dsorted, ↓Ok_dget, ↓Ok_dgetD, ↓Ok_dput,
  okArg_v, okArg_o, ↓Ok_tYes, nc_0, nc_1, nc_2, nc_3, nc_4, not_true_eq_false, not_false_eq_true, isN, List.length_cons, List.length_nil, Nat.zero_add, Nat.reduceAdd, List.mem_cons, List.not_mem_nil, decide_eq_true_eq, Bool.not_eq_true', decide_eq_false_iff_not, Bool.not_true, Bool.not_false, Bool.false_eq_true, if_true, if_false, true_and, and_true, or_false, or_true, true_or, reduceCtorEq, Nat.reduceEqDiff, and_self, decide_true, decide_false, Int.reduceLT, Int.reduceLE, Int.reduceEq, Int.reduceToNat, Int.reducePow, Int.reduceAdd, Int.reduceSub, Int.reduceMul, Int.reduceNeg, Int.reduceMod, Int.reduceDiv, Nat.reduceLeDiff, Nat.reduceLT, false_or, or_self, and_false, false_and]
theorem sort_s {i : Str} : Rt (F_law_sort [.val (.str i)]) Q = Q (.val (.int 3)) [.val (.str i)] := by unfold F_law_sort B_law_sort; simp -implicitDefEqProofs only [if_true, ↓Ok_ok, ↓Ok_bind, ↓Ok_seq, ↓thenS_nx, ↓thenS_rt, ↓thenS_bk, ↓thenS_ct, ↓Ok_sIf, ↓Ok_pass, ↓Ok_ret, ↓Ok_setk, ↓Ok_park, ↓Ok_par3k, ↓Ok_drop, ↓Ok_for, ↓Ok_while, ↓Ok_unpk, ↓Ok_callk, ↓Ok_tryC, ↓Tr_x, ↓Tr_r, ↓nmk_s, ↓muk_n, ↓muk_c, ↓mu2_s, ↓mu2_v, ↓mu2_o, ↓zrk_n, ↓zrk_c, ↓rs_h, ↓rs_v, ↓rs_o, hd_v, hd_o, hd_u, mh_n, mh_c, ↓Rt_fnk,
  ↓sg_z, ↓sg_s, ↓sw_z, ↓sw_s, ↓td_val, ↓td_ow, ↓Ok_eLit, ↓kp_val, ↓kp_ow, ↓Ok_eV, ↓Ok_op1e, ↓Ok_op1v, ↓Ok_op2ee, ↓Ok_op2ve, ↓Ok_op2ev, ↓Ok_op2vv, ↓op_add, ↓op_addL, ↓op_addT, ↓op_addI, ↓op_subI, ↓op_addB, ↓op_subB, ↓op_sub, ↓op_mul, ↓op_mod, ↓op_div, ↓op_pow, ↓op_lt, ↓op_le, ↓op_gt, ↓op_ge, ↓op_eqI, ↓op_neI, ↓op_neg, ↓op_isN, ↓op_notN, ↓op_lenL, ↓op_lenT,
  ↓op_isi_i, ↓op_isi_b, ↓op_isi_l, ↓op_isi_t, ↓op_isi_n, ↓op_isi_s, ↓op_abs, ↓op_max2, ↓op_min2, ↓op_tupL, ↓op_tupT, ↓op_lstL, ↓op_lstT, ↓ix_0, ↓ix_1, ↓ix_2, ↓ix_3, ↓tx_0, ↓tx_1, ↓tx_2, ↓tx_3, ↓Ok_datum, ↓Ok_evL0, ↓Ok_evLc, ↓Ok_eTup, ↓Ok_eLst, ↓bk_b, ↓Ok_tB, ↓Ok_eB, ↓Ok_tNot, ↓Ok_tAnd, ↓Ok_tOr, ↓Ok_eAnd, ↓Ok_eOr, ↓Ok_eIf, ↓fk_i, ↓fk_b, ↓fk_n, ↓Ok_evSe, ↓Ok_evSv, ↓ck2_b, ↓Ok_eChain,
  ↓pk_n, ↓pk_t, ↓pk_l, ↓pks_n, ↓pks_c, ↓vk_val, ↓vk_ow, ↓rvk_val, ↓rvk_ow, ↓Ok_retV, ↓augk_val, ↓Ok_augk, ↓nk_i, ↓Ok_setIx, ↓ixk_0, ↓ixk_1, ↓ixk_2, ↓apk_ow, ↓owk_ow, ↓Ok_app, ↓ak_n, ↓ak_d, ↓ak_b, ↓gk_n, ↓gk_l, ↓gk_r, ↓zk_n, ↓zk_l, ↓zk_r, ↓sgm_z, ↓sgm_s, ↓mk2_v, ↓mk2_o, ↓ik_z, ↓ik_n, ↓ik_s, ↓uk_z, ↓uk_s, ↓rtk_rt, ↓rtk_nx, ↓nok_n, ↓nok_v, ↓nok_o,
  ↓afk_nx, ↓afk_ct, ↓afk_bk, ↓afk_rt, ↓dk_l, ↓dk_t, ↓Ok_evPn, ↓Ok_evPs, ↓Ok_cutek, ↓Ok_cutv, ↓op_cutL, ↓op_cutT, ↓Ok_wSeq, ↓rk_i, ↓Ok_wRng1, ↓Ok_wRng2, ↓Ok_wEnum, ↓Ok_wZip2, ↓Ok_wZip3, ↓Ok_wN, ↓wk_n, ↓wk_c, ↓op_isB, ↓op_isNB, ↓dkk_d, ↓vk_dki, ↓lkk_s, ↓Ok_newK, ↓Ok_dlen, ↓Ok_dsorted, ↓Ok_dget, ↓Ok_dgetD, ↓Ok_dput,
  okArg_v, okArg_o, ↓Ok_tYes, nc_0, nc_1, nc_2, nc_3, nc_4, not_true_eq_false, not_false_eq_true, isN, List.length_cons, List.length_nil, Nat.zero_add, Nat.reduceAdd, List.mem_cons, List.not_mem_nil, decide_eq_true_eq, Bool.not_eq_true', decide_eq_false_iff_not, Bool.not_true, Bool.not_false, Bool.false_eq_true, if_true, if_false, true_and, and_true, or_false, or_true, true_or, reduceCtorEq, Nat.reduceEqDiff, and_self, decide_true, decide_false, Int.reduceLT, Int.reduceLE, Int.reduceEq, Int.reduceToNat, Int.reducePow, Int.reduceAdd, Int.reduceSub, Int.reduceMul, Int.reduceNeg, Int.reduceMod, Int.reduceDiv, Nat.reduceLeDiff, Nat.reduceLT, false_or, or_self, and_false, false_and]
theorem sort_n : Rt (F_law_sort [.val .none]) Q = Q (.val (.int 6)) [.val .none] := by unfold F_law_sort B_law_sort; simp -implicitDefEqProofs only [if_true, ↓Ok_ok, ↓Ok_bind, ↓Ok_seq, ↓thenS_nx, ↓thenS_rt, ↓thenS_bk, ↓thenS_ct, ↓Ok_sIf, ↓Ok_pass, ↓Ok_ret, ↓Ok_setk, ↓Ok_park, ↓Ok_par3k, ↓Ok_drop, ↓Ok_for, ↓Ok_while, ↓Ok_unpk, ↓Ok_callk, ↓Ok_tryC, ↓Tr_x, ↓Tr_r, ↓nmk_s, ↓muk_n, ↓muk_c, ↓mu2_s, ↓mu2_v, ↓mu2_o, ↓zrk_n, ↓zrk_c, ↓rs_h, ↓rs_v, ↓rs_o, hd_v, hd_o, hd_u, mh_n, mh_c, ↓Rt_fnk,
  ↓sg_z, ↓sg_s, ↓sw_z, ↓sw_s, ↓td_val, ↓td_ow, ↓Ok_eLit, ↓kp_val, ↓kp_ow, ↓Ok_eV, ↓Ok_op1e, ↓Ok_op1v, ↓Ok_op2ee, ↓Ok_op2ve, ↓Ok_op2ev, ↓Ok_op2vv, ↓op_add, ↓op_addL, ↓op_addT, ↓op_addI, ↓op_subI, ↓op_addB, ↓op_subB, ↓op_sub, ↓op_mul, ↓op_mod, ↓op_div, ↓op_pow, ↓op_lt, ↓op_le, ↓op_gt, ↓op_ge, ↓op_eqI, ↓op_neI, ↓op_neg, ↓op_isN, ↓op_notN, ↓op_lenL, ↓op_lenT,
  ↓op_isi_i, ↓op_isi_b, ↓op_isi_l, ↓op_isi_t, ↓op_isi_n, ↓op_isi_s, ↓op_abs, ↓op_max2, ↓op_min2, ↓op_tupL, ↓op_tupT, ↓op_lstL, ↓op_lstT, ↓ix_0, ↓ix_1, ↓ix_2, ↓ix_3, ↓tx_0, ↓tx_1, ↓tx_2, ↓tx_3, ↓Ok_datum, ↓Ok_evL0, ↓Ok_evLc, ↓Ok_eTup, ↓Ok_eLst, ↓bk_b, ↓Ok_tB, ↓Ok_eB, ↓Ok_tNot, ↓Ok_tAnd, ↓Ok_tOr, ↓Ok_eAnd, ↓Ok_eOr, ↓Ok_eIf, ↓fk_i, ↓fk_b, ↓fk_n, ↓Ok_evSe, ↓Ok_evSv, ↓ck2_b, ↓Ok_eChain,
  ↓pk_n, ↓pk_t, ↓pk_l, ↓pks_n, ↓pks_c, ↓vk_val, ↓vk_ow, ↓rvk_val, ↓rvk_ow, ↓Ok_retV, ↓augk_val, ↓Ok_augk, ↓nk_i, ↓Ok_setIx, ↓ixk_0, ↓ixk_1, ↓ixk_2, ↓apk_ow, ↓owk_ow, ↓Ok_app, ↓ak_n, ↓ak_d, ↓ak_b, ↓gk_n, ↓gk_l, ↓gk_r, ↓zk_n, ↓zk_l, ↓zk_r, ↓sgm_z, ↓sgm_s, ↓mk2_v, ↓mk2_o, ↓ik_z, ↓ik_n, ↓ik_s, ↓uk_z, ↓uk_s, ↓rtk_rt, ↓rtk_nx, ↓nok_n, ↓nok_v, ↓nok_o,
  ↓afk_nx, ↓afk_ct, ↓afk_bk, ↓afk_rt, ↓dk_l, ↓dk_t, ↓Ok_evPn, ↓Ok_evPs, ↓Ok_cutek, ↓Ok_cutv, ↓op_cutL, ↓op_cutT, ↓Ok_wSeq, ↓rk_i, ↓Ok_wRng1, ↓Ok_wRng2, ↓Ok_wEnum, ↓Ok_wZip2, ↓Ok_wZip3, ↓Ok_wN, ↓wk_n, ↓wk_c, ↓op_isB, ↓op_isNB, ↓dkk_d, ↓vk_dki, ↓lkk_s, ↓Ok_newK, ↓Ok_dlen, ↓Ok_dsorted, ↓Ok_dget, ↓Ok_dgetD, ↓Ok_dput,
  okArg_v, okArg_o, ↓Ok_tYes, nc_0, nc_1, nc_2, nc_3, nc_4, not_true_eq_false, not_false_eq_true, isN, List.length_cons, List.length_nil, Nat.zero_add, Nat.reduceAdd, List.mem_cons, List.not_mem_nil, decide_eq_true_eq, Bool.not_eq_true', decide_eq_false_iff_not, Bool.not_true, Bool.not_false, Bool.false_eq_true, if_true, if_false, true_and, and_true, or_false, or_true, true_or, reduceCtorEq, Nat.reduceEqDiff, and_self, decide_true, decide_false, Int.reduceLT, Int.reduceLE, Int.reduceEq, Int.reduceToNat, Int.reducePow, Int.reduceAdd, Int.reduceSub, Int.reduceMul, Int.reduceNeg, Int.reduceMod, Int.reduceDiv, Nat.reduceLeDiff, Nat.reduceLT, false_or, or_self, and_false, false_and]
theorem sort_l : Rt (F_law_sort [.val (.list ds)]) Q = Q (.val (.int 4)) [.val (.list ds)] := by unfold F_law_sort B_law_sort; simp -implicitDefEqProofs only [if_true, ↓Ok_ok, ↓Ok_bind, ↓Ok_seq, ↓thenS_nx, ↓thenS_rt, ↓thenS_bk, ↓thenS_ct, ↓Ok_sIf, ↓Ok_pass, ↓Ok_ret, ↓Ok_setk, ↓Ok_park, ↓Ok_par3k, ↓Ok_drop, ↓Ok_for, ↓Ok_while, ↓Ok_unpk, ↓Ok_callk, ↓Ok_tryC, ↓Tr_x, ↓Tr_r, ↓nmk_s, ↓muk_n, ↓muk_c, ↓mu2_s, ↓mu2_v, ↓mu2_o, ↓zrk_n, ↓zrk_c, ↓rs_h, ↓rs_v, ↓rs_o, hd_v, hd_o, hd_u, mh_n, mh_c, ↓Rt_fnk,
  ↓sg_z, ↓sg_s, ↓sw_z, ↓sw_s, ↓td_val, ↓td_ow, ↓Ok_eLit, ↓kp_val, ↓kp_ow, ↓Ok_eV, ↓Ok_op1e, ↓Ok_op1v, ↓Ok_op2ee, ↓Ok_op2ve, ↓Ok_op2ev, ↓Ok_op2vv, ↓op_add, ↓op_addL, ↓op_addT, ↓op_addI, ↓op_subI, ↓op_addB, ↓op_subB, ↓op_sub, ↓op_mul, ↓op_mod, ↓op_div, ↓op_pow, ↓op_lt, ↓op_le, ↓op_gt, ↓op_ge, ↓op_eqI, ↓op_neI, ↓op_neg, ↓op_isN, ↓op_notN, ↓op_lenL, ↓op_lenT,
  ↓op_isi_i, ↓op_isi_b, ↓op_isi_l, ↓op_isi_t, ↓op_isi_n, ↓op_isi_s, ↓op_abs, ↓op_max2, ↓op_min2, ↓op_tupL, ↓op_tupT, ↓op_lstL, ↓op_lstT, ↓ix_0, ↓ix_1, ↓ix_2, ↓ix_3, ↓tx_0, ↓tx_1, ↓tx_2, ↓tx_3, ↓Ok_datum, ↓Ok_evL0, ↓Ok_evLc, ↓Ok_eTup, ↓Ok_eLst, ↓bk_b, ↓Ok_tB, ↓Ok_eB, ↓Ok_tNot, ↓Ok_tAnd, ↓Ok_tOr, ↓Ok_eAnd, ↓Ok_eOr, ↓Ok_eIf, ↓fk_i, ↓fk_b, ↓fk_n, ↓Ok_evSe, ↓Ok_evSv, ↓ck2_b, ↓Ok_eChain,
  ↓pk_n, ↓pk_t, ↓pk_l, ↓pks_n, ↓pks_c, ↓vk_val, ↓vk_ow, ↓rvk_val, ↓rvk_ow, ↓Ok_retV, ↓augk_val, ↓Ok_augk, ↓nk_i, ↓Ok_setIx, ↓ixk_0, ↓ixk_1, ↓ixk_2, ↓apk_ow, ↓owk_ow, ↓Ok_app, ↓ak_n, ↓ak_d, ↓ak_b, ↓gk_n, ↓gk_l, ↓gk_r, ↓zk_n, ↓zk_l, ↓zk_r, ↓sgm_z, ↓sgm_s, ↓mk2_v, ↓mk2_o, ↓ik_z, ↓ik_n, ↓ik_s, ↓uk_z, ↓uk_s, ↓rtk_rt, ↓rtk_nx, ↓nok_n, ↓nok_v, ↓nok_o,
  ↓afk_nx, ↓afk_ct, ↓afk_bk, ↓afk_rt, ↓dk_l, ↓dk_t, ↓Ok_evPn, ↓Ok_evPs, ↓Ok_cutek, ↓Ok_cutv, ↓op_cutL, ↓op_cutT, ↓Ok_wSeq, ↓rk_i, ↓Ok_wRng1, ↓Ok_wRng2, ↓Ok_wEnum, ↓Ok_wZip2, ↓Ok_wZip3, ↓Ok_wN, ↓wk_n, ↓wk_c, ↓op_isB, ↓op_isNB, ↓dkk_d, ↓vk_dki, ↓lkk_s, ↓Ok_newK, ↓Ok_dlen, ↓Ok_dsorted, ↓Ok_dget, ↓Ok_dgetD, ↓Ok_dput,
  okArg_v, okArg_o, ↓Ok_tYes, nc_0, nc_1, nc_2, nc_3, nc_4, not_true_eq_false, not_false_eq_true, isN, List.length_cons, List.length_nil, Nat.zero_add, Nat.reduceAdd, List.mem_cons, List.not_mem_nil, decide_eq_true_eq, Bool.not_eq_true', decide_eq_false_iff_not, Bool.not_true, Bool.not_false, Bool.false_eq_true, if_true, if_false, true_and, and_true, or_false, or_true, true_or, reduceCtorEq, Nat.reduceEqDiff, and_self, decide_true, decide_false, Int.reduceLT, Int.reduceLE, Int.reduceEq, Int.reduceToNat, Int.reducePow, Int.reduceAdd, Int.reduceSub, Int.reduceMul, Int.reduceNeg, Int.reduceMod, Int.reduceDiv, Nat.reduceLeDiff, Nat.reduceLT, false_or, or_self, and_false, false_and]
theorem sort_o : Rt (F_law_sort [.ow ds]) Q = Q (.val (.int 4)) [.ow ds] := by unfold F_law_sort B_law_sort; simp -implicitDefEqProofs only [if_true, ↓Ok_ok, ↓Ok_bind, ↓Ok_seq, ↓thenS_nx, ↓thenS_rt, ↓thenS_bk, ↓thenS_ct, ↓Ok_sIf, ↓Ok_pass, ↓Ok_ret, ↓Ok_setk, ↓Ok_park, ↓Ok_par3k, ↓Ok_drop, ↓Ok_for, ↓Ok_while, ↓Ok_unpk, ↓Ok_callk, ↓Ok_tryC, ↓Tr_x, ↓Tr_r, ↓nmk_s, ↓muk_n, ↓muk_c, ↓mu2_s, ↓mu2_v, ↓mu2_o, ↓zrk_n, ↓zrk_c, ↓rs_h, ↓rs_v, ↓rs_o, hd_v, hd_o, hd_u, mh_n, mh_c, ↓Rt_fnk,
  ↓sg_z, ↓sg_s, ↓sw_z, ↓sw_s, ↓td_val, ↓td_ow, ↓Ok_eLit, ↓kp_val, ↓kp_ow, ↓Ok_eV, ↓Ok_op1e, ↓Ok_op1v, ↓Ok_op2ee, ↓Ok_op2ve, ↓Ok_op2ev, ↓Ok_op2vv, ↓op_add, ↓op_addL, ↓op_addT, ↓op_addI, ↓op_subI, ↓op_addB, ↓op_subB, ↓op_sub, ↓op_mul, ↓op_mod, ↓op_div, ↓op_pow, ↓op_lt, ↓op_le, ↓op_gt, ↓op_ge, ↓op_eqI, ↓op_neI, ↓op_neg, ↓op_isN, ↓op_notN, ↓op_lenL, ↓op_lenT,
  ↓op_isi_i, ↓op_isi_b, ↓op_isi_l, ↓op_isi_t, ↓op_isi_n, ↓op_isi_s, ↓op_abs, ↓op_max2, ↓op_min2, ↓op_tupL, ↓op_tupT, ↓op_lstL, ↓op_lstT, ↓ix_0, ↓ix_1, ↓ix_2, ↓ix_3, ↓tx_0, ↓tx_1, ↓tx_2, ↓tx_3, ↓Ok_datum, ↓Ok_evL0, ↓Ok_evLc, ↓Ok_eTup, ↓Ok_eLst, ↓bk_b, ↓Ok_tB, ↓Ok_eB, ↓Ok_tNot, ↓Ok_tAnd, ↓Ok_tOr, ↓Ok_eAnd, ↓Ok_eOr, ↓Ok_eIf, ↓fk_i, ↓fk_b, ↓fk_n, ↓Ok_evSe, ↓Ok_evSv, ↓ck2_b, ↓Ok_eChain,
  ↓pk_n, ↓pk_t, ↓pk_l, ↓pks_n, ↓pks_c, ↓vk_val, ↓vk_ow, ↓rvk_val, ↓rvk_ow, ↓Ok_retV, ↓augk_val, ↓Ok_augk, ↓nk_i, ↓Ok_setIx, ↓ixk_0, ↓ixk_1, ↓ixk_2, ↓apk_ow, ↓owk_ow, ↓Ok_app, ↓ak_n, ↓ak_d, ↓ak_b, ↓gk_n, ↓gk_l, ↓gk_r, ↓zk_n, ↓zk_l, ↓zk_r, ↓sgm_z, ↓sgm_s, ↓mk2_v, ↓mk2_o, ↓ik_z, ↓ik_n, ↓ik_s, ↓uk_z, ↓uk_s, ↓rtk_rt, ↓rtk_nx, ↓nok_n, ↓nok_v, ↓nok_o,
  ↓afk_nx, ↓afk_ct, ↓afk_bk, ↓afk_rt, ↓dk_l, ↓dk_t, ↓Ok_evPn, ↓Ok_evPs, ↓Ok_cutek, ↓Ok_cutv, ↓op_cutL, ↓op_cutT, ↓Ok_wSeq, ↓rk_i, ↓Ok_wRng1, ↓Ok_wRng2, ↓Ok_wEnum, ↓Ok_wZip2, ↓Ok_wZip3, ↓Ok_wN, ↓wk_n, ↓wk_c, ↓op_isB, ↓op_isNB, ↓dkk_d, ↓vk_dki, ↓lkk_s, ↓Ok_newK, ↓Ok_dlen, ↓Ok_dsorted, ↓Ok_dget, ↓Ok_dgetD, ↓Ok_dput,
  okArg_v, okArg_o, ↓Ok_tYes, nc_0, nc_1, nc_2, nc_3, nc_4, not_true_eq_false, not_false_eq_true, isN, List.length_cons, List.length_nil, Nat.zero_add, Nat.reduceAdd, List.mem_cons, List.not_mem_nil, decide_eq_true_eq, Bool.not_eq_true', decide_eq_false_iff_not, Bool.not_true, Bool.not_false, Bool.false_eq_true, if_true, if_false, true_and, and_true, or_false, or_true, true_or, reduceCtorEq, Nat.reduceEqDiff, and_self, decide_true, decide_false, Int.reduceLT, Int.reduceLE, Int.reduceEq, Int.reduceToNat, Int.reducePow, Int.reduceAdd, Int.reduceSub, Int.reduceMul, Int.reduceNeg, Int.reduceMod, Int.reduceDiv, Nat.reduceLeDiff, Nat.reduceLT, false_or, or_self, and_false, false_and]
theorem sort_t : Rt (F_law_sort [.val (.tuple ds)]) Q = Q (.val (.int 5)) [.val (.tuple ds)] := by unfold F_law_sort B_law_sort; simp -implicitDefEqProofs only [if_true, ↓Ok_ok, ↓Ok_bind, ↓Ok_seq, ↓thenS_nx, ↓thenS_rt, ↓thenS_bk, ↓thenS_ct, ↓Ok_sIf, ↓Ok_pass, ↓Ok_ret, ↓Ok_setk, ↓Ok_park, ↓Ok_par3k, ↓Ok_drop, ↓Ok_for, ↓Ok_while, ↓Ok_unpk, ↓Ok_callk, ↓Ok_tryC, ↓Tr_x, ↓Tr_r, ↓nmk_s, ↓muk_n, ↓muk_c, ↓mu2_s, ↓mu2_v, ↓mu2_o, ↓zrk_n, ↓zrk_c, ↓rs_h, ↓rs_v, ↓rs_o, hd_v, hd_o, hd_u, mh_n, mh_c, ↓Rt_fnk,
  ↓sg_z, ↓sg_s, ↓sw_z, ↓sw_s, ↓td_val, ↓td_ow, ↓Ok_eLit, ↓kp_val, ↓kp_ow, ↓Ok_eV, ↓Ok_op1e, ↓Ok_op1v, ↓Ok_op2ee, ↓Ok_op2ve, ↓Ok_op2ev, ↓Ok_op2vv, ↓op_add, ↓op_addL, ↓op_addT, ↓op_addI, ↓op_subI, ↓op_addB, ↓op_subB, ↓op_sub, ↓op_mul, ↓op_mod, ↓op_div, ↓op_pow, ↓op_lt, ↓op_le, ↓op_gt, ↓op_ge, ↓op_eqI, ↓op_neI, ↓op_neg, ↓op_isN, ↓op_notN, ↓op_lenL, ↓op_lenT,
  ↓op_isi_i, ↓op_isi_b, ↓op_isi_l, ↓op_isi_t, ↓op_isi_n, ↓op_isi_s, ↓op_abs, ↓op_max2, ↓op_min2, ↓op_tupL, ↓op_tupT, ↓op_lstL, ↓op_lstT, ↓ix_0, ↓ix_1, ↓ix_2, ↓ix_3, ↓tx_0, ↓tx_1, ↓tx_2, ↓tx_3, ↓Ok_datum, ↓Ok_evL0, ↓Ok_evLc, ↓Ok_eTup, ↓Ok_eLst, ↓bk_b, ↓Ok_tB, ↓Ok_eB, ↓Ok_tNot, ↓Ok_tAnd, ↓Ok_tOr, ↓Ok_eAnd, ↓Ok_eOr, ↓Ok_eIf, ↓fk_i, ↓fk_b, ↓fk_n, ↓Ok_evSe, ↓Ok_evSv, ↓ck2_b, ↓Ok_eChain,
  ↓pk_n, ↓pk_t, ↓pk_l, ↓pks_n, ↓pks_c, ↓vk_val, ↓vk_ow, ↓rvk_val, ↓rvk_ow, ↓Ok_retV, ↓augk_val, ↓Ok_augk, ↓nk_i, ↓Ok_setIx, ↓ixk_0, ↓ixk_1, ↓ixk_2, ↓apk_ow, ↓owk_ow, ↓Ok_app, ↓ak_n, ↓ak_d, ↓ak_b, ↓gk_n, ↓gk_l, ↓gk_r, ↓zk_n, ↓zk_l, ↓zk_r, ↓sgm_z, ↓sgm_s, ↓mk2_v, ↓mk2_o, ↓ik_z, ↓ik_n, ↓ik_s, ↓uk_z, ↓uk_s, ↓rtk_rt, ↓rtk_nx, ↓nok_n, ↓nok_v, ↓nok_o,
  ↓afk_nx, ↓afk_ct, ↓afk_bk, ↓afk_rt, ↓dk_l, ↓dk_t, ↓Ok_evPn, ↓Ok_evPs, ↓Ok_cutek, ↓Ok_cutv, ↓op_cutL, ↓op_cutT, ↓Ok_wSeq, ↓rk_i, ↓Ok_wRng1, ↓Ok_wRng2, ↓Ok_wEnum, ↓Ok_wZip2, ↓Ok_wZip3, ↓Ok_wN, ↓wk_n, ↓wk_c, ↓op_isB, ↓op_isNB, ↓dkk_d, ↓vk_dki, ↓lkk_s, ↓Ok_newK, ↓Ok_dlen, ↓Ok_dsorted, ↓Ok_dget, ↓Ok_dgetD, ↓Ok_dput,
  okArg_v, okArg_o, ↓Ok_tYes, nc_0, nc_1, nc_2, nc_3, nc_4, not_true_eq_false, not_false_eq_true, isN, List.length_cons, List.length_nil, Nat.zero_add, Nat.reduceAdd, List.mem_cons, List.not_mem_nil, decide_eq_true_eq, Bool.not_eq_true', decide_eq_false_iff_not, Bool.not_true, Bool.not_false, Bool.false_eq_true, if_true, if_false, true_and, and_true, or_false, or_true, true_or, reduceCtorEq, Nat.reduceEqDiff, and_self, decide_true, decide_false, Int.reduceLT, Int.reduceLE, Int.reduceEq, Int.reduceToNat, Int.reducePow, Int.reduceAdd, Int.reduceSub, Int.reduceMul, Int.reduceNeg, Int.reduceMod, Int.reduceDiv, Nat.reduceLeDiff, Nat.reduceLT, false_or, or_self, and_false, false_and]
end
/-- two that are the same data are told to be so -/
theorem same_spec : ∀ (n : Nat) (s t : Sv) (d : D), toD s = some d → toD t = some d → d.canLay0 = true → d.depth < n → n ≤ 60 → Rt (F_law_same n [s, t]) fun v outs => v = .val (.bool true) ∧ outs = [s, t]
  | 0, _, _, _, _, _, _, h, _ => absurd h (Nat.not_lt_zero _)
  | n + 1, s, t, d, hs, ht, hc, hd, hn => by
    have sh : SeqAt.shaped d = true := shaped_iff.mpr ⟨hc, by omega⟩
    have ih := same_spec n
    unfold F_law_same B_law_same
    cases d with
    | dict _ => simp [PyData.canLay0] at hc
    | int i => cases s <;> cases hs <;> cases t <;> cases ht; simp -implicitDefEqProofs only [↓sort_i, ↓op_eq_same sh, ↓Ok_ok, ↓Ok_bind, ↓Ok_seq, ↓thenS_nx, ↓thenS_rt, ↓thenS_bk, ↓thenS_ct, ↓Ok_sIf, ↓Ok_pass, ↓Ok_ret, ↓Ok_setk, ↓Ok_park, ↓Ok_par3k, ↓Ok_drop, ↓Ok_for, ↓Ok_while, ↓Ok_unpk, ↓Ok_callk, ↓Ok_tryC, ↓Tr_x, ↓Tr_r, ↓nmk_s, ↓muk_n, ↓muk_c, ↓mu2_s, ↓mu2_v, ↓mu2_o, ↓zrk_n, ↓zrk_c, ↓rs_h, ↓rs_v, ↓rs_o, hd_v, hd_o, hd_u, mh_n, mh_c, ↓Rt_fnk,
  ↓sg_z, ↓sg_s, ↓sw_z, ↓sw_s, ↓td_val, ↓td_ow, ↓Ok_eLit, ↓kp_val, ↓kp_ow, ↓Ok_eV, ↓Ok_op1e, ↓Ok_op1v, ↓Ok_op2ee, ↓Ok_op2ve, ↓Ok_op2ev, ↓Ok_op2vv, ↓op_add, ↓op_addL, ↓op_addT, ↓op_addI, ↓op_subI, ↓op_addB, ↓op_subB, ↓op_sub, ↓op_mul, ↓op_mod, ↓op_div, ↓op_pow, ↓op_lt, ↓op_le, ↓op_gt, ↓op_ge, ↓op_eqI, ↓op_neI, ↓op_neg, ↓op_isN, ↓op_notN, ↓op_lenL, ↓op_lenT,
  ↓op_isi_i, ↓op_isi_b, ↓op_isi_l, ↓op_isi_t, ↓op_isi_n, ↓op_isi_s, ↓op_abs, ↓op_max2, ↓op_min2, ↓op_tupL, ↓op_tupT, ↓op_lstL, ↓op_lstT, ↓ix_0, ↓ix_1, ↓ix_2, ↓ix_3, ↓tx_0, ↓tx_1, ↓tx_2, ↓tx_3, ↓Ok_datum, ↓Ok_evL0, ↓Ok_evLc, ↓Ok_eTup, ↓Ok_eLst, ↓bk_b, ↓Ok_tB, ↓Ok_eB, ↓Ok_tNot, ↓Ok_tAnd, ↓Ok_tOr, ↓Ok_eAnd, ↓Ok_eOr, ↓Ok_eIf, ↓fk_i, ↓fk_b, ↓fk_n, ↓Ok_evSe, ↓Ok_evSv, ↓ck2_b, ↓Ok_eChain,
  ↓pk_n, ↓pk_t, ↓pk_l, ↓pks_n, ↓pks_c, ↓vk_val, ↓vk_ow, ↓rvk_val, ↓rvk_ow, ↓Ok_retV, ↓augk_val, ↓Ok_augk, ↓nk_i, ↓Ok_setIx, ↓ixk_0, ↓ixk_1, ↓ixk_2, ↓apk_ow, ↓owk_ow, ↓Ok_app, ↓ak_n, ↓ak_d, ↓ak_b, ↓gk_n, ↓gk_l, ↓gk_r, ↓zk_n, ↓zk_l, ↓zk_r, ↓sgm_z, ↓sgm_s, ↓mk2_v, ↓mk2_o, ↓ik_z, ↓ik_n, ↓ik_s, ↓uk_z, ↓uk_s, ↓rtk_rt, ↓rtk_nx, ↓nok_n, ↓nok_v, ↓nok_o,
  ↓afk_nx, ↓afk_ct, ↓afk_bk, ↓afk_rt, ↓dk_l, ↓dk_t, ↓Ok_evPn, ↓Ok_evPs, ↓Ok_cutek, ↓Ok_cutv, ↓op_cutL, ↓op_cutT, ↓Ok_wSeq, ↓rk_i, ↓Ok_wRng1, ↓Ok_wRng2, ↓Ok_wEnum, ↓Ok_wZip2, ↓Ok_wZip3, ↓Ok_wN, ↓wk_n, ↓wk_c, ↓op_isB, ↓op_isNB, ↓dkk_d, ↓vk_dki, ↓lkk_s, ↓Ok_newK, ↓Ok_dlen, ↓Ok_dsorted, ↓Ok_dget, ↓Ok_dgetD, ↓Ok_dput,
  okArg_v, okArg_o, ↓Ok_tYes, nc_0, nc_1, nc_2, nc_3, nc_4, not_true_eq_false, not_false_eq_true, isN, List.length_cons, List.length_nil, Nat.zero_add, Nat.reduceAdd, List.mem_cons, List.not_mem_nil, decide_eq_true_eq, Bool.not_eq_true', decide_eq_false_iff_not, Bool.not_true, Bool.not_false, Bool.false_eq_true, if_true, if_false, true_and, and_true, or_false, or_true, true_or, reduceCtorEq, Nat.reduceEqDiff, and_self, decide_true, decide_false, Int.reduceLT, Int.reduceLE, Int.reduceEq, Int.reduceToNat, Int.reducePow, Int.reduceAdd, Int.reduceSub, Int.reduceMul, Int.reduceNeg, Int.reduceMod, Int.reduceDiv, Nat.reduceLeDiff, Nat.reduceLT, false_or, or_self, and_false, false_and]
    | bool i => cases s <;> cases hs <;> cases t <;> cases ht; simp -implicitDefEqProofs only [↓sort_b, ↓op_eq_same sh, ↓Ok_ok, ↓Ok_bind, ↓Ok_seq, ↓thenS_nx, ↓thenS_rt, ↓thenS_bk, ↓thenS_ct, ↓Ok_sIf, ↓Ok_pass, ↓Ok_ret, ↓Ok_setk, ↓Ok_park, ↓Ok_par3k, ↓Ok_drop, ↓Ok_for, ↓Ok_while, ↓Ok_unpk, ↓Ok_callk, ↓Ok_tryC, ↓Tr_x, ↓Tr_r, ↓nmk_s, ↓muk_n, ↓muk_c, ↓mu2_s, ↓mu2_v, ↓mu2_o, ↓zrk_n, ↓zrk_c, ↓rs_h, ↓rs_v, ↓rs_o, hd_v, hd_o, hd_u, mh_n, mh_c, ↓Rt_fnk,
  ↓sg_z, ↓sg_s, ↓sw_z, ↓sw_s, ↓td_val, ↓td_ow, ↓Ok_eLit, ↓kp_val, ↓kp_ow, ↓Ok_eV, ↓Ok_op1e, ↓Ok_op1v, ↓Ok_op2ee, ↓Ok_op2ve, ↓Ok_op2ev, ↓Ok_op2vv, ↓op_add, ↓op_addL, ↓op_addT, ↓op_addI, ↓op_subI, ↓op_addB, ↓op_subB, ↓op_sub, ↓op_mul, ↓op_mod, ↓op_div, ↓op_pow, ↓op_lt, ↓op_le, ↓op_gt, ↓op_ge, ↓op_eqI, ↓op_neI, ↓op_neg, ↓op_isN, ↓op_notN, ↓op_lenL, ↓op_lenT,
  ↓op_isi_i, ↓op_isi_b, ↓op_isi_l, ↓op_isi_t, ↓op_isi_n, ↓op_isi_s, ↓op_abs, ↓op_max2, ↓op_min2, ↓op_tupL, ↓op_tupT, ↓op_lstL, ↓op_lstT, ↓ix_0, ↓ix_1, ↓ix_2, ↓ix_3, ↓tx_0, ↓tx_1, ↓tx_2, ↓tx_3, ↓Ok_datum, ↓Ok_evL0, ↓Ok_evLc, ↓Ok_eTup, ↓Ok_eLst, ↓bk_b, ↓Ok_tB, ↓Ok_eB, ↓Ok_tNot, ↓Ok_tAnd, ↓Ok_tOr, ↓Ok_eAnd, ↓Ok_eOr, ↓Ok_eIf, ↓fk_i, ↓fk_b, ↓fk_n, ↓Ok_evSe, ↓Ok_evSv, ↓ck2_b, ↓Ok_eChain,
  ↓pk_n, ↓pk_t, ↓pk_l, ↓pks_n, ↓pks_c, ↓vk_val, ↓vk_ow, ↓rvk_val, ↓rvk_ow, ↓Ok_retV, ↓augk_val, ↓Ok_augk, ↓nk_i, ↓Ok_setIx, ↓ixk_0, ↓ixk_1, ↓ixk_2, ↓apk_ow, ↓owk_ow, ↓Ok_app, ↓ak_n, ↓ak_d, ↓ak_b, ↓gk_n, ↓gk_l, ↓gk_r, ↓zk_n, ↓zk_l, ↓zk_r, ↓sgm_z, ↓sgm_s, ↓mk2_v, ↓mk2_o, ↓ik_z, ↓ik_n, ↓ik_s, ↓uk_z, ↓uk_s, ↓rtk_rt, ↓rtk_nx, ↓nok_n, ↓nok_v, ↓nok_o,
  ↓afk_nx, ↓afk_ct, ↓afk_bk, ↓afk_rt, ↓dk_l, ↓dk_t, ↓Ok_evPn, ↓Ok_evPs, ↓Ok_cutek, ↓Ok_cutv, ↓op_cutL, ↓op_cutT, ↓Ok_wSeq, ↓rk_i, ↓Ok_wRng1, ↓Ok_wRng2, ↓Ok_wEnum, ↓Ok_wZip2, ↓Ok_wZip3, ↓Ok_wN, ↓wk_n, ↓wk_c, ↓op_isB, ↓op_isNB, ↓dkk_d, ↓vk_dki, ↓lkk_s, ↓Ok_newK, ↓Ok_dlen, ↓Ok_dsorted, ↓Ok_dget, ↓Ok_dgetD, ↓Ok_dput,
  okArg_v, okArg_o, ↓Ok_tYes, nc_0, nc_1, nc_2, nc_3, nc_4, not_true_eq_false, not_false_eq_true, isN, List.length_cons, List.length_nil, Nat.zero_add, Nat.reduceAdd, List.mem_cons, List.not_mem_nil, decide_eq_true_eq, Bool.not_eq_true', decide_eq_false_iff_not, Bool.not_true, Bool.not_false, Bool.false_eq_true, if_true, if_false, true_and, and_true, or_false, or_true, true_or, reduceCtorEq, Nat.reduceEqDiff, and_self, decide_true, decide_false, Int.reduceLT, Int.reduceLE, Int.reduceEq, Int.reduceToNat, Int.reducePow, Int.reduceAdd, Int.reduceSub, Int.reduceMul, Int.reduceNeg, Int.reduceMod, Int.reduceDiv, Nat.reduceLeDiff, Nat.reduceLT, false_or, or_self, and_false, false_and]
    | str i => cases s <;> cases hs <;> cases t <;> cases ht; simp -implicitDefEqProofs only [↓sort_s, ↓op_eq_same sh, ↓Ok_ok, ↓Ok_bind, ↓Ok_seq, ↓thenS_nx, ↓thenS_rt, ↓thenS_bk, ↓thenS_ct, ↓Ok_sIf, ↓Ok_pass, ↓Ok_ret, ↓Ok_setk, ↓Ok_park, ↓Ok_par3k, ↓Ok_drop, ↓Ok_for, ↓Ok_while, ↓Ok_unpk, ↓Ok_callk, ↓Ok_tryC, ↓Tr_x, ↓Tr_r, ↓nmk_s, ↓muk_n, ↓muk_c, ↓mu2_s, ↓mu2_v, ↓mu2_o, ↓zrk_n, ↓zrk_c, ↓rs_h, ↓rs_v, ↓rs_o, hd_v, hd_o, hd_u, mh_n, mh_c, ↓Rt_fnk,
  ↓sg_z, ↓sg_s, ↓sw_z, ↓sw_s, ↓td_val, ↓td_ow, ↓Ok_eLit, ↓kp_val, ↓kp_ow, ↓Ok_eV, ↓Ok_op1e, ↓Ok_op1v, ↓Ok_op2ee, ↓Ok_op2ve, ↓Ok_op2ev, ↓Ok_op2vv, ↓op_add, ↓op_addL, ↓op_addT, ↓op_addI, ↓op_subI, ↓op_addB, ↓op_subB, ↓op_sub, ↓op_mul, ↓op_mod, ↓op_div, ↓op_pow, ↓op_lt, ↓op_le, ↓op_gt, ↓op_ge, ↓op_eqI, ↓op_neI, ↓op_neg, ↓op_isN, ↓op_notN, ↓op_lenL, ↓op_lenT,
  ↓op_isi_i, ↓op_isi_b, ↓op_isi_l, ↓op_isi_t, ↓op_isi_n, ↓op_isi_s, ↓op_abs, ↓op_max2, ↓op_min2, ↓op_tupL, ↓op_tupT, ↓op_lstL, ↓op_lstT, ↓ix_0, ↓ix_1, ↓ix_2, ↓ix_3, ↓tx_0, ↓tx_1, ↓tx_2, ↓tx_3, ↓Ok_datum, ↓Ok_evL0, ↓Ok_evLc, ↓Ok_eTup, ↓Ok_eLst, ↓bk_b, ↓Ok_tB, ↓Ok_eB, ↓Ok_tNot, ↓Ok_tAnd, ↓Ok_tOr, ↓Ok_eAnd, ↓Ok_eOr, ↓Ok_eIf, ↓fk_i, ↓fk_b, ↓fk_n, ↓Ok_evSe, ↓Ok_evSv, ↓ck2_b, ↓Ok_eChain,
  ↓pk_n, ↓pk_t, ↓pk_l, ↓pks_n, ↓pks_c, ↓vk_val, ↓vk_ow, ↓rvk_val, ↓rvk_ow, ↓Ok_retV, ↓augk_val, ↓Ok_augk, ↓nk_i, ↓Ok_setIx, ↓ixk_0, ↓ixk_1, ↓ixk_2, ↓apk_ow, ↓owk_ow, ↓Ok_app, ↓ak_n, ↓ak_d, ↓ak_b, ↓gk_n, ↓gk_l, ↓gk_r, ↓zk_n, ↓zk_l, ↓zk_r, ↓sgm_z, ↓sgm_s, ↓mk2_v, ↓mk2_o, ↓ik_z, ↓ik_n, ↓ik_s, ↓uk_z, ↓uk_s, ↓rtk_rt, ↓rtk_nx, ↓nok_n, ↓nok_v, ↓nok_o,
  ↓afk_nx, ↓afk_ct, ↓afk_bk, ↓afk_rt, ↓dk_l, ↓dk_t, ↓Ok_evPn, ↓Ok_evPs, ↓Ok_cutek, ↓Ok_cutv, ↓op_cutL, ↓op_cutT, ↓Ok_wSeq, ↓rk_i, ↓Ok_wRng1, ↓Ok_wRng2, ↓Ok_wEnum, ↓Ok_wZip2, ↓Ok_wZip3, ↓Ok_wN, ↓wk_n, ↓wk_c, ↓op_isB, ↓op_isNB, ↓dkk_d, ↓vk_dki, ↓lkk_s, ↓Ok_newK, ↓Ok_dlen, ↓Ok_dsorted, ↓Ok_dget, ↓Ok_dgetD, ↓Ok_dput,
  okArg_v, okArg_o, ↓Ok_tYes, nc_0, nc_1, nc_2, nc_3, nc_4, not_true_eq_false, not_false_eq_true, isN, List.length_cons, List.length_nil, Nat.zero_add, Nat.reduceAdd, List.mem_cons, List.not_mem_nil, decide_eq_true_eq, Bool.not_eq_true', decide_eq_false_iff_not, Bool.not_true, Bool.not_false, Bool.false_eq_true, if_true, if_false, true_and, and_true, or_false, or_true, true_or, reduceCtorEq, Nat.reduceEqDiff, and_self, decide_true, decide_false, Int.reduceLT, Int.reduceLE, Int.reduceEq, Int.reduceToNat, Int.reducePow, Int.reduceAdd, Int.reduceSub, Int.reduceMul, Int.reduceNeg, Int.reduceMod, Int.reduceDiv, Nat.reduceLeDiff, Nat.reduceLT, false_or, or_self, and_false, false_and]
    | none => cases s <;> cases hs <;> cases t <;> cases ht; simp -implicitDefEqProofs only [↓sort_n, ↓op_eq_same sh, ↓Ok_ok, ↓Ok_bind, ↓Ok_seq, ↓thenS_nx, ↓thenS_rt, ↓thenS_bk, ↓thenS_ct, ↓Ok_sIf, ↓Ok_pass, ↓Ok_ret, ↓Ok_setk, ↓Ok_park, ↓Ok_par3k, ↓Ok_drop, ↓Ok_for, ↓Ok_while, ↓Ok_unpk, ↓Ok_callk, ↓Ok_tryC, ↓Tr_x, ↓Tr_r, ↓nmk_s, ↓muk_n, ↓muk_c, ↓mu2_s, ↓mu2_v, ↓mu2_o, ↓zrk_n, ↓zrk_c, ↓rs_h, ↓rs_v, ↓rs_o, hd_v, hd_o, hd_u, mh_n, mh_c, ↓Rt_fnk,
  ↓sg_z, ↓sg_s, ↓sw_z, ↓sw_s, ↓td_val, ↓td_ow, ↓Ok_eLit, ↓kp_val, ↓kp_ow, ↓Ok_eV, ↓Ok_op1e, ↓Ok_op1v, ↓Ok_op2ee, ↓Ok_op2ve, ↓Ok_op2ev, ↓Ok_op2vv, ↓op_add, ↓op_addL, ↓op_addT, ↓op_addI, ↓op_subI, ↓op_addB, ↓op_subB, ↓op_sub, ↓op_mul, ↓op_mod, ↓op_div, ↓op_pow, ↓op_lt, ↓op_le, ↓op_gt, ↓op_ge, ↓op_eqI, ↓op_neI, ↓op_neg, ↓op_isN, ↓op_notN, ↓op_lenL, ↓op_lenT,
  ↓op_isi_i, ↓op_isi_b, ↓op_isi_l, ↓op_isi_t, ↓op_isi_n, ↓op_isi_s, ↓op_abs, ↓op_max2, ↓op_min2, ↓op_tupL, ↓op_tupT, ↓op_lstL, ↓op_lstT, ↓ix_0, ↓ix_1, ↓ix_2, ↓ix_3, ↓tx_0, ↓tx_1, ↓tx_2, ↓tx_3, ↓Ok_datum, ↓Ok_evL0, ↓Ok_evLc, ↓Ok_eTup, ↓Ok_eLst, ↓bk_b, ↓Ok_tB, ↓Ok_eB, ↓Ok_tNot, ↓Ok_tAnd, ↓Ok_tOr, ↓Ok_eAnd, ↓Ok_eOr, ↓Ok_eIf, ↓fk_i, ↓fk_b, ↓fk_n, ↓Ok_evSe, ↓Ok_evSv, ↓ck2_b, ↓Ok_eChain,
  ↓pk_n, ↓pk_t, ↓pk_l, ↓pks_n, ↓pks_c, ↓vk_val, ↓vk_ow, ↓rvk_val, ↓rvk_ow, ↓Ok_retV, ↓augk_val, ↓Ok_augk, ↓nk_i, ↓Ok_setIx, ↓ixk_0, ↓ixk_1, ↓ixk_2, ↓apk_ow, ↓owk_ow, ↓Ok_app, ↓ak_n, ↓ak_d, ↓ak_b, ↓gk_n, ↓gk_l, ↓gk_r, ↓zk_n, ↓zk_l, ↓zk_r, ↓sgm_z, ↓sgm_s, ↓mk2_v, ↓mk2_o, ↓ik_z, ↓ik_n, ↓ik_s, ↓uk_z, ↓uk_s, ↓rtk_rt, ↓rtk_nx, ↓nok_n, ↓nok_v, ↓nok_o,
  ↓afk_nx, ↓afk_ct, ↓afk_bk, ↓afk_rt, ↓dk_l, ↓dk_t, ↓Ok_evPn, ↓Ok_evPs, ↓Ok_cutek, ↓Ok_cutv, ↓op_cutL, ↓op_cutT, ↓Ok_wSeq, ↓rk_i, ↓Ok_wRng1, ↓Ok_wRng2, ↓Ok_wEnum, ↓Ok_wZip2, ↓Ok_wZip3, ↓Ok_wN, ↓wk_n, ↓wk_c, ↓op_isB, ↓op_isNB, ↓dkk_d, ↓vk_dki, ↓lkk_s, ↓Ok_newK, ↓Ok_dlen, ↓Ok_dsorted, ↓Ok_dget, ↓Ok_dgetD, ↓Ok_dput,
  okArg_v, okArg_o, ↓Ok_tYes, nc_0, nc_1, nc_2, nc_3, nc_4, not_true_eq_false, not_false_eq_true, isN, List.length_cons, List.length_nil, Nat.zero_add, Nat.reduceAdd, List.mem_cons, List.not_mem_nil, decide_eq_true_eq, Bool.not_eq_true', decide_eq_false_iff_not, Bool.not_true, Bool.not_false, Bool.false_eq_true, if_true, if_false, true_and, and_true, or_false, or_true, true_or, reduceCtorEq, Nat.reduceEqDiff, and_self, decide_true, decide_false, Int.reduceLT, Int.reduceLE, Int.reduceEq, Int.reduceToNat, Int.reducePow, Int.reduceAdd, Int.reduceSub, Int.reduceMul, Int.reduceNeg, Int.reduceMod, Int.reduceDiv, Nat.reduceLeDiff, Nat.reduceLT, false_or, or_self, and_false, false_and]
    | list ds =>
      have hc' := canLay_list.mp hc
      have hd' := depth_listL hd
      cases s <;> cases hs <;> cases t <;> cases ht <;> (
        simp -implicitDefEqProofs only [↓sort_l, ↓sort_o, ↓Ok_ok, ↓Ok_bind, ↓Ok_seq, ↓thenS_nx, ↓thenS_rt, ↓thenS_bk, ↓thenS_ct, ↓Ok_sIf, ↓Ok_pass, ↓Ok_ret, ↓Ok_setk, ↓Ok_park, ↓Ok_par3k, ↓Ok_drop, ↓Ok_for, ↓Ok_while, ↓Ok_unpk, ↓Ok_callk, ↓Ok_tryC, ↓Tr_x, ↓Tr_r, ↓nmk_s, ↓muk_n, ↓muk_c, ↓mu2_s, ↓mu2_v, ↓mu2_o, ↓zrk_n, ↓zrk_c, ↓rs_h, ↓rs_v, ↓rs_o, hd_v, hd_o, hd_u, mh_n, mh_c, ↓Rt_fnk,
  ↓sg_z, ↓sg_s, ↓sw_z, ↓sw_s, ↓td_val, ↓td_ow, ↓Ok_eLit, ↓kp_val, ↓kp_ow, ↓Ok_eV, ↓Ok_op1e, ↓Ok_op1v, ↓Ok_op2ee, ↓Ok_op2ve, ↓Ok_op2ev, ↓Ok_op2vv, ↓op_add, ↓op_addL, ↓op_addT, ↓op_addI, ↓op_subI, ↓op_addB, ↓op_subB, ↓op_sub, ↓op_mul, ↓op_mod, ↓op_div, ↓op_pow, ↓op_lt, ↓op_le, ↓op_gt, ↓op_ge, ↓op_eqI, ↓op_neI, ↓op_neg, ↓op_isN, ↓op_notN, ↓op_lenL, ↓op_lenT,
  ↓op_isi_i, ↓op_isi_b, ↓op_isi_l, ↓op_isi_t, ↓op_isi_n, ↓op_isi_s, ↓op_abs, ↓op_max2, ↓op_min2, ↓op_tupL, ↓op_tupT, ↓op_lstL, ↓op_lstT, ↓ix_0, ↓ix_1, ↓ix_2, ↓ix_3, ↓tx_0, ↓tx_1, ↓tx_2, ↓tx_3, ↓Ok_datum, ↓Ok_evL0, ↓Ok_evLc, ↓Ok_eTup, ↓Ok_eLst, ↓bk_b, ↓Ok_tB, ↓Ok_eB, ↓Ok_tNot, ↓Ok_tAnd, ↓Ok_tOr, ↓Ok_eAnd, ↓Ok_eOr, ↓Ok_eIf, ↓fk_i, ↓fk_b, ↓fk_n, ↓Ok_evSe, ↓Ok_evSv, ↓ck2_b, ↓Ok_eChain,
  ↓pk_n, ↓pk_t, ↓pk_l, ↓pks_n, ↓pks_c, ↓vk_val, ↓vk_ow, ↓rvk_val, ↓rvk_ow, ↓Ok_retV, ↓augk_val, ↓Ok_augk, ↓nk_i, ↓Ok_setIx, ↓ixk_0, ↓ixk_1, ↓ixk_2, ↓apk_ow, ↓owk_ow, ↓Ok_app, ↓ak_n, ↓ak_d, ↓ak_b, ↓gk_n, ↓gk_l, ↓gk_r, ↓zk_n, ↓zk_l, ↓zk_r, ↓sgm_z, ↓sgm_s, ↓mk2_v, ↓mk2_o, ↓ik_z, ↓ik_n, ↓ik_s, ↓uk_z, ↓uk_s, ↓rtk_rt, ↓rtk_nx, ↓nok_n, ↓nok_v, ↓nok_o,
  ↓afk_nx, ↓afk_ct, ↓afk_bk, ↓afk_rt, ↓dk_l, ↓dk_t, ↓Ok_evPn, ↓Ok_evPs, ↓Ok_cutek, ↓Ok_cutv, ↓op_cutL, ↓op_cutT, ↓Ok_wSeq, ↓rk_i, ↓Ok_wRng1, ↓Ok_wRng2, ↓Ok_wEnum, ↓Ok_wZip2, ↓Ok_wZip3, ↓Ok_wN, ↓wk_n, ↓wk_c, ↓op_isB, ↓op_isNB, ↓dkk_d, ↓vk_dki, ↓lkk_s, ↓Ok_newK, ↓Ok_dlen, ↓Ok_dsorted, ↓Ok_dget, ↓Ok_dgetD, ↓Ok_dput,
  okArg_v, okArg_o, ↓Ok_tYes, nc_0, nc_1, nc_2, nc_3, nc_4, not_true_eq_false, not_false_eq_true, isN, List.length_cons, List.length_nil, Nat.zero_add, Nat.reduceAdd, List.mem_cons, List.not_mem_nil, decide_eq_true_eq, Bool.not_eq_true', decide_eq_false_iff_not, Bool.not_true, Bool.not_false, Bool.false_eq_true, if_true, if_false, true_and, and_true, or_false, or_true, true_or, reduceCtorEq, Nat.reduceEqDiff, and_self, decide_true, decide_false, Int.reduceLT, Int.reduceLE, Int.reduceEq, Int.reduceToNat, Int.reducePow, Int.reduceAdd, Int.reduceSub, Int.reduceMul, Int.reduceNeg, Int.reduceMod, Int.reduceDiv, Nat.reduceLeDiff, Nat.reduceLT, false_or, or_self, and_false, false_and]
        refine Ok_lc (fun _ => none) ?_
        simp -implicitDefEqProofs only [if_true, ↓Ok_ok, ↓Ok_bind, ↓Ok_seq, ↓thenS_nx, ↓thenS_rt, ↓thenS_bk, ↓thenS_ct, ↓Ok_sIf, ↓Ok_pass, ↓Ok_ret, ↓Ok_setk, ↓Ok_park, ↓Ok_par3k, ↓Ok_drop, ↓Ok_for, ↓Ok_while, ↓Ok_unpk, ↓Ok_callk, ↓Ok_tryC, ↓Tr_x, ↓Tr_r, ↓nmk_s, ↓muk_n, ↓muk_c, ↓mu2_s, ↓mu2_v, ↓mu2_o, ↓zrk_n, ↓zrk_c, ↓rs_h, ↓rs_v, ↓rs_o, hd_v, hd_o, hd_u, mh_n, mh_c, ↓Rt_fnk,
  ↓sg_z, ↓sg_s, ↓sw_z, ↓sw_s, ↓td_val, ↓td_ow, ↓Ok_eLit, ↓kp_val, ↓kp_ow, ↓Ok_eV, ↓Ok_op1e, ↓Ok_op1v, ↓Ok_op2ee, ↓Ok_op2ve, ↓Ok_op2ev, ↓Ok_op2vv, ↓op_add, ↓op_addL, ↓op_addT, ↓op_addI, ↓op_subI, ↓op_addB, ↓op_subB, ↓op_sub, ↓op_mul, ↓op_mod, ↓op_div, ↓op_pow, ↓op_lt, ↓op_le, ↓op_gt, ↓op_ge, ↓op_eqI, ↓op_neI, ↓op_neg, ↓op_isN, ↓op_notN, ↓op_lenL, ↓op_lenT,
  ↓op_isi_i, ↓op_isi_b, ↓op_isi_l, ↓op_isi_t, ↓op_isi_n, ↓op_isi_s, ↓op_abs, ↓op_max2, ↓op_min2, ↓op_tupL, ↓op_tupT, ↓op_lstL, ↓op_lstT, ↓ix_0, ↓ix_1, ↓ix_2, ↓ix_3, ↓tx_0, ↓tx_1, ↓tx_2, ↓tx_3, ↓Ok_datum, ↓Ok_evL0, ↓Ok_evLc, ↓Ok_eTup, ↓Ok_eLst, ↓bk_b, ↓Ok_tB, ↓Ok_eB, ↓Ok_tNot, ↓Ok_tAnd, ↓Ok_tOr, ↓Ok_eAnd, ↓Ok_eOr, ↓Ok_eIf, ↓fk_i, ↓fk_b, ↓fk_n, ↓Ok_evSe, ↓Ok_evSv, ↓ck2_b, ↓Ok_eChain,
  ↓pk_n, ↓pk_t, ↓pk_l, ↓pks_n, ↓pks_c, ↓vk_val, ↓vk_ow, ↓rvk_val, ↓rvk_ow, ↓Ok_retV, ↓augk_val, ↓Ok_augk, ↓nk_i, ↓Ok_setIx, ↓ixk_0, ↓ixk_1, ↓ixk_2, ↓apk_ow, ↓owk_ow, ↓Ok_app, ↓ak_n, ↓ak_d, ↓ak_b, ↓gk_n, ↓gk_l, ↓gk_r, ↓zk_n, ↓zk_l, ↓zk_r, ↓sgm_z, ↓sgm_s, ↓mk2_v, ↓mk2_o, ↓ik_z, ↓ik_n, ↓ik_s, ↓uk_z, ↓uk_s, ↓rtk_rt, ↓rtk_nx, ↓nok_n, ↓nok_v, ↓nok_o,
  ↓afk_nx, ↓afk_ct, ↓afk_bk, ↓afk_rt, ↓dk_l, ↓dk_t, ↓Ok_evPn, ↓Ok_evPs, ↓Ok_cutek, ↓Ok_cutv, ↓op_cutL, ↓op_cutT, ↓Ok_wSeq, ↓rk_i, ↓Ok_wRng1, ↓Ok_wRng2, ↓Ok_wEnum, ↓Ok_wZip2, ↓Ok_wZip3, ↓Ok_wN, ↓wk_n, ↓wk_c, ↓op_isB, ↓op_isNB, ↓dkk_d, ↓vk_dki, ↓lkk_s, ↓Ok_newK, ↓Ok_dlen, ↓Ok_dsorted, ↓Ok_dget, ↓Ok_dgetD, ↓Ok_dput,
  okArg_v, okArg_o, ↓Ok_tYes, nc_0, nc_1, nc_2, nc_3, nc_4, not_true_eq_false, not_false_eq_true, isN, List.length_cons, List.length_nil, Nat.zero_add, Nat.reduceAdd, List.mem_cons, List.not_mem_nil, decide_eq_true_eq, Bool.not_eq_true', decide_eq_false_iff_not, Bool.not_true, Bool.not_false, Bool.false_eq_true, if_true, if_false, true_and, and_true, or_false, or_true, true_or, reduceCtorEq, Nat.reduceEqDiff, and_self, decide_true, decide_false, Int.reduceLT, Int.reduceLE, Int.reduceEq, Int.reduceToNat, Int.reducePow, Int.reduceAdd, Int.reduceSub, Int.reduceMul, Int.reduceNeg, Int.reduceMod, Int.reduceDiv, Nat.reduceLeDiff, Nat.reduceLT, false_or, or_self, and_false, false_and]
        refine ⟨⟨ckN_eq (d := .list ds) rfl rfl, fun x hx => ?_⟩, ?_⟩
        · obtain ⟨i, y, ey, rfl⟩ := enumF_mem hx
          unfold itemk
          simp -implicitDefEqProofs only [↓op_ix_at ey, ↓Ok_ok, ↓Ok_bind, ↓Ok_seq, ↓thenS_nx, ↓thenS_rt, ↓thenS_bk, ↓thenS_ct, ↓Ok_sIf, ↓Ok_pass, ↓Ok_ret, ↓Ok_setk, ↓Ok_park, ↓Ok_par3k, ↓Ok_drop, ↓Ok_for, ↓Ok_while, ↓Ok_unpk, ↓Ok_callk, ↓Ok_tryC, ↓Tr_x, ↓Tr_r, ↓nmk_s, ↓muk_n, ↓muk_c, ↓mu2_s, ↓mu2_v, ↓mu2_o, ↓zrk_n, ↓zrk_c, ↓rs_h, ↓rs_v, ↓rs_o, hd_v, hd_o, hd_u, mh_n, mh_c, ↓Rt_fnk,
  ↓sg_z, ↓sg_s, ↓sw_z, ↓sw_s, ↓td_val, ↓td_ow, ↓Ok_eLit, ↓kp_val, ↓kp_ow, ↓Ok_eV, ↓Ok_op1e, ↓Ok_op1v, ↓Ok_op2ee, ↓Ok_op2ve, ↓Ok_op2ev, ↓Ok_op2vv, ↓op_add, ↓op_addL, ↓op_addT, ↓op_addI, ↓op_subI, ↓op_addB, ↓op_subB, ↓op_sub, ↓op_mul, ↓op_mod, ↓op_div, ↓op_pow, ↓op_lt, ↓op_le, ↓op_gt, ↓op_ge, ↓op_eqI, ↓op_neI, ↓op_neg, ↓op_isN, ↓op_notN, ↓op_lenL, ↓op_lenT,
  ↓op_isi_i, ↓op_isi_b, ↓op_isi_l, ↓op_isi_t, ↓op_isi_n, ↓op_isi_s, ↓op_abs, ↓op_max2, ↓op_min2, ↓op_tupL, ↓op_tupT, ↓op_lstL, ↓op_lstT, ↓ix_0, ↓ix_1, ↓ix_2, ↓ix_3, ↓tx_0, ↓tx_1, ↓tx_2, ↓tx_3, ↓Ok_datum, ↓Ok_evL0, ↓Ok_evLc, ↓Ok_eTup, ↓Ok_eLst, ↓bk_b, ↓Ok_tB, ↓Ok_eB, ↓Ok_tNot, ↓Ok_tAnd, ↓Ok_tOr, ↓Ok_eAnd, ↓Ok_eOr, ↓Ok_eIf, ↓fk_i, ↓fk_b, ↓fk_n, ↓Ok_evSe, ↓Ok_evSv, ↓ck2_b, ↓Ok_eChain,
  ↓pk_n, ↓pk_t, ↓pk_l, ↓pks_n, ↓pks_c, ↓vk_val, ↓vk_ow, ↓rvk_val, ↓rvk_ow, ↓Ok_retV, ↓augk_val, ↓Ok_augk, ↓nk_i, ↓Ok_setIx, ↓ixk_0, ↓ixk_1, ↓ixk_2, ↓apk_ow, ↓owk_ow, ↓Ok_app, ↓ak_n, ↓ak_d, ↓ak_b, ↓gk_n, ↓gk_l, ↓gk_r, ↓zk_n, ↓zk_l, ↓zk_r, ↓sgm_z, ↓sgm_s, ↓mk2_v, ↓mk2_o, ↓ik_z, ↓ik_n, ↓ik_s, ↓uk_z, ↓uk_s, ↓rtk_rt, ↓rtk_nx, ↓nok_n, ↓nok_v, ↓nok_o,
  ↓afk_nx, ↓afk_ct, ↓afk_bk, ↓afk_rt, ↓dk_l, ↓dk_t, ↓Ok_evPn, ↓Ok_evPs, ↓Ok_cutek, ↓Ok_cutv, ↓op_cutL, ↓op_cutT, ↓Ok_wSeq, ↓rk_i, ↓Ok_wRng1, ↓Ok_wRng2, ↓Ok_wEnum, ↓Ok_wZip2, ↓Ok_wZip3, ↓Ok_wN, ↓wk_n, ↓wk_c, ↓op_isB, ↓op_isNB, ↓dkk_d, ↓vk_dki, ↓lkk_s, ↓Ok_newK, ↓Ok_dlen, ↓Ok_dsorted, ↓Ok_dget, ↓Ok_dgetD, ↓Ok_dput,
  okArg_v, okArg_o, ↓Ok_tYes, nc_0, nc_1, nc_2, nc_3, nc_4, not_true_eq_false, not_false_eq_true, isN, List.length_cons, List.length_nil, Nat.zero_add, Nat.reduceAdd, List.mem_cons, List.not_mem_nil, decide_eq_true_eq, Bool.not_eq_true', decide_eq_false_iff_not, Bool.not_true, Bool.not_false, Bool.false_eq_true, if_true, if_false, true_and, and_true, or_false, or_true, true_or, reduceCtorEq, Nat.reduceEqDiff, and_self, decide_true, decide_false, Int.reduceLT, Int.reduceLE, Int.reduceEq, Int.reduceToNat, Int.reducePow, Int.reduceAdd, Int.reduceSub, Int.reduceMul, Int.reduceNeg, Int.reduceMod, Int.reduceDiv, Nat.reduceLeDiff, Nat.reduceLT, false_or, or_self, and_false, false_and]
          refine Rt_mono (ih _ _ y rfl rfl (hc' y (List.mem_of_getElem? ey)) (hd' y (List.mem_of_getElem? ey)) (by omega)) ?_
          rintro _ _ ⟨rfl, rfl⟩
          simp -implicitDefEqProofs only [if_true, ↓Ok_ok, ↓Ok_bind, ↓Ok_seq, ↓thenS_nx, ↓thenS_rt, ↓thenS_bk, ↓thenS_ct, ↓Ok_sIf, ↓Ok_pass, ↓Ok_ret, ↓Ok_setk, ↓Ok_park, ↓Ok_par3k, ↓Ok_drop, ↓Ok_for, ↓Ok_while, ↓Ok_unpk, ↓Ok_callk, ↓Ok_tryC, ↓Tr_x, ↓Tr_r, ↓nmk_s, ↓muk_n, ↓muk_c, ↓mu2_s, ↓mu2_v, ↓mu2_o, ↓zrk_n, ↓zrk_c, ↓rs_h, ↓rs_v, ↓rs_o, hd_v, hd_o, hd_u, mh_n, mh_c, ↓Rt_fnk,
  ↓sg_z, ↓sg_s, ↓sw_z, ↓sw_s, ↓td_val, ↓td_ow, ↓Ok_eLit, ↓kp_val, ↓kp_ow, ↓Ok_eV, ↓Ok_op1e, ↓Ok_op1v, ↓Ok_op2ee, ↓Ok_op2ve, ↓Ok_op2ev, ↓Ok_op2vv, ↓op_add, ↓op_addL, ↓op_addT, ↓op_addI, ↓op_subI, ↓op_addB, ↓op_subB, ↓op_sub, ↓op_mul, ↓op_mod, ↓op_div, ↓op_pow, ↓op_lt, ↓op_le, ↓op_gt, ↓op_ge, ↓op_eqI, ↓op_neI, ↓op_neg, ↓op_isN, ↓op_notN, ↓op_lenL, ↓op_lenT,
  ↓op_isi_i, ↓op_isi_b, ↓op_isi_l, ↓op_isi_t, ↓op_isi_n, ↓op_isi_s, ↓op_abs, ↓op_max2, ↓op_min2, ↓op_tupL, ↓op_tupT, ↓op_lstL, ↓op_lstT, ↓ix_0, ↓ix_1, ↓ix_2, ↓ix_3, ↓tx_0, ↓tx_1, ↓tx_2, ↓tx_3, ↓Ok_datum, ↓Ok_evL0, ↓Ok_evLc, ↓Ok_eTup, ↓Ok_eLst, ↓bk_b, ↓Ok_tB, ↓Ok_eB, ↓Ok_tNot, ↓Ok_tAnd, ↓Ok_tOr, ↓Ok_eAnd, ↓Ok_eOr, ↓Ok_eIf, ↓fk_i, ↓fk_b, ↓fk_n, ↓Ok_evSe, ↓Ok_evSv, ↓ck2_b, ↓Ok_eChain,
  ↓pk_n, ↓pk_t, ↓pk_l, ↓pks_n, ↓pks_c, ↓vk_val, ↓vk_ow, ↓rvk_val, ↓rvk_ow, ↓Ok_retV, ↓augk_val, ↓Ok_augk, ↓nk_i, ↓Ok_setIx, ↓ixk_0, ↓ixk_1, ↓ixk_2, ↓apk_ow, ↓owk_ow, ↓Ok_app, ↓ak_n, ↓ak_d, ↓ak_b, ↓gk_n, ↓gk_l, ↓gk_r, ↓zk_n, ↓zk_l, ↓zk_r, ↓sgm_z, ↓sgm_s, ↓mk2_v, ↓mk2_o, ↓ik_z, ↓ik_n, ↓ik_s, ↓uk_z, ↓uk_s, ↓rtk_rt, ↓rtk_nx, ↓nok_n, ↓nok_v, ↓nok_o,
  ↓afk_nx, ↓afk_ct, ↓afk_bk, ↓afk_rt, ↓dk_l, ↓dk_t, ↓Ok_evPn, ↓Ok_evPs, ↓Ok_cutek, ↓Ok_cutv, ↓op_cutL, ↓op_cutT, ↓Ok_wSeq, ↓rk_i, ↓Ok_wRng1, ↓Ok_wRng2, ↓Ok_wEnum, ↓Ok_wZip2, ↓Ok_wZip3, ↓Ok_wN, ↓wk_n, ↓wk_c, ↓op_isB, ↓op_isNB, ↓dkk_d, ↓vk_dki, ↓lkk_s, ↓Ok_newK, ↓Ok_dlen, ↓Ok_dsorted, ↓Ok_dget, ↓Ok_dgetD, ↓Ok_dput,
  okArg_v, okArg_o, ↓Ok_tYes, nc_0, nc_1, nc_2, nc_3, nc_4, not_true_eq_false, not_false_eq_true, isN, List.length_cons, List.length_nil, Nat.zero_add, Nat.reduceAdd, List.mem_cons, List.not_mem_nil, decide_eq_true_eq, Bool.not_eq_true', decide_eq_false_iff_not, Bool.not_true, Bool.not_false, Bool.false_eq_true, if_true, if_false, true_and, and_true, or_false, or_true, true_or, reduceCtorEq, Nat.reduceEqDiff, and_self, decide_true, decide_false, Int.reduceLT, Int.reduceLE, Int.reduceEq, Int.reduceToNat, Int.reducePow, Int.reduceAdd, Int.reduceSub, Int.reduceMul, Int.reduceNeg, Int.reduceMod, Int.reduceDiv, Nat.reduceLeDiff, Nat.reduceLT, false_or, or_self, and_false, false_and]
        · simp -implicitDefEqProofs only [↓fm_none, ↓op_eq_nil, ↓Ok_ok, ↓Ok_bind, ↓Ok_seq, ↓thenS_nx, ↓thenS_rt, ↓thenS_bk, ↓thenS_ct, ↓Ok_sIf, ↓Ok_pass, ↓Ok_ret, ↓Ok_setk, ↓Ok_park, ↓Ok_par3k, ↓Ok_drop, ↓Ok_for, ↓Ok_while, ↓Ok_unpk, ↓Ok_callk, ↓Ok_tryC, ↓Tr_x, ↓Tr_r, ↓nmk_s, ↓muk_n, ↓muk_c, ↓mu2_s, ↓mu2_v, ↓mu2_o, ↓zrk_n, ↓zrk_c, ↓rs_h, ↓rs_v, ↓rs_o, hd_v, hd_o, hd_u, mh_n, mh_c, ↓Rt_fnk,
  ↓sg_z, ↓sg_s, ↓sw_z, ↓sw_s, ↓td_val, ↓td_ow, ↓Ok_eLit, ↓kp_val, ↓kp_ow, ↓Ok_eV, ↓Ok_op1e, ↓Ok_op1v, ↓Ok_op2ee, ↓Ok_op2ve, ↓Ok_op2ev, ↓Ok_op2vv, ↓op_add, ↓op_addL, ↓op_addT, ↓op_addI, ↓op_subI, ↓op_addB, ↓op_subB, ↓op_sub, ↓op_mul, ↓op_mod, ↓op_div, ↓op_pow, ↓op_lt, ↓op_le, ↓op_gt, ↓op_ge, ↓op_eqI, ↓op_neI, ↓op_neg, ↓op_isN, ↓op_notN, ↓op_lenL, ↓op_lenT,
  ↓op_isi_i, ↓op_isi_b, ↓op_isi_l, ↓op_isi_t, ↓op_isi_n, ↓op_isi_s, ↓op_abs, ↓op_max2, ↓op_min2, ↓op_tupL, ↓op_tupT, ↓op_lstL, ↓op_lstT, ↓ix_0, ↓ix_1, ↓ix_2, ↓ix_3, ↓tx_0, ↓tx_1, ↓tx_2, ↓tx_3, ↓Ok_datum, ↓Ok_evL0, ↓Ok_evLc, ↓Ok_eTup, ↓Ok_eLst, ↓bk_b, ↓Ok_tB, ↓Ok_eB, ↓Ok_tNot, ↓Ok_tAnd, ↓Ok_tOr, ↓Ok_eAnd, ↓Ok_eOr, ↓Ok_eIf, ↓fk_i, ↓fk_b, ↓fk_n, ↓Ok_evSe, ↓Ok_evSv, ↓ck2_b, ↓Ok_eChain,
  ↓pk_n, ↓pk_t, ↓pk_l, ↓pks_n, ↓pks_c, ↓vk_val, ↓vk_ow, ↓rvk_val, ↓rvk_ow, ↓Ok_retV, ↓augk_val, ↓Ok_augk, ↓nk_i, ↓Ok_setIx, ↓ixk_0, ↓ixk_1, ↓ixk_2, ↓apk_ow, ↓owk_ow, ↓Ok_app, ↓ak_n, ↓ak_d, ↓ak_b, ↓gk_n, ↓gk_l, ↓gk_r, ↓zk_n, ↓zk_l, ↓zk_r, ↓sgm_z, ↓sgm_s, ↓mk2_v, ↓mk2_o, ↓ik_z, ↓ik_n, ↓ik_s, ↓uk_z, ↓uk_s, ↓rtk_rt, ↓rtk_nx, ↓nok_n, ↓nok_v, ↓nok_o,
  ↓afk_nx, ↓afk_ct, ↓afk_bk, ↓afk_rt, ↓dk_l, ↓dk_t, ↓Ok_evPn, ↓Ok_evPs, ↓Ok_cutek, ↓Ok_cutv, ↓op_cutL, ↓op_cutT, ↓Ok_wSeq, ↓rk_i, ↓Ok_wRng1, ↓Ok_wRng2, ↓Ok_wEnum, ↓Ok_wZip2, ↓Ok_wZip3, ↓Ok_wN, ↓wk_n, ↓wk_c, ↓op_isB, ↓op_isNB, ↓dkk_d, ↓vk_dki, ↓lkk_s, ↓Ok_newK, ↓Ok_dlen, ↓Ok_dsorted, ↓Ok_dget, ↓Ok_dgetD, ↓Ok_dput,
  okArg_v, okArg_o, ↓Ok_tYes, nc_0, nc_1, nc_2, nc_3, nc_4, not_true_eq_false, not_false_eq_true, isN, List.length_cons, List.length_nil, Nat.zero_add, Nat.reduceAdd, List.mem_cons, List.not_mem_nil, decide_eq_true_eq, Bool.not_eq_true', decide_eq_false_iff_not, Bool.not_true, Bool.not_false, Bool.false_eq_true, if_true, if_false, true_and, and_true, or_false, or_true, true_or, reduceCtorEq, Nat.reduceEqDiff, and_self, decide_true, decide_false, Int.reduceLT, Int.reduceLE, Int.reduceEq, Int.reduceToNat, Int.reducePow, Int.reduceAdd, Int.reduceSub, Int.reduceMul, Int.reduceNeg, Int.reduceMod, Int.reduceDiv, Nat.reduceLeDiff, Nat.reduceLT, false_or, or_self, and_false, false_and])
    | tuple ds =>
      have hc' := canLay_tuple.mp hc
      have hd' := depth_tupleL hd
      cases s <;> cases hs <;> cases t <;> cases ht
      simp -implicitDefEqProofs only [↓sort_t, ↓Ok_ok, ↓Ok_bind, ↓Ok_seq, ↓thenS_nx, ↓thenS_rt, ↓thenS_bk, ↓thenS_ct, ↓Ok_sIf, ↓Ok_pass, ↓Ok_ret, ↓Ok_setk, ↓Ok_park, ↓Ok_par3k, ↓Ok_drop, ↓Ok_for, ↓Ok_while, ↓Ok_unpk, ↓Ok_callk, ↓Ok_tryC, ↓Tr_x, ↓Tr_r, ↓nmk_s, ↓muk_n, ↓muk_c, ↓mu2_s, ↓mu2_v, ↓mu2_o, ↓zrk_n, ↓zrk_c, ↓rs_h, ↓rs_v, ↓rs_o, hd_v, hd_o, hd_u, mh_n, mh_c, ↓Rt_fnk,
  ↓sg_z, ↓sg_s, ↓sw_z, ↓sw_s, ↓td_val, ↓td_ow, ↓Ok_eLit, ↓kp_val, ↓kp_ow, ↓Ok_eV, ↓Ok_op1e, ↓Ok_op1v, ↓Ok_op2ee, ↓Ok_op2ve, ↓Ok_op2ev, ↓Ok_op2vv, ↓op_add, ↓op_addL, ↓op_addT, ↓op_addI, ↓op_subI, ↓op_addB, ↓op_subB, ↓op_sub, ↓op_mul, ↓op_mod, ↓op_div, ↓op_pow, ↓op_lt, ↓op_le, ↓op_gt, ↓op_ge, ↓op_eqI, ↓op_neI, ↓op_neg, ↓op_isN, ↓op_notN, ↓op_lenL, ↓op_lenT,
  ↓op_isi_i, ↓op_isi_b, ↓op_isi_l, ↓op_isi_t, ↓op_isi_n, ↓op_isi_s, ↓op_abs, ↓op_max2, ↓op_min2, ↓op_tupL, ↓op_tupT, ↓op_lstL, ↓op_lstT, ↓ix_0, ↓ix_1, ↓ix_2, ↓ix_3, ↓tx_0, ↓tx_1, ↓tx_2, ↓tx_3, ↓Ok_datum, ↓Ok_evL0, ↓Ok_evLc, ↓Ok_eTup, ↓Ok_eLst, ↓bk_b, ↓Ok_tB, ↓Ok_eB, ↓Ok_tNot, ↓Ok_tAnd, ↓Ok_tOr, ↓Ok_eAnd, ↓Ok_eOr, ↓Ok_eIf, ↓fk_i, ↓fk_b, ↓fk_n, ↓Ok_evSe, ↓Ok_evSv, ↓ck2_b, ↓Ok_eChain,
  ↓pk_n, ↓pk_t, ↓pk_l, ↓pks_n, ↓pks_c, ↓vk_val, ↓vk_ow, ↓rvk_val, ↓rvk_ow, ↓Ok_retV, ↓augk_val, ↓Ok_augk, ↓nk_i, ↓Ok_setIx, ↓ixk_0, ↓ixk_1, ↓ixk_2, ↓apk_ow, ↓owk_ow, ↓Ok_app, ↓ak_n, ↓ak_d, ↓ak_b, ↓gk_n, ↓gk_l, ↓gk_r, ↓zk_n, ↓zk_l, ↓zk_r, ↓sgm_z, ↓sgm_s, ↓mk2_v, ↓mk2_o, ↓ik_z, ↓ik_n, ↓ik_s, ↓uk_z, ↓uk_s, ↓rtk_rt, ↓rtk_nx, ↓nok_n, ↓nok_v, ↓nok_o,
  ↓afk_nx, ↓afk_ct, ↓afk_bk, ↓afk_rt, ↓dk_l, ↓dk_t, ↓Ok_evPn, ↓Ok_evPs, ↓Ok_cutek, ↓Ok_cutv, ↓op_cutL, ↓op_cutT, ↓Ok_wSeq, ↓rk_i, ↓Ok_wRng1, ↓Ok_wRng2, ↓Ok_wEnum, ↓Ok_wZip2, ↓Ok_wZip3, ↓Ok_wN, ↓wk_n, ↓wk_c, ↓op_isB, ↓op_isNB, ↓dkk_d, ↓vk_dki, ↓lkk_s, ↓Ok_newK, ↓Ok_dlen, ↓Ok_dsorted, ↓Ok_dget, ↓Ok_dgetD, ↓Ok_dput,
  okArg_v, okArg_o, ↓Ok_tYes, nc_0, nc_1, nc_2, nc_3, nc_4, not_true_eq_false, not_false_eq_true, isN, List.length_cons, List.length_nil, Nat.zero_add, Nat.reduceAdd, List.mem_cons, List.not_mem_nil, decide_eq_true_eq, Bool.not_eq_true', decide_eq_false_iff_not, Bool.not_true, Bool.not_false, Bool.false_eq_true, if_true, if_false, true_and, and_true, or_false, or_true, true_or, reduceCtorEq, Nat.reduceEqDiff, and_self, decide_true, decide_false, Int.reduceLT, Int.reduceLE, Int.reduceEq, Int.reduceToNat, Int.reducePow, Int.reduceAdd, Int.reduceSub, Int.reduceMul, Int.reduceNeg, Int.reduceMod, Int.reduceDiv, Nat.reduceLeDiff, Nat.reduceLT, false_or, or_self, and_false, false_and]
      refine Ok_lc (fun _ => none) ?_
      simp -implicitDefEqProofs only [if_true, ↓Ok_ok, ↓Ok_bind, ↓Ok_seq, ↓thenS_nx, ↓thenS_rt, ↓thenS_bk, ↓thenS_ct, ↓Ok_sIf, ↓Ok_pass, ↓Ok_ret, ↓Ok_setk, ↓Ok_park, ↓Ok_par3k, ↓Ok_drop, ↓Ok_for, ↓Ok_while, ↓Ok_unpk, ↓Ok_callk, ↓Ok_tryC, ↓Tr_x, ↓Tr_r, ↓nmk_s, ↓muk_n, ↓muk_c, ↓mu2_s, ↓mu2_v, ↓mu2_o, ↓zrk_n, ↓zrk_c, ↓rs_h, ↓rs_v, ↓rs_o, hd_v, hd_o, hd_u, mh_n, mh_c, ↓Rt_fnk,
  ↓sg_z, ↓sg_s, ↓sw_z, ↓sw_s, ↓td_val, ↓td_ow, ↓Ok_eLit, ↓kp_val, ↓kp_ow, ↓Ok_eV, ↓Ok_op1e, ↓Ok_op1v, ↓Ok_op2ee, ↓Ok_op2ve, ↓Ok_op2ev, ↓Ok_op2vv, ↓op_add, ↓op_addL, ↓op_addT, ↓op_addI, ↓op_subI, ↓op_addB, ↓op_subB, ↓op_sub, ↓op_mul, ↓op_mod, ↓op_div, ↓op_pow, ↓op_lt, ↓op_le, ↓op_gt, ↓op_ge, ↓op_eqI, ↓op_neI, ↓op_neg, ↓op_isN, ↓op_notN, ↓op_lenL, ↓op_lenT,
  ↓op_isi_i, ↓op_isi_b, ↓op_isi_l, ↓op_isi_t, ↓op_isi_n, ↓op_isi_s, ↓op_abs, ↓op_max2, ↓op_min2, ↓op_tupL, ↓op_tupT, ↓op_lstL, ↓op_lstT, ↓ix_0, ↓ix_1, ↓ix_2, ↓ix_3, ↓tx_0, ↓tx_1, ↓tx_2, ↓tx_3, ↓Ok_datum, ↓Ok_evL0, ↓Ok_evLc, ↓Ok_eTup, ↓Ok_eLst, ↓bk_b, ↓Ok_tB, ↓Ok_eB, ↓Ok_tNot, ↓Ok_tAnd, ↓Ok_tOr, ↓Ok_eAnd, ↓Ok_eOr, ↓Ok_eIf, ↓fk_i, ↓fk_b, ↓fk_n, ↓Ok_evSe, ↓Ok_evSv, ↓ck2_b, ↓Ok_eChain,
  ↓pk_n, ↓pk_t, ↓pk_l, ↓pks_n, ↓pks_c, ↓vk_val, ↓vk_ow, ↓rvk_val, ↓rvk_ow, ↓Ok_retV, ↓augk_val, ↓Ok_augk, ↓nk_i, ↓Ok_setIx, ↓ixk_0, ↓ixk_1, ↓ixk_2, ↓apk_ow, ↓owk_ow, ↓Ok_app, ↓ak_n, ↓ak_d, ↓ak_b, ↓gk_n, ↓gk_l, ↓gk_r, ↓zk_n, ↓zk_l, ↓zk_r, ↓sgm_z, ↓sgm_s, ↓mk2_v, ↓mk2_o, ↓ik_z, ↓ik_n, ↓ik_s, ↓uk_z, ↓uk_s, ↓rtk_rt, ↓rtk_nx, ↓nok_n, ↓nok_v, ↓nok_o,
  ↓afk_nx, ↓afk_ct, ↓afk_bk, ↓afk_rt, ↓dk_l, ↓dk_t, ↓Ok_evPn, ↓Ok_evPs, ↓Ok_cutek, ↓Ok_cutv, ↓op_cutL, ↓op_cutT, ↓Ok_wSeq, ↓rk_i, ↓Ok_wRng1, ↓Ok_wRng2, ↓Ok_wEnum, ↓Ok_wZip2, ↓Ok_wZip3, ↓Ok_wN, ↓wk_n, ↓wk_c, ↓op_isB, ↓op_isNB, ↓dkk_d, ↓vk_dki, ↓lkk_s, ↓Ok_newK, ↓Ok_dlen, ↓Ok_dsorted, ↓Ok_dget, ↓Ok_dgetD, ↓Ok_dput,
  okArg_v, okArg_o, ↓Ok_tYes, nc_0, nc_1, nc_2, nc_3, nc_4, not_true_eq_false, not_false_eq_true, isN, List.length_cons, List.length_nil, Nat.zero_add, Nat.reduceAdd, List.mem_cons, List.not_mem_nil, decide_eq_true_eq, Bool.not_eq_true', decide_eq_false_iff_not, Bool.not_true, Bool.not_false, Bool.false_eq_true, if_true, if_false, true_and, and_true, or_false, or_true, true_or, reduceCtorEq, Nat.reduceEqDiff, and_self, decide_true, decide_false, Int.reduceLT, Int.reduceLE, Int.reduceEq, Int.reduceToNat, Int.reducePow, Int.reduceAdd, Int.reduceSub, Int.reduceMul, Int.reduceNeg, Int.reduceMod, Int.reduceDiv, Nat.reduceLeDiff, Nat.reduceLT, false_or, or_self, and_false, false_and]
      refine ⟨⟨ckN_eq (d := .tuple ds) rfl rfl, fun x hx => ?_⟩, ?_⟩
      · obtain ⟨i, y, ey, rfl⟩ := enumF_mem hx
        unfold itemk
        simp -implicitDefEqProofs only [↓op_ix_atT ey, ↓Ok_ok, ↓Ok_bind, ↓Ok_seq, ↓thenS_nx, ↓thenS_rt, ↓thenS_bk, ↓thenS_ct, ↓Ok_sIf, ↓Ok_pass, ↓Ok_ret, ↓Ok_setk, ↓Ok_park, ↓Ok_par3k, ↓Ok_drop, ↓Ok_for, ↓Ok_while, ↓Ok_unpk, ↓Ok_callk, ↓Ok_tryC, ↓Tr_x, ↓Tr_r, ↓nmk_s, ↓muk_n, ↓muk_c, ↓mu2_s, ↓mu2_v, ↓mu2_o, ↓zrk_n, ↓zrk_c, ↓rs_h, ↓rs_v, ↓rs_o, hd_v, hd_o, hd_u, mh_n, mh_c, ↓Rt_fnk,
  ↓sg_z, ↓sg_s, ↓sw_z, ↓sw_s, ↓td_val, ↓td_ow, ↓Ok_eLit, ↓kp_val, ↓kp_ow, ↓Ok_eV, ↓Ok_op1e, ↓Ok_op1v, ↓Ok_op2ee, ↓Ok_op2ve, ↓Ok_op2ev, ↓Ok_op2vv, ↓op_add, ↓op_addL, ↓op_addT, ↓op_addI, ↓op_subI, ↓op_addB, ↓op_subB, ↓op_sub, ↓op_mul, ↓op_mod, ↓op_div, ↓op_pow, ↓op_lt, ↓op_le, ↓op_gt, ↓op_ge, ↓op_eqI, ↓op_neI, ↓op_neg, ↓op_isN, ↓op_notN, ↓op_lenL, ↓op_lenT,
  ↓op_isi_i, ↓op_isi_b, ↓op_isi_l, ↓op_isi_t, ↓op_isi_n, ↓op_isi_s, ↓op_abs, ↓op_max2, ↓op_min2, ↓op_tupL, ↓op_tupT, ↓op_lstL, ↓op_lstT, ↓ix_0, ↓ix_1, ↓ix_2, ↓ix_3, ↓tx_0, ↓tx_1, ↓tx_2, ↓tx_3, ↓Ok_datum, ↓Ok_evL0, ↓Ok_evLc, ↓Ok_eTup, ↓Ok_eLst, ↓bk_b, ↓Ok_tB, ↓Ok_eB, ↓Ok_tNot, ↓Ok_tAnd, ↓Ok_tOr, ↓Ok_eAnd, ↓Ok_eOr, ↓Ok_eIf, ↓fk_i, ↓fk_b, ↓fk_n, ↓Ok_evSe, ↓Ok_evSv, ↓ck2_b, ↓Ok_eChain,
  ↓pk_n, ↓pk_t, ↓pk_l, ↓pks_n, ↓pks_c, ↓vk_val, ↓vk_ow, ↓rvk_val, ↓rvk_ow, ↓Ok_retV, ↓augk_val, ↓Ok_augk, ↓nk_i, ↓Ok_setIx, ↓ixk_0, ↓ixk_1, ↓ixk_2, ↓apk_ow, ↓owk_ow, ↓Ok_app, ↓ak_n, ↓ak_d, ↓ak_b, ↓gk_n, ↓gk_l, ↓gk_r, ↓zk_n, ↓zk_l, ↓zk_r, ↓sgm_z, ↓sgm_s, ↓mk2_v, ↓mk2_o, ↓ik_z, ↓ik_n, ↓ik_s, ↓uk_z, ↓uk_s, ↓rtk_rt, ↓rtk_nx, ↓nok_n, ↓nok_v, ↓nok_o,
  ↓afk_nx, ↓afk_ct, ↓afk_bk, ↓afk_rt, ↓dk_l, ↓dk_t, ↓Ok_evPn, ↓Ok_evPs, ↓Ok_cutek, ↓Ok_cutv, ↓op_cutL, ↓op_cutT, ↓Ok_wSeq, ↓rk_i, ↓Ok_wRng1, ↓Ok_wRng2, ↓Ok_wEnum, ↓Ok_wZip2, ↓Ok_wZip3, ↓Ok_wN, ↓wk_n, ↓wk_c, ↓op_isB, ↓op_isNB, ↓dkk_d, ↓vk_dki, ↓lkk_s, ↓Ok_newK, ↓Ok_dlen, ↓Ok_dsorted, ↓Ok_dget, ↓Ok_dgetD, ↓Ok_dput,
  okArg_v, okArg_o, ↓Ok_tYes, nc_0, nc_1, nc_2, nc_3, nc_4, not_true_eq_false, not_false_eq_true, isN, List.length_cons, List.length_nil, Nat.zero_add, Nat.reduceAdd, List.mem_cons, List.not_mem_nil, decide_eq_true_eq, Bool.not_eq_true', decide_eq_false_iff_not, Bool.not_true, Bool.not_false, Bool.false_eq_true, if_true, if_false, true_and, and_true, or_false, or_true, true_or, reduceCtorEq, Nat.reduceEqDiff, and_self, decide_true, decide_false, Int.reduceLT, Int.reduceLE, Int.reduceEq, Int.reduceToNat, Int.reducePow, Int.reduceAdd, Int.reduceSub, Int.reduceMul, Int.reduceNeg, Int.reduceMod, Int.reduceDiv, Nat.reduceLeDiff, Nat.reduceLT, false_or, or_self, and_false, false_and]
        refine Rt_mono (ih _ _ y rfl rfl (hc' y (List.mem_of_getElem? ey)) (hd' y (List.mem_of_getElem? ey)) (by omega)) ?_
        rintro _ _ ⟨rfl, rfl⟩
        simp -implicitDefEqProofs only [if_true, ↓Ok_ok, ↓Ok_bind, ↓Ok_seq, ↓thenS_nx, ↓thenS_rt, ↓thenS_bk, ↓thenS_ct, ↓Ok_sIf, ↓Ok_pass, ↓Ok_ret, ↓Ok_setk, ↓Ok_park, ↓Ok_par3k, ↓Ok_drop, ↓Ok_for, ↓Ok_while, ↓Ok_unpk, ↓Ok_callk, ↓Ok_tryC, ↓Tr_x, ↓Tr_r, ↓nmk_s, ↓muk_n, ↓muk_c, ↓mu2_s, ↓mu2_v, ↓mu2_o, ↓zrk_n, ↓zrk_c, ↓rs_h, ↓rs_v, ↓rs_o, hd_v, hd_o, hd_u, mh_n, mh_c, ↓Rt_fnk,
  ↓sg_z, ↓sg_s, ↓sw_z, ↓sw_s, ↓td_val, ↓td_ow, ↓Ok_eLit, ↓kp_val, ↓kp_ow, ↓Ok_eV, ↓Ok_op1e, ↓Ok_op1v, ↓Ok_op2ee, ↓Ok_op2ve, ↓Ok_op2ev, ↓Ok_op2vv, ↓op_add, ↓op_addL, ↓op_addT, ↓op_addI, ↓op_subI, ↓op_addB, ↓op_subB, ↓op_sub, ↓op_mul, ↓op_mod, ↓op_div, ↓op_pow, ↓op_lt, ↓op_le, ↓op_gt, ↓op_ge, ↓op_eqI, ↓op_neI, ↓op_neg, ↓op_isN, ↓op_notN, ↓op_lenL, ↓op_lenT,
  ↓op_isi_i, ↓op_isi_b, ↓op_isi_l, ↓op_isi_t, ↓op_isi_n, ↓op_isi_s, ↓op_abs, ↓op_max2, ↓op_min2, ↓op_tupL, ↓op_tupT, ↓op_lstL, ↓op_lstT, ↓ix_0, ↓ix_1, ↓ix_2, ↓ix_3, ↓tx_0, ↓tx_1, ↓tx_2, ↓tx_3, ↓Ok_datum, ↓Ok_evL0, ↓Ok_evLc, ↓Ok_eTup, ↓Ok_eLst, ↓bk_b, ↓Ok_tB, ↓Ok_eB, ↓Ok_tNot, ↓Ok_tAnd, ↓Ok_tOr, ↓Ok_eAnd, ↓Ok_eOr, ↓Ok_eIf, ↓fk_i, ↓fk_b, ↓fk_n, ↓Ok_evSe, ↓Ok_evSv, ↓ck2_b, ↓Ok_eChain,
  ↓pk_n, ↓pk_t, ↓pk_l, ↓pks_n, ↓pks_c, ↓vk_val, ↓vk_ow, ↓rvk_val, ↓rvk_ow, ↓Ok_retV, ↓augk_val, ↓Ok_augk, ↓nk_i, ↓Ok_setIx, ↓ixk_0, ↓ixk_1, ↓ixk_2, ↓apk_ow, ↓owk_ow, ↓Ok_app, ↓ak_n, ↓ak_d, ↓ak_b, ↓gk_n, ↓gk_l, ↓gk_r, ↓zk_n, ↓zk_l, ↓zk_r, ↓sgm_z, ↓sgm_s, ↓mk2_v, ↓mk2_o, ↓ik_z, ↓ik_n, ↓ik_s, ↓uk_z, ↓uk_s, ↓rtk_rt, ↓rtk_nx, ↓nok_n, ↓nok_v, ↓nok_o,
  ↓afk_nx, ↓afk_ct, ↓afk_bk, ↓afk_rt, ↓dk_l, ↓dk_t, ↓Ok_evPn, ↓Ok_evPs, ↓Ok_cutek, ↓Ok_cutv, ↓op_cutL, ↓op_cutT, ↓Ok_wSeq, ↓rk_i, ↓Ok_wRng1, ↓Ok_wRng2, ↓Ok_wEnum, ↓Ok_wZip2, ↓Ok_wZip3, ↓Ok_wN, ↓wk_n, ↓wk_c, ↓op_isB, ↓op_isNB, ↓dkk_d, ↓vk_dki, ↓lkk_s, ↓Ok_newK, ↓Ok_dlen, ↓Ok_dsorted, ↓Ok_dget, ↓Ok_dgetD, ↓Ok_dput,
  okArg_v, okArg_o, ↓Ok_tYes, nc_0, nc_1, nc_2, nc_3, nc_4, not_true_eq_false, not_false_eq_true, isN, List.length_cons, List.length_nil, Nat.zero_add, Nat.reduceAdd, List.mem_cons, List.not_mem_nil, decide_eq_true_eq, Bool.not_eq_true', decide_eq_false_iff_not, Bool.not_true, Bool.not_false, Bool.false_eq_true, if_true, if_false, true_and, and_true, or_false, or_true, true_or, reduceCtorEq, Nat.reduceEqDiff, and_self, decide_true, decide_false, Int.reduceLT, Int.reduceLE, Int.reduceEq, Int.reduceToNat, Int.reducePow, Int.reduceAdd, Int.reduceSub, Int.reduceMul, Int.reduceNeg, Int.reduceMod, Int.reduceDiv, Nat.reduceLeDiff, Nat.reduceLT, false_or, or_self, and_false, false_and]
      · simp -implicitDefEqProofs only [↓fm_none, ↓op_eq_nil, ↓Ok_ok, ↓Ok_bind, ↓Ok_seq, ↓thenS_nx, ↓thenS_rt, ↓thenS_bk, ↓thenS_ct, ↓Ok_sIf, ↓Ok_pass, ↓Ok_ret, ↓Ok_setk, ↓Ok_park, ↓Ok_par3k, ↓Ok_drop, ↓Ok_for, ↓Ok_while, ↓Ok_unpk, ↓Ok_callk, ↓Ok_tryC, ↓Tr_x, ↓Tr_r, ↓nmk_s, ↓muk_n, ↓muk_c, ↓mu2_s, ↓mu2_v, ↓mu2_o, ↓zrk_n, ↓zrk_c, ↓rs_h, ↓rs_v, ↓rs_o, hd_v, hd_o, hd_u, mh_n, mh_c, ↓Rt_fnk,
  ↓sg_z, ↓sg_s, ↓sw_z, ↓sw_s, ↓td_val, ↓td_ow, ↓Ok_eLit, ↓kp_val, ↓kp_ow, ↓Ok_eV, ↓Ok_op1e, ↓Ok_op1v, ↓Ok_op2ee, ↓Ok_op2ve, ↓Ok_op2ev, ↓Ok_op2vv, ↓op_add, ↓op_addL, ↓op_addT, ↓op_addI, ↓op_subI, ↓op_addB, ↓op_subB, ↓op_sub, ↓op_mul, ↓op_mod, ↓op_div, ↓op_pow, ↓op_lt, ↓op_le, ↓op_gt, ↓op_ge, ↓op_eqI, ↓op_neI, ↓op_neg, ↓op_isN, ↓op_notN, ↓op_lenL, ↓op_lenT,
  ↓op_isi_i, ↓op_isi_b, ↓op_isi_l, ↓op_isi_t, ↓op_isi_n, ↓op_isi_s, ↓op_abs, ↓op_max2, ↓op_min2, ↓op_tupL, ↓op_tupT, ↓op_lstL, ↓op_lstT, ↓ix_0, ↓ix_1, ↓ix_2, ↓ix_3, ↓tx_0, ↓tx_1, ↓tx_2, ↓tx_3, ↓Ok_datum, ↓Ok_evL0, ↓Ok_evLc, ↓Ok_eTup, ↓Ok_eLst, ↓bk_b, ↓Ok_tB, ↓Ok_eB, ↓Ok_tNot, ↓Ok_tAnd, ↓Ok_tOr, ↓Ok_eAnd, ↓Ok_eOr, ↓Ok_eIf, ↓fk_i, ↓fk_b, ↓fk_n, ↓Ok_evSe, ↓Ok_evSv, ↓ck2_b, ↓Ok_eChain,
  ↓pk_n, ↓pk_t, ↓pk_l, ↓pks_n, ↓pks_c, ↓vk_val, ↓vk_ow, ↓rvk_val, ↓rvk_ow, ↓Ok_retV, ↓augk_val, ↓Ok_augk, ↓nk_i, ↓Ok_setIx, ↓ixk_0, ↓ixk_1, ↓ixk_2, ↓apk_ow, ↓owk_ow, ↓Ok_app, ↓ak_n, ↓ak_d, ↓ak_b, ↓gk_n, ↓gk_l, ↓gk_r, ↓zk_n, ↓zk_l, ↓zk_r, ↓sgm_z, ↓sgm_s, ↓mk2_v, ↓mk2_o, ↓ik_z, ↓ik_n, ↓ik_s, ↓uk_z, ↓uk_s, ↓rtk_rt, ↓rtk_nx, ↓nok_n, ↓nok_v, ↓nok_o,
  ↓afk_nx, ↓afk_ct, ↓afk_bk, ↓afk_rt, ↓dk_l, ↓dk_t, ↓Ok_evPn, ↓Ok_evPs, ↓Ok_cutek, ↓Ok_cutv, ↓op_cutL, ↓op_cutT, ↓Ok_wSeq, ↓rk_i, ↓Ok_wRng1, ↓Ok_wRng2, ↓Ok_wEnum, ↓Ok_wZip2, ↓Ok_wZip3, ↓Ok_wN, ↓wk_n, ↓wk_c, ↓op_isB, ↓op_isNB, ↓dkk_d, ↓vk_dki, ↓lkk_s, ↓Ok_newK, ↓Ok_dlen, ↓Ok_dsorted, ↓Ok_dget, ↓Ok_dgetD, ↓Ok_dput,
  okArg_v, okArg_o, ↓Ok_tYes, nc_0, nc_1, nc_2, nc_3, nc_4, not_true_eq_false, not_false_eq_true, isN, List.length_cons, List.length_nil, Nat.zero_add, Nat.reduceAdd, List.mem_cons, List.not_mem_nil, decide_eq_true_eq, Bool.not_eq_true', decide_eq_false_iff_not, Bool.not_true, Bool.not_false, Bool.false_eq_true, if_true, if_false, true_and, and_true, or_false, or_true, true_or, reduceCtorEq, Nat.reduceEqDiff, and_self, decide_true, decide_false, Int.reduceLT, Int.reduceLE, Int.reduceEq, Int.reduceToNat, Int.reducePow, Int.reduceAdd, Int.reduceSub, Int.reduceMul, Int.reduceNeg, Int.reduceMod, Int.reduceDiv, Nat.reduceLeDiff, Nat.reduceLT, false_or, or_self, and_false, false_and]
end
section
open PySem Rc
theorem same_rt {s t : Sv} {d : D} (h1 : toD s = some d) (h2 : toD t = some d) (hc : d.canLay0 = true) (hd : d.depth < 8) (Q : Sv → Sl → Prop) : Rt (F_law_same 8 [s, t]) Q = Q (.val (.bool true)) [s, t] :=
  Rt_eq (ret_of (same_spec 8 s t d h1 h2 hc hd (by decide)))
end

section
open PySem Rc
theorem one_spec {n : Int} {ds xs : List D} (hd : Deck n ds) (hn : n < 1000000000) (h0 : 0 < xs.length) (h1 : xs.length < 1000000) :
    Rt (F_law_one [.ow ds, .val (.list xs)]) fun v outs => ∃ d es, d ∈ xs ∧ v = .val d ∧ outs = [.ow es, .val (.list xs)] ∧ Deck (n + 1) es := by
  unfold F_law_one B_law_one
  simp -implicitDefEqProofs only [if_true, ↓Ok_ok, ↓Ok_bind, ↓Ok_seq, ↓thenS_nx, ↓thenS_rt, ↓thenS_bk, ↓thenS_ct, ↓Ok_sIf, ↓Ok_pass, ↓Ok_ret, ↓Ok_setk, ↓Ok_park, ↓Ok_par3k, ↓Ok_drop, ↓Ok_for, ↓Ok_while, ↓Ok_unpk, ↓Ok_callk, ↓Ok_tryC, ↓Tr_x, ↓Tr_r, ↓nmk_s, ↓muk_n, ↓muk_c, ↓mu2_s, ↓mu2_v, ↓mu2_o, ↓zrk_n, ↓zrk_c, ↓rs_h, ↓rs_v, ↓rs_o, hd_v, hd_o, hd_u, mh_n, mh_c, ↓Rt_fnk,
  ↓sg_z, ↓sg_s, ↓sw_z, ↓sw_s, ↓td_val, ↓td_ow, ↓Ok_eLit, ↓kp_val, ↓kp_ow, ↓Ok_eV, ↓Ok_op1e, ↓Ok_op1v, ↓Ok_op2ee, ↓Ok_op2ve, ↓Ok_op2ev, ↓Ok_op2vv, ↓op_add, ↓op_addL, ↓op_addT, ↓op_addI, ↓op_subI, ↓op_addB, ↓op_subB, ↓op_sub, ↓op_mul, ↓op_mod, ↓op_div, ↓op_pow, ↓op_lt, ↓op_le, ↓op_gt, ↓op_ge, ↓op_eqI, ↓op_neI, ↓op_neg, ↓op_isN, ↓op_notN, ↓op_lenL, ↓op_lenT,
  ↓op_isi_i, ↓op_isi_b, ↓op_isi_l, ↓op_isi_t, ↓op_isi_n, ↓op_isi_s, ↓op_abs, ↓op_max2, ↓op_min2, ↓op_tupL, ↓op_tupT, ↓op_lstL, ↓op_lstT, ↓ix_0, ↓ix_1, ↓ix_2, ↓ix_3, ↓tx_0, ↓tx_1, ↓tx_2, ↓tx_3, ↓Ok_datum, ↓Ok_evL0, ↓Ok_evLc, ↓Ok_eTup, ↓Ok_eLst, ↓bk_b, ↓Ok_tB, ↓Ok_eB, ↓Ok_tNot, ↓Ok_tAnd, ↓Ok_tOr, ↓Ok_eAnd, ↓Ok_eOr, ↓Ok_eIf, ↓fk_i, ↓fk_b, ↓fk_n, ↓Ok_evSe, ↓Ok_evSv, ↓ck2_b, ↓Ok_eChain,
  ↓pk_n, ↓pk_t, ↓pk_l, ↓pks_n, ↓pks_c, ↓vk_val, ↓vk_ow, ↓rvk_val, ↓rvk_ow, ↓Ok_retV, ↓augk_val, ↓Ok_augk, ↓nk_i, ↓Ok_setIx, ↓ixk_0, ↓ixk_1, ↓ixk_2, ↓apk_ow, ↓owk_ow, ↓Ok_app, ↓ak_n, ↓ak_d, ↓ak_b, ↓gk_n, ↓gk_l, ↓gk_r, ↓zk_n, ↓zk_l, ↓zk_r, ↓sgm_z, ↓sgm_s, ↓mk2_v, ↓mk2_o, ↓ik_z, ↓ik_n, ↓ik_s, ↓uk_z, ↓uk_s, ↓rtk_rt, ↓rtk_nx, ↓nok_n, ↓nok_v, ↓nok_o,
  ↓afk_nx, ↓afk_ct, ↓afk_bk, ↓afk_rt, ↓dk_l, ↓dk_t, ↓Ok_evPn, ↓Ok_evPs, ↓Ok_cutek, ↓Ok_cutv, ↓op_cutL, ↓op_cutT, ↓Ok_wSeq, ↓rk_i, ↓Ok_wRng1, ↓Ok_wRng2, ↓Ok_wEnum, ↓Ok_wZip2, ↓Ok_wZip3, ↓Ok_wN, ↓wk_n, ↓wk_c, ↓op_isB, ↓op_isNB, ↓dkk_d, ↓vk_dki, ↓lkk_s, ↓Ok_newK, ↓Ok_dlen, ↓Ok_dsorted, ↓Ok_dget, ↓Ok_dgetD, ↓Ok_dput,
  okArg_v, okArg_o, ↓Ok_tYes, nc_0, nc_1, nc_2, nc_3, nc_4, not_true_eq_false, not_false_eq_true, isN, List.length_cons, List.length_nil, Nat.zero_add, Nat.reduceAdd, List.mem_cons, List.not_mem_nil, decide_eq_true_eq, Bool.not_eq_true', decide_eq_false_iff_not, Bool.not_true, Bool.not_false, Bool.false_eq_true, if_true, if_false, true_and, and_true, or_false, or_true, true_or, reduceCtorEq, Nat.reduceEqDiff, and_self, decide_true, decide_false, Int.reduceLT, Int.reduceLE, Int.reduceEq, Int.reduceToNat, Int.reducePow, Int.reduceAdd, Int.reduceSub, Int.reduceMul, Int.reduceNeg, Int.reduceMod, Int.reduceDiv, Nat.reduceLeDiff, Nat.reduceLT, false_or, or_self, and_false, false_and]
  refine Rt_mono (pick_spec hd hn (by omega) (by omega)) ?_
  rintro _ _ ⟨r, es, rfl, rfl, r0, r1, hd'⟩
  have hr : r.toNat < xs.length := by omega
  simp -implicitDefEqProofs only [↓op_ixL, ↓Ok_ok, ↓Ok_bind, ↓Ok_seq, ↓thenS_nx, ↓thenS_rt, ↓thenS_bk, ↓thenS_ct, ↓Ok_sIf, ↓Ok_pass, ↓Ok_ret, ↓Ok_setk, ↓Ok_park, ↓Ok_par3k, ↓Ok_drop, ↓Ok_for, ↓Ok_while, ↓Ok_unpk, ↓Ok_callk, ↓Ok_tryC, ↓Tr_x, ↓Tr_r, ↓nmk_s, ↓muk_n, ↓muk_c, ↓mu2_s, ↓mu2_v, ↓mu2_o, ↓zrk_n, ↓zrk_c, ↓rs_h, ↓rs_v, ↓rs_o, hd_v, hd_o, hd_u, mh_n, mh_c, ↓Rt_fnk,
  ↓sg_z, ↓sg_s, ↓sw_z, ↓sw_s, ↓td_val, ↓td_ow, ↓Ok_eLit, ↓kp_val, ↓kp_ow, ↓Ok_eV, ↓Ok_op1e, ↓Ok_op1v, ↓Ok_op2ee, ↓Ok_op2ve, ↓Ok_op2ev, ↓Ok_op2vv, ↓op_add, ↓op_addL, ↓op_addT, ↓op_addI, ↓op_subI, ↓op_addB, ↓op_subB, ↓op_sub, ↓op_mul, ↓op_mod, ↓op_div, ↓op_pow, ↓op_lt, ↓op_le, ↓op_gt, ↓op_ge, ↓op_eqI, ↓op_neI, ↓op_neg, ↓op_isN, ↓op_notN, ↓op_lenL, ↓op_lenT,
  ↓op_isi_i, ↓op_isi_b, ↓op_isi_l, ↓op_isi_t, ↓op_isi_n, ↓op_isi_s, ↓op_abs, ↓op_max2, ↓op_min2, ↓op_tupL, ↓op_tupT, ↓op_lstL, ↓op_lstT, ↓ix_0, ↓ix_1, ↓ix_2, ↓ix_3, ↓tx_0, ↓tx_1, ↓tx_2, ↓tx_3, ↓Ok_datum, ↓Ok_evL0, ↓Ok_evLc, ↓Ok_eTup, ↓Ok_eLst, ↓bk_b, ↓Ok_tB, ↓Ok_eB, ↓Ok_tNot, ↓Ok_tAnd, ↓Ok_tOr, ↓Ok_eAnd, ↓Ok_eOr, ↓Ok_eIf, ↓fk_i, ↓fk_b, ↓fk_n, ↓Ok_evSe, ↓Ok_evSv, ↓ck2_b, ↓Ok_eChain,
  ↓pk_n, ↓pk_t, ↓pk_l, ↓pks_n, ↓pks_c, ↓vk_val, ↓vk_ow, ↓rvk_val, ↓rvk_ow, ↓Ok_retV, ↓augk_val, ↓Ok_augk, ↓nk_i, ↓Ok_setIx, ↓ixk_0, ↓ixk_1, ↓ixk_2, ↓apk_ow, ↓owk_ow, ↓Ok_app, ↓ak_n, ↓ak_d, ↓ak_b, ↓gk_n, ↓gk_l, ↓gk_r, ↓zk_n, ↓zk_l, ↓zk_r, ↓sgm_z, ↓sgm_s, ↓mk2_v, ↓mk2_o, ↓ik_z, ↓ik_n, ↓ik_s, ↓uk_z, ↓uk_s, ↓rtk_rt, ↓rtk_nx, ↓nok_n, ↓nok_v, ↓nok_o,
  ↓afk_nx, ↓afk_ct, ↓afk_bk, ↓afk_rt, ↓dk_l, ↓dk_t, ↓Ok_evPn, ↓Ok_evPs, ↓Ok_cutek, ↓Ok_cutv, ↓op_cutL, ↓op_cutT, ↓Ok_wSeq, ↓rk_i, ↓Ok_wRng1, ↓Ok_wRng2, ↓Ok_wEnum, ↓Ok_wZip2, ↓Ok_wZip3, ↓Ok_wN, ↓wk_n, ↓wk_c, ↓op_isB, ↓op_isNB, ↓dkk_d, ↓vk_dki, ↓lkk_s, ↓Ok_newK, ↓Ok_dlen, ↓Ok_dsorted, ↓Ok_dget, ↓Ok_dgetD, ↓Ok_dput,
  okArg_v, okArg_o, ↓Ok_tYes, nc_0, nc_1, nc_2, nc_3, nc_4, not_true_eq_false, not_false_eq_true, isN, List.length_cons, List.length_nil, Nat.zero_add, Nat.reduceAdd, List.mem_cons, List.not_mem_nil, decide_eq_true_eq, Bool.not_eq_true', decide_eq_false_iff_not, Bool.not_true, Bool.not_false, Bool.false_eq_true, if_true, if_false, true_and, and_true, or_false, or_true, true_or, reduceCtorEq, Nat.reduceEqDiff, and_self, decide_true, decide_false, Int.reduceLT, Int.reduceLE, Int.reduceEq, Int.reduceToNat, Int.reducePow, Int.reduceAdd, Int.reduceSub, Int.reduceMul, Int.reduceNeg, Int.reduceMod, Int.reduceDiv, Nat.reduceLeDiff, Nat.reduceLT, false_or, or_self, and_false, false_and]
  exact ⟨xs[r.toNat], atI_of r0 (List.getElem?_eq_getElem hr), xs[r.toNat], es, List.getElem_mem hr, rfl, rfl, hd'⟩
end

/-! ### random values -/
section
open PySem Rc
theorem values_spec {n m : Int} {ds : List D} (hd : Deck n ds) (hn : n < 900000000) (h0 : 0 ≤ m) (h1 : m ≤ 1000) :
    Rt (F_law_values [.ow ds, .val (.int m)]) fun v outs => ∃ (ns : List Int) (es : List D), v = .ow (ns.map PyData.int) ∧ outs = [.ow es, .val (.int m)] ∧ ns.length ≤ m.toNat ∧ (∀ x ∈ ns, 0 ≤ x ∧ x ≤ 1000000) ∧ Deck (n + 2 + 2 * m) es := by
  unfold F_law_values B_law_values
  simp -implicitDefEqProofs only [if_true, ↓Ok_ok, ↓Ok_bind, ↓Ok_seq, ↓thenS_nx, ↓thenS_rt, ↓thenS_bk, ↓thenS_ct, ↓Ok_sIf, ↓Ok_pass, ↓Ok_ret, ↓Ok_setk, ↓Ok_park, ↓Ok_par3k, ↓Ok_drop, ↓Ok_for, ↓Ok_while, ↓Ok_unpk, ↓Ok_callk, ↓Ok_tryC, ↓Tr_x, ↓Tr_r, ↓nmk_s, ↓muk_n, ↓muk_c, ↓mu2_s, ↓mu2_v, ↓mu2_o, ↓zrk_n, ↓zrk_c, ↓rs_h, ↓rs_v, ↓rs_o, hd_v, hd_o, hd_u, mh_n, mh_c, ↓Rt_fnk,
  ↓sg_z, ↓sg_s, ↓sw_z, ↓sw_s, ↓td_val, ↓td_ow, ↓Ok_eLit, ↓kp_val, ↓kp_ow, ↓Ok_eV, ↓Ok_op1e, ↓Ok_op1v, ↓Ok_op2ee, ↓Ok_op2ve, ↓Ok_op2ev, ↓Ok_op2vv, ↓op_add, ↓op_addL, ↓op_addT, ↓op_addI, ↓op_subI, ↓op_addB, ↓op_subB, ↓op_sub, ↓op_mul, ↓op_mod, ↓op_div, ↓op_pow, ↓op_lt, ↓op_le, ↓op_gt, ↓op_ge, ↓op_eqI, ↓op_neI, ↓op_neg, ↓op_isN, ↓op_notN, ↓op_lenL, ↓op_lenT,
  ↓op_isi_i, ↓op_isi_b, ↓op_isi_l, ↓op_isi_t, ↓op_isi_n, ↓op_isi_s, ↓op_abs, ↓op_max2, ↓op_min2, ↓op_tupL, ↓op_tupT, ↓op_lstL, ↓op_lstT, ↓ix_0, ↓ix_1, ↓ix_2, ↓ix_3, ↓tx_0, ↓tx_1, ↓tx_2, ↓tx_3, ↓Ok_datum, ↓Ok_evL0, ↓Ok_evLc, ↓Ok_eTup, ↓Ok_eLst, ↓bk_b, ↓Ok_tB, ↓Ok_eB, ↓Ok_tNot, ↓Ok_tAnd, ↓Ok_tOr, ↓Ok_eAnd, ↓Ok_eOr, ↓Ok_eIf, ↓fk_i, ↓fk_b, ↓fk_n, ↓Ok_evSe, ↓Ok_evSv, ↓ck2_b, ↓Ok_eChain,
  ↓pk_n, ↓pk_t, ↓pk_l, ↓pks_n, ↓pks_c, ↓vk_val, ↓vk_ow, ↓rvk_val, ↓rvk_ow, ↓Ok_retV, ↓augk_val, ↓Ok_augk, ↓nk_i, ↓Ok_setIx, ↓ixk_0, ↓ixk_1, ↓ixk_2, ↓apk_ow, ↓owk_ow, ↓Ok_app, ↓ak_n, ↓ak_d, ↓ak_b, ↓gk_n, ↓gk_l, ↓gk_r, ↓zk_n, ↓zk_l, ↓zk_r, ↓sgm_z, ↓sgm_s, ↓mk2_v, ↓mk2_o, ↓ik_z, ↓ik_n, ↓ik_s, ↓uk_z, ↓uk_s, ↓rtk_rt, ↓rtk_nx, ↓nok_n, ↓nok_v, ↓nok_o,
  ↓afk_nx, ↓afk_ct, ↓afk_bk, ↓afk_rt, ↓dk_l, ↓dk_t, ↓Ok_evPn, ↓Ok_evPs, ↓Ok_cutek, ↓Ok_cutv, ↓op_cutL, ↓op_cutT, ↓Ok_wSeq, ↓rk_i, ↓Ok_wRng1, ↓Ok_wRng2, ↓Ok_wEnum, ↓Ok_wZip2, ↓Ok_wZip3, ↓Ok_wN, ↓wk_n, ↓wk_c, ↓op_isB, ↓op_isNB, ↓dkk_d, ↓vk_dki, ↓lkk_s, ↓Ok_newK, ↓Ok_dlen, ↓Ok_dsorted, ↓Ok_dget, ↓Ok_dgetD, ↓Ok_dput,
  okArg_v, okArg_o, ↓Ok_tYes, nc_0, nc_1, nc_2, nc_3, nc_4, not_true_eq_false, not_false_eq_true, isN, List.length_cons, List.length_nil, Nat.zero_add, Nat.reduceAdd, List.mem_cons, List.not_mem_nil, decide_eq_true_eq, Bool.not_eq_true', decide_eq_false_iff_not, Bool.not_true, Bool.not_false, Bool.false_eq_true, if_true, if_false, true_and, and_true, or_false, or_true, true_or, reduceCtorEq, Nat.reduceEqDiff, and_self, decide_true, decide_false, Int.reduceLT, Int.reduceLE, Int.reduceEq, Int.reduceToNat, Int.reducePow, Int.reduceAdd, Int.reduceSub, Int.reduceMul, Int.reduceNeg, Int.reduceMod, Int.reduceDiv, Nat.reduceLeDiff, Nat.reduceLT, false_or, or_self, and_false, false_and]
  refine Rt_mono (one_spec hd (by omega) (by simp) (by simp)) ?_
  rintro _ _ ⟨d, es1, hm, rfl, rfl, he1⟩
  have hd : ∃ l : Int, d = .int l ∧ 1 ≤ l ∧ l ≤ 1000000 := by
    simp only [List.mem_cons, List.not_mem_nil, or_false] at hm
    rcases hm with rfl | rfl | rfl | rfl <;> exact ⟨_, rfl, by omega, by omega⟩
  obtain ⟨t, rfl, t0, t1⟩ := hd
  simp -implicitDefEqProofs only [if_true, ↓Ok_ok, ↓Ok_bind, ↓Ok_seq, ↓thenS_nx, ↓thenS_rt, ↓thenS_bk, ↓thenS_ct, ↓Ok_sIf, ↓Ok_pass, ↓Ok_ret, ↓Ok_setk, ↓Ok_park, ↓Ok_par3k, ↓Ok_drop, ↓Ok_for, ↓Ok_while, ↓Ok_unpk, ↓Ok_callk, ↓Ok_tryC, ↓Tr_x, ↓Tr_r, ↓nmk_s, ↓muk_n, ↓muk_c, ↓mu2_s, ↓mu2_v, ↓mu2_o, ↓zrk_n, ↓zrk_c, ↓rs_h, ↓rs_v, ↓rs_o, hd_v, hd_o, hd_u, mh_n, mh_c, ↓Rt_fnk,
  ↓sg_z, ↓sg_s, ↓sw_z, ↓sw_s, ↓td_val, ↓td_ow, ↓Ok_eLit, ↓kp_val, ↓kp_ow, ↓Ok_eV, ↓Ok_op1e, ↓Ok_op1v, ↓Ok_op2ee, ↓Ok_op2ve, ↓Ok_op2ev, ↓Ok_op2vv, ↓op_add, ↓op_addL, ↓op_addT, ↓op_addI, ↓op_subI, ↓op_addB, ↓op_subB, ↓op_sub, ↓op_mul, ↓op_mod, ↓op_div, ↓op_pow, ↓op_lt, ↓op_le, ↓op_gt, ↓op_ge, ↓op_eqI, ↓op_neI, ↓op_neg, ↓op_isN, ↓op_notN, ↓op_lenL, ↓op_lenT,
  ↓op_isi_i, ↓op_isi_b, ↓op_isi_l, ↓op_isi_t, ↓op_isi_n, ↓op_isi_s, ↓op_abs, ↓op_max2, ↓op_min2, ↓op_tupL, ↓op_tupT, ↓op_lstL, ↓op_lstT, ↓ix_0, ↓ix_1, ↓ix_2, ↓ix_3, ↓tx_0, ↓tx_1, ↓tx_2, ↓tx_3, ↓Ok_datum, ↓Ok_evL0, ↓Ok_evLc, ↓Ok_eTup, ↓Ok_eLst, ↓bk_b, ↓Ok_tB, ↓Ok_eB, ↓Ok_tNot, ↓Ok_tAnd, ↓Ok_tOr, ↓Ok_eAnd, ↓Ok_eOr, ↓Ok_eIf, ↓fk_i, ↓fk_b, ↓fk_n, ↓Ok_evSe, ↓Ok_evSv, ↓ck2_b, ↓Ok_eChain,
  ↓pk_n, ↓pk_t, ↓pk_l, ↓pks_n, ↓pks_c, ↓vk_val, ↓vk_ow, ↓rvk_val, ↓rvk_ow, ↓Ok_retV, ↓augk_val, ↓Ok_augk, ↓nk_i, ↓Ok_setIx, ↓ixk_0, ↓ixk_1, ↓ixk_2, ↓apk_ow, ↓owk_ow, ↓Ok_app, ↓ak_n, ↓ak_d, ↓ak_b, ↓gk_n, ↓gk_l, ↓gk_r, ↓zk_n, ↓zk_l, ↓zk_r, ↓sgm_z, ↓sgm_s, ↓mk2_v, ↓mk2_o, ↓ik_z, ↓ik_n, ↓ik_s, ↓uk_z, ↓uk_s, ↓rtk_rt, ↓rtk_nx, ↓nok_n, ↓nok_v, ↓nok_o,
  ↓afk_nx, ↓afk_ct, ↓afk_bk, ↓afk_rt, ↓dk_l, ↓dk_t, ↓Ok_evPn, ↓Ok_evPs, ↓Ok_cutek, ↓Ok_cutv, ↓op_cutL, ↓op_cutT, ↓Ok_wSeq, ↓rk_i, ↓Ok_wRng1, ↓Ok_wRng2, ↓Ok_wEnum, ↓Ok_wZip2, ↓Ok_wZip3, ↓Ok_wN, ↓wk_n, ↓wk_c, ↓op_isB, ↓op_isNB, ↓dkk_d, ↓vk_dki, ↓lkk_s, ↓Ok_newK, ↓Ok_dlen, ↓Ok_dsorted, ↓Ok_dget, ↓Ok_dgetD, ↓Ok_dput,
  okArg_v, okArg_o, ↓Ok_tYes, nc_0, nc_1, nc_2, nc_3, nc_4, not_true_eq_false, not_false_eq_true, isN, List.length_cons, List.length_nil, Nat.zero_add, Nat.reduceAdd, List.mem_cons, List.not_mem_nil, decide_eq_true_eq, Bool.not_eq_true', decide_eq_false_iff_not, Bool.not_true, Bool.not_false, Bool.false_eq_true, if_true, if_false, true_and, and_true, or_false, or_true, true_or, reduceCtorEq, Nat.reduceEqDiff, and_self, decide_true, decide_false, Int.reduceLT, Int.reduceLE, Int.reduceEq, Int.reduceToNat, Int.reducePow, Int.reduceAdd, Int.reduceSub, Int.reduceMul, Int.reduceNeg, Int.reduceMod, Int.reduceDiv, Nat.reduceLeDiff, Nat.reduceLT, false_or, or_self, and_false, false_and]
  refine Rt_mono (pick_spec he1 (by omega) (by omega) (by omega)) ?_
  rintro _ _ ⟨r, es2, rfl, rfl, r0, r1, he2⟩
  simp -implicitDefEqProofs only [if_true, ↓Ok_ok, ↓Ok_bind, ↓Ok_seq, ↓thenS_nx, ↓thenS_rt, ↓thenS_bk, ↓thenS_ct, ↓Ok_sIf, ↓Ok_pass, ↓Ok_ret, ↓Ok_setk, ↓Ok_park, ↓Ok_par3k, ↓Ok_drop, ↓Ok_for, ↓Ok_while, ↓Ok_unpk, ↓Ok_callk, ↓Ok_tryC, ↓Tr_x, ↓Tr_r, ↓nmk_s, ↓muk_n, ↓muk_c, ↓mu2_s, ↓mu2_v, ↓mu2_o, ↓zrk_n, ↓zrk_c, ↓rs_h, ↓rs_v, ↓rs_o, hd_v, hd_o, hd_u, mh_n, mh_c, ↓Rt_fnk,
  ↓sg_z, ↓sg_s, ↓sw_z, ↓sw_s, ↓td_val, ↓td_ow, ↓Ok_eLit, ↓kp_val, ↓kp_ow, ↓Ok_eV, ↓Ok_op1e, ↓Ok_op1v, ↓Ok_op2ee, ↓Ok_op2ve, ↓Ok_op2ev, ↓Ok_op2vv, ↓op_add, ↓op_addL, ↓op_addT, ↓op_addI, ↓op_subI, ↓op_addB, ↓op_subB, ↓op_sub, ↓op_mul, ↓op_mod, ↓op_div, ↓op_pow, ↓op_lt, ↓op_le, ↓op_gt, ↓op_ge, ↓op_eqI, ↓op_neI, ↓op_neg, ↓op_isN, ↓op_notN, ↓op_lenL, ↓op_lenT,
  ↓op_isi_i, ↓op_isi_b, ↓op_isi_l, ↓op_isi_t, ↓op_isi_n, ↓op_isi_s, ↓op_abs, ↓op_max2, ↓op_min2, ↓op_tupL, ↓op_tupT, ↓op_lstL, ↓op_lstT, ↓ix_0, ↓ix_1, ↓ix_2, ↓ix_3, ↓tx_0, ↓tx_1, ↓tx_2, ↓tx_3, ↓Ok_datum, ↓Ok_evL0, ↓Ok_evLc, ↓Ok_eTup, ↓Ok_eLst, ↓bk_b, ↓Ok_tB, ↓Ok_eB, ↓Ok_tNot, ↓Ok_tAnd, ↓Ok_tOr, ↓Ok_eAnd, ↓Ok_eOr, ↓Ok_eIf, ↓fk_i, ↓fk_b, ↓fk_n, ↓Ok_evSe, ↓Ok_evSv, ↓ck2_b, ↓Ok_eChain,
  ↓pk_n, ↓pk_t, ↓pk_l, ↓pks_n, ↓pks_c, ↓vk_val, ↓vk_ow, ↓rvk_val, ↓rvk_ow, ↓Ok_retV, ↓augk_val, ↓Ok_augk, ↓nk_i, ↓Ok_setIx, ↓ixk_0, ↓ixk_1, ↓ixk_2, ↓apk_ow, ↓owk_ow, ↓Ok_app, ↓ak_n, ↓ak_d, ↓ak_b, ↓gk_n, ↓gk_l, ↓gk_r, ↓zk_n, ↓zk_l, ↓zk_r, ↓sgm_z, ↓sgm_s, ↓mk2_v, ↓mk2_o, ↓ik_z, ↓ik_n, ↓ik_s, ↓uk_z, ↓uk_s, ↓rtk_rt, ↓rtk_nx, ↓nok_n, ↓nok_v, ↓nok_o,
  ↓afk_nx, ↓afk_ct, ↓afk_bk, ↓afk_rt, ↓dk_l, ↓dk_t, ↓Ok_evPn, ↓Ok_evPs, ↓Ok_cutek, ↓Ok_cutv, ↓op_cutL, ↓op_cutT, ↓Ok_wSeq, ↓rk_i, ↓Ok_wRng1, ↓Ok_wRng2, ↓Ok_wEnum, ↓Ok_wZip2, ↓Ok_wZip3, ↓Ok_wN, ↓wk_n, ↓wk_c, ↓op_isB, ↓op_isNB, ↓dkk_d, ↓vk_dki, ↓lkk_s, ↓Ok_newK, ↓Ok_dlen, ↓Ok_dsorted, ↓Ok_dget, ↓Ok_dgetD, ↓Ok_dput,
  okArg_v, okArg_o, ↓Ok_tYes, nc_0, nc_1, nc_2, nc_3, nc_4, not_true_eq_false, not_false_eq_true, isN, List.length_cons, List.length_nil, Nat.zero_add, Nat.reduceAdd, List.mem_cons, List.not_mem_nil, decide_eq_true_eq, Bool.not_eq_true', decide_eq_false_iff_not, Bool.not_true, Bool.not_false, Bool.false_eq_true, if_true, if_false, true_and, and_true, or_false, or_true, true_or, reduceCtorEq, Nat.reduceEqDiff, and_self, decide_true, decide_false, Int.reduceLT, Int.reduceLE, Int.reduceEq, Int.reduceToNat, Int.reducePow, Int.reduceAdd, Int.reduceSub, Int.reduceMul, Int.reduceNeg, Int.reduceMod, Int.reduceDiv, Nat.reduceLeDiff, Nat.reduceLT, false_or, or_self, and_false, false_and]
  refine ⟨⟨by omega, by omega, by omega⟩, for_ix _ (fun i S => ∃ (es : List D) (x : Int) (ns : List Int) (x5 x6 : Sv), Deck (n + 2 + 2 * i) es ∧ (0 ≤ x ∧ x ≤ 1000000) ∧ ns.length = i ∧ (∀ x ∈ ns, 0 ≤ x ∧ x ≤ 1000000) ∧ S = [.ow es, .val (.int m), .val (.int t), .val (.int x), .ow (ns.map PyData.int), x5, x6])
    (fun S ⟨es, x, ns, x5, x6, he, hx, hl, hns, hS⟩ => ?e) (fun i d S hi ⟨es, x, ns, x5, x6, he, hx, hl, hns, hS⟩ => ?s) _ ⟨es2, 0, [], _, _, he2.mono (by omega), by decide, rfl, by simp, rfl⟩⟩
  case e =>
    subst hS
    rw [numsD_len] at hl he
    simp -implicitDefEqProofs only [if_true, ↓Ok_ok, ↓Ok_bind, ↓Ok_seq, ↓thenS_nx, ↓thenS_rt, ↓thenS_bk, ↓thenS_ct, ↓Ok_sIf, ↓Ok_pass, ↓Ok_ret, ↓Ok_setk, ↓Ok_park, ↓Ok_par3k, ↓Ok_drop, ↓Ok_for, ↓Ok_while, ↓Ok_unpk, ↓Ok_callk, ↓Ok_tryC, ↓Tr_x, ↓Tr_r, ↓nmk_s, ↓muk_n, ↓muk_c, ↓mu2_s, ↓mu2_v, ↓mu2_o, ↓zrk_n, ↓zrk_c, ↓rs_h, ↓rs_v, ↓rs_o, hd_v, hd_o, hd_u, mh_n, mh_c, ↓Rt_fnk,
  ↓sg_z, ↓sg_s, ↓sw_z, ↓sw_s, ↓td_val, ↓td_ow, ↓Ok_eLit, ↓kp_val, ↓kp_ow, ↓Ok_eV, ↓Ok_op1e, ↓Ok_op1v, ↓Ok_op2ee, ↓Ok_op2ve, ↓Ok_op2ev, ↓Ok_op2vv, ↓op_add, ↓op_addL, ↓op_addT, ↓op_addI, ↓op_subI, ↓op_addB, ↓op_subB, ↓op_sub, ↓op_mul, ↓op_mod, ↓op_div, ↓op_pow, ↓op_lt, ↓op_le, ↓op_gt, ↓op_ge, ↓op_eqI, ↓op_neI, ↓op_neg, ↓op_isN, ↓op_notN, ↓op_lenL, ↓op_lenT,
  ↓op_isi_i, ↓op_isi_b, ↓op_isi_l, ↓op_isi_t, ↓op_isi_n, ↓op_isi_s, ↓op_abs, ↓op_max2, ↓op_min2, ↓op_tupL, ↓op_tupT, ↓op_lstL, ↓op_lstT, ↓ix_0, ↓ix_1, ↓ix_2, ↓ix_3, ↓tx_0, ↓tx_1, ↓tx_2, ↓tx_3, ↓Ok_datum, ↓Ok_evL0, ↓Ok_evLc, ↓Ok_eTup, ↓Ok_eLst, ↓bk_b, ↓Ok_tB, ↓Ok_eB, ↓Ok_tNot, ↓Ok_tAnd, ↓Ok_tOr, ↓Ok_eAnd, ↓Ok_eOr, ↓Ok_eIf, ↓fk_i, ↓fk_b, ↓fk_n, ↓Ok_evSe, ↓Ok_evSv, ↓ck2_b, ↓Ok_eChain,
  ↓pk_n, ↓pk_t, ↓pk_l, ↓pks_n, ↓pks_c, ↓vk_val, ↓vk_ow, ↓rvk_val, ↓rvk_ow, ↓Ok_retV, ↓augk_val, ↓Ok_augk, ↓nk_i, ↓Ok_setIx, ↓ixk_0, ↓ixk_1, ↓ixk_2, ↓apk_ow, ↓owk_ow, ↓Ok_app, ↓ak_n, ↓ak_d, ↓ak_b, ↓gk_n, ↓gk_l, ↓gk_r, ↓zk_n, ↓zk_l, ↓zk_r, ↓sgm_z, ↓sgm_s, ↓mk2_v, ↓mk2_o, ↓ik_z, ↓ik_n, ↓ik_s, ↓uk_z, ↓uk_s, ↓rtk_rt, ↓rtk_nx, ↓nok_n, ↓nok_v, ↓nok_o,
  ↓afk_nx, ↓afk_ct, ↓afk_bk, ↓afk_rt, ↓dk_l, ↓dk_t, ↓Ok_evPn, ↓Ok_evPs, ↓Ok_cutek, ↓Ok_cutv, ↓op_cutL, ↓op_cutT, ↓Ok_wSeq, ↓rk_i, ↓Ok_wRng1, ↓Ok_wRng2, ↓Ok_wEnum, ↓Ok_wZip2, ↓Ok_wZip3, ↓Ok_wN, ↓wk_n, ↓wk_c, ↓op_isB, ↓op_isNB, ↓dkk_d, ↓vk_dki, ↓lkk_s, ↓Ok_newK, ↓Ok_dlen, ↓Ok_dsorted, ↓Ok_dget, ↓Ok_dgetD, ↓Ok_dput,
  okArg_v, okArg_o, ↓Ok_tYes, nc_0, nc_1, nc_2, nc_3, nc_4, not_true_eq_false, not_false_eq_true, isN, List.length_cons, List.length_nil, Nat.zero_add, Nat.reduceAdd, List.mem_cons, List.not_mem_nil, decide_eq_true_eq, Bool.not_eq_true', decide_eq_false_iff_not, Bool.not_true, Bool.not_false, Bool.false_eq_true, if_true, if_false, true_and, and_true, or_false, or_true, true_or, reduceCtorEq, Nat.reduceEqDiff, and_self, decide_true, decide_false, Int.reduceLT, Int.reduceLE, Int.reduceEq, Int.reduceToNat, Int.reducePow, Int.reduceAdd, Int.reduceSub, Int.reduceMul, Int.reduceNeg, Int.reduceMod, Int.reduceDiv, Nat.reduceLeDiff, Nat.reduceLT, false_or, or_self, and_false, false_and]
    exact ⟨ns, es, rfl, rfl, by omega, hns, he.mono (by omega)⟩
  case s =>
    obtain ⟨hi, rfl⟩ := numsD_get hi
    subst hS
    have step : ∀ (es : List D) (y : Int) (x6 : Sv), Deck (n + 2 + 2 * i + 2) es → (0 ≤ y ∧ y ≤ 1000000) → ∃ (es' : List D) (x' : Int) (ns' : List Int) (x5 x6' : Sv), Deck (n + 2 + 2 * (i + 1 : Nat)) es' ∧ (0 ≤ x' ∧ x' ≤ 1000000) ∧ ns'.length = i + 1 ∧ (∀ x ∈ ns', 0 ≤ x ∧ x ≤ 1000000) ∧
        ([.ow es, .val (.int m), .val (.int t), .val (.int y), .ow (ns.map PyData.int ++ [.int y]), .val (.int (0 + (i : Int))), x6] : Sl) = [.ow es', .val (.int m), .val (.int t), .val (.int x'), .ow (ns'.map PyData.int), x5, x6'] := fun es y x6 he hy =>
      ⟨es, y, ns ++ [y], _, _, he.mono (by omega), hy, by simp [hl], fun z hz => (List.mem_append.mp hz).elim (hns z) fun q => by rw [List.mem_singleton.mp q]; exact hy, by rw [List.map_append]; rfl⟩
    unfold B_law_values_f1
    simp -implicitDefEqProofs only [if_true, ↓Ok_ok, ↓Ok_bind, ↓Ok_seq, ↓thenS_nx, ↓thenS_rt, ↓thenS_bk, ↓thenS_ct, ↓Ok_sIf, ↓Ok_pass, ↓Ok_ret, ↓Ok_setk, ↓Ok_park, ↓Ok_par3k, ↓Ok_drop, ↓Ok_for, ↓Ok_while, ↓Ok_unpk, ↓Ok_callk, ↓Ok_tryC, ↓Tr_x, ↓Tr_r, ↓nmk_s, ↓muk_n, ↓muk_c, ↓mu2_s, ↓mu2_v, ↓mu2_o, ↓zrk_n, ↓zrk_c, ↓rs_h, ↓rs_v, ↓rs_o, hd_v, hd_o, hd_u, mh_n, mh_c, ↓Rt_fnk,
  ↓sg_z, ↓sg_s, ↓sw_z, ↓sw_s, ↓td_val, ↓td_ow, ↓Ok_eLit, ↓kp_val, ↓kp_ow, ↓Ok_eV, ↓Ok_op1e, ↓Ok_op1v, ↓Ok_op2ee, ↓Ok_op2ve, ↓Ok_op2ev, ↓Ok_op2vv, ↓op_add, ↓op_addL, ↓op_addT, ↓op_addI, ↓op_subI, ↓op_addB, ↓op_subB, ↓op_sub, ↓op_mul, ↓op_mod, ↓op_div, ↓op_pow, ↓op_lt, ↓op_le, ↓op_gt, ↓op_ge, ↓op_eqI, ↓op_neI, ↓op_neg, ↓op_isN, ↓op_notN, ↓op_lenL, ↓op_lenT,
  ↓op_isi_i, ↓op_isi_b, ↓op_isi_l, ↓op_isi_t, ↓op_isi_n, ↓op_isi_s, ↓op_abs, ↓op_max2, ↓op_min2, ↓op_tupL, ↓op_tupT, ↓op_lstL, ↓op_lstT, ↓ix_0, ↓ix_1, ↓ix_2, ↓ix_3, ↓tx_0, ↓tx_1, ↓tx_2, ↓tx_3, ↓Ok_datum, ↓Ok_evL0, ↓Ok_evLc, ↓Ok_eTup, ↓Ok_eLst, ↓bk_b, ↓Ok_tB, ↓Ok_eB, ↓Ok_tNot, ↓Ok_tAnd, ↓Ok_tOr, ↓Ok_eAnd, ↓Ok_eOr, ↓Ok_eIf, ↓fk_i, ↓fk_b, ↓fk_n, ↓Ok_evSe, ↓Ok_evSv, ↓ck2_b, ↓Ok_eChain,
  ↓pk_n, ↓pk_t, ↓pk_l, ↓pks_n, ↓pks_c, ↓vk_val, ↓vk_ow, ↓rvk_val, ↓rvk_ow, ↓Ok_retV, ↓augk_val, ↓Ok_augk, ↓nk_i, ↓Ok_setIx, ↓ixk_0, ↓ixk_1, ↓ixk_2, ↓apk_ow, ↓owk_ow, ↓Ok_app, ↓ak_n, ↓ak_d, ↓ak_b, ↓gk_n, ↓gk_l, ↓gk_r, ↓zk_n, ↓zk_l, ↓zk_r, ↓sgm_z, ↓sgm_s, ↓mk2_v, ↓mk2_o, ↓ik_z, ↓ik_n, ↓ik_s, ↓uk_z, ↓uk_s, ↓rtk_rt, ↓rtk_nx, ↓nok_n, ↓nok_v, ↓nok_o,
  ↓afk_nx, ↓afk_ct, ↓afk_bk, ↓afk_rt, ↓dk_l, ↓dk_t, ↓Ok_evPn, ↓Ok_evPs, ↓Ok_cutek, ↓Ok_cutv, ↓op_cutL, ↓op_cutT, ↓Ok_wSeq, ↓rk_i, ↓Ok_wRng1, ↓Ok_wRng2, ↓Ok_wEnum, ↓Ok_wZip2, ↓Ok_wZip3, ↓Ok_wN, ↓wk_n, ↓wk_c, ↓op_isB, ↓op_isNB, ↓dkk_d, ↓vk_dki, ↓lkk_s, ↓Ok_newK, ↓Ok_dlen, ↓Ok_dsorted, ↓Ok_dget, ↓Ok_dgetD, ↓Ok_dput,
  okArg_v, okArg_o, ↓Ok_tYes, nc_0, nc_1, nc_2, nc_3, nc_4, not_true_eq_false, not_false_eq_true, isN, List.length_cons, List.length_nil, Nat.zero_add, Nat.reduceAdd, List.mem_cons, List.not_mem_nil, decide_eq_true_eq, Bool.not_eq_true', decide_eq_false_iff_not, Bool.not_true, Bool.not_false, Bool.false_eq_true, if_true, if_false, true_and, and_true, or_false, or_true, true_or, reduceCtorEq, Nat.reduceEqDiff, and_self, decide_true, decide_false, Int.reduceLT, Int.reduceLE, Int.reduceEq, Int.reduceToNat, Int.reducePow, Int.reduceAdd, Int.reduceSub, Int.reduceMul, Int.reduceNeg, Int.reduceMod, Int.reduceDiv, Nat.reduceLeDiff, Nat.reduceLT, false_or, or_self, and_false, false_and]
    refine Rt_mono (pick_spec he (by omega) (by decide) (by decide)) ?_
    rintro _ _ ⟨w, es3, rfl, rfl, w0, w1, he3⟩
    have hlen : (ns.map PyData.int).length < 16777216 := by rw [List.length_map]; omega
    simp -implicitDefEqProofs only [if_true, ↓Ok_ok, ↓Ok_bind, ↓Ok_seq, ↓thenS_nx, ↓thenS_rt, ↓thenS_bk, ↓thenS_ct, ↓Ok_sIf, ↓Ok_pass, ↓Ok_ret, ↓Ok_setk, ↓Ok_park, ↓Ok_par3k, ↓Ok_drop, ↓Ok_for, ↓Ok_while, ↓Ok_unpk, ↓Ok_callk, ↓Ok_tryC, ↓Tr_x, ↓Tr_r, ↓nmk_s, ↓muk_n, ↓muk_c, ↓mu2_s, ↓mu2_v, ↓mu2_o, ↓zrk_n, ↓zrk_c, ↓rs_h, ↓rs_v, ↓rs_o, hd_v, hd_o, hd_u, mh_n, mh_c, ↓Rt_fnk,
  ↓sg_z, ↓sg_s, ↓sw_z, ↓sw_s, ↓td_val, ↓td_ow, ↓Ok_eLit, ↓kp_val, ↓kp_ow, ↓Ok_eV, ↓Ok_op1e, ↓Ok_op1v, ↓Ok_op2ee, ↓Ok_op2ve, ↓Ok_op2ev, ↓Ok_op2vv, ↓op_add, ↓op_addL, ↓op_addT, ↓op_addI, ↓op_subI, ↓op_addB, ↓op_subB, ↓op_sub, ↓op_mul, ↓op_mod, ↓op_div, ↓op_pow, ↓op_lt, ↓op_le, ↓op_gt, ↓op_ge, ↓op_eqI, ↓op_neI, ↓op_neg, ↓op_isN, ↓op_notN, ↓op_lenL, ↓op_lenT,
  ↓op_isi_i, ↓op_isi_b, ↓op_isi_l, ↓op_isi_t, ↓op_isi_n, ↓op_isi_s, ↓op_abs, ↓op_max2, ↓op_min2, ↓op_tupL, ↓op_tupT, ↓op_lstL, ↓op_lstT, ↓ix_0, ↓ix_1, ↓ix_2, ↓ix_3, ↓tx_0, ↓tx_1, ↓tx_2, ↓tx_3, ↓Ok_datum, ↓Ok_evL0, ↓Ok_evLc, ↓Ok_eTup, ↓Ok_eLst, ↓bk_b, ↓Ok_tB, ↓Ok_eB, ↓Ok_tNot, ↓Ok_tAnd, ↓Ok_tOr, ↓Ok_eAnd, ↓Ok_eOr, ↓Ok_eIf, ↓fk_i, ↓fk_b, ↓fk_n, ↓Ok_evSe, ↓Ok_evSv, ↓ck2_b, ↓Ok_eChain,
  ↓pk_n, ↓pk_t, ↓pk_l, ↓pks_n, ↓pks_c, ↓vk_val, ↓vk_ow, ↓rvk_val, ↓rvk_ow, ↓Ok_retV, ↓augk_val, ↓Ok_augk, ↓nk_i, ↓Ok_setIx, ↓ixk_0, ↓ixk_1, ↓ixk_2, ↓apk_ow, ↓owk_ow, ↓Ok_app, ↓ak_n, ↓ak_d, ↓ak_b, ↓gk_n, ↓gk_l, ↓gk_r, ↓zk_n, ↓zk_l, ↓zk_r, ↓sgm_z, ↓sgm_s, ↓mk2_v, ↓mk2_o, ↓ik_z, ↓ik_n, ↓ik_s, ↓uk_z, ↓uk_s, ↓rtk_rt, ↓rtk_nx, ↓nok_n, ↓nok_v, ↓nok_o,
  ↓afk_nx, ↓afk_ct, ↓afk_bk, ↓afk_rt, ↓dk_l, ↓dk_t, ↓Ok_evPn, ↓Ok_evPs, ↓Ok_cutek, ↓Ok_cutv, ↓op_cutL, ↓op_cutT, ↓Ok_wSeq, ↓rk_i, ↓Ok_wRng1, ↓Ok_wRng2, ↓Ok_wEnum, ↓Ok_wZip2, ↓Ok_wZip3, ↓Ok_wN, ↓wk_n, ↓wk_c, ↓op_isB, ↓op_isNB, ↓dkk_d, ↓vk_dki, ↓lkk_s, ↓Ok_newK, ↓Ok_dlen, ↓Ok_dsorted, ↓Ok_dget, ↓Ok_dgetD, ↓Ok_dput,
  okArg_v, okArg_o, ↓Ok_tYes, nc_0, nc_1, nc_2, nc_3, nc_4, not_true_eq_false, not_false_eq_true, isN, List.length_cons, List.length_nil, Nat.zero_add, Nat.reduceAdd, List.mem_cons, List.not_mem_nil, decide_eq_true_eq, Bool.not_eq_true', decide_eq_false_iff_not, Bool.not_true, Bool.not_false, Bool.false_eq_true, if_true, if_false, true_and, and_true, or_false, or_true, true_or, reduceCtorEq, Nat.reduceEqDiff, and_self, decide_true, decide_false, Int.reduceLT, Int.reduceLE, Int.reduceEq, Int.reduceToNat, Int.reducePow, Int.reduceAdd, Int.reduceSub, Int.reduceMul, Int.reduceNeg, Int.reduceMod, Int.reduceDiv, Nat.reduceLeDiff, Nat.reduceLT, false_or, or_self, and_false, false_and]
    refine ifc (fun _ => ?_) fun _ => ifc (fun _ => ?_) fun _ => ifc (fun _ => ?_) fun _ => ?_
    · refine Rt_mono (pick_spec he3 (by omega) (by omega) (by omega)) ?_
      rintro _ _ ⟨u, es4, rfl, rfl, u0, u1, he4⟩
      simp -implicitDefEqProofs only [if_true, ↓Ok_ok, ↓Ok_bind, ↓Ok_seq, ↓thenS_nx, ↓thenS_rt, ↓thenS_bk, ↓thenS_ct, ↓Ok_sIf, ↓Ok_pass, ↓Ok_ret, ↓Ok_setk, ↓Ok_park, ↓Ok_par3k, ↓Ok_drop, ↓Ok_for, ↓Ok_while, ↓Ok_unpk, ↓Ok_callk, ↓Ok_tryC, ↓Tr_x, ↓Tr_r, ↓nmk_s, ↓muk_n, ↓muk_c, ↓mu2_s, ↓mu2_v, ↓mu2_o, ↓zrk_n, ↓zrk_c, ↓rs_h, ↓rs_v, ↓rs_o, hd_v, hd_o, hd_u, mh_n, mh_c, ↓Rt_fnk,
  ↓sg_z, ↓sg_s, ↓sw_z, ↓sw_s, ↓td_val, ↓td_ow, ↓Ok_eLit, ↓kp_val, ↓kp_ow, ↓Ok_eV, ↓Ok_op1e, ↓Ok_op1v, ↓Ok_op2ee, ↓Ok_op2ve, ↓Ok_op2ev, ↓Ok_op2vv, ↓op_add, ↓op_addL, ↓op_addT, ↓op_addI, ↓op_subI, ↓op_addB, ↓op_subB, ↓op_sub, ↓op_mul, ↓op_mod, ↓op_div, ↓op_pow, ↓op_lt, ↓op_le, ↓op_gt, ↓op_ge, ↓op_eqI, ↓op_neI, ↓op_neg, ↓op_isN, ↓op_notN, ↓op_lenL, ↓op_lenT,
  ↓op_isi_i, ↓op_isi_b, ↓op_isi_l, ↓op_isi_t, ↓op_isi_n, ↓op_isi_s, ↓op_abs, ↓op_max2, ↓op_min2, ↓op_tupL, ↓op_tupT, ↓op_lstL, ↓op_lstT, ↓ix_0, ↓ix_1, ↓ix_2, ↓ix_3, ↓tx_0, ↓tx_1, ↓tx_2, ↓tx_3, ↓Ok_datum, ↓Ok_evL0, ↓Ok_evLc, ↓Ok_eTup, ↓Ok_eLst, ↓bk_b, ↓Ok_tB, ↓Ok_eB, ↓Ok_tNot, ↓Ok_tAnd, ↓Ok_tOr, ↓Ok_eAnd, ↓Ok_eOr, ↓Ok_eIf, ↓fk_i, ↓fk_b, ↓fk_n, ↓Ok_evSe, ↓Ok_evSv, ↓ck2_b, ↓Ok_eChain,
  ↓pk_n, ↓pk_t, ↓pk_l, ↓pks_n, ↓pks_c, ↓vk_val, ↓vk_ow, ↓rvk_val, ↓rvk_ow, ↓Ok_retV, ↓augk_val, ↓Ok_augk, ↓nk_i, ↓Ok_setIx, ↓ixk_0, ↓ixk_1, ↓ixk_2, ↓apk_ow, ↓owk_ow, ↓Ok_app, ↓ak_n, ↓ak_d, ↓ak_b, ↓gk_n, ↓gk_l, ↓gk_r, ↓zk_n, ↓zk_l, ↓zk_r, ↓sgm_z, ↓sgm_s, ↓mk2_v, ↓mk2_o, ↓ik_z, ↓ik_n, ↓ik_s, ↓uk_z, ↓uk_s, ↓rtk_rt, ↓rtk_nx, ↓nok_n, ↓nok_v, ↓nok_o,
  ↓afk_nx, ↓afk_ct, ↓afk_bk, ↓afk_rt, ↓dk_l, ↓dk_t, ↓Ok_evPn, ↓Ok_evPs, ↓Ok_cutek, ↓Ok_cutv, ↓op_cutL, ↓op_cutT, ↓Ok_wSeq, ↓rk_i, ↓Ok_wRng1, ↓Ok_wRng2, ↓Ok_wEnum, ↓Ok_wZip2, ↓Ok_wZip3, ↓Ok_wN, ↓wk_n, ↓wk_c, ↓op_isB, ↓op_isNB, ↓dkk_d, ↓vk_dki, ↓lkk_s, ↓Ok_newK, ↓Ok_dlen, ↓Ok_dsorted, ↓Ok_dget, ↓Ok_dgetD, ↓Ok_dput,
  okArg_v, okArg_o, ↓Ok_tYes, nc_0, nc_1, nc_2, nc_3, nc_4, not_true_eq_false, not_false_eq_true, isN, List.length_cons, List.length_nil, Nat.zero_add, Nat.reduceAdd, List.mem_cons, List.not_mem_nil, decide_eq_true_eq, Bool.not_eq_true', decide_eq_false_iff_not, Bool.not_true, Bool.not_false, Bool.false_eq_true, if_true, if_false, true_and, and_true, or_false, or_true, true_or, reduceCtorEq, Nat.reduceEqDiff, and_self, decide_true, decide_false, Int.reduceLT, Int.reduceLE, Int.reduceEq, Int.reduceToNat, Int.reducePow, Int.reduceAdd, Int.reduceSub, Int.reduceMul, Int.reduceNeg, Int.reduceMod, Int.reduceDiv, Nat.reduceLeDiff, Nat.reduceLT, false_or, or_self, and_false, false_and]
      refine ⟨hlen, step _ _ _ (he4.mono (by omega)) ?_⟩
      by_cases q : x + u < 1000000
      · rw [if_pos q]; omega
      · rw [if_neg q]; omega
    · refine Rt_mono (pick_spec he3 (by omega) (by omega) (by omega)) ?_
      rintro _ _ ⟨u, es4, rfl, rfl, u0, u1, he4⟩
      simp -implicitDefEqProofs only [if_true, ↓Ok_ok, ↓Ok_bind, ↓Ok_seq, ↓thenS_nx, ↓thenS_rt, ↓thenS_bk, ↓thenS_ct, ↓Ok_sIf, ↓Ok_pass, ↓Ok_ret, ↓Ok_setk, ↓Ok_park, ↓Ok_par3k, ↓Ok_drop, ↓Ok_for, ↓Ok_while, ↓Ok_unpk, ↓Ok_callk, ↓Ok_tryC, ↓Tr_x, ↓Tr_r, ↓nmk_s, ↓muk_n, ↓muk_c, ↓mu2_s, ↓mu2_v, ↓mu2_o, ↓zrk_n, ↓zrk_c, ↓rs_h, ↓rs_v, ↓rs_o, hd_v, hd_o, hd_u, mh_n, mh_c, ↓Rt_fnk,
  ↓sg_z, ↓sg_s, ↓sw_z, ↓sw_s, ↓td_val, ↓td_ow, ↓Ok_eLit, ↓kp_val, ↓kp_ow, ↓Ok_eV, ↓Ok_op1e, ↓Ok_op1v, ↓Ok_op2ee, ↓Ok_op2ve, ↓Ok_op2ev, ↓Ok_op2vv, ↓op_add, ↓op_addL, ↓op_addT, ↓op_addI, ↓op_subI, ↓op_addB, ↓op_subB, ↓op_sub, ↓op_mul, ↓op_mod, ↓op_div, ↓op_pow, ↓op_lt, ↓op_le, ↓op_gt, ↓op_ge, ↓op_eqI, ↓op_neI, ↓op_neg, ↓op_isN, ↓op_notN, ↓op_lenL, ↓op_lenT,
  ↓op_isi_i, ↓op_isi_b, ↓op_isi_l, ↓op_isi_t, ↓op_isi_n, ↓op_isi_s, ↓op_abs, ↓op_max2, ↓op_min2, ↓op_tupL, ↓op_tupT, ↓op_lstL, ↓op_lstT, ↓ix_0, ↓ix_1, ↓ix_2, ↓ix_3, ↓tx_0, ↓tx_1, ↓tx_2, ↓tx_3, ↓Ok_datum, ↓Ok_evL0, ↓Ok_evLc, ↓Ok_eTup, ↓Ok_eLst, ↓bk_b, ↓Ok_tB, ↓Ok_eB, ↓Ok_tNot, ↓Ok_tAnd, ↓Ok_tOr, ↓Ok_eAnd, ↓Ok_eOr, ↓Ok_eIf, ↓fk_i, ↓fk_b, ↓fk_n, ↓Ok_evSe, ↓Ok_evSv, ↓ck2_b, ↓Ok_eChain,
  ↓pk_n, ↓pk_t, ↓pk_l, ↓pks_n, ↓pks_c, ↓vk_val, ↓vk_ow, ↓rvk_val, ↓rvk_ow, ↓Ok_retV, ↓augk_val, ↓Ok_augk, ↓nk_i, ↓Ok_setIx, ↓ixk_0, ↓ixk_1, ↓ixk_2, ↓apk_ow, ↓owk_ow, ↓Ok_app, ↓ak_n, ↓ak_d, ↓ak_b, ↓gk_n, ↓gk_l, ↓gk_r, ↓zk_n, ↓zk_l, ↓zk_r, ↓sgm_z, ↓sgm_s, ↓mk2_v, ↓mk2_o, ↓ik_z, ↓ik_n, ↓ik_s, ↓uk_z, ↓uk_s, ↓rtk_rt, ↓rtk_nx, ↓nok_n, ↓nok_v, ↓nok_o,
  ↓afk_nx, ↓afk_ct, ↓afk_bk, ↓afk_rt, ↓dk_l, ↓dk_t, ↓Ok_evPn, ↓Ok_evPs, ↓Ok_cutek, ↓Ok_cutv, ↓op_cutL, ↓op_cutT, ↓Ok_wSeq, ↓rk_i, ↓Ok_wRng1, ↓Ok_wRng2, ↓Ok_wEnum, ↓Ok_wZip2, ↓Ok_wZip3, ↓Ok_wN, ↓wk_n, ↓wk_c, ↓op_isB, ↓op_isNB, ↓dkk_d, ↓vk_dki, ↓lkk_s, ↓Ok_newK, ↓Ok_dlen, ↓Ok_dsorted, ↓Ok_dget, ↓Ok_dgetD, ↓Ok_dput,
  okArg_v, okArg_o, ↓Ok_tYes, nc_0, nc_1, nc_2, nc_3, nc_4, not_true_eq_false, not_false_eq_true, isN, List.length_cons, List.length_nil, Nat.zero_add, Nat.reduceAdd, List.mem_cons, List.not_mem_nil, decide_eq_true_eq, Bool.not_eq_true', decide_eq_false_iff_not, Bool.not_true, Bool.not_false, Bool.false_eq_true, if_true, if_false, true_and, and_true, or_false, or_true, true_or, reduceCtorEq, Nat.reduceEqDiff, and_self, decide_true, decide_false, Int.reduceLT, Int.reduceLE, Int.reduceEq, Int.reduceToNat, Int.reducePow, Int.reduceAdd, Int.reduceSub, Int.reduceMul, Int.reduceNeg, Int.reduceMod, Int.reduceDiv, Nat.reduceLeDiff, Nat.reduceLT, false_or, or_self, and_false, false_and]
      exact ⟨hlen, step _ _ _ (he4.mono (by omega)) (by omega)⟩
    · refine Rt_mono (pick_spec he3 (by omega) (by omega) (by omega)) ?_
      rintro _ _ ⟨u, es4, rfl, rfl, u0, u1, he4⟩
      simp -implicitDefEqProofs only [if_true, ↓Ok_ok, ↓Ok_bind, ↓Ok_seq, ↓thenS_nx, ↓thenS_rt, ↓thenS_bk, ↓thenS_ct, ↓Ok_sIf, ↓Ok_pass, ↓Ok_ret, ↓Ok_setk, ↓Ok_park, ↓Ok_par3k, ↓Ok_drop, ↓Ok_for, ↓Ok_while, ↓Ok_unpk, ↓Ok_callk, ↓Ok_tryC, ↓Tr_x, ↓Tr_r, ↓nmk_s, ↓muk_n, ↓muk_c, ↓mu2_s, ↓mu2_v, ↓mu2_o, ↓zrk_n, ↓zrk_c, ↓rs_h, ↓rs_v, ↓rs_o, hd_v, hd_o, hd_u, mh_n, mh_c, ↓Rt_fnk,
  ↓sg_z, ↓sg_s, ↓sw_z, ↓sw_s, ↓td_val, ↓td_ow, ↓Ok_eLit, ↓kp_val, ↓kp_ow, ↓Ok_eV, ↓Ok_op1e, ↓Ok_op1v, ↓Ok_op2ee, ↓Ok_op2ve, ↓Ok_op2ev, ↓Ok_op2vv, ↓op_add, ↓op_addL, ↓op_addT, ↓op_addI, ↓op_subI, ↓op_addB, ↓op_subB, ↓op_sub, ↓op_mul, ↓op_mod, ↓op_div, ↓op_pow, ↓op_lt, ↓op_le, ↓op_gt, ↓op_ge, ↓op_eqI, ↓op_neI, ↓op_neg, ↓op_isN, ↓op_notN, ↓op_lenL, ↓op_lenT,
  ↓op_isi_i, ↓op_isi_b, ↓op_isi_l, ↓op_isi_t, ↓op_isi_n, ↓op_isi_s, ↓op_abs, ↓op_max2, ↓op_min2, ↓op_tupL, ↓op_tupT, ↓op_lstL, ↓op_lstT, ↓ix_0, ↓ix_1, ↓ix_2, ↓ix_3, ↓tx_0, ↓tx_1, ↓tx_2, ↓tx_3, ↓Ok_datum, ↓Ok_evL0, ↓Ok_evLc, ↓Ok_eTup, ↓Ok_eLst, ↓bk_b, ↓Ok_tB, ↓Ok_eB, ↓Ok_tNot, ↓Ok_tAnd, ↓Ok_tOr, ↓Ok_eAnd, ↓Ok_eOr, ↓Ok_eIf, ↓fk_i, ↓fk_b, ↓fk_n, ↓Ok_evSe, ↓Ok_evSv, ↓ck2_b, ↓Ok_eChain,
  ↓pk_n, ↓pk_t, ↓pk_l, ↓pks_n, ↓pks_c, ↓vk_val, ↓vk_ow, ↓rvk_val, ↓rvk_ow, ↓Ok_retV, ↓augk_val, ↓Ok_augk, ↓nk_i, ↓Ok_setIx, ↓ixk_0, ↓ixk_1, ↓ixk_2, ↓apk_ow, ↓owk_ow, ↓Ok_app, ↓ak_n, ↓ak_d, ↓ak_b, ↓gk_n, ↓gk_l, ↓gk_r, ↓zk_n, ↓zk_l, ↓zk_r, ↓sgm_z, ↓sgm_s, ↓mk2_v, ↓mk2_o, ↓ik_z, ↓ik_n, ↓ik_s, ↓uk_z, ↓uk_s, ↓rtk_rt, ↓rtk_nx, ↓nok_n, ↓nok_v, ↓nok_o,
  ↓afk_nx, ↓afk_ct, ↓afk_bk, ↓afk_rt, ↓dk_l, ↓dk_t, ↓Ok_evPn, ↓Ok_evPs, ↓Ok_cutek, ↓Ok_cutv, ↓op_cutL, ↓op_cutT, ↓Ok_wSeq, ↓rk_i, ↓Ok_wRng1, ↓Ok_wRng2, ↓Ok_wEnum, ↓Ok_wZip2, ↓Ok_wZip3, ↓Ok_wN, ↓wk_n, ↓wk_c, ↓op_isB, ↓op_isNB, ↓dkk_d, ↓vk_dki, ↓lkk_s, ↓Ok_newK, ↓Ok_dlen, ↓Ok_dsorted, ↓Ok_dget, ↓Ok_dgetD, ↓Ok_dput,
  okArg_v, okArg_o, ↓Ok_tYes, nc_0, nc_1, nc_2, nc_3, nc_4, not_true_eq_false, not_false_eq_true, isN, List.length_cons, List.length_nil, Nat.zero_add, Nat.reduceAdd, List.mem_cons, List.not_mem_nil, decide_eq_true_eq, Bool.not_eq_true', decide_eq_false_iff_not, Bool.not_true, Bool.not_false, Bool.false_eq_true, if_true, if_false, true_and, and_true, or_false, or_true, true_or, reduceCtorEq, Nat.reduceEqDiff, and_self, decide_true, decide_false, Int.reduceLT, Int.reduceLE, Int.reduceEq, Int.reduceToNat, Int.reducePow, Int.reduceAdd, Int.reduceSub, Int.reduceMul, Int.reduceNeg, Int.reduceMod, Int.reduceDiv, Nat.reduceLeDiff, Nat.reduceLT, false_or, or_self, and_false, false_and]
      exact ⟨hlen, step _ _ _ (he4.mono (by omega)) (by omega)⟩
    · exact ⟨hlen, step _ _ _ (he3.mono (by omega)) hx⟩
end

/-! ### random samples -/
section
open PySem Rc
abbrev Smp := List (Int × Int)
def pqD (q : Int × Int) : D := .tuple [.int q.1, .int q.2]
abbrev smD (s : Smp) : D := .tuple (s.map pqD)
structure Sm (s : Smp) : Prop where
  len : s.length ≤ 40
  at_ : ∀ q ∈ s, (0 ≤ q.1 ∧ q.1 ≤ 1000000000) ∧ 0 ≤ q.2 ∧ q.2 ≤ 1000000
  asc : s.Pairwise fun a b => a.1 < b.1
theorem samples_spec {n m : Int} {ds : List D} (hd : Deck n ds) (hn : n < 800000000) (h0 : 0 ≤ m) (h1 : m ≤ 40) :
    Rt (F_law_samples [.ow ds, .val (.int m)]) fun v outs => ∃ (s : Smp) (es : List D), v = .val (smD s) ∧ outs = [.ow es, .val (.int m)] ∧ Sm s ∧ s.length ≤ m.toNat ∧ Deck (n + 200) es := by
  unfold F_law_samples B_law_samples
  simp -implicitDefEqProofs only [if_true, ↓Ok_ok, ↓Ok_bind, ↓Ok_seq, ↓thenS_nx, ↓thenS_rt, ↓thenS_bk, ↓thenS_ct, ↓Ok_sIf, ↓Ok_pass, ↓Ok_ret, ↓Ok_setk, ↓Ok_park, ↓Ok_par3k, ↓Ok_drop, ↓Ok_for, ↓Ok_while, ↓Ok_unpk, ↓Ok_callk, ↓Ok_tryC, ↓Tr_x, ↓Tr_r, ↓nmk_s, ↓muk_n, ↓muk_c, ↓mu2_s, ↓mu2_v, ↓mu2_o, ↓zrk_n, ↓zrk_c, ↓rs_h, ↓rs_v, ↓rs_o, hd_v, hd_o, hd_u, mh_n, mh_c, ↓Rt_fnk,
  ↓sg_z, ↓sg_s, ↓sw_z, ↓sw_s, ↓td_val, ↓td_ow, ↓Ok_eLit, ↓kp_val, ↓kp_ow, ↓Ok_eV, ↓Ok_op1e, ↓Ok_op1v, ↓Ok_op2ee, ↓Ok_op2ve, ↓Ok_op2ev, ↓Ok_op2vv, ↓op_add, ↓op_addL, ↓op_addT, ↓op_addI, ↓op_subI, ↓op_addB, ↓op_subB, ↓op_sub, ↓op_mul, ↓op_mod, ↓op_div, ↓op_pow, ↓op_lt, ↓op_le, ↓op_gt, ↓op_ge, ↓op_eqI, ↓op_neI, ↓op_neg, ↓op_isN, ↓op_notN, ↓op_lenL, ↓op_lenT,
  ↓op_isi_i, ↓op_isi_b, ↓op_isi_l, ↓op_isi_t, ↓op_isi_n, ↓op_isi_s, ↓op_abs, ↓op_max2, ↓op_min2, ↓op_tupL, ↓op_tupT, ↓op_lstL, ↓op_lstT, ↓ix_0, ↓ix_1, ↓ix_2, ↓ix_3, ↓tx_0, ↓tx_1, ↓tx_2, ↓tx_3, ↓Ok_datum, ↓Ok_evL0, ↓Ok_evLc, ↓Ok_eTup, ↓Ok_eLst, ↓bk_b, ↓Ok_tB, ↓Ok_eB, ↓Ok_tNot, ↓Ok_tAnd, ↓Ok_tOr, ↓Ok_eAnd, ↓Ok_eOr, ↓Ok_eIf, ↓fk_i, ↓fk_b, ↓fk_n, ↓Ok_evSe, ↓Ok_evSv, ↓ck2_b, ↓Ok_eChain,
  ↓pk_n, ↓pk_t, ↓pk_l, ↓pks_n, ↓pks_c, ↓vk_val, ↓vk_ow, ↓rvk_val, ↓rvk_ow, ↓Ok_retV, ↓augk_val, ↓Ok_augk, ↓nk_i, ↓Ok_setIx, ↓ixk_0, ↓ixk_1, ↓ixk_2, ↓apk_ow, ↓owk_ow, ↓Ok_app, ↓ak_n, ↓ak_d, ↓ak_b, ↓gk_n, ↓gk_l, ↓gk_r, ↓zk_n, ↓zk_l, ↓zk_r, ↓sgm_z, ↓sgm_s, ↓mk2_v, ↓mk2_o, ↓ik_z, ↓ik_n, ↓ik_s, ↓uk_z, ↓uk_s, ↓rtk_rt, ↓rtk_nx, ↓nok_n, ↓nok_v, ↓nok_o,
  ↓afk_nx, ↓afk_ct, ↓afk_bk, ↓afk_rt, ↓dk_l, ↓dk_t, ↓Ok_evPn, ↓Ok_evPs, ↓Ok_cutek, ↓Ok_cutv, ↓op_cutL, ↓op_cutT, ↓Ok_wSeq, ↓rk_i, ↓Ok_wRng1, ↓Ok_wRng2, ↓Ok_wEnum, ↓Ok_wZip2, ↓Ok_wZip3, ↓Ok_wN, ↓wk_n, ↓wk_c, ↓op_isB, ↓op_isNB, ↓dkk_d, ↓vk_dki, ↓lkk_s, ↓Ok_newK, ↓Ok_dlen, ↓Ok_dsorted, ↓Ok_dget, ↓Ok_dgetD, ↓Ok_dput,
  okArg_v, okArg_o, ↓Ok_tYes, nc_0, nc_1, nc_2, nc_3, nc_4, not_true_eq_false, not_false_eq_true, isN, List.length_cons, List.length_nil, Nat.zero_add, Nat.reduceAdd, List.mem_cons, List.not_mem_nil, decide_eq_true_eq, Bool.not_eq_true', decide_eq_false_iff_not, Bool.not_true, Bool.not_false, Bool.false_eq_true, if_true, if_false, true_and, and_true, or_false, or_true, true_or, reduceCtorEq, Nat.reduceEqDiff, and_self, decide_true, decide_false, Int.reduceLT, Int.reduceLE, Int.reduceEq, Int.reduceToNat, Int.reducePow, Int.reduceAdd, Int.reduceSub, Int.reduceMul, Int.reduceNeg, Int.reduceMod, Int.reduceDiv, Nat.reduceLeDiff, Nat.reduceLT, false_or, or_self, and_false, false_and]
  refine Rt_mono (pick_spec hd (by omega) (by omega) (by omega)) ?_
  rintro _ _ ⟨r, es1, rfl, rfl, r0, r1, he1⟩
  simp -implicitDefEqProofs only [if_true, ↓Ok_ok, ↓Ok_bind, ↓Ok_seq, ↓thenS_nx, ↓thenS_rt, ↓thenS_bk, ↓thenS_ct, ↓Ok_sIf, ↓Ok_pass, ↓Ok_ret, ↓Ok_setk, ↓Ok_park, ↓Ok_par3k, ↓Ok_drop, ↓Ok_for, ↓Ok_while, ↓Ok_unpk, ↓Ok_callk, ↓Ok_tryC, ↓Tr_x, ↓Tr_r, ↓nmk_s, ↓muk_n, ↓muk_c, ↓mu2_s, ↓mu2_v, ↓mu2_o, ↓zrk_n, ↓zrk_c, ↓rs_h, ↓rs_v, ↓rs_o, hd_v, hd_o, hd_u, mh_n, mh_c, ↓Rt_fnk,
  ↓sg_z, ↓sg_s, ↓sw_z, ↓sw_s, ↓td_val, ↓td_ow, ↓Ok_eLit, ↓kp_val, ↓kp_ow, ↓Ok_eV, ↓Ok_op1e, ↓Ok_op1v, ↓Ok_op2ee, ↓Ok_op2ve, ↓Ok_op2ev, ↓Ok_op2vv, ↓op_add, ↓op_addL, ↓op_addT, ↓op_addI, ↓op_subI, ↓op_addB, ↓op_subB, ↓op_sub, ↓op_mul, ↓op_mod, ↓op_div, ↓op_pow, ↓op_lt, ↓op_le, ↓op_gt, ↓op_ge, ↓op_eqI, ↓op_neI, ↓op_neg, ↓op_isN, ↓op_notN, ↓op_lenL, ↓op_lenT,
  ↓op_isi_i, ↓op_isi_b, ↓op_isi_l, ↓op_isi_t, ↓op_isi_n, ↓op_isi_s, ↓op_abs, ↓op_max2, ↓op_min2, ↓op_tupL, ↓op_tupT, ↓op_lstL, ↓op_lstT, ↓ix_0, ↓ix_1, ↓ix_2, ↓ix_3, ↓tx_0, ↓tx_1, ↓tx_2, ↓tx_3, ↓Ok_datum, ↓Ok_evL0, ↓Ok_evLc, ↓Ok_eTup, ↓Ok_eLst, ↓bk_b, ↓Ok_tB, ↓Ok_eB, ↓Ok_tNot, ↓Ok_tAnd, ↓Ok_tOr, ↓Ok_eAnd, ↓Ok_eOr, ↓Ok_eIf, ↓fk_i, ↓fk_b, ↓fk_n, ↓Ok_evSe, ↓Ok_evSv, ↓ck2_b, ↓Ok_eChain,
  ↓pk_n, ↓pk_t, ↓pk_l, ↓pks_n, ↓pks_c, ↓vk_val, ↓vk_ow, ↓rvk_val, ↓rvk_ow, ↓Ok_retV, ↓augk_val, ↓Ok_augk, ↓nk_i, ↓Ok_setIx, ↓ixk_0, ↓ixk_1, ↓ixk_2, ↓apk_ow, ↓owk_ow, ↓Ok_app, ↓ak_n, ↓ak_d, ↓ak_b, ↓gk_n, ↓gk_l, ↓gk_r, ↓zk_n, ↓zk_l, ↓zk_r, ↓sgm_z, ↓sgm_s, ↓mk2_v, ↓mk2_o, ↓ik_z, ↓ik_n, ↓ik_s, ↓uk_z, ↓uk_s, ↓rtk_rt, ↓rtk_nx, ↓nok_n, ↓nok_v, ↓nok_o,
  ↓afk_nx, ↓afk_ct, ↓afk_bk, ↓afk_rt, ↓dk_l, ↓dk_t, ↓Ok_evPn, ↓Ok_evPs, ↓Ok_cutek, ↓Ok_cutv, ↓op_cutL, ↓op_cutT, ↓Ok_wSeq, ↓rk_i, ↓Ok_wRng1, ↓Ok_wRng2, ↓Ok_wEnum, ↓Ok_wZip2, ↓Ok_wZip3, ↓Ok_wN, ↓wk_n, ↓wk_c, ↓op_isB, ↓op_isNB, ↓dkk_d, ↓vk_dki, ↓lkk_s, ↓Ok_newK, ↓Ok_dlen, ↓Ok_dsorted, ↓Ok_dget, ↓Ok_dgetD, ↓Ok_dput,
  okArg_v, okArg_o, ↓Ok_tYes, nc_0, nc_1, nc_2, nc_3, nc_4, not_true_eq_false, not_false_eq_true, isN, List.length_cons, List.length_nil, Nat.zero_add, Nat.reduceAdd, List.mem_cons, List.not_mem_nil, decide_eq_true_eq, Bool.not_eq_true', decide_eq_false_iff_not, Bool.not_true, Bool.not_false, Bool.false_eq_true, if_true, if_false, true_and, and_true, or_false, or_true, true_or, reduceCtorEq, Nat.reduceEqDiff, and_self, decide_true, decide_false, Int.reduceLT, Int.reduceLE, Int.reduceEq, Int.reduceToNat, Int.reducePow, Int.reduceAdd, Int.reduceSub, Int.reduceMul, Int.reduceNeg, Int.reduceMod, Int.reduceDiv, Nat.reduceLeDiff, Nat.reduceLT, false_or, or_self, and_false, false_and]
  refine Rt_mono (one_spec he1 (by omega) (by simp) (by simp)) ?_
  rintro _ _ ⟨d, es2, hm, rfl, rfl, he2⟩
  have hd : ∃ l : Int, d = .int l ∧ 0 ≤ l ∧ l ≤ 100000000 := by
    simp only [List.mem_cons, List.not_mem_nil, or_false] at hm
    rcases hm with rfl | rfl | rfl <;> exact ⟨_, rfl, by omega, by omega⟩
  obtain ⟨t, rfl, t0, t1⟩ := hd
  simp -implicitDefEqProofs only [if_true, ↓Ok_ok, ↓Ok_bind, ↓Ok_seq, ↓thenS_nx, ↓thenS_rt, ↓thenS_bk, ↓thenS_ct, ↓Ok_sIf, ↓Ok_pass, ↓Ok_ret, ↓Ok_setk, ↓Ok_park, ↓Ok_par3k, ↓Ok_drop, ↓Ok_for, ↓Ok_while, ↓Ok_unpk, ↓Ok_callk, ↓Ok_tryC, ↓Tr_x, ↓Tr_r, ↓nmk_s, ↓muk_n, ↓muk_c, ↓mu2_s, ↓mu2_v, ↓mu2_o, ↓zrk_n, ↓zrk_c, ↓rs_h, ↓rs_v, ↓rs_o, hd_v, hd_o, hd_u, mh_n, mh_c, ↓Rt_fnk,
  ↓sg_z, ↓sg_s, ↓sw_z, ↓sw_s, ↓td_val, ↓td_ow, ↓Ok_eLit, ↓kp_val, ↓kp_ow, ↓Ok_eV, ↓Ok_op1e, ↓Ok_op1v, ↓Ok_op2ee, ↓Ok_op2ve, ↓Ok_op2ev, ↓Ok_op2vv, ↓op_add, ↓op_addL, ↓op_addT, ↓op_addI, ↓op_subI, ↓op_addB, ↓op_subB, ↓op_sub, ↓op_mul, ↓op_mod, ↓op_div, ↓op_pow, ↓op_lt, ↓op_le, ↓op_gt, ↓op_ge, ↓op_eqI, ↓op_neI, ↓op_neg, ↓op_isN, ↓op_notN, ↓op_lenL, ↓op_lenT,
  ↓op_isi_i, ↓op_isi_b, ↓op_isi_l, ↓op_isi_t, ↓op_isi_n, ↓op_isi_s, ↓op_abs, ↓op_max2, ↓op_min2, ↓op_tupL, ↓op_tupT, ↓op_lstL, ↓op_lstT, ↓ix_0, ↓ix_1, ↓ix_2, ↓ix_3, ↓tx_0, ↓tx_1, ↓tx_2, ↓tx_3, ↓Ok_datum, ↓Ok_evL0, ↓Ok_evLc, ↓Ok_eTup, ↓Ok_eLst, ↓bk_b, ↓Ok_tB, ↓Ok_eB, ↓Ok_tNot, ↓Ok_tAnd, ↓Ok_tOr, ↓Ok_eAnd, ↓Ok_eOr, ↓Ok_eIf, ↓fk_i, ↓fk_b, ↓fk_n, ↓Ok_evSe, ↓Ok_evSv, ↓ck2_b, ↓Ok_eChain,
  ↓pk_n, ↓pk_t, ↓pk_l, ↓pks_n, ↓pks_c, ↓vk_val, ↓vk_ow, ↓rvk_val, ↓rvk_ow, ↓Ok_retV, ↓augk_val, ↓Ok_augk, ↓nk_i, ↓Ok_setIx, ↓ixk_0, ↓ixk_1, ↓ixk_2, ↓apk_ow, ↓owk_ow, ↓Ok_app, ↓ak_n, ↓ak_d, ↓ak_b, ↓gk_n, ↓gk_l, ↓gk_r, ↓zk_n, ↓zk_l, ↓zk_r, ↓sgm_z, ↓sgm_s, ↓mk2_v, ↓mk2_o, ↓ik_z, ↓ik_n, ↓ik_s, ↓uk_z, ↓uk_s, ↓rtk_rt, ↓rtk_nx, ↓nok_n, ↓nok_v, ↓nok_o,
  ↓afk_nx, ↓afk_ct, ↓afk_bk, ↓afk_rt, ↓dk_l, ↓dk_t, ↓Ok_evPn, ↓Ok_evPs, ↓Ok_cutek, ↓Ok_cutv, ↓op_cutL, ↓op_cutT, ↓Ok_wSeq, ↓rk_i, ↓Ok_wRng1, ↓Ok_wRng2, ↓Ok_wEnum, ↓Ok_wZip2, ↓Ok_wZip3, ↓Ok_wN, ↓wk_n, ↓wk_c, ↓op_isB, ↓op_isNB, ↓dkk_d, ↓vk_dki, ↓lkk_s, ↓Ok_newK, ↓Ok_dlen, ↓Ok_dsorted, ↓Ok_dget, ↓Ok_dgetD, ↓Ok_dput,
  okArg_v, okArg_o, ↓Ok_tYes, nc_0, nc_1, nc_2, nc_3, nc_4, not_true_eq_false, not_false_eq_true, isN, List.length_cons, List.length_nil, Nat.zero_add, Nat.reduceAdd, List.mem_cons, List.not_mem_nil, decide_eq_true_eq, Bool.not_eq_true', decide_eq_false_iff_not, Bool.not_true, Bool.not_false, Bool.false_eq_true, if_true, if_false, true_and, and_true, or_false, or_true, true_or, reduceCtorEq, Nat.reduceEqDiff, and_self, decide_true, decide_false, Int.reduceLT, Int.reduceLE, Int.reduceEq, Int.reduceToNat, Int.reducePow, Int.reduceAdd, Int.reduceSub, Int.reduceMul, Int.reduceNeg, Int.reduceMod, Int.reduceDiv, Nat.reduceLeDiff, Nat.reduceLT, false_or, or_self, and_false, false_and]
  refine Rt_mono (values_spec he2 (by omega) h0 (by omega)) ?_
  rintro _ _ ⟨ns, es3, rfl, rfl, hl, hns, he3⟩
  simp -implicitDefEqProofs only [if_true, ↓Ok_ok, ↓Ok_bind, ↓Ok_seq, ↓thenS_nx, ↓thenS_rt, ↓thenS_bk, ↓thenS_ct, ↓Ok_sIf, ↓Ok_pass, ↓Ok_ret, ↓Ok_setk, ↓Ok_park, ↓Ok_par3k, ↓Ok_drop, ↓Ok_for, ↓Ok_while, ↓Ok_unpk, ↓Ok_callk, ↓Ok_tryC, ↓Tr_x, ↓Tr_r, ↓nmk_s, ↓muk_n, ↓muk_c, ↓mu2_s, ↓mu2_v, ↓mu2_o, ↓zrk_n, ↓zrk_c, ↓rs_h, ↓rs_v, ↓rs_o, hd_v, hd_o, hd_u, mh_n, mh_c, ↓Rt_fnk,
  ↓sg_z, ↓sg_s, ↓sw_z, ↓sw_s, ↓td_val, ↓td_ow, ↓Ok_eLit, ↓kp_val, ↓kp_ow, ↓Ok_eV, ↓Ok_op1e, ↓Ok_op1v, ↓Ok_op2ee, ↓Ok_op2ve, ↓Ok_op2ev, ↓Ok_op2vv, ↓op_add, ↓op_addL, ↓op_addT, ↓op_addI, ↓op_subI, ↓op_addB, ↓op_subB, ↓op_sub, ↓op_mul, ↓op_mod, ↓op_div, ↓op_pow, ↓op_lt, ↓op_le, ↓op_gt, ↓op_ge, ↓op_eqI, ↓op_neI, ↓op_neg, ↓op_isN, ↓op_notN, ↓op_lenL, ↓op_lenT,
  ↓op_isi_i, ↓op_isi_b, ↓op_isi_l, ↓op_isi_t, ↓op_isi_n, ↓op_isi_s, ↓op_abs, ↓op_max2, ↓op_min2, ↓op_tupL, ↓op_tupT, ↓op_lstL, ↓op_lstT, ↓ix_0, ↓ix_1, ↓ix_2, ↓ix_3, ↓tx_0, ↓tx_1, ↓tx_2, ↓tx_3, ↓Ok_datum, ↓Ok_evL0, ↓Ok_evLc, ↓Ok_eTup, ↓Ok_eLst, ↓bk_b, ↓Ok_tB, ↓Ok_eB, ↓Ok_tNot, ↓Ok_tAnd, ↓Ok_tOr, ↓Ok_eAnd, ↓Ok_eOr, ↓Ok_eIf, ↓fk_i, ↓fk_b, ↓fk_n, ↓Ok_evSe, ↓Ok_evSv, ↓ck2_b, ↓Ok_eChain,
  ↓pk_n, ↓pk_t, ↓pk_l, ↓pks_n, ↓pks_c, ↓vk_val, ↓vk_ow, ↓rvk_val, ↓rvk_ow, ↓Ok_retV, ↓augk_val, ↓Ok_augk, ↓nk_i, ↓Ok_setIx, ↓ixk_0, ↓ixk_1, ↓ixk_2, ↓apk_ow, ↓owk_ow, ↓Ok_app, ↓ak_n, ↓ak_d, ↓ak_b, ↓gk_n, ↓gk_l, ↓gk_r, ↓zk_n, ↓zk_l, ↓zk_r, ↓sgm_z, ↓sgm_s, ↓mk2_v, ↓mk2_o, ↓ik_z, ↓ik_n, ↓ik_s, ↓uk_z, ↓uk_s, ↓rtk_rt, ↓rtk_nx, ↓nok_n, ↓nok_v, ↓nok_o,
  ↓afk_nx, ↓afk_ct, ↓afk_bk, ↓afk_rt, ↓dk_l, ↓dk_t, ↓Ok_evPn, ↓Ok_evPs, ↓Ok_cutek, ↓Ok_cutv, ↓op_cutL, ↓op_cutT, ↓Ok_wSeq, ↓rk_i, ↓Ok_wRng1, ↓Ok_wRng2, ↓Ok_wEnum, ↓Ok_wZip2, ↓Ok_wZip3, ↓Ok_wN, ↓wk_n, ↓wk_c, ↓op_isB, ↓op_isNB, ↓dkk_d, ↓vk_dki, ↓lkk_s, ↓Ok_newK, ↓Ok_dlen, ↓Ok_dsorted, ↓Ok_dget, ↓Ok_dgetD, ↓Ok_dput,
  okArg_v, okArg_o, ↓Ok_tYes, nc_0, nc_1, nc_2, nc_3, nc_4, not_true_eq_false, not_false_eq_true, isN, List.length_cons, List.length_nil, Nat.zero_add, Nat.reduceAdd, List.mem_cons, List.not_mem_nil, decide_eq_true_eq, Bool.not_eq_true', decide_eq_false_iff_not, Bool.not_true, Bool.not_false, Bool.false_eq_true, if_true, if_false, true_and, and_true, or_false, or_true, true_or, reduceCtorEq, Nat.reduceEqDiff, and_self, decide_true, decide_false, Int.reduceLT, Int.reduceLE, Int.reduceEq, Int.reduceToNat, Int.reducePow, Int.reduceAdd, Int.reduceSub, Int.reduceMul, Int.reduceNeg, Int.reduceMod, Int.reduceDiv, Nat.reduceLeDiff, Nat.reduceLT, false_or, or_self, and_false, false_and]
  refine for_ix _ (fun i S => ∃ (es : List D) (u : Int) (s : Smp) (x4 : Sv), Deck (n + 84 + 2 * i) es ∧ (0 ≤ u ∧ u ≤ 100000000 + 1001 * i) ∧ s.length = i ∧ (∀ q ∈ s, (0 ≤ q.1 ∧ q.1 < u) ∧ 0 ≤ q.2 ∧ q.2 ≤ 1000000) ∧ s.Pairwise (fun a b => a.1 < b.1) ∧ S = [.ow es, .val (.int m), .val (.int u), .val (smD s), x4])
    (fun S ⟨es, u, s, x4, he, hu, hs, hq, hp, hS⟩ => ?e) (fun i d S hi ⟨es, u, s, x4, he, hu, hs, hq, hp, hS⟩ => ?s) _ ⟨es3, t, [], _, he3.mono (by omega), by omega, rfl, by simp, List.Pairwise.nil, rfl⟩
  case e =>
    subst hS
    rw [List.length_map] at hs he hu
    simp -implicitDefEqProofs only [if_true, ↓Ok_ok, ↓Ok_bind, ↓Ok_seq, ↓thenS_nx, ↓thenS_rt, ↓thenS_bk, ↓thenS_ct, ↓Ok_sIf, ↓Ok_pass, ↓Ok_ret, ↓Ok_setk, ↓Ok_park, ↓Ok_par3k, ↓Ok_drop, ↓Ok_for, ↓Ok_while, ↓Ok_unpk, ↓Ok_callk, ↓Ok_tryC, ↓Tr_x, ↓Tr_r, ↓nmk_s, ↓muk_n, ↓muk_c, ↓mu2_s, ↓mu2_v, ↓mu2_o, ↓zrk_n, ↓zrk_c, ↓rs_h, ↓rs_v, ↓rs_o, hd_v, hd_o, hd_u, mh_n, mh_c, ↓Rt_fnk,
  ↓sg_z, ↓sg_s, ↓sw_z, ↓sw_s, ↓td_val, ↓td_ow, ↓Ok_eLit, ↓kp_val, ↓kp_ow, ↓Ok_eV, ↓Ok_op1e, ↓Ok_op1v, ↓Ok_op2ee, ↓Ok_op2ve, ↓Ok_op2ev, ↓Ok_op2vv, ↓op_add, ↓op_addL, ↓op_addT, ↓op_addI, ↓op_subI, ↓op_addB, ↓op_subB, ↓op_sub, ↓op_mul, ↓op_mod, ↓op_div, ↓op_pow, ↓op_lt, ↓op_le, ↓op_gt, ↓op_ge, ↓op_eqI, ↓op_neI, ↓op_neg, ↓op_isN, ↓op_notN, ↓op_lenL, ↓op_lenT,
  ↓op_isi_i, ↓op_isi_b, ↓op_isi_l, ↓op_isi_t, ↓op_isi_n, ↓op_isi_s, ↓op_abs, ↓op_max2, ↓op_min2, ↓op_tupL, ↓op_tupT, ↓op_lstL, ↓op_lstT, ↓ix_0, ↓ix_1, ↓ix_2, ↓ix_3, ↓tx_0, ↓tx_1, ↓tx_2, ↓tx_3, ↓Ok_datum, ↓Ok_evL0, ↓Ok_evLc, ↓Ok_eTup, ↓Ok_eLst, ↓bk_b, ↓Ok_tB, ↓Ok_eB, ↓Ok_tNot, ↓Ok_tAnd, ↓Ok_tOr, ↓Ok_eAnd, ↓Ok_eOr, ↓Ok_eIf, ↓fk_i, ↓fk_b, ↓fk_n, ↓Ok_evSe, ↓Ok_evSv, ↓ck2_b, ↓Ok_eChain,
  ↓pk_n, ↓pk_t, ↓pk_l, ↓pks_n, ↓pks_c, ↓vk_val, ↓vk_ow, ↓rvk_val, ↓rvk_ow, ↓Ok_retV, ↓augk_val, ↓Ok_augk, ↓nk_i, ↓Ok_setIx, ↓ixk_0, ↓ixk_1, ↓ixk_2, ↓apk_ow, ↓owk_ow, ↓Ok_app, ↓ak_n, ↓ak_d, ↓ak_b, ↓gk_n, ↓gk_l, ↓gk_r, ↓zk_n, ↓zk_l, ↓zk_r, ↓sgm_z, ↓sgm_s, ↓mk2_v, ↓mk2_o, ↓ik_z, ↓ik_n, ↓ik_s, ↓uk_z, ↓uk_s, ↓rtk_rt, ↓rtk_nx, ↓nok_n, ↓nok_v, ↓nok_o,
  ↓afk_nx, ↓afk_ct, ↓afk_bk, ↓afk_rt, ↓dk_l, ↓dk_t, ↓Ok_evPn, ↓Ok_evPs, ↓Ok_cutek, ↓Ok_cutv, ↓op_cutL, ↓op_cutT, ↓Ok_wSeq, ↓rk_i, ↓Ok_wRng1, ↓Ok_wRng2, ↓Ok_wEnum, ↓Ok_wZip2, ↓Ok_wZip3, ↓Ok_wN, ↓wk_n, ↓wk_c, ↓op_isB, ↓op_isNB, ↓dkk_d, ↓vk_dki, ↓lkk_s, ↓Ok_newK, ↓Ok_dlen, ↓Ok_dsorted, ↓Ok_dget, ↓Ok_dgetD, ↓Ok_dput,
  okArg_v, okArg_o, ↓Ok_tYes, nc_0, nc_1, nc_2, nc_3, nc_4, not_true_eq_false, not_false_eq_true, isN, List.length_cons, List.length_nil, Nat.zero_add, Nat.reduceAdd, List.mem_cons, List.not_mem_nil, decide_eq_true_eq, Bool.not_eq_true', decide_eq_false_iff_not, Bool.not_true, Bool.not_false, Bool.false_eq_true, if_true, if_false, true_and, and_true, or_false, or_true, true_or, reduceCtorEq, Nat.reduceEqDiff, and_self, decide_true, decide_false, Int.reduceLT, Int.reduceLE, Int.reduceEq, Int.reduceToNat, Int.reducePow, Int.reduceAdd, Int.reduceSub, Int.reduceMul, Int.reduceNeg, Int.reduceMod, Int.reduceDiv, Nat.reduceLeDiff, Nat.reduceLT, false_or, or_self, and_false, false_and]
    exact ⟨s, es, rfl, rfl, ⟨by omega, fun q h => ⟨⟨(hq q h).1.1, by have := (hq q h).1.2; omega⟩, (hq q h).2⟩, hp⟩, by omega, he.mono (by omega)⟩
  case s =>
    have hil : i < ns.length := by
      have := (List.getElem?_eq_some_iff.mp hi).1
      rwa [List.length_map] at this
    obtain ⟨y, hy, rfl⟩ : ∃ y, y ∈ ns ∧ d = .int y := by
      obtain ⟨y, h1, h2⟩ := List.mem_map.mp (List.mem_of_getElem? hi)
      exact ⟨y, h1, h2.symm⟩
    have hy := hns y hy
    subst hS
    unfold B_law_samples_f1
    simp -implicitDefEqProofs only [List.length_map, ↓Ok_ok, ↓Ok_bind, ↓Ok_seq, ↓thenS_nx, ↓thenS_rt, ↓thenS_bk, ↓thenS_ct, ↓Ok_sIf, ↓Ok_pass, ↓Ok_ret, ↓Ok_setk, ↓Ok_park, ↓Ok_par3k, ↓Ok_drop, ↓Ok_for, ↓Ok_while, ↓Ok_unpk, ↓Ok_callk, ↓Ok_tryC, ↓Tr_x, ↓Tr_r, ↓nmk_s, ↓muk_n, ↓muk_c, ↓mu2_s, ↓mu2_v, ↓mu2_o, ↓zrk_n, ↓zrk_c, ↓rs_h, ↓rs_v, ↓rs_o, hd_v, hd_o, hd_u, mh_n, mh_c, ↓Rt_fnk,
  ↓sg_z, ↓sg_s, ↓sw_z, ↓sw_s, ↓td_val, ↓td_ow, ↓Ok_eLit, ↓kp_val, ↓kp_ow, ↓Ok_eV, ↓Ok_op1e, ↓Ok_op1v, ↓Ok_op2ee, ↓Ok_op2ve, ↓Ok_op2ev, ↓Ok_op2vv, ↓op_add, ↓op_addL, ↓op_addT, ↓op_addI, ↓op_subI, ↓op_addB, ↓op_subB, ↓op_sub, ↓op_mul, ↓op_mod, ↓op_div, ↓op_pow, ↓op_lt, ↓op_le, ↓op_gt, ↓op_ge, ↓op_eqI, ↓op_neI, ↓op_neg, ↓op_isN, ↓op_notN, ↓op_lenL, ↓op_lenT,
  ↓op_isi_i, ↓op_isi_b, ↓op_isi_l, ↓op_isi_t, ↓op_isi_n, ↓op_isi_s, ↓op_abs, ↓op_max2, ↓op_min2, ↓op_tupL, ↓op_tupT, ↓op_lstL, ↓op_lstT, ↓ix_0, ↓ix_1, ↓ix_2, ↓ix_3, ↓tx_0, ↓tx_1, ↓tx_2, ↓tx_3, ↓Ok_datum, ↓Ok_evL0, ↓Ok_evLc, ↓Ok_eTup, ↓Ok_eLst, ↓bk_b, ↓Ok_tB, ↓Ok_eB, ↓Ok_tNot, ↓Ok_tAnd, ↓Ok_tOr, ↓Ok_eAnd, ↓Ok_eOr, ↓Ok_eIf, ↓fk_i, ↓fk_b, ↓fk_n, ↓Ok_evSe, ↓Ok_evSv, ↓ck2_b, ↓Ok_eChain,
  ↓pk_n, ↓pk_t, ↓pk_l, ↓pks_n, ↓pks_c, ↓vk_val, ↓vk_ow, ↓rvk_val, ↓rvk_ow, ↓Ok_retV, ↓augk_val, ↓Ok_augk, ↓nk_i, ↓Ok_setIx, ↓ixk_0, ↓ixk_1, ↓ixk_2, ↓apk_ow, ↓owk_ow, ↓Ok_app, ↓ak_n, ↓ak_d, ↓ak_b, ↓gk_n, ↓gk_l, ↓gk_r, ↓zk_n, ↓zk_l, ↓zk_r, ↓sgm_z, ↓sgm_s, ↓mk2_v, ↓mk2_o, ↓ik_z, ↓ik_n, ↓ik_s, ↓uk_z, ↓uk_s, ↓rtk_rt, ↓rtk_nx, ↓nok_n, ↓nok_v, ↓nok_o,
  ↓afk_nx, ↓afk_ct, ↓afk_bk, ↓afk_rt, ↓dk_l, ↓dk_t, ↓Ok_evPn, ↓Ok_evPs, ↓Ok_cutek, ↓Ok_cutv, ↓op_cutL, ↓op_cutT, ↓Ok_wSeq, ↓rk_i, ↓Ok_wRng1, ↓Ok_wRng2, ↓Ok_wEnum, ↓Ok_wZip2, ↓Ok_wZip3, ↓Ok_wN, ↓wk_n, ↓wk_c, ↓op_isB, ↓op_isNB, ↓dkk_d, ↓vk_dki, ↓lkk_s, ↓Ok_newK, ↓Ok_dlen, ↓Ok_dsorted, ↓Ok_dget, ↓Ok_dgetD, ↓Ok_dput,
  okArg_v, okArg_o, ↓Ok_tYes, nc_0, nc_1, nc_2, nc_3, nc_4, not_true_eq_false, not_false_eq_true, isN, List.length_cons, List.length_nil, Nat.zero_add, Nat.reduceAdd, List.mem_cons, List.not_mem_nil, decide_eq_true_eq, Bool.not_eq_true', decide_eq_false_iff_not, Bool.not_true, Bool.not_false, Bool.false_eq_true, if_true, if_false, true_and, and_true, or_false, or_true, true_or, reduceCtorEq, Nat.reduceEqDiff, and_self, decide_true, decide_false, Int.reduceLT, Int.reduceLE, Int.reduceEq, Int.reduceToNat, Int.reducePow, Int.reduceAdd, Int.reduceSub, Int.reduceMul, Int.reduceNeg, Int.reduceMod, Int.reduceDiv, Nat.reduceLeDiff, Nat.reduceLT, false_or, or_self, and_false, false_and]
    refine ⟨by omega, ?_⟩
    refine Rt_mono (one_spec he (by omega) (by simp) (by simp)) ?_
    rintro _ _ ⟨d, es4, hm, rfl, rfl, he4⟩
    have hd : ∃ l : Int, d = .int l ∧ 1 ≤ l ∧ l ≤ 1000 := by
      simp only [List.mem_cons, List.not_mem_nil, or_false] at hm
      rcases hm with rfl | rfl | rfl | rfl <;> exact ⟨_, rfl, by omega, by omega⟩
    obtain ⟨g, rfl, g0, g1⟩ := hd
    simp -implicitDefEqProofs only [if_true, ↓Ok_ok, ↓Ok_bind, ↓Ok_seq, ↓thenS_nx, ↓thenS_rt, ↓thenS_bk, ↓thenS_ct, ↓Ok_sIf, ↓Ok_pass, ↓Ok_ret, ↓Ok_setk, ↓Ok_park, ↓Ok_par3k, ↓Ok_drop, ↓Ok_for, ↓Ok_while, ↓Ok_unpk, ↓Ok_callk, ↓Ok_tryC, ↓Tr_x, ↓Tr_r, ↓nmk_s, ↓muk_n, ↓muk_c, ↓mu2_s, ↓mu2_v, ↓mu2_o, ↓zrk_n, ↓zrk_c, ↓rs_h, ↓rs_v, ↓rs_o, hd_v, hd_o, hd_u, mh_n, mh_c, ↓Rt_fnk,
  ↓sg_z, ↓sg_s, ↓sw_z, ↓sw_s, ↓td_val, ↓td_ow, ↓Ok_eLit, ↓kp_val, ↓kp_ow, ↓Ok_eV, ↓Ok_op1e, ↓Ok_op1v, ↓Ok_op2ee, ↓Ok_op2ve, ↓Ok_op2ev, ↓Ok_op2vv, ↓op_add, ↓op_addL, ↓op_addT, ↓op_addI, ↓op_subI, ↓op_addB, ↓op_subB, ↓op_sub, ↓op_mul, ↓op_mod, ↓op_div, ↓op_pow, ↓op_lt, ↓op_le, ↓op_gt, ↓op_ge, ↓op_eqI, ↓op_neI, ↓op_neg, ↓op_isN, ↓op_notN, ↓op_lenL, ↓op_lenT,
  ↓op_isi_i, ↓op_isi_b, ↓op_isi_l, ↓op_isi_t, ↓op_isi_n, ↓op_isi_s, ↓op_abs, ↓op_max2, ↓op_min2, ↓op_tupL, ↓op_tupT, ↓op_lstL, ↓op_lstT, ↓ix_0, ↓ix_1, ↓ix_2, ↓ix_3, ↓tx_0, ↓tx_1, ↓tx_2, ↓tx_3, ↓Ok_datum, ↓Ok_evL0, ↓Ok_evLc, ↓Ok_eTup, ↓Ok_eLst, ↓bk_b, ↓Ok_tB, ↓Ok_eB, ↓Ok_tNot, ↓Ok_tAnd, ↓Ok_tOr, ↓Ok_eAnd, ↓Ok_eOr, ↓Ok_eIf, ↓fk_i, ↓fk_b, ↓fk_n, ↓Ok_evSe, ↓Ok_evSv, ↓ck2_b, ↓Ok_eChain,
  ↓pk_n, ↓pk_t, ↓pk_l, ↓pks_n, ↓pks_c, ↓vk_val, ↓vk_ow, ↓rvk_val, ↓rvk_ow, ↓Ok_retV, ↓augk_val, ↓Ok_augk, ↓nk_i, ↓Ok_setIx, ↓ixk_0, ↓ixk_1, ↓ixk_2, ↓apk_ow, ↓owk_ow, ↓Ok_app, ↓ak_n, ↓ak_d, ↓ak_b, ↓gk_n, ↓gk_l, ↓gk_r, ↓zk_n, ↓zk_l, ↓zk_r, ↓sgm_z, ↓sgm_s, ↓mk2_v, ↓mk2_o, ↓ik_z, ↓ik_n, ↓ik_s, ↓uk_z, ↓uk_s, ↓rtk_rt, ↓rtk_nx, ↓nok_n, ↓nok_v, ↓nok_o,
  ↓afk_nx, ↓afk_ct, ↓afk_bk, ↓afk_rt, ↓dk_l, ↓dk_t, ↓Ok_evPn, ↓Ok_evPs, ↓Ok_cutek, ↓Ok_cutv, ↓op_cutL, ↓op_cutT, ↓Ok_wSeq, ↓rk_i, ↓Ok_wRng1, ↓Ok_wRng2, ↓Ok_wEnum, ↓Ok_wZip2, ↓Ok_wZip3, ↓Ok_wN, ↓wk_n, ↓wk_c, ↓op_isB, ↓op_isNB, ↓dkk_d, ↓vk_dki, ↓lkk_s, ↓Ok_newK, ↓Ok_dlen, ↓Ok_dsorted, ↓Ok_dget, ↓Ok_dgetD, ↓Ok_dput,
  okArg_v, okArg_o, ↓Ok_tYes, nc_0, nc_1, nc_2, nc_3, nc_4, not_true_eq_false, not_false_eq_true, isN, List.length_cons, List.length_nil, Nat.zero_add, Nat.reduceAdd, List.mem_cons, List.not_mem_nil, decide_eq_true_eq, Bool.not_eq_true', decide_eq_false_iff_not, Bool.not_true, Bool.not_false, Bool.false_eq_true, if_true, if_false, true_and, and_true, or_false, or_true, true_or, reduceCtorEq, Nat.reduceEqDiff, and_self, decide_true, decide_false, Int.reduceLT, Int.reduceLE, Int.reduceEq, Int.reduceToNat, Int.reducePow, Int.reduceAdd, Int.reduceSub, Int.reduceMul, Int.reduceNeg, Int.reduceMod, Int.reduceDiv, Nat.reduceLeDiff, Nat.reduceLT, false_or, or_self, and_false, false_and]
    refine Rt_mono (pick_spec he4 (by omega) (by omega) (by omega)) ?_
    rintro _ _ ⟨w, es5, rfl, rfl, w0, w1, he5⟩
    simp -implicitDefEqProofs only [if_true, ↓Ok_ok, ↓Ok_bind, ↓Ok_seq, ↓thenS_nx, ↓thenS_rt, ↓thenS_bk, ↓thenS_ct, ↓Ok_sIf, ↓Ok_pass, ↓Ok_ret, ↓Ok_setk, ↓Ok_park, ↓Ok_par3k, ↓Ok_drop, ↓Ok_for, ↓Ok_while, ↓Ok_unpk, ↓Ok_callk, ↓Ok_tryC, ↓Tr_x, ↓Tr_r, ↓nmk_s, ↓muk_n, ↓muk_c, ↓mu2_s, ↓mu2_v, ↓mu2_o, ↓zrk_n, ↓zrk_c, ↓rs_h, ↓rs_v, ↓rs_o, hd_v, hd_o, hd_u, mh_n, mh_c, ↓Rt_fnk,
  ↓sg_z, ↓sg_s, ↓sw_z, ↓sw_s, ↓td_val, ↓td_ow, ↓Ok_eLit, ↓kp_val, ↓kp_ow, ↓Ok_eV, ↓Ok_op1e, ↓Ok_op1v, ↓Ok_op2ee, ↓Ok_op2ve, ↓Ok_op2ev, ↓Ok_op2vv, ↓op_add, ↓op_addL, ↓op_addT, ↓op_addI, ↓op_subI, ↓op_addB, ↓op_subB, ↓op_sub, ↓op_mul, ↓op_mod, ↓op_div, ↓op_pow, ↓op_lt, ↓op_le, ↓op_gt, ↓op_ge, ↓op_eqI, ↓op_neI, ↓op_neg, ↓op_isN, ↓op_notN, ↓op_lenL, ↓op_lenT,
  ↓op_isi_i, ↓op_isi_b, ↓op_isi_l, ↓op_isi_t, ↓op_isi_n, ↓op_isi_s, ↓op_abs, ↓op_max2, ↓op_min2, ↓op_tupL, ↓op_tupT, ↓op_lstL, ↓op_lstT, ↓ix_0, ↓ix_1, ↓ix_2, ↓ix_3, ↓tx_0, ↓tx_1, ↓tx_2, ↓tx_3, ↓Ok_datum, ↓Ok_evL0, ↓Ok_evLc, ↓Ok_eTup, ↓Ok_eLst, ↓bk_b, ↓Ok_tB, ↓Ok_eB, ↓Ok_tNot, ↓Ok_tAnd, ↓Ok_tOr, ↓Ok_eAnd, ↓Ok_eOr, ↓Ok_eIf, ↓fk_i, ↓fk_b, ↓fk_n, ↓Ok_evSe, ↓Ok_evSv, ↓ck2_b, ↓Ok_eChain,
  ↓pk_n, ↓pk_t, ↓pk_l, ↓pks_n, ↓pks_c, ↓vk_val, ↓vk_ow, ↓rvk_val, ↓rvk_ow, ↓Ok_retV, ↓augk_val, ↓Ok_augk, ↓nk_i, ↓Ok_setIx, ↓ixk_0, ↓ixk_1, ↓ixk_2, ↓apk_ow, ↓owk_ow, ↓Ok_app, ↓ak_n, ↓ak_d, ↓ak_b, ↓gk_n, ↓gk_l, ↓gk_r, ↓zk_n, ↓zk_l, ↓zk_r, ↓sgm_z, ↓sgm_s, ↓mk2_v, ↓mk2_o, ↓ik_z, ↓ik_n, ↓ik_s, ↓uk_z, ↓uk_s, ↓rtk_rt, ↓rtk_nx, ↓nok_n, ↓nok_v, ↓nok_o,
  ↓afk_nx, ↓afk_ct, ↓afk_bk, ↓afk_rt, ↓dk_l, ↓dk_t, ↓Ok_evPn, ↓Ok_evPs, ↓Ok_cutek, ↓Ok_cutv, ↓op_cutL, ↓op_cutT, ↓Ok_wSeq, ↓rk_i, ↓Ok_wRng1, ↓Ok_wRng2, ↓Ok_wEnum, ↓Ok_wZip2, ↓Ok_wZip3, ↓Ok_wN, ↓wk_n, ↓wk_c, ↓op_isB, ↓op_isNB, ↓dkk_d, ↓vk_dki, ↓lkk_s, ↓Ok_newK, ↓Ok_dlen, ↓Ok_dsorted, ↓Ok_dget, ↓Ok_dgetD, ↓Ok_dput,
  okArg_v, okArg_o, ↓Ok_tYes, nc_0, nc_1, nc_2, nc_3, nc_4, not_true_eq_false, not_false_eq_true, isN, List.length_cons, List.length_nil, Nat.zero_add, Nat.reduceAdd, List.mem_cons, List.not_mem_nil, decide_eq_true_eq, Bool.not_eq_true', decide_eq_false_iff_not, Bool.not_true, Bool.not_false, Bool.false_eq_true, if_true, if_false, true_and, and_true, or_false, or_true, true_or, reduceCtorEq, Nat.reduceEqDiff, and_self, decide_true, decide_false, Int.reduceLT, Int.reduceLE, Int.reduceEq, Int.reduceToNat, Int.reducePow, Int.reduceAdd, Int.reduceSub, Int.reduceMul, Int.reduceNeg, Int.reduceMod, Int.reduceDiv, Nat.reduceLeDiff, Nat.reduceLT, false_or, or_self, and_false, false_and]
    refine ⟨es5, u + 1 + w, s ++ [(u, y)], _, he5.mono (by omega), by omega, by simp [hs], fun q h => ?_, ?_, by rw [smD, List.map_append]; rfl⟩
    · rcases List.mem_append.mp h with h | h
      · have := hq q h
        exact ⟨⟨this.1.1, by omega⟩, this.2⟩
      · rw [List.mem_singleton.mp h]
        exact ⟨⟨hu.1, by show u < u + 1 + w; omega⟩, hy⟩
    · rw [List.pairwise_append]
      refine ⟨hp, List.pairwise_singleton _ _, fun a ha b hb => ?_⟩
      rw [List.mem_singleton.mp hb]
      exact (hq a ha).1.2
end

section
open PySem Rc
theorem is_from_eq (a lo hi : Int) (Q : Sv → Sl → Prop) : Rt (F_is_from [.val (.int a), .val (.int lo), .val (.int hi)]) Q = Q (.val (.bool (decide (lo ≤ a ∧ a ≤ hi)))) [.val (.int a), .val (.int lo), .val (.int hi)] := by
  unfold F_is_from B_is_from
  simp -implicitDefEqProofs only [if_true, ↓Ok_ok, ↓Ok_bind, ↓Ok_seq, ↓thenS_nx, ↓thenS_rt, ↓thenS_bk, ↓thenS_ct, ↓Ok_sIf, ↓Ok_pass, ↓Ok_ret, ↓Ok_setk, ↓Ok_park, ↓Ok_par3k, ↓Ok_drop, ↓Ok_for, ↓Ok_while, ↓Ok_unpk, ↓Ok_callk, ↓Ok_tryC, ↓Tr_x, ↓Tr_r, ↓nmk_s, ↓muk_n, ↓muk_c, ↓mu2_s, ↓mu2_v, ↓mu2_o, ↓zrk_n, ↓zrk_c, ↓rs_h, ↓rs_v, ↓rs_o, hd_v, hd_o, hd_u, mh_n, mh_c, ↓Rt_fnk,
  ↓sg_z, ↓sg_s, ↓sw_z, ↓sw_s, ↓td_val, ↓td_ow, ↓Ok_eLit, ↓kp_val, ↓kp_ow, ↓Ok_eV, ↓Ok_op1e, ↓Ok_op1v, ↓Ok_op2ee, ↓Ok_op2ve, ↓Ok_op2ev, ↓Ok_op2vv, ↓op_add, ↓op_addL, ↓op_addT, ↓op_addI, ↓op_subI, ↓op_addB, ↓op_subB, ↓op_sub, ↓op_mul, ↓op_mod, ↓op_div, ↓op_pow, ↓op_lt, ↓op_le, ↓op_gt, ↓op_ge, ↓op_eqI, ↓op_neI, ↓op_neg, ↓op_isN, ↓op_notN, ↓op_lenL, ↓op_lenT,
  ↓op_isi_i, ↓op_isi_b, ↓op_isi_l, ↓op_isi_t, ↓op_isi_n, ↓op_isi_s, ↓op_abs, ↓op_max2, ↓op_min2, ↓op_tupL, ↓op_tupT, ↓op_lstL, ↓op_lstT, ↓ix_0, ↓ix_1, ↓ix_2, ↓ix_3, ↓tx_0, ↓tx_1, ↓tx_2, ↓tx_3, ↓Ok_datum, ↓Ok_evL0, ↓Ok_evLc, ↓Ok_eTup, ↓Ok_eLst, ↓bk_b, ↓Ok_tB, ↓Ok_eB, ↓Ok_tNot, ↓Ok_tAnd, ↓Ok_tOr, ↓Ok_eAnd, ↓Ok_eOr, ↓Ok_eIf, ↓fk_i, ↓fk_b, ↓fk_n, ↓Ok_evSe, ↓Ok_evSv, ↓ck2_b, ↓Ok_eChain,
  ↓pk_n, ↓pk_t, ↓pk_l, ↓pks_n, ↓pks_c, ↓vk_val, ↓vk_ow, ↓rvk_val, ↓rvk_ow, ↓Ok_retV, ↓augk_val, ↓Ok_augk, ↓nk_i, ↓Ok_setIx, ↓ixk_0, ↓ixk_1, ↓ixk_2, ↓apk_ow, ↓owk_ow, ↓Ok_app, ↓ak_n, ↓ak_d, ↓ak_b, ↓gk_n, ↓gk_l, ↓gk_r, ↓zk_n, ↓zk_l, ↓zk_r, ↓sgm_z, ↓sgm_s, ↓mk2_v, ↓mk2_o, ↓ik_z, ↓ik_n, ↓ik_s, ↓uk_z, ↓uk_s, ↓rtk_rt, ↓rtk_nx, ↓nok_n, ↓nok_v, ↓nok_o,
  ↓afk_nx, ↓afk_ct, ↓afk_bk, ↓afk_rt, ↓dk_l, ↓dk_t, ↓Ok_evPn, ↓Ok_evPs, ↓Ok_cutek, ↓Ok_cutv, ↓op_cutL, ↓op_cutT, ↓Ok_wSeq, ↓rk_i, ↓Ok_wRng1, ↓Ok_wRng2, ↓Ok_wEnum, ↓Ok_wZip2, ↓Ok_wZip3, ↓Ok_wN, ↓wk_n, ↓wk_c, ↓op_isB, ↓op_isNB, ↓dkk_d, ↓vk_dki, ↓lkk_s, ↓Ok_newK, ↓Ok_dlen, ↓Ok_dsorted, ↓Ok_dget, ↓Ok_dgetD, ↓Ok_dput,
  okArg_v, okArg_o, ↓Ok_tYes, nc_0, nc_1, nc_2, nc_3, nc_4, not_true_eq_false, not_false_eq_true, isN, List.length_cons, List.length_nil, Nat.zero_add, Nat.reduceAdd, List.mem_cons, List.not_mem_nil, decide_eq_true_eq, Bool.not_eq_true', decide_eq_false_iff_not, Bool.not_true, Bool.not_false, Bool.false_eq_true, if_true, if_false, true_and, and_true, or_false, or_true, true_or, reduceCtorEq, Nat.reduceEqDiff, and_self, decide_true, decide_false, Int.reduceLT, Int.reduceLE, Int.reduceEq, Int.reduceToNat, Int.reducePow, Int.reduceAdd, Int.reduceSub, Int.reduceMul, Int.reduceNeg, Int.reduceMod, Int.reduceDiv, Nat.reduceLeDiff, Nat.reduceLT, false_or, or_self, and_false, false_and]
  by_cases h : lo ≤ a <;> simp [h]
abbrev stp (a b : Int) : Int := if a ≤ b then b - a else b
theorem step_eq (a b : Int) (Q : Sv → Sl → Prop) : Rt (F_step [.val (.int a), .val (.int b)]) Q = Q (.val (.int (stp a b))) [.val (.int a), .val (.int b)] := by
  unfold F_step B_step
  simp -implicitDefEqProofs only [if_true, ↓Ok_ok, ↓Ok_bind, ↓Ok_seq, ↓thenS_nx, ↓thenS_rt, ↓thenS_bk, ↓thenS_ct, ↓Ok_sIf, ↓Ok_pass, ↓Ok_ret, ↓Ok_setk, ↓Ok_park, ↓Ok_par3k, ↓Ok_drop, ↓Ok_for, ↓Ok_while, ↓Ok_unpk, ↓Ok_callk, ↓Ok_tryC, ↓Tr_x, ↓Tr_r, ↓nmk_s, ↓muk_n, ↓muk_c, ↓mu2_s, ↓mu2_v, ↓mu2_o, ↓zrk_n, ↓zrk_c, ↓rs_h, ↓rs_v, ↓rs_o, hd_v, hd_o, hd_u, mh_n, mh_c, ↓Rt_fnk,
  ↓sg_z, ↓sg_s, ↓sw_z, ↓sw_s, ↓td_val, ↓td_ow, ↓Ok_eLit, ↓kp_val, ↓kp_ow, ↓Ok_eV, ↓Ok_op1e, ↓Ok_op1v, ↓Ok_op2ee, ↓Ok_op2ve, ↓Ok_op2ev, ↓Ok_op2vv, ↓op_add, ↓op_addL, ↓op_addT, ↓op_addI, ↓op_subI, ↓op_addB, ↓op_subB, ↓op_sub, ↓op_mul, ↓op_mod, ↓op_div, ↓op_pow, ↓op_lt, ↓op_le, ↓op_gt, ↓op_ge, ↓op_eqI, ↓op_neI, ↓op_neg, ↓op_isN, ↓op_notN, ↓op_lenL, ↓op_lenT,
  ↓op_isi_i, ↓op_isi_b, ↓op_isi_l, ↓op_isi_t, ↓op_isi_n, ↓op_isi_s, ↓op_abs, ↓op_max2, ↓op_min2, ↓op_tupL, ↓op_tupT, ↓op_lstL, ↓op_lstT, ↓ix_0, ↓ix_1, ↓ix_2, ↓ix_3, ↓tx_0, ↓tx_1, ↓tx_2, ↓tx_3, ↓Ok_datum, ↓Ok_evL0, ↓Ok_evLc, ↓Ok_eTup, ↓Ok_eLst, ↓bk_b, ↓Ok_tB, ↓Ok_eB, ↓Ok_tNot, ↓Ok_tAnd, ↓Ok_tOr, ↓Ok_eAnd, ↓Ok_eOr, ↓Ok_eIf, ↓fk_i, ↓fk_b, ↓fk_n, ↓Ok_evSe, ↓Ok_evSv, ↓ck2_b, ↓Ok_eChain,
  ↓pk_n, ↓pk_t, ↓pk_l, ↓pks_n, ↓pks_c, ↓vk_val, ↓vk_ow, ↓rvk_val, ↓rvk_ow, ↓Ok_retV, ↓augk_val, ↓Ok_augk, ↓nk_i, ↓Ok_setIx, ↓ixk_0, ↓ixk_1, ↓ixk_2, ↓apk_ow, ↓owk_ow, ↓Ok_app, ↓ak_n, ↓ak_d, ↓ak_b, ↓gk_n, ↓gk_l, ↓gk_r, ↓zk_n, ↓zk_l, ↓zk_r, ↓sgm_z, ↓sgm_s, ↓mk2_v, ↓mk2_o, ↓ik_z, ↓ik_n, ↓ik_s, ↓uk_z, ↓uk_s, ↓rtk_rt, ↓rtk_nx, ↓nok_n, ↓nok_v, ↓nok_o,
  ↓afk_nx, ↓afk_ct, ↓afk_bk, ↓afk_rt, ↓dk_l, ↓dk_t, ↓Ok_evPn, ↓Ok_evPs, ↓Ok_cutek, ↓Ok_cutv, ↓op_cutL, ↓op_cutT, ↓Ok_wSeq, ↓rk_i, ↓Ok_wRng1, ↓Ok_wRng2, ↓Ok_wEnum, ↓Ok_wZip2, ↓Ok_wZip3, ↓Ok_wN, ↓wk_n, ↓wk_c, ↓op_isB, ↓op_isNB, ↓dkk_d, ↓vk_dki, ↓lkk_s, ↓Ok_newK, ↓Ok_dlen, ↓Ok_dsorted, ↓Ok_dget, ↓Ok_dgetD, ↓Ok_dput,
  okArg_v, okArg_o, ↓Ok_tYes, nc_0, nc_1, nc_2, nc_3, nc_4, not_true_eq_false, not_false_eq_true, isN, List.length_cons, List.length_nil, Nat.zero_add, Nat.reduceAdd, List.mem_cons, List.not_mem_nil, decide_eq_true_eq, Bool.not_eq_true', decide_eq_false_iff_not, Bool.not_true, Bool.not_false, Bool.false_eq_true, if_true, if_false, true_and, and_true, or_false, or_true, true_or, reduceCtorEq, Nat.reduceEqDiff, and_self, decide_true, decide_false, Int.reduceLT, Int.reduceLE, Int.reduceEq, Int.reduceToNat, Int.reducePow, Int.reduceAdd, Int.reduceSub, Int.reduceMul, Int.reduceNeg, Int.reduceMod, Int.reduceDiv, Nat.reduceLeDiff, Nat.reduceLT, false_or, or_self, and_false, false_and]
  unfold stp
  by_cases h : a ≤ b <;> simp [h]
def prs {α : Type} (xs : List α) : List (α × α) := xs.zip (xs.drop 1)
def stps (xs : List Int) : List Int := (prs xs).map fun q => stp q.1 q.2
def dns (xs : List Int) : List Nat := (List.range (xs.length - 1)).filter fun k => decide (xs.getD (k + 1) 0 < xs.getD k 0)
theorem all_true {α : Type} {l : List α} : (l.map fun _ => PyData.bool true) = (l.map fun _ => true).map PyData.bool := by simp
theorem prs_asc {α : Type} {R : α → α → Prop} : ∀ {s : List α}, s.Pairwise R → ∀ q ∈ prs s, R q.1 q.2
  | [], _, q, h => by simp [prs] at h
  | [a], _, q, h => by simp [prs] at h
  | a :: b :: l, hp, q, h => by
    have h : q ∈ (a, b) :: prs (b :: l) := h
    rw [List.pairwise_cons] at hp
    rcases List.mem_cons.mp h with rfl | h
    · exact hp.1 b List.mem_cons_self
    · exact prs_asc hp.2 q h
end

/-! ### the package's samples -/
section
open PySem Rc
def vals (s : Smp) : List Int := s.map fun q => q.2
def est (s : Smp) : Int := (stps (vals s)).sum
theorem is_sample_eq {q : Int × Int} (h1 : 0 ≤ q.1 ∧ q.1 ≤ 1000000000) (h2 : 0 ≤ q.2 ∧ q.2 ≤ 1000000) (Q : Sv → Sl → Prop) : Rt (F_is_sample [.val (pqD q)]) Q = Q (.val (.bool true)) [.val (pqD q)] := by
  unfold F_is_sample B_is_sample pqD
  simp -implicitDefEqProofs only [↓is_from_eq, h1, h2, ↓Ok_ok, ↓Ok_bind, ↓Ok_seq, ↓thenS_nx, ↓thenS_rt, ↓thenS_bk, ↓thenS_ct, ↓Ok_sIf, ↓Ok_pass, ↓Ok_ret, ↓Ok_setk, ↓Ok_park, ↓Ok_par3k, ↓Ok_drop, ↓Ok_for, ↓Ok_while, ↓Ok_unpk, ↓Ok_callk, ↓Ok_tryC, ↓Tr_x, ↓Tr_r, ↓nmk_s, ↓muk_n, ↓muk_c, ↓mu2_s, ↓mu2_v, ↓mu2_o, ↓zrk_n, ↓zrk_c, ↓rs_h, ↓rs_v, ↓rs_o, hd_v, hd_o, hd_u, mh_n, mh_c, ↓Rt_fnk,
  ↓sg_z, ↓sg_s, ↓sw_z, ↓sw_s, ↓td_val, ↓td_ow, ↓Ok_eLit, ↓kp_val, ↓kp_ow, ↓Ok_eV, ↓Ok_op1e, ↓Ok_op1v, ↓Ok_op2ee, ↓Ok_op2ve, ↓Ok_op2ev, ↓Ok_op2vv, ↓op_add, ↓op_addL, ↓op_addT, ↓op_addI, ↓op_subI, ↓op_addB, ↓op_subB, ↓op_sub, ↓op_mul, ↓op_mod, ↓op_div, ↓op_pow, ↓op_lt, ↓op_le, ↓op_gt, ↓op_ge, ↓op_eqI, ↓op_neI, ↓op_neg, ↓op_isN, ↓op_notN, ↓op_lenL, ↓op_lenT,
  ↓op_isi_i, ↓op_isi_b, ↓op_isi_l, ↓op_isi_t, ↓op_isi_n, ↓op_isi_s, ↓op_abs, ↓op_max2, ↓op_min2, ↓op_tupL, ↓op_tupT, ↓op_lstL, ↓op_lstT, ↓ix_0, ↓ix_1, ↓ix_2, ↓ix_3, ↓tx_0, ↓tx_1, ↓tx_2, ↓tx_3, ↓Ok_datum, ↓Ok_evL0, ↓Ok_evLc, ↓Ok_eTup, ↓Ok_eLst, ↓bk_b, ↓Ok_tB, ↓Ok_eB, ↓Ok_tNot, ↓Ok_tAnd, ↓Ok_tOr, ↓Ok_eAnd, ↓Ok_eOr, ↓Ok_eIf, ↓fk_i, ↓fk_b, ↓fk_n, ↓Ok_evSe, ↓Ok_evSv, ↓ck2_b, ↓Ok_eChain,
  ↓pk_n, ↓pk_t, ↓pk_l, ↓pks_n, ↓pks_c, ↓vk_val, ↓vk_ow, ↓rvk_val, ↓rvk_ow, ↓Ok_retV, ↓augk_val, ↓Ok_augk, ↓nk_i, ↓Ok_setIx, ↓ixk_0, ↓ixk_1, ↓ixk_2, ↓apk_ow, ↓owk_ow, ↓Ok_app, ↓ak_n, ↓ak_d, ↓ak_b, ↓gk_n, ↓gk_l, ↓gk_r, ↓zk_n, ↓zk_l, ↓zk_r, ↓sgm_z, ↓sgm_s, ↓mk2_v, ↓mk2_o, ↓ik_z, ↓ik_n, ↓ik_s, ↓uk_z, ↓uk_s, ↓rtk_rt, ↓rtk_nx, ↓nok_n, ↓nok_v, ↓nok_o,
  ↓afk_nx, ↓afk_ct, ↓afk_bk, ↓afk_rt, ↓dk_l, ↓dk_t, ↓Ok_evPn, ↓Ok_evPs, ↓Ok_cutek, ↓Ok_cutv, ↓op_cutL, ↓op_cutT, ↓Ok_wSeq, ↓rk_i, ↓Ok_wRng1, ↓Ok_wRng2, ↓Ok_wEnum, ↓Ok_wZip2, ↓Ok_wZip3, ↓Ok_wN, ↓wk_n, ↓wk_c, ↓op_isB, ↓op_isNB, ↓dkk_d, ↓vk_dki, ↓lkk_s, ↓Ok_newK, ↓Ok_dlen, ↓Ok_dsorted, ↓Ok_dget, ↓Ok_dgetD, ↓Ok_dput,
  okArg_v, okArg_o, ↓Ok_tYes, nc_0, nc_1, nc_2, nc_3, nc_4, not_true_eq_false, not_false_eq_true, isN, List.length_cons, List.length_nil, Nat.zero_add, Nat.reduceAdd, List.mem_cons, List.not_mem_nil, decide_eq_true_eq, Bool.not_eq_true', decide_eq_false_iff_not, Bool.not_true, Bool.not_false, Bool.false_eq_true, if_true, if_false, true_and, and_true, or_false, or_true, true_or, reduceCtorEq, Nat.reduceEqDiff, and_self, decide_true, decide_false, Int.reduceLT, Int.reduceLE, Int.reduceEq, Int.reduceToNat, Int.reducePow, Int.reduceAdd, Int.reduceSub, Int.reduceMul, Int.reduceNeg, Int.reduceMod, Int.reduceDiv, Nat.reduceLeDiff, Nat.reduceLT, false_or, or_self, and_false, false_and]
theorem is_samples_ret {s : Smp} (g : Sm s) : F_is_samples [.val (smD s)] = .ret (.val (.bool true)) [.val (smD s)] := by
  have l40 := g.len
  refine ret_of ?_
  unfold F_is_samples B_is_samples
  simp -implicitDefEqProofs only [List.length_map, ↓Ok_ok, ↓Ok_bind, ↓Ok_seq, ↓thenS_nx, ↓thenS_rt, ↓thenS_bk, ↓thenS_ct, ↓Ok_sIf, ↓Ok_pass, ↓Ok_ret, ↓Ok_setk, ↓Ok_park, ↓Ok_par3k, ↓Ok_drop, ↓Ok_for, ↓Ok_while, ↓Ok_unpk, ↓Ok_callk, ↓Ok_tryC, ↓Tr_x, ↓Tr_r, ↓nmk_s, ↓muk_n, ↓muk_c, ↓mu2_s, ↓mu2_v, ↓mu2_o, ↓zrk_n, ↓zrk_c, ↓rs_h, ↓rs_v, ↓rs_o, hd_v, hd_o, hd_u, mh_n, mh_c, ↓Rt_fnk,
  ↓sg_z, ↓sg_s, ↓sw_z, ↓sw_s, ↓td_val, ↓td_ow, ↓Ok_eLit, ↓kp_val, ↓kp_ow, ↓Ok_eV, ↓Ok_op1e, ↓Ok_op1v, ↓Ok_op2ee, ↓Ok_op2ve, ↓Ok_op2ev, ↓Ok_op2vv, ↓op_add, ↓op_addL, ↓op_addT, ↓op_addI, ↓op_subI, ↓op_addB, ↓op_subB, ↓op_sub, ↓op_mul, ↓op_mod, ↓op_div, ↓op_pow, ↓op_lt, ↓op_le, ↓op_gt, ↓op_ge, ↓op_eqI, ↓op_neI, ↓op_neg, ↓op_isN, ↓op_notN, ↓op_lenL, ↓op_lenT,
  ↓op_isi_i, ↓op_isi_b, ↓op_isi_l, ↓op_isi_t, ↓op_isi_n, ↓op_isi_s, ↓op_abs, ↓op_max2, ↓op_min2, ↓op_tupL, ↓op_tupT, ↓op_lstL, ↓op_lstT, ↓ix_0, ↓ix_1, ↓ix_2, ↓ix_3, ↓tx_0, ↓tx_1, ↓tx_2, ↓tx_3, ↓Ok_datum, ↓Ok_evL0, ↓Ok_evLc, ↓Ok_eTup, ↓Ok_eLst, ↓bk_b, ↓Ok_tB, ↓Ok_eB, ↓Ok_tNot, ↓Ok_tAnd, ↓Ok_tOr, ↓Ok_eAnd, ↓Ok_eOr, ↓Ok_eIf, ↓fk_i, ↓fk_b, ↓fk_n, ↓Ok_evSe, ↓Ok_evSv, ↓ck2_b, ↓Ok_eChain,
  ↓pk_n, ↓pk_t, ↓pk_l, ↓pks_n, ↓pks_c, ↓vk_val, ↓vk_ow, ↓rvk_val, ↓rvk_ow, ↓Ok_retV, ↓augk_val, ↓Ok_augk, ↓nk_i, ↓Ok_setIx, ↓ixk_0, ↓ixk_1, ↓ixk_2, ↓apk_ow, ↓owk_ow, ↓Ok_app, ↓ak_n, ↓ak_d, ↓ak_b, ↓gk_n, ↓gk_l, ↓gk_r, ↓zk_n, ↓zk_l, ↓zk_r, ↓sgm_z, ↓sgm_s, ↓mk2_v, ↓mk2_o, ↓ik_z, ↓ik_n, ↓ik_s, ↓uk_z, ↓uk_s, ↓rtk_rt, ↓rtk_nx, ↓nok_n, ↓nok_v, ↓nok_o,
  ↓afk_nx, ↓afk_ct, ↓afk_bk, ↓afk_rt, ↓dk_l, ↓dk_t, ↓Ok_evPn, ↓Ok_evPs, ↓Ok_cutek, ↓Ok_cutv, ↓op_cutL, ↓op_cutT, ↓Ok_wSeq, ↓rk_i, ↓Ok_wRng1, ↓Ok_wRng2, ↓Ok_wEnum, ↓Ok_wZip2, ↓Ok_wZip3, ↓Ok_wN, ↓wk_n, ↓wk_c, ↓op_isB, ↓op_isNB, ↓dkk_d, ↓vk_dki, ↓lkk_s, ↓Ok_newK, ↓Ok_dlen, ↓Ok_dsorted, ↓Ok_dget, ↓Ok_dgetD, ↓Ok_dput,
  okArg_v, okArg_o, ↓Ok_tYes, nc_0, nc_1, nc_2, nc_3, nc_4, not_true_eq_false, not_false_eq_true, isN, List.length_cons, List.length_nil, Nat.zero_add, Nat.reduceAdd, List.mem_cons, List.not_mem_nil, decide_eq_true_eq, Bool.not_eq_true', decide_eq_false_iff_not, Bool.not_true, Bool.not_false, Bool.false_eq_true, if_true, if_false, true_and, and_true, or_false, or_true, true_or, reduceCtorEq, Nat.reduceEqDiff, and_self, decide_true, decide_false, Int.reduceLT, Int.reduceLE, Int.reduceEq, Int.reduceToNat, Int.reducePow, Int.reduceAdd, Int.reduceSub, Int.reduceMul, Int.reduceNeg, Int.reduceMod, Int.reduceDiv, Nat.reduceLeDiff, Nat.reduceLT, false_or, or_self, and_false, false_and]
  refine iff' (by omega) ?_
  refine Ok_lcM s pqD (fun _ => .bool true) ?_
  simp -implicitDefEqProofs only [if_true, ↓Ok_ok, ↓Ok_bind, ↓Ok_seq, ↓thenS_nx, ↓thenS_rt, ↓thenS_bk, ↓thenS_ct, ↓Ok_sIf, ↓Ok_pass, ↓Ok_ret, ↓Ok_setk, ↓Ok_park, ↓Ok_par3k, ↓Ok_drop, ↓Ok_for, ↓Ok_while, ↓Ok_unpk, ↓Ok_callk, ↓Ok_tryC, ↓Tr_x, ↓Tr_r, ↓nmk_s, ↓muk_n, ↓muk_c, ↓mu2_s, ↓mu2_v, ↓mu2_o, ↓zrk_n, ↓zrk_c, ↓rs_h, ↓rs_v, ↓rs_o, hd_v, hd_o, hd_u, mh_n, mh_c, ↓Rt_fnk,
  ↓sg_z, ↓sg_s, ↓sw_z, ↓sw_s, ↓td_val, ↓td_ow, ↓Ok_eLit, ↓kp_val, ↓kp_ow, ↓Ok_eV, ↓Ok_op1e, ↓Ok_op1v, ↓Ok_op2ee, ↓Ok_op2ve, ↓Ok_op2ev, ↓Ok_op2vv, ↓op_add, ↓op_addL, ↓op_addT, ↓op_addI, ↓op_subI, ↓op_addB, ↓op_subB, ↓op_sub, ↓op_mul, ↓op_mod, ↓op_div, ↓op_pow, ↓op_lt, ↓op_le, ↓op_gt, ↓op_ge, ↓op_eqI, ↓op_neI, ↓op_neg, ↓op_isN, ↓op_notN, ↓op_lenL, ↓op_lenT,
  ↓op_isi_i, ↓op_isi_b, ↓op_isi_l, ↓op_isi_t, ↓op_isi_n, ↓op_isi_s, ↓op_abs, ↓op_max2, ↓op_min2, ↓op_tupL, ↓op_tupT, ↓op_lstL, ↓op_lstT, ↓ix_0, ↓ix_1, ↓ix_2, ↓ix_3, ↓tx_0, ↓tx_1, ↓tx_2, ↓tx_3, ↓Ok_datum, ↓Ok_evL0, ↓Ok_evLc, ↓Ok_eTup, ↓Ok_eLst, ↓bk_b, ↓Ok_tB, ↓Ok_eB, ↓Ok_tNot, ↓Ok_tAnd, ↓Ok_tOr, ↓Ok_eAnd, ↓Ok_eOr, ↓Ok_eIf, ↓fk_i, ↓fk_b, ↓fk_n, ↓Ok_evSe, ↓Ok_evSv, ↓ck2_b, ↓Ok_eChain,
  ↓pk_n, ↓pk_t, ↓pk_l, ↓pks_n, ↓pks_c, ↓vk_val, ↓vk_ow, ↓rvk_val, ↓rvk_ow, ↓Ok_retV, ↓augk_val, ↓Ok_augk, ↓nk_i, ↓Ok_setIx, ↓ixk_0, ↓ixk_1, ↓ixk_2, ↓apk_ow, ↓owk_ow, ↓Ok_app, ↓ak_n, ↓ak_d, ↓ak_b, ↓gk_n, ↓gk_l, ↓gk_r, ↓zk_n, ↓zk_l, ↓zk_r, ↓sgm_z, ↓sgm_s, ↓mk2_v, ↓mk2_o, ↓ik_z, ↓ik_n, ↓ik_s, ↓uk_z, ↓uk_s, ↓rtk_rt, ↓rtk_nx, ↓nok_n, ↓nok_v, ↓nok_o,
  ↓afk_nx, ↓afk_ct, ↓afk_bk, ↓afk_rt, ↓dk_l, ↓dk_t, ↓Ok_evPn, ↓Ok_evPs, ↓Ok_cutek, ↓Ok_cutv, ↓op_cutL, ↓op_cutT, ↓Ok_wSeq, ↓rk_i, ↓Ok_wRng1, ↓Ok_wRng2, ↓Ok_wEnum, ↓Ok_wZip2, ↓Ok_wZip3, ↓Ok_wN, ↓wk_n, ↓wk_c, ↓op_isB, ↓op_isNB, ↓dkk_d, ↓vk_dki, ↓lkk_s, ↓Ok_newK, ↓Ok_dlen, ↓Ok_dsorted, ↓Ok_dget, ↓Ok_dgetD, ↓Ok_dput,
  okArg_v, okArg_o, ↓Ok_tYes, nc_0, nc_1, nc_2, nc_3, nc_4, not_true_eq_false, not_false_eq_true, isN, List.length_cons, List.length_nil, Nat.zero_add, Nat.reduceAdd, List.mem_cons, List.not_mem_nil, decide_eq_true_eq, Bool.not_eq_true', decide_eq_false_iff_not, Bool.not_true, Bool.not_false, Bool.false_eq_true, if_true, if_false, true_and, and_true, or_false, or_true, true_or, reduceCtorEq, Nat.reduceEqDiff, and_self, decide_true, decide_false, Int.reduceLT, Int.reduceLE, Int.reduceEq, Int.reduceToNat, Int.reducePow, Int.reduceAdd, Int.reduceSub, Int.reduceMul, Int.reduceNeg, Int.reduceMod, Int.reduceDiv, Nat.reduceLeDiff, Nat.reduceLT, false_or, or_self, and_false, false_and]
  refine ⟨rfl, ⟨ckN_eq (d := smD s) rfl rfl, fun q hq => ?_⟩, ?_⟩
  · have h := g.at_ q hq
    have e := fun Q => is_sample_eq (q := q) h.1 h.2 Q
    unfold itemm
    simp -implicitDefEqProofs only [↓e, ↓Ok_ok, ↓Ok_bind, ↓Ok_seq, ↓thenS_nx, ↓thenS_rt, ↓thenS_bk, ↓thenS_ct, ↓Ok_sIf, ↓Ok_pass, ↓Ok_ret, ↓Ok_setk, ↓Ok_park, ↓Ok_par3k, ↓Ok_drop, ↓Ok_for, ↓Ok_while, ↓Ok_unpk, ↓Ok_callk, ↓Ok_tryC, ↓Tr_x, ↓Tr_r, ↓nmk_s, ↓muk_n, ↓muk_c, ↓mu2_s, ↓mu2_v, ↓mu2_o, ↓zrk_n, ↓zrk_c, ↓rs_h, ↓rs_v, ↓rs_o, hd_v, hd_o, hd_u, mh_n, mh_c, ↓Rt_fnk,
  ↓sg_z, ↓sg_s, ↓sw_z, ↓sw_s, ↓td_val, ↓td_ow, ↓Ok_eLit, ↓kp_val, ↓kp_ow, ↓Ok_eV, ↓Ok_op1e, ↓Ok_op1v, ↓Ok_op2ee, ↓Ok_op2ve, ↓Ok_op2ev, ↓Ok_op2vv, ↓op_add, ↓op_addL, ↓op_addT, ↓op_addI, ↓op_subI, ↓op_addB, ↓op_subB, ↓op_sub, ↓op_mul, ↓op_mod, ↓op_div, ↓op_pow, ↓op_lt, ↓op_le, ↓op_gt, ↓op_ge, ↓op_eqI, ↓op_neI, ↓op_neg, ↓op_isN, ↓op_notN, ↓op_lenL, ↓op_lenT,
  ↓op_isi_i, ↓op_isi_b, ↓op_isi_l, ↓op_isi_t, ↓op_isi_n, ↓op_isi_s, ↓op_abs, ↓op_max2, ↓op_min2, ↓op_tupL, ↓op_tupT, ↓op_lstL, ↓op_lstT, ↓ix_0, ↓ix_1, ↓ix_2, ↓ix_3, ↓tx_0, ↓tx_1, ↓tx_2, ↓tx_3, ↓Ok_datum, ↓Ok_evL0, ↓Ok_evLc, ↓Ok_eTup, ↓Ok_eLst, ↓bk_b, ↓Ok_tB, ↓Ok_eB, ↓Ok_tNot, ↓Ok_tAnd, ↓Ok_tOr, ↓Ok_eAnd, ↓Ok_eOr, ↓Ok_eIf, ↓fk_i, ↓fk_b, ↓fk_n, ↓Ok_evSe, ↓Ok_evSv, ↓ck2_b, ↓Ok_eChain,
  ↓pk_n, ↓pk_t, ↓pk_l, ↓pks_n, ↓pks_c, ↓vk_val, ↓vk_ow, ↓rvk_val, ↓rvk_ow, ↓Ok_retV, ↓augk_val, ↓Ok_augk, ↓nk_i, ↓Ok_setIx, ↓ixk_0, ↓ixk_1, ↓ixk_2, ↓apk_ow, ↓owk_ow, ↓Ok_app, ↓ak_n, ↓ak_d, ↓ak_b, ↓gk_n, ↓gk_l, ↓gk_r, ↓zk_n, ↓zk_l, ↓zk_r, ↓sgm_z, ↓sgm_s, ↓mk2_v, ↓mk2_o, ↓ik_z, ↓ik_n, ↓ik_s, ↓uk_z, ↓uk_s, ↓rtk_rt, ↓rtk_nx, ↓nok_n, ↓nok_v, ↓nok_o,
  ↓afk_nx, ↓afk_ct, ↓afk_bk, ↓afk_rt, ↓dk_l, ↓dk_t, ↓Ok_evPn, ↓Ok_evPs, ↓Ok_cutek, ↓Ok_cutv, ↓op_cutL, ↓op_cutT, ↓Ok_wSeq, ↓rk_i, ↓Ok_wRng1, ↓Ok_wRng2, ↓Ok_wEnum, ↓Ok_wZip2, ↓Ok_wZip3, ↓Ok_wN, ↓wk_n, ↓wk_c, ↓op_isB, ↓op_isNB, ↓dkk_d, ↓vk_dki, ↓lkk_s, ↓Ok_newK, ↓Ok_dlen, ↓Ok_dsorted, ↓Ok_dget, ↓Ok_dgetD, ↓Ok_dput,
  okArg_v, okArg_o, ↓Ok_tYes, nc_0, nc_1, nc_2, nc_3, nc_4, not_true_eq_false, not_false_eq_true, isN, List.length_cons, List.length_nil, Nat.zero_add, Nat.reduceAdd, List.mem_cons, List.not_mem_nil, decide_eq_true_eq, Bool.not_eq_true', decide_eq_false_iff_not, Bool.not_true, Bool.not_false, Bool.false_eq_true, if_true, if_false, true_and, and_true, or_false, or_true, true_or, reduceCtorEq, Nat.reduceEqDiff, and_self, decide_true, decide_false, Int.reduceLT, Int.reduceLE, Int.reduceEq, Int.reduceToNat, Int.reducePow, Int.reduceAdd, Int.reduceSub, Int.reduceMul, Int.reduceNeg, Int.reduceMod, Int.reduceDiv, Nat.reduceLeDiff, Nat.reduceLT, false_or, or_self, and_false, false_and]
  · rw [all_true]
    simp -implicitDefEqProofs only [↓op_all, ↓Ok_ok, ↓Ok_bind, ↓Ok_seq, ↓thenS_nx, ↓thenS_rt, ↓thenS_bk, ↓thenS_ct, ↓Ok_sIf, ↓Ok_pass, ↓Ok_ret, ↓Ok_setk, ↓Ok_park, ↓Ok_par3k, ↓Ok_drop, ↓Ok_for, ↓Ok_while, ↓Ok_unpk, ↓Ok_callk, ↓Ok_tryC, ↓Tr_x, ↓Tr_r, ↓nmk_s, ↓muk_n, ↓muk_c, ↓mu2_s, ↓mu2_v, ↓mu2_o, ↓zrk_n, ↓zrk_c, ↓rs_h, ↓rs_v, ↓rs_o, hd_v, hd_o, hd_u, mh_n, mh_c, ↓Rt_fnk,
  ↓sg_z, ↓sg_s, ↓sw_z, ↓sw_s, ↓td_val, ↓td_ow, ↓Ok_eLit, ↓kp_val, ↓kp_ow, ↓Ok_eV, ↓Ok_op1e, ↓Ok_op1v, ↓Ok_op2ee, ↓Ok_op2ve, ↓Ok_op2ev, ↓Ok_op2vv, ↓op_add, ↓op_addL, ↓op_addT, ↓op_addI, ↓op_subI, ↓op_addB, ↓op_subB, ↓op_sub, ↓op_mul, ↓op_mod, ↓op_div, ↓op_pow, ↓op_lt, ↓op_le, ↓op_gt, ↓op_ge, ↓op_eqI, ↓op_neI, ↓op_neg, ↓op_isN, ↓op_notN, ↓op_lenL, ↓op_lenT,
  ↓op_isi_i, ↓op_isi_b, ↓op_isi_l, ↓op_isi_t, ↓op_isi_n, ↓op_isi_s, ↓op_abs, ↓op_max2, ↓op_min2, ↓op_tupL, ↓op_tupT, ↓op_lstL, ↓op_lstT, ↓ix_0, ↓ix_1, ↓ix_2, ↓ix_3, ↓tx_0, ↓tx_1, ↓tx_2, ↓tx_3, ↓Ok_datum, ↓Ok_evL0, ↓Ok_evLc, ↓Ok_eTup, ↓Ok_eLst, ↓bk_b, ↓Ok_tB, ↓Ok_eB, ↓Ok_tNot, ↓Ok_tAnd, ↓Ok_tOr, ↓Ok_eAnd, ↓Ok_eOr, ↓Ok_eIf, ↓fk_i, ↓fk_b, ↓fk_n, ↓Ok_evSe, ↓Ok_evSv, ↓ck2_b, ↓Ok_eChain,
  ↓pk_n, ↓pk_t, ↓pk_l, ↓pks_n, ↓pks_c, ↓vk_val, ↓vk_ow, ↓rvk_val, ↓rvk_ow, ↓Ok_retV, ↓augk_val, ↓Ok_augk, ↓nk_i, ↓Ok_setIx, ↓ixk_0, ↓ixk_1, ↓ixk_2, ↓apk_ow, ↓owk_ow, ↓Ok_app, ↓ak_n, ↓ak_d, ↓ak_b, ↓gk_n, ↓gk_l, ↓gk_r, ↓zk_n, ↓zk_l, ↓zk_r, ↓sgm_z, ↓sgm_s, ↓mk2_v, ↓mk2_o, ↓ik_z, ↓ik_n, ↓ik_s, ↓uk_z, ↓uk_s, ↓rtk_rt, ↓rtk_nx, ↓nok_n, ↓nok_v, ↓nok_o,
  ↓afk_nx, ↓afk_ct, ↓afk_bk, ↓afk_rt, ↓dk_l, ↓dk_t, ↓Ok_evPn, ↓Ok_evPs, ↓Ok_cutek, ↓Ok_cutv, ↓op_cutL, ↓op_cutT, ↓Ok_wSeq, ↓rk_i, ↓Ok_wRng1, ↓Ok_wRng2, ↓Ok_wEnum, ↓Ok_wZip2, ↓Ok_wZip3, ↓Ok_wN, ↓wk_n, ↓wk_c, ↓op_isB, ↓op_isNB, ↓dkk_d, ↓vk_dki, ↓lkk_s, ↓Ok_newK, ↓Ok_dlen, ↓Ok_dsorted, ↓Ok_dget, ↓Ok_dgetD, ↓Ok_dput,
  okArg_v, okArg_o, ↓Ok_tYes, nc_0, nc_1, nc_2, nc_3, nc_4, not_true_eq_false, not_false_eq_true, isN, List.length_cons, List.length_nil, Nat.zero_add, Nat.reduceAdd, List.mem_cons, List.not_mem_nil, decide_eq_true_eq, Bool.not_eq_true', decide_eq_false_iff_not, Bool.not_true, Bool.not_false, Bool.false_eq_true, if_true, if_false, true_and, and_true, or_false, or_true, true_or, reduceCtorEq, Nat.reduceEqDiff, and_self, decide_true, decide_false, Int.reduceLT, Int.reduceLE, Int.reduceEq, Int.reduceToNat, Int.reducePow, Int.reduceAdd, Int.reduceSub, Int.reduceMul, Int.reduceNeg, Int.reduceMod, Int.reduceDiv, Nat.reduceLeDiff, Nat.reduceLT, false_or, or_self, and_false, false_and]
    refine iff' (by simp) ?_
    refine Ok_lcM (prs s) (fun q => .tuple [pqD q.1, pqD q.2]) (fun _ => .bool true) ?_
    simp -implicitDefEqProofs only [if_true, ↓Ok_ok, ↓Ok_bind, ↓Ok_seq, ↓thenS_nx, ↓thenS_rt, ↓thenS_bk, ↓thenS_ct, ↓Ok_sIf, ↓Ok_pass, ↓Ok_ret, ↓Ok_setk, ↓Ok_park, ↓Ok_par3k, ↓Ok_drop, ↓Ok_for, ↓Ok_while, ↓Ok_unpk, ↓Ok_callk, ↓Ok_tryC, ↓Tr_x, ↓Tr_r, ↓nmk_s, ↓muk_n, ↓muk_c, ↓mu2_s, ↓mu2_v, ↓mu2_o, ↓zrk_n, ↓zrk_c, ↓rs_h, ↓rs_v, ↓rs_o, hd_v, hd_o, hd_u, mh_n, mh_c, ↓Rt_fnk,
  ↓sg_z, ↓sg_s, ↓sw_z, ↓sw_s, ↓td_val, ↓td_ow, ↓Ok_eLit, ↓kp_val, ↓kp_ow, ↓Ok_eV, ↓Ok_op1e, ↓Ok_op1v, ↓Ok_op2ee, ↓Ok_op2ve, ↓Ok_op2ev, ↓Ok_op2vv, ↓op_add, ↓op_addL, ↓op_addT, ↓op_addI, ↓op_subI, ↓op_addB, ↓op_subB, ↓op_sub, ↓op_mul, ↓op_mod, ↓op_div, ↓op_pow, ↓op_lt, ↓op_le, ↓op_gt, ↓op_ge, ↓op_eqI, ↓op_neI, ↓op_neg, ↓op_isN, ↓op_notN, ↓op_lenL, ↓op_lenT,
  ↓op_isi_i, ↓op_isi_b, ↓op_isi_l, ↓op_isi_t, ↓op_isi_n, ↓op_isi_s, ↓op_abs, ↓op_max2, ↓op_min2, ↓op_tupL, ↓op_tupT, ↓op_lstL, ↓op_lstT, ↓ix_0, ↓ix_1, ↓ix_2, ↓ix_3, ↓tx_0, ↓tx_1, ↓tx_2, ↓tx_3, ↓Ok_datum, ↓Ok_evL0, ↓Ok_evLc, ↓Ok_eTup, ↓Ok_eLst, ↓bk_b, ↓Ok_tB, ↓Ok_eB, ↓Ok_tNot, ↓Ok_tAnd, ↓Ok_tOr, ↓Ok_eAnd, ↓Ok_eOr, ↓Ok_eIf, ↓fk_i, ↓fk_b, ↓fk_n, ↓Ok_evSe, ↓Ok_evSv, ↓ck2_b, ↓Ok_eChain,
  ↓pk_n, ↓pk_t, ↓pk_l, ↓pks_n, ↓pks_c, ↓vk_val, ↓vk_ow, ↓rvk_val, ↓rvk_ow, ↓Ok_retV, ↓augk_val, ↓Ok_augk, ↓nk_i, ↓Ok_setIx, ↓ixk_0, ↓ixk_1, ↓ixk_2, ↓apk_ow, ↓owk_ow, ↓Ok_app, ↓ak_n, ↓ak_d, ↓ak_b, ↓gk_n, ↓gk_l, ↓gk_r, ↓zk_n, ↓zk_l, ↓zk_r, ↓sgm_z, ↓sgm_s, ↓mk2_v, ↓mk2_o, ↓ik_z, ↓ik_n, ↓ik_s, ↓uk_z, ↓uk_s, ↓rtk_rt, ↓rtk_nx, ↓nok_n, ↓nok_v, ↓nok_o,
  ↓afk_nx, ↓afk_ct, ↓afk_bk, ↓afk_rt, ↓dk_l, ↓dk_t, ↓Ok_evPn, ↓Ok_evPs, ↓Ok_cutek, ↓Ok_cutv, ↓op_cutL, ↓op_cutT, ↓Ok_wSeq, ↓rk_i, ↓Ok_wRng1, ↓Ok_wRng2, ↓Ok_wEnum, ↓Ok_wZip2, ↓Ok_wZip3, ↓Ok_wN, ↓wk_n, ↓wk_c, ↓op_isB, ↓op_isNB, ↓dkk_d, ↓vk_dki, ↓lkk_s, ↓Ok_newK, ↓Ok_dlen, ↓Ok_dsorted, ↓Ok_dget, ↓Ok_dgetD, ↓Ok_dput,
  okArg_v, okArg_o, ↓Ok_tYes, nc_0, nc_1, nc_2, nc_3, nc_4, not_true_eq_false, not_false_eq_true, isN, List.length_cons, List.length_nil, Nat.zero_add, Nat.reduceAdd, List.mem_cons, List.not_mem_nil, decide_eq_true_eq, Bool.not_eq_true', decide_eq_false_iff_not, Bool.not_true, Bool.not_false, Bool.false_eq_true, if_true, if_false, true_and, and_true, or_false, or_true, true_or, reduceCtorEq, Nat.reduceEqDiff, and_self, decide_true, decide_false, Int.reduceLT, Int.reduceLE, Int.reduceEq, Int.reduceToNat, Int.reducePow, Int.reduceAdd, Int.reduceSub, Int.reduceMul, Int.reduceNeg, Int.reduceMod, Int.reduceDiv, Nat.reduceLeDiff, Nat.reduceLT, false_or, or_self, and_false, false_and]
    refine ⟨zip2_cut pqD s, ⟨ckT_eq.mpr trivial, fun q hq => ?_⟩, ?_⟩
    · have := prs_asc g.asc q hq
      unfold itemm pqD
      simp -implicitDefEqProofs only [this, ↓Ok_ok, ↓Ok_bind, ↓Ok_seq, ↓thenS_nx, ↓thenS_rt, ↓thenS_bk, ↓thenS_ct, ↓Ok_sIf, ↓Ok_pass, ↓Ok_ret, ↓Ok_setk, ↓Ok_park, ↓Ok_par3k, ↓Ok_drop, ↓Ok_for, ↓Ok_while, ↓Ok_unpk, ↓Ok_callk, ↓Ok_tryC, ↓Tr_x, ↓Tr_r, ↓nmk_s, ↓muk_n, ↓muk_c, ↓mu2_s, ↓mu2_v, ↓mu2_o, ↓zrk_n, ↓zrk_c, ↓rs_h, ↓rs_v, ↓rs_o, hd_v, hd_o, hd_u, mh_n, mh_c, ↓Rt_fnk,
  ↓sg_z, ↓sg_s, ↓sw_z, ↓sw_s, ↓td_val, ↓td_ow, ↓Ok_eLit, ↓kp_val, ↓kp_ow, ↓Ok_eV, ↓Ok_op1e, ↓Ok_op1v, ↓Ok_op2ee, ↓Ok_op2ve, ↓Ok_op2ev, ↓Ok_op2vv, ↓op_add, ↓op_addL, ↓op_addT, ↓op_addI, ↓op_subI, ↓op_addB, ↓op_subB, ↓op_sub, ↓op_mul, ↓op_mod, ↓op_div, ↓op_pow, ↓op_lt, ↓op_le, ↓op_gt, ↓op_ge, ↓op_eqI, ↓op_neI, ↓op_neg, ↓op_isN, ↓op_notN, ↓op_lenL, ↓op_lenT,
  ↓op_isi_i, ↓op_isi_b, ↓op_isi_l, ↓op_isi_t, ↓op_isi_n, ↓op_isi_s, ↓op_abs, ↓op_max2, ↓op_min2, ↓op_tupL, ↓op_tupT, ↓op_lstL, ↓op_lstT, ↓ix_0, ↓ix_1, ↓ix_2, ↓ix_3, ↓tx_0, ↓tx_1, ↓tx_2, ↓tx_3, ↓Ok_datum, ↓Ok_evL0, ↓Ok_evLc, ↓Ok_eTup, ↓Ok_eLst, ↓bk_b, ↓Ok_tB, ↓Ok_eB, ↓Ok_tNot, ↓Ok_tAnd, ↓Ok_tOr, ↓Ok_eAnd, ↓Ok_eOr, ↓Ok_eIf, ↓fk_i, ↓fk_b, ↓fk_n, ↓Ok_evSe, ↓Ok_evSv, ↓ck2_b, ↓Ok_eChain,
  ↓pk_n, ↓pk_t, ↓pk_l, ↓pks_n, ↓pks_c, ↓vk_val, ↓vk_ow, ↓rvk_val, ↓rvk_ow, ↓Ok_retV, ↓augk_val, ↓Ok_augk, ↓nk_i, ↓Ok_setIx, ↓ixk_0, ↓ixk_1, ↓ixk_2, ↓apk_ow, ↓owk_ow, ↓Ok_app, ↓ak_n, ↓ak_d, ↓ak_b, ↓gk_n, ↓gk_l, ↓gk_r, ↓zk_n, ↓zk_l, ↓zk_r, ↓sgm_z, ↓sgm_s, ↓mk2_v, ↓mk2_o, ↓ik_z, ↓ik_n, ↓ik_s, ↓uk_z, ↓uk_s, ↓rtk_rt, ↓rtk_nx, ↓nok_n, ↓nok_v, ↓nok_o,
  ↓afk_nx, ↓afk_ct, ↓afk_bk, ↓afk_rt, ↓dk_l, ↓dk_t, ↓Ok_evPn, ↓Ok_evPs, ↓Ok_cutek, ↓Ok_cutv, ↓op_cutL, ↓op_cutT, ↓Ok_wSeq, ↓rk_i, ↓Ok_wRng1, ↓Ok_wRng2, ↓Ok_wEnum, ↓Ok_wZip2, ↓Ok_wZip3, ↓Ok_wN, ↓wk_n, ↓wk_c, ↓op_isB, ↓op_isNB, ↓dkk_d, ↓vk_dki, ↓lkk_s, ↓Ok_newK, ↓Ok_dlen, ↓Ok_dsorted, ↓Ok_dget, ↓Ok_dgetD, ↓Ok_dput,
  okArg_v, okArg_o, ↓Ok_tYes, nc_0, nc_1, nc_2, nc_3, nc_4, not_true_eq_false, not_false_eq_true, isN, List.length_cons, List.length_nil, Nat.zero_add, Nat.reduceAdd, List.mem_cons, List.not_mem_nil, decide_eq_true_eq, Bool.not_eq_true', decide_eq_false_iff_not, Bool.not_true, Bool.not_false, Bool.false_eq_true, if_true, if_false, true_and, and_true, or_false, or_true, true_or, reduceCtorEq, Nat.reduceEqDiff, and_self, decide_true, decide_false, Int.reduceLT, Int.reduceLE, Int.reduceEq, Int.reduceToNat, Int.reducePow, Int.reduceAdd, Int.reduceSub, Int.reduceMul, Int.reduceNeg, Int.reduceMod, Int.reduceDiv, Nat.reduceLeDiff, Nat.reduceLT, false_or, or_self, and_false, false_and]
    · rw [all_true]
      simp -implicitDefEqProofs only [↓op_all, ↓Ok_ok, ↓Ok_bind, ↓Ok_seq, ↓thenS_nx, ↓thenS_rt, ↓thenS_bk, ↓thenS_ct, ↓Ok_sIf, ↓Ok_pass, ↓Ok_ret, ↓Ok_setk, ↓Ok_park, ↓Ok_par3k, ↓Ok_drop, ↓Ok_for, ↓Ok_while, ↓Ok_unpk, ↓Ok_callk, ↓Ok_tryC, ↓Tr_x, ↓Tr_r, ↓nmk_s, ↓muk_n, ↓muk_c, ↓mu2_s, ↓mu2_v, ↓mu2_o, ↓zrk_n, ↓zrk_c, ↓rs_h, ↓rs_v, ↓rs_o, hd_v, hd_o, hd_u, mh_n, mh_c, ↓Rt_fnk,
  ↓sg_z, ↓sg_s, ↓sw_z, ↓sw_s, ↓td_val, ↓td_ow, ↓Ok_eLit, ↓kp_val, ↓kp_ow, ↓Ok_eV, ↓Ok_op1e, ↓Ok_op1v, ↓Ok_op2ee, ↓Ok_op2ve, ↓Ok_op2ev, ↓Ok_op2vv, ↓op_add, ↓op_addL, ↓op_addT, ↓op_addI, ↓op_subI, ↓op_addB, ↓op_subB, ↓op_sub, ↓op_mul, ↓op_mod, ↓op_div, ↓op_pow, ↓op_lt, ↓op_le, ↓op_gt, ↓op_ge, ↓op_eqI, ↓op_neI, ↓op_neg, ↓op_isN, ↓op_notN, ↓op_lenL, ↓op_lenT,
  ↓op_isi_i, ↓op_isi_b, ↓op_isi_l, ↓op_isi_t, ↓op_isi_n, ↓op_isi_s, ↓op_abs, ↓op_max2, ↓op_min2, ↓op_tupL, ↓op_tupT, ↓op_lstL, ↓op_lstT, ↓ix_0, ↓ix_1, ↓ix_2, ↓ix_3, ↓tx_0, ↓tx_1, ↓tx_2, ↓tx_3, ↓Ok_datum, ↓Ok_evL0, ↓Ok_evLc, ↓Ok_eTup, ↓Ok_eLst, ↓bk_b, ↓Ok_tB, ↓Ok_eB, ↓Ok_tNot, ↓Ok_tAnd, ↓Ok_tOr, ↓Ok_eAnd, ↓Ok_eOr, ↓Ok_eIf, ↓fk_i, ↓fk_b, ↓fk_n, ↓Ok_evSe, ↓Ok_evSv, ↓ck2_b, ↓Ok_eChain,
  ↓pk_n, ↓pk_t, ↓pk_l, ↓pks_n, ↓pks_c, ↓vk_val, ↓vk_ow, ↓rvk_val, ↓rvk_ow, ↓Ok_retV, ↓augk_val, ↓Ok_augk, ↓nk_i, ↓Ok_setIx, ↓ixk_0, ↓ixk_1, ↓ixk_2, ↓apk_ow, ↓owk_ow, ↓Ok_app, ↓ak_n, ↓ak_d, ↓ak_b, ↓gk_n, ↓gk_l, ↓gk_r, ↓zk_n, ↓zk_l, ↓zk_r, ↓sgm_z, ↓sgm_s, ↓mk2_v, ↓mk2_o, ↓ik_z, ↓ik_n, ↓ik_s, ↓uk_z, ↓uk_s, ↓rtk_rt, ↓rtk_nx, ↓nok_n, ↓nok_v, ↓nok_o,
  ↓afk_nx, ↓afk_ct, ↓afk_bk, ↓afk_rt, ↓dk_l, ↓dk_t, ↓Ok_evPn, ↓Ok_evPs, ↓Ok_cutek, ↓Ok_cutv, ↓op_cutL, ↓op_cutT, ↓Ok_wSeq, ↓rk_i, ↓Ok_wRng1, ↓Ok_wRng2, ↓Ok_wEnum, ↓Ok_wZip2, ↓Ok_wZip3, ↓Ok_wN, ↓wk_n, ↓wk_c, ↓op_isB, ↓op_isNB, ↓dkk_d, ↓vk_dki, ↓lkk_s, ↓Ok_newK, ↓Ok_dlen, ↓Ok_dsorted, ↓Ok_dget, ↓Ok_dgetD, ↓Ok_dput,
  okArg_v, okArg_o, ↓Ok_tYes, nc_0, nc_1, nc_2, nc_3, nc_4, not_true_eq_false, not_false_eq_true, isN, List.length_cons, List.length_nil, Nat.zero_add, Nat.reduceAdd, List.mem_cons, List.not_mem_nil, decide_eq_true_eq, Bool.not_eq_true', decide_eq_false_iff_not, Bool.not_true, Bool.not_false, Bool.false_eq_true, if_true, if_false, true_and, and_true, or_false, or_true, true_or, reduceCtorEq, Nat.reduceEqDiff, and_self, decide_true, decide_false, Int.reduceLT, Int.reduceLE, Int.reduceEq, Int.reduceToNat, Int.reducePow, Int.reduceAdd, Int.reduceSub, Int.reduceMul, Int.reduceNeg, Int.reduceMod, Int.reduceDiv, Nat.reduceLeDiff, Nat.reduceLT, false_or, or_self, and_false, false_and]
      simp
theorem need_s {s : Smp} (g : Sm s) (Q : Sv → Sl → Prop) : Rt (F_need_samples [.val (smD s)]) Q = Q (.val .none) [.val (smD s)] := by
  have h := fun Q => Rt_eq (Q := Q) (is_samples_ret g)
  refine Rt_eq (ret_of ?_)
  unfold F_need_samples B_need_samples
  simp -implicitDefEqProofs only [↓h, ↓Ok_ok, ↓Ok_bind, ↓Ok_seq, ↓thenS_nx, ↓thenS_rt, ↓thenS_bk, ↓thenS_ct, ↓Ok_sIf, ↓Ok_pass, ↓Ok_ret, ↓Ok_setk, ↓Ok_park, ↓Ok_par3k, ↓Ok_drop, ↓Ok_for, ↓Ok_while, ↓Ok_unpk, ↓Ok_callk, ↓Ok_tryC, ↓Tr_x, ↓Tr_r, ↓nmk_s, ↓muk_n, ↓muk_c, ↓mu2_s, ↓mu2_v, ↓mu2_o, ↓zrk_n, ↓zrk_c, ↓rs_h, ↓rs_v, ↓rs_o, hd_v, hd_o, hd_u, mh_n, mh_c, ↓Rt_fnk,
  ↓sg_z, ↓sg_s, ↓sw_z, ↓sw_s, ↓td_val, ↓td_ow, ↓Ok_eLit, ↓kp_val, ↓kp_ow, ↓Ok_eV, ↓Ok_op1e, ↓Ok_op1v, ↓Ok_op2ee, ↓Ok_op2ve, ↓Ok_op2ev, ↓Ok_op2vv, ↓op_add, ↓op_addL, ↓op_addT, ↓op_addI, ↓op_subI, ↓op_addB, ↓op_subB, ↓op_sub, ↓op_mul, ↓op_mod, ↓op_div, ↓op_pow, ↓op_lt, ↓op_le, ↓op_gt, ↓op_ge, ↓op_eqI, ↓op_neI, ↓op_neg, ↓op_isN, ↓op_notN, ↓op_lenL, ↓op_lenT,
  ↓op_isi_i, ↓op_isi_b, ↓op_isi_l, ↓op_isi_t, ↓op_isi_n, ↓op_isi_s, ↓op_abs, ↓op_max2, ↓op_min2, ↓op_tupL, ↓op_tupT, ↓op_lstL, ↓op_lstT, ↓ix_0, ↓ix_1, ↓ix_2, ↓ix_3, ↓tx_0, ↓tx_1, ↓tx_2, ↓tx_3, ↓Ok_datum, ↓Ok_evL0, ↓Ok_evLc, ↓Ok_eTup, ↓Ok_eLst, ↓bk_b, ↓Ok_tB, ↓Ok_eB, ↓Ok_tNot, ↓Ok_tAnd, ↓Ok_tOr, ↓Ok_eAnd, ↓Ok_eOr, ↓Ok_eIf, ↓fk_i, ↓fk_b, ↓fk_n, ↓Ok_evSe, ↓Ok_evSv, ↓ck2_b, ↓Ok_eChain,
  ↓pk_n, ↓pk_t, ↓pk_l, ↓pks_n, ↓pks_c, ↓vk_val, ↓vk_ow, ↓rvk_val, ↓rvk_ow, ↓Ok_retV, ↓augk_val, ↓Ok_augk, ↓nk_i, ↓Ok_setIx, ↓ixk_0, ↓ixk_1, ↓ixk_2, ↓apk_ow, ↓owk_ow, ↓Ok_app, ↓ak_n, ↓ak_d, ↓ak_b, ↓gk_n, ↓gk_l, ↓gk_r, ↓zk_n, ↓zk_l, ↓zk_r, ↓sgm_z, ↓sgm_s, ↓mk2_v, ↓mk2_o, ↓ik_z, ↓ik_n, ↓ik_s, ↓uk_z, ↓uk_s, ↓rtk_rt, ↓rtk_nx, ↓nok_n, ↓nok_v, ↓nok_o,
  ↓afk_nx, ↓afk_ct, ↓afk_bk, ↓afk_rt, ↓dk_l, ↓dk_t, ↓Ok_evPn, ↓Ok_evPs, ↓Ok_cutek, ↓Ok_cutv, ↓op_cutL, ↓op_cutT, ↓Ok_wSeq, ↓rk_i, ↓Ok_wRng1, ↓Ok_wRng2, ↓Ok_wEnum, ↓Ok_wZip2, ↓Ok_wZip3, ↓Ok_wN, ↓wk_n, ↓wk_c, ↓op_isB, ↓op_isNB, ↓dkk_d, ↓vk_dki, ↓lkk_s, ↓Ok_newK, ↓Ok_dlen, ↓Ok_dsorted, ↓Ok_dget, ↓Ok_dgetD, ↓Ok_dput,
  okArg_v, okArg_o, ↓Ok_tYes, nc_0, nc_1, nc_2, nc_3, nc_4, not_true_eq_false, not_false_eq_true, isN, List.length_cons, List.length_nil, Nat.zero_add, Nat.reduceAdd, List.mem_cons, List.not_mem_nil, decide_eq_true_eq, Bool.not_eq_true', decide_eq_false_iff_not, Bool.not_true, Bool.not_false, Bool.false_eq_true, if_true, if_false, true_and, and_true, or_false, or_true, true_or, reduceCtorEq, Nat.reduceEqDiff, and_self, decide_true, decide_false, Int.reduceLT, Int.reduceLE, Int.reduceEq, Int.reduceToNat, Int.reducePow, Int.reduceAdd, Int.reduceSub, Int.reduceMul, Int.reduceNeg, Int.reduceMod, Int.reduceDiv, Nat.reduceLeDiff, Nat.reduceLT, false_or, or_self, and_false, false_and]
end

/-! ### what raises -/
section
open PySem Rc
@[irreducible] def OkE {α : Type} (r : Res α) (Q : Ek → Sl → Prop) : Prop := match r with
  | .ex e S => Q e S
  | _ => False
@[irreducible] def RtE (r : FR) (Q : Ek → Sl → Prop) : Prop := match r with
  | .ex e S => Q e S
  | _ => False
theorem OkE_iff {α : Type} {r : Res α} {Q : Ek → Sl → Prop} : OkE r Q ↔ ∃ e S, r = .ex e S ∧ Q e S := by
  unfold OkE
  cases r with
  | ex e S => exact ⟨fun h => ⟨_, _, rfl, h⟩, fun ⟨_, _, h, q⟩ => by cases h; exact q⟩
  | ok a S => exact ⟨fun h => h.elim, fun ⟨_, _, h, _⟩ => by cases h⟩
  | no => exact ⟨fun h => h.elim, fun ⟨_, _, h, _⟩ => by cases h⟩
theorem RtE_iff {r : FR} {Q : Ek → Sl → Prop} : RtE r Q ↔ ∃ e S, r = .ex e S ∧ Q e S := by
  unfold RtE
  cases r with
  | ex e S => exact ⟨fun h => ⟨_, _, rfl, h⟩, fun ⟨_, _, h, q⟩ => by cases h; exact q⟩
  | ret a S => exact ⟨fun h => h.elim, fun ⟨_, _, h, _⟩ => by cases h⟩
  | no => exact ⟨fun h => h.elim, fun ⟨_, _, h, _⟩ => by cases h⟩
theorem Ok_iff {α : Type} {r : Res α} {Q : α → Sl → Prop} : Ok r Q ↔ ∃ a S, r = .ok a S ∧ Q a S := by
  unfold Ok
  cases r with
  | ok a S => exact ⟨fun h => ⟨_, _, rfl, h⟩, fun ⟨_, _, h, q⟩ => by cases h; exact q⟩
  | ex e S => exact ⟨fun h => h.elim, fun ⟨_, _, h, _⟩ => by cases h⟩
  | no => exact ⟨fun h => h.elim, fun ⟨_, _, h, _⟩ => by cases h⟩
section
variable {S : Sl} {Q : Ek → Sl → Prop} {a b : M Fl} {c : M Bool} {m : M Sv}
theorem E_seq1 (h : OkE (a S) Q) : OkE (sSeq a b S) Q := by
  obtain ⟨e, S1, h, q⟩ := OkE_iff.mp h
  exact OkE_iff.mpr ⟨e, S1, by unfold sSeq; rw [h]; rfl, q⟩
theorem E_seq2 (h : Ok (a S) fun f S1 => f = .nx ∧ OkE (b S1) Q) : OkE (sSeq a b S) Q := by
  obtain ⟨f, S1, e, rfl, h⟩ := Ok_iff.mp h
  obtain ⟨k, S2, h, q⟩ := OkE_iff.mp h
  exact OkE_iff.mpr ⟨k, S2, by unfold sSeq; rw [e]; exact h, q⟩
theorem E_if (h : Ok (c S) fun x S1 => if x = true then OkE (a S1) Q else OkE (b S1) Q) : OkE (sIf c a b S) Q := by
  obtain ⟨x, S1, e, h⟩ := Ok_iff.mp h
  by_cases hx : x = true
  · rw [if_pos hx] at h
    obtain ⟨k, S2, h, q⟩ := OkE_iff.mp h
    exact OkE_iff.mpr ⟨k, S2, by unfold sIf; rw [e]; show (if x then a S1 else b S1) = _; rw [if_pos hx]; exact h, q⟩
  · rw [if_neg hx] at h
    obtain ⟨k, S2, h, q⟩ := OkE_iff.mp h
    exact OkE_iff.mpr ⟨k, S2, by unfold sIf; rw [e]; show (if x then a S1 else b S1) = _; rw [if_neg hx]; exact h, q⟩
theorem E_raise {e : Ek} : OkE (sRaise e S) Q = Q e S := by unfold OkE sRaise; rfl
theorem E_drop (h : OkE (m S) Q) : OkE (sDrop m S) Q := by
  obtain ⟨e, S1, h, q⟩ := OkE_iff.mp h
  exact OkE_iff.mpr ⟨e, S1, by unfold sDrop; rw [h]; rfl, q⟩
theorem E_ret (h : OkE (m S) Q) : OkE (sRet m S) Q := by
  obtain ⟨e, S1, h, q⟩ := OkE_iff.mp h
  exact OkE_iff.mpr ⟨e, S1, by unfold sRet; rw [h]; rfl, q⟩
theorem E_set {i : Nat} (h : OkE (m S) Q) : OkE (sSet i m S) Q := by
  obtain ⟨e, S1, h, q⟩ := OkE_iff.mp h
  exact OkE_iff.mpr ⟨e, S1, by unfold sSet; rw [h]; rfl, q⟩
theorem E_call {F : AF} {as : List Am} (h : ak as S fun vs S1 => gk vs S1 fun args => RtE (F args) fun e outs => zk vs S1 outs fun T => Q e T) : OkE (eCall F as S) Q := by
  rw [ak_eq] at h
  obtain ⟨vs, S1, e, h⟩ := Ok_iff.mp h
  rw [gk_eq] at h
  obtain ⟨ok, h⟩ := h
  obtain ⟨k, outs, h, q⟩ := RtE_iff.mp h
  rw [zk_eq] at q
  exact OkE_iff.mpr ⟨k, _, by unfold eCall; rw [e]; show (if _ then _ else _) = _; rw [if_pos ok, h], q⟩
theorem RtE_fn {n : Nat} {lst : List Nat} {b : M Fl} {args : Sl} : RtE (fn n lst b args) Q = nok lst 0 args (ik n args fun S => OkE (b S) fun e S1 => Q e (outsOf args.length S1)) := by
  rw [nok_eq, ik_eq]
  apply propext
  rw [RtE_iff, OkE_iff]
  unfold fn
  by_cases h : noOw lst 0 args = true
  · rw [if_pos h]
    unfold mkF
    constructor
    · rintro ⟨e, S1, h1, q⟩
      refine ⟨h, ?_⟩
      cases eb : b (args ++ List.replicate (n - args.length) .un) with
      | no => rw [eb] at h1; cases h1
      | ok f S2 => rw [eb] at h1; cases f <;> cases h1
      | ex k S2 => rw [eb] at h1; cases h1; exact ⟨_, _, rfl, q⟩
    · rintro ⟨_, e, S1, h1, q⟩
      exact ⟨e, _, by rw [h1], q⟩
  · rw [if_neg h]
    simp [h]
theorem ex_of {F : AF} {args : Sl} {e0 : Ek} {o0 : Sl} (h : RtE (F args) fun e o => e = e0 ∧ o = o0) : F args = .ex e0 o0 := by
  obtain ⟨e, o, h, h1, h2⟩ := RtE_iff.mp h
  rw [h, h1, h2]
theorem RtE_eq {F : AF} {args : Sl} {e0 : Ek} {o0 : Sl} (h : F args = .ex e0 o0) : RtE (F args) Q = Q e0 o0 := by
  rw [h]
  unfold RtE
  rfl
end
end

section
open PySem Rc
theorem pq_0 {q : Int × Int} {k : Sv → Prop} : op2 dIx (pqD q) (.int 0) k = k (.val (.int q.1)) := tx_0
theorem pq_1 {q : Int × Int} {k : Sv → Prop} : op2 dIx (pqD q) (.int 1) k = k (.val (.int q.2)) := tx_1
end

/-! ### statuses -/
section
open PySem Rc
abbrev Gp := Int × Int × Int
abbrev gpD (q : Gp) : D := .tuple [.int q.1, .int q.2.1, .int q.2.2]
def gps (s : Smp) : List Gp := (prs s).map fun q => (q.2.1 - q.1.1, q.1.2, q.2.2)
theorem gaps_rt (s : Smp) (Q : Sv → Sl → Prop) : Rt (F_gaps_of [.val (smD s)]) Q = Q (.ow ((gps s).map gpD)) [.val (smD s)] := by
  refine Rt_eq (ret_of ?_)
  unfold F_gaps_of B_gaps_of
  simp -implicitDefEqProofs only [if_true, ↓Ok_ok, ↓Ok_bind, ↓Ok_seq, ↓thenS_nx, ↓thenS_rt, ↓thenS_bk, ↓thenS_ct, ↓Ok_sIf, ↓Ok_pass, ↓Ok_ret, ↓Ok_setk, ↓Ok_park, ↓Ok_par3k, ↓Ok_drop, ↓Ok_for, ↓Ok_while, ↓Ok_unpk, ↓Ok_callk, ↓Ok_tryC, ↓Tr_x, ↓Tr_r, ↓nmk_s, ↓muk_n, ↓muk_c, ↓mu2_s, ↓mu2_v, ↓mu2_o, ↓zrk_n, ↓zrk_c, ↓rs_h, ↓rs_v, ↓rs_o, hd_v, hd_o, hd_u, mh_n, mh_c, ↓Rt_fnk,
  ↓sg_z, ↓sg_s, ↓sw_z, ↓sw_s, ↓td_val, ↓td_ow, ↓Ok_eLit, ↓kp_val, ↓kp_ow, ↓Ok_eV, ↓Ok_op1e, ↓Ok_op1v, ↓Ok_op2ee, ↓Ok_op2ve, ↓Ok_op2ev, ↓Ok_op2vv, ↓op_add, ↓op_addL, ↓op_addT, ↓op_addI, ↓op_subI, ↓op_addB, ↓op_subB, ↓op_sub, ↓op_mul, ↓op_mod, ↓op_div, ↓op_pow, ↓op_lt, ↓op_le, ↓op_gt, ↓op_ge, ↓op_eqI, ↓op_neI, ↓op_neg, ↓op_isN, ↓op_notN, ↓op_lenL, ↓op_lenT,
  ↓op_isi_i, ↓op_isi_b, ↓op_isi_l, ↓op_isi_t, ↓op_isi_n, ↓op_isi_s, ↓op_abs, ↓op_max2, ↓op_min2, ↓op_tupL, ↓op_tupT, ↓op_lstL, ↓op_lstT, ↓ix_0, ↓ix_1, ↓ix_2, ↓ix_3, ↓tx_0, ↓tx_1, ↓tx_2, ↓tx_3, ↓Ok_datum, ↓Ok_evL0, ↓Ok_evLc, ↓Ok_eTup, ↓Ok_eLst, ↓bk_b, ↓Ok_tB, ↓Ok_eB, ↓Ok_tNot, ↓Ok_tAnd, ↓Ok_tOr, ↓Ok_eAnd, ↓Ok_eOr, ↓Ok_eIf, ↓fk_i, ↓fk_b, ↓fk_n, ↓Ok_evSe, ↓Ok_evSv, ↓ck2_b, ↓Ok_eChain,
  ↓pk_n, ↓pk_t, ↓pk_l, ↓pks_n, ↓pks_c, ↓vk_val, ↓vk_ow, ↓rvk_val, ↓rvk_ow, ↓Ok_retV, ↓augk_val, ↓Ok_augk, ↓nk_i, ↓Ok_setIx, ↓ixk_0, ↓ixk_1, ↓ixk_2, ↓apk_ow, ↓owk_ow, ↓Ok_app, ↓ak_n, ↓ak_d, ↓ak_b, ↓gk_n, ↓gk_l, ↓gk_r, ↓zk_n, ↓zk_l, ↓zk_r, ↓sgm_z, ↓sgm_s, ↓mk2_v, ↓mk2_o, ↓ik_z, ↓ik_n, ↓ik_s, ↓uk_z, ↓uk_s, ↓rtk_rt, ↓rtk_nx, ↓nok_n, ↓nok_v, ↓nok_o,
  ↓afk_nx, ↓afk_ct, ↓afk_bk, ↓afk_rt, ↓dk_l, ↓dk_t, ↓Ok_evPn, ↓Ok_evPs, ↓Ok_cutek, ↓Ok_cutv, ↓op_cutL, ↓op_cutT, ↓Ok_wSeq, ↓rk_i, ↓Ok_wRng1, ↓Ok_wRng2, ↓Ok_wEnum, ↓Ok_wZip2, ↓Ok_wZip3, ↓Ok_wN, ↓wk_n, ↓wk_c, ↓op_isB, ↓op_isNB, ↓dkk_d, ↓vk_dki, ↓lkk_s, ↓Ok_newK, ↓Ok_dlen, ↓Ok_dsorted, ↓Ok_dget, ↓Ok_dgetD, ↓Ok_dput,
  okArg_v, okArg_o, ↓Ok_tYes, nc_0, nc_1, nc_2, nc_3, nc_4, not_true_eq_false, not_false_eq_true, isN, List.length_cons, List.length_nil, Nat.zero_add, Nat.reduceAdd, List.mem_cons, List.not_mem_nil, decide_eq_true_eq, Bool.not_eq_true', decide_eq_false_iff_not, Bool.not_true, Bool.not_false, Bool.false_eq_true, if_true, if_false, true_and, and_true, or_false, or_true, true_or, reduceCtorEq, Nat.reduceEqDiff, and_self, decide_true, decide_false, Int.reduceLT, Int.reduceLE, Int.reduceEq, Int.reduceToNat, Int.reducePow, Int.reduceAdd, Int.reduceSub, Int.reduceMul, Int.reduceNeg, Int.reduceMod, Int.reduceDiv, Nat.reduceLeDiff, Nat.reduceLT, false_or, or_self, and_false, false_and]
  refine Ok_lcM (prs s) (fun q => .tuple [pqD q.1, pqD q.2]) (fun q => gpD (q.2.1 - q.1.1, q.1.2, q.2.2)) ?_
  simp -implicitDefEqProofs only [if_true, ↓Ok_ok, ↓Ok_bind, ↓Ok_seq, ↓thenS_nx, ↓thenS_rt, ↓thenS_bk, ↓thenS_ct, ↓Ok_sIf, ↓Ok_pass, ↓Ok_ret, ↓Ok_setk, ↓Ok_park, ↓Ok_par3k, ↓Ok_drop, ↓Ok_for, ↓Ok_while, ↓Ok_unpk, ↓Ok_callk, ↓Ok_tryC, ↓Tr_x, ↓Tr_r, ↓nmk_s, ↓muk_n, ↓muk_c, ↓mu2_s, ↓mu2_v, ↓mu2_o, ↓zrk_n, ↓zrk_c, ↓rs_h, ↓rs_v, ↓rs_o, hd_v, hd_o, hd_u, mh_n, mh_c, ↓Rt_fnk,
  ↓sg_z, ↓sg_s, ↓sw_z, ↓sw_s, ↓td_val, ↓td_ow, ↓Ok_eLit, ↓kp_val, ↓kp_ow, ↓Ok_eV, ↓Ok_op1e, ↓Ok_op1v, ↓Ok_op2ee, ↓Ok_op2ve, ↓Ok_op2ev, ↓Ok_op2vv, ↓op_add, ↓op_addL, ↓op_addT, ↓op_addI, ↓op_subI, ↓op_addB, ↓op_subB, ↓op_sub, ↓op_mul, ↓op_mod, ↓op_div, ↓op_pow, ↓op_lt, ↓op_le, ↓op_gt, ↓op_ge, ↓op_eqI, ↓op_neI, ↓op_neg, ↓op_isN, ↓op_notN, ↓op_lenL, ↓op_lenT,
  ↓op_isi_i, ↓op_isi_b, ↓op_isi_l, ↓op_isi_t, ↓op_isi_n, ↓op_isi_s, ↓op_abs, ↓op_max2, ↓op_min2, ↓op_tupL, ↓op_tupT, ↓op_lstL, ↓op_lstT, ↓ix_0, ↓ix_1, ↓ix_2, ↓ix_3, ↓tx_0, ↓tx_1, ↓tx_2, ↓tx_3, ↓Ok_datum, ↓Ok_evL0, ↓Ok_evLc, ↓Ok_eTup, ↓Ok_eLst, ↓bk_b, ↓Ok_tB, ↓Ok_eB, ↓Ok_tNot, ↓Ok_tAnd, ↓Ok_tOr, ↓Ok_eAnd, ↓Ok_eOr, ↓Ok_eIf, ↓fk_i, ↓fk_b, ↓fk_n, ↓Ok_evSe, ↓Ok_evSv, ↓ck2_b, ↓Ok_eChain,
  ↓pk_n, ↓pk_t, ↓pk_l, ↓pks_n, ↓pks_c, ↓vk_val, ↓vk_ow, ↓rvk_val, ↓rvk_ow, ↓Ok_retV, ↓augk_val, ↓Ok_augk, ↓nk_i, ↓Ok_setIx, ↓ixk_0, ↓ixk_1, ↓ixk_2, ↓apk_ow, ↓owk_ow, ↓Ok_app, ↓ak_n, ↓ak_d, ↓ak_b, ↓gk_n, ↓gk_l, ↓gk_r, ↓zk_n, ↓zk_l, ↓zk_r, ↓sgm_z, ↓sgm_s, ↓mk2_v, ↓mk2_o, ↓ik_z, ↓ik_n, ↓ik_s, ↓uk_z, ↓uk_s, ↓rtk_rt, ↓rtk_nx, ↓nok_n, ↓nok_v, ↓nok_o,
  ↓afk_nx, ↓afk_ct, ↓afk_bk, ↓afk_rt, ↓dk_l, ↓dk_t, ↓Ok_evPn, ↓Ok_evPs, ↓Ok_cutek, ↓Ok_cutv, ↓op_cutL, ↓op_cutT, ↓Ok_wSeq, ↓rk_i, ↓Ok_wRng1, ↓Ok_wRng2, ↓Ok_wEnum, ↓Ok_wZip2, ↓Ok_wZip3, ↓Ok_wN, ↓wk_n, ↓wk_c, ↓op_isB, ↓op_isNB, ↓dkk_d, ↓vk_dki, ↓lkk_s, ↓Ok_newK, ↓Ok_dlen, ↓Ok_dsorted, ↓Ok_dget, ↓Ok_dgetD, ↓Ok_dput,
  okArg_v, okArg_o, ↓Ok_tYes, nc_0, nc_1, nc_2, nc_3, nc_4, not_true_eq_false, not_false_eq_true, isN, List.length_cons, List.length_nil, Nat.zero_add, Nat.reduceAdd, List.mem_cons, List.not_mem_nil, decide_eq_true_eq, Bool.not_eq_true', decide_eq_false_iff_not, Bool.not_true, Bool.not_false, Bool.false_eq_true, if_true, if_false, true_and, and_true, or_false, or_true, true_or, reduceCtorEq, Nat.reduceEqDiff, and_self, decide_true, decide_false, Int.reduceLT, Int.reduceLE, Int.reduceEq, Int.reduceToNat, Int.reducePow, Int.reduceAdd, Int.reduceSub, Int.reduceMul, Int.reduceNeg, Int.reduceMod, Int.reduceDiv, Nat.reduceLeDiff, Nat.reduceLT, false_or, or_self, and_false, false_and]
  refine ⟨zip2_cut pqD s, ⟨ckT_eq.mpr trivial, fun q _ => ?_⟩, ?_⟩
  · unfold itemm
    simp -implicitDefEqProofs only [↓pq_0, ↓pq_1, ↓Ok_ok, ↓Ok_bind, ↓Ok_seq, ↓thenS_nx, ↓thenS_rt, ↓thenS_bk, ↓thenS_ct, ↓Ok_sIf, ↓Ok_pass, ↓Ok_ret, ↓Ok_setk, ↓Ok_park, ↓Ok_par3k, ↓Ok_drop, ↓Ok_for, ↓Ok_while, ↓Ok_unpk, ↓Ok_callk, ↓Ok_tryC, ↓Tr_x, ↓Tr_r, ↓nmk_s, ↓muk_n, ↓muk_c, ↓mu2_s, ↓mu2_v, ↓mu2_o, ↓zrk_n, ↓zrk_c, ↓rs_h, ↓rs_v, ↓rs_o, hd_v, hd_o, hd_u, mh_n, mh_c, ↓Rt_fnk,
  ↓sg_z, ↓sg_s, ↓sw_z, ↓sw_s, ↓td_val, ↓td_ow, ↓Ok_eLit, ↓kp_val, ↓kp_ow, ↓Ok_eV, ↓Ok_op1e, ↓Ok_op1v, ↓Ok_op2ee, ↓Ok_op2ve, ↓Ok_op2ev, ↓Ok_op2vv, ↓op_add, ↓op_addL, ↓op_addT, ↓op_addI, ↓op_subI, ↓op_addB, ↓op_subB, ↓op_sub, ↓op_mul, ↓op_mod, ↓op_div, ↓op_pow, ↓op_lt, ↓op_le, ↓op_gt, ↓op_ge, ↓op_eqI, ↓op_neI, ↓op_neg, ↓op_isN, ↓op_notN, ↓op_lenL, ↓op_lenT,
  ↓op_isi_i, ↓op_isi_b, ↓op_isi_l, ↓op_isi_t, ↓op_isi_n, ↓op_isi_s, ↓op_abs, ↓op_max2, ↓op_min2, ↓op_tupL, ↓op_tupT, ↓op_lstL, ↓op_lstT, ↓ix_0, ↓ix_1, ↓ix_2, ↓ix_3, ↓tx_0, ↓tx_1, ↓tx_2, ↓tx_3, ↓Ok_datum, ↓Ok_evL0, ↓Ok_evLc, ↓Ok_eTup, ↓Ok_eLst, ↓bk_b, ↓Ok_tB, ↓Ok_eB, ↓Ok_tNot, ↓Ok_tAnd, ↓Ok_tOr, ↓Ok_eAnd, ↓Ok_eOr, ↓Ok_eIf, ↓fk_i, ↓fk_b, ↓fk_n, ↓Ok_evSe, ↓Ok_evSv, ↓ck2_b, ↓Ok_eChain,
  ↓pk_n, ↓pk_t, ↓pk_l, ↓pks_n, ↓pks_c, ↓vk_val, ↓vk_ow, ↓rvk_val, ↓rvk_ow, ↓Ok_retV, ↓augk_val, ↓Ok_augk, ↓nk_i, ↓Ok_setIx, ↓ixk_0, ↓ixk_1, ↓ixk_2, ↓apk_ow, ↓owk_ow, ↓Ok_app, ↓ak_n, ↓ak_d, ↓ak_b, ↓gk_n, ↓gk_l, ↓gk_r, ↓zk_n, ↓zk_l, ↓zk_r, ↓sgm_z, ↓sgm_s, ↓mk2_v, ↓mk2_o, ↓ik_z, ↓ik_n, ↓ik_s, ↓uk_z, ↓uk_s, ↓rtk_rt, ↓rtk_nx, ↓nok_n, ↓nok_v, ↓nok_o,
  ↓afk_nx, ↓afk_ct, ↓afk_bk, ↓afk_rt, ↓dk_l, ↓dk_t, ↓Ok_evPn, ↓Ok_evPs, ↓Ok_cutek, ↓Ok_cutv, ↓op_cutL, ↓op_cutT, ↓Ok_wSeq, ↓rk_i, ↓Ok_wRng1, ↓Ok_wRng2, ↓Ok_wEnum, ↓Ok_wZip2, ↓Ok_wZip3, ↓Ok_wN, ↓wk_n, ↓wk_c, ↓op_isB, ↓op_isNB, ↓dkk_d, ↓vk_dki, ↓lkk_s, ↓Ok_newK, ↓Ok_dlen, ↓Ok_dsorted, ↓Ok_dget, ↓Ok_dgetD, ↓Ok_dput,
  okArg_v, okArg_o, ↓Ok_tYes, nc_0, nc_1, nc_2, nc_3, nc_4, not_true_eq_false, not_false_eq_true, isN, List.length_cons, List.length_nil, Nat.zero_add, Nat.reduceAdd, List.mem_cons, List.not_mem_nil, decide_eq_true_eq, Bool.not_eq_true', decide_eq_false_iff_not, Bool.not_true, Bool.not_false, Bool.false_eq_true, if_true, if_false, true_and, and_true, or_false, or_true, true_or, reduceCtorEq, Nat.reduceEqDiff, and_self, decide_true, decide_false, Int.reduceLT, Int.reduceLE, Int.reduceEq, Int.reduceToNat, Int.reducePow, Int.reduceAdd, Int.reduceSub, Int.reduceMul, Int.reduceNeg, Int.reduceMod, Int.reduceDiv, Nat.reduceLeDiff, Nat.reduceLT, false_or, or_self, and_false, false_and]
  · rw [gps, List.map_map]
    rfl
theorem need_r {r : Int} (h0 : 1 ≤ r) (h1 : r ≤ 1000000) (Q : Sv → Sl → Prop) : Rt (F_need_rate [.val (.int r)]) Q = Q (.val .none) [.val (.int r)] := by
  refine Rt_eq (ret_of ?_)
  unfold F_need_rate B_need_rate
  simp -implicitDefEqProofs only [↓is_from_eq, ↓Ok_ok, ↓Ok_bind, ↓Ok_seq, ↓thenS_nx, ↓thenS_rt, ↓thenS_bk, ↓thenS_ct, ↓Ok_sIf, ↓Ok_pass, ↓Ok_ret, ↓Ok_setk, ↓Ok_park, ↓Ok_par3k, ↓Ok_drop, ↓Ok_for, ↓Ok_while, ↓Ok_unpk, ↓Ok_callk, ↓Ok_tryC, ↓Tr_x, ↓Tr_r, ↓nmk_s, ↓muk_n, ↓muk_c, ↓mu2_s, ↓mu2_v, ↓mu2_o, ↓zrk_n, ↓zrk_c, ↓rs_h, ↓rs_v, ↓rs_o, hd_v, hd_o, hd_u, mh_n, mh_c, ↓Rt_fnk,
  ↓sg_z, ↓sg_s, ↓sw_z, ↓sw_s, ↓td_val, ↓td_ow, ↓Ok_eLit, ↓kp_val, ↓kp_ow, ↓Ok_eV, ↓Ok_op1e, ↓Ok_op1v, ↓Ok_op2ee, ↓Ok_op2ve, ↓Ok_op2ev, ↓Ok_op2vv, ↓op_add, ↓op_addL, ↓op_addT, ↓op_addI, ↓op_subI, ↓op_addB, ↓op_subB, ↓op_sub, ↓op_mul, ↓op_mod, ↓op_div, ↓op_pow, ↓op_lt, ↓op_le, ↓op_gt, ↓op_ge, ↓op_eqI, ↓op_neI, ↓op_neg, ↓op_isN, ↓op_notN, ↓op_lenL, ↓op_lenT,
  ↓op_isi_i, ↓op_isi_b, ↓op_isi_l, ↓op_isi_t, ↓op_isi_n, ↓op_isi_s, ↓op_abs, ↓op_max2, ↓op_min2, ↓op_tupL, ↓op_tupT, ↓op_lstL, ↓op_lstT, ↓ix_0, ↓ix_1, ↓ix_2, ↓ix_3, ↓tx_0, ↓tx_1, ↓tx_2, ↓tx_3, ↓Ok_datum, ↓Ok_evL0, ↓Ok_evLc, ↓Ok_eTup, ↓Ok_eLst, ↓bk_b, ↓Ok_tB, ↓Ok_eB, ↓Ok_tNot, ↓Ok_tAnd, ↓Ok_tOr, ↓Ok_eAnd, ↓Ok_eOr, ↓Ok_eIf, ↓fk_i, ↓fk_b, ↓fk_n, ↓Ok_evSe, ↓Ok_evSv, ↓ck2_b, ↓Ok_eChain,
  ↓pk_n, ↓pk_t, ↓pk_l, ↓pks_n, ↓pks_c, ↓vk_val, ↓vk_ow, ↓rvk_val, ↓rvk_ow, ↓Ok_retV, ↓augk_val, ↓Ok_augk, ↓nk_i, ↓Ok_setIx, ↓ixk_0, ↓ixk_1, ↓ixk_2, ↓apk_ow, ↓owk_ow, ↓Ok_app, ↓ak_n, ↓ak_d, ↓ak_b, ↓gk_n, ↓gk_l, ↓gk_r, ↓zk_n, ↓zk_l, ↓zk_r, ↓sgm_z, ↓sgm_s, ↓mk2_v, ↓mk2_o, ↓ik_z, ↓ik_n, ↓ik_s, ↓uk_z, ↓uk_s, ↓rtk_rt, ↓rtk_nx, ↓nok_n, ↓nok_v, ↓nok_o,
  ↓afk_nx, ↓afk_ct, ↓afk_bk, ↓afk_rt, ↓dk_l, ↓dk_t, ↓Ok_evPn, ↓Ok_evPs, ↓Ok_cutek, ↓Ok_cutv, ↓op_cutL, ↓op_cutT, ↓Ok_wSeq, ↓rk_i, ↓Ok_wRng1, ↓Ok_wRng2, ↓Ok_wEnum, ↓Ok_wZip2, ↓Ok_wZip3, ↓Ok_wN, ↓wk_n, ↓wk_c, ↓op_isB, ↓op_isNB, ↓dkk_d, ↓vk_dki, ↓lkk_s, ↓Ok_newK, ↓Ok_dlen, ↓Ok_dsorted, ↓Ok_dget, ↓Ok_dgetD, ↓Ok_dput,
  okArg_v, okArg_o, ↓Ok_tYes, nc_0, nc_1, nc_2, nc_3, nc_4, not_true_eq_false, not_false_eq_true, isN, List.length_cons, List.length_nil, Nat.zero_add, Nat.reduceAdd, List.mem_cons, List.not_mem_nil, decide_eq_true_eq, Bool.not_eq_true', decide_eq_false_iff_not, Bool.not_true, Bool.not_false, Bool.false_eq_true, if_true, if_false, true_and, and_true, or_false, or_true, true_or, reduceCtorEq, Nat.reduceEqDiff, and_self, decide_true, decide_false, Int.reduceLT, Int.reduceLE, Int.reduceEq, Int.reduceToNat, Int.reducePow, Int.reduceAdd, Int.reduceSub, Int.reduceMul, Int.reduceNeg, Int.reduceMod, Int.reduceDiv, Nat.reduceLeDiff, Nat.reduceLT, false_or, or_self, and_false, false_and]
  exact iff' (fun h => h ⟨h0, h1⟩) trivial
/-- without a restart it can be; with one -/
abbrev plain (q : Gp) (r : Int) : Bool := decide (0 ≤ q.2.2 - q.2.1 ∧ q.2.2 - q.2.1 ≤ r * q.1)
abbrev again (q : Gp) (r : Int) : Bool := decide (q.2.2 ≤ r * q.1)
theorem options_rt (q : Gp) {r : Int} (h0 : 0 ≤ r) (h1 : r ≤ 1000000) (Q : Sv → Sl → Prop) : Rt (F_options [.val (gpD q), .val (.int r)]) Q =
    Q (.val (.tuple [if plain q r then .tuple [.int (q.2.2 - q.2.1), .int (q.2.2 - q.2.1)] else .none, if again q r then .tuple [.int q.2.2, .int (r * q.1)] else .none])) [.val (gpD q), .val (.int r)] := by
  refine Rt_eq (ret_of ?_)
  unfold F_options B_options
  simp -implicitDefEqProofs only [if_true, ↓Ok_ok, ↓Ok_bind, ↓Ok_seq, ↓thenS_nx, ↓thenS_rt, ↓thenS_bk, ↓thenS_ct, ↓Ok_sIf, ↓Ok_pass, ↓Ok_ret, ↓Ok_setk, ↓Ok_park, ↓Ok_par3k, ↓Ok_drop, ↓Ok_for, ↓Ok_while, ↓Ok_unpk, ↓Ok_callk, ↓Ok_tryC, ↓Tr_x, ↓Tr_r, ↓nmk_s, ↓muk_n, ↓muk_c, ↓mu2_s, ↓mu2_v, ↓mu2_o, ↓zrk_n, ↓zrk_c, ↓rs_h, ↓rs_v, ↓rs_o, hd_v, hd_o, hd_u, mh_n, mh_c, ↓Rt_fnk,
  ↓sg_z, ↓sg_s, ↓sw_z, ↓sw_s, ↓td_val, ↓td_ow, ↓Ok_eLit, ↓kp_val, ↓kp_ow, ↓Ok_eV, ↓Ok_op1e, ↓Ok_op1v, ↓Ok_op2ee, ↓Ok_op2ve, ↓Ok_op2ev, ↓Ok_op2vv, ↓op_add, ↓op_addL, ↓op_addT, ↓op_addI, ↓op_subI, ↓op_addB, ↓op_subB, ↓op_sub, ↓op_mul, ↓op_mod, ↓op_div, ↓op_pow, ↓op_lt, ↓op_le, ↓op_gt, ↓op_ge, ↓op_eqI, ↓op_neI, ↓op_neg, ↓op_isN, ↓op_notN, ↓op_lenL, ↓op_lenT,
  ↓op_isi_i, ↓op_isi_b, ↓op_isi_l, ↓op_isi_t, ↓op_isi_n, ↓op_isi_s, ↓op_abs, ↓op_max2, ↓op_min2, ↓op_tupL, ↓op_tupT, ↓op_lstL, ↓op_lstT, ↓ix_0, ↓ix_1, ↓ix_2, ↓ix_3, ↓tx_0, ↓tx_1, ↓tx_2, ↓tx_3, ↓Ok_datum, ↓Ok_evL0, ↓Ok_evLc, ↓Ok_eTup, ↓Ok_eLst, ↓bk_b, ↓Ok_tB, ↓Ok_eB, ↓Ok_tNot, ↓Ok_tAnd, ↓Ok_tOr, ↓Ok_eAnd, ↓Ok_eOr, ↓Ok_eIf, ↓fk_i, ↓fk_b, ↓fk_n, ↓Ok_evSe, ↓Ok_evSv, ↓ck2_b, ↓Ok_eChain,
  ↓pk_n, ↓pk_t, ↓pk_l, ↓pks_n, ↓pks_c, ↓vk_val, ↓vk_ow, ↓rvk_val, ↓rvk_ow, ↓Ok_retV, ↓augk_val, ↓Ok_augk, ↓nk_i, ↓Ok_setIx, ↓ixk_0, ↓ixk_1, ↓ixk_2, ↓apk_ow, ↓owk_ow, ↓Ok_app, ↓ak_n, ↓ak_d, ↓ak_b, ↓gk_n, ↓gk_l, ↓gk_r, ↓zk_n, ↓zk_l, ↓zk_r, ↓sgm_z, ↓sgm_s, ↓mk2_v, ↓mk2_o, ↓ik_z, ↓ik_n, ↓ik_s, ↓uk_z, ↓uk_s, ↓rtk_rt, ↓rtk_nx, ↓nok_n, ↓nok_v, ↓nok_o,
  ↓afk_nx, ↓afk_ct, ↓afk_bk, ↓afk_rt, ↓dk_l, ↓dk_t, ↓Ok_evPn, ↓Ok_evPs, ↓Ok_cutek, ↓Ok_cutv, ↓op_cutL, ↓op_cutT, ↓Ok_wSeq, ↓rk_i, ↓Ok_wRng1, ↓Ok_wRng2, ↓Ok_wEnum, ↓Ok_wZip2, ↓Ok_wZip3, ↓Ok_wN, ↓wk_n, ↓wk_c, ↓op_isB, ↓op_isNB, ↓dkk_d, ↓vk_dki, ↓lkk_s, ↓Ok_newK, ↓Ok_dlen, ↓Ok_dsorted, ↓Ok_dget, ↓Ok_dgetD, ↓Ok_dput,
  okArg_v, okArg_o, ↓Ok_tYes, nc_0, nc_1, nc_2, nc_3, nc_4, not_true_eq_false, not_false_eq_true, isN, List.length_cons, List.length_nil, Nat.zero_add, Nat.reduceAdd, List.mem_cons, List.not_mem_nil, decide_eq_true_eq, Bool.not_eq_true', decide_eq_false_iff_not, Bool.not_true, Bool.not_false, Bool.false_eq_true, if_true, if_false, true_and, and_true, or_false, or_true, true_or, reduceCtorEq, Nat.reduceEqDiff, and_self, decide_true, decide_false, Int.reduceLT, Int.reduceLE, Int.reduceEq, Int.reduceToNat, Int.reducePow, Int.reduceAdd, Int.reduceSub, Int.reduceMul, Int.reduceNeg, Int.reduceMod, Int.reduceDiv, Nat.reduceLeDiff, Nat.reduceLT, false_or, or_self, and_false, false_and]
  refine ⟨.inl ⟨by omega, by omega⟩, ?_⟩
  by_cases z1 : 0 ≤ q.2.2 - q.2.1 <;> by_cases z2 : q.2.2 - q.2.1 ≤ r * q.1 <;> by_cases z3 : q.2.2 ≤ r * q.1 <;> simp only [plain, again, z1, z2, z3, and_self, and_true, and_false, decide_true, decide_false, if_true, if_false, Bool.false_eq_true] <;> simp -implicitDefEqProofs only [if_true, ↓Ok_ok, ↓Ok_bind, ↓Ok_seq, ↓thenS_nx, ↓thenS_rt, ↓thenS_bk, ↓thenS_ct, ↓Ok_sIf, ↓Ok_pass, ↓Ok_ret, ↓Ok_setk, ↓Ok_park, ↓Ok_par3k, ↓Ok_drop, ↓Ok_for, ↓Ok_while, ↓Ok_unpk, ↓Ok_callk, ↓Ok_tryC, ↓Tr_x, ↓Tr_r, ↓nmk_s, ↓muk_n, ↓muk_c, ↓mu2_s, ↓mu2_v, ↓mu2_o, ↓zrk_n, ↓zrk_c, ↓rs_h, ↓rs_v, ↓rs_o, hd_v, hd_o, hd_u, mh_n, mh_c, ↓Rt_fnk,
  ↓sg_z, ↓sg_s, ↓sw_z, ↓sw_s, ↓td_val, ↓td_ow, ↓Ok_eLit, ↓kp_val, ↓kp_ow, ↓Ok_eV, ↓Ok_op1e, ↓Ok_op1v, ↓Ok_op2ee, ↓Ok_op2ve, ↓Ok_op2ev, ↓Ok_op2vv, ↓op_add, ↓op_addL, ↓op_addT, ↓op_addI, ↓op_subI, ↓op_addB, ↓op_subB, ↓op_sub, ↓op_mul, ↓op_mod, ↓op_div, ↓op_pow, ↓op_lt, ↓op_le, ↓op_gt, ↓op_ge, ↓op_eqI, ↓op_neI, ↓op_neg, ↓op_isN, ↓op_notN, ↓op_lenL, ↓op_lenT,
  ↓op_isi_i, ↓op_isi_b, ↓op_isi_l, ↓op_isi_t, ↓op_isi_n, ↓op_isi_s, ↓op_abs, ↓op_max2, ↓op_min2, ↓op_tupL, ↓op_tupT, ↓op_lstL, ↓op_lstT, ↓ix_0, ↓ix_1, ↓ix_2, ↓ix_3, ↓tx_0, ↓tx_1, ↓tx_2, ↓tx_3, ↓Ok_datum, ↓Ok_evL0, ↓Ok_evLc, ↓Ok_eTup, ↓Ok_eLst, ↓bk_b, ↓Ok_tB, ↓Ok_eB, ↓Ok_tNot, ↓Ok_tAnd, ↓Ok_tOr, ↓Ok_eAnd, ↓Ok_eOr, ↓Ok_eIf, ↓fk_i, ↓fk_b, ↓fk_n, ↓Ok_evSe, ↓Ok_evSv, ↓ck2_b, ↓Ok_eChain,
  ↓pk_n, ↓pk_t, ↓pk_l, ↓pks_n, ↓pks_c, ↓vk_val, ↓vk_ow, ↓rvk_val, ↓rvk_ow, ↓Ok_retV, ↓augk_val, ↓Ok_augk, ↓nk_i, ↓Ok_setIx, ↓ixk_0, ↓ixk_1, ↓ixk_2, ↓apk_ow, ↓owk_ow, ↓Ok_app, ↓ak_n, ↓ak_d, ↓ak_b, ↓gk_n, ↓gk_l, ↓gk_r, ↓zk_n, ↓zk_l, ↓zk_r, ↓sgm_z, ↓sgm_s, ↓mk2_v, ↓mk2_o, ↓ik_z, ↓ik_n, ↓ik_s, ↓uk_z, ↓uk_s, ↓rtk_rt, ↓rtk_nx, ↓nok_n, ↓nok_v, ↓nok_o,
  ↓afk_nx, ↓afk_ct, ↓afk_bk, ↓afk_rt, ↓dk_l, ↓dk_t, ↓Ok_evPn, ↓Ok_evPs, ↓Ok_cutek, ↓Ok_cutv, ↓op_cutL, ↓op_cutT, ↓Ok_wSeq, ↓rk_i, ↓Ok_wRng1, ↓Ok_wRng2, ↓Ok_wEnum, ↓Ok_wZip2, ↓Ok_wZip3, ↓Ok_wN, ↓wk_n, ↓wk_c, ↓op_isB, ↓op_isNB, ↓dkk_d, ↓vk_dki, ↓lkk_s, ↓Ok_newK, ↓Ok_dlen, ↓Ok_dsorted, ↓Ok_dget, ↓Ok_dgetD, ↓Ok_dput,
  okArg_v, okArg_o, ↓Ok_tYes, nc_0, nc_1, nc_2, nc_3, nc_4, not_true_eq_false, not_false_eq_true, isN, List.length_cons, List.length_nil, Nat.zero_add, Nat.reduceAdd, List.mem_cons, List.not_mem_nil, decide_eq_true_eq, Bool.not_eq_true', decide_eq_false_iff_not, Bool.not_true, Bool.not_false, Bool.false_eq_true, if_true, if_false, true_and, and_true, or_false, or_true, true_or, reduceCtorEq, Nat.reduceEqDiff, and_self, decide_true, decide_false, Int.reduceLT, Int.reduceLE, Int.reduceEq, Int.reduceToNat, Int.reducePow, Int.reduceAdd, Int.reduceSub, Int.reduceMul, Int.reduceNeg, Int.reduceMod, Int.reduceDiv, Nat.reduceLeDiff, Nat.reduceLT, false_or, or_self, and_false, false_and]
def stat (q : Gp) (r : Int) : Str := if plain q r then (if again q r then PySem.Str.ofString "open" else PySem.Str.ofString "impossible") else (if again q r then PySem.Str.ofString "certain" else PySem.Str.ofString "contradiction")
theorem status_rt (q : Gp) {r : Int} (h0 : 0 ≤ r) (h1 : r ≤ 1000000) (Q : Sv → Sl → Prop) : Rt (F_status_of [.val (gpD q), .val (.int r)]) Q = Q (.val (.str (stat q r))) [.val (gpD q), .val (.int r)] := by
  refine Rt_eq (ret_of ?_)
  have o := fun Q => options_rt q h0 h1 Q
  unfold F_status_of B_status_of stat
  simp -implicitDefEqProofs only [↓o, ↓Ok_ok, ↓Ok_bind, ↓Ok_seq, ↓thenS_nx, ↓thenS_rt, ↓thenS_bk, ↓thenS_ct, ↓Ok_sIf, ↓Ok_pass, ↓Ok_ret, ↓Ok_setk, ↓Ok_park, ↓Ok_par3k, ↓Ok_drop, ↓Ok_for, ↓Ok_while, ↓Ok_unpk, ↓Ok_callk, ↓Ok_tryC, ↓Tr_x, ↓Tr_r, ↓nmk_s, ↓muk_n, ↓muk_c, ↓mu2_s, ↓mu2_v, ↓mu2_o, ↓zrk_n, ↓zrk_c, ↓rs_h, ↓rs_v, ↓rs_o, hd_v, hd_o, hd_u, mh_n, mh_c, ↓Rt_fnk,
  ↓sg_z, ↓sg_s, ↓sw_z, ↓sw_s, ↓td_val, ↓td_ow, ↓Ok_eLit, ↓kp_val, ↓kp_ow, ↓Ok_eV, ↓Ok_op1e, ↓Ok_op1v, ↓Ok_op2ee, ↓Ok_op2ve, ↓Ok_op2ev, ↓Ok_op2vv, ↓op_add, ↓op_addL, ↓op_addT, ↓op_addI, ↓op_subI, ↓op_addB, ↓op_subB, ↓op_sub, ↓op_mul, ↓op_mod, ↓op_div, ↓op_pow, ↓op_lt, ↓op_le, ↓op_gt, ↓op_ge, ↓op_eqI, ↓op_neI, ↓op_neg, ↓op_isN, ↓op_notN, ↓op_lenL, ↓op_lenT,
  ↓op_isi_i, ↓op_isi_b, ↓op_isi_l, ↓op_isi_t, ↓op_isi_n, ↓op_isi_s, ↓op_abs, ↓op_max2, ↓op_min2, ↓op_tupL, ↓op_tupT, ↓op_lstL, ↓op_lstT, ↓ix_0, ↓ix_1, ↓ix_2, ↓ix_3, ↓tx_0, ↓tx_1, ↓tx_2, ↓tx_3, ↓Ok_datum, ↓Ok_evL0, ↓Ok_evLc, ↓Ok_eTup, ↓Ok_eLst, ↓bk_b, ↓Ok_tB, ↓Ok_eB, ↓Ok_tNot, ↓Ok_tAnd, ↓Ok_tOr, ↓Ok_eAnd, ↓Ok_eOr, ↓Ok_eIf, ↓fk_i, ↓fk_b, ↓fk_n, ↓Ok_evSe, ↓Ok_evSv, ↓ck2_b, ↓Ok_eChain,
  ↓pk_n, ↓pk_t, ↓pk_l, ↓pks_n, ↓pks_c, ↓vk_val, ↓vk_ow, ↓rvk_val, ↓rvk_ow, ↓Ok_retV, ↓augk_val, ↓Ok_augk, ↓nk_i, ↓Ok_setIx, ↓ixk_0, ↓ixk_1, ↓ixk_2, ↓apk_ow, ↓owk_ow, ↓Ok_app, ↓ak_n, ↓ak_d, ↓ak_b, ↓gk_n, ↓gk_l, ↓gk_r, ↓zk_n, ↓zk_l, ↓zk_r, ↓sgm_z, ↓sgm_s, ↓mk2_v, ↓mk2_o, ↓ik_z, ↓ik_n, ↓ik_s, ↓uk_z, ↓uk_s, ↓rtk_rt, ↓rtk_nx, ↓nok_n, ↓nok_v, ↓nok_o,
  ↓afk_nx, ↓afk_ct, ↓afk_bk, ↓afk_rt, ↓dk_l, ↓dk_t, ↓Ok_evPn, ↓Ok_evPs, ↓Ok_cutek, ↓Ok_cutv, ↓op_cutL, ↓op_cutT, ↓Ok_wSeq, ↓rk_i, ↓Ok_wRng1, ↓Ok_wRng2, ↓Ok_wEnum, ↓Ok_wZip2, ↓Ok_wZip3, ↓Ok_wN, ↓wk_n, ↓wk_c, ↓op_isB, ↓op_isNB, ↓dkk_d, ↓vk_dki, ↓lkk_s, ↓Ok_newK, ↓Ok_dlen, ↓Ok_dsorted, ↓Ok_dget, ↓Ok_dgetD, ↓Ok_dput,
  okArg_v, okArg_o, ↓Ok_tYes, nc_0, nc_1, nc_2, nc_3, nc_4, not_true_eq_false, not_false_eq_true, isN, List.length_cons, List.length_nil, Nat.zero_add, Nat.reduceAdd, List.mem_cons, List.not_mem_nil, decide_eq_true_eq, Bool.not_eq_true', decide_eq_false_iff_not, Bool.not_true, Bool.not_false, Bool.false_eq_true, if_true, if_false, true_and, and_true, or_false, or_true, true_or, reduceCtorEq, Nat.reduceEqDiff, and_self, decide_true, decide_false, Int.reduceLT, Int.reduceLE, Int.reduceEq, Int.reduceToNat, Int.reducePow, Int.reduceAdd, Int.reduceSub, Int.reduceMul, Int.reduceNeg, Int.reduceMod, Int.reduceDiv, Nat.reduceLeDiff, Nat.reduceLT, false_or, or_self, and_false, false_and]
  by_cases z1 : 0 ≤ q.2.2 - q.2.1 <;> by_cases z3 : q.2.2 - q.2.1 ≤ r * q.1 <;> by_cases z2 : q.2.2 ≤ r * q.1 <;> simp only [z1, z2, z3, and_self, and_true, and_false, if_true, if_false, Bool.false_eq_true]
theorem restart_rt {s : Smp} (g : Sm s) {r : Int} (h0 : 1 ≤ r) (h1 : r ≤ 1000000) (Q : Sv → Sl → Prop) :
    Rt (F_restart_statuses [.val (smD s), .val (.int r)]) Q = Q (.ow (((gps s).map fun q => stat q r).map PyData.str)) [.val (smD s), .val (.int r)] := by
  refine Rt_eq (ret_of ?_)
  have l40 := g.len
  unfold F_restart_statuses B_restart_statuses
  simp -implicitDefEqProofs only [↓need_s g, ↓need_r h0 h1, ↓gaps_rt, ↓Ok_ok, ↓Ok_bind, ↓Ok_seq, ↓thenS_nx, ↓thenS_rt, ↓thenS_bk, ↓thenS_ct, ↓Ok_sIf, ↓Ok_pass, ↓Ok_ret, ↓Ok_setk, ↓Ok_park, ↓Ok_par3k, ↓Ok_drop, ↓Ok_for, ↓Ok_while, ↓Ok_unpk, ↓Ok_callk, ↓Ok_tryC, ↓Tr_x, ↓Tr_r, ↓nmk_s, ↓muk_n, ↓muk_c, ↓mu2_s, ↓mu2_v, ↓mu2_o, ↓zrk_n, ↓zrk_c, ↓rs_h, ↓rs_v, ↓rs_o, hd_v, hd_o, hd_u, mh_n, mh_c, ↓Rt_fnk,
  ↓sg_z, ↓sg_s, ↓sw_z, ↓sw_s, ↓td_val, ↓td_ow, ↓Ok_eLit, ↓kp_val, ↓kp_ow, ↓Ok_eV, ↓Ok_op1e, ↓Ok_op1v, ↓Ok_op2ee, ↓Ok_op2ve, ↓Ok_op2ev, ↓Ok_op2vv, ↓op_add, ↓op_addL, ↓op_addT, ↓op_addI, ↓op_subI, ↓op_addB, ↓op_subB, ↓op_sub, ↓op_mul, ↓op_mod, ↓op_div, ↓op_pow, ↓op_lt, ↓op_le, ↓op_gt, ↓op_ge, ↓op_eqI, ↓op_neI, ↓op_neg, ↓op_isN, ↓op_notN, ↓op_lenL, ↓op_lenT,
  ↓op_isi_i, ↓op_isi_b, ↓op_isi_l, ↓op_isi_t, ↓op_isi_n, ↓op_isi_s, ↓op_abs, ↓op_max2, ↓op_min2, ↓op_tupL, ↓op_tupT, ↓op_lstL, ↓op_lstT, ↓ix_0, ↓ix_1, ↓ix_2, ↓ix_3, ↓tx_0, ↓tx_1, ↓tx_2, ↓tx_3, ↓Ok_datum, ↓Ok_evL0, ↓Ok_evLc, ↓Ok_eTup, ↓Ok_eLst, ↓bk_b, ↓Ok_tB, ↓Ok_eB, ↓Ok_tNot, ↓Ok_tAnd, ↓Ok_tOr, ↓Ok_eAnd, ↓Ok_eOr, ↓Ok_eIf, ↓fk_i, ↓fk_b, ↓fk_n, ↓Ok_evSe, ↓Ok_evSv, ↓ck2_b, ↓Ok_eChain,
  ↓pk_n, ↓pk_t, ↓pk_l, ↓pks_n, ↓pks_c, ↓vk_val, ↓vk_ow, ↓rvk_val, ↓rvk_ow, ↓Ok_retV, ↓augk_val, ↓Ok_augk, ↓nk_i, ↓Ok_setIx, ↓ixk_0, ↓ixk_1, ↓ixk_2, ↓apk_ow, ↓owk_ow, ↓Ok_app, ↓ak_n, ↓ak_d, ↓ak_b, ↓gk_n, ↓gk_l, ↓gk_r, ↓zk_n, ↓zk_l, ↓zk_r, ↓sgm_z, ↓sgm_s, ↓mk2_v, ↓mk2_o, ↓ik_z, ↓ik_n, ↓ik_s, ↓uk_z, ↓uk_s, ↓rtk_rt, ↓rtk_nx, ↓nok_n, ↓nok_v, ↓nok_o,
  ↓afk_nx, ↓afk_ct, ↓afk_bk, ↓afk_rt, ↓dk_l, ↓dk_t, ↓Ok_evPn, ↓Ok_evPs, ↓Ok_cutek, ↓Ok_cutv, ↓op_cutL, ↓op_cutT, ↓Ok_wSeq, ↓rk_i, ↓Ok_wRng1, ↓Ok_wRng2, ↓Ok_wEnum, ↓Ok_wZip2, ↓Ok_wZip3, ↓Ok_wN, ↓wk_n, ↓wk_c, ↓op_isB, ↓op_isNB, ↓dkk_d, ↓vk_dki, ↓lkk_s, ↓Ok_newK, ↓Ok_dlen, ↓Ok_dsorted, ↓Ok_dget, ↓Ok_dgetD, ↓Ok_dput,
  okArg_v, okArg_o, ↓Ok_tYes, nc_0, nc_1, nc_2, nc_3, nc_4, not_true_eq_false, not_false_eq_true, isN, List.length_cons, List.length_nil, Nat.zero_add, Nat.reduceAdd, List.mem_cons, List.not_mem_nil, decide_eq_true_eq, Bool.not_eq_true', decide_eq_false_iff_not, Bool.not_true, Bool.not_false, Bool.false_eq_true, if_true, if_false, true_and, and_true, or_false, or_true, true_or, reduceCtorEq, Nat.reduceEqDiff, and_self, decide_true, decide_false, Int.reduceLT, Int.reduceLE, Int.reduceEq, Int.reduceToNat, Int.reducePow, Int.reduceAdd, Int.reduceSub, Int.reduceMul, Int.reduceNeg, Int.reduceMod, Int.reduceDiv, Nat.reduceLeDiff, Nat.reduceLT, false_or, or_self, and_false, false_and]
  refine Ok_lcM (gps s) gpD (fun q => .str (stat q r)) ?_
  simp -implicitDefEqProofs only [↓gaps_rt, ↓Ok_ok, ↓Ok_bind, ↓Ok_seq, ↓thenS_nx, ↓thenS_rt, ↓thenS_bk, ↓thenS_ct, ↓Ok_sIf, ↓Ok_pass, ↓Ok_ret, ↓Ok_setk, ↓Ok_park, ↓Ok_par3k, ↓Ok_drop, ↓Ok_for, ↓Ok_while, ↓Ok_unpk, ↓Ok_callk, ↓Ok_tryC, ↓Tr_x, ↓Tr_r, ↓nmk_s, ↓muk_n, ↓muk_c, ↓mu2_s, ↓mu2_v, ↓mu2_o, ↓zrk_n, ↓zrk_c, ↓rs_h, ↓rs_v, ↓rs_o, hd_v, hd_o, hd_u, mh_n, mh_c, ↓Rt_fnk,
  ↓sg_z, ↓sg_s, ↓sw_z, ↓sw_s, ↓td_val, ↓td_ow, ↓Ok_eLit, ↓kp_val, ↓kp_ow, ↓Ok_eV, ↓Ok_op1e, ↓Ok_op1v, ↓Ok_op2ee, ↓Ok_op2ve, ↓Ok_op2ev, ↓Ok_op2vv, ↓op_add, ↓op_addL, ↓op_addT, ↓op_addI, ↓op_subI, ↓op_addB, ↓op_subB, ↓op_sub, ↓op_mul, ↓op_mod, ↓op_div, ↓op_pow, ↓op_lt, ↓op_le, ↓op_gt, ↓op_ge, ↓op_eqI, ↓op_neI, ↓op_neg, ↓op_isN, ↓op_notN, ↓op_lenL, ↓op_lenT,
  ↓op_isi_i, ↓op_isi_b, ↓op_isi_l, ↓op_isi_t, ↓op_isi_n, ↓op_isi_s, ↓op_abs, ↓op_max2, ↓op_min2, ↓op_tupL, ↓op_tupT, ↓op_lstL, ↓op_lstT, ↓ix_0, ↓ix_1, ↓ix_2, ↓ix_3, ↓tx_0, ↓tx_1, ↓tx_2, ↓tx_3, ↓Ok_datum, ↓Ok_evL0, ↓Ok_evLc, ↓Ok_eTup, ↓Ok_eLst, ↓bk_b, ↓Ok_tB, ↓Ok_eB, ↓Ok_tNot, ↓Ok_tAnd, ↓Ok_tOr, ↓Ok_eAnd, ↓Ok_eOr, ↓Ok_eIf, ↓fk_i, ↓fk_b, ↓fk_n, ↓Ok_evSe, ↓Ok_evSv, ↓ck2_b, ↓Ok_eChain,
  ↓pk_n, ↓pk_t, ↓pk_l, ↓pks_n, ↓pks_c, ↓vk_val, ↓vk_ow, ↓rvk_val, ↓rvk_ow, ↓Ok_retV, ↓augk_val, ↓Ok_augk, ↓nk_i, ↓Ok_setIx, ↓ixk_0, ↓ixk_1, ↓ixk_2, ↓apk_ow, ↓owk_ow, ↓Ok_app, ↓ak_n, ↓ak_d, ↓ak_b, ↓gk_n, ↓gk_l, ↓gk_r, ↓zk_n, ↓zk_l, ↓zk_r, ↓sgm_z, ↓sgm_s, ↓mk2_v, ↓mk2_o, ↓ik_z, ↓ik_n, ↓ik_s, ↓uk_z, ↓uk_s, ↓rtk_rt, ↓rtk_nx, ↓nok_n, ↓nok_v, ↓nok_o,
  ↓afk_nx, ↓afk_ct, ↓afk_bk, ↓afk_rt, ↓dk_l, ↓dk_t, ↓Ok_evPn, ↓Ok_evPs, ↓Ok_cutek, ↓Ok_cutv, ↓op_cutL, ↓op_cutT, ↓Ok_wSeq, ↓rk_i, ↓Ok_wRng1, ↓Ok_wRng2, ↓Ok_wEnum, ↓Ok_wZip2, ↓Ok_wZip3, ↓Ok_wN, ↓wk_n, ↓wk_c, ↓op_isB, ↓op_isNB, ↓dkk_d, ↓vk_dki, ↓lkk_s, ↓Ok_newK, ↓Ok_dlen, ↓Ok_dsorted, ↓Ok_dget, ↓Ok_dgetD, ↓Ok_dput,
  okArg_v, okArg_o, ↓Ok_tYes, nc_0, nc_1, nc_2, nc_3, nc_4, not_true_eq_false, not_false_eq_true, isN, List.length_cons, List.length_nil, Nat.zero_add, Nat.reduceAdd, List.mem_cons, List.not_mem_nil, decide_eq_true_eq, Bool.not_eq_true', decide_eq_false_iff_not, Bool.not_true, Bool.not_false, Bool.false_eq_true, if_true, if_false, true_and, and_true, or_false, or_true, true_or, reduceCtorEq, Nat.reduceEqDiff, and_self, decide_true, decide_false, Int.reduceLT, Int.reduceLE, Int.reduceEq, Int.reduceToNat, Int.reducePow, Int.reduceAdd, Int.reduceSub, Int.reduceMul, Int.reduceNeg, Int.reduceMod, Int.reduceDiv, Nat.reduceLeDiff, Nat.reduceLT, false_or, or_self, and_false, false_and]
  refine ⟨⟨ckT_eq.mpr trivial, fun q _ => ?_⟩, ?_⟩
  · have sr := fun Q => status_rt q (r := r) (by omega) h1 Q
    unfold itemm
    simp -implicitDefEqProofs only [↓sr, ↓Ok_ok, ↓Ok_bind, ↓Ok_seq, ↓thenS_nx, ↓thenS_rt, ↓thenS_bk, ↓thenS_ct, ↓Ok_sIf, ↓Ok_pass, ↓Ok_ret, ↓Ok_setk, ↓Ok_park, ↓Ok_par3k, ↓Ok_drop, ↓Ok_for, ↓Ok_while, ↓Ok_unpk, ↓Ok_callk, ↓Ok_tryC, ↓Tr_x, ↓Tr_r, ↓nmk_s, ↓muk_n, ↓muk_c, ↓mu2_s, ↓mu2_v, ↓mu2_o, ↓zrk_n, ↓zrk_c, ↓rs_h, ↓rs_v, ↓rs_o, hd_v, hd_o, hd_u, mh_n, mh_c, ↓Rt_fnk,
  ↓sg_z, ↓sg_s, ↓sw_z, ↓sw_s, ↓td_val, ↓td_ow, ↓Ok_eLit, ↓kp_val, ↓kp_ow, ↓Ok_eV, ↓Ok_op1e, ↓Ok_op1v, ↓Ok_op2ee, ↓Ok_op2ve, ↓Ok_op2ev, ↓Ok_op2vv, ↓op_add, ↓op_addL, ↓op_addT, ↓op_addI, ↓op_subI, ↓op_addB, ↓op_subB, ↓op_sub, ↓op_mul, ↓op_mod, ↓op_div, ↓op_pow, ↓op_lt, ↓op_le, ↓op_gt, ↓op_ge, ↓op_eqI, ↓op_neI, ↓op_neg, ↓op_isN, ↓op_notN, ↓op_lenL, ↓op_lenT,
  ↓op_isi_i, ↓op_isi_b, ↓op_isi_l, ↓op_isi_t, ↓op_isi_n, ↓op_isi_s, ↓op_abs, ↓op_max2, ↓op_min2, ↓op_tupL, ↓op_tupT, ↓op_lstL, ↓op_lstT, ↓ix_0, ↓ix_1, ↓ix_2, ↓ix_3, ↓tx_0, ↓tx_1, ↓tx_2, ↓tx_3, ↓Ok_datum, ↓Ok_evL0, ↓Ok_evLc, ↓Ok_eTup, ↓Ok_eLst, ↓bk_b, ↓Ok_tB, ↓Ok_eB, ↓Ok_tNot, ↓Ok_tAnd, ↓Ok_tOr, ↓Ok_eAnd, ↓Ok_eOr, ↓Ok_eIf, ↓fk_i, ↓fk_b, ↓fk_n, ↓Ok_evSe, ↓Ok_evSv, ↓ck2_b, ↓Ok_eChain,
  ↓pk_n, ↓pk_t, ↓pk_l, ↓pks_n, ↓pks_c, ↓vk_val, ↓vk_ow, ↓rvk_val, ↓rvk_ow, ↓Ok_retV, ↓augk_val, ↓Ok_augk, ↓nk_i, ↓Ok_setIx, ↓ixk_0, ↓ixk_1, ↓ixk_2, ↓apk_ow, ↓owk_ow, ↓Ok_app, ↓ak_n, ↓ak_d, ↓ak_b, ↓gk_n, ↓gk_l, ↓gk_r, ↓zk_n, ↓zk_l, ↓zk_r, ↓sgm_z, ↓sgm_s, ↓mk2_v, ↓mk2_o, ↓ik_z, ↓ik_n, ↓ik_s, ↓uk_z, ↓uk_s, ↓rtk_rt, ↓rtk_nx, ↓nok_n, ↓nok_v, ↓nok_o,
  ↓afk_nx, ↓afk_ct, ↓afk_bk, ↓afk_rt, ↓dk_l, ↓dk_t, ↓Ok_evPn, ↓Ok_evPs, ↓Ok_cutek, ↓Ok_cutv, ↓op_cutL, ↓op_cutT, ↓Ok_wSeq, ↓rk_i, ↓Ok_wRng1, ↓Ok_wRng2, ↓Ok_wEnum, ↓Ok_wZip2, ↓Ok_wZip3, ↓Ok_wN, ↓wk_n, ↓wk_c, ↓op_isB, ↓op_isNB, ↓dkk_d, ↓vk_dki, ↓lkk_s, ↓Ok_newK, ↓Ok_dlen, ↓Ok_dsorted, ↓Ok_dget, ↓Ok_dgetD, ↓Ok_dput,
  okArg_v, okArg_o, ↓Ok_tYes, nc_0, nc_1, nc_2, nc_3, nc_4, not_true_eq_false, not_false_eq_true, isN, List.length_cons, List.length_nil, Nat.zero_add, Nat.reduceAdd, List.mem_cons, List.not_mem_nil, decide_eq_true_eq, Bool.not_eq_true', decide_eq_false_iff_not, Bool.not_true, Bool.not_false, Bool.false_eq_true, if_true, if_false, true_and, and_true, or_false, or_true, true_or, reduceCtorEq, Nat.reduceEqDiff, and_self, decide_true, decide_false, Int.reduceLT, Int.reduceLE, Int.reduceEq, Int.reduceToNat, Int.reducePow, Int.reduceAdd, Int.reduceSub, Int.reduceMul, Int.reduceNeg, Int.reduceMod, Int.reduceDiv, Nat.reduceLeDiff, Nat.reduceLT, false_or, or_self, and_false, false_and]
  · rw [List.map_map]
    rfl
end

/-! ### the least rate -/
section
open PySem Rc
/-- the least rate of a gap -/
def need (q : Gp) : Int := (stp q.2.1 q.2.2 + q.1 - 1) / q.1
def lrF (l : List Gp) : Int := l.foldl (fun m q => if need q > m then need q else m) 1
theorem lrF_snoc (l : List Gp) (q : Gp) : lrF (l ++ [q]) = if need q > lrF l then need q else lrF l := by
  unfold lrF
  rw [List.foldl_append]
  rfl
theorem gps_pos {s : Smp} (g : Sm s) : ∀ q ∈ gps s, (1 ≤ q.1 ∧ q.1 ≤ 1000000000) ∧ 0 ≤ q.2.1 ∧ 0 ≤ q.2.2 := fun q hq => by
  obtain ⟨p, hp, rfl⟩ := List.mem_map.mp hq
  have h := prs_asc g.asc p hp
  have hz : (p.1, p.2) ∈ s.zip (s.drop 1) := hp
  have m := List.of_mem_zip hz
  have a1 := g.at_ p.1 m.1
  have a2 := g.at_ p.2 (List.mem_of_mem_drop m.2)
  show (1 ≤ p.2.1 - p.1.1 ∧ p.2.1 - p.1.1 ≤ 1000000000) ∧ 0 ≤ p.1.2 ∧ 0 ≤ p.2.2
  omega
theorem least_rt {s : Smp} (g : Sm s) (Q : Sv → Sl → Prop) : Rt (F_least_rate [.val (smD s)]) Q = Q (.val (.int (lrF (gps s)))) [.val (smD s)] := by
  refine Rt_eq (ret_of ?_)
  have pos := gps_pos g
  unfold F_least_rate B_least_rate
  simp -implicitDefEqProofs only [↓need_s g, ↓gaps_rt, ↓Ok_ok, ↓Ok_bind, ↓Ok_seq, ↓thenS_nx, ↓thenS_rt, ↓thenS_bk, ↓thenS_ct, ↓Ok_sIf, ↓Ok_pass, ↓Ok_ret, ↓Ok_setk, ↓Ok_park, ↓Ok_par3k, ↓Ok_drop, ↓Ok_for, ↓Ok_while, ↓Ok_unpk, ↓Ok_callk, ↓Ok_tryC, ↓Tr_x, ↓Tr_r, ↓nmk_s, ↓muk_n, ↓muk_c, ↓mu2_s, ↓mu2_v, ↓mu2_o, ↓zrk_n, ↓zrk_c, ↓rs_h, ↓rs_v, ↓rs_o, hd_v, hd_o, hd_u, mh_n, mh_c, ↓Rt_fnk,
  ↓sg_z, ↓sg_s, ↓sw_z, ↓sw_s, ↓td_val, ↓td_ow, ↓Ok_eLit, ↓kp_val, ↓kp_ow, ↓Ok_eV, ↓Ok_op1e, ↓Ok_op1v, ↓Ok_op2ee, ↓Ok_op2ve, ↓Ok_op2ev, ↓Ok_op2vv, ↓op_add, ↓op_addL, ↓op_addT, ↓op_addI, ↓op_subI, ↓op_addB, ↓op_subB, ↓op_sub, ↓op_mul, ↓op_mod, ↓op_div, ↓op_pow, ↓op_lt, ↓op_le, ↓op_gt, ↓op_ge, ↓op_eqI, ↓op_neI, ↓op_neg, ↓op_isN, ↓op_notN, ↓op_lenL, ↓op_lenT,
  ↓op_isi_i, ↓op_isi_b, ↓op_isi_l, ↓op_isi_t, ↓op_isi_n, ↓op_isi_s, ↓op_abs, ↓op_max2, ↓op_min2, ↓op_tupL, ↓op_tupT, ↓op_lstL, ↓op_lstT, ↓ix_0, ↓ix_1, ↓ix_2, ↓ix_3, ↓tx_0, ↓tx_1, ↓tx_2, ↓tx_3, ↓Ok_datum, ↓Ok_evL0, ↓Ok_evLc, ↓Ok_eTup, ↓Ok_eLst, ↓bk_b, ↓Ok_tB, ↓Ok_eB, ↓Ok_tNot, ↓Ok_tAnd, ↓Ok_tOr, ↓Ok_eAnd, ↓Ok_eOr, ↓Ok_eIf, ↓fk_i, ↓fk_b, ↓fk_n, ↓Ok_evSe, ↓Ok_evSv, ↓ck2_b, ↓Ok_eChain,
  ↓pk_n, ↓pk_t, ↓pk_l, ↓pks_n, ↓pks_c, ↓vk_val, ↓vk_ow, ↓rvk_val, ↓rvk_ow, ↓Ok_retV, ↓augk_val, ↓Ok_augk, ↓nk_i, ↓Ok_setIx, ↓ixk_0, ↓ixk_1, ↓ixk_2, ↓apk_ow, ↓owk_ow, ↓Ok_app, ↓ak_n, ↓ak_d, ↓ak_b, ↓gk_n, ↓gk_l, ↓gk_r, ↓zk_n, ↓zk_l, ↓zk_r, ↓sgm_z, ↓sgm_s, ↓mk2_v, ↓mk2_o, ↓ik_z, ↓ik_n, ↓ik_s, ↓uk_z, ↓uk_s, ↓rtk_rt, ↓rtk_nx, ↓nok_n, ↓nok_v, ↓nok_o,
  ↓afk_nx, ↓afk_ct, ↓afk_bk, ↓afk_rt, ↓dk_l, ↓dk_t, ↓Ok_evPn, ↓Ok_evPs, ↓Ok_cutek, ↓Ok_cutv, ↓op_cutL, ↓op_cutT, ↓Ok_wSeq, ↓rk_i, ↓Ok_wRng1, ↓Ok_wRng2, ↓Ok_wEnum, ↓Ok_wZip2, ↓Ok_wZip3, ↓Ok_wN, ↓wk_n, ↓wk_c, ↓op_isB, ↓op_isNB, ↓dkk_d, ↓vk_dki, ↓lkk_s, ↓Ok_newK, ↓Ok_dlen, ↓Ok_dsorted, ↓Ok_dget, ↓Ok_dgetD, ↓Ok_dput,
  okArg_v, okArg_o, ↓Ok_tYes, nc_0, nc_1, nc_2, nc_3, nc_4, not_true_eq_false, not_false_eq_true, isN, List.length_cons, List.length_nil, Nat.zero_add, Nat.reduceAdd, List.mem_cons, List.not_mem_nil, decide_eq_true_eq, Bool.not_eq_true', decide_eq_false_iff_not, Bool.not_true, Bool.not_false, Bool.false_eq_true, if_true, if_false, true_and, and_true, or_false, or_true, true_or, reduceCtorEq, Nat.reduceEqDiff, and_self, decide_true, decide_false, Int.reduceLT, Int.reduceLE, Int.reduceEq, Int.reduceToNat, Int.reducePow, Int.reduceAdd, Int.reduceSub, Int.reduceMul, Int.reduceNeg, Int.reduceMod, Int.reduceDiv, Nat.reduceLeDiff, Nat.reduceLT, false_or, or_self, and_false, false_and]
  refine for_ty (gps s) gpD (fun pre S => ∃ x2 x3 x4, S = [.val (smD s), .val (.int (lrF pre)), x2, x3, x4])
    (fun S ⟨x2, x3, x4, hS⟩ => ?en) (fun pre q post S hx ⟨x2, x3, x4, hS⟩ => ?st) _ ⟨_, _, _, rfl⟩
  case en =>
    subst hS
    simp -implicitDefEqProofs only [if_true, ↓Ok_ok, ↓Ok_bind, ↓Ok_seq, ↓thenS_nx, ↓thenS_rt, ↓thenS_bk, ↓thenS_ct, ↓Ok_sIf, ↓Ok_pass, ↓Ok_ret, ↓Ok_setk, ↓Ok_park, ↓Ok_par3k, ↓Ok_drop, ↓Ok_for, ↓Ok_while, ↓Ok_unpk, ↓Ok_callk, ↓Ok_tryC, ↓Tr_x, ↓Tr_r, ↓nmk_s, ↓muk_n, ↓muk_c, ↓mu2_s, ↓mu2_v, ↓mu2_o, ↓zrk_n, ↓zrk_c, ↓rs_h, ↓rs_v, ↓rs_o, hd_v, hd_o, hd_u, mh_n, mh_c, ↓Rt_fnk,
  ↓sg_z, ↓sg_s, ↓sw_z, ↓sw_s, ↓td_val, ↓td_ow, ↓Ok_eLit, ↓kp_val, ↓kp_ow, ↓Ok_eV, ↓Ok_op1e, ↓Ok_op1v, ↓Ok_op2ee, ↓Ok_op2ve, ↓Ok_op2ev, ↓Ok_op2vv, ↓op_add, ↓op_addL, ↓op_addT, ↓op_addI, ↓op_subI, ↓op_addB, ↓op_subB, ↓op_sub, ↓op_mul, ↓op_mod, ↓op_div, ↓op_pow, ↓op_lt, ↓op_le, ↓op_gt, ↓op_ge, ↓op_eqI, ↓op_neI, ↓op_neg, ↓op_isN, ↓op_notN, ↓op_lenL, ↓op_lenT,
  ↓op_isi_i, ↓op_isi_b, ↓op_isi_l, ↓op_isi_t, ↓op_isi_n, ↓op_isi_s, ↓op_abs, ↓op_max2, ↓op_min2, ↓op_tupL, ↓op_tupT, ↓op_lstL, ↓op_lstT, ↓ix_0, ↓ix_1, ↓ix_2, ↓ix_3, ↓tx_0, ↓tx_1, ↓tx_2, ↓tx_3, ↓Ok_datum, ↓Ok_evL0, ↓Ok_evLc, ↓Ok_eTup, ↓Ok_eLst, ↓bk_b, ↓Ok_tB, ↓Ok_eB, ↓Ok_tNot, ↓Ok_tAnd, ↓Ok_tOr, ↓Ok_eAnd, ↓Ok_eOr, ↓Ok_eIf, ↓fk_i, ↓fk_b, ↓fk_n, ↓Ok_evSe, ↓Ok_evSv, ↓ck2_b, ↓Ok_eChain,
  ↓pk_n, ↓pk_t, ↓pk_l, ↓pks_n, ↓pks_c, ↓vk_val, ↓vk_ow, ↓rvk_val, ↓rvk_ow, ↓Ok_retV, ↓augk_val, ↓Ok_augk, ↓nk_i, ↓Ok_setIx, ↓ixk_0, ↓ixk_1, ↓ixk_2, ↓apk_ow, ↓owk_ow, ↓Ok_app, ↓ak_n, ↓ak_d, ↓ak_b, ↓gk_n, ↓gk_l, ↓gk_r, ↓zk_n, ↓zk_l, ↓zk_r, ↓sgm_z, ↓sgm_s, ↓mk2_v, ↓mk2_o, ↓ik_z, ↓ik_n, ↓ik_s, ↓uk_z, ↓uk_s, ↓rtk_rt, ↓rtk_nx, ↓nok_n, ↓nok_v, ↓nok_o,
  ↓afk_nx, ↓afk_ct, ↓afk_bk, ↓afk_rt, ↓dk_l, ↓dk_t, ↓Ok_evPn, ↓Ok_evPs, ↓Ok_cutek, ↓Ok_cutv, ↓op_cutL, ↓op_cutT, ↓Ok_wSeq, ↓rk_i, ↓Ok_wRng1, ↓Ok_wRng2, ↓Ok_wEnum, ↓Ok_wZip2, ↓Ok_wZip3, ↓Ok_wN, ↓wk_n, ↓wk_c, ↓op_isB, ↓op_isNB, ↓dkk_d, ↓vk_dki, ↓lkk_s, ↓Ok_newK, ↓Ok_dlen, ↓Ok_dsorted, ↓Ok_dget, ↓Ok_dgetD, ↓Ok_dput,
  okArg_v, okArg_o, ↓Ok_tYes, nc_0, nc_1, nc_2, nc_3, nc_4, not_true_eq_false, not_false_eq_true, isN, List.length_cons, List.length_nil, Nat.zero_add, Nat.reduceAdd, List.mem_cons, List.not_mem_nil, decide_eq_true_eq, Bool.not_eq_true', decide_eq_false_iff_not, Bool.not_true, Bool.not_false, Bool.false_eq_true, if_true, if_false, true_and, and_true, or_false, or_true, true_or, reduceCtorEq, Nat.reduceEqDiff, and_self, decide_true, decide_false, Int.reduceLT, Int.reduceLE, Int.reduceEq, Int.reduceToNat, Int.reducePow, Int.reduceAdd, Int.reduceSub, Int.reduceMul, Int.reduceNeg, Int.reduceMod, Int.reduceDiv, Nat.reduceLeDiff, Nat.reduceLT, false_or, or_self, and_false, false_and]
  case st =>
    subst hS
    have p1 := pos q (by rw [hx]; simp)
    unfold B_least_rate_f1
    simp -implicitDefEqProofs only [↓step_eq, ↓Ok_ok, ↓Ok_bind, ↓Ok_seq, ↓thenS_nx, ↓thenS_rt, ↓thenS_bk, ↓thenS_ct, ↓Ok_sIf, ↓Ok_pass, ↓Ok_ret, ↓Ok_setk, ↓Ok_park, ↓Ok_par3k, ↓Ok_drop, ↓Ok_for, ↓Ok_while, ↓Ok_unpk, ↓Ok_callk, ↓Ok_tryC, ↓Tr_x, ↓Tr_r, ↓nmk_s, ↓muk_n, ↓muk_c, ↓mu2_s, ↓mu2_v, ↓mu2_o, ↓zrk_n, ↓zrk_c, ↓rs_h, ↓rs_v, ↓rs_o, hd_v, hd_o, hd_u, mh_n, mh_c, ↓Rt_fnk,
  ↓sg_z, ↓sg_s, ↓sw_z, ↓sw_s, ↓td_val, ↓td_ow, ↓Ok_eLit, ↓kp_val, ↓kp_ow, ↓Ok_eV, ↓Ok_op1e, ↓Ok_op1v, ↓Ok_op2ee, ↓Ok_op2ve, ↓Ok_op2ev, ↓Ok_op2vv, ↓op_add, ↓op_addL, ↓op_addT, ↓op_addI, ↓op_subI, ↓op_addB, ↓op_subB, ↓op_sub, ↓op_mul, ↓op_mod, ↓op_div, ↓op_pow, ↓op_lt, ↓op_le, ↓op_gt, ↓op_ge, ↓op_eqI, ↓op_neI, ↓op_neg, ↓op_isN, ↓op_notN, ↓op_lenL, ↓op_lenT,
  ↓op_isi_i, ↓op_isi_b, ↓op_isi_l, ↓op_isi_t, ↓op_isi_n, ↓op_isi_s, ↓op_abs, ↓op_max2, ↓op_min2, ↓op_tupL, ↓op_tupT, ↓op_lstL, ↓op_lstT, ↓ix_0, ↓ix_1, ↓ix_2, ↓ix_3, ↓tx_0, ↓tx_1, ↓tx_2, ↓tx_3, ↓Ok_datum, ↓Ok_evL0, ↓Ok_evLc, ↓Ok_eTup, ↓Ok_eLst, ↓bk_b, ↓Ok_tB, ↓Ok_eB, ↓Ok_tNot, ↓Ok_tAnd, ↓Ok_tOr, ↓Ok_eAnd, ↓Ok_eOr, ↓Ok_eIf, ↓fk_i, ↓fk_b, ↓fk_n, ↓Ok_evSe, ↓Ok_evSv, ↓ck2_b, ↓Ok_eChain,
  ↓pk_n, ↓pk_t, ↓pk_l, ↓pks_n, ↓pks_c, ↓vk_val, ↓vk_ow, ↓rvk_val, ↓rvk_ow, ↓Ok_retV, ↓augk_val, ↓Ok_augk, ↓nk_i, ↓Ok_setIx, ↓ixk_0, ↓ixk_1, ↓ixk_2, ↓apk_ow, ↓owk_ow, ↓Ok_app, ↓ak_n, ↓ak_d, ↓ak_b, ↓gk_n, ↓gk_l, ↓gk_r, ↓zk_n, ↓zk_l, ↓zk_r, ↓sgm_z, ↓sgm_s, ↓mk2_v, ↓mk2_o, ↓ik_z, ↓ik_n, ↓ik_s, ↓uk_z, ↓uk_s, ↓rtk_rt, ↓rtk_nx, ↓nok_n, ↓nok_v, ↓nok_o,
  ↓afk_nx, ↓afk_ct, ↓afk_bk, ↓afk_rt, ↓dk_l, ↓dk_t, ↓Ok_evPn, ↓Ok_evPs, ↓Ok_cutek, ↓Ok_cutv, ↓op_cutL, ↓op_cutT, ↓Ok_wSeq, ↓rk_i, ↓Ok_wRng1, ↓Ok_wRng2, ↓Ok_wEnum, ↓Ok_wZip2, ↓Ok_wZip3, ↓Ok_wN, ↓wk_n, ↓wk_c, ↓op_isB, ↓op_isNB, ↓dkk_d, ↓vk_dki, ↓lkk_s, ↓Ok_newK, ↓Ok_dlen, ↓Ok_dsorted, ↓Ok_dget, ↓Ok_dgetD, ↓Ok_dput,
  okArg_v, okArg_o, ↓Ok_tYes, nc_0, nc_1, nc_2, nc_3, nc_4, not_true_eq_false, not_false_eq_true, isN, List.length_cons, List.length_nil, Nat.zero_add, Nat.reduceAdd, List.mem_cons, List.not_mem_nil, decide_eq_true_eq, Bool.not_eq_true', decide_eq_false_iff_not, Bool.not_true, Bool.not_false, Bool.false_eq_true, if_true, if_false, true_and, and_true, or_false, or_true, true_or, reduceCtorEq, Nat.reduceEqDiff, and_self, decide_true, decide_false, Int.reduceLT, Int.reduceLE, Int.reduceEq, Int.reduceToNat, Int.reducePow, Int.reduceAdd, Int.reduceSub, Int.reduceMul, Int.reduceNeg, Int.reduceMod, Int.reduceDiv, Nat.reduceLeDiff, Nat.reduceLT, false_or, or_self, and_false, false_and]
    rw [lrF_snoc]
    exact ⟨by omega, _, _, _, rfl⟩
theorem need_iff {q : Gp} (h : 1 ≤ q.1) {r : Int} : r < need q ↔ r * q.1 < stp q.2.1 q.2.2 := by
  unfold need
  rw [← Int.add_one_le_iff, Int.le_ediv_iff_mul_le (by omega), Int.add_mul]
  omega
theorem stat_iff {q : Gp} (h : 1 ≤ q.1) (ha : 0 ≤ q.2.1) (hb : 0 ≤ q.2.2) {r : Int} (h0 : 0 ≤ r) : (¬ plain q r = true ∧ ¬ again q r = true) ↔ r < need q := by
  rw [need_iff h]
  simp only [plain, again, decide_eq_true_eq]
  unfold stp
  split <;> omega
theorem lrF_iff : ∀ (l : List Gp) {r : Int}, 1 ≤ r → (r < lrF l ↔ ∃ q ∈ l, r < need q) := by
  intro l r h
  unfold lrF
  have gen : ∀ (l : List Gp) (m : Int), (r < l.foldl (fun m q => if need q > m then need q else m) m ↔ r < m ∨ ∃ q ∈ l, r < need q) := by
    intro l
    induction l with
    | nil => intro m; simp
    | cons q l ih =>
      intro m
      rw [List.foldl_cons, ih]
      simp only [List.mem_cons, exists_eq_or_imp]
      split <;> constructor <;> intro h <;> rcases h with h | h <;> first | (left; omega) | (right; left; omega) | (right; right; exact h) | skip
      all_goals rcases h with h | h
      all_goals first | (left; omega) | (right; exact h) | (right; right; exact h) | skip
  rw [gen]
  constructor
  · rintro (h' | h')
    · omega
    · exact h'
  · exact .inr
theorem one_le_lrF (l : List Gp) : 1 ≤ lrF l := by
  unfold lrF
  have gen : ∀ (l : List Gp) (m : Int), m ≤ l.foldl (fun m q => if need q > m then need q else m) m := by
    intro l
    induction l with
    | nil => intro m; exact Int.le_refl _
    | cons q l ih =>
      intro m
      rw [List.foldl_cons]
      refine Int.le_trans ?_ (ih _)
      split <;> omega
  exact gen l 1
/-! ### the law's status -/
theorem lstat_rt (q : Gp) {r : Int} (h0 : 0 ≤ r) (h1 : r ≤ 1000000) (Q : Sv → Sl → Prop) : Rt (F_law_status [.val (.int q.1), .val (.int q.2.1), .val (.int q.2.2), .val (.int r)]) Q = Q (.val (.str (stat q r))) [.val (.int q.1), .val (.int q.2.1), .val (.int q.2.2), .val (.int r)] := by
  refine Rt_eq (ret_of ?_)
  unfold F_law_status B_law_status stat
  have e : (0 ≤ q.2.2 - q.2.1) = (q.2.1 ≤ q.2.2) := by apply propext; omega
  simp only [plain, again, e]
  simp -implicitDefEqProofs only [if_true, ↓Ok_ok, ↓Ok_bind, ↓Ok_seq, ↓thenS_nx, ↓thenS_rt, ↓thenS_bk, ↓thenS_ct, ↓Ok_sIf, ↓Ok_pass, ↓Ok_ret, ↓Ok_setk, ↓Ok_park, ↓Ok_par3k, ↓Ok_drop, ↓Ok_for, ↓Ok_while, ↓Ok_unpk, ↓Ok_callk, ↓Ok_tryC, ↓Tr_x, ↓Tr_r, ↓nmk_s, ↓muk_n, ↓muk_c, ↓mu2_s, ↓mu2_v, ↓mu2_o, ↓zrk_n, ↓zrk_c, ↓rs_h, ↓rs_v, ↓rs_o, hd_v, hd_o, hd_u, mh_n, mh_c, ↓Rt_fnk,
  ↓sg_z, ↓sg_s, ↓sw_z, ↓sw_s, ↓td_val, ↓td_ow, ↓Ok_eLit, ↓kp_val, ↓kp_ow, ↓Ok_eV, ↓Ok_op1e, ↓Ok_op1v, ↓Ok_op2ee, ↓Ok_op2ve, ↓Ok_op2ev, ↓Ok_op2vv, ↓op_add, ↓op_addL, ↓op_addT, ↓op_addI, ↓op_subI, ↓op_addB, ↓op_subB, ↓op_sub, ↓op_mul, ↓op_mod, ↓op_div, ↓op_pow, ↓op_lt, ↓op_le, ↓op_gt, ↓op_ge, ↓op_eqI, ↓op_neI, ↓op_neg, ↓op_isN, ↓op_notN, ↓op_lenL, ↓op_lenT,
  ↓op_isi_i, ↓op_isi_b, ↓op_isi_l, ↓op_isi_t, ↓op_isi_n, ↓op_isi_s, ↓op_abs, ↓op_max2, ↓op_min2, ↓op_tupL, ↓op_tupT, ↓op_lstL, ↓op_lstT, ↓ix_0, ↓ix_1, ↓ix_2, ↓ix_3, ↓tx_0, ↓tx_1, ↓tx_2, ↓tx_3, ↓Ok_datum, ↓Ok_evL0, ↓Ok_evLc, ↓Ok_eTup, ↓Ok_eLst, ↓bk_b, ↓Ok_tB, ↓Ok_eB, ↓Ok_tNot, ↓Ok_tAnd, ↓Ok_tOr, ↓Ok_eAnd, ↓Ok_eOr, ↓Ok_eIf, ↓fk_i, ↓fk_b, ↓fk_n, ↓Ok_evSe, ↓Ok_evSv, ↓ck2_b, ↓Ok_eChain,
  ↓pk_n, ↓pk_t, ↓pk_l, ↓pks_n, ↓pks_c, ↓vk_val, ↓vk_ow, ↓rvk_val, ↓rvk_ow, ↓Ok_retV, ↓augk_val, ↓Ok_augk, ↓nk_i, ↓Ok_setIx, ↓ixk_0, ↓ixk_1, ↓ixk_2, ↓apk_ow, ↓owk_ow, ↓Ok_app, ↓ak_n, ↓ak_d, ↓ak_b, ↓gk_n, ↓gk_l, ↓gk_r, ↓zk_n, ↓zk_l, ↓zk_r, ↓sgm_z, ↓sgm_s, ↓mk2_v, ↓mk2_o, ↓ik_z, ↓ik_n, ↓ik_s, ↓uk_z, ↓uk_s, ↓rtk_rt, ↓rtk_nx, ↓nok_n, ↓nok_v, ↓nok_o,
  ↓afk_nx, ↓afk_ct, ↓afk_bk, ↓afk_rt, ↓dk_l, ↓dk_t, ↓Ok_evPn, ↓Ok_evPs, ↓Ok_cutek, ↓Ok_cutv, ↓op_cutL, ↓op_cutT, ↓Ok_wSeq, ↓rk_i, ↓Ok_wRng1, ↓Ok_wRng2, ↓Ok_wEnum, ↓Ok_wZip2, ↓Ok_wZip3, ↓Ok_wN, ↓wk_n, ↓wk_c, ↓op_isB, ↓op_isNB, ↓dkk_d, ↓vk_dki, ↓lkk_s, ↓Ok_newK, ↓Ok_dlen, ↓Ok_dsorted, ↓Ok_dget, ↓Ok_dgetD, ↓Ok_dput,
  okArg_v, okArg_o, ↓Ok_tYes, nc_0, nc_1, nc_2, nc_3, nc_4, not_true_eq_false, not_false_eq_true, isN, List.length_cons, List.length_nil, Nat.zero_add, Nat.reduceAdd, List.mem_cons, List.not_mem_nil, decide_eq_true_eq, Bool.not_eq_true', decide_eq_false_iff_not, Bool.not_true, Bool.not_false, Bool.false_eq_true, if_true, if_false, true_and, and_true, or_false, or_true, true_or, reduceCtorEq, Nat.reduceEqDiff, and_self, decide_true, decide_false, Int.reduceLT, Int.reduceLE, Int.reduceEq, Int.reduceToNat, Int.reducePow, Int.reduceAdd, Int.reduceSub, Int.reduceMul, Int.reduceNeg, Int.reduceMod, Int.reduceDiv, Nat.reduceLeDiff, Nat.reduceLT, false_or, or_self, and_false, false_and]
  have hb : -18446744073709551616 < r ∧ r < 18446744073709551616 := ⟨by omega, by omega⟩
  by_cases z1 : q.2.1 ≤ q.2.2 <;> by_cases z3 : q.2.2 - q.2.1 ≤ r * q.1 <;> by_cases z2 : q.2.2 ≤ r * q.1 <;> simp only [hb, z1, z2, z3, and_self, and_true, true_and, and_false, false_and, true_or, if_true, if_false, Bool.false_eq_true]
end

section
open PySem Rc
theorem op_neBB {a b : Bool} {k : Sv → Prop} : op2 dNe (.bool a) (.bool b) k = k (.val (.bool (a != b))) := by
  cases a <;> cases b <;> rfl
theorem lay_stat (q : Gp) (r : Int) : (PyData.str (stat q r)).canLay0 = true := by
  unfold stat
  cases plain q r <;> cases again q r <;> kernel_rfl
theorem layS (l : List Gp) (r : Int) : (PyData.list ((l.map fun q => stat q r).map PyData.str)).canLay0 = true ∧ (PyData.list ((l.map fun q => stat q r).map PyData.str)).depth < 8 := by
  refine ⟨canLay_list.mpr fun d hd => ?_, Nat.lt_of_le_of_lt (depth_list (n := 1).mpr fun d hd => ?_) (by decide)⟩
  · obtain ⟨x, hx, rfl⟩ := List.mem_map.mp hd
    obtain ⟨q, _, rfl⟩ := List.mem_map.mp hx
    exact lay_stat q r
  · obtain ⟨q, _, rfl⟩ := List.mem_map.mp hd
    simp [PyData.depth]
theorem stat_c (q : Gp) (r : Int) : (stat q r == PySem.Str.ofString "contradiction") = (!plain q r && !again q r) := by
  unfold stat
  cases plain q r <;> cases again q r <;> kernel_rfl
theorem any_c {s : Smp} (g : Sm s) {r : Int} (h0 : 1 ≤ r) : (((gps s).map fun q => stat q r).any fun y => y == PySem.Str.ofString "contradiction") = decide (r < lrF (gps s)) := by
  have e := lrF_iff (gps s) h0
  have pos := gps_pos g
  rw [Bool.eq_iff_iff, decide_eq_true_eq, e, List.any_eq_true]
  constructor
  · rintro ⟨y, hy, h⟩
    obtain ⟨q, hq, rfl⟩ := List.mem_map.mp hy
    have p := pos q hq
    rw [stat_c, Bool.and_eq_true] at h
    refine ⟨q, hq, (stat_iff p.1.1 p.2.1 p.2.2 (by omega)).mp ⟨?_, ?_⟩⟩
    · intro z; rw [z] at h; exact absurd h.1 (by decide)
    · intro z; rw [z] at h; exact absurd h.2 (by decide)
  · rintro ⟨q, hq, h⟩
    have p := pos q hq
    have h := (stat_iff p.1.1 p.2.1 p.2.2 (by omega)).mpr h
    refine ⟨_, List.mem_map.mpr ⟨q, hq, rfl⟩, ?_⟩
    rw [stat_c, Bool.and_eq_true]
    rw [Bool.eq_false_iff.mpr h.1, Bool.eq_false_iff.mpr h.2]
    exact ⟨rfl, rfl⟩
theorem f3_spec {s : Smp} {p : (Int × Int) × (Int × Int)} {r : Int} (h0 : 0 ≤ r) (h1 : r ≤ 1000000) {ss : List Str} (hs : ss.length ≤ 1000) {s0 s1 s2 x4 x9 x10 x11 : Sv} (Q : Fl → Sl → Prop)
    (h : Q .nx [s0, s1, s2, .val (smD s), x4, .val (.int r), .ow ((ss ++ [stat (p.2.1 - p.1.1, p.1.2, p.2.2) r]).map PyData.str), .val (pqD p.1), .val (pqD p.2), x9, x10, x11]) :
    Ok (B_law_f3 [s0, s1, s2, .val (smD s), x4, .val (.int r), .ow (ss.map PyData.str), .val (pqD p.1), .val (pqD p.2), x9, x10, x11]) Q := by
  have lr := fun Q => lstat_rt (p.2.1 - p.1.1, p.1.2, p.2.2) h0 h1 Q
  simp only at lr
  unfold B_law_f3
  rw [List.map_append] at h
  simp -implicitDefEqProofs only [↓pq_0, ↓pq_1, ↓lr, List.length_map, ↓Ok_ok, ↓Ok_bind, ↓Ok_seq, ↓thenS_nx, ↓thenS_rt, ↓thenS_bk, ↓thenS_ct, ↓Ok_sIf, ↓Ok_pass, ↓Ok_ret, ↓Ok_setk, ↓Ok_park, ↓Ok_par3k, ↓Ok_drop, ↓Ok_for, ↓Ok_while, ↓Ok_unpk, ↓Ok_callk, ↓Ok_tryC, ↓Tr_x, ↓Tr_r, ↓nmk_s, ↓muk_n, ↓muk_c, ↓mu2_s, ↓mu2_v, ↓mu2_o, ↓zrk_n, ↓zrk_c, ↓rs_h, ↓rs_v, ↓rs_o, hd_v, hd_o, hd_u, mh_n, mh_c, ↓Rt_fnk,
  ↓sg_z, ↓sg_s, ↓sw_z, ↓sw_s, ↓td_val, ↓td_ow, ↓Ok_eLit, ↓kp_val, ↓kp_ow, ↓Ok_eV, ↓Ok_op1e, ↓Ok_op1v, ↓Ok_op2ee, ↓Ok_op2ve, ↓Ok_op2ev, ↓Ok_op2vv, ↓op_add, ↓op_addL, ↓op_addT, ↓op_addI, ↓op_subI, ↓op_addB, ↓op_subB, ↓op_sub, ↓op_mul, ↓op_mod, ↓op_div, ↓op_pow, ↓op_lt, ↓op_le, ↓op_gt, ↓op_ge, ↓op_eqI, ↓op_neI, ↓op_neg, ↓op_isN, ↓op_notN, ↓op_lenL, ↓op_lenT,
  ↓op_isi_i, ↓op_isi_b, ↓op_isi_l, ↓op_isi_t, ↓op_isi_n, ↓op_isi_s, ↓op_abs, ↓op_max2, ↓op_min2, ↓op_tupL, ↓op_tupT, ↓op_lstL, ↓op_lstT, ↓ix_0, ↓ix_1, ↓ix_2, ↓ix_3, ↓tx_0, ↓tx_1, ↓tx_2, ↓tx_3, ↓Ok_datum, ↓Ok_evL0, ↓Ok_evLc, ↓Ok_eTup, ↓Ok_eLst, ↓bk_b, ↓Ok_tB, ↓Ok_eB, ↓Ok_tNot, ↓Ok_tAnd, ↓Ok_tOr, ↓Ok_eAnd, ↓Ok_eOr, ↓Ok_eIf, ↓fk_i, ↓fk_b, ↓fk_n, ↓Ok_evSe, ↓Ok_evSv, ↓ck2_b, ↓Ok_eChain,
  ↓pk_n, ↓pk_t, ↓pk_l, ↓pks_n, ↓pks_c, ↓vk_val, ↓vk_ow, ↓rvk_val, ↓rvk_ow, ↓Ok_retV, ↓augk_val, ↓Ok_augk, ↓nk_i, ↓Ok_setIx, ↓ixk_0, ↓ixk_1, ↓ixk_2, ↓apk_ow, ↓owk_ow, ↓Ok_app, ↓ak_n, ↓ak_d, ↓ak_b, ↓gk_n, ↓gk_l, ↓gk_r, ↓zk_n, ↓zk_l, ↓zk_r, ↓sgm_z, ↓sgm_s, ↓mk2_v, ↓mk2_o, ↓ik_z, ↓ik_n, ↓ik_s, ↓uk_z, ↓uk_s, ↓rtk_rt, ↓rtk_nx, ↓nok_n, ↓nok_v, ↓nok_o,
  ↓afk_nx, ↓afk_ct, ↓afk_bk, ↓afk_rt, ↓dk_l, ↓dk_t, ↓Ok_evPn, ↓Ok_evPs, ↓Ok_cutek, ↓Ok_cutv, ↓op_cutL, ↓op_cutT, ↓Ok_wSeq, ↓rk_i, ↓Ok_wRng1, ↓Ok_wRng2, ↓Ok_wEnum, ↓Ok_wZip2, ↓Ok_wZip3, ↓Ok_wN, ↓wk_n, ↓wk_c, ↓op_isB, ↓op_isNB, ↓dkk_d, ↓vk_dki, ↓lkk_s, ↓Ok_newK, ↓Ok_dlen, ↓Ok_dsorted, ↓Ok_dget, ↓Ok_dgetD, ↓Ok_dput,
  okArg_v, okArg_o, ↓Ok_tYes, nc_0, nc_1, nc_2, nc_3, nc_4, not_true_eq_false, not_false_eq_true, isN, List.length_cons, List.length_nil, Nat.zero_add, Nat.reduceAdd, List.mem_cons, List.not_mem_nil, decide_eq_true_eq, Bool.not_eq_true', decide_eq_false_iff_not, Bool.not_true, Bool.not_false, Bool.false_eq_true, if_true, if_false, true_and, and_true, or_false, or_true, true_or, reduceCtorEq, Nat.reduceEqDiff, and_self, decide_true, decide_false, Int.reduceLT, Int.reduceLE, Int.reduceEq, Int.reduceToNat, Int.reducePow, Int.reduceAdd, Int.reduceSub, Int.reduceMul, Int.reduceNeg, Int.reduceMod, Int.reduceDiv, Nat.reduceLeDiff, Nat.reduceLT, false_or, or_self, and_false, false_and]
  exact ⟨by omega, h⟩
theorem f2_spec {s : Smp} (g : Sm s) {r : Int} {s0 s1 s2 x6 x7 x8 x9 x10 x11 : Sv} (Q : Fl → Sl → Prop)
    (h : ∀ x6 x7 x8 x9, Q .nx [s0, s1, s2, .val (smD s), .val (.int (lrF (gps s))), .val (.int r), x6, x7, x8, x9, x10, x11]) :
    Ok (B_law_f2 [s0, s1, s2, .val (smD s), .val (.int (lrF (gps s))), .val (.int r), x6, x7, x8, x9, x10, x11]) Q := by
  have l40 := g.len
  have lay := layS (gps s) r
  have sh : SeqAt.shaped (.list (((gps s).map fun q => stat q r).map PyData.str)) = true := shaped_iff.mpr ⟨lay.1, by omega⟩
  have gl : (gps s).length ≤ 40 := by
    unfold gps prs
    rw [List.length_map, List.length_zip]
    omega
  unfold B_law_f2
  simp -implicitDefEqProofs only [if_true, ↓Ok_ok, ↓Ok_bind, ↓Ok_seq, ↓thenS_nx, ↓thenS_rt, ↓thenS_bk, ↓thenS_ct, ↓Ok_sIf, ↓Ok_pass, ↓Ok_ret, ↓Ok_setk, ↓Ok_park, ↓Ok_par3k, ↓Ok_drop, ↓Ok_for, ↓Ok_while, ↓Ok_unpk, ↓Ok_callk, ↓Ok_tryC, ↓Tr_x, ↓Tr_r, ↓nmk_s, ↓muk_n, ↓muk_c, ↓mu2_s, ↓mu2_v, ↓mu2_o, ↓zrk_n, ↓zrk_c, ↓rs_h, ↓rs_v, ↓rs_o, hd_v, hd_o, hd_u, mh_n, mh_c, ↓Rt_fnk,
  ↓sg_z, ↓sg_s, ↓sw_z, ↓sw_s, ↓td_val, ↓td_ow, ↓Ok_eLit, ↓kp_val, ↓kp_ow, ↓Ok_eV, ↓Ok_op1e, ↓Ok_op1v, ↓Ok_op2ee, ↓Ok_op2ve, ↓Ok_op2ev, ↓Ok_op2vv, ↓op_add, ↓op_addL, ↓op_addT, ↓op_addI, ↓op_subI, ↓op_addB, ↓op_subB, ↓op_sub, ↓op_mul, ↓op_mod, ↓op_div, ↓op_pow, ↓op_lt, ↓op_le, ↓op_gt, ↓op_ge, ↓op_eqI, ↓op_neI, ↓op_neg, ↓op_isN, ↓op_notN, ↓op_lenL, ↓op_lenT,
  ↓op_isi_i, ↓op_isi_b, ↓op_isi_l, ↓op_isi_t, ↓op_isi_n, ↓op_isi_s, ↓op_abs, ↓op_max2, ↓op_min2, ↓op_tupL, ↓op_tupT, ↓op_lstL, ↓op_lstT, ↓ix_0, ↓ix_1, ↓ix_2, ↓ix_3, ↓tx_0, ↓tx_1, ↓tx_2, ↓tx_3, ↓Ok_datum, ↓Ok_evL0, ↓Ok_evLc, ↓Ok_eTup, ↓Ok_eLst, ↓bk_b, ↓Ok_tB, ↓Ok_eB, ↓Ok_tNot, ↓Ok_tAnd, ↓Ok_tOr, ↓Ok_eAnd, ↓Ok_eOr, ↓Ok_eIf, ↓fk_i, ↓fk_b, ↓fk_n, ↓Ok_evSe, ↓Ok_evSv, ↓ck2_b, ↓Ok_eChain,
  ↓pk_n, ↓pk_t, ↓pk_l, ↓pks_n, ↓pks_c, ↓vk_val, ↓vk_ow, ↓rvk_val, ↓rvk_ow, ↓Ok_retV, ↓augk_val, ↓Ok_augk, ↓nk_i, ↓Ok_setIx, ↓ixk_0, ↓ixk_1, ↓ixk_2, ↓apk_ow, ↓owk_ow, ↓Ok_app, ↓ak_n, ↓ak_d, ↓ak_b, ↓gk_n, ↓gk_l, ↓gk_r, ↓zk_n, ↓zk_l, ↓zk_r, ↓sgm_z, ↓sgm_s, ↓mk2_v, ↓mk2_o, ↓ik_z, ↓ik_n, ↓ik_s, ↓uk_z, ↓uk_s, ↓rtk_rt, ↓rtk_nx, ↓nok_n, ↓nok_v, ↓nok_o,
  ↓afk_nx, ↓afk_ct, ↓afk_bk, ↓afk_rt, ↓dk_l, ↓dk_t, ↓Ok_evPn, ↓Ok_evPs, ↓Ok_cutek, ↓Ok_cutv, ↓op_cutL, ↓op_cutT, ↓Ok_wSeq, ↓rk_i, ↓Ok_wRng1, ↓Ok_wRng2, ↓Ok_wEnum, ↓Ok_wZip2, ↓Ok_wZip3, ↓Ok_wN, ↓wk_n, ↓wk_c, ↓op_isB, ↓op_isNB, ↓dkk_d, ↓vk_dki, ↓lkk_s, ↓Ok_newK, ↓Ok_dlen, ↓Ok_dsorted, ↓Ok_dget, ↓Ok_dgetD, ↓Ok_dput,
  okArg_v, okArg_o, ↓Ok_tYes, nc_0, nc_1, nc_2, nc_3, nc_4, not_true_eq_false, not_false_eq_true, isN, List.length_cons, List.length_nil, Nat.zero_add, Nat.reduceAdd, List.mem_cons, List.not_mem_nil, decide_eq_true_eq, Bool.not_eq_true', decide_eq_false_iff_not, Bool.not_true, Bool.not_false, Bool.false_eq_true, if_true, if_false, true_and, and_true, or_false, or_true, true_or, reduceCtorEq, Nat.reduceEqDiff, and_self, decide_true, decide_false, Int.reduceLT, Int.reduceLE, Int.reduceEq, Int.reduceToNat, Int.reducePow, Int.reduceAdd, Int.reduceSub, Int.reduceMul, Int.reduceNeg, Int.reduceMod, Int.reduceDiv, Nat.reduceLeDiff, Nat.reduceLT, false_or, or_self, and_false, false_and]
  refine ifc (fun h0 => ifc (fun h1 => ?_) fun _ => h ..) fun _ => h ..
  rw [zip2_cut pqD s]
  refine for_ty (prs s) (fun q => .tuple [pqD q.1, pqD q.2]) (fun pre S => ∃ x7 x8, S = [s0, s1, s2, .val (smD s), .val (.int (lrF (gps s))), .val (.int r), .ow ((pre.map fun q => stat (q.2.1 - q.1.1, q.1.2, q.2.2) r).map PyData.str), x7, x8, x9, x10, x11])
    (fun S ⟨x7, x8, hS⟩ => ?en) (fun pre q post S hx ⟨x7, x8, hS⟩ => ?st) _ ⟨_, _, rfl⟩
  case st =>
    subst hS
    have pl : pre.length ≤ 40 := by
      have := congrArg List.length hx
      have z : (prs s).length ≤ 40 := by unfold prs; rw [List.length_zip]; omega
      rw [List.length_append, List.length_cons] at this
      omega
    have em : ((pre ++ [q]).map fun q => stat (q.2.1 - q.1.1, q.1.2, q.2.2) r) = (pre.map fun q => stat (q.2.1 - q.1.1, q.1.2, q.2.2) r) ++ [stat (q.2.1 - q.1.1, q.1.2, q.2.2) r] := by
      rw [List.map_append]
      rfl
    rw [em]
    simp -implicitDefEqProofs only [if_true, ↓Ok_ok, ↓Ok_bind, ↓Ok_seq, ↓thenS_nx, ↓thenS_rt, ↓thenS_bk, ↓thenS_ct, ↓Ok_sIf, ↓Ok_pass, ↓Ok_ret, ↓Ok_setk, ↓Ok_park, ↓Ok_par3k, ↓Ok_drop, ↓Ok_for, ↓Ok_while, ↓Ok_unpk, ↓Ok_callk, ↓Ok_tryC, ↓Tr_x, ↓Tr_r, ↓nmk_s, ↓muk_n, ↓muk_c, ↓mu2_s, ↓mu2_v, ↓mu2_o, ↓zrk_n, ↓zrk_c, ↓rs_h, ↓rs_v, ↓rs_o, hd_v, hd_o, hd_u, mh_n, mh_c, ↓Rt_fnk,
  ↓sg_z, ↓sg_s, ↓sw_z, ↓sw_s, ↓td_val, ↓td_ow, ↓Ok_eLit, ↓kp_val, ↓kp_ow, ↓Ok_eV, ↓Ok_op1e, ↓Ok_op1v, ↓Ok_op2ee, ↓Ok_op2ve, ↓Ok_op2ev, ↓Ok_op2vv, ↓op_add, ↓op_addL, ↓op_addT, ↓op_addI, ↓op_subI, ↓op_addB, ↓op_subB, ↓op_sub, ↓op_mul, ↓op_mod, ↓op_div, ↓op_pow, ↓op_lt, ↓op_le, ↓op_gt, ↓op_ge, ↓op_eqI, ↓op_neI, ↓op_neg, ↓op_isN, ↓op_notN, ↓op_lenL, ↓op_lenT,
  ↓op_isi_i, ↓op_isi_b, ↓op_isi_l, ↓op_isi_t, ↓op_isi_n, ↓op_isi_s, ↓op_abs, ↓op_max2, ↓op_min2, ↓op_tupL, ↓op_tupT, ↓op_lstL, ↓op_lstT, ↓ix_0, ↓ix_1, ↓ix_2, ↓ix_3, ↓tx_0, ↓tx_1, ↓tx_2, ↓tx_3, ↓Ok_datum, ↓Ok_evL0, ↓Ok_evLc, ↓Ok_eTup, ↓Ok_eLst, ↓bk_b, ↓Ok_tB, ↓Ok_eB, ↓Ok_tNot, ↓Ok_tAnd, ↓Ok_tOr, ↓Ok_eAnd, ↓Ok_eOr, ↓Ok_eIf, ↓fk_i, ↓fk_b, ↓fk_n, ↓Ok_evSe, ↓Ok_evSv, ↓ck2_b, ↓Ok_eChain,
  ↓pk_n, ↓pk_t, ↓pk_l, ↓pks_n, ↓pks_c, ↓vk_val, ↓vk_ow, ↓rvk_val, ↓rvk_ow, ↓Ok_retV, ↓augk_val, ↓Ok_augk, ↓nk_i, ↓Ok_setIx, ↓ixk_0, ↓ixk_1, ↓ixk_2, ↓apk_ow, ↓owk_ow, ↓Ok_app, ↓ak_n, ↓ak_d, ↓ak_b, ↓gk_n, ↓gk_l, ↓gk_r, ↓zk_n, ↓zk_l, ↓zk_r, ↓sgm_z, ↓sgm_s, ↓mk2_v, ↓mk2_o, ↓ik_z, ↓ik_n, ↓ik_s, ↓uk_z, ↓uk_s, ↓rtk_rt, ↓rtk_nx, ↓nok_n, ↓nok_v, ↓nok_o,
  ↓afk_nx, ↓afk_ct, ↓afk_bk, ↓afk_rt, ↓dk_l, ↓dk_t, ↓Ok_evPn, ↓Ok_evPs, ↓Ok_cutek, ↓Ok_cutv, ↓op_cutL, ↓op_cutT, ↓Ok_wSeq, ↓rk_i, ↓Ok_wRng1, ↓Ok_wRng2, ↓Ok_wEnum, ↓Ok_wZip2, ↓Ok_wZip3, ↓Ok_wN, ↓wk_n, ↓wk_c, ↓op_isB, ↓op_isNB, ↓dkk_d, ↓vk_dki, ↓lkk_s, ↓Ok_newK, ↓Ok_dlen, ↓Ok_dsorted, ↓Ok_dget, ↓Ok_dgetD, ↓Ok_dput,
  okArg_v, okArg_o, ↓Ok_tYes, nc_0, nc_1, nc_2, nc_3, nc_4, not_true_eq_false, not_false_eq_true, isN, List.length_cons, List.length_nil, Nat.zero_add, Nat.reduceAdd, List.mem_cons, List.not_mem_nil, decide_eq_true_eq, Bool.not_eq_true', decide_eq_false_iff_not, Bool.not_true, Bool.not_false, Bool.false_eq_true, if_true, if_false, true_and, and_true, or_false, or_true, true_or, reduceCtorEq, Nat.reduceEqDiff, and_self, decide_true, decide_false, Int.reduceLT, Int.reduceLE, Int.reduceEq, Int.reduceToNat, Int.reducePow, Int.reduceAdd, Int.reduceSub, Int.reduceMul, Int.reduceNeg, Int.reduceMod, Int.reduceDiv, Nat.reduceLeDiff, Nat.reduceLT, false_or, or_self, and_false, false_and]
    exact f3_spec (p := q) (by omega) h1 (by rw [List.length_map]; omega) _ ⟨_, _, rfl⟩
  case en =>
    subst hS
    have e : ((prs s).map fun q => stat (q.2.1 - q.1.1, q.1.2, q.2.2) r) = (gps s).map fun q => stat q r := by
      unfold gps
      rw [List.map_map]
      rfl
    rw [e]
    have ac := any_c g h0
    simp -implicitDefEqProofs only [↓restart_rt g h0 h1, ↓same_rt (s := .ow (((gps s).map fun q => stat q r).map PyData.str)) (t := .ow (((gps s).map fun q => stat q r).map PyData.str)) rfl rfl lay.1 lay.2, ↓op_inL, ac, ↓op_neBB, ↓op_ne_same sh, List.length_map, ↓Ok_ok, ↓Ok_bind, ↓Ok_seq, ↓thenS_nx, ↓thenS_rt, ↓thenS_bk, ↓thenS_ct, ↓Ok_sIf, ↓Ok_pass, ↓Ok_ret, ↓Ok_setk, ↓Ok_park, ↓Ok_par3k, ↓Ok_drop, ↓Ok_for, ↓Ok_while, ↓Ok_unpk, ↓Ok_callk, ↓Ok_tryC, ↓Tr_x, ↓Tr_r, ↓nmk_s, ↓muk_n, ↓muk_c, ↓mu2_s, ↓mu2_v, ↓mu2_o, ↓zrk_n, ↓zrk_c, ↓rs_h, ↓rs_v, ↓rs_o, hd_v, hd_o, hd_u, mh_n, mh_c, ↓Rt_fnk,
  ↓sg_z, ↓sg_s, ↓sw_z, ↓sw_s, ↓td_val, ↓td_ow, ↓Ok_eLit, ↓kp_val, ↓kp_ow, ↓Ok_eV, ↓Ok_op1e, ↓Ok_op1v, ↓Ok_op2ee, ↓Ok_op2ve, ↓Ok_op2ev, ↓Ok_op2vv, ↓op_add, ↓op_addL, ↓op_addT, ↓op_addI, ↓op_subI, ↓op_addB, ↓op_subB, ↓op_sub, ↓op_mul, ↓op_mod, ↓op_div, ↓op_pow, ↓op_lt, ↓op_le, ↓op_gt, ↓op_ge, ↓op_eqI, ↓op_neI, ↓op_neg, ↓op_isN, ↓op_notN, ↓op_lenL, ↓op_lenT,
  ↓op_isi_i, ↓op_isi_b, ↓op_isi_l, ↓op_isi_t, ↓op_isi_n, ↓op_isi_s, ↓op_abs, ↓op_max2, ↓op_min2, ↓op_tupL, ↓op_tupT, ↓op_lstL, ↓op_lstT, ↓ix_0, ↓ix_1, ↓ix_2, ↓ix_3, ↓tx_0, ↓tx_1, ↓tx_2, ↓tx_3, ↓Ok_datum, ↓Ok_evL0, ↓Ok_evLc, ↓Ok_eTup, ↓Ok_eLst, ↓bk_b, ↓Ok_tB, ↓Ok_eB, ↓Ok_tNot, ↓Ok_tAnd, ↓Ok_tOr, ↓Ok_eAnd, ↓Ok_eOr, ↓Ok_eIf, ↓fk_i, ↓fk_b, ↓fk_n, ↓Ok_evSe, ↓Ok_evSv, ↓ck2_b, ↓Ok_eChain,
  ↓pk_n, ↓pk_t, ↓pk_l, ↓pks_n, ↓pks_c, ↓vk_val, ↓vk_ow, ↓rvk_val, ↓rvk_ow, ↓Ok_retV, ↓augk_val, ↓Ok_augk, ↓nk_i, ↓Ok_setIx, ↓ixk_0, ↓ixk_1, ↓ixk_2, ↓apk_ow, ↓owk_ow, ↓Ok_app, ↓ak_n, ↓ak_d, ↓ak_b, ↓gk_n, ↓gk_l, ↓gk_r, ↓zk_n, ↓zk_l, ↓zk_r, ↓sgm_z, ↓sgm_s, ↓mk2_v, ↓mk2_o, ↓ik_z, ↓ik_n, ↓ik_s, ↓uk_z, ↓uk_s, ↓rtk_rt, ↓rtk_nx, ↓nok_n, ↓nok_v, ↓nok_o,
  ↓afk_nx, ↓afk_ct, ↓afk_bk, ↓afk_rt, ↓dk_l, ↓dk_t, ↓Ok_evPn, ↓Ok_evPs, ↓Ok_cutek, ↓Ok_cutv, ↓op_cutL, ↓op_cutT, ↓Ok_wSeq, ↓rk_i, ↓Ok_wRng1, ↓Ok_wRng2, ↓Ok_wEnum, ↓Ok_wZip2, ↓Ok_wZip3, ↓Ok_wN, ↓wk_n, ↓wk_c, ↓op_isB, ↓op_isNB, ↓dkk_d, ↓vk_dki, ↓lkk_s, ↓Ok_newK, ↓Ok_dlen, ↓Ok_dsorted, ↓Ok_dget, ↓Ok_dgetD, ↓Ok_dput,
  okArg_v, okArg_o, ↓Ok_tYes, nc_0, nc_1, nc_2, nc_3, nc_4, not_true_eq_false, not_false_eq_true, isN, List.length_cons, List.length_nil, Nat.zero_add, Nat.reduceAdd, List.mem_cons, List.not_mem_nil, decide_eq_true_eq, Bool.not_eq_true', decide_eq_false_iff_not, Bool.not_true, Bool.not_false, Bool.false_eq_true, if_true, if_false, true_and, and_true, or_false, or_true, true_or, reduceCtorEq, Nat.reduceEqDiff, and_self, decide_true, decide_false, Int.reduceLT, Int.reduceLE, Int.reduceEq, Int.reduceToNat, Int.reducePow, Int.reduceAdd, Int.reduceSub, Int.reduceMul, Int.reduceNeg, Int.reduceMod, Int.reduceDiv, Nat.reduceLeDiff, Nat.reduceLT, false_or, or_self, and_false, false_and]
    exact iff' (by simp) ⟨by omega, h ..⟩
end

/-! ### what raises -/
section
open PySem Rc
abbrev OddR (d : D) : Prop := d = .none ∨ d = .bool true ∨ d = .int 0 ∨ d = .int 1000001 ∨ d = .str "1"
theorem need_ex {d : D} (h : OddR d) : F_need_rate [.val d] = .ex ⟨"InvalidRate", none⟩ [.val d] := by
  rcases h with rfl | rfl | rfl | rfl | rfl <;> kernel_rfl
theorem door_ex {s : Smp} (g : Sm s) {d : D} (h : OddR d) :
    F_restart_statuses [.val (smD s), .val d] = .ex ⟨"InvalidRate", none⟩ [.val (smD s), .val d] ∧ F_total_bounds [.val (smD s), .val d] = .ex ⟨"InvalidRate", none⟩ [.val (smD s), .val d] ∧ F_total_ranges [.val (smD s), .val d] = .ex ⟨"InvalidRate", none⟩ [.val (smD s), .val d] := by
  have nx := need_ex h
  refine ⟨ex_of ?_, ex_of ?_, ex_of ?_⟩
  · unfold F_restart_statuses B_restart_statuses
    simp -implicitDefEqProofs only [↓RtE_fn, ↓Ok_ok, ↓Ok_bind, ↓Ok_seq, ↓thenS_nx, ↓thenS_rt, ↓thenS_bk, ↓thenS_ct, ↓Ok_sIf, ↓Ok_pass, ↓Ok_ret, ↓Ok_setk, ↓Ok_park, ↓Ok_par3k, ↓Ok_drop, ↓Ok_for, ↓Ok_while, ↓Ok_unpk, ↓Ok_callk, ↓Ok_tryC, ↓Tr_x, ↓Tr_r, ↓nmk_s, ↓muk_n, ↓muk_c, ↓mu2_s, ↓mu2_v, ↓mu2_o, ↓zrk_n, ↓zrk_c, ↓rs_h, ↓rs_v, ↓rs_o, hd_v, hd_o, hd_u, mh_n, mh_c, ↓Rt_fnk,
  ↓sg_z, ↓sg_s, ↓sw_z, ↓sw_s, ↓td_val, ↓td_ow, ↓Ok_eLit, ↓kp_val, ↓kp_ow, ↓Ok_eV, ↓Ok_op1e, ↓Ok_op1v, ↓Ok_op2ee, ↓Ok_op2ve, ↓Ok_op2ev, ↓Ok_op2vv, ↓op_add, ↓op_addL, ↓op_addT, ↓op_addI, ↓op_subI, ↓op_addB, ↓op_subB, ↓op_sub, ↓op_mul, ↓op_mod, ↓op_div, ↓op_pow, ↓op_lt, ↓op_le, ↓op_gt, ↓op_ge, ↓op_eqI, ↓op_neI, ↓op_neg, ↓op_isN, ↓op_notN, ↓op_lenL, ↓op_lenT,
  ↓op_isi_i, ↓op_isi_b, ↓op_isi_l, ↓op_isi_t, ↓op_isi_n, ↓op_isi_s, ↓op_abs, ↓op_max2, ↓op_min2, ↓op_tupL, ↓op_tupT, ↓op_lstL, ↓op_lstT, ↓ix_0, ↓ix_1, ↓ix_2, ↓ix_3, ↓tx_0, ↓tx_1, ↓tx_2, ↓tx_3, ↓Ok_datum, ↓Ok_evL0, ↓Ok_evLc, ↓Ok_eTup, ↓Ok_eLst, ↓bk_b, ↓Ok_tB, ↓Ok_eB, ↓Ok_tNot, ↓Ok_tAnd, ↓Ok_tOr, ↓Ok_eAnd, ↓Ok_eOr, ↓Ok_eIf, ↓fk_i, ↓fk_b, ↓fk_n, ↓Ok_evSe, ↓Ok_evSv, ↓ck2_b, ↓Ok_eChain,
  ↓pk_n, ↓pk_t, ↓pk_l, ↓pks_n, ↓pks_c, ↓vk_val, ↓vk_ow, ↓rvk_val, ↓rvk_ow, ↓Ok_retV, ↓augk_val, ↓Ok_augk, ↓nk_i, ↓Ok_setIx, ↓ixk_0, ↓ixk_1, ↓ixk_2, ↓apk_ow, ↓owk_ow, ↓Ok_app, ↓ak_n, ↓ak_d, ↓ak_b, ↓gk_n, ↓gk_l, ↓gk_r, ↓zk_n, ↓zk_l, ↓zk_r, ↓sgm_z, ↓sgm_s, ↓mk2_v, ↓mk2_o, ↓ik_z, ↓ik_n, ↓ik_s, ↓uk_z, ↓uk_s, ↓rtk_rt, ↓rtk_nx, ↓nok_n, ↓nok_v, ↓nok_o,
  ↓afk_nx, ↓afk_ct, ↓afk_bk, ↓afk_rt, ↓dk_l, ↓dk_t, ↓Ok_evPn, ↓Ok_evPs, ↓Ok_cutek, ↓Ok_cutv, ↓op_cutL, ↓op_cutT, ↓Ok_wSeq, ↓rk_i, ↓Ok_wRng1, ↓Ok_wRng2, ↓Ok_wEnum, ↓Ok_wZip2, ↓Ok_wZip3, ↓Ok_wN, ↓wk_n, ↓wk_c, ↓op_isB, ↓op_isNB, ↓dkk_d, ↓vk_dki, ↓lkk_s, ↓Ok_newK, ↓Ok_dlen, ↓Ok_dsorted, ↓Ok_dget, ↓Ok_dgetD, ↓Ok_dput,
  okArg_v, okArg_o, ↓Ok_tYes, nc_0, nc_1, nc_2, nc_3, nc_4, not_true_eq_false, not_false_eq_true, isN, List.length_cons, List.length_nil, Nat.zero_add, Nat.reduceAdd, List.mem_cons, List.not_mem_nil, decide_eq_true_eq, Bool.not_eq_true', decide_eq_false_iff_not, Bool.not_true, Bool.not_false, Bool.false_eq_true, if_true, if_false, true_and, and_true, or_false, or_true, true_or, reduceCtorEq, Nat.reduceEqDiff, and_self, decide_true, decide_false, Int.reduceLT, Int.reduceLE, Int.reduceEq, Int.reduceToNat, Int.reducePow, Int.reduceAdd, Int.reduceSub, Int.reduceMul, Int.reduceNeg, Int.reduceMod, Int.reduceDiv, Nat.reduceLeDiff, Nat.reduceLT, false_or, or_self, and_false, false_and]
    refine E_seq2 ?_
    simp -implicitDefEqProofs only [↓need_s g, ↓Ok_ok, ↓Ok_bind, ↓Ok_seq, ↓thenS_nx, ↓thenS_rt, ↓thenS_bk, ↓thenS_ct, ↓Ok_sIf, ↓Ok_pass, ↓Ok_ret, ↓Ok_setk, ↓Ok_park, ↓Ok_par3k, ↓Ok_drop, ↓Ok_for, ↓Ok_while, ↓Ok_unpk, ↓Ok_callk, ↓Ok_tryC, ↓Tr_x, ↓Tr_r, ↓nmk_s, ↓muk_n, ↓muk_c, ↓mu2_s, ↓mu2_v, ↓mu2_o, ↓zrk_n, ↓zrk_c, ↓rs_h, ↓rs_v, ↓rs_o, hd_v, hd_o, hd_u, mh_n, mh_c, ↓Rt_fnk,
  ↓sg_z, ↓sg_s, ↓sw_z, ↓sw_s, ↓td_val, ↓td_ow, ↓Ok_eLit, ↓kp_val, ↓kp_ow, ↓Ok_eV, ↓Ok_op1e, ↓Ok_op1v, ↓Ok_op2ee, ↓Ok_op2ve, ↓Ok_op2ev, ↓Ok_op2vv, ↓op_add, ↓op_addL, ↓op_addT, ↓op_addI, ↓op_subI, ↓op_addB, ↓op_subB, ↓op_sub, ↓op_mul, ↓op_mod, ↓op_div, ↓op_pow, ↓op_lt, ↓op_le, ↓op_gt, ↓op_ge, ↓op_eqI, ↓op_neI, ↓op_neg, ↓op_isN, ↓op_notN, ↓op_lenL, ↓op_lenT,
  ↓op_isi_i, ↓op_isi_b, ↓op_isi_l, ↓op_isi_t, ↓op_isi_n, ↓op_isi_s, ↓op_abs, ↓op_max2, ↓op_min2, ↓op_tupL, ↓op_tupT, ↓op_lstL, ↓op_lstT, ↓ix_0, ↓ix_1, ↓ix_2, ↓ix_3, ↓tx_0, ↓tx_1, ↓tx_2, ↓tx_3, ↓Ok_datum, ↓Ok_evL0, ↓Ok_evLc, ↓Ok_eTup, ↓Ok_eLst, ↓bk_b, ↓Ok_tB, ↓Ok_eB, ↓Ok_tNot, ↓Ok_tAnd, ↓Ok_tOr, ↓Ok_eAnd, ↓Ok_eOr, ↓Ok_eIf, ↓fk_i, ↓fk_b, ↓fk_n, ↓Ok_evSe, ↓Ok_evSv, ↓ck2_b, ↓Ok_eChain,
  ↓pk_n, ↓pk_t, ↓pk_l, ↓pks_n, ↓pks_c, ↓vk_val, ↓vk_ow, ↓rvk_val, ↓rvk_ow, ↓Ok_retV, ↓augk_val, ↓Ok_augk, ↓nk_i, ↓Ok_setIx, ↓ixk_0, ↓ixk_1, ↓ixk_2, ↓apk_ow, ↓owk_ow, ↓Ok_app, ↓ak_n, ↓ak_d, ↓ak_b, ↓gk_n, ↓gk_l, ↓gk_r, ↓zk_n, ↓zk_l, ↓zk_r, ↓sgm_z, ↓sgm_s, ↓mk2_v, ↓mk2_o, ↓ik_z, ↓ik_n, ↓ik_s, ↓uk_z, ↓uk_s, ↓rtk_rt, ↓rtk_nx, ↓nok_n, ↓nok_v, ↓nok_o,
  ↓afk_nx, ↓afk_ct, ↓afk_bk, ↓afk_rt, ↓dk_l, ↓dk_t, ↓Ok_evPn, ↓Ok_evPs, ↓Ok_cutek, ↓Ok_cutv, ↓op_cutL, ↓op_cutT, ↓Ok_wSeq, ↓rk_i, ↓Ok_wRng1, ↓Ok_wRng2, ↓Ok_wEnum, ↓Ok_wZip2, ↓Ok_wZip3, ↓Ok_wN, ↓wk_n, ↓wk_c, ↓op_isB, ↓op_isNB, ↓dkk_d, ↓vk_dki, ↓lkk_s, ↓Ok_newK, ↓Ok_dlen, ↓Ok_dsorted, ↓Ok_dget, ↓Ok_dgetD, ↓Ok_dput,
  okArg_v, okArg_o, ↓Ok_tYes, nc_0, nc_1, nc_2, nc_3, nc_4, not_true_eq_false, not_false_eq_true, isN, List.length_cons, List.length_nil, Nat.zero_add, Nat.reduceAdd, List.mem_cons, List.not_mem_nil, decide_eq_true_eq, Bool.not_eq_true', decide_eq_false_iff_not, Bool.not_true, Bool.not_false, Bool.false_eq_true, if_true, if_false, true_and, and_true, or_false, or_true, true_or, reduceCtorEq, Nat.reduceEqDiff, and_self, decide_true, decide_false, Int.reduceLT, Int.reduceLE, Int.reduceEq, Int.reduceToNat, Int.reducePow, Int.reduceAdd, Int.reduceSub, Int.reduceMul, Int.reduceNeg, Int.reduceMod, Int.reduceDiv, Nat.reduceLeDiff, Nat.reduceLT, false_or, or_self, and_false, false_and]
    refine E_seq1 (E_drop (E_call ?_))
    simp -implicitDefEqProofs only [↓RtE_eq nx, outsOf, ↓Ok_ok, ↓Ok_bind, ↓Ok_seq, ↓thenS_nx, ↓thenS_rt, ↓thenS_bk, ↓thenS_ct, ↓Ok_sIf, ↓Ok_pass, ↓Ok_ret, ↓Ok_setk, ↓Ok_park, ↓Ok_par3k, ↓Ok_drop, ↓Ok_for, ↓Ok_while, ↓Ok_unpk, ↓Ok_callk, ↓Ok_tryC, ↓Tr_x, ↓Tr_r, ↓nmk_s, ↓muk_n, ↓muk_c, ↓mu2_s, ↓mu2_v, ↓mu2_o, ↓zrk_n, ↓zrk_c, ↓rs_h, ↓rs_v, ↓rs_o, hd_v, hd_o, hd_u, mh_n, mh_c, ↓Rt_fnk,
  ↓sg_z, ↓sg_s, ↓sw_z, ↓sw_s, ↓td_val, ↓td_ow, ↓Ok_eLit, ↓kp_val, ↓kp_ow, ↓Ok_eV, ↓Ok_op1e, ↓Ok_op1v, ↓Ok_op2ee, ↓Ok_op2ve, ↓Ok_op2ev, ↓Ok_op2vv, ↓op_add, ↓op_addL, ↓op_addT, ↓op_addI, ↓op_subI, ↓op_addB, ↓op_subB, ↓op_sub, ↓op_mul, ↓op_mod, ↓op_div, ↓op_pow, ↓op_lt, ↓op_le, ↓op_gt, ↓op_ge, ↓op_eqI, ↓op_neI, ↓op_neg, ↓op_isN, ↓op_notN, ↓op_lenL, ↓op_lenT,
  ↓op_isi_i, ↓op_isi_b, ↓op_isi_l, ↓op_isi_t, ↓op_isi_n, ↓op_isi_s, ↓op_abs, ↓op_max2, ↓op_min2, ↓op_tupL, ↓op_tupT, ↓op_lstL, ↓op_lstT, ↓ix_0, ↓ix_1, ↓ix_2, ↓ix_3, ↓tx_0, ↓tx_1, ↓tx_2, ↓tx_3, ↓Ok_datum, ↓Ok_evL0, ↓Ok_evLc, ↓Ok_eTup, ↓Ok_eLst, ↓bk_b, ↓Ok_tB, ↓Ok_eB, ↓Ok_tNot, ↓Ok_tAnd, ↓Ok_tOr, ↓Ok_eAnd, ↓Ok_eOr, ↓Ok_eIf, ↓fk_i, ↓fk_b, ↓fk_n, ↓Ok_evSe, ↓Ok_evSv, ↓ck2_b, ↓Ok_eChain,
  ↓pk_n, ↓pk_t, ↓pk_l, ↓pks_n, ↓pks_c, ↓vk_val, ↓vk_ow, ↓rvk_val, ↓rvk_ow, ↓Ok_retV, ↓augk_val, ↓Ok_augk, ↓nk_i, ↓Ok_setIx, ↓ixk_0, ↓ixk_1, ↓ixk_2, ↓apk_ow, ↓owk_ow, ↓Ok_app, ↓ak_n, ↓ak_d, ↓ak_b, ↓gk_n, ↓gk_l, ↓gk_r, ↓zk_n, ↓zk_l, ↓zk_r, ↓sgm_z, ↓sgm_s, ↓mk2_v, ↓mk2_o, ↓ik_z, ↓ik_n, ↓ik_s, ↓uk_z, ↓uk_s, ↓rtk_rt, ↓rtk_nx, ↓nok_n, ↓nok_v, ↓nok_o,
  ↓afk_nx, ↓afk_ct, ↓afk_bk, ↓afk_rt, ↓dk_l, ↓dk_t, ↓Ok_evPn, ↓Ok_evPs, ↓Ok_cutek, ↓Ok_cutv, ↓op_cutL, ↓op_cutT, ↓Ok_wSeq, ↓rk_i, ↓Ok_wRng1, ↓Ok_wRng2, ↓Ok_wEnum, ↓Ok_wZip2, ↓Ok_wZip3, ↓Ok_wN, ↓wk_n, ↓wk_c, ↓op_isB, ↓op_isNB, ↓dkk_d, ↓vk_dki, ↓lkk_s, ↓Ok_newK, ↓Ok_dlen, ↓Ok_dsorted, ↓Ok_dget, ↓Ok_dgetD, ↓Ok_dput,
  okArg_v, okArg_o, ↓Ok_tYes, nc_0, nc_1, nc_2, nc_3, nc_4, not_true_eq_false, not_false_eq_true, isN, List.length_cons, List.length_nil, Nat.zero_add, Nat.reduceAdd, List.mem_cons, List.not_mem_nil, decide_eq_true_eq, Bool.not_eq_true', decide_eq_false_iff_not, Bool.not_true, Bool.not_false, Bool.false_eq_true, if_true, if_false, true_and, and_true, or_false, or_true, true_or, reduceCtorEq, Nat.reduceEqDiff, and_self, decide_true, decide_false, Int.reduceLT, Int.reduceLE, Int.reduceEq, Int.reduceToNat, Int.reducePow, Int.reduceAdd, Int.reduceSub, Int.reduceMul, Int.reduceNeg, Int.reduceMod, Int.reduceDiv, Nat.reduceLeDiff, Nat.reduceLT, false_or, or_self, and_false, false_and]
  · unfold F_total_bounds B_total_bounds
    simp -implicitDefEqProofs only [↓RtE_fn, ↓Ok_ok, ↓Ok_bind, ↓Ok_seq, ↓thenS_nx, ↓thenS_rt, ↓thenS_bk, ↓thenS_ct, ↓Ok_sIf, ↓Ok_pass, ↓Ok_ret, ↓Ok_setk, ↓Ok_park, ↓Ok_par3k, ↓Ok_drop, ↓Ok_for, ↓Ok_while, ↓Ok_unpk, ↓Ok_callk, ↓Ok_tryC, ↓Tr_x, ↓Tr_r, ↓nmk_s, ↓muk_n, ↓muk_c, ↓mu2_s, ↓mu2_v, ↓mu2_o, ↓zrk_n, ↓zrk_c, ↓rs_h, ↓rs_v, ↓rs_o, hd_v, hd_o, hd_u, mh_n, mh_c, ↓Rt_fnk,
  ↓sg_z, ↓sg_s, ↓sw_z, ↓sw_s, ↓td_val, ↓td_ow, ↓Ok_eLit, ↓kp_val, ↓kp_ow, ↓Ok_eV, ↓Ok_op1e, ↓Ok_op1v, ↓Ok_op2ee, ↓Ok_op2ve, ↓Ok_op2ev, ↓Ok_op2vv, ↓op_add, ↓op_addL, ↓op_addT, ↓op_addI, ↓op_subI, ↓op_addB, ↓op_subB, ↓op_sub, ↓op_mul, ↓op_mod, ↓op_div, ↓op_pow, ↓op_lt, ↓op_le, ↓op_gt, ↓op_ge, ↓op_eqI, ↓op_neI, ↓op_neg, ↓op_isN, ↓op_notN, ↓op_lenL, ↓op_lenT,
  ↓op_isi_i, ↓op_isi_b, ↓op_isi_l, ↓op_isi_t, ↓op_isi_n, ↓op_isi_s, ↓op_abs, ↓op_max2, ↓op_min2, ↓op_tupL, ↓op_tupT, ↓op_lstL, ↓op_lstT, ↓ix_0, ↓ix_1, ↓ix_2, ↓ix_3, ↓tx_0, ↓tx_1, ↓tx_2, ↓tx_3, ↓Ok_datum, ↓Ok_evL0, ↓Ok_evLc, ↓Ok_eTup, ↓Ok_eLst, ↓bk_b, ↓Ok_tB, ↓Ok_eB, ↓Ok_tNot, ↓Ok_tAnd, ↓Ok_tOr, ↓Ok_eAnd, ↓Ok_eOr, ↓Ok_eIf, ↓fk_i, ↓fk_b, ↓fk_n, ↓Ok_evSe, ↓Ok_evSv, ↓ck2_b, ↓Ok_eChain,
  ↓pk_n, ↓pk_t, ↓pk_l, ↓pks_n, ↓pks_c, ↓vk_val, ↓vk_ow, ↓rvk_val, ↓rvk_ow, ↓Ok_retV, ↓augk_val, ↓Ok_augk, ↓nk_i, ↓Ok_setIx, ↓ixk_0, ↓ixk_1, ↓ixk_2, ↓apk_ow, ↓owk_ow, ↓Ok_app, ↓ak_n, ↓ak_d, ↓ak_b, ↓gk_n, ↓gk_l, ↓gk_r, ↓zk_n, ↓zk_l, ↓zk_r, ↓sgm_z, ↓sgm_s, ↓mk2_v, ↓mk2_o, ↓ik_z, ↓ik_n, ↓ik_s, ↓uk_z, ↓uk_s, ↓rtk_rt, ↓rtk_nx, ↓nok_n, ↓nok_v, ↓nok_o,
  ↓afk_nx, ↓afk_ct, ↓afk_bk, ↓afk_rt, ↓dk_l, ↓dk_t, ↓Ok_evPn, ↓Ok_evPs, ↓Ok_cutek, ↓Ok_cutv, ↓op_cutL, ↓op_cutT, ↓Ok_wSeq, ↓rk_i, ↓Ok_wRng1, ↓Ok_wRng2, ↓Ok_wEnum, ↓Ok_wZip2, ↓Ok_wZip3, ↓Ok_wN, ↓wk_n, ↓wk_c, ↓op_isB, ↓op_isNB, ↓dkk_d, ↓vk_dki, ↓lkk_s, ↓Ok_newK, ↓Ok_dlen, ↓Ok_dsorted, ↓Ok_dget, ↓Ok_dgetD, ↓Ok_dput,
  okArg_v, okArg_o, ↓Ok_tYes, nc_0, nc_1, nc_2, nc_3, nc_4, not_true_eq_false, not_false_eq_true, isN, List.length_cons, List.length_nil, Nat.zero_add, Nat.reduceAdd, List.mem_cons, List.not_mem_nil, decide_eq_true_eq, Bool.not_eq_true', decide_eq_false_iff_not, Bool.not_true, Bool.not_false, Bool.false_eq_true, if_true, if_false, true_and, and_true, or_false, or_true, true_or, reduceCtorEq, Nat.reduceEqDiff, and_self, decide_true, decide_false, Int.reduceLT, Int.reduceLE, Int.reduceEq, Int.reduceToNat, Int.reducePow, Int.reduceAdd, Int.reduceSub, Int.reduceMul, Int.reduceNeg, Int.reduceMod, Int.reduceDiv, Nat.reduceLeDiff, Nat.reduceLT, false_or, or_self, and_false, false_and]
    refine E_seq2 ?_
    simp -implicitDefEqProofs only [↓need_s g, ↓Ok_ok, ↓Ok_bind, ↓Ok_seq, ↓thenS_nx, ↓thenS_rt, ↓thenS_bk, ↓thenS_ct, ↓Ok_sIf, ↓Ok_pass, ↓Ok_ret, ↓Ok_setk, ↓Ok_park, ↓Ok_par3k, ↓Ok_drop, ↓Ok_for, ↓Ok_while, ↓Ok_unpk, ↓Ok_callk, ↓Ok_tryC, ↓Tr_x, ↓Tr_r, ↓nmk_s, ↓muk_n, ↓muk_c, ↓mu2_s, ↓mu2_v, ↓mu2_o, ↓zrk_n, ↓zrk_c, ↓rs_h, ↓rs_v, ↓rs_o, hd_v, hd_o, hd_u, mh_n, mh_c, ↓Rt_fnk,
  ↓sg_z, ↓sg_s, ↓sw_z, ↓sw_s, ↓td_val, ↓td_ow, ↓Ok_eLit, ↓kp_val, ↓kp_ow, ↓Ok_eV, ↓Ok_op1e, ↓Ok_op1v, ↓Ok_op2ee, ↓Ok_op2ve, ↓Ok_op2ev, ↓Ok_op2vv, ↓op_add, ↓op_addL, ↓op_addT, ↓op_addI, ↓op_subI, ↓op_addB, ↓op_subB, ↓op_sub, ↓op_mul, ↓op_mod, ↓op_div, ↓op_pow, ↓op_lt, ↓op_le, ↓op_gt, ↓op_ge, ↓op_eqI, ↓op_neI, ↓op_neg, ↓op_isN, ↓op_notN, ↓op_lenL, ↓op_lenT,
  ↓op_isi_i, ↓op_isi_b, ↓op_isi_l, ↓op_isi_t, ↓op_isi_n, ↓op_isi_s, ↓op_abs, ↓op_max2, ↓op_min2, ↓op_tupL, ↓op_tupT, ↓op_lstL, ↓op_lstT, ↓ix_0, ↓ix_1, ↓ix_2, ↓ix_3, ↓tx_0, ↓tx_1, ↓tx_2, ↓tx_3, ↓Ok_datum, ↓Ok_evL0, ↓Ok_evLc, ↓Ok_eTup, ↓Ok_eLst, ↓bk_b, ↓Ok_tB, ↓Ok_eB, ↓Ok_tNot, ↓Ok_tAnd, ↓Ok_tOr, ↓Ok_eAnd, ↓Ok_eOr, ↓Ok_eIf, ↓fk_i, ↓fk_b, ↓fk_n, ↓Ok_evSe, ↓Ok_evSv, ↓ck2_b, ↓Ok_eChain,
  ↓pk_n, ↓pk_t, ↓pk_l, ↓pks_n, ↓pks_c, ↓vk_val, ↓vk_ow, ↓rvk_val, ↓rvk_ow, ↓Ok_retV, ↓augk_val, ↓Ok_augk, ↓nk_i, ↓Ok_setIx, ↓ixk_0, ↓ixk_1, ↓ixk_2, ↓apk_ow, ↓owk_ow, ↓Ok_app, ↓ak_n, ↓ak_d, ↓ak_b, ↓gk_n, ↓gk_l, ↓gk_r, ↓zk_n, ↓zk_l, ↓zk_r, ↓sgm_z, ↓sgm_s, ↓mk2_v, ↓mk2_o, ↓ik_z, ↓ik_n, ↓ik_s, ↓uk_z, ↓uk_s, ↓rtk_rt, ↓rtk_nx, ↓nok_n, ↓nok_v, ↓nok_o,
  ↓afk_nx, ↓afk_ct, ↓afk_bk, ↓afk_rt, ↓dk_l, ↓dk_t, ↓Ok_evPn, ↓Ok_evPs, ↓Ok_cutek, ↓Ok_cutv, ↓op_cutL, ↓op_cutT, ↓Ok_wSeq, ↓rk_i, ↓Ok_wRng1, ↓Ok_wRng2, ↓Ok_wEnum, ↓Ok_wZip2, ↓Ok_wZip3, ↓Ok_wN, ↓wk_n, ↓wk_c, ↓op_isB, ↓op_isNB, ↓dkk_d, ↓vk_dki, ↓lkk_s, ↓Ok_newK, ↓Ok_dlen, ↓Ok_dsorted, ↓Ok_dget, ↓Ok_dgetD, ↓Ok_dput,
  okArg_v, okArg_o, ↓Ok_tYes, nc_0, nc_1, nc_2, nc_3, nc_4, not_true_eq_false, not_false_eq_true, isN, List.length_cons, List.length_nil, Nat.zero_add, Nat.reduceAdd, List.mem_cons, List.not_mem_nil, decide_eq_true_eq, Bool.not_eq_true', decide_eq_false_iff_not, Bool.not_true, Bool.not_false, Bool.false_eq_true, if_true, if_false, true_and, and_true, or_false, or_true, true_or, reduceCtorEq, Nat.reduceEqDiff, and_self, decide_true, decide_false, Int.reduceLT, Int.reduceLE, Int.reduceEq, Int.reduceToNat, Int.reducePow, Int.reduceAdd, Int.reduceSub, Int.reduceMul, Int.reduceNeg, Int.reduceMod, Int.reduceDiv, Nat.reduceLeDiff, Nat.reduceLT, false_or, or_self, and_false, false_and]
    refine E_seq1 (E_drop (E_call ?_))
    simp -implicitDefEqProofs only [↓RtE_eq nx, outsOf, ↓Ok_ok, ↓Ok_bind, ↓Ok_seq, ↓thenS_nx, ↓thenS_rt, ↓thenS_bk, ↓thenS_ct, ↓Ok_sIf, ↓Ok_pass, ↓Ok_ret, ↓Ok_setk, ↓Ok_park, ↓Ok_par3k, ↓Ok_drop, ↓Ok_for, ↓Ok_while, ↓Ok_unpk, ↓Ok_callk, ↓Ok_tryC, ↓Tr_x, ↓Tr_r, ↓nmk_s, ↓muk_n, ↓muk_c, ↓mu2_s, ↓mu2_v, ↓mu2_o, ↓zrk_n, ↓zrk_c, ↓rs_h, ↓rs_v, ↓rs_o, hd_v, hd_o, hd_u, mh_n, mh_c, ↓Rt_fnk,
  ↓sg_z, ↓sg_s, ↓sw_z, ↓sw_s, ↓td_val, ↓td_ow, ↓Ok_eLit, ↓kp_val, ↓kp_ow, ↓Ok_eV, ↓Ok_op1e, ↓Ok_op1v, ↓Ok_op2ee, ↓Ok_op2ve, ↓Ok_op2ev, ↓Ok_op2vv, ↓op_add, ↓op_addL, ↓op_addT, ↓op_addI, ↓op_subI, ↓op_addB, ↓op_subB, ↓op_sub, ↓op_mul, ↓op_mod, ↓op_div, ↓op_pow, ↓op_lt, ↓op_le, ↓op_gt, ↓op_ge, ↓op_eqI, ↓op_neI, ↓op_neg, ↓op_isN, ↓op_notN, ↓op_lenL, ↓op_lenT,
  ↓op_isi_i, ↓op_isi_b, ↓op_isi_l, ↓op_isi_t, ↓op_isi_n, ↓op_isi_s, ↓op_abs, ↓op_max2, ↓op_min2, ↓op_tupL, ↓op_tupT, ↓op_lstL, ↓op_lstT, ↓ix_0, ↓ix_1, ↓ix_2, ↓ix_3, ↓tx_0, ↓tx_1, ↓tx_2, ↓tx_3, ↓Ok_datum, ↓Ok_evL0, ↓Ok_evLc, ↓Ok_eTup, ↓Ok_eLst, ↓bk_b, ↓Ok_tB, ↓Ok_eB, ↓Ok_tNot, ↓Ok_tAnd, ↓Ok_tOr, ↓Ok_eAnd, ↓Ok_eOr, ↓Ok_eIf, ↓fk_i, ↓fk_b, ↓fk_n, ↓Ok_evSe, ↓Ok_evSv, ↓ck2_b, ↓Ok_eChain,
  ↓pk_n, ↓pk_t, ↓pk_l, ↓pks_n, ↓pks_c, ↓vk_val, ↓vk_ow, ↓rvk_val, ↓rvk_ow, ↓Ok_retV, ↓augk_val, ↓Ok_augk, ↓nk_i, ↓Ok_setIx, ↓ixk_0, ↓ixk_1, ↓ixk_2, ↓apk_ow, ↓owk_ow, ↓Ok_app, ↓ak_n, ↓ak_d, ↓ak_b, ↓gk_n, ↓gk_l, ↓gk_r, ↓zk_n, ↓zk_l, ↓zk_r, ↓sgm_z, ↓sgm_s, ↓mk2_v, ↓mk2_o, ↓ik_z, ↓ik_n, ↓ik_s, ↓uk_z, ↓uk_s, ↓rtk_rt, ↓rtk_nx, ↓nok_n, ↓nok_v, ↓nok_o,
  ↓afk_nx, ↓afk_ct, ↓afk_bk, ↓afk_rt, ↓dk_l, ↓dk_t, ↓Ok_evPn, ↓Ok_evPs, ↓Ok_cutek, ↓Ok_cutv, ↓op_cutL, ↓op_cutT, ↓Ok_wSeq, ↓rk_i, ↓Ok_wRng1, ↓Ok_wRng2, ↓Ok_wEnum, ↓Ok_wZip2, ↓Ok_wZip3, ↓Ok_wN, ↓wk_n, ↓wk_c, ↓op_isB, ↓op_isNB, ↓dkk_d, ↓vk_dki, ↓lkk_s, ↓Ok_newK, ↓Ok_dlen, ↓Ok_dsorted, ↓Ok_dget, ↓Ok_dgetD, ↓Ok_dput,
  okArg_v, okArg_o, ↓Ok_tYes, nc_0, nc_1, nc_2, nc_3, nc_4, not_true_eq_false, not_false_eq_true, isN, List.length_cons, List.length_nil, Nat.zero_add, Nat.reduceAdd, List.mem_cons, List.not_mem_nil, decide_eq_true_eq, Bool.not_eq_true', decide_eq_false_iff_not, Bool.not_true, Bool.not_false, Bool.false_eq_true, if_true, if_false, true_and, and_true, or_false, or_true, true_or, reduceCtorEq, Nat.reduceEqDiff, and_self, decide_true, decide_false, Int.reduceLT, Int.reduceLE, Int.reduceEq, Int.reduceToNat, Int.reducePow, Int.reduceAdd, Int.reduceSub, Int.reduceMul, Int.reduceNeg, Int.reduceMod, Int.reduceDiv, Nat.reduceLeDiff, Nat.reduceLT, false_or, or_self, and_false, false_and]
  · unfold F_total_ranges B_total_ranges
    simp -implicitDefEqProofs only [↓RtE_fn, ↓Ok_ok, ↓Ok_bind, ↓Ok_seq, ↓thenS_nx, ↓thenS_rt, ↓thenS_bk, ↓thenS_ct, ↓Ok_sIf, ↓Ok_pass, ↓Ok_ret, ↓Ok_setk, ↓Ok_park, ↓Ok_par3k, ↓Ok_drop, ↓Ok_for, ↓Ok_while, ↓Ok_unpk, ↓Ok_callk, ↓Ok_tryC, ↓Tr_x, ↓Tr_r, ↓nmk_s, ↓muk_n, ↓muk_c, ↓mu2_s, ↓mu2_v, ↓mu2_o, ↓zrk_n, ↓zrk_c, ↓rs_h, ↓rs_v, ↓rs_o, hd_v, hd_o, hd_u, mh_n, mh_c, ↓Rt_fnk,
  ↓sg_z, ↓sg_s, ↓sw_z, ↓sw_s, ↓td_val, ↓td_ow, ↓Ok_eLit, ↓kp_val, ↓kp_ow, ↓Ok_eV, ↓Ok_op1e, ↓Ok_op1v, ↓Ok_op2ee, ↓Ok_op2ve, ↓Ok_op2ev, ↓Ok_op2vv, ↓op_add, ↓op_addL, ↓op_addT, ↓op_addI, ↓op_subI, ↓op_addB, ↓op_subB, ↓op_sub, ↓op_mul, ↓op_mod, ↓op_div, ↓op_pow, ↓op_lt, ↓op_le, ↓op_gt, ↓op_ge, ↓op_eqI, ↓op_neI, ↓op_neg, ↓op_isN, ↓op_notN, ↓op_lenL, ↓op_lenT,
  ↓op_isi_i, ↓op_isi_b, ↓op_isi_l, ↓op_isi_t, ↓op_isi_n, ↓op_isi_s, ↓op_abs, ↓op_max2, ↓op_min2, ↓op_tupL, ↓op_tupT, ↓op_lstL, ↓op_lstT, ↓ix_0, ↓ix_1, ↓ix_2, ↓ix_3, ↓tx_0, ↓tx_1, ↓tx_2, ↓tx_3, ↓Ok_datum, ↓Ok_evL0, ↓Ok_evLc, ↓Ok_eTup, ↓Ok_eLst, ↓bk_b, ↓Ok_tB, ↓Ok_eB, ↓Ok_tNot, ↓Ok_tAnd, ↓Ok_tOr, ↓Ok_eAnd, ↓Ok_eOr, ↓Ok_eIf, ↓fk_i, ↓fk_b, ↓fk_n, ↓Ok_evSe, ↓Ok_evSv, ↓ck2_b, ↓Ok_eChain,
  ↓pk_n, ↓pk_t, ↓pk_l, ↓pks_n, ↓pks_c, ↓vk_val, ↓vk_ow, ↓rvk_val, ↓rvk_ow, ↓Ok_retV, ↓augk_val, ↓Ok_augk, ↓nk_i, ↓Ok_setIx, ↓ixk_0, ↓ixk_1, ↓ixk_2, ↓apk_ow, ↓owk_ow, ↓Ok_app, ↓ak_n, ↓ak_d, ↓ak_b, ↓gk_n, ↓gk_l, ↓gk_r, ↓zk_n, ↓zk_l, ↓zk_r, ↓sgm_z, ↓sgm_s, ↓mk2_v, ↓mk2_o, ↓ik_z, ↓ik_n, ↓ik_s, ↓uk_z, ↓uk_s, ↓rtk_rt, ↓rtk_nx, ↓nok_n, ↓nok_v, ↓nok_o,
  ↓afk_nx, ↓afk_ct, ↓afk_bk, ↓afk_rt, ↓dk_l, ↓dk_t, ↓Ok_evPn, ↓Ok_evPs, ↓Ok_cutek, ↓Ok_cutv, ↓op_cutL, ↓op_cutT, ↓Ok_wSeq, ↓rk_i, ↓Ok_wRng1, ↓Ok_wRng2, ↓Ok_wEnum, ↓Ok_wZip2, ↓Ok_wZip3, ↓Ok_wN, ↓wk_n, ↓wk_c, ↓op_isB, ↓op_isNB, ↓dkk_d, ↓vk_dki, ↓lkk_s, ↓Ok_newK, ↓Ok_dlen, ↓Ok_dsorted, ↓Ok_dget, ↓Ok_dgetD, ↓Ok_dput,
  okArg_v, okArg_o, ↓Ok_tYes, nc_0, nc_1, nc_2, nc_3, nc_4, not_true_eq_false, not_false_eq_true, isN, List.length_cons, List.length_nil, Nat.zero_add, Nat.reduceAdd, List.mem_cons, List.not_mem_nil, decide_eq_true_eq, Bool.not_eq_true', decide_eq_false_iff_not, Bool.not_true, Bool.not_false, Bool.false_eq_true, if_true, if_false, true_and, and_true, or_false, or_true, true_or, reduceCtorEq, Nat.reduceEqDiff, and_self, decide_true, decide_false, Int.reduceLT, Int.reduceLE, Int.reduceEq, Int.reduceToNat, Int.reducePow, Int.reduceAdd, Int.reduceSub, Int.reduceMul, Int.reduceNeg, Int.reduceMod, Int.reduceDiv, Nat.reduceLeDiff, Nat.reduceLT, false_or, or_self, and_false, false_and]
    refine E_seq2 ?_
    simp -implicitDefEqProofs only [↓need_s g, ↓Ok_ok, ↓Ok_bind, ↓Ok_seq, ↓thenS_nx, ↓thenS_rt, ↓thenS_bk, ↓thenS_ct, ↓Ok_sIf, ↓Ok_pass, ↓Ok_ret, ↓Ok_setk, ↓Ok_park, ↓Ok_par3k, ↓Ok_drop, ↓Ok_for, ↓Ok_while, ↓Ok_unpk, ↓Ok_callk, ↓Ok_tryC, ↓Tr_x, ↓Tr_r, ↓nmk_s, ↓muk_n, ↓muk_c, ↓mu2_s, ↓mu2_v, ↓mu2_o, ↓zrk_n, ↓zrk_c, ↓rs_h, ↓rs_v, ↓rs_o, hd_v, hd_o, hd_u, mh_n, mh_c, ↓Rt_fnk,
  ↓sg_z, ↓sg_s, ↓sw_z, ↓sw_s, ↓td_val, ↓td_ow, ↓Ok_eLit, ↓kp_val, ↓kp_ow, ↓Ok_eV, ↓Ok_op1e, ↓Ok_op1v, ↓Ok_op2ee, ↓Ok_op2ve, ↓Ok_op2ev, ↓Ok_op2vv, ↓op_add, ↓op_addL, ↓op_addT, ↓op_addI, ↓op_subI, ↓op_addB, ↓op_subB, ↓op_sub, ↓op_mul, ↓op_mod, ↓op_div, ↓op_pow, ↓op_lt, ↓op_le, ↓op_gt, ↓op_ge, ↓op_eqI, ↓op_neI, ↓op_neg, ↓op_isN, ↓op_notN, ↓op_lenL, ↓op_lenT,
  ↓op_isi_i, ↓op_isi_b, ↓op_isi_l, ↓op_isi_t, ↓op_isi_n, ↓op_isi_s, ↓op_abs, ↓op_max2, ↓op_min2, ↓op_tupL, ↓op_tupT, ↓op_lstL, ↓op_lstT, ↓ix_0, ↓ix_1, ↓ix_2, ↓ix_3, ↓tx_0, ↓tx_1, ↓tx_2, ↓tx_3, ↓Ok_datum, ↓Ok_evL0, ↓Ok_evLc, ↓Ok_eTup, ↓Ok_eLst, ↓bk_b, ↓Ok_tB, ↓Ok_eB, ↓Ok_tNot, ↓Ok_tAnd, ↓Ok_tOr, ↓Ok_eAnd, ↓Ok_eOr, ↓Ok_eIf, ↓fk_i, ↓fk_b, ↓fk_n, ↓Ok_evSe, ↓Ok_evSv, ↓ck2_b, ↓Ok_eChain,
  ↓pk_n, ↓pk_t, ↓pk_l, ↓pks_n, ↓pks_c, ↓vk_val, ↓vk_ow, ↓rvk_val, ↓rvk_ow, ↓Ok_retV, ↓augk_val, ↓Ok_augk, ↓nk_i, ↓Ok_setIx, ↓ixk_0, ↓ixk_1, ↓ixk_2, ↓apk_ow, ↓owk_ow, ↓Ok_app, ↓ak_n, ↓ak_d, ↓ak_b, ↓gk_n, ↓gk_l, ↓gk_r, ↓zk_n, ↓zk_l, ↓zk_r, ↓sgm_z, ↓sgm_s, ↓mk2_v, ↓mk2_o, ↓ik_z, ↓ik_n, ↓ik_s, ↓uk_z, ↓uk_s, ↓rtk_rt, ↓rtk_nx, ↓nok_n, ↓nok_v, ↓nok_o,
  ↓afk_nx, ↓afk_ct, ↓afk_bk, ↓afk_rt, ↓dk_l, ↓dk_t, ↓Ok_evPn, ↓Ok_evPs, ↓Ok_cutek, ↓Ok_cutv, ↓op_cutL, ↓op_cutT, ↓Ok_wSeq, ↓rk_i, ↓Ok_wRng1, ↓Ok_wRng2, ↓Ok_wEnum, ↓Ok_wZip2, ↓Ok_wZip3, ↓Ok_wN, ↓wk_n, ↓wk_c, ↓op_isB, ↓op_isNB, ↓dkk_d, ↓vk_dki, ↓lkk_s, ↓Ok_newK, ↓Ok_dlen, ↓Ok_dsorted, ↓Ok_dget, ↓Ok_dgetD, ↓Ok_dput,
  okArg_v, okArg_o, ↓Ok_tYes, nc_0, nc_1, nc_2, nc_3, nc_4, not_true_eq_false, not_false_eq_true, isN, List.length_cons, List.length_nil, Nat.zero_add, Nat.reduceAdd, List.mem_cons, List.not_mem_nil, decide_eq_true_eq, Bool.not_eq_true', decide_eq_false_iff_not, Bool.not_true, Bool.not_false, Bool.false_eq_true, if_true, if_false, true_and, and_true, or_false, or_true, true_or, reduceCtorEq, Nat.reduceEqDiff, and_self, decide_true, decide_false, Int.reduceLT, Int.reduceLE, Int.reduceEq, Int.reduceToNat, Int.reducePow, Int.reduceAdd, Int.reduceSub, Int.reduceMul, Int.reduceNeg, Int.reduceMod, Int.reduceDiv, Nat.reduceLeDiff, Nat.reduceLT, false_or, or_self, and_false, false_and]
    refine E_seq1 (E_drop (E_call ?_))
    simp -implicitDefEqProofs only [↓RtE_eq nx, outsOf, ↓Ok_ok, ↓Ok_bind, ↓Ok_seq, ↓thenS_nx, ↓thenS_rt, ↓thenS_bk, ↓thenS_ct, ↓Ok_sIf, ↓Ok_pass, ↓Ok_ret, ↓Ok_setk, ↓Ok_park, ↓Ok_par3k, ↓Ok_drop, ↓Ok_for, ↓Ok_while, ↓Ok_unpk, ↓Ok_callk, ↓Ok_tryC, ↓Tr_x, ↓Tr_r, ↓nmk_s, ↓muk_n, ↓muk_c, ↓mu2_s, ↓mu2_v, ↓mu2_o, ↓zrk_n, ↓zrk_c, ↓rs_h, ↓rs_v, ↓rs_o, hd_v, hd_o, hd_u, mh_n, mh_c, ↓Rt_fnk,
  ↓sg_z, ↓sg_s, ↓sw_z, ↓sw_s, ↓td_val, ↓td_ow, ↓Ok_eLit, ↓kp_val, ↓kp_ow, ↓Ok_eV, ↓Ok_op1e, ↓Ok_op1v, ↓Ok_op2ee, ↓Ok_op2ve, ↓Ok_op2ev, ↓Ok_op2vv, ↓op_add, ↓op_addL, ↓op_addT, ↓op_addI, ↓op_subI, ↓op_addB, ↓op_subB, ↓op_sub, ↓op_mul, ↓op_mod, ↓op_div, ↓op_pow, ↓op_lt, ↓op_le, ↓op_gt, ↓op_ge, ↓op_eqI, ↓op_neI, ↓op_neg, ↓op_isN, ↓op_notN, ↓op_lenL, ↓op_lenT,
  ↓op_isi_i, ↓op_isi_b, ↓op_isi_l, ↓op_isi_t, ↓op_isi_n, ↓op_isi_s, ↓op_abs, ↓op_max2, ↓op_min2, ↓op_tupL, ↓op_tupT, ↓op_lstL, ↓op_lstT, ↓ix_0, ↓ix_1, ↓ix_2, ↓ix_3, ↓tx_0, ↓tx_1, ↓tx_2, ↓tx_3, ↓Ok_datum, ↓Ok_evL0, ↓Ok_evLc, ↓Ok_eTup, ↓Ok_eLst, ↓bk_b, ↓Ok_tB, ↓Ok_eB, ↓Ok_tNot, ↓Ok_tAnd, ↓Ok_tOr, ↓Ok_eAnd, ↓Ok_eOr, ↓Ok_eIf, ↓fk_i, ↓fk_b, ↓fk_n, ↓Ok_evSe, ↓Ok_evSv, ↓ck2_b, ↓Ok_eChain,
  ↓pk_n, ↓pk_t, ↓pk_l, ↓pks_n, ↓pks_c, ↓vk_val, ↓vk_ow, ↓rvk_val, ↓rvk_ow, ↓Ok_retV, ↓augk_val, ↓Ok_augk, ↓nk_i, ↓Ok_setIx, ↓ixk_0, ↓ixk_1, ↓ixk_2, ↓apk_ow, ↓owk_ow, ↓Ok_app, ↓ak_n, ↓ak_d, ↓ak_b, ↓gk_n, ↓gk_l, ↓gk_r, ↓zk_n, ↓zk_l, ↓zk_r, ↓sgm_z, ↓sgm_s, ↓mk2_v, ↓mk2_o, ↓ik_z, ↓ik_n, ↓ik_s, ↓uk_z, ↓uk_s, ↓rtk_rt, ↓rtk_nx, ↓nok_n, ↓nok_v, ↓nok_o,
  ↓afk_nx, ↓afk_ct, ↓afk_bk, ↓afk_rt, ↓dk_l, ↓dk_t, ↓Ok_evPn, ↓Ok_evPs, ↓Ok_cutek, ↓Ok_cutv, ↓op_cutL, ↓op_cutT, ↓Ok_wSeq, ↓rk_i, ↓Ok_wRng1, ↓Ok_wRng2, ↓Ok_wEnum, ↓Ok_wZip2, ↓Ok_wZip3, ↓Ok_wN, ↓wk_n, ↓wk_c, ↓op_isB, ↓op_isNB, ↓dkk_d, ↓vk_dki, ↓lkk_s, ↓Ok_newK, ↓Ok_dlen, ↓Ok_dsorted, ↓Ok_dget, ↓Ok_dgetD, ↓Ok_dput,
  okArg_v, okArg_o, ↓Ok_tYes, nc_0, nc_1, nc_2, nc_3, nc_4, not_true_eq_false, not_false_eq_true, isN, List.length_cons, List.length_nil, Nat.zero_add, Nat.reduceAdd, List.mem_cons, List.not_mem_nil, decide_eq_true_eq, Bool.not_eq_true', decide_eq_false_iff_not, Bool.not_true, Bool.not_false, Bool.false_eq_true, if_true, if_false, true_and, and_true, or_false, or_true, true_or, reduceCtorEq, Nat.reduceEqDiff, and_self, decide_true, decide_false, Int.reduceLT, Int.reduceLE, Int.reduceEq, Int.reduceToNat, Int.reducePow, Int.reduceAdd, Int.reduceSub, Int.reduceMul, Int.reduceNeg, Int.reduceMod, Int.reduceDiv, Nat.reduceLeDiff, Nat.reduceLT, false_or, or_self, and_false, false_and]
theorem none_ex : F_restart_statuses [.val .none, .val .none] = .ex ⟨"InvalidSamples", none⟩ [.val .none, .val .none] ∧ F_total_bounds [.val .none, .val .none] = .ex ⟨"InvalidSamples", none⟩ [.val .none, .val .none] ∧ F_total_ranges [.val .none, .val .none] = .ex ⟨"InvalidSamples", none⟩ [.val .none, .val .none] := ⟨by kernel_rfl, by kernel_rfl, by kernel_rfl⟩
theorem f4_spec {s : Smp} (g : Sm s) {d : D} (hd : OddR d) {s0 s1 s2 x4 x5 x6 x7 x8 x9 x11 : Sv} (Q : Fl → Sl → Prop)
    (h : ∀ x11, Q .nx [s0, s1, s2, .val (smD s), x4, x5, x6, x7, x8, x9, .val d, x11]) : Ok (B_law_f4 [s0, s1, s2, .val (smD s), x4, x5, x6, x7, x8, x9, .val d, x11]) Q := by
  obtain ⟨e1, e2, e3⟩ := door_ex g hd
  unfold B_law_f4
  simp -implicitDefEqProofs only [↓for_c, ↓for_n, ↓Ok_ok, ↓Ok_bind, ↓Ok_seq, ↓thenS_nx, ↓thenS_rt, ↓thenS_bk, ↓thenS_ct, ↓Ok_sIf, ↓Ok_pass, ↓Ok_ret, ↓Ok_setk, ↓Ok_park, ↓Ok_par3k, ↓Ok_drop, ↓Ok_for, ↓Ok_while, ↓Ok_unpk, ↓Ok_callk, ↓Ok_tryC, ↓Tr_x, ↓Tr_r, ↓nmk_s, ↓muk_n, ↓muk_c, ↓mu2_s, ↓mu2_v, ↓mu2_o, ↓zrk_n, ↓zrk_c, ↓rs_h, ↓rs_v, ↓rs_o, hd_v, hd_o, hd_u, mh_n, mh_c, ↓Rt_fnk,
  ↓sg_z, ↓sg_s, ↓sw_z, ↓sw_s, ↓td_val, ↓td_ow, ↓Ok_eLit, ↓kp_val, ↓kp_ow, ↓Ok_eV, ↓Ok_op1e, ↓Ok_op1v, ↓Ok_op2ee, ↓Ok_op2ve, ↓Ok_op2ev, ↓Ok_op2vv, ↓op_add, ↓op_addL, ↓op_addT, ↓op_addI, ↓op_subI, ↓op_addB, ↓op_subB, ↓op_sub, ↓op_mul, ↓op_mod, ↓op_div, ↓op_pow, ↓op_lt, ↓op_le, ↓op_gt, ↓op_ge, ↓op_eqI, ↓op_neI, ↓op_neg, ↓op_isN, ↓op_notN, ↓op_lenL, ↓op_lenT,
  ↓op_isi_i, ↓op_isi_b, ↓op_isi_l, ↓op_isi_t, ↓op_isi_n, ↓op_isi_s, ↓op_abs, ↓op_max2, ↓op_min2, ↓op_tupL, ↓op_tupT, ↓op_lstL, ↓op_lstT, ↓ix_0, ↓ix_1, ↓ix_2, ↓ix_3, ↓tx_0, ↓tx_1, ↓tx_2, ↓tx_3, ↓Ok_datum, ↓Ok_evL0, ↓Ok_evLc, ↓Ok_eTup, ↓Ok_eLst, ↓bk_b, ↓Ok_tB, ↓Ok_eB, ↓Ok_tNot, ↓Ok_tAnd, ↓Ok_tOr, ↓Ok_eAnd, ↓Ok_eOr, ↓Ok_eIf, ↓fk_i, ↓fk_b, ↓fk_n, ↓Ok_evSe, ↓Ok_evSv, ↓ck2_b, ↓Ok_eChain,
  ↓pk_n, ↓pk_t, ↓pk_l, ↓pks_n, ↓pks_c, ↓vk_val, ↓vk_ow, ↓rvk_val, ↓rvk_ow, ↓Ok_retV, ↓augk_val, ↓Ok_augk, ↓nk_i, ↓Ok_setIx, ↓ixk_0, ↓ixk_1, ↓ixk_2, ↓apk_ow, ↓owk_ow, ↓Ok_app, ↓ak_n, ↓ak_d, ↓ak_b, ↓gk_n, ↓gk_l, ↓gk_r, ↓zk_n, ↓zk_l, ↓zk_r, ↓sgm_z, ↓sgm_s, ↓mk2_v, ↓mk2_o, ↓ik_z, ↓ik_n, ↓ik_s, ↓uk_z, ↓uk_s, ↓rtk_rt, ↓rtk_nx, ↓nok_n, ↓nok_v, ↓nok_o,
  ↓afk_nx, ↓afk_ct, ↓afk_bk, ↓afk_rt, ↓dk_l, ↓dk_t, ↓Ok_evPn, ↓Ok_evPs, ↓Ok_cutek, ↓Ok_cutv, ↓op_cutL, ↓op_cutT, ↓Ok_wSeq, ↓rk_i, ↓Ok_wRng1, ↓Ok_wRng2, ↓Ok_wEnum, ↓Ok_wZip2, ↓Ok_wZip3, ↓Ok_wN, ↓wk_n, ↓wk_c, ↓op_isB, ↓op_isNB, ↓dkk_d, ↓vk_dki, ↓lkk_s, ↓Ok_newK, ↓Ok_dlen, ↓Ok_dsorted, ↓Ok_dget, ↓Ok_dgetD, ↓Ok_dput,
  okArg_v, okArg_o, ↓Ok_tYes, nc_0, nc_1, nc_2, nc_3, nc_4, not_true_eq_false, not_false_eq_true, isN, List.length_cons, List.length_nil, Nat.zero_add, Nat.reduceAdd, List.mem_cons, List.not_mem_nil, decide_eq_true_eq, Bool.not_eq_true', decide_eq_false_iff_not, Bool.not_true, Bool.not_false, Bool.false_eq_true, if_true, if_false, true_and, and_true, or_false, or_true, true_or, reduceCtorEq, Nat.reduceEqDiff, and_self, decide_true, decide_false, Int.reduceLT, Int.reduceLE, Int.reduceEq, Int.reduceToNat, Int.reducePow, Int.reduceAdd, Int.reduceSub, Int.reduceMul, Int.reduceNeg, Int.reduceMod, Int.reduceDiv, Nat.reduceLeDiff, Nat.reduceLT, false_or, or_self, and_false, false_and]
  unfold B_law_f5
  simp -implicitDefEqProofs only [↓Ok_tryP, ↓fpk_f door_restart_statuses, e1, ↓fpk_f door_total_bounds, e2, ↓fpk_f door_total_ranges, e3, ↓nms_InvalidRate, ↓ne_InvalidRate, ↓for_c, ↓for_n, ↓Ok_ok, ↓Ok_bind, ↓Ok_seq, ↓thenS_nx, ↓thenS_rt, ↓thenS_bk, ↓thenS_ct, ↓Ok_sIf, ↓Ok_pass, ↓Ok_ret, ↓Ok_setk, ↓Ok_park, ↓Ok_par3k, ↓Ok_drop, ↓Ok_for, ↓Ok_while, ↓Ok_unpk, ↓Ok_callk, ↓Ok_tryC, ↓Tr_x, ↓Tr_r, ↓nmk_s, ↓muk_n, ↓muk_c, ↓mu2_s, ↓mu2_v, ↓mu2_o, ↓zrk_n, ↓zrk_c, ↓rs_h, ↓rs_v, ↓rs_o, hd_v, hd_o, hd_u, mh_n, mh_c, ↓Rt_fnk,
  ↓sg_z, ↓sg_s, ↓sw_z, ↓sw_s, ↓td_val, ↓td_ow, ↓Ok_eLit, ↓kp_val, ↓kp_ow, ↓Ok_eV, ↓Ok_op1e, ↓Ok_op1v, ↓Ok_op2ee, ↓Ok_op2ve, ↓Ok_op2ev, ↓Ok_op2vv, ↓op_add, ↓op_addL, ↓op_addT, ↓op_addI, ↓op_subI, ↓op_addB, ↓op_subB, ↓op_sub, ↓op_mul, ↓op_mod, ↓op_div, ↓op_pow, ↓op_lt, ↓op_le, ↓op_gt, ↓op_ge, ↓op_eqI, ↓op_neI, ↓op_neg, ↓op_isN, ↓op_notN, ↓op_lenL, ↓op_lenT,
  ↓op_isi_i, ↓op_isi_b, ↓op_isi_l, ↓op_isi_t, ↓op_isi_n, ↓op_isi_s, ↓op_abs, ↓op_max2, ↓op_min2, ↓op_tupL, ↓op_tupT, ↓op_lstL, ↓op_lstT, ↓ix_0, ↓ix_1, ↓ix_2, ↓ix_3, ↓tx_0, ↓tx_1, ↓tx_2, ↓tx_3, ↓Ok_datum, ↓Ok_evL0, ↓Ok_evLc, ↓Ok_eTup, ↓Ok_eLst, ↓bk_b, ↓Ok_tB, ↓Ok_eB, ↓Ok_tNot, ↓Ok_tAnd, ↓Ok_tOr, ↓Ok_eAnd, ↓Ok_eOr, ↓Ok_eIf, ↓fk_i, ↓fk_b, ↓fk_n, ↓Ok_evSe, ↓Ok_evSv, ↓ck2_b, ↓Ok_eChain,
  ↓pk_n, ↓pk_t, ↓pk_l, ↓pks_n, ↓pks_c, ↓vk_val, ↓vk_ow, ↓rvk_val, ↓rvk_ow, ↓Ok_retV, ↓augk_val, ↓Ok_augk, ↓nk_i, ↓Ok_setIx, ↓ixk_0, ↓ixk_1, ↓ixk_2, ↓apk_ow, ↓owk_ow, ↓Ok_app, ↓ak_n, ↓ak_d, ↓ak_b, ↓gk_n, ↓gk_l, ↓gk_r, ↓zk_n, ↓zk_l, ↓zk_r, ↓sgm_z, ↓sgm_s, ↓mk2_v, ↓mk2_o, ↓ik_z, ↓ik_n, ↓ik_s, ↓uk_z, ↓uk_s, ↓rtk_rt, ↓rtk_nx, ↓nok_n, ↓nok_v, ↓nok_o,
  ↓afk_nx, ↓afk_ct, ↓afk_bk, ↓afk_rt, ↓dk_l, ↓dk_t, ↓Ok_evPn, ↓Ok_evPs, ↓Ok_cutek, ↓Ok_cutv, ↓op_cutL, ↓op_cutT, ↓Ok_wSeq, ↓rk_i, ↓Ok_wRng1, ↓Ok_wRng2, ↓Ok_wEnum, ↓Ok_wZip2, ↓Ok_wZip3, ↓Ok_wN, ↓wk_n, ↓wk_c, ↓op_isB, ↓op_isNB, ↓dkk_d, ↓vk_dki, ↓lkk_s, ↓Ok_newK, ↓Ok_dlen, ↓Ok_dsorted, ↓Ok_dget, ↓Ok_dgetD, ↓Ok_dput,
  okArg_v, okArg_o, ↓Ok_tYes, nc_0, nc_1, nc_2, nc_3, nc_4, not_true_eq_false, not_false_eq_true, isN, List.length_cons, List.length_nil, Nat.zero_add, Nat.reduceAdd, List.mem_cons, List.not_mem_nil, decide_eq_true_eq, Bool.not_eq_true', decide_eq_false_iff_not, Bool.not_true, Bool.not_false, Bool.false_eq_true, if_true, if_false, true_and, and_true, or_false, or_true, true_or, reduceCtorEq, Nat.reduceEqDiff, and_self, decide_true, decide_false, Int.reduceLT, Int.reduceLE, Int.reduceEq, Int.reduceToNat, Int.reducePow, Int.reduceAdd, Int.reduceSub, Int.reduceMul, Int.reduceNeg, Int.reduceMod, Int.reduceDiv, Nat.reduceLeDiff, Nat.reduceLT, false_or, or_self, and_false, false_and]
  exact h _
end

section
open PySem Rc
theorem none_exL : F_lam0 [.val .none, .val .none] = .ex ⟨"InvalidSamples", none⟩ [.val .none, .val .none] := by kernel_rfl
theorem whole_i {i : Int} {Q : Sv → Sl → Prop} : Rt (F_law_whole [.val (.int i)]) Q = Q (.val (.bool true)) [.val (.int i)] := by unfold F_law_whole B_law_whole; simp -implicitDefEqProofs only [if_true, ↓Ok_ok, ↓Ok_bind, ↓Ok_seq, ↓thenS_nx, ↓thenS_rt, ↓thenS_bk, ↓thenS_ct, ↓Ok_sIf, ↓Ok_pass, ↓Ok_ret, ↓Ok_setk, ↓Ok_park, ↓Ok_par3k, ↓Ok_drop, ↓Ok_for, ↓Ok_while, ↓Ok_unpk, ↓Ok_callk, ↓Ok_tryC, ↓Tr_x, ↓Tr_r, ↓nmk_s, ↓muk_n, ↓muk_c, ↓mu2_s, ↓mu2_v, ↓mu2_o, ↓zrk_n, ↓zrk_c, ↓rs_h, ↓rs_v, ↓rs_o, hd_v, hd_o, hd_u, mh_n, mh_c, ↓Rt_fnk,
  ↓sg_z, ↓sg_s, ↓sw_z, ↓sw_s, ↓td_val, ↓td_ow, ↓Ok_eLit, ↓kp_val, ↓kp_ow, ↓Ok_eV, ↓Ok_op1e, ↓Ok_op1v, ↓Ok_op2ee, ↓Ok_op2ve, ↓Ok_op2ev, ↓Ok_op2vv, ↓op_add, ↓op_addL, ↓op_addT, ↓op_addI, ↓op_subI, ↓op_addB, ↓op_subB, ↓op_sub, ↓op_mul, ↓op_mod, ↓op_div, ↓op_pow, ↓op_lt, ↓op_le, ↓op_gt, ↓op_ge, ↓op_eqI, ↓op_neI, ↓op_neg, ↓op_isN, ↓op_notN, ↓op_lenL, ↓op_lenT,
  ↓op_isi_i, ↓op_isi_b, ↓op_isi_l, ↓op_isi_t, ↓op_isi_n, ↓op_isi_s, ↓op_abs, ↓op_max2, ↓op_min2, ↓op_tupL, ↓op_tupT, ↓op_lstL, ↓op_lstT, ↓ix_0, ↓ix_1, ↓ix_2, ↓ix_3, ↓tx_0, ↓tx_1, ↓tx_2, ↓tx_3, ↓Ok_datum, ↓Ok_evL0, ↓Ok_evLc, ↓Ok_eTup, ↓Ok_eLst, ↓bk_b, ↓Ok_tB, ↓Ok_eB, ↓Ok_tNot, ↓Ok_tAnd, ↓Ok_tOr, ↓Ok_eAnd, ↓Ok_eOr, ↓Ok_eIf, ↓fk_i, ↓fk_b, ↓fk_n, ↓Ok_evSe, ↓Ok_evSv, ↓ck2_b, ↓Ok_eChain,
  ↓pk_n, ↓pk_t, ↓pk_l, ↓pks_n, ↓pks_c, ↓vk_val, ↓vk_ow, ↓rvk_val, ↓rvk_ow, ↓Ok_retV, ↓augk_val, ↓Ok_augk, ↓nk_i, ↓Ok_setIx, ↓ixk_0, ↓ixk_1, ↓ixk_2, ↓apk_ow, ↓owk_ow, ↓Ok_app, ↓ak_n, ↓ak_d, ↓ak_b, ↓gk_n, ↓gk_l, ↓gk_r, ↓zk_n, ↓zk_l, ↓zk_r, ↓sgm_z, ↓sgm_s, ↓mk2_v, ↓mk2_o, ↓ik_z, ↓ik_n, ↓ik_s, ↓uk_z, ↓uk_s, ↓rtk_rt, ↓rtk_nx, ↓nok_n, ↓nok_v, ↓nok_o,
  ↓afk_nx, ↓afk_ct, ↓afk_bk, ↓afk_rt, ↓dk_l, ↓dk_t, ↓Ok_evPn, ↓Ok_evPs, ↓Ok_cutek, ↓Ok_cutv, ↓op_cutL, ↓op_cutT, ↓Ok_wSeq, ↓rk_i, ↓Ok_wRng1, ↓Ok_wRng2, ↓Ok_wEnum, ↓Ok_wZip2, ↓Ok_wZip3, ↓Ok_wN, ↓wk_n, ↓wk_c, ↓op_isB, ↓op_isNB, ↓dkk_d, ↓vk_dki, ↓lkk_s, ↓Ok_newK, ↓Ok_dlen, ↓Ok_dsorted, ↓Ok_dget, ↓Ok_dgetD, ↓Ok_dput,
  okArg_v, okArg_o, ↓Ok_tYes, nc_0, nc_1, nc_2, nc_3, nc_4, not_true_eq_false, not_false_eq_true, isN, List.length_cons, List.length_nil, Nat.zero_add, Nat.reduceAdd, List.mem_cons, List.not_mem_nil, decide_eq_true_eq, Bool.not_eq_true', decide_eq_false_iff_not, Bool.not_true, Bool.not_false, Bool.false_eq_true, if_true, if_false, true_and, and_true, or_false, or_true, true_or, reduceCtorEq, Nat.reduceEqDiff, and_self, decide_true, decide_false, Int.reduceLT, Int.reduceLE, Int.reduceEq, Int.reduceToNat, Int.reducePow, Int.reduceAdd, Int.reduceSub, Int.reduceMul, Int.reduceNeg, Int.reduceMod, Int.reduceDiv, Nat.reduceLeDiff, Nat.reduceLT, false_or, or_self, and_false, false_and]
theorem f6_spec {x0 x1 x2 x3 x4 x5 x6 x7 x8 x9 x10 : Sv} (Q : Fl → Sl → Prop) (h : ∀ x11, Q .nx [x0, x1, x2, x3, x4, x5, x6, x7, x8, x9, x10, x11]) {x11 : Sv} :
    Ok (forLoop (.n 11) B_law_f6 [fnD "restart_statuses", fnD "total_bounds", fnD "total_ranges", lamD "<lambda>0"] [x0, x1, x2, x3, x4, x5, x6, x7, x8, x9, x10, x11]) Q := by
  obtain ⟨e1, e2, e3⟩ := none_ex
  simp -implicitDefEqProofs only [↓for_c, ↓for_n, ↓Ok_ok, ↓Ok_bind, ↓Ok_seq, ↓thenS_nx, ↓thenS_rt, ↓thenS_bk, ↓thenS_ct, ↓Ok_sIf, ↓Ok_pass, ↓Ok_ret, ↓Ok_setk, ↓Ok_park, ↓Ok_par3k, ↓Ok_drop, ↓Ok_for, ↓Ok_while, ↓Ok_unpk, ↓Ok_callk, ↓Ok_tryC, ↓Tr_x, ↓Tr_r, ↓nmk_s, ↓muk_n, ↓muk_c, ↓mu2_s, ↓mu2_v, ↓mu2_o, ↓zrk_n, ↓zrk_c, ↓rs_h, ↓rs_v, ↓rs_o, hd_v, hd_o, hd_u, mh_n, mh_c, ↓Rt_fnk,
  ↓sg_z, ↓sg_s, ↓sw_z, ↓sw_s, ↓td_val, ↓td_ow, ↓Ok_eLit, ↓kp_val, ↓kp_ow, ↓Ok_eV, ↓Ok_op1e, ↓Ok_op1v, ↓Ok_op2ee, ↓Ok_op2ve, ↓Ok_op2ev, ↓Ok_op2vv, ↓op_add, ↓op_addL, ↓op_addT, ↓op_addI, ↓op_subI, ↓op_addB, ↓op_subB, ↓op_sub, ↓op_mul, ↓op_mod, ↓op_div, ↓op_pow, ↓op_lt, ↓op_le, ↓op_gt, ↓op_ge, ↓op_eqI, ↓op_neI, ↓op_neg, ↓op_isN, ↓op_notN, ↓op_lenL, ↓op_lenT,
  ↓op_isi_i, ↓op_isi_b, ↓op_isi_l, ↓op_isi_t, ↓op_isi_n, ↓op_isi_s, ↓op_abs, ↓op_max2, ↓op_min2, ↓op_tupL, ↓op_tupT, ↓op_lstL, ↓op_lstT, ↓ix_0, ↓ix_1, ↓ix_2, ↓ix_3, ↓tx_0, ↓tx_1, ↓tx_2, ↓tx_3, ↓Ok_datum, ↓Ok_evL0, ↓Ok_evLc, ↓Ok_eTup, ↓Ok_eLst, ↓bk_b, ↓Ok_tB, ↓Ok_eB, ↓Ok_tNot, ↓Ok_tAnd, ↓Ok_tOr, ↓Ok_eAnd, ↓Ok_eOr, ↓Ok_eIf, ↓fk_i, ↓fk_b, ↓fk_n, ↓Ok_evSe, ↓Ok_evSv, ↓ck2_b, ↓Ok_eChain,
  ↓pk_n, ↓pk_t, ↓pk_l, ↓pks_n, ↓pks_c, ↓vk_val, ↓vk_ow, ↓rvk_val, ↓rvk_ow, ↓Ok_retV, ↓augk_val, ↓Ok_augk, ↓nk_i, ↓Ok_setIx, ↓ixk_0, ↓ixk_1, ↓ixk_2, ↓apk_ow, ↓owk_ow, ↓Ok_app, ↓ak_n, ↓ak_d, ↓ak_b, ↓gk_n, ↓gk_l, ↓gk_r, ↓zk_n, ↓zk_l, ↓zk_r, ↓sgm_z, ↓sgm_s, ↓mk2_v, ↓mk2_o, ↓ik_z, ↓ik_n, ↓ik_s, ↓uk_z, ↓uk_s, ↓rtk_rt, ↓rtk_nx, ↓nok_n, ↓nok_v, ↓nok_o,
  ↓afk_nx, ↓afk_ct, ↓afk_bk, ↓afk_rt, ↓dk_l, ↓dk_t, ↓Ok_evPn, ↓Ok_evPs, ↓Ok_cutek, ↓Ok_cutv, ↓op_cutL, ↓op_cutT, ↓Ok_wSeq, ↓rk_i, ↓Ok_wRng1, ↓Ok_wRng2, ↓Ok_wEnum, ↓Ok_wZip2, ↓Ok_wZip3, ↓Ok_wN, ↓wk_n, ↓wk_c, ↓op_isB, ↓op_isNB, ↓dkk_d, ↓vk_dki, ↓lkk_s, ↓Ok_newK, ↓Ok_dlen, ↓Ok_dsorted, ↓Ok_dget, ↓Ok_dgetD, ↓Ok_dput,
  okArg_v, okArg_o, ↓Ok_tYes, nc_0, nc_1, nc_2, nc_3, nc_4, not_true_eq_false, not_false_eq_true, isN, List.length_cons, List.length_nil, Nat.zero_add, Nat.reduceAdd, List.mem_cons, List.not_mem_nil, decide_eq_true_eq, Bool.not_eq_true', decide_eq_false_iff_not, Bool.not_true, Bool.not_false, Bool.false_eq_true, if_true, if_false, true_and, and_true, or_false, or_true, true_or, reduceCtorEq, Nat.reduceEqDiff, and_self, decide_true, decide_false, Int.reduceLT, Int.reduceLE, Int.reduceEq, Int.reduceToNat, Int.reducePow, Int.reduceAdd, Int.reduceSub, Int.reduceMul, Int.reduceNeg, Int.reduceMod, Int.reduceDiv, Nat.reduceLeDiff, Nat.reduceLT, false_or, or_self, and_false, false_and]
  unfold B_law_f6
  simp -implicitDefEqProofs only [↓Ok_tryP, ↓fpk_f door_restart_statuses, e1, ↓fpk_f door_total_bounds, e2, ↓fpk_f door_total_ranges, e3, ↓fpk_l lam_0, none_exL, ↓nms_InvalidSamples, ↓ne_InvalidSamples, ↓for_c, ↓for_n, ↓Ok_ok, ↓Ok_bind, ↓Ok_seq, ↓thenS_nx, ↓thenS_rt, ↓thenS_bk, ↓thenS_ct, ↓Ok_sIf, ↓Ok_pass, ↓Ok_ret, ↓Ok_setk, ↓Ok_park, ↓Ok_par3k, ↓Ok_drop, ↓Ok_for, ↓Ok_while, ↓Ok_unpk, ↓Ok_callk, ↓Ok_tryC, ↓Tr_x, ↓Tr_r, ↓nmk_s, ↓muk_n, ↓muk_c, ↓mu2_s, ↓mu2_v, ↓mu2_o, ↓zrk_n, ↓zrk_c, ↓rs_h, ↓rs_v, ↓rs_o, hd_v, hd_o, hd_u, mh_n, mh_c, ↓Rt_fnk,
  ↓sg_z, ↓sg_s, ↓sw_z, ↓sw_s, ↓td_val, ↓td_ow, ↓Ok_eLit, ↓kp_val, ↓kp_ow, ↓Ok_eV, ↓Ok_op1e, ↓Ok_op1v, ↓Ok_op2ee, ↓Ok_op2ve, ↓Ok_op2ev, ↓Ok_op2vv, ↓op_add, ↓op_addL, ↓op_addT, ↓op_addI, ↓op_subI, ↓op_addB, ↓op_subB, ↓op_sub, ↓op_mul, ↓op_mod, ↓op_div, ↓op_pow, ↓op_lt, ↓op_le, ↓op_gt, ↓op_ge, ↓op_eqI, ↓op_neI, ↓op_neg, ↓op_isN, ↓op_notN, ↓op_lenL, ↓op_lenT,
  ↓op_isi_i, ↓op_isi_b, ↓op_isi_l, ↓op_isi_t, ↓op_isi_n, ↓op_isi_s, ↓op_abs, ↓op_max2, ↓op_min2, ↓op_tupL, ↓op_tupT, ↓op_lstL, ↓op_lstT, ↓ix_0, ↓ix_1, ↓ix_2, ↓ix_3, ↓tx_0, ↓tx_1, ↓tx_2, ↓tx_3, ↓Ok_datum, ↓Ok_evL0, ↓Ok_evLc, ↓Ok_eTup, ↓Ok_eLst, ↓bk_b, ↓Ok_tB, ↓Ok_eB, ↓Ok_tNot, ↓Ok_tAnd, ↓Ok_tOr, ↓Ok_eAnd, ↓Ok_eOr, ↓Ok_eIf, ↓fk_i, ↓fk_b, ↓fk_n, ↓Ok_evSe, ↓Ok_evSv, ↓ck2_b, ↓Ok_eChain,
  ↓pk_n, ↓pk_t, ↓pk_l, ↓pks_n, ↓pks_c, ↓vk_val, ↓vk_ow, ↓rvk_val, ↓rvk_ow, ↓Ok_retV, ↓augk_val, ↓Ok_augk, ↓nk_i, ↓Ok_setIx, ↓ixk_0, ↓ixk_1, ↓ixk_2, ↓apk_ow, ↓owk_ow, ↓Ok_app, ↓ak_n, ↓ak_d, ↓ak_b, ↓gk_n, ↓gk_l, ↓gk_r, ↓zk_n, ↓zk_l, ↓zk_r, ↓sgm_z, ↓sgm_s, ↓mk2_v, ↓mk2_o, ↓ik_z, ↓ik_n, ↓ik_s, ↓uk_z, ↓uk_s, ↓rtk_rt, ↓rtk_nx, ↓nok_n, ↓nok_v, ↓nok_o,
  ↓afk_nx, ↓afk_ct, ↓afk_bk, ↓afk_rt, ↓dk_l, ↓dk_t, ↓Ok_evPn, ↓Ok_evPs, ↓Ok_cutek, ↓Ok_cutv, ↓op_cutL, ↓op_cutT, ↓Ok_wSeq, ↓rk_i, ↓Ok_wRng1, ↓Ok_wRng2, ↓Ok_wEnum, ↓Ok_wZip2, ↓Ok_wZip3, ↓Ok_wN, ↓wk_n, ↓wk_c, ↓op_isB, ↓op_isNB, ↓dkk_d, ↓vk_dki, ↓lkk_s, ↓Ok_newK, ↓Ok_dlen, ↓Ok_dsorted, ↓Ok_dget, ↓Ok_dgetD, ↓Ok_dput,
  okArg_v, okArg_o, ↓Ok_tYes, nc_0, nc_1, nc_2, nc_3, nc_4, not_true_eq_false, not_false_eq_true, isN, List.length_cons, List.length_nil, Nat.zero_add, Nat.reduceAdd, List.mem_cons, List.not_mem_nil, decide_eq_true_eq, Bool.not_eq_true', decide_eq_false_iff_not, Bool.not_true, Bool.not_false, Bool.false_eq_true, if_true, if_false, true_and, and_true, or_false, or_true, true_or, reduceCtorEq, Nat.reduceEqDiff, and_self, decide_true, decide_false, Int.reduceLT, Int.reduceLE, Int.reduceEq, Int.reduceToNat, Int.reducePow, Int.reduceAdd, Int.reduceSub, Int.reduceMul, Int.reduceNeg, Int.reduceMod, Int.reduceDiv, Nat.reduceLeDiff, Nat.reduceLT, false_or, or_self, and_false, false_and]
  exact h _
theorem f1_spec {c : Int} {s0 x2 x3 x4 x5 x6 x7 x8 x9 x10 x11 : Sv} (Q : Fl → Sl → Prop)
    (h : ∀ x2 x3 x4 x5 x6 x7 x8 x9 x10 x11, Q .nx [s0, .val (.int c), x2, x3, x4, x5, x6, x7, x8, x9, x10, x11]) :
    Ok (B_law_f1 [s0, .val (.int c), x2, x3, x4, x5, x6, x7, x8, x9, x10, x11]) Q := by
  unfold B_law_f1
  simp -implicitDefEqProofs only [if_true, ↓Ok_ok, ↓Ok_bind, ↓Ok_seq, ↓thenS_nx, ↓thenS_rt, ↓thenS_bk, ↓thenS_ct, ↓Ok_sIf, ↓Ok_pass, ↓Ok_ret, ↓Ok_setk, ↓Ok_park, ↓Ok_par3k, ↓Ok_drop, ↓Ok_for, ↓Ok_while, ↓Ok_unpk, ↓Ok_callk, ↓Ok_tryC, ↓Tr_x, ↓Tr_r, ↓nmk_s, ↓muk_n, ↓muk_c, ↓mu2_s, ↓mu2_v, ↓mu2_o, ↓zrk_n, ↓zrk_c, ↓rs_h, ↓rs_v, ↓rs_o, hd_v, hd_o, hd_u, mh_n, mh_c, ↓Rt_fnk,
  ↓sg_z, ↓sg_s, ↓sw_z, ↓sw_s, ↓td_val, ↓td_ow, ↓Ok_eLit, ↓kp_val, ↓kp_ow, ↓Ok_eV, ↓Ok_op1e, ↓Ok_op1v, ↓Ok_op2ee, ↓Ok_op2ve, ↓Ok_op2ev, ↓Ok_op2vv, ↓op_add, ↓op_addL, ↓op_addT, ↓op_addI, ↓op_subI, ↓op_addB, ↓op_subB, ↓op_sub, ↓op_mul, ↓op_mod, ↓op_div, ↓op_pow, ↓op_lt, ↓op_le, ↓op_gt, ↓op_ge, ↓op_eqI, ↓op_neI, ↓op_neg, ↓op_isN, ↓op_notN, ↓op_lenL, ↓op_lenT,
  ↓op_isi_i, ↓op_isi_b, ↓op_isi_l, ↓op_isi_t, ↓op_isi_n, ↓op_isi_s, ↓op_abs, ↓op_max2, ↓op_min2, ↓op_tupL, ↓op_tupT, ↓op_lstL, ↓op_lstT, ↓ix_0, ↓ix_1, ↓ix_2, ↓ix_3, ↓tx_0, ↓tx_1, ↓tx_2, ↓tx_3, ↓Ok_datum, ↓Ok_evL0, ↓Ok_evLc, ↓Ok_eTup, ↓Ok_eLst, ↓bk_b, ↓Ok_tB, ↓Ok_eB, ↓Ok_tNot, ↓Ok_tAnd, ↓Ok_tOr, ↓Ok_eAnd, ↓Ok_eOr, ↓Ok_eIf, ↓fk_i, ↓fk_b, ↓fk_n, ↓Ok_evSe, ↓Ok_evSv, ↓ck2_b, ↓Ok_eChain,
  ↓pk_n, ↓pk_t, ↓pk_l, ↓pks_n, ↓pks_c, ↓vk_val, ↓vk_ow, ↓rvk_val, ↓rvk_ow, ↓Ok_retV, ↓augk_val, ↓Ok_augk, ↓nk_i, ↓Ok_setIx, ↓ixk_0, ↓ixk_1, ↓ixk_2, ↓apk_ow, ↓owk_ow, ↓Ok_app, ↓ak_n, ↓ak_d, ↓ak_b, ↓gk_n, ↓gk_l, ↓gk_r, ↓zk_n, ↓zk_l, ↓zk_r, ↓sgm_z, ↓sgm_s, ↓mk2_v, ↓mk2_o, ↓ik_z, ↓ik_n, ↓ik_s, ↓uk_z, ↓uk_s, ↓rtk_rt, ↓rtk_nx, ↓nok_n, ↓nok_v, ↓nok_o,
  ↓afk_nx, ↓afk_ct, ↓afk_bk, ↓afk_rt, ↓dk_l, ↓dk_t, ↓Ok_evPn, ↓Ok_evPs, ↓Ok_cutek, ↓Ok_cutv, ↓op_cutL, ↓op_cutT, ↓Ok_wSeq, ↓rk_i, ↓Ok_wRng1, ↓Ok_wRng2, ↓Ok_wEnum, ↓Ok_wZip2, ↓Ok_wZip3, ↓Ok_wN, ↓wk_n, ↓wk_c, ↓op_isB, ↓op_isNB, ↓dkk_d, ↓vk_dki, ↓lkk_s, ↓Ok_newK, ↓Ok_dlen, ↓Ok_dsorted, ↓Ok_dget, ↓Ok_dgetD, ↓Ok_dput,
  okArg_v, okArg_o, ↓Ok_tYes, nc_0, nc_1, nc_2, nc_3, nc_4, not_true_eq_false, not_false_eq_true, isN, List.length_cons, List.length_nil, Nat.zero_add, Nat.reduceAdd, List.mem_cons, List.not_mem_nil, decide_eq_true_eq, Bool.not_eq_true', decide_eq_false_iff_not, Bool.not_true, Bool.not_false, Bool.false_eq_true, if_true, if_false, true_and, and_true, or_false, or_true, true_or, reduceCtorEq, Nat.reduceEqDiff, and_self, decide_true, decide_false, Int.reduceLT, Int.reduceLE, Int.reduceEq, Int.reduceToNat, Int.reducePow, Int.reduceAdd, Int.reduceSub, Int.reduceMul, Int.reduceNeg, Int.reduceMod, Int.reduceDiv, Nat.reduceLeDiff, Nat.reduceLT, false_or, or_self, and_false, false_and]
  refine Rt_mono (deck_spec c 10 (by decide)) ?_
  rintro _ _ ⟨ds, rfl, rfl, hd⟩
  simp -implicitDefEqProofs only [if_true, ↓Ok_ok, ↓Ok_bind, ↓Ok_seq, ↓thenS_nx, ↓thenS_rt, ↓thenS_bk, ↓thenS_ct, ↓Ok_sIf, ↓Ok_pass, ↓Ok_ret, ↓Ok_setk, ↓Ok_park, ↓Ok_par3k, ↓Ok_drop, ↓Ok_for, ↓Ok_while, ↓Ok_unpk, ↓Ok_callk, ↓Ok_tryC, ↓Tr_x, ↓Tr_r, ↓nmk_s, ↓muk_n, ↓muk_c, ↓mu2_s, ↓mu2_v, ↓mu2_o, ↓zrk_n, ↓zrk_c, ↓rs_h, ↓rs_v, ↓rs_o, hd_v, hd_o, hd_u, mh_n, mh_c, ↓Rt_fnk,
  ↓sg_z, ↓sg_s, ↓sw_z, ↓sw_s, ↓td_val, ↓td_ow, ↓Ok_eLit, ↓kp_val, ↓kp_ow, ↓Ok_eV, ↓Ok_op1e, ↓Ok_op1v, ↓Ok_op2ee, ↓Ok_op2ve, ↓Ok_op2ev, ↓Ok_op2vv, ↓op_add, ↓op_addL, ↓op_addT, ↓op_addI, ↓op_subI, ↓op_addB, ↓op_subB, ↓op_sub, ↓op_mul, ↓op_mod, ↓op_div, ↓op_pow, ↓op_lt, ↓op_le, ↓op_gt, ↓op_ge, ↓op_eqI, ↓op_neI, ↓op_neg, ↓op_isN, ↓op_notN, ↓op_lenL, ↓op_lenT,
  ↓op_isi_i, ↓op_isi_b, ↓op_isi_l, ↓op_isi_t, ↓op_isi_n, ↓op_isi_s, ↓op_abs, ↓op_max2, ↓op_min2, ↓op_tupL, ↓op_tupT, ↓op_lstL, ↓op_lstT, ↓ix_0, ↓ix_1, ↓ix_2, ↓ix_3, ↓tx_0, ↓tx_1, ↓tx_2, ↓tx_3, ↓Ok_datum, ↓Ok_evL0, ↓Ok_evLc, ↓Ok_eTup, ↓Ok_eLst, ↓bk_b, ↓Ok_tB, ↓Ok_eB, ↓Ok_tNot, ↓Ok_tAnd, ↓Ok_tOr, ↓Ok_eAnd, ↓Ok_eOr, ↓Ok_eIf, ↓fk_i, ↓fk_b, ↓fk_n, ↓Ok_evSe, ↓Ok_evSv, ↓ck2_b, ↓Ok_eChain,
  ↓pk_n, ↓pk_t, ↓pk_l, ↓pks_n, ↓pks_c, ↓vk_val, ↓vk_ow, ↓rvk_val, ↓rvk_ow, ↓Ok_retV, ↓augk_val, ↓Ok_augk, ↓nk_i, ↓Ok_setIx, ↓ixk_0, ↓ixk_1, ↓ixk_2, ↓apk_ow, ↓owk_ow, ↓Ok_app, ↓ak_n, ↓ak_d, ↓ak_b, ↓gk_n, ↓gk_l, ↓gk_r, ↓zk_n, ↓zk_l, ↓zk_r, ↓sgm_z, ↓sgm_s, ↓mk2_v, ↓mk2_o, ↓ik_z, ↓ik_n, ↓ik_s, ↓uk_z, ↓uk_s, ↓rtk_rt, ↓rtk_nx, ↓nok_n, ↓nok_v, ↓nok_o,
  ↓afk_nx, ↓afk_ct, ↓afk_bk, ↓afk_rt, ↓dk_l, ↓dk_t, ↓Ok_evPn, ↓Ok_evPs, ↓Ok_cutek, ↓Ok_cutv, ↓op_cutL, ↓op_cutT, ↓Ok_wSeq, ↓rk_i, ↓Ok_wRng1, ↓Ok_wRng2, ↓Ok_wEnum, ↓Ok_wZip2, ↓Ok_wZip3, ↓Ok_wN, ↓wk_n, ↓wk_c, ↓op_isB, ↓op_isNB, ↓dkk_d, ↓vk_dki, ↓lkk_s, ↓Ok_newK, ↓Ok_dlen, ↓Ok_dsorted, ↓Ok_dget, ↓Ok_dgetD, ↓Ok_dput,
  okArg_v, okArg_o, ↓Ok_tYes, nc_0, nc_1, nc_2, nc_3, nc_4, not_true_eq_false, not_false_eq_true, isN, List.length_cons, List.length_nil, Nat.zero_add, Nat.reduceAdd, List.mem_cons, List.not_mem_nil, decide_eq_true_eq, Bool.not_eq_true', decide_eq_false_iff_not, Bool.not_true, Bool.not_false, Bool.false_eq_true, if_true, if_false, true_and, and_true, or_false, or_true, true_or, reduceCtorEq, Nat.reduceEqDiff, and_self, decide_true, decide_false, Int.reduceLT, Int.reduceLE, Int.reduceEq, Int.reduceToNat, Int.reducePow, Int.reduceAdd, Int.reduceSub, Int.reduceMul, Int.reduceNeg, Int.reduceMod, Int.reduceDiv, Nat.reduceLeDiff, Nat.reduceLT, false_or, or_self, and_false, false_and]
  refine Rt_mono (samples_spec hd (by omega) (by omega) (by omega)) ?_
  rintro _ _ ⟨s, es, rfl, rfl, g, _, he⟩
  have l1 := one_le_lrF (gps s)
  simp -implicitDefEqProofs only [↓least_rt g, ↓whole_i, ↓Ok_ok, ↓Ok_bind, ↓Ok_seq, ↓thenS_nx, ↓thenS_rt, ↓thenS_bk, ↓thenS_ct, ↓Ok_sIf, ↓Ok_pass, ↓Ok_ret, ↓Ok_setk, ↓Ok_park, ↓Ok_par3k, ↓Ok_drop, ↓Ok_for, ↓Ok_while, ↓Ok_unpk, ↓Ok_callk, ↓Ok_tryC, ↓Tr_x, ↓Tr_r, ↓nmk_s, ↓muk_n, ↓muk_c, ↓mu2_s, ↓mu2_v, ↓mu2_o, ↓zrk_n, ↓zrk_c, ↓rs_h, ↓rs_v, ↓rs_o, hd_v, hd_o, hd_u, mh_n, mh_c, ↓Rt_fnk,
  ↓sg_z, ↓sg_s, ↓sw_z, ↓sw_s, ↓td_val, ↓td_ow, ↓Ok_eLit, ↓kp_val, ↓kp_ow, ↓Ok_eV, ↓Ok_op1e, ↓Ok_op1v, ↓Ok_op2ee, ↓Ok_op2ve, ↓Ok_op2ev, ↓Ok_op2vv, ↓op_add, ↓op_addL, ↓op_addT, ↓op_addI, ↓op_subI, ↓op_addB, ↓op_subB, ↓op_sub, ↓op_mul, ↓op_mod, ↓op_div, ↓op_pow, ↓op_lt, ↓op_le, ↓op_gt, ↓op_ge, ↓op_eqI, ↓op_neI, ↓op_neg, ↓op_isN, ↓op_notN, ↓op_lenL, ↓op_lenT,
  ↓op_isi_i, ↓op_isi_b, ↓op_isi_l, ↓op_isi_t, ↓op_isi_n, ↓op_isi_s, ↓op_abs, ↓op_max2, ↓op_min2, ↓op_tupL, ↓op_tupT, ↓op_lstL, ↓op_lstT, ↓ix_0, ↓ix_1, ↓ix_2, ↓ix_3, ↓tx_0, ↓tx_1, ↓tx_2, ↓tx_3, ↓Ok_datum, ↓Ok_evL0, ↓Ok_evLc, ↓Ok_eTup, ↓Ok_eLst, ↓bk_b, ↓Ok_tB, ↓Ok_eB, ↓Ok_tNot, ↓Ok_tAnd, ↓Ok_tOr, ↓Ok_eAnd, ↓Ok_eOr, ↓Ok_eIf, ↓fk_i, ↓fk_b, ↓fk_n, ↓Ok_evSe, ↓Ok_evSv, ↓ck2_b, ↓Ok_eChain,
  ↓pk_n, ↓pk_t, ↓pk_l, ↓pks_n, ↓pks_c, ↓vk_val, ↓vk_ow, ↓rvk_val, ↓rvk_ow, ↓Ok_retV, ↓augk_val, ↓Ok_augk, ↓nk_i, ↓Ok_setIx, ↓ixk_0, ↓ixk_1, ↓ixk_2, ↓apk_ow, ↓owk_ow, ↓Ok_app, ↓ak_n, ↓ak_d, ↓ak_b, ↓gk_n, ↓gk_l, ↓gk_r, ↓zk_n, ↓zk_l, ↓zk_r, ↓sgm_z, ↓sgm_s, ↓mk2_v, ↓mk2_o, ↓ik_z, ↓ik_n, ↓ik_s, ↓uk_z, ↓uk_s, ↓rtk_rt, ↓rtk_nx, ↓nok_n, ↓nok_v, ↓nok_o,
  ↓afk_nx, ↓afk_ct, ↓afk_bk, ↓afk_rt, ↓dk_l, ↓dk_t, ↓Ok_evPn, ↓Ok_evPs, ↓Ok_cutek, ↓Ok_cutv, ↓op_cutL, ↓op_cutT, ↓Ok_wSeq, ↓rk_i, ↓Ok_wRng1, ↓Ok_wRng2, ↓Ok_wEnum, ↓Ok_wZip2, ↓Ok_wZip3, ↓Ok_wN, ↓wk_n, ↓wk_c, ↓op_isB, ↓op_isNB, ↓dkk_d, ↓vk_dki, ↓lkk_s, ↓Ok_newK, ↓Ok_dlen, ↓Ok_dsorted, ↓Ok_dget, ↓Ok_dgetD, ↓Ok_dput,
  okArg_v, okArg_o, ↓Ok_tYes, nc_0, nc_1, nc_2, nc_3, nc_4, not_true_eq_false, not_false_eq_true, isN, List.length_cons, List.length_nil, Nat.zero_add, Nat.reduceAdd, List.mem_cons, List.not_mem_nil, decide_eq_true_eq, Bool.not_eq_true', decide_eq_false_iff_not, Bool.not_true, Bool.not_false, Bool.false_eq_true, if_true, if_false, true_and, and_true, or_false, or_true, true_or, reduceCtorEq, Nat.reduceEqDiff, and_self, decide_true, decide_false, Int.reduceLT, Int.reduceLE, Int.reduceEq, Int.reduceToNat, Int.reducePow, Int.reduceAdd, Int.reduceSub, Int.reduceMul, Int.reduceNeg, Int.reduceMod, Int.reduceDiv, Nat.reduceLeDiff, Nat.reduceLT, false_or, or_self, and_false, false_and]
  refine iff' (by omega) ?_
  refine Rt_mono (pick_spec he (by omega) (by decide) (by decide)) ?_
  rintro _ _ ⟨r1, es1, rfl, rfl, a0, a1, he1⟩
  simp -implicitDefEqProofs only [if_true, ↓Ok_ok, ↓Ok_bind, ↓Ok_seq, ↓thenS_nx, ↓thenS_rt, ↓thenS_bk, ↓thenS_ct, ↓Ok_sIf, ↓Ok_pass, ↓Ok_ret, ↓Ok_setk, ↓Ok_park, ↓Ok_par3k, ↓Ok_drop, ↓Ok_for, ↓Ok_while, ↓Ok_unpk, ↓Ok_callk, ↓Ok_tryC, ↓Tr_x, ↓Tr_r, ↓nmk_s, ↓muk_n, ↓muk_c, ↓mu2_s, ↓mu2_v, ↓mu2_o, ↓zrk_n, ↓zrk_c, ↓rs_h, ↓rs_v, ↓rs_o, hd_v, hd_o, hd_u, mh_n, mh_c, ↓Rt_fnk,
  ↓sg_z, ↓sg_s, ↓sw_z, ↓sw_s, ↓td_val, ↓td_ow, ↓Ok_eLit, ↓kp_val, ↓kp_ow, ↓Ok_eV, ↓Ok_op1e, ↓Ok_op1v, ↓Ok_op2ee, ↓Ok_op2ve, ↓Ok_op2ev, ↓Ok_op2vv, ↓op_add, ↓op_addL, ↓op_addT, ↓op_addI, ↓op_subI, ↓op_addB, ↓op_subB, ↓op_sub, ↓op_mul, ↓op_mod, ↓op_div, ↓op_pow, ↓op_lt, ↓op_le, ↓op_gt, ↓op_ge, ↓op_eqI, ↓op_neI, ↓op_neg, ↓op_isN, ↓op_notN, ↓op_lenL, ↓op_lenT,
  ↓op_isi_i, ↓op_isi_b, ↓op_isi_l, ↓op_isi_t, ↓op_isi_n, ↓op_isi_s, ↓op_abs, ↓op_max2, ↓op_min2, ↓op_tupL, ↓op_tupT, ↓op_lstL, ↓op_lstT, ↓ix_0, ↓ix_1, ↓ix_2, ↓ix_3, ↓tx_0, ↓tx_1, ↓tx_2, ↓tx_3, ↓Ok_datum, ↓Ok_evL0, ↓Ok_evLc, ↓Ok_eTup, ↓Ok_eLst, ↓bk_b, ↓Ok_tB, ↓Ok_eB, ↓Ok_tNot, ↓Ok_tAnd, ↓Ok_tOr, ↓Ok_eAnd, ↓Ok_eOr, ↓Ok_eIf, ↓fk_i, ↓fk_b, ↓fk_n, ↓Ok_evSe, ↓Ok_evSv, ↓ck2_b, ↓Ok_eChain,
  ↓pk_n, ↓pk_t, ↓pk_l, ↓pks_n, ↓pks_c, ↓vk_val, ↓vk_ow, ↓rvk_val, ↓rvk_ow, ↓Ok_retV, ↓augk_val, ↓Ok_augk, ↓nk_i, ↓Ok_setIx, ↓ixk_0, ↓ixk_1, ↓ixk_2, ↓apk_ow, ↓owk_ow, ↓Ok_app, ↓ak_n, ↓ak_d, ↓ak_b, ↓gk_n, ↓gk_l, ↓gk_r, ↓zk_n, ↓zk_l, ↓zk_r, ↓sgm_z, ↓sgm_s, ↓mk2_v, ↓mk2_o, ↓ik_z, ↓ik_n, ↓ik_s, ↓uk_z, ↓uk_s, ↓rtk_rt, ↓rtk_nx, ↓nok_n, ↓nok_v, ↓nok_o,
  ↓afk_nx, ↓afk_ct, ↓afk_bk, ↓afk_rt, ↓dk_l, ↓dk_t, ↓Ok_evPn, ↓Ok_evPs, ↓Ok_cutek, ↓Ok_cutv, ↓op_cutL, ↓op_cutT, ↓Ok_wSeq, ↓rk_i, ↓Ok_wRng1, ↓Ok_wRng2, ↓Ok_wEnum, ↓Ok_wZip2, ↓Ok_wZip3, ↓Ok_wN, ↓wk_n, ↓wk_c, ↓op_isB, ↓op_isNB, ↓dkk_d, ↓vk_dki, ↓lkk_s, ↓Ok_newK, ↓Ok_dlen, ↓Ok_dsorted, ↓Ok_dget, ↓Ok_dgetD, ↓Ok_dput,
  okArg_v, okArg_o, ↓Ok_tYes, nc_0, nc_1, nc_2, nc_3, nc_4, not_true_eq_false, not_false_eq_true, isN, List.length_cons, List.length_nil, Nat.zero_add, Nat.reduceAdd, List.mem_cons, List.not_mem_nil, decide_eq_true_eq, Bool.not_eq_true', decide_eq_false_iff_not, Bool.not_true, Bool.not_false, Bool.false_eq_true, if_true, if_false, true_and, and_true, or_false, or_true, true_or, reduceCtorEq, Nat.reduceEqDiff, and_self, decide_true, decide_false, Int.reduceLT, Int.reduceLE, Int.reduceEq, Int.reduceToNat, Int.reducePow, Int.reduceAdd, Int.reduceSub, Int.reduceMul, Int.reduceNeg, Int.reduceMod, Int.reduceDiv, Nat.reduceLeDiff, Nat.reduceLT, false_or, or_self, and_false, false_and]
  refine Rt_mono (pick_spec he1 (by omega) (by decide) (by decide)) ?_
  rintro _ _ ⟨r2, es2, rfl, rfl, b0, b1, he2⟩
  simp -implicitDefEqProofs only [if_true, ↓Ok_ok, ↓Ok_bind, ↓Ok_seq, ↓thenS_nx, ↓thenS_rt, ↓thenS_bk, ↓thenS_ct, ↓Ok_sIf, ↓Ok_pass, ↓Ok_ret, ↓Ok_setk, ↓Ok_park, ↓Ok_par3k, ↓Ok_drop, ↓Ok_for, ↓Ok_while, ↓Ok_unpk, ↓Ok_callk, ↓Ok_tryC, ↓Tr_x, ↓Tr_r, ↓nmk_s, ↓muk_n, ↓muk_c, ↓mu2_s, ↓mu2_v, ↓mu2_o, ↓zrk_n, ↓zrk_c, ↓rs_h, ↓rs_v, ↓rs_o, hd_v, hd_o, hd_u, mh_n, mh_c, ↓Rt_fnk,
  ↓sg_z, ↓sg_s, ↓sw_z, ↓sw_s, ↓td_val, ↓td_ow, ↓Ok_eLit, ↓kp_val, ↓kp_ow, ↓Ok_eV, ↓Ok_op1e, ↓Ok_op1v, ↓Ok_op2ee, ↓Ok_op2ve, ↓Ok_op2ev, ↓Ok_op2vv, ↓op_add, ↓op_addL, ↓op_addT, ↓op_addI, ↓op_subI, ↓op_addB, ↓op_subB, ↓op_sub, ↓op_mul, ↓op_mod, ↓op_div, ↓op_pow, ↓op_lt, ↓op_le, ↓op_gt, ↓op_ge, ↓op_eqI, ↓op_neI, ↓op_neg, ↓op_isN, ↓op_notN, ↓op_lenL, ↓op_lenT,
  ↓op_isi_i, ↓op_isi_b, ↓op_isi_l, ↓op_isi_t, ↓op_isi_n, ↓op_isi_s, ↓op_abs, ↓op_max2, ↓op_min2, ↓op_tupL, ↓op_tupT, ↓op_lstL, ↓op_lstT, ↓ix_0, ↓ix_1, ↓ix_2, ↓ix_3, ↓tx_0, ↓tx_1, ↓tx_2, ↓tx_3, ↓Ok_datum, ↓Ok_evL0, ↓Ok_evLc, ↓Ok_eTup, ↓Ok_eLst, ↓bk_b, ↓Ok_tB, ↓Ok_eB, ↓Ok_tNot, ↓Ok_tAnd, ↓Ok_tOr, ↓Ok_eAnd, ↓Ok_eOr, ↓Ok_eIf, ↓fk_i, ↓fk_b, ↓fk_n, ↓Ok_evSe, ↓Ok_evSv, ↓ck2_b, ↓Ok_eChain,
  ↓pk_n, ↓pk_t, ↓pk_l, ↓pks_n, ↓pks_c, ↓vk_val, ↓vk_ow, ↓rvk_val, ↓rvk_ow, ↓Ok_retV, ↓augk_val, ↓Ok_augk, ↓nk_i, ↓Ok_setIx, ↓ixk_0, ↓ixk_1, ↓ixk_2, ↓apk_ow, ↓owk_ow, ↓Ok_app, ↓ak_n, ↓ak_d, ↓ak_b, ↓gk_n, ↓gk_l, ↓gk_r, ↓zk_n, ↓zk_l, ↓zk_r, ↓sgm_z, ↓sgm_s, ↓mk2_v, ↓mk2_o, ↓ik_z, ↓ik_n, ↓ik_s, ↓uk_z, ↓uk_s, ↓rtk_rt, ↓rtk_nx, ↓nok_n, ↓nok_v, ↓nok_o,
  ↓afk_nx, ↓afk_ct, ↓afk_bk, ↓afk_rt, ↓dk_l, ↓dk_t, ↓Ok_evPn, ↓Ok_evPs, ↓Ok_cutek, ↓Ok_cutv, ↓op_cutL, ↓op_cutT, ↓Ok_wSeq, ↓rk_i, ↓Ok_wRng1, ↓Ok_wRng2, ↓Ok_wEnum, ↓Ok_wZip2, ↓Ok_wZip3, ↓Ok_wN, ↓wk_n, ↓wk_c, ↓op_isB, ↓op_isNB, ↓dkk_d, ↓vk_dki, ↓lkk_s, ↓Ok_newK, ↓Ok_dlen, ↓Ok_dsorted, ↓Ok_dget, ↓Ok_dgetD, ↓Ok_dput,
  okArg_v, okArg_o, ↓Ok_tYes, nc_0, nc_1, nc_2, nc_3, nc_4, not_true_eq_false, not_false_eq_true, isN, List.length_cons, List.length_nil, Nat.zero_add, Nat.reduceAdd, List.mem_cons, List.not_mem_nil, decide_eq_true_eq, Bool.not_eq_true', decide_eq_false_iff_not, Bool.not_true, Bool.not_false, Bool.false_eq_true, if_true, if_false, true_and, and_true, or_false, or_true, true_or, reduceCtorEq, Nat.reduceEqDiff, and_self, decide_true, decide_false, Int.reduceLT, Int.reduceLE, Int.reduceEq, Int.reduceToNat, Int.reducePow, Int.reduceAdd, Int.reduceSub, Int.reduceMul, Int.reduceNeg, Int.reduceMod, Int.reduceDiv, Nat.reduceLeDiff, Nat.reduceLT, false_or, or_self, and_false, false_and]
  refine for_inv2 (fun l S => (∀ d ∈ l, ∃ L : Int, d = .int L) ∧ ∃ x5 x6 x7 x8 x9 x10 x11, S = [s0, .val (.int c), .ow es2, .val (smD s), .val (.int (lrF (gps s))), x5, x6, x7, x8, x9, x10, x11])
    (fun S ⟨_, x5, x6, x7, x8, x9, x10, x11, hS⟩ => ?en) (fun d l S ⟨hl, x5, x6, x7, x8, x9, x10, x11, hS⟩ => ?st) _ _ ⟨fun d hm => ?_, _, _, _, _, _, _, _, rfl⟩
  case st =>
    subst hS
    obtain ⟨L, rfl⟩ := hl d List.mem_cons_self
    simp -implicitDefEqProofs only [if_true, ↓Ok_ok, ↓Ok_bind, ↓Ok_seq, ↓thenS_nx, ↓thenS_rt, ↓thenS_bk, ↓thenS_ct, ↓Ok_sIf, ↓Ok_pass, ↓Ok_ret, ↓Ok_setk, ↓Ok_park, ↓Ok_par3k, ↓Ok_drop, ↓Ok_for, ↓Ok_while, ↓Ok_unpk, ↓Ok_callk, ↓Ok_tryC, ↓Tr_x, ↓Tr_r, ↓nmk_s, ↓muk_n, ↓muk_c, ↓mu2_s, ↓mu2_v, ↓mu2_o, ↓zrk_n, ↓zrk_c, ↓rs_h, ↓rs_v, ↓rs_o, hd_v, hd_o, hd_u, mh_n, mh_c, ↓Rt_fnk,
  ↓sg_z, ↓sg_s, ↓sw_z, ↓sw_s, ↓td_val, ↓td_ow, ↓Ok_eLit, ↓kp_val, ↓kp_ow, ↓Ok_eV, ↓Ok_op1e, ↓Ok_op1v, ↓Ok_op2ee, ↓Ok_op2ve, ↓Ok_op2ev, ↓Ok_op2vv, ↓op_add, ↓op_addL, ↓op_addT, ↓op_addI, ↓op_subI, ↓op_addB, ↓op_subB, ↓op_sub, ↓op_mul, ↓op_mod, ↓op_div, ↓op_pow, ↓op_lt, ↓op_le, ↓op_gt, ↓op_ge, ↓op_eqI, ↓op_neI, ↓op_neg, ↓op_isN, ↓op_notN, ↓op_lenL, ↓op_lenT,
  ↓op_isi_i, ↓op_isi_b, ↓op_isi_l, ↓op_isi_t, ↓op_isi_n, ↓op_isi_s, ↓op_abs, ↓op_max2, ↓op_min2, ↓op_tupL, ↓op_tupT, ↓op_lstL, ↓op_lstT, ↓ix_0, ↓ix_1, ↓ix_2, ↓ix_3, ↓tx_0, ↓tx_1, ↓tx_2, ↓tx_3, ↓Ok_datum, ↓Ok_evL0, ↓Ok_evLc, ↓Ok_eTup, ↓Ok_eLst, ↓bk_b, ↓Ok_tB, ↓Ok_eB, ↓Ok_tNot, ↓Ok_tAnd, ↓Ok_tOr, ↓Ok_eAnd, ↓Ok_eOr, ↓Ok_eIf, ↓fk_i, ↓fk_b, ↓fk_n, ↓Ok_evSe, ↓Ok_evSv, ↓ck2_b, ↓Ok_eChain,
  ↓pk_n, ↓pk_t, ↓pk_l, ↓pks_n, ↓pks_c, ↓vk_val, ↓vk_ow, ↓rvk_val, ↓rvk_ow, ↓Ok_retV, ↓augk_val, ↓Ok_augk, ↓nk_i, ↓Ok_setIx, ↓ixk_0, ↓ixk_1, ↓ixk_2, ↓apk_ow, ↓owk_ow, ↓Ok_app, ↓ak_n, ↓ak_d, ↓ak_b, ↓gk_n, ↓gk_l, ↓gk_r, ↓zk_n, ↓zk_l, ↓zk_r, ↓sgm_z, ↓sgm_s, ↓mk2_v, ↓mk2_o, ↓ik_z, ↓ik_n, ↓ik_s, ↓uk_z, ↓uk_s, ↓rtk_rt, ↓rtk_nx, ↓nok_n, ↓nok_v, ↓nok_o,
  ↓afk_nx, ↓afk_ct, ↓afk_bk, ↓afk_rt, ↓dk_l, ↓dk_t, ↓Ok_evPn, ↓Ok_evPs, ↓Ok_cutek, ↓Ok_cutv, ↓op_cutL, ↓op_cutT, ↓Ok_wSeq, ↓rk_i, ↓Ok_wRng1, ↓Ok_wRng2, ↓Ok_wEnum, ↓Ok_wZip2, ↓Ok_wZip3, ↓Ok_wN, ↓wk_n, ↓wk_c, ↓op_isB, ↓op_isNB, ↓dkk_d, ↓vk_dki, ↓lkk_s, ↓Ok_newK, ↓Ok_dlen, ↓Ok_dsorted, ↓Ok_dget, ↓Ok_dgetD, ↓Ok_dput,
  okArg_v, okArg_o, ↓Ok_tYes, nc_0, nc_1, nc_2, nc_3, nc_4, not_true_eq_false, not_false_eq_true, isN, List.length_cons, List.length_nil, Nat.zero_add, Nat.reduceAdd, List.mem_cons, List.not_mem_nil, decide_eq_true_eq, Bool.not_eq_true', decide_eq_false_iff_not, Bool.not_true, Bool.not_false, Bool.false_eq_true, if_true, if_false, true_and, and_true, or_false, or_true, true_or, reduceCtorEq, Nat.reduceEqDiff, and_self, decide_true, decide_false, Int.reduceLT, Int.reduceLE, Int.reduceEq, Int.reduceToNat, Int.reducePow, Int.reduceAdd, Int.reduceSub, Int.reduceMul, Int.reduceNeg, Int.reduceMod, Int.reduceDiv, Nat.reduceLeDiff, Nat.reduceLT, false_or, or_self, and_false, false_and]
    exact f2_spec g _ fun x6 x7 x8 x9 => ⟨fun d hd => hl d (List.mem_cons_of_mem _ hd), _, _, _, _, _, _, _, rfl⟩
  case en =>
    subst hS
    simp -implicitDefEqProofs only [if_true, ↓Ok_ok, ↓Ok_bind, ↓Ok_seq, ↓thenS_nx, ↓thenS_rt, ↓thenS_bk, ↓thenS_ct, ↓Ok_sIf, ↓Ok_pass, ↓Ok_ret, ↓Ok_setk, ↓Ok_park, ↓Ok_par3k, ↓Ok_drop, ↓Ok_for, ↓Ok_while, ↓Ok_unpk, ↓Ok_callk, ↓Ok_tryC, ↓Tr_x, ↓Tr_r, ↓nmk_s, ↓muk_n, ↓muk_c, ↓mu2_s, ↓mu2_v, ↓mu2_o, ↓zrk_n, ↓zrk_c, ↓rs_h, ↓rs_v, ↓rs_o, hd_v, hd_o, hd_u, mh_n, mh_c, ↓Rt_fnk,
  ↓sg_z, ↓sg_s, ↓sw_z, ↓sw_s, ↓td_val, ↓td_ow, ↓Ok_eLit, ↓kp_val, ↓kp_ow, ↓Ok_eV, ↓Ok_op1e, ↓Ok_op1v, ↓Ok_op2ee, ↓Ok_op2ve, ↓Ok_op2ev, ↓Ok_op2vv, ↓op_add, ↓op_addL, ↓op_addT, ↓op_addI, ↓op_subI, ↓op_addB, ↓op_subB, ↓op_sub, ↓op_mul, ↓op_mod, ↓op_div, ↓op_pow, ↓op_lt, ↓op_le, ↓op_gt, ↓op_ge, ↓op_eqI, ↓op_neI, ↓op_neg, ↓op_isN, ↓op_notN, ↓op_lenL, ↓op_lenT,
  ↓op_isi_i, ↓op_isi_b, ↓op_isi_l, ↓op_isi_t, ↓op_isi_n, ↓op_isi_s, ↓op_abs, ↓op_max2, ↓op_min2, ↓op_tupL, ↓op_tupT, ↓op_lstL, ↓op_lstT, ↓ix_0, ↓ix_1, ↓ix_2, ↓ix_3, ↓tx_0, ↓tx_1, ↓tx_2, ↓tx_3, ↓Ok_datum, ↓Ok_evL0, ↓Ok_evLc, ↓Ok_eTup, ↓Ok_eLst, ↓bk_b, ↓Ok_tB, ↓Ok_eB, ↓Ok_tNot, ↓Ok_tAnd, ↓Ok_tOr, ↓Ok_eAnd, ↓Ok_eOr, ↓Ok_eIf, ↓fk_i, ↓fk_b, ↓fk_n, ↓Ok_evSe, ↓Ok_evSv, ↓ck2_b, ↓Ok_eChain,
  ↓pk_n, ↓pk_t, ↓pk_l, ↓pks_n, ↓pks_c, ↓vk_val, ↓vk_ow, ↓rvk_val, ↓rvk_ow, ↓Ok_retV, ↓augk_val, ↓Ok_augk, ↓nk_i, ↓Ok_setIx, ↓ixk_0, ↓ixk_1, ↓ixk_2, ↓apk_ow, ↓owk_ow, ↓Ok_app, ↓ak_n, ↓ak_d, ↓ak_b, ↓gk_n, ↓gk_l, ↓gk_r, ↓zk_n, ↓zk_l, ↓zk_r, ↓sgm_z, ↓sgm_s, ↓mk2_v, ↓mk2_o, ↓ik_z, ↓ik_n, ↓ik_s, ↓uk_z, ↓uk_s, ↓rtk_rt, ↓rtk_nx, ↓nok_n, ↓nok_v, ↓nok_o,
  ↓afk_nx, ↓afk_ct, ↓afk_bk, ↓afk_rt, ↓dk_l, ↓dk_t, ↓Ok_evPn, ↓Ok_evPs, ↓Ok_cutek, ↓Ok_cutv, ↓op_cutL, ↓op_cutT, ↓Ok_wSeq, ↓rk_i, ↓Ok_wRng1, ↓Ok_wRng2, ↓Ok_wEnum, ↓Ok_wZip2, ↓Ok_wZip3, ↓Ok_wN, ↓wk_n, ↓wk_c, ↓op_isB, ↓op_isNB, ↓dkk_d, ↓vk_dki, ↓lkk_s, ↓Ok_newK, ↓Ok_dlen, ↓Ok_dsorted, ↓Ok_dget, ↓Ok_dgetD, ↓Ok_dput,
  okArg_v, okArg_o, ↓Ok_tYes, nc_0, nc_1, nc_2, nc_3, nc_4, not_true_eq_false, not_false_eq_true, isN, List.length_cons, List.length_nil, Nat.zero_add, Nat.reduceAdd, List.mem_cons, List.not_mem_nil, decide_eq_true_eq, Bool.not_eq_true', decide_eq_false_iff_not, Bool.not_true, Bool.not_false, Bool.false_eq_true, if_true, if_false, true_and, and_true, or_false, or_true, true_or, reduceCtorEq, Nat.reduceEqDiff, and_self, decide_true, decide_false, Int.reduceLT, Int.reduceLE, Int.reduceEq, Int.reduceToNat, Int.reducePow, Int.reduceAdd, Int.reduceSub, Int.reduceMul, Int.reduceNeg, Int.reduceMod, Int.reduceDiv, Nat.reduceLeDiff, Nat.reduceLT, false_or, or_self, and_false, false_and]
    refine for_inv2 (fun l S => (∀ d ∈ l, OddR d) ∧ ∃ x5 x6 x7 x8 x9 x10 x11, S = [s0, .val (.int c), .ow es2, .val (smD s), .val (.int (lrF (gps s))), x5, x6, x7, x8, x9, x10, x11])
      (fun S ⟨_, x5, x6, x7, x8, x9, x10, x11, hS⟩ => ?en2) (fun d l S ⟨hl, x5, x6, x7, x8, x9, x10, x11, hS⟩ => ?st2) _ _ ⟨fun d hm => ?_, _, _, _, _, _, _, _, rfl⟩
    case st2 =>
      subst hS
      simp -implicitDefEqProofs only [if_true, ↓Ok_ok, ↓Ok_bind, ↓Ok_seq, ↓thenS_nx, ↓thenS_rt, ↓thenS_bk, ↓thenS_ct, ↓Ok_sIf, ↓Ok_pass, ↓Ok_ret, ↓Ok_setk, ↓Ok_park, ↓Ok_par3k, ↓Ok_drop, ↓Ok_for, ↓Ok_while, ↓Ok_unpk, ↓Ok_callk, ↓Ok_tryC, ↓Tr_x, ↓Tr_r, ↓nmk_s, ↓muk_n, ↓muk_c, ↓mu2_s, ↓mu2_v, ↓mu2_o, ↓zrk_n, ↓zrk_c, ↓rs_h, ↓rs_v, ↓rs_o, hd_v, hd_o, hd_u, mh_n, mh_c, ↓Rt_fnk,
  ↓sg_z, ↓sg_s, ↓sw_z, ↓sw_s, ↓td_val, ↓td_ow, ↓Ok_eLit, ↓kp_val, ↓kp_ow, ↓Ok_eV, ↓Ok_op1e, ↓Ok_op1v, ↓Ok_op2ee, ↓Ok_op2ve, ↓Ok_op2ev, ↓Ok_op2vv, ↓op_add, ↓op_addL, ↓op_addT, ↓op_addI, ↓op_subI, ↓op_addB, ↓op_subB, ↓op_sub, ↓op_mul, ↓op_mod, ↓op_div, ↓op_pow, ↓op_lt, ↓op_le, ↓op_gt, ↓op_ge, ↓op_eqI, ↓op_neI, ↓op_neg, ↓op_isN, ↓op_notN, ↓op_lenL, ↓op_lenT,
  ↓op_isi_i, ↓op_isi_b, ↓op_isi_l, ↓op_isi_t, ↓op_isi_n, ↓op_isi_s, ↓op_abs, ↓op_max2, ↓op_min2, ↓op_tupL, ↓op_tupT, ↓op_lstL, ↓op_lstT, ↓ix_0, ↓ix_1, ↓ix_2, ↓ix_3, ↓tx_0, ↓tx_1, ↓tx_2, ↓tx_3, ↓Ok_datum, ↓Ok_evL0, ↓Ok_evLc, ↓Ok_eTup, ↓Ok_eLst, ↓bk_b, ↓Ok_tB, ↓Ok_eB, ↓Ok_tNot, ↓Ok_tAnd, ↓Ok_tOr, ↓Ok_eAnd, ↓Ok_eOr, ↓Ok_eIf, ↓fk_i, ↓fk_b, ↓fk_n, ↓Ok_evSe, ↓Ok_evSv, ↓ck2_b, ↓Ok_eChain,
  ↓pk_n, ↓pk_t, ↓pk_l, ↓pks_n, ↓pks_c, ↓vk_val, ↓vk_ow, ↓rvk_val, ↓rvk_ow, ↓Ok_retV, ↓augk_val, ↓Ok_augk, ↓nk_i, ↓Ok_setIx, ↓ixk_0, ↓ixk_1, ↓ixk_2, ↓apk_ow, ↓owk_ow, ↓Ok_app, ↓ak_n, ↓ak_d, ↓ak_b, ↓gk_n, ↓gk_l, ↓gk_r, ↓zk_n, ↓zk_l, ↓zk_r, ↓sgm_z, ↓sgm_s, ↓mk2_v, ↓mk2_o, ↓ik_z, ↓ik_n, ↓ik_s, ↓uk_z, ↓uk_s, ↓rtk_rt, ↓rtk_nx, ↓nok_n, ↓nok_v, ↓nok_o,
  ↓afk_nx, ↓afk_ct, ↓afk_bk, ↓afk_rt, ↓dk_l, ↓dk_t, ↓Ok_evPn, ↓Ok_evPs, ↓Ok_cutek, ↓Ok_cutv, ↓op_cutL, ↓op_cutT, ↓Ok_wSeq, ↓rk_i, ↓Ok_wRng1, ↓Ok_wRng2, ↓Ok_wEnum, ↓Ok_wZip2, ↓Ok_wZip3, ↓Ok_wN, ↓wk_n, ↓wk_c, ↓op_isB, ↓op_isNB, ↓dkk_d, ↓vk_dki, ↓lkk_s, ↓Ok_newK, ↓Ok_dlen, ↓Ok_dsorted, ↓Ok_dget, ↓Ok_dgetD, ↓Ok_dput,
  okArg_v, okArg_o, ↓Ok_tYes, nc_0, nc_1, nc_2, nc_3, nc_4, not_true_eq_false, not_false_eq_true, isN, List.length_cons, List.length_nil, Nat.zero_add, Nat.reduceAdd, List.mem_cons, List.not_mem_nil, decide_eq_true_eq, Bool.not_eq_true', decide_eq_false_iff_not, Bool.not_true, Bool.not_false, Bool.false_eq_true, if_true, if_false, true_and, and_true, or_false, or_true, true_or, reduceCtorEq, Nat.reduceEqDiff, and_self, decide_true, decide_false, Int.reduceLT, Int.reduceLE, Int.reduceEq, Int.reduceToNat, Int.reducePow, Int.reduceAdd, Int.reduceSub, Int.reduceMul, Int.reduceNeg, Int.reduceMod, Int.reduceDiv, Nat.reduceLeDiff, Nat.reduceLT, false_or, or_self, and_false, false_and]
      exact f4_spec g (hl d List.mem_cons_self) _ fun x11 => ⟨fun d hd => hl d (List.mem_cons_of_mem _ hd), _, _, _, _, _, _, _, rfl⟩
    case en2 =>
      subst hS
      simp -implicitDefEqProofs only [if_true, ↓Ok_ok, ↓Ok_bind, ↓Ok_seq, ↓thenS_nx, ↓thenS_rt, ↓thenS_bk, ↓thenS_ct, ↓Ok_sIf, ↓Ok_pass, ↓Ok_ret, ↓Ok_setk, ↓Ok_park, ↓Ok_par3k, ↓Ok_drop, ↓Ok_for, ↓Ok_while, ↓Ok_unpk, ↓Ok_callk, ↓Ok_tryC, ↓Tr_x, ↓Tr_r, ↓nmk_s, ↓muk_n, ↓muk_c, ↓mu2_s, ↓mu2_v, ↓mu2_o, ↓zrk_n, ↓zrk_c, ↓rs_h, ↓rs_v, ↓rs_o, hd_v, hd_o, hd_u, mh_n, mh_c, ↓Rt_fnk,
  ↓sg_z, ↓sg_s, ↓sw_z, ↓sw_s, ↓td_val, ↓td_ow, ↓Ok_eLit, ↓kp_val, ↓kp_ow, ↓Ok_eV, ↓Ok_op1e, ↓Ok_op1v, ↓Ok_op2ee, ↓Ok_op2ve, ↓Ok_op2ev, ↓Ok_op2vv, ↓op_add, ↓op_addL, ↓op_addT, ↓op_addI, ↓op_subI, ↓op_addB, ↓op_subB, ↓op_sub, ↓op_mul, ↓op_mod, ↓op_div, ↓op_pow, ↓op_lt, ↓op_le, ↓op_gt, ↓op_ge, ↓op_eqI, ↓op_neI, ↓op_neg, ↓op_isN, ↓op_notN, ↓op_lenL, ↓op_lenT,
  ↓op_isi_i, ↓op_isi_b, ↓op_isi_l, ↓op_isi_t, ↓op_isi_n, ↓op_isi_s, ↓op_abs, ↓op_max2, ↓op_min2, ↓op_tupL, ↓op_tupT, ↓op_lstL, ↓op_lstT, ↓ix_0, ↓ix_1, ↓ix_2, ↓ix_3, ↓tx_0, ↓tx_1, ↓tx_2, ↓tx_3, ↓Ok_datum, ↓Ok_evL0, ↓Ok_evLc, ↓Ok_eTup, ↓Ok_eLst, ↓bk_b, ↓Ok_tB, ↓Ok_eB, ↓Ok_tNot, ↓Ok_tAnd, ↓Ok_tOr, ↓Ok_eAnd, ↓Ok_eOr, ↓Ok_eIf, ↓fk_i, ↓fk_b, ↓fk_n, ↓Ok_evSe, ↓Ok_evSv, ↓ck2_b, ↓Ok_eChain,
  ↓pk_n, ↓pk_t, ↓pk_l, ↓pks_n, ↓pks_c, ↓vk_val, ↓vk_ow, ↓rvk_val, ↓rvk_ow, ↓Ok_retV, ↓augk_val, ↓Ok_augk, ↓nk_i, ↓Ok_setIx, ↓ixk_0, ↓ixk_1, ↓ixk_2, ↓apk_ow, ↓owk_ow, ↓Ok_app, ↓ak_n, ↓ak_d, ↓ak_b, ↓gk_n, ↓gk_l, ↓gk_r, ↓zk_n, ↓zk_l, ↓zk_r, ↓sgm_z, ↓sgm_s, ↓mk2_v, ↓mk2_o, ↓ik_z, ↓ik_n, ↓ik_s, ↓uk_z, ↓uk_s, ↓rtk_rt, ↓rtk_nx, ↓nok_n, ↓nok_v, ↓nok_o,
  ↓afk_nx, ↓afk_ct, ↓afk_bk, ↓afk_rt, ↓dk_l, ↓dk_t, ↓Ok_evPn, ↓Ok_evPs, ↓Ok_cutek, ↓Ok_cutv, ↓op_cutL, ↓op_cutT, ↓Ok_wSeq, ↓rk_i, ↓Ok_wRng1, ↓Ok_wRng2, ↓Ok_wEnum, ↓Ok_wZip2, ↓Ok_wZip3, ↓Ok_wN, ↓wk_n, ↓wk_c, ↓op_isB, ↓op_isNB, ↓dkk_d, ↓vk_dki, ↓lkk_s, ↓Ok_newK, ↓Ok_dlen, ↓Ok_dsorted, ↓Ok_dget, ↓Ok_dgetD, ↓Ok_dput,
  okArg_v, okArg_o, ↓Ok_tYes, nc_0, nc_1, nc_2, nc_3, nc_4, not_true_eq_false, not_false_eq_true, isN, List.length_cons, List.length_nil, Nat.zero_add, Nat.reduceAdd, List.mem_cons, List.not_mem_nil, decide_eq_true_eq, Bool.not_eq_true', decide_eq_false_iff_not, Bool.not_true, Bool.not_false, Bool.false_eq_true, if_true, if_false, true_and, and_true, or_false, or_true, true_or, reduceCtorEq, Nat.reduceEqDiff, and_self, decide_true, decide_false, Int.reduceLT, Int.reduceLE, Int.reduceEq, Int.reduceToNat, Int.reducePow, Int.reduceAdd, Int.reduceSub, Int.reduceMul, Int.reduceNeg, Int.reduceMod, Int.reduceDiv, Nat.reduceLeDiff, Nat.reduceLT, false_or, or_self, and_false, false_and]
      exact f6_spec _ fun x11 => h ..
    · simp only [List.mem_cons, List.not_mem_nil, or_false] at hm
      exact hm
  · simp only [List.mem_cons, List.not_mem_nil, or_false] at hm
    rcases hm with rfl | rfl | rfl | rfl | rfl | rfl | rfl <;> exact ⟨_, rfl⟩
theorem for_spec {s0 x1 x2 x3 x4 x5 x6 x7 x8 x9 x10 x11 : Sv} (ds : List D) (hds : ∀ d ∈ ds, ∃ c : Int, d = .int c) (Q : Fl → Sl → Prop)
    (h : ∀ x1 x2 x3 x4 x5 x6 x7 x8 x9 x10 x11, Q .nx [s0, x1, x2, x3, x4, x5, x6, x7, x8, x9, x10, x11]) :
    Ok (forLoop (.n 1) B_law_f1 ds [s0, x1, x2, x3, x4, x5, x6, x7, x8, x9, x10, x11]) Q := by
  refine for_inv2 (fun l S => (∀ d ∈ l, ∃ c : Int, d = .int c) ∧ ∃ x1 x2 x3 x4 x5 x6 x7 x8 x9 x10 x11, S = [s0, x1, x2, x3, x4, x5, x6, x7, x8, x9, x10, x11])
    (fun S ⟨_, x1, x2, x3, x4, x5, x6, x7, x8, x9, x10, x11, hS⟩ => ?e) (fun d l S ⟨hl, x1, x2, x3, x4, x5, x6, x7, x8, x9, x10, x11, hS⟩ => ?s) _ _ ⟨hds, _, _, _, _, _, _, _, _, _, _, _, rfl⟩
  case e =>
    subst hS
    exact h ..
  case s =>
    subst hS
    obtain ⟨c, rfl⟩ := hl d List.mem_cons_self
    simp -implicitDefEqProofs only [if_true, ↓Ok_ok, ↓Ok_bind, ↓Ok_seq, ↓thenS_nx, ↓thenS_rt, ↓thenS_bk, ↓thenS_ct, ↓Ok_sIf, ↓Ok_pass, ↓Ok_ret, ↓Ok_setk, ↓Ok_park, ↓Ok_par3k, ↓Ok_drop, ↓Ok_for, ↓Ok_while, ↓Ok_unpk, ↓Ok_callk, ↓Ok_tryC, ↓Tr_x, ↓Tr_r, ↓nmk_s, ↓muk_n, ↓muk_c, ↓mu2_s, ↓mu2_v, ↓mu2_o, ↓zrk_n, ↓zrk_c, ↓rs_h, ↓rs_v, ↓rs_o, hd_v, hd_o, hd_u, mh_n, mh_c, ↓Rt_fnk,
  ↓sg_z, ↓sg_s, ↓sw_z, ↓sw_s, ↓td_val, ↓td_ow, ↓Ok_eLit, ↓kp_val, ↓kp_ow, ↓Ok_eV, ↓Ok_op1e, ↓Ok_op1v, ↓Ok_op2ee, ↓Ok_op2ve, ↓Ok_op2ev, ↓Ok_op2vv, ↓op_add, ↓op_addL, ↓op_addT, ↓op_addI, ↓op_subI, ↓op_addB, ↓op_subB, ↓op_sub, ↓op_mul, ↓op_mod, ↓op_div, ↓op_pow, ↓op_lt, ↓op_le, ↓op_gt, ↓op_ge, ↓op_eqI, ↓op_neI, ↓op_neg, ↓op_isN, ↓op_notN, ↓op_lenL, ↓op_lenT,
  ↓op_isi_i, ↓op_isi_b, ↓op_isi_l, ↓op_isi_t, ↓op_isi_n, ↓op_isi_s, ↓op_abs, ↓op_max2, ↓op_min2, ↓op_tupL, ↓op_tupT, ↓op_lstL, ↓op_lstT, ↓ix_0, ↓ix_1, ↓ix_2, ↓ix_3, ↓tx_0, ↓tx_1, ↓tx_2, ↓tx_3, ↓Ok_datum, ↓Ok_evL0, ↓Ok_evLc, ↓Ok_eTup, ↓Ok_eLst, ↓bk_b, ↓Ok_tB, ↓Ok_eB, ↓Ok_tNot, ↓Ok_tAnd, ↓Ok_tOr, ↓Ok_eAnd, ↓Ok_eOr, ↓Ok_eIf, ↓fk_i, ↓fk_b, ↓fk_n, ↓Ok_evSe, ↓Ok_evSv, ↓ck2_b, ↓Ok_eChain,
  ↓pk_n, ↓pk_t, ↓pk_l, ↓pks_n, ↓pks_c, ↓vk_val, ↓vk_ow, ↓rvk_val, ↓rvk_ow, ↓Ok_retV, ↓augk_val, ↓Ok_augk, ↓nk_i, ↓Ok_setIx, ↓ixk_0, ↓ixk_1, ↓ixk_2, ↓apk_ow, ↓owk_ow, ↓Ok_app, ↓ak_n, ↓ak_d, ↓ak_b, ↓gk_n, ↓gk_l, ↓gk_r, ↓zk_n, ↓zk_l, ↓zk_r, ↓sgm_z, ↓sgm_s, ↓mk2_v, ↓mk2_o, ↓ik_z, ↓ik_n, ↓ik_s, ↓uk_z, ↓uk_s, ↓rtk_rt, ↓rtk_nx, ↓nok_n, ↓nok_v, ↓nok_o,
  ↓afk_nx, ↓afk_ct, ↓afk_bk, ↓afk_rt, ↓dk_l, ↓dk_t, ↓Ok_evPn, ↓Ok_evPs, ↓Ok_cutek, ↓Ok_cutv, ↓op_cutL, ↓op_cutT, ↓Ok_wSeq, ↓rk_i, ↓Ok_wRng1, ↓Ok_wRng2, ↓Ok_wEnum, ↓Ok_wZip2, ↓Ok_wZip3, ↓Ok_wN, ↓wk_n, ↓wk_c, ↓op_isB, ↓op_isNB, ↓dkk_d, ↓vk_dki, ↓lkk_s, ↓Ok_newK, ↓Ok_dlen, ↓Ok_dsorted, ↓Ok_dget, ↓Ok_dgetD, ↓Ok_dput,
  okArg_v, okArg_o, ↓Ok_tYes, nc_0, nc_1, nc_2, nc_3, nc_4, not_true_eq_false, not_false_eq_true, isN, List.length_cons, List.length_nil, Nat.zero_add, Nat.reduceAdd, List.mem_cons, List.not_mem_nil, decide_eq_true_eq, Bool.not_eq_true', decide_eq_false_iff_not, Bool.not_true, Bool.not_false, Bool.false_eq_true, if_true, if_false, true_and, and_true, or_false, or_true, true_or, reduceCtorEq, Nat.reduceEqDiff, and_self, decide_true, decide_false, Int.reduceLT, Int.reduceLE, Int.reduceEq, Int.reduceToNat, Int.reducePow, Int.reduceAdd, Int.reduceSub, Int.reduceMul, Int.reduceNeg, Int.reduceMod, Int.reduceDiv, Nat.reduceLeDiff, Nat.reduceLT, false_or, or_self, and_false, false_and]
    exact f1_spec _ fun x2 x3 x4 x5 x6 x7 x8 x9 x10 x11 => ⟨fun d hd => hl d (List.mem_cons_of_mem _ hd), _, _, _, _, _, _, _, _, _, _, _, rfl⟩
theorem items {ns : List Int} {l h : Option Int} : ∀ d ∈ cutD (.int 0 :: ns.map PyData.int) l h, ∃ c : Int, d = .int c := fun d hd => by
  rcases List.mem_cons.mp (cutD_mem hd) with rfl | h
  · exact ⟨_, rfl⟩
  · obtain ⟨c, _, rfl⟩ := List.mem_map.mp h
    exact ⟨c, rfl⟩
abbrev w1 : D := .tuple [.tuple [.int 0, .int 9], .tuple [.int 2, .int 3], .tuple [.int 3, .int 9]]
abbrev w2 : D := .tuple [.tuple [.int 0, .int 9], .tuple [.int 1, .int 4], .tuple [.int 2, .int 9], .tuple [.int 3, .int 12]]
abbrev w3 : D := .list [.str (PySem.Str.ofString "certain"), .str (PySem.Str.ofString "impossible"), .str (PySem.Str.ofString "impossible")]
theorem e0 : F_least_rate [.val (.tuple [])] = .ret (.val (.int 1)) [.val (.tuple [])] := by kernel_rfl
theorem e1 : F_least_rate [.val w1] = .ret (.val (.int 6)) [.val w1] := by kernel_rfl
theorem e2 : F_restart_statuses [.val w2, .val (.int 5)] = .ret (.ow [.str (PySem.Str.ofString "certain"), .str (PySem.Str.ofString "impossible"), .str (PySem.Str.ofString "impossible")]) [.val w2, .val (.int 5)] := by kernel_rfl
theorem main (ns : List Int) (hn : ns.length ≤ 63) : Rt (F_law [.val (.list (ns.map PyData.int))]) fun v _ => v = .val (.bool true) := by
  have hl : (ns.map PyData.int).length ≤ 63 := by rw [List.length_map]; exact hn
  have r0 := fun Q => Rt_eq (Q := Q) e0
  have r1 := fun Q => Rt_eq (Q := Q) e1
  have r2 := fun Q => Rt_eq (Q := Q) e2
  have sh := fun k => op_eq_same (d := w3) (k := k) (by decide +kernel)
  unfold F_law B_law
  simp -implicitDefEqProofs only [if_true, ↓Ok_ok, ↓Ok_bind, ↓Ok_seq, ↓thenS_nx, ↓thenS_rt, ↓thenS_bk, ↓thenS_ct, ↓Ok_sIf, ↓Ok_pass, ↓Ok_ret, ↓Ok_setk, ↓Ok_park, ↓Ok_par3k, ↓Ok_drop, ↓Ok_for, ↓Ok_while, ↓Ok_unpk, ↓Ok_callk, ↓Ok_tryC, ↓Tr_x, ↓Tr_r, ↓nmk_s, ↓muk_n, ↓muk_c, ↓mu2_s, ↓mu2_v, ↓mu2_o, ↓zrk_n, ↓zrk_c, ↓rs_h, ↓rs_v, ↓rs_o, hd_v, hd_o, hd_u, mh_n, mh_c, ↓Rt_fnk,
  ↓sg_z, ↓sg_s, ↓sw_z, ↓sw_s, ↓td_val, ↓td_ow, ↓Ok_eLit, ↓kp_val, ↓kp_ow, ↓Ok_eV, ↓Ok_op1e, ↓Ok_op1v, ↓Ok_op2ee, ↓Ok_op2ve, ↓Ok_op2ev, ↓Ok_op2vv, ↓op_add, ↓op_addL, ↓op_addT, ↓op_addI, ↓op_subI, ↓op_addB, ↓op_subB, ↓op_sub, ↓op_mul, ↓op_mod, ↓op_div, ↓op_pow, ↓op_lt, ↓op_le, ↓op_gt, ↓op_ge, ↓op_eqI, ↓op_neI, ↓op_neg, ↓op_isN, ↓op_notN, ↓op_lenL, ↓op_lenT,
  ↓op_isi_i, ↓op_isi_b, ↓op_isi_l, ↓op_isi_t, ↓op_isi_n, ↓op_isi_s, ↓op_abs, ↓op_max2, ↓op_min2, ↓op_tupL, ↓op_tupT, ↓op_lstL, ↓op_lstT, ↓ix_0, ↓ix_1, ↓ix_2, ↓ix_3, ↓tx_0, ↓tx_1, ↓tx_2, ↓tx_3, ↓Ok_datum, ↓Ok_evL0, ↓Ok_evLc, ↓Ok_eTup, ↓Ok_eLst, ↓bk_b, ↓Ok_tB, ↓Ok_eB, ↓Ok_tNot, ↓Ok_tAnd, ↓Ok_tOr, ↓Ok_eAnd, ↓Ok_eOr, ↓Ok_eIf, ↓fk_i, ↓fk_b, ↓fk_n, ↓Ok_evSe, ↓Ok_evSv, ↓ck2_b, ↓Ok_eChain,
  ↓pk_n, ↓pk_t, ↓pk_l, ↓pks_n, ↓pks_c, ↓vk_val, ↓vk_ow, ↓rvk_val, ↓rvk_ow, ↓Ok_retV, ↓augk_val, ↓Ok_augk, ↓nk_i, ↓Ok_setIx, ↓ixk_0, ↓ixk_1, ↓ixk_2, ↓apk_ow, ↓owk_ow, ↓Ok_app, ↓ak_n, ↓ak_d, ↓ak_b, ↓gk_n, ↓gk_l, ↓gk_r, ↓zk_n, ↓zk_l, ↓zk_r, ↓sgm_z, ↓sgm_s, ↓mk2_v, ↓mk2_o, ↓ik_z, ↓ik_n, ↓ik_s, ↓uk_z, ↓uk_s, ↓rtk_rt, ↓rtk_nx, ↓nok_n, ↓nok_v, ↓nok_o,
  ↓afk_nx, ↓afk_ct, ↓afk_bk, ↓afk_rt, ↓dk_l, ↓dk_t, ↓Ok_evPn, ↓Ok_evPs, ↓Ok_cutek, ↓Ok_cutv, ↓op_cutL, ↓op_cutT, ↓Ok_wSeq, ↓rk_i, ↓Ok_wRng1, ↓Ok_wRng2, ↓Ok_wEnum, ↓Ok_wZip2, ↓Ok_wZip3, ↓Ok_wN, ↓wk_n, ↓wk_c, ↓op_isB, ↓op_isNB, ↓dkk_d, ↓vk_dki, ↓lkk_s, ↓Ok_newK, ↓Ok_dlen, ↓Ok_dsorted, ↓Ok_dget, ↓Ok_dgetD, ↓Ok_dput,
  okArg_v, okArg_o, ↓Ok_tYes, nc_0, nc_1, nc_2, nc_3, nc_4, not_true_eq_false, not_false_eq_true, isN, List.length_cons, List.length_nil, Nat.zero_add, Nat.reduceAdd, List.mem_cons, List.not_mem_nil, decide_eq_true_eq, Bool.not_eq_true', decide_eq_false_iff_not, Bool.not_true, Bool.not_false, Bool.false_eq_true, if_true, if_false, true_and, and_true, or_false, or_true, true_or, reduceCtorEq, Nat.reduceEqDiff, and_self, decide_true, decide_false, Int.reduceLT, Int.reduceLE, Int.reduceEq, Int.reduceToNat, Int.reducePow, Int.reduceAdd, Int.reduceSub, Int.reduceMul, Int.reduceNeg, Int.reduceMod, Int.reduceDiv, Nat.reduceLeDiff, Nat.reduceLT, false_or, or_self, and_false, false_and]
  refine And.intro (by omega) (for_spec _ items _ ?_)
  intro x1 x2 x3 x4 x5 x6 x7 x8 x9 x10 x11
  simp -implicitDefEqProofs only [↓r0, ↓r1, ↓r2, ↓sh, ↓Ok_ok, ↓Ok_bind, ↓Ok_seq, ↓thenS_nx, ↓thenS_rt, ↓thenS_bk, ↓thenS_ct, ↓Ok_sIf, ↓Ok_pass, ↓Ok_ret, ↓Ok_setk, ↓Ok_park, ↓Ok_par3k, ↓Ok_drop, ↓Ok_for, ↓Ok_while, ↓Ok_unpk, ↓Ok_callk, ↓Ok_tryC, ↓Tr_x, ↓Tr_r, ↓nmk_s, ↓muk_n, ↓muk_c, ↓mu2_s, ↓mu2_v, ↓mu2_o, ↓zrk_n, ↓zrk_c, ↓rs_h, ↓rs_v, ↓rs_o, hd_v, hd_o, hd_u, mh_n, mh_c, ↓Rt_fnk,
  ↓sg_z, ↓sg_s, ↓sw_z, ↓sw_s, ↓td_val, ↓td_ow, ↓Ok_eLit, ↓kp_val, ↓kp_ow, ↓Ok_eV, ↓Ok_op1e, ↓Ok_op1v, ↓Ok_op2ee, ↓Ok_op2ve, ↓Ok_op2ev, ↓Ok_op2vv, ↓op_add, ↓op_addL, ↓op_addT, ↓op_addI, ↓op_subI, ↓op_addB, ↓op_subB, ↓op_sub, ↓op_mul, ↓op_mod, ↓op_div, ↓op_pow, ↓op_lt, ↓op_le, ↓op_gt, ↓op_ge, ↓op_eqI, ↓op_neI, ↓op_neg, ↓op_isN, ↓op_notN, ↓op_lenL, ↓op_lenT,
  ↓op_isi_i, ↓op_isi_b, ↓op_isi_l, ↓op_isi_t, ↓op_isi_n, ↓op_isi_s, ↓op_abs, ↓op_max2, ↓op_min2, ↓op_tupL, ↓op_tupT, ↓op_lstL, ↓op_lstT, ↓ix_0, ↓ix_1, ↓ix_2, ↓ix_3, ↓tx_0, ↓tx_1, ↓tx_2, ↓tx_3, ↓Ok_datum, ↓Ok_evL0, ↓Ok_evLc, ↓Ok_eTup, ↓Ok_eLst, ↓bk_b, ↓Ok_tB, ↓Ok_eB, ↓Ok_tNot, ↓Ok_tAnd, ↓Ok_tOr, ↓Ok_eAnd, ↓Ok_eOr, ↓Ok_eIf, ↓fk_i, ↓fk_b, ↓fk_n, ↓Ok_evSe, ↓Ok_evSv, ↓ck2_b, ↓Ok_eChain,
  ↓pk_n, ↓pk_t, ↓pk_l, ↓pks_n, ↓pks_c, ↓vk_val, ↓vk_ow, ↓rvk_val, ↓rvk_ow, ↓Ok_retV, ↓augk_val, ↓Ok_augk, ↓nk_i, ↓Ok_setIx, ↓ixk_0, ↓ixk_1, ↓ixk_2, ↓apk_ow, ↓owk_ow, ↓Ok_app, ↓ak_n, ↓ak_d, ↓ak_b, ↓gk_n, ↓gk_l, ↓gk_r, ↓zk_n, ↓zk_l, ↓zk_r, ↓sgm_z, ↓sgm_s, ↓mk2_v, ↓mk2_o, ↓ik_z, ↓ik_n, ↓ik_s, ↓uk_z, ↓uk_s, ↓rtk_rt, ↓rtk_nx, ↓nok_n, ↓nok_v, ↓nok_o,
  ↓afk_nx, ↓afk_ct, ↓afk_bk, ↓afk_rt, ↓dk_l, ↓dk_t, ↓Ok_evPn, ↓Ok_evPs, ↓Ok_cutek, ↓Ok_cutv, ↓op_cutL, ↓op_cutT, ↓Ok_wSeq, ↓rk_i, ↓Ok_wRng1, ↓Ok_wRng2, ↓Ok_wEnum, ↓Ok_wZip2, ↓Ok_wZip3, ↓Ok_wN, ↓wk_n, ↓wk_c, ↓op_isB, ↓op_isNB, ↓dkk_d, ↓vk_dki, ↓lkk_s, ↓Ok_newK, ↓Ok_dlen, ↓Ok_dsorted, ↓Ok_dget, ↓Ok_dgetD, ↓Ok_dput,
  okArg_v, okArg_o, ↓Ok_tYes, nc_0, nc_1, nc_2, nc_3, nc_4, not_true_eq_false, not_false_eq_true, isN, List.length_cons, List.length_nil, Nat.zero_add, Nat.reduceAdd, List.mem_cons, List.not_mem_nil, decide_eq_true_eq, Bool.not_eq_true', decide_eq_false_iff_not, Bool.not_true, Bool.not_false, Bool.false_eq_true, if_true, if_false, true_and, and_true, or_false, or_true, true_or, reduceCtorEq, Nat.reduceEqDiff, and_self, decide_true, decide_false, Int.reduceLT, Int.reduceLE, Int.reduceEq, Int.reduceToNat, Int.reducePow, Int.reduceAdd, Int.reduceSub, Int.reduceMul, Int.reduceNeg, Int.reduceMod, Int.reduceDiv, Nat.reduceLeDiff, Nat.reduceLT, false_or, or_self, and_false, false_and]
theorem goal (ns : List Int) (hn : ns.length ≤ 63) : ∃ outs, F_law [.val (.list (ns.map PyData.int))] = .ret (.val (.bool true)) outs := by
  obtain ⟨v, o, e, rfl⟩ := Rt_iff.mp (main ns hn)
  exact ⟨o, e⟩
end

end K10
open PySem PySem.W PyProof.Rows
set_option maxHeartbeats 0 in
theorem PySem.Challenge.cw_resetcount_k10_restart_statuses_holds : PySem.Challenge.rw_resetcount_k10_restart_statuses.Holds := by
  w_on; o_law; k_head; (case hw => w_witness2)
  k_fill
  refine Rc.walk_rcT (l := PySem.Challenge.rw_resetcount_k10_restart_statuses) (n := 63) (k := 11) (x := "_law_script") K10.F_law rfl (by decide) rfl ⟨rfl, by decide, by decide⟩ (fun w h Y => PySem.W.km_in_of Y) rfl ?F K10.goal
  case F =>
    intro w mg fa h KX G XP hmg
    refine' K10.fin ?T ?tI KX G hmg
    case tI =>
      refine' Rc.tabIs_of ?h1 ?h2 ?h3 ?h4 ?h5 ?h6 ?h7
      (case h1 => k_is)
      (case h2 => k_is)
      (case h3 => exact rfl)
      (case h4 => exact rfl)
      (case h5 => k_is)
      (case h6 => exact rfl)
      (case h7 => kernel_rfl)
    refine' K10.txt_mk KX G ?f0 ?f1 ?f2 ?f3 ?f4 ?f5 ?f6 ?f7 ?f8 ?f9 ?f10 ?f11 ?f12 ?f13 ?f14 ?f15 ?f16 ?f17 ?a18 ?x18 ?k18 ?b18 ?t18 ?a19 ?x19 ?k19 ?b19 ?t19 ?f20 ?q21 ?q22 ?q23 ?q24 ?q25 ?q26 ?q27 ?q28 ?q29 ?q30 ?q31 ?q32 ?q33 ?q34 ?q35 ?n38_0 ?n38_1 ?n38_2 ?n38_3 ?n38_4 ?n38_5 ?n38_6 ?n38_7 ?m38_0 ?m38_1 ?m38_2 ?m38_3 ?m38_4 ?m38_5 ?m38_6 ?m38_7 ?m38_8 ?m38_9 ?m38_10 ?m38_11 ?m38_12 ?m38_13 ?v38 ?y38 ?z38 ?n39_0 ?n39_1 ?n39_2 ?n39_3 ?n39_4 ?n39_5 ?n39_6 ?n39_7 ?m39_0 ?m39_1 ?m39_2 ?m39_3 ?m39_4 ?m39_5 ?m39_6 ?m39_7 ?m39_8 ?m39_9 ?m39_10 ?m39_11 ?m39_12 ?m39_13 ?v39 ?y39 ?z39 ?a40 ?l40 ?c40 ?k40 ?a41 ?l41 ?c41 ?k41 ?a42 ?l42 ?c42 ?k42 ?a43 ?l43 ?c43 ?k43 ?a44 ?l44 ?c44 ?k44 ?a45 ?l45 ?c45 ?k45 ?a46 ?l46 ?c46 ?k46 ?a47 ?l47 ?c47 ?k47 ?a48 ?l48 ?c48 ?k48 ?a49 ?l49 ?c49 ?k49 ?a50 ?l50 ?c50 ?k50 ?a51 ?l51 ?c51 ?k51 ?a52 ?l52 ?c52 ?k52 ?a53 ?l53 ?c53 ?k53 ?a54 ?l54 ?c54 ?k54 ?a55 ?l55 ?c55 ?k55 ?a56 ?l56 ?c56 ?k56 ?a57 ?l57 ?c57 ?k57 ?a58 ?l58 ?c58 ?k58 ?a59 ?l59 ?c59 ?k59 ?a60 ?l60 ?c60 ?k60 ?a61 ?l61 ?c61 ?k61 ?a62 ?l62 ?c62 ?k62 ?a63 ?l63 ?c63 ?k63 ?a64 ?l64 ?c64 ?k64 ?a65 ?l65 ?c65 ?k65
    (case f0 => k_is)
    (case f1 => k_is)
    (case f2 => k_is)
    (case f3 => k_is)
    (case f4 => k_is)
    (case f5 => k_is)
    (case f6 => k_is)
    (case f7 => k_is)
    (case f8 => k_is)
    (case f9 => k_is)
    (case f10 => k_is)
    (case f11 => k_is)
    (case f12 => k_is)
    (case f13 => k_is)
    (case f14 => k_is)
    (case f15 => k_is)
    (case f16 => exact Rc.loose_int XP (by simp))
    (case f17 => exact Rc.loose_int XP (by simp))
    (case a18 => k_is)
    (case x18 => k_exc)
    (case k18 => k_is)
    (case b18 => k_is)
    (case t18 => k_is)
    (case a19 => k_is)
    (case x19 => k_exc)
    (case k19 => k_is)
    (case b19 => k_is)
    (case t19 => k_is)
    (case f20 => k_is)
    (case q21 => k_is)
    (case q22 => k_is)
    (case q23 => k_is)
    (case q24 => k_is)
    (case q25 => k_is)
    (case q26 => k_is)
    (case q27 => k_is)
    (case q28 => k_is)
    (case q29 => k_is)
    (case q30 => k_is)
    (case q31 => k_is)
    (case q32 => k_is)
    (case q33 => k_is)
    (case q34 => k_is)
    (case q35 => k_is)
    (case n38_0 => k_is)
    (case n38_1 => k_is)
    (case n38_2 => k_is)
    (case n38_3 => k_is)
    (case n38_4 => k_is)
    (case n38_5 => k_is)
    (case n38_6 => k_is)
    (case n38_7 => k_is)
    (case m38_0 => kit_is)
    (case m38_1 => kit_is)
    (case m38_2 => kit_is)
    (case m38_3 => kit_is)
    (case m38_4 => kit_is)
    (case m38_5 => kit_is)
    (case m38_6 => kit_is)
    (case m38_7 => kit_is)
    (case m38_8 => kit_is)
    (case m38_9 => kit_is)
    (case m38_10 => kit_is)
    (case m38_11 => kit_is)
    (case m38_12 => kit_is)
    (case m38_13 => kit_is)
    (case v38 => kit_is)
    (case y38 => kts_exm)
    (case z38 => kts_exm)
    (case n39_0 => k_is)
    (case n39_1 => k_is)
    (case n39_2 => k_is)
    (case n39_3 => k_is)
    (case n39_4 => k_is)
    (case n39_5 => k_is)
    (case n39_6 => k_is)
    (case n39_7 => k_is)
    (case m39_0 => kit_is)
    (case m39_1 => kit_is)
    (case m39_2 => kit_is)
    (case m39_3 => kit_is)
    (case m39_4 => kit_is)
    (case m39_5 => kit_is)
    (case m39_6 => kit_is)
    (case m39_7 => kit_is)
    (case m39_8 => kit_is)
    (case m39_9 => kit_is)
    (case m39_10 => kit_is)
    (case m39_11 => kit_is)
    (case m39_12 => kit_is)
    (case m39_13 => kit_is)
    (case v39 => kit_is)
    (case y39 => kts_exm)
    (case z39 => kts_exm)
    (case a40 => k_is)
    (case l40 => k_is)
    (case c40 => k_is)
    (case k40 => k_is)
    (case a41 => k_is)
    (case l41 => k_is)
    (case c41 => k_is)
    (case k41 => k_is)
    (case a42 => k_is)
    (case l42 => k_is)
    (case c42 => k_is)
    (case k42 => k_is)
    (case a43 => k_is)
    (case l43 => k_is)
    (case c43 => k_is)
    (case k43 => k_is)
    (case a44 => k_is)
    (case l44 => k_is)
    (case c44 => k_is)
    (case k44 => k_is)
    (case a45 => k_is)
    (case l45 => k_is)
    (case c45 => k_is)
    (case k45 => k_is)
    (case a46 => k_is)
    (case l46 => k_is)
    (case c46 => k_is)
    (case k46 => k_is)
    (case a47 => k_is)
    (case l47 => k_is)
    (case c47 => k_is)
    (case k47 => k_is)
    (case a48 => k_is)
    (case l48 => k_is)
    (case c48 => k_is)
    (case k48 => k_is)
    (case a49 => k_is)
    (case l49 => k_is)
    (case c49 => k_is)
    (case k49 => k_is)
    (case a50 => k_is)
    (case l50 => k_is)
    (case c50 => k_is)
    (case k50 => k_is)
    (case a51 => k_is)
    (case l51 => k_is)
    (case c51 => k_is)
    (case k51 => k_is)
    (case a52 => k_is)
    (case l52 => k_is)
    (case c52 => k_is)
    (case k52 => k_is)
    (case a53 => k_is)
    (case l53 => k_is)
    (case c53 => k_is)
    (case k53 => k_is)
    (case a54 => k_is)
    (case l54 => k_is)
    (case c54 => k_is)
    (case k54 => k_is)
    (case a55 => k_is)
    (case l55 => k_is)
    (case c55 => k_is)
    (case k55 => k_is)
    (case a56 => k_is)
    (case l56 => k_is)
    (case c56 => k_is)
    (case k56 => k_is)
    (case a57 => k_is)
    (case l57 => k_is)
    (case c57 => k_is)
    (case k57 => k_is)
    (case a58 => k_is)
    (case l58 => k_is)
    (case c58 => k_is)
    (case k58 => k_is)
    (case a59 => k_is)
    (case l59 => k_is)
    (case c59 => k_is)
    (case k59 => k_is)
    (case a60 => k_is)
    (case l60 => k_is)
    (case c60 => k_is)
    (case k60 => k_is)
    (case a61 => k_is)
    (case l61 => k_is)
    (case c61 => k_is)
    (case k61 => k_is)
    (case a62 => k_is)
    (case l62 => k_is)
    (case c62 => k_is)
    (case k62 => k_is)
    (case a63 => k_is)
    (case l63 => k_is)
    (case c63 => k_is)
    (case k63 => k_is)
    (case a64 => k_is)
    (case l64 => k_is)
    (case c64 => k_is)
    (case k64 => k_is)
    (case a65 => k_is)
    (case l65 => k_is)
    (case c65 => k_is)
    (case k65 => k_is)
