import PyProof.Rows.All
import HandS.ForMost
import HandS.Wide
import HandS.Gcd
import HandS.IsInst
import HandS.Style
import HandS.Defaults
import KE.KDictKeyed
import HandS.TupAny
import HandS.TupLe
import KE.KDictCopyH
import KE.KDictList
import HandS.Zip
import KE.GoesEnum
import KE.GoesMore
import HandS.Codes
import HandS.Ends
import HandS.HeadHook2
import HandS.HeadEnd
import HandS.Head3
import PySem.Challenge.RW_standfast_k00_whole_differences_by_short
set_option Elab.async false
set_option linter.all false
set_option maxRecDepth 100000
/-! SFCore: an own evaluator for the part of Python that the program uses. Values with structural tuples; an own heap for lists, dicts, instances. -/
namespace SF
open PySem

/-- values: tuples and lists that nobody may change are structural, lists, dicts and instances are addresses of the own heap -/
inductive D where
  | non | bl (b : Bool) | int (i : Int) | str (x : Str) | tup (xs : List D) | cl (xs : List D) | ref (a : Nat)

/-- what stands at an own address -/
inductive O where
  | lst (xs : List D)
  | dic (kvs : List (D × D))
  | ins (c : Nat) (fs : List (Str × D))

abbrev Hh := List O
abbrev En := List (Option D)

inductive R (α : Type) where
  | ok (a : α)
  | exc (c : Nat) (fs : List (Str × D)) (h : Hh)
  | stuck

namespace R
def bind {α β : Type} (r : R α) (f : α → R β) : R β := match r with
  | .ok a => f a
  | .exc c fs h => .exc c fs h
  | .stuck => .stuck
def ofO {α : Type} : Option α → R α
  | some a => .ok a
  | none => .stuck
end R
instance : Bind R := ⟨R.bind⟩

/-! ### syntax -/
inductive Op2 where | add | sub | mul | fdiv | mod | pow
inductive Cp where | lt | le | gt | ge | eq | ne | isN | notN | isT | inn | notIn
/-- built-in functions and classes called by name -/
inductive Bf where | len | abs | int | list | tuple | gcd
/-- methods of built-in types -/
inductive Bm where | append | pop | reverse
inductive Ty where | tuple | list | bool | int | str

mutual
inductive E where
  | lit (d : D)
  | var (i : Nat)
  | glb (i : Nat)
  | tup (es : Es)
  | lst (es : Es)
  | dnew
  | neg (e : E)
  | not (e : E)
  | bin (op : Op2) (a b : E)
  | cmp (op : Cp) (a b : E)
  | and (a b : E)
  | or (a b : E)
  | ife (c a b : E)
  | ix (a i : E)
  | sl (a : E) (lo hi : Oe)
  | call (f : Nat) (es : Es) (dv : List D)
  | bf (b : Bf) (es : Es)
  | bm (b : Bm) (o : E) (es : Es)
  | isi (e : E) (ts : List Ty)
  | dvals (e : E)
  | comp (elt : E) (tg : T) (it : I) (cs : Es) (own : List Nat)
inductive Es where
  | nil
  | cons (e : E) (es : Es)
inductive Oe where
  | none
  | some (e : E)
/-- what a for or a comprehension walks -/
inductive I where
  | of (e : E)
  | rng (a b : E)
  | rngd (a b : E)
  | enum (e : E)
  | zip (a b : E)
/-- targets -/
inductive T where
  | var (i : Nat)
  | tup (ts : Ts)
  | sub (o i : E)
inductive Ts where
  | nil
  | cons (t : T) (ts : Ts)
end
mutual
inductive S where
  | asg (t : T) (e : E)
  | par (i j : Nat) (a b : E)
  | expr (e : E)
  | ret (e : E)
  | ife (c : E) (a b : Ss)
  | for_ (t : T) (it : I) (b : Ss)
  | brk | cnt
inductive Ss where
  | nil
  | cons (s : S) (ss : Ss)
end

/-! ### values -/
/-- an item by an index of any sign -/
def at_ {α : Type} (xs : List α) (i : Int) : Option α := L2.atI xs i
def cut {α : Type} (xs : List α) (lo hi : Option Int) : List α := (xs.drop (HT.sIx xs.length 0 lo)).take (HT.sIx xs.length xs.length hi - HT.sIx xs.length 0 lo)
/-- the items of a list, if it is one -/
def lstAt (h : Hh) (a : Nat) : Option (List D) := match h[a]? with
  | some (.lst xs) => some xs
  | _ => none
mutual
/-- data as a tree, to a depth -/
def toPy (h : Hh) : Nat → D → Option PyData
  | 0, _ => none
  | n + 1, d => match d with
    | .non => some .none
    | .bl b => some (.bool b)
    | .int i => some (.int i)
    | .str x => if (PyData.str x).canLay0 = true then some (.str x) else none
    | .tup xs => (toPys h n xs).map .tuple
    | .cl _ => none
    | .ref a => match lstAt h a with
      | some xs => (toPys h n xs).map .list
      | none => none
def toPys (h : Hh) : Nat → List D → Option (List PyData)
  | 0, _ => none
  | _ + 1, [] => some []
  | n + 1, x :: xs => match toPy h n x with
    | some d => (toPys h n xs).map (d :: ·)
    | none => none
end
def deep : Nat := 60
/-- == of data -/
def eqD (h : Hh) (x y : D) : Option Bool := match toPy h deep x, toPy h deep y with
  | some a, some b => some (PyData.eqv a b)
  | _, _ => none
/-- two flat values -/
def flat : D → Bool
  | .non => true
  | .bl _ => true
  | .int _ => true
  | .str _ => true
  | _ => false
/-- == of flat values -/
def eqF : D → D → Bool
  | .non, .non => true
  | .bl a, .bl b => a == b
  | .bl a, .int b => (if a then 1 else 0) == b
  | .int a, .bl b => a == (if b then 1 else 0)
  | .int a, .int b => a == b
  | .str a, .str b => a == b
  | _, _ => false
/-- truth -/
def truth (h : Hh) : D → Option Bool
  | .bl b => some b
  | _ => none
/-- p, said so that no machine looks into it -/
noncomputable def yes (p : Prop) : Bool := @decide p (Classical.propDecidable p)
theorem yes_iff {p : Prop} : yes p = true ↔ p := @decide_eq_true_iff p (Classical.propDecidable p)
noncomputable def mulOk (i j : Int) : Bool := yes (((-(2 ^ 64) < i ∧ i < 2 ^ 64) ∨ (-(2 ^ 64) < j ∧ j < 2 ^ 64)) ∨ i.natAbs.log2 + j.natAbs.log2 < 1000000)
noncomputable def divOk (j : Int) : Bool := yes (j ≠ 0 ∧ j.natAbs.log2 < 9000)
noncomputable def powOk (i j : Int) : Bool := yes ((0 ≤ j ∧ j ≤ 1000000) ∧ i.natAbs < 2 ^ 64)
/-- an operator -/
noncomputable def op2 (op : Op2) (x y : D) (h : Hh) : R (D × Hh) := match op, x, y with
  | .add, .int i, .int j => .ok (.int (i + j), h)
  | .add, .tup xs, .tup ys => if sizeLine < xs.length + ys.length then .stuck else .ok (.tup (xs ++ ys), h)
  | .add, .ref a, .ref b => match h[a]?, h[b]? with
    | some (.lst xs), some (.lst ys) => if sizeLine < xs.length + ys.length then .stuck else .ok (.ref h.length, h ++ [.lst (xs ++ ys)])
    | _, _ => .stuck
  | .sub, .int i, .int j => .ok (.int (i - j), h)
  | .mul, .int i, .int j => if mulOk i j then .ok (.int (i * j), h) else .stuck
  | .fdiv, .int i, .int j => if divOk j then .ok (.int (i.fdiv j), h) else .stuck
  | .mod, .int i, .int j => if j = 0 then .stuck else .ok (.int (i.fmod j), h)
  | .pow, .int i, .int j => if powOk i j then .ok (.int (i ^ j.toNat), h) else .stuck
  | _, _, _ => .stuck
/-! keys of dicts: tuples of numbers, texts, truths, none, nested -/
def mapO {α β : Type} (f : α → Option β) : List α → Option (List β)
  | [] => some []
  | x :: xs => match f x with
    | some y => (mapO f xs).map (y :: ·)
    | none => none
def toKey : Nat → D → Option NestedKey
  | 0, _ => none
  | n + 1, d => match d with
    | .non => some .none
    | .bl b => some (.num (if b = true then 1 else 0))
    | .int i => some (.num i)
    | .str x => some (.text x)
    | .tup xs => (mapO (toKey n) xs).map .tup
    | .cl _ => none
    | .ref _ => none
/-- a tuple as a key -/
def dkey (d : D) : Option NestedKey := match d with
  | .tup _ => toKey 8 d
  | _ => none
def keyIs (k : NestedKey) (d : D) : Bool := match toKey 8 d with
  | some j => NestedKey.beq j k
  | none => false
def dget (kvs : List (D × D)) (k : NestedKey) : Option D := match kvs with
  | [] => none
  | (j, v) :: r => if keyIs k j then some v else dget r k
def dset (kvs : List (D × D)) (k : NestedKey) (v : D) : List (D × D) := match kvs with
  | [] => []
  | (j, u) :: r => (j, if keyIs k j then v else u) :: dset r k v
def dput (kvs : List (D × D)) (k : NestedKey) (d v : D) : List (D × D) := if (dget kvs k).isSome then dset kvs k v else kvs ++ [(d, v)]
/-- a comparison -/
def cmp2 (op : Cp) (x y : D) (h : Hh) : R (D × Hh) := match op with
  | .lt => match x, y with
    | .int i, .int j => .ok (.bl (decide (i < j)), h)
    | _, _ => .stuck
  | .le => match x, y with
    | .int i, .int j => .ok (.bl (decide (i ≤ j)), h)
    | _, _ => .stuck
  | .gt => match x, y with
    | .int i, .int j => .ok (.bl (decide (j < i)), h)
    | _, _ => .stuck
  | .ge => match x, y with
    | .int i, .int j => .ok (.bl (decide (j ≤ i)), h)
    | _, _ => .stuck
  | .eq => match x, y with
    | .int i, .int j => .ok (.bl (decide (i = j)), h)
    | x, y => match eqD h x y with
      | some b => .ok (.bl b, h)
      | none => .stuck
  | .ne => match x, y with
    | .int i, .int j => .ok (.bl (!decide (i = j)), h)
    | x, y => match eqD h x y with
      | some b => .ok (.bl (!b), h)
      | none => .stuck
  | .isN => match y with
    | .non => match x with
      | .non => .ok (.bl true, h)
      | _ => .ok (.bl false, h)
    | _ => .stuck
  | .notN => match y with
    | .non => match x with
      | .non => .ok (.bl false, h)
      | _ => .ok (.bl true, h)
    | _ => .stuck
  | .isT => match y with
    | .bl true => match x with
      | .bl b => .ok (.bl b, h)
      | .non => .ok (.bl false, h)
      | _ => .stuck
    | _ => .stuck
  | .inn => match y with
    | .ref a => match h[a]? with
      | some (.dic kvs) => match dkey x with
        | some k => .ok (.bl (dget kvs k).isSome, h)
        | none => .stuck
      | some (.lst ys) => if flat x && ys.all flat then .ok (.bl (ys.any fun y => eqF y x), h) else .stuck
      | _ => .stuck
    | _ => .stuck
  | .notIn => match y with
    | .ref a => match h[a]? with
      | some (.dic kvs) => match dkey x with
        | some k => .ok (.bl (!(dget kvs k).isSome), h)
        | none => .stuck
      | some (.lst ys) => if flat x && ys.all flat then .ok (.bl (!(ys.any fun y => eqF y x)), h) else .stuck
      | _ => .stuck
    | _ => .stuck
/-- x[i] -/
def ix2 (x i : D) (h : Hh) : R (D × Hh) := match x with
  | .cl xs => match i with
    | .int k => match at_ xs k with
      | some v => .ok (v, h)
      | none => .stuck
    | _ => .stuck
  | .tup xs => match i with
    | .int k => match at_ xs k with
      | some v => .ok (v, h)
      | none => .stuck
    | _ => .stuck
  | .ref a => match h[a]? with
    | some (.lst xs) => match i with
      | .int k => match at_ xs k with
        | some v => .ok (v, h)
        | none => .stuck
      | _ => .stuck
    | some (.dic kvs) => match dkey i with
      | some k => match dget kvs k with
        | some v => .ok (v, h)
        | none => .stuck
      | none => .stuck
    | _ => .stuck
  | _ => .stuck
/-- x[lo:hi] -/
def sl2 (x : D) (lo hi : Option Int) (h : Hh) : R (D × Hh) := match x with
  | .tup xs => .ok (.tup (cut xs lo hi), h)
  | .ref a => match lstAt h a with
    | some xs => .ok (.ref h.length, h ++ [.lst (cut xs lo hi)])
    | none => .stuck
  | _ => .stuck
def lenD (x : D) (h : Hh) : R (D × Hh) := match x with
  | .tup xs => .ok (.int xs.length, h)
  | .cl xs => .ok (.int xs.length, h)
  | .ref a => match lstAt h a with
    | some xs => .ok (.int xs.length, h)
    | none => .stuck
  | _ => .stuck
def listD (x : D) (h : Hh) : R (D × Hh) := match x with
  | .tup xs => .ok (.ref h.length, h ++ [.lst xs])
  | .ref a => match lstAt h a with
    | some xs => .ok (.ref h.length, h ++ [.lst xs])
    | none => .stuck
  | _ => .stuck
def tupleD (x : D) (h : Hh) : R (D × Hh) := match x with
  | .tup xs => .ok (.tup xs, h)
  | .ref a => match lstAt h a with
    | some xs => .ok (.tup xs, h)
    | none => .stuck
  | _ => .stuck
def bf2 (b : Bf) (ds : List D) (h : Hh) : R (D × Hh) := match b with
  | .len => match ds with
    | [x] => lenD x h
    | _ => .stuck
  | .abs => match ds with
    | [x] => match x with
      | .int i => .ok (.int (if i < 0 then -i else i), h)
      | _ => .stuck
    | _ => .stuck
  | .int => match ds with
    | [x] => match x with
      | .int i => .ok (.int i, h)
      | .bl b => .ok (.int (if b then 1 else 0), h)
      | _ => .stuck
    | _ => .stuck
  | .list => match ds with
    | [x] => listD x h
    | _ => .stuck
  | .tuple => match ds with
    | [x] => tupleD x h
    | _ => .stuck
  | .gcd => match ds with
    | [x, y] => match x, y with
      | .int i, .int j => .ok (.int ((Nat.gcd i.natAbs j.natAbs : Nat) : Int), h)
      | _, _ => .stuck
    | _ => .stuck
def bm2 (b : Bm) (x : D) (ds : List D) (h : Hh) : R (D × Hh) := match x with
  | .ref a => match h[a]? with
    | some (.lst xs) => match b with
      | .append => match ds with
        | [y] => if xs.length < sizeLine then .ok (.non, h.set a (.lst (xs ++ [y]))) else .stuck
        | _ => .stuck
      | .pop => match ds with
        | [] => match xs[xs.length - 1]? with
          | some y => .ok (y, h.set a (.lst xs.dropLast))
          | none => .stuck
        | _ => .stuck
      | .reverse => match ds with
        | [] => .ok (.non, h.set a (.lst xs.reverse))
        | _ => .stuck
    | _ => .stuck
  | _ => .stuck
def dvals (x : D) (h : Hh) : R (D × Hh) := match x with
  | .ref a => match h[a]? with
    | some (.dic kvs) => if kvs.length ≤ sizeLine then .ok (.ref h.length, h ++ [.lst (kvs.map (·.2))]) else .stuck
    | _ => .stuck
  | _ => .stuck
def isLst (h : Hh) (x : D) : Bool := match x with
  | .ref a => match h[a]? with
    | some (.lst _) => true
    | _ => false
  | _ => false
/-- the kinds of values that isinstance is asked of -/
inductive Kd where | non | bl | int | str | tup | lst
def kdOf (h : Hh) (x : D) : Option Kd := match x with
  | .non => some .non
  | .bl _ => some .bl
  | .int _ => some .int
  | .str _ => some .str
  | .tup _ => some .tup
  | .cl _ => none
  | .ref a => match lstAt h a with
    | some _ => some .lst
    | none => none
def Kd.isA : Kd → Ty → Bool
  | .tup, .tuple => true
  | .lst, .list => true
  | .bl, .bool => true
  | .bl, .int => true
  | .int, .int => true
  | .str, .str => true
  | _, _ => false
def tyAny (h : Hh) (x : D) (ts : List Ty) : Option Bool := match kdOf h x with
  | some k => some (ts.any k.isA)
  | none => none

/-! ### what is walked -/
inductive It where
  | lst (a : Nat)
  | tup (xs : List D)
  | rng (lo step : Int) (n : Nat)
  | enum (it : It)
  | zip (a b : It)
/-- at turn i: none: no rule; some none: it stops; some (some d): it yields d -/
def turnAt (xs : List D) (i : Nat) : Option (Option D) := if i ≤ xs.length then some xs[i]? else none
def It.next (h : Hh) : It → Nat → Option (Option D)
  | .lst a, i => match lstAt h a with
    | some xs => turnAt xs i
    | none => none
  | .tup xs, i => turnAt xs i
  | .rng lo step n, i => some (if i < n then some (.int (lo + i * step)) else none)
  | .enum it, i => match It.next h it i with
    | some (some d) => some (some (.tup [.int i, d]))
    | some none => some none
    | none => none
  | .zip a b, i => match It.next h a i, It.next h b i with
    | some (some x), some (some y) => some (some (.tup [x, y]))
    | some none, some _ => some none
    | some (some _), some none => some none
    | _, _ => none
/-- as many turns as it may come to -/
def It.most (h : Hh) : It → Nat
  | .lst a => ((lstAt h a).map List.length).getD 0
  | .tup xs => xs.length
  | .rng _ _ n => n
  | .enum it => it.most h
  | .zip a b => min (a.most h) (b.most h)
def itOf (d : D) (h : Hh) : R (It × Hh) := match d with
  | .tup xs => .ok (.tup xs, h)
  | .ref a => match lstAt h a with
    | some _ => .ok (.lst a, h)
    | none => .stuck
  | _ => .stuck
noncomputable def small (i : Int) : Bool := yes (-(2 ^ 61) ≤ i ∧ i < 2 ^ 61)
inductive Fl where
  | nx (e : En) | rt (d : D) | bk (e : En) | ct (e : En)
/-- a for's turns -/
def loop (it : It) (body : D → En → Hh → R (Fl × Hh)) : Nat → Nat → En → Hh → R (Fl × Hh)
  | 0, _, _, _ => .stuck
  | n + 1, i, e, h => match It.next h it i with
    | none => .stuck
    | some none => .ok (.nx e, h)
    | some (some d) => (body d e h) >>= fun p => match p with
      | (.nx e', h') => loop it body n (i + 1) e' h'
      | (.ct e', h') => loop it body n (i + 1) e' h'
      | (.bk e', h') => .ok (.nx e', h')
      | (.rt d, h') => .ok (.rt d, h')
/-- a comprehension's turns: the items so far -/
def loopC (it : It) (turn : D → Hh → R (Option D × Hh)) : Nat → Nat → List D → Hh → R (List D × Hh)
  | 0, _, _, _ => .stuck
  | n + 1, i, acc, h => match It.next h it i with
    | none => .stuck
    | some none => .ok (acc, h)
    | some (some d) => (turn d h) >>= fun p => match p with
      | (some y, h') => if acc.length < sizeLine then loopC it turn n (i + 1) (acc ++ [y]) h' else .stuck
      | (none, h') => loopC it turn n (i + 1) acc h'
def wipeE (e : En) : List Nat → En
  | [] => e
  | v :: vs => (wipeE e vs).set v none

/-- the store at an index -/
def evSub (p : D) (q : D) (d : D) (e : En) (h : Hh) : R (En × Hh) := match p with
  | .ref a => match h[a]? with
    | some (.lst xs) => match q with
      | .int k => match L2.ixN xs.length k with
        | some j => .ok (e, h.set a (.lst (xs.set j d)))
        | none => .stuck
      | _ => .stuck
    | some (.dic kvs) => match dkey q with
      | some k => if kvs.length ≤ sizeLine then .ok (e, h.set a (.dic (dput kvs k q d))) else .stuck
      | none => .stuck
    | _ => .stuck
  | _ => .stuck

noncomputable section
/-! ### the evaluator: call is what calls of the program's own defs do, gl the module's constants -/
section
variable (call : Nat → List D → Hh → R (D × Hh)) (gl : List D)
mutual
def evE : E → En → Hh → R (D × Hh)
  | .lit d, _, h => .ok (d, h)
  | .var i, e, h => match e[i]? with
    | some (some d) => .ok (d, h)
    | _ => .stuck
  | .glb i, _, h => match gl[i]? with
    | some d => .ok (d, h)
    | none => .stuck
  | .tup es, e, h => evEs es e h >>= fun p => .ok (.tup p.1, p.2)
  | .lst es, e, h => evEs es e h >>= fun p => .ok (.ref p.2.length, p.2 ++ [.lst p.1])
  | .dnew, _, h => .ok (.ref h.length, h ++ [.dic []])
  | .neg a, e, h => evE a e h >>= fun p => match p.1 with
    | .int i => .ok (.int (-i), p.2)
    | _ => .stuck
  | .not a, e, h => evT a e h >>= fun p => .ok (.bl (!p.1), p.2)
  | .bin op a b, e, h => evE a e h >>= fun p => evE b e p.2 >>= fun q => op2 op p.1 q.1 q.2
  | .cmp op a b, e, h => evE a e h >>= fun p => evE b e p.2 >>= fun q => cmp2 op p.1 q.1 q.2
  | .and a b, e, h => evE a e h >>= fun p => match p.1 with
    | .bl true => evE b e p.2
    | .bl false => .ok (.bl false, p.2)
    | _ => .stuck
  | .or a b, e, h => evE a e h >>= fun p => match p.1 with
    | .bl true => .ok (.bl true, p.2)
    | .bl false => evE b e p.2
    | _ => .stuck
  | .ife c a b, e, h => evT c e h >>= fun p => if p.1 then evE a e p.2 else evE b e p.2
  | .ix a i, e, h => evE a e h >>= fun p => evE i e p.2 >>= fun q => ix2 p.1 q.1 q.2
  | .sl a lo hi, e, h => evE a e h >>= fun p => evO lo e p.2 >>= fun q => evO hi e q.2 >>= fun r => sl2 p.1 q.1 r.1 r.2
  | .call f es dv, e, h => evEs es e h >>= fun p => call f (p.1 ++ dv) p.2
  | .bf b es, e, h => evEs es e h >>= fun p => bf2 b p.1 p.2
  | .bm b o es, e, h => evE o e h >>= fun p => if isLst p.2 p.1 then (evEs es e p.2 >>= fun q => bm2 b p.1 q.1 q.2) else .stuck
  | .isi a ts, e, h => evE a e h >>= fun p => match tyAny p.2 p.1 ts with
    | some b => .ok (.bl b, p.2)
    | none => .stuck
  | .dvals a, e, h => evE a e h >>= fun p => dvals p.1 p.2
  | .comp elt tg it cs own, e, h => evI it e h >>= fun p =>
      loopC p.1 (fun d h1 => evG tg d (wipeE e own) h1 >>= fun q => evC cs q.1 q.2 >>= fun r =>
        if r.1 then (evE elt q.1 r.2 >>= fun u => .ok (some u.1, u.2)) else .ok (none, r.2)) (p.1.most p.2 + 1) 0 [] p.2 >>= fun q =>
      .ok (.ref q.2.length, q.2 ++ [.lst q.1])
def evT : E → En → Hh → R (Bool × Hh)
  | .not a, e, h => evT a e h >>= fun p => .ok (!p.1, p.2)
  | .and a b, e, h => evT a e h >>= fun p => if p.1 then evT b e p.2 else .ok (false, p.2)
  | .or a b, e, h => evT a e h >>= fun p => if p.1 then .ok (true, p.2) else evT b e p.2
  | .var i, e, h => match e[i]? with
    | some (some (.bl b)) => .ok (b, h)
    | _ => .stuck
  | .cmp op a b, e, h => evE a e h >>= fun p => evE b e p.2 >>= fun q => cmp2 op p.1 q.1 q.2 >>= fun r => match r.1 with
    | .bl k => .ok (k, r.2)
    | _ => .stuck
  | .call f es dv, e, h => evEs es e h >>= fun p => call f (p.1 ++ dv) p.2 >>= fun r => match r.1 with
    | .bl k => .ok (k, r.2)
    | _ => .stuck
  | .ix a i, e, h => evE a e h >>= fun p => evE i e p.2 >>= fun q => ix2 p.1 q.1 q.2 >>= fun r => match r.1 with
    | .bl k => .ok (k, r.2)
    | _ => .stuck
  | .isi a ts, e, h => evE a e h >>= fun p => match tyAny p.2 p.1 ts with
    | some b => .ok (b, p.2)
    | none => .stuck
  | _, _, _ => .stuck
def evEs : Es → En → Hh → R (List D × Hh)
  | .nil, _, h => .ok ([], h)
  | .cons a es, e, h => evE a e h >>= fun p => evEs es e p.2 >>= fun q => .ok (p.1 :: q.1, q.2)
def evO : Oe → En → Hh → R (Option Int × Hh)
  | .none, _, h => .ok (none, h)
  | .some a, e, h => evE a e h >>= fun p => match p.1 with
    | .int i => .ok (some i, p.2)
    | _ => .stuck
def evI : I → En → Hh → R (It × Hh)
  | .of a, e, h => evE a e h >>= fun p => itOf p.1 p.2
  | .rng a b, e, h => evE a e h >>= fun p => evE b e p.2 >>= fun q => match p.1, q.1 with
    | .int i, .int j => if small i && small j then .ok (.rng i 1 (j - i).toNat, q.2) else .stuck
    | _, _ => .stuck
  | .rngd a b, e, h => evE a e h >>= fun p => evE b e p.2 >>= fun q => match p.1, q.1 with
    | .int i, .int j => if small i && small j then .ok (.rng i (-1) (i - j).toNat, q.2) else .stuck
    | _, _ => .stuck
  | .enum a, e, h => evE a e h >>= fun p => itOf p.1 p.2 >>= fun q => match q.1 with
    | .lst _ => .ok (.enum q.1, q.2)
    | _ => .stuck
  | .zip a b, e, h => evE a e h >>= fun p => evE b e p.2 >>= fun q => itOf p.1 q.2 >>= fun r => itOf q.1 r.2 >>= fun t => match r.1, t.1 with
    | .lst _, .tup _ => .stuck
    | _, _ => .ok (.zip r.1 t.1, t.2)
/-- all tests of a comprehension (none or one) -/
def evC : Es → En → Hh → R (Bool × Hh)
  | .nil, _, h => .ok (true, h)
  | .cons c .nil, e, h => evT c e h
  | .cons _ (.cons _ _), _, _ => .stuck
/-- a target takes a value -/
def evG : T → D → En → Hh → R (En × Hh)
  | .var i, d, e, h => if i < e.length then .ok (e.set i (some d), h) else .stuck
  | .tup ts, d, e, h => match d with
    | .tup xs => evGs ts xs e h
    | _ => .stuck
  | .sub o i, d, e, h => evE o e h >>= fun p => evE i e p.2 >>= fun q => evSub p.1 q.1 d e q.2
def evGs : Ts → List D → En → Hh → R (En × Hh)
  | .nil, ds, e, h => match ds with
    | [] => .ok (e, h)
    | _ :: _ => .stuck
  | .cons t ts, ds, e, h => match ds with
    | d :: r => evG t d e h >>= fun p => evGs ts r p.1 p.2
    | [] => .stuck
end
mutual
def evS : S → En → Hh → R (Fl × Hh)
  | .asg t a, e, h => evE call gl a e h >>= fun p => evG call gl t p.1 e p.2 >>= fun q => .ok (.nx q.1, q.2)
  | .par i j a b, e, h => evE call gl a e h >>= fun p => evE call gl b e p.2 >>= fun q =>
      if i < e.length && j < e.length then .ok (.nx ((e.set i (some p.1)).set j (some q.1)), q.2) else .stuck
  | .expr a, e, h => evE call gl a e h >>= fun p => .ok (.nx e, p.2)
  | .ret a, e, h => evE call gl a e h >>= fun p => .ok (.rt p.1, p.2)
  | .ife c a b, e, h => evT call gl c e h >>= fun p => if p.1 then evSs a e p.2 else evSs b e p.2
  | .for_ t it b, e, h => evI call gl it e h >>= fun p =>
      loop p.1 (fun d e1 h1 => evG call gl t d e1 h1 >>= fun q => evSs b q.1 q.2) (p.1.most p.2 + 1) 0 e p.2
  | .brk, e, h => .ok (.bk e, h)
  | .cnt, e, h => .ok (.ct e, h)
def evSs : Ss → En → Hh → R (Fl × Hh)
  | .nil, e, h => .ok (.nx e, h)
  | .cons s ss, e, h => evS s e h >>= fun p => match p with
    | (.nx e', h') => evSs ss e' h'
    | (f, h') => .ok (f, h')
end
end

end
/-! ### defs -/
structure Fn where
  np : Nat
  nl : Nat
  body : Ss
noncomputable def runFn (call : Nat → List D → Hh → R (D × Hh)) (gl : List D) (f : Fn) (ds : List D) (h : Hh) : R (D × Hh) :=
  if ds.length = f.np then
    (evSs call gl f.body (ds.map some ++ List.replicate (f.nl - f.np) none) h >>= fun p => match p with
      | (.nx _, h') => .ok (.non, h')
      | (.rt d, h') => .ok (d, h')
      | _ => .stuck)
  else .stuck
/-- calls of the defs of a program, so many within one another -/
noncomputable def callN (fs : List Fn) (gl : List D) : Nat → Nat → List D → Hh → R (D × Hh)
  | 0, _, _, _ => .stuck
  | n + 1, f, ds, h => match fs[f]? with
    | some fn => runFn (callN fs gl n) gl fn ds h
    | none => .stuck
end SF
set_option Elab.async false
set_option linter.all false
set_option maxRecDepth 100000
set_option maxHeartbeats 1000000
/-! SFRel: how own values and the own heap stand for the layer's. -/
namespace SF
open PySem PySem.Spec PyProof.Rows L2

/-- a list that nobody may change -/
def FzL (K : PySem.W.Frag) (H : Hp) (a : Addr) (xs : List V) : Prop := (∃ o, H a = some (.frz o (.lst xs))) ∨
  ∃ (o : Obj) (its : Array Value) (n : Nat), K.lookup a = some o ∧ o.cls = .type "list" ∧ o.dict = none ∧ o.data = .seq its n ∧ its.size ≤ sizeLine ∧ Vals xs its.toList
theorem FzL.sq {K : PySem.W.Frag} {H : Hp} {a : Addr} {xs : List V} (h : FzL K H a xs) : SqL K H a xs := h.imp (fun ⟨o, e⟩ => .inr ⟨o, e⟩) id
/-- what stays the same through a whole law -/
structure Gx where
  P : Program
  w : World
  K : PySem.W.Frag
  cls : Nat → Addr

mutual
inductive RV (K : PySem.W.Frag) (ρ : List Addr) (H : Hp) : D → V → Prop
  | non : RV K ρ H .non .non
  | bl (b : Bool) : RV K ρ H (.bl b) (.bl b)
  | int (i : Int) : RV K ρ H (.int i) (.int i)
  | str (x : Str) : RV K ρ H (.str x) (.str x)
  | tup {a : Addr} {vs : List V} {ds : List D} : SqT K H a vs → RVs K ρ H ds vs → RV K ρ H (.tup ds) (.ref a)
  | cl {a : Addr} {vs : List V} {ds : List D} : FzL K H a vs → RVs K ρ H ds vs → RV K ρ H (.cl ds) (.ref a)
  | ref {i : Nat} {a : Addr} : ρ[i]? = some a → RV K ρ H (.ref i) (.ref a)
inductive RVs (K : PySem.W.Frag) (ρ : List Addr) (H : Hp) : List D → List V → Prop
  | nil : RVs K ρ H [] []
  | cons {d : D} {v : V} {ds : List D} {vs : List V} : RV K ρ H d v → RVs K ρ H ds vs → RVs K ρ H (d :: ds) (v :: vs)
end

/-- what a later state keeps of an earlier one -/
structure Grow0 (K : PySem.W.Frag) (ρ : List Addr) (H : Hp) (ρ' : List Addr) (H' : Hp) : Prop where
  pre : ∀ (i : Nat) (a : Addr), ρ[i]? = some a → ρ'[i]? = some a
  tup : ∀ (a : Addr) (vs : List V), SqT K H a vs → SqT K H' a vs
  fz : ∀ (a : Addr) (vs : List V), FzL K H a vs → FzL K H' a vs
/-- .. and of what is not tracked -/
structure Grow (K : PySem.W.Frag) (ρ : List Addr) (H : Hp) (ρ' : List Addr) (H' : Hp) : Prop extends Grow0 K ρ H ρ' H' where
  side : ∀ (a : Addr) (u : HO), H a = some u → a ∉ ρ → H' a = some u ∧ a ∉ ρ'
section
variable {K : PySem.W.Frag} {ρ ρ' ρ'' : List Addr} {H H' H'' : Hp}
theorem Grow0.refl : Grow0 K ρ H ρ H := ⟨fun _ _ h => h, fun _ _ h => h, fun _ _ h => h⟩
theorem Grow0.trans (a : Grow0 K ρ H ρ' H') (b : Grow0 K ρ' H' ρ'' H'') : Grow0 K ρ H ρ'' H'' := ⟨fun i x h => b.pre i x (a.pre i x h), fun x vs h => b.tup x vs (a.tup x vs h), fun x vs h => b.fz x vs (a.fz x vs h)⟩
theorem Grow.refl : Grow K ρ H ρ H := ⟨.refl, fun _ _ h n => ⟨h, n⟩⟩
theorem Grow.trans (a : Grow K ρ H ρ' H') (b : Grow K ρ' H' ρ'' H'') : Grow K ρ H ρ'' H'' := ⟨a.toGrow0.trans b.toGrow0, fun x u h n => let z := a.side x u h n; b.side x u z.1 z.2⟩
mutual
theorem RV.mono0 (g : Grow0 K ρ H ρ' H') : ∀ {d : D} {v : V}, RV K ρ H d v → RV K ρ' H' d v
  | _, _, .non => .non
  | _, _, .bl b => .bl b
  | _, _, .int i => .int i
  | _, _, .str x => .str x
  | _, _, .tup h r => .tup (g.tup _ _ h) (RVs.mono0 g r)
  | _, _, .cl h r => .cl (g.fz _ _ h) (RVs.mono0 g r)
  | _, _, .ref h => .ref (g.pre _ _ h)
theorem RVs.mono0 (g : Grow0 K ρ H ρ' H') : ∀ {ds : List D} {vs : List V}, RVs K ρ H ds vs → RVs K ρ' H' ds vs
  | _, _, .nil => .nil
  | _, _, .cons a b => .cons (RV.mono0 g a) (RVs.mono0 g b)
end
theorem RV.mono (g : Grow K ρ H ρ' H') {d : D} {v : V} (r : RV K ρ H d v) : RV K ρ' H' d v := r.mono0 g.toGrow0
theorem RVs.mono (g : Grow K ρ H ρ' H') {ds : List D} {vs : List V} (r : RVs K ρ H ds vs) : RVs K ρ' H' ds vs := r.mono0 g.toGrow0
theorem RVs.length : ∀ {ds : List D} {vs : List V}, RVs K ρ H ds vs → ds.length = vs.length
  | _, _, .nil => rfl
  | _, _, .cons _ b => by rw [List.length_cons, List.length_cons, RVs.length b]
theorem RVs.get : ∀ {ds : List D} {vs : List V} {i : Nat} {d : D}, RVs K ρ H ds vs → ds[i]? = some d → ∃ v, vs[i]? = some v ∧ RV K ρ H d v
  | _, _, _, _, .nil, h => by simp at h
  | _, _, 0, _, .cons a _, h => by
    simp only [List.getElem?_cons_zero, Option.some.injEq] at h
    subst h
    exact ⟨_, rfl, a⟩
  | _, _, i + 1, _, .cons _ b, h => by
    simp only [List.getElem?_cons_succ] at h ⊢
    exact RVs.get b h
theorem RVs.get' : ∀ {ds : List D} {vs : List V} {i : Nat} {v : V}, RVs K ρ H ds vs → vs[i]? = some v → ∃ d, ds[i]? = some d ∧ RV K ρ H d v
  | _, _, _, _, .nil, h => by simp at h
  | _, _, 0, _, .cons a _, h => by
    simp only [List.getElem?_cons_zero, Option.some.injEq] at h
    subst h
    exact ⟨_, rfl, a⟩
  | _, _, i + 1, _, .cons _ b, h => by
    simp only [List.getElem?_cons_succ] at h ⊢
    exact RVs.get' b h
theorem RVs.app : ∀ {ds es : List D} {vs us : List V}, RVs K ρ H ds vs → RVs K ρ H es us → RVs K ρ H (ds ++ es) (vs ++ us)
  | _, _, _, _, .nil, q => q
  | _, _, _, _, .cons a b, q => .cons a (RVs.app b q)
theorem RVs.take : ∀ {ds : List D} {vs : List V} (n : Nat), RVs K ρ H ds vs → RVs K ρ H (ds.take n) (vs.take n)
  | _, _, 0, _ => by simp only [List.take_zero]; exact .nil
  | _, _, _ + 1, .nil => .nil
  | _, _, n + 1, .cons a b => .cons a (RVs.take n b)
theorem RVs.drop : ∀ {ds : List D} {vs : List V} (n : Nat), RVs K ρ H ds vs → RVs K ρ H (ds.drop n) (vs.drop n)
  | _, _, 0, h => h
  | _, _, _ + 1, .nil => .nil
  | _, _, n + 1, .cons _ b => RVs.drop n b
theorem RVs.set {d : D} {v : V} (r : RV K ρ H d v) : ∀ {ds : List D} {vs : List V} (n : Nat), RVs K ρ H ds vs → RVs K ρ H (ds.set n d) (vs.set n v)
  | _, _, _, .nil => .nil
  | _, _, 0, .cons _ b => .cons r b
  | _, _, n + 1, .cons a b => .cons a (RVs.set r n b)
theorem RVs.rev : ∀ {ds : List D} {vs : List V}, RVs K ρ H ds vs → RVs K ρ H ds.reverse vs.reverse
  | _, _, .nil => .nil
  | _, _, .cons a b => by
    rw [List.reverse_cons, List.reverse_cons]
    exact RVs.app (RVs.rev b) (.cons a .nil)
theorem RVs.dropLast : ∀ {ds : List D} {vs : List V}, RVs K ρ H ds vs → RVs K ρ H ds.dropLast vs.dropLast := by
  intro ds vs h
  rw [List.dropLast_eq_take, List.dropLast_eq_take, h.length]
  exact RVs.take _ h
theorem RVs.cut {ds : List D} {vs : List V} (lo hi : Option Int) (h : RVs K ρ H ds vs) : RVs K ρ H (SF.cut ds lo hi) (L2.cutV vs lo hi) := by
  unfold SF.cut L2.cutV
  rw [h.length]
  exact RVs.take _ (RVs.drop _ h)
theorem RVs.at_ {ds : List D} {vs : List V} {i : Int} {d : D} (h : RVs K ρ H ds vs) (e : SF.at_ ds i = some d) : ∃ v, L2.atI vs i = some v ∧ RV K ρ H d v := by
  unfold SF.at_ L2.atI at *
  rw [h.length] at e
  cases q : L2.ixN vs.length i with
  | none => rw [q] at e; cases e
  | some j =>
    rw [q] at e
    exact RVs.get h e
end

/-- the raw dict at a -/
def rawD (P : Program) (w : World) (a : Addr) (ents : List (NestedKey × Addr × Value)) (h : Heap) : Prop :=
  ∃ o es ep, h.get? a = some o ∧ o.ExactDict ∧ o.data = .dict es ep ∧ es.toList = ents.map (entryOfKey (nestedKind P w))

/-- what stands in the layer at a dict's address -/
def DicAt (P : Program) (w : World) (H : Hp) (a : Addr) (ents : List (NestedKey × Addr × Value)) : Prop :=
  (ents = [] ∧ H a = some (.dK [])) ∨ (H a = some (.ext (rawD P w a ents)) ∧ (a == sysModules) = false)
inductive RDs (K : PySem.W.Frag) (ρ : List Addr) (H : Hp) : List (D × D) → List (NestedKey × Addr × Value) → Prop
  | nil : RDs K ρ H [] []
  | cons {k d : D} {nk : NestedKey} {b : Addr} {u : Value} {v : V} {r : List (D × D)} {es : List (NestedKey × Addr × Value)} :
      dkey k = some nk → RV K ρ H k (.ref b) → RelV v u → RV K ρ H d v → RDs K ρ H r es → RDs K ρ H ((k, d) :: r) ((nk, b, u) :: es)

inductive RFs (K : PySem.W.Frag) (ρ : List Addr) (H : Hp) : List (Str × D) → List (Str × V) → Prop
  | nil : RFs K ρ H [] []
  | cons {f : Str} {d : D} {v : V} {fs : List (Str × D)} {gs : List (Str × V)} : RV K ρ H d v → RFs K ρ H fs gs → RFs K ρ H ((f, d) :: fs) ((f, v) :: gs)

/-- an own object and what stands at its address -/
def RO (G : Gx) (ρ : List Addr) (H : Hp) (a : Addr) : O → Prop
  | .lst ds => ∃ vs, H a = some (.lst vs) ∧ RVs G.K ρ H ds vs
  | .dic kvs => ∃ ents, DicAt G.P G.w H a ents ∧ (ents.map (·.1)).Nodup ∧ RDs G.K ρ H kvs ents
  | .ins c fs => ∃ dx gs, H a = some (.ins (G.cls c) dx gs) ∧ RFs G.K ρ H fs gs

structure RH (G : Gx) (ρ : List Addr) (h : Hh) (H : Hp) : Prop where
  len : ρ.length = h.length
  nod : ρ.Nodup
  obj : ∀ (i : Nat) (o : O) (a : Addr), h[i]? = some o → ρ[i]? = some a → RO G ρ H a o

section
variable {G : Gx} {ρ ρ' : List Addr} {h h' : Hh} {H H' : Hp}
theorem RDs.mono0 (g : Grow0 G.K ρ H ρ' H') : ∀ {kvs : List (D × D)} {es : List (NestedKey × Addr × Value)}, RDs G.K ρ H kvs es → RDs G.K ρ' H' kvs es
  | _, _, .nil => .nil
  | _, _, .cons a b c d e => .cons a (b.mono0 g) c (d.mono0 g) (RDs.mono0 g e)
theorem RDs.mono (g : Grow G.K ρ H ρ' H') {kvs : List (D × D)} {es : List (NestedKey × Addr × Value)} (r : RDs G.K ρ H kvs es) : RDs G.K ρ' H' kvs es := r.mono0 g.toGrow0
theorem RFs.mono0 (g : Grow0 G.K ρ H ρ' H') : ∀ {fs : List (Str × D)} {gs : List (Str × V)}, RFs G.K ρ H fs gs → RFs G.K ρ' H' fs gs
  | _, _, .nil => .nil
  | _, _, .cons a b => .cons (a.mono0 g) (RFs.mono0 g b)
theorem RFs.mono (g : Grow G.K ρ H ρ' H') {fs : List (Str × D)} {gs : List (Str × V)} (r : RFs G.K ρ H fs gs) : RFs G.K ρ' H' fs gs := r.mono0 g.toGrow0
theorem RO.mono0 (g : Grow0 G.K ρ H ρ' H') {a : Addr} {o : O} (e : H' a = H a) (r : RO G ρ H a o) : RO G ρ' H' a o := by
  cases o with
  | lst ds => obtain ⟨vs, x, y⟩ := r; exact ⟨vs, e.trans x, y.mono0 g⟩
  | dic kvs =>
    obtain ⟨ents, x, nd, y⟩ := r
    refine ⟨ents, ?_, nd, y.mono0 g⟩
    rcases x with ⟨z, x⟩ | ⟨x, z⟩
    · exact .inl ⟨z, e.trans x⟩
    · exact .inr ⟨e.trans x, z⟩
  | ins c fs => obtain ⟨dx, gs, x, y⟩ := r; exact ⟨dx, gs, e.trans x, y.mono0 g⟩
theorem RO.mono (g : Grow G.K ρ H ρ' H') {a : Addr} {o : O} (e : H' a = H a) (r : RO G ρ H a o) : RO G ρ' H' a o := r.mono0 g.toGrow0 e
theorem RO.some {a : Addr} {o : O} (r : RO G ρ H a o) : ∃ u, H a = some u ∧ (∀ vs, u ≠ .tup vs) ∧ ∀ ob w, u ≠ .frz ob w := by
  cases o with
  | lst ds => obtain ⟨vs, x, y⟩ := r; exact ⟨_, x, fun _ => HO.noConfusion, fun _ _ q => nomatch q⟩
  | dic kvs =>
    obtain ⟨ents, x, nd, y⟩ := r
    rcases x with ⟨z, x⟩ | ⟨x, z⟩
    · exact ⟨_, x, fun _ => HO.noConfusion, fun _ _ q => nomatch q⟩
    · exact ⟨_, x, fun _ => HO.noConfusion, fun _ _ q => nomatch q⟩
  | ins c fs => obtain ⟨dx, gs, x, y⟩ := r; exact ⟨_, x, fun _ => HO.noConfusion, fun _ _ q => nomatch q⟩
theorem RH.addr (r : RH G ρ h H) {i : Nat} {o : O} (e : h[i]? = some o) : ∃ a, ρ[i]? = some a ∧ RO G ρ H a o := by
  have hi : i < h.length := (List.getElem?_eq_some_iff.mp e).1
  have hi' : i < ρ.length := by rw [r.len]; exact hi
  exact ⟨ρ[i], List.getElem?_eq_getElem hi', r.obj i o _ e (List.getElem?_eq_getElem hi')⟩
theorem RH.used (r : RH G ρ h H) {i : Nat} {a : Addr} (e : ρ[i]? = some a) : ∃ o, h[i]? = some o ∧ RO G ρ H a o := by
  have hi : i < ρ.length := (List.getElem?_eq_some_iff.mp e).1
  have hi' : i < h.length := by rw [← r.len]; exact hi
  exact ⟨h[i], List.getElem?_eq_getElem hi', r.obj i _ a (List.getElem?_eq_getElem hi') e⟩
theorem RH.inj (r : RH G ρ h H) {i j : Nat} {a : Addr} (e : ρ[i]? = some a) (f : ρ[j]? = some a) : i = j := by
  obtain ⟨h1, e1⟩ := List.getElem?_eq_some_iff.mp e
  obtain ⟨h2, e2⟩ := List.getElem?_eq_some_iff.mp f
  exact (List.getElem_inj r.nod).mp (e1.trans e2.symm)
/-- a new object that is not tracked by the own heap -/
theorem grow_new {p : Addr} {u : HO} (n : H p = none) : Grow G.K ρ H ρ (upd H p u) := ⟨⟨fun _ _ e => e, fun a vs q => by
  rcases q with (q | ⟨o, q⟩) | q
  · exact .inl (.inl (by rw [upd_ne (ne_of_none q n)]; exact q))
  · exact .inl (.inr ⟨o, by rw [upd_ne (ne_of_none q n)]; exact q⟩)
  · exact .inr q, fun a vs q => by
  rcases q with ⟨o, q⟩ | q
  · exact .inl ⟨o, by rw [upd_ne (ne_of_none q n)]; exact q⟩
  · exact .inr q⟩, fun a v e m => ⟨by rw [upd_ne (ne_of_none e n)]; exact e, m⟩⟩
theorem RH.side (r : RH G ρ h H) {p : Addr} {u : HO} (n : H p = none) : RH G ρ h (upd H p u) := ⟨r.len, r.nod, fun i o a e f => by
  have ro := r.obj i o a e f
  obtain ⟨u', x, _⟩ := ro.some
  exact ro.mono (grow_new n) (upd_ne (ne_of_none x n))⟩
/-- a new own object -/
theorem grow0_app {q : Addr} (g : Grow0 G.K ρ H ρ' H') : Grow0 G.K ρ H (ρ' ++ [q]) H' := ⟨fun i a e => by
  have e1 := g.pre i a e
  rw [List.getElem?_append_left (List.getElem?_eq_some_iff.mp e1).1]
  exact e1, g.tup, g.fz⟩
theorem grow_push {q : Addr} {u : HO} (n : H q = none) : Grow G.K ρ H (ρ ++ [q]) (upd H q u) := ⟨grow0_app (grow_new n).toGrow0, fun a v e m => ⟨by rw [upd_ne (ne_of_none e n)]; exact e, by
  rw [List.mem_append, List.mem_singleton]
  rintro (z | z)
  · exact m z
  · exact ne_of_none e n z⟩⟩
theorem RH.push (r : RH G ρ h H) {p : Addr} {u : HO} {o : O} (n : H p = none) (ro : RO G (ρ ++ [p]) (upd H p u) p o) : RH G (ρ ++ [p]) (h ++ [o]) (upd H p u) := by
  have g : Grow G.K ρ H (ρ ++ [p]) (upd H p u) := grow_push n
  refine ⟨by rw [List.length_append, List.length_append, r.len]; rfl, ?_, fun i o' a e f => ?_⟩
  · rw [List.nodup_append]
    refine ⟨r.nod, by simp, fun a ha b hb => ?_⟩
    have hb' : b = p := by simpa using hb
    subst hb'
    obtain ⟨i, hi⟩ := List.mem_iff_getElem?.mp ha
    obtain ⟨o', _, ro'⟩ := r.used hi
    obtain ⟨u', x, _⟩ := ro'.some
    exact ne_of_none x n
  · by_cases hi : i < h.length
    · rw [List.getElem?_append_left hi] at e
      rw [List.getElem?_append_left (by rw [r.len]; exact hi)] at f
      have ro' := r.obj i o' a e f
      obtain ⟨u', x, _⟩ := ro'.some
      exact ro'.mono g (upd_ne (ne_of_none x n))
    · have hl : i < (h ++ [o]).length := (List.getElem?_eq_some_iff.mp e).1
      rw [List.length_append, List.length_singleton] at hl
      have hi2 : i = h.length := by omega
      subst hi2
      rw [List.getElem?_append_right (Nat.le_refl _), Nat.sub_self] at e
      rw [← r.len, List.getElem?_append_right (Nat.le_refl _), Nat.sub_self] at f
      simp only [List.getElem?_cons_zero, Option.some.injEq] at e f
      subst e f
      exact ro
theorem ref_push {p : Addr} (r : RH G ρ h H) {H' : Hp} : RV G.K (ρ ++ [p]) H' (.ref h.length) (.ref p) := .ref (by rw [← r.len, List.getElem?_append_right (Nat.le_refl _), Nat.sub_self]; rfl)
/-- an own object is changed -/
theorem grow0_set {p : Addr} {u u' : HO} (n : H p = some u) (h1 : ∀ vs, u ≠ .tup vs) (h2 : ∀ ob w, u ≠ .frz ob w) : Grow0 G.K ρ H ρ (upd H p u') := ⟨fun _ _ e => e, fun a vs q => by
  rcases q with (q | ⟨o, q⟩) | q
  · exact .inl (.inl (by rw [upd_ne (fun z => by subst z; rw [n] at q; cases q; exact h1 _ rfl)]; exact q))
  · exact .inl (.inr ⟨o, by rw [upd_ne (fun z => by subst z; rw [n] at q; cases q; exact h2 _ _ rfl)]; exact q⟩)
  · exact .inr q, fun a vs q => by
  rcases q with ⟨o, q⟩ | q
  · exact .inl ⟨o, by rw [upd_ne (fun z => by subst z; rw [n] at q; cases q; exact h2 _ _ rfl)]; exact q⟩
  · exact .inr q⟩
theorem grow_set {i : Nat} {p : Addr} {u u' : HO} (f : ρ[i]? = some p) (n : H p = some u) (h1 : ∀ vs, u ≠ .tup vs) (h2 : ∀ ob w, u ≠ .frz ob w) : Grow G.K ρ H ρ (upd H p u') := ⟨grow0_set n h1 h2, fun a v e m => ⟨by
  rw [upd_ne (fun z => by subst z; exact m (List.mem_of_getElem? f))]; exact e, m⟩⟩
theorem RH.set (r : RH G ρ h H) {i : Nat} {p : Addr} {u : HO} {o o' : O} (e : h[i]? = some o) (f : ρ[i]? = some p) (ro : RO G ρ (upd H p u) p o') : Grow G.K ρ H ρ (upd H p u) ∧ RH G ρ (h.set i o') (upd H p u) := by
  obtain ⟨u0, x, y, z⟩ := (r.obj i o p e f).some
  have g : Grow G.K ρ H ρ (upd H p u) := grow_set f x y z
  have hi : i < h.length := (List.getElem?_eq_some_iff.mp e).1
  refine ⟨g, by rw [List.length_set]; exact r.len, r.nod, fun j oj a ej fj => ?_⟩
  by_cases hj : i = j
  · subst hj
    rw [f] at fj
    cases fj
    rw [List.getElem?_set_self hi] at ej
    cases ej
    exact ro
  · rw [List.getElem?_set_ne hj] at ej
    have hap : a ≠ p := fun z => by subst z; exact hj (r.inj f fj)
    exact (r.obj j oj a ej fj).mono g (upd_ne hap)
end

/-- the names -/
def REn (G : Gx) (ρ : List Addr) (H : Hp) (e : En) (σ : L2.St) : Prop := e.length = σ.length ∧ ∀ (i : Nat) (d : D), e[i]? = some (some d) → ∃ v, σ[i]? = some (some v) ∧ RV G.K ρ H d v
theorem REn.mono0 {G : Gx} {ρ ρ' : List Addr} {H H' : Hp} {e : En} {σ : L2.St} (g : Grow0 G.K ρ H ρ' H') (r : REn G ρ H e σ) : REn G ρ' H' e σ := ⟨r.1, fun i d q => let ⟨v, a, b⟩ := r.2 i d q; ⟨v, a, b.mono0 g⟩⟩
theorem REn.mono {G : Gx} {ρ ρ' : List Addr} {H H' : Hp} {e : En} {σ : L2.St} (g : Grow G.K ρ H ρ' H') (r : REn G ρ H e σ) : REn G ρ' H' e σ := r.mono0 g.toGrow0
theorem REn.set {G : Gx} {ρ : List Addr} {H : Hp} {e : En} {σ : L2.St} {i : Nat} {d : D} {v : V} (r : REn G ρ H e σ) (q : RV G.K ρ H d v) : REn G ρ H (e.set i (some d)) (σ.set i (some v)) := by
  refine ⟨by rw [List.length_set, List.length_set]; exact r.1, fun j d' h => ?_⟩
  by_cases hj : i = j
  · subst hj
    by_cases hi : i < e.length
    · rw [List.getElem?_set_self hi] at h
      rw [List.getElem?_set_self (by rw [← r.1]; exact hi)]
      cases h
      exact ⟨v, rfl, q⟩
    · rw [List.getElem?_eq_none (by rw [List.length_set]; omega)] at h
      cases h
  · rw [List.getElem?_set_ne hj] at h ⊢
    exact r.2 j d' h
theorem REn.wipe {G : Gx} {ρ : List Addr} {H : Hp} {e : En} {σ : L2.St} (r : REn G ρ H e σ) : ∀ vs : List Nat, REn G ρ H (wipeE e vs) (L2.wipe σ vs)
  | [] => r
  | v :: vs => by
    have ih := REn.wipe r vs
    unfold wipeE L2.wipe
    refine ⟨by rw [List.length_set, List.length_set]; exact ih.1, fun j d h => ?_⟩
    by_cases hj : v = j
    · subst hj
      by_cases hi : v < (wipeE e vs).length
      · rw [List.getElem?_set_self hi] at h; cases h
      · rw [List.getElem?_eq_none (by rw [List.length_set]; omega)] at h; cases h
    · rw [List.getElem?_set_ne hj] at h ⊢
      exact ih.2 j d h

/-- the wanted end of an evaluation that begins at rho, H -/
def Post {α : Type} (G : Gx) (ρ : List Addr) (H : Hp) (r : R (α × Hh)) (Φ : α → Hh → List Addr → Hp → Prop) : Prop := match r with
  | .ok p => ∀ ρ' H', Grow G.K ρ H ρ' H' → RH G ρ' p.2 H' → Φ p.1 p.2 ρ' H'
  | .exc _ _ _ => False
  | .stuck => False
section
variable {α β : Type} {G : Gx} {ρ ρ' : List Addr} {H H' : Hp}
theorem Post.from {r : R (α × Hh)} {Φ : α → Hh → List Addr → Hp → Prop} (p : Post G ρ H r Φ) (g : Grow G.K ρ H ρ' H') : Post G ρ' H' r Φ := by
  cases r with
  | ok a => exact fun ρ2 H2 g2 rh => p ρ2 H2 (g.trans g2) rh
  | exc _ _ _ => exact p
  | stuck => exact p
theorem Post.imp {r : R (α × Hh)} {Φ Ψ : α → Hh → List Addr → Hp → Prop} (p : Post G ρ H r Φ) (f : ∀ a h' ρ' H', Grow G.K ρ H ρ' H' → RH G ρ' h' H' → Φ a h' ρ' H' → Ψ a h' ρ' H') : Post G ρ H r Ψ := by
  cases r with
  | ok a => exact fun ρ2 H2 g2 rh => f _ _ _ _ g2 rh (p ρ2 H2 g2 rh)
  | exc _ _ _ => exact p
  | stuck => exact p
theorem Post.bind {r : R (α × Hh)} {f : α × Hh → R (β × Hh)} {Φ : β → Hh → List Addr → Hp → Prop} (p : Post G ρ H (r >>= f) Φ) : Post G ρ H r (fun a h' ρ' H' => Post G ρ' H' (f (a, h')) Φ) := by
  cases r with
  | ok a =>
    intro ρ2 H2 g2 rh
    have q : Post G ρ H (f a) Φ := p
    exact q.from g2
  | exc _ _ _ => exact p
  | stuck => exact p
theorem Post.seq {r : R (α × Hh)} {f : α × Hh → R (β × Hh)} {Φ : β → Hh → List Addr → Hp → Prop} {Ψ : α → Hh → List Addr → Hp → Prop} (p : Post G ρ H (r >>= f) Φ)
    (k : ∀ a h' ρ' H', Grow G.K ρ H ρ' H' → RH G ρ' h' H' → Post G ρ' H' (f (a, h')) Φ → Ψ a h' ρ' H') : Post G ρ H r Ψ := p.bind.imp k
theorem Post.here {a : α} {h : Hh} {Φ : α → Hh → List Addr → Hp → Prop} (p : Post G ρ H (.ok (a, h)) Φ) (rh : RH G ρ h H) : Φ a h ρ H := p ρ H Grow.refl rh
end

/-! ### readings -/
def tE (G : Gx) (ev : En → Hh → R (D × Hh)) : TE := fun σ H Q => ∃ ρ e h, REn G ρ H e σ ∧ RH G ρ h H ∧ Post G ρ H (ev e h) fun d _ ρ' H' => ∀ v, RV G.K ρ' H' d v → Q v H'
def tT (G : Gx) (ev : En → Hh → R (Bool × Hh)) : TT := fun σ H Q => ∃ ρ e h, REn G ρ H e σ ∧ RH G ρ h H ∧ Post G ρ H (ev e h) fun b _ _ H' => Q b H'
def tA (G : Gx) (ev : En → Hh → R (List D × Hh)) : TA := fun σ H Q => ∃ ρ e h, REn G ρ H e σ ∧ RH G ρ h H ∧ Post G ρ H (ev e h) fun ds _ ρ' H' => ∀ vs, RVs G.K ρ' H' ds vs → Q vs H'
end SF
set_option Elab.async false
set_option linter.all false
set_option maxRecDepth 100000
set_option maxHeartbeats 1000000
/-! SFExp: the evaluator's expressions are the model's (rule by rule). -/
namespace SF
open PySem PySem.Spec PyProof.Rows L2

theorem _root_.L2.PE.weak {X : Cx} {e : Expr} {t t' : TE} (p : PE X e t) (f : ∀ σ H Q, t' σ H Q → t σ H Q) : PE X e t' := ⟨fun pins s σ H Q I q => p.run pins s σ H Q I (f σ H Q q)⟩
theorem _root_.L2.PT.weak {X : Cx} {e : Expr} {t t' : TT} (p : PT X e t) (f : ∀ σ H Q, t' σ H Q → t σ H Q) : PT X e t' := ⟨fun pins s σ H Q I q => p.run pins s σ H Q I (f σ H Q q)⟩
theorem _root_.L2.PW.weak {X : Cx} {e : Expr} {t t' : TT} (p : PW X e t) (f : ∀ σ H Q, t' σ H Q → t σ H Q) : PW X e t' := ⟨fun w pins s σ H Q I q => p.run w pins s σ H Q I (f σ H Q q)⟩
theorem _root_.L2.PA.weak {X : Cx} {es : List Expr} {t t' : TA} (p : PA X es t) (f : ∀ σ H Q, t' σ H Q → t σ H Q) : PA X es t' := ⟨fun w pins s σ H Q I q => p.run w pins s σ H Q I (f σ H Q q)⟩
theorem _root_.L2.PO.weak {X : Cx} {e : Option Expr} {t t' : TO} (p : PO X e t) (f : ∀ σ H Q, t' σ H Q → t σ H Q) : PO X e t' := ⟨fun pins s σ H Q I q => p.run pins s σ H Q I (f σ H Q q)⟩

/-- the evaluator's readings of optional parts -/
def tOo (G : Gx) (ev : En → Hh → R (Option Int × Hh)) : TO := fun σ H Q => ∃ ρ e h, REn G ρ H e σ ∧ RH G ρ h H ∧ Post G ρ H (ev e h) fun o _ _ H' => Q o H'

section
variable {G : Gx} {X : Cx} {a b c : Expr} {pos : Pos} {ea eb ec : En → Hh → R (D × Hh)} {eT : En → Hh → R (Bool × Hh)}

/-! ### plain steps -/
theorem s_int {i : Int} {j : Nat} : PE X (.Constant (.int i) j pos) (tE G fun _ h => .ok (.int i, h)) := pe_int.weak fun σ H Q ⟨ρ, e, h, re, rh, p⟩ => p.here rh _ (.int i)
theorem s_bl {i : Bool} {j : Nat} : PE X (.Constant (.bool i) j pos) (tE G fun _ h => .ok (.bl i, h)) := pe_bl.weak fun σ H Q ⟨ρ, e, h, re, rh, p⟩ => p.here rh _ (.bl i)
theorem s_non {j : Nat} : PE X (.Constant .none j pos) (tE G fun _ h => .ok (.non, h)) := pe_non.weak fun σ H Q ⟨ρ, e, h, re, rh, p⟩ => p.here rh _ .non
theorem s_str {x : Str} {j : Nat} : PE X (.Constant (.str x) j pos) (tE G fun _ h => .ok (.str x, h)) := pe_str.weak fun σ H Q ⟨ρ, e, h, re, rh, p⟩ => p.here rh _ (.str x)
theorem s_var {i : Nat} {x : Str} (hN : X.N[i]? = some x) (hv : Vis X.env.scope x) (hd : (x == ("__debug__" : Str)) = false) (hc : (x == ("__classdict__" : Str)) = false) :
    PE X (.Name x pos) (tE G fun e h => match e[i]? with
      | some (some d) => .ok (d, h)
      | _ => .stuck) := (pe_var hN hv hd hc).weak fun σ H Q ⟨ρ, e, h, re, rh, p⟩ => by
  dsimp only at p
  cases q : e[i]? with
  | none => rw [q] at p; exact p.elim
  | some od =>
    cases od with
    | none => rw [q] at p; exact p.elim
    | some d =>
      rw [q] at p
      obtain ⟨v, e1, r1⟩ := re.2 i d q
      exact ⟨v, e1, Post.here p rh v r1⟩
theorem s_glb {x : Str} {d : D} {v : V} {u : Value} (hg : Gl X x) (hm : X.mg x = some u) (r : RelV v u) (hd : (x == ("__debug__" : Str)) = false) (rv : ∀ ρ H, RV G.K ρ H d v) : PE X (.Name x pos) (tE G fun _ h => .ok (d, h)) :=
  (pe_glob hg hm r hd).weak fun σ H Q ⟨ρ, e, h, re, rh, p⟩ => p.here rh v (rv ρ H)

/-- one expression, then what is asked of its value -/
theorem one {Q : VK} {Ψ : V → Hp → Prop} {β : Type} {f : D × Hh → R (β × Hh)} {Φ : β → Hh → List Addr → Hp → Prop} {σ : L2.St} {H : Hp} {ρ : List Addr} {e : En} {h : Hh} (re : REn G ρ H e σ) (rh : RH G ρ h H) (p : Post G ρ H (ea e h >>= f) Φ)
    (k : ∀ d h1 ρ1 H1 v, Grow G.K ρ H ρ1 H1 → RH G ρ1 h1 H1 → REn G ρ1 H1 e σ → RV G.K ρ1 H1 d v → Post G ρ1 H1 (f (d, h1)) Φ → Ψ v H1) : tE G ea σ H Ψ :=
  ⟨ρ, e, h, re, rh, p.seq fun d h1 ρ1 H1 g1 rh1 p1 v rv => k d h1 ρ1 H1 v g1 rh1 (re.mono g1) rv p1⟩
theorem oneT {Ψ : Bool → Hp → Prop} {β : Type} {f : Bool × Hh → R (β × Hh)} {Φ : β → Hh → List Addr → Hp → Prop} {σ : L2.St} {H : Hp} {ρ : List Addr} {e : En} {h : Hh} (re : REn G ρ H e σ) (rh : RH G ρ h H) (p : Post G ρ H (eT e h >>= f) Φ)
    (k : ∀ b h1 ρ1 H1, Grow G.K ρ H ρ1 H1 → RH G ρ1 h1 H1 → REn G ρ1 H1 e σ → Post G ρ1 H1 (f (b, h1)) Φ → Ψ b H1) : tT G eT σ H Ψ :=
  ⟨ρ, e, h, re, rh, p.seq fun b h1 ρ1 H1 g1 rh1 p1 => k b h1 ρ1 H1 g1 rh1 (re.mono g1) p1⟩
theorem oneA {ea : En → Hh → R (List D × Hh)} {Ψ : List V → Hp → Prop} {β : Type} {f : List D × Hh → R (β × Hh)} {Φ : β → Hh → List Addr → Hp → Prop} {σ : L2.St} {H : Hp} {ρ : List Addr} {e : En} {h : Hh} (re : REn G ρ H e σ) (rh : RH G ρ h H) (p : Post G ρ H (ea e h >>= f) Φ)
    (k : ∀ ds h1 ρ1 H1 vs, Grow G.K ρ H ρ1 H1 → RH G ρ1 h1 H1 → REn G ρ1 H1 e σ → RVs G.K ρ1 H1 ds vs → Post G ρ1 H1 (f (ds, h1)) Φ → Ψ vs H1) : tA G ea σ H Ψ :=
  ⟨ρ, e, h, re, rh, p.seq fun ds h1 ρ1 H1 g1 rh1 p1 vs rv => k ds h1 ρ1 H1 vs g1 rh1 (re.mono g1) rv p1⟩

/-- what a value rule asks, from the evaluator's own step -/
def Does2 (G : Gx) (r : R2) (f : D → D → Hh → R (D × Hh)) : Prop := ∀ (d d' : D) (h : Hh) (ρ : List Addr) (H : Hp) (v v' : V) (Q : VK), RH G ρ h H → RV G.K ρ H d v → RV G.K ρ H d' v' →
  (Post G ρ H (f d d' h) fun d _ ρ' H' => ∀ v, RV G.K ρ' H' d v → Q v H') → r v v' H Q
theorem two {r : R2} {f : D → D → Hh → R (D × Hh)} (df : Does2 G r f) {σ : L2.St} {H : Hp} {Q : VK} (q : tE G (fun e h => ea e h >>= fun p => eb e p.2 >>= fun q => f p.1 q.1 q.2) σ H Q) : tOp r (tE G ea) (tE G eb) σ H Q := by
  obtain ⟨ρ, e, h, re, rh, p⟩ := q
  refine one (Q := Q) re rh p fun d h1 ρ1 H1 v g1 rh1 re1 rv p1 => ?_
  refine one (Q := Q) re1 rh1 p1 fun d' h2 ρ2 H2 v' g2 rh2 re2 rv' p2 => ?_
  exact df d d' h2 ρ2 H2 v v' Q rh2 (rv.mono g2) rv' p2
theorem s_bin {op : Operator} {r : R2} {f : D → D → Hh → R (D × Hh)} (ho : OpR X (binaryOp op) r) (df : Does2 G r f) (ha : PE X a (tE G ea)) (hb : PE X b (tE G eb)) :
    PE X (.BinOp a op b pos) (tE G fun e h => ea e h >>= fun p => eb e p.2 >>= fun q => f p.1 q.1 q.2) := (pe_op ho ha hb).weak fun _ _ _ q => two df q
theorem s_cmp {op : CmpOp} {r : R2} {f : D → D → Hh → R (D × Hh)} (ho : OpR X (compareOp op) r) (df : Does2 G r f) (hm : behindInMarks op b = false) (ha : PE X a (tE G ea)) (hb : PE X b (tE G eb)) :
    PE X (.Compare a [op] [b] pos) (tE G fun e h => ea e h >>= fun p => eb e p.2 >>= fun q => f p.1 q.1 q.2) := (pe_cmpR ho ha hb hm).weak fun _ _ _ q => two df q
/-- .. as a test -/
theorem s_cmpT {op : CmpOp} {r : R2} {f : D → D → Hh → R (D × Hh)} (ho : OpR X (compareOp op) r) (df : Does2 G r f) (hm : behindInMarks op b = false) (ha : PE X a (tE G ea)) (hb : PE X b (tE G eb)) :
    PT X (.Compare a [op] [b] pos) (tT G fun e h => ea e h >>= fun p => eb e p.2 >>= fun q => f p.1 q.1 q.2 >>= fun r => match r.1 with
      | .bl k => .ok (k, r.2)
      | _ => .stuck) := (pt_cmpR ho ha hb hm).weak fun σ H Q q => by
  obtain ⟨ρ, e, h, re, rh, p⟩ := q
  refine one (Q := fun _ _ => True) re rh p fun d h1 ρ1 H1 v g1 rh1 re1 rv p1 => ?_
  refine one (Q := fun _ _ => True) re1 rh1 p1 fun d' h2 ρ2 H2 v' g2 rh2 re2 rv' p2 => ?_
  refine df d d' h2 ρ2 H2 v v' _ rh2 (rv.mono g2) rv' (p2.seq fun x h3 ρ3 H3 g3 rh3 p3 u ru => ?_)
  cases ru with
  | bl k => exact ⟨k, rfl, p3.here rh3⟩
  | _ => exact p3.elim
theorem s_ix {r : R2} {f : D → D → Hh → R (D × Hh)} (ho : IxR X r) (df : Does2 G r f) (hs : PlainIx b) (ha : PE X a (tE G ea)) (hb : PE X b (tE G eb)) :
    PE X (.Subscript a b pos) (tE G fun e h => ea e h >>= fun p => eb e p.2 >>= fun q => f p.1 q.1 q.2) := (pe_ix ho ha hb hs).weak fun _ _ _ q => two df q
/-- a value as a test -/
theorem s_val (he : ∀ whole, isTrue a X.env whole = (do let v ← whole; standAt a.pos; holding [v] (truthy v))) (ha : PE X a (tE G ea)) :
    PT X a (tT G fun e h => ea e h >>= fun r => match r.1 with
      | .bl k => .ok (k, r.2)
      | _ => .stuck) := (pt_val ha he).weak fun σ H Q q => by
  obtain ⟨ρ, e, h, re, rh, p⟩ := q
  refine one (Q := fun _ _ => True) re rh p fun d h1 ρ1 H1 v g1 rh1 re1 rv p1 => ?_
  cases rv with
  | bl k => exact ⟨k, rfl, p1.here rh1⟩
  | _ => exact p1.elim
theorem s_neg (ha : PE X a (tE G ea)) : PE X (.UnaryOp .USub a pos) (tE G fun e h => ea e h >>= fun p => match p.1 with
    | .int i => .ok (.int (-i), p.2)
    | _ => .stuck) := (pe_un un_neg ha).weak fun σ H Q q => by
  obtain ⟨ρ, e, h, re, rh, p⟩ := q
  refine one (Q := Q) re rh p fun d h1 ρ1 H1 v g1 rh1 re1 rv p1 => ?_
  cases rv with
  | int i => exact ⟨i, rfl, p1.here rh1 _ (.int _)⟩
  | _ => exact p1.elim
theorem s_notT (ha : PT X a (tT G eT)) : PT X (.UnaryOp .Not a pos) (tT G fun e h => eT e h >>= fun p => .ok (!p.1, p.2)) := (pt_not ha).weak fun σ H Q q => by
  obtain ⟨ρ, e, h, re, rh, p⟩ := q
  exact oneT re rh p fun b h1 ρ1 H1 g1 rh1 re1 p1 => p1.here rh1
theorem s_andT {rest : List Expr} {eT' : En → Hh → R (Bool × Hh)} (ha : PT X a (tT G eT)) (hb : PW X (.BoolOp .And (b :: rest) pos) (tT G eT')) :
    PW X (.BoolOp .And (a :: b :: rest) pos) (tT G fun e h => eT e h >>= fun p => if p.1 then eT' e p.2 else .ok (false, p.2)) := (pw_and ha hb).weak fun σ H Q q => by
  obtain ⟨ρ, e, h, re, rh, p⟩ := q
  refine oneT re rh p fun b h1 ρ1 H1 g1 rh1 re1 p1 => ?_
  cases b with
  | true => exact ⟨ρ1, e, h1, re1, rh1, p1⟩
  | false => exact p1.here rh1
theorem s_orT {rest : List Expr} {eT' : En → Hh → R (Bool × Hh)} (ha : PT X a (tT G eT)) (hb : PW X (.BoolOp .Or (b :: rest) pos) (tT G eT')) :
    PW X (.BoolOp .Or (a :: b :: rest) pos) (tT G fun e h => eT e h >>= fun p => if p.1 then .ok (true, p.2) else eT' e p.2) := (pw_or ha hb).weak fun σ H Q q => by
  obtain ⟨ρ, e, h, re, rh, p⟩ := q
  refine oneT re rh p fun b h1 ρ1 H1 g1 rh1 re1 p1 => ?_
  cases b with
  | true => exact p1.here rh1
  | false => exact ⟨ρ1, e, h1, re1, rh1, p1⟩
theorem s_and {rest : List Expr} (ha : PE X a (tE G ea)) (hb : PE X (.BoolOp .And (b :: rest) pos) (tE G eb)) :
    PE X (.BoolOp .And (a :: b :: rest) pos) (tE G fun e h => ea e h >>= fun p => match p.1 with
      | .bl true => eb e p.2
      | .bl false => .ok (.bl false, p.2)
      | _ => .stuck) := (pe_and ha hb).weak fun σ H Q q => by
  obtain ⟨ρ, e, h, re, rh, p⟩ := q
  refine one (Q := Q) re rh p fun d h1 ρ1 H1 v g1 rh1 re1 rv p1 => ?_
  cases rv with
  | bl k =>
    cases k with
    | true => exact ⟨true, rfl, ρ1, e, h1, re1, rh1, p1⟩
    | false => exact ⟨false, rfl, p1.here rh1 _ (.bl _)⟩
  | _ => exact p1.elim
theorem s_or {rest : List Expr} (ha : PE X a (tE G ea)) (hb : PE X (.BoolOp .Or (b :: rest) pos) (tE G eb)) :
    PE X (.BoolOp .Or (a :: b :: rest) pos) (tE G fun e h => ea e h >>= fun p => match p.1 with
      | .bl true => .ok (.bl true, p.2)
      | .bl false => eb e p.2
      | _ => .stuck) := (pe_or ha hb).weak fun σ H Q q => by
  obtain ⟨ρ, e, h, re, rh, p⟩ := q
  refine one (Q := Q) re rh p fun d h1 ρ1 H1 v g1 rh1 re1 rv p1 => ?_
  cases rv with
  | bl k =>
    cases k with
    | true => exact ⟨true, rfl, p1.here rh1 _ (.bl _)⟩
    | false => exact ⟨false, rfl, ρ1, e, h1, re1, rh1, p1⟩
  | _ => exact p1.elim
theorem s_ife (hc : PT X c (tT G eT)) (ha : PE X a (tE G ea)) (hb : PE X b (tE G eb)) :
    PE X (.IfExp c a b pos) (tE G fun e h => eT e h >>= fun p => if p.1 then ea e p.2 else eb e p.2) := (pe_ifExp hc ha hb).weak fun σ H Q q => by
  obtain ⟨ρ, e, h, re, rh, p⟩ := q
  refine oneT re rh p fun b h1 ρ1 H1 g1 rh1 re1 p1 => ?_
  cases b with
  | true => exact ⟨ρ1, e, h1, re1, rh1, p1⟩
  | false => exact ⟨ρ1, e, h1, re1, rh1, p1⟩
/-- not, as a value -/
theorem s_notV {t : TE} (ha : PT X a (tT G eT)) (hp : PE X (.UnaryOp .Not a pos) t) (hw : ∀ σ H Q, tT G eT σ H (fun b H1 => Q (.bl (!b)) H1) → t σ H Q) :
    PE X (.UnaryOp .Not a pos) (tE G fun e h => eT e h >>= fun p => .ok (.bl (!p.1), p.2)) := hp.weak fun σ H Q q => by
  obtain ⟨ρ, e, h, re, rh, p⟩ := q
  exact hw σ H Q (oneT re rh p fun b h1 ρ1 H1 g1 rh1 re1 p1 => p1.here rh1 _ (.bl _))

/-! ### arguments, displays -/
theorem s_nil : PA X [] (tA G fun _ h => .ok ([], h)) := pa_nil.weak fun σ H Q ⟨ρ, e, h, re, rh, p⟩ => p.here rh _ .nil
theorem s_cons {es : List Expr} {eas : En → Hh → R (List D × Hh)} (ha : PE X a (tE G ea)) (hr : PA X es (tA G eas)) (hs : starEach (a :: es) X.env = (false, eval a X.env) :: starEach es X.env) :
    PA X (a :: es) (tA G fun e h => ea e h >>= fun p => eas e p.2 >>= fun q => .ok (p.1 :: q.1, q.2)) := (pa_cons ha hr hs).weak fun σ H Q q => by
  obtain ⟨ρ, e, h, re, rh, p⟩ := q
  refine one (Q := fun _ _ => True) re rh p fun d h1 ρ1 H1 v g1 rh1 re1 rv p1 => ?_
  refine oneA re1 rh1 p1 fun ds h2 ρ2 H2 vs g2 rh2 re2 rvs p2 => ?_
  exact p2.here rh2 _ (.cons (rv.mono g2) rvs)
theorem s_tup {es : List Expr} {x1 : Nat} {eas : En → Hh → R (List D × Hh)} (hn : ∀ e h ds h', eas e h = .ok (ds, h') → ds.length ≤ sizeLine) (ha : PA X es (tA G eas)) :
    PE X (.Tuple es x1 pos) (tE G fun e h => eas e h >>= fun p => .ok (.tup p.1, p.2)) := (pe_tup ha).weak fun σ H Q q => by
  obtain ⟨ρ, e, h, re, rh, p⟩ := q
  dsimp only at p
  cases z : eas e h with
  | ok pr =>
    obtain ⟨ds0, h0⟩ := pr
    have hl := hn e h ds0 h0 z
    refine ⟨ρ, e, h, re, rh, ?_⟩
    rw [z] at p ⊢
    intro ρ1 H1 g1 rh1 vs rvs
    have p1 : Post G ρ1 H1 (R.ok (D.tup ds0, h0)) _ := Post.from p g1
    refine ⟨by rw [← rvs.length]; exact hl, fun q nq => ?_⟩
    exact p1 ρ1 _ (grow_new nq) (rh1.side nq) _ (.tup (SqT.of upd_same) (rvs.mono (grow_new nq)))
  | exc _ _ _ => rw [z] at p; exact p.elim
  | stuck => rw [z] at p; exact p.elim
theorem s_lst {es : List Expr} {eas : En → Hh → R (List D × Hh)} (hn : ∀ e h ds h', eas e h = .ok (ds, h') → ds.length ≤ sizeLine) (ha : PA X es (tA G eas)) :
    PE X (.List es pos) (tE G fun e h => eas e h >>= fun p => .ok (.ref p.2.length, p.2 ++ [.lst p.1])) := (pe_lst ha).weak fun σ H Q q => by
  obtain ⟨ρ, e, h, re, rh, p⟩ := q
  dsimp only at p
  cases z : eas e h with
  | ok pr =>
    obtain ⟨ds0, h0⟩ := pr
    have hl := hn e h ds0 h0 z
    refine ⟨ρ, e, h, re, rh, ?_⟩
    rw [z] at p ⊢
    intro ρ1 H1 g1 rh1 vs rvs
    have p1 : Post G ρ1 H1 (R.ok (D.ref h0.length, h0 ++ [O.lst ds0])) _ := Post.from p g1
    refine ⟨by rw [← rvs.length]; exact hl, fun q nq => ?_⟩
    have g2 : Grow G.K ρ1 H1 (ρ1 ++ [q]) (upd H1 q (.lst vs)) := grow_push nq
    exact p1 _ _ g2 (rh1.push nq ⟨vs, upd_same, rvs.mono g2⟩) _ (ref_push rh1)
  | exc _ _ _ => rw [z] at p; exact p.elim
  | stuck => rw [z] at p; exact p.elim

/-! ### slices -/
theorem s_oN : PO X none (tOo G fun _ h => .ok (none, h)) := po_none.weak fun σ H Q ⟨ρ, e, h, re, rh, p⟩ => p.here rh
theorem s_oS (ha : PE X a (tE G ea)) : PO X (some a) (tOo G fun e h => ea e h >>= fun p => match p.1 with
    | .int i => .ok (some i, p.2)
    | _ => .stuck) := (po_some ha).weak fun σ H Q q => by
  obtain ⟨ρ, e, h, re, rh, p⟩ := q
  refine one (Q := fun _ _ => True) re rh p fun d h1 ρ1 H1 v g1 rh1 re1 rv p1 => ?_
  cases rv with
  | int i => exact ⟨i, rfl, p1.here rh1⟩
  | _ => exact p1.elim
end
end SF
set_option Elab.async false
set_option linter.all false
set_option maxRecDepth 100000
set_option maxHeartbeats 1000000
/-! SFOps: operators, comparisons, subscripts, built-ins by values. -/
namespace SF
open PySem PySem.Spec PyProof.Rows L2

/-- the end of a step that hands on one value -/
theorem fin1 {G : Gx} {ρ : List Addr} {H : Hp} {d : D} {h : Hh} {Q : VK} {v : V} (rh : RH G ρ h H) (rv : RV G.K ρ H d v)
    (p : Post G ρ H (.ok (d, h)) fun d _ ρ' H' => ∀ v, RV G.K ρ' H' d v → Q v H') : Q v H := p.here rh v rv
/-- a new list -/
theorem finL {G : Gx} {ρ : List Addr} {H : Hp} {ds : List D} {h : Hh} {Q : VK} {vs : List V} (rh : RH G ρ h H) (rv : RVs G.K ρ H ds vs)
    (p : Post G ρ H (.ok (D.ref h.length, h ++ [O.lst ds])) fun d _ ρ' H' => ∀ v, RV G.K ρ' H' d v → Q v H') : ∀ q, H q = none → Q (.ref q) (upd H q (.lst vs)) := fun q nq => by
  have g2 : Grow G.K ρ H (ρ ++ [q]) (upd H q (.lst vs)) := grow_push nq
  exact p _ _ g2 (rh.push nq ⟨vs, upd_same, rv.mono g2⟩) _ (ref_push rh)
/-- a new tuple -/
theorem finT {G : Gx} {ρ : List Addr} {H : Hp} {ds : List D} {h : Hh} {Q : VK} {vs : List V} (rh : RH G ρ h H) (rv : RVs G.K ρ H ds vs)
    (p : Post G ρ H (.ok (D.tup ds, h)) fun d _ ρ' H' => ∀ v, RV G.K ρ' H' d v → Q v H') : ∀ q, H q = none → Q (.ref q) (upd H q (.tup vs)) := fun q nq =>
  p _ _ (grow_new nq) (rh.side nq) _ (.tup (SqT.of upd_same) (rv.mono (grow_new nq)))
/-- an own list is a list of the layer -/
theorem lst_at {G : Gx} {ρ : List Addr} {H : Hp} {h : Hh} {i : Nat} {a : Addr} {xs : List D} (rh : RH G ρ h H) (e : lstAt h i = some xs) (f : ρ[i]? = some a) : ∃ vs, SqL G.K H a vs ∧ RVs G.K ρ H xs vs := by
  unfold lstAt at e
  cases q : h[i]? with
  | none => rw [q] at e; cases e
  | some o =>
    rw [q] at e
    have ro := rh.obj i o a q f
    cases o with
    | lst ys =>
      cases e
      obtain ⟨vs, x, y⟩ := ro
      exact ⟨vs, SqL.of x, y⟩
    | dic _ => cases e
    | ins _ _ => cases e
theorem lst_here {G : Gx} {ρ : List Addr} {H : Hp} {h : Hh} {i : Nat} {a : Addr} {xs : List D} (rh : RH G ρ h H) (e : h[i]? = some (.lst xs)) (f : ρ[i]? = some a) : ∃ vs, H a = some (.lst vs) ∧ RVs G.K ρ H xs vs := rh.obj i _ a e f
theorem lstAt_of {h : Hh} {i : Nat} {xs : List D} (e : h[i]? = some (.lst xs)) : lstAt h i = some xs := by unfold lstAt; rw [e]

/-! ### operators -/
section
variable {G : Gx} {X : Cx} (hK : X.K = G.K)
def rAdd2 (K : PySem.W.Frag) : R2 := fun x y H Q => (rI0 fun i j => .int (i + j)) x y H Q ∨ rCatA K x y H Q ∨ rCat x y H Q
theorem o_add (hK : X.K = G.K) : OpR X (binaryOp .Add) (rAdd2 G.K) := op_add.or ((hK ▸ op_catA).or op_cat)
theorem d_add : Does2 G (rAdd2 G.K) (op2 .add) := by
  intro d d' h ρ H v v' Q rh rv rv' p
  cases rv with
  | int i => cases rv' with
    | int j => exact .inl ⟨i, j, rfl, rfl, fin1 rh (.int _) p⟩
    | _ => exact p.elim
  | @tup a vs xs st rs => cases rv' with
    | @tup b us ys st' rs' =>
      have p : Post G ρ H (if sizeLine < xs.length + ys.length then .stuck else .ok (D.tup (xs ++ ys), h)) _ := p
      by_cases c : sizeLine < xs.length + ys.length
      · rw [if_pos c] at p; exact p.elim
      · rw [if_neg c] at p
        refine .inr (.inl ⟨a, b, vs, us, rfl, rfl, st, st', by rw [← rs.length, ← rs'.length]; omega, fun e => ?_, fun e e' => ?_, fun _ _ => finT rh (rs.app rs') p⟩)
        · refine fin1 rh ?_ p
          subst e
          cases rs
          exact .tup st' rs'
        · refine fin1 rh ?_ p
          subst e'
          cases rs'
          rw [List.append_nil]
          exact .tup st rs
    | _ => exact p.elim
  | @ref i a f => cases rv' with
    | @ref j b f' =>
      have p : Post G ρ H (match h[i]?, h[j]? with
        | some (.lst xs), some (.lst ys) => if sizeLine < xs.length + ys.length then .stuck else .ok (D.ref h.length, h ++ [O.lst (xs ++ ys)])
        | _, _ => .stuck) _ := p
      cases q : h[i]? with
      | none => rw [q] at p; exact p.elim
      | some o =>
        cases q' : h[j]? with
        | none => rw [q, q'] at p; cases o <;> exact p.elim
        | some o' =>
          rw [q, q'] at p
          cases o with
          | lst xs => cases o' with
            | lst ys =>
              obtain ⟨vs, x, y⟩ := lst_here rh q f
              obtain ⟨us, x', y'⟩ := lst_here rh q' f'
              dsimp only at p
              by_cases c : sizeLine < xs.length + ys.length
              · rw [if_pos c] at p; exact p.elim
              · rw [if_neg c] at p
                exact .inr (.inr ⟨a, b, vs, us, rfl, rfl, x, x', by rw [← y.length, ← y'.length]; omega, finL rh (y.app y') p⟩)
            | _ => exact p.elim
          | _ => exact p.elim
    | _ => exact p.elim
  | _ => exact p.elim
theorem d_sub : Does2 G (rI0 fun i j => .int (i - j)) (op2 .sub) := by
  intro d d' h ρ H v v' Q rh rv rv' p
  cases rv with
  | int i => cases rv' with
    | int j => exact ⟨i, j, rfl, rfl, fin1 rh (.int _) p⟩
    | _ => exact p.elim
  | _ => exact p.elim
def CMul2 (i j : Int) : Prop := mulOk i j = true
theorem CMul2.ok {i j : Int} (h : CMul2 i j) : IntMulOk i j := by
  unfold CMul2 mulOk at h
  rw [yes_iff] at h
  rcases h with (h | h) | h
  · exact CMul.ok (.inl h)
  · exact CMul.ok (.inr h)
  · exact CMulW.ok h
theorem o_mul : OpR X (binaryOp .Mult) (rI CMul2 fun i j => .int (i * j)) := opI fun _ _ _ _ _ _ _ hc q => mul_int q hc.ok
theorem d_mul : Does2 G (rI CMul2 fun i j => .int (i * j)) (op2 .mul) := by
  intro d d' h ρ H v v' Q rh rv rv' p
  cases rv with
  | int i => cases rv' with
    | int j =>
      have p : Post G ρ H (if mulOk i j = true then .ok (D.int (i * j), h) else .stuck) _ := p
      by_cases c : mulOk i j = true
      · rw [if_pos c] at p
        exact ⟨i, j, rfl, rfl, c, fin1 rh (.int _) p⟩
      · rw [if_neg c] at p; exact p.elim
    | _ => exact p.elim
  | _ => exact p.elim
def CDiv2 (_ j : Int) : Prop := divOk j = true
theorem o_fdiv : OpR X (binaryOp .FloorDiv) (rI CDiv2 fun i j => .int (i.fdiv j)) := opI fun i j _ _ _ _ _ hc q => by
  have hc : divOk j = true := hc
  unfold divOk at hc
  rw [yes_iff] at hc
  exact floordiv_int hc.1 q (.inl (PyProof.noPylong_of_log2 hc.2))
theorem d_fdiv : Does2 G (rI CDiv2 fun i j => .int (i.fdiv j)) (op2 .fdiv) := by
  intro d d' h ρ H v v' Q rh rv rv' p
  cases rv with
  | int i => cases rv' with
    | int j =>
      have p : Post G ρ H (if divOk j = true then .ok (D.int (i.fdiv j), h) else .stuck) _ := p
      by_cases c : divOk j = true
      · rw [if_pos c] at p
        exact ⟨i, j, rfl, rfl, c, fin1 rh (.int _) p⟩
      · rw [if_neg c] at p; exact p.elim
    | _ => exact p.elim
  | _ => exact p.elim
theorem d_mod : Does2 G (rI (fun _ j => j ≠ 0) fun i j => .int (i.fmod j)) (op2 .mod) := by
  intro d d' h ρ H v v' Q rh rv rv' p
  cases rv with
  | int i => cases rv' with
    | int j =>
      have p : Post G ρ H (if j = 0 then .stuck else .ok (D.int (i.fmod j), h)) _ := p
      by_cases c : j = 0
      · rw [if_pos c] at p; exact p.elim
      · rw [if_neg c] at p
        exact ⟨i, j, rfl, rfl, c, fin1 rh (.int _) p⟩
    | _ => exact p.elim
  | _ => exact p.elim
theorem d_pow : Does2 G (rI CPow fun i j => .int (i ^ j.toNat)) (op2 .pow) := by
  intro d d' h ρ H v v' Q rh rv rv' p
  cases rv with
  | int i => cases rv' with
    | int j =>
      have p : Post G ρ H (if powOk i j = true then .ok (D.int (i ^ j.toNat), h) else .stuck) _ := p
      by_cases c : powOk i j = true
      · rw [if_pos c] at p
        unfold powOk at c
        rw [yes_iff] at c
        exact ⟨i, j, rfl, rfl, ⟨c.1.1, c.1.2, c.2⟩, fin1 rh (.int _) p⟩
      · rw [if_neg c] at p; exact p.elim
    | _ => exact p.elim
  | _ => exact p.elim

/-! ### comparisons of ints -/
theorem d_lt : Does2 G (rI0 fun i j => .bl (decide (i < j))) (cmp2 .lt) := by
  intro d d' h ρ H v v' Q rh rv rv' p
  cases rv with
  | int i => cases rv' with
    | int j => exact ⟨i, j, rfl, rfl, fin1 rh (.bl _) p⟩
    | _ => exact p.elim
  | _ => exact p.elim
theorem d_le : Does2 G (rI0 fun i j => .bl (decide (i ≤ j))) (cmp2 .le) := by
  intro d d' h ρ H v v' Q rh rv rv' p
  cases rv with
  | int i => cases rv' with
    | int j => exact ⟨i, j, rfl, rfl, fin1 rh (.bl _) p⟩
    | _ => exact p.elim
  | _ => exact p.elim
theorem d_gt : Does2 G (rI0 fun i j => .bl (decide (j < i))) (cmp2 .gt) := by
  intro d d' h ρ H v v' Q rh rv rv' p
  cases rv with
  | int i => cases rv' with
    | int j => exact ⟨i, j, rfl, rfl, fin1 rh (.bl _) p⟩
    | _ => exact p.elim
  | _ => exact p.elim
theorem d_ge : Does2 G (rI0 fun i j => .bl (decide (j ≤ i))) (cmp2 .ge) := by
  intro d d' h ρ H v v' Q rh rv rv' p
  cases rv with
  | int i => cases rv' with
    | int j => exact ⟨i, j, rfl, rfl, fin1 rh (.bl _) p⟩
    | _ => exact p.elim
  | _ => exact p.elim
theorem d_isN : Does2 G (fun x y H Q => y = .non ∧ Q (.bl (decide (x = .non))) H) (cmp2 .isN) := by
  intro d d' h ρ H v v' Q rh rv rv' p
  cases rv' with
  | non =>
    refine ⟨rfl, ?_⟩
    cases rv <;> exact fin1 rh (.bl _) p
  | _ => exact p.elim
theorem d_notN : Does2 G (fun x y H Q => y = .non ∧ Q (.bl (!decide (x = .non))) H) (cmp2 .notN) := by
  intro d d' h ρ H v v' Q rh rv rv' p
  cases rv' with
  | non =>
    refine ⟨rfl, ?_⟩
    cases rv <;> exact fin1 rh (.bl _) p
  | _ => exact p.elim
def rIsT : R2 := fun x y H Q => y = .bl true ∧ ((∃ b, x = .bl b ∧ Q (.bl b) H) ∨ (x = .non ∧ Q (.bl false) H))
theorem o_isT : OpR X (compareOp .Is) rIsT := by
  intro pins s σ H x y v u Q I rx ry q
  obtain ⟨rfl, q⟩ := q
  cases (show u = Value.bool true from ry)
  rcases q with ⟨b, rfl, q⟩ | ⟨rfl, q⟩
  · cases (show v = Value.bool b from rx)
    cases b with
    | true => exact wpAny_is_self rfl ⟨.bl true, H, I, rfl, q⟩
    | false => exact wpAny_is_other rfl (fun z => nomatch z) ⟨.bl false, H, I, rfl, q⟩
  · cases (show v = Value.none from rx)
    exact wpAny_is_other rfl (fun z => nomatch z) ⟨.bl false, H, I, rfl, q⟩
theorem d_isT : Does2 G rIsT (cmp2 .isT) := by
  intro d d' h ρ H v v' Q rh rv rv' p
  cases rv' with
  | bl k =>
    cases k with
    | false => exact p.elim
    | true =>
      refine ⟨rfl, ?_⟩
      cases rv with
      | bl b => exact .inl ⟨b, rfl, fin1 rh (.bl _) p⟩
      | non => exact .inr ⟨rfl, fin1 rh (.bl _) p⟩
      | _ => exact p.elim
  | _ => exact p.elim

/-! ### == of data -/
mutual
theorem dp_of {ρ : List Addr} {H : Hp} {h : Hh} (rh : RH G ρ h H) : ∀ (n : Nat) (d : D) (v : V) (pd : PyData), toPy h n d = some pd → RV G.K ρ H d v → Dp G.K H v pd
  | 0, _, _, _, e, _ => by unfold toPy at e; cases e
  | n + 1, d, v, pd, e, r => by
    unfold toPy at e
    cases r with
    | non => cases e; exact .non
    | bl b => cases e; exact .bl b
    | int i => cases e; exact .int i
    | str x =>
      dsimp only at e
      by_cases c : (PyData.str x).canLay0 = true
      · rw [if_pos c] at e; cases e; exact .str x
      · rw [if_neg c] at e; cases e
    | @tup a vs ds st rs =>
      obtain ⟨ps, e1, rfl⟩ := Option.map_eq_some_iff.mp e
      exact .tup st (dps_of rh n ds vs ps e1 rs)
    | cl _ _ => cases e
    | @ref i a f =>
      dsimp only at e
      cases q : lstAt h i with
      | none => rw [q] at e; cases e
      | some xs =>
        rw [q] at e
        obtain ⟨ps, e1, rfl⟩ := Option.map_eq_some_iff.mp e
        obtain ⟨vs, sl, rs⟩ := lst_at rh q f
        exact .lst sl (dps_of rh n xs vs ps e1 rs)
theorem dps_of {ρ : List Addr} {H : Hp} {h : Hh} (rh : RH G ρ h H) : ∀ (n : Nat) (ds : List D) (vs : List V) (pds : List PyData), toPys h n ds = some pds → RVs G.K ρ H ds vs → DpAll G.K H vs pds
  | 0, _, _, _, e, _ => by unfold toPys at e; cases e
  | n + 1, [], vs, pds, e, r => by
    unfold toPys at e
    cases e
    cases r
    exact .nil
  | n + 1, d :: ds, vs, pds, e, r => by
    unfold toPys at e
    cases r with
    | cons r1 r2 =>
      cases q : toPy h n d with
      | none => rw [q] at e; cases e
      | some p1 =>
        rw [q] at e
        obtain ⟨ps, e1, rfl⟩ := Option.map_eq_some_iff.mp e
        exact .cons (dp_of rh n d _ p1 q r1) (dps_of rh n ds _ ps e1 r2)
end
mutual
theorem depth_of {h : Hh} : ∀ (n : Nat) (d : D) (pd : PyData), toPy h n d = some pd → pd.depth ≤ n ∧ pd.canLay0 = true
  | 0, _, _, e => by unfold toPy at e; cases e
  | n + 1, d, pd, e => by
    unfold toPy at e
    cases d with
    | non => cases e; exact ⟨Nat.zero_le _, rfl⟩
    | bl b => cases e; exact ⟨Nat.zero_le _, rfl⟩
    | int i => cases e; exact ⟨Nat.zero_le _, rfl⟩
    | str x =>
      dsimp only at e
      by_cases c : (PyData.str x).canLay0 = true
      · rw [if_pos c] at e; cases e; exact ⟨Nat.zero_le _, c⟩
      · rw [if_neg c] at e; cases e
    | tup ds =>
      obtain ⟨ps, e1, rfl⟩ := Option.map_eq_some_iff.mp e
      have := depths_of n ds ps e1
      exact ⟨by simp only [PyData.depth]; omega, by simpa [PyData.canLay0] using this.2⟩
    | cl _ => cases e
    | ref i =>
      dsimp only at e
      cases q : lstAt h i with
      | none => rw [q] at e; cases e
      | some xs =>
        rw [q] at e
        obtain ⟨ps, e1, rfl⟩ := Option.map_eq_some_iff.mp e
        have := depths_of n xs ps e1
        exact ⟨by simp only [PyData.depth]; omega, by simpa [PyData.canLay0] using this.2⟩
theorem depths_of {h : Hh} : ∀ (n : Nat) (ds : List D) (pds : List PyData), toPys h n ds = some pds → PyData.depthAll pds ≤ n ∧ PyData.canLayAll0 pds = true
  | 0, _, _, e => by unfold toPys at e; cases e
  | n + 1, [], pds, e => by
    unfold toPys at e
    cases e
    exact ⟨Nat.zero_le _, rfl⟩
  | n + 1, d :: ds, pds, e => by
    unfold toPys at e
    cases q : toPy h n d with
    | none => rw [q] at e; cases e
    | some p1 =>
      rw [q] at e
      obtain ⟨ps, e1, rfl⟩ := Option.map_eq_some_iff.mp e
      have a := depth_of n d p1 q
      have b := depths_of n ds ps e1
      exact ⟨by simp only [PyData.depthAll]; omega, by simp only [PyData.canLayAll0, a.2, b.2, Bool.and_self]⟩
end
theorem shaped_of {h : Hh} {d : D} {pd : PyData} (e : toPy h deep d = some pd) : SeqAt.shaped pd = true := by
  have a := depth_of deep d pd e
  unfold SeqAt.shaped
  rw [a.2, decide_eq_true (show pd.depth ≤ 64 from Nat.le_trans a.1 (by decide))]
  rfl
theorem eqD_ok {ρ : List Addr} {H : Hp} {h : Hh} {x y : D} {v u : V} {b : Bool} (rh : RH G ρ h H) (e : eqD h x y = some b) (rx : RV G.K ρ H x v) (ry : RV G.K ρ H y u) :
    ∃ d e, Dp G.K H v d ∧ Dp G.K H u e ∧ SeqAt.shaped d = true ∧ SeqAt.shaped e = true ∧ PyData.eqv d e = b := by
  unfold eqD at e
  cases q1 : toPy h deep x with
  | none => rw [q1] at e; cases e
  | some p1 =>
    cases q2 : toPy h deep y with
    | none => rw [q1, q2] at e; cases e
    | some p2 =>
      rw [q1, q2] at e
      cases e
      exact ⟨p1, p2, dp_of rh deep x v p1 q1 rx, dp_of rh deep y u p2 q2 ry, shaped_of q1, shaped_of q2, rfl⟩
def rEq2 (K : PySem.W.Frag) : R2 := fun x y H Q => (∃ i j, x = .int i ∧ y = .int j ∧ Q (.bl (decide (i = j))) H) ∨ rEqD K x y H Q
theorem o_eq (hK : X.K = G.K) (hu : X.A.units + 64 < cLine) : OpR X (compareOp .Eq) (rEq2 G.K) := by
  refine OpR.or ?_ (hK ▸ op_eqD hu)
  intro pins s σ H x y v u Q I rx ry ⟨i, j, e1, e2, q⟩
  subst e1 e2
  refine op_eq pins s σ H _ _ v u Q I rx ry ⟨rfl, ?_⟩
  rw [show decide (V.int i = V.int j) = decide (i = j) by by_cases c : i = j <;> simp [c]]
  exact q
def rNe2 (K : PySem.W.Frag) : R2 := fun x y H Q => (∃ i j, x = .int i ∧ y = .int j ∧ Q (.bl (!decide (i = j))) H) ∨ rNeD K x y H Q
theorem o_ne (hK : X.K = G.K) (hu : X.A.units + 64 < cLine) : OpR X (compareOp .NotEq) (rNe2 G.K) := by
  refine OpR.or ?_ (hK ▸ op_neD hu)
  intro pins s σ H x y v u Q I rx ry ⟨i, j, e1, e2, q⟩
  subst e1 e2
  refine op_ne pins s σ H _ _ v u Q I rx ry ⟨rfl, ?_⟩
  rw [show decide (V.int i = V.int j) = decide (i = j) by by_cases c : i = j <;> simp [c]]
  exact q
theorem eq_cases {x y : D} {h : Hh} : (∃ i j, x = .int i ∧ y = .int j ∧ cmp2 .eq x y h = .ok (.bl (decide (i = j)), h) ∧ cmp2 .ne x y h = .ok (.bl (!decide (i = j)), h)) ∨
    ((∃ b, eqD h x y = some b ∧ cmp2 .eq x y h = .ok (.bl b, h) ∧ cmp2 .ne x y h = .ok (.bl (!b), h)) ∨ (cmp2 .eq x y h = .stuck ∧ cmp2 .ne x y h = .stuck)) := by
  cases q : eqD h x y with
  | some b =>
    cases x <;> cases y <;> first
      | exact .inl ⟨_, _, rfl, rfl, rfl, rfl⟩
      | exact .inr (.inl ⟨b, rfl, by simp only [cmp2, q], by simp only [cmp2, q]⟩)
  | none =>
    cases x <;> cases y <;> first
      | exact .inl ⟨_, _, rfl, rfl, rfl, rfl⟩
      | exact .inr (.inr ⟨by simp only [cmp2, q], by simp only [cmp2, q]⟩)
theorem d_eq : Does2 G (rEq2 G.K) (cmp2 .eq) := by
  intro d d' h ρ H v v' Q rh rv rv' p
  rcases eq_cases (x := d) (y := d') (h := h) with ⟨i, j, e1, e2, e3, _⟩ | ⟨b, e1, e2, _⟩ | ⟨e1, _⟩
  · rw [e3] at p
    subst e1 e2
    cases rv
    cases rv'
    exact .inl ⟨i, j, rfl, rfl, fin1 rh (.bl _) p⟩
  · rw [e2] at p
    obtain ⟨x, y, a, b', c, c', e⟩ := eqD_ok rh e1 rv rv'
    exact .inr ⟨x, y, a, b', c, c', by rw [e]; exact fin1 rh (.bl _) p⟩
  · rw [e1] at p; exact p.elim
theorem d_ne : Does2 G (rNe2 G.K) (cmp2 .ne) := by
  intro d d' h ρ H v v' Q rh rv rv' p
  rcases eq_cases (x := d) (y := d') (h := h) with ⟨i, j, e1, e2, _, e3⟩ | ⟨b, e1, _, e2⟩ | ⟨_, e1⟩
  · rw [e3] at p
    subst e1 e2
    cases rv
    cases rv'
    exact .inl ⟨i, j, rfl, rfl, fin1 rh (.bl _) p⟩
  · rw [e2] at p
    obtain ⟨x, y, a, b', c, c', e⟩ := eqD_ok rh e1 rv rv'
    exact .inr ⟨x, y, a, b', c, c', by rw [e]; exact fin1 rh (.bl _) p⟩
  · rw [e1] at p; exact p.elim
end
end SF
set_option Elab.async false
set_option linter.all false
set_option maxRecDepth 100000
set_option maxHeartbeats 1000000
/-! SFOps2: in, subscripts, slices, built-in functions and methods by values. -/
namespace SF
open PySem PySem.Spec PyProof.Rows L2
section
variable {G : Gx} {X : Cx}
theorem flat_of {K : PySem.W.Frag} {ρ : List Addr} {H : Hp} {d : D} {v : V} (r : RV K ρ H d v) (f : flat d = true) : flatV v = true := by
  cases r <;> first | rfl | cases f
theorem flats_of {K : PySem.W.Frag} {ρ : List Addr} {H : Hp} : ∀ {ds : List D} {vs : List V}, RVs K ρ H ds vs → ds.all flat = true → vs.all flatV = true
  | _, _, .nil, _ => rfl
  | _, _, .cons a b, f => by
    rw [List.all_cons, Bool.and_eq_true] at f ⊢
    exact ⟨flat_of a f.1, flats_of b f.2⟩
theorem eqF_of {K : PySem.W.Frag} {ρ : List Addr} {H : Hp} {d d' : D} {v v' : V} (r : RV K ρ H d v) (r' : RV K ρ H d' v') (f : flat d = true) (f' : flat d' = true) : eqV v v' = eqF d d' := by
  cases r <;> cases r' <;> first | rfl | cases f | cases f'
theorem anyF_of {K : PySem.W.Frag} {ρ : List Addr} {H : Hp} {d : D} {v : V} (r : RV K ρ H d v) (f : flat d = true) : ∀ {ds : List D} {vs : List V}, RVs K ρ H ds vs → ds.all flat = true → inV v vs = ds.any fun y => eqF y d
  | _, _, .nil, _ => rfl
  | _, _, .cons a b, g => by
    rw [List.all_cons, Bool.and_eq_true] at g
    unfold inV
    rw [List.any_cons, List.any_cons, eqF_of a r g.1 f]
    exact congrArg _ (anyF_of r f b g.2)

/-! ### x[i] of lists and tuples -/
def rIx2 (K : PySem.W.Frag) : R2 := fun x y H Q => rIxL K x y H Q ∨ rIxT K x y H Q
theorem o_ix (hK : X.K = G.K) : IxR X (rIx2 G.K) := (hK ▸ ix_list).or (hK ▸ ix_tup)
theorem sq_ix {ρ : List Addr} {H : Hp} {h : Hh} {i : Nat} {a : Addr} {xs : List D} {d' : D} {v' : V} {Q : VK} (rh : RH G ρ h H) (e : lstAt h i = some xs) (f : ρ[i]? = some a) (rv' : RV G.K ρ H d' v')
    (p : Post G ρ H (match d' with
      | .int k => match at_ xs k with
        | some v => .ok (v, h)
        | none => .stuck
      | _ => .stuck) fun d _ ρ' H' => ∀ v, RV G.K ρ' H' d v → Q v H') : rIxL G.K (.ref a) v' H Q := by
  obtain ⟨vs, sl, rs⟩ := lst_at rh e f
  cases rv' with
  | int k =>
    dsimp only at p
    cases q : at_ xs k with
    | none => rw [q] at p; exact p.elim
    | some d =>
      rw [q] at p
      obtain ⟨v, e1, r1⟩ := rs.at_ q
      exact ⟨a, vs, k, v, rfl, rfl, sl, e1, fin1 rh r1 p⟩
  | _ => exact p.elim

/-! ### slices -/
def rSl2 (K : PySem.W.Frag) : V → Option Int → Option Int → Hp → VK → Prop := fun x lo hi H Q => rSlA K x lo hi H Q ∨ rSlL K x lo hi H Q
theorem o_sl (hK : X.K = G.K) : SlR X (rSl2 G.K) := (hK ▸ sl_tupA).or (hK ▸ sl_list)
theorem d_sl {d : D} {lo hi : Option Int} {h : Hh} {ρ : List Addr} {H : Hp} {v : V} {Q : VK} (rh : RH G ρ h H) (rv : RV G.K ρ H d v)
    (p : Post G ρ H (sl2 d lo hi h) fun d _ ρ' H' => ∀ v, RV G.K ρ' H' d v → Q v H') : rSl2 G.K v lo hi H Q := by
  cases rv with
  | @tup a vs xs st rs =>
    refine Or.inl ⟨a, vs, rfl, st, fun ⟨e1, e2⟩ => ?_, fun _ => finT rh (rs.cut lo hi) p⟩
    refine fin1 rh ?_ p
    have e : cut xs lo hi = xs := by
      unfold cut
      rw [rs.length, e1, e2, Nat.sub_zero, List.drop_zero, ← rs.length]
      exact List.take_length
    rw [e]
    exact .tup st rs
  | @ref i a f =>
    have p : Post G ρ H (match lstAt h i with
      | some xs => .ok (D.ref h.length, h ++ [O.lst (cut xs lo hi)])
      | none => .stuck) _ := p
    cases q : lstAt h i with
    | none => rw [q] at p; exact p.elim
    | some xs =>
      rw [q] at p
      obtain ⟨vs, sl, rs⟩ := lst_at rh q f
      exact .inr ⟨a, vs, rfl, sl, finL rh (rs.cut lo hi) p⟩
  | _ => exact p.elim
theorem s_sl {a : Expr} {lo hi : Option Expr} {p2 pos : Pos} {ea : En → Hh → R (D × Hh)} {el eh : En → Hh → R (Option Int × Hh)} (hK : X.K = G.K) (ha : PE X a (tE G ea)) (hl : PO X lo (tOo G el)) (hh : PO X hi (tOo G eh)) :
    PE X (.Subscript a (.Slice lo hi none p2) pos) (tE G fun e h => ea e h >>= fun p => el e p.2 >>= fun q => eh e q.2 >>= fun r => sl2 p.1 q.1 r.1 r.2) := (pe_slice (o_sl hK) ha hl hh).weak fun σ H Q q => by
  obtain ⟨ρ, e, h, re, rh, p⟩ := q
  refine one (Q := Q) re rh p fun d h1 ρ1 H1 v g1 rh1 re1 rv p1 => ?_
  refine ⟨ρ1, e, h1, re1, rh1, p1.seq fun o h2 ρ2 H2 g2 rh2 p2 => ?_⟩
  refine ⟨ρ2, e, h2, re1.mono g2, rh2, p2.seq fun o' h3 ρ3 H3 g3 rh3 p3 => ?_⟩
  exact d_sl rh3 ((rv.mono g2).mono g3) p3

/-! ### built-in functions -/
def DoesA (G : Gx) (r : List V → Hp → VK → Prop) (f : List D → Hh → R (D × Hh)) : Prop := ∀ (ds : List D) (h : Hh) (ρ : List Addr) (H : Hp) (vs : List V) (Q : VK), RH G ρ h H → RVs G.K ρ H ds vs →
  (Post G ρ H (f ds h) fun d _ ρ' H' => ∀ v, RV G.K ρ' H' d v → Q v H') → r vs H Q
theorem callA {r : List V → Hp → VK → Prop} {f : List D → Hh → R (D × Hh)} {eas : En → Hh → R (List D × Hh)} (df : DoesA G r f) {σ : L2.St} {H : Hp} {Q : VK} (q : tE G (fun e h => eas e h >>= fun p => f p.1 p.2) σ H Q) : tCB r (tA G eas) σ H Q := by
  obtain ⟨ρ, e, h, re, rh, p⟩ := q
  exact oneA re rh p fun ds h1 ρ1 H1 vs g1 rh1 re1 rvs p1 => df ds h1 ρ1 H1 vs Q rh1 rvs p1
theorem rvs1 {K : PySem.W.Frag} {ρ : List Addr} {H : Hp} {ds : List D} {vs : List V} (r : RVs K ρ H ds vs) : (∃ d v, ds = [d] ∧ vs = [v] ∧ RV K ρ H d v) ∨ (∃ d d' v v', ds = [d, d'] ∧ vs = [v, v'] ∧ RV K ρ H d v ∧ RV K ρ H d' v') ∨ ds = [] ∨ ∃ d d' d'' r, ds = d :: d' :: d'' :: r := by
  cases r with
  | nil => exact .inr (.inr (.inl rfl))
  | cons a b => cases b with
    | nil => exact .inl ⟨_, _, rfl, rfl, a⟩
    | cons a' b' => cases b' with
      | nil => exact .inr (.inl ⟨_, _, _, _, rfl, rfl, a, a'⟩)
      | cons a'' b'' => exact .inr (.inr (.inr ⟨_, _, _, _, rfl⟩))
/-- two lengths -/
def rLen2 (K : PySem.W.Frag) : List V → Hp → VK → Prop := fun xs H Q => ∃ p ys, xs = [.ref p] ∧ (SqL K H p ys ∨ SqT K H p ys) ∧ Q (.int ys.length) H
theorem d_len : DoesA G (rLen2 G.K) (bf2 .len) := by
  intro ds h ρ H vs Q rh rvs p
  rcases rvs1 rvs with ⟨d, v, rfl, rfl, rv⟩ | ⟨d, d', v, v', rfl, rfl, rv, rv'⟩ | rfl | ⟨d, d', d'', r, rfl⟩
  · cases rv with
    | @tup a us xs st rs =>
      refine ⟨a, us, rfl, .inr st, ?_⟩
      rw [← rs.length]
      exact fin1 rh (.int _) p
    | @cl a us xs fz rs =>
      refine ⟨a, us, rfl, .inl fz.sq, ?_⟩
      rw [← rs.length]
      exact fin1 rh (.int _) p
    | @ref i a f =>
      have p : Post G ρ H (match lstAt h i with
        | some xs => .ok (D.int xs.length, h)
        | none => .stuck) _ := p
      cases q : lstAt h i with
      | none => rw [q] at p; exact p.elim
      | some xs =>
        rw [q] at p
        obtain ⟨us, sl, rs⟩ := lst_at rh q f
        refine ⟨a, us, rfl, .inl sl, ?_⟩
        rw [← rs.length]
        exact fin1 rh (.int _) p
    | _ => exact p.elim
  · exact p.elim
  · exact p.elim
  · exact p.elim
theorem d_abs : DoesA G (fun xs H Q => ∃ i, xs = [.int i] ∧ Q (.int (if i < 0 then -i else i)) H) (bf2 .abs) := by
  intro ds h ρ H vs Q rh rvs p
  rcases rvs1 rvs with ⟨d, v, rfl, rfl, rv⟩ | ⟨d, d', v, v', rfl, rfl, rv, rv'⟩ | rfl | ⟨d, d', d'', r, rfl⟩
  · cases rv with
    | int i => exact ⟨i, rfl, fin1 rh (.int _) p⟩
    | _ => exact p.elim
  · exact p.elim
  · exact p.elim
  · exact p.elim
theorem d_int : DoesA G (fun xs H Q => (∃ i, xs = [.int i] ∧ Q (.int i) H) ∨ ∃ k, xs = [.bl k] ∧ Q (.int (if k then 1 else 0)) H) (bf2 .int) := by
  intro ds h ρ H vs Q rh rvs p
  rcases rvs1 rvs with ⟨d, v, rfl, rfl, rv⟩ | ⟨d, d', v, v', rfl, rfl, rv, rv'⟩ | rfl | ⟨d, d', d'', r, rfl⟩
  · cases rv with
    | int i => exact .inl ⟨i, rfl, fin1 rh (.int _) p⟩
    | bl k => exact .inr ⟨k, rfl, fin1 rh (.int _) p⟩
    | _ => exact p.elim
  · exact p.elim
  · exact p.elim
  · exact p.elim
def rListOf (K : PySem.W.Frag) : List V → Hp → VK → Prop := fun xs H Q => ∃ p ys, xs = [.ref p] ∧ (SqL K H p ys ∨ SqT K H p ys) ∧ ∀ l, H l = none → Q (.ref l) (upd H l (.lst ys))
theorem d_list : DoesA G (rListOf G.K) (bf2 .list) := by
  intro ds h ρ H vs Q rh rvs p
  rcases rvs1 rvs with ⟨d, v, rfl, rfl, rv⟩ | ⟨d, d', v, v', rfl, rfl, rv, rv'⟩ | rfl | ⟨d, d', d'', r, rfl⟩
  · cases rv with
    | @tup a us xs st rs => exact ⟨a, us, rfl, .inr st, finL rh rs p⟩
    | @ref i a f =>
      have p : Post G ρ H (match lstAt h i with
        | some xs => .ok (D.ref h.length, h ++ [O.lst xs])
        | none => .stuck) _ := p
      cases q : lstAt h i with
      | none => rw [q] at p; exact p.elim
      | some xs =>
        rw [q] at p
        obtain ⟨us, sl, rs⟩ := lst_at rh q f
        exact ⟨a, us, rfl, .inl sl, finL rh rs p⟩
    | _ => exact p.elim
  · exact p.elim
  · exact p.elim
  · exact p.elim
def rTupOf (K : PySem.W.Frag) : List V → Hp → VK → Prop := fun xs H Q => ∃ p ys, xs = [.ref p] ∧ ((SqL K H p ys ∧ ∀ l, H l = none → Q (.ref l) (upd H l (.tup ys))) ∨ (SqT K H p ys ∧ Q (.ref p) H))
theorem d_tuple : DoesA G (rTupOf G.K) (bf2 .tuple) := by
  intro ds h ρ H vs Q rh rvs p
  rcases rvs1 rvs with ⟨d, v, rfl, rfl, rv⟩ | ⟨d, d', v, v', rfl, rfl, rv, rv'⟩ | rfl | ⟨d, d', d'', r, rfl⟩
  · cases rv with
    | @tup a us xs st rs => exact ⟨a, us, rfl, .inr ⟨st, fin1 rh (.tup st rs) p⟩⟩
    | @ref i a f =>
      have p : Post G ρ H (match lstAt h i with
        | some xs => .ok (D.tup xs, h)
        | none => .stuck) _ := p
      cases q : lstAt h i with
      | none => rw [q] at p; exact p.elim
      | some xs =>
        rw [q] at p
        obtain ⟨us, sl, rs⟩ := lst_at rh q f
        exact ⟨a, us, rfl, .inl ⟨sl, finT rh rs p⟩⟩
    | _ => exact p.elim
  · exact p.elim
  · exact p.elim
  · exact p.elim
theorem d_gcd : DoesA G rGcd (bf2 .gcd) := by
  intro ds h ρ H vs Q rh rvs p
  rcases rvs1 rvs with ⟨d, v, rfl, rfl, rv⟩ | ⟨d, d', v, v', rfl, rfl, rv, rv'⟩ | rfl | ⟨d, d', d'', r, rfl⟩
  · exact p.elim
  · cases rv with
    | int i => cases rv' with
      | int j => exact ⟨i, j, rfl, fin1 rh (.int _) p⟩
      | _ => exact p.elim
    | _ => exact p.elim
  · exact p.elim
  · exact p.elim

/-! ### methods of lists -/
theorem bm_lst {b : Bm} {d : D} {ds : List D} {h : Hh} {ρ : List Addr} {H : Hp} {v : V} {vs : List V} {Q : VK} (rh : RH G ρ h H) (rv : RV G.K ρ H d v) (rvs : RVs G.K ρ H ds vs)
    (p : Post G ρ H (bm2 b d ds h) fun d _ ρ' H' => ∀ v, RV G.K ρ' H' d v → Q v H') : ∃ i a xs us, d = .ref i ∧ v = .ref a ∧ h[i]? = some (.lst xs) ∧ ρ[i]? = some a ∧ H a = some (.lst us) ∧ RVs G.K ρ H xs us := by
  cases rv with
  | @ref i a f =>
    have p' := p
    unfold bm2 at p'
    dsimp only at p'
    cases q : h[i]? with
    | none => rw [q] at p'; exact p'.elim
    | some o =>
      rw [q] at p'
      cases o with
      | lst xs =>
        obtain ⟨us, x, y⟩ := lst_here rh q f
        exact ⟨i, a, xs, us, rfl, rfl, q, f, x, y⟩
      | _ => exact p'.elim
  | _ => exact p.elim
/-- a list is changed -/
theorem finS {ρ : List Addr} {H : Hp} {i : Nat} {a : Addr} {xs ys : List D} {us : List V} {h : Hh} {Q : VK} {d : D} {v : V} (rh : RH G ρ h H) (q : h[i]? = some (.lst xs)) (f : ρ[i]? = some a) (x : H a = some (.lst us)) {zs : List V} (rs : RVs G.K ρ H ys zs) (rv : RV G.K ρ H d v)
    (p : Post G ρ H (.ok (d, h.set i (O.lst ys))) fun d _ ρ' H' => ∀ v, RV G.K ρ' H' d v → Q v H') : Q v (upd H a (.lst zs)) := by
  have g : Grow G.K ρ H ρ (upd H a (.lst zs)) := grow_set f x (fun _ => HO.noConfusion) (fun _ _ => HO.noConfusion)
  obtain ⟨_, rh'⟩ := rh.set (u := .lst zs) (o' := .lst ys) q f ⟨zs, upd_same, rs.mono g⟩
  exact p ρ _ g rh' v (rv.mono g)
def DoesM (G : Gx) (r : V → List V → Hp → VK → Prop) (b : Bm) : Prop := ∀ (d : D) (ds : List D) (h : Hh) (ρ : List Addr) (H : Hp) (v : V) (vs : List V) (Q : VK), RH G ρ h H → RV G.K ρ H d v → RVs G.K ρ H ds vs →
  (Post G ρ H (bm2 b d ds h) fun d _ ρ' H' => ∀ v, RV G.K ρ' H' d v → Q v H') → r v vs H Q
theorem d_append : DoesM G rAppend .append := by
  intro d ds h ρ H v vs Q rh rv rvs p
  obtain ⟨i, a, xs, us, rfl, rfl, q, f, x, y⟩ := bm_lst rh rv rvs p
  unfold bm2 at p
  dsimp only at p
  rw [q] at p
  rcases rvs1 rvs with ⟨d, v, rfl, rfl, rv⟩ | ⟨d, d', v, v', rfl, rfl, rv, rv'⟩ | rfl | ⟨d, d', d'', r, rfl⟩
  · dsimp only at p
    by_cases c : xs.length < sizeLine
    · rw [if_pos c] at p
      exact ⟨a, us, v, rfl, rfl, x, by rw [← y.length]; exact c, finS rh q f x (y.app (.cons rv .nil)) .non p⟩
    · rw [if_neg c] at p; exact p.elim
  · exact p.elim
  · exact p.elim
  · exact p.elim
theorem d_pop : DoesM G rPop .pop := by
  intro d ds h ρ H v vs Q rh rv rvs p
  obtain ⟨i, a, xs, us, rfl, rfl, q, f, x, y⟩ := bm_lst rh rv rvs p
  unfold bm2 at p
  dsimp only at p
  rw [q] at p
  cases rvs with
  | nil =>
    dsimp only at p
    cases z : xs[xs.length - 1]? with
    | none => rw [z] at p; exact p.elim
    | some d =>
      rw [z] at p
      obtain ⟨v, e1, r1⟩ := y.get z
      exact ⟨a, us, v, rfl, rfl, x, by rw [← y.length]; exact e1, finS rh q f x y.dropLast r1 p⟩
  | cons _ _ => exact p.elim
theorem d_reverse : DoesM G rReverse .reverse := by
  intro d ds h ρ H v vs Q rh rv rvs p
  obtain ⟨i, a, xs, us, rfl, rfl, q, f, x, y⟩ := bm_lst rh rv rvs p
  unfold bm2 at p
  dsimp only at p
  rw [q] at p
  cases rvs with
  | nil => exact ⟨a, us, rfl, rfl, x, finS rh q f x y.rev .non p⟩
  | cons _ _ => exact p.elim
end
end SF
set_option Elab.async false
set_option linter.all false
set_option maxRecDepth 100000
set_option maxHeartbeats 1000000
/-! SFDict: dicts whose keys are tuples. -/
namespace SF
open PySem PySem.Spec PyProof.Rows L2
section
variable {G : Gx} {X : Cx} {pins : List (Addr × Obj)} {σ : L2.St} {H : Hp} {s : Shared} {ρ : List Addr}
/-- a value is the key that the evaluator says -/
theorem nested_of (hK : X.K = G.K) (I : Inv X pins σ H s) : ∀ (n : Nat) (d : D) (v : V) (u : Value) (nk : NestedKey), toKey n d = some nk → RV G.K ρ H d v → RelV v u → NestedIs s.heap nk u ∧ nk.depth ≤ n
  | 0, _, _, _, _, e, _, _ => by unfold toKey at e; cases e
  | n + 1, d, v, u, nk, e, r, ru => by
    unfold toKey at e
    cases r with
    | non => cases e; cases ru; exact ⟨.none, Nat.zero_le _⟩
    | bl b => cases e; cases ru; exact ⟨.bool rfl, Nat.zero_le _⟩
    | int i => cases e; obtain ⟨t, rfl⟩ := ru; exact ⟨.int i t, Nat.zero_le _⟩
    | str x => cases e; obtain ⟨t, rfl⟩ := ru; exact ⟨.text x t, Nat.zero_le _⟩
    | cl _ _ => cases e
    | @tup a vs xs st rs =>
      obtain ⟨ks, e1, rfl⟩ := Option.map_eq_some_iff.mp e
      cases ru
      obtain ⟨its, rv, ⟨o, ho, hc, m, hd⟩, _⟩ := I.tuple (hK ▸ st)
      have all : ∀ (xs : List D) (vs : List V) (us : List Value) (ks : List NestedKey), mapO (toKey n) xs = some ks → RVs G.K ρ H xs vs → Vals vs us → NestedAll s.heap ks us ∧ (ks = [] ∨ NestedKey.depthAll ks ≤ n) := by
        intro xs
        induction xs with
        | nil =>
          intro vs us ks e r q
          unfold mapO at e
          cases e
          cases r
          cases q
          exact ⟨.nil, .inl rfl⟩
        | cons x xs ih =>
          intro vs us ks e r q
          unfold mapO at e
          cases r with
          | cons r1 r2 => cases q with
            | cons q1 q2 =>
              cases z : toKey n x with
              | none => rw [z] at e; cases e
              | some k =>
                rw [z] at e
                obtain ⟨ks', e1, rfl⟩ := Option.map_eq_some_iff.mp e
                obtain ⟨a1, a2⟩ := nested_of hK I n x _ _ k z r1 q1
                obtain ⟨b1, b2⟩ := ih _ _ ks' e1 r2 q2
                refine ⟨.cons a1 b1, .inr ?_⟩
                simp only [NestedKey.depthAll]
                rcases b2 with b2 | b2
                · subst b2; simp only [NestedKey.depthAll]; omega
                · omega
      obtain ⟨a1, a2⟩ := all xs vs its ks e1 rs rv
      refine ⟨.tup ho hc hd (by simpa using a1), ?_⟩
      simp only [NestedKey.depth]
      rcases a2 with a2 | a2
      · subst a2; simp only [NestedKey.depthAll]; omega
      · omega
    | ref f => cases e
theorem key_of (hK : X.K = G.K) (I : Inv X pins σ H s) {d : D} {b : Addr} {nk : NestedKey} (e : dkey d = some nk) (r : RV G.K ρ H d (.ref b)) : (nestedKind X.prog X.w).is s.heap nk b := by
  unfold dkey at e
  cases d with
  | tup xs =>
    have q := nested_of hK I 8 (.tup xs) (.ref b) (.ref b) nk e r rfl
    exact ⟨q.1, q.2⟩
  | _ => cases e
theorem dic_of (hP : X.prog = G.P) (hW : X.w = G.w) (hK : X.K = G.K) (I : Inv X pins σ H s) {a : Addr} {ents : List (NestedKey × Addr × Value)} {kvs : List (D × D)} (d : DicAt G.P G.w H a ents) (nd : (ents.map (·.1)).Nodup) (r : RDs G.K ρ H kvs ents) :
    s.heap.DictOfH (nestedKind X.prog X.w) a ents ∧ (a == sysModules) = false ∧ Mut (H a) := by
  have keys : ∀ {kvs : List (D × D)} {ents : List (NestedKey × Addr × Value)}, RDs G.K ρ H kvs ents → ∀ x ∈ ents, (nestedKind X.prog X.w).is s.heap x.1 x.2.1 := by
    intro kvs ents r
    induction r with
    | nil => intro x hx; cases hx
    | cons e1 e2 _ _ _ ih =>
      intro x hx
      rcases List.mem_cons.mp hx with rfl | hx
      · exact key_of hK I e1 e2
      · exact ih x hx
  rcases d with ⟨rfl, h⟩ | ⟨h, hs⟩
  · obtain ⟨z, y, vs, rv, o, es, ep, e, c, c2, c3, c4⟩ := (show ObjOk X.prog X.w H s.heap a (.dK []) from I.hok a _ h)
    cases rv
    refine ⟨⟨o, es, ep, e, c, c2, ?_, (fun _ hx => nomatch hx), List.nodup_nil⟩, y, by rw [h]; trivial⟩
    have hz : es.toList = [] := by
      obtain ⟨c5, _⟩ := c4
      cases q : es.toList with
      | nil => rfl
      | cons x xs => rw [q] at c5; cases c5
    rw [hz]
    rfl
  · obtain ⟨⟨o, es, ep, e, c, c2, c3⟩, _, _⟩ := (show ObjOk X.prog X.w H s.heap a (.ext (rawD G.P G.w a ents)) from I.hok a _ h)
    refine ⟨⟨o, es, ep, e, c, c2, by rw [hP, hW]; exact c3, keys r, nd⟩, hs, by rw [h]; trivial⟩
theorem keyIs_of {nk nj : NestedKey} {d : D} (e : dkey d = some nj) : keyIs nk d = decide (nj = nk) := by
  unfold dkey at e
  cases d with
  | tup xs =>
    have e : toKey 8 (.tup xs) = some nj := e
    unfold keyIs
    rw [e, NestedKey.decide_eq]
  | _ => cases e
theorem dget_of {nk : NestedKey} : ∀ {kvs : List (D × D)} {ents : List (NestedKey × Addr × Value)}, RDs G.K ρ H kvs ents → (dget kvs nk = none ∧ atKey ents nk = none) ∨ ∃ d v u b, dget kvs nk = some d ∧ atKey ents nk = some (b, u) ∧ RelV v u ∧ RV G.K ρ H d v
  | _, _, .nil => .inl ⟨rfl, rfl⟩
  | _, _, .cons (k := k) (d := d) (nk := nj) (b := b) (u := u) (v := v) (r := r) (es := es) e1 e2 e3 e4 e5 => by
    unfold dget atKey
    rw [keyIs_of e1, List.find?_cons]
    by_cases c : nj = nk
    · right
      rw [decide_eq_true c]
      exact ⟨d, v, u, b, rfl, rfl, e3, e4⟩
    · rw [decide_eq_false c]
      exact dget_of e5
theorem dset_of {nk : NestedKey} {d : D} {v : V} {u : Value} (ru : RelV v u) (rv : RV G.K ρ H d v) : ∀ {kvs : List (D × D)} {ents : List (NestedKey × Addr × Value)}, RDs G.K ρ H kvs ents → RDs G.K ρ H (dset kvs nk d) (ents.map (putAt nk u))
  | _, _, .nil => .nil
  | _, _, .cons (k := k) (d := d') (nk := nj) (b := b) (u := u') (v := v') e1 e2 e3 e4 e5 => by
    unfold dset
    rw [keyIs_of e1, List.map_cons]
    unfold putAt
    by_cases c : nj = nk
    · rw [decide_eq_true c, if_pos rfl, if_pos c]
      exact .cons e1 e2 ru rv (dset_of ru rv e5)
    · rw [decide_eq_false c, if_neg Bool.false_ne_true, if_neg c]
      exact .cons e1 e2 e3 e4 (dset_of ru rv e5)
theorem RDs.app : ∀ {kvs kvs' : List (D × D)} {ents ents' : List (NestedKey × Addr × Value)}, RDs G.K ρ H kvs ents → RDs G.K ρ H kvs' ents' → RDs G.K ρ H (kvs ++ kvs') (ents ++ ents')
  | _, _, _, _, .nil, q => q
  | _, _, _, _, .cons a b c d e, q => .cons a b c d (RDs.app e q)
theorem RDs.length : ∀ {kvs : List (D × D)} {ents : List (NestedKey × Addr × Value)}, RDs G.K ρ H kvs ents → kvs.length = ents.length
  | _, _, .nil => rfl
  | _, _, .cons _ _ _ _ e => by rw [List.length_cons, List.length_cons, RDs.length e]
theorem dput_of {nk : NestedKey} {k d : D} {b : Addr} {v : V} {u : Value} (ek : dkey k = some nk) (rk : RV G.K ρ H k (.ref b)) (ru : RelV v u) (rv : RV G.K ρ H d v) {kvs : List (D × D)} {ents : List (NestedKey × Addr × Value)} (r : RDs G.K ρ H kvs ents) :
    RDs G.K ρ H (dput kvs nk k d) (storedH ents nk b u) := by
  unfold dput storedH
  rcases dget_of (nk := nk) r with ⟨e1, e2⟩ | ⟨d', v', u', b', e1, e2, _, _⟩
  · rw [e1, e2]
    exact r.app (.cons ek rk ru rv .nil)
  · rw [e1, e2]
    exact dset_of ru rv r
theorem stored_nodup {nk : NestedKey} {b : Addr} {u : Value} {ents : List (NestedKey × Addr × Value)} (nd : (ents.map (·.1)).Nodup) : ((storedH ents nk b u).map (·.1)).Nodup := by
  cases q : atKey ents nk with
  | some p =>
    rw [storedH_old q, keys_map_putAt]
    exact nd
  | none =>
    rw [storedH_new q, List.map_append, List.nodup_append]
    refine ⟨nd, by simp, fun x hx y hy => ?_⟩
    have hy' : y = nk := by simpa using hy
    subst hy'
    intro e
    subst e
    obtain ⟨z, hz, e⟩ := List.mem_map.mp hx
    unfold atKey at q
    rw [Option.map_eq_none_iff, List.find?_eq_none] at q
    exact q z hz (by simpa using e)

/-! ### rules -/
def rInD (G : Gx) (neg : Bool) : R2 := fun x y H Q => ∃ a b ents nk ρ kvs d, y = .ref a ∧ x = .ref b ∧ DicAt G.P G.w H a ents ∧ (ents.map (·.1)).Nodup ∧ RDs G.K ρ H kvs ents ∧ dkey d = some nk ∧ RV G.K ρ H d (.ref b) ∧ Q (.bl (if neg then !(atKey ents nk).isSome else (atKey ents nk).isSome)) H
theorem room_k {A : Around} (hu : A.units + 64 < cLine) : (nestedKind X.prog X.w).room A.in1 := by
  show A.in1.units + 8 < cLine
  have : A.in1.units = A.units + 1 := Around.in1_units A
  omega
theorem o_inD (hP : X.prog = G.P) (hW : X.w = G.w) (hK : X.K = G.K) (hu : X.A.units + 64 < cLine) : OpR X (compareOp .In) (rInD G false) := by
  intro pins s σ H x y v u Q I rx ry ⟨a, b, ents, nk, ρ, kvs, d, e1, e2, di, nd, rd, ek, rk, q⟩
  subst e1 e2
  cases rx
  cases ry
  obtain ⟨hm, hs, _⟩ := dic_of hP hW hK I di nd rd
  exact wpAny_in_heap (room_k (X := X) hu) (key_of hK I ek rk) hs hm ⟨.bl _, H, I.tok _, rfl, q⟩
theorem o_notInD (hP : X.prog = G.P) (hW : X.w = G.w) (hK : X.K = G.K) (hu : X.A.units + 64 < cLine) : OpR X (compareOp .NotIn) (rInD G true) := by
  intro pins s σ H x y v u Q I rx ry ⟨a, b, ents, nk, ρ, kvs, d, e1, e2, di, nd, rd, ek, rk, q⟩
  subst e1 e2
  cases rx
  cases ry
  obtain ⟨hm, hs, _⟩ := dic_of hP hW hK I di nd rd
  refine notIn_keyed (room_k (X := X) hu) (key_of hK I ek rk) hs ⟨ents, hm, rfl⟩ ⟨.bl _, H, I.tok _, rfl, ?_⟩
  rw [valueAt_pairsH, Option.isSome_map]
  exact q
def rIn2 (G : Gx) (neg : Bool) : R2 := fun x y H Q => rIn G.K neg x y H Q ∨ rInD G neg x y H Q
theorem d_in (neg : Bool) : Does2 G (rIn2 G neg) (cmp2 (if neg then .notIn else .inn)) := by
  intro d d' h ρ H v v' Q rh rv rv' p
  cases rv' with
  | @ref i a f =>
    cases q : h[i]? with
    | none => cases neg <;> (unfold cmp2 at p; dsimp only [ite_true, ite_false] at p; simp only [q] at p; exact p.elim)
    | some o =>
      cases o with
      | lst ys =>
        obtain ⟨us, x, y⟩ := lst_here rh q f
        by_cases c : (flat d && ys.all flat) = true
        · have c' := c
          rw [Bool.and_eq_true] at c'
          refine .inl ⟨a, us, rfl, .inl (SqL.of x), flat_of rv c'.1, flats_of y c'.2, ?_⟩
          rw [anyF_of rv c'.1 y c'.2]
          cases neg <;> (unfold cmp2 at p; simp [q, c] at p; exact fin1 rh (.bl _) p)
        · cases neg <;> (unfold cmp2 at p; simp [q, c] at p; exact p.elim)
      | dic kvs =>
        obtain ⟨ents, di, nd, rd⟩ := rh.obj i _ a q f
        cases z : dkey d with
        | none => cases neg <;> (unfold cmp2 at p; simp [q, z] at p; exact p.elim)
        | some nk =>
          have hb : ∃ b, v = .ref b := by
            unfold dkey at z
            cases rv with
            | tup st rs => exact ⟨_, rfl⟩
            | _ => cases z
          obtain ⟨b, rfl⟩ := hb
          refine .inr ⟨a, b, ents, nk, ρ, kvs, d, rfl, rfl, di, nd, rd, z, rv, ?_⟩
          have e : (dget kvs nk).isSome = (atKey ents nk).isSome := by
            rcases dget_of (nk := nk) rd with ⟨e1, e2⟩ | ⟨_, _, _, _, e1, e2, _, _⟩ <;> rw [e1, e2] <;> rfl
          rw [← e]
          cases neg <;> (simp only [cmp2, ite_true, ite_false, Bool.false_eq_true] at p; simp only [q, z] at p; exact fin1 rh (.bl _) p)
      | _ => cases neg <;> (unfold cmp2 at p; simp [q] at p; exact p.elim)
  | _ => cases neg <;> exact p.elim
/-- d[k] -/
def rIxD (G : Gx) : R2 := fun x y H Q => ∃ a b ents nk ρ kvs d bb u v, x = .ref a ∧ y = .ref b ∧ DicAt G.P G.w H a ents ∧ (ents.map (·.1)).Nodup ∧ RDs G.K ρ H kvs ents ∧ dkey d = some nk ∧ RV G.K ρ H d (.ref b) ∧ atKey ents nk = some (bb, u) ∧ RelV v u ∧ Q v H
theorem o_ixD (hP : X.prog = G.P) (hW : X.w = G.w) (hK : X.K = G.K) (hu : X.A.units + 64 < cLine) : IxR X (rIxD G) := by
  intro value slice pins s σ H x y v u Q I rx ry ⟨a, b, ents, nk, ρ, kvs, d, bb, w, z, e1, e2, di, nd, rd, ek, rk, ea, rz, q⟩ hs
  subst e1 e2
  cases rx
  cases ry
  obtain ⟨hm, hsy, _⟩ := dic_of hP hW hK I di nd rd
  refine tail_any hm.typeIs slot_dict_getitem.lookup (getItem_keyed (room_k (X := X) hu) (key_of hK I ek rk) ⟨ents, hm, rfl⟩ ?_ ⟨z, H, I.tok _, rz, q⟩) hs
  rw [valueAt_pairsH, ea]
  rfl
def rIx3 (G : Gx) : R2 := fun x y H Q => rIx2 G.K x y H Q ∨ rIxD G x y H Q
theorem o_ix3 (hP : X.prog = G.P) (hW : X.w = G.w) (hK : X.K = G.K) (hu : X.A.units + 64 < cLine) : IxR X (rIx3 G) := (o_ix hK).or (o_ixD hP hW hK hu)
theorem d_ix : Does2 G (rIx3 G) ix2 := by
  intro d d' h ρ H v v' Q rh rv rv' p
  cases rv with
  | @tup a vs xs st rs =>
    cases rv' with
    | int k =>
      have p : Post G ρ H (match at_ xs k with
        | some v => .ok (v, h)
        | none => .stuck) _ := p
      cases q : at_ xs k with
      | none => rw [q] at p; exact p.elim
      | some d =>
        rw [q] at p
        obtain ⟨v, e1, r1⟩ := rs.at_ q
        exact .inl (.inr ⟨a, vs, k, v, rfl, rfl, st, e1, fin1 rh r1 p⟩)
    | _ => exact p.elim
  | @cl a vs xs fz rs =>
    cases rv' with
    | int k =>
      have p : Post G ρ H (match at_ xs k with
        | some v => .ok (v, h)
        | none => .stuck) _ := p
      cases q : at_ xs k with
      | none => rw [q] at p; exact p.elim
      | some d =>
        rw [q] at p
        obtain ⟨v, e1, r1⟩ := rs.at_ q
        exact .inl (.inl ⟨a, vs, k, v, rfl, rfl, fz.sq, e1, fin1 rh r1 p⟩)
    | _ => exact p.elim
  | @ref i a f =>
    unfold ix2 at p
    dsimp only at p
    cases q : h[i]? with
    | none => rw [q] at p; exact p.elim
    | some o =>
      rw [q] at p
      cases o with
      | lst xs => exact .inl (.inl (sq_ix rh (lstAt_of q) f rv' p))
      | dic kvs =>
        dsimp only at p
        obtain ⟨ents, di, nd, rd⟩ := rh.obj i _ a q f
        cases z : dkey d' with
        | none => rw [z] at p; exact p.elim
        | some nk =>
          rw [z] at p
          dsimp only at p
          have hb : ∃ b, v' = .ref b := by
            unfold dkey at z
            cases rv' with
            | tup st rs => exact ⟨_, rfl⟩
            | _ => cases z
          obtain ⟨b, rfl⟩ := hb
          rcases dget_of (nk := nk) rd with ⟨e1, e2⟩ | ⟨d1, v1, u1, b1, e1, e2, r1, r2⟩
          · rw [e1] at p; exact p.elim
          · rw [e1] at p
            exact .inr ⟨a, b, ents, nk, ρ, kvs, d', b1, u1, v1, rfl, rfl, di, nd, rd, z, rv', e2, r1, fin1 rh r2 p⟩
      | ins _ _ => exact p.elim
  | _ => exact p.elim
/-- d[k] = v -/
def rSetD (G : Gx) : TSet := fun o i v H Q => ∃ a b ents nk ρ kvs d, o = .ref a ∧ i = .ref b ∧ DicAt G.P G.w H a ents ∧ (ents.map (·.1)).Nodup ∧ RDs G.K ρ H kvs ents ∧ dkey d = some nk ∧ RV G.K ρ H d (.ref b) ∧ ents.length ≤ sizeLine ∧
  ∀ u, RelV v u → (a == sysModules) = false → Q (upd H a (.ext (rawD G.P G.w a (storedH ents nk b u))))
theorem o_setD (hP : X.prog = G.P) (hW : X.w = G.w) (hK : X.K = G.K) (hu : X.A.units + 64 < cLine) : PSet X (rSetD G) := by
  intro pins s σ H o i v ov iv u Q I ro ri rv ⟨a, b, ents, nk, ρ, kvs, d, e1, e2, di, nd, rd, ek, rk, hz, q⟩
  subst e1 e2
  cases ro
  cases ri
  obtain ⟨hm, hsy, mu⟩ := dic_of hP hW hK I di nd rd
  refine wpAny_setItem_heap (hsz := hz) (room_k (X := X) hu) (key_of hK I ek rk) hm fun h' hm' hs => ?_
  obtain ⟨o, es, ep, ho, hc, hd, he, _, _⟩ := hm'
  have new : ObjOk X.prog X.w (upd H a (.ext (rawD G.P G.w a (storedH ents nk b u)))) h' a (.ext (rawD G.P G.w a (storedH ents nk b u))) := by
    refine ⟨⟨o, es, ep, ho, hc, hd, ?_⟩, ⟨o, ho⟩, fun h1 h2 ⟨o', es', ep', q1, q2, q3, q4⟩ k => ⟨o', es', ep', k _ q1, q2, q3, q4⟩⟩
    rw [← hP, ← hW]
    exact he
  exact ⟨_, I.write (t' := s.toks + _) mu (.inl rfl) (fun c w hc' e => (hs.2 c hc').trans e) ⟨o, ho⟩ new, q u rv hsy⟩
end
end SF
set_option Elab.async false
set_option linter.all false
set_option maxRecDepth 100000
set_option maxHeartbeats 1000000
/-! SFCall: calls of built-ins and of own defs, isinstance, list(d.values()). -/
namespace SF
open PySem PySem.Spec PyProof.Rows L2

/-- no star among arguments -/
def plainArg : Expr → Bool
  | .Starred _ _ => false
  | _ => true
theorem star_cons {a : Expr} (h : plainArg a = true) (es : List Expr) (env : Env) : starEach (a :: es) env = (false, eval a env) :: starEach es env := by
  cases a <;> first | rfl | cases h
theorem star_any : ∀ {es : List Expr} (h : es.all plainArg = true) (pos : Pos) (env : Env), (backTo pos (starEach es env)).any (·.1) = false
  | [], _, _, _ => rfl
  | a :: es, h, pos, env => by
    rw [List.all_cons, Bool.and_eq_true] at h
    rw [star_cons h.1]
    exact star_any h.2 pos env
theorem star_all : ∀ {es : List Expr} (h : es.all plainArg = true) (pos : Pos) (env : Env), (backTo pos (starEach es env)).all (fun x => !x.1) = true
  | [], _, _, _ => rfl
  | a :: es, h, pos, env => by
    rw [List.all_cons, Bool.and_eq_true] at h
    rw [star_cons h.1]
    exact star_all h.2 pos env
section
variable {G : Gx} {X : Cx} {a : Expr} {as : List Expr} {pos p apos cpos : Pos} {x : Str} {eas : En → Hh → R (List D × Hh)} {ea : En → Hh → R (D × Hh)} {id : String}
theorem s_bf {r : List V → Hp → VK → Prop} {f : List D → Hh → R (D × Hh)} (hc : CallR X (.builtin id) r) (df : DoesA G r f) (hg : Gl X x) (hm : X.mg x = none) (hv : bootBuiltins x = some (.builtin id)) (ha : PA X (a :: as) (tA G eas)) (hn : x ≠ "__name__") (hd : (x == ("__debug__" : Str)) = false)
    (hp : (a :: as).all plainArg = true) : PE X (.Call (.Name x p) (a :: as) [] pos) (tE G fun e h => eas e h >>= fun p => f p.1 p.2) := by
  rw [List.all_cons, Bool.and_eq_true] at hp
  exact (pe_callB hc hg hm hv ha hn hd (star_cons hp.1 _ _) (star_any hp.2 _ _)).weak fun _ _ _ q => callA df q
theorem s_bt {r : List V → Hp → VK → Prop} {f : List D → Hh → R (D × Hh)} (hc : CallR X (.type id) r) (df : DoesA G r f) (hg : Gl X x) (hm : X.mg x = none) (hv : bootBuiltins x = some (.type id)) (ha : PA X (a :: as) (tA G eas)) (hn : x ≠ "__name__") (hd : (x == ("__debug__" : Str)) = false)
    (hp : (a :: as).all plainArg = true) : PE X (.Call (.Name x p) (a :: as) [] pos) (tE G fun e h => eas e h >>= fun p => f p.1 p.2) := by
  rw [List.all_cons, Bool.and_eq_true] at hp
  exact (pe_callTy hc hg hm hv ha hn hd (star_cons hp.1 _ _) (star_any hp.2 _ _)).weak fun _ _ _ q => callA df q
theorem s_bfun {r : List V → Hp → VK → Prop} {f : List D → Hh → R (D × Hh)} (hc : CallR X (.builtin id) r) (df : DoesA G r f) (hg : Gl X x) (hm : X.mg x = some (.builtin id)) (ha : PA X (a :: as) (tA G eas)) (hd : (x == ("__debug__" : Str)) = false)
    (hp : (a :: as).all plainArg = true) : PE X (.Call (.Name x p) (a :: as) [] pos) (tE G fun e h => eas e h >>= fun p => f p.1 p.2) := by
  rw [List.all_cons, Bool.and_eq_true] at hp
  exact (pe_callBfun hc hg hm ha hd (star_cons hp.1 _ _) (star_any hp.2 _ _)).weak fun _ _ _ q => callA df q
/-- methods of lists -/
theorem lst_ty {ρ : List Addr} {H : Hp} {h : Hh} {d : D} {v : V} (rh : RH G ρ h H) (rv : RV G.K ρ H d v) (e : isLst h d = true) : tyV G.K "list" v H := by
  cases rv with
  | @ref i a f =>
    unfold isLst at e
    dsimp only at e
    cases q : h[i]? with
    | none => rw [q] at e; cases e
    | some o =>
      rw [q] at e
      cases o with
      | lst xs =>
        obtain ⟨vs, x, y⟩ := lst_here rh q f
        exact .inl ⟨rfl, vs, SqL.of x⟩
      | _ => cases e
  | _ => cases e
theorem s_bm {name : Str} {r : V → List V → Hp → VK → Prop} {b : Bm} (hK : X.K = G.K) (sl : Slot "list" name id) (hty : typeOf (.builtin id) = pure (.type "method_descriptor")) (hm : MtR X id r) (dm : DoesM G r b) (ho : PE X a (tE G ea)) {a1 : Expr} (ha : PA X (a1 :: as) (tA G eas))
    (hp : (a1 :: as).all plainArg = true) (hb : attributeBase a name X.env (eval a X.env) = eval a X.env) (hl : (apos.endLine == cpos.line) = true) (hf : (a1 :: as).length < 30) :
    PE X (.Call (.Attribute a name apos) (a1 :: as) [] cpos) (tE G fun e h => ea e h >>= fun p => if isLst p.2 p.1 then (eas e p.2 >>= fun q => bm2 b p.1 q.1 q.2) else .stuck) := by
  have hp' := hp
  rw [List.all_cons, Bool.and_eq_true] at hp'
  refine (pe_bm PySem.F.plainAttrs_list sl hty hm ho ha hb ?_ hl (star_cons hp'.1 _ _) (star_any hp'.2 _ _)).weak fun σ H Q q => ?_
  · have e1 : backToKw cpos (keywordEach [] X.env) = [] := rfl
    rw [star_all hp, e1]
    simpa using hf
  · obtain ⟨ρ, e, h, re, rh, p⟩ := q
    refine one (Q := Q) re rh p fun d h1 ρ1 H1 v g1 rh1 re1 rv p1 => ?_
    dsimp only at p1
    by_cases c : isLst h1 d = true
    · rw [if_pos c] at p1
      refine ⟨hK ▸ lst_ty rh1 rv c, oneA re1 rh1 p1 fun ds h2 ρ2 H2 vs g2 rh2 re2 rvs p2 => ?_⟩
      exact dm d ds h2 ρ2 H2 v vs Q rh2 (rv.mono g2) rvs p2
    · rw [if_neg c] at p1; exact p1.elim
theorem s_bm0 {name : Str} {r : V → List V → Hp → VK → Prop} {b : Bm} (hK : X.K = G.K) (sl : Slot "list" name id) (hty : typeOf (.builtin id) = pure (.type "method_descriptor")) (hm : MtR X id r) (dm : DoesM G r b) (ho : PE X a (tE G ea))
    (hb : attributeBase a name X.env (eval a X.env) = eval a X.env) (hl : (apos.endLine == cpos.line) = true) :
    PE X (.Call (.Attribute a name apos) [] [] cpos) (tE G fun e h => ea e h >>= fun p => if isLst p.2 p.1 then ((R.ok (([] : List D), p.2)) >>= fun q => bm2 b p.1 q.1 q.2) else .stuck) := by
  refine (pe_bm0 PySem.F.plainAttrs_list sl hty hm ho hb hl).weak fun σ H Q q => ?_
  obtain ⟨ρ, e, h, re, rh, p⟩ := q
  refine one (Q := Q) re rh p fun d h1 ρ1 H1 v g1 rh1 re1 rv p1 => ?_
  dsimp only at p1
  by_cases c : isLst h1 d = true
  · rw [if_pos c] at p1
    exact ⟨hK ▸ lst_ty rh1 rv c, dm d [] h1 ρ1 H1 v [] Q rh1 rv .nil p1⟩
  · rw [if_neg c] at p1; exact p1.elim

/-! ### isinstance -/
def Ty.name : Ty → String
  | .tuple => "tuple"
  | .list => "list"
  | .bool => "bool"
  | .int => "int"
  | .str => "str"
def Kd.name : Kd → String
  | .non => "NoneType"
  | .bl => "bool"
  | .int => "int"
  | .str => "str"
  | .tup => "tuple"
  | .lst => "list"
theorem kd_ok {K : PySem.W.Frag} (k : Kd) (t : Ty) : PySem.W.kitOne K (.type k.name) (.type t.name) = some (k.isA t) := by
  cases k <;> cases t <;> exact kit_ty (by decide +kernel)
theorem kds_ok {K : PySem.W.Frag} (k : Kd) : ∀ ts : List Ty, PySem.W.kitAny K (.type k.name) (ts.map fun t => .type t.name) = some (ts.any k.isA)
  | [] => rfl
  | t :: ts => by
    rw [List.map_cons, List.any_cons]
    unfold PySem.W.kitAny
    rw [kd_ok k t]
    cases k.isA t with
    | true => rfl
    | false => exact kds_ok k ts
theorem kd_ty {ρ : List Addr} {H : Hp} {h : Hh} {d : D} {v : V} {k : Kd} (rh : RH G ρ h H) (rv : RV G.K ρ H d v) (e : kdOf h d = some k) : TyX G.K H v (.type k.name) := by
  cases rv with
  | non => cases e; exact .base .non
  | bl b => cases e; exact .base (.bl b)
  | int i => cases e; exact .base (.int i)
  | str x => cases e; exact .base (.str x)
  | @tup a vs xs st rs =>
    cases e
    rcases st with (st | ⟨o, st⟩) | ⟨o, its, n, q, c, _⟩
    · exact .base (.tup st)
    · exact .fTuple st
    · exact .kTuple q c
  | cl _ _ => cases e
  | @ref i a f =>
    unfold kdOf at e
    dsimp only at e
    cases q : h[i]? with
    | none =>
      unfold lstAt at e
      rw [q] at e
      cases e
    | some o =>
      unfold lstAt at e
      rw [q] at e
      cases o with
      | lst xs =>
        cases e
        obtain ⟨vs, x, y⟩ := lst_here rh q f
        exact .base (.lst x)
      | _ => cases e
theorem boot_ty (t : Ty) : bootBuiltins (Str.ofString t.name) = some (.type t.name) := by
  cases t <;> decide +kernel
theorem ty_names (t : Ty) : Str.ofString t.name ≠ "__name__" ∧ (Str.ofString t.name == ("__debug__" : Str)) = false := by
  cases t <;> exact ⟨by decide +kernel, by decide +kernel⟩
/-- a type's name as a value -/
theorem pe_ty {t : Ty} {p : Pos} (hg : Gl X (Str.ofString t.name)) (hm : X.mg (Str.ofString t.name) = none) : PE X (.Name (Str.ofString t.name) p) (tC (.ty t.name)) :=
  pe_bltn hg hm (boot_ty t) (show RelV (.ty t.name) (.type t.name) from rfl) (ty_names t).1 (ty_names t).2
/-- names of types in a row -/
def tyNames : List Ty → List Expr → Bool
  | [], [] => true
  | t :: ts, .Name x _ :: es => decide (x = Str.ofString t.name) && tyNames ts es
  | _, _ => false
def tCs : List V → TA
  | [] => tNil
  | v :: vs => tCons (tC v) (tCs vs)
theorem pa_tys : ∀ {ts : List Ty} {es : List Expr}, tyNames ts es = true → (∀ t ∈ ts, Gl X (Str.ofString t.name) ∧ X.mg (Str.ofString t.name) = none) → PA X es (tCs (ts.map fun t => .ty t.name))
  | [], [], _, _ => pa_nil
  | [], _ :: _, h, _ => by cases h
  | _ :: _, [], h, _ => by cases h
  | t :: ts, e :: es, h, hf => by
    cases e with
    | Name y q =>
      unfold tyNames at h
      rw [Bool.and_eq_true, decide_eq_true_eq] at h
      obtain ⟨rfl, h2⟩ := h
      have f := hf t List.mem_cons_self
      exact pa_cons (pe_ty f.1 f.2) (pa_tys h2 fun u hu => hf u (List.mem_cons_of_mem _ hu)) rfl
    | _ => cases h
theorem tCs_run : ∀ {vs : List V} {σ : L2.St} {H : Hp} {Q : List V → Hp → Prop}, Q vs H → tCs vs σ H Q
  | [], _, _, _, q => q
  | v :: vs, σ, H, Q, q => tCs_run (vs := vs) (Q := fun xs H2 => Q (v :: xs) H2) q
theorem s_isi1 {t : Ty} {p1 : Pos} (hK : X.K = G.K) (ha : PE X a (tE G ea)) (hp : plainArg a = true) (hg : Gl X "isinstance") (hm : X.mg "isinstance" = none) (hgt : Gl X (Str.ofString t.name)) (hmt : X.mg (Str.ofString t.name) = none) :
    PE X (.Call (.Name "isinstance" p) [a, .Name (Str.ofString t.name) p1] [] pos) (tE G fun e h => ea e h >>= fun p => match tyAny p.2 p.1 [t] with
      | some b => .ok (.bl b, p.2)
      | none => .stuck) := by
  refine (pe_callB call_isi hg hm (by decide +kernel) (pa_cons ha (pa_cons (pe_ty hgt hmt) pa_nil rfl) (star_cons hp _ _)) (by decide) (by decide) (star_cons hp _ _) rfl).weak fun σ H Q q => ?_
  obtain ⟨ρ, e, h, re, rh, p⟩ := q
  refine one (Q := Q) re rh p fun d h1 ρ1 H1 v g1 rh1 re1 rv p1 => ?_
  dsimp only at p1
  unfold tyAny at p1
  cases z : kdOf h1 d with
  | none => rw [z] at p1; exact p1.elim
  | some k =>
    rw [z] at p1
    refine ⟨v, .ty t.name, .type k.name, .type t.name, k.isA t, rfl, .ty _, hK ▸ kd_ty rh1 rv z, kd_ok k t, ?_⟩
    have e1 : [t].any k.isA = k.isA t := by simp
    rw [← e1]
    exact fin1 rh1 (.bl _) p1
theorem s_isiN {ts : List Ty} {es : List Expr} {k1 : Nat} {p1 : Pos} (hK : X.K = G.K) (ha : PE X a (tE G ea)) (hp : plainArg a = true) (hg : Gl X "isinstance") (hm : X.mg "isinstance" = none) (ht : tyNames ts es = true) (hf : ∀ t ∈ ts, Gl X (Str.ofString t.name) ∧ X.mg (Str.ofString t.name) = none) (hl : ts.length ≤ 8) :
    PE X (.Call (.Name "isinstance" p) [a, .Tuple es k1 p1] [] pos) (tE G fun e h => ea e h >>= fun p => match tyAny p.2 p.1 ts with
      | some b => .ok (.bl b, p.2)
      | none => .stuck) := by
  refine (pe_callB call_isiT hg hm (by decide +kernel) (pa_cons ha (pa_cons (pe_tup (pa_tys ht hf)) pa_nil rfl) (star_cons hp _ _)) (by decide) (by decide) (star_cons hp _ _) rfl).weak fun σ H Q q => ?_
  obtain ⟨ρ, e, h, re, rh, p⟩ := q
  refine one (Q := Q) re rh p fun d h1 ρ1 H1 v g1 rh1 re1 rv p1 => ?_
  dsimp only at p1
  unfold tyAny at p1
  cases z : kdOf h1 d with
  | none => rw [z] at p1; exact p1.elim
  | some k =>
    rw [z] at p1
    refine tCs_run ⟨by rw [List.length_map]; exact Nat.le_trans hl (by decide), fun q nq => ?_⟩
    have g2 : Grow G.K ρ1 H1 ρ1 (upd H1 q (.tup (ts.map fun t => V.ty t.name))) := grow_new nq
    refine ⟨v, q, _, .type k.name, ts.map fun t => .type t.name, ts.any k.isA, rfl, upd_same, ?_, hK ▸ kd_ty (rh1.side nq) (rv.mono g2) z, kds_ok k ts, p1 ρ1 _ g2 (rh1.side nq) _ (.bl _)⟩
    clear p1 g2 ht hf hl p
    induction ts with
    | nil => exact .nil
    | cons t ts ih => exact .cons (.ty _) ih

/-! ### list(d.values()) -/
theorem rds_at {K : PySem.W.Frag} {ρ : List Addr} {H : Hp} : ∀ {kvs : List (D × D)} {ents : List (NestedKey × Addr × Value)}, RDs K ρ H kvs ents → ∃ vs, RVs K ρ H (kvs.map (·.2)) vs ∧ Vals vs (ents.map (·.2.2))
  | _, _, .nil => ⟨[], .nil, .nil⟩
  | _, _, .cons _ _ c d e => by
    obtain ⟨vs, r1, r2⟩ := rds_at e
    exact ⟨_ :: vs, .cons d r1, .cons c r2⟩
def DvP (G : Gx) (Q : VK) (v : V) (H1 : Hp) : Prop := ∃ (i : Nat) (aa : Addr) (kvs : List (D × D)) (ents : List (NestedKey × Addr × Value)) (ρ1 : List Addr) (h1 : Hh), v = .ref aa ∧ h1[i]? = some (O.dic kvs) ∧ RH G ρ1 h1 H1 ∧ ρ1[i]? = some aa ∧ DicAt G.P G.w H1 aa ents ∧ (ents.map (·.1)).Nodup ∧ RDs G.K ρ1 H1 kvs ents ∧ kvs.length ≤ sizeLine ∧
  Post G ρ1 H1 (.ok (D.ref h1.length, h1 ++ [O.lst (kvs.map (·.2))])) fun d _ ρ' H' => ∀ v, RV G.K ρ' H' d v → Q v H'
theorem s_dvals (hP : X.prog = G.P) (hW : X.w = G.w) (hK : X.K = G.K) (hc : X.calm = true) (ha : PE X a (tE G ea)) (hg : Gl X "list") (hm : X.mg "list" = none) (hb : attributeBase a "values" X.env (eval a X.env) = eval a X.env) (hl : (apos.endLine == cpos.line) = true) :
    PE X (.Call (.Name "list" p) [.Call (.Attribute a "values" apos) [] [] cpos] [] pos) (tE G fun e h => ea e h >>= fun p => dvals p.1 p.2) := by
  refine ⟨fun pins s σ H Q I hq => ?_⟩
  refine wpAny_Call_Name_kw (ld_blt I hg hm boot_list ?_)
  refine PyProof.Rows.callWith_type1 ?_ rfl rfl
  show wpAny _ _ (spliced [(false, eval (.Call (.Attribute a "values" apos) [] [] cpos) X.env)]) _ _ s
  refine Calls.spliced_cons ?_
  have q1 : tE G ea σ H (DvP G Q) := by
    obtain ⟨ρ, e, h, re, rh, p⟩ := hq
    refine one (Q := Q) re rh p fun d h1 ρ1 H1 v g1 rh1 re1 rv p1 => ?_
    cases rv with
    | @ref i aa f =>
      unfold dvals at p1
      dsimp only at p1
      cases q : h1[i]? with
      | none => rw [q] at p1; exact p1.elim
      | some o =>
        rw [q] at p1
        cases o with
        | dic kvs =>
          obtain ⟨ents, di, nd, rd⟩ := rh1.obj i _ aa q f
          dsimp only at p1
          by_cases c : kvs.length ≤ sizeLine
          · rw [if_pos c] at p1
            exact ⟨i, aa, kvs, ents, ρ1, h1, rfl, q, rh1, f, di, nd, rd, c, p1⟩
          · rw [if_neg c] at p1; exact p1.elim
        | _ => exact p1.elim
    | _ => exact p1.elim
  refine wpAny_Call_method (T := "dict") (id := "dict.values") hb rfl hl F.plainAttrs_dict F.slot_dict_values F.type_dict_values (thn (ha.run pins s σ H _ I q1) fun u s1 q2 => ?_)
  obtain ⟨x, H1, I1, rx, i, aa, kvs, ents, ρ1, h1, ex, ho, rh1, f, di, nd, rd, hz, q⟩ := q2
  subst ex
  obtain rfl : u = Value.ref aa := rx
  obtain ⟨hm1, hsy, _⟩ := dic_of hP hW hK I1 di nd rd
  obtain ⟨o, es, ep, ho1, hc1, hd1, he1, hi1, hn1⟩ := id hm1
  have raw : s1.heap.DictRaw aa es ep := ⟨o, ho1, hc1, hd1⟩
  have I2 : Inv X pins σ H1 { s1 with heap := s1.heap.push { cls := .type "dict_values", data := .fields #[.ref aa] } } := I1.kept (t' := s1.toks) fun b ob q => Heap.get?_push_of_some _ q
  have len : es.size = kvs.length := by
    rw [rd.length, ← List.length_map (f := entryOfKey (nestedKind X.prog X.w)), ← he1]
    simp
  refine ⟨raw.typeIs, ?_, ?_⟩
  · exact fun b e => ⟨o, by cases e; exact ho1, hc1.2.1⟩
  · show wpAny _ _ (callWith cpos (.builtin "dict.values") [.ref aa] [] []) _ X.xe s1
    refine method_meetsIn F.slot_dict_values F.entry_dict_values rfl (PySem.evalArgs_none ⟨rfl, raw.typeIs, F.args_dict_values_1 _, _, meets_dict_values_raw aa hsy, ⟨es, ep, raw⟩, ?_⟩)
    refine Calls.spliced_nil ?_
    refine PySem.W.kdl_call (KdlSrc.rawValues (prog := X.prog) (w := X.w) (d := aa) (es := es) (ep := ep)) (I1.ok.hd hc) ⟨⟨_, Heap.get?_push_size _ rfl, rfl, rfl⟩, raw.at fun o e => Heap.get?_push_of_some _ e⟩ (by omega) fun h' tk acc c hk hS hi => ?_
    obtain ⟨vs, r1, r2⟩ := rds_at rd
    have eacc : acc.toList = ents.map (·.2.2) := by
      apply List.ext_getElem?
      intro j
      by_cases hj : j < acc.size
      · have e1 : acc.toList[j]? = some acc[j] := by rw [Array.getElem?_toList, Array.getElem?_eq_getElem hj]
        obtain ⟨hjs, e2⟩ := hi.2 j acc[j] (Array.getElem?_eq_getElem hj)
        have e3 : es.toList[j]? = some es[j] := by rw [Array.getElem?_toList, Array.getElem?_eq_getElem hjs]
        rw [he1, List.getElem?_map] at e3
        obtain ⟨x, hx, e4⟩ := Option.map_eq_some_iff.mp e3
        rw [e1, List.getElem?_map, hx, e2, ← e4]
        rfl
      · have hj2 : acc.size ≤ j := Nat.le_of_not_lt hj
        rw [List.getElem?_eq_none (by simpa using hj2), List.getElem?_eq_none]
        rw [List.length_map, ← rd.length, ← len, ← hi.1]
        exact hj2
    have nS : H1 (s1.heap.push { cls := .type "dict_values", data := .fields #[.ref aa] }).objs.size = none := I2.hok.fresh (Nat.le_refl _)
    have lv : vs.length = kvs.length := by rw [← r1.length, List.length_map]
    have new : ObjOk X.prog X.w (upd H1 (s1.heap.push { cls := .type "dict_values", data := .fields #[.ref aa] }).objs.size (.lst vs)) h' (s1.heap.push { cls := .type "dict_values", data := .fields #[.ref aa] }).objs.size (.lst vs) :=
      ⟨by omega, acc.toList, c, by rw [eacc]; exact r2, by rw [Array.toArray_toList]; exact hS⟩
    have I3 := I2.laid (t' := tk) hk (Nat.le_refl _) new
    exact ⟨.ref _, _, I3, rfl, finL rh1 r1 q _ nS⟩
end
end SF
set_option Elab.async false
set_option linter.all false
set_option maxRecDepth 100000
set_option maxHeartbeats 1000000
/-! SFIter: what loops and comprehensions walk. -/
namespace SF
open PySem PySem.Spec PyProof.Rows L2

structure ItOk (G : Gx) (ρ : List Addr) (H : Hp) (it : It) (J : L2.It) : Prop where
  go : ∀ (ρ' : List Addr) (H' : Hp) (h : Hh) (i : Nat) (d : D), Grow0 G.K ρ H ρ' H' → RH G ρ' h H' → It.next h it i = some (some d) →
    J.go i H' ∧ ∀ x H2, J.yld i H' x H2 → Grow G.K ρ' H' ρ' H2 ∧ RH G ρ' h H2 ∧ RV G.K ρ' H2 d x
  stop : ∀ (ρ' : List Addr) (H' : Hp) (h : Hh) (i : Nat), Grow0 G.K ρ H ρ' H' → RH G ρ' h H' → It.next h it i = some none → J.stop i H'
theorem ItOk.mono {G : Gx} {ρ ρ' : List Addr} {H H' : Hp} {it : It} {J : L2.It} (g : Grow0 G.K ρ H ρ' H') (k : ItOk G ρ H it J) : ItOk G ρ' H' it J :=
  ⟨fun ρ2 H2 h i d g2 => k.go ρ2 H2 h i d (g.trans g2), fun ρ2 H2 h i g2 => k.stop ρ2 H2 h i (g.trans g2)⟩
section
variable {G : Gx} {ρ : List Addr} {H : Hp} {h : Hh}
theorem lstAt_sq {i : Nat} {a : Addr} {xs : List D} (rh : RH G ρ h H) (f : ρ[i]? = some a) (e : lstAt h i = some xs) : ∃ vs, SqL G.K H a vs ∧ RVs G.K ρ H xs vs := by
  unfold lstAt at e
  cases q : h[i]? with
  | none => rw [q] at e; cases e
  | some o =>
    rw [q] at e
    cases o with
    | lst ys =>
      cases e
      obtain ⟨vs, x, y⟩ := rh.obj i _ a q f
      exact ⟨vs, .inl (.inl x), y⟩
    | _ => cases e
theorem turnAt_of {xs : List D} {k : Nat} {r : Option D} (e : turnAt xs k = some r) : xs[k]? = r ∧ k ≤ xs.length := by
  unfold turnAt at e
  by_cases c : k ≤ xs.length
  · rw [if_pos c] at e; exact ⟨Option.some.inj e, c⟩
  · rw [if_neg c] at e; cases e
theorem next_lst {i : Nat} {k : Nat} {r : Option D} (e : It.next h (.lst i) k = some r) : ∃ xs, lstAt h i = some xs ∧ xs[k]? = r ∧ k ≤ xs.length := by
  unfold It.next at e
  cases q : lstAt h i with
  | none => rw [q] at e; cases e
  | some xs =>
    rw [q] at e
    exact ⟨xs, rfl, turnAt_of e⟩
theorem next_tup {xs : List D} {k : Nat} {r : Option D} (e : It.next h (.tup xs) k = some r) : xs[k]? = r ∧ k ≤ xs.length := by
  unfold It.next at e
  exact turnAt_of e
theorem it_lst {i : Nat} {a : Addr} (f : ρ[i]? = some a) : ItOk G ρ H (.lst i) (Itl G.K a) := by
  refine ⟨fun ρ' H' h k d g rh e => ?_, fun ρ' H' h k g rh e => ?_⟩
  · obtain ⟨xs, e1, e2, hk⟩ := next_lst e
    obtain ⟨vs, sq, rv⟩ := lstAt_sq rh (g.pre _ _ f) e1
    obtain ⟨v, ev, rd⟩ := rv.get e2
    refine ⟨⟨vs, v, sq, ev⟩, fun x H2 y => ?_⟩
    obtain ⟨e3, e4⟩ := y
    subst e3
    have e5 := e4 vs sq
    rw [ev] at e5
    cases e5
    exact ⟨.refl, rh, rd⟩
  · obtain ⟨xs, e1, e2, hk⟩ := next_lst e
    obtain ⟨vs, sq, rv⟩ := lstAt_sq rh (g.pre _ _ f) e1
    exact ⟨vs, sq, by rw [← rv.length]; exact List.getElem?_eq_none_iff.mp e2⟩
theorem it_tup {a : Addr} {xs : List D} {vs : List V} (sq : SqT G.K H a vs) (rv : RVs G.K ρ H xs vs) : ItOk G ρ H (.tup xs) (Itt G.K a) := by
  refine ⟨fun ρ' H' h k d g rh e => ?_, fun ρ' H' h k g rh e => ?_⟩
  · have sq' := g.tup _ _ sq
    obtain ⟨v, ev, rd⟩ := (rv.mono0 g).get (next_tup e).1
    refine ⟨⟨vs, v, sq', ev⟩, fun x H2 y => ?_⟩
    obtain ⟨e3, e4⟩ := y
    subst e3
    have e5 := e4 vs sq'
    rw [ev] at e5
    cases e5
    exact ⟨.refl, rh, rd⟩
  · exact ⟨vs, g.tup _ _ sq, by rw [← rv.length]; exact List.getElem?_eq_none_iff.mp (next_tup e).1⟩
theorem next_rng {lo step : Int} {n k : Nat} {r : Option D} (e : It.next h (.rng lo step n) k = some r) : (k < n ∧ r = some (.int (lo + k * step))) ∨ (n ≤ k ∧ r = none) := by
  unfold It.next at e
  have e := Option.some.inj e
  by_cases c : k < n
  · rw [if_pos c] at e; exact .inl ⟨c, e.symm⟩
  · rw [if_neg c] at e; exact .inr ⟨Nat.le_of_not_lt c, e.symm⟩
theorem it_rng {lo : Int} {n : Nat} : ItOk G ρ H (.rng lo 1 n) (Itr lo n) := by
  refine ⟨fun ρ' H' h k d g rh e => ?_, fun ρ' H' h k g rh e => ?_⟩
  · rcases next_rng e with ⟨c, e1⟩ | ⟨_, e1⟩
    · cases e1
      refine ⟨c, fun x H2 y => ?_⟩
      obtain ⟨e3, e4⟩ := y
      subst e3 e4
      rw [Int.mul_one]
      exact ⟨.refl, rh, .int _⟩
    · cases e1
  · rcases next_rng e with ⟨c, e1⟩ | ⟨c, _⟩
    · cases e1
    · exact c
theorem it_rngd {lo : Int} {n : Nat} : ItOk G ρ H (.rng lo (-1) n) (Itc lo (-1) n) := by
  refine ⟨fun ρ' H' h k d g rh e => ?_, fun ρ' H' h k g rh e => ?_⟩
  · rcases next_rng e with ⟨c, e1⟩ | ⟨_, e1⟩
    · cases e1
      refine ⟨c, fun x H2 y => ?_⟩
      obtain ⟨e3, e4⟩ := y
      subst e3 e4
      exact ⟨.refl, rh, .int _⟩
    · cases e1
  · rcases next_rng e with ⟨c, e1⟩ | ⟨c, _⟩
    · cases e1
    · exact c
theorem next_enum {t : It} {k : Nat} {r : Option D} (e : It.next h (.enum t) k = some r) : (∃ d, It.next h t k = some (some d) ∧ r = some (.tup [.int k, d])) ∨ (It.next h t k = some none ∧ r = none) := by
  unfold It.next at e
  split at e
  · rename_i d q
    exact .inl ⟨d, q, (Option.some.inj e).symm⟩
  · rename_i q
    exact .inr ⟨q, (Option.some.inj e).symm⟩
  · cases e
theorem pair_new {T : Addr} {x y : V} {d d' : D} (rh : RH G ρ h H) (n : H T = none) (r1 : RV G.K ρ H d x) (r2 : RV G.K ρ H d' y) :
    Grow G.K ρ H ρ (upd H T (.tup [x, y])) ∧ RH G ρ h (upd H T (.tup [x, y])) ∧ RV G.K ρ (upd H T (.tup [x, y])) (.tup [d, d']) (.ref T) :=
  ⟨grow_new n, rh.side n, .tup (SqT.of upd_same) (.cons (r1.mono (grow_new n)) (.cons (r2.mono (grow_new n)) .nil))⟩
theorem it_enum {i : Nat} {a : Addr} (f : ρ[i]? = some a) : ItOk G ρ H (.enum (.lst i)) (Ite G.K a) := by
  refine ⟨fun ρ' H' h k d g rh e => ?_, fun ρ' H' h k g rh e => ?_⟩
  · rcases next_enum e with ⟨d0, q, e1⟩ | ⟨_, e1⟩
    · cases e1
      obtain ⟨xs, e1, e2, hk⟩ := next_lst q
      obtain ⟨vs, sq, rv⟩ := lstAt_sq rh (g.pre _ _ f) e1
      obtain ⟨v, ev, rd⟩ := rv.get e2
      refine ⟨⟨vs, v, sq, ev⟩, fun x H2 y => ?_⟩
      obtain ⟨T, x', e3, n, e4, e5⟩ := y
      subst e3 e4
      have e6 := e5 vs sq
      rw [ev] at e6
      cases e6
      exact pair_new rh n (.int _) rd
    · cases e1
  · rcases next_enum e with ⟨d0, q, e1⟩ | ⟨q, _⟩
    · cases e1
    · obtain ⟨xs, e1, e2, hk⟩ := next_lst q
      obtain ⟨vs, sq, rv⟩ := lstAt_sq rh (g.pre _ _ f) e1
      exact ⟨vs, sq, by rw [← rv.length]; exact List.getElem?_eq_none_iff.mp e2⟩
theorem next_zip {t u : It} {k : Nat} {r : Option D} (e : It.next h (.zip t u) k = some r) : (∃ d d', It.next h t k = some (some d) ∧ It.next h u k = some (some d') ∧ r = some (.tup [d, d'])) ∨
    (∃ r1 r2, It.next h t k = some r1 ∧ It.next h u k = some r2 ∧ (r1 = none ∨ r2 = none) ∧ r = none) := by
  unfold It.next at e
  split at e
  · rename_i d d' q q'
    exact .inl ⟨d, d', q, q', (Option.some.inj e).symm⟩
  · rename_i r2 q q'
    exact .inr ⟨none, r2, q, q', .inl rfl, (Option.some.inj e).symm⟩
  · rename_i d q q'
    exact .inr ⟨some d, none, q, q', .inr rfl, (Option.some.inj e).symm⟩
  · cases e
/-- tuple and list -/
def Itm (K : PySem.W.Frag) (a b : Addr) : L2.It :=
  ⟨fun i H => ∃ (us ws : List V) (x y : V), SqT K H a us ∧ SqL K H b ws ∧ us[i]? = some x ∧ ws[i]? = some y,
    fun i H v H' => ∃ T x y, v = .ref T ∧ H T = none ∧ H' = upd H T (.tup [x, y]) ∧ (∀ us, SqT K H a us → us[i]? = some x) ∧ ∀ ws, SqL K H b ws → ws[i]? = some y,
    fun i H => ∃ us ws : List V, SqT K H a us ∧ SqL K H b ws ∧ i ≤ us.length ∧ i ≤ ws.length ∧ (i = us.length ∨ i = ws.length)⟩
/-- what both sides of a zip are -/
theorem side_lst {ρ' : List Addr} {H' : Hp} {i k : Nat} {a : Addr} {r : Option D} (g : Grow0 G.K ρ H ρ' H') (rh : RH G ρ' h H') (f : ρ[i]? = some a) (q : It.next h (.lst i) k = some r) :
    ∃ vs, SqL G.K H' a vs ∧ (∀ d, r = some d → ∃ v, vs[k]? = some v ∧ RV G.K ρ' H' d v) ∧ k ≤ vs.length ∧ (r = none → vs.length ≤ k) := by
  obtain ⟨xs, e1, e2, hk⟩ := next_lst q
  obtain ⟨vs, sq, rv⟩ := lstAt_sq rh (g.pre _ _ f) e1
  refine ⟨vs, sq, fun d e => rv.get (e2.trans e), by rw [← rv.length]; exact hk, fun e => ?_⟩
  rw [← rv.length]
  exact List.getElem?_eq_none_iff.mp (e2.trans e)
theorem side_tup {ρ' : List Addr} {H' : Hp} {xs : List D} {k : Nat} {a : Addr} {us : List V} {r : Option D} (g : Grow0 G.K ρ H ρ' H') (sq : SqT G.K H a us) (rv : RVs G.K ρ H xs us) (q : It.next h (.tup xs) k = some r) :
    ∃ vs, SqT G.K H' a vs ∧ (∀ d, r = some d → ∃ v, vs[k]? = some v ∧ RV G.K ρ' H' d v) ∧ k ≤ vs.length ∧ (r = none → vs.length ≤ k) := by
  obtain ⟨e2, hk⟩ := next_tup q
  refine ⟨us, g.tup _ _ sq, fun d e => (rv.mono0 g).get (e2.trans e), by rw [← rv.length]; exact hk, fun e => ?_⟩
  rw [← rv.length]
  exact List.getElem?_eq_none_iff.mp (e2.trans e)
theorem it_zipL {i j : Nat} {a b : Addr} (f : ρ[i]? = some a) (f' : ρ[j]? = some b) : ItOk G ρ H (.zip (.lst i) (.lst j)) (Itz G.K a b) := by
  refine ⟨fun ρ' H' h k d g rh e => ?_, fun ρ' H' h k g rh e => ?_⟩
  · rcases next_zip e with ⟨d1, d2, q, q', e1⟩ | ⟨_, _, _, _, _, e1⟩
    · cases e1
      obtain ⟨vs, sq, k1, _, _⟩ := side_lst g rh f q
      obtain ⟨us, sq', k2, _, _⟩ := side_lst g rh f' q'
      obtain ⟨v, ev, rd⟩ := k1 _ rfl
      obtain ⟨u, eu, rd'⟩ := k2 _ rfl
      refine ⟨⟨vs, us, v, u, sq, sq', ev, eu⟩, fun x H2 y => ?_⟩
      obtain ⟨T, x1, x2, e3, n, e4, e5, e6⟩ := y
      subst e3 e4
      have z1 := e5 vs sq
      have z2 := e6 us sq'
      rw [ev] at z1
      rw [eu] at z2
      cases z1
      cases z2
      exact pair_new rh n rd rd'
    · cases e1
  · rcases next_zip e with ⟨d1, d2, q, q', e1⟩ | ⟨r1, r2, q, q', o, _⟩
    · cases e1
    · obtain ⟨vs, sq, _, l1, k1⟩ := side_lst g rh f q
      obtain ⟨us, sq', _, l2, k2⟩ := side_lst g rh f' q'
      exact ⟨vs, us, sq, sq', o.imp k1 k2⟩
theorem it_zipT {xs ys : List D} {us ws : List V} {a b : Addr} (s1 : SqT G.K H a us) (r1 : RVs G.K ρ H xs us) (s2 : SqT G.K H b ws) (r2 : RVs G.K ρ H ys ws) : ItOk G ρ H (.zip (.tup xs) (.tup ys)) (RZ.ItzT G.K a b) := by
  refine ⟨fun ρ' H' h k d g rh e => ?_, fun ρ' H' h k g rh e => ?_⟩
  · rcases next_zip e with ⟨d1, d2, q, q', e1⟩ | ⟨_, _, _, _, _, e1⟩
    · cases e1
      obtain ⟨vs, sq, k1, _, _⟩ := side_tup g s1 r1 q
      obtain ⟨us, sq', k2, _, _⟩ := side_tup g s2 r2 q'
      obtain ⟨v, ev, rd⟩ := k1 _ rfl
      obtain ⟨u, eu, rd'⟩ := k2 _ rfl
      refine ⟨⟨vs, us, v, u, sq, sq', ev, eu⟩, fun x H2 y => ?_⟩
      obtain ⟨T, x1, x2, e3, n, e4, e5, e6⟩ := y
      subst e3 e4
      have z1 := e5 vs sq
      have z2 := e6 us sq'
      rw [ev] at z1
      rw [eu] at z2
      cases z1
      cases z2
      exact pair_new rh n rd rd'
    · cases e1
  · rcases next_zip e with ⟨d1, d2, q, q', e1⟩ | ⟨_, _, q, q', o, _⟩
    · cases e1
    · obtain ⟨vs, sq, _, l1, k1⟩ := side_tup g s1 r1 q
      obtain ⟨us, sq', _, l2, k2⟩ := side_tup g s2 r2 q'
      exact ⟨vs, us, sq, sq', o.imp k1 k2⟩
theorem it_zipM {xs : List D} {us : List V} {j : Nat} {a b : Addr} (s1 : SqT G.K H a us) (r1 : RVs G.K ρ H xs us) (f' : ρ[j]? = some b) : ItOk G ρ H (.zip (.tup xs) (.lst j)) (Itm G.K a b) := by
  refine ⟨fun ρ' H' h k d g rh e => ?_, fun ρ' H' h k g rh e => ?_⟩
  · rcases next_zip e with ⟨d1, d2, q, q', e1⟩ | ⟨_, _, _, _, _, e1⟩
    · cases e1
      obtain ⟨vs, sq, k1, _, _⟩ := side_tup g s1 r1 q
      obtain ⟨us, sq', k2, _, _⟩ := side_lst g rh f' q'
      obtain ⟨v, ev, rd⟩ := k1 _ rfl
      obtain ⟨u, eu, rd'⟩ := k2 _ rfl
      refine ⟨⟨vs, us, v, u, sq, sq', ev, eu⟩, fun x H2 y => ?_⟩
      obtain ⟨T, x1, x2, e3, n, e4, e5, e6⟩ := y
      subst e3 e4
      have z1 := e5 vs sq
      have z2 := e6 us sq'
      rw [ev] at z1
      rw [eu] at z2
      cases z1
      cases z2
      exact pair_new rh n rd rd'
    · cases e1
  · rcases next_zip e with ⟨d1, d2, q, q', e1⟩ | ⟨_, _, q, q', o, _⟩
    · cases e1
    · obtain ⟨vs, sq, _, l1, k1⟩ := side_tup g s1 r1 q
      obtain ⟨us, sq', _, l2, k2⟩ := side_lst g rh f' q'
      exact ⟨vs, us, sq, sq', l1, l2, o.imp (fun z => Nat.le_antisymm l1 (k1 z)) fun z => Nat.le_antisymm l2 (k2 z)⟩
end

/-! ### zip of a tuple and a list -/
theorem apart_t {h : Heap} {a i : Addr} {xs : Array Value} {n : Nat} (t : h.IsTuple a xs) (c : h.IsTupleIter i a n) : a ≠ i := fun e => by
  obtain ⟨o, e1, _, e2⟩ := t
  obtain ⟨o', e3, _, e4⟩ := c
  rw [e, e3] at e1
  cases e1
  rw [e4] at e2
  simp at e2
theorem apart_l {h : Heap} {a i : Addr} {xs : Array Value} {n : Nat} (t : h.IsList a xs) (c : h.IsListIter i a n) : a ≠ i := fun e => by
  obtain ⟨o, e1, _, e2⟩ := t
  obtain ⟨o', e3, _, e4⟩ := c
  rw [e, e3] at e1
  cases e1
  rw [e4] at e2
  simp at e2
theorem turn_zipM {P : Program} {w : World} {K : PySem.W.Frag} {elts : List Expr} {kk : Nat} {tpos : Pos} {a b z TI TO i1 i2 : Addr} (S : ZipSep2 z TI TO i1 i2 [i1, a] [i2, b]) :
    Turn P w K (.Tuple elts kk tpos) (Itm K a b) [z, TI, TO, i1, i2] z (fun n h => IsZip h z TI TO .none ∧ IsTupOf2 h TI (.ref i1) (.ref i2) ∧ (∃ x y, IsTupOf2 h TO x y) ∧ h.IsTupleIter i1 a n ∧ h.IsListIter i2 b n) where
  mem := List.mem_cons_self
  obj := fun n h st c hc => by
    obtain ⟨cz, cI, ⟨_, _, cO⟩, ⟨p1, g1, _, d1⟩, ⟨p2, g2, _, d2⟩⟩ := st
    simp only [List.mem_cons, List.not_mem_nil, or_false] at hc
    rcases hc with rfl | rfl | rfl | rfl | rfl
    · exact ⟨_, cz, fun _ z => nomatch z⟩
    · exact ⟨_, cI, fun _ z => nomatch z⟩
    · exact ⟨_, cO, fun _ z => nomatch z⟩
    · exact ⟨p1, g1, fun _ z => by rw [d1] at z; cases z⟩
    · exact ⟨p2, g2, fun _ z => by rw [d2] at z; cases z⟩
  keep := fun n h h' st k => by
    obtain ⟨cz, cI, ⟨_, _, cO⟩, c1, c2⟩ := st
    exact ⟨k _ (by simp) _ cz, k _ (by simp) _ cI, ⟨_, _, k _ (by simp) _ cO⟩, c1.at fun o q => k _ (by simp) o q, c2.at fun o q => k _ (by simp) o q⟩
  item := fun X hP hw hK hc n pins s σ H E I hf st hg => by
    subst hP hw hK
    obtain ⟨cz, cI, ⟨x0, y0, cO⟩, c1, c2⟩ := st
    obtain ⟨us, ws, x, y, qx, qy, ex, ey⟩ := hg
    obtain ⟨ia, ra, pa, _⟩ := I.tuple qx
    obtain ⟨ib, rb, pb, _⟩ := I.list qy
    obtain ⟨u, hu, ru⟩ := ra.get ex
    obtain ⟨u', hu', ru'⟩ := rb.get ey
    have hd := I.ok.hd hc
    have ta : s.heap.IsTuple a ia.toArray := pa
    have lb := pb.isList
    have n1 : n < ia.toArray.size := by rw [List.size_toArray]; exact (List.getElem?_eq_some_iff.mp hu).1
    have n2 : n < ib.toArray.size := by rw [List.size_toArray]; exact (List.getElem?_eq_some_iff.mp hu').1
    have zl : z < s.heap.objs.size := Heap.lt_size cz
    refine wpAny_pyNext_zipD2_item S (Draws.tuple (A := X.A.in1) hd i1 a (apart_t ta c1) ia.toArray) (Draws.list (A := X.A.in1) hd i2 b (apart_l lb c2) ib.toArray) cz cI cO ⟨c1, ta⟩ ⟨c2, lb⟩ n1 n2 fun v1 v2 h1 tk m1 m2 cz1 cO1 t1 t2 cT sz kp => ?_
    have m1' : v1 = u := by
      have m1 : ia.toArray[n]? = some v1 := m1
      rw [List.getElem?_toArray, hu] at m1
      exact (Option.some.inj m1).symm
    have m2' : v2 = u' := by
      have m2 : ib.toArray[n]? = some v2 := m2
      rw [List.getElem?_toArray, hu'] at m2
      exact (Option.some.inj m2).symm
    subst m1' m2'
    refine ⟨_, rfl, wpAny_letOwnedTupleGo_zip (s := { s with heap := h1, toks := tk }) cz1 fun h2 cz2 sb => ?_⟩
    have cT2 : h2.get? s.heap.objs.size = some { cls := .type "tuple", data := .seq #[v1, v2] } := (sb.2 _ (Nat.ne_of_gt zl)).trans cT
    have new : ObjOk X.prog X.w (upd H s.heap.objs.size (.tup [x, y])) h2 s.heap.objs.size (.tup [x, y]) := ⟨show 2 ≤ sizeLine by decide, [v1, v2], .cons ru (.cons ru' .nil), ⟨_, cT2, rfl, _, rfl⟩⟩
    have I1 : Inv X pins σ (upd H s.heap.objs.size (.tup [x, y])) { s with heap := h2, toks := tk } :=
      I.turnedNew (ch := [z, TI, TO, i1, i2]) (fun c o hb q => by
        simp only [List.mem_cons, List.not_mem_nil, or_false, not_or] at hb
        exact (sb.2 c hb.1).trans (kp c o hb.1 hb.2.2.1 hb.2.2.2.1 hb.2.2.2.2 q)) hf (Nat.le_refl _) new
    refine ⟨.ref s.heap.objs.size, _, I1, rfl, ⟨_, x, y, rfl, I.hok.fresh (Nat.le_refl _), rfl, fun l hl => by rw [I.tuple_inj hl qx]; exact ex, fun l hl => by rw [I.list_inj hl qy]; exact ey⟩,
      ⟨cz2, (sb.2 _ S.TIz).trans (kp _ _ S.TIz S.TITO S.TIi1 S.TIi2 cI), ⟨_, _, (sb.2 _ S.TOz).trans cO1⟩, t1.1.at fun o q => (sb.2 _ (Ne.symm S.zi1)).trans q, t2.1.at fun o q => (sb.2 _ (Ne.symm S.zi2)).trans q⟩, fun c hc => ?_⟩
    have lt : c < s.heap.objs.size := by
      have hc' := hc
      simp only [List.mem_cons, List.not_mem_nil, or_false] at hc'
      rcases hc' with rfl | rfl | rfl | rfl | rfl
      · exact zl
      · exact Heap.lt_size cI
      · exact Heap.lt_size cO
      · obtain ⟨_, e1, _⟩ := c1; exact Heap.lt_size e1
      · obtain ⟨_, e1, _⟩ := c2; exact Heap.lt_size e1
    rw [upd_ne (Nat.ne_of_lt lt)]
    exact (hf c hc).1
  done := fun X hP hw hK hc n pins s σ H E I hf st hg => by
    subst hP hw hK
    obtain ⟨cz, cI, ⟨x0, y0, cO⟩, c1, c2⟩ := st
    obtain ⟨us, ws, qx, qy, l1, l2, hend⟩ := hg
    obtain ⟨ia, ra, pa, _⟩ := I.tuple qx
    obtain ⟨ib, rb, pb, _⟩ := I.list qy
    have hd := I.ok.hd hc
    have ta : s.heap.IsTuple a ia.toArray := pa
    have lb := pb.isList
    have z1 : us.length = ia.toArray.size := by rw [List.size_toArray]; exact ra.length
    have z2 : ws.length = ib.toArray.size := by rw [List.size_toArray]; exact rb.length
    rw [z1] at l1 hend
    rw [z2] at l2 hend
    refine wpAny_pyNext_zipD2_end S (Draws.tuple (A := X.A.in1) hd i1 a (apart_t ta c1) ia.toArray) (Draws.list (A := X.A.in1) hd i2 b (apart_l lb c2) ib.toArray) cz cI cO ⟨c1, ta⟩ ⟨c2, lb⟩ l1 l2 hend fun h1 tk kp => ⟨rfl, ?_⟩
    exact I.turnedL (ch := [z, TI, TO, i1, i2]) (fun c o hb q => by
      simp only [List.mem_cons, List.not_mem_nil, or_false, not_or] at hb
      exact kp c o hb.1 hb.2.2.1 hb.2.2.2.1 hb.2.2.2.2 q) hf
  self := fun A n s Q E st q => wpAny_pyIter_zip st.1 q
end SF
set_option Elab.async false
set_option linter.all false
set_option maxRecDepth 100000
set_option maxHeartbeats 1000000
/-! SFStm: walks, targets, statements, comprehensions, own calls. -/
namespace SF
open PySem PySem.Spec PyProof.Rows L2

theorem _root_.L2.PI.weak {X : Cx} {tg it : Expr} {t t' : TI} (p : PI X tg it t) (f : ∀ σ H R, t' σ H R → t σ H R) : PI X tg it t' := ⟨fun pins s σ H R I q => p.run pins s σ H R I (f σ H R q)⟩
theorem _root_.L2.PG.weak {X : Cx} {tg : Expr} {t t' : TG} (p : PG X tg t) (f : ∀ v σ H Q, t' v σ H Q → t v σ H Q) : PG X tg t' := ⟨fun pins s σ H v u Q I r q => p.run pins s σ H v u Q I r (f v σ H Q q)⟩
theorem _root_.L2.PGs.weak {X : Cx} {tg : List Expr} {t t' : TGs} (p : PGs X tg t) (f : ∀ v σ H Q, t' v σ H Q → t v σ H Q) : PGs X tg t' := ⟨fun pins s σ H v u Q I r q => p.run pins s σ H v u Q I r (f v σ H Q q)⟩
theorem _root_.L2.PS.weak {X : Cx} {st : Stmt} {t t' : TS} (p : PS X st t) (f : ∀ D σ H, t' D σ H → t D σ H) : PS X st t' := ⟨fun pins s σ H D I q => p.run pins s σ H D I (f D σ H q)⟩
theorem _root_.L2.PSs.weak {X : Cx} {st : List Stmt} {t t' : TS} (p : PSs X st t) (f : ∀ D σ H, t' D σ H → t D σ H) : PSs X st t' := ⟨fun pins s σ H D I q => p.run pins s σ H D I (f D σ H q)⟩
theorem _root_.L2.PTs.weak {X : Cx} {st : List Expr} {t t' : TT} (p : PTs X st t) (f : ∀ σ H Q, t' σ H Q → t σ H Q) : PTs X st t' := ⟨fun pins s σ H Q I q => p.run pins s σ H Q I (f σ H Q q)⟩

/-! ### walks -/
def tI (G : Gx) (ev : En → Hh → R (It × Hh)) : TI := fun σ H Q => ∃ ρ e h, REn G ρ H e σ ∧ RH G ρ h H ∧ Post G ρ H (ev e h) fun it _ ρ' H' => ∀ J, ItOk G ρ' H' it J → Q J H'
def iSeq (K : PySem.W.Frag) (tl : TE) : TI := fun σ H Q => tl σ H fun x H1 => ∃ a, x = .ref a ∧ (((∃ xs, SqL K H1 a xs) ∧ Q (Itl K a) H1) ∨ ((∃ xs, SqT K H1 a xs) ∧ Q (Itt K a) H1))
section
variable {G : Gx} {X : Cx} {a b tg : Expr} {pos p tpos : Pos} {ea eb : En → Hh → R (D × Hh)} {elts : List Expr} {kk : Nat}
theorem pi_seq {l : Expr} {tl : TE} (hl : PE X l tl) : PI X tg l (iSeq X.K tl) := ⟨fun pins s σ H Q I q0 => by
  refine thn (hl.run pins s σ H _ I q0) fun v s1 ⟨x, H1, I1, r1, q1⟩ => ?_
  obtain ⟨a, e, ⟨⟨xs, hq⟩, q⟩ | ⟨⟨xs, hq⟩, q⟩⟩ := q1 <;> subst e <;> cases r1
  · obtain ⟨its, rv, pl, _⟩ := I1.list hq
    exact wpAny_pyIter_list pl.isList (pi_one (tk := s1.toks) I1 _ (turn_list a _) ⟨_, Heap.get?_push_size _ rfl, rfl, rfl⟩ q)
  · obtain ⟨its, rv, pl, _⟩ := I1.tuple hq
    exact wpAny_pyIter_tuple (show s1.heap.IsTuple a its.toArray from pl) (pi_one (tk := s1.toks) I1 _ (turn_tuple a _) ⟨_, Heap.get?_push_size _ rfl, rfl, rfl⟩ q)⟩
/-- what an own value to be walked is -/
theorem itOf_cases {ρ : List Addr} {H : Hp} {h : Hh} {d : D} {v : V} {Φ : It → Hh → List Addr → Hp → Prop} (rh : RH G ρ h H) (rv : RV G.K ρ H d v) (q : Post G ρ H (itOf d h) Φ) :
    (∃ a i, v = .ref a ∧ d = .ref i ∧ ρ[i]? = some a ∧ (∃ xs, SqL G.K H a xs) ∧ itOf d h = .ok (.lst i, h) ∧ Φ (.lst i) h ρ H) ∨
    (∃ a xs us, v = .ref a ∧ d = .tup xs ∧ SqT G.K H a us ∧ RVs G.K ρ H xs us ∧ itOf d h = .ok (.tup xs, h) ∧ Φ (.tup xs) h ρ H) := by
  cases rv with
  | @tup a vs xs st rs => exact .inr ⟨a, xs, vs, rfl, rfl, st, rs, rfl, q.here rh⟩
  | @ref i a f =>
    unfold itOf at q ⊢
    dsimp only at q ⊢
    cases z : lstAt h i with
    | none => rw [z] at q; exact q.elim
    | some xs =>
      rw [z] at q
      obtain ⟨vs, sq, _⟩ := lstAt_sq rh f z
      exact .inl ⟨a, i, rfl, rfl, f, ⟨vs, sq⟩, rfl, q.here rh⟩
  | _ => exact q.elim
theorem i_of (hK : X.K = G.K) (ha : PE X a (tE G ea)) : PI X tg a (tI G fun e h => ea e h >>= fun p => itOf p.1 p.2) := (pi_seq ha).weak fun σ H Q q => by
  obtain ⟨ρ, e, h, re, rh, p⟩ := q
  refine one (Q := fun _ _ => True) re rh p fun d h1 ρ1 H1 v g1 rh1 re1 rv p1 => ?_
  rw [hK]
  rcases itOf_cases rh1 rv p1 with ⟨a, i, e1, _, f, sq, _, q⟩ | ⟨a, xs, us, e1, _, sq, rs, _, q⟩
  · exact ⟨a, e1, .inl ⟨sq, q _ (it_lst f)⟩⟩
  · exact ⟨a, e1, .inr ⟨⟨us, sq⟩, q _ (it_tup sq rs)⟩⟩
theorem small_of {i : Int} (h : small i = true) : -(2 ^ 61) ≤ i ∧ i < 2 ^ 61 := by
  unfold small at h
  rw [yes_iff] at h
  exact h
theorem pair_run {σ : L2.St} {H : Hp} {ρ : List Addr} {e : En} {h : Hh} {β : Type} {f : D × Hh → D × Hh → R (β × Hh)} {Φ : β → Hh → List Addr → Hp → Prop} {Ψ : List V → Hp → Prop} (re : REn G ρ H e σ) (rh : RH G ρ h H)
    (p : Post G ρ H (ea e h >>= fun p => eb e p.2 >>= fun q => f p q) Φ)
    (k : ∀ d h0 d' h1 ρ1 H1 v v', RH G ρ1 h1 H1 → RV G.K ρ1 H1 d v → RV G.K ρ1 H1 d' v' → Post G ρ1 H1 (f (d, h0) (d', h1)) Φ → Ψ [v, v'] H1) : L2.tCons (tE G ea) (L2.tCons (tE G eb) L2.tNil) σ H Ψ := by
  refine one (Q := fun _ _ => True) re rh p fun d h1 ρ1 H1 v g1 rh1 re1 rv p1 => ?_
  refine one (Q := fun _ _ => True) re1 rh1 p1 fun d' h2 ρ2 H2 v' g2 rh2 re2 rv' p2 => ?_
  exact k d h1 d' h2 ρ2 H2 v v' rh2 (rv.mono g2) rv' p2
theorem i_rng1 (hg : Gl X "range") (hm : X.mg "range" = none) (ha : PE X a (tE G ea)) (hp : plainArg a = true) :
    PI X tg (.Call (.Name "range" p) [a] [] pos) (tI G fun e h => (R.ok (D.int 0, h)) >>= fun p => ea e p.2 >>= fun q => match p.1, q.1 with
      | .int i, .int j => if small i && small j then .ok (.rng i 1 (j - i).toNat, q.2) else .stuck
      | _, _ => .stuck) := (pi_range1 hg hm (pa_cons ha pa_nil (star_cons hp _ _)) (star_cons hp _ _)).weak fun σ H Q q => by
  obtain ⟨ρ, e, h, re, rh, p⟩ := q
  have p' : Post G ρ H (ea e h >>= _) _ := p
  refine one (Q := fun _ _ => True) re rh p' fun d h1 ρ1 H1 v g1 rh1 re1 rv p1 => ?_
  cases rv with
  | int j =>
    dsimp only at p1
    by_cases c : (small 0 && small j) = true
    · rw [if_pos c] at p1
      rw [Bool.and_eq_true] at c
      have := small_of c.2
      refine ⟨j, rfl, by omega, by omega, ?_⟩
      have q := p1.here rh1 _ it_rng
      rw [Int.sub_zero] at q
      exact q
    · rw [if_neg c] at p1; exact p1.elim
  | _ => exact p1.elim
theorem star2 (hp : plainArg a = true) (hp' : plainArg b = true) (env : Env) : starEach [a, b] env = [(false, eval a env), (false, eval b env)] := by rw [star_cons hp, star_cons hp'] <;> rfl
theorem i_rng2 (hg : Gl X "range") (hm : X.mg "range" = none) (ha : PE X a (tE G ea)) (hb : PE X b (tE G eb)) (hp : plainArg a = true) (hp' : plainArg b = true) :
    PI X tg (.Call (.Name "range" p) [a, b] [] pos) (tI G fun e h => ea e h >>= fun p => eb e p.2 >>= fun q => match p.1, q.1 with
      | .int i, .int j => if small i && small j then .ok (.rng i 1 (j - i).toNat, q.2) else .stuck
      | _, _ => .stuck) := (pi_range2 hg hm (pa_cons ha (pa_cons hb pa_nil (star_cons hp' _ _)) (star_cons hp _ _)) (star2 hp hp' _) (star_cons hp' _ _)).weak fun σ H Q q => by
  obtain ⟨ρ, e, h, re, rh, p⟩ := q
  refine pair_run re rh p fun d h0 d' h1 ρ1 H1 v v' rh1 rv rv' p1 => ?_
  cases rv with
  | int i =>
    cases rv' with
    | int j =>
      dsimp only at p1
      by_cases c : (small i && small j) = true
      · rw [if_pos c] at p1
        rw [Bool.and_eq_true] at c
        have := small_of c.1
        have := small_of c.2
        exact ⟨i, j, rfl, by omega, p1.here rh1 _ it_rng⟩
      · rw [if_neg c] at p1; exact p1.elim
    | _ => exact p1.elim
  | _ => exact p1.elim
theorem i_rngd {cc : Expr} (hg : Gl X "range") (hm : X.mg "range" = none) (ha : PE X a (tE G ea)) (hb : PE X b (tE G eb)) (hcc : PE X cc (tE G fun _ h => .ok (.int (-1), h))) (hp : plainArg a = true) (hp' : plainArg b = true) (hp2 : plainArg cc = true) :
    PI X tg (.Call (.Name "range" p) [a, b, cc] [] pos) (tI G fun e h => ea e h >>= fun p => eb e p.2 >>= fun q => match p.1, q.1 with
      | .int i, .int j => if small i && small j then .ok (.rng i (-1) (i - j).toNat, q.2) else .stuck
      | _, _ => .stuck) := (pi_range3 hg hm (pa_cons ha (pa_cons hb (pa_cons hcc pa_nil (star_cons hp2 _ _)) (star_cons hp' _ _)) (star_cons hp _ _)) (star_cons hp _ _) (star_any (es := [b, cc]) (by simp [hp', hp2]) _ _)).weak fun σ H Q q => by
  obtain ⟨ρ, e, h, re, rh, p⟩ := q
  refine one (Q := fun _ _ => True) re rh p fun d h1 ρ1 H1 v g1 rh1 re1 rv p1 => ?_
  refine one (Q := fun _ _ => True) re1 rh1 p1 fun d' h2 ρ2 H2 v' g2 rh2 re2 rv' p2 => ?_
  refine ⟨ρ2, e, h2, re2, rh2, fun ρ3 H3 g3 rh3 v'' rv'' => ?_⟩
  have p3 := p2.from g3
  have rw1 := rv.mono g2
  have rw2 := rw1.mono g3
  have rw3 := rv'.mono g3
  cases rw2 with
  | int i =>
    cases rw3 with
    | int j =>
      cases rv''
      dsimp only at p3
      by_cases c : (small i && small j) = true
      · rw [if_pos c] at p3
        rw [Bool.and_eq_true] at c
        have := small_of c.1
        have := small_of c.2
        exact ⟨i, j, -1, (i - j).toNat, rfl, RgC.neg (by omega) (by omega) (by omega) (by omega), p3.here rh3 _ it_rngd⟩
      · rw [if_neg c] at p3; exact p3.elim
    | _ => exact p3.elim
  | _ => exact p3.elim
theorem i_enum (hK : X.K = G.K) (hg : Gl X "enumerate") (hm : X.mg "enumerate" = none) (ha : PE X a (tE G ea)) (hp : plainArg a = true) :
    PI X (.Tuple elts kk tpos) (.Call (.Name "enumerate" p) [a] [] pos) (tI G fun e h => ea e h >>= fun p => itOf p.1 p.2 >>= fun q => match q.1 with
      | .lst _ => .ok (.enum q.1, q.2)
      | _ => .stuck) := (pi_enum hg hm (pa_cons ha pa_nil (star_cons hp _ _)) (star_cons hp _ _)).weak fun σ H Q q => by
  obtain ⟨ρ, e, h, re, rh, p⟩ := q
  refine one (Q := fun _ _ => True) re rh p fun d h1 ρ1 H1 v g1 rh1 re1 rv p1 => ?_
  rw [hK]
  rcases itOf_cases rh1 rv p1.bind with ⟨a, i, e1, _, f, ⟨xs, sq⟩, _, q⟩ | ⟨_, _, _, _, _, _, _, _, q⟩
  · exact ⟨a, xs, by rw [e1], sq, Post.here q rh1 _ (it_enum f)⟩
  · exact q.elim
def iZip3 (K : PySem.W.Frag) (ta : TA) : TI := fun σ H Q => ta σ H fun vs H1 => ∃ a b xs ys, vs = [.ref a, .ref b] ∧ ((SqL K H1 a xs ∧ SqL K H1 b ys ∧ Q (Itz K a b) H1) ∨ (SqT K H1 a xs ∧ SqT K H1 b ys ∧ Q (RZ.ItzT K a b) H1) ∨ (SqT K H1 a xs ∧ SqL K H1 b ys ∧ Q (Itm K a b) H1))
/-- the five cells of a zip just made -/
theorem five_new {pins : List (Addr × Obj)} {σ : L2.St} {H : Hp} {s : Shared} (I : Inv X pins σ H s) : ∀ c ∈ [s.heap.objs.size + 4, s.heap.objs.size + 2, s.heap.objs.size + 3, s.heap.objs.size, s.heap.objs.size + 1], FpOk X pins H c := fun c hc => by
  have le : s.heap.objs.size ≤ c := by
    simp only [List.mem_cons, List.not_mem_nil, or_false] at hc
    rcases hc with rfl | rfl | rfl | rfl | rfl
    · exact Nat.le_add_right _ _
    · exact Nat.le_add_right _ _
    · exact Nat.le_add_right _ _
    · exact Nat.le_refl _
    · exact Nat.le_add_right _ _
  exact I.fpOk le (I.hok.fresh le)
theorem pi_zip3 {e2 : Expr} {ta : TA} (hg : Gl X "zip") (hm : X.mg "zip" = none) (ha : PA X [a, e2] ta) (hs : starEach [a, e2] X.env = (false, eval a X.env) :: starEach [e2] X.env) (hpl : (backTo pos (starEach [e2] X.env)).any (·.1) = false) :
    PI X (.Tuple elts kk tpos) (.Call (.Name "zip" p) [a, e2] [] pos) (iZip3 X.K ta) := by
  refine ⟨fun pins s σ H Q I q0 => ?_⟩
  refine Call_ (ld_blt I hg hm PyProof.Rows.boot_zip (PyProof.Rows.callWith_type1 (thn (ha.run pos pins s σ H _ I q0) fun us s1 ⟨vs, H1, I1, r1, q1⟩ => ?_) hs hpl))
  obtain ⟨a, b, xs, ys, ex, qq⟩ := q1
  subst ex
  cases r1 with
  | cons r r1 => cases r1 with
    | cons r' r1 =>
      cases r1
      cases r
      cases r'
      rcases qq with ⟨hqx, hqy, q⟩ | ⟨hqx, hqy, q⟩ | ⟨hqx, hqy, q⟩
      · obtain ⟨_, _, pa, _⟩ := I1.list hqx
        obtain ⟨_, _, pb, _⟩ := I1.list hqy
        refine call_zip_2 pa.isList pb.isList fun h' cz cI cO c1 c2 _ kp => wpAny_pyIter_zip cz ?_
        exact ⟨s1.heap.objs.size + 4, _, _, _, H1, rfl, I1.kept (t' := s1.toks) kp, turn_zip (PySem.W.ktu_apart s1.heap.objs.size a b pa.lt pb.lt), ⟨cz, cI, ⟨_, _, cO⟩, c1, c2⟩, five_new I1, q⟩
      · obtain ⟨ia, _, pa, _⟩ := I1.tuple hqx
        obtain ⟨ib, _, pb, _⟩ := I1.tuple hqy
        have ta : s1.heap.IsTuple a ia.toArray := pa
        have tb : s1.heap.IsTuple b ib.toArray := pb
        obtain ⟨_, ga, _⟩ := id ta
        obtain ⟨_, gb, _⟩ := id tb
        refine RZ.call_zipT ta tb fun h' cz cI cO c1 c2 _ kp => wpAny_pyIter_zip cz ?_
        exact ⟨s1.heap.objs.size + 4, _, _, _, H1, rfl, I1.kept (t' := s1.toks) kp, RZ.turn_zipT (PySem.W.ktu_apart s1.heap.objs.size a b (Heap.lt_size ga) (Heap.lt_size gb)), ⟨cz, cI, ⟨_, _, cO⟩, c1, c2⟩, five_new I1, q⟩
      · obtain ⟨ia, ra, pa, _⟩ := I1.tuple hqx
        obtain ⟨ib, rb, pb, _⟩ := I1.list hqy
        have ta : s1.heap.IsTuple a ia.toArray := pa
        obtain ⟨oa, ga, _⟩ := id ta
        have la : a < s1.heap.objs.size := Heap.lt_size ga
        have lb : b < s1.heap.objs.size := pb.lt
        refine zip_begins2 (begins_tuple a ia.toArray) (begins_list b ib.toArray) ta pb.isList fun h' cz cI cO c1 c2 sz kp => wpAny_pyIter_zip cz ?_
        exact ⟨s1.heap.objs.size + 4, _, _, _, H1, rfl, I1.kept (t' := s1.toks) kp, turn_zipM (zip_sep2 (N := s1.heap.objs.size) (fp1 := [a]) (fp2 := [b]) (by simpa using la) (by simpa using lb)),
          ⟨cz, cI, ⟨_, _, cO⟩, ⟨_, c1, rfl, rfl⟩, ⟨_, c2, rfl, rfl⟩⟩, five_new I1, q⟩
theorem i_zip (hK : X.K = G.K) (hg : Gl X "zip") (hm : X.mg "zip" = none) (ha : PE X a (tE G ea)) (hb : PE X b (tE G eb)) (hp : plainArg a = true) (hp' : plainArg b = true) :
    PI X (.Tuple elts kk tpos) (.Call (.Name "zip" p) [a, b] [] pos) (tI G fun e h => ea e h >>= fun p => eb e p.2 >>= fun q => itOf p.1 q.2 >>= fun r => itOf q.1 r.2 >>= fun t => match r.1, t.1 with
      | .lst _, .tup _ => .stuck
      | _, _ => .ok (.zip r.1 t.1, t.2)) := (pi_zip3 hg hm (pa_cons ha (pa_cons hb pa_nil (star_cons hp' _ _)) (star_cons hp _ _)) (star_cons hp _ _) (star_any (es := [b]) (by simp [hp']) _ _)).weak fun σ H Q q => by
  obtain ⟨ρ, e, h, re, rh, p⟩ := q
  refine pair_run re rh p fun d h0 d' h1 ρ1 H1 v v' rh1 rv rv' p1 => ?_
  rw [hK]
  dsimp only at p1
  rcases itOf_cases rh1 rv p1.bind with ⟨a, i, e1, _, f, ⟨xs, sq⟩, e2, q⟩ | ⟨a, xs, us, e1, _, sq, rs, e2, q⟩ <;> rcases itOf_cases rh1 rv' q.bind with ⟨a', i', e1', _, f', ⟨xs', sq'⟩, e2', q'⟩ | ⟨a', xs', us', e1', _, sq', rs', e2', q'⟩ <;> subst e1 e1'
  · exact ⟨a, a', xs, xs', rfl, .inl ⟨sq, sq', Post.here q' rh1 _ (it_zipL f f')⟩⟩
  · exact q'.elim
  · exact ⟨a, a', us, xs', rfl, .inr (.inr ⟨sq, sq', Post.here q' rh1 _ (it_zipM sq rs f')⟩)⟩
  · exact ⟨a, a', us, us', rfl, .inr (.inl ⟨sq, sq', Post.here q' rh1 _ (it_zipT sq rs sq' rs')⟩)⟩
end
end SF
set_option Elab.async false
set_option linter.all false
set_option maxRecDepth 100000
set_option maxHeartbeats 1000000
/-! SFStm2: targets, statements, comprehensions, own calls. -/
namespace SF
open PySem PySem.Spec PyProof.Rows L2

/-- a bind whose end is told from the first state -/
theorem Post.base {α β : Type} {G : Gx} {ρ : List Addr} {H : Hp} {r : R (α × Hh)} {f : α × Hh → R (β × Hh)} {Φ : β → Hh → List Addr → Hp → Prop} (p : Post G ρ H (r >>= f) Φ) : Post G ρ H r (fun a h' _ _ => Post G ρ H (f (a, h')) Φ) := by
  cases r with
  | ok a => exact fun _ _ _ _ => p
  | exc _ _ _ => exact p
  | stuck => exact p

/-! ### targets -/
def tG (G : Gx) (sl : List Nat) (ev : D → En → Hh → R (En × Hh)) : TG := fun v σ H Q => ∃ ρ e h d, REn G ρ H e σ ∧ RH G ρ h H ∧ RV G.K ρ H d v ∧
  Post G ρ H (ev d e h) fun e' _ ρ' H' => ∀ σ', REn G ρ' H' e' σ' → σ'.length = σ.length → (∀ i, i ∉ sl → σ'[i]? = σ[i]?) → Q σ' H'
def tGs (G : Gx) (sl : List Nat) (ev : List D → En → Hh → R (En × Hh)) : TGs := fun v σ H Q => ∃ ρ e h d, REn G ρ H e σ ∧ RH G ρ h H ∧ RVs G.K ρ H d v ∧
  Post G ρ H (ev d e h) fun e' _ ρ' H' => ∀ σ', REn G ρ' H' e' σ' → σ'.length = σ.length → (∀ i, i ∉ sl → σ'[i]? = σ[i]?) → Q σ' H'
section
variable {G : Gx} {X : Cx} {a b tg : Expr} {pos p tpos : Pos} {ea eb : En → Hh → R (D × Hh)} {sl sl' : List Nat} {eg : D → En → Hh → R (En × Hh)} {egs : List D → En → Hh → R (En × Hh)}
theorem g_var {i : Nat} {x : Str} (hN : X.N.Nodup) (hi : X.N[i]? = some x) (hx : Loc X.env.scope x) (hf : X.fn x = true ∨ X.env.scope.names.lookup x = some .local) :
    PG X (.Name x pos) (tG G [i] fun d e h => if i < e.length then .ok (e.set i (some d), h) else .stuck) := (pg_name hN hi hx hf).weak fun v σ H Q q => by
  obtain ⟨ρ, e, h, d, re, rh, rv, q⟩ := q
  by_cases c : i < e.length
  · dsimp only at q
    rw [if_pos c] at q
    refine q.here rh _ (re.set rv) (List.length_set ..) fun j hj => ?_
    rw [List.getElem?_set_ne (fun z => hj (by simp [z]))]
  · dsimp only at q
    rw [if_neg c] at q
    exact q.elim
theorem gs_nil : PGs X [] (tGs G [] fun ds e h => match ds with
    | [] => .ok (e, h)
    | _ :: _ => .stuck) := pgs_nil.weak fun v σ H Q q => by
  obtain ⟨ρ, e, h, ds, re, rh, rv, q⟩ := q
  cases rv with
  | nil => exact ⟨rfl, q.here rh _ re rfl fun _ _ => rfl⟩
  | cons _ _ => exact q.elim
theorem gs_cons {es : List Expr} (h1 : PG X a (tG G sl eg)) (h2 : PGs X es (tGs G sl' egs)) (hs : (assignEach (a :: es) X.env).map (·.2) = assign a X.env :: (assignEach es X.env).map (·.2)) :
    PGs X (a :: es) (tGs G (sl ++ sl') fun ds e h => match ds with
      | d :: r => eg d e h >>= fun p => egs r p.1 p.2
      | [] => .stuck) := (pgs_cons h1 h2 hs).weak fun v σ H Q q => by
  obtain ⟨ρ, e, h, ds, re, rh, rv, q⟩ := q
  cases rv with
  | nil => exact q.elim
  | @cons d v ds vs r1 rs =>
    refine ⟨v, vs, rfl, ρ, e, h, d, re, rh, r1, Post.seq q fun e1 h1 ρ1 H1 g1 rh1 p1 σ1 re1 l1 k1 => ?_⟩
    refine ⟨ρ1, e1, h1, ds, re1, rh1, rs.mono g1, p1.imp fun e2 h2 ρ2 H2 g2 rh2 p2 σ2 re2 l2 k2 => ?_⟩
    refine p2 σ2 re2 (l2.trans l1) fun i hi => ?_
    rw [List.mem_append, not_or] at hi
    rw [k2 i hi.2, k1 i hi.1]
theorem g_tup {es : List Expr} {k : Nat} (hK : X.K = G.K) (hc : X.calm = true) (h : PGs X es (tGs G sl egs)) (hn : ∀ ds e h r, egs ds e h = .ok r → ds.length = (assignEach es X.env).length)
    (hst : (assignEach es X.env).findIdx? (·.1) = none) : PG X (.Tuple es k pos) (tG G sl fun d e h => match d with
      | .tup xs => egs xs e h
      | _ => .stuck) := (pg_tup hc h rfl hst).weak fun v σ H Q q => by
  obtain ⟨ρ, e, h, d, re, rh, rv, q⟩ := q
  cases rv with
  | @tup a vs ds st rs =>
    dsimp only at q
    cases z : egs ds e h with
    | ok r =>
      refine ⟨a, vs, rfl, hK ▸ st, by rw [← rs.length]; exact hn _ _ _ _ z, ρ, e, h, ds, re, rh, rs, ?_⟩
      exact q
    | exc _ _ _ => rw [z] at q; exact q.elim
    | stuck => rw [z] at q; exact q.elim
  | _ => exact q.elim
theorem PSet.or {t t' : TSet} (h : PSet X t) (h' : PSet X t') : PSet X fun o i v H Q => t o i v H Q ∨ t' o i v H Q := fun pins s σ H o i v ov iv u Q I r1 r2 r3 q => by
  rcases q with q | q
  · exact h pins s σ H o i v ov iv u Q I r1 r2 r3 q
  · exact h' pins s σ H o i v ov iv u Q I r1 r2 r3 q
/-- the store of an own value -/
theorem sub_run {ρ : List Addr} {H : Hp} {h : Hh} {p q d : D} {o i v : V} {e : En} {σ : L2.St} {Q : L2.St → Hp → Prop} (re : REn G ρ H e σ) (rh : RH G ρ h H) (r1 : RV G.K ρ H p o) (r2 : RV G.K ρ H q i) (r3 : RV G.K ρ H d v)
    (s : Post G ρ H (evSub p q d e h) fun e' _ ρ' H' => ∀ σ', REn G ρ' H' e' σ' → σ'.length = σ.length → (∀ i : Nat, i ∉ ([] : List Nat) → σ'[i]? = σ[i]?) → Q σ' H') :
    rSetL o i v H (fun H3 => Q σ H3) ∨ rSetD G o i v H (fun H3 => Q σ H3) := by
  cases r1 with
  | @ref j a f =>
    unfold evSub at s
    dsimp only at s
    cases z : h[j]? with
    | none => rw [z] at s; exact s.elim
    | some ob =>
      rw [z] at s
      cases ob with
      | lst xs =>
        dsimp only at s
        cases r2 with
        | int k =>
          dsimp only at s
          cases y : L2.ixN xs.length k with
          | none => rw [y] at s; exact s.elim
          | some n =>
            rw [y] at s
            obtain ⟨us, x, rs⟩ := lst_here rh z f
            refine .inl ⟨a, us, k, n, rfl, rfl, x, by rw [← rs.length]; exact y, ?_⟩
            have g : Grow G.K ρ H ρ (upd H a (.lst (us.set n v))) := grow_set f x (fun _ => HO.noConfusion) fun _ _ => HO.noConfusion
            obtain ⟨_, rh'⟩ := rh.set (u := .lst (us.set n v)) (o' := .lst (xs.set n d)) z f ⟨_, upd_same, (RVs.set r3 n rs).mono g⟩
            exact s ρ _ g rh' σ (re.mono g) rfl fun _ _ => rfl
        | _ => exact s.elim
      | dic kvs =>
        dsimp only at s
        cases y : dkey q with
        | none => rw [y] at s; exact s.elim
        | some nk =>
          rw [y] at s
          dsimp only at s
          by_cases c : kvs.length ≤ sizeLine
          · rw [if_pos c] at s
            obtain ⟨ents, di, nd, rd⟩ := rh.obj j _ a z f
            have hb : ∃ b, i = .ref b := by
              unfold dkey at y
              cases r2 with
              | tup st rs => exact ⟨_, rfl⟩
              | _ => cases y
            obtain ⟨b, rfl⟩ := hb
            refine .inr ⟨a, b, ents, nk, ρ, kvs, q, rfl, rfl, di, nd, rd, y, r2, by rw [← rd.length]; exact c, fun u ru hsy => ?_⟩
            have hx : ∃ w, H a = some w ∧ (∀ vs, w ≠ .tup vs) ∧ (∀ ob z, w ≠ .frz ob z) := by
              rcases di with ⟨_, x⟩ | ⟨x, _⟩
              · exact ⟨_, x, fun _ => HO.noConfusion, fun _ _ => HO.noConfusion⟩
              · exact ⟨_, x, fun _ => HO.noConfusion, fun _ _ => HO.noConfusion⟩
            obtain ⟨w, x, n1, n2⟩ := hx
            have g : Grow G.K ρ H ρ (upd H a (.ext (rawD G.P G.w a (storedH ents nk b u)))) := grow_set f x n1 n2
            have rd' := (dput_of y r2 ru r3 rd).mono g
            obtain ⟨_, rh'⟩ := rh.set (u := .ext (rawD G.P G.w a (storedH ents nk b u))) (o' := .dic (dput kvs nk q d)) z f ⟨_, .inr ⟨upd_same, hsy⟩, stored_nodup nd, rd'⟩
            exact s ρ _ g rh' σ (re.mono g) rfl fun _ _ => rfl
          · rw [if_neg c] at s; exact s.elim
      | _ => exact s.elim
  | _ => exact s.elim
def notSlice : Expr → Bool
  | .Slice .. => false
  | _ => true
theorem g_sub (hs : notSlice b = true) (hP : X.prog = G.P) (hW : X.w = G.w) (hK : X.K = G.K) (hu : X.A.units + 64 < cLine) (ha : PE X a (tE G ea)) (hb : PE X b (tE G eb)) :
    PG X (.Subscript a b pos) (tG G [] fun d e h => ea e h >>= fun p => eb e p.2 >>= fun q => evSub p.1 q.1 d e q.2) := (pg_sub ha hb (PSet.or set_list (o_setD hP hW hK hu)) (fun v => by cases b <;> first | rfl | cases hs)).weak fun v σ H Q q => by
  obtain ⟨ρ, e, h, d, re, rh, rv, q⟩ := q
  refine one (Q := fun _ _ => True) re rh q fun d1 h1 ρ1 H1 v1 g1 rh1 re1 rv1 p1 => ?_
  refine one (Q := fun _ _ => True) re1 rh1 p1 fun d2 h2 ρ2 H2 v2 g2 rh2 re2 rv2 p2 => ?_
  exact sub_run re2 rh2 (rv1.mono g2) rv2 ((rv.mono g1).mono g2) p2

/-! ### statements -/
def fEnd (G : Gx) (D : Ends) : Fl → Hh → List Addr → Hp → Prop
  | .nx e', _, ρ', H' => ∀ σ', REn G ρ' H' e' σ' → D.nx σ' H'
  | .rt d, _, ρ', H' => ∀ v, RV G.K ρ' H' d v → D.rt v H'
  | .bk e', _, ρ', H' => ∀ σ', REn G ρ' H' e' σ' → D.bk σ' H'
  | .ct e', _, ρ', H' => ∀ σ', REn G ρ' H' e' σ' → D.ct σ' H'
def tS (G : Gx) (ev : En → Hh → R (Fl × Hh)) : TS := fun D σ H => ∃ ρ e h, REn G ρ H e σ ∧ RH G ρ h H ∧ Post G ρ H (ev e h) (fEnd G D)
variable {es es' : En → Hh → R (Fl × Hh)} {eT : En → Hh → R (Bool × Hh)} {st : Stmt} {sts sts' : List Stmt} {ei : En → Hh → R (It × Hh)}
theorem ss_asg (ha : PE X a (tE G ea)) (hg : PG X tg (tG G sl eg)) (hs : swapsWithSole [tg] a pos.line X.env = pure false) (hw : swappedStores [tg] a X.env = pure none) (h1 : (assignEach [tg] X.env).map (·.2) = [assign tg X.env]) :
    PS X (.Assign [tg] a pos) (tS G fun e h => ea e h >>= fun p => eg p.1 e p.2 >>= fun q => .ok (.nx q.1, q.2)) := (ps_asg ha hg hs hw h1).weak fun D σ H q => by
  obtain ⟨ρ, e, h, re, rh, p⟩ := q
  refine one (Q := fun _ _ => True) re rh p fun d h1 ρ1 H1 v g1 rh1 re1 rv p1 => ?_
  exact ⟨ρ1, e, h1, d, re1, rh1, rv, p1.seq fun e2 h2 ρ2 H2 g2 rh2 p2 σ' re' _ _ => p2.here rh2 σ' re'⟩
theorem ss_expr (ha : PE X a (tE G ea)) (hs : swapsWith a none pos.line X.env = pure false) : PS X (.Expr a pos) (tS G fun e h => ea e h >>= fun p => .ok (.nx e, p.2)) := (ps_expr ha hs).weak fun D σ H q => by
  obtain ⟨ρ, e, h, re, rh, p⟩ := q
  exact one (Q := fun _ _ => True) re rh p fun d h1 ρ1 H1 v g1 rh1 re1 rv p1 => p1.here rh1 σ re1
theorem ss_ret (ha : PE X a (tE G ea)) : PS X (.Return (some a) pos) (tS G fun e h => ea e h >>= fun p => .ok (.rt p.1, p.2)) := (ps_ret ha).weak fun D σ H q => by
  obtain ⟨ρ, e, h, re, rh, p⟩ := q
  exact one (Q := fun _ _ => True) re rh p fun d h1 ρ1 H1 v g1 rh1 re1 rv p1 => p1.here rh1 v rv
theorem ss_if (hc : PT X a (tT G eT)) (ha : PSs X sts (tS G es)) (hb : PSs X sts' (tS G es')) : PS X (.If a sts sts' pos) (tS G fun e h => eT e h >>= fun p => if p.1 then es e p.2 else es' e p.2) := (ps_if hc ha hb).weak fun D σ H q => by
  obtain ⟨ρ, e, h, re, rh, p⟩ := q
  refine oneT re rh p fun b h1 ρ1 H1 g1 rh1 re1 p1 => ?_
  cases b with
  | true => exact ⟨ρ1, e, h1, re1, rh1, p1⟩
  | false => exact ⟨ρ1, e, h1, re1, rh1, p1⟩
theorem ss_brk : PS X (.Break pos) (tS G fun e h => .ok (.bk e, h)) := ps_break.weak fun D σ H ⟨ρ, e, h, re, rh, p⟩ => p.here rh σ re
theorem ss_cnt : PS X (.Continue pos) (tS G fun e h => .ok (.ct e, h)) := ps_continue.weak fun D σ H ⟨ρ, e, h, re, rh, p⟩ => p.here rh σ re
theorem sss_nil : PSs X [] (tS G fun e h => .ok (.nx e, h)) := pss_nil.weak fun D σ H ⟨ρ, e, h, re, rh, p⟩ => p.here rh σ re
theorem sss_cons (h1 : PS X st (tS G es)) (h2 : PSs X sts (tS G es')) : PSs X (st :: sts) (tS G fun e h => es e h >>= fun p => match p with
    | (.nx e', h') => es' e' h'
    | (f, h') => .ok (f, h')) := (pss_cons h1 h2).weak fun D σ H q => by
  obtain ⟨ρ, e, h, re, rh, p⟩ := q
  refine ⟨ρ, e, h, re, rh, p.seq fun f h1 ρ1 H1 g1 rh1 p1 => ?_⟩
  cases f with
  | nx e1 => exact fun σ' re' => ⟨ρ1, e1, h1, re', rh1, p1⟩
  | rt d => exact p1.here rh1
  | bk e1 => exact p1.here rh1
  | ct e1 => exact p1.here rh1
theorem ss_par {i j : Nat} {x y : Str} {px py pt : Pos} {kt k2 : Nat} {pt2 : Pos} (hc : X.calm = true) (hN : X.N.Nodup) (hi : X.N[i]? = some x) (hj : X.N[j]? = some y) (hij : i ≠ j)
    (hx : X.env.scope.names.lookup x = some .local) (hy : X.env.scope.names.lookup y = some .local) (ha : PE X a (tE G ea)) (hb : PE X b (tE G eb)) (hp : plainArg a = true) (hp' : plainArg b = true)
    (hw : swappedStores [.Tuple [.Name x px, .Name y py] kt pt] (.Tuple [a, b] k2 pt2) X.env = pure (some [x, y])) (hs : swapsWithSole [.Tuple [.Name x px, .Name y py] kt pt] (.Tuple [a, b] k2 pt2) pos.line X.env = pure false) :
    PS X (.Assign [.Tuple [.Name x px, .Name y py] kt pt] (.Tuple [a, b] k2 pt2) pos) (tS G fun e h => ea e h >>= fun p => eb e p.2 >>= fun q =>
      if i < e.length && j < e.length then .ok (.nx ((e.set i (some p.1)).set j (some q.1)), q.2) else .stuck) :=
  (ps_par hc hN hi hj hij hx hy (pa_cons ha (pa_cons hb pa_nil (star_cons hp' _ _)) (star_cons hp _ _)) hw hs).weak fun D σ H q => by
  obtain ⟨ρ, e, h, re, rh, p⟩ := q
  have p : Post G ρ H (ea e h >>= _) _ := p
  refine one (Q := fun _ _ => True) re rh p fun d h1 ρ1 H1 v g1 rh1 re1 rv p1 => ?_
  refine one (Q := fun _ _ => True) re1 rh1 p1 fun d' h2 ρ2 H2 v' g2 rh2 re2 rv' p2 => ?_
  dsimp only at p2
  by_cases c : (decide (i < e.length) && decide (j < e.length)) = true
  · rw [if_pos c] at p2
    exact ⟨v, v', rfl, p2.here rh2 _ ((re2.set (rv.mono g2)).set rv')⟩
  · rw [if_neg c] at p2; exact p2.elim
theorem ss_for (hp : PassesOwn (model X.prog X.w) X.A X.env X.xe) (hc : X.calm = true) (hi : PI X tg a (tI G ei)) (hg : PG X tg (tG G sl eg)) (hb : PSs X sts (tS G es)) (hs : ∀ x, foldedSetIterable a X.env x = pure x) :
    PS X (.For tg a sts [] pos) (tS G fun e h => ei e h >>= fun p => loop p.1 (fun d e1 h1 => eg d e1 h1 >>= fun q => es q.1 q.2) (p.1.most p.2 + 1) 0 e p.2) := (ps_for hp hc hi hg hb hs).weak fun D σ H q => by
  obtain ⟨ρ, e, h, re, rh, p⟩ := q
  refine ⟨ρ, e, h, re, rh, p.seq fun it h1 ρ1 H1 g1 rh1 p1 J hJ => ?_⟩
  refine ⟨fun i m σ' H' => ∃ ρ' e' h', REn G ρ' H' e' σ' ∧ RH G ρ' h' H' ∧ ItOk G ρ' H' it J ∧ Post G ρ' H' (loop it (fun d e1 h1 => eg d e1 h1 >>= fun q => es q.1 q.2) m i e' h') (fEnd G D), ⟨_, ρ1, e, h1, re.mono g1, rh1, hJ, p1⟩, ?_⟩
  rintro i m σ2 H2 ⟨ρ2, e2, h2, re2, rh2, J2, p2⟩
  cases m with
  | zero => exact p2.elim
  | succ n =>
    unfold loop at p2
    cases z : It.next h2 it i with
    | none => rw [z] at p2; exact p2.elim
    | some r =>
      rw [z] at p2
      cases r with
      | none => exact .inl ⟨J2.stop _ _ _ _ .refl rh2 z, p2.here rh2 σ2 re2⟩
      | some d =>
        obtain ⟨go, yl⟩ := J2.go _ _ _ _ _ .refl rh2 z
        refine .inr ⟨go, fun σ' H' => ∃ ρ' e' h', REn G ρ' H' e' σ' ∧ RH G ρ' h' H' ∧ ItOk G ρ' H' it J ∧ Post G ρ' H' (loop it (fun d e1 h1 => eg d e1 h1 >>= fun q => es q.1 q.2) n (i + 1) e' h') (fEnd G D), fun σ' H' q => ⟨n, Nat.lt_succ_self n, q⟩, fun x H3 y => ?_⟩
        obtain ⟨g3, rh3, rd⟩ := yl x H3 y
        have p3 := p2.from g3
        refine ⟨ρ2, e2, h2, d, re2.mono g3, rh3, rd, p3.bind.bind.imp fun e4 h4 ρ4 H4 g4 rh4 p4 σ4 re4 _ _ => ?_⟩
        refine ⟨ρ4, e4, h4, re4, rh4, p4.imp fun f h5 ρ5 H5 g5 rh5 p5 => ?_⟩
        have J5 := J2.mono ((g3.trans g4).trans g5).toGrow0
        cases f with
        | nx e5 => exact fun σ5 re5 => ⟨ρ5, e5, h5, re5, rh5, J5, p5⟩
        | ct e5 => exact fun σ5 re5 => ⟨ρ5, e5, h5, re5, rh5, J5, p5⟩
        | bk e5 => exact p5.here rh5
        | rt d5 => exact p5.here rh5
end
end SF
set_option Elab.async false
set_option linter.all false
set_option maxRecDepth 100000
set_option maxHeartbeats 1000000
/-! SFComp: comprehensions, own calls, new dicts. -/
namespace SF
open PySem PySem.Spec PyProof.Rows L2

theorem wipe_get {σ : L2.St} {i : Nat} : ∀ vs : List Nat, (L2.wipe σ vs)[i]? = if i ∈ vs then (if i < σ.length then some none else none) else σ[i]?
  | [] => by simp [L2.wipe]
  | v :: vs => by
    have ih := wipe_get (σ := σ) (i := i) vs
    unfold L2.wipe
    by_cases hi : v = i
    · subst hi
      rw [if_pos List.mem_cons_self]
      by_cases hv : v < (L2.wipe σ vs).length
      · rw [List.getElem?_set_self hv, if_pos (by rw [← L2.wipe_length σ vs]; exact hv)]
      · rw [List.getElem?_eq_none (by rw [List.length_set]; omega), if_neg (by rw [← L2.wipe_length σ vs]; exact hv)]
    · rw [List.getElem?_set_ne hi, ih]
      by_cases c : i ∈ vs
      · rw [if_pos c, if_pos (List.mem_cons_of_mem _ c)]
      · rw [if_neg c, if_neg (by rw [List.mem_cons, not_or]; exact ⟨fun z => hi z.symm, c⟩)]
theorem wipe_same {σ σ2 : L2.St} {own sl : List Nat} (hl : σ2.length = (L2.wipe σ own).length) (hk : ∀ i, i ∉ sl → σ2[i]? = (L2.wipe σ own)[i]?) (hs : ∀ i ∈ sl, i ∈ own) : L2.wipe σ2 own = L2.wipe σ own := by
  refine List.ext_getElem? fun i => ?_
  rw [wipe_get, wipe_get]
  by_cases c : i ∈ own
  · rw [if_pos c, if_pos c, hl, L2.wipe_length]
  · rw [if_neg c, if_neg c, hk i (fun z => c (hs i z)), wipe_get, if_neg c]

theorem Post.base2 {α β γ : Type} {G : Gx} {ρ : List Addr} {H : Hp} {r : R (α × Hh)} {f : α × Hh → R (β × Hh)} {g : β × Hh → R (γ × Hh)} {Φ : γ → Hh → List Addr → Hp → Prop} (p : Post G ρ H ((r >>= f) >>= g) Φ) : Post G ρ H r (fun a h' _ _ => Post G ρ H (f (a, h') >>= g) Φ) := by
  cases r with
  | ok a => exact fun _ _ _ _ => p
  | exc _ _ _ => exact p
  | stuck => exact p
section
variable {G : Gx} {ρ ρ' : List Addr} {H H' : Hp} {h : Hh}
/-- an object that is not tracked in the own heap is changed -/
theorem RH.side' (r : RH G ρ h H) {p : Addr} {u : HO} {vs : List V} (n : H p = some (.lst vs)) (hp : p ∉ ρ) : RH G ρ h (upd H p u) := ⟨r.len, r.nod, fun i o a e f => by
  exact (r.obj i o a e f).mono0 (grow0_set n (fun _ => HO.noConfusion) fun _ _ => HO.noConfusion) (upd_ne fun z => hp (by rw [← z]; exact List.mem_of_getElem? f))⟩
/-- .. is taken in -/
theorem RH.adopt (r : RH G ρ h H) {p : Addr} {vs : List V} {ds : List D} (n : H p = some (.lst vs)) (hp : p ∉ ρ) (rv : RVs G.K ρ H ds vs) : RH G (ρ ++ [p]) (h ++ [.lst ds]) H := by
  have g0 : Grow0 G.K ρ H (ρ ++ [p]) H := grow0_app .refl
  refine ⟨by rw [List.length_append, List.length_append, r.len]; rfl, ?_, fun i o' a e f => ?_⟩
  · rw [List.nodup_append]
    refine ⟨r.nod, by simp, fun a ha b hb => ?_⟩
    have hb' : b = p := by simpa using hb
    subst hb'
    exact fun z => hp (by rw [← z]; exact ha)
  · by_cases hi : i < h.length
    · rw [List.getElem?_append_left hi] at e
      rw [List.getElem?_append_left (by rw [r.len]; exact hi)] at f
      exact (r.obj i o' a e f).mono0 g0 rfl
    · have hl : i < (h ++ [O.lst ds]).length := (List.getElem?_eq_some_iff.mp e).1
      rw [List.length_append, List.length_singleton] at hl
      have hi2 : i = h.length := by omega
      subst hi2
      rw [List.getElem?_append_right (Nat.le_refl _), Nat.sub_self] at e
      rw [← r.len, List.getElem?_append_right (Nat.le_refl _), Nat.sub_self] at f
      simp only [List.getElem?_cons_zero, Option.some.injEq] at e f
      subst e f
      exact ⟨vs, n, rv.mono0 g0⟩
end
section
variable {G : Gx} {X : Cx} {tg iter elt : Expr} {ifs : List Expr} {pos p tpos : Pos} {ee : En → Hh → R (D × Hh)} {sl : List Nat} {eg : D → En → Hh → R (En × Hh)} {ec : En → Hh → R (Bool × Hh)} {ei : En → Hh → R (It × Hh)}
/-- what a comprehension does -/
def evComp (ei : En → Hh → R (It × Hh)) (eg : D → En → Hh → R (En × Hh)) (ec : En → Hh → R (Bool × Hh)) (ee : En → Hh → R (D × Hh)) (own : List Nat) (e : En) (h : Hh) : R (D × Hh) := ei e h >>= fun p =>
  loopC p.1 (fun d h1 => eg d (wipeE e own) h1 >>= fun q => ec q.1 q.2 >>= fun r => if r.1 then (ee q.1 r.2 >>= fun u => .ok (some u.1, u.2)) else .ok (none, r.2)) (p.1.most p.2 + 1) 0 [] p.2 >>= fun q =>
  .ok (.ref q.2.length, q.2 ++ [.lst q.1])
theorem lc_run {own : List Nat} (hs : ∀ i ∈ sl, i ∈ own) : ∀ σ H Q, tE G (evComp ei eg ec ee own) σ H Q → tLc (tI G ei) (tG G sl eg) (tT G ec) (tE G ee) own σ H Q := fun σ H Q q => by
  obtain ⟨ρ, e, h, re, rh, p⟩ := q
  refine ⟨ρ, e, h, re, rh, Post.seq p fun it h1 ρ1 H1 g1 rh1 p1 J hJ D hD => ?_⟩
  have re1 := re.mono g1
  generalize ht : (fun (d : SF.D) (h1 : Hh) => eg d (wipeE e own) h1 >>= fun q => ec q.1 q.2 >>= fun r => if r.1 = true then (ee q.1 r.2 >>= fun u => R.ok (some u.1, u.2)) else .ok (none, r.2)) = turn at p1
  generalize hm : It.most h1 it + 1 = mm at p1
  clear hm
  -- what is true ahead of each turn
  let W : Nat → Nat → Hp → Prop := fun i m H2 => ∃ ρ2 h2 acc vs, RH G ρ2 h2 H2 ∧ H2 D = some (.lst vs) ∧ D ∉ ρ2 ∧ RVs G.K ρ2 H2 acc vs ∧ Grow G.K ρ1 H1 ρ2 H2 ∧
    Post G ρ1 H1 (loopC it turn m i acc h2 >>= fun q => .ok (SF.D.ref q.2.length, q.2 ++ [O.lst q.1])) fun d _ ρ' H' => ∀ v, RV G.K ρ' H' d v → Q v H'
  have hD1 : D ∉ ρ1 := fun z => by
    obtain ⟨i, hi⟩ := List.mem_iff_getElem?.mp z
    obtain ⟨o, _, ro⟩ := rh1.used hi
    obtain ⟨u, x, _⟩ := ro.some
    rw [hD] at x
    cases x
  refine ⟨W, ⟨mm, ρ1, h1, [], [], rh1.side hD, upd_same, hD1, .nil, grow_new hD, p1⟩, ?_⟩
  rintro i m H2 ⟨ρ2, h2, acc, vs, rh2, x2, n2, rv2, g2, p2⟩
  cases m with
  | zero => exact p2.elim
  | succ n =>
    unfold loopC at p2
    cases z : It.next h2 it i with
    | none => rw [z] at p2; exact p2.elim
    | some r =>
      rw [z] at p2
      cases r with
      | none =>
        refine .inl ⟨hJ.stop _ _ _ _ g2.toGrow0 rh2 z, ?_⟩
        have p3 : Post G ρ1 H1 (.ok (SF.D.ref h2.length, h2 ++ [O.lst acc])) _ := p2
        refine p3 (ρ2 ++ [D]) H2 ⟨grow0_app g2.toGrow0, fun a u e1 e2 => ⟨(g2.side a u e1 e2).1, ?_⟩⟩ (rh2.adopt x2 n2 rv2) (.ref D) (ref_push rh2)
        rw [List.mem_append, List.mem_singleton, not_or]
        exact ⟨(g2.side a u e1 e2).2, ne_of_none e1 hD⟩
      | some d =>
        obtain ⟨go, yl⟩ := hJ.go _ _ _ _ _ g2.toGrow0 rh2 z
        refine .inr ⟨go, W (i + 1) n, fun H' q => ⟨n, Nat.lt_succ_self n, q⟩, fun x H3 y => ?_⟩
        obtain ⟨g3, rh3, rd⟩ := yl x H3 y
        have p4 := (Post.base2 p2).from (g2.trans g3)
        subst ht
        refine ⟨ρ2, wipeE e own, h2, d, (re1.mono (g2.trans g3)).wipe own, rh3, rd, Post.seq p4 fun e4 h4 ρ4 H4 g4 rh4 p5 σ4 re4 l4 k4 => ⟨wipe_same l4 k4 hs, ρ4, e4, h4, re4, rh4, Post.seq p5 fun b h5 ρ5 H5 g5 rh5 p6 => ?_⟩⟩
        have g35 := (g3.trans g4).trans g5
        have s5 := g35.side D _ x2 n2
        cases b with
        | false =>
          have p7 : Post G ρ1 H1 _ _ := p6.here rh5
          exact ⟨ρ5, h5, acc, vs, rh5, s5.1, s5.2, rv2.mono g35, g2.trans g35, p7⟩
        | true =>
          refine ⟨ρ5, e4, h5, re4.mono g5, rh5, Post.seq p6 fun dy h6 ρ6 H6 g6 rh6 p7 y ry => ?_⟩
          have p8 : Post G ρ1 H1 _ _ := p7.here rh6
          have s6 := g6.side D _ s5.1 s5.2
          refine ⟨vs, s6.1, ?_⟩
          dsimp only at p8
          by_cases c : acc.length < sizeLine
          · rw [if_pos c] at p8
            have g0 : Grow0 G.K ρ6 H6 ρ6 (upd H6 D (.lst (vs ++ [y]))) := grow0_set s6.1 (fun _ => HO.noConfusion) fun _ _ => HO.noConfusion
            have g26 := g2.trans (g35.trans g6)
            refine ⟨by rw [← rv2.length]; exact c, ρ6, h6, acc ++ [dy], vs ++ [y], rh6.side' s6.1 s6.2, upd_same, s6.2, (((rv2.mono g35).mono g6).app (.cons ry .nil)).mono0 g0, ⟨g26.toGrow0.trans g0, fun a u e1 e2 => ?_⟩, p8⟩
            exact ⟨by rw [upd_ne (ne_of_none e1 hD)]; exact (g26.side a u e1 e2).1, (g26.side a u e1 e2).2⟩
          · rw [if_neg c] at p8; exact p8.elim
variable {scope : Scope} {own : List (Str × Nat)}
theorem s_comp (hc : X.calm = true) (hN : X.N.Nodup) (hi : PI X tg iter (tI G ei)) (ok : BlkOk X.N X.env.scope scope own)
    (hg : ∀ (s : Shared) (H : Hp) (C : Addr) (cl : List (Str × Addr)) (fp : List Addr), PG (X.blk s H scope (compEnvC scope cl C X.env) fp) tg (tG G sl eg)) (ht : ∀ (s : Shared) (H : Hp) (C : Addr) (cl : List (Str × Addr)) (fp : List Addr), PTs (X.blk s H scope (compEnvC scope cl C X.env) fp) ifs (tT G ec))
    (he : ∀ (s : Shared) (H : Hp) (C : Addr) (cl : List (Str × Addr)) (fp : List Addr), PE (X.blk s H scope (compEnvC scope cl C X.env) fp) elt (tE G ee)) (hf : ∀ x, foldedSetIterable iter X.env x = pure x) (hs : ∀ i ∈ sl, i ∈ own.map (·.2)) :
    PE X (.ListComp elt [⟨tg, iter, ifs, 0⟩] scope pos) (tE G (evComp ei eg ec ee (own.map (·.2)))) := (pe_lc hc hN hi ok hg ht he hf).weak (lc_run hs)
theorem ss_comp {i : Nat} {y : Str} {py spos : Pos} (hc : X.calm = true) (hN : X.N.Nodup) (hy : X.N[i]? = some y) (hyl : X.env.scope.names.lookup y = some .local)
    (hsw : swapsWith (.ListComp elt [⟨tg, iter, ifs, 0⟩] scope pos) (some (.Name y py)) spos.line X.env = pure true) (hi : PI X tg iter (tI G ei)) (ok : BlkOk X.N X.env.scope scope own)
    (hg : ∀ (s : Shared) (H : Hp) (C : Addr) (cl : List (Str × Addr)) (fp : List Addr), PG (X.blk s H scope (compEnvC scope cl C X.env) fp) tg (tG G sl eg)) (ht : ∀ (s : Shared) (H : Hp) (C : Addr) (cl : List (Str × Addr)) (fp : List Addr), PTs (X.blk s H scope (compEnvC scope cl C X.env) fp) ifs (tT G ec))
    (he : ∀ (s : Shared) (H : Hp) (C : Addr) (cl : List (Str × Addr)) (fp : List Addr), PE (X.blk s H scope (compEnvC scope cl C X.env) fp) elt (tE G ee)) (hf : ∀ x, foldedSetIterable iter X.env x = pure x) (hs : ∀ i ∈ sl, i ∈ own.map (·.2)) :
    PS X (.Assign [.Name y py] (.ListComp elt [⟨tg, iter, ifs, 0⟩] scope pos) spos) (tS G fun e h => evComp ei eg ec ee (own.map (·.2)) e h >>= fun p => (if i < e.length then R.ok (e.set i (some p.1), p.2) else .stuck) >>= fun q => .ok (.nx q.1, q.2)) :=
  (ps_setLc hc hN hy hyl hsw hi ok hg ht he hf).weak fun D σ H q => by
    obtain ⟨ρ, e, h, re, rh, p⟩ := q
    refine lc_run hs σ H _ (one (Q := fun _ _ => True) re rh p fun d h1 ρ1 H1 v g1 rh1 re1 rv p1 => ?_)
    by_cases c : i < e.length
    · dsimp only at p1
      rw [if_pos c] at p1
      exact Post.here p1 rh1 _ (re1.set rv)
    · dsimp only at p1
      rw [if_neg c] at p1; exact p1.elim
theorem pts0 : PTs X [] (tT G fun e h => .ok (true, h)) := pts_nil.weak fun σ H Q ⟨ρ, e, h, re, rh, p⟩ => p.here rh
theorem pts1 {c : Expr} (h : PT X c (tT G ec)) : PTs X [c] (tT G ec) := pts_one h

/-! ### own calls -/
def spOf (G : Gx) (np : Nat) (run : List D → Hh → R (D × Hh)) : Sp := fun vs H Q _ => vs.length = np ∧ ∃ ρ h ds, RVs G.K ρ H ds vs ∧ RH G ρ h H ∧ Post G ρ H (run ds h) fun d _ ρ' H' => ∀ v, RV G.K ρ' H' d v → Q v H'
theorem s_call {x : Str} {a : Expr} {as : List Expr} {k np : Nat} {f : Addr} {fd : FuncData} {ps : List Str} {eas : En → Hh → R (List D × Hh)} {run : List D → Hh → R (D × Hh)} (hr : ∀ ds h, ds.length ≠ np → run ds h = .stuck)
    (F : FnOk X.prog X.w X.K X.mg X.base C8.CX0 k f fd ps (spOf G np run)) (hk : Room k X.A) (hg : Gl X x) (hm : X.mg x = some (.ref f)) (hkp : PySem.W.keepIn X.K (.ref f) = true) (hb : Binds X.K fd ps []) (hd : (x == ("__debug__" : Str)) = false)
    (ha : PA X (a :: as) (tA G eas)) (hp : (a :: as).all plainArg = true) : PE X (.Call (.Name x p) (a :: as) [] pos) (tE G fun e h => eas e h >>= fun p => run p.1 p.2) := by
  rw [List.all_cons, Bool.and_eq_true] at hp
  refine (pe_call F hk hg hm hkp hb .nil C8.pass0 (E := C8.E0) ha hd (star_cons hp.1 _ _) (star_any hp.2 _ _)).weak fun σ H Q q => ?_
  obtain ⟨ρ, e, h, re, rh, p⟩ := q
  refine oneA (Ψ := fun vs H1 => spOf G np run (vs ++ []) H1 Q C8.E0) re rh p fun ds h1 ρ1 H1 vs g1 rh1 re1 rvs p1 => ?_
  rw [List.append_nil]
  refine ⟨?_, ρ1, h1, ds, rvs, rh1, p1⟩
  by_cases c : ds.length = np
  · rw [← rvs.length]; exact c
  · have p1 : Post G ρ1 H1 (run ds h1) _ := p1
    rw [hr ds h1 c] at p1
    exact p1.elim

/-! ### {} -/
theorem s_dnew : PE X (.Dict [] [] pos) (tE G fun _ h => .ok (.ref h.length, h ++ [.dic []])) := pe_dnewK.weak fun σ H Q q => by
  obtain ⟨ρ, e, h, re, rh, q⟩ := q
  exact fun p n => q _ _ (grow_push n) (rh.push n ⟨[], .inl ⟨rfl, upd_same⟩, List.nodup_nil, .nil⟩) _ (ref_push rh)
end
end SF
set_option Elab.async false
set_option linter.all false
set_option maxRecDepth 100000
set_option maxHeartbeats 1000000
/-! SFMatch: an own term stands for a piece of the program's text. -/
namespace SF
open PySem PySem.Spec PyProof.Rows L2

/-- the names of a def: its own, the module's constants, the module's defs -/
structure Mc where
  N : List Str
  gn : List Str
  fn : List Str

def bltNames : List Str := ["len", "abs", "int", "list", "tuple", "isinstance", "range", "enumerate", "zip", "bool", "str"]
def okName (x : Str) : Bool := !(x == ("__debug__" : Str)) && !(x == ("__classdict__" : Str))
def visB (sc : Scope) (x : Str) : Bool := decide (sc.names.lookup x = some .local) || decide (sc.names.lookup x = some .cell) || decide (sc.names.lookup x = some .free)
def glB (sc : Scope) (x : Str) : Bool := decide (sc.names.lookup x = some .globalImplicit)
def locB (sc : Scope) (fb : Str → Bool) (x : Str) : Bool := (decide (sc.names.lookup x = some .local) || decide (sc.names.lookup x = some .cell)) && (fb x || decide (sc.names.lookup x = some .local))
def mLit : D → Expr → Bool
  | .non, .Constant .none _ _ => true
  | .bl b, .Constant (.bool c) _ _ => decide (b = c)
  | .int i, .Constant (.int j) _ _ => decide (i = j)
  | .str x, .Constant (.str y) _ _ => decide (x = y)
  | _, _ => false
def mOp : Op2 → Operator → Bool
  | .add, .Add => true
  | .sub, .Sub => true
  | .mul, .Mult => true
  | .fdiv, .FloorDiv => true
  | .mod, .Mod => true
  | .pow, .Pow => true
  | _, _ => false
def mCp : Cp → CmpOp → Bool
  | .lt, .Lt => true
  | .le, .LtE => true
  | .gt, .Gt => true
  | .ge, .GtE => true
  | .eq, .Eq => true
  | .ne, .NotEq => true
  | .isN, .Is => true
  | .notN, .IsNot => true
  | .isT, .Is => true
  | .inn, .In => true
  | .notIn, .NotIn => true
  | _, _ => false
def notSet : Expr → Bool
  | .Set .. => false
  | _ => true
def Bf.name : Bf → Str
  | .len => "len"
  | .abs => "abs"
  | .int => "int"
  | .list => "list"
  | .tuple => "tuple"
  | .gcd => "gcd"
def Bm.name : Bm → Str
  | .append => "append"
  | .pop => "pop"
  | .reverse => "reverse"
/-- what a method is asked of -/
def baseOk : Expr → Bool
  | .Name .. => true
  | .Subscript .. => true
  | _ => false
def Bm.no : Bm → Nat
  | .append => 1
  | _ => 0
def I.isRng : I → Bool
  | .rng (.lit (.int 0)) _ => true
  | _ => false
def isTup : Expr → Bool
  | .Tuple .. => true
  | _ => false
def isName (x : Str) : Expr → Bool
  | .Name y _ => decide (y = x)
  | _ => false
def minus1 : Expr → Bool
  | .UnaryOp .USub (.Constant (.int 1) _ _) _ => true
  | .Constant (.int i) _ _ => decide (i = -1)
  | _ => false
def slots : T → List Nat
  | .var i => [i]
  | .tup ts => slotsS ts
  | .sub _ _ => []
where slotsS : Ts → List Nat
  | .nil => []
  | .cons t ts => slots t ++ slotsS ts
/-- forms whose truth is asked of their value -/
def plainTest : Expr → Bool
  | .Name .. => true
  | .Subscript .. => true
  | .Call .. => true
  | _ => false
def isTy (t : Ty) : Expr → Bool
  | .Name x _ => decide (x = Str.ofString t.name)
  | _ => false

def ownN (N : List Str) (own : List Nat) : List (Str × Nat) := own.map fun i => ((N[i]?).getD "", i)
/-- a call of an own def -/
def callB (c : Mc) (f : Nat) (dv : List D) (sc : Scope) (x : Expr) (k : List Expr → Bool) : Bool := match x with
  | .Call (.Name y _) (z :: zs) [] _ => dv.isEmpty && decide (c.fn[f]? = some y) && glB sc y && okName y && (z :: zs).all plainArg && k (z :: zs)
  | _ => false
def isiB (ts : List Ty) (sc : Scope) (x : Expr) (k : Expr → Bool) : Bool := match x with
  | .Call (.Name y _) [z, .Name u _] [] _ => decide (y = "isinstance") && glB sc y && plainArg z && k z && glB sc u && (match ts with
    | [t] => decide (u = Str.ofString t.name)
    | _ => false)
  | .Call (.Name y _) [z, .Tuple us _ _] [] _ => decide (y = "isinstance") && glB sc y && plainArg z && k z && tyNames ts us && (ts.all fun t => glB sc (Str.ofString t.name)) && decide (ts.length ≤ 8)
  | _ => false
def ixB (x : Expr) (ka kb : Expr → Bool) : Bool := match x with
  | .Subscript y z _ => notSlice z && ka y && kb z
  | _ => false
def varB (c : Mc) (i : Nat) (sc : Scope) (x : Expr) : Bool := match x with
  | .Name y _ => decide (c.N[i]? = some y) && visB sc y && okName y
  | _ => false

mutual
def mE (c : Mc) : E → Scope → (Str → Bool) → Expr → Bool
  | .lit d, _, _, x => mLit d x
  | .var i, sc, _, x => varB c i sc x
  | .glb i, sc, _, x => match x with
    | .Name y _ => decide (c.gn[i]? = some y) && glB sc y && okName y
    | _ => false
  | .tup es, sc, fb, x => match x with
    | .Tuple xs _ _ => mEs c es sc fb xs && decide (xs.length ≤ 1000)
    | _ => false
  | .lst es, sc, fb, x => match x with
    | .List xs _ => mEs c es sc fb xs && decide (xs.length ≤ 1000)
    | _ => false
  | .dnew, _, _, x => match x with
    | .Dict [] [] _ => true
    | _ => false
  | .neg a, sc, fb, x => match x with
    | .UnaryOp .USub y _ => mE c a sc fb y
    | _ => false
  | .not _, _, _, _ => false
  | .bin op a b, sc, fb, x => match x with
    | .BinOp y o z _ => mOp op o && mE c a sc fb y && mE c b sc fb z
    | _ => false
  | .cmp op a b, sc, fb, x => match x with
    | .Compare y [o] [z] _ => mCp op o && notSet z && mE c a sc fb y && mE c b sc fb z
    | _ => false
  | .and a b, sc, fb, x => match x with
    | .BoolOp .And [y, z] _ => mE c a sc fb y && mE c b sc fb z
    | .BoolOp .And (y :: z :: z' :: r) p => mE c a sc fb y && mE c b sc fb (.BoolOp .And (z :: z' :: r) p)
    | _ => false
  | .or a b, sc, fb, x => match x with
    | .BoolOp .Or [y, z] _ => mE c a sc fb y && mE c b sc fb z
    | .BoolOp .Or (y :: z :: z' :: r) p => mE c a sc fb y && mE c b sc fb (.BoolOp .Or (z :: z' :: r) p)
    | _ => false
  | .ife t a b, sc, fb, x => match x with
    | .IfExp t' y z _ => mT c t sc fb t' && mE c a sc fb y && mE c b sc fb z
    | _ => false
  | .ix a b, sc, fb, x => ixB x (mE c a sc fb) (mE c b sc fb)
  | .sl a lo hi, sc, fb, x => match x with
    | .Subscript y (.Slice l u none _) _ => mE c a sc fb y && mO c lo sc fb l && mO c hi sc fb u
    | _ => false
  | .call f es dv, sc, fb, x => callB c f dv sc x (mEs c es sc fb)
  | .bf b es, sc, fb, x => match x with
    | .Call (.Name y _) (z :: zs) [] _ => decide (y = b.name) && glB sc y && (z :: zs).all plainArg && mEs c es sc fb (z :: zs)
    | _ => false
  | .bm b o es, sc, fb, x => match x with
    | .Call (.Attribute y m ap) [] [] cp => decide (m = b.name) && decide (b.no = 0) && (ap.endLine == cp.line) && baseOk y && mE c o sc fb y && mEs c es sc fb []
    | .Call (.Attribute y m ap) (z :: zs) [] cp => decide (m = b.name) && (ap.endLine == cp.line) && baseOk y && decide ((z :: zs).length < 30) && (z :: zs).all plainArg && mE c o sc fb y && mEs c es sc fb (z :: zs)
    | _ => false
  | .isi a ts, sc, fb, x => isiB ts sc x (mE c a sc fb)
  | .dvals a, sc, fb, x => match x with
    | .Call (.Name y _) [.Call (.Attribute z m ap) [] [] cp] [] _ => decide (y = "list") && decide (m = "values") && glB sc y && (ap.endLine == cp.line) && baseOk z && mE c a sc fb z
    | _ => false
  | .comp elt tg it cs own, sc, fb, x => match x with
    | .ListComp y [⟨t', i', cs', 0⟩] sc1 _ => mI c it sc fb t' i' && notSet i' && blkC c.N sc sc1 (ownN c.N own) && ((slots tg).all fun i => decide (i ∈ own)) &&
        (let sc2 := relS sc1 sc
         let fb2 := fun n => sc1.names.lookup n == some .cell
         mG c tg sc2 fb2 t' && mC c cs sc2 fb2 cs' && mE c elt sc2 fb2 y)
    | _ => false
termination_by structural x => x
def mT (c : Mc) : E → Scope → (Str → Bool) → Expr → Bool
  | .not a, sc, fb, x => match x with
    | .UnaryOp .Not y _ => mT c a sc fb y
    | _ => false
  | .and a b, sc, fb, x => match x with
    | .BoolOp .And [y, z] _ => mT c a sc fb y && mT c b sc fb z
    | .BoolOp .And (y :: z :: z' :: r) p => mT c a sc fb y && mT c b sc fb (.BoolOp .And (z :: z' :: r) p)
    | _ => false
  | .or a b, sc, fb, x => match x with
    | .BoolOp .Or [y, z] _ => mT c a sc fb y && mT c b sc fb z
    | .BoolOp .Or (y :: z :: z' :: r) p => mT c a sc fb y && mT c b sc fb (.BoolOp .Or (z :: z' :: r) p)
    | _ => false
  | .cmp op a b, sc, fb, x => match x with
    | .Compare y [o] [z] _ => mCp op o && notSet z && mE c a sc fb y && mE c b sc fb z
    | _ => false
  | .var i, sc, _, x => varB c i sc x
  | .call f es dv, sc, fb, x => callB c f dv sc x (mEs c es sc fb)
  | .ix a b, sc, fb, x => ixB x (mE c a sc fb) (mE c b sc fb)
  | .isi a ts, sc, fb, x => isiB ts sc x (mE c a sc fb)
  | _, _, _, _ => false
termination_by structural x => x
def mEs (c : Mc) : Es → Scope → (Str → Bool) → List Expr → Bool
  | .nil, _, _, xs => xs.isEmpty
  | .cons e es, sc, fb, xs => match xs with
    | y :: ys => plainArg y && mE c e sc fb y && mEs c es sc fb ys
    | [] => false
termination_by structural x => x
def mO (c : Mc) : Oe → Scope → (Str → Bool) → Option Expr → Bool
  | .none, _, _, x => x.isNone
  | .some e, sc, fb, x => match x with
    | some y => mE c e sc fb y
    | none => false
termination_by structural x => x
def mI (c : Mc) : I → Scope → (Str → Bool) → Expr → Expr → Bool
  | .of e, sc, fb, _, x => mE c e sc fb x
  | .rng a b, sc, fb, _, x => match x with
    | .Call (.Name y _) [z] [] _ => decide (y = "range") && glB sc y && plainArg z && (I.rng a b).isRng && mE c b sc fb z
    | .Call (.Name y _) [z, z'] [] _ => decide (y = "range") && glB sc y && plainArg z && plainArg z' && mE c a sc fb z && mE c b sc fb z'
    | _ => false
  | .rngd a b, sc, fb, _, x => match x with
    | .Call (.Name y _) [z, z', z2] [] _ => decide (y = "range") && glB sc y && plainArg z && plainArg z' && minus1 z2 && mE c a sc fb z && mE c b sc fb z'
    | _ => false
  | .enum a, sc, fb, t, x => match x with
    | .Call (.Name y _) [z] [] _ => decide (y = "enumerate") && glB sc y && isTup t && plainArg z && mE c a sc fb z
    | _ => false
  | .zip a b, sc, fb, t, x => match x with
    | .Call (.Name y _) [z, z'] [] _ => decide (y = "zip") && glB sc y && isTup t && plainArg z && plainArg z' && mE c a sc fb z && mE c b sc fb z'
    | _ => false
termination_by structural x => x
def mC (c : Mc) : Es → Scope → (Str → Bool) → List Expr → Bool
  | .nil, _, _, xs => xs.isEmpty
  | .cons e .nil, sc, fb, xs => match xs with
    | [y] => mT c e sc fb y
    | _ => false
  | .cons _ (.cons _ _), _, _, _ => false
termination_by structural x => x
def mG (c : Mc) : T → Scope → (Str → Bool) → Expr → Bool
  | .var i, sc, fb, x => match x with
    | .Name y _ => decide (c.N[i]? = some y) && locB sc fb y
    | _ => false
  | .tup ts, sc, fb, x => match x with
    | .Tuple xs _ _ => mGs c ts sc fb xs
    | _ => false
  | .sub o i, sc, fb, x => match x with
    | .Subscript y z _ => notSlice z && mE c o sc fb y && mE c i sc fb z
    | _ => false
termination_by structural x => x
def mGs (c : Mc) : Ts → Scope → (Str → Bool) → List Expr → Bool
  | .nil, _, _, xs => xs.isEmpty
  | .cons t ts, sc, fb, xs => match xs with
    | y :: ys => plainArg y && mG c t sc fb y && mGs c ts sc fb ys
    | [] => false
termination_by structural x => x
end
/-- no comprehension -/
def notComp : Expr → Bool
  | .ListComp .. => false
  | .SetComp .. => false
  | .DictComp .. => false
  | _ => true
def E.isComp : E → Bool
  | .comp .. => true
  | _ => false
def notTup : Expr → Bool
  | .Tuple .. => false
  | .List .. => false
  | .Starred .. => false
  | _ => true
def asgOk (t a : Expr) : Bool := notComp a && plainArg t && (notTup t || notTup a)
mutual
def mS (c : Mc) : S → Scope → Stmt → Bool
  | .asg t a, sc, x => match x with
    | .Assign [t'] y _ => (asgOk t' y && mE c a sc (fun _ => true) y && mG c t sc (fun _ => true) t') || (match t', y, t, a with
      | .Name n pn, .ListComp y' [⟨tt, ii, cc, 0⟩] sc1 cp, .var i, .comp elt tg it cs own => decide (c.N[i]? = some n) && decide (sc.names.lookup n = some .local) && (pn.line == cp.line) && !(sc1.names.any fun (m, k) => m == n && (k == .local || k == .cell)) &&
          decide (sc.kind = .function) && mE c (.comp elt tg it cs own) sc (fun _ => true) (.ListComp y' [⟨tt, ii, cc, 0⟩] sc1 cp)
      | _, _, _, _ => false) || (match t', y with
      | .Name n _, .ListComp _ _ _ _ => decide (sc.names.lookup n = some .cell) && mE c a sc (fun _ => true) y && mG c t sc (fun _ => true) t'
      | _, _ => false)
    | _ => false
  | .par i j a b, sc, x => match x with
    | .Assign [.Tuple [.Name n pn, .Name m pm] _ _] (.Tuple [y, z] _ _) _ => decide (c.N[i]? = some n) && decide (c.N[j]? = some m) && decide (i ≠ j) && decide (n ≠ m) && decide (sc.names.lookup n = some .local) && decide (sc.names.lookup m = some .local) &&
        (pn.line == pm.line) && plainArg y && plainArg z && decide (sc.kind = .function) && !([y, z].all (foldedForSure 8)) && !([y, z].all (constantsAlone 8)) && mE c a sc (fun _ => true) y && mE c b sc (fun _ => true) z
    | _ => false
  | .expr a, sc, x => match x with
    | .Expr y _ => notComp y && mE c a sc (fun _ => true) y
    | _ => false
  | .ret a, sc, x => match x with
    | .Return (some y) _ => mE c a sc (fun _ => true) y
    | _ => false
  | .ife t a b, sc, x => match x with
    | .If y s s' _ => mT c t sc (fun _ => true) y && mSs c a sc s && mSs c b sc s'
    | _ => false
  | .for_ t it b, sc, x => match x with
    | .For t' y s [] _ => notSet y && mI c it sc (fun _ => true) t' y && mG c t sc (fun _ => true) t' && mSs c b sc s
    | _ => false
  | .brk, _, x => match x with
    | .Break _ => true
    | _ => false
  | .cnt, _, x => match x with
    | .Continue _ => true
    | _ => false
termination_by structural x => x
def mSs (c : Mc) : Ss → Scope → List Stmt → Bool
  | .nil, _, xs => xs.isEmpty
  | .cons s ss, sc, xs => match xs with
    | y :: ys => mS c s sc y && mSs c ss sc ys
    | [] => false
termination_by structural x => x
end
end SF
set_option Elab.async false
set_option linter.all false
set_option maxRecDepth 100000
set_option maxHeartbeats 1000000
/-! SFSound: what an own term computes the program computes. -/
namespace SF
open PySem PySem.Spec PyProof.Rows L2

structure Good (G : Gx) (c : Mc) (call : Nat → List D → Hh → R (D × Hh)) (gl : List D) (k : Nat) (sc : Scope) (fb : Str → Bool) (X : Cx) : Prop where
  hN : X.N = c.N
  nd : c.N.Nodup
  hsc : X.env.scope = sc
  hfb : X.fn = fb
  calm : X.calm = true
  hP : X.prog = G.P
  hW : X.w = G.w
  hK : X.K = G.K
  room : Room k X.A
  blt : ∀ x ∈ bltNames, X.mg x = none
  gcd : X.mg "gcd" = some (.builtin "math.gcd")
  glo : ∀ (i : Nat) (x : Str), c.gn[i]? = some x → ∃ d u v, gl[i]? = some d ∧ X.mg x = some u ∧ RelV v u ∧ ∀ ρ H, RV G.K ρ H d v
  fns : ∀ (i : Nat) (x : Str), c.fn[i]? = some x → ∃ f fd ps np, (∀ ds h, ds.length ≠ np → call i ds h = .stuck) ∧ FnOk X.prog X.w X.K X.mg X.base C8.CX0 k f fd ps (spOf G np (call i)) ∧ X.mg x = some (.ref f) ∧ PySem.W.keepIn X.K (.ref f) = true ∧ Binds X.K fd ps []
section
variable {G : Gx} {c : Mc} {call : Nat → List D → Hh → R (D × Hh)} {gl : List D} {k : Nat} {sc : Scope} {fb : Str → Bool} {X : Cx} {x : Expr}
theorem Good.blk (g : Good G c call gl k sc fb X) (s : Shared) (H : Hp) (sc1 : Scope) (cl : List (Str × Addr)) (C : Addr) (fp : List Addr) :
    Good G c call gl k (relS sc1 sc) (fun n => sc1.names.lookup n == some .cell) (X.blk s H sc1 (compEnvC sc1 cl C X.env) fp) :=
  ⟨g.hN, g.nd, by rw [← g.hsc]; rfl, rfl, g.calm, g.hP, g.hW, g.hK, g.room, g.blt, g.gcd, g.glo, g.fns⟩
theorem Good.units (g : Good G c call gl k sc fb X) : X.A.units + 64 < cLine := g.room.units
theorem Good.glo1 (g : Good G c call gl k sc fb X) {y : Str} (h : glB sc y = true) : Gl X y := by
  have := of_decide_eq_true h
  rw [← g.hsc] at this
  exact this
theorem Good.vis (g : Good G c call gl k sc fb X) {y : Str} (h : visB sc y = true) : Vis X.env.scope y := by
  unfold visB at h
  simp only [Bool.or_eq_true, decide_eq_true_eq] at h
  rw [g.hsc]
  rcases h with (h | h) | h
  · exact .inl h
  · exact .inr (.inl h)
  · exact .inr (.inr h)
theorem Good.loc (g : Good G c call gl k sc fb X) {y : Str} (h : locB sc fb y = true) : Loc X.env.scope y ∧ (X.fn y = true ∨ X.env.scope.names.lookup y = some .local) := by
  unfold locB at h
  simp only [Bool.and_eq_true, Bool.or_eq_true, decide_eq_true_eq] at h
  rw [g.hsc, g.hfb]
  exact h
theorem okName_of {y : Str} (h : okName y = true) : (y == ("__debug__" : Str)) = false ∧ (y == ("__classdict__" : Str)) = false := by
  unfold okName at h
  simp only [Bool.and_eq_true, Bool.not_eq_true'] at h
  exact h
theorem Good.name (g : Good G c call gl k sc fb X) {i : Nat} {y : Str} (h : c.N[i]? = some y) : X.N[i]? = some y := by rw [g.hN]; exact h
theorem blt_ok {x : Str} (h : x ∈ bltNames) : x ≠ "__name__" ∧ (x == ("__debug__" : Str)) = false := by
  have : bltNames.all (fun x => decide (x ≠ "__name__") && !(x == ("__debug__" : Str))) = true := by decide +kernel
  have := List.all_eq_true.mp this x h
  simp only [Bool.and_eq_true, decide_eq_true_eq, Bool.not_eq_true'] at this
  exact this
theorem ok_var {i : Nat} (g : Good G c call gl k sc fb X) (h : varB c i sc x = true) : PE X x (tE G (evE call gl (.var i))) := by
  unfold varB at h
  split at h
  · rename_i y p
    simp only [Bool.and_eq_true, decide_eq_true_eq] at h
    obtain ⟨⟨h1, h2⟩, h3⟩ := h
    exact s_var (g.name h1) (g.vis h2) (okName_of h3).1 (okName_of h3).2
  · cases h
theorem plainIx_of {b : Expr} (h : notSlice b = true) : PlainIx b := by
  intro o i
  cases b <;> first | rfl | cases h
theorem ok_ix {a b : E} {ka kb : Expr → Bool} (g : Good G c call gl k sc fb X) (h : ixB x ka kb = true) (ha : ∀ y, ka y = true → PE X y (tE G (evE call gl a))) (hb : ∀ y, kb y = true → PE X y (tE G (evE call gl b))) : PE X x (tE G (evE call gl (.ix a b))) := by
  unfold ixB at h
  split at h
  · simp only [Bool.and_eq_true] at h
    exact s_ix (o_ix3 g.hP g.hW g.hK g.units) d_ix (plainIx_of h.1.1) (ha _ h.1.2) (hb _ h.2)
  · cases h
theorem ok_call {f : Nat} {es : Es} {dv : List D} {kk : List Expr → Bool} (g : Good G c call gl k sc fb X) (h : callB c f dv sc x kk = true) (ha : ∀ ys, kk ys = true → PA X ys (tA G (evEs call gl es))) : PE X x (tE G (evE call gl (.call f es dv))) := by
  unfold callB at h
  split at h
  · rename_i y p z zs q
    simp only [Bool.and_eq_true, decide_eq_true_eq] at h
    obtain ⟨⟨⟨⟨⟨h1, h2⟩, h3⟩, h4⟩, h5⟩, h6⟩ := h
    obtain ⟨fa, fd, ps, np, r1, r2, r3, r4, r5⟩ := g.fns f _ h2
    have e : dv = [] := List.isEmpty_iff.mp h1
    subst e
    refine (s_call r1 r2 g.room (g.glo1 h3) r3 r4 r5 (okName_of h4).1 (ha _ h6) h5).weak fun σ H Q q => ?_
    have e : (evE call gl (.call f es [])) = fun e h => evEs call gl es e h >>= fun p => call f p.1 p.2 := by
      funext e h
      show (evEs call gl es e h >>= fun p => call f (p.1 ++ []) p.2) = _
      simp only [List.append_nil]
    rw [e] at q
    exact q
  · cases h
theorem Good.bl (g : Good G c call gl k sc fb X) {y : Str} (h : y ∈ bltNames) : X.mg y = none := g.blt y h
theorem tyn_mem (t : Ty) : Str.ofString t.name ∈ bltNames := by cases t <;> decide +kernel
theorem ok_isi {a : E} {ts : List Ty} {ka : Expr → Bool} (g : Good G c call gl k sc fb X) (h : isiB ts sc x ka = true) (ha : ∀ y, ka y = true → PE X y (tE G (evE call gl a))) : PE X x (tE G (evE call gl (.isi a ts))) := by
  unfold isiB at h
  split at h
  · simp only [Bool.and_eq_true, decide_eq_true_eq] at h
    obtain ⟨⟨⟨⟨⟨h1, h2⟩, h3⟩, h4⟩, h5⟩, h6⟩ := h
    subst h1
    split at h6
    · rename_i t
      have h6 := of_decide_eq_true h6
      subst h6
      exact s_isi1 g.hK (ha _ h4) h3 (g.glo1 h2) (g.bl (by decide +kernel)) (g.glo1 h5) (g.bl (tyn_mem t))
    · cases h6
  · simp only [Bool.and_eq_true, decide_eq_true_eq] at h
    obtain ⟨⟨⟨⟨⟨⟨h1, h2⟩, h3⟩, h4⟩, h5⟩, h6⟩, h7⟩ := h
    subst h1
    exact s_isiN g.hK (ha _ h4) h3 (g.glo1 h2) (g.bl (by decide +kernel)) h5 (fun t ht => ⟨g.glo1 (List.all_eq_true.mp h6 t ht), g.bl (tyn_mem t)⟩) h7
  · cases h
theorem ok_lit {d : D} (h : mLit d x = true) : PE X x (tE G (evE call gl (.lit d))) := by
  unfold mLit at h
  split at h
  · exact s_non
  · have := of_decide_eq_true h; subst this; exact s_bl
  · have := of_decide_eq_true h; subst this; exact s_int
  · have := of_decide_eq_true h; subst this; exact s_str
  · cases h
theorem ok_glb {i : Nat} (g : Good G c call gl k sc fb X) (h : mE c (.glb i) sc fb x = true) : PE X x (tE G (evE call gl (.glb i))) := by
  unfold mE at h
  split at h
  · rename_i y p
    simp only [Bool.and_eq_true, decide_eq_true_eq] at h
    obtain ⟨⟨h1, h2⟩, h3⟩ := h
    obtain ⟨d, u, v, e1, e2, r, rv⟩ := g.glo i _ h1
    refine (s_glb (G := G) (d := d) (g.glo1 h2) e2 r (okName_of h3).1 rv).weak fun σ H Q q => ?_
    have e : evE call gl (.glb i) = fun _ h => .ok (d, h) := by
      funext _ h
      show (match gl[i]? with
        | some d => R.ok (d, h)
        | none => .stuck) = _
      rw [e1]
    rw [e] at q
    exact q
  · cases h
theorem ok_op {op : Op2} {o : Operator} {a b : E} {y z : Expr} {pos : Pos} (g : Good G c call gl k sc fb X) (h : mOp op o = true) (ha : PE X y (tE G (evE call gl a))) (hb : PE X z (tE G (evE call gl b))) : PE X (.BinOp y o z pos) (tE G (evE call gl (.bin op a b))) := by
  unfold mOp at h
  split at h
  · exact s_bin (o_add g.hK) d_add ha hb
  · exact s_bin op_sub d_sub ha hb
  · exact s_bin o_mul d_mul ha hb
  · exact s_bin o_fdiv d_fdiv ha hb
  · exact s_bin op_modN d_mod ha hb
  · exact s_bin op_pow d_pow ha hb
  · cases h
theorem notSet_marks {o : CmpOp} {b : Expr} (h : notSet b = true) : behindInMarks o b = false := by
  cases b <;> first | rfl | cases h
/-- the rule of a comparison -/
theorem cp_rule {op : Cp} {o : CmpOp} (g : Good G c call gl k sc fb X) (h : mCp op o = true) : ∃ r, OpR X (compareOp o) r ∧ Does2 G r (cmp2 op) := by
  unfold mCp at h
  split at h
  · exact ⟨_, op_lt, d_lt⟩
  · exact ⟨_, op_le, d_le⟩
  · exact ⟨_, op_gt, d_gt⟩
  · exact ⟨_, op_ge, d_ge⟩
  · exact ⟨_, o_eq g.hK g.units, d_eq⟩
  · exact ⟨_, o_ne g.hK g.units, d_ne⟩
  · exact ⟨_, op_isN, d_isN⟩
  · exact ⟨_, op_notN, d_notN⟩
  · exact ⟨_, o_isT, d_isT⟩
  · exact ⟨_, (g.hK ▸ op_in_seq).or (o_inD g.hP g.hW g.hK g.units), d_in false⟩
  · exact ⟨_, (g.hK ▸ op_notIn_seq).or (o_notInD g.hP g.hW g.hK g.units), d_in true⟩
  · cases h
theorem ok_cmp {op : Cp} {o : CmpOp} {a b : E} {y z : Expr} {pos : Pos} (g : Good G c call gl k sc fb X) (h : mCp op o = true) (hm : notSet z = true) (ha : PE X y (tE G (evE call gl a))) (hb : PE X z (tE G (evE call gl b))) : PE X (.Compare y [o] [z] pos) (tE G (evE call gl (.cmp op a b))) := by
  obtain ⟨r, h1, h2⟩ := cp_rule g h
  exact s_cmp h1 h2 (notSet_marks hm) ha hb
theorem ok_cmpT {op : Cp} {o : CmpOp} {a b : E} {y z : Expr} {pos : Pos} (g : Good G c call gl k sc fb X) (h : mCp op o = true) (hm : notSet z = true) (ha : PE X y (tE G (evE call gl a))) (hb : PE X z (tE G (evE call gl b))) : PT X (.Compare y [o] [z] pos) (tT G (evT call gl (.cmp op a b))) := by
  obtain ⟨r, h1, h2⟩ := cp_rule g h
  exact s_cmpT h1 h2 (notSet_marks hm) ha hb
theorem pe_last {op : BoolOp} {y : Expr} {pos : Pos} {t : TE} (h : PE X y t) : PE X (.BoolOp op [y] pos) t := ⟨fun pins s σ H Q I q => h.run pins s σ H Q I q⟩
theorem ok_bf {b : Bf} {es : Es} {y : Str} {z : Expr} {zs : List Expr} {p pos : Pos} (g : Good G c call gl k sc fb X) (hy : y = b.name) (hg : glB sc y = true) (hp : (z :: zs).all plainArg = true) (ha : PA X (z :: zs) (tA G (evEs call gl es))) :
    PE X (.Call (.Name y p) (z :: zs) [] pos) (tE G (evE call gl (.bf b es))) := by
  have hg := g.glo1 hg
  subst hy
  have hK := g.hK
  cases b with
  | len => exact s_bf (hK ▸ call_len_seq) d_len hg (g.bl (by decide +kernel)) (by decide +kernel) ha (blt_ok (by decide +kernel)).1 (blt_ok (by decide +kernel)).2 hp
  | abs => exact s_bf call_abs d_abs hg (g.bl (by decide +kernel)) (by decide +kernel) ha (blt_ok (by decide +kernel)).1 (blt_ok (by decide +kernel)).2 hp
  | int => exact s_bt call_int1 d_int hg (g.bl (by decide +kernel)) (by decide +kernel) ha (blt_ok (by decide +kernel)).1 (blt_ok (by decide +kernel)).2 hp
  | list => exact s_bt (hK ▸ call_list_of) d_list hg (g.bl (by decide +kernel)) (by decide +kernel) ha (blt_ok (by decide +kernel)).1 (blt_ok (by decide +kernel)).2 hp
  | tuple => exact s_bt (hK ▸ call_tuple_of) d_tuple hg (g.bl (by decide +kernel)) (by decide +kernel) ha (blt_ok (by decide +kernel)).1 (blt_ok (by decide +kernel)).2 hp
  | gcd => exact s_bfun cr_gcd d_gcd hg g.gcd ha (by decide +kernel) hp
theorem base_of {y : Expr} {n : Str} {env : Env} (h : baseOk y = true) : attributeBase y n env (eval y env) = eval y env := by
  cases y <;> first | rfl | cases h
theorem ok_bm {b : Bm} {o : E} {es : Es} {m : Str} {y z : Expr} {zs : List Expr} {ap cp : Pos} (g : Good G c call gl k sc fb X) (hm : m = b.name) (hl : (ap.endLine == cp.line) = true) (hy : baseOk y = true) (hn : (z :: zs).length < 30) (hp : (z :: zs).all plainArg = true) (ho : PE X y (tE G (evE call gl o)))
    (ha : PA X (z :: zs) (tA G (evEs call gl es))) : PE X (.Call (.Attribute y m ap) (z :: zs) [] cp) (tE G (evE call gl (.bm b o es))) := by
  subst hm
  cases b with
  | append => exact s_bm g.hK F.slot_list_append F.type_list_append mt_append d_append ho ha hp (base_of hy) hl hn
  | pop => exact s_bm g.hK F.slot_list_pop F.type_list_pop mt_pop d_pop ho ha hp (base_of hy) hl hn
  | reverse => exact s_bm g.hK F.slot_list_reverse F.type_list_reverse mt_reverse d_reverse ho ha hp (base_of hy) hl hn
theorem ok_bm0 {b : Bm} {o : E} {es : Es} {m : Str} {y : Expr} {ap cp : Pos} (g : Good G c call gl k sc fb X) (hm : m = b.name) (hl : (ap.endLine == cp.line) = true) (hy : baseOk y = true) (ho : PE X y (tE G (evE call gl o)))
    (he : es = .nil) : PE X (.Call (.Attribute y m ap) [] [] cp) (tE G (evE call gl (.bm b o es))) := by
  subst hm he
  cases b with
  | append => exact s_bm0 g.hK F.slot_list_append F.type_list_append mt_append d_append ho (base_of hy) hl
  | pop => exact s_bm0 g.hK F.slot_list_pop F.type_list_pop mt_pop d_pop ho (base_of hy) hl
  | reverse => exact s_bm0 g.hK F.slot_list_reverse F.type_list_reverse mt_reverse d_reverse ho (base_of hy) hl
end
end SF
set_option Elab.async false
set_option linter.all false
set_option maxRecDepth 100000
set_option maxHeartbeats 2000000
/-! SFSound2: .. by the term's form. -/
namespace SF
open PySem PySem.Spec PyProof.Rows L2

def Es.len : Es → Nat
  | .nil => 0
  | .cons _ es => es.len + 1
def Ts.len : Ts → Nat
  | .nil => 0
  | .cons _ es => es.len + 1
section
variable {G : Gx} {c : Mc} {call : Nat → List D → Hh → R (D × Hh)} {gl : List D} {k : Nat}
theorem bind_ok {α β : Type} {r : R α} {f : α → R β} {b : β} (h : r.bind f = .ok b) : ∃ a, r = .ok a ∧ f a = .ok b := by
  cases r with
  | ok a => exact ⟨a, rfl, h⟩
  | exc _ _ _ => cases h
  | stuck => cases h
theorem evEs_len : ∀ (es : Es) {e : En} {h : Hh} {ds : List D} {h' : Hh}, evEs call gl es e h = .ok (ds, h') → ds.length = es.len
  | .nil, e, h, ds, h', q => by cases q; rfl
  | .cons a es, e, h, ds, h', q => by
    obtain ⟨p, _, q1⟩ := bind_ok q
    obtain ⟨p2, q2, q3⟩ := bind_ok q1
    obtain ⟨ds2, h2⟩ := p2
    have := evEs_len es q2
    cases q3
    rw [List.length_cons, this, Es.len]
theorem mEs_len : ∀ (es : Es) {sc : Scope} {fb : Str → Bool} {xs : List Expr}, mEs c es sc fb xs = true → xs.length = es.len
  | .nil, sc, fb, xs, h => by
    unfold mEs at h
    rw [List.isEmpty_iff.mp h]
    rfl
  | .cons a es, sc, fb, xs, h => by
    unfold mEs at h
    split at h
    · simp only [Bool.and_eq_true] at h
      rw [List.length_cons, mEs_len es h.2, Es.len]
    · cases h
theorem evGs_len : ∀ (ts : Ts) {ds : List D} {e : En} {h : Hh} {r : En × Hh}, evGs call gl ts ds e h = .ok r → ds.length = ts.len
  | .nil, ds, e, h, r, q => by
    cases ds with
    | nil => rfl
    | cons _ _ => cases q
  | .cons t ts, ds, e, h, r, q => by
    cases ds with
    | nil => cases q
    | cons d ds =>
      obtain ⟨p, _, q1⟩ := bind_ok q
      rw [List.length_cons, evGs_len ts q1, Ts.len]
theorem assign_cons {y : Expr} (h : plainArg y = true) (ys : List Expr) (env : Env) : assignEach (y :: ys) env = (false, assign y env) :: assignEach ys env := by
  cases y <;> first | rfl | cases h
theorem mGs_len : ∀ (ts : Ts) {sc : Scope} {fb : Str → Bool} {xs : List Expr} (env : Env), mGs c ts sc fb xs = true → (assignEach xs env).length = ts.len ∧ (assignEach xs env).findIdx? (·.1) = none
  | .nil, sc, fb, xs, env, h => by
    unfold mGs at h
    rw [List.isEmpty_iff.mp h]
    exact ⟨rfl, rfl⟩
  | .cons t ts, sc, fb, xs, env, h => by
    unfold mGs at h
    split at h
    · simp only [Bool.and_eq_true] at h
      obtain ⟨h1, h2⟩ := mGs_len ts env h.2
      rw [assign_cons h.1.1]
      refine ⟨by rw [List.length_cons, h1, Ts.len], ?_⟩
      rw [List.findIdx?_cons]
      simp [h2]
    · cases h
theorem lit_plain {x : Expr} (h : minus1 x = true) {X : Cx} : plainArg x = true ∧ PE X x (tE G fun _ h => .ok (.int (-1), h)) := by
  unfold minus1 at h
  split at h
  · refine ⟨rfl, ?_⟩
    exact (s_neg (G := G) (s_int (i := 1)))
  · have := of_decide_eq_true h
    subst this
    exact ⟨rfl, s_int⟩
  · cases h
theorem notSet_fold {iter : Expr} {env : Env} (h : notSet iter = true) : ∀ x, foldedSetIterable iter env x = pure x := by
  intro x
  cases iter <;> first | rfl | cases h
theorem plain_truth {x : Expr} {env : Env} (h : plainTest x = true) : ∀ whole, isTrue x env whole = (do let v ← whole; standAt x.pos; holding [v] (truthy v)) := by
  intro whole
  cases x <;> first | rfl | cases h
theorem as_test {X : Cx} {x : Expr} {ea : En → Hh → R (D × Hh)} (h : plainTest x = true) (ha : PE X x (tE G ea)) : PT X x (tT G fun e h => ea e h >>= fun r => match r.1 with
    | .bl k => .ok (k, r.2)
    | _ => .stuck) := s_val (plain_truth h) ha
theorem varB_plain {sc : Scope} {i : Nat} {x : Expr} (h : varB c i sc x = true) : plainTest x = true := by
  unfold varB at h
  split at h
  · rfl
  · cases h
theorem callB_plain {sc : Scope} {f : Nat} {dv : List D} {kk : List Expr → Bool} {x : Expr} (h : callB c f dv sc x kk = true) : plainTest x = true := by
  unfold callB at h
  split at h
  · rfl
  · cases h
theorem ixB_plain {ka kb : Expr → Bool} {x : Expr} (h : ixB x ka kb = true) : plainTest x = true := by
  unfold ixB at h
  split at h
  · rfl
  · cases h
theorem isiB_plain {sc : Scope} {ts : List Ty} {kk : Expr → Bool} {x : Expr} (h : isiB ts sc x kk = true) : plainTest x = true := by
  unfold isiB at h
  split at h
  · rfl
  · rfl
  · cases h
theorem bind_assoc {α β γ : Type} (r : R α) (f : α → R β) (g : β → R γ) : ((r >>= f) >>= g) = (r >>= fun a => f a >>= g) := by cases r <;> rfl
abbrev asBl (r : D × Hh) : R (Bool × Hh) := match r.1 with
  | .bl k => .ok (k, r.2)
  | _ => .stuck
theorem evT_var {i : Nat} : evT call gl (.var i) = fun e h => evE call gl (.var i) e h >>= fun r => match r.1 with
    | .bl k => .ok (k, r.2)
    | _ => .stuck := by
  funext e h
  unfold evT evE
  cases e[i]? with
  | none => rfl
  | some o => cases o with
    | none => rfl
    | some d => cases d <;> rfl
theorem evT_call {f : Nat} {es : Es} {dv : List D} : evT call gl (.call f es dv) = fun e h => evE call gl (.call f es dv) e h >>= fun r => match r.1 with
    | .bl k => .ok (k, r.2)
    | _ => .stuck := by
  funext e h
  exact (bind_assoc (evEs call gl es e h) (fun p => call f (p.1 ++ dv) p.2) asBl).symm
theorem evT_ix {a b : E} : evT call gl (.ix a b) = fun e h => evE call gl (.ix a b) e h >>= fun r => match r.1 with
    | .bl k => .ok (k, r.2)
    | _ => .stuck := by
  funext e h
  show (evE call gl a e h >>= fun p => evE call gl b e p.2 >>= fun q => ix2 p.1 q.1 q.2 >>= asBl) = ((evE call gl a e h >>= fun p => evE call gl b e p.2 >>= fun q => ix2 p.1 q.1 q.2) >>= asBl)
  cases evE call gl a e h with
  | ok p => exact (bind_assoc (evE call gl b e p.2) (fun q => ix2 p.1 q.1 q.2) asBl).symm
  | exc _ _ _ => rfl
  | stuck => rfl
theorem evT_isi {a : E} {ts : List Ty} : evT call gl (.isi a ts) = fun e h => evE call gl (.isi a ts) e h >>= fun r => match r.1 with
    | .bl k => .ok (k, r.2)
    | _ => .stuck := by
  funext e h
  show (evE call gl a e h >>= fun p => match tyAny p.2 p.1 ts with
    | some b => R.ok (b, p.2)
    | none => .stuck) = ((evE call gl a e h >>= fun p => match tyAny p.2 p.1 ts with
    | some b => R.ok (D.bl b, p.2)
    | none => .stuck) >>= asBl)
  cases evE call gl a e h with
  | ok p =>
    show (match tyAny p.2 p.1 ts with
      | some b => R.ok (b, p.2)
      | none => .stuck) = ((match tyAny p.2 p.1 ts with
      | some b => R.ok (D.bl b, p.2)
      | none => .stuck) >>= asBl)
    cases tyAny p.2 p.1 ts <;> rfl
  | exc _ _ _ => rfl
  | stuck => rfl
mutual
theorem okE : ∀ (e : E) (sc : Scope) (fb : Str → Bool) (X : Cx) (x : Expr), Good G c call gl k sc fb X → mE c e sc fb x = true → PE X x (tE G (evE call gl e))
  | .lit d, sc, fb, X, x, g, h => ok_lit h
  | .var i, sc, fb, X, x, g, h => ok_var g h
  | .glb i, sc, fb, X, x, g, h => ok_glb g h
  | .tup es, sc, fb, X, x, g, h => by
    unfold mE at h
    split at h
    · simp only [Bool.and_eq_true, decide_eq_true_eq] at h
      refine s_tup (fun e h0 ds h' q => ?_) (okEs es sc fb X _ g h.1)
      rw [evEs_len es q, ← mEs_len es h.1]
      exact Nat.le_trans h.2 (by decide)
    · cases h
  | .lst es, sc, fb, X, x, g, h => by
    unfold mE at h
    split at h
    · simp only [Bool.and_eq_true, decide_eq_true_eq] at h
      refine s_lst (fun e h0 ds h' q => ?_) (okEs es sc fb X _ g h.1)
      rw [evEs_len es q, ← mEs_len es h.1]
      exact Nat.le_trans h.2 (by decide)
    · cases h
  | .dnew, sc, fb, X, x, g, h => by
    unfold mE at h
    split at h
    · exact s_dnew
    · cases h
  | .neg a, sc, fb, X, x, g, h => by
    unfold mE at h
    split at h
    · exact s_neg (okE a sc fb X _ g h)
    · cases h
  | .not a, sc, fb, X, x, g, h => by
    unfold mE at h
    cases h
  | .bin op a b, sc, fb, X, x, g, h => by
    unfold mE at h
    split at h
    · simp only [Bool.and_eq_true] at h
      exact ok_op g h.1.1 (okE a sc fb X _ g h.1.2) (okE b sc fb X _ g h.2)
    · cases h
  | .cmp op a b, sc, fb, X, x, g, h => by
    unfold mE at h
    split at h
    · simp only [Bool.and_eq_true] at h
      exact ok_cmp g h.1.1.1 h.1.1.2 (okE a sc fb X _ g h.1.2) (okE b sc fb X _ g h.2)
    · cases h
  | .and a b, sc, fb, X, x, g, h => by
    unfold mE at h
    split at h
    · simp only [Bool.and_eq_true] at h
      exact s_and (okE a sc fb X _ g h.1) (pe_last (okE b sc fb X _ g h.2))
    · simp only [Bool.and_eq_true] at h
      exact s_and (okE a sc fb X _ g h.1) (okE b sc fb X _ g h.2)
    · cases h
  | .or a b, sc, fb, X, x, g, h => by
    unfold mE at h
    split at h
    · simp only [Bool.and_eq_true] at h
      exact s_or (okE a sc fb X _ g h.1) (pe_last (okE b sc fb X _ g h.2))
    · simp only [Bool.and_eq_true] at h
      exact s_or (okE a sc fb X _ g h.1) (okE b sc fb X _ g h.2)
    · cases h
  | .ife t a b, sc, fb, X, x, g, h => by
    unfold mE at h
    split at h
    · simp only [Bool.and_eq_true] at h
      exact s_ife (okT t sc fb X _ g h.1.1) (okE a sc fb X _ g h.1.2) (okE b sc fb X _ g h.2)
    · cases h
  | .ix a b, sc, fb, X, x, g, h => ok_ix g h (fun y => okE a sc fb X y g) (fun y => okE b sc fb X y g)
  | .sl a lo hi, sc, fb, X, x, g, h => by
    unfold mE at h
    split at h
    · simp only [Bool.and_eq_true] at h
      exact s_sl g.hK (okE a sc fb X _ g h.1.1) (okO lo sc fb X _ g h.1.2) (okO hi sc fb X _ g h.2)
    · cases h
  | .call f es dv, sc, fb, X, x, g, h => ok_call g h (fun ys => okEs es sc fb X ys g)
  | .bf b es, sc, fb, X, x, g, h => by
    unfold mE at h
    split at h
    · simp only [Bool.and_eq_true] at h
      exact ok_bf g (of_decide_eq_true h.1.1.1) h.1.1.2 h.1.2 (okEs es sc fb X _ g h.2)
    · cases h
  | .bm b o es, sc, fb, X, x, g, h => by
    unfold mE at h
    split at h
    · simp only [Bool.and_eq_true, decide_eq_true_eq] at h
      obtain ⟨⟨⟨⟨⟨h1, h2⟩, h3⟩, h4⟩, h5⟩, h6⟩ := h
      refine ok_bm0 g h1 h3 h4 (okE o sc fb X _ g h5) ?_
      have := mEs_len es h6
      cases es with
      | nil => rfl
      | cons _ _ => simp [Es.len] at this
    · simp only [Bool.and_eq_true, decide_eq_true_eq] at h
      obtain ⟨⟨⟨⟨⟨⟨h1, h2⟩, h3⟩, h4⟩, h5⟩, h6⟩, h7⟩ := h
      exact ok_bm g h1 h2 h3 h4 h5 (okE o sc fb X _ g h6) (okEs es sc fb X _ g h7)
    · cases h
  | .isi a ts, sc, fb, X, x, g, h => ok_isi g h (fun y => okE a sc fb X y g)
  | .dvals a, sc, fb, X, x, g, h => by
    unfold mE at h
    split at h
    · simp only [Bool.and_eq_true, decide_eq_true_eq] at h
      obtain ⟨⟨⟨⟨⟨h1, h2⟩, h3⟩, h4⟩, h5⟩, h6⟩ := h
      subst h1 h2
      exact s_dvals g.hP g.hW g.hK g.calm (okE a sc fb X _ g h6) (g.glo1 h3) (g.bl (by decide +kernel)) (base_of h5) h4
    · cases h
  | .comp elt tg it cs own, sc, fb, X, x, g, h => by
    unfold mE at h
    split at h
    · rename_i y t' i' cs' sc1 pos
      simp only [Bool.and_eq_true] at h
      obtain ⟨⟨⟨⟨h1, h2⟩, h3⟩, h4⟩, ⟨h5, h6⟩, h7⟩ := h
      have hs : ∀ i ∈ slots tg, i ∈ (ownN c.N own).map (·.2) := fun i hi => by
        have := of_decide_eq_true (List.all_eq_true.mp h4 i hi)
        simpa [ownN] using this
      have r := s_comp (G := G) (pos := pos) g.calm (by rw [g.hN]; exact g.nd) (okI it sc fb X t' i' g h1) (blkOk_by (N := X.N) (sc := X.env.scope) (by rw [g.hN, g.hsc]; exact h3))
        (fun s H C cl fp => okG tg _ _ _ t' (g.blk s H sc1 cl C fp) h5) (fun s H C cl fp => okC cs _ _ _ cs' (g.blk s H sc1 cl C fp) h6) (fun s H C cl fp => okE elt _ _ _ y (g.blk s H sc1 cl C fp) h7)
        (notSet_fold h2) hs
      have e : (ownN c.N own).map (·.2) = own := by
        unfold ownN
        rw [List.map_map]
        exact List.map_id own
      rw [e] at r
      exact r
    · cases h
theorem okT : ∀ (e : E) (sc : Scope) (fb : Str → Bool) (X : Cx) (x : Expr), Good G c call gl k sc fb X → mT c e sc fb x = true → PT X x (tT G (evT call gl e))
  | .not a, sc, fb, X, x, g, h => by
    unfold mT at h
    split at h
    · exact s_notT (okT a sc fb X _ g h)
    · cases h
  | .and a b, sc, fb, X, x, g, h => by
    unfold mT at h
    split at h
    · simp only [Bool.and_eq_true] at h
      exact (s_andT (okT a sc fb X _ g h.1) (pw_and1 (okT b sc fb X _ g h.2))).pt
    · simp only [Bool.and_eq_true] at h
      exact (s_andT (okT a sc fb X _ g h.1) (okW b sc fb X _ _ _ g h.2)).pt
    · cases h
  | .or a b, sc, fb, X, x, g, h => by
    unfold mT at h
    split at h
    · simp only [Bool.and_eq_true] at h
      exact (s_orT (okT a sc fb X _ g h.1) (pw_or1 (okT b sc fb X _ g h.2))).pt
    · simp only [Bool.and_eq_true] at h
      exact (s_orT (okT a sc fb X _ g h.1) (okW b sc fb X _ _ _ g h.2)).pt
    · cases h
  | .cmp op a b, sc, fb, X, x, g, h => by
    unfold mT at h
    split at h
    · simp only [Bool.and_eq_true] at h
      exact ok_cmpT g h.1.1.1 h.1.1.2 (okE a sc fb X _ g h.1.2) (okE b sc fb X _ g h.2)
    · cases h
  | .var i, sc, fb, X, x, g, h => by
    have r := as_test (varB_plain h) (ok_var (call := call) (gl := gl) g h)
    rw [← evT_var] at r
    exact r
  | .call f es dv, sc, fb, X, x, g, h => by
    have r := as_test (callB_plain h) (ok_call g h (fun ys => okEs es sc fb X ys g))
    rw [← evT_call] at r
    exact r
  | .ix a b, sc, fb, X, x, g, h => by
    have r := as_test (ixB_plain h) (ok_ix g h (fun y => okE a sc fb X y g) (fun y => okE b sc fb X y g))
    rw [← evT_ix] at r
    exact r
  | .isi a ts, sc, fb, X, x, g, h => by
    have r := as_test (isiB_plain h) (ok_isi g h (fun y => okE a sc fb X y g))
    rw [← evT_isi] at r
    exact r
  | .lit _, sc, fb, X, x, g, h => by unfold mT at h; cases h
  | .glb _, sc, fb, X, x, g, h => by unfold mT at h; cases h
  | .tup _, sc, fb, X, x, g, h => by unfold mT at h; cases h
  | .lst _, sc, fb, X, x, g, h => by unfold mT at h; cases h
  | .dnew, sc, fb, X, x, g, h => by unfold mT at h; cases h
  | .neg _, sc, fb, X, x, g, h => by unfold mT at h; cases h
  | .bin _ _ _, sc, fb, X, x, g, h => by unfold mT at h; cases h
  | .ife _ _ _, sc, fb, X, x, g, h => by unfold mT at h; cases h
  | .sl _ _ _, sc, fb, X, x, g, h => by unfold mT at h; cases h
  | .bf _ _, sc, fb, X, x, g, h => by unfold mT at h; cases h
  | .bm _ _ _, sc, fb, X, x, g, h => by unfold mT at h; cases h
  | .dvals _, sc, fb, X, x, g, h => by unfold mT at h; cases h
  | .comp _ _ _ _ _, sc, fb, X, x, g, h => by unfold mT at h; cases h
theorem okW : ∀ (e : E) (sc : Scope) (fb : Str → Bool) (X : Cx) (op : BoolOp) (xs : List Expr) (p : Pos), Good G c call gl k sc fb X → mT c e sc fb (.BoolOp op xs p) = true → PW X (.BoolOp op xs p) (tT G (evT call gl e))
  | .and a b, sc, fb, X, op, xs, p, g, h => by
    unfold mT at h
    split at h
    · rename_i e
      cases e
      simp only [Bool.and_eq_true] at h
      exact s_andT (okT a sc fb X _ g h.1) (pw_and1 (okT b sc fb X _ g h.2))
    · rename_i e
      cases e
      simp only [Bool.and_eq_true] at h
      exact s_andT (okT a sc fb X _ g h.1) (okW b sc fb X _ _ _ g h.2)
    · cases h
  | .or a b, sc, fb, X, op, xs, p, g, h => by
    unfold mT at h
    split at h
    · rename_i e
      cases e
      simp only [Bool.and_eq_true] at h
      exact s_orT (okT a sc fb X _ g h.1) (pw_or1 (okT b sc fb X _ g h.2))
    · rename_i e
      cases e
      simp only [Bool.and_eq_true] at h
      exact s_orT (okT a sc fb X _ g h.1) (okW b sc fb X _ _ _ g h.2)
    · cases h
  | .not _, sc, fb, X, op, xs, p, g, h => by unfold mT at h; cases h
  | .cmp _ _ _, sc, fb, X, op, xs, p, g, h => by unfold mT at h; cases h
  | .var _, sc, fb, X, op, xs, p, g, h => by unfold mT at h; cases h
  | .call _ _ _, sc, fb, X, op, xs, p, g, h => by unfold mT at h; cases h
  | .ix _ _, sc, fb, X, op, xs, p, g, h => by unfold mT at h; cases h
  | .isi _ _, sc, fb, X, op, xs, p, g, h => by unfold mT at h; cases h
  | .lit _, sc, fb, X, op, xs, p, g, h => by unfold mT at h; cases h
  | .glb _, sc, fb, X, op, xs, p, g, h => by unfold mT at h; cases h
  | .tup _, sc, fb, X, op, xs, p, g, h => by unfold mT at h; cases h
  | .lst _, sc, fb, X, op, xs, p, g, h => by unfold mT at h; cases h
  | .dnew, sc, fb, X, op, xs, p, g, h => by unfold mT at h; cases h
  | .neg _, sc, fb, X, op, xs, p, g, h => by unfold mT at h; cases h
  | .bin _ _ _, sc, fb, X, op, xs, p, g, h => by unfold mT at h; cases h
  | .ife _ _ _, sc, fb, X, op, xs, p, g, h => by unfold mT at h; cases h
  | .sl _ _ _, sc, fb, X, op, xs, p, g, h => by unfold mT at h; cases h
  | .bf _ _, sc, fb, X, op, xs, p, g, h => by unfold mT at h; cases h
  | .bm _ _ _, sc, fb, X, op, xs, p, g, h => by unfold mT at h; cases h
  | .dvals _, sc, fb, X, op, xs, p, g, h => by unfold mT at h; cases h
  | .comp _ _ _ _ _, sc, fb, X, op, xs, p, g, h => by unfold mT at h; cases h
theorem okEs : ∀ (es : Es) (sc : Scope) (fb : Str → Bool) (X : Cx) (xs : List Expr), Good G c call gl k sc fb X → mEs c es sc fb xs = true → PA X xs (tA G (evEs call gl es))
  | .nil, sc, fb, X, xs, g, h => by
    unfold mEs at h
    rw [List.isEmpty_iff.mp h]
    exact s_nil
  | .cons a es, sc, fb, X, xs, g, h => by
    unfold mEs at h
    split at h
    · simp only [Bool.and_eq_true] at h
      exact s_cons (okE a sc fb X _ g h.1.2) (okEs es sc fb X _ g h.2) (star_cons h.1.1 _ _)
    · cases h
theorem okO : ∀ (o : Oe) (sc : Scope) (fb : Str → Bool) (X : Cx) (x : Option Expr), Good G c call gl k sc fb X → mO c o sc fb x = true → PO X x (tOo G (evO call gl o))
  | .none, sc, fb, X, x, g, h => by
    unfold mO at h
    rw [Option.isNone_iff_eq_none.mp h]
    exact s_oN
  | .some a, sc, fb, X, x, g, h => by
    unfold mO at h
    split at h
    · exact s_oS (okE a sc fb X _ g h)
    · cases h
theorem okI : ∀ (it : I) (sc : Scope) (fb : Str → Bool) (X : Cx) (t x : Expr), Good G c call gl k sc fb X → mI c it sc fb t x = true → PI X t x (tI G (evI call gl it))
  | .of a, sc, fb, X, t, x, g, h => i_of g.hK (okE a sc fb X _ g h)
  | .rng a b, sc, fb, X, t, x, g, h => by
    unfold mI at h
    split at h
    · simp only [Bool.and_eq_true, decide_eq_true_eq] at h
      obtain ⟨⟨⟨⟨h1, h2⟩, h3⟩, h4⟩, h5⟩ := h
      subst h1
      unfold I.isRng at h4
      split at h4
      · rename_i b' e
        cases e
        exact i_rng1 (g.glo1 h2) (g.bl (by decide +kernel)) (okE b sc fb X _ g h5) h3
      · cases h4
    · simp only [Bool.and_eq_true, decide_eq_true_eq] at h
      obtain ⟨⟨⟨⟨⟨h1, h2⟩, h3⟩, h4⟩, h5⟩, h6⟩ := h
      subst h1
      exact i_rng2 (g.glo1 h2) (g.bl (by decide +kernel)) (okE a sc fb X _ g h5) (okE b sc fb X _ g h6) h3 h4
    · cases h
  | .rngd a b, sc, fb, X, t, x, g, h => by
    unfold mI at h
    split at h
    · simp only [Bool.and_eq_true, decide_eq_true_eq] at h
      obtain ⟨⟨⟨⟨⟨⟨h1, h2⟩, h3⟩, h4⟩, h5⟩, h6⟩, h7⟩ := h
      subst h1
      exact i_rngd (g.glo1 h2) (g.bl (by decide +kernel)) (okE a sc fb X _ g h6) (okE b sc fb X _ g h7) (lit_plain (G := G) h5).2 h3 h4 (lit_plain (G := G) h5 (X := X)).1
    · cases h
  | .enum a, sc, fb, X, t, x, g, h => by
    unfold mI at h
    split at h
    · simp only [Bool.and_eq_true, decide_eq_true_eq] at h
      obtain ⟨⟨⟨⟨h1, h2⟩, h3⟩, h4⟩, h5⟩ := h
      subst h1
      unfold isTup at h3
      split at h3
      · exact i_enum g.hK (g.glo1 h2) (g.bl (by decide +kernel)) (okE a sc fb X _ g h5) h4
      · cases h3
    · cases h
  | .zip a b, sc, fb, X, t, x, g, h => by
    unfold mI at h
    split at h
    · simp only [Bool.and_eq_true, decide_eq_true_eq] at h
      obtain ⟨⟨⟨⟨⟨⟨h1, h2⟩, h3⟩, h4⟩, h5⟩, h6⟩, h7⟩ := h
      subst h1
      unfold isTup at h3
      split at h3
      · exact i_zip g.hK (g.glo1 h2) (g.bl (by decide +kernel)) (okE a sc fb X _ g h6) (okE b sc fb X _ g h7) h4 h5
      · cases h3
    · cases h
theorem okC : ∀ (cs : Es) (sc : Scope) (fb : Str → Bool) (X : Cx) (xs : List Expr), Good G c call gl k sc fb X → mC c cs sc fb xs = true → PTs X xs (tT G (evC call gl cs))
  | .nil, sc, fb, X, xs, g, h => by
    unfold mC at h
    rw [List.isEmpty_iff.mp h]
    exact pts0
  | .cons a .nil, sc, fb, X, xs, g, h => by
    unfold mC at h
    split at h
    · exact pts1 (okT a sc fb X _ g h)
    · cases h
  | .cons _ (.cons _ _), sc, fb, X, xs, g, h => by
    unfold mC at h
    cases h
theorem okG : ∀ (t : T) (sc : Scope) (fb : Str → Bool) (X : Cx) (x : Expr), Good G c call gl k sc fb X → mG c t sc fb x = true → PG X x (tG G (slots t) (evG call gl t))
  | .var i, sc, fb, X, x, g, h => by
    unfold mG at h
    split at h
    · simp only [Bool.and_eq_true, decide_eq_true_eq] at h
      exact g_var (by rw [g.hN]; exact g.nd) (g.name h.1) (g.loc h.2).1 (g.loc h.2).2
    · cases h
  | .tup ts, sc, fb, X, x, g, h => by
    unfold mG at h
    split at h
    · exact g_tup g.hK g.calm (okGs ts sc fb X _ g h) (fun ds e h0 r q => by rw [evGs_len ts q, (mGs_len ts X.env h).1]) (mGs_len ts X.env h).2
    · cases h
  | .sub o i, sc, fb, X, x, g, h => by
    unfold mG at h
    split at h
    · simp only [Bool.and_eq_true] at h
      exact g_sub h.1.1 g.hP g.hW g.hK g.units (okE o sc fb X _ g h.1.2) (okE i sc fb X _ g h.2)
    · cases h
theorem okGs : ∀ (ts : Ts) (sc : Scope) (fb : Str → Bool) (X : Cx) (xs : List Expr), Good G c call gl k sc fb X → mGs c ts sc fb xs = true → PGs X xs (tGs G (slots.slotsS ts) (evGs call gl ts))
  | .nil, sc, fb, X, xs, g, h => by
    unfold mGs at h
    rw [List.isEmpty_iff.mp h]
    exact gs_nil
  | .cons t ts, sc, fb, X, xs, g, h => by
    unfold mGs at h
    split at h
    · simp only [Bool.and_eq_true] at h
      refine gs_cons (okG t sc fb X _ g h.1.2) (okGs ts sc fb X _ g h.2) ?_
      rw [assign_cons h.1.1]
      rfl
    · cases h
end
end
end SF
set_option Elab.async false
set_option linter.all false
set_option maxRecDepth 100000
set_option maxHeartbeats 2000000
/-! SFSound3: statements, defs. -/
namespace SF
open PySem PySem.Spec PyProof.Rows L2

theorem notComp_sw {y : Expr} {t : Option Expr} {l : Nat} {env : Env} (h : notComp y = true) : swapsWith y t l env = pure false := by
  cases y <;> first | rfl | cases h
theorem sw_cell {n : Str} {pn pos : Pos} {elt : Expr} {gs : List Comprehension} {sc1 : Scope} {l : Nat} {env : Env} (h : env.scope.names.lookup n = some .cell) : swapsWith (.ListComp elt gs sc1 pos) (some (.Name n pn)) l env = pure false := by
  have k : env.kindOf n = some .cell := h
  unfold swapsWith
  have e : (some NameKind.cell == some NameKind.local) = false := by decide
  simp only [k, e, Bool.and_false, Bool.false_and]
theorem notTup_stores {t y : Expr} {env : Env} (h : (notTup t || notTup y) = true) : swappedStores [t] y env = pure none := by
  rw [Bool.or_eq_true] at h
  rcases h with h | h
  · cases t <;> first | rfl | cases h
  · cases t <;> first | rfl | (cases y <;> first | rfl | cases h)
theorem one_target {t : Expr} {env : Env} (h : plainArg t = true) : (assignEach [t] env).map (·.2) = [assign t env] := by
  rw [assign_cons h] <;> rfl
theorem sw_par {n m : Str} {pn pm pt pt2 : Pos} {kt k2 : Nat} {y z : Expr} {env : Env} (hk : env.scope.kind = .function) (hn : env.scope.names.lookup n = some .local) (hm : env.scope.names.lookup m = some .local) (hl : (pn.line == pm.line) = true) (hne : n ≠ m)
    (hy : plainArg y = true) (hz : plainArg z = true) (h1 : ([y, z].all (foldedForSure 8)) = false) (h2 : ([y, z].all (constantsAlone 8)) = false) :
    swappedStores [.Tuple [.Name n pn, .Name m pm] kt pt] (.Tuple [y, z] k2 pt2) env = pure (some [n, m]) := by
  have hb : env.blockKind = .function := by unfold Env.blockKind; rw [hk]; rfl
  have e1 : env.kindOf n = some .local := hn
  have e2 : env.kindOf m = some .local := hm
  have hl' : (pm.line == pn.line) = true := by rw [beq_iff_eq] at hl ⊢; exact hl.symm
  have e3 : ∀ F : Expr → Option Str, F (.Name n pn) = some n → F (.Name m pm) = some m → List.filterMap F [.Name n pn, .Name m pm] = [n, m] := fun F q1 q2 => by
    rw [List.filterMap_cons_some q1, List.filterMap_cons_some q2] <;> rfl
  have e4 : [n, m].eraseDups = [n, m] := by
    have : (m == n) = false := by
      rw [beq_eq_false_iff_ne]
      exact fun z => hne z.symm
    simp [List.eraseDups_cons, this]
  have a1 : ∀ F : Expr → Bool, (∀ y, plainArg y = true → F y = false) → [y, z].any F = false := fun F q => by simp [q y hy, q z hz]
  unfold swappedStores
  dsimp only
  have c1 : (env.kindOf n == some NameKind.local && pn.line == pn.line) = true := by rw [e1]; simp
  have c2 : (env.kindOf m == some NameKind.local && pm.line == pn.line) = true := by rw [e2, hl']; rfl
  rw [if_neg (by simp [hb]), if_neg (by rw [a1 _ (by intro y h; cases y <;> first | rfl | cases h)]; exact Bool.false_ne_true)]
  rw [e3 _ (if_pos c1) (if_pos c2)]
  rw [if_neg (by rw [e4]; simp), if_neg (by rw [h1]; exact Bool.false_ne_true), if_neg (by rw [h2]; exact Bool.false_ne_true)]
section
variable {G : Gx} {c : Mc} {call : Nat → List D → Hh → R (D × Hh)} {gl : List D} {k : Nat}
mutual
theorem okS : ∀ (s : S) (sc : Scope) (X : Cx) (x : Stmt), Good G c call gl k sc (fun _ => true) X → X.xe = (fun _ _ => False) → mS c s sc x = true → PS X x (tS G (evS call gl s))
  | .asg t a, sc, X, x, g, hx, h => by
    unfold mS at h
    split at h
    · rename_i t' y pos
      rw [Bool.or_eq_true, Bool.or_eq_true] at h
      rcases h with (h | h) | h
      · simp only [Bool.and_eq_true] at h
        obtain ⟨⟨h1, h2⟩, h3⟩ := h
        unfold asgOk at h1
        simp only [Bool.and_eq_true] at h1
        exact ss_asg (okE a sc _ X y g h2) (okG t sc _ X t' g h3) (notComp_sw h1.1.1) (notTup_stores h1.2) (one_target h1.1.2)
      · split at h
        · rename_i n pn y' tt ii cc sc1 cp i elt tg it cs own
          simp only [Bool.and_eq_true, decide_eq_true_eq, Bool.not_eq_true'] at h
          obtain ⟨⟨⟨⟨⟨h1, h2⟩, h3⟩, h4⟩, h5⟩, h6⟩ := h
          unfold mE at h6
          simp only [Bool.and_eq_true] at h6
          obtain ⟨⟨⟨⟨q1, q2⟩, q3⟩, q4⟩, ⟨q5, q6⟩, q7⟩ := h6
          have hs : ∀ i ∈ slots tg, i ∈ (ownN c.N own).map (·.2) := fun i hi => by
            have := of_decide_eq_true (List.all_eq_true.mp q4 i hi)
            simpa [ownN] using this
          have r := ss_comp (G := G) (i := i) (py := pn) (spos := pos) g.calm (by rw [g.hN]; exact g.nd) (g.name h1) (by rw [g.hsc]; exact h2)
            (sw_true (by rw [g.hsc]; exact h5) (by rw [g.hsc]; exact h2) h3 h4) (okI it sc _ X tt ii g q1) (blkOk_by (N := X.N) (sc := X.env.scope) (by rw [g.hN, g.hsc]; exact q3))
            (fun s H C cl fp => okG tg _ _ _ tt (g.blk s H sc1 cl C fp) q5) (fun s H C cl fp => okC cs _ _ _ cc (g.blk s H sc1 cl C fp) q6) (fun s H C cl fp => okE elt _ _ _ y' (g.blk s H sc1 cl C fp) q7)
            (notSet_fold q2) hs
          have e : (ownN c.N own).map (·.2) = own := by
            unfold ownN
            rw [List.map_map]
            exact List.map_id own
          rw [e] at r
          exact r
        · cases h
      · split at h
        · simp only [Bool.and_eq_true, decide_eq_true_eq] at h
          obtain ⟨⟨h1, h2⟩, h3⟩ := h
          exact ss_asg (okE a sc _ X _ g h2) (okG t sc _ X _ g h3) (sw_cell (l := pos.line) (by rw [g.hsc]; exact h1)) (notTup_stores rfl) (one_target rfl)
        · cases h
    · cases h
  | .par i j a b, sc, X, x, g, hx, h => by
    unfold mS at h
    split at h
    · simp only [Bool.and_eq_true, decide_eq_true_eq, Bool.not_eq_true'] at h
      obtain ⟨⟨⟨⟨⟨⟨⟨⟨⟨⟨⟨⟨⟨h1, h2⟩, h3⟩, h4⟩, h5⟩, h6⟩, h7⟩, h8⟩, h9⟩, h10⟩, h11⟩, h12⟩, h13⟩, h14⟩ := h
      exact ss_par g.calm (by rw [g.hN]; exact g.nd) (g.name h1) (g.name h2) h3 (by rw [g.hsc]; exact h5) (by rw [g.hsc]; exact h6) (okE a sc _ X _ g h13) (okE b sc _ X _ g h14) h8 h9
        (sw_par (by rw [g.hsc]; exact h10) (by rw [g.hsc]; exact h5) (by rw [g.hsc]; exact h6) h7 h4 h8 h9 h11 h12) rfl
    · cases h
  | .expr a, sc, X, x, g, hx, h => by
    unfold mS at h
    split at h
    · simp only [Bool.and_eq_true] at h
      exact ss_expr (okE a sc _ X _ g h.2) (notComp_sw h.1)
    · cases h
  | .ret a, sc, X, x, g, hx, h => by
    unfold mS at h
    split at h
    · exact ss_ret (okE a sc _ X _ g h)
    · cases h
  | .ife t a b, sc, X, x, g, hx, h => by
    unfold mS at h
    split at h
    · simp only [Bool.and_eq_true] at h
      exact ss_if (okT t sc _ X _ g h.1.1) (okSs a sc X _ g hx h.1.2) (okSs b sc X _ g hx h.2)
    · cases h
  | .for_ t it b, sc, X, x, g, hx, h => by
    unfold mS at h
    split at h
    · simp only [Bool.and_eq_true] at h
      obtain ⟨⟨⟨h1, h2⟩, h3⟩, h4⟩ := h
      exact ss_for (by rw [hx]; exact PassesOwn.never) g.calm (okI it sc _ X _ _ g h2) (okG t sc _ X _ g h3) (okSs b sc X _ g hx h4) (notSet_fold h1)
    · cases h
  | .brk, sc, X, x, g, hx, h => by
    unfold mS at h
    split at h
    · exact ss_brk
    · cases h
  | .cnt, sc, X, x, g, hx, h => by
    unfold mS at h
    split at h
    · exact ss_cnt
    · cases h
theorem okSs : ∀ (s : Ss) (sc : Scope) (X : Cx) (xs : List Stmt), Good G c call gl k sc (fun _ => true) X → X.xe = (fun _ _ => False) → mSs c s sc xs = true → PSs X xs (tS G (evSs call gl s))
  | .nil, sc, X, xs, g, hx, h => by
    unfold mSs at h
    rw [List.isEmpty_iff.mp h]
    exact sss_nil
  | .cons s ss, sc, X, xs, g, hx, h => by
    unfold mSs at h
    split at h
    · simp only [Bool.and_eq_true] at h
      exact sss_cons (okS s sc X _ g hx h.1) (okSs ss sc X _ g hx h.2)
    · cases h
end
end
end SF
set_option Elab.async false
set_option linter.all false
set_option maxRecDepth 100000
set_option maxHeartbeats 2000000
/-! SFLevel: all defs of a program, so many calls within one another. -/
namespace SF
open PySem PySem.Spec PyProof.Rows L2

/-- a def as it stands, and its own term -/
structure DR where
  x : Str
  f : Addr
  fd : FuncData
  ps : List Str
  N : List Str
  fn : Fn
  args : Arguments
  body : List Stmt
  scope : Scope
  dvs : List V
  kws : List (Str × V)
structure DR.Ok (K : PySem.W.Frag) (mg : Str → Option Value) (gn names : List Str) (r : DR) : Prop where
  fun_ : FunD K r.x r.x r.args r.body r.scope r.dvs r.kws r.f r.fd
  binds : Binds K r.fd r.ps []
  sc : FnScope r.N r.ps r.scope
  np : r.ps.length = r.fn.np
  nl : r.fn.nl = r.N.length
  mgx : mg r.x = some (.ref r.f)
  ok : mSs ⟨r.N, gn, names⟩ r.fn.body r.scope r.body = true

theorem start_en {G : Gx} {ρ : List Addr} {H : Hp} {N : List Str} {ds : List D} {vs : List V} {nl np : Nat} (rv : RVs G.K ρ H ds vs) (hl : nl = N.length) (hn : ds.length = np) : REn G ρ H (ds.map some ++ List.replicate (nl - np) none) (L2.start N vs) := by
  unfold L2.start
  subst hl hn
  refine ⟨by simp [rv.length], fun i d q => ?_⟩
  by_cases hi : i < ds.length
  · rw [List.getElem?_append_left (by simpa using hi), List.getElem?_map] at q
    obtain ⟨d', e1, e2⟩ := Option.map_eq_some_iff.mp q
    cases e2
    obtain ⟨v, e3, r⟩ := rv.get e1
    exact ⟨v, by rw [List.getElem?_append_left (by rw [List.length_map, ← rv.length]; exact hi), List.getElem?_map, e3]; rfl, r⟩
  · rw [List.getElem?_append_right (by simpa using Nat.le_of_not_lt hi), List.getElem?_replicate] at q
    split at q <;> cases q

theorem levels {P : Program} {w : World} {K : PySem.W.Frag} {cls : Nat → Addr} {mg : Str → Option Value} {base : Heap} {gn : List Str} {gl : List D} (rs : List DR) (hs : ∀ r ∈ rs, r.Ok K mg gn (rs.map (·.x)))
    (hb : ∀ x ∈ bltNames, mg x = none) (hgcd : mg "gcd" = some (.builtin "math.gcd"))
    (hg : ∀ (i : Nat) (x : Str), gn[i]? = some x → ∃ d u v, gl[i]? = some d ∧ mg x = some u ∧ RelV v u ∧ ∀ ρ H, RV K ρ H d v) :
    ∀ (n i : Nat) (r : DR), rs[i]? = some r → FnOk P w K mg base C8.CX0 n r.f r.fd r.ps (spOf ⟨P, w, K, cls⟩ r.fn.np (callN (rs.map (·.fn)) gl n i)) := by
  intro n
  induction n with
  | zero =>
    intro i r hr
    have o := hs r (List.mem_of_getElem? hr)
    refine ⟨fun vs H Q E q => q.1.trans o.np.symm, fun A outer s H args us vs Q E _ _ _ _ q => ?_⟩
    obtain ⟨_, ρ, h, ds, _, _, p⟩ := q
    exact p.elim
  | succ n ih =>
    intro i r hr
    have o := hs r (List.mem_of_getElem? hr)
    refine o.fun_.ok o.sc (fun vs H Q E q => q.1.trans o.np.symm) fun cdv A outer s H vs Q E room q => ?_
    refine ⟨tS ⟨P, w, K, cls⟩ (evSs (callN (rs.map (·.fn)) gl n) gl r.fn.body), PSs.nox ?_, ?_⟩
    · refine okSs (G := ⟨P, w, K, cls⟩) (c := ⟨r.N, gn, rs.map (·.x)⟩) (k := n) r.fn.body r.scope _ r.body ?_ rfl o.ok
      refine ⟨rfl, o.sc.nd, rfl, rfl, rfl, rfl, rfl, rfl, room, hb, hgcd, hg, fun j y hj => ?_⟩
      rw [List.getElem?_map] at hj
      obtain ⟨r', e1, rfl⟩ := Option.map_eq_some_iff.mp hj
      have o' := hs r' (List.mem_of_getElem? e1)
      refine ⟨r'.f, r'.fd, r'.ps, r'.fn.np, fun ds h hl => ?_, ih j r' e1, o'.mgx, o'.fun_.kp, o'.binds⟩
      cases n with
      | zero => rfl
      | succ n =>
        unfold callN
        rw [List.getElem?_map, e1]
        show runFn _ _ _ _ _ = _
        unfold runFn
        rw [if_neg hl]
    · obtain ⟨hl, ρ, h, ds, rv, rh, p⟩ := q
      unfold callN at p
      rw [List.getElem?_map, hr] at p
      have p : Post _ ρ H (runFn (callN (rs.map (·.fn)) gl n) gl r.fn ds h) _ := p
      unfold runFn at p
      have hn : ds.length = r.fn.np := rv.length.trans hl
      rw [if_pos hn] at p
      refine ⟨ρ, _, h, start_en rv o.nl hn, rh, Post.seq p fun f h1 ρ1 H1 g1 rh1 p1 => ?_⟩
      cases f with
      | nx e => exact fun σ' _ => p1.here rh1 _ .non
      | rt d => exact fun v rv => p1.here rh1 v rv
      | bk e => exact p1.elim
      | ct e => exact p1.elim

/-- the script -/
theorem script_ok {G : Gx} {H : Hp} {a : Addr} {ns : List Int} {Q : VK} {E : XK} {run : List D → Hh → R (D × Hh)} (hO : Only H) (hS : SqL G.K H a (ns.map V.int)) (hr : ∃ h, run [.cl (ns.map .int)] [] = .ok (.bl true, h)) (hQ : ∀ H, Q (.bl true) H) : spOf G 1 run [.ref a] H Q E := by
  obtain ⟨h, e⟩ := hr
  have fz : FzL G.K H a (ns.map V.int) := by
    rcases hS with (q | ⟨o, q⟩) | q
    · rcases hO a with z | ⟨o, xs, z⟩
      · rw [z] at q; cases q
      · rw [z] at q; cases q
    · exact .inl ⟨o, q⟩
    · exact .inr q
  have rv : ∀ ns : List Int, RVs G.K [] H (ns.map .int) (ns.map V.int) := fun ns => by
    induction ns with
    | nil => exact .nil
    | cons n ns ih => exact .cons (.int n) ih
  refine ⟨rfl, [], [], [.cl (ns.map .int)], .cons (.cl fz (rv ns)) .nil, ⟨rfl, List.nodup_nil, fun i o a e => by simp at e⟩, ?_⟩
  rw [e]
  intro ρ' H' g rh v rv
  cases rv
  exact hQ H'
end SF
set_option Elab.async false
set_option linter.all false
set_option maxRecDepth 100000
set_option maxHeartbeats 2000000
/-! SFHead: from the head's facts to the defs' promises. -/
namespace SF
open PySem PySem.Spec PyProof.Rows L2

/-- a def of the text and its own term -/
structure SD where
  x : Str
  ps : List Str
  N : List Str
  fn : Fn
  st : Stmt
  dfl : List He.Dv := []
def SD.defD (d : SD) : He.DefD := ⟨(d.x, none), d.x, d.x, defArgs d.st, defBody d.st, defScope d.st, d.dfl, []⟩
def extra (gs : List (Str × List He.Dv)) (K : PySem.W.Frag) : Bool := He.eqO (PySem.W.nsIn K mainGlobals "gcd") (some (some (.builtin "math.gcd"))) && gs.all fun g => (He.Fa.glo g.1).ok K && He.tupB K g.1 g.2
def faOf (ds : List SD) : List He.Fa := ds.map (fun d => .glo d.x) ++ bltNames.map .free
def obsX (gs : List (Str × List He.Dv)) (ds : List SD) (K : PySem.W.Frag) : He.AlD := ((extra gs K && (faOf ds).all fun f => f.ok K) && (ds.map SD.defD).all fun d => d.ok K, (ds.map SD.defD).map fun d => He.fnW K d.at_)
def SaysX (gs : List (Str × List He.Dv)) (ds : List SD) (K : PySem.W.Frag) : Prop := obsX gs ds K = He.valD (ds.map SD.defD)
def obsXG (n : Nat) (gs : List (Str × List He.Dv)) (ds : List SD) (g : Addr → Option Obj) : He.AlD := obsX gs ds (He.frG g (He.asD g n))
def hookX (n : Nat) (gs : List (Str × List He.Dv)) (ds : List SD) : PySem.W.Hook where
  α := He.AlD
  obs := fun s => obsXG n gs ds s.heap.get?
  val := fun _ => He.valD (ds.map SD.defD)
  says := fun _ h => ∃ K : PySem.W.Frag, K.In h ∧ SaysX gs ds K
  of := fun _ _ e => ⟨_, He.frG_in, e⟩
  keeps := fun _ _ _ ⟨K, hK, c⟩ k => ⟨K, PySem.W.Frag.In.keeps hK k, c⟩
theorem obsXG_eq {n : Nat} {gs : List (Str × List He.Dv)} {ds : List SD} {g : Addr → Option Obj} {s : Shared} (h : ∀ a, g a = s.heap.get? a) : obsXG n gs ds g = (hookX n gs ds).obs s := by
  have e : g = s.heap.get? := funext h
  rw [e] <;> rfl

/-- how a def binds its arguments, all of them given -/
def BindOk (d : SD) : Prop := (d.dfl = [] ∧ ∀ (kV doc pm : Value) (an : Option Addr) (cdv ct : Value) (us : List Value), us.length = d.ps.length → bindArgs (PySem.W.fnOf d.x d.x (defArgs d.st) (defBody d.st) (defScope d.st) .none kV doc pm an cdv ct) ⟨us, []⟩ = pure (d.ps.zip us)) ∨
  (d.dfl ≠ [] ∧ ∀ (T : Addr) (kV doc pm : Value) (an : Option Addr) (cdv ct : Value) (us its : List Value), us.length = d.ps.length → its.length = d.dfl.length →
    ∃ k, bindArgs (PySem.W.fnOf d.x d.x (defArgs d.st) (defBody d.st) (defScope d.st) (.ref T) kV doc pm an cdv ct) ⟨us, []⟩ = seqItems? (.ref T) >>= k ∧ k (some its.toArray) = pure (d.ps.zip us))
/-- what is looked up in the text -/
def SD.look (gn names : List Str) (d : SD) : Bool := C8.scC d.N d.ps (defScope d.st) && decide (d.ps.length = d.fn.np) && decide (d.fn.nl = d.N.length) && mSs ⟨d.N, gn, names⟩ d.fn.body (defScope d.st) (defBody d.st)
section
variable {gs : List (Str × List He.Dv)} {ds : List SD} {K : PySem.W.Frag} {h : Heap} {mg : Str → Option Value}
theorem SaysX.all (c : SaysX gs ds K) : extra gs K = true ∧ (∀ f ∈ faOf ds, f.ok K = true) ∧ ∀ d ∈ ds, d.defD.ok K = true := by
  have c1 : ((extra gs K && (faOf ds).all fun f => f.ok K) && (ds.map SD.defD).all fun d => d.ok K) = true := congrArg (fun z : He.AlD => z.1) c
  simp only [Bool.and_eq_true, List.all_eq_true, List.mem_map, forall_exists_index, and_imp, forall_apply_eq_imp_iff₂] at c1
  exact ⟨c1.1.1, c1.1.2, c1.2⟩
theorem SaysX.fn (c : SaysX gs ds K) (d : SD) (hd : d ∈ ds) : ∃ fd, FunD K d.x d.x (defArgs d.st) (defBody d.st) (defScope d.st) (d.dfl.map (He.Dv.v K)) [] (He.ga K d.x) fd := by
  have e : (ds.map SD.defD).map (fun d => He.fnW K d.at_) = (ds.map SD.defD).map He.DefD.val := congrArg (fun z : He.AlD => z.2) c
  obtain ⟨i, hi⟩ := List.mem_iff_getElem?.mp hd
  have e2 : ((ds.map SD.defD).map fun d => He.fnW K d.at_)[i]? = ((ds.map SD.defD).map He.DefD.val)[i]? := by rw [e]
  rw [List.getElem?_map, List.getElem?_map (f := He.DefD.val), List.getElem?_map (f := SD.defD), hi] at e2
  exact He.DefD.funD (d := d.defD) (Option.some.inj e2) (c.all.2.2 d hd)
/-- the function object of a def -/
noncomputable def fdOf (K : PySem.W.Frag) (d : SD) : FuncData := by
  classical exact if h : ∃ fd, FunD K d.x d.x (defArgs d.st) (defBody d.st) (defScope d.st) (d.dfl.map (He.Dv.v K)) [] (He.ga K d.x) fd then Classical.choose h else PySem.W.fnOf d.x d.x (defArgs d.st) (defBody d.st) (defScope d.st) .none .none .none .none none .none .none
noncomputable def drOf (K : PySem.W.Frag) (d : SD) : DR := ⟨d.x, He.ga K d.x, fdOf K d, d.ps, d.N, d.fn, defArgs d.st, defBody d.st, defScope d.st, d.dfl.map (He.Dv.v K), []⟩
theorem SaysX.fnOf (c : SaysX gs ds K) (d : SD) (hd : d ∈ ds) : FunD K d.x d.x (defArgs d.st) (defBody d.st) (defScope d.st) (d.dfl.map (He.Dv.v K)) [] (He.ga K d.x) (fdOf K d) := by
  have h := c.fn d hd
  unfold fdOf
  rw [dif_pos h]
  exact Classical.choose_spec h
theorem dr_ok (X : K.In h) (Gm : h.Ns mainGlobals mg) (c : SaysX gs ds K) {gn : List Str} (hl : (ds.all fun d => d.look gn (ds.map (·.x))) = true) (hb : ∀ d ∈ ds, BindOk d) : ∀ r ∈ ds.map (drOf K), r.Ok K mg gn ((ds.map (drOf K)).map (·.x)) := fun r hr => by
  obtain ⟨d, hd, rfl⟩ := List.mem_map.mp hr
  have F := c.fnOf d hd
  have l := List.all_eq_true.mp hl d hd
  unfold SD.look at l
  simp only [Bool.and_eq_true, decide_eq_true_eq] at l
  obtain ⟨⟨⟨l1, l2⟩, l3⟩, l4⟩ := l
  have e : (ds.map (drOf K)).map (·.x) = ds.map (·.x) := by rw [List.map_map]; rfl
  rw [e]
  refine ⟨F, ?_, C8.fnScope_by l1, l2, l3, He.glo_ok X Gm (c.all.2.1 (.glo d.x) (List.mem_append_left _ (List.mem_map.mpr ⟨d, hd, rfl⟩))), l4⟩
  rcases hb d hd with ⟨e1, q⟩ | ⟨e1, q⟩
  · have F' := F
    rw [e1] at F'
    exact FunD.bindsN F' q
  · obtain ⟨dds, r1, r2⟩ := FunD.binds1 (ps := d.ps) F d.ps.length d.dfl.length (by rw [ne_eq, List.map_eq_nil_iff]; exact e1) (by simp) fun T kV doc pm an cdv ct us its h1 h2 => by
      rw [List.length_map] at h2
      obtain ⟨k, q1, q2⟩ := q T kV doc pm an cdv ct us its h1 h2
      refine ⟨k, q1, ?_⟩
      rw [q2, List.drop_eq_nil_of_le (Nat.le_of_eq h2), List.append_nil]
    rw [List.drop_eq_nil_of_le (by rw [List.length_map]; exact Nat.le_refl _)] at r1
    cases r1
    exact r2
theorem free_all (X : K.In h) (Gm : h.Ns mainGlobals mg) (c : SaysX gs ds K) : ∀ x ∈ bltNames, mg x = none := fun x hx =>
  He.free_ok X Gm (c.all.2.1 (.free x) (List.mem_append_right _ (List.mem_map.mpr ⟨x, hx, rfl⟩)))
theorem gcd_is (X : K.In h) (Gm : h.Ns mainGlobals mg) (c : SaysX gs ds K) : mg "gcd" = some (.builtin "math.gcd") := by
  have q := c.all.1
  unfold extra at q
  rw [Bool.and_eq_true] at q
  exact PySem.W.mg_of X Gm (He.eqO_ok q.1)
/-- flat data of a constant -/
def dvD : He.Dv → D
  | .int i => .int i
  | .bl b => .bl b
  | .str x => .str x
  | _ => .non
def dvOk : He.Dv → Bool
  | .int _ => true
  | .bl _ => true
  | .str _ => true
  | .non => true
  | _ => false
theorem glo_all (X : K.In h) (Gm : h.Ns mainGlobals mg) (c : SaysX gs ds K) (hok : (gs.all fun g => g.2.all dvOk) = true) : ∀ (i : Nat) (x : Str), (gs.map (·.1))[i]? = some x → ∃ d u v, (gs.map fun g => D.tup (g.2.map dvD))[i]? = some d ∧ mg x = some u ∧ RelV v u ∧ ∀ ρ H, RV K ρ H d v := fun i x hi => by
  rw [List.getElem?_map] at hi
  obtain ⟨g, hg, rfl⟩ := Option.map_eq_some_iff.mp hi
  have q := c.all.1
  unfold extra at q
  rw [Bool.and_eq_true] at q
  have q2 := List.all_eq_true.mp q.2 g (List.mem_of_getElem? hg)
  simp only [Bool.and_eq_true] at q2
  have ok := List.all_eq_true.mp hok g (List.mem_of_getElem? hg)
  refine ⟨.tup (g.2.map dvD), .ref (He.ga K g.1), .ref (He.ga K g.1), by rw [List.getElem?_map, hg]; rfl, He.glo_ok X Gm q2.1, rfl, fun ρ H => .tup (He.tupB_ok q2.2 H) ?_⟩
  have all : ∀ l : List He.Dv, l.all dvOk = true → RVs K ρ H (l.map dvD) (l.map (He.Dv.v K)) := fun l => by
    induction l with
    | nil => exact fun _ => .nil
    | cons x l ih =>
      intro hl
      rw [List.all_cons, Bool.and_eq_true] at hl
      refine .cons ?_ (ih hl.2)
      cases x with
      | non => exact .non
      | bl b => exact .bl b
      | int i => exact .int i
      | str x => exact .str x
      | _ => exact nomatch hl.1
  exact all g.2 ok
end
end SF
set_option Elab.async false
set_option linter.all false
set_option maxRecDepth 100000
/-! the own terms of the defs (printed) -/
namespace K00
open SF PySem
def n_ratio : List Str := ["n", "d", "common"]
def b_ratio : Ss :=
  (.cons (.ife (.cmp .lt (.var 1) (.lit (.int 0))) (.cons (.asg (.var 0) (.neg (.var 0))) <|
      .cons (.asg (.var 1) (.neg (.var 1))) <|
      .nil) .nil) <|
  .cons (.asg (.var 2) (.bf .gcd (.cons (.var 0) (.cons (.var 1) .nil)))) <|
  .cons (.ret (.tup (.cons (.bin .fdiv (.var 0) (.var 2)) (.cons (.bin .fdiv (.var 1) (.var 2)) .nil)))) <|
  .nil)
def f_ratio : Fn := ⟨2, 3, b_ratio⟩
def n_plus : List Str := ["a", "b"]
def b_plus : Ss :=
  (.cons (.ret (.call 0 (.cons (.bin .add (.bin .mul (.ix (.var 0) (.lit (.int 0))) (.ix (.var 1) (.lit (.int 1)))) (.bin .mul (.ix (.var 1) (.lit (.int 0))) (.ix (.var 0) (.lit (.int 1))))) (.cons (.bin .mul (.ix (.var 0) (.lit (.int 1))) (.ix (.var 1) (.lit (.int 1)))) .nil)) [])) <|
  .nil)
def f_plus : Fn := ⟨2, 2, b_plus⟩
def n_minus : List Str := ["a", "b"]
def b_minus : Ss :=
  (.cons (.ret (.call 0 (.cons (.bin .sub (.bin .mul (.ix (.var 0) (.lit (.int 0))) (.ix (.var 1) (.lit (.int 1)))) (.bin .mul (.ix (.var 1) (.lit (.int 0))) (.ix (.var 0) (.lit (.int 1))))) (.cons (.bin .mul (.ix (.var 0) (.lit (.int 1))) (.ix (.var 1) (.lit (.int 1)))) .nil)) [])) <|
  .nil)
def f_minus : Fn := ⟨2, 2, b_minus⟩
def n_times : List Str := ["a", "b"]
def b_times : Ss :=
  (.cons (.ret (.call 0 (.cons (.bin .mul (.ix (.var 0) (.lit (.int 0))) (.ix (.var 1) (.lit (.int 0)))) (.cons (.bin .mul (.ix (.var 0) (.lit (.int 1))) (.ix (.var 1) (.lit (.int 1)))) .nil)) [])) <|
  .nil)
def f_times : Fn := ⟨2, 2, b_times⟩
def n_over : List Str := ["a", "b"]
def b_over : Ss :=
  (.cons (.ret (.call 0 (.cons (.bin .mul (.ix (.var 0) (.lit (.int 0))) (.ix (.var 1) (.lit (.int 1)))) (.cons (.bin .mul (.ix (.var 0) (.lit (.int 1))) (.ix (.var 1) (.lit (.int 0)))) .nil)) [])) <|
  .nil)
def f_over : Fn := ⟨2, 2, b_over⟩
def n_negative : List Str := ["a"]
def b_negative : Ss :=
  (.cons (.ret (.tup (.cons (.neg (.ix (.var 0) (.lit (.int 0)))) (.cons (.ix (.var 0) (.lit (.int 1))) .nil)))) <|
  .nil)
def f_negative : Fn := ⟨1, 1, b_negative⟩
def n_size : List Str := ["a"]
def b_size : Ss :=
  (.cons (.ret (.tup (.cons (.bf .abs (.cons (.ix (.var 0) (.lit (.int 0))) .nil)) (.cons (.ix (.var 0) (.lit (.int 1))) .nil)))) <|
  .nil)
def f_size : Fn := ⟨1, 1, b_size⟩
def n_sign : List Str := ["a"]
def b_sign : Ss :=
  (.cons (.ife (.cmp .lt (.ix (.var 0) (.lit (.int 0))) (.lit (.int 0))) (.cons (.ret (.neg (.lit (.int 1)))) <|
      .nil) .nil) <|
  .cons (.ife (.cmp .gt (.ix (.var 0) (.lit (.int 0))) (.lit (.int 0))) (.cons (.ret (.lit (.int 1))) <|
      .nil) .nil) <|
  .cons (.ret (.lit (.int 0))) <|
  .nil)
def f_sign : Fn := ⟨1, 1, b_sign⟩
def n_less : List Str := ["a", "b"]
def b_less : Ss :=
  (.cons (.ret (.cmp .lt (.bin .mul (.ix (.var 0) (.lit (.int 0))) (.ix (.var 1) (.lit (.int 1)))) (.bin .mul (.ix (.var 1) (.lit (.int 0))) (.ix (.var 0) (.lit (.int 1)))))) <|
  .nil)
def f_less : Fn := ⟨2, 2, b_less⟩
def n_scaled : List Str := ["condition", "factor", "numbers", "bound", "is_just", "a"]
def b_scaled : Ss :=
  (.cons (.asg (.tup (.cons (.var 2) (.cons (.var 3) (.cons (.var 4) .nil)))) (.var 0)) <|
  .cons (.ret (.tup (.cons (.bf .tuple (.cons (.comp (.call 3 (.cons (.var 5) (.cons (.var 1) .nil)) []) (.var 5) (.of (.var 2)) .nil [5]) .nil)) (.cons (.call 3 (.cons (.var 3) (.cons (.var 1) .nil)) []) (.cons (.var 4) .nil))))) <|
  .nil)
def f_scaled : Fn := ⟨2, 6, b_scaled⟩
def n_added : List Str := ["first", "factor", "second", "is_just", "numbers", "a", "b"]
def b_added : Ss :=
  (.cons (.asg (.var 4) (.bf .tuple (.cons (.comp (.call 1 (.cons (.var 5) (.cons (.call 3 (.cons (.var 1) (.cons (.var 6) .nil)) []) .nil)) []) (.tup (.cons (.var 5) (.cons (.var 6) .nil))) (.zip (.ix (.var 0) (.lit (.int 0))) (.ix (.var 2) (.lit (.int 0)))) .nil [5, 6]) .nil))) <|
  .cons (.ret (.tup (.cons (.var 4) (.cons (.call 1 (.cons (.ix (.var 0) (.lit (.int 1))) (.cons (.call 3 (.cons (.var 1) (.cons (.ix (.var 2) (.lit (.int 1))) .nil)) []) .nil)) []) (.cons (.var 3) .nil))))) <|
  .nil)
def f_added : Fn := ⟨4, 7, b_added⟩
def n_first_just : List Str := ["conditions", "k", "at", "condition"]
def b_first_just : Ss :=
  (.cons (.for_ (.tup (.cons (.var 2) (.cons (.var 3) .nil))) (.enum (.var 0)) (.cons (.ife (.and (.ix (.var 3) (.lit (.int 2))) (.cmp .ne (.call 7 (.cons (.ix (.ix (.var 3) (.lit (.int 0))) (.var 1)) .nil) []) (.lit (.int 0)))) (.cons (.ret (.var 2)) <|
          .nil) .nil) <|
      .nil)) <|
  .cons (.ret (.lit .non)) <|
  .nil)
def f_first_just : Fn := ⟨2, 4, b_first_just⟩
def n_by_equation : List Str := ["conditions", "at", "k", "used", "result", "j", "condition", "factor"]
def b_by_equation : Ss :=
  (.cons (.asg (.var 3) (.ix (.var 0) (.var 1))) <|
  .cons (.asg (.var 4) (.lst .nil)) <|
  .cons (.for_ (.tup (.cons (.var 5) (.cons (.var 6) .nil))) (.enum (.var 0)) (.cons (.ife (.cmp .eq (.var 5) (.var 1)) (.cons .cnt <|
          .nil) .nil) <|
      .cons (.ife (.cmp .eq (.call 7 (.cons (.ix (.ix (.var 6) (.lit (.int 0))) (.var 2)) .nil) []) (.lit (.int 0))) (.cons (.expr (.bm .append (.var 4) (.cons (.var 6) .nil))) <|
          .nil) (.cons (.asg (.var 7) (.call 5 (.cons (.call 4 (.cons (.ix (.ix (.var 6) (.lit (.int 0))) (.var 2)) (.cons (.ix (.ix (.var 3) (.lit (.int 0))) (.var 2)) .nil)) []) .nil) [])) <|
          .cons (.expr (.bm .append (.var 4) (.cons (.call 10 (.cons (.var 6) (.cons (.var 7) (.cons (.var 3) (.cons (.ix (.var 6) (.lit (.int 2))) .nil)))) []) .nil))) <|
          .nil)) <|
      .nil)) <|
  .cons (.ret (.var 4)) <|
  .nil)
def f_by_equation : Fn := ⟨3, 8, b_by_equation⟩
def n_by_pairs : List Str := ["conditions", "k", "result", "condition", "above", "below", "upper", "lower", "factor"]
def b_by_pairs : Ss :=
  (.cons (.asg (.var 2) (.comp (.var 3) (.var 3) (.of (.var 0)) (.cons (.cmp .eq (.call 7 (.cons (.ix (.ix (.var 3) (.lit (.int 0))) (.var 1)) .nil) []) (.lit (.int 0))) .nil) [3])) <|
  .cons (.asg (.var 4) (.comp (.var 3) (.var 3) (.of (.var 0)) (.cons (.cmp .gt (.call 7 (.cons (.ix (.ix (.var 3) (.lit (.int 0))) (.var 1)) .nil) []) (.lit (.int 0))) .nil) [3])) <|
  .cons (.asg (.var 5) (.comp (.var 3) (.var 3) (.of (.var 0)) (.cons (.cmp .lt (.call 7 (.cons (.ix (.ix (.var 3) (.lit (.int 0))) (.var 1)) .nil) []) (.lit (.int 0))) .nil) [3])) <|
  .cons (.for_ (.var 6) (.of (.var 4)) (.cons (.for_ (.var 7) (.of (.var 5)) (.cons (.asg (.var 8) (.call 5 (.cons (.call 4 (.cons (.ix (.ix (.var 6) (.lit (.int 0))) (.var 1)) (.cons (.ix (.ix (.var 7) (.lit (.int 0))) (.var 1)) .nil)) []) .nil) [])) <|
          .cons (.expr (.bm .append (.var 2) (.cons (.call 10 (.cons (.var 6) (.cons (.var 8) (.cons (.var 7) (.cons (.lit (.bl false)) .nil)))) []) .nil))) <|
          .nil)) <|
      .nil)) <|
  .cons (.ret (.var 2)) <|
  .nil)
def f_by_pairs : Fn := ⟨2, 9, b_by_pairs⟩
def n_shape : List Str := ["condition", "unknowns", "a"]
def b_shape : Ss :=
  (.cons (.for_ (.var 2) (.of (.sl (.ix (.var 0) (.lit (.int 0))) .none (.some (.var 1)))) (.cons (.ife (.cmp .ne (.call 7 (.cons (.var 2) .nil) []) (.lit (.int 0))) (.cons (.ret (.call 9 (.cons (.var 0) (.cons (.call 4 (.cons (.glb 1) (.cons (.call 6 (.cons (.var 2) .nil) []) .nil)) []) .nil)) [])) <|
          .nil) .nil) <|
      .nil)) <|
  .cons (.ret (.var 0)) <|
  .nil)
def f_shape : Fn := ⟨2, 3, b_shape⟩
def n_tightest : List Str := ["conditions", "unknowns", "kept", "condition", "row", "key", "gap"]
def b_tightest : Ss :=
  (.cons (.asg (.var 2) .dnew) <|
  .cons (.for_ (.var 3) (.of (.var 0)) (.cons (.asg (.var 4) (.call 14 (.cons (.var 3) (.cons (.var 1) .nil)) [])) <|
      .cons (.asg (.var 5) (.tup (.cons (.sl (.ix (.var 4) (.lit (.int 0))) .none (.some (.var 1))) (.cons (.ix (.var 4) (.lit (.int 2))) .nil)))) <|
      .cons (.ife (.or (.cmp .notIn (.var 5) (.var 2)) (.and (.not (.ix (.var 4) (.lit (.int 2)))) (.call 8 (.cons (.ix (.var 4) (.lit (.int 1))) (.cons (.ix (.ix (.var 2) (.var 5)) (.lit (.int 1))) .nil)) []))) (.cons (.asg (.sub (.var 2) (.var 5)) (.var 4)) <|
          .nil) (.cons (.ife (.and (.ix (.var 4) (.lit (.int 2))) (.cmp .ne (.ix (.var 4) (.lit (.int 1))) (.ix (.ix (.var 2) (.var 5)) (.lit (.int 1))))) (.cons (.asg (.var 6) (.call 10 (.cons (.var 4) (.cons (.tup (.cons (.neg (.lit (.int 1))) (.cons (.lit (.int 1)) .nil))) (.cons (.ix (.var 2) (.var 5)) (.cons (.lit (.bl true)) .nil)))) [])) <|
              .cons (.asg (.sub (.var 2) (.tup (.cons (.sl (.ix (.var 6) (.lit (.int 0))) .none (.some (.var 1))) (.cons (.lit (.bl true)) .nil)))) (.var 6)) <|
              .nil) .nil) <|
          .nil)) <|
      .nil)) <|
  .cons (.ret (.dvals (.var 2))) <|
  .nil)
def f_tightest : Fn := ⟨2, 7, b_tightest⟩
def n_without : List Str := ["conditions", "k", "unknowns", "at"]
def b_without : Ss :=
  (.cons (.asg (.var 3) (.call 11 (.cons (.var 0) (.cons (.var 1) .nil)) [])) <|
  .cons (.ife (.cmp .isN (.var 3) (.lit .non)) (.cons (.ret (.call 15 (.cons (.call 13 (.cons (.var 0) (.cons (.var 1) .nil)) []) (.cons (.var 2) .nil)) [])) <|
      .nil) .nil) <|
  .cons (.ret (.call 15 (.cons (.call 12 (.cons (.var 0) (.cons (.var 3) (.cons (.var 1) .nil))) []) (.cons (.var 2) .nil)) [])) <|
  .nil)
def f_without : Fn := ⟨3, 4, b_without⟩
def n_chain : List Str := ["conditions", "unknowns", "rows", "result", "k"]
def b_chain : Ss :=
  (.cons (.asg (.var 2) (.bf .list (.cons (.var 0) .nil))) <|
  .cons (.asg (.var 3) (.lst (.cons (.var 2) .nil))) <|
  .cons (.for_ (.var 4) (.rngd (.bin .sub (.var 1) (.lit (.int 1))) (.neg (.lit (.int 1)))) (.cons (.asg (.var 2) (.call 16 (.cons (.var 2) (.cons (.var 4) (.cons (.var 1) .nil))) [])) <|
      .cons (.expr (.bm .append (.var 3) (.cons (.var 2) .nil))) <|
      .nil)) <|
  .cons (.expr (.bm .reverse (.var 3) .nil)) <|
  .cons (.ret (.var 3)) <|
  .nil)
def f_chain : Fn := ⟨2, 5, b_chain⟩
def n_broken : List Str := ["conditions", "unknowns", "condition", "bound"]
def b_broken : Ss :=
  (.cons (.for_ (.var 2) (.of (.var 0)) (.cons (.asg (.var 3) (.ix (.var 2) (.lit (.int 1)))) <|
      .cons (.ife (.or (.cmp .lt (.call 7 (.cons (.var 3) .nil) []) (.lit (.int 0))) (.and (.ix (.var 2) (.lit (.int 2))) (.cmp .ne (.call 7 (.cons (.var 3) .nil) []) (.lit (.int 0))))) (.cons (.ret (.var 2)) <|
          .nil) .nil) <|
      .nil)) <|
  .cons (.ret (.lit .non)) <|
  .nil)
def f_broken : Fn := ⟨2, 4, b_broken⟩
def n_can_be_met : List Str := ["conditions", "unknowns"]
def b_can_be_met : Ss :=
  (.cons (.ret (.cmp .isN (.call 18 (.cons (.ix (.call 17 (.cons (.var 0) (.cons (.var 1) .nil)) []) (.lit (.int 0))) (.cons (.var 1) .nil)) []) (.lit .non))) <|
  .nil)
def f_can_be_met : Fn := ⟨2, 2, b_can_be_met⟩
def n_marked : List Str := ["conditions", "many", "result", "j", "condition", "marks", "i"]
def b_marked : Ss :=
  (.cons (.asg (.var 1) (.bf .len (.cons (.var 0) .nil))) <|
  .cons (.asg (.var 2) (.lst .nil)) <|
  .cons (.for_ (.tup (.cons (.var 3) (.cons (.var 4) .nil))) (.enum (.var 0)) (.cons (.asg (.var 5) (.bf .tuple (.cons (.comp (.ife (.cmp .eq (.var 3) (.var 6)) (.glb 1) (.glb 0)) (.var 6) (.rng (.lit (.int 0)) (.var 1)) .nil [6]) .nil))) <|
      .cons (.expr (.bm .append (.var 2) (.cons (.tup (.cons (.bin .add (.ix (.var 4) (.lit (.int 0))) (.var 5)) (.cons (.ix (.var 4) (.lit (.int 1))) (.cons (.ix (.var 4) (.lit (.int 2))) .nil)))) .nil))) <|
      .nil)) <|
  .cons (.ret (.var 2)) <|
  .nil)
def f_marked : Fn := ⟨1, 7, b_marked⟩
def n_refutation : List Str := ["conditions", "unknowns", "found", "factor", "a"]
def b_refutation : Ss :=
  (.cons (.asg (.var 2) (.call 18 (.cons (.ix (.call 17 (.cons (.call 20 (.cons (.var 0) .nil) []) (.cons (.var 1) .nil)) []) (.lit (.int 0))) (.cons (.var 1) .nil)) [])) <|
  .cons (.ife (.cmp .isN (.var 2) (.lit .non)) (.cons (.ret (.lit .non)) <|
      .nil) .nil) <|
  .cons (.asg (.var 3) (.call 4 (.cons (.tup (.cons (.neg (.lit (.int 1))) (.cons (.lit (.int 1)) .nil))) (.cons (.ix (.var 2) (.lit (.int 1))) .nil)) [])) <|
  .cons (.ret (.bf .tuple (.cons (.comp (.call 3 (.cons (.var 4) (.cons (.var 3) .nil)) []) (.var 4) (.of (.sl (.ix (.var 2) (.lit (.int 0))) (.some (.var 1)) .none)) .nil [4]) .nil))) <|
  .nil)
def f_refutation : Fn := ⟨2, 5, b_refutation⟩
def n_with_value : List Str := ["conditions", "values", "k", "result", "numbers", "bound", "is_just", "rest", "a", "value"]
def b_with_value : Ss :=
  (.cons (.asg (.var 3) (.lst .nil)) <|
  .cons (.for_ (.tup (.cons (.var 4) (.cons (.var 5) (.cons (.var 6) .nil)))) (.of (.var 0)) (.cons (.asg (.var 7) (.var 5)) <|
      .cons (.for_ (.tup (.cons (.var 8) (.cons (.var 9) .nil))) (.zip (.var 4) (.var 1)) (.cons (.ife (.cmp .ne (.ix (.var 8) (.lit (.int 0))) (.lit (.int 0))) (.cons (.asg (.var 7) (.call 2 (.cons (.var 7) (.cons (.call 3 (.cons (.var 8) (.cons (.var 9) .nil)) []) .nil)) [])) <|
              .nil) .nil) <|
          .nil)) <|
      .cons (.expr (.bm .append (.var 3) (.cons (.tup (.cons (.ix (.var 4) (.var 2)) (.cons (.var 7) (.cons (.var 6) .nil)))) .nil))) <|
      .nil)) <|
  .cons (.ret (.var 3)) <|
  .nil)
def f_with_value : Fn := ⟨3, 10, b_with_value⟩
def n_interval : List Str := ["rows", "low", "high", "number", "bound", "is_just", "end"]
def b_interval : Ss :=
  (.cons (.asg (.var 1) (.lit .non)) <|
  .cons (.asg (.var 2) (.lit .non)) <|
  .cons (.for_ (.tup (.cons (.var 3) (.cons (.var 4) (.cons (.var 5) .nil)))) (.of (.var 0)) (.cons (.ife (.cmp .eq (.call 7 (.cons (.var 3) .nil) []) (.lit (.int 0))) (.cons .cnt <|
          .nil) .nil) <|
      .cons (.asg (.var 6) (.call 4 (.cons (.var 4) (.cons (.var 3) .nil)) [])) <|
      .cons (.ife (.or (.var 5) (.cmp .lt (.call 7 (.cons (.var 3) .nil) []) (.lit (.int 0)))) (.cons (.ife (.or (.cmp .isN (.var 1) (.lit .non)) (.call 8 (.cons (.var 1) (.cons (.var 6) .nil)) [])) (.cons (.asg (.var 1) (.var 6)) <|
              .nil) .nil) <|
          .nil) .nil) <|
      .cons (.ife (.or (.var 5) (.cmp .gt (.call 7 (.cons (.var 3) .nil) []) (.lit (.int 0)))) (.cons (.ife (.or (.cmp .isN (.var 2) (.lit .non)) (.call 8 (.cons (.var 6) (.cons (.var 2) .nil)) [])) (.cons (.asg (.var 2) (.var 6)) <|
              .nil) .nil) <|
          .nil) .nil) <|
      .nil)) <|
  .cons (.ret (.tup (.cons (.var 1) (.cons (.var 2) .nil)))) <|
  .nil)
def f_interval : Fn := ⟨1, 7, b_interval⟩
def n_nearest : List Str := ["conditions", "unknowns", "steps", "values", "k", "low", "high", "value"]
def b_nearest : Ss :=
  (.cons (.asg (.var 2) (.call 17 (.cons (.var 0) (.cons (.var 1) .nil)) [])) <|
  .cons (.ife (.cmp .notN (.call 18 (.cons (.ix (.var 2) (.lit (.int 0))) (.cons (.var 1) .nil)) []) (.lit .non)) (.cons (.ret (.lit .non)) <|
      .nil) .nil) <|
  .cons (.asg (.var 3) (.lst .nil)) <|
  .cons (.for_ (.var 4) (.rng (.lit (.int 0)) (.var 1)) (.cons (.asg (.tup (.cons (.var 5) (.cons (.var 6) .nil))) (.call 23 (.cons (.call 22 (.cons (.ix (.var 2) (.bin .add (.var 4) (.lit (.int 1)))) (.cons (.var 3) (.cons (.var 4) .nil))) []) .nil) [])) <|
      .cons (.asg (.var 7) (.glb 0)) <|
      .cons (.ife (.and (.cmp .notN (.var 5) (.lit .non)) (.cmp .gt (.call 7 (.cons (.var 5) .nil) []) (.lit (.int 0)))) (.cons (.asg (.var 7) (.var 5)) <|
          .nil) (.cons (.ife (.and (.cmp .notN (.var 6) (.lit .non)) (.cmp .lt (.call 7 (.cons (.var 6) .nil) []) (.lit (.int 0)))) (.cons (.asg (.var 7) (.var 6)) <|
              .nil) .nil) <|
          .nil)) <|
      .cons (.expr (.bm .append (.var 3) (.cons (.var 7) .nil))) <|
      .nil)) <|
  .cons (.ret (.bf .tuple (.cons (.var 3) .nil))) <|
  .nil)
def f_nearest : Fn := ⟨2, 8, b_nearest⟩
def n_greatest : List Str := ["conditions", "unknowns", "steps"]
def b_greatest : Ss :=
  (.cons (.asg (.var 2) (.call 17 (.cons (.var 0) (.cons (.var 1) .nil)) [])) <|
  .cons (.ret (.ix (.call 23 (.cons (.call 22 (.cons (.ix (.var 2) (.lit (.int 1))) (.cons (.lst .nil) (.cons (.lit (.int 0)) .nil))) []) .nil) []) (.lit (.int 1)))) <|
  .nil)
def f_greatest : Fn := ⟨2, 3, b_greatest⟩
def n_dot : List Str := ["first", "second", "result", "a", "b"]
def b_dot : Ss :=
  (.cons (.asg (.var 2) (.glb 0)) <|
  .cons (.for_ (.tup (.cons (.var 3) (.cons (.var 4) .nil))) (.zip (.var 0) (.var 1)) (.cons (.ife (.and (.cmp .ne (.ix (.var 3) (.lit (.int 0))) (.lit (.int 0))) (.cmp .ne (.ix (.var 4) (.lit (.int 0))) (.lit (.int 0)))) (.cons (.asg (.var 2) (.call 1 (.cons (.var 2) (.cons (.call 3 (.cons (.var 3) (.cons (.var 4) .nil)) []) .nil)) [])) <|
          .nil) .nil) <|
      .nil)) <|
  .cons (.ret (.var 2)) <|
  .nil)
def f_dot : Fn := ⟨2, 5, b_dot⟩
def n_meets : List Str := ["values", "conditions", "numbers", "bound", "is_just", "amount"]
def b_meets : Ss :=
  (.cons (.for_ (.tup (.cons (.var 2) (.cons (.var 3) (.cons (.var 4) .nil)))) (.of (.var 1)) (.cons (.asg (.var 5) (.call 26 (.cons (.var 2) (.cons (.var 0) .nil)) [])) <|
      .cons (.ife (.or (.call 8 (.cons (.var 3) (.cons (.var 5) .nil)) []) (.and (.var 4) (.cmp .ne (.var 5) (.var 3)))) (.cons (.ret (.lit (.bl false))) <|
          .nil) .nil) <|
      .nil)) <|
  .cons (.ret (.lit (.bl true))) <|
  .nil)
def f_meets : Fn := ⟨2, 6, b_meets⟩
def n__law_deck : List Str := ["script", "cells", "each", "deck", "seed", "k", "cell", "rest", "turn"]
def b__law_deck : Ss :=
  (.cons (.asg (.var 3) (.lst .nil)) <|
  .cons (.asg (.var 4) (.bin .add (.lit (.int 7)) (.bf .len (.cons (.var 0) .nil)))) <|
  .cons (.for_ (.var 5) (.rng (.lit (.int 0)) (.var 1)) (.cons (.asg (.var 6) (.ife (.cmp .lt (.var 5) (.bf .len (.cons (.var 0) .nil))) (.bf .int (.cons (.ix (.var 0) (.var 5)) .nil)) (.lit (.int 0)))) <|
      .cons (.asg (.var 7) (.bin .mul (.bf .abs (.cons (.var 6) .nil)) (.bf .int (.cons (.cmp .ge (.bf .abs (.cons (.var 6) .nil)) (.bin .pow (.lit (.int 10)) (.lit (.int 18)))) .nil)))) <|
      .cons (.asg (.var 4) (.bin .mod (.bf .int (.cons (.bin .add (.bin .add (.bin .add (.bin .mul (.var 4) (.lit (.int 48271))) (.bin .mul (.lit (.int 3)) (.bin .mod (.bf .int (.cons (.bf .abs (.cons (.var 6) .nil)) .nil)) (.lit (.int 2147483587))))) (.bf .int (.cons (.cmp .lt (.var 6) (.lit (.int 0))) .nil))) (.var 5)) .nil)) (.lit (.int 2147483647)))) <|
      .cons (.for_ (.var 8) (.rng (.lit (.int 0)) (.var 2)) (.cons (.asg (.var 4) (.bin .mod (.bf .int (.cons (.bin .add (.bin .add (.bin .mul (.var 4) (.lit (.int 69621))) (.var 8)) (.lit (.int 1))) .nil)) (.lit (.int 2147483629)))) <|
          .cons (.expr (.bm .append (.var 3) (.cons (.bin .mod (.bf .int (.cons (.ix (.lst (.cons (.bin .fdiv (.var 4) (.lit (.int 7))) (.cons (.var 7) .nil))) (.bf .int (.cons (.cmp .gt (.var 7) (.lit (.int 0))) .nil))) .nil)) (.lit (.int 1000003))) .nil))) <|
          .cons (.asg (.var 7) (.bin .fdiv (.var 7) (.lit (.int 1000003)))) <|
          .nil)) <|
      .nil)) <|
  .cons (.expr (.bm .reverse (.var 3) .nil)) <|
  .cons (.ret (.var 3)) <|
  .nil)
def f__law_deck : Fn := ⟨3, 9, b__law_deck⟩
def n__law_take : List Str := ["deck", "many"]
def b__law_take : Ss :=
  (.cons (.ret (.ife (.cmp .gt (.bf .len (.cons (.var 0) .nil)) (.lit (.int 0))) (.bin .mod (.bf .int (.cons (.bm .pop (.var 0) .nil) .nil)) (.var 1)) (.lit (.int 0)))) <|
  .nil)
def f__law_take : Fn := ⟨2, 2, b__law_take⟩
def n__law_pick : List Str := ["deck", "items"]
def b__law_pick : Ss :=
  (.cons (.ret (.ix (.var 1) (.call 29 (.cons (.var 0) (.cons (.bf .len (.cons (.var 1) .nil)) .nil)) []))) <|
  .nil)
def f__law_pick : Fn := ⟨2, 2, b__law_pick⟩
def n__law_gcd : List Str := ["a", "b", "first", "second", "turn"]
def b__law_gcd : Ss :=
  (.cons (.asg (.var 2) (.bf .abs (.cons (.var 0) .nil))) <|
  .cons (.asg (.var 3) (.bf .abs (.cons (.var 1) .nil))) <|
  .cons (.for_ (.var 4) (.rng (.lit (.int 0)) (.lit (.int 40000))) (.cons (.ife (.cmp .eq (.var 3) (.lit (.int 0))) (.cons .brk <|
          .nil) .nil) <|
      .cons (.par 2 3 (.var 3) (.bin .mod (.bf .int (.cons (.var 2) .nil)) (.var 3))) <|
      .nil)) <|
  .cons (.ret (.var 2)) <|
  .nil)
def f__law_gcd : Fn := ⟨2, 5, b__law_gcd⟩
def n__law_ratio : List Str := ["n", "d", "common"]
def b__law_ratio : Ss :=
  (.cons (.asg (.var 2) (.call 31 (.cons (.var 0) (.cons (.var 1) .nil)) [])) <|
  .cons (.ife (.cmp .lt (.var 1) (.lit (.int 0))) (.cons (.asg (.var 2) (.neg (.var 2))) <|
      .nil) .nil) <|
  .cons (.ret (.tup (.cons (.bin .fdiv (.var 0) (.var 2)) (.cons (.bin .fdiv (.var 1) (.var 2)) .nil)))) <|
  .nil)
def f__law_ratio : Fn := ⟨2, 3, b__law_ratio⟩
def n__law_plus : List Str := ["a", "b"]
def b__law_plus : Ss :=
  (.cons (.ret (.call 32 (.cons (.bin .add (.bin .mul (.ix (.var 0) (.lit (.int 0))) (.ix (.var 1) (.lit (.int 1)))) (.bin .mul (.ix (.var 1) (.lit (.int 0))) (.ix (.var 0) (.lit (.int 1))))) (.cons (.bin .mul (.ix (.var 0) (.lit (.int 1))) (.ix (.var 1) (.lit (.int 1)))) .nil)) [])) <|
  .nil)
def f__law_plus : Fn := ⟨2, 2, b__law_plus⟩
def n__law_times : List Str := ["a", "b"]
def b__law_times : Ss :=
  (.cons (.ret (.call 32 (.cons (.bin .mul (.ix (.var 0) (.lit (.int 0))) (.ix (.var 1) (.lit (.int 0)))) (.cons (.bin .mul (.ix (.var 0) (.lit (.int 1))) (.ix (.var 1) (.lit (.int 1)))) .nil)) [])) <|
  .nil)
def f__law_times : Fn := ⟨2, 2, b__law_times⟩
def n__law_negative : List Str := ["a"]
def b__law_negative : Ss :=
  (.cons (.ret (.tup (.cons (.neg (.ix (.var 0) (.lit (.int 0)))) (.cons (.ix (.var 0) (.lit (.int 1))) .nil)))) <|
  .nil)
def f__law_negative : Fn := ⟨1, 1, b__law_negative⟩
def n__law_plain : List Str := ["value", "item"]
def b__law_plain : Ss :=
  (.cons (.ife (.isi (.var 0) [.tuple, .list]) (.cons (.ret (.bin .add (.lst (.cons (.isi (.var 0) [.list]) .nil)) (.comp (.call 36 (.cons (.var 1) .nil) []) (.var 1) (.of (.var 0)) .nil [1]))) <|
      .nil) .nil) <|
  .cons (.ife (.or (.cmp .isN (.var 0) (.lit .non)) (.isi (.var 0) [.bool])) (.cons (.ret (.ix (.lst (.cons (.lit (.str "None")) (.cons (.lit (.str "False")) (.cons (.lit (.str "True")) .nil)))) (.bin .add (.bf .int (.cons (.cmp .notN (.var 0) (.lit .non)) .nil)) (.bf .int (.cons (.cmp .isT (.var 0) (.lit (.bl true))) .nil))))) <|
      .nil) .nil) <|
  .cons (.ret (.ife (.isi (.var 0) [.int, .str]) (.lst (.cons (.isi (.var 0) [.str]) (.cons (.var 0) .nil))) (.lit (.str "another")))) <|
  .nil)
def f__law_plain : Fn := ⟨1, 2, b__law_plain⟩
def n__law_same : List Str := ["told", "due"]
def b__law_same : Ss :=
  (.cons (.ret (.cmp .eq (.call 36 (.cons (.var 0) .nil) []) (.call 36 (.cons (.var 1) .nil) []))) <|
  .nil)
def f__law_same : Fn := ⟨2, 2, b__law_same⟩
def n__law_nearer : List Str := ["far", "i", "j", "way"]
def b__law_nearer : Ss :=
  (.cons (.ife (.or (.cmp .isN (.ix (.ix (.var 0) (.var 1)) (.var 2)) (.lit .non)) (.cmp .lt (.var 3) (.ix (.ix (.var 0) (.var 1)) (.var 2)))) (.cons (.asg (.sub (.ix (.var 0) (.var 1)) (.var 2)) (.var 3)) <|
      .nil) .nil) <|
  .nil)
def f__law_nearer : Fn := ⟨4, 4, b__law_nearer⟩
def n__law_close : List Str := ["far", "points", "j", "i", "k"]
def b__law_close : Ss :=
  (.cons (.asg (.var 1) (.bf .len (.cons (.var 0) .nil))) <|
  .cons (.for_ (.var 2) (.rng (.lit (.int 0)) (.var 1)) (.cons (.for_ (.var 3) (.rng (.lit (.int 0)) (.var 1)) (.cons (.for_ (.var 4) (.rng (.lit (.int 0)) (.var 1)) (.cons (.ife (.and (.cmp .notN (.ix (.ix (.var 0) (.var 3)) (.var 2)) (.lit .non)) (.cmp .notN (.ix (.ix (.var 0) (.var 2)) (.var 4)) (.lit .non))) (.cons (.expr (.call 38 (.cons (.var 0) (.cons (.var 3) (.cons (.var 4) (.cons (.bin .add (.ix (.ix (.var 0) (.var 3)) (.var 2)) (.ix (.ix (.var 0) (.var 2)) (.var 4))) .nil)))) [])) <|
                  .nil) .nil) <|
              .nil)) <|
          .nil)) <|
      .nil)) <|
  .nil)
def f__law_close : Fn := ⟨1, 5, b__law_close⟩
def n__law_condition : List Str := ["many", "i", "j", "way", "factor", "kind", "signed", "numbers", "k"]
def b__law_condition : Ss :=
  (.cons (.asg (.var 6) (.var 4)) <|
  .cons (.ife (.cmp .eq (.var 5) (.lit (.int 1))) (.cons (.asg (.var 6) (.call 35 (.cons (.var 4) .nil) [])) <|
      .nil) .nil) <|
  .cons (.asg (.var 7) (.lst .nil)) <|
  .cons (.for_ (.var 8) (.rng (.lit (.int 0)) (.var 0)) (.cons (.expr (.bm .append (.var 7) (.cons (.ix (.lst (.cons (.tup (.cons (.lit (.int 0)) (.cons (.lit (.int 1)) .nil))) (.cons (.var 6) (.cons (.call 35 (.cons (.var 6) .nil) []) .nil)))) (.bin .add (.bf .int (.cons (.cmp .eq (.var 8) (.var 2)) .nil)) (.bin .mul (.lit (.int 2)) (.bf .int (.cons (.cmp .eq (.var 8) (.var 1)) .nil))))) .nil))) <|
      .nil)) <|
  .cons (.ret (.tup (.cons (.bf .tuple (.cons (.var 7) .nil)) (.cons (.call 34 (.cons (.var 6) (.cons (.call 32 (.cons (.var 3) (.cons (.lit (.int 12)) .nil)) []) .nil)) []) (.cons (.cmp .eq (.var 5) (.lit (.int 2))) .nil))))) <|
  .nil)
def f__law_condition : Fn := ⟨6, 9, b__law_condition⟩
def n__law_differences : List Str := ["deck", "many", "far", "i", "j", "hidden", "k", "free", "conditions", "turn", "kind", "way", "room", "factor"]
def b__law_differences : Ss :=
  (.cons (.asg (.var 2) (.comp (.comp (.ix (.lst (.cons (.lit .non) (.cons (.lit (.int 0)) .nil))) (.bf .int (.cons (.cmp .eq (.var 3) (.var 4)) .nil))) (.var 3) (.rng (.lit (.int 0)) (.bin .add (.var 1) (.lit (.int 1)))) .nil [3]) (.var 4) (.rng (.lit (.int 0)) (.bin .add (.var 1) (.lit (.int 1)))) .nil [4])) <|
  .cons (.asg (.var 5) (.bin .add (.comp (.bin .sub (.call 29 (.cons (.var 0) (.cons (.lit (.int 61)) .nil)) []) (.lit (.int 30))) (.var 6) (.rng (.lit (.int 0)) (.var 1)) .nil [6]) (.lst (.cons (.lit (.int 0)) .nil)))) <|
  .cons (.asg (.var 7) (.cmp .eq (.call 29 (.cons (.var 0) (.cons (.lit (.int 3)) .nil)) []) (.lit (.int 0)))) <|
  .cons (.asg (.var 8) (.lst .nil)) <|
  .cons (.for_ (.var 9) (.rng (.lit (.int 0)) (.bin .add (.lit (.int 1)) (.call 29 (.cons (.var 0) (.cons (.lit (.int 8)) .nil)) []))) (.cons (.asg (.var 3) (.call 29 (.cons (.var 0) (.cons (.bin .add (.var 1) (.lit (.int 1))) .nil)) [])) <|
      .cons (.asg (.var 4) (.bin .mod (.bf .int (.cons (.bin .add (.bin .add (.var 3) (.lit (.int 1))) (.call 29 (.cons (.var 0) (.cons (.var 1) .nil)) [])) .nil)) (.bin .add (.var 1) (.lit (.int 1))))) <|
      .cons (.asg (.var 10) (.ix (.lst (.cons (.lit (.int 0)) (.cons (.lit (.int 1)) (.cons (.lit (.int 0)) (.cons (.lit (.int 1)) (.cons (.lit (.int 2)) .nil)))))) (.call 29 (.cons (.var 0) (.cons (.lit (.int 5)) .nil)) []))) <|
      .cons (.asg (.var 11) (.bin .sub (.call 29 (.cons (.var 0) (.cons (.lit (.int 41)) .nil)) []) (.lit (.int 20)))) <|
      .cons (.ife (.not (.var 7)) (.cons (.asg (.var 12) (.ix (.lst (.cons (.lit (.int 0)) (.cons (.lit (.int 5)) (.cons (.lit (.int 16)) (.cons (.lit (.int 30)) .nil))))) (.call 29 (.cons (.var 0) (.cons (.lit (.int 4)) .nil)) []))) <|
          .cons (.asg (.var 11) (.bin .add (.bin .sub (.ix (.var 5) (.var 4)) (.ix (.var 5) (.var 3))) (.ix (.lst (.cons (.var 12) (.cons (.neg (.var 12)) (.cons (.lit (.int 0)) .nil)))) (.var 10)))) <|
          .nil) .nil) <|
      .cons (.ife (.cmp .ne (.var 10) (.lit (.int 1))) (.cons (.expr (.call 38 (.cons (.var 2) (.cons (.var 3) (.cons (.var 4) (.cons (.var 11) .nil)))) [])) <|
          .nil) .nil) <|
      .cons (.ife (.cmp .ne (.var 10) (.lit (.int 0))) (.cons (.expr (.call 38 (.cons (.var 2) (.cons (.var 4) (.cons (.var 3) (.cons (.neg (.var 11)) .nil)))) [])) <|
          .nil) .nil) <|
      .cons (.asg (.var 13) (.call 30 (.cons (.var 0) (.cons (.lst (.cons (.tup (.cons (.lit (.int 1)) (.cons (.lit (.int 1)) .nil))) (.cons (.tup (.cons (.lit (.int 2)) (.cons (.lit (.int 1)) .nil))) (.cons (.tup (.cons (.lit (.int 1)) (.cons (.lit (.int 2)) .nil))) (.cons (.tup (.cons (.lit (.int 3)) (.cons (.lit (.int 4)) .nil))) (.cons (.tup (.cons (.lit (.int 7)) (.cons (.lit (.int 3)) .nil))) .nil)))))) .nil)) [])) <|
      .cons (.expr (.bm .append (.var 8) (.cons (.call 40 (.cons (.var 1) (.cons (.var 3) (.cons (.var 4) (.cons (.var 11) (.cons (.var 13) (.cons (.var 10) .nil)))))) []) .nil))) <|
      .nil)) <|
  .cons (.ret (.tup (.cons (.var 8) (.cons (.var 2) .nil)))) <|
  .nil)
def f__law_differences : Fn := ⟨2, 14, b__law_differences⟩
def n__law_values : List Str := ["far", "many", "values", "k", "value"]
def b__law_values : Ss :=
  (.cons (.asg (.var 2) (.lst .nil)) <|
  .cons (.for_ (.var 3) (.rng (.lit (.int 0)) (.var 1)) (.cons (.asg (.var 4) (.lit (.int 0))) <|
      .cons (.ife (.and (.cmp .notN (.ix (.ix (.var 0) (.var 3)) (.var 1)) (.lit .non)) (.cmp .lt (.ix (.ix (.var 0) (.var 3)) (.var 1)) (.lit (.int 0)))) (.cons (.asg (.var 4) (.neg (.ix (.ix (.var 0) (.var 3)) (.var 1)))) <|
          .nil) .nil) <|
      .cons (.ife (.and (.cmp .notN (.ix (.ix (.var 0) (.var 1)) (.var 3)) (.lit .non)) (.cmp .lt (.ix (.ix (.var 0) (.var 1)) (.var 3)) (.lit (.int 0)))) (.cons (.asg (.var 4) (.ix (.ix (.var 0) (.var 1)) (.var 3))) <|
          .nil) .nil) <|
      .cons (.expr (.call 38 (.cons (.var 0) (.cons (.var 1) (.cons (.var 3) (.cons (.var 4) .nil)))) [])) <|
      .cons (.expr (.call 38 (.cons (.var 0) (.cons (.var 3) (.cons (.var 1) (.cons (.neg (.var 4)) .nil)))) [])) <|
      .cons (.expr (.call 39 (.cons (.var 0) .nil) [])) <|
      .cons (.expr (.bm .append (.var 2) (.cons (.call 32 (.cons (.var 4) (.cons (.lit (.int 12)) .nil)) []) .nil))) <|
      .nil)) <|
  .cons (.ret (.bf .tuple (.cons (.var 2) .nil))) <|
  .nil)
def f__law_values : Fn := ⟨2, 5, b__law_values⟩
def n__law_refutes : List Str := ["told", "conditions", "many", "sums", "k", "row", "at"]
def b__law_refutes : Ss :=
  (.cons (.ife (.or (.not (.isi (.var 0) [.tuple])) (.cmp .ne (.bf .len (.cons (.var 0) .nil)) (.bf .len (.cons (.var 1) .nil)))) (.cons (.ret (.lit (.bl false))) <|
      .nil) .nil) <|
  .cons (.asg (.var 3) (.comp (.tup (.cons (.lit (.int 0)) (.cons (.lit (.int 1)) .nil))) (.var 4) (.rng (.lit (.int 0)) (.bin .add (.var 2) (.lit (.int 1)))) .nil [4])) <|
  .cons (.for_ (.var 4) (.rng (.lit (.int 0)) (.bf .len (.cons (.var 0) .nil))) (.cons (.ife (.or (.not (.isi (.ix (.var 0) (.var 4)) [.tuple])) (.or (.cmp .ne (.bf .len (.cons (.ix (.var 0) (.var 4)) .nil)) (.lit (.int 2))) (.not (.call 37 (.cons (.ix (.var 0) (.var 4)) (.cons (.call 32 (.cons (.ix (.ix (.var 0) (.var 4)) (.lit (.int 0))) (.cons (.ix (.ix (.var 0) (.var 4)) (.lit (.int 1))) .nil)) []) .nil)) [])))) (.cons (.ret (.lit (.bl false))) <|
          .nil) .nil) <|
      .cons (.ife (.and (.cmp .lt (.ix (.ix (.var 0) (.var 4)) (.lit (.int 0))) (.lit (.int 0))) (.not (.ix (.ix (.var 1) (.var 4)) (.lit (.int 2))))) (.cons (.ret (.lit (.bl false))) <|
          .nil) .nil) <|
      .cons (.asg (.var 5) (.bin .add (.bf .list (.cons (.ix (.ix (.var 1) (.var 4)) (.lit (.int 0))) .nil)) (.lst (.cons (.ix (.ix (.var 1) (.var 4)) (.lit (.int 1))) .nil)))) <|
      .cons (.asg (.var 3) (.comp (.call 33 (.cons (.ix (.var 3) (.var 6)) (.cons (.call 34 (.cons (.ix (.var 0) (.var 4)) (.cons (.ix (.var 5) (.var 6)) .nil)) []) .nil)) []) (.var 6) (.rng (.lit (.int 0)) (.bin .add (.var 2) (.lit (.int 1)))) .nil [6])) <|
      .nil)) <|
  .cons (.ret (.cmp .eq (.var 3) (.bin .add (.comp (.tup (.cons (.lit (.int 0)) (.cons (.lit (.int 1)) .nil))) (.var 4) (.rng (.lit (.int 0)) (.var 2)) .nil [4]) (.lst (.cons (.tup (.cons (.neg (.lit (.int 1))) (.cons (.lit (.int 1)) .nil))) .nil))))) <|
  .nil)
def f__law_refutes : Fn := ⟨3, 7, b__law_refutes⟩
def n_law : List Str := ["script", "deck", "many", "conditions", "far", "can", "k", "handed", "highest", "values"]
def b_law : Ss :=
  (.cons (.asg (.var 1) (.call 28 (.cons (.var 0) (.cons (.lit (.int 30)) (.cons (.lit (.int 4)) .nil))) [])) <|
  .cons (.asg (.var 2) (.bin .add (.lit (.int 1)) (.call 29 (.cons (.var 1) (.cons (.lit (.int 5)) .nil)) []))) <|
  .cons (.asg (.tup (.cons (.var 3) (.cons (.var 4) .nil))) (.call 41 (.cons (.var 1) (.cons (.var 2) .nil)) [])) <|
  .cons (.expr (.call 39 (.cons (.var 4) .nil) [])) <|
  .cons (.asg (.var 5) (.cmp .notIn (.lit (.bl true)) (.comp (.cmp .lt (.ix (.ix (.var 4) (.var 6)) (.var 6)) (.lit (.int 0))) (.var 6) (.rng (.lit (.int 0)) (.bin .add (.var 2) (.lit (.int 1)))) .nil [6]))) <|
  .cons (.asg (.var 7) (.bf .list (.cons (.var 3) .nil))) <|
  .cons (.ife (.not (.call 37 (.cons (.call 19 (.cons (.var 7) (.cons (.var 2) .nil)) []) (.cons (.var 5) .nil)) [])) (.cons (.ret (.lit (.bl false))) <|
      .nil) .nil) <|
  .cons (.ife (.not (.var 5)) (.cons (.ife (.cmp .notN (.call 24 (.cons (.bf .list (.cons (.var 3) .nil)) (.cons (.var 2) .nil)) []) (.lit .non)) (.cons (.ret (.lit (.bl false))) <|
          .nil) .nil) <|
      .cons (.ret (.and (.call 43 (.cons (.call 21 (.cons (.var 7) (.cons (.var 2) .nil)) []) (.cons (.var 3) (.cons (.var 2) .nil))) []) (.call 37 (.cons (.var 7) (.cons (.var 3) .nil)) []))) <|
      .nil) .nil) <|
  .cons (.ife (.cmp .notN (.call 21 (.cons (.bf .list (.cons (.var 3) .nil)) (.cons (.var 2) .nil)) []) (.lit .non)) (.cons (.ret (.lit (.bl false))) <|
      .nil) .nil) <|
  .cons (.asg (.var 8) (.lit .non)) <|
  .cons (.ife (.cmp .notN (.ix (.ix (.var 4) (.var 2)) (.lit (.int 0))) (.lit .non)) (.cons (.asg (.var 8) (.call 32 (.cons (.ix (.ix (.var 4) (.var 2)) (.lit (.int 0))) (.cons (.lit (.int 12)) .nil)) [])) <|
      .nil) .nil) <|
  .cons (.asg (.var 9) (.call 42 (.cons (.var 4) (.cons (.var 2) .nil)) [])) <|
  .cons (.ife (.or (.not (.call 37 (.cons (.call 25 (.cons (.var 7) (.cons (.var 2) .nil)) []) (.cons (.var 8) .nil)) [])) (.not (.call 37 (.cons (.call 24 (.cons (.var 7) (.cons (.var 2) .nil)) []) (.cons (.var 9) .nil)) []))) (.cons (.ret (.lit (.bl false))) <|
      .nil) .nil) <|
  .cons (.ret (.and (.cmp .isT (.call 27 (.cons (.var 9) (.cons (.bf .list (.cons (.var 3) .nil)) .nil)) []) (.lit (.bl true))) (.call 37 (.cons (.var 7) (.cons (.var 3) .nil)) []))) <|
  .nil)
def f_law : Fn := ⟨1, 10, b_law⟩
def names : List Str := (["ratio", "plus", "minus", "times", "over", "negative", "size", "sign", "less", "scaled", "added", "first_just", "by_equation", "by_pairs", "shape", "tightest", "without", "chain", "broken", "can_be_met", "marked", "refutation", "with_value", "interval", "nearest", "greatest", "dot", "meets", "_law_deck", "_law_take"] : List Str) ++ (["_law_pick", "_law_gcd", "_law_ratio", "_law_plus", "_law_times", "_law_negative", "_law_plain", "_law_same", "_law_nearer", "_law_close", "_law_condition", "_law_differences", "_law_values", "_law_refutes", "law"] : List Str)
def fns : List Fn := ([f_ratio, f_plus, f_minus, f_times, f_over, f_negative, f_size, f_sign, f_less, f_scaled, f_added, f_first_just, f_by_equation, f_by_pairs, f_shape, f_tightest, f_without, f_chain, f_broken, f_can_be_met, f_marked, f_refutation, f_with_value, f_interval, f_nearest, f_greatest, f_dot, f_meets, f__law_deck, f__law_take] : List Fn) ++ ([f__law_pick, f__law_gcd, f__law_ratio, f__law_plus, f__law_times, f__law_negative, f__law_plain, f__law_same, f__law_nearer, f__law_close, f__law_condition, f__law_differences, f__law_values, f__law_refutes, f_law] : List Fn)
def gnames : List Str := ["ZERO", "ONE"]
def gvals : List D := [(.tup [(.int 0), (.int 1)]), (.tup [(.int 1), (.int 1)])]
end K00
set_option Elab.async false
set_option linter.all false
set_option maxRecDepth 100000
set_option maxHeartbeats 0
/-! the text and the own terms (printed) -/
namespace K00
open SF PySem PySem.Spec PyProof.Rows L2
def top (i : Nat) : Stmt := PySem.Challenge.pw_standfast_k00_whole_differences_by_short.main.body.getD i (.Pass ⟨0, 0, 0, 0⟩)
def sd_ratio : SD := ⟨"ratio", ["n", "d"], n_ratio, f_ratio, top 4, [.int 1]⟩
def sd_plus : SD := ⟨"plus", ["a", "b"], n_plus, f_plus, top 5, []⟩
def sd_minus : SD := ⟨"minus", ["a", "b"], n_minus, f_minus, top 6, []⟩
def sd_times : SD := ⟨"times", ["a", "b"], n_times, f_times, top 7, []⟩
def sd_over : SD := ⟨"over", ["a", "b"], n_over, f_over, top 8, []⟩
def sd_negative : SD := ⟨"negative", ["a"], n_negative, f_negative, top 9, []⟩
def sd_size : SD := ⟨"size", ["a"], n_size, f_size, top 10, []⟩
def sd_sign : SD := ⟨"sign", ["a"], n_sign, f_sign, top 11, []⟩
def sd_less : SD := ⟨"less", ["a", "b"], n_less, f_less, top 12, []⟩
def sd_scaled : SD := ⟨"scaled", ["condition", "factor"], n_scaled, f_scaled, top 14, []⟩
def sd_added : SD := ⟨"added", ["first", "factor", "second", "is_just"], n_added, f_added, top 15, []⟩
def sd_first_just : SD := ⟨"first_just", ["conditions", "k"], n_first_just, f_first_just, top 16, []⟩
def sd_by_equation : SD := ⟨"by_equation", ["conditions", "at", "k"], n_by_equation, f_by_equation, top 17, []⟩
def sd_by_pairs : SD := ⟨"by_pairs", ["conditions", "k"], n_by_pairs, f_by_pairs, top 18, []⟩
def sd_shape : SD := ⟨"shape", ["condition", "unknowns"], n_shape, f_shape, top 19, []⟩
def sd_tightest : SD := ⟨"tightest", ["conditions", "unknowns"], n_tightest, f_tightest, top 20, []⟩
def sd_without : SD := ⟨"without", ["conditions", "k", "unknowns"], n_without, f_without, top 21, []⟩
def sd_chain : SD := ⟨"chain", ["conditions", "unknowns"], n_chain, f_chain, top 22, []⟩
def sd_broken : SD := ⟨"broken", ["conditions", "unknowns"], n_broken, f_broken, top 23, []⟩
def sd_can_be_met : SD := ⟨"can_be_met", ["conditions", "unknowns"], n_can_be_met, f_can_be_met, top 24, []⟩
def sd_marked : SD := ⟨"marked", ["conditions"], n_marked, f_marked, top 25, []⟩
def sd_refutation : SD := ⟨"refutation", ["conditions", "unknowns"], n_refutation, f_refutation, top 26, []⟩
def sd_with_value : SD := ⟨"with_value", ["conditions", "values", "k"], n_with_value, f_with_value, top 27, []⟩
def sd_interval : SD := ⟨"interval", ["rows"], n_interval, f_interval, top 29, []⟩
def sd_nearest : SD := ⟨"nearest", ["conditions", "unknowns"], n_nearest, f_nearest, top 30, []⟩
def sd_greatest : SD := ⟨"greatest", ["conditions", "unknowns"], n_greatest, f_greatest, top 31, []⟩
def sd_dot : SD := ⟨"dot", ["first", "second"], n_dot, f_dot, top 33, []⟩
def sd_meets : SD := ⟨"meets", ["values", "conditions"], n_meets, f_meets, top 35, []⟩
def sd__law_deck : SD := ⟨"_law_deck", ["script", "cells", "each"], n__law_deck, f__law_deck, top 37, []⟩
def sd__law_take : SD := ⟨"_law_take", ["deck", "many"], n__law_take, f__law_take, top 38, []⟩
def sd__law_pick : SD := ⟨"_law_pick", ["deck", "items"], n__law_pick, f__law_pick, top 39, []⟩
def sd__law_gcd : SD := ⟨"_law_gcd", ["a", "b"], n__law_gcd, f__law_gcd, top 40, []⟩
def sd__law_ratio : SD := ⟨"_law_ratio", ["n", "d"], n__law_ratio, f__law_ratio, top 41, []⟩
def sd__law_plus : SD := ⟨"_law_plus", ["a", "b"], n__law_plus, f__law_plus, top 42, []⟩
def sd__law_times : SD := ⟨"_law_times", ["a", "b"], n__law_times, f__law_times, top 43, []⟩
def sd__law_negative : SD := ⟨"_law_negative", ["a"], n__law_negative, f__law_negative, top 44, []⟩
def sd__law_plain : SD := ⟨"_law_plain", ["value"], n__law_plain, f__law_plain, top 45, []⟩
def sd__law_same : SD := ⟨"_law_same", ["told", "due"], n__law_same, f__law_same, top 46, []⟩
def sd__law_nearer : SD := ⟨"_law_nearer", ["far", "i", "j", "way"], n__law_nearer, f__law_nearer, top 47, []⟩
def sd__law_close : SD := ⟨"_law_close", ["far"], n__law_close, f__law_close, top 48, []⟩
def sd__law_condition : SD := ⟨"_law_condition", ["many", "i", "j", "way", "factor", "kind"], n__law_condition, f__law_condition, top 49, []⟩
def sd__law_differences : SD := ⟨"_law_differences", ["deck", "many"], n__law_differences, f__law_differences, top 50, []⟩
def sd__law_values : SD := ⟨"_law_values", ["far", "many"], n__law_values, f__law_values, top 51, []⟩
def sd__law_refutes : SD := ⟨"_law_refutes", ["told", "conditions", "many"], n__law_refutes, f__law_refutes, top 52, []⟩
def sd_law : SD := ⟨"law", ["script"], n_law, f_law, top 53, []⟩
def sds : List SD := ([sd_ratio, sd_plus, sd_minus, sd_times, sd_over, sd_negative, sd_size, sd_sign, sd_less, sd_scaled, sd_added, sd_first_just, sd_by_equation, sd_by_pairs, sd_shape, sd_tightest, sd_without, sd_chain, sd_broken, sd_can_be_met, sd_marked, sd_refutation, sd_with_value, sd_interval, sd_nearest, sd_greatest, sd_dot, sd_meets, sd__law_deck, sd__law_take] : List SD) ++ ([sd__law_pick, sd__law_gcd, sd__law_ratio, sd__law_plus, sd__law_times, sd__law_negative, sd__law_plain, sd__law_same, sd__law_nearer, sd__law_close, sd__law_condition, sd__law_differences, sd__law_values, sd__law_refutes, sd_law] : List SD)
def gs : List (Str × List He.Dv) := [("ZERO", [.int 0, .int 1]), ("ONE", [.int 1, .int 1])]
theorem look : (sds.all fun d => d.look (gs.map (·.1)) (sds.map (·.x))) = true := by kernel_rfl
theorem bd_ratio : BindOk sd_ratio := .inr ⟨List.cons_ne_nil _ _, fun _ _ _ _ _ _ _ us its h1 h2 => match us, h1, its, h2 with | [_, _], _, [_], _ => ⟨_, rfl, rfl⟩⟩
theorem bd_plus : BindOk sd_plus := .inl ⟨rfl, fun _ _ _ _ _ _ us hl => match us, hl with | [_, _], _ => rfl⟩
theorem bd_minus : BindOk sd_minus := .inl ⟨rfl, fun _ _ _ _ _ _ us hl => match us, hl with | [_, _], _ => rfl⟩
theorem bd_times : BindOk sd_times := .inl ⟨rfl, fun _ _ _ _ _ _ us hl => match us, hl with | [_, _], _ => rfl⟩
theorem bd_over : BindOk sd_over := .inl ⟨rfl, fun _ _ _ _ _ _ us hl => match us, hl with | [_, _], _ => rfl⟩
theorem bd_negative : BindOk sd_negative := .inl ⟨rfl, fun _ _ _ _ _ _ us hl => match us, hl with | [_], _ => rfl⟩
theorem bd_size : BindOk sd_size := .inl ⟨rfl, fun _ _ _ _ _ _ us hl => match us, hl with | [_], _ => rfl⟩
theorem bd_sign : BindOk sd_sign := .inl ⟨rfl, fun _ _ _ _ _ _ us hl => match us, hl with | [_], _ => rfl⟩
theorem bd_less : BindOk sd_less := .inl ⟨rfl, fun _ _ _ _ _ _ us hl => match us, hl with | [_, _], _ => rfl⟩
theorem bd_scaled : BindOk sd_scaled := .inl ⟨rfl, fun _ _ _ _ _ _ us hl => match us, hl with | [_, _], _ => rfl⟩
theorem bd_added : BindOk sd_added := .inl ⟨rfl, fun _ _ _ _ _ _ us hl => match us, hl with | [_, _, _, _], _ => rfl⟩
theorem bd_first_just : BindOk sd_first_just := .inl ⟨rfl, fun _ _ _ _ _ _ us hl => match us, hl with | [_, _], _ => rfl⟩
theorem bd_by_equation : BindOk sd_by_equation := .inl ⟨rfl, fun _ _ _ _ _ _ us hl => match us, hl with | [_, _, _], _ => rfl⟩
theorem bd_by_pairs : BindOk sd_by_pairs := .inl ⟨rfl, fun _ _ _ _ _ _ us hl => match us, hl with | [_, _], _ => rfl⟩
theorem bd_shape : BindOk sd_shape := .inl ⟨rfl, fun _ _ _ _ _ _ us hl => match us, hl with | [_, _], _ => rfl⟩
theorem bd_tightest : BindOk sd_tightest := .inl ⟨rfl, fun _ _ _ _ _ _ us hl => match us, hl with | [_, _], _ => rfl⟩
theorem bd_without : BindOk sd_without := .inl ⟨rfl, fun _ _ _ _ _ _ us hl => match us, hl with | [_, _, _], _ => rfl⟩
theorem bd_chain : BindOk sd_chain := .inl ⟨rfl, fun _ _ _ _ _ _ us hl => match us, hl with | [_, _], _ => rfl⟩
theorem bd_broken : BindOk sd_broken := .inl ⟨rfl, fun _ _ _ _ _ _ us hl => match us, hl with | [_, _], _ => rfl⟩
theorem bd_can_be_met : BindOk sd_can_be_met := .inl ⟨rfl, fun _ _ _ _ _ _ us hl => match us, hl with | [_, _], _ => rfl⟩
theorem bd_marked : BindOk sd_marked := .inl ⟨rfl, fun _ _ _ _ _ _ us hl => match us, hl with | [_], _ => rfl⟩
theorem bd_refutation : BindOk sd_refutation := .inl ⟨rfl, fun _ _ _ _ _ _ us hl => match us, hl with | [_, _], _ => rfl⟩
theorem bd_with_value : BindOk sd_with_value := .inl ⟨rfl, fun _ _ _ _ _ _ us hl => match us, hl with | [_, _, _], _ => rfl⟩
theorem bd_interval : BindOk sd_interval := .inl ⟨rfl, fun _ _ _ _ _ _ us hl => match us, hl with | [_], _ => rfl⟩
theorem bd_nearest : BindOk sd_nearest := .inl ⟨rfl, fun _ _ _ _ _ _ us hl => match us, hl with | [_, _], _ => rfl⟩
theorem bd_greatest : BindOk sd_greatest := .inl ⟨rfl, fun _ _ _ _ _ _ us hl => match us, hl with | [_, _], _ => rfl⟩
theorem bd_dot : BindOk sd_dot := .inl ⟨rfl, fun _ _ _ _ _ _ us hl => match us, hl with | [_, _], _ => rfl⟩
theorem bd_meets : BindOk sd_meets := .inl ⟨rfl, fun _ _ _ _ _ _ us hl => match us, hl with | [_, _], _ => rfl⟩
theorem bd__law_deck : BindOk sd__law_deck := .inl ⟨rfl, fun _ _ _ _ _ _ us hl => match us, hl with | [_, _, _], _ => rfl⟩
theorem bd__law_take : BindOk sd__law_take := .inl ⟨rfl, fun _ _ _ _ _ _ us hl => match us, hl with | [_, _], _ => rfl⟩
theorem bd__law_pick : BindOk sd__law_pick := .inl ⟨rfl, fun _ _ _ _ _ _ us hl => match us, hl with | [_, _], _ => rfl⟩
theorem bd__law_gcd : BindOk sd__law_gcd := .inl ⟨rfl, fun _ _ _ _ _ _ us hl => match us, hl with | [_, _], _ => rfl⟩
theorem bd__law_ratio : BindOk sd__law_ratio := .inl ⟨rfl, fun _ _ _ _ _ _ us hl => match us, hl with | [_, _], _ => rfl⟩
theorem bd__law_plus : BindOk sd__law_plus := .inl ⟨rfl, fun _ _ _ _ _ _ us hl => match us, hl with | [_, _], _ => rfl⟩
theorem bd__law_times : BindOk sd__law_times := .inl ⟨rfl, fun _ _ _ _ _ _ us hl => match us, hl with | [_, _], _ => rfl⟩
theorem bd__law_negative : BindOk sd__law_negative := .inl ⟨rfl, fun _ _ _ _ _ _ us hl => match us, hl with | [_], _ => rfl⟩
theorem bd__law_plain : BindOk sd__law_plain := .inl ⟨rfl, fun _ _ _ _ _ _ us hl => match us, hl with | [_], _ => rfl⟩
theorem bd__law_same : BindOk sd__law_same := .inl ⟨rfl, fun _ _ _ _ _ _ us hl => match us, hl with | [_, _], _ => rfl⟩
theorem bd__law_nearer : BindOk sd__law_nearer := .inl ⟨rfl, fun _ _ _ _ _ _ us hl => match us, hl with | [_, _, _, _], _ => rfl⟩
theorem bd__law_close : BindOk sd__law_close := .inl ⟨rfl, fun _ _ _ _ _ _ us hl => match us, hl with | [_], _ => rfl⟩
theorem bd__law_condition : BindOk sd__law_condition := .inl ⟨rfl, fun _ _ _ _ _ _ us hl => match us, hl with | [_, _, _, _, _, _], _ => rfl⟩
theorem bd__law_differences : BindOk sd__law_differences := .inl ⟨rfl, fun _ _ _ _ _ _ us hl => match us, hl with | [_, _], _ => rfl⟩
theorem bd__law_values : BindOk sd__law_values := .inl ⟨rfl, fun _ _ _ _ _ _ us hl => match us, hl with | [_, _], _ => rfl⟩
theorem bd__law_refutes : BindOk sd__law_refutes := .inl ⟨rfl, fun _ _ _ _ _ _ us hl => match us, hl with | [_, _, _], _ => rfl⟩
theorem bd_law : BindOk sd_law := .inl ⟨rfl, fun _ _ _ _ _ _ us hl => match us, hl with | [_], _ => rfl⟩
theorem binds : ∀ d ∈ sds, BindOk d := by
  intro d hd
  simp only [sds, List.mem_append, List.mem_cons, List.not_mem_nil, or_false] at hd
  rcases hd with (rfl | rfl | rfl | rfl | rfl | rfl | rfl | rfl | rfl | rfl | rfl | rfl | rfl | rfl | rfl | rfl | rfl | rfl | rfl | rfl | rfl | rfl | rfl | rfl | rfl | rfl | rfl | rfl | rfl | rfl) | (rfl | rfl | rfl | rfl | rfl | rfl | rfl | rfl | rfl | rfl | rfl | rfl | rfl | rfl | rfl)
  · exact bd_ratio
  · exact bd_plus
  · exact bd_minus
  · exact bd_times
  · exact bd_over
  · exact bd_negative
  · exact bd_size
  · exact bd_sign
  · exact bd_less
  · exact bd_scaled
  · exact bd_added
  · exact bd_first_just
  · exact bd_by_equation
  · exact bd_by_pairs
  · exact bd_shape
  · exact bd_tightest
  · exact bd_without
  · exact bd_chain
  · exact bd_broken
  · exact bd_can_be_met
  · exact bd_marked
  · exact bd_refutation
  · exact bd_with_value
  · exact bd_interval
  · exact bd_nearest
  · exact bd_greatest
  · exact bd_dot
  · exact bd_meets
  · exact bd__law_deck
  · exact bd__law_take
  · exact bd__law_pick
  · exact bd__law_gcd
  · exact bd__law_ratio
  · exact bd__law_plus
  · exact bd__law_times
  · exact bd__law_negative
  · exact bd__law_plain
  · exact bd__law_same
  · exact bd__law_nearer
  · exact bd__law_close
  · exact bd__law_condition
  · exact bd__law_differences
  · exact bd__law_values
  · exact bd__law_refutes
  · exact bd_law
end K00
set_option Elab.async false
set_option linter.all false
set_option maxRecDepth 100000
set_option maxHeartbeats 0
/-! the run of the top (printed) -/
namespace K00
open SF PySem PySem.Spec PyProof.Rows L2
abbrev Rw : PySem.W.OpenRow := PySem.W.OpenLaw.row PySem.Challenge.rw_standfast_k00_whole_differences_by_short
def ob (s : PySem.W.SharedT) : He.AlD := obsXG 4 gs sds (HandSHeadRun.getT s)
theorem ob_eq (s : PySem.W.SharedT) : ob s = (hookX 4 gs sds).obs s.abs := obsXG_eq (HandSHeadRun.getT_eq s)
def loose : List Str := (["ZERO", "ONE", "ratio", "plus", "minus", "times", "over", "negative", "size", "sign", "less", "scaled", "added", "first_just", "by_equation", "by_pairs", "shape", "tightest", "without", "chain", "broken", "can_be_met", "marked", "refutation", "with_value", "interval", "nearest", "greatest", "dot", "meets"] : List Str) ++ (["_law_deck", "_law_take", "_law_pick", "_law_gcd", "_law_ratio", "_law_plus", "_law_times", "_law_negative", "_law_plain", "_law_same", "_law_nearer", "_law_close", "_law_condition", "_law_differences", "_law_values", "_law_refutes"] : List Str)
theorem run (w : World) : HandSHeadRun.RunEqI Rw (PySem.W.view Rw.prog [0, 53]) (hookX 4 gs sds) ob 20000 loose w := by
  unfold HandSHeadRun.RunEqI
  kernel_rfl
end K00
set_option Elab.async false
set_option linter.all false
set_option maxRecDepth 100000
set_option maxHeartbeats 1000000
/-! K00A: the evaluator by wishes; the ratios. -/
namespace K00
open SF PySem

/-- it comes to an end, and so -/
def Ok {α : Type} (r : R (α × Hh)) (Q : α → Hh → Prop) : Prop := ∃ a h, r = .ok (a, h) ∧ Q a h
theorem Ok.pure {α : Type} {a : α} {h : Hh} {Q : α → Hh → Prop} (q : Q a h) : Ok (.ok (a, h)) Q := ⟨a, h, rfl, q⟩
theorem Ok.bind {α β : Type} {r : R (α × Hh)} {f : α × Hh → R (β × Hh)} {Q : β → Hh → Prop} (k : Ok r fun a h => Ok (f (a, h)) Q) : Ok (r >>= f) Q := by
  obtain ⟨a, h, rfl, q⟩ := k
  exact q
theorem Ok.imp {α : Type} {r : R (α × Hh)} {Q Q' : α → Hh → Prop} (k : Ok r Q) (f : ∀ a h, Q a h → Q' a h) : Ok r Q' := by
  obtain ⟨a, h, e, q⟩ := k
  exact ⟨a, h, e, f a h q⟩
theorem Ok.seq {α β : Type} {r : R (α × Hh)} {f : α × Hh → R (β × Hh)} {P : α → Hh → Prop} {Q : β → Hh → Prop} (k : Ok r P) (g : ∀ a h, P a h → Ok (f (a, h)) Q) : Ok (r >>= f) Q := Ok.bind (k.imp g)
theorem Ok.of {α : Type} {r : R (α × Hh)} {a : α} {h : Hh} {Q : α → Hh → Prop} (e : r = .ok (a, h)) (q : Q a h) : Ok r Q := ⟨a, h, e, q⟩

/-- a call of a def -/
noncomputable abbrev C (n : Nat) := callN fns gvals n
theorem C_at {n i : Nat} {f : Fn} (e : fns[i]? = some f) (ds : List D) (h : Hh) : C (n + 1) i ds h = runFn (C n) gvals f ds h := by
  show callN fns gvals (n + 1) i ds h = _
  unfold callN
  rw [e]

/-! ### whiles of a for -/
theorem loop_ok {it : SF.It} {body : D → En → Hh → R (Fl × Hh)} {Q : Fl → Hh → Prop} (Inv : Nat → En → Hh → Prop) (N : Nat)
    (step : ∀ i e h, Inv i e h → i ≤ N → (i = N ∧ It.next h it i = some none ∧ Q (.nx e) h) ∨ (i < N ∧ ∃ d, It.next h it i = some (some d) ∧ Ok (body d e h) fun f h' => match f with
      | .nx e' => Inv (i + 1) e' h'
      | .ct e' => Inv (i + 1) e' h'
      | .bk e' => Q (.nx e') h'
      | .rt d => Q (.rt d) h')) : ∀ (n i : Nat) (e : En) (h : Hh), Inv i e h → i ≤ N → N < n + i → Ok (loop it body n i e h) Q := by
  intro n
  induction n with
  | zero => intro i e h _ h1 h2; omega
  | succ n ih =>
    intro i e h hi h1 h2
    unfold loop
    rcases step i e h hi h1 with ⟨_, e1, q⟩ | ⟨lt, d, e1, q⟩
    · rw [e1]
      exact Ok.pure q
    · rw [e1]
      refine q.seq fun f h' q => ?_
      cases f with
      | nx e' => exact ih (i + 1) e' h' q lt (by omega)
      | ct e' => exact ih (i + 1) e' h' q lt (by omega)
      | bk e' => exact Ok.pure q
      | rt d => exact Ok.pure q
theorem loopC_ok {it : SF.It} {turn : D → Hh → R (Option D × Hh)} {Q : List D → Hh → Prop} (Inv : Nat → List D → Hh → Prop) (N : Nat)
    (step : ∀ i acc h, Inv i acc h → i ≤ N → (i = N ∧ It.next h it i = some none ∧ Q acc h) ∨ (i < N ∧ ∃ d, It.next h it i = some (some d) ∧ Ok (turn d h) fun r h' => match r with
      | some y => acc.length < sizeLine ∧ Inv (i + 1) (acc ++ [y]) h'
      | none => Inv (i + 1) acc h')) : ∀ (n i : Nat) (acc : List D) (h : Hh), Inv i acc h → i ≤ N → N < n + i → Ok (loopC it turn n i acc h) Q := by
  intro n
  induction n with
  | zero => intro i acc h _ h1 h2; omega
  | succ n ih =>
    intro i acc h hi h1 h2
    unfold loopC
    rcases step i acc h hi h1 with ⟨_, e1, q⟩ | ⟨lt, d, e1, q⟩
    · rw [e1]
      exact Ok.pure q
    · rw [e1]
      refine q.seq fun f h' q => ?_
      cases f with
      | some y =>
        show Ok (if acc.length < sizeLine then _ else _) Q
        rw [if_pos q.1]
        exact ih (i + 1) _ h' q.2 lt (by omega)
      | none => exact ih (i + 1) acc h' q lt (by omega)

/-! ### steps, for simp -/
section
variable {α β : Type} {x y z : D} {xs : List D} {h : Hh} {i j : Int} {e : En}
theorem b_ok {a : α} {f : α → R β} : (R.ok a >>= f) = f a := rfl
theorem at_nat {α : Type} {l : List α} {k : Nat} (hk : k < l.length) : at_ l (k : Int) = some l[k] := by
  have e : L2.ixN l.length (k : Int) = some k := by
    unfold L2.ixN
    rw [if_pos (by omega), if_pos (by omega), Int.toNat_natCast]
  unfold at_ L2.atI
  rw [e]
  exact List.getElem?_eq_getElem hk
theorem ix_nat {k : Nat} (hk : k < xs.length) : ix2 (.tup xs) (.int (k : Int)) h = .ok (xs[k], h) := by
  show (match at_ xs (k : Int) with
    | some v => R.ok (v, h)
    | none => .stuck) = _
  rw [at_nat hk]
theorem ix0 : ix2 (.tup (x :: xs)) (.int 0) h = .ok (x, h) := ix_nat (k := 0) (by simp)
theorem ix1 : ix2 (.tup (x :: y :: xs)) (.int 1) h = .ok (y, h) := ix_nat (k := 1) (by simp)
theorem ix2' : ix2 (.tup (x :: y :: z :: xs)) (.int 2) h = .ok (z, h) := ix_nat (k := 2) (by simp)
theorem o_add' : op2 .add (.int i) (.int j) h = .ok (.int (i + j), h) := rfl
theorem o_sub' : op2 .sub (.int i) (.int j) h = .ok (.int (i - j), h) := rfl
theorem o_mul' (m : mulOk i j = true) : op2 .mul (.int i) (.int j) h = .ok (.int (i * j), h) := by
  show (if mulOk i j then _ else _) = _
  rw [if_pos m]
theorem o_fdiv' (m : divOk j = true) : op2 .fdiv (.int i) (.int j) h = .ok (.int (i.fdiv j), h) := by
  show (if divOk j then _ else _) = _
  rw [if_pos m]
theorem o_mod' (m : j ≠ 0) : op2 .mod (.int i) (.int j) h = .ok (.int (i.fmod j), h) := by
  show (if j = 0 then _ else _) = _
  rw [if_neg m]
theorem c_lt' : cmp2 .lt (.int i) (.int j) h = .ok (.bl (decide (i < j)), h) := rfl
theorem c_le' : cmp2 .le (.int i) (.int j) h = .ok (.bl (decide (i ≤ j)), h) := rfl
theorem c_gt' : cmp2 .gt (.int i) (.int j) h = .ok (.bl (decide (j < i)), h) := rfl
theorem c_ge' : cmp2 .ge (.int i) (.int j) h = .ok (.bl (decide (j ≤ i)), h) := rfl
theorem c_eq' : cmp2 .eq (.int i) (.int j) h = .ok (.bl (decide (i = j)), h) := rfl
theorem c_ne' : cmp2 .ne (.int i) (.int j) h = .ok (.bl (!decide (i = j)), h) := rfl
theorem v0 {d : D} : (some d :: e : En)[0]? = some (some d) := rfl
end

/-! ### ratios -/
/-- a ratio as the program has it -/
def rq (q : Rat) : D := .tup [.int q.num, .int (q.den : Int)]
/-- small enough for every operator -/
def Sm (k : Nat) (q : Rat) : Prop := q.num.natAbs < 2 ^ k ∧ q.den < 2 ^ k
theorem Sm.mono {j k : Nat} {q : Rat} (h : Sm j q) (le : j ≤ k) : Sm k q := ⟨Nat.lt_of_lt_of_le h.1 (Nat.pow_le_pow_right (by decide) le), Nat.lt_of_lt_of_le h.2 (Nat.pow_le_pow_right (by decide) le)⟩
theorem log_lt {n k : Nat} (h : n < 2 ^ k) (hk : 0 < k) : n.log2 < k := by
  by_cases z : n = 0
  · subst z; simpa using hk
  · exact (Nat.log2_lt z).mpr h
theorem mul_ok {i j : Int} {a b : Nat} (h1 : i.natAbs < 2 ^ a) (h2 : j.natAbs < 2 ^ b) (ha : 0 < a) (hb : 0 < b) (hs : a + b ≤ 1000000) : mulOk i j = true := by
  unfold mulOk
  rw [yes_iff]
  right
  have := log_lt h1 ha
  have := log_lt h2 hb
  omega
theorem div_ok {j : Int} {k : Nat} (h : j.natAbs < 2 ^ k) (h0 : j ≠ 0) (hk : k ≤ 9000) (hp : 0 < k) : divOk j = true := by
  unfold divOk
  have := log_lt h hp
  rw [yes_iff]
  exact ⟨h0, by omega⟩
theorem fdiv_nat (a : Int) (g : Nat) : a.fdiv (g : Int) = a / (g : Int) := Int.fdiv_eq_ediv_of_nonneg _ (Int.natCast_nonneg g)
theorem ratio_eq {n k : Nat} (a b : Int) (h : Hh) (h0 : b ≠ 0) (hs : b.natAbs < 2 ^ k) (hk : k ≤ 9000) (hp : 0 < k) : C (n + 1) 0 [.int a, .int b] h = .ok (rq (Rat.divInt a b), h) := by
  rw [C_at (f := f_ratio) rfl]
  have hg0 : Nat.gcd a.natAbs b.natAbs ≠ 0 := fun z => by
    have := Nat.eq_zero_of_gcd_eq_zero_right z
    omega
  have hgs : Nat.gcd a.natAbs b.natAbs < 2 ^ k := Nat.lt_of_le_of_lt (Nat.gcd_le_right _ (by omega)) hs
  have hd : divOk ((Nat.gcd a.natAbs b.natAbs : Nat) : Int) = true := div_ok (k := k) (by simpa using hgs) (by omega) hk hp
  have e1 : (Rat.divInt a b).num = (b.sign * a).fdiv (Nat.gcd a.natAbs b.natAbs : Nat) := by
    rw [Rat.num_divInt, fdiv_nat]
    congr 2
    exact Nat.gcd_comm _ _
  have e2 : ((Rat.divInt a b).den : Int) = (b.natAbs : Int).fdiv (Nat.gcd a.natAbs b.natAbs : Nat) := by
    rw [Rat.den_divInt, if_neg h0, fdiv_nat]
    have : b.gcd a = Nat.gcd a.natAbs b.natAbs := Nat.gcd_comm _ _
    rw [this]
    rfl
  by_cases c : b < 0
  · have e3 : b.sign * a = -a := by rw [Int.sign_eq_neg_one_of_neg c]; omega
    have e4 : (b.natAbs : Int) = -b := by omega
    simp [runFn, f_ratio, b_ratio, evSs, evS, evE, evT, evEs, evG, cmp2, R.bind, Bind.bind, c, bf2, op2, hd, rq, e1, e2, e3, e4]
  · have e3 : b.sign * a = a := by rw [Int.sign_eq_one_of_pos (by omega)]; omega
    have e4 : (b.natAbs : Int) = b := by omega
    simp [runFn, f_ratio, b_ratio, evSs, evS, evE, evT, evEs, evG, cmp2, R.bind, Bind.bind, c, bf2, op2, hd, rq, e1, e2, e3, e4]
theorem sq_lt {a b j k : Nat} (h1 : a < 2 ^ j) (h2 : b < 2 ^ k) : a * b < 2 ^ (j + k) := by
  rw [Nat.pow_add]
  exact Nat.mul_lt_mul'' h1 h2
theorem mul_sm {i j : Int} {a b : Nat} (h1 : i.natAbs < 2 ^ a) (h2 : j.natAbs < 2 ^ b) : (i * j).natAbs < 2 ^ (a + b) := by
  rw [Int.natAbs_mul]
  exact sq_lt h1 h2
theorem den0 (q : Rat) : (q.den : Int) ≠ 0 := by have := q.den_nz; omega
theorem Sm.den {k : Nat} {q : Rat} (h : Sm k q) : ((q.den : Int)).natAbs < 2 ^ k := h.2
theorem two_sm {k : Nat} {i j : Int} {a b : Nat} (hi : i.natAbs < 2 ^ a) (hj : j.natAbs < 2 ^ b) (ha : 0 < a) (hb : 0 < b) (hk : a + b ≤ 9000) : mulOk i j = true := mul_ok hi hj ha hb (by omega)
section
variable {n k : Nat} {a b : Rat} {h : Hh}
theorem plus_eq (ha : Sm k a) (hb : Sm k b) (hp : 0 < k) (hk : k ≤ 4500) : C (n + 2) 1 [rq a, rq b] h = .ok (rq (a + b), h) := by
  rw [C_at (f := f_plus) rfl]
  have m1 : mulOk a.num b.den = true := mul_ok ha.1 hb.den hp hp (by omega)
  have m2 : mulOk b.num a.den = true := mul_ok hb.1 ha.den hp hp (by omega)
  have m3 : mulOk a.den b.den = true := mul_ok ha.den hb.den hp hp (by omega)
  have r := ratio_eq (n := n) (a.num * b.den + b.num * a.den) (a.den * b.den) h (Int.mul_ne_zero (den0 a) (den0 b)) (mul_sm ha.den hb.den) (by omega) (by omega)
  have e : Rat.divInt (a.num * b.den + b.num * a.den) (a.den * b.den) = a + b := by
    rw [Rat.add_def', ← Int.natCast_mul, Rat.divInt_ofNat]
  rw [e] at r
  generalize C (n + 1) = call at r ⊢
  simp only [runFn, evSs, evS, evE, evT, evEs, evO, evG, evGs, b_ok, ix0, ix1, ix2', o_add', o_sub', c_lt', c_le', c_gt', c_ge', c_eq', c_ne', List.length_cons, List.length_nil, List.map_cons, List.map_nil, List.replicate, Nat.sub_self, Nat.add_sub_cancel, List.cons_append, List.nil_append, List.append_nil, List.getElem?_cons_zero, List.getElem?_cons_succ, List.set_cons_zero, List.set_cons_succ, if_true, if_false, ite_true, ite_false, reduceIte, Nat.reduceAdd, Nat.reduceSub, Nat.reduceLT, Nat.zero_add, Bool.true_and, Bool.and_true, f_plus, rq, b_plus, o_mul' m1, o_mul' m2, o_mul' m3, r]
theorem minus_eq (ha : Sm k a) (hb : Sm k b) (hp : 0 < k) (hk : k ≤ 4500) : C (n + 2) 2 [rq a, rq b] h = .ok (rq (a - b), h) := by
  rw [C_at (f := f_minus) rfl]
  have m1 : mulOk a.num b.den = true := mul_ok ha.1 hb.den hp hp (by omega)
  have m2 : mulOk b.num a.den = true := mul_ok hb.1 ha.den hp hp (by omega)
  have m3 : mulOk a.den b.den = true := mul_ok ha.den hb.den hp hp (by omega)
  have r := ratio_eq (n := n) (a.num * b.den - b.num * a.den) (a.den * b.den) h (Int.mul_ne_zero (den0 a) (den0 b)) (mul_sm ha.den hb.den) (by omega) (by omega)
  have e : Rat.divInt (a.num * b.den - b.num * a.den) (a.den * b.den) = a - b := by
    rw [Rat.sub_def', ← Int.natCast_mul, Rat.divInt_ofNat]
  rw [e] at r
  generalize C (n + 1) = call at r ⊢
  simp only [runFn, evSs, evS, evE, evT, evEs, evO, evG, evGs, b_ok, ix0, ix1, ix2', o_add', o_sub', c_lt', c_le', c_gt', c_ge', c_eq', c_ne', List.length_cons, List.length_nil, List.map_cons, List.map_nil, List.replicate, Nat.sub_self, Nat.add_sub_cancel, List.cons_append, List.nil_append, List.append_nil, List.getElem?_cons_zero, List.getElem?_cons_succ, List.set_cons_zero, List.set_cons_succ, if_true, if_false, ite_true, ite_false, reduceIte, Nat.reduceAdd, Nat.reduceSub, Nat.reduceLT, Nat.zero_add, Bool.true_and, Bool.and_true, f_minus, rq, b_minus, o_mul' m1, o_mul' m2, o_mul' m3, r]
theorem times_eq (ha : Sm k a) (hb : Sm k b) (hp : 0 < k) (hk : k ≤ 4500) : C (n + 2) 3 [rq a, rq b] h = .ok (rq (a * b), h) := by
  rw [C_at (f := f_times) rfl]
  have m1 : mulOk a.num b.num = true := mul_ok ha.1 hb.1 hp hp (by omega)
  have m3 : mulOk a.den b.den = true := mul_ok ha.den hb.den hp hp (by omega)
  have r := ratio_eq (n := n) (a.num * b.num) (a.den * b.den) h (Int.mul_ne_zero (den0 a) (den0 b)) (mul_sm ha.den hb.den) (by omega) (by omega)
  have e : Rat.divInt (a.num * b.num) (a.den * b.den) = a * b := by
    rw [Rat.mul_def', ← Int.natCast_mul, Rat.divInt_ofNat]
  rw [e] at r
  generalize C (n + 1) = call at r ⊢
  simp only [runFn, evSs, evS, evE, evT, evEs, evO, evG, evGs, b_ok, ix0, ix1, ix2', o_add', o_sub', c_lt', c_le', c_gt', c_ge', c_eq', c_ne', List.length_cons, List.length_nil, List.map_cons, List.map_nil, List.replicate, Nat.sub_self, Nat.add_sub_cancel, List.cons_append, List.nil_append, List.append_nil, List.getElem?_cons_zero, List.getElem?_cons_succ, List.set_cons_zero, List.set_cons_succ, if_true, if_false, ite_true, ite_false, reduceIte, Nat.reduceAdd, Nat.reduceSub, Nat.reduceLT, Nat.zero_add, Bool.true_and, Bool.and_true, f_times, rq, b_times, o_mul' m1, o_mul' m3, r]
theorem div_eq (hb : b ≠ 0) : Rat.divInt (a.num * b.den) (a.den * b.num) = a / b := by
  rw [Rat.div_def, Rat.inv_def]
  conv => rhs; rw [← Rat.num_divInt_den a]
  rw [Rat.divInt_mul_divInt]
theorem over_eq (ha : Sm k a) (hb : Sm k b) (h0 : b ≠ 0) (hp : 0 < k) (hk : k ≤ 4500) : C (n + 2) 4 [rq a, rq b] h = .ok (rq (a / b), h) := by
  rw [C_at (f := f_over) rfl]
  have n0 : b.num ≠ 0 := fun z => h0 (Rat.num_eq_zero.mp z)
  have m1 : mulOk a.num b.den = true := mul_ok ha.1 hb.den hp hp (by omega)
  have m3 : mulOk a.den b.num = true := mul_ok ha.den hb.1 hp hp (by omega)
  have r := ratio_eq (n := n) (a.num * b.den) (a.den * b.num) h (Int.mul_ne_zero (den0 a) n0) (mul_sm ha.den hb.1) (by omega) (by omega)
  rw [div_eq h0] at r
  generalize C (n + 1) = call at r ⊢
  simp only [runFn, evSs, evS, evE, evT, evEs, evO, evG, evGs, b_ok, ix0, ix1, ix2', o_add', o_sub', c_lt', c_le', c_gt', c_ge', c_eq', c_ne', List.length_cons, List.length_nil, List.map_cons, List.map_nil, List.replicate, Nat.sub_self, Nat.add_sub_cancel, List.cons_append, List.nil_append, List.append_nil, List.getElem?_cons_zero, List.getElem?_cons_succ, List.set_cons_zero, List.set_cons_succ, if_true, if_false, ite_true, ite_false, reduceIte, Nat.reduceAdd, Nat.reduceSub, Nat.reduceLT, Nat.zero_add, Bool.true_and, Bool.and_true, f_over, rq, b_over, o_mul' m1, o_mul' m3, r]
theorem negative_eq : C (n + 1) 5 [rq a] h = .ok (rq (-a), h) := by
  rw [C_at (f := f_negative) rfl]
  generalize C n = call
  simp only [runFn, evSs, evS, evE, evT, evEs, evO, evG, evGs, b_ok, ix0, ix1, ix2', o_add', o_sub', c_lt', c_le', c_gt', c_ge', c_eq', c_ne', List.length_cons, List.length_nil, List.map_cons, List.map_nil, List.replicate, Nat.sub_self, Nat.add_sub_cancel, List.cons_append, List.nil_append, List.append_nil, List.getElem?_cons_zero, List.getElem?_cons_succ, List.set_cons_zero, List.set_cons_succ, if_true, if_false, ite_true, ite_false, reduceIte, Nat.reduceAdd, Nat.reduceSub, Nat.reduceLT, Nat.zero_add, Bool.true_and, Bool.and_true, f_negative, rq, b_negative, Rat.neg_num, Rat.neg_den]
/-- the size of a ratio -/
def absR (a : Rat) : Rat := if a < 0 then -a else a
theorem num_neg {a : Rat} : a.num < 0 ↔ a < 0 := by
  rw [← Rat.not_le, ← Rat.num_nonneg]
  omega
theorem num_pos {a : Rat} : 0 < a.num ↔ 0 < a := by
  have := Rat.num_nonneg (q := -a)
  rw [Rat.neg_num] at this
  constructor
  · intro h
    rw [← Rat.not_le]
    intro h2
    have h3 : (0 : Rat) ≤ -a := by grind
    have := this.mpr h3
    omega
  · intro h
    have h2 : ¬ (0 : Rat) ≤ -a := by grind
    have := mt this.mp h2
    omega
theorem size_eq : C (n + 1) 6 [rq a] h = .ok (rq (absR a), h) := by
  rw [C_at (f := f_size) rfl]
  generalize C n = call
  unfold absR
  by_cases c : a < 0
  · have c' := num_neg.mpr c
    simp only [runFn, evSs, evS, evE, evT, evEs, evO, evG, evGs, b_ok, ix0, ix1, ix2', o_add', o_sub', c_lt', c_le', c_gt', c_ge', c_eq', c_ne', List.length_cons, List.length_nil, List.map_cons, List.map_nil, List.replicate, Nat.sub_self, Nat.add_sub_cancel, List.cons_append, List.nil_append, List.append_nil, List.getElem?_cons_zero, List.getElem?_cons_succ, List.set_cons_zero, List.set_cons_succ, if_true, if_false, ite_true, ite_false, reduceIte, Nat.reduceAdd, Nat.reduceSub, Nat.reduceLT, Nat.zero_add, Bool.true_and, Bool.and_true, f_size, rq, b_size, bf2, c, c', Rat.neg_num, Rat.neg_den]
  · have c' : ¬ a.num < 0 := fun z => c (num_neg.mp z)
    simp only [runFn, evSs, evS, evE, evT, evEs, evO, evG, evGs, b_ok, ix0, ix1, ix2', o_add', o_sub', c_lt', c_le', c_gt', c_ge', c_eq', c_ne', List.length_cons, List.length_nil, List.map_cons, List.map_nil, List.replicate, Nat.sub_self, Nat.add_sub_cancel, List.cons_append, List.nil_append, List.append_nil, List.getElem?_cons_zero, List.getElem?_cons_succ, List.set_cons_zero, List.set_cons_succ, if_true, if_false, ite_true, ite_false, reduceIte, Nat.reduceAdd, Nat.reduceSub, Nat.reduceLT, Nat.zero_add, Bool.true_and, Bool.and_true, f_size, rq, b_size, bf2, c, c']
/-- the sign of a ratio -/
def sgn (a : Rat) : Int := if a < 0 then -1 else if 0 < a then 1 else 0
theorem sign_eq : C (n + 1) 7 [rq a] h = .ok (.int (sgn a), h) := by
  rw [C_at (f := f_sign) rfl]
  generalize C n = call
  unfold sgn
  by_cases c : a < 0
  · have c' := num_neg.mpr c
    simp only [runFn, evSs, evS, evE, evT, evEs, evO, evG, evGs, b_ok, ix0, ix1, ix2', o_add', o_sub', c_lt', c_le', c_gt', c_ge', c_eq', c_ne', List.length_cons, List.length_nil, List.map_cons, List.map_nil, List.replicate, Nat.sub_self, Nat.add_sub_cancel, List.cons_append, List.nil_append, List.append_nil, List.getElem?_cons_zero, List.getElem?_cons_succ, List.set_cons_zero, List.set_cons_succ, if_true, if_false, ite_true, ite_false, reduceIte, Nat.reduceAdd, Nat.reduceSub, Nat.reduceLT, Nat.zero_add, Bool.true_and, Bool.and_true, f_sign, rq, b_sign, decide_true, c, c']
  · have c' : ¬ a.num < 0 := fun z => c (num_neg.mp z)
    by_cases d : 0 < a
    · have d' := num_pos.mpr d
      simp only [runFn, evSs, evS, evE, evT, evEs, evO, evG, evGs, b_ok, ix0, ix1, ix2', o_add', o_sub', c_lt', c_le', c_gt', c_ge', c_eq', c_ne', List.length_cons, List.length_nil, List.map_cons, List.map_nil, List.replicate, Nat.sub_self, Nat.add_sub_cancel, List.cons_append, List.nil_append, List.append_nil, List.getElem?_cons_zero, List.getElem?_cons_succ, List.set_cons_zero, List.set_cons_succ, if_true, if_false, ite_true, ite_false, reduceIte, Nat.reduceAdd, Nat.reduceSub, Nat.reduceLT, Nat.zero_add, Bool.true_and, Bool.and_true, f_sign, rq, b_sign, decide_true, decide_false, c, c', d, d', Bool.false_eq_true]
    · have d' : ¬ 0 < a.num := fun z => d (num_pos.mp z)
      simp only [runFn, evSs, evS, evE, evT, evEs, evO, evG, evGs, b_ok, ix0, ix1, ix2', o_add', o_sub', c_lt', c_le', c_gt', c_ge', c_eq', c_ne', List.length_cons, List.length_nil, List.map_cons, List.map_nil, List.replicate, Nat.sub_self, Nat.add_sub_cancel, List.cons_append, List.nil_append, List.append_nil, List.getElem?_cons_zero, List.getElem?_cons_succ, List.set_cons_zero, List.set_cons_succ, if_true, if_false, ite_true, ite_false, reduceIte, Nat.reduceAdd, Nat.reduceSub, Nat.reduceLT, Nat.zero_add, Bool.true_and, Bool.and_true, f_sign, rq, b_sign, decide_true, decide_false, c, c', d, d', Bool.false_eq_true]
theorem less_eq (ha : Sm k a) (hb : Sm k b) (hp : 0 < k) (hk : k ≤ 4500) : C (n + 1) 8 [rq a, rq b] h = .ok (.bl (decide (a < b)), h) := by
  rw [C_at (f := f_less) rfl]
  have m1 : mulOk a.num b.den = true := mul_ok ha.1 hb.den hp hp (by omega)
  have m2 : mulOk b.num a.den = true := mul_ok hb.1 ha.den hp hp (by omega)
  generalize C n = call
  have e : decide (a.num * b.den < b.num * a.den) = decide (a < b) := by rw [decide_eq_decide, Rat.lt_iff]
  simp only [runFn, evSs, evS, evE, evT, evEs, evO, evG, evGs, b_ok, ix0, ix1, ix2', o_add', o_sub', c_lt', c_le', c_gt', c_ge', c_eq', c_ne', List.length_cons, List.length_nil, List.map_cons, List.map_nil, List.replicate, Nat.sub_self, Nat.add_sub_cancel, List.cons_append, List.nil_append, List.append_nil, List.getElem?_cons_zero, List.getElem?_cons_succ, List.set_cons_zero, List.set_cons_succ, if_true, if_false, ite_true, ite_false, reduceIte, Nat.reduceAdd, Nat.reduceSub, Nat.reduceLT, Nat.zero_add, Bool.true_and, Bool.and_true, f_less, rq, b_less, o_mul' m1, o_mul' m2, e]
end
end K00
set_option Elab.async false
set_option linter.all false
set_option maxRecDepth 100000
set_option maxHeartbeats 1000000
/-! K00B: statements by wishes; the law's own ratios. -/
namespace K00
open SF PySem
section
variable {call : Nat → List D → Hh → R (D × Hh)} {gl : List D} {e : En} {h : Hh} {Q : Fl → Hh → Prop}
theorem ss_nil (q : Q (.nx e) h) : Ok (evSs call gl .nil e h) Q := Ok.pure q
theorem ss_cons {s : S} {ss : Ss} (k : Ok (evS call gl s e h) fun f h' => match f with
    | .nx e' => Ok (evSs call gl ss e' h') Q
    | .rt d => Q (.rt d) h'
    | .bk e' => Q (.bk e') h'
    | .ct e' => Q (.ct e') h') : Ok (evSs call gl (.cons s ss) e h) Q := by
  unfold evSs
  refine Ok.bind (k.imp fun f h' q => ?_)
  cases f with
  | nx e' => exact q
  | rt d => exact Ok.pure q
  | bk e' => exact Ok.pure q
  | ct e' => exact Ok.pure q
theorem s_asg {i : Nat} {a : E} (hi : i < e.length) (k : Ok (evE call gl a e h) fun d h' => Q (.nx (e.set i (some d))) h') : Ok (evS call gl (.asg (.var i) a) e h) Q := by
  unfold evS
  refine k.seq fun d h' q => ?_
  unfold evG
  dsimp only
  rw [if_pos hi]
  exact Ok.pure q
theorem s_expr {a : E} (k : Ok (evE call gl a e h) fun _ h' => Q (.nx e) h') : Ok (evS call gl (.expr a) e h) Q := by
  unfold evS
  exact k.seq fun d h' q => Ok.pure q
theorem s_ret {a : E} (k : Ok (evE call gl a e h) fun d h' => Q (.rt d) h') : Ok (evS call gl (.ret a) e h) Q := by
  unfold evS
  exact k.seq fun d h' q => Ok.pure q
theorem s_if {c : E} {a b : Ss} (k : Ok (evT call gl c e h) fun t h' => if t then Ok (evSs call gl a e h') Q else Ok (evSs call gl b e h') Q) : Ok (evS call gl (.ife c a b) e h) Q := by
  unfold evS
  refine k.seq fun t h' q => ?_
  cases t with
  | true => exact q
  | false => exact q
theorem s_for {t : T} {it : I} {b : Ss} (k : Ok (evI call gl it e h) fun J h1 => ∃ (Inv : Nat → En → Hh → Prop), Inv 0 e h1 ∧ ∀ i e2 h2, Inv i e2 h2 → i ≤ J.most h1 →
    (i = J.most h1 ∧ It.next h2 J i = some none ∧ Q (.nx e2) h2) ∨ (i < J.most h1 ∧ ∃ d, It.next h2 J i = some (some d) ∧ Ok (evG call gl t d e2 h2 >>= fun q => evSs call gl b q.1 q.2) fun f h' => match f with
      | .nx e' => Inv (i + 1) e' h'
      | .ct e' => Inv (i + 1) e' h'
      | .bk e' => Q (.nx e') h'
      | .rt d => Q (.rt d) h')) : Ok (evS call gl (.for_ t it b) e h) Q := by
  unfold evS
  refine k.seq fun J h1 ⟨Inv, h0, step⟩ => ?_
  exact loop_ok Inv (J.most h1) (fun i e2 h2 a b => step i e2 h2 a b) _ 0 e h1 h0 (Nat.zero_le _) (by dsimp only; omega)
/-- a def runs -/
theorem C_ok {n i : Nat} {f : Fn} {ds : List D} {P : D → Hh → Prop} (hf : fns[i]? = some f) (hl : ds.length = f.np) (k : ∀ call, call = C n → Ok (evSs call gvals f.body (ds.map some ++ List.replicate (f.nl - f.np) none) h) fun fl h' => match fl with
    | .nx _ => P .non h'
    | .rt d => P d h'
    | _ => False) : Ok (C (n + 1) i ds h) P := by
  rw [C_at hf]
  unfold runFn
  rw [if_pos hl]
  refine (k _ rfl).seq fun fl h' q => ?_
  cases fl with
  | nx e => exact Ok.pure q
  | rt d => exact Ok.pure q
  | bk e => exact q.elim
  | ct e => exact q.elim
theorem Ok.eq {α : Type} {r : R (α × Hh)} {a : α} {h : Hh} (k : Ok r fun b h' => b = a ∧ h' = h) : r = .ok (a, h) := by
  obtain ⟨b, h', e1, rfl, rfl⟩ := k
  exact e1
theorem small_ok {i : Int} (h1 : -(2 ^ 61) ≤ i) (h2 : i < 2 ^ 61) : small i = true := by
  unfold small
  rw [yes_iff]
  exact ⟨h1, h2⟩
theorem rng_ok {a b : E} {i j : Int} {P : SF.It → Hh → Prop} (ha : evE call gl a e h = .ok (.int i, h)) (hb : evE call gl b e h = .ok (.int j, h)) (h1 : -(2 ^ 61) ≤ i) (h2 : i < 2 ^ 61) (h3 : -(2 ^ 61) ≤ j) (h4 : j < 2 ^ 61)
    (q : P (.rng i 1 (j - i).toNat) h) : Ok (evI call gl (.rng a b) e h) P := by
  unfold evI
  rw [ha, b_ok, hb, b_ok]
  dsimp only
  rw [if_pos (by rw [small_ok h1 h2, small_ok h3 h4]; rfl)]
  exact Ok.pure q
theorem rng_next {lo : Int} {n i : Nat} (hi : i < n) : It.next h (.rng lo 1 n) i = some (some (.int (lo + i))) := by
  unfold It.next
  rw [if_pos hi, Int.mul_one]
theorem rng_end {lo : Int} {n : Nat} : It.next h (.rng lo 1 n) n = some none := by
  unfold It.next
  rw [if_neg (Nat.lt_irrefl n)]
end


/-! ### the law's own ratios -/
theorem gcd_step (x y : Nat) : Nat.gcd y (x % y) = Nat.gcd x y := by rw [Nat.gcd_comm y, ← Nat.gcd_rec y x, Nat.gcd_comm]
theorem lgcd_eq {n k : Nat} {a b : Int} {h : Hh} (hb : b.natAbs < 2 ^ k) (hk : k ≤ 9000) : C (n + 1) 31 [.int a, .int b] h = .ok (.int ((Nat.gcd a.natAbs b.natAbs : Nat) : Int), h) := by
  refine Ok.eq (C_ok (f := f__law_gcd) rfl rfl fun call _ => ?_)
  have ea : (if a < 0 then -a else a) = (a.natAbs : Int) := by omega
  have eb : (if b < 0 then -b else b) = (b.natAbs : Int) := by omega
  show Ok (evSs call gvals b__law_gcd [some (.int a), some (.int b), none, none, none] h) _
  unfold b__law_gcd
  (refine ss_cons (s_asg (by simp) (Ok.of (by ((simp only [runFn, evSs, evS, evE, evT, evEs, evO, evG, evGs, b_ok, ix0, ix1, ix2', o_add', o_sub', c_lt', c_le', c_gt', c_ge', c_eq', c_ne', List.length_cons, List.length_nil, List.map_cons, List.map_nil, List.replicate, Nat.sub_self, Nat.add_sub_cancel, List.cons_append, List.nil_append, List.append_nil, List.getElem?_cons_zero, List.getElem?_cons_succ, List.set_cons_zero, List.set_cons_succ, if_true, if_false, ite_true, ite_false, reduceIte, Nat.reduceAdd, Nat.reduceSub, Nat.reduceLT, Nat.zero_add, Bool.true_and, Bool.and_true, bf2, ea]) <;> rfl)) ?_)); dsimp only [List.set_cons_zero, List.set_cons_succ])
  (refine ss_cons (s_asg (by simp) (Ok.of (by ((simp only [runFn, evSs, evS, evE, evT, evEs, evO, evG, evGs, b_ok, ix0, ix1, ix2', o_add', o_sub', c_lt', c_le', c_gt', c_ge', c_eq', c_ne', List.length_cons, List.length_nil, List.map_cons, List.map_nil, List.replicate, Nat.sub_self, Nat.add_sub_cancel, List.cons_append, List.nil_append, List.append_nil, List.getElem?_cons_zero, List.getElem?_cons_succ, List.set_cons_zero, List.set_cons_succ, if_true, if_false, ite_true, ite_false, reduceIte, Nat.reduceAdd, Nat.reduceSub, Nat.reduceLT, Nat.zero_add, Bool.true_and, Bool.and_true, bf2, eb]) <;> rfl)) ?_)); dsimp only [List.set_cons_zero, List.set_cons_succ])
  refine ss_cons (s_for (rng_ok (i := 0) (j := 40000) rfl rfl (by decide) (by decide) (by decide) (by decide) ?_))
  have hm : It.most h (.rng 0 1 ((40000 : Int) - 0).toNat) = 40000 := rfl
  refine ⟨fun i e2 h2 => h2 = h ∧ ∃ (x y : Nat) (t : Option D), e2 = [some (.int a), some (.int b), some (.int x), some (.int y), t] ∧ Nat.gcd x y = Nat.gcd a.natAbs b.natAbs ∧ (i = 0 ∧ y < 2 ^ k ∨ ∃ j, i = j + 1 ∧ y ≤ x ∧ x * y * 2 ^ j < 2 ^ (2 * k)), ⟨rfl, a.natAbs, b.natAbs, none, rfl, rfl, .inl ⟨rfl, hb⟩⟩, ?_⟩
  rintro i e2 h2 ⟨rfl, x, y, t, rfl, hg, hi⟩ le
  rw [hm] at le ⊢
  have fin : y = 0 → Ok (evSs call gvals (.cons (.ret (.var 2)) .nil) [some (.int a), some (.int b), some (.int x), some (.int y), t] h2) fun fl h' => match fl with
      | .nx _ => D.non = .int ((Nat.gcd a.natAbs b.natAbs : Nat) : Int) ∧ h' = h2
      | .rt d => d = .int ((Nat.gcd a.natAbs b.natAbs : Nat) : Int) ∧ h' = h2
      | _ => False := fun c => by
    subst c
    have hx : x = Nat.gcd a.natAbs b.natAbs := by rw [← hg, Nat.gcd_zero_right]
    (refine ss_cons (s_ret (Ok.of (by ((simp only [runFn, evSs, evS, evE, evT, evEs, evO, evG, evGs, b_ok, ix0, ix1, ix2', o_add', o_sub', c_lt', c_le', c_gt', c_ge', c_eq', c_ne', List.length_cons, List.length_nil, List.map_cons, List.map_nil, List.replicate, Nat.sub_self, Nat.add_sub_cancel, List.cons_append, List.nil_append, List.append_nil, List.getElem?_cons_zero, List.getElem?_cons_succ, List.set_cons_zero, List.set_cons_succ, if_true, if_false, ite_true, ite_false, reduceIte, Nat.reduceAdd, Nat.reduceSub, Nat.reduceLT, Nat.zero_add, Bool.true_and, Bool.and_true]) <;> rfl)) ?_)); dsimp only [List.set_cons_zero, List.set_cons_succ])
    exact ⟨by rw [hx], rfl⟩
  have down : ∀ j, y ≤ x → x * y * 2 ^ j < 2 ^ (2 * k) → y ≠ 0 → j < 2 * k := fun j h1 h2 h3 => by
    have h4 : 1 * 2 ^ j ≤ x * y * 2 ^ j := Nat.mul_le_mul_right _ (Nat.mul_pos (by omega) (by omega))
    rw [Nat.one_mul] at h4
    exact (Nat.pow_lt_pow_iff_right (by decide : 1 < 2)).mp (Nat.lt_of_le_of_lt h4 h2)
  rcases Nat.eq_or_lt_of_le le with e | lt
  · refine .inl ⟨e, by rw [e]; exact rng_end, fin ?_⟩
    by_cases c : y = 0
    · exact c
    · rcases hi with ⟨z, _⟩ | ⟨j, h1, h3, h4⟩
      · omega
      · have := down j h3 h4 c
        omega
  · refine .inr ⟨lt, .int (0 + i), rng_next lt, Ok.bind (Ok.of (a := [some (.int a), some (.int b), some (.int x), some (.int y), some (.int (0 + i))]) (by ((simp only [runFn, evSs, evS, evE, evT, evEs, evO, evG, evGs, b_ok, ix0, ix1, ix2', o_add', o_sub', c_lt', c_le', c_gt', c_ge', c_eq', c_ne', List.length_cons, List.length_nil, List.map_cons, List.map_nil, List.replicate, Nat.sub_self, Nat.add_sub_cancel, List.cons_append, List.nil_append, List.append_nil, List.getElem?_cons_zero, List.getElem?_cons_succ, List.set_cons_zero, List.set_cons_succ, if_true, if_false, ite_true, ite_false, reduceIte, Nat.reduceAdd, Nat.reduceSub, Nat.reduceLT, Nat.zero_add, Bool.true_and, Bool.and_true]) <;> rfl)) ?_)⟩
    refine ss_cons (s_if (Ok.of (a := decide ((y : Int) = 0)) (by ((simp only [runFn, evSs, evS, evE, evT, evEs, evO, evG, evGs, b_ok, ix0, ix1, ix2', o_add', o_sub', c_lt', c_le', c_gt', c_ge', c_eq', c_ne', List.length_cons, List.length_nil, List.map_cons, List.map_nil, List.replicate, Nat.sub_self, Nat.add_sub_cancel, List.cons_append, List.nil_append, List.append_nil, List.getElem?_cons_zero, List.getElem?_cons_succ, List.set_cons_zero, List.set_cons_succ, if_true, if_false, ite_true, ite_false, reduceIte, Nat.reduceAdd, Nat.reduceSub, Nat.reduceLT, Nat.zero_add, Bool.true_and, Bool.and_true]) <;> rfl)) ?_))
    by_cases c : y = 0
    · rw [if_pos (by simp [c])]
      refine ss_cons (Ok.of rfl ?_)
      exact fin c
    · rw [if_neg (by simp; omega)]
      refine ss_nil ?_
      have c' : (y : Int) ≠ 0 := by omega
      refine ss_cons (Ok.of (a := .nx [some (.int a), some (.int b), some (.int y), some (.int (x % y : Nat)), some (.int (0 + i))]) (h := h2) ?_ ?_)
      · have e1 : (x : Int).fmod y = ((x % y : Nat) : Int) := by
          rw [Int.fmod_eq_emod_of_nonneg _ (Int.natCast_nonneg y), Int.natCast_emod]
        rw [← e1]
        ((simp only [runFn, evSs, evS, evE, evT, evEs, evO, evG, evGs, b_ok, ix0, ix1, ix2', o_add', o_sub', c_lt', c_le', c_gt', c_ge', c_eq', c_ne', List.length_cons, List.length_nil, List.map_cons, List.map_nil, List.replicate, Nat.sub_self, Nat.add_sub_cancel, List.cons_append, List.nil_append, List.append_nil, List.getElem?_cons_zero, List.getElem?_cons_succ, List.set_cons_zero, List.set_cons_succ, if_true, if_false, ite_true, ite_false, reduceIte, Nat.reduceAdd, Nat.reduceSub, Nat.reduceLT, Nat.zero_add, Bool.true_and, Bool.and_true, bf2, o_mod' c', decide_true, List.length_cons]) <;> rfl)
      · refine ss_nil ⟨rfl, y, x % y, _, rfl, by rw [gcd_step, hg], .inr ⟨i, rfl, Nat.le_of_lt (Nat.mod_lt _ (by omega)), ?_⟩⟩
        have lt1 := Nat.mod_lt x (show 0 < y by omega)
        rcases hi with ⟨rfl, hy⟩ | ⟨j, rfl, h1, h3⟩
        · rw [Nat.pow_zero, Nat.mul_one, Nat.two_mul, Nat.pow_add]
          exact Nat.mul_lt_mul'' hy (Nat.lt_trans lt1 hy)
        · refine Nat.lt_of_le_of_lt ?_ h3
          have h5 : 2 * (x % y) ≤ x := by
            have := Nat.div_add_mod x y
            have h6 : 1 ≤ x / y := (Nat.le_div_iff_mul_le (by omega)).mpr (by omega)
            have h7 : y * 1 ≤ y * (x / y) := Nat.mul_le_mul_left y h6
            omega
          have h8 : y * (x % y) * 2 ≤ x * y := by
            have := Nat.mul_le_mul_left y h5
            grind
          calc y * (x % y) * 2 ^ (j + 1) = (y * (x % y) * 2) * 2 ^ j := by rw [Nat.pow_succ]; grind
            _ ≤ x * y * 2 ^ j := Nat.mul_le_mul_right _ h8
section
variable {n k : Nat} {a b : Rat} {h : Hh}
theorem lratio_eq (x y : Int) (h0 : y ≠ 0) (hs : y.natAbs < 2 ^ k) (hk : k ≤ 9000) (hp : 0 < k) : C (n + 2) 32 [.int x, .int y] h = .ok (rq (Rat.divInt x y), h) := by
  have g := lgcd_eq (n := n) (a := x) (b := y) (h := h) hs hk
  have hg0 : Nat.gcd x.natAbs y.natAbs ≠ 0 := fun z => by
    have := Nat.eq_zero_of_gcd_eq_zero_right z
    omega
  have hgs : Nat.gcd x.natAbs y.natAbs < 2 ^ k := Nat.lt_of_le_of_lt (Nat.gcd_le_right _ (by omega)) hs
  have hd : divOk ((Nat.gcd x.natAbs y.natAbs : Nat) : Int) = true := div_ok (k := k) (by simpa using hgs) (by omega) hk hp
  have hd' : divOk (-((Nat.gcd x.natAbs y.natAbs : Nat) : Int)) = true := div_ok (k := k) (by simpa using hgs) (by omega) hk hp
  have e1 : (Rat.divInt x y).num = (y.sign * x).fdiv (Nat.gcd x.natAbs y.natAbs : Nat) := by
    rw [Rat.num_divInt, fdiv_nat]
    congr 2
    exact Nat.gcd_comm _ _
  have e2 : ((Rat.divInt x y).den : Int) = (y.natAbs : Int).fdiv (Nat.gcd x.natAbs y.natAbs : Nat) := by
    rw [Rat.den_divInt, if_neg h0, fdiv_nat]
    have : y.gcd x = Nat.gcd x.natAbs y.natAbs := Nat.gcd_comm _ _
    rw [this]
    rfl
  refine Ok.eq (C_ok (f := f__law_ratio) rfl rfl fun call hc => ?_)
  rw [← hc] at g
  show Ok (evSs call gvals b__law_ratio [some (.int x), some (.int y), none] h) _
  unfold b__law_ratio
  (refine ss_cons (s_asg (by simp) (Ok.of (by ((simp only [runFn, evSs, evS, evE, evT, evEs, evO, evG, evGs, b_ok, ix0, ix1, ix2', o_add', o_sub', c_lt', c_le', c_gt', c_ge', c_eq', c_ne', List.length_cons, List.length_nil, List.map_cons, List.map_nil, List.replicate, Nat.sub_self, Nat.add_sub_cancel, List.cons_append, List.nil_append, List.append_nil, List.getElem?_cons_zero, List.getElem?_cons_succ, List.set_cons_zero, List.set_cons_succ, if_true, if_false, ite_true, ite_false, reduceIte, Nat.reduceAdd, Nat.reduceSub, Nat.reduceLT, Nat.zero_add, Bool.true_and, Bool.and_true, g]) <;> rfl)) ?_)); dsimp only [List.set_cons_zero, List.set_cons_succ])
  refine ss_cons (s_if (Ok.of (a := decide (y < 0)) (by ((simp only [runFn, evSs, evS, evE, evT, evEs, evO, evG, evGs, b_ok, ix0, ix1, ix2', o_add', o_sub', c_lt', c_le', c_gt', c_ge', c_eq', c_ne', List.length_cons, List.length_nil, List.map_cons, List.map_nil, List.replicate, Nat.sub_self, Nat.add_sub_cancel, List.cons_append, List.nil_append, List.append_nil, List.getElem?_cons_zero, List.getElem?_cons_succ, List.set_cons_zero, List.set_cons_succ, if_true, if_false, ite_true, ite_false, reduceIte, Nat.reduceAdd, Nat.reduceSub, Nat.reduceLT, Nat.zero_add, Bool.true_and, Bool.and_true]) <;> rfl)) ?_))
  by_cases c : y < 0
  · rw [if_pos (by simp [c])]
    (refine ss_cons (s_asg (by simp) (Ok.of (by ((simp only [runFn, evSs, evS, evE, evT, evEs, evO, evG, evGs, b_ok, ix0, ix1, ix2', o_add', o_sub', c_lt', c_le', c_gt', c_ge', c_eq', c_ne', List.length_cons, List.length_nil, List.map_cons, List.map_nil, List.replicate, Nat.sub_self, Nat.add_sub_cancel, List.cons_append, List.nil_append, List.append_nil, List.getElem?_cons_zero, List.getElem?_cons_succ, List.set_cons_zero, List.set_cons_succ, if_true, if_false, ite_true, ite_false, reduceIte, Nat.reduceAdd, Nat.reduceSub, Nat.reduceLT, Nat.zero_add, Bool.true_and, Bool.and_true]) <;> rfl)) ?_)); dsimp only [List.set_cons_zero, List.set_cons_succ])
    refine ss_nil ?_
    (refine ss_cons (s_ret (Ok.of (by ((simp only [runFn, evSs, evS, evE, evT, evEs, evO, evG, evGs, b_ok, ix0, ix1, ix2', o_add', o_sub', c_lt', c_le', c_gt', c_ge', c_eq', c_ne', List.length_cons, List.length_nil, List.map_cons, List.map_nil, List.replicate, Nat.sub_self, Nat.add_sub_cancel, List.cons_append, List.nil_append, List.append_nil, List.getElem?_cons_zero, List.getElem?_cons_succ, List.set_cons_zero, List.set_cons_succ, if_true, if_false, ite_true, ite_false, reduceIte, Nat.reduceAdd, Nat.reduceSub, Nat.reduceLT, Nat.zero_add, Bool.true_and, Bool.and_true, o_fdiv' hd']) <;> rfl)) ?_)); dsimp only [List.set_cons_zero, List.set_cons_succ])
    have e3 : y.sign * x = -x := by rw [Int.sign_eq_neg_one_of_neg c]; omega
    have e4 : (y.natAbs : Int) = -y := by omega
    refine ⟨?_, rfl⟩
    rw [rq, e1, e2, e3, e4, ← Int.neg_fdiv_neg x, ← Int.neg_fdiv_neg y, Int.neg_neg]
  · rw [if_neg (by simp [c])]
    refine ss_nil ?_
    (refine ss_cons (s_ret (Ok.of (by ((simp only [runFn, evSs, evS, evE, evT, evEs, evO, evG, evGs, b_ok, ix0, ix1, ix2', o_add', o_sub', c_lt', c_le', c_gt', c_ge', c_eq', c_ne', List.length_cons, List.length_nil, List.map_cons, List.map_nil, List.replicate, Nat.sub_self, Nat.add_sub_cancel, List.cons_append, List.nil_append, List.append_nil, List.getElem?_cons_zero, List.getElem?_cons_succ, List.set_cons_zero, List.set_cons_succ, if_true, if_false, ite_true, ite_false, reduceIte, Nat.reduceAdd, Nat.reduceSub, Nat.reduceLT, Nat.zero_add, Bool.true_and, Bool.and_true, o_fdiv' hd]) <;> rfl)) ?_)); dsimp only [List.set_cons_zero, List.set_cons_succ])
    have e3 : y.sign * x = x := by rw [Int.sign_eq_one_of_pos (by omega)]; omega
    have e4 : (y.natAbs : Int) = y := by omega
    exact ⟨by rw [rq, e1, e2, e3, e4], rfl⟩
theorem lplus_eq (ha : Sm k a) (hb : Sm k b) (hp : 0 < k) (hk : k ≤ 4500) : C (n + 3) 33 [rq a, rq b] h = .ok (rq (a + b), h) := by
  rw [C_at (f := f__law_plus) rfl]
  have m1 : mulOk a.num b.den = true := mul_ok ha.1 hb.den hp hp (by omega)
  have m2 : mulOk b.num a.den = true := mul_ok hb.1 ha.den hp hp (by omega)
  have m3 : mulOk a.den b.den = true := mul_ok ha.den hb.den hp hp (by omega)
  have r := lratio_eq (n := n) (h := h) (a.num * b.den + b.num * a.den) (a.den * b.den) (Int.mul_ne_zero (den0 a) (den0 b)) (mul_sm ha.den hb.den) (by omega) (by omega)
  have e : Rat.divInt (a.num * b.den + b.num * a.den) (a.den * b.den) = a + b := by
    rw [Rat.add_def', ← Int.natCast_mul, Rat.divInt_ofNat]
  rw [e] at r
  generalize C (n + 2) = call at r ⊢
  simp only [runFn, evSs, evS, evE, evT, evEs, evO, evG, evGs, b_ok, ix0, ix1, ix2', o_add', o_sub', c_lt', c_le', c_gt', c_ge', c_eq', c_ne', List.length_cons, List.length_nil, List.map_cons, List.map_nil, List.replicate, Nat.sub_self, Nat.add_sub_cancel, List.cons_append, List.nil_append, List.append_nil, List.getElem?_cons_zero, List.getElem?_cons_succ, List.set_cons_zero, List.set_cons_succ, if_true, if_false, ite_true, ite_false, reduceIte, Nat.reduceAdd, Nat.reduceSub, Nat.reduceLT, Nat.zero_add, Bool.true_and, Bool.and_true, f__law_plus, rq, b__law_plus, o_mul' m1, o_mul' m2, o_mul' m3, r]
theorem ltimes_eq (ha : Sm k a) (hb : Sm k b) (hp : 0 < k) (hk : k ≤ 4500) : C (n + 3) 34 [rq a, rq b] h = .ok (rq (a * b), h) := by
  rw [C_at (f := f__law_times) rfl]
  have m1 : mulOk a.num b.num = true := mul_ok ha.1 hb.1 hp hp (by omega)
  have m3 : mulOk a.den b.den = true := mul_ok ha.den hb.den hp hp (by omega)
  have r := lratio_eq (n := n) (h := h) (a.num * b.num) (a.den * b.den) (Int.mul_ne_zero (den0 a) (den0 b)) (mul_sm ha.den hb.den) (by omega) (by omega)
  have e : Rat.divInt (a.num * b.num) (a.den * b.den) = a * b := by
    rw [Rat.mul_def', ← Int.natCast_mul, Rat.divInt_ofNat]
  rw [e] at r
  generalize C (n + 2) = call at r ⊢
  simp only [runFn, evSs, evS, evE, evT, evEs, evO, evG, evGs, b_ok, ix0, ix1, ix2', o_add', o_sub', c_lt', c_le', c_gt', c_ge', c_eq', c_ne', List.length_cons, List.length_nil, List.map_cons, List.map_nil, List.replicate, Nat.sub_self, Nat.add_sub_cancel, List.cons_append, List.nil_append, List.append_nil, List.getElem?_cons_zero, List.getElem?_cons_succ, List.set_cons_zero, List.set_cons_succ, if_true, if_false, ite_true, ite_false, reduceIte, Nat.reduceAdd, Nat.reduceSub, Nat.reduceLT, Nat.zero_add, Bool.true_and, Bool.and_true, f__law_times, rq, b__law_times, o_mul' m1, o_mul' m3, r]
theorem lnegative_eq : C (n + 1) 35 [rq a] h = .ok (rq (-a), h) := by
  rw [C_at (f := f__law_negative) rfl]
  generalize C n = call
  simp only [runFn, evSs, evS, evE, evT, evEs, evO, evG, evGs, b_ok, ix0, ix1, ix2', o_add', o_sub', c_lt', c_le', c_gt', c_ge', c_eq', c_ne', List.length_cons, List.length_nil, List.map_cons, List.map_nil, List.replicate, Nat.sub_self, Nat.add_sub_cancel, List.cons_append, List.nil_append, List.append_nil, List.getElem?_cons_zero, List.getElem?_cons_succ, List.set_cons_zero, List.set_cons_succ, if_true, if_false, ite_true, ite_false, reduceIte, Nat.reduceAdd, Nat.reduceSub, Nat.reduceLT, Nat.zero_add, Bool.true_and, Bool.and_true, f__law_negative, rq, b__law_negative, Rat.neg_num, Rat.neg_den]
end
end K00
set_option Elab.async false
set_option linter.all false
set_option maxRecDepth 100000
set_option maxHeartbeats 1000000
/-! K00C: the heap; the deck. -/
namespace K00
open SF PySem
/-- all that was there stays, but for what stands in l -/
def Keep (l : List Nat) (h h' : Hh) : Prop := h.length ≤ h'.length ∧ ∀ i, i < h.length → i ∉ l → h'[i]? = h[i]?
section
variable {l l' : List Nat} {h h' h'' : Hh}
theorem Keep.refl : Keep l h h := ⟨Nat.le_refl _, fun _ _ _ => rfl⟩
theorem Keep.trans (a : Keep l h h') (b : Keep l h' h'') : Keep l h h'' := ⟨Nat.le_trans a.1 b.1, fun i hi hl => (b.2 i (Nat.lt_of_lt_of_le hi a.1) hl).trans (a.2 i hi hl)⟩
theorem Keep.mono (a : Keep l h h') (s : ∀ i ∈ l, i ∈ l' ∨ h.length ≤ i) : Keep l' h h' := ⟨a.1, fun i hi hl => a.2 i hi fun z => (s i z).elim hl fun q => absurd hi (Nat.not_lt.mpr q)⟩
theorem Keep.past (a : Keep l h h') (b : Keep l' h' h'') (s : ∀ i ∈ l', i ∈ l ∨ h.length ≤ i) : Keep l h h'' := ⟨Nat.le_trans a.1 b.1, fun i hi hl => (b.2 i (Nat.lt_of_lt_of_le hi a.1) fun z => (s i z).elim hl fun q => absurd hi (Nat.not_lt.mpr q)).trans (a.2 i hi hl)⟩
theorem Keep.app (t : List O) : Keep l h (h ++ t) := ⟨by rw [List.length_append]; omega, fun i hi _ => List.getElem?_append_left hi⟩
theorem Keep.set {a : Nat} {o : O} (ha : a ∈ l) : Keep l h (h.set a o) := ⟨by rw [List.length_set]; exact Nat.le_refl _, fun i _ hl => List.getElem?_set_ne fun z => hl (by rw [← z]; exact ha)⟩
theorem Keep.get (a : Keep l h h') {i : Nat} {o : O} (e : h[i]? = some o) (hl : i ∉ l) : h'[i]? = some o := (a.2 i (List.getElem?_eq_some_iff.mp e).1 hl).trans e
theorem lt_of {i : Nat} {o : O} (e : h[i]? = some o) : i < h.length := (List.getElem?_eq_some_iff.mp e).1
theorem get_new {o : O} : (h ++ [o])[h.length]? = some o := by rw [List.getElem?_append_right (Nat.le_refl _), Nat.sub_self]; rfl
theorem get_old {i : Nat} {o : O} {t : List O} (e : h[i]? = some o) : (h ++ t)[i]? = some o := by rw [List.getElem?_append_left (lt_of e)]; exact e
theorem get_set {i : Nat} {o o' : O} (e : h[i]? = some o) : (h.set i o')[i]? = some o' := List.getElem?_set_self (lt_of e)
end
section
variable {h : Hh} {a : Nat} {xs : List D} {x y : D} {i : Int} {b : Bool}
theorem b_int : bf2 .int [.int i] h = .ok (.int i, h) := rfl
theorem b_intb : bf2 .int [.bl b] h = .ok (.int (if b then 1 else 0), h) := rfl
theorem b_abs : bf2 .abs [.int i] h = .ok (.int (if i < 0 then -i else i), h) := rfl
theorem b_lenT : bf2 .len [.tup xs] h = .ok (.int xs.length, h) := rfl
theorem b_lenC : bf2 .len [.cl xs] h = .ok (.int xs.length, h) := rfl
theorem lstAt_of (e : h[a]? = some (.lst xs)) : lstAt h a = some xs := by unfold lstAt; rw [e]
theorem b_lenR (e : h[a]? = some (.lst xs)) : bf2 .len [.ref a] h = .ok (.int xs.length, h) := by
  show (match lstAt h a with
    | some xs => R.ok (D.int xs.length, h)
    | none => .stuck) = _
  rw [lstAt_of e]
theorem is_lst (e : h[a]? = some (.lst xs)) : isLst h (.ref a) = true := by unfold isLst; dsimp only; rw [e]
theorem m_append (e : h[a]? = some (.lst xs)) (hl : xs.length < sizeLine) : bm2 .append (.ref a) [y] h = .ok (.non, h.set a (.lst (xs ++ [y]))) := by
  unfold bm2
  dsimp only
  rw [e]
  dsimp only
  rw [if_pos hl]
theorem m_pop (e : h[a]? = some (.lst (xs ++ [y]))) : bm2 .pop (.ref a) [] h = .ok (y, h.set a (.lst xs)) := by
  unfold bm2
  dsimp only
  rw [e]
  dsimp only
  have : (xs ++ [y])[(xs ++ [y]).length - 1]? = some y := by simp
  rw [this]
  dsimp only
  rw [List.dropLast_concat]
theorem m_reverse (e : h[a]? = some (.lst xs)) : bm2 .reverse (.ref a) [] h = .ok (.non, h.set a (.lst xs.reverse)) := by
  unfold bm2
  dsimp only
  rw [e]
theorem ix_ref {k : Nat} (e : h[a]? = some (.lst xs)) (hk : k < xs.length) : ix2 (.ref a) (.int (k : Int)) h = .ok (xs[k], h) := by
  unfold ix2
  dsimp only
  rw [e]
  dsimp only
  rw [at_nat hk]
theorem ix_cl {k : Nat} (hk : k < xs.length) : ix2 (.cl xs) (.int (k : Int)) h = .ok (xs[k], h) := by
  unfold ix2
  dsimp only
  rw [at_nat hk]
end
theorem mul64 {i j : Int} (h : (-(2 ^ 64) < i ∧ i < 2 ^ 64) ∨ (-(2 ^ 64) < j ∧ j < 2 ^ 64)) : mulOk i j = true := by
  unfold mulOk
  rw [yes_iff]
  exact .inl h
/-- only numbers -/
def Ints (xs : List D) : Prop := ∀ x ∈ xs, ∃ i : Int, x = .int i

/-! ### _law_take, _law_pick -/
theorem take_ok {n : Nat} {h : Hh} {a : Nat} {xs : List D} {m : Int} (e : h[a]? = some (.lst xs)) (hi : Ints xs) (hm : 0 < m) : Ok (C (n + 1) 29 [.ref a, .int m] h) fun d h' => (∃ r : Int, d = .int r ∧ 0 ≤ r ∧ r < m) ∧ ∃ ys, h' = h.set a (.lst ys) ∧ Ints ys := by
  refine C_ok (f := f__law_take) rfl rfl fun call _ => ?_
  show Ok (evSs call gvals b__law_take [some (.ref a), some (.int m)] h) _
  unfold b__law_take
  refine ss_cons (s_ret ?_)
  rcases List.eq_nil_or_concat xs with rfl | ⟨ys, y, rfl⟩
  · refine Ok.of (a := .int 0) (h := h) ?_ ?_
    · have := b_lenR e
      simp only [runFn, evSs, evS, evE, evT, evEs, evO, evG, evGs, b_ok, ix0, ix1, ix2', o_add', o_sub', c_lt', c_le', c_gt', c_ge', c_eq', c_ne', List.length_cons, List.length_nil, List.map_cons, List.map_nil, List.replicate, Nat.sub_self, Nat.add_sub_cancel, List.cons_append, List.nil_append, List.append_nil, List.getElem?_cons_zero, List.getElem?_cons_succ, List.set_cons_zero, List.set_cons_succ, if_true, if_false, ite_true, ite_false, reduceIte, Nat.reduceAdd, Nat.reduceSub, Nat.reduceLT, Nat.zero_add, Bool.true_and, Bool.and_true, b_lenR e, decide_false, Int.ofNat_zero, Int.lt_irrefl, Bool.false_eq_true]
    · refine ⟨⟨0, rfl, Int.le_refl _, hm⟩, [], ?_, fun x hx => by cases hx⟩
      rw [← List.getElem?_eq_some_iff.mp e |>.2]
      simp
  · rw [List.concat_eq_append] at e hi
    obtain ⟨v, rfl⟩ := hi y (by simp)
    refine Ok.of (a := .int (v.fmod m)) (h := h.set a (.lst ys)) ?_ ?_
    · have c : (0 : Int) < (ys ++ [D.int v]).length := by simp
      simp only [runFn, evSs, evS, evE, evT, evEs, evO, evG, evGs, b_ok, ix0, ix1, ix2', o_add', o_sub', c_lt', c_le', c_gt', c_ge', c_eq', c_ne', List.length_cons, List.length_nil, List.map_cons, List.map_nil, List.replicate, Nat.sub_self, Nat.add_sub_cancel, List.cons_append, List.nil_append, List.append_nil, List.getElem?_cons_zero, List.getElem?_cons_succ, List.set_cons_zero, List.set_cons_succ, if_true, if_false, ite_true, ite_false, reduceIte, Nat.reduceAdd, Nat.reduceSub, Nat.reduceLT, Nat.zero_add, Bool.true_and, Bool.and_true, b_lenR e, c, decide_true, is_lst e, m_pop e, b_int, o_mod' (show m ≠ 0 by omega)]
    · refine ⟨⟨_, rfl, Int.fmod_nonneg_of_pos _ hm, Int.fmod_lt_of_pos _ hm⟩, ys, rfl, fun x hx => hi x (by simp [hx])⟩

/-! ### _law_deck -/
theorem fmod_rng {x m : Int} (hm : 0 < m) : 0 ≤ x.fmod m ∧ x.fmod m < m := ⟨Int.fmod_nonneg_of_pos _ hm, Int.fmod_lt_of_pos _ hm⟩
theorem pow_ok : powOk 10 18 = true := by
  unfold powOk
  rw [yes_iff]
  exact ⟨⟨by decide, by decide⟩, by decide⟩
theorem o_pow' {i j : Int} {h : Hh} (m : powOk i j = true) : op2 .pow (.int i) (.int j) h = .ok (.int (i ^ j.toNat), h) := by
  show (if powOk i j then _ else _) = _
  rw [if_pos m]
theorem div7 : divOk 7 = true := by
  unfold divOk
  rw [yes_iff]
  exact ⟨by decide, by decide⟩
theorem div1m : divOk 1000003 = true := by
  unfold divOk
  rw [yes_iff]
  exact ⟨by decide, by decide⟩
/-- one turn of the inner loop: the body -/
theorem deck_turn {call : Nat → List D → Hh → R (D × Hh)} {h : Hh} {a : Nat} {xs : List D} {s r k t : Int} {sc cl cn ce : D} (e : h[a]? = some (.lst xs)) (hl : xs.length < sizeLine) (hs : 0 ≤ s ∧ s < 2 ^ 62) :
    Ok (evSs call gvals (.cons (.asg (.var 4) (.bin .mod (.bf .int (.cons (.bin .add (.bin .add (.bin .mul (.var 4) (.lit (.int 69621))) (.var 8)) (.lit (.int 1))) .nil)) (.lit (.int 2147483629)))) <|
          .cons (.expr (.bm .append (.var 3) (.cons (.bin .mod (.bf .int (.cons (.ix (.lst (.cons (.bin .fdiv (.var 4) (.lit (.int 7))) (.cons (.var 7) .nil))) (.bf .int (.cons (.cmp .gt (.var 7) (.lit (.int 0))) .nil))) .nil)) (.lit (.int 1000003))) .nil))) <|
          .cons (.asg (.var 7) (.bin .fdiv (.var 7) (.lit (.int 1000003)))) <|
          .nil) [some sc, some cn, some ce, some (.ref a), some (.int s), some (.int k), some cl, some (.int r), some (.int t)] h)
      fun f h' => ∃ s' r' y : Int, f = .nx [some sc, some cn, some ce, some (.ref a), some (.int s'), some (.int k), some cl, some (.int r'), some (.int t)] ∧ (0 ≤ s' ∧ s' < 2 ^ 62) ∧ h'[a]? = some (.lst (xs ++ [.int y])) ∧ Keep [a] h h' := by
  have m1 : mulOk s 69621 = true := mul64 (.inl ⟨by omega, by omega⟩)
  (refine ss_cons (s_asg (by simp) (Ok.of (by ((simp only [runFn, evSs, evS, evE, evT, evEs, evO, evG, evGs, b_ok, ix0, ix1, ix2', o_add', o_sub', c_lt', c_le', c_gt', c_ge', c_eq', c_ne', List.length_cons, List.length_nil, List.map_cons, List.map_nil, List.replicate, Nat.sub_self, Nat.add_sub_cancel, List.cons_append, List.nil_append, List.append_nil, List.getElem?_cons_zero, List.getElem?_cons_succ, List.set_cons_zero, List.set_cons_succ, if_true, if_false, ite_true, ite_false, reduceIte, Nat.reduceAdd, Nat.reduceSub, Nat.reduceLT, Nat.zero_add, Bool.true_and, Bool.and_true, o_mul' m1, b_int, o_mod' (show (2147483629 : Int) ≠ 0 by decide)]) <;> rfl)) ?_)); dsimp only [List.set_cons_zero, List.set_cons_succ])
  generalize hs' : (s * 69621 + t + 1).fmod 2147483629 = s'
  have rs := fmod_rng (x := s * 69621 + t + 1) (m := 2147483629) (by decide)
  rw [hs'] at rs
  have e1 : (h ++ [O.lst [D.int (s'.fdiv 7), D.int r]])[a]? = some (.lst xs) := get_old e
  have e2 : (h ++ [O.lst [D.int (s'.fdiv 7), D.int r]])[h.length]? = some (.lst [D.int (s'.fdiv 7), D.int r]) := get_new
  refine ss_cons (s_expr (Ok.of (a := .non) (h := (h ++ [O.lst [D.int (s'.fdiv 7), D.int r]]).set a (.lst (xs ++ [.int ((if 0 < r then r else s'.fdiv 7).fmod 1000003)]))) ?_ ?_))
  · by_cases c : 0 < r
    · have i1 := ix_ref (k := 1) e2 (by simp)
      have i2 : ix2 (.ref h.length) (.int 1) (h ++ [O.lst [D.int (s'.fdiv 7), D.int r]]) = .ok (.int r, h ++ [O.lst [D.int (s'.fdiv 7), D.int r]]) := i1
      simp only [runFn, evSs, evS, evE, evT, evEs, evO, evG, evGs, b_ok, ix0, ix1, ix2', o_add', o_sub', c_lt', c_le', c_gt', c_ge', c_eq', c_ne', List.length_cons, List.length_nil, List.map_cons, List.map_nil, List.replicate, Nat.sub_self, Nat.add_sub_cancel, List.cons_append, List.nil_append, List.append_nil, List.getElem?_cons_zero, List.getElem?_cons_succ, List.set_cons_zero, List.set_cons_succ, if_true, if_false, ite_true, ite_false, reduceIte, Nat.reduceAdd, Nat.reduceSub, Nat.reduceLT, Nat.zero_add, Bool.true_and, Bool.and_true, is_lst e, o_fdiv' div7, c, decide_true, b_intb, b_int, i2, o_mod' (show (1000003 : Int) ≠ 0 by decide), m_append e1 hl]
    · have i1 := ix_ref (k := 0) e2 (by simp)
      have i2 : ix2 (.ref h.length) (.int 0) (h ++ [O.lst [D.int (s'.fdiv 7), D.int r]]) = .ok (.int (s'.fdiv 7), h ++ [O.lst [D.int (s'.fdiv 7), D.int r]]) := i1
      simp only [runFn, evSs, evS, evE, evT, evEs, evO, evG, evGs, b_ok, ix0, ix1, ix2', o_add', o_sub', c_lt', c_le', c_gt', c_ge', c_eq', c_ne', List.length_cons, List.length_nil, List.map_cons, List.map_nil, List.replicate, Nat.sub_self, Nat.add_sub_cancel, List.cons_append, List.nil_append, List.append_nil, List.getElem?_cons_zero, List.getElem?_cons_succ, List.set_cons_zero, List.set_cons_succ, if_true, if_false, ite_true, ite_false, reduceIte, Nat.reduceAdd, Nat.reduceSub, Nat.reduceLT, Nat.zero_add, Bool.true_and, Bool.and_true, is_lst e, o_fdiv' div7, c, decide_false, Bool.false_eq_true, b_intb, b_int, i2, o_mod' (show (1000003 : Int) ≠ 0 by decide), m_append e1 hl]
  · dsimp only [List.set_cons_zero, List.set_cons_succ]
    (refine ss_cons (s_asg (by simp) (Ok.of (by ((simp only [runFn, evSs, evS, evE, evT, evEs, evO, evG, evGs, b_ok, ix0, ix1, ix2', o_add', o_sub', c_lt', c_le', c_gt', c_ge', c_eq', c_ne', List.length_cons, List.length_nil, List.map_cons, List.map_nil, List.replicate, Nat.sub_self, Nat.add_sub_cancel, List.cons_append, List.nil_append, List.append_nil, List.getElem?_cons_zero, List.getElem?_cons_succ, List.set_cons_zero, List.set_cons_succ, if_true, if_false, ite_true, ite_false, reduceIte, Nat.reduceAdd, Nat.reduceSub, Nat.reduceLT, Nat.zero_add, Bool.true_and, Bool.and_true, o_fdiv' div1m]) <;> rfl)) ?_)); dsimp only [List.set_cons_zero, List.set_cons_succ])
    refine ss_nil ⟨s', _, _, rfl, ⟨rs.1, by omega⟩, get_set e1, (Keep.app _).trans (Keep.set (by simp))⟩
theorem Ints.snoc {xs : List D} {y : Int} (h : Ints xs) : Ints (xs ++ [.int y]) := fun x hx => by
  rcases List.mem_append.mp hx with q | q
  · exact h x q
  · exact ⟨y, by simpa using q⟩
theorem deck_ok {n : Nat} {h : Hh} {sc : List D} (hsc : Ints sc) (hlen : sc.length ≤ 63) : Ok (C (n + 1) 28 [.cl sc, .int 30, .int 4] h) fun d h' => d = .ref h.length ∧ (∃ ys, h'[h.length]? = some (.lst ys) ∧ Ints ys) ∧ Keep [] h h' := by
  refine C_ok (f := f__law_deck) rfl rfl fun call _ => ?_
  show Ok (evSs call gvals b__law_deck [some (.cl sc), some (.int 30), some (.int 4), none, none, none, none, none, none] h) _
  unfold b__law_deck
  (refine ss_cons (s_asg (by simp) (Ok.of (by ((simp only [runFn, evSs, evS, evE, evT, evEs, evO, evG, evGs, b_ok, ix0, ix1, ix2', o_add', o_sub', c_lt', c_le', c_gt', c_ge', c_eq', c_ne', List.length_cons, List.length_nil, List.map_cons, List.map_nil, List.replicate, Nat.sub_self, Nat.add_sub_cancel, List.cons_append, List.nil_append, List.append_nil, List.getElem?_cons_zero, List.getElem?_cons_succ, List.set_cons_zero, List.set_cons_succ, if_true, if_false, ite_true, ite_false, reduceIte, Nat.reduceAdd, Nat.reduceSub, Nat.reduceLT, Nat.zero_add, Bool.true_and, Bool.and_true]) <;> rfl)) ?_)); dsimp only [List.set_cons_zero, List.set_cons_succ])
  (refine ss_cons (s_asg (by simp) (Ok.of (by ((simp only [runFn, evSs, evS, evE, evT, evEs, evO, evG, evGs, b_ok, ix0, ix1, ix2', o_add', o_sub', c_lt', c_le', c_gt', c_ge', c_eq', c_ne', List.length_cons, List.length_nil, List.map_cons, List.map_nil, List.replicate, Nat.sub_self, Nat.add_sub_cancel, List.cons_append, List.nil_append, List.append_nil, List.getElem?_cons_zero, List.getElem?_cons_succ, List.set_cons_zero, List.set_cons_succ, if_true, if_false, ite_true, ite_false, reduceIte, Nat.reduceAdd, Nat.reduceSub, Nat.reduceLT, Nat.zero_add, Bool.true_and, Bool.and_true, b_lenC]) <;> rfl)) ?_)); dsimp only [List.set_cons_zero, List.set_cons_succ])
  have hk0 : Keep [] h (h ++ [O.lst []]) := Keep.app _
  generalize hh1 : h ++ [O.lst []] = h1 at hk0
  have e1 : h1[h.length]? = some (.lst []) := by rw [← hh1]; exact get_new
  clear hh1
  refine ss_cons (s_for (rng_ok (i := 0) (j := 30) rfl rfl (by decide) (by decide) (by decide) (by decide) ?_))
  have hm : It.most h1 (.rng 0 1 ((30 : Int) - 0).toNat) = 30 := rfl
  rw [hm]
  refine ⟨fun i e2 h2 => ∃ (s : Int) (xs : List D) (k cl r t : Option D), e2 = [some (.cl sc), some (.int 30), some (.int 4), some (.ref h.length), some (.int s), k, cl, r, t] ∧ (0 ≤ s ∧ s < 2 ^ 62) ∧ h2[h.length]? = some (.lst xs) ∧ xs.length = 4 * i ∧ Ints xs ∧ Keep [] h h2,
    ⟨_, [], none, none, none, none, rfl, ⟨by omega, by omega⟩, e1, rfl, fun x hx => (by cases hx), hk0⟩, ?_⟩
  rintro i e2 h2 ⟨s, xs, k, cl, r, t, rfl, hs, hx, lx, ix, kp⟩ le
  rcases Nat.eq_or_lt_of_le le with e | lt
  · refine .inl ⟨e, by rw [e]; exact rng_end, ?_⟩
    refine ss_cons (s_expr (Ok.of (by ((simp only [runFn, evSs, evS, evE, evT, evEs, evO, evG, evGs, b_ok, ix0, ix1, ix2', o_add', o_sub', c_lt', c_le', c_gt', c_ge', c_eq', c_ne', List.length_cons, List.length_nil, List.map_cons, List.map_nil, List.replicate, Nat.sub_self, Nat.add_sub_cancel, List.cons_append, List.nil_append, List.append_nil, List.getElem?_cons_zero, List.getElem?_cons_succ, List.set_cons_zero, List.set_cons_succ, if_true, if_false, ite_true, ite_false, reduceIte, Nat.reduceAdd, Nat.reduceSub, Nat.reduceLT, Nat.zero_add, Bool.true_and, Bool.and_true, is_lst hx, m_reverse hx]) <;> rfl)) ?_))
    dsimp only [List.set_cons_zero, List.set_cons_succ]
    (refine ss_cons (s_ret (Ok.of (by ((simp only [runFn, evSs, evS, evE, evT, evEs, evO, evG, evGs, b_ok, ix0, ix1, ix2', o_add', o_sub', c_lt', c_le', c_gt', c_ge', c_eq', c_ne', List.length_cons, List.length_nil, List.map_cons, List.map_nil, List.replicate, Nat.sub_self, Nat.add_sub_cancel, List.cons_append, List.nil_append, List.append_nil, List.getElem?_cons_zero, List.getElem?_cons_succ, List.set_cons_zero, List.set_cons_succ, if_true, if_false, ite_true, ite_false, reduceIte, Nat.reduceAdd, Nat.reduceSub, Nat.reduceLT, Nat.zero_add, Bool.true_and, Bool.and_true]) <;> rfl)) ?_)); dsimp only [List.set_cons_zero, List.set_cons_succ])
    exact ⟨rfl, ⟨_, get_set hx, fun x q => ix x (List.mem_reverse.mp q)⟩, kp.past (Keep.set (l := [h.length]) (by simp)) fun i hi => .inr (Nat.le_of_eq (List.mem_singleton.mp hi).symm)⟩
  · refine .inr ⟨lt, .int (0 + i), rng_next lt, Ok.bind (Ok.of (a := [some (.cl sc), some (.int 30), some (.int 4), some (.ref h.length), some (.int s), some (.int (0 + i)), cl, r, t]) (by ((simp only [runFn, evSs, evS, evE, evT, evEs, evO, evG, evGs, b_ok, ix0, ix1, ix2', o_add', o_sub', c_lt', c_le', c_gt', c_ge', c_eq', c_ne', List.length_cons, List.length_nil, List.map_cons, List.map_nil, List.replicate, Nat.sub_self, Nat.add_sub_cancel, List.cons_append, List.nil_append, List.append_nil, List.getElem?_cons_zero, List.getElem?_cons_succ, List.set_cons_zero, List.set_cons_succ, if_true, if_false, ite_true, ite_false, reduceIte, Nat.reduceAdd, Nat.reduceSub, Nat.reduceLT, Nat.zero_add, Bool.true_and, Bool.and_true]) <;> rfl)) ?_)⟩
    have hc : ∃ c : Int, evE call gvals (.ife (.cmp .lt (.var 5) (.bf .len (.cons (.var 0) .nil))) (.bf .int (.cons (.ix (.var 0) (.var 5)) .nil)) (.lit (.int 0))) [some (.cl sc), some (.int 30), some (.int 4), some (.ref h.length), some (.int s), some (.int (0 + i)), cl, r, t] h2 = .ok (.int c, h2) := by
      by_cases c : i < sc.length
      · obtain ⟨v, hv⟩ := hsc sc[i] (List.getElem_mem c)
        have i1 := ix_cl (h := h2) c
        rw [hv] at i1
        have c' : (0 : Int) + i < sc.length := by omega
        have e0 : (0 : Int) + i = i := by omega
        refine ⟨v, ?_⟩
        rw [e0] at c' ⊢
        simp only [runFn, evSs, evS, evE, evT, evEs, evO, evG, evGs, b_ok, ix0, ix1, ix2', o_add', o_sub', c_lt', c_le', c_gt', c_ge', c_eq', c_ne', List.length_cons, List.length_nil, List.map_cons, List.map_nil, List.replicate, Nat.sub_self, Nat.add_sub_cancel, List.cons_append, List.nil_append, List.append_nil, List.getElem?_cons_zero, List.getElem?_cons_succ, List.set_cons_zero, List.set_cons_succ, if_true, if_false, ite_true, ite_false, reduceIte, Nat.reduceAdd, Nat.reduceSub, Nat.reduceLT, Nat.zero_add, Bool.true_and, Bool.and_true, b_lenC, c', decide_true, i1, b_int]
      · have c' : ¬ (0 : Int) + i < sc.length := by omega
        refine ⟨0, ?_⟩
        simp only [runFn, evSs, evS, evE, evT, evEs, evO, evG, evGs, b_ok, ix0, ix1, ix2', o_add', o_sub', c_lt', c_le', c_gt', c_ge', c_eq', c_ne', List.length_cons, List.length_nil, List.map_cons, List.map_nil, List.replicate, Nat.sub_self, Nat.add_sub_cancel, List.cons_append, List.nil_append, List.append_nil, List.getElem?_cons_zero, List.getElem?_cons_succ, List.set_cons_zero, List.set_cons_succ, if_true, if_false, ite_true, ite_false, reduceIte, Nat.reduceAdd, Nat.reduceSub, Nat.reduceLT, Nat.zero_add, Bool.true_and, Bool.and_true, b_lenC, c', decide_false, Bool.false_eq_true]
    obtain ⟨c, hc⟩ := hc
    refine ss_cons (s_asg (by simp) (Ok.of hc ?_))
    dsimp only [List.set_cons_zero, List.set_cons_succ]
    generalize hab : (if c < 0 then -c else c) = ab
    have m2 : ∀ b : Bool, mulOk ab (if b then 1 else 0) = true := fun b => mul64 (.inr (by cases b <;> exact ⟨by decide, by decide⟩))
    (refine ss_cons (s_asg (by simp) (Ok.of (by ((simp only [runFn, evSs, evS, evE, evT, evEs, evO, evG, evGs, b_ok, ix0, ix1, ix2', o_add', o_sub', c_lt', c_le', c_gt', c_ge', c_eq', c_ne', List.length_cons, List.length_nil, List.map_cons, List.map_nil, List.replicate, Nat.sub_self, Nat.add_sub_cancel, List.cons_append, List.nil_append, List.append_nil, List.getElem?_cons_zero, List.getElem?_cons_succ, List.set_cons_zero, List.set_cons_succ, if_true, if_false, ite_true, ite_false, reduceIte, Nat.reduceAdd, Nat.reduceSub, Nat.reduceLT, Nat.zero_add, Bool.true_and, Bool.and_true, b_abs, hab, b_intb, o_pow' pow_ok, o_mul' (m2 _)]) <;> rfl)) ?_)); dsimp only [List.set_cons_zero, List.set_cons_succ])
    have m3 : mulOk s 48271 = true := mul64 (.inl ⟨by omega, by omega⟩)
    have m4 : ∀ x, mulOk 3 x = true := fun x => mul64 (.inl ⟨by decide, by decide⟩)
    (refine ss_cons (s_asg (by simp) (Ok.of (by ((simp only [runFn, evSs, evS, evE, evT, evEs, evO, evG, evGs, b_ok, ix0, ix1, ix2', o_add', o_sub', c_lt', c_le', c_gt', c_ge', c_eq', c_ne', List.length_cons, List.length_nil, List.map_cons, List.map_nil, List.replicate, Nat.sub_self, Nat.add_sub_cancel, List.cons_append, List.nil_append, List.append_nil, List.getElem?_cons_zero, List.getElem?_cons_succ, List.set_cons_zero, List.set_cons_succ, if_true, if_false, ite_true, ite_false, reduceIte, Nat.reduceAdd, Nat.reduceSub, Nat.reduceLT, Nat.zero_add, Bool.true_and, Bool.and_true, b_abs, hab, b_intb, b_int, o_mul' m3, o_mul' (m4 _), o_mod' (show (2147483647 : Int) ≠ 0 by decide), o_mod' (show (2147483587 : Int) ≠ 0 by decide)]) <;> rfl)) ?_)); dsimp only [List.set_cons_zero, List.set_cons_succ])
    generalize hs1 : (s * 48271 + 3 * ab.fmod 2147483587 + (if decide (c < 0) = true then 1 else 0) + (0 + (i : Int))).fmod 2147483647 = s1
    have rs := fmod_rng (x := s * 48271 + 3 * ab.fmod 2147483587 + (if decide (c < 0) = true then 1 else 0) + (0 + (i : Int))) (m := 2147483647) (by decide)
    rw [hs1] at rs
    generalize (ab * if decide (10 ^ (18 : Int).toNat ≤ ab) = true then 1 else 0) = rr
    refine ss_cons (s_for (rng_ok (i := 0) (j := 4) rfl rfl (by decide) (by decide) (by decide) (by decide) ?_))
    have hm : It.most h2 (.rng 0 1 ((4 : Int) - 0).toNat) = 4 := rfl
    rw [hm]
    refine ⟨fun j e3 h3 => ∃ (s r : Int) (ys : List D) (t : Option D), e3 = [some (.cl sc), some (.int 30), some (.int 4), some (.ref h.length), some (.int s), some (.int (0 + i)), some (.int c), some (.int r), t] ∧ (0 ≤ s ∧ s < 2 ^ 62) ∧ h3[h.length]? = some (.lst ys) ∧ ys.length = 4 * i + j ∧ Ints ys ∧ Keep [] h h3,
      ⟨s1, rr, xs, t, rfl, ⟨rs.1, by omega⟩, hx, lx, ix, kp⟩, ?_⟩
    rintro j e3 h3 ⟨s, r, ys, t, rfl, hs, hy, ly, iy, kp3⟩ lj
    rcases Nat.eq_or_lt_of_le lj with e | lt'
    · refine .inl ⟨e, by rw [e]; exact rng_end, ss_nil ⟨s, ys, _, _, _, t, rfl, hs, hy, by omega, iy, kp3⟩⟩
    · refine .inr ⟨lt', .int (0 + j), rng_next lt', Ok.bind (Ok.of (a := [some (.cl sc), some (.int 30), some (.int 4), some (.ref h.length), some (.int s), some (.int (0 + i)), some (.int c), some (.int r), some (.int (0 + j))]) (by ((simp only [runFn, evSs, evS, evE, evT, evEs, evO, evG, evGs, b_ok, ix0, ix1, ix2', o_add', o_sub', c_lt', c_le', c_gt', c_ge', c_eq', c_ne', List.length_cons, List.length_nil, List.map_cons, List.map_nil, List.replicate, Nat.sub_self, Nat.add_sub_cancel, List.cons_append, List.nil_append, List.append_nil, List.getElem?_cons_zero, List.getElem?_cons_succ, List.set_cons_zero, List.set_cons_succ, if_true, if_false, ite_true, ite_false, reduceIte, Nat.reduceAdd, Nat.reduceSub, Nat.reduceLT, Nat.zero_add, Bool.true_and, Bool.and_true]) <;> rfl)) ?_)⟩
      have hsz : ys.length < sizeLine := by
        have : (120 : Nat) < sizeLine := by decide
        omega
      refine (deck_turn (k := 0 + i) hy hsz hs).imp fun f h' q => ?_
      obtain ⟨s', r', y, rfl, q1, q2, q3⟩ := q
      exact ⟨s', r', ys ++ [.int y], _, rfl, q1, q2, by rw [List.length_append, List.length_singleton]; omega, iy.snoc, kp3.past q3 fun i hi => .inr (Nat.le_of_eq (List.mem_singleton.mp hi).symm)⟩
end K00
set_option Elab.async false
set_option linter.all false
set_option maxRecDepth 100000
set_option maxHeartbeats 1000000
/-! K00D: bounds of differences, closed (no program in sight). -/
namespace K00
/-- M a b = some v: x b - x a is at most v -/
abbrev Mx := Nat → Nat → Option Int
def omin (o : Option Int) (w : Int) : Option Int := match o with
  | none => some w
  | some v => if w < v then some w else some v
def relax (M : Mx) (i j : Nat) (w : Int) : Mx := fun a b => if a = i ∧ b = j then omin (M i j) w else M a b
def stp (j i k : Nat) (M : Mx) : Mx := match M i j, M j k with
  | some a, some b => relax M i k (a + b)
  | _, _ => M
def iter {α : Type} (f : Nat → α → α) : Nat → α → α
  | 0, a => a
  | n + 1, a => f n (iter f n a)
def stage (N j : Nat) (M : Mx) : Mx := iter (fun i => iter (fun k => stp j i k) N) N M
def close (N : Nat) (M : Mx) : Mx := iter (stage N) N M

theorem iter_inv {α : Type} {f : Nat → α → α} (P : Nat → α → Prop) {a : α} (h0 : P 0 a) : ∀ n, (∀ i, i < n → ∀ x, P i x → P (i + 1) (f i x)) → P n (iter f n a)
  | 0, _ => h0
  | n + 1, hs => hs n (Nat.lt_succ_self n) _ (iter_inv P h0 n fun i hi => hs i (Nat.lt_succ_of_lt hi))

/-! ### the solutions stay -/
def Sol (N : Nat) (M : Mx) (x : Nat → Rat) : Prop := ∀ a b, a < N → b < N → ∀ v, M a b = some v → x b - x a ≤ (v : Rat)
theorem omin_le {o : Option Int} {w : Int} : ∃ u, omin o w = some u ∧ u ≤ w ∧ (∀ v, o = some v → u ≤ v) ∧ (u = w ∨ o = some u) := by
  unfold omin
  cases o with
  | none => exact ⟨w, rfl, Int.le_refl _, fun v h => (by cases h), .inl rfl⟩
  | some v =>
    dsimp only
    by_cases c : w < v
    · rw [if_pos c]
      exact ⟨w, rfl, Int.le_refl _, fun u h => (by cases h; omega), .inl rfl⟩
    · rw [if_neg c]
      exact ⟨v, rfl, by omega, fun u h => (by cases h; omega), .inr rfl⟩
def Down (M M' : Mx) : Prop := ∀ a b v, M a b = some v → ∃ u, M' a b = some u ∧ u ≤ v
theorem Down.refl {M : Mx} : Down M M := fun _ _ v h => ⟨v, h, Int.le_refl _⟩
theorem Down.trans {M M' M'' : Mx} (a : Down M M') (b : Down M' M'') : Down M M'' := fun i j v h => by
  obtain ⟨u, h1, l1⟩ := a i j v h
  obtain ⟨w, h2, l2⟩ := b i j u h1
  exact ⟨w, h2, by omega⟩
theorem down_relax {M : Mx} {i j : Nat} {w : Int} : Down M (relax M i j w) := fun a b v h => by
  unfold relax
  by_cases c : a = i ∧ b = j
  · obtain ⟨rfl, rfl⟩ := c
    obtain ⟨u, e, _, l, _⟩ := omin_le (o := M a b) (w := w)
    exact ⟨u, by rw [if_pos ⟨rfl, rfl⟩, e], l v h⟩
  · rw [if_neg c]
    exact ⟨v, h, Int.le_refl _⟩
theorem down_stp {M : Mx} {j i k : Nat} : Down M (stp j i k M) := by
  unfold stp
  split
  · exact down_relax
  · exact .refl
theorem down_stage {N j : Nat} {M : Mx} : Down M (stage N j M) :=
  iter_inv (fun _ X => Down M X) .refl N fun i _ X h => iter_inv (fun _ Y => Down M Y) h N fun k _ Y h' => h'.trans down_stp
theorem down_close {N : Nat} {M : Mx} : Down M (close N M) := iter_inv (fun _ X => Down M X) .refl N fun _ _ X h => h.trans down_stage
theorem sol_down {N : Nat} {M M' : Mx} {x : Nat → Rat} (d : Down M M') (s : Sol N M' x) : Sol N M x := fun a b ha hb v h => by
  obtain ⟨u, h1, l⟩ := d a b v h
  have := s a b ha hb u h1
  have l' : (u : Rat) ≤ (v : Rat) := Rat.intCast_le_intCast.mpr l
  grind
theorem sol_relax {N : Nat} {M : Mx} {x : Nat → Rat} {i j : Nat} {w : Int} (hw : x j - x i ≤ (w : Rat)) (s : Sol N M x) : Sol N (relax M i j w) x := fun a b ha hb v h => by
  unfold relax at h
  by_cases c : a = i ∧ b = j
  · obtain ⟨rfl, rfl⟩ := c
    rw [if_pos ⟨rfl, rfl⟩] at h
    obtain ⟨u, e, _, _, r⟩ := omin_le (o := M a b) (w := w)
    rw [e] at h
    cases h
    rcases r with r | r
    · rw [r]; exact hw
    · exact s a b ha hb _ r
  · rw [if_neg c] at h
    exact s a b ha hb v h
theorem sol_stp {N : Nat} {M : Mx} {x : Nat → Rat} {j i k : Nat} (hj : j < N) (hi : i < N) (hk : k < N) (s : Sol N M x) : Sol N (stp j i k M) x := by
  unfold stp
  split
  · rename_i a b e1 e2
    refine sol_relax ?_ s
    have := s i j hi hj a e1
    have := s j k hj hk b e2
    rw [Rat.intCast_add]
    grind
  · exact s
theorem sol_close {N : Nat} {M : Mx} {x : Nat → Rat} (s : Sol N M x) : Sol N (close N M) x :=
  iter_inv (fun _ X => Sol N X x) s N fun j hj X h => iter_inv (fun _ Y => Sol N Y x) h N fun i hi Y h' => iter_inv (fun _ Z => Sol N Z x) h' N fun k hk Z h'' => sol_stp hj hi hk h''
theorem sol_iff {N : Nat} {M : Mx} {x : Nat → Rat} : Sol N (close N M) x ↔ Sol N M x := ⟨sol_down down_close, sol_close⟩

/-! ### no negative diagonal: closed -/
def Dg (N : Nat) (M : Mx) : Prop := ∀ i, i < N → ∀ v, M i i = some v → 0 ≤ v
theorem Dg.down {N : Nat} {M M' : Mx} (d : Down M M') (g : Dg N M') : Dg N M := fun i hi v h => by
  obtain ⟨u, h1, l⟩ := d i i v h
  have := g i hi u h1
  omega
/-- what a stage makes -/
def comb (M : Mx) (j a b : Nat) : Option Int := match M a j, M j b with
  | some u, some v => omin (M a b) (u + v)
  | _, _ => M a b
theorem stage_eq {N j : Nat} {M : Mx} (hj : j < N) (hd : ∀ v, M j j = some v → 0 ≤ v) : ∀ a b, stage N j M a b = if a < N ∧ b < N then comb M j a b else M a b := by
  have colj : ∀ a, comb M j a j = M a j := fun a => by
    unfold comb
    cases h1 : M a j with
    | none => rfl
    | some u =>
      cases h2 : M j j with
      | none => rfl
      | some v =>
        have := hd v h2
        unfold omin
        dsimp only
        rw [if_neg (by omega)]
  have rowj : ∀ b, comb M j j b = M j b := fun b => by
    unfold comb
    cases h1 : M j j with
    | none => rfl
    | some u =>
      cases h2 : M j b with
      | none => rfl
      | some v =>
        have := hd u h1
        unfold omin
        dsimp only
        rw [if_neg (by omega)]
  have key : ∀ a b, stage N j M a b = if a < N ∧ b < N then comb M j a b else M a b := by
    refine iter_inv (fun n (X : Mx) => ∀ a b, X a b = if a < n ∧ b < N then comb M j a b else M a b) (fun a b => by rw [if_neg (by omega)]) N fun i hi X hX => ?_
    have q := iter_inv (f := fun k => stp j i k) (fun m (Y : Mx) => ∀ a b, Y a b = if (a < i ∧ b < N) ∨ (a = i ∧ b < m) then comb M j a b else M a b) (a := X) (fun a b => by
      rw [hX a b]
      by_cases c : a < i ∧ b < N
      · rw [if_pos c, if_pos (.inl c)]
      · rw [if_neg c, if_neg (by omega)]) N fun k hk Y hY => ?_
    · intro a b
      rw [q a b]
      by_cases c : a < i + 1 ∧ b < N
      · rw [if_pos c, if_pos (by omega)]
      · rw [if_neg c, if_neg (by omega)]
    · have y1 : Y i j = M i j := by
        rw [hY]
        split
        · exact colj i
        · rfl
      have y2 : Y j k = M j k := by
        rw [hY]
        split
        · exact rowj k
        · rfl
      have y3 : Y i k = M i k := by
        rw [hY, if_neg (by omega)]
      intro a b
      have hs : stp j i k Y a b = if a = i ∧ b = k then comb M j i k else Y a b := by
        unfold stp comb
        rw [y1, y2]
        cases h1 : M i j with
        | none =>
          dsimp only
          by_cases c : a = i ∧ b = k
          · rw [if_pos c, c.1, c.2, y3]
          · rw [if_neg c]
        | some u =>
          cases h2 : M j k with
          | none =>
            dsimp only
            by_cases c : a = i ∧ b = k
            · rw [if_pos c, c.1, c.2, y3]
            · rw [if_neg c]
          | some v =>
            dsimp only
            unfold relax
            rw [y3]
      rw [hs, hY a b]
      by_cases c : a = i ∧ b = k
      · obtain ⟨rfl, rfl⟩ := c
        rw [if_pos ⟨rfl, rfl⟩, if_pos (by omega)]
      · rw [if_neg c]
        by_cases c2 : (a < i ∧ b < N) ∨ (a = i ∧ b < k)
        · rw [if_pos c2, if_pos (by omega)]
        · rw [if_neg c2, if_neg (by omega)]
  exact key
def Tri (N : Nat) (M : Mx) (j : Nat) : Prop := ∀ i k, i < N → k < N → ∀ a b, M i j = some a → M j k = some b → ∃ c, M i k = some c ∧ c ≤ a + b
theorem omin_some {o : Option Int} {w : Int} : ∃ c, omin o w = some c ∧ c ≤ w := let ⟨u, e, l, _⟩ := omin_le (o := o) (w := w); ⟨u, e, l⟩
theorem comb_down {M : Mx} {j a b : Nat} {v : Int} (h : M a b = some v) : ∃ c, comb M j a b = some c ∧ c ≤ v := by
  unfold comb
  split
  · obtain ⟨u, e, _, l, _⟩ := omin_le (o := M a b)
    exact ⟨u, e, l v h⟩
  · exact ⟨v, h, Int.le_refl _⟩
theorem comb_le {M : Mx} {j a b : Nat} {u v : Int} (h1 : M a j = some u) (h2 : M j b = some v) : ∃ c, comb M j a b = some c ∧ c ≤ u + v := by
  unfold comb
  rw [h1, h2]
  exact omin_some
theorem comb_of {M : Mx} {j a b : Nat} {c : Int} (h : comb M j a b = some c) : M a b = some c ∨ ∃ u v, M a j = some u ∧ M j b = some v ∧ c = u + v := by
  unfold comb at h
  split at h
  · rename_i u v e1 e2
    obtain ⟨w, e, _, _, r⟩ := omin_le (o := M a b) (w := u + v)
    rw [e] at h
    cases h
    rcases r with r | r
    · exact .inr ⟨u, v, e1, e2, r⟩
    · exact .inl r
  · exact .inl h
/-- the stage's own node -/
theorem tri_stage {N j : Nat} {M : Mx} (hj : j < N) (hd : ∀ v, M j j = some v → 0 ≤ v) : Tri N (stage N j M) j := fun i k hi hk a b h1 h2 => by
  rw [stage_eq hj hd, if_pos ⟨hi, hj⟩] at h1
  rw [stage_eq hj hd, if_pos ⟨hj, hk⟩] at h2
  rw [stage_eq hj hd, if_pos ⟨hi, hk⟩]
  have q1 : ∃ u, M i j = some u ∧ u ≤ a := by
    rcases comb_of h1 with q | ⟨u, v, q1, q2, q3⟩
    · exact ⟨a, q, Int.le_refl _⟩
    · have := hd v q2
      exact ⟨u, q1, by omega⟩
  have q2 : ∃ u, M j k = some u ∧ u ≤ b := by
    rcases comb_of h2 with q | ⟨u, v, q1, q2, q3⟩
    · exact ⟨b, q, Int.le_refl _⟩
    · have := hd u q1
      exact ⟨v, q2, by omega⟩
  obtain ⟨u, e1, l1⟩ := q1
  obtain ⟨v, e2, l2⟩ := q2
  obtain ⟨c, e3, l3⟩ := comb_le e1 e2
  exact ⟨c, e3, by omega⟩
/-- a node dealt with before -/
theorem tri_keep {N j p : Nat} {M : Mx} (hj : j < N) (hp : p < N) (hd : ∀ v, M j j = some v → 0 ≤ v) (t : Tri N M p) : Tri N (stage N j M) p := fun i k hi hk a b h1 h2 => by
  rw [stage_eq hj hd, if_pos ⟨hi, hp⟩] at h1
  rw [stage_eq hj hd, if_pos ⟨hp, hk⟩] at h2
  rw [stage_eq hj hd, if_pos ⟨hi, hk⟩]
  rcases comb_of h1 with q1 | ⟨u, v, q1, q2, q3⟩
  · rcases comb_of h2 with r1 | ⟨u', v', r1, r2, r3⟩
    · obtain ⟨c, e, l⟩ := t i k hi hk a b q1 r1
      obtain ⟨d, e', l'⟩ := comb_down (j := j) e
      exact ⟨d, e', by omega⟩
    · obtain ⟨c, e, l⟩ := t i j hi hj a u' q1 r1
      obtain ⟨d, e', l'⟩ := comb_le e r2
      exact ⟨d, e', by omega⟩
  · rcases comb_of h2 with r1 | ⟨u', v', r1, r2, r3⟩
    · obtain ⟨c, e, l⟩ := t j k hj hk v b q2 r1
      obtain ⟨d, e', l'⟩ := comb_le q1 e
      exact ⟨d, e', by omega⟩
    · obtain ⟨c, e, l⟩ := t j j hj hj v u' q2 r1
      have := hd c e
      obtain ⟨d, e', l'⟩ := comb_le q1 r2
      exact ⟨d, e', by omega⟩
theorem tri_close {N : Nat} {M : Mx} (g : Dg N (close N M)) : ∀ j, j < N → Tri N (close N M) j := by
  have mono : ∀ (n m : Nat), n ≤ m → ∀ X, Down (iter (stage N) n X) (iter (stage N) m X) := fun n m => by
    induction m with
    | zero =>
      intro h X
      have h0 : n = 0 := by omega
      subst h0
      exact .refl
    | succ m ih =>
      intro h X
      by_cases c : n = m + 1
      · subst c; exact .refl
      · exact (ih (by omega) X).trans down_stage
  have all : ∀ n, n ≤ N → ∀ j, j < n → Tri N (iter (stage N) n M) j := fun n => by
    induction n with
    | zero => intro _ j hj; omega
    | succ n ih =>
      intro hn j hj
      have gn : Dg N (iter (stage N) n M) := Dg.down (mono n N (by omega) M) g
      have gd := gn n (by omega)
      show Tri N (stage N n (iter (stage N) n M)) j
      by_cases c : j = n
      · subst c
        exact tri_stage (by omega) gd
      · exact tri_keep (by omega) (by omega) gd (ih (by omega) j (by omega))
  exact all N (Nat.le_refl _)

/-! ### a part of a solution goes on -/
/-- the bounds among the first nodes of a list are met -/
def SolOn (l : List Nat) (M : Mx) (x : Nat → Rat) : Prop := ∀ a ∈ l, ∀ b ∈ l, ∀ v, M a b = some v → x b - x a ≤ (v : Rat)
/-- between what is below and what is above -/
theorem between : ∀ lows highs : List Rat, (∀ p ∈ lows, ∀ q ∈ highs, p ≤ q) → ∃ t : Rat, (∀ p ∈ lows, p ≤ t) ∧ ∀ q ∈ highs, t ≤ q
  | [], [], _ => ⟨0, fun _ h => (by cases h), fun _ h => (by cases h)⟩
  | [], q :: qs, _ => by
    obtain ⟨t, _, h⟩ := between [] qs fun p hp => (by cases hp)
    by_cases c : t ≤ q
    · exact ⟨t, fun _ h => (by cases h), fun r hr => by
        rcases List.mem_cons.mp hr with rfl | hr
        · exact c
        · exact h r hr⟩
    · refine ⟨q, fun _ h => (by cases h), fun r hr => ?_⟩
      rcases List.mem_cons.mp hr with rfl | hr
      · exact Rat.le_refl
      · have := h r hr
        grind
  | p :: ps, highs, hh => by
    obtain ⟨t, h1, h2⟩ := between ps highs fun p' hp' => hh p' (List.mem_cons_of_mem _ hp')
    by_cases c : p ≤ t
    · exact ⟨t, fun r hr => by
        rcases List.mem_cons.mp hr with rfl | hr
        · exact c
        · exact h1 r hr, h2⟩
    · refine ⟨p, fun r hr => ?_, fun q hq => hh p List.mem_cons_self q hq⟩
      rcases List.mem_cons.mp hr with rfl | hr
      · exact Rat.le_refl
      · have := h1 r hr
        grind
theorem extend1 {N : Nat} {M : Mx} {l : List Nat} {x : Nat → Rat} {m : Nat} (hm : m < N) (hl : ∀ a ∈ l, a < N) (g : Dg N M) (t : Tri N M m) (s : SolOn l M x) : ∃ y : Nat → Rat, (∀ a ∈ l, y a = x a) ∧ SolOn (m :: l) M y := by
  by_cases c : m ∈ l
  · exact ⟨x, fun _ _ => rfl, fun a ha b hb => s a (by rcases List.mem_cons.mp ha with rfl | h <;> assumption) b (by rcases List.mem_cons.mp hb with rfl | h <;> assumption)⟩
  · obtain ⟨v, h1, h2⟩ := between (l.filterMap fun a => (M m a).map fun (v : Int) => x a - (v : Rat)) (l.filterMap fun b => (M b m).map fun (w : Int) => x b + (w : Rat)) fun p hp q hq => by
      obtain ⟨a, ha, ea⟩ := List.mem_filterMap.mp hp
      obtain ⟨b, hb, eb⟩ := List.mem_filterMap.mp hq
      obtain ⟨v, e1, z1⟩ := Option.map_eq_some_iff.mp ea
      obtain ⟨w, e2, z2⟩ := Option.map_eq_some_iff.mp eb
      subst z1 z2
      obtain ⟨d, e3, l3⟩ := t b a (hl b hb) (hl a ha) w v e2 e1
      have := s b hb a ha d e3
      have l3' : (d : Rat) ≤ ((w + v : Int) : Rat) := Rat.intCast_le_intCast.mpr l3
      rw [Rat.intCast_add] at l3'
      grind
    refine ⟨fun a => if a = m then v else x a, fun a ha => if_neg fun z => c (by rw [← z]; exact ha), fun a ha b hb w e => ?_⟩
    have no : ∀ a ∈ l, a ≠ m := fun a ha z => c (by rw [← z]; exact ha)
    dsimp only
    rcases List.mem_cons.mp ha with rfl | ha'
    · rcases List.mem_cons.mp hb with rfl | hb'
      · rw [if_pos rfl]
        have := Rat.intCast_nonneg.mpr (g _ hm w e)
        grind
      · rw [if_pos rfl, if_neg (no b hb')]
        have := h1 _ (List.mem_filterMap.mpr ⟨b, hb', by rw [e]; rfl⟩)
        grind
    · rcases List.mem_cons.mp hb with rfl | hb'
      · rw [if_pos rfl, if_neg (no a ha')]
        have := h2 _ (List.mem_filterMap.mpr ⟨a, ha', by rw [e]; rfl⟩)
        grind
      · rw [if_neg (no a ha'), if_neg (no b hb')]
        exact s a ha' b hb' w e
theorem extend {N : Nat} {M : Mx} (g : Dg N M) (t : ∀ j, j < N → Tri N M j) {l : List Nat} {x : Nat → Rat} (hl : ∀ a ∈ l, a < N) (s : SolOn l M x) : ∃ y : Nat → Rat, (∀ a ∈ l, y a = x a) ∧ Sol N M y := by
  have all : ∀ n, n ≤ N → ∃ (y : Nat → Rat) (r : List Nat), (∀ a ∈ l, a ∈ r) ∧ (∀ a, a < n → a ∈ r) ∧ (∀ a ∈ r, a < N) ∧ (∀ a ∈ l, y a = x a) ∧ SolOn r M y := fun n => by
    induction n with
    | zero => exact fun _ => ⟨x, l, fun _ h => h, fun a h => absurd h (Nat.not_lt_zero a), hl, fun _ _ => rfl, s⟩
    | succ n ih =>
      intro hn
      obtain ⟨y, r, h1, h2, h3, h4, h5⟩ := ih (by omega)
      obtain ⟨z, q1, q2⟩ := extend1 (m := n) (by omega) h3 g (t n (by omega)) h5
      refine ⟨z, n :: r, fun a ha => List.mem_cons_of_mem _ (h1 a ha), fun a ha => ?_, fun a ha => ?_, fun a ha => (q1 a (h1 a ha)).trans (h4 a ha), q2⟩
      · by_cases c : a = n
        · rw [c]; exact List.mem_cons_self
        · exact List.mem_cons_of_mem _ (h2 a (by omega))
      · rcases List.mem_cons.mp ha with rfl | ha
        · omega
        · exact h3 a ha
  obtain ⟨y, r, h1, h2, h3, h4, h5⟩ := all N (Nat.le_refl N)
  exact ⟨y, h4, fun a b ha hb => h5 a (h2 a ha) b (h2 b hb)⟩
/-- it can be met iff no node lies below itself -/
theorem dg_iff {N : Nat} {M : Mx} : Dg N (close N M) ↔ ∃ x, Sol N M x := by
  constructor
  · intro g
    obtain ⟨y, _, s⟩ := extend g (tri_close g) (l := []) (x := fun _ => 0) (fun a h => (by cases h)) fun a h => (by cases h)
    exact ⟨y, sol_iff.mp s⟩
  · rintro ⟨x, s⟩ i hi v e
    have := sol_close s i i hi hi v e
    refine Rat.intCast_nonneg.mp ?_
    grind
/-- the bounds between two nodes are tight -/
theorem tight {N : Nat} {M : Mx} {a b : Nat} {t : Rat} (g : Dg N (close N M)) (ha : a < N) (hb : b < N) (h1 : ∀ v, close N M a b = some v → t ≤ (v : Rat)) (h2 : ∀ v, close N M b a = some v → -t ≤ (v : Rat)) (hne : a ≠ b) :
    ∃ x, Sol N M x ∧ x a = 0 ∧ x b = t := by
  obtain ⟨y, q1, q2⟩ := extend g (tri_close g) (l := [a, b]) (x := fun c => if c = b then t else 0) (fun c hc => by
    simp only [List.mem_cons, List.not_mem_nil, or_false] at hc
    rcases hc with rfl | rfl <;> assumption) fun c hc d hd v e => by
      simp only [List.mem_cons, List.not_mem_nil, or_false] at hc hd
      dsimp only
      rcases hc with rfl | rfl <;> rcases hd with rfl | rfl
      · have := Rat.intCast_nonneg.mpr (g _ ha v e)
        grind
      · have := h1 v e
        grind
      · have := h2 v e
        grind
      · have := Rat.intCast_nonneg.mpr (g _ hb v e)
        grind
  refine ⟨y, sol_iff.mp q2, ?_, ?_⟩
  · rw [q1 a (by simp), if_neg hne]
  · rw [q1 b (by simp), if_pos rfl]
end K00
set_option Elab.async false
set_option linter.all false
set_option maxRecDepth 100000
set_option maxHeartbeats 1000000
/-! K00E: elimination (no program in sight). -/
namespace K00
/-- a row: numbers, bound, is it just so -/
structure Row where
  c : List Rat
  b : Rat
  j : Bool
def co (c : List Rat) (i : Nat) : Rat := c.getD i 0
def dot : Nat → List Rat → (Nat → Rat) → Rat
  | 0, _, _ => 0
  | n + 1, c, x => dot n c x + co c n * x n
def sat (n : Nat) (x : Nat → Rat) (r : Row) : Prop := if r.j then dot n r.c x = r.b else dot n r.c x ≤ r.b
def Sat (n : Nat) (x : Nat → Rat) (l : List Row) : Prop := ∀ r ∈ l, sat n x r
def at_ (x : Nat → Rat) (k : Nat) (t : Rat) : Nat → Rat := fun i => if i = k then t else x i
theorem dot_at {k : Nat} {t : Rat} {c : List Rat} {x : Nat → Rat} : ∀ n, dot n c (at_ x k t) = if k < n then dot n c x + co c k * (t - x k) else dot n c x
  | 0 => by simp [dot]
  | n + 1 => by
    unfold dot
    rw [dot_at n]
    by_cases h1 : k < n
    · rw [if_pos h1, if_pos (by omega)]
      unfold at_
      rw [if_neg (by omega)]
      grind
    · by_cases h2 : k = n
      · subst h2
        rw [if_neg h1, if_pos (by omega)]
        unfold at_
        rw [if_pos rfl]
        grind
      · rw [if_neg h1, if_neg (by omega)]
        unfold at_
        rw [if_neg (by omega)]
theorem dot_congr {c : List Rat} {x y : Nat → Rat} : ∀ n, (∀ i, i < n → co c i = 0 ∨ x i = y i) → dot n c x = dot n c y
  | 0, _ => rfl
  | n + 1, h => by
    unfold dot
    rw [dot_congr n fun i hi => h i (by omega)]
    rcases h n (by omega) with q | q
    · rw [q]; grind
    · rw [q]
theorem dot_coef {c d : List Rat} {x : Nat → Rat} : ∀ n, (∀ i, i < n → co c i = co d i) → dot n c x = dot n d x
  | 0, _ => rfl
  | n + 1, h => by
    unfold dot
    rw [dot_coef n fun i hi => h i (by omega), h n (by omega)]
/-- times -/
def scaled (r : Row) (f : Rat) : Row := ⟨r.c.map (· * f), r.b * f, r.j⟩
def added (r : Row) (f : Rat) (s : Row) (j : Bool) : Row := ⟨List.zipWith (fun a b => a + f * b) r.c s.c, r.b + f * s.b, j⟩
theorem co_map {c : List Rat} {f : Rat} {i : Nat} : co (c.map (· * f)) i = co c i * f := by
  unfold co
  rw [List.getD_eq_getElem?_getD, List.getD_eq_getElem?_getD, List.getElem?_map]
  cases c[i]? with
  | none => simp
  | some a => rfl
theorem co_zip {c d : List Rat} {f : Rat} {i : Nat} (hl : c.length = d.length) : co (List.zipWith (fun a b => a + f * b) c d) i = co c i + f * co d i := by
  unfold co
  rw [List.getD_eq_getElem?_getD, List.getD_eq_getElem?_getD, List.getD_eq_getElem?_getD, List.getElem?_zipWith]
  by_cases h : i < c.length
  · rw [List.getElem?_eq_getElem h, List.getElem?_eq_getElem (hl ▸ h)]
    rfl
  · rw [List.getElem?_eq_none (by omega), List.getElem?_eq_none (by omega)]
    show (0 : Rat) = 0 + f * 0
    grind
theorem dot_scaled {c : List Rat} {f : Rat} {x : Nat → Rat} : ∀ n, dot n (c.map (· * f)) x = dot n c x * f
  | 0 => by simp [dot]
  | n + 1 => by
    unfold dot
    rw [dot_scaled n, co_map]
    grind
theorem dot_added {c d : List Rat} {f : Rat} {x : Nat → Rat} (hl : c.length = d.length) : ∀ n, dot n (List.zipWith (fun a b => a + f * b) c d) x = dot n c x + f * dot n d x
  | 0 => by
    show (0 : Rat) = 0 + f * 0
    grind
  | n + 1 => by
    unfold dot
    rw [dot_added hl n, co_zip hl]
    grind
theorem sat_scaled {n : Nat} {x : Nat → Rat} {r : Row} {f : Rat} (hf : 0 < f) : sat n x (scaled r f) ↔ sat n x r := by
  unfold sat scaled
  dsimp only
  rw [dot_scaled]
  cases r.j with
  | true =>
    simp only [if_true]
    constructor
    · intro h
      have : (dot n r.c x - r.b) * f = 0 := by grind
      rcases Rat.mul_eq_zero.mp this with q | q <;> grind
    · intro h; rw [h]
  | false =>
    simp only [Bool.false_eq_true, if_false]
    constructor
    · intro h
      exact Rat.le_of_mul_le_mul_right h hf
    · intro h
      exact Rat.mul_le_mul_of_nonneg_right h (Rat.le_of_lt hf)

/-! ### one unknown is removed -/
/-- .. by pairs -/
def byPairs (l : List Row) (k : Nat) : List Row :=
  (l.filter fun r => decide (co r.c k = 0)) ++ (l.filter fun r => decide (0 < co r.c k)).flatMap fun u => (l.filter fun r => decide (co r.c k < 0)).map fun w => added u (-(co u.c k / co w.c k)) w false
theorem sat_at {n k : Nat} {x : Nat → Rat} {t : Rat} {r : Row} (hk : k < n) : sat n (at_ x k t) r ↔ if r.j then dot n r.c x + co r.c k * (t - x k) = r.b else dot n r.c x + co r.c k * (t - x k) ≤ r.b := by
  unfold sat
  rw [dot_at n, if_pos hk]
theorem pos_div {a b : Rat} (ha : 0 < a) (hb : b < 0) : 0 < -(a / b) := by
  have h1 : 0 < (-b)⁻¹ := Rat.inv_pos.mpr (by grind)
  have h2 : -(a / b) = a * (-b)⁻¹ := by
    have h3 : (-b) * (-b)⁻¹ = 1 := Rat.mul_inv_cancel _ (by grind)
    have h4 : a / b * b = a := Rat.div_mul_cancel (by grind)
    grind
  rw [h2]
  exact Rat.mul_pos ha h1
theorem pq {au aw ru rw' : Rat} (hu : 0 < au) (hw : aw < 0) (h : 0 ≤ ru + -(au / aw) * rw') : rw' / aw ≤ ru / au := by
  have e1 : rw' / aw * aw = rw' := Rat.div_mul_cancel (by grind)
  have e2 : ru / au * au = ru := Rat.div_mul_cancel (by grind)
  have e3 : au / aw * aw = au := Rat.div_mul_cancel (by grind)
  generalize rw' / aw = p at *
  generalize ru / au = q at *
  generalize au / aw = g at *
  have e : ru + -g * rw' = (q - p) * au := by grind
  rw [e] at h
  by_cases c : p ≤ q
  · exact c
  · have := Rat.mul_pos (show 0 < p - q by grind) hu
    grind
theorem pos_le {a r d : Rat} (ha : 0 < a) : a * d ≤ r ↔ d ≤ r / a := by
  have e : r / a * a = r := Rat.div_mul_cancel (by grind)
  generalize r / a = q at *
  subst e
  constructor
  · intro h
    exact Rat.le_of_mul_le_mul_right (c := a) (by grind) ha
  · intro h
    have := Rat.mul_le_mul_of_nonneg_right h (Rat.le_of_lt ha)
    grind
theorem neg_le {a r d : Rat} (ha : a < 0) : a * d ≤ r ↔ r / a ≤ d := by
  have e : r / a * a = r := Rat.div_mul_cancel (by grind)
  generalize r / a = q at *
  subst e
  have hp : 0 < -a := by grind
  constructor
  · intro h
    exact Rat.le_of_mul_le_mul_right (c := -a) (by grind) hp
  · intro h
    have := Rat.mul_le_mul_of_nonneg_right h (Rat.le_of_lt hp)
    grind
theorem sum_le {au aw du dw bu bw d g : Rat} (h1 : du + au * d ≤ bu) (h2 : -g * (dw + aw * d) ≤ -g * bw) (e : g * aw = au) : du + -g * dw ≤ bu + -g * bw := by
  have : -g * (dw + aw * d) = -g * dw - au * d := by
    rw [← e]
    grind
  grind
theorem pairs_iff {n k len : Nat} {x : Nat → Rat} {l : List Row} (hk : k < n) (hl : ∀ r ∈ l, r.c.length = len) (hj : ∀ r ∈ l, r.j = true → co r.c k = 0) : Sat n x (byPairs l k) ↔ ∃ t, Sat n (at_ x k t) l := by
  constructor
  · intro h
    obtain ⟨t, h1, h2⟩ := between ((l.filter fun r => decide (co r.c k < 0)).map fun w => x k + (w.b - dot n w.c x) / co w.c k) ((l.filter fun r => decide (0 < co r.c k)).map fun u => x k + (u.b - dot n u.c x) / co u.c k) fun p hp q hq => by
      obtain ⟨w, hw, rfl⟩ := List.mem_map.mp hp
      obtain ⟨u, hu, rfl⟩ := List.mem_map.mp hq
      have hw' := List.mem_filter.mp hw
      have hu' := List.mem_filter.mp hu
      have cw := of_decide_eq_true hw'.2
      have cu := of_decide_eq_true hu'.2
      have q := h (added u (-(co u.c k / co w.c k)) w false) (List.mem_append_right _ (List.mem_flatMap.mpr ⟨u, hu, List.mem_map.mpr ⟨w, hw, rfl⟩⟩))
      unfold sat added at q
      simp only [Bool.false_eq_true, if_false] at q
      rw [dot_added ((hl u hu'.1).trans (hl w hw'.1).symm)] at q
      have := pq cu cw (ru := u.b - dot n u.c x) (rw' := w.b - dot n w.c x) (by grind)
      grind
    refine ⟨t, fun r hr => (sat_at hk).mpr ?_⟩
    by_cases c0 : co r.c k = 0
    · have q := h r (List.mem_append_left _ (List.mem_filter.mpr ⟨hr, decide_eq_true c0⟩))
      unfold sat at q
      rw [c0]
      have e : dot n r.c x + 0 * (t - x k) = dot n r.c x := by grind
      rw [e]
      exact q
    · have nj : r.j = false := by
        cases q : r.j with
        | true => exact absurd (hj r hr q) c0
        | false => rfl
      rw [nj]
      simp only [Bool.false_eq_true, if_false]
      by_cases c1 : 0 < co r.c k
      · have q := h2 _ (List.mem_map.mpr ⟨r, List.mem_filter.mpr ⟨hr, decide_eq_true c1⟩, rfl⟩)
        have := (pos_le (r := r.b - dot n r.c x) (d := t - x k) c1).mpr (by grind)
        grind
      · have c2 : co r.c k < 0 := by grind
        have q := h1 _ (List.mem_map.mpr ⟨r, List.mem_filter.mpr ⟨hr, decide_eq_true c2⟩, rfl⟩)
        have := (neg_le (r := r.b - dot n r.c x) (d := t - x k) c2).mpr (by grind)
        grind
  · rintro ⟨t, h⟩ r hr
    rcases List.mem_append.mp hr with hr | hr
    · have hr' := List.mem_filter.mp hr
      have c0 := of_decide_eq_true hr'.2
      have q := (sat_at hk).mp (h r hr'.1)
      rw [c0] at q
      have e : dot n r.c x + 0 * (t - x k) = dot n r.c x := by grind
      rw [e] at q
      exact q
    · obtain ⟨u, hu, hr⟩ := List.mem_flatMap.mp hr
      obtain ⟨w, hw, rfl⟩ := List.mem_map.mp hr
      have hw' := List.mem_filter.mp hw
      have hu' := List.mem_filter.mp hu
      have cw := of_decide_eq_true hw'.2
      have cu := of_decide_eq_true hu'.2
      have qu := (sat_at hk).mp (h u hu'.1)
      have qw := (sat_at hk).mp (h w hw'.1)
      have ju : u.j = false := by
        cases q : u.j with
        | true => have := hj u hu'.1 q; grind
        | false => rfl
      have jw : w.j = false := by
        cases q : w.j with
        | true => have := hj w hw'.1 q; grind
        | false => rfl
      rw [ju] at qu
      rw [jw] at qw
      simp only [Bool.false_eq_true, if_false] at qu qw
      unfold sat added
      simp only [Bool.false_eq_true, if_false]
      rw [dot_added ((hl u hu'.1).trans (hl w hw'.1).symm)]
      have hf := pos_div cu cw
      have e3 : co u.c k / co w.c k * co w.c k = co u.c k := Rat.div_mul_cancel (by grind)
      exact sum_le qu (Rat.mul_le_mul_of_nonneg_left qw (Rat.le_of_lt hf)) e3
/-- .. by an equation -/
def byEq (l : List Row) (p : Nat) (used : Row) (k : Nat) : List Row :=
  (l.eraseIdx p).map fun r => if co r.c k = 0 then r else added r (-(co r.c k / co used.c k)) used r.j
theorem eq_sat {n k : Nat} {x : Nat → Rat} {r used : Row} {t : Rat} (hk : k < n) (hl : r.c.length = used.c.length) (hu : co used.c k ≠ 0) (ju : used.j = true) (h : sat n (at_ x k t) used) :
    sat n x (if co r.c k = 0 then r else added r (-(co r.c k / co used.c k)) used r.j) ↔ sat n (at_ x k t) r := by
  have qu := (sat_at hk).mp h
  rw [ju] at qu
  simp only [if_true] at qu
  rw [sat_at hk]
  by_cases c0 : co r.c k = 0
  · rw [if_pos c0, c0]
    have e : dot n r.c x + 0 * (t - x k) = dot n r.c x := by grind
    rw [e]
    rfl
  · rw [if_neg c0]
    unfold sat added
    dsimp only
    rw [dot_added hl]
    have e3 : co r.c k / co used.c k * co used.c k = co r.c k := Rat.div_mul_cancel hu
    generalize co r.c k / co used.c k = g at *
    have e : dot n r.c x + -g * dot n used.c x = dot n r.c x + co r.c k * (t - x k) - g * used.b := by
      rw [← qu, ← e3]
      grind
    rw [e]
    cases r.j with
    | true => simp only [if_true]; constructor <;> (intro h; grind)
    | false => simp only [Bool.false_eq_true, if_false]; constructor <;> (intro h; grind)
theorem eq_iff {n k p len : Nat} {x : Nat → Rat} {l : List Row} {used : Row} (hk : k < n) (hl : ∀ r ∈ l, r.c.length = len) (hp : l[p]? = some used) (hu : co used.c k ≠ 0) (ju : used.j = true) : Sat n x (byEq l p used k) ↔ ∃ t, Sat n (at_ x k t) l := by
  have hm : used ∈ l := List.mem_of_getElem? hp
  constructor
  · intro h
    have e3 : (used.b - dot n used.c x) / co used.c k * co used.c k = used.b - dot n used.c x := Rat.div_mul_cancel hu
    have su : sat n (at_ x k (x k + (used.b - dot n used.c x) / co used.c k)) used := (sat_at hk).mpr (by
      rw [ju]
      simp only [if_true]
      generalize (used.b - dot n used.c x) / co used.c k = q at *
      grind)
    refine ⟨x k + (used.b - dot n used.c x) / co used.c k, fun r hr => ?_⟩
    obtain ⟨i, hi⟩ := List.mem_iff_getElem?.mp hr
    by_cases c : i = p
    · subst c
      rw [hp] at hi
      cases hi
      exact su
    · have hr' : r ∈ l.eraseIdx p := by
        rw [List.mem_eraseIdx_iff_getElem?]
        exact ⟨i, c, hi⟩
      exact (eq_sat hk ((hl r hr).trans (hl used hm).symm) hu ju su).mp (h _ (List.mem_map.mpr ⟨r, hr', rfl⟩))
  · rintro ⟨t, h⟩ r hr
    obtain ⟨r', hr', rfl⟩ := List.mem_map.mp hr
    have hm' : r' ∈ l := List.mem_of_mem_eraseIdx hr'
    exact (eq_sat hk ((hl r' hm').trans (hl used hm).symm) hu ju (h used hm)).mpr (h r' hm')

/-! ### the tightest rows -/
/-- the first number that is not nought -/
def lead (c : List Rat) (n : Nat) : Option Rat := (c.take n).find? fun a => decide (a ≠ 0)
def absQ (a : Rat) : Rat := if a < 0 then -a else a
def shape (r : Row) (n : Nat) : Row := match lead r.c n with
  | some a => scaled r (1 / absQ a)
  | none => r
theorem absQ_pos {a : Rat} (h : a ≠ 0) : 0 < absQ a := by
  unfold absQ
  by_cases c : a < 0
  · rw [if_pos c]; grind
  · rw [if_neg c]; grind
theorem sat_shape {n : Nat} {x : Nat → Rat} {r : Row} : sat n x (shape r n) ↔ sat n x r := by
  unfold shape
  split
  · rename_i a e
    have ha' : decide (a ≠ 0) = true := List.find?_some (p := fun a => decide (a ≠ 0)) (show (r.c.take n).find? (fun a => decide (a ≠ 0)) = some a from e)
    have ha : a ≠ 0 := of_decide_eq_true ha'
    refine sat_scaled ?_
    rw [Rat.div_def, Rat.one_mul]
    exact Rat.inv_pos.mpr (absQ_pos ha)
  · exact Iff.rfl
/-- kept rows under their keys -/
abbrev Kp := List ((List Rat × Bool) × Row)
def kget (l : Kp) (k : List Rat × Bool) : Option Row := match l with
  | [] => none
  | (q, r) :: t => if q = k then some r else kget t k
def kset (l : Kp) (k : List Rat × Bool) (v : Row) : Kp := match l with
  | [] => []
  | (q, r) :: t => (q, if q = k then v else r) :: kset t k v
def kput (l : Kp) (k : List Rat × Bool) (v : Row) : Kp := if (kget l k).isSome then kset l k v else l ++ [(k, v)]
def tstep (n : Nat) (l : Kp) (r0 : Row) : Kp :=
  let r := shape r0 n
  let key := (r.c.take n, r.j)
  match kget l key with
  | none => kput l key r
  | some o =>
    if r.j = false ∧ r.b < o.b then kput l key r
    else if r.j = true ∧ r.b ≠ o.b then
      let gap := added r (-1) o true
      kput l (gap.c.take n, true) gap
    else l
def tightest (l : List Row) (n : Nat) : List Row := (l.foldl (tstep n) []).map (·.2)
def SatK (n : Nat) (x : Nat → Rat) (l : Kp) : Prop := ∀ p ∈ l, sat n x p.2
/-- keys are what they should be, each once -/
structure KI (n len : Nat) (l : Kp) : Prop where
  key : ∀ p ∈ l, p.1 = (p.2.c.take n, p.2.j)
  len : ∀ p ∈ l, p.2.c.length = len
  nod : (l.map (·.1)).Nodup
theorem kget_mem : ∀ {l : Kp} {k : List Rat × Bool} {o : Row}, kget l k = some o → (k, o) ∈ l
  | [], _, _, h => by cases h
  | (q, r) :: t, k, o, h => by
    unfold kget at h
    by_cases c : q = k
    · rw [if_pos c] at h
      cases h
      rw [c]
      exact List.mem_cons_self
    · rw [if_neg c] at h
      exact List.mem_cons_of_mem _ (kget_mem h)
theorem kget_none : ∀ {l : Kp} {k : List Rat × Bool}, kget l k = none → k ∉ l.map (·.1)
  | [], _, _ => by simp
  | (q, r) :: t, k, h => by
    unfold kget at h
    by_cases c : q = k
    · rw [if_pos c] at h; cases h
    · rw [if_neg c] at h
      have := kget_none h
      simp only [List.map_cons, List.mem_cons, not_or]
      exact ⟨fun z => c z.symm, this⟩
theorem kset_keys : ∀ {l : Kp} {k : List Rat × Bool} {v : Row}, (kset l k v).map (·.1) = l.map (·.1)
  | [], _, _ => rfl
  | (q, r) :: t, k, v => by
    unfold kset
    rw [List.map_cons, List.map_cons, kset_keys]
theorem kset_mem : ∀ {l : Kp} {k : List Rat × Bool} {v : Row} {p : (List Rat × Bool) × Row}, p ∈ kset l k v → (p = (k, v)) ∨ (p ∈ l ∧ p.1 ≠ k)
  | [], _, _, _, h => by cases h
  | (q, r) :: t, k, v, p, h => by
    unfold kset at h
    rcases List.mem_cons.mp h with e | h
    · by_cases c : q = k
      · rw [if_pos c, c] at e; exact .inl e
      · rw [if_neg c] at e; exact .inr ⟨by rw [e]; exact List.mem_cons_self, by rw [e]; exact c⟩
    · rcases kset_mem h with e | ⟨e1, e2⟩
      · exact .inl e
      · exact .inr ⟨List.mem_cons_of_mem _ e1, e2⟩
theorem kset_has : ∀ {l : Kp} {k : List Rat × Bool} {v : Row} {p : (List Rat × Bool) × Row}, p ∈ l → (if p.1 = k then (k, v) else p) ∈ kset l k v
  | (q, r) :: t, k, v, p, h => by
    unfold kset
    rcases List.mem_cons.mp h with e | h
    · subst e
      by_cases c : q = k
      · rw [if_pos c, if_pos c, c]; exact List.mem_cons_self
      · rw [if_neg c, if_neg c]; exact List.mem_cons_self
    · exact List.mem_cons_of_mem _ (kset_has h)
theorem nod_uniq : ∀ {l : Kp} {k : List Rat × Bool} {r o : Row}, (l.map (·.1)).Nodup → (k, r) ∈ l → (k, o) ∈ l → r = o
  | p :: t, k, r, o, nd, h1, h2 => by
    rw [List.map_cons, List.nodup_cons] at nd
    rcases List.mem_cons.mp h1 with e1 | e1
    · rcases List.mem_cons.mp h2 with e2 | e2
      · rw [← e1] at e2; exact (Prod.mk.inj e2).2.symm
      · exact absurd (List.mem_map.mpr ⟨(k, o), e2, rfl⟩) (by rw [← e1] at nd; exact nd.1)
    · rcases List.mem_cons.mp h2 with e2 | e2
      · exact absurd (List.mem_map.mpr ⟨(k, r), e1, rfl⟩) (by rw [← e2] at nd; exact nd.1)
      · exact nod_uniq nd.2 e1 e2
theorem kput_ki {n len : Nat} {l : Kp} {v : Row} (i : KI n len l) (hl : v.c.length = len) : KI n len (kput l (v.c.take n, v.j) v) := by
  unfold kput
  cases h : kget l (v.c.take n, v.j) with
  | none =>
    have nk := kget_none h
    refine ⟨fun p hp => ?_, fun p hp => ?_, ?_⟩
    · rcases List.mem_append.mp hp with q | q
      · exact i.key p q
      · rw [List.mem_singleton.mp q]
    · rcases List.mem_append.mp hp with q | q
      · exact i.len p q
      · rw [List.mem_singleton.mp q]; exact hl
    · show ((l ++ [((v.c.take n, v.j), v)]).map (·.1)).Nodup
      rw [List.map_append, List.nodup_append]
      refine ⟨i.nod, by simp, fun a ha b hb => ?_⟩
      have hb' : b = (v.c.take n, v.j) := List.mem_singleton.mp hb
      rw [hb']
      exact fun z => nk (by rw [← z]; exact ha)
  | some o =>
    refine ⟨fun p hp => ?_, fun p hp => ?_, ?_⟩
    · rcases kset_mem hp with q | q
      · rw [q]
      · exact i.key p q.1
    · rcases kset_mem hp with q | q
      · rw [q]; exact hl
      · exact i.len p q.1
    · show ((kset l _ v).map (·.1)).Nodup
      rw [kset_keys]
      exact i.nod
theorem kput_has {l : Kp} {k : List Rat × Bool} {v : Row} : (k, v) ∈ kput l k v := by
  unfold kput
  cases h : kget l k with
  | none => exact List.mem_append_right _ (List.mem_singleton.mpr rfl)
  | some o =>
    have := kset_has (v := v) (k := k) (kget_mem h)
    rw [if_pos rfl] at this
    exact this
/-- what stands under other keys stays, and what is there was there or is new -/
theorem kput_mem {l : Kp} {k : List Rat × Bool} {v : Row} {p : (List Rat × Bool) × Row} (h : p ∈ kput l k v) : p = (k, v) ∨ (p ∈ l ∧ p.1 ≠ k) := by
  unfold kput at h
  cases q : kget l k with
  | none =>
    rw [q] at h
    rcases List.mem_append.mp h with h | h
    · exact .inr ⟨h, fun z => kget_none q (List.mem_map.mpr ⟨p, h, z⟩)⟩
    · exact .inl (List.mem_singleton.mp h)
  | some o =>
    rw [q] at h
    exact kset_mem h
theorem kput_old {l : Kp} {k : List Rat × Bool} {v : Row} {p : (List Rat × Bool) × Row} (h : p ∈ l) (hk : p.1 ≠ k) : p ∈ kput l k v := by
  unfold kput
  cases q : kget l k with
  | none => exact List.mem_append_left _ h
  | some o =>
    have := kset_has (v := v) (k := k) h
    rw [if_neg hk] at this
    exact this
theorem co_take {c : List Rat} {n i : Nat} (hi : i < n) : co (c.take n) i = co c i := by
  unfold co
  rw [List.getD_eq_getElem?_getD, List.getD_eq_getElem?_getD, List.getElem?_take, if_pos hi]
theorem dot_key {n : Nat} {c d : List Rat} {x : Nat → Rat} (h : c.take n = d.take n) : dot n c x = dot n d x := dot_coef n fun i hi => by rw [← co_take hi, h, co_take hi]
theorem shape_len {r : Row} {n : Nat} : (shape r n).c.length = r.c.length := by
  unfold shape
  split
  · exact List.length_map ..
  · rfl
theorem added_len {r s : Row} {f : Rat} {j : Bool} (h : r.c.length = s.c.length) : (added r f s j).c.length = r.c.length := by
  unfold added
  rw [List.length_zipWith, h, Nat.min_self]
theorem tstep_ok {n len : Nat} {l : Kp} {r0 : Row} (i : KI n len l) (hl : r0.c.length = len) : KI n len (tstep n l r0) ∧ ∀ x, SatK n x (tstep n l r0) ↔ SatK n x l ∧ sat n x r0 := by
  have hs : (shape r0 n).c.length = len := shape_len.trans hl
  unfold tstep
  dsimp only
  generalize hr : shape r0 n = r at hs
  have sr : ∀ x, sat n x r0 ↔ sat n x r := fun x => by rw [← hr]; exact sat_shape.symm
  cases h : kget l (r.c.take n, r.j) with
  | none =>
    dsimp only
    refine ⟨kput_ki i hs, fun x => ?_⟩
    rw [sr x]
    constructor
    · intro q
      exact ⟨fun p hp => q p (kput_old hp fun z => kget_none h (List.mem_map.mpr ⟨p, hp, z⟩)), q _ kput_has⟩
    · rintro ⟨q1, q2⟩ p hp
      rcases kput_mem hp with e | ⟨e, _⟩
      · rw [e]; exact q2
      · exact q1 p e
  | some o =>
    dsimp only
    have ho := kget_mem h
    have ko := i.key _ ho
    have lo := i.len _ ho
    have ko1 : r.c.take n = o.c.take n := (Prod.mk.inj ko).1
    have ko2 : r.j = o.j := (Prod.mk.inj ko).2
    have hd : ∀ x, dot n r.c x = dot n o.c x := fun x => dot_key ko1
    by_cases c1 : r.j = false ∧ r.b < o.b
    · rw [if_pos c1]
      refine ⟨kput_ki i hs, fun x => ?_⟩
      rw [sr x]
      constructor
      · intro q
        have q2 : sat n x r := q _ kput_has
        refine ⟨fun p hp => ?_, q2⟩
        by_cases e : p.1 = (r.c.take n, r.j)
        · have : p.2 = o := nod_uniq (k := (r.c.take n, r.j)) i.nod (by rw [← e]; exact hp) ho
          rw [this]
          unfold sat at q2 ⊢
          rw [← ko2, c1.1, ← hd x]
          rw [c1.1] at q2
          simp only [Bool.false_eq_true, if_false] at q2 ⊢
          grind
        · exact q p (kput_old hp e)
      · rintro ⟨q1, q2⟩ p hp
        rcases kput_mem hp with e | ⟨e, _⟩
        · rw [e]; exact q2
        · exact q1 p e
    · rw [if_neg c1]
      by_cases c2 : r.j = true ∧ r.b ≠ o.b
      · rw [if_pos c2]
        refine ⟨kput_ki (v := added r (-1) o true) i ((added_len (hs.trans lo.symm)).trans hs), fun x => ?_⟩
        constructor
        · intro q
          have q2 : sat n x (added r (-1) o true) := q _ kput_has
          unfold sat added at q2
          simp only [if_true] at q2
          rw [dot_added (hs.trans lo.symm), hd x] at q2
          have := c2.2
          grind
        · rintro ⟨q1, q2⟩
          rw [sr x] at q2
          have q3 := q1 _ ho
          unfold sat at q2 q3
          dsimp only at q3
          rw [← ko2, c2.1] at q3
          rw [c2.1] at q2
          simp only [if_true] at q2 q3
          rw [hd x] at q2
          exact absurd (q2.symm.trans q3) c2.2
      · rw [if_neg c2]
        refine ⟨i, fun x => ⟨fun q => ⟨q, ?_⟩, fun q => q.1⟩⟩
        rw [sr x]
        have q3 := q _ ho
        unfold sat at q3 ⊢
        dsimp only at q3
        rw [← ko2, ← hd x] at q3
        cases e : r.j with
        | true =>
          rw [e] at q3 c2
          simp only [if_true] at q3 ⊢
          grind
        | false =>
          rw [e] at q3 c1
          simp only [Bool.false_eq_true, if_false] at q3 ⊢
          grind
theorem tfold_ok {n len : Nat} : ∀ (rs : List Row) {l : Kp}, KI n len l → (∀ r ∈ rs, r.c.length = len) → KI n len (rs.foldl (tstep n) l) ∧ ∀ x, SatK n x (rs.foldl (tstep n) l) ↔ SatK n x l ∧ Sat n x rs
  | [], l, i, _ => ⟨i, fun x => ⟨fun q => ⟨q, fun r hr => by cases hr⟩, fun q => q.1⟩⟩
  | r :: rs, l, i, hl => by
    obtain ⟨i1, s1⟩ := tstep_ok i (hl r List.mem_cons_self)
    obtain ⟨i2, s2⟩ := tfold_ok rs i1 fun r hr => hl r (List.mem_cons_of_mem _ hr)
    refine ⟨i2, fun x => ?_⟩
    rw [List.foldl_cons, s2 x, s1 x]
    constructor
    · rintro ⟨⟨a, b⟩, c⟩
      exact ⟨a, fun q hq => by rcases List.mem_cons.mp hq with rfl | hq; exact b; exact c q hq⟩
    · rintro ⟨a, b⟩
      exact ⟨⟨a, b r List.mem_cons_self⟩, fun q hq => b q (List.mem_cons_of_mem _ hq)⟩
theorem tight_ok {n len : Nat} {rs : List Row} (hl : ∀ r ∈ rs, r.c.length = len) : KI n len (rs.foldl (tstep n) []) ∧ ∀ x, Sat n x (tightest rs n) ↔ Sat n x rs := by
  obtain ⟨i, s⟩ := tfold_ok (n := n) rs (l := []) ⟨fun p hp => (by cases hp), fun p hp => (by cases hp), List.nodup_nil⟩ hl
  refine ⟨i, fun x => ?_⟩
  have e : Sat n x (tightest rs n) ↔ SatK n x (rs.foldl (tstep n) []) := by
    unfold tightest Sat SatK
    simp only [List.mem_map, forall_exists_index, and_imp, forall_apply_eq_imp_iff₂]
  rw [e, s x]
  exact ⟨fun q => q.2, fun q => ⟨fun p hp => (by cases hp), q⟩⟩
end K00
set_option Elab.async false
set_option linter.all false
set_option maxRecDepth 100000
set_option maxHeartbeats 1000000
/-! K00F: all steps of the elimination; end points. -/
namespace K00
def firstJust (l : List Row) (k : Nat) : Option Nat := l.findIdx? fun r => r.j && decide (co r.c k ≠ 0)
def without (l : List Row) (k n : Nat) : List Row := match firstJust l k with
  | none => tightest (byPairs l k) n
  | some p => match l[p]? with
    | some used => tightest (byEq l p used k) n
    | none => []
/-- the rows when m unknowns are gone, the last ones first -/
def el (l : List Row) (n : Nat) : Nat → List Row
  | 0 => l
  | m + 1 => without (el l n m) (n - 1 - m) n
/-- all rows have this length -/
def Len (len : Nat) (l : List Row) : Prop := ∀ r ∈ l, r.c.length = len
theorem pairs_len {l : List Row} {k len : Nat} (h : Len len l) : Len len (byPairs l k) := fun r hr => by
  rcases List.mem_append.mp hr with hr | hr
  · exact h r (List.mem_filter.mp hr).1
  · obtain ⟨u, hu, hr⟩ := List.mem_flatMap.mp hr
    obtain ⟨w, hw, rfl⟩ := List.mem_map.mp hr
    have h1 := h u (List.mem_filter.mp hu).1
    have h2 := h w (List.mem_filter.mp hw).1
    exact (added_len (h1.trans h2.symm)).trans h1
theorem eq_len {l : List Row} {p k len : Nat} {used : Row} (h : Len len l) (hu : used ∈ l) : Len len (byEq l p used k) := fun r hr => by
  obtain ⟨r', hr', rfl⟩ := List.mem_map.mp hr
  have h1 := h r' (List.mem_of_mem_eraseIdx hr')
  split
  · exact h1
  · exact (added_len (h1.trans (h used hu).symm)).trans h1
theorem tight_len {l : List Row} {n len : Nat} (h : Len len l) : Len len (tightest l n) := fun r hr => by
  obtain ⟨p, hp, rfl⟩ := List.mem_map.mp hr
  exact (tight_ok (n := n) h).1.len p hp
theorem firstJust_some {l : List Row} {k p : Nat} (h : firstJust l k = some p) : ∃ used, l[p]? = some used ∧ used.j = true ∧ co used.c k ≠ 0 := by
  obtain ⟨hp, h1, _⟩ := List.findIdx?_eq_some_iff_getElem.mp h
  rw [Bool.and_eq_true, decide_eq_true_eq] at h1
  exact ⟨l[p], List.getElem?_eq_getElem hp, h1.1, h1.2⟩
theorem firstJust_none {l : List Row} {k : Nat} (h : firstJust l k = none) : ∀ r ∈ l, r.j = true → co r.c k = 0 := fun r hr hj => by
  have := List.findIdx?_eq_none_iff.mp h r hr
  rw [hj, Bool.true_and, decide_eq_false_iff_not] at this
  exact Classical.not_not.mp this
theorem without_len {l : List Row} {k n len : Nat} (h : Len len l) : Len len (without l k n) := by
  unfold without
  split
  · exact tight_len (pairs_len h)
  · rename_i p e
    obtain ⟨used, e1, _, _⟩ := firstJust_some e
    rw [e1]
    exact tight_len (eq_len h (List.mem_of_getElem? e1))
theorem without_iff {l : List Row} {k n len : Nat} {x : Nat → Rat} (h : Len len l) (hk : k < n) : Sat n x (without l k n) ↔ ∃ t, Sat n (at_ x k t) l := by
  unfold without
  split
  · rename_i e
    rw [(tight_ok (n := n) (pairs_len h)).2 x]
    exact pairs_iff hk h (firstJust_none e)
  · rename_i p e
    obtain ⟨used, e1, e2, e3⟩ := firstJust_some e
    rw [e1]
    dsimp only
    rw [(tight_ok (n := n) (eq_len h (List.mem_of_getElem? e1))).2 x]
    exact eq_iff hk h e1 e3 e2
theorem el_len {l : List Row} {n len : Nat} (h : Len len l) : ∀ m, Len len (el l n m)
  | 0 => h
  | m + 1 => without_len (el_len h m)
theorem sat_congr {n : Nat} {x y : Nat → Rat} {l : List Row} (h : ∀ i, i < n → x i = y i) : Sat n x l ↔ Sat n y l := by
  have e : ∀ r : Row, sat n x r ↔ sat n y r := fun r => by
    unfold sat
    rw [dot_congr n fun i hi => .inr (h i hi)]
  exact ⟨fun q r hr => (e r).mp (q r hr), fun q r hr => (e r).mpr (q r hr)⟩
/-- what the rows say when m unknowns are gone -/
theorem el_iff {l : List Row} {n len : Nat} (h : Len len l) : ∀ m, m ≤ n → ∀ x, Sat n x (el l n m) ↔ ∃ y, (∀ i, i < n - m → y i = x i) ∧ Sat n y l
  | 0, _, x => ⟨fun q => ⟨x, fun _ _ => rfl, q⟩, fun ⟨y, q1, q2⟩ => (sat_congr fun i hi => q1 i hi).mp q2⟩
  | m + 1, hm, x => by
    show Sat n x (without (el l n m) (n - 1 - m) n) ↔ _
    rw [without_iff (el_len h m) (show n - 1 - m < n by omega)]
    constructor
    · rintro ⟨t, q⟩
      obtain ⟨y, q1, q2⟩ := (el_iff h m (by omega) _).mp q
      refine ⟨y, fun i hi => ?_, q2⟩
      rw [q1 i (by omega)]
      unfold at_
      rw [if_neg (by omega)]
    · rintro ⟨y, q1, q2⟩
      refine ⟨y (n - 1 - m), (el_iff h m (by omega) _).mpr ⟨y, fun i hi => ?_, q2⟩⟩
      unfold at_
      by_cases c : i = n - 1 - m
      · rw [if_pos c, c]
      · rw [if_neg c]
        exact q1 i (by omega)

/-! ### unknowns that are gone -/
/-- no row speaks of unknowns k .. n - 1 -/
def Gone (k n : Nat) (l : List Row) : Prop := ∀ r ∈ l, ∀ i, k ≤ i → i < n → co r.c i = 0
theorem co_added {r s : Row} {f : Rat} {j : Bool} {i : Nat} (h : r.c.length = s.c.length) : co (added r f s j).c i = co r.c i + f * co s.c i := co_zip h
theorem gone_pairs {l : List Row} {k n len : Nat} (h : Len len l) (g : Gone (k + 1) n l) : Gone k n (byPairs l k) := fun r hr i h1 h2 => by
  rcases List.mem_append.mp hr with hr | hr
  · have hr' := List.mem_filter.mp hr
    by_cases c : i = k
    · rw [c]; exact of_decide_eq_true hr'.2
    · exact g r hr'.1 i (by omega) h2
  · obtain ⟨u, hu, hr⟩ := List.mem_flatMap.mp hr
    obtain ⟨w, hw, rfl⟩ := List.mem_map.mp hr
    have hu' := List.mem_filter.mp hu
    have hw' := List.mem_filter.mp hw
    rw [co_added ((h u hu'.1).trans (h w hw'.1).symm)]
    by_cases c : i = k
    · rw [c]
      have cw := of_decide_eq_true hw'.2
      have e3 : co u.c k / co w.c k * co w.c k = co u.c k := Rat.div_mul_cancel (by grind)
      grind
    · rw [g u hu'.1 i (by omega) h2, g w hw'.1 i (by omega) h2]
      grind
theorem gone_eq {l : List Row} {k n p len : Nat} {used : Row} (h : Len len l) (hu : used ∈ l) (h0 : co used.c k ≠ 0) (g : Gone (k + 1) n l) : Gone k n (byEq l p used k) := fun r hr i h1 h2 => by
  obtain ⟨r', hr', rfl⟩ := List.mem_map.mp hr
  have hm := List.mem_of_mem_eraseIdx hr'
  by_cases c0 : co r'.c k = 0
  · rw [if_pos c0]
    by_cases c : i = k
    · rw [c]; exact c0
    · exact g r' hm i (by omega) h2
  · rw [if_neg c0, co_added ((h r' hm).trans (h used hu).symm)]
    by_cases c : i = k
    · rw [c]
      have e3 : co r'.c k / co used.c k * co used.c k = co r'.c k := Rat.div_mul_cancel h0
      grind
    · rw [g r' hm i (by omega) h2, g used hu i (by omega) h2]
      grind
theorem gone_shape {r : Row} {n i : Nat} (h : co r.c i = 0) : co (shape r n).c i = 0 := by
  unfold shape
  split
  · show co (r.c.map _) i = 0
    rw [co_map, h]
    grind
  · exact h
/-- a word of rows that the tightest keep -/
theorem tight_inv {n len : Nat} {rs : List Row} (P : Row → Prop) (hl : Len len rs) (h1 : ∀ r ∈ rs, P (shape r n)) (h2 : ∀ r o : Row, P r → P o → r.c.length = len → o.c.length = len → r.c.take n = o.c.take n → r.j = true → o.j = true → P (added r (-1) o true)) : ∀ r ∈ tightest rs n, P r := by
  have all : ∀ (rs : List Row) (l : Kp), KI n len l → Len len rs → (∀ p ∈ l, P p.2) → (∀ r ∈ rs, P (shape r n)) → ∀ p ∈ rs.foldl (tstep n) l, P p.2 := by
    intro rs
    induction rs with
    | nil => exact fun l _ _ h _ => h
    | cons r rs ih =>
      intro l i hl hp hr
      rw [List.foldl_cons]
      refine ih _ (tstep_ok i (hl r List.mem_cons_self)).1 (fun q hq => hl q (List.mem_cons_of_mem _ hq)) ?_ fun q hq => hr q (List.mem_cons_of_mem _ hq)
      have pr := hr r List.mem_cons_self
      have ls : (shape r n).c.length = len := shape_len.trans (hl r List.mem_cons_self)
      have put : ∀ k v, P v → ∀ p ∈ kput l k v, P p.2 := fun k v hv p hm => by
        rcases kput_mem hm with e | ⟨e, _⟩
        · rw [e]; exact hv
        · exact hp p e
      unfold tstep
      dsimp only
      cases h : kget l ((shape r n).c.take n, (shape r n).j) with
      | none => exact put _ _ pr
      | some o =>
        dsimp only
        split
        · exact put _ _ pr
        · split
          · rename_i c
            have ho := kget_mem h
            have ko := i.key _ ho
            have kj : (shape r n).j = o.j := (Prod.mk.inj ko).2
            exact put _ _ (h2 _ _ pr (hp _ ho) ls (i.len _ ho) (Prod.mk.inj ko).1 c.1 (by rw [← kj]; exact c.1))
          · exact hp
  intro r hr
  obtain ⟨p, hp, rfl⟩ := List.mem_map.mp hr
  exact all rs [] ⟨fun p hp => (by cases hp), fun p hp => (by cases hp), List.nodup_nil⟩ hl (fun p hp => (by cases hp)) h1 p hp
theorem gone_tight {l : List Row} {k n len : Nat} (h : Len len l) (g : Gone k n l) : Gone k n (tightest l n) :=
  tight_inv (fun r => ∀ i, k ≤ i → i < n → co r.c i = 0) h (fun r hr i h1 h2 => gone_shape (g r hr i h1 h2)) fun r o h1 h2 l1 l2 _ _ _ i q1 q2 => by
    rw [co_added (l1.trans l2.symm), h1 i q1 q2, h2 i q1 q2]
    grind
theorem gone_without {l : List Row} {k n len : Nat} (h : Len len l) (g : Gone (k + 1) n l) : Gone k n (without l k n) := by
  unfold without
  split
  · exact gone_tight (pairs_len h) (gone_pairs h g)
  · rename_i p e
    obtain ⟨used, e1, _, e3⟩ := firstJust_some e
    rw [e1]
    exact gone_tight (eq_len h (List.mem_of_getElem? e1)) (gone_eq h (List.mem_of_getElem? e1) e3 g)
theorem gone_el {l : List Row} {n len : Nat} (h : Len len l) : ∀ m, m ≤ n → Gone (n - m) n (el l n m)
  | 0, _ => fun r _ i h1 h2 => by omega
  | m + 1, hm => by
    have := gone_without (k := n - 1 - m) (n := n) (el_len (n := n) h m) (by
      have e : n - 1 - m + 1 = n - m := by omega
      rw [e]
      exact gone_el h m (by omega))
    have e : n - (m + 1) = n - 1 - m := by omega
    rw [e]
    exact this

/-! ### can it be met -/
def isBroken (r : Row) : Bool := decide (r.b < 0) || (r.j && decide (r.b ≠ 0))
theorem dot_gone {c : List Rat} {x : Nat → Rat} : ∀ m, (∀ i, i < m → co c i = 0) → dot m c x = 0
  | 0, _ => rfl
  | m + 1, h => by
    unfold dot
    rw [dot_gone m fun i hi => h i (by omega), h m (by omega)]
    grind
theorem broken_iff {l : List Row} {n len : Nat} (h : Len len l) : ((el l n n).find? isBroken) = none ↔ ∃ y, Sat n y l := by
  have g : Gone 0 n (el l n n) := by
    have := gone_el (n := n) h n (Nat.le_refl n)
    rw [Nat.sub_self] at this
    exact this
  have e1 : (∃ y, Sat n y l) ↔ Sat n (fun _ => 0) (el l n n) := by
    rw [el_iff h n (Nat.le_refl n)]
    constructor
    · rintro ⟨y, q⟩
      exact ⟨y, fun i hi => by omega, q⟩
    · rintro ⟨y, _, q⟩
      exact ⟨y, q⟩
  rw [e1, List.find?_eq_none]
  have e2 : ∀ r ∈ el l n n, (¬ isBroken r = true) ↔ sat n (fun _ => 0) r := fun r hr => by
    unfold isBroken sat
    rw [dot_gone n fun i hi => g r hr i (Nat.zero_le i) hi]
    cases r.j with
    | true =>
      simp only [Bool.or_eq_true, Bool.and_eq_true, decide_eq_true_eq, if_true]
      grind
    | false =>
      simp only [Bool.or_eq_true, Bool.and_eq_true, decide_eq_true_eq, Bool.false_eq_true, if_false, false_and, or_false]
      grind
  exact ⟨fun q r hr => (e2 r hr).mp (q r hr), fun q r hr => (e2 r hr).mpr (q r hr)⟩
end K00
set_option Elab.async false
set_option linter.all false
set_option maxRecDepth 100000
set_option maxHeartbeats 1000000
/-! K00G: what each row is made of; end points of the last unknown. -/
namespace K00
def sumN : Nat → (Nat → Rat) → Rat
  | 0, _ => 0
  | m + 1, f => sumN m f + f m
theorem sumN_congr {f g : Nat → Rat} : ∀ m, (∀ i, i < m → f i = g i) → sumN m f = sumN m g
  | 0, _ => rfl
  | m + 1, h => by
    unfold sumN
    rw [sumN_congr m fun i hi => h i (by omega), h m (by omega)]
theorem sumN_mul {f : Nat → Rat} {a : Rat} : ∀ m, sumN m (fun i => f i * a) = sumN m f * a
  | 0 => by
    show (0 : Rat) = 0 * a
    grind
  | m + 1 => by
    unfold sumN
    rw [sumN_mul m]
    grind
theorem sumN_add {f g : Nat → Rat} {a : Rat} : ∀ m, sumN m (fun i => f i + a * g i) = sumN m f + a * sumN m g
  | 0 => by
    show (0 : Rat) = 0 + a * 0
    grind
  | m + 1 => by
    unfold sumN
    rw [sumN_add m]
    grind
theorem sumN_zero {f : Nat → Rat} : ∀ m, (∀ i, i < m → f i = 0) → sumN m f = 0
  | 0, _ => rfl
  | m + 1, h => by
    unfold sumN
    rw [sumN_zero m fun i hi => h i (by omega), h m (by omega)]
    grind
theorem sumN_one {f : Nat → Rat} {p : Nat} : ∀ m, p < m → (∀ i, i < m → i ≠ p → f i = 0) → sumN m f = f p
  | 0, h, _ => by omega
  | m + 1, h, q => by
    unfold sumN
    by_cases c : p = m
    · subst c
      rw [sumN_zero p fun i hi => q i (by omega) (by omega)]
      grind
    · rw [sumN_one m (by omega) fun i hi => q i (by omega), q m (by omega) (fun z => c z.symm)]
      grind
/-- made of the given rows, the marks behind its numbers -/
structure Comb (l : List Row) (n : Nat) (r : Row) : Prop where
  len : r.c.length = n + l.length
  co_ : ∀ i, i < n → co r.c i = sumN l.length fun p => co r.c (n + p) * co ((l[p]?).getD ⟨[], 0, false⟩).c i
  bd : r.b = sumN l.length fun p => co r.c (n + p) * ((l[p]?).getD ⟨[], 0, false⟩).b
  pos : ∀ p q, l[p]? = some q → q.j = false → 0 ≤ co r.c (n + p) ∧ (r.j = true → co r.c (n + p) = 0)
theorem comb_scaled {l : List Row} {n : Nat} {r : Row} {f : Rat} (h : Comb l n r) (hf : 0 < f) : Comb l n (scaled r f) := by
  unfold scaled
  refine ⟨by rw [List.length_map]; exact h.len, fun i hi => ?_, ?_, fun p q e1 e2 => ?_⟩
  · rw [co_map, h.co_ i hi, ← sumN_mul]
    refine sumN_congr _ fun p _ => ?_
    rw [co_map]
    grind
  · show r.b * f = _
    rw [h.bd, ← sumN_mul]
    refine sumN_congr _ fun p _ => ?_
    rw [co_map]
    grind
  · dsimp only
    rw [co_map]
    obtain ⟨a, b⟩ := h.pos p q e1 e2
    exact ⟨Rat.mul_nonneg a (Rat.le_of_lt hf), fun z => by rw [b z]; grind⟩
theorem comb_added {l : List Row} {n : Nat} {r s : Row} {f : Rat} {j : Bool} (hr : Comb l n r) (hs : Comb l n s) (hc : (0 < f ∧ j = false) ∨ (s.j = true ∧ (j = true → r.j = true))) : Comb l n (added r f s j) := by
  have hl := hr.len.trans hs.len.symm
  refine ⟨(added_len hl).trans hr.len, fun i hi => ?_, ?_, fun p q e1 e2 => ?_⟩
  · rw [co_added hl, hr.co_ i hi, hs.co_ i hi, ← sumN_add]
    refine sumN_congr _ fun p _ => ?_
    rw [co_added hl]
    grind
  · show r.b + f * s.b = _
    rw [hr.bd, hs.bd, ← sumN_add]
    refine sumN_congr _ fun p _ => ?_
    rw [co_added hl]
    grind
  · rw [co_added hl]
    obtain ⟨a, b⟩ := hr.pos p q e1 e2
    obtain ⟨a', b'⟩ := hs.pos p q e1 e2
    rcases hc with ⟨h1, h2⟩ | ⟨h1, h2⟩
    · refine ⟨Rat.add_nonneg a (Rat.mul_nonneg (Rat.le_of_lt h1) a'), fun z => ?_⟩
      have z : j = true := z
      rw [h2] at z
      cases z
    · rw [b' h1]
      refine ⟨by grind, fun z => ?_⟩
      rw [b (h2 z)]
      grind
theorem comb_shape {l : List Row} {n m : Nat} {r : Row} (h : Comb l n r) : Comb l n (shape r m) := by
  unfold shape
  split
  · rename_i a e
    have ha' : decide (a ≠ 0) = true := List.find?_some (p := fun a => decide (a ≠ 0)) (show (r.c.take m).find? (fun a => decide (a ≠ 0)) = some a from e)
    refine comb_scaled h ?_
    rw [Rat.div_def, Rat.one_mul]
    exact Rat.inv_pos.mpr (absQ_pos (of_decide_eq_true ha'))
  · exact h
theorem comb_tight {l rs : List Row} {n m : Nat} (h : ∀ r ∈ rs, Comb l n r) : ∀ r ∈ tightest rs m, Comb l n r :=
  tight_inv (len := n + l.length) (Comb l n) (fun r hr => (h r hr).len) (fun r hr => comb_shape (h r hr)) fun r o h1 h2 _ _ _ j1 j2 => comb_added h1 h2 (.inr ⟨j2, fun _ => j1⟩)
theorem comb_without {l rs : List Row} {n k m : Nat} (h : ∀ r ∈ rs, Comb l n r) : ∀ r ∈ without rs k m, Comb l n r := by
  unfold without
  split
  · refine comb_tight fun r hr => ?_
    rcases List.mem_append.mp hr with hr | hr
    · exact h r (List.mem_filter.mp hr).1
    · obtain ⟨u, hu, hr⟩ := List.mem_flatMap.mp hr
      obtain ⟨w, hw, rfl⟩ := List.mem_map.mp hr
      have hu' := List.mem_filter.mp hu
      have hw' := List.mem_filter.mp hw
      exact comb_added (h u hu'.1) (h w hw'.1) (.inl ⟨pos_div (of_decide_eq_true hu'.2) (of_decide_eq_true hw'.2), rfl⟩)
  · rename_i p e
    obtain ⟨used, e1, e2, _⟩ := firstJust_some e
    rw [e1]
    refine comb_tight fun r hr => ?_
    obtain ⟨r', hr', rfl⟩ := List.mem_map.mp hr
    have hm := h r' (List.mem_of_mem_eraseIdx hr')
    split
    · exact hm
    · exact comb_added hm (h used (List.mem_of_getElem? e1)) (.inr ⟨e2, fun z => z⟩)
theorem comb_el {l rs : List Row} {n N : Nat} (h : ∀ r ∈ rs, Comb l n r) : ∀ m, ∀ r ∈ el rs N m, Comb l n r
  | 0 => h
  | m + 1 => comb_without (comb_el h m)
/-- the rows with their marks -/
def unit (m p : Nat) : List Rat := (List.range m).map fun i => if p = i then 1 else 0
def marked (l : List Row) : List Row := l.mapIdx fun p r => ⟨r.c ++ unit l.length p, r.b, r.j⟩
theorem co_app {c d : List Rat} {n i : Nat} (hc : c.length = n) : co (c ++ d) i = if i < n then co c i else co d (i - n) := by
  unfold co
  rw [List.getD_eq_getElem?_getD, List.getD_eq_getElem?_getD, List.getD_eq_getElem?_getD]
  by_cases h : i < n
  · rw [if_pos h, List.getElem?_append_left (by omega)]
  · rw [if_neg h, List.getElem?_append_right (by omega), hc]
theorem co_unit {m p i : Nat} (hi : i < m) : co (unit m p) i = if p = i then 1 else 0 := by
  unfold co unit
  rw [List.getD_eq_getElem?_getD, List.getElem?_map, List.getElem?_range hi]
  rfl
theorem comb_marked {l : List Row} {n : Nat} (h : Len n l) : ∀ r ∈ marked l, Comb l n r := fun r hr => by
  obtain ⟨p, hp⟩ := List.mem_iff_getElem?.mp hr
  unfold marked at hp
  rw [List.getElem?_mapIdx] at hp
  obtain ⟨r0, h0, rfl⟩ := Option.map_eq_some_iff.mp hp
  have hl := h r0 (List.mem_of_getElem? h0)
  have pl : p < l.length := (List.getElem?_eq_some_iff.mp h0).1
  have um : ∀ q, q < l.length → co (r0.c ++ unit l.length p) (n + q) = if p = q then 1 else 0 := fun q hq => by
    rw [co_app hl, if_neg (by omega), Nat.add_sub_cancel_left, co_unit hq]
  refine ⟨by simp [unit, hl], fun i hi => ?_, ?_, fun q r1 e1 e2 => ?_⟩
  · dsimp only
    rw [sumN_one (p := p) _ pl fun q hq hne => by rw [um q hq, if_neg fun z => hne z.symm]; grind, um p pl, if_pos rfl, h0, co_app hl, if_pos hi]
    show co r0.c i = 1 * co r0.c i
    grind
  · dsimp only
    rw [sumN_one (p := p) _ pl fun q hq hne => by rw [um q hq, if_neg fun z => hne z.symm]; grind, um p pl, if_pos rfl, h0]
    show r0.b = 1 * r0.b
    grind
  · dsimp only
    have ql : q < l.length := (List.getElem?_eq_some_iff.mp e1).1
    rw [um q ql]
    by_cases c : p = q
    · rw [if_pos c]
      refine ⟨by grind, fun z => ?_⟩
      subst c
      rw [h0] at e1
      cases e1
      rw [e2] at z
      cases z
    · rw [if_neg c]
      exact ⟨Rat.le_refl, fun _ => rfl⟩
theorem marked_len {l : List Row} {n : Nat} (h : Len n l) : Len (n + l.length) (marked l) := fun r hr => (comb_marked h r hr).len
theorem marked_sat {l : List Row} {n : Nat} {x : Nat → Rat} (h : Len n l) : Sat n x (marked l) ↔ Sat n x l := by
  have e : ∀ p (r : Row), l[p]? = some r → (sat n x ⟨r.c ++ unit l.length p, r.b, r.j⟩ ↔ sat n x r) := fun p r hr => by
    have e0 : dot n (r.c ++ unit l.length p) x = dot n r.c x := dot_coef n (fun i hi => by rw [co_app (h r (List.mem_of_getElem? hr)), if_pos hi])
    unfold sat
    dsimp only
    rw [e0]
  constructor
  · intro q r hr
    obtain ⟨p, hp⟩ := List.mem_iff_getElem?.mp hr
    refine (e p r hp).mp (q _ (List.mem_of_getElem? (i := p) ?_))
    unfold marked
    rw [List.getElem?_mapIdx, hp]
    rfl
  · intro q r hr
    obtain ⟨p, hp⟩ := List.mem_iff_getElem?.mp hr
    unfold marked at hp
    rw [List.getElem?_mapIdx] at hp
    obtain ⟨r0, h0, rfl⟩ := Option.map_eq_some_iff.mp hp
    exact (e p r0 h0).mpr (q r0 (List.mem_of_getElem? h0))
/-- a refutation refutes -/
theorem refutes {l : List Row} {n : Nat} {r : Row} (h : Comb l n r) (h0 : ∀ i, i < n → co r.c i = 0) (hb : isBroken r = true) :
    (∀ i, i < n → sumN l.length (fun p => co r.c (n + p) * (-1 / r.b) * co ((l[p]?).getD ⟨[], 0, false⟩).c i) = 0) ∧ sumN l.length (fun p => co r.c (n + p) * (-1 / r.b) * ((l[p]?).getD ⟨[], 0, false⟩).b) = -1 ∧
    ∀ p q, l[p]? = some q → co r.c (n + p) * (-1 / r.b) < 0 → q.j = true := by
  have nb : r.b ≠ 0 := by
    unfold isBroken at hb
    simp only [Bool.or_eq_true, Bool.and_eq_true, decide_eq_true_eq] at hb
    grind
  refine ⟨fun i hi => ?_, ?_, fun p q e1 e2 => ?_⟩
  · rw [sumN_congr (g := fun p => co r.c (n + p) * co ((l[p]?).getD ⟨[], 0, false⟩).c i * (-1 / r.b)) _ fun p _ => by grind, sumN_mul, ← h.co_ i hi, h0 i hi]
    grind
  · rw [sumN_congr (g := fun p => co r.c (n + p) * ((l[p]?).getD ⟨[], 0, false⟩).b * (-1 / r.b)) _ fun p _ => by grind, sumN_mul, ← h.bd]
    have := Rat.div_mul_cancel (a := -1) nb
    grind
  · cases c : q.j with
    | true => rfl
    | false =>
      obtain ⟨a, b⟩ := h.pos p q e1 c
      unfold isBroken at hb
      simp only [Bool.or_eq_true, Bool.and_eq_true, decide_eq_true_eq] at hb
      rcases hb with hb | hb
      · have h1 : -1 / r.b = (-r.b)⁻¹ := by
          have h3 : (-r.b) * (-r.b)⁻¹ = 1 := Rat.mul_inv_cancel _ (by grind)
          have h4 : -1 / r.b * r.b = -1 := Rat.div_mul_cancel nb
          grind
        rw [h1] at e2
        have h2 : 0 < (-r.b)⁻¹ := Rat.inv_pos.mpr (by grind)
        have := Rat.mul_nonneg a (Rat.le_of_lt h2)
        grind
      · rw [b hb.1] at e2
        grind
end K00
set_option Elab.async false
set_option linter.all false
set_option maxRecDepth 100000
set_option maxHeartbeats 1000000
/-! K00H: the interval of one unknown. -/
namespace K00
def omax (o : Option Rat) (e : Rat) : Option Rat := match o with
  | none => some e
  | some v => if v < e then some e else some v
def ominR (o : Option Rat) (e : Rat) : Option Rat := match o with
  | none => some e
  | some v => if e < v then some e else some v
def ivStep (s : Option Rat × Option Rat) (r : Rat × Rat × Bool) : Option Rat × Option Rat :=
  if r.1 = 0 then s else (if r.2.2 = true ∨ r.1 < 0 then omax s.1 (r.2.1 / r.1) else s.1, if r.2.2 = true ∨ 0 < r.1 then ominR s.2 (r.2.1 / r.1) else s.2)
def ivF (rs : List (Rat × Rat × Bool)) : Option Rat × Option Rat := rs.foldl ivStep (none, none)
def above (o : Option Rat) (t : Rat) : Prop := ∀ v, o = some v → v ≤ t
def below (o : Option Rat) (t : Rat) : Prop := ∀ v, o = some v → t ≤ v
def sat1 (t : Rat) (r : Rat × Rat × Bool) : Prop := if r.2.2 = true then r.1 * t = r.2.1 else r.1 * t ≤ r.2.1
theorem above_max {o : Option Rat} {e t : Rat} : above (omax o e) t ↔ above o t ∧ e ≤ t := by
  unfold omax above
  cases o with
  | none => simp
  | some v =>
    dsimp only
    by_cases c : v < e
    · rw [if_pos c]
      simp only [Option.some.injEq, forall_eq']
      constructor
      · intro h; exact ⟨by grind, h⟩
      · intro h; exact h.2
    · rw [if_neg c]
      simp only [Option.some.injEq, forall_eq']
      constructor
      · intro h; exact ⟨h, by grind⟩
      · intro h; exact h.1
theorem below_min {o : Option Rat} {e t : Rat} : below (ominR o e) t ↔ below o t ∧ t ≤ e := by
  unfold ominR below
  cases o with
  | none => simp
  | some v =>
    dsimp only
    by_cases c : e < v
    · rw [if_pos c]
      simp only [Option.some.injEq, forall_eq']
      constructor
      · intro h; exact ⟨by grind, h⟩
      · intro h; exact h.2
    · rw [if_neg c]
      simp only [Option.some.injEq, forall_eq']
      constructor
      · intro h; exact ⟨h, by grind⟩
      · intro h; exact h.1
theorem step_iff {s : Option Rat × Option Rat} {r : Rat × Rat × Bool} {t : Rat} : (above (ivStep s r).1 t ∧ below (ivStep s r).2 t) ↔ (above s.1 t ∧ below s.2 t) ∧ (r.1 ≠ 0 → sat1 t r) := by
  unfold ivStep sat1
  by_cases c0 : r.1 = 0
  · rw [if_pos c0]
    exact ⟨fun h => ⟨h, fun z => absurd c0 z⟩, fun h => h.1⟩
  · rw [if_neg c0]
    dsimp only
    have e : r.2.1 / r.1 * r.1 = r.2.1 := Rat.div_mul_cancel c0
    by_cases cj : r.2.2 = true
    · rw [if_pos (.inl cj), if_pos (.inl cj), above_max, below_min, if_pos cj]
      generalize r.2.1 / r.1 = q at *
      rw [← e]
      constructor
      · rintro ⟨⟨h1, h2⟩, h3, h4⟩
        refine ⟨⟨h1, h3⟩, fun _ => ?_⟩
        have : t = q := by grind
        rw [this]
        grind
      · rintro ⟨⟨h1, h3⟩, h4⟩
        have h5 := h4 c0
        have : (t - q) * r.1 = 0 := by grind
        have : t = q := by
          rcases Rat.mul_eq_zero.mp this with z | z
          · grind
          · exact absurd z c0
        exact ⟨⟨h1, by grind⟩, h3, by grind⟩
    · rw [if_neg cj]
      by_cases cn : r.1 < 0
      · have cp : ¬ 0 < r.1 := by grind
        rw [if_pos (.inr cn), if_neg (by simp [cj, cp]), above_max]
        rw [neg_le cn]
        constructor
        · rintro ⟨⟨h1, h2⟩, h3⟩; exact ⟨⟨h1, h3⟩, fun _ => h2⟩
        · rintro ⟨⟨h1, h3⟩, h2⟩; exact ⟨⟨h1, h2 c0⟩, h3⟩
      · have cp : 0 < r.1 := by grind
        rw [if_neg (by simp [cj, cn]), if_pos (.inr cp), below_min]
        rw [pos_le cp]
        constructor
        · rintro ⟨h1, h2, h3⟩; exact ⟨⟨h1, h2⟩, fun _ => h3⟩
        · rintro ⟨⟨h1, h2⟩, h3⟩; exact ⟨h1, h2, h3 c0⟩
theorem iv_iff {rs : List (Rat × Rat × Bool)} {t : Rat} : (above (ivF rs).1 t ∧ below (ivF rs).2 t) ↔ ∀ r ∈ rs, r.1 ≠ 0 → sat1 t r := by
  have all : ∀ (rs : List (Rat × Rat × Bool)) (s : Option Rat × Option Rat), (above (rs.foldl ivStep s).1 t ∧ below (rs.foldl ivStep s).2 t) ↔ (above s.1 t ∧ below s.2 t) ∧ ∀ r ∈ rs, r.1 ≠ 0 → sat1 t r := by
    intro rs
    induction rs with
    | nil => intro s; exact ⟨fun h => ⟨h, fun r hr => by cases hr⟩, fun h => h.1⟩
    | cons r rs ih =>
      intro s
      rw [List.foldl_cons, ih, step_iff]
      constructor
      · rintro ⟨⟨a, b⟩, c⟩
        exact ⟨a, fun q hq => by rcases List.mem_cons.mp hq with rfl | hq; exact b; exact c q hq⟩
      · rintro ⟨a, b⟩
        exact ⟨⟨a, b r List.mem_cons_self⟩, fun q hq => b q (List.mem_cons_of_mem _ hq)⟩
  unfold ivF
  rw [all]
  exact ⟨fun h => h.2, fun h => ⟨⟨fun v hv => (by cases hv), fun v hv => (by cases hv)⟩, h⟩⟩
/-- the rows of step k + 1 with values for the first k unknowns -/
def withV (l : List Row) (v : List Rat) (k : Nat) : List (Rat × Rat × Bool) := l.map fun r => (co r.c k, r.b - dot k r.c (fun i => co v i), r.j)
theorem dot_prefix {c : List Rat} {x : Nat → Rat} {k : Nat} : ∀ n, k < n → (∀ i, k + 1 ≤ i → i < n → co c i = 0) → dot n c x = dot k c x + co c k * x k
  | 0, h, _ => by omega
  | n + 1, h, g => by
    show dot n _ x + co _ n * x n = _
    by_cases c : k = n
    · subst c; rfl
    · rw [dot_prefix n (by omega) fun i h1 h2 => g i h1 (by omega), g n (by omega) (by omega)]
      grind
/-- THE INTERVAL: the values of unknown k that go with v -/
theorem interval_iff {l : List Row} {n len k : Nat} {v : List Rat} {t : Rat} (h : Len len l) (hk : k < n) (hf : ∃ y, Sat n y l ∧ ∀ i, i < k → y i = co v i) :
    (above (ivF (withV (el l n (n - 1 - k)) v k)).1 t ∧ below (ivF (withV (el l n (n - 1 - k)) v k)).2 t) ↔ ∃ y, Sat n y l ∧ (∀ i, i < k → y i = co v i) ∧ y k = t := by
  have e1 : n - (n - 1 - k) = k + 1 := by omega
  have g : Gone (k + 1) n (el l n (n - 1 - k)) := by
    have := gone_el (n := n) h (n - 1 - k) (by omega)
    rw [e1] at this
    exact this
  have el1 := el_iff (n := n) h (n - 1 - k) (by omega)
  rw [e1] at el1
  have key : ∀ (r : Row), r ∈ el l n (n - 1 - k) → ∀ x : Nat → Rat, (∀ i, i < k → x i = co v i) → (sat n x r ↔ sat1 (x k) (co r.c k, r.b - dot k r.c (fun i => co v i), r.j)) := fun r hr x hx => by
    unfold sat sat1
    dsimp only
    rw [dot_prefix n hk fun i h1 h2 => g r hr i h1 h2, dot_congr (y := fun i => co v i) k fun i hi => .inr (hx i hi)]
    cases r.j with
    | true => simp only [if_true]; constructor <;> (intro q; grind)
    | false => simp only [Bool.false_eq_true, if_false]; constructor <;> (intro q; grind)
  obtain ⟨y0, s0, p0⟩ := hf
  have s0' : Sat n y0 (el l n (n - 1 - k)) := (el1 y0).mpr ⟨y0, fun _ _ => rfl, s0⟩
  have xt : ∀ i, i < k → at_ y0 k t i = co v i := fun i hi => by
    unfold at_
    rw [if_neg (by omega)]
    exact p0 i hi
  have xk : at_ y0 k t k = t := by unfold at_; rw [if_pos rfl]
  have mid : Sat n (at_ y0 k t) (el l n (n - 1 - k)) ↔ ∃ y, Sat n y l ∧ (∀ i, i < k → y i = co v i) ∧ y k = t := by
    rw [el1]
    constructor
    · rintro ⟨y, q1, q2⟩
      exact ⟨y, q2, fun i hi => (q1 i (by omega)).trans (xt i hi), (q1 k (by omega)).trans xk⟩
    · rintro ⟨y, q1, q2, q3⟩
      refine ⟨y, fun i hi => ?_, q1⟩
      by_cases c : i = k
      · rw [c, q3, xk]
      · rw [q2 i (by omega), xt i (by omega)]
  rw [← mid, iv_iff]
  constructor
  · intro q r hr
    rw [key r hr _ xt, xk]
    by_cases c : co r.c k = 0
    · have := (key r hr y0 p0).mp (s0' r hr)
      unfold sat1 at this ⊢
      dsimp only at this ⊢
      rw [c] at this ⊢
      have z1 : (0 : Rat) * y0 k = 0 := by grind
      have z2 : (0 : Rat) * t = 0 := by grind
      rw [z1] at this
      rw [z2]
      exact this
    · exact q _ (List.mem_map.mpr ⟨r, hr, rfl⟩) c
  · intro q r hr _
    obtain ⟨r', hr', rfl⟩ := List.mem_map.mp hr
    have := (key r' hr' _ xt).mp (q r' hr')
    rw [xk] at this
    exact this
/-- one set, one pair of ends -/
theorem ends_eq {a b c d : Option Rat} {t0 : Rat} (h0 : above a t0 ∧ below b t0) (h : ∀ t, (above a t ∧ below b t) ↔ (above c t ∧ below d t)) : a = c ∧ b = d := by
  have h1 := (h t0).mp h0
  have low : ∀ {a b c d : Option Rat}, above a t0 ∧ below b t0 → above c t0 ∧ below d t0 → (∀ t, (above a t ∧ below b t) ↔ (above c t ∧ below d t)) → ∀ v, a = some v → ∃ w, c = some w ∧ v ≤ w := fun {a b c d} h0 h1 h v e => by
    cases hc : c with
    | none =>
      have := (h (v - 1)).mpr ⟨by rw [hc]; exact fun _ z => (by cases z), fun w hw => by have := h1.2 w hw; have := h0.1 v e; grind⟩
      have := this.1 v e
      grind
    | some w =>
      refine ⟨w, rfl, ?_⟩
      have hw := h1.1 w hc
      have := (h w).mpr ⟨fun u hu => by rw [hc] at hu; cases hu; exact Rat.le_refl, fun u hu => by have := h1.2 u hu; grind⟩
      exact this.1 v e
  have up : ∀ {a b c d : Option Rat}, above a t0 ∧ below b t0 → above c t0 ∧ below d t0 → (∀ t, (above a t ∧ below b t) ↔ (above c t ∧ below d t)) → ∀ v, b = some v → ∃ w, d = some w ∧ w ≤ v := fun {a b c d} h0 h1 h v e => by
    cases hd : d with
    | none =>
      have := (h (v + 1)).mpr ⟨fun w hw => by have := h1.1 w hw; have := h0.2 v e; grind, by rw [hd]; exact fun _ z => (by cases z)⟩
      have := this.2 v e
      grind
    | some w =>
      refine ⟨w, rfl, ?_⟩
      have hw := h1.2 w hd
      have := (h w).mpr ⟨fun u hu => by have := h1.1 u hu; grind, fun u hu => by rw [hd] at hu; cases hu; exact Rat.le_refl⟩
      exact this.2 v e
  have hsym : ∀ t, (above c t ∧ below d t) ↔ (above a t ∧ below b t) := fun t => (h t).symm
  constructor
  · cases ha : a with
    | none =>
      cases hc : c with
      | none => rfl
      | some w =>
        obtain ⟨v, e, _⟩ := low h1 h0 hsym w hc
        rw [ha] at e
        cases e
    | some v =>
      obtain ⟨w, e1, l1⟩ := low h0 h1 h v ha
      obtain ⟨v', e2, l2⟩ := low h1 h0 hsym w e1
      rw [ha] at e2
      cases e2
      rw [e1]
      exact congrArg some (Rat.le_antisymm l1 l2)
  · cases hb : b with
    | none =>
      cases hd : d with
      | none => rfl
      | some w =>
        obtain ⟨v, e, _⟩ := up h1 h0 hsym w hd
        rw [hb] at e
        cases e
    | some v =>
      obtain ⟨w, e1, l1⟩ := up h0 h1 h v hb
      obtain ⟨v', e2, l2⟩ := up h1 h0 hsym w e1
      rw [hb] at e2
      cases e2
      rw [e1]
      exact congrArg some (Rat.le_antisymm l2 l1)
end K00
set_option Elab.async false
set_option linter.all false
set_option maxRecDepth 100000
set_option maxHeartbeats 1000000
/-! K00I: both ways find the same values. -/
namespace K00
/-- twelve times the values, the ground at 0 -/
def toX (n : Nat) (y : Nat → Rat) : Nat → Rat := fun i => if i < n then 12 * y i else 0
def pickM (M : Mx) (n k : Nat) : Int :=
  let v0 : Int := match M k n with
    | some a => if a < 0 then -a else 0
    | none => 0
  match M n k with
    | some b => if b < 0 then b else v0
    | none => v0
def nextM (n k : Nat) (M : Mx) : Mx := close (n + 1) (relax (relax M n k (pickM M n k)) k n (-(pickM M n k)))
def runM (n : Nat) (M : Mx) : Nat → Mx × List Int
  | 0 => (M, [])
  | k + 1 => (nextM n k (runM n M k).1, (runM n M k).2 ++ [pickM (runM n M k).1 n k])
def pickF (s : Option Rat × Option Rat) : Rat := match s.1 with
  | some a => if 0 < a then a else (match s.2 with
    | some b => if b < 0 then b else 0
    | none => 0)
  | none => match s.2 with
    | some b => if b < 0 then b else 0
    | none => 0
def runF (l : List Row) (n : Nat) : Nat → List Rat
  | 0 => []
  | k + 1 => runF l n k ++ [pickF (ivF (withV (el l n (n - 1 - k)) (runF l n k) k))]
theorem runF_len {l : List Row} {n : Nat} : ∀ k, (runF l n k).length = k
  | 0 => rfl
  | k + 1 => by
    unfold runF
    rw [List.length_append, runF_len k]
    rfl
theorem runM_len {M : Mx} {n : Nat} : ∀ k, (runM n M k).2.length = k
  | 0 => rfl
  | k + 1 => by
    unfold runM
    dsimp only
    rw [List.length_append, runM_len k]
    rfl
/-- the ends as the bounds say -/
def endsM (M : Mx) (n k : Nat) : Option Rat × Option Rat := ((M k n).map fun (a : Int) => -(a : Rat) / 12, (M n k).map fun (b : Int) => (b : Rat) / 12)
theorem pick_eq {M : Mx} {n k : Nat} (h : ∀ a b, M k n = some a → M n k = some b → -(a : Rat) ≤ (b : Rat)) : pickF (endsM M n k) = (pickM M n k : Rat) / 12 := by
  have d12 : ∀ r : Rat, r / 12 = r * 12⁻¹ := fun r => Rat.div_def r 12
  have p12 : (0 : Rat) < 12⁻¹ := Rat.inv_pos.mpr (by decide)
  unfold pickF pickM endsM
  cases ha : M k n with
  | none =>
    cases hb : M n k with
    | none => simp [d12]
    | some b =>
      simp only [Option.map_none, Option.map_some]
      by_cases c : b < 0
      · have c' : (b : Rat) / 12 < 0 := by
          rw [d12]
          have := Rat.mul_pos (show 0 < -(b : Rat) by have := Rat.intCast_neg_iff.mpr c; grind) p12
          grind
        rw [if_pos c, if_pos c']
      · have c' : ¬ (b : Rat) / 12 < 0 := by
          rw [d12]
          have := Rat.mul_nonneg (Rat.intCast_nonneg.mpr (show 0 ≤ b by omega)) (Rat.le_of_lt p12)
          grind
        rw [if_neg c, if_neg c', d12]
        show (0 : Rat) = 0 * 12⁻¹
        grind
  | some a =>
    simp only [Option.map_some]
    by_cases c : a < 0
    · have c1 : 0 < -(a : Rat) := by have := Rat.intCast_neg_iff.mpr c; grind
      have c' : 0 < -(a : Rat) / 12 := by
        rw [d12]
        exact Rat.mul_pos c1 p12
      rw [if_pos c, if_pos c']
      cases hb : M n k with
      | none =>
        dsimp only
        rw [Rat.intCast_neg]
      | some b =>
        dsimp only
        have := h a b ha hb
        have nb : ¬ b < 0 := fun z => by
          have := Rat.intCast_neg_iff.mpr z
          grind
        rw [if_neg nb, Rat.intCast_neg]
    · have c1 : ¬ 0 < -(a : Rat) / 12 := by
        rw [d12]
        have := Rat.mul_nonneg (Rat.intCast_nonneg.mpr (show 0 ≤ a by omega)) (Rat.le_of_lt p12)
        grind
      rw [if_neg c, if_neg c1]
      cases hb : M n k with
      | none =>
        simp only [Option.map_none]
        rw [d12]
        show (0 : Rat) = 0 * 12⁻¹
        grind
      | some b =>
        simp only [Option.map_some]
        by_cases cb : b < 0
        · have c' : (b : Rat) / 12 < 0 := by
            rw [d12]
            have := Rat.mul_pos (show 0 < -(b : Rat) by have := Rat.intCast_neg_iff.mpr cb; grind) p12
            grind
          rw [if_pos cb, if_pos c']
        · have c' : ¬ (b : Rat) / 12 < 0 := by
            rw [d12]
            have := Rat.mul_nonneg (Rat.intCast_nonneg.mpr (show 0 ≤ b by omega)) (Rat.le_of_lt p12)
            grind
          rw [if_neg cb, if_neg c', d12]
          show (0 : Rat) = 0 * 12⁻¹
          grind
theorem pickF_in {s : Option Rat × Option Rat} {t : Rat} (h : above s.1 t ∧ below s.2 t) : above s.1 (pickF s) ∧ below s.2 (pickF s) := by
  obtain ⟨a, b⟩ := s
  obtain ⟨h1, h2⟩ := h
  dsimp only at h1 h2
  unfold pickF above below at *
  cases a with
  | none =>
    cases b with
    | none => exact ⟨fun v z => (by cases z), fun v z => (by cases z)⟩
    | some b =>
      refine ⟨fun v z => (by cases z), fun v z => ?_⟩
      cases z
      dsimp only
      split <;> grind
  | some a =>
    cases b with
    | none =>
      refine ⟨fun v z => ?_, fun v z => (by cases z)⟩
      cases z
      dsimp only
      split <;> grind
    | some b =>
      have q1 := h1 a rfl
      have q2 := h2 b rfl
      refine ⟨fun v z => ?_, fun v z => ?_⟩ <;> cases z <;> dsimp only <;> split <;> first | grind | (split <;> grind)
theorem sol_congr {N : Nat} {M : Mx} {x y : Nat → Rat} (h : ∀ i, i < N → x i = y i) : Sol N M x ↔ Sol N M y :=
  ⟨fun q a b ha hb v e => by rw [← h a ha, ← h b hb]; exact q a b ha hb v e, fun q a b ha hb v e => by rw [h a ha, h b hb]; exact q a b ha hb v e⟩
theorem relax_iff {N : Nat} {M : Mx} {x : Nat → Rat} {i j : Nat} {w : Int} (hi : i < N) (hj : j < N) : Sol N (relax M i j w) x ↔ Sol N M x ∧ x j - x i ≤ (w : Rat) := by
  constructor
  · intro s
    refine ⟨sol_down down_relax s, ?_⟩
    obtain ⟨u, e, l, _⟩ := omin_le (o := M i j) (w := w)
    have := s i j hi hj u (by unfold relax; rw [if_pos ⟨rfl, rfl⟩, e])
    have l' : (u : Rat) ≤ (w : Rat) := Rat.intCast_le_intCast.mpr l
    grind
  · rintro ⟨s, h⟩
    exact sol_relax h s
def coI (l : List Int) (i : Nat) : Int := l.getD i 0
theorem coI_app {l : List Int} {v : Int} {i : Nat} : coI (l ++ [v]) i = if i < l.length then coI l i else if i = l.length then v else 0 := by
  unfold coI
  rw [List.getD_eq_getElem?_getD, List.getD_eq_getElem?_getD]
  by_cases c : i < l.length
  · rw [if_pos c, List.getElem?_append_left c]
  · rw [if_neg c, List.getElem?_append_right (by omega)]
    by_cases d : i = l.length
    · rw [if_pos d, d, Nat.sub_self]; rfl
    · rw [if_neg d, List.getElem?_eq_none (by simp; omega)]; rfl
theorem co_snoc {l : List Rat} {v : Rat} {i : Nat} : co (l ++ [v]) i = if i < l.length then co l i else if i = l.length then v else 0 := by
  rw [co_app (n := l.length) rfl]
  by_cases c : i < l.length
  · rw [if_pos c, if_pos c]
  · rw [if_neg c, if_neg c]
    by_cases d : i = l.length
    · rw [if_pos d, d, Nat.sub_self]; rfl
    · rw [if_neg d]
      unfold co
      rw [List.getD_eq_getElem?_getD, List.getElem?_eq_none (by simp; omega)]; rfl
structure RI (l : List Row) (n : Nat) (M0 : Mx) (k : Nat) : Prop where
  clo : ∃ X, (runM n M0 k).1 = close (n + 1) X
  sol : ∀ x, Sol (n + 1) (runM n M0 k).1 x ↔ Sol (n + 1) M0 x ∧ ∀ i, i < k → x i - x n = (coI (runM n M0 k).2 i : Rat)
  fea : ∃ y, Sat n y l ∧ ∀ i, i < k → y i = co (runF l n k) i
  eq : ∀ i, i < k → 12 * co (runF l n k) i = (coI (runM n M0 k).2 i : Rat)
theorem twelve {a : Rat} : 12 * (a / 12) = a := by
  have := Rat.div_mul_cancel (a := a) (b := 12) (by decide)
  grind
/-- the ends of one unknown -/
theorem run_ends {l : List Row} {n len k : Nat} {M0 : Mx} (hl : Len len l) (hM : ∀ y, Sat n y l ↔ Sol (n + 1) M0 (toX n y)) (hk : k < n) (r : RI l n M0 k) :
    ivF (withV (el l n (n - 1 - k)) (runF l n k) k) = endsM (runM n M0 k).1 n k ∧ ∀ y, Sat n y l → (∀ i, i < k → y i = co (runF l n k) i) → Sol (n + 1) (runM n M0 k).1 (toX n y) := by
  obtain ⟨X, hX⟩ := r.clo
  obtain ⟨y0, s0, p0⟩ := r.fea
  -- what the bounds allow is what the rows allow
  have toS : ∀ y, Sat n y l → (∀ i, i < k → y i = co (runF l n k) i) → Sol (n + 1) (close (n + 1) X) (toX n y) := fun y h1 h2 => by
    rw [← hX, r.sol]
    refine ⟨(hM y).mp h1, fun i hi => ?_⟩
    rw [← r.eq i hi, ← h2 i hi]
    unfold toX
    rw [if_pos (by omega), if_neg (by omega)]
    grind
  have g : Dg (n + 1) (close (n + 1) X) := dg_iff.mpr ⟨_, sol_iff.mp (toS y0 s0 p0)⟩
  have ends : ∀ t, (above (ivF (withV (el l n (n - 1 - k)) (runF l n k) k)).1 t ∧ below (ivF (withV (el l n (n - 1 - k)) (runF l n k) k)).2 t) ↔ (above (endsM (close (n + 1) X) n k).1 t ∧ below (endsM (close (n + 1) X) n k).2 t) := fun t => by
    rw [interval_iff hl hk ⟨y0, s0, p0⟩]
    constructor
    · rintro ⟨y, h1, h2, h3⟩
      have s := toS y h1 h2
      have xk : toX n y k = 12 * t := by unfold toX; rw [if_pos hk, h3]
      have xn : toX n y n = 0 := by unfold toX; rw [if_neg (by omega)]
      constructor
      · intro v hv
        obtain ⟨a, e1, rfl⟩ := Option.map_eq_some_iff.mp hv
        have := s k n (by omega) (by omega) a e1
        rw [xk, xn] at this
        have e := twelve (a := -(a : Rat))
        grind
      · intro v hv
        obtain ⟨b, e1, rfl⟩ := Option.map_eq_some_iff.mp hv
        have := s n k (by omega) (by omega) b e1
        rw [xk, xn] at this
        have e := twelve (a := (b : Rat))
        grind
    · rintro ⟨h1, h2⟩
      obtain ⟨x, q1, q2, q3⟩ := tight (a := n) (b := k) (t := 12 * t) g (by omega) (by omega) (fun v e => by
        have := h2 _ (Option.map_eq_some_iff.mpr ⟨v, e, rfl⟩)
        have e := twelve (a := (v : Rat))
        grind) (fun v e => by
        have := h1 _ (Option.map_eq_some_iff.mpr ⟨v, e, rfl⟩)
        have e := twelve (a := -(v : Rat))
        grind) (by omega)
      have s := (r.sol x).mp (by rw [hX]; exact sol_iff.mpr q1)
      have ex : ∀ i, i < n + 1 → toX n (fun i => x i / 12) i = x i := fun i hi => by
        unfold toX
        by_cases c : i < n
        · rw [if_pos c]; exact twelve
        · rw [if_neg c]
          have : i = n := by omega
          rw [this, q2]
      refine ⟨fun i => x i / 12, (hM _).mpr ((sol_congr ex).mpr s.1), fun i hi => ?_, ?_⟩
      · have e1 := s.2 i hi
        rw [q2, ← r.eq i hi] at e1
        have e2 := twelve (a := x i)
        dsimp only
        grind
      · dsimp only
        rw [q3]
        have := twelve (a := 12 * t)
        grind
  have t0 := (interval_iff hl hk ⟨y0, s0, p0⟩).mpr ⟨y0, s0, p0, rfl⟩
  obtain ⟨e1, e2⟩ := ends_eq t0 ends
  refine ⟨by rw [hX]; exact Prod.ext e1 e2, ?_⟩
  rw [hX]
  exact toS
theorem run_step {l : List Row} {n len k : Nat} {M0 : Mx} (hl : Len len l) (hM : ∀ y, Sat n y l ↔ Sol (n + 1) M0 (toX n y)) (hk : k < n) (r : RI l n M0 k) : RI l n M0 (k + 1) := by
  obtain ⟨y0, s0, p0⟩ := r.fea
  obtain ⟨e3, toS⟩ := run_ends hl hM hk r
  have t0 := (interval_iff hl hk ⟨y0, s0, p0⟩).mpr ⟨y0, s0, p0, rfl⟩
  have pk : pickF (ivF (withV (el l n (n - 1 - k)) (runF l n k) k)) = (pickM (runM n M0 k).1 n k : Rat) / 12 := by
    rw [e3]
    refine pick_eq fun a b ha hb => ?_
    have s := toS y0 s0 p0
    have h1 := s k n (by omega) (by omega) a ha
    have h2 := s n k (by omega) (by omega) b hb
    grind
  obtain ⟨y, h1, h2, h3⟩ := (interval_iff hl hk ⟨y0, s0, p0⟩).mp (pickF_in t0)
  have lF := runF_len (l := l) (n := n) k
  have lM := runM_len (M := M0) (n := n) k
  refine ⟨⟨_, rfl⟩, fun x => ?_, ⟨y, h1, fun i hi => ?_⟩, fun i hi => ?_⟩
  · show Sol (n + 1) (nextM n k (runM n M0 k).1) x ↔ _
    unfold nextM
    rw [sol_iff, relax_iff (by omega) (by omega), relax_iff (by omega) (by omega), r.sol]
    show _ ↔ Sol (n + 1) M0 x ∧ ∀ i, i < k + 1 → x i - x n = (coI ((runM n M0 k).2 ++ [pickM (runM n M0 k).1 n k]) i : Rat)
    constructor
    · rintro ⟨⟨⟨a, b⟩, c⟩, d⟩
      refine ⟨a, fun i hi => ?_⟩
      rw [coI_app, lM]
      by_cases z : i < k
      · rw [if_pos z]; exact b i z
      · have : i = k := by omega
        rw [if_neg z, if_pos this, this]
        rw [Rat.intCast_neg] at d
        grind
    · rintro ⟨a, b⟩
      have hb := b k (by omega)
      rw [coI_app, lM, if_neg (by omega), if_pos rfl] at hb
      refine ⟨⟨⟨a, fun i hi => ?_⟩, by grind⟩, by rw [Rat.intCast_neg]; grind⟩
      have := b i (by omega)
      rw [coI_app, lM, if_pos hi] at this
      exact this
  · show y i = co (runF l n k ++ [_]) i
    rw [co_snoc, lF]
    by_cases z : i < k
    · rw [if_pos z]; exact h2 i z
    · have : i = k := by omega
      rw [if_neg z, if_pos this, this]
      exact h3
  · show 12 * co (runF l n k ++ [_]) i = (coI ((runM n M0 k).2 ++ [_]) i : Rat)
    rw [co_snoc, lF, coI_app, lM]
    by_cases z : i < k
    · rw [if_pos z, if_pos z]; exact r.eq i z
    · have : i = k := by omega
      rw [if_neg z, if_pos this, if_neg z, if_pos this, pk]
      exact twelve
/-- BOTH FIND THE SAME -/
theorem run_eq {l : List Row} {n len : Nat} {X0 : Mx} (hl : Len len l) (hM : ∀ y, Sat n y l ↔ Sol (n + 1) (close (n + 1) X0) (toX n y)) (hf : ∃ y, Sat n y l) : ∀ k, k ≤ n → RI l n (close (n + 1) X0) k
  | 0, _ => ⟨⟨X0, rfl⟩, fun x => ⟨fun h => ⟨h, fun i hi => absurd hi (Nat.not_lt_zero i)⟩, fun h => h.1⟩, let ⟨y, s⟩ := hf; ⟨y, s, fun i hi => absurd hi (Nat.not_lt_zero i)⟩, fun i hi => absurd hi (Nat.not_lt_zero i)⟩
  | k + 1, hk => run_step hl hM (by omega) (run_eq hl hM hf k (by omega))
end K00
set_option Elab.async false
set_option linter.all false
set_option maxRecDepth 100000
set_option maxHeartbeats 1000000
/-! K00J: the matrix of bounds in the heap. -/
namespace K00
open SF PySem
def oi : Option Int → D
  | none => .non
  | some v => .int v
structure Mat (h : Hh) (f N : Nat) (rs : List Nat) (M : Mx) : Prop where
  len : rs.length = N
  nod : rs.Nodup
  self : f ∉ rs
  top : h[f]? = some (O.lst (rs.map D.ref))
  row : ∀ (i r : Nat), rs[i]? = some r → h[r]? = some (O.lst ((List.range N).map fun j => oi (M i j)))
section
variable {h h' : Hh} {f N : Nat} {rs : List Nat} {M : Mx} {i j : Nat}
theorem Mat.at (m : Mat h f N rs M) (hi : i < N) : ∃ r, rs[i]? = some r := ⟨rs[i]'(by rw [m.len]; exact hi), List.getElem?_eq_getElem _⟩
theorem Mat.ix1 (m : Mat h f N rs M) (hi : i < N) : ∃ r, rs[i]? = some r ∧ ix2 (.ref f) (.int (i : Int)) h = .ok (.ref r, h) ∧ ∀ j, j < N → ix2 (.ref r) (.int (j : Int)) h = .ok (oi (M i j), h) := by
  obtain ⟨r, hr⟩ := m.at hi
  refine ⟨r, hr, ?_, fun j hj => ?_⟩
  · have hl : i < (rs.map D.ref).length := by rw [List.length_map, m.len]; exact hi
    have := ix_ref m.top hl
    rw [this]
    congr 2
    rw [List.getElem_map]
    exact congrArg D.ref ((List.getElem?_eq_some_iff.mp hr).2)
  · have hl : j < ((List.range N).map fun j => oi (M i j)).length := by simpa using hj
    have := ix_ref (m.row i r hr) hl
    rw [this]
    congr 2
    simp
theorem range_set {g : Nat → D} {v : D} (hj : j < N) : ((List.range N).map g).set j v = (List.range N).map fun b => if b = j then v else g b := by
  refine List.ext_getElem? fun k => ?_
  by_cases c : j = k
  · subst c
    rw [List.getElem?_set_self (by simpa using hj), List.getElem?_map, List.getElem?_range hj]
    simp
  · rw [List.getElem?_set_ne c, List.getElem?_map, List.getElem?_map]
    by_cases d : k < N
    · rw [List.getElem?_range d]
      simp [Ne.symm c]
    · rw [List.getElem?_eq_none (by simpa using Nat.le_of_not_lt d)]
      rfl
theorem ixN_nat {n k : Nat} (hk : k < n) : L2.ixN n (k : Int) = some k := by
  unfold L2.ixN
  rw [if_pos (by omega), if_pos (by omega), Int.toNat_natCast]
theorem Mat.store {r : Nat} {w : Int} (m : Mat h f N rs M) (hr : rs[i]? = some r) (hj : j < N) (e : En) : evSub (.ref r) (.int (j : Int)) (.int w) e h = .ok (e, h.set r (.lst ((List.range N).map fun b => oi (if b = j then some w else M i b)))) := by
  unfold evSub
  dsimp only
  rw [m.row i r hr]
  dsimp only
  rw [ixN_nat (by simpa using hj)]
  dsimp only
  rw [range_set hj]
  congr 3
  refine congrArg O.lst (List.map_congr_left fun b _ => ?_)
  split <;> rfl
theorem Mat.set {r : Nat} {M' : Mx} (m : Mat h f N rs M) (hr : rs[i]? = some r) (h1 : ∀ a b, a ≠ i → M' a b = M a b) : Mat (h.set r (.lst ((List.range N).map fun b => oi (M' i b)))) f N rs M' := by
  have rl := m.row i r hr
  refine ⟨m.len, m.nod, m.self, ?_, fun a s hs => ?_⟩
  · rw [List.getElem?_set_ne fun z => m.self (by rw [← z]; exact List.mem_of_getElem? hr)]
    exact m.top
  · by_cases c : a = i
    · subst c
      rw [hr] at hs
      cases hs
      exact get_set rl
    · have : r ≠ s := fun z => by
        subst z
        obtain ⟨l1, e1⟩ := List.getElem?_eq_some_iff.mp hr
        obtain ⟨l2, e2⟩ := List.getElem?_eq_some_iff.mp hs
        exact c ((List.getElem_inj m.nod).mp (e2.trans e1.symm))
      rw [List.getElem?_set_ne this, m.row a s hs]
      congr 2
      exact List.map_congr_left fun b _ => by rw [h1 a b c]
theorem Mat.keep {l : List Nat} (m : Mat h f N rs M) (k : Keep l h h') (hf : f ∉ l) (hl : ∀ r ∈ rs, r ∉ l) : Mat h' f N rs M := ⟨m.len, m.nod, m.self, k.get m.top hf, fun i r hr => k.get (m.row i r hr) (hl r (List.mem_of_getElem? hr))⟩
theorem nearer_ok {n : Nat} {w : Int} (m : Mat h f N rs M) (hi : i < N) (hj : j < N) : Ok (C (n + 1) 38 [.ref f, .int (i : Int), .int (j : Int), .int w] h) fun _ h' => Mat h' f N rs (relax M i j w) ∧ Keep rs h h' := by
  obtain ⟨r, hr, e1, e2⟩ := m.ix1 hi
  have e3 := e2 j hj
  have rw1 : ∀ a b, a ≠ i → relax M i j w a b = M a b := fun a b c => by unfold relax; rw [if_neg fun z => c z.1]
  refine C_ok (f := f__law_nearer) rfl rfl fun call _ => ?_
  show Ok (evSs call gvals b__law_nearer [some (.ref f), some (.int i), some (.int j), some (.int w)] h) _
  unfold b__law_nearer
  have put : (relax M i j w i = fun b => if b = j then some w else M i b) → Ok (evSs call gvals (.cons (.asg (.sub (.ix (.var 0) (.var 1)) (.var 2)) (.var 3)) .nil) [some (.ref f), some (.int i), some (.int j), some (.int w)] h) fun fl h' =>
      fl = .nx [some (.ref f), some (.int i), some (.int j), some (.int w)] ∧ Mat h' f N rs (relax M i j w) ∧ Keep rs h h' := fun hrel => by
    refine ss_cons (Ok.of (a := .nx [some (.ref f), some (.int i), some (.int j), some (.int w)]) (h := h.set r (.lst ((List.range N).map fun b => oi (if b = j then some w else M i b)))) ?_ ?_)
    · simp only [runFn, evSs, evS, evE, evT, evEs, evO, evG, evGs, b_ok, ix0, ix1, ix2', o_add', o_sub', c_lt', c_le', c_gt', c_ge', c_eq', c_ne', List.length_cons, List.length_nil, List.map_cons, List.map_nil, List.replicate, Nat.sub_self, Nat.add_sub_cancel, List.cons_append, List.nil_append, List.append_nil, List.getElem?_cons_zero, List.getElem?_cons_succ, List.set_cons_zero, List.set_cons_succ, if_true, if_false, ite_true, ite_false, reduceIte, Nat.reduceAdd, Nat.reduceSub, Nat.reduceLT, Nat.zero_add, Bool.true_and, Bool.and_true, e1, m.store hr hj]
    · refine ss_nil ⟨rfl, ?_, Keep.set (List.mem_of_getElem? hr)⟩
      have := m.set (M' := relax M i j w) hr rw1
      rw [hrel] at this
      exact this
  cases hm : M i j with
  | none =>
    rw [hm] at e3
    refine ss_cons (s_if (Ok.of (a := true) (h := h) ?_ ?_))
    · simp only [runFn, evSs, evS, evE, evT, evEs, evO, evG, evGs, b_ok, ix0, ix1, ix2', o_add', o_sub', c_lt', c_le', c_gt', c_ge', c_eq', c_ne', List.length_cons, List.length_nil, List.map_cons, List.map_nil, List.replicate, Nat.sub_self, Nat.add_sub_cancel, List.cons_append, List.nil_append, List.append_nil, List.getElem?_cons_zero, List.getElem?_cons_succ, List.set_cons_zero, List.set_cons_succ, if_true, if_false, ite_true, ite_false, reduceIte, Nat.reduceAdd, Nat.reduceSub, Nat.reduceLT, Nat.zero_add, Bool.true_and, Bool.and_true, e1, e3, oi, cmp2, if_true]
    · rw [if_pos rfl]
      refine (put ?_).imp fun fl h' q => ?_
      · funext b
        unfold relax
        by_cases c : b = j
        · rw [if_pos ⟨rfl, c⟩, if_pos c, hm]; rfl
        · rw [if_neg fun z => c z.2, if_neg c]
      · obtain ⟨rfl, q1, q2⟩ := q
        exact ss_nil ⟨q1, q2⟩
  | some v =>
    rw [hm] at e3
    refine ss_cons (s_if (Ok.of (a := decide (w < v)) (h := h) ?_ ?_))
    · simp only [runFn, evSs, evS, evE, evT, evEs, evO, evG, evGs, b_ok, ix0, ix1, ix2', o_add', o_sub', c_lt', c_le', c_gt', c_ge', c_eq', c_ne', List.length_cons, List.length_nil, List.map_cons, List.map_nil, List.replicate, Nat.sub_self, Nat.add_sub_cancel, List.cons_append, List.nil_append, List.append_nil, List.getElem?_cons_zero, List.getElem?_cons_succ, List.set_cons_zero, List.set_cons_succ, if_true, if_false, ite_true, ite_false, reduceIte, Nat.reduceAdd, Nat.reduceSub, Nat.reduceLT, Nat.zero_add, Bool.true_and, Bool.and_true, e1, e3, oi, cmp2, if_true, if_false, Bool.false_eq_true]
    · by_cases c : w < v
      · rw [if_pos (decide_eq_true c)]
        refine (put ?_).imp fun fl h' q => ?_
        · funext b
          unfold relax
          by_cases c2 : b = j
          · rw [if_pos ⟨rfl, c2⟩, if_pos c2, hm]
            unfold omin
            dsimp only
            rw [if_pos c]
          · rw [if_neg fun z => c2 z.2, if_neg c2]
        · obtain ⟨rfl, q1, q2⟩ := q
          exact ss_nil ⟨q1, q2⟩
      · rw [if_neg (by simpa using c)]
        refine ss_nil (ss_nil ⟨?_, Keep.refl⟩)
        have e : relax M i j w = M := by
          funext a b
          unfold relax
          by_cases c2 : a = i ∧ b = j
          · rw [if_pos c2, c2.1, c2.2, hm]
            unfold omin
            dsimp only
            rw [if_neg c]
          · rw [if_neg c2]
        rw [e]
        exact m
theorem rng_fmt {n : Nat} : (((n : Int) - 0).toNat) = n := by omega
theorem close_ok {n : Nat} (m : Mat h f N rs M) (hN : N ≤ 100) : Ok (C (n + 2) 39 [.ref f] h) fun _ h' => Mat h' f N rs (close N M) ∧ Keep rs h h' := by
  have near := fun (h : Hh) (M : Mx) (i j : Nat) (w : Int) (m : Mat h f N rs M) (hi : i < N) (hj : j < N) => nearer_ok (n := n) (w := w) m hi hj
  refine C_ok (f := f__law_close) rfl rfl fun call hc => ?_
  rw [← hc] at near
  show Ok (evSs call gvals b__law_close [some (.ref f), none, none, none, none] h) _
  unfold b__law_close
  have ml : (rs.map D.ref).length = N := by rw [List.length_map, m.len]
  refine ss_cons (s_asg (by simp) (Ok.of (a := .int (N : Int)) (h := h) (by simp only [runFn, evSs, evS, evE, evT, evEs, evO, evG, evGs, b_ok, ix0, ix1, ix2', o_add', o_sub', c_lt', c_le', c_gt', c_ge', c_eq', c_ne', List.length_cons, List.length_nil, List.map_cons, List.map_nil, List.replicate, Nat.sub_self, Nat.add_sub_cancel, List.cons_append, List.nil_append, List.append_nil, List.getElem?_cons_zero, List.getElem?_cons_succ, List.set_cons_zero, List.set_cons_succ, if_true, if_false, ite_true, ite_false, reduceIte, Nat.reduceAdd, Nat.reduceSub, Nat.reduceLT, Nat.zero_add, Bool.true_and, Bool.and_true, b_lenR m.top, ml]) ?_))
  dsimp only [List.set_cons_zero, List.set_cons_succ]
  have big : ((N : Int) < 2 ^ 61) := by omega
  -- the walk through all nodes
  have walk : ∀ (e : En) (h : Hh) (vr : Nat) (b : Ss) (Q : Fl → Hh → Prop) (P : Nat → Mx → Mx) (M : Mx) (E : En → Prop), e[1]? = some (some (.int (N : Int))) → E e → Mat h f N rs M →
      (∀ (i : Nat) (e2 : En) (h2 : Hh) (X : Mx), i < N → E e2 → Mat h2 f N rs X → Ok (evG call gvals (.var vr) (.int (0 + (i : Int))) e2 h2 >>= fun q => evSs call gvals b q.1 q.2) fun fl h' => ∃ e', fl = .nx e' ∧ E e' ∧ Mat h' f N rs (P i X) ∧ Keep rs h2 h') →
      (∀ e2 h2, E e2 → Mat h2 f N rs (iter P N M) → Keep rs h h2 → Q (.nx e2) h2) →
      Ok (evS call gvals (.for_ (.var vr) (.rng (.lit (.int 0)) (.var 1)) b) e h) Q := fun e h vr b Q P M E he hE hM step fin => by
    refine s_for (rng_ok (i := 0) (j := (N : Int)) rfl ?_ (by decide) (by decide) (by omega) big ?_)
    · unfold evE
      rw [he]
    · have hm : It.most h (.rng 0 1 ((N : Int) - 0).toNat) = N := rng_fmt
      rw [hm, rng_fmt]
      refine ⟨fun i e2 h2 => E e2 ∧ Mat h2 f N rs (iter P i M) ∧ Keep rs h h2, ⟨hE, hM, Keep.refl⟩, ?_⟩
      rintro i e2 h2 ⟨q1, q2, q3⟩ le
      rcases Nat.eq_or_lt_of_le le with e | lt
      · refine .inl ⟨e, by rw [e]; exact rng_end, fin e2 h2 q1 (by have q := q2; rw [e] at q; exact q) q3⟩
      · refine .inr ⟨lt, .int (0 + i), rng_next lt, (step i e2 h2 _ lt q1 q2).imp fun fl h' q => ?_⟩
        obtain ⟨e', rfl, r1, r2, r3⟩ := q
        exact ⟨r1, r2, q3.trans r3⟩
  refine ss_cons (walk _ h 2 _ _ (stage N) M (fun e => ∃ a b c, e = [some (.ref f), some (.int (N : Int)), a, b, c]) rfl ⟨_, _, _, rfl⟩ m ?_ fun e2 h2 _ q2 q3 => ss_nil ⟨q2, q3⟩)
  rintro j e2 h2 X hj ⟨a, b, c, rfl⟩ mX
  refine Ok.bind (Ok.of (a := [some (.ref f), some (.int (N : Int)), some (.int (0 + (j : Int))), b, c]) (by ((simp only [runFn, evSs, evS, evE, evT, evEs, evO, evG, evGs, b_ok, ix0, ix1, ix2', o_add', o_sub', c_lt', c_le', c_gt', c_ge', c_eq', c_ne', List.length_cons, List.length_nil, List.map_cons, List.map_nil, List.replicate, Nat.sub_self, Nat.add_sub_cancel, List.cons_append, List.nil_append, List.append_nil, List.getElem?_cons_zero, List.getElem?_cons_succ, List.set_cons_zero, List.set_cons_succ, if_true, if_false, ite_true, ite_false, reduceIte, Nat.reduceAdd, Nat.reduceSub, Nat.reduceLT, Nat.zero_add, Bool.true_and, Bool.and_true]) <;> rfl)) ?_)
  have ej : (0 : Int) + (j : Int) = j := by omega
  rw [ej]
  refine ss_cons (walk _ h2 3 _ _ (fun i => iter (fun k => stp j i k) N) X (fun e => ∃ b c, e = [some (.ref f), some (.int (N : Int)), some (.int (j : Int)), b, c]) rfl ⟨_, _, rfl⟩ mX ?_ fun e3 h3 q1 q2 q3 => ss_nil ⟨e3, rfl, let ⟨b, c, z⟩ := q1; ⟨_, b, c, z⟩, q2, q3⟩)
  rintro i e3 h3 Y hi ⟨b, c, rfl⟩ mY
  refine Ok.bind (Ok.of (a := [some (.ref f), some (.int (N : Int)), some (.int (j : Int)), some (.int (0 + (i : Int))), c]) (by ((simp only [runFn, evSs, evS, evE, evT, evEs, evO, evG, evGs, b_ok, ix0, ix1, ix2', o_add', o_sub', c_lt', c_le', c_gt', c_ge', c_eq', c_ne', List.length_cons, List.length_nil, List.map_cons, List.map_nil, List.replicate, Nat.sub_self, Nat.add_sub_cancel, List.cons_append, List.nil_append, List.append_nil, List.getElem?_cons_zero, List.getElem?_cons_succ, List.set_cons_zero, List.set_cons_succ, if_true, if_false, ite_true, ite_false, reduceIte, Nat.reduceAdd, Nat.reduceSub, Nat.reduceLT, Nat.zero_add, Bool.true_and, Bool.and_true]) <;> rfl)) ?_)
  have ei : (0 : Int) + (i : Int) = i := by omega
  rw [ei]
  refine ss_cons (walk _ h3 4 _ _ (fun k => stp j i k) Y (fun e => ∃ c, e = [some (.ref f), some (.int (N : Int)), some (.int (j : Int)), some (.int (i : Int)), c]) rfl ⟨_, rfl⟩ mY ?_ fun e4 h4 q1 q2 q3 => ss_nil ⟨e4, rfl, let ⟨c, z⟩ := q1; ⟨_, c, z⟩, q2, q3⟩)
  rintro k e4 h4 Z hk ⟨c, rfl⟩ mZ
  refine Ok.bind (Ok.of (a := [some (.ref f), some (.int (N : Int)), some (.int (j : Int)), some (.int (i : Int)), some (.int (0 + (k : Int)))]) (by ((simp only [runFn, evSs, evS, evE, evT, evEs, evO, evG, evGs, b_ok, ix0, ix1, ix2', o_add', o_sub', c_lt', c_le', c_gt', c_ge', c_eq', c_ne', List.length_cons, List.length_nil, List.map_cons, List.map_nil, List.replicate, Nat.sub_self, Nat.add_sub_cancel, List.cons_append, List.nil_append, List.append_nil, List.getElem?_cons_zero, List.getElem?_cons_succ, List.set_cons_zero, List.set_cons_succ, if_true, if_false, ite_true, ite_false, reduceIte, Nat.reduceAdd, Nat.reduceSub, Nat.reduceLT, Nat.zero_add, Bool.true_and, Bool.and_true]) <;> rfl)) ?_)
  have ek : (0 : Int) + (k : Int) = k := by omega
  rw [ek]
  obtain ⟨r1, _, i1, i2⟩ := mZ.ix1 hi
  obtain ⟨r2, _, j1, j2⟩ := mZ.ix1 hj
  have i3 := i2 j hj
  have j3 := j2 k hk
  unfold stp
  cases h1 : Z i j with
  | none =>
    rw [h1] at i3
    refine ss_cons (s_if (Ok.of (a := false) (h := h4) (by simp only [runFn, evSs, evS, evE, evT, evEs, evO, evG, evGs, b_ok, ix0, ix1, ix2', o_add', o_sub', c_lt', c_le', c_gt', c_ge', c_eq', c_ne', List.length_cons, List.length_nil, List.map_cons, List.map_nil, List.replicate, Nat.sub_self, Nat.add_sub_cancel, List.cons_append, List.nil_append, List.append_nil, List.getElem?_cons_zero, List.getElem?_cons_succ, List.set_cons_zero, List.set_cons_succ, if_true, if_false, ite_true, ite_false, reduceIte, Nat.reduceAdd, Nat.reduceSub, Nat.reduceLT, Nat.zero_add, Bool.true_and, Bool.and_true, i1, i3, oi, cmp2, if_false, Bool.false_eq_true]) ?_))
    rw [if_neg Bool.false_ne_true]
    exact ss_nil (ss_nil ⟨_, rfl, ⟨_, rfl⟩, mZ, Keep.refl⟩)
  | some u =>
    rw [h1] at i3
    cases h2 : Z j k with
    | none =>
      rw [h2] at j3
      refine ss_cons (s_if (Ok.of (a := false) (h := h4) (by simp only [runFn, evSs, evS, evE, evT, evEs, evO, evG, evGs, b_ok, ix0, ix1, ix2', o_add', o_sub', c_lt', c_le', c_gt', c_ge', c_eq', c_ne', List.length_cons, List.length_nil, List.map_cons, List.map_nil, List.replicate, Nat.sub_self, Nat.add_sub_cancel, List.cons_append, List.nil_append, List.append_nil, List.getElem?_cons_zero, List.getElem?_cons_succ, List.set_cons_zero, List.set_cons_succ, if_true, if_false, ite_true, ite_false, reduceIte, Nat.reduceAdd, Nat.reduceSub, Nat.reduceLT, Nat.zero_add, Bool.true_and, Bool.and_true, i1, i3, j1, j3, oi, cmp2, if_true, if_false, Bool.false_eq_true]) ?_))
      rw [if_neg Bool.false_ne_true]
      exact ss_nil (ss_nil ⟨_, rfl, ⟨_, rfl⟩, mZ, Keep.refl⟩)
    | some v =>
      rw [h2] at j3
      refine ss_cons (s_if (Ok.of (a := true) (h := h4) (by simp only [runFn, evSs, evS, evE, evT, evEs, evO, evG, evGs, b_ok, ix0, ix1, ix2', o_add', o_sub', c_lt', c_le', c_gt', c_ge', c_eq', c_ne', List.length_cons, List.length_nil, List.map_cons, List.map_nil, List.replicate, Nat.sub_self, Nat.add_sub_cancel, List.cons_append, List.nil_append, List.append_nil, List.getElem?_cons_zero, List.getElem?_cons_succ, List.set_cons_zero, List.set_cons_succ, if_true, if_false, ite_true, ite_false, reduceIte, Nat.reduceAdd, Nat.reduceSub, Nat.reduceLT, Nat.zero_add, Bool.true_and, Bool.and_true, i1, i3, j1, j3, oi, cmp2, if_true, if_false, Bool.false_eq_true]) ?_))
      rw [if_pos rfl]
      refine ss_cons (s_expr ?_)
      unfold evE
      refine Ok.bind (Ok.of (a := [.ref f, .int (i : Int), .int (k : Int), .int (u + v)]) (h := h4) (by simp only [runFn, evSs, evS, evE, evT, evEs, evO, evG, evGs, b_ok, ix0, ix1, ix2', o_add', o_sub', c_lt', c_le', c_gt', c_ge', c_eq', c_ne', List.length_cons, List.length_nil, List.map_cons, List.map_nil, List.replicate, Nat.sub_self, Nat.add_sub_cancel, List.cons_append, List.nil_append, List.append_nil, List.getElem?_cons_zero, List.getElem?_cons_succ, List.set_cons_zero, List.set_cons_succ, if_true, if_false, ite_true, ite_false, reduceIte, Nat.reduceAdd, Nat.reduceSub, Nat.reduceLT, Nat.zero_add, Bool.true_and, Bool.and_true, i1, i3, j1, j3, oi]) ?_)
      rw [List.append_nil]
      exact (near h4 Z i k (u + v) mZ hi hk).imp fun d h' q => ss_nil (ss_nil ⟨_, rfl, ⟨_, rfl⟩, q.1, q.2⟩)
end
end K00
set_option Elab.async false
set_option linter.all false
set_option maxRecDepth 100000
set_option maxHeartbeats 1000000
/-! K00K: _law_values. -/
namespace K00
open SF PySem
section
variable {h h' : Hh} {f N : Nat} {rs : List Nat} {M : Mx} {i j : Nat}
theorem Mat.lt (m : Mat h f N rs M) : (∀ r ∈ rs, r < h.length) ∧ f < h.length := ⟨fun r hr => by
  obtain ⟨i, hi⟩ := List.mem_iff_getElem?.mp hr
  exact lt_of (m.row i r hi), lt_of m.top⟩
theorem Mat.app (m : Mat h f N rs M) (t : List O) : Mat (h ++ t) f N rs M := m.keep (Keep.app (l := []) t) (by simp) fun _ _ => by simp
theorem values_ok {n many : Nat} (m : Mat h f (many + 1) rs M) (hN : many + 1 ≤ 100) : Ok (C (n + 3) 42 [.ref f, .int (many : Int)] h) fun d h' => d = .tup ((runM many M many).2.map fun v => rq (Rat.divInt v 12)) ∧ Keep (f :: rs) h h' := by
  have near := fun (h : Hh) (M : Mx) (i j : Nat) (w : Int) (m : Mat h f (many + 1) rs M) (hi : i < many + 1) (hj : j < many + 1) => nearer_ok (n := n + 1) (w := w) m hi hj
  have clo := fun (h : Hh) (M : Mx) (m : Mat h f (many + 1) rs M) => close_ok (n := n) m hN
  have rat := fun (v : Int) (h : Hh) => lratio_eq (n := n) (k := 4) (h := h) v 12 (by decide) (by decide) (by decide) (by decide)
  refine C_ok (f := f__law_values) rfl rfl fun call hc => ?_
  rw [← hc] at near clo rat
  show Ok (evSs call gvals b__law_values [some (.ref f), some (.int (many : Int)), none, none, none] h) _
  unfold b__law_values
  (refine ss_cons (s_asg (by simp) (Ok.of (by ((simp only [runFn, evSs, evS, evE, evT, evEs, evO, evG, evGs, b_ok, ix0, ix1, ix2', o_add', o_sub', c_lt', c_le', c_gt', c_ge', c_eq', c_ne', List.length_cons, List.length_nil, List.map_cons, List.map_nil, List.replicate, Nat.sub_self, Nat.add_sub_cancel, List.cons_append, List.nil_append, List.append_nil, List.getElem?_cons_zero, List.getElem?_cons_succ, List.set_cons_zero, List.set_cons_succ, if_true, if_false, ite_true, ite_false, reduceIte, Nat.reduceAdd, Nat.reduceSub, Nat.reduceLT, Nat.zero_add, Bool.true_and, Bool.and_true]) <;> rfl)) ?_)); dsimp only [List.set_cons_zero, List.set_cons_succ])
  generalize ha : h.length = a
  have big : ((many : Int) < 2 ^ 61) := by omega
  have fr : a ∉ rs ∧ a ≠ f := ⟨fun z => by have := m.lt.1 a z; omega, fun z => by have := m.lt.2; omega⟩
  have e1 : (h ++ [O.lst []])[a]? = some (.lst []) := by rw [← ha]; exact get_new
  have m1 := m.app [O.lst []]
  have k1 : Keep (f :: rs) h (h ++ [O.lst []]) := Keep.app _
  generalize h ++ [O.lst []] = h1 at *
  refine ss_cons (s_for (rng_ok (i := 0) (j := (many : Int)) rfl rfl (by decide) (by decide) (by omega) big ?_))
  have hm : It.most h1 (.rng 0 1 ((many : Int) - 0).toNat) = many := rng_fmt
  rw [hm, rng_fmt]
  refine ⟨fun k e2 h2 => (∃ x y, e2 = [some (.ref f), some (.int (many : Int)), some (.ref a), x, y]) ∧ Mat h2 f (many + 1) rs (runM many M k).1 ∧ h2[a]? = some (.lst ((runM many M k).2.map fun v => rq (Rat.divInt v 12))) ∧ Keep (f :: rs) h h2, ⟨⟨_, _, rfl⟩, m1, e1, k1⟩, ?_⟩
  rintro k e2 h2 ⟨⟨x, y, rfl⟩, m2, g2, k2⟩ le
  rcases Nat.eq_or_lt_of_le le with e | lt
  · refine .inl ⟨e, by rw [e]; exact rng_end, ?_⟩
    rw [e] at g2
    (refine ss_cons (s_ret (Ok.of (by ((simp only [runFn, evSs, evS, evE, evT, evEs, evO, evG, evGs, b_ok, ix0, ix1, ix2', o_add', o_sub', c_lt', c_le', c_gt', c_ge', c_eq', c_ne', List.length_cons, List.length_nil, List.map_cons, List.map_nil, List.replicate, Nat.sub_self, Nat.add_sub_cancel, List.cons_append, List.nil_append, List.append_nil, List.getElem?_cons_zero, List.getElem?_cons_succ, List.set_cons_zero, List.set_cons_succ, if_true, if_false, ite_true, ite_false, reduceIte, Nat.reduceAdd, Nat.reduceSub, Nat.reduceLT, Nat.zero_add, Bool.true_and, Bool.and_true, bf2, tupleD, lstAt_of g2]) <;> rfl)) ?_)); dsimp only [List.set_cons_zero, List.set_cons_succ])
    exact ⟨rfl, k2⟩
  · refine .inr ⟨lt, .int (0 + k), rng_next lt, Ok.bind (Ok.of (a := [some (.ref f), some (.int (many : Int)), some (.ref a), some (.int (0 + (k : Int))), y]) (by ((simp only [runFn, evSs, evS, evE, evT, evEs, evO, evG, evGs, b_ok, ix0, ix1, ix2', o_add', o_sub', c_lt', c_le', c_gt', c_ge', c_eq', c_ne', List.length_cons, List.length_nil, List.map_cons, List.map_nil, List.replicate, Nat.sub_self, Nat.add_sub_cancel, List.cons_append, List.nil_append, List.append_nil, List.getElem?_cons_zero, List.getElem?_cons_succ, List.set_cons_zero, List.set_cons_succ, if_true, if_false, ite_true, ite_false, reduceIte, Nat.reduceAdd, Nat.reduceSub, Nat.reduceLT, Nat.zero_add, Bool.true_and, Bool.and_true]) <;> rfl)) ?_)⟩
    have ek : (0 : Int) + (k : Int) = k := by omega
    rw [ek]
    generalize hX : (runM many M k).1 = X at *
    obtain ⟨r1, _, i1, i2⟩ := m2.ix1 (show k < many + 1 by omega)
    obtain ⟨r2, _, j1, j2⟩ := m2.ix1 (show many < many + 1 by omega)
    have i3 := i2 many (by omega)
    have j3 := j2 k (by omega)
    (refine ss_cons (s_asg (by simp) (Ok.of (by ((simp only [runFn, evSs, evS, evE, evT, evEs, evO, evG, evGs, b_ok, ix0, ix1, ix2', o_add', o_sub', c_lt', c_le', c_gt', c_ge', c_eq', c_ne', List.length_cons, List.length_nil, List.map_cons, List.map_nil, List.replicate, Nat.sub_self, Nat.add_sub_cancel, List.cons_append, List.nil_append, List.append_nil, List.getElem?_cons_zero, List.getElem?_cons_succ, List.set_cons_zero, List.set_cons_succ, if_true, if_false, ite_true, ite_false, reduceIte, Nat.reduceAdd, Nat.reduceSub, Nat.reduceLT, Nat.zero_add, Bool.true_and, Bool.and_true]) <;> rfl)) ?_)); dsimp only [List.set_cons_zero, List.set_cons_succ])
    -- the value
    have val : Ok (evS call gvals (.ife (.and (.cmp .notN (.ix (.ix (.var 0) (.var 3)) (.var 1)) (.lit .non)) (.cmp .lt (.ix (.ix (.var 0) (.var 3)) (.var 1)) (.lit (.int 0)))) (.cons (.asg (.var 4) (.neg (.ix (.ix (.var 0) (.var 3)) (.var 1)))) <| .nil) .nil) [some (.ref f), some (.int (many : Int)), some (.ref a), some (.int (k : Int)), some (.int 0)] h2) fun fl h3 => h3 = h2 ∧ fl = .nx [some (.ref f), some (.int (many : Int)), some (.ref a), some (.int (k : Int)), some (.int (match X k many with
        | some a => if a < 0 then -a else 0
        | none => 0))] := by
      cases hu : X k many with
      | none =>
        rw [hu] at i3
        refine s_if (Ok.of (a := false) (h := h2) (by simp only [runFn, evSs, evS, evE, evT, evEs, evO, evG, evGs, b_ok, ix0, ix1, ix2', o_add', o_sub', c_lt', c_le', c_gt', c_ge', c_eq', c_ne', List.length_cons, List.length_nil, List.map_cons, List.map_nil, List.replicate, Nat.sub_self, Nat.add_sub_cancel, List.cons_append, List.nil_append, List.append_nil, List.getElem?_cons_zero, List.getElem?_cons_succ, List.set_cons_zero, List.set_cons_succ, if_true, if_false, ite_true, ite_false, reduceIte, Nat.reduceAdd, Nat.reduceSub, Nat.reduceLT, Nat.zero_add, Bool.true_and, Bool.and_true, i1, i3, oi, cmp2, if_false, Bool.false_eq_true]) ?_)
        rw [if_neg Bool.false_ne_true]
        exact ss_nil ⟨rfl, rfl⟩
      | some u =>
        rw [hu] at i3
        refine s_if (Ok.of (a := decide (u < 0)) (h := h2) (by simp only [runFn, evSs, evS, evE, evT, evEs, evO, evG, evGs, b_ok, ix0, ix1, ix2', o_add', o_sub', c_lt', c_le', c_gt', c_ge', c_eq', c_ne', List.length_cons, List.length_nil, List.map_cons, List.map_nil, List.replicate, Nat.sub_self, Nat.add_sub_cancel, List.cons_append, List.nil_append, List.append_nil, List.getElem?_cons_zero, List.getElem?_cons_succ, List.set_cons_zero, List.set_cons_succ, if_true, if_false, ite_true, ite_false, reduceIte, Nat.reduceAdd, Nat.reduceSub, Nat.reduceLT, Nat.zero_add, Bool.true_and, Bool.and_true, i1, i3, oi, cmp2, if_true, if_false, Bool.false_eq_true]) ?_)
        by_cases c : u < 0
        · rw [if_pos (decide_eq_true c)]
          (refine ss_cons (s_asg (by simp) (Ok.of (by ((simp only [runFn, evSs, evS, evE, evT, evEs, evO, evG, evGs, b_ok, ix0, ix1, ix2', o_add', o_sub', c_lt', c_le', c_gt', c_ge', c_eq', c_ne', List.length_cons, List.length_nil, List.map_cons, List.map_nil, List.replicate, Nat.sub_self, Nat.add_sub_cancel, List.cons_append, List.nil_append, List.append_nil, List.getElem?_cons_zero, List.getElem?_cons_succ, List.set_cons_zero, List.set_cons_succ, if_true, if_false, ite_true, ite_false, reduceIte, Nat.reduceAdd, Nat.reduceSub, Nat.reduceLT, Nat.zero_add, Bool.true_and, Bool.and_true, i1, i3, oi]) <;> rfl)) ?_)); dsimp only [List.set_cons_zero, List.set_cons_succ])
          refine ss_nil ⟨rfl, ?_⟩
          rw [if_pos c]
        · rw [if_neg (by simpa using c)]
          refine ss_nil ⟨rfl, ?_⟩
          dsimp only
          rw [if_neg c]
    refine ss_cons (val.imp fun fl h3 q => ?_)
    obtain ⟨rfl, rfl⟩ := q
    dsimp only
    generalize hv0 : (match X k many with
        | some a => if a < 0 then -a else 0
        | none => 0 : Int) = v0
    have val2 : Ok (evS call gvals (.ife (.and (.cmp .notN (.ix (.ix (.var 0) (.var 1)) (.var 3)) (.lit .non)) (.cmp .lt (.ix (.ix (.var 0) (.var 1)) (.var 3)) (.lit (.int 0)))) (.cons (.asg (.var 4) (.ix (.ix (.var 0) (.var 1)) (.var 3))) <| .nil) .nil) [some (.ref f), some (.int (many : Int)), some (.ref a), some (.int (k : Int)), some (.int v0)] h3) fun fl h4 => h4 = h3 ∧ fl = .nx [some (.ref f), some (.int (many : Int)), some (.ref a), some (.int (k : Int)), some (.int (pickM X many k))] := by
      have pe : pickM X many k = (match X many k with
        | some b => if b < 0 then b else v0
        | none => v0) := by rw [← hv0]; rfl
      rw [pe]
      cases hu : X many k with
      | none =>
        rw [hu] at j3
        refine s_if (Ok.of (a := false) (h := h3) (by simp only [runFn, evSs, evS, evE, evT, evEs, evO, evG, evGs, b_ok, ix0, ix1, ix2', o_add', o_sub', c_lt', c_le', c_gt', c_ge', c_eq', c_ne', List.length_cons, List.length_nil, List.map_cons, List.map_nil, List.replicate, Nat.sub_self, Nat.add_sub_cancel, List.cons_append, List.nil_append, List.append_nil, List.getElem?_cons_zero, List.getElem?_cons_succ, List.set_cons_zero, List.set_cons_succ, if_true, if_false, ite_true, ite_false, reduceIte, Nat.reduceAdd, Nat.reduceSub, Nat.reduceLT, Nat.zero_add, Bool.true_and, Bool.and_true, j1, j3, oi, cmp2, if_false, Bool.false_eq_true]) ?_)
        rw [if_neg Bool.false_ne_true]
        exact ss_nil ⟨rfl, rfl⟩
      | some u =>
        rw [hu] at j3
        refine s_if (Ok.of (a := decide (u < 0)) (h := h3) (by simp only [runFn, evSs, evS, evE, evT, evEs, evO, evG, evGs, b_ok, ix0, ix1, ix2', o_add', o_sub', c_lt', c_le', c_gt', c_ge', c_eq', c_ne', List.length_cons, List.length_nil, List.map_cons, List.map_nil, List.replicate, Nat.sub_self, Nat.add_sub_cancel, List.cons_append, List.nil_append, List.append_nil, List.getElem?_cons_zero, List.getElem?_cons_succ, List.set_cons_zero, List.set_cons_succ, if_true, if_false, ite_true, ite_false, reduceIte, Nat.reduceAdd, Nat.reduceSub, Nat.reduceLT, Nat.zero_add, Bool.true_and, Bool.and_true, j1, j3, oi, cmp2, if_true, if_false, Bool.false_eq_true]) ?_)
        by_cases c : u < 0
        · rw [if_pos (decide_eq_true c)]
          (refine ss_cons (s_asg (by simp) (Ok.of (by ((simp only [runFn, evSs, evS, evE, evT, evEs, evO, evG, evGs, b_ok, ix0, ix1, ix2', o_add', o_sub', c_lt', c_le', c_gt', c_ge', c_eq', c_ne', List.length_cons, List.length_nil, List.map_cons, List.map_nil, List.replicate, Nat.sub_self, Nat.add_sub_cancel, List.cons_append, List.nil_append, List.append_nil, List.getElem?_cons_zero, List.getElem?_cons_succ, List.set_cons_zero, List.set_cons_succ, if_true, if_false, ite_true, ite_false, reduceIte, Nat.reduceAdd, Nat.reduceSub, Nat.reduceLT, Nat.zero_add, Bool.true_and, Bool.and_true, j1, j3, oi]) <;> rfl)) ?_)); dsimp only [List.set_cons_zero, List.set_cons_succ])
          refine ss_nil ⟨rfl, ?_⟩
          rw [if_pos c]
        · rw [if_neg (by simpa using c)]
          refine ss_nil ⟨rfl, ?_⟩
          try dsimp only
          rw [if_neg c]
    refine ss_cons (val2.imp fun fl h4 q => ?_)
    obtain ⟨rfl, rfl⟩ := q
    dsimp only
    have step : (runM many M (k + 1)) = (nextM many k X, (runM many M k).2 ++ [pickM X many k]) := by
      show (nextM many k (runM many M k).1, (runM many M k).2 ++ [pickM (runM many M k).1 many k]) = _
      rw [hX]
    have hn : nextM many k X = close (many + 1) (relax (relax X many k (pickM X many k)) k many (-(pickM X many k))) := rfl
    generalize hv : pickM X many k = v at *
    refine ss_cons (s_expr ?_)
    unfold evE
    refine Ok.bind (Ok.of (a := [.ref f, .int (many : Int), .int (k : Int), .int v]) (h := h4) (by simp only [runFn, evSs, evS, evE, evT, evEs, evO, evG, evGs, b_ok, ix0, ix1, ix2', o_add', o_sub', c_lt', c_le', c_gt', c_ge', c_eq', c_ne', List.length_cons, List.length_nil, List.map_cons, List.map_nil, List.replicate, Nat.sub_self, Nat.add_sub_cancel, List.cons_append, List.nil_append, List.append_nil, List.getElem?_cons_zero, List.getElem?_cons_succ, List.set_cons_zero, List.set_cons_succ, if_true, if_false, ite_true, ite_false, reduceIte, Nat.reduceAdd, Nat.reduceSub, Nat.reduceLT, Nat.zero_add, Bool.true_and, Bool.and_true]) ?_)
    rw [List.append_nil]
    refine (near h4 X many k v m2 (by omega) (by omega)).imp fun _ h5 q5 => ?_
    refine ss_cons (s_expr ?_)
    unfold evE
    refine Ok.bind (Ok.of (a := [.ref f, .int (k : Int), .int (many : Int), .int (-v)]) (h := h5) (by simp only [runFn, evSs, evS, evE, evT, evEs, evO, evG, evGs, b_ok, ix0, ix1, ix2', o_add', o_sub', c_lt', c_le', c_gt', c_ge', c_eq', c_ne', List.length_cons, List.length_nil, List.map_cons, List.map_nil, List.replicate, Nat.sub_self, Nat.add_sub_cancel, List.cons_append, List.nil_append, List.append_nil, List.getElem?_cons_zero, List.getElem?_cons_succ, List.set_cons_zero, List.set_cons_succ, if_true, if_false, ite_true, ite_false, reduceIte, Nat.reduceAdd, Nat.reduceSub, Nat.reduceLT, Nat.zero_add, Bool.true_and, Bool.and_true]) ?_)
    rw [List.append_nil]
    refine (near h5 _ k many (-v) q5.1 (by omega) (by omega)).imp fun _ h6 q6 => ?_
    refine ss_cons (s_expr ?_)
    unfold evE
    refine Ok.bind (Ok.of (a := [.ref f]) (h := h6) (by simp only [runFn, evSs, evS, evE, evT, evEs, evO, evG, evGs, b_ok, ix0, ix1, ix2', o_add', o_sub', c_lt', c_le', c_gt', c_ge', c_eq', c_ne', List.length_cons, List.length_nil, List.map_cons, List.map_nil, List.replicate, Nat.sub_self, Nat.add_sub_cancel, List.cons_append, List.nil_append, List.append_nil, List.getElem?_cons_zero, List.getElem?_cons_succ, List.set_cons_zero, List.set_cons_succ, if_true, if_false, ite_true, ite_false, reduceIte, Nat.reduceAdd, Nat.reduceSub, Nat.reduceLT, Nat.zero_add, Bool.true_and, Bool.and_true]) ?_)
    rw [List.append_nil]
    refine (clo h6 _ q6.1).imp fun _ h7 q7 => ?_
    have g7 := q7.2.get (q6.2.get (q5.2.get g2 fr.1) fr.1) fr.1
    have sz : ((runM many M k).2.map fun v => rq (Rat.divInt v 12)).length < sizeLine := by
      rw [List.length_map, runM_len]
      have : (200 : Nat) < sizeLine := by decide
      omega
    refine ss_cons (s_expr (Ok.of (a := .non) (h := h7.set a (.lst (((runM many M k).2.map fun v => rq (Rat.divInt v 12)) ++ [rq (Rat.divInt v 12)]))) (by simp only [runFn, evSs, evS, evE, evT, evEs, evO, evG, evGs, b_ok, ix0, ix1, ix2', o_add', o_sub', c_lt', c_le', c_gt', c_ge', c_eq', c_ne', List.length_cons, List.length_nil, List.map_cons, List.map_nil, List.replicate, Nat.sub_self, Nat.add_sub_cancel, List.cons_append, List.nil_append, List.append_nil, List.getElem?_cons_zero, List.getElem?_cons_succ, List.set_cons_zero, List.set_cons_succ, if_true, if_false, ite_true, ite_false, reduceIte, Nat.reduceAdd, Nat.reduceSub, Nat.reduceLT, Nat.zero_add, Bool.true_and, Bool.and_true, is_lst g7, rat v h7, m_append g7 sz]) ?_))
    have kk : Keep (f :: rs) h h7 := ((k2.trans (q5.2.mono fun i hi => .inl (List.mem_cons_of_mem _ hi))).trans (q6.2.mono fun i hi => .inl (List.mem_cons_of_mem _ hi))).trans (q7.2.mono fun i hi => .inl (List.mem_cons_of_mem _ hi))
    refine ss_nil ⟨⟨_, _, rfl⟩, ?_, ?_, ?_⟩
    · rw [step, hn]
      exact q7.1.keep (Keep.set (l := [a]) (by simp)) (by simpa using Ne.symm fr.2) fun r hr => by
        simp only [List.mem_singleton]
        exact fun z => fr.1 (by rw [← z]; exact hr)
    · rw [step, List.map_append]
      exact get_set g7
    · exact kk.past (Keep.set (l := [a]) (by simp)) fun i hi => .inr (by rw [List.mem_singleton.mp hi, ← ha]; exact Nat.le_refl _)
end
end K00
set_option Elab.async false
set_option linter.all false
set_option maxRecDepth 100000
set_option maxHeartbeats 1000000
/-! K00L: rows in the program. -/
namespace K00
open SF PySem
section
variable {call : Nat → List D → Hh → R (D × Hh)} {gl : List D} {e : En} {h : Hh}
/-- a comprehension whose items are made without the heap -/
theorem comp_gen {elt : E} {tg : T} {it : I} {own : List Nat} {J : SF.It} {N : Nat} {d g : Nat → D} (hi : evI call gl it e h = .ok (J, h)) (h1 : ∀ i, i < N → ∀ h', It.next h' J i = some (some (d i))) (h2 : ∀ h', It.next h' J N = some none) (hm : J.most h = N)
    (hg : ∀ i, i < N → ∀ h', ∃ e1, evG call gl tg (d i) (wipeE e own) h' = .ok (e1, h') ∧ evE call gl elt e1 h' = .ok (g i, h')) (hN : N ≤ sizeLine) :
    evE call gl (.comp elt tg it .nil own) e h = .ok (.ref h.length, h ++ [.lst ((List.range N).map g)]) := by
  refine Ok.eq ?_
  unfold evE
  rw [hi, b_ok]
  refine Ok.seq (P := fun ds h' => ds = (List.range N).map g ∧ h' = h) ?_ fun ds h' q => by
    obtain ⟨rfl, rfl⟩ := q
    exact Ok.pure ⟨rfl, rfl⟩
  dsimp only
  rw [hm]
  refine loopC_ok (fun i acc h' => acc = (List.range i).map g ∧ h' = h) N (fun i acc h' q le => ?_) (N + 1) 0 [] h ⟨rfl, rfl⟩ (Nat.zero_le _) (by omega)
  obtain ⟨rfl, rfl⟩ := q
  rcases Nat.eq_or_lt_of_le le with e' | lt
  · subst e'
    exact .inl ⟨rfl, h2 _, rfl, rfl⟩
  · obtain ⟨e1, q1, q2⟩ := hg i lt h'
    refine .inr ⟨lt, d i, h1 i lt _, Ok.of (a := some (g i)) (h := h') ?_ ⟨by simp; omega, by rw [List.range_succ, List.map_append]; rfl, rfl⟩⟩
    rw [q1, b_ok]
    unfold evC
    rw [b_ok]
    dsimp only
    rw [if_pos rfl, q2, b_ok]
theorem tup_next {xs : List D} {i : Nat} (hi : i < xs.length) : It.next h (SF.It.tup xs) i = some (some xs[i]) := by
  unfold It.next turnAt
  rw [if_pos (by omega), List.getElem?_eq_getElem hi]
theorem tup_end {xs : List D} : It.next h (SF.It.tup xs) xs.length = some none := by
  unfold It.next turnAt
  rw [if_pos (Nat.le_refl _), List.getElem?_eq_none (Nat.le_refl _)]
theorem zip_next {xs ys : List D} {i : Nat} (hx : i < xs.length) (hy : i < ys.length) : It.next h (SF.It.zip (SF.It.tup xs) (SF.It.tup ys)) i = some (some (D.tup [xs[i], ys[i]])) := by
  have e1 : It.next h (SF.It.tup xs) i = some (some xs[i]) := tup_next hx
  have e2 : It.next h (SF.It.tup ys) i = some (some ys[i]) := tup_next hy
  show (match It.next h (SF.It.tup xs) i, It.next h (SF.It.tup ys) i with
    | some (some x), some (some y) => some (some (D.tup [x, y]))
    | some none, some _ => some none
    | some (some _), some none => some none
    | _, _ => none) = _
  rw [e1, e2]
theorem zip_end {xs ys : List D} (hl : xs.length = ys.length) : It.next h (SF.It.zip (SF.It.tup xs) (SF.It.tup ys)) xs.length = some none := by
  have e1 : It.next h (SF.It.tup xs) xs.length = some none := tup_end
  have e2 : It.next h (SF.It.tup ys) xs.length = some none := by rw [hl]; exact tup_end
  show (match It.next h (SF.It.tup xs) xs.length, It.next h (SF.It.tup ys) xs.length with
    | some (some x), some (some y) => some (some (D.tup [x, y]))
    | some none, some _ => some none
    | some (some _), some none => some none
    | _, _ => none) = _
  rw [e1, e2]
end
/-- a row as the program has it -/
def rowD (r : Row) : D := .tup [.tup (r.c.map rq), rq r.b, .bl r.j]
/-- all its numbers are small -/
structure SmR (k : Nat) (r : Row) : Prop where
  c : ∀ a ∈ r.c, Sm k a
  b : Sm k r.b
  len : r.c.length ≤ 1000
section
variable {n k : Nat} {r s : Row} {f : Rat} {h : Hh}
theorem sz_ok {m : Nat} (h : m ≤ 1000) : m ≤ sizeLine := Nat.le_trans h (by decide)
theorem scaled_ok (hr : SmR k r) (hf : Sm k f) (hp : 0 < k) (hk : k ≤ 4500) : ∃ t, C (n + 3) 9 [rowD r, rq f] h = .ok (rowD (scaled r f), h ++ t) := by
  have tm := fun (a : Rat) (h : Hh) (ha : Sm k a) => times_eq (n := n) (h := h) ha hf hp hk
  refine ⟨[.lst ((r.c.map (· * f)).map rq)], Ok.eq (C_ok (f := f_scaled) rfl rfl fun call hc => ?_)⟩
  rw [← hc] at tm
  show Ok (evSs call gvals b_scaled [some (rowD r), some (rq f), none, none, none, none] h) _
  unfold b_scaled
  refine ss_cons (Ok.of (a := .nx [some (rowD r), some (rq f), some (.tup (r.c.map rq)), some (rq r.b), some (.bl r.j), none]) (h := h) (by simp only [runFn, evSs, evS, evE, evT, evEs, evO, evG, evGs, b_ok, ix0, ix1, ix2', o_add', o_sub', c_lt', c_le', c_gt', c_ge', c_eq', c_ne', List.length_cons, List.length_nil, List.map_cons, List.map_nil, List.replicate, Nat.sub_self, Nat.add_sub_cancel, List.cons_append, List.nil_append, List.append_nil, List.getElem?_cons_zero, List.getElem?_cons_succ, List.set_cons_zero, List.set_cons_succ, if_true, if_false, ite_true, ite_false, reduceIte, Nat.reduceAdd, Nat.reduceSub, Nat.reduceLT, Nat.zero_add, Bool.true_and, Bool.and_true, rowD]) ?_)
  have cm : evE call gvals (.comp (.call 3 (.cons (.var 5) (.cons (.var 1) .nil)) []) (.var 5) (.of (.var 2)) .nil [5]) [some (rowD r), some (rq f), some (.tup (r.c.map rq)), some (rq r.b), some (.bl r.j), none] h =
      .ok (.ref h.length, h ++ [.lst ((List.range r.c.length).map fun i => rq (co r.c i * f))]) := by
    have gi : ∀ i, (hi : i < r.c.length) → co r.c i = r.c[i] := fun i hi => by
      unfold co
      rw [List.getD_eq_getElem?_getD, List.getElem?_eq_getElem hi]
      rfl
    refine comp_gen (J := .tup (r.c.map rq)) (d := fun i => rq (co r.c i)) rfl (fun i hi h' => ?_) (fun h' => ?_) (by show (r.c.map rq).length = _; rw [List.length_map]) (fun i hi h' => ?_) (sz_ok hr.len)
    · have := tup_next (h := h') (xs := r.c.map rq) (i := i) (by rw [List.length_map]; exact hi)
      rw [this, List.getElem_map, gi i hi]
    · have := tup_end (h := h') (xs := r.c.map rq)
      rw [List.length_map] at this
      exact this
    · refine ⟨[some (rowD r), some (rq f), some (.tup (r.c.map rq)), some (rq r.b), some (.bl r.j), some (rq (co r.c i))], by ((simp only [runFn, evSs, evS, evE, evT, evEs, evO, evG, evGs, b_ok, ix0, ix1, ix2', o_add', o_sub', c_lt', c_le', c_gt', c_ge', c_eq', c_ne', List.length_cons, List.length_nil, List.map_cons, List.map_nil, List.replicate, Nat.sub_self, Nat.add_sub_cancel, List.cons_append, List.nil_append, List.append_nil, List.getElem?_cons_zero, List.getElem?_cons_succ, List.set_cons_zero, List.set_cons_succ, if_true, if_false, ite_true, ite_false, reduceIte, Nat.reduceAdd, Nat.reduceSub, Nat.reduceLT, Nat.zero_add, Bool.true_and, Bool.and_true, wipeE]) <;> rfl), ?_⟩
      have := tm (co r.c i) h' (by rw [gi i hi]; exact hr.c _ (List.getElem_mem hi))
      simp only [runFn, evSs, evS, evE, evT, evEs, evO, evG, evGs, b_ok, ix0, ix1, ix2', o_add', o_sub', c_lt', c_le', c_gt', c_ge', c_eq', c_ne', List.length_cons, List.length_nil, List.map_cons, List.map_nil, List.replicate, Nat.sub_self, Nat.add_sub_cancel, List.cons_append, List.nil_append, List.append_nil, List.getElem?_cons_zero, List.getElem?_cons_succ, List.set_cons_zero, List.set_cons_succ, if_true, if_false, ite_true, ite_false, reduceIte, Nat.reduceAdd, Nat.reduceSub, Nat.reduceLT, Nat.zero_add, Bool.true_and, Bool.and_true, this]
  have em : ((List.range r.c.length).map fun i => rq (co r.c i * f)) = (r.c.map (· * f)).map rq := by
    refine List.ext_getElem? fun i => ?_
    rw [List.getElem?_map, List.getElem?_map, List.getElem?_map]
    by_cases c : i < r.c.length
    · rw [List.getElem?_range c, List.getElem?_eq_getElem c]
      unfold co
      rw [Option.map_some, List.getD_eq_getElem?_getD, List.getElem?_eq_getElem c]
      rfl
    · rw [List.getElem?_eq_none (by simpa using Nat.le_of_not_lt c), List.getElem?_eq_none (by simpa using Nat.le_of_not_lt c)]
      rfl
  rw [em] at cm
  have gl : lstAt (h ++ [O.lst ((r.c.map (· * f)).map rq)]) h.length = some ((r.c.map (· * f)).map rq) := lstAt_of get_new
  have tb := tm r.b (h ++ [.lst ((r.c.map (· * f)).map rq)]) hr.b
  generalize E.comp (.call 3 (.cons (.var 5) (.cons (.var 1) .nil)) []) (.var 5) (.of (.var 2)) .nil [5] = ce at cm ⊢
  refine ss_cons (s_ret (Ok.of (a := rowD (scaled r f)) (h := h ++ [.lst ((r.c.map (· * f)).map rq)]) ?_ ⟨rfl, rfl⟩))
  have er : rowD (scaled r f) = .tup [.tup ((r.c.map (· * f)).map rq), rq (r.b * f), .bl r.j] := rfl
  rw [er]
  simp only [runFn, evSs, evS, evE, evT, evEs, evO, evG, evGs, b_ok, ix0, ix1, ix2', o_add', o_sub', c_lt', c_le', c_gt', c_ge', c_eq', c_ne', List.length_cons, List.length_nil, List.map_cons, List.map_nil, List.replicate, Nat.sub_self, Nat.add_sub_cancel, List.cons_append, List.nil_append, List.append_nil, List.getElem?_cons_zero, List.getElem?_cons_succ, List.set_cons_zero, List.set_cons_succ, if_true, if_false, ite_true, ite_false, reduceIte, Nat.reduceAdd, Nat.reduceSub, Nat.reduceLT, Nat.zero_add, Bool.true_and, Bool.and_true, cm, bf2, tupleD, gl, tb]
theorem getQ {c : List Rat} {i : Nat} (hi : i < c.length) : co c i = c[i] := by
  unfold co
  rw [List.getD_eq_getElem?_getD, List.getElem?_eq_getElem hi]
  rfl
theorem map_co {c : List Rat} {g : Rat → Rat} : ((List.range c.length).map fun i => rq (g (co c i))) = (c.map g).map rq := by
  refine List.ext_getElem? fun i => ?_
  rw [List.getElem?_map, List.getElem?_map, List.getElem?_map]
  by_cases z : i < c.length
  · rw [List.getElem?_range z, List.getElem?_eq_getElem z, Option.map_some, getQ z]
    rfl
  · rw [List.getElem?_eq_none (by simpa using Nat.le_of_not_lt z), List.getElem?_eq_none (by simpa using Nat.le_of_not_lt z)]
    rfl
theorem zip_co {c d : List Rat} (hl : c.length = d.length) : ((List.range c.length).map fun i => rq (co c i + f * co d i)) = (List.zipWith (fun a b => a + f * b) c d).map rq := by
  refine List.ext_getElem? fun i => ?_
  rw [List.getElem?_map, List.getElem?_map, List.getElem?_zipWith]
  by_cases z : i < c.length
  · rw [List.getElem?_range z, List.getElem?_eq_getElem z, List.getElem?_eq_getElem (hl ▸ z), Option.map_some, getQ z, getQ (hl ▸ z)]
    rfl
  · rw [List.getElem?_eq_none (by simpa using Nat.le_of_not_lt z), List.getElem?_eq_none (by omega), List.getElem?_eq_none (by omega)]
    rfl
theorem sm_div {x y : Int} {k : Nat} (hx : x.natAbs < 2 ^ k) (hy : y.natAbs < 2 ^ k) (h0 : y ≠ 0) : Sm k (Rat.divInt x y) := by
  constructor
  · rw [Rat.num_divInt]
    refine Nat.lt_of_le_of_lt (Int.natAbs_ediv_le_natAbs _ _) ?_
    rw [Int.natAbs_mul, Int.natAbs_sign_of_ne_zero h0, Nat.one_mul]
    exact hx
  · rw [Rat.den_divInt, if_neg h0]
    exact Nat.lt_of_le_of_lt (Nat.div_le_self _ _) hy
theorem sm_mul {a b : Rat} {i : Nat} (ha : Sm i a) (hb : Sm i b) : Sm (2 * i) (a * b) := by
  have e : Rat.divInt (a.num * b.num) (a.den * b.den) = a * b := by
    rw [Rat.mul_def', ← Int.natCast_mul, Rat.divInt_ofNat]
  rw [← e, Nat.two_mul]
  exact sm_div (mul_sm ha.1 hb.1) (mul_sm ha.den hb.den) (Int.mul_ne_zero (den0 a) (den0 b))
theorem sm_add {a b : Rat} {i : Nat} (ha : Sm i a) (hb : Sm i b) : Sm (2 * i + 1) (a + b) := by
  have e : Rat.divInt (a.num * b.den + b.num * a.den) (a.den * b.den) = a + b := by
    rw [Rat.add_def', ← Int.natCast_mul, Rat.divInt_ofNat]
  rw [← e, Nat.two_mul]
  have h1 : (a.num * (b.den : Int)).natAbs < 2 ^ (i + i) := mul_sm ha.1 hb.den
  have h2 : (b.num * (a.den : Int)).natAbs < 2 ^ (i + i) := mul_sm hb.1 ha.den
  have h3 : ((a.den : Int) * (b.den : Int)).natAbs < 2 ^ (i + i) := mul_sm ha.den hb.den
  have h4 : 2 ^ (i + i + 1) = 2 * 2 ^ (i + i) := by rw [Nat.pow_succ, Nat.mul_comm]
  exact sm_div (by omega) (by omega) (Int.mul_ne_zero (den0 a) (den0 b))
theorem added_ok {j : Bool} (hr : SmR k r) (hs : SmR k s) (hf : Sm k f) (hl : r.c.length = s.c.length) (hp : 0 < k) (hk : k ≤ 2200) : ∃ t, C (n + 3) 10 [rowD r, rq f, rowD s, .bl j] h = .ok (rowD (added r f s j), h ++ t) := by
  have tm := fun (a : Rat) (h : Hh) (ha : Sm k a) => times_eq (n := n) (h := h) hf ha hp (by omega)
  have pl := fun (a b : Rat) (h : Hh) (ha : Sm k a) (hb : Sm k b) => plus_eq (n := n) (h := h) (ha.mono (show k ≤ 2 * k by omega)) (sm_mul hf hb) (by omega) (by omega)
  refine ⟨[.lst ((List.zipWith (fun a b => a + f * b) r.c s.c).map rq)], Ok.eq (C_ok (f := f_added) rfl rfl fun call hc => ?_)⟩
  rw [← hc] at tm pl
  show Ok (evSs call gvals b_added [some (rowD r), some (rq f), some (rowD s), some (.bl j), none, none, none] h) _
  unfold b_added
  have cm : evE call gvals (.comp (.call 1 (.cons (.var 5) (.cons (.call 3 (.cons (.var 1) (.cons (.var 6) .nil)) []) .nil)) []) (.tup (.cons (.var 5) (.cons (.var 6) .nil))) (.zip (.ix (.var 0) (.lit (.int 0))) (.ix (.var 2) (.lit (.int 0)))) .nil [5, 6]) [some (rowD r), some (rq f), some (rowD s), some (.bl j), none, none, none] h =
      .ok (.ref h.length, h ++ [.lst ((List.range r.c.length).map fun i => rq (co r.c i + f * co s.c i))]) := by
    have lm : (r.c.map rq).length = (s.c.map rq).length := by rw [List.length_map, List.length_map, hl]
    refine comp_gen (J := .zip (.tup (r.c.map rq)) (.tup (s.c.map rq))) (d := fun i => .tup [rq (co r.c i), rq (co s.c i)]) ?_ (fun i hi h' => ?_) (fun h' => ?_) ?_ (fun i hi h' => ?_) (sz_ok hr.len)
    · unfold evI
      simp only [runFn, evSs, evS, evE, evT, evEs, evO, evG, evGs, b_ok, ix0, ix1, ix2', o_add', o_sub', c_lt', c_le', c_gt', c_ge', c_eq', c_ne', List.length_cons, List.length_nil, List.map_cons, List.map_nil, List.replicate, Nat.sub_self, Nat.add_sub_cancel, List.cons_append, List.nil_append, List.append_nil, List.getElem?_cons_zero, List.getElem?_cons_succ, List.set_cons_zero, List.set_cons_succ, if_true, if_false, ite_true, ite_false, reduceIte, Nat.reduceAdd, Nat.reduceSub, Nat.reduceLT, Nat.zero_add, Bool.true_and, Bool.and_true, rowD, itOf]
    · have := zip_next (h := h') (xs := r.c.map rq) (ys := s.c.map rq) (i := i) (by rw [List.length_map]; exact hi) (by rw [List.length_map, ← hl]; exact hi)
      rw [this, List.getElem_map, List.getElem_map, getQ hi, getQ (hl ▸ hi)]
    · have := zip_end (h := h') lm
      rw [List.length_map] at this
      exact this
    · show min (r.c.map rq).length (s.c.map rq).length = _
      rw [← lm, Nat.min_self, List.length_map]
    · have h1 : Sm k (co r.c i) := by rw [getQ hi]; exact hr.c _ (List.getElem_mem hi)
      have h2 : Sm k (co s.c i) := by rw [getQ (hl ▸ hi)]; exact hs.c _ (List.getElem_mem _)
      refine ⟨[some (rowD r), some (rq f), some (rowD s), some (.bl j), none, some (rq (co r.c i)), some (rq (co s.c i))], by ((simp only [runFn, evSs, evS, evE, evT, evEs, evO, evG, evGs, b_ok, ix0, ix1, ix2', o_add', o_sub', c_lt', c_le', c_gt', c_ge', c_eq', c_ne', List.length_cons, List.length_nil, List.map_cons, List.map_nil, List.replicate, Nat.sub_self, Nat.add_sub_cancel, List.cons_append, List.nil_append, List.append_nil, List.getElem?_cons_zero, List.getElem?_cons_succ, List.set_cons_zero, List.set_cons_succ, if_true, if_false, ite_true, ite_false, reduceIte, Nat.reduceAdd, Nat.reduceSub, Nat.reduceLT, Nat.zero_add, Bool.true_and, Bool.and_true, wipeE]) <;> rfl), ?_⟩
      simp only [runFn, evSs, evS, evE, evT, evEs, evO, evG, evGs, b_ok, ix0, ix1, ix2', o_add', o_sub', c_lt', c_le', c_gt', c_ge', c_eq', c_ne', List.length_cons, List.length_nil, List.map_cons, List.map_nil, List.replicate, Nat.sub_self, Nat.add_sub_cancel, List.cons_append, List.nil_append, List.append_nil, List.getElem?_cons_zero, List.getElem?_cons_succ, List.set_cons_zero, List.set_cons_succ, if_true, if_false, ite_true, ite_false, reduceIte, Nat.reduceAdd, Nat.reduceSub, Nat.reduceLT, Nat.zero_add, Bool.true_and, Bool.and_true, tm (co s.c i) h' h2, pl (co r.c i) (co s.c i) h' h1 h2]
  rw [zip_co hl] at cm
  generalize E.comp (.call 1 (.cons (.var 5) (.cons (.call 3 (.cons (.var 1) (.cons (.var 6) .nil)) []) .nil)) []) (.tup (.cons (.var 5) (.cons (.var 6) .nil))) (.zip (.ix (.var 0) (.lit (.int 0))) (.ix (.var 2) (.lit (.int 0)))) .nil [5, 6] = ce at cm ⊢
  generalize hz : (List.zipWith (fun a b => a + f * b) r.c s.c).map rq = zs at cm ⊢
  have gl : lstAt (h ++ [O.lst zs]) h.length = some zs := lstAt_of get_new
  refine ss_cons (s_asg (by simp) (Ok.of (a := .tup zs) (h := h ++ [.lst zs]) (by simp only [runFn, evSs, evS, evE, evT, evEs, evO, evG, evGs, b_ok, ix0, ix1, ix2', o_add', o_sub', c_lt', c_le', c_gt', c_ge', c_eq', c_ne', List.length_cons, List.length_nil, List.map_cons, List.map_nil, List.replicate, Nat.sub_self, Nat.add_sub_cancel, List.cons_append, List.nil_append, List.append_nil, List.getElem?_cons_zero, List.getElem?_cons_succ, List.set_cons_zero, List.set_cons_succ, if_true, if_false, ite_true, ite_false, reduceIte, Nat.reduceAdd, Nat.reduceSub, Nat.reduceLT, Nat.zero_add, Bool.true_and, Bool.and_true, cm, bf2, tupleD, gl]) ?_))
  dsimp only [List.set_cons_zero, List.set_cons_succ]
  have er : rowD (added r f s j) = .tup [.tup zs, rq (r.b + f * s.b), .bl j] := by rw [← hz]; rfl
  refine ss_cons (s_ret (Ok.of (a := rowD (added r f s j)) (h := h ++ [.lst zs]) ?_ ⟨rfl, rfl⟩))
  rw [er]
  simp only [runFn, evSs, evS, evE, evT, evEs, evO, evG, evGs, b_ok, ix0, ix1, ix2', o_add', o_sub', c_lt', c_le', c_gt', c_ge', c_eq', c_ne', List.length_cons, List.length_nil, List.map_cons, List.map_nil, List.replicate, Nat.sub_self, Nat.add_sub_cancel, List.cons_append, List.nil_append, List.append_nil, List.getElem?_cons_zero, List.getElem?_cons_succ, List.set_cons_zero, List.set_cons_succ, if_true, if_false, ite_true, ite_false, reduceIte, Nat.reduceAdd, Nat.reduceSub, Nat.reduceLT, Nat.zero_add, Bool.true_and, Bool.and_true, rowD, tm s.b (h ++ [O.lst zs]) hs.b, pl r.b s.b (h ++ [O.lst zs]) hr.b hs.b]
end
end K00
set_option Elab.async false
set_option linter.all false
set_option maxRecDepth 100000
set_option maxHeartbeats 1000000
/-! K00M: lists of rows. -/
namespace K00
open SF PySem
section
variable {n k : Nat} {h : Hh} {c : Nat} {l : List Row}
theorem sgn_zero {a : Rat} : sgn a = 0 ↔ a = 0 := by
  unfold sgn
  by_cases c : a < 0
  · rw [if_pos c]; constructor <;> (intro h; grind)
  · rw [if_neg c]
    by_cases d : 0 < a
    · rw [if_pos d]; constructor <;> (intro h; grind)
    · rw [if_neg d]; constructor <;> (intro h; grind)
theorem ix_co {r : Row} (hk : k < r.c.length) : ix2 (.tup (r.c.map rq)) (.int (k : Int)) h = .ok (rq (co r.c k), h) := by
  have := ix_nat (xs := r.c.map rq) (h := h) (k := k) (by rw [List.length_map]; exact hk)
  rw [this, List.getElem_map, getQ hk]
theorem enum_next {xs : List D} {i : Nat} (e : h[c]? = some (O.lst xs)) (hi : i < xs.length) : It.next h (.enum (.lst c)) i = some (some (D.tup [.int (i : Int), xs[i]])) := by
  have e1 : It.next h (.lst c) i = some (some xs[i]) := by
    show (match lstAt h c with
      | some xs => turnAt xs i
      | none => none) = _
    rw [lstAt_of e]
    exact tup_next (h := h) hi
  show (match It.next h (.lst c) i with
    | some (some d) => some (some (D.tup [.int i, d]))
    | some none => some none
    | none => none) = _
  rw [e1]
theorem enum_end {xs : List D} (e : h[c]? = some (O.lst xs)) : It.next h (.enum (.lst c)) xs.length = some none := by
  have e1 : It.next h (.lst c) xs.length = some none := by
    show (match lstAt h c with
      | some xs => turnAt xs _
      | none => none) = _
    rw [lstAt_of e]
    exact tup_end (h := h)
  show (match It.next h (.lst c) xs.length with
    | some (some d) => some (some (D.tup [.int _, d]))
    | some none => some none
    | none => none) = _
  rw [e1]
def oN : Option Nat → D
  | none => .non
  | some p => .int (p : Int)
theorem firstJust_ok (e : h[c]? = some (O.lst (l.map rowD))) (hk : ∀ r ∈ l, k < r.c.length) : C (n + 2) 11 [.ref c, .int (k : Int)] h = .ok (oN (firstJust l k), h) := by
  have sg := fun (a : Rat) (h : Hh) => sign_eq (n := n) (a := a) (h := h)
  refine Ok.eq (C_ok (f := f_first_just) rfl rfl fun call hc => ?_)
  rw [← hc] at sg
  show Ok (evSs call gvals b_first_just [some (.ref c), some (.int (k : Int)), none, none] h) _
  unfold b_first_just
  refine ss_cons (s_for (Ok.of (a := .enum (.lst c)) (h := h) ?_ ?_))
  · unfold evI
    simp only [runFn, evSs, evS, evE, evT, evEs, evO, evG, evGs, b_ok, ix0, ix1, ix2', o_add', o_sub', c_lt', c_le', c_gt', c_ge', c_eq', c_ne', List.length_cons, List.length_nil, List.map_cons, List.map_nil, List.replicate, Nat.sub_self, Nat.add_sub_cancel, List.cons_append, List.nil_append, List.append_nil, List.getElem?_cons_zero, List.getElem?_cons_succ, List.set_cons_zero, List.set_cons_succ, if_true, if_false, ite_true, ite_false, reduceIte, Nat.reduceAdd, Nat.reduceSub, Nat.reduceLT, Nat.zero_add, Bool.true_and, Bool.and_true, itOf, lstAt_of e]
  have hm : It.most h (.enum (.lst c)) = l.length := by
    show ((lstAt h c).map List.length).getD 0 = _
    rw [lstAt_of e]
    simp
  rw [hm]
  refine ⟨fun i e2 h2 => h2 = h ∧ (∃ x y, e2 = [some (.ref c), some (.int (k : Int)), x, y]) ∧ ∀ (p : Nat) (hp : p < l.length), p < i → (l[p].j && decide (co l[p].c k ≠ 0)) = false, ⟨rfl, ⟨_, _, rfl⟩, fun p _ h => by omega⟩, ?_⟩
  rintro i e2 h2 ⟨rfl, ⟨x, y, rfl⟩, hn⟩ le
  have lm : (l.map rowD).length = l.length := List.length_map ..
  rcases Nat.eq_or_lt_of_le le with e' | lt
  · refine .inl ⟨e', by rw [e', ← lm]; exact enum_end e, ?_⟩
    have : firstJust l k = none := by
      refine List.findIdx?_eq_none_iff.mpr fun r hr => ?_
      obtain ⟨p, hp, rfl⟩ := List.mem_iff_getElem.mp hr
      exact hn p hp (by omega)
    rw [this]
    (refine ss_cons (s_ret (Ok.of (by ((simp only [runFn, evSs, evS, evE, evT, evEs, evO, evG, evGs, b_ok, ix0, ix1, ix2', o_add', o_sub', c_lt', c_le', c_gt', c_ge', c_eq', c_ne', List.length_cons, List.length_nil, List.map_cons, List.map_nil, List.replicate, Nat.sub_self, Nat.add_sub_cancel, List.cons_append, List.nil_append, List.append_nil, List.getElem?_cons_zero, List.getElem?_cons_succ, List.set_cons_zero, List.set_cons_succ, if_true, if_false, ite_true, ite_false, reduceIte, Nat.reduceAdd, Nat.reduceSub, Nat.reduceLT, Nat.zero_add, Bool.true_and, Bool.and_true]) <;> rfl)) ?_)); dsimp only [List.set_cons_zero, List.set_cons_succ])
    exact ⟨rfl, rfl⟩
  · have nx1 := enum_next e (i := i) (by rw [lm]; exact lt)
    rw [List.getElem_map] at nx1
    refine .inr ⟨lt, _, nx1, Ok.bind (Ok.of (a := [some (.ref c), some (.int (k : Int)), some (.int (i : Int)), some (rowD l[i])]) (by ((simp only [runFn, evSs, evS, evE, evT, evEs, evO, evG, evGs, b_ok, ix0, ix1, ix2', o_add', o_sub', c_lt', c_le', c_gt', c_ge', c_eq', c_ne', List.length_cons, List.length_nil, List.map_cons, List.map_nil, List.replicate, Nat.sub_self, Nat.add_sub_cancel, List.cons_append, List.nil_append, List.append_nil, List.getElem?_cons_zero, List.getElem?_cons_succ, List.set_cons_zero, List.set_cons_succ, if_true, if_false, ite_true, ite_false, reduceIte, Nat.reduceAdd, Nat.reduceSub, Nat.reduceLT, Nat.zero_add, Bool.true_and, Bool.and_true]) <;> rfl)) ?_)⟩
    have hkk := hk l[i] (List.getElem_mem lt)
    generalize hr : l[i] = r at *
    have ic := ix_co (h := h2) hkk
    refine ss_cons (s_if (Ok.of (a := r.j && decide (co r.c k ≠ 0)) (h := h2) ?_ ?_))
    · by_cases z : co r.c k = 0
      · have z1 := sgn_zero.mpr z
        have hd : decide (co r.c k ≠ 0) = false := by simp [z]
        rw [hd]
        cases hj : r.j with
        | true => simp only [runFn, evSs, evS, evE, evT, evEs, evO, evG, evGs, b_ok, ix0, ix1, ix2', o_add', o_sub', c_lt', c_le', c_gt', c_ge', c_eq', c_ne', List.length_cons, List.length_nil, List.map_cons, List.map_nil, List.replicate, Nat.sub_self, Nat.add_sub_cancel, List.cons_append, List.nil_append, List.append_nil, List.getElem?_cons_zero, List.getElem?_cons_succ, List.set_cons_zero, List.set_cons_succ, if_true, if_false, ite_true, ite_false, reduceIte, Nat.reduceAdd, Nat.reduceSub, Nat.reduceLT, Nat.zero_add, Bool.true_and, Bool.and_true, rowD, hj, ic, sg, z1, decide_true, Bool.not_true, Bool.and_false]
        | false => simp only [runFn, evSs, evS, evE, evT, evEs, evO, evG, evGs, b_ok, ix0, ix1, ix2', o_add', o_sub', c_lt', c_le', c_gt', c_ge', c_eq', c_ne', List.length_cons, List.length_nil, List.map_cons, List.map_nil, List.replicate, Nat.sub_self, Nat.add_sub_cancel, List.cons_append, List.nil_append, List.append_nil, List.getElem?_cons_zero, List.getElem?_cons_succ, List.set_cons_zero, List.set_cons_succ, if_true, if_false, ite_true, ite_false, reduceIte, Nat.reduceAdd, Nat.reduceSub, Nat.reduceLT, Nat.zero_add, Bool.true_and, Bool.and_true, rowD, hj, Bool.false_and, Bool.false_eq_true]
      · have z1 : sgn (co r.c k) ≠ 0 := fun q => z (sgn_zero.mp q)
        have hd : decide (co r.c k ≠ 0) = true := by simp [z]
        rw [hd]
        cases hj : r.j with
        | true => simp only [runFn, evSs, evS, evE, evT, evEs, evO, evG, evGs, b_ok, ix0, ix1, ix2', o_add', o_sub', c_lt', c_le', c_gt', c_ge', c_eq', c_ne', List.length_cons, List.length_nil, List.map_cons, List.map_nil, List.replicate, Nat.sub_self, Nat.add_sub_cancel, List.cons_append, List.nil_append, List.append_nil, List.getElem?_cons_zero, List.getElem?_cons_succ, List.set_cons_zero, List.set_cons_succ, if_true, if_false, ite_true, ite_false, reduceIte, Nat.reduceAdd, Nat.reduceSub, Nat.reduceLT, Nat.zero_add, Bool.true_and, Bool.and_true, rowD, hj, ic, sg, z1, decide_true, Bool.not_false, decide_false]
        | false => simp only [runFn, evSs, evS, evE, evT, evEs, evO, evG, evGs, b_ok, ix0, ix1, ix2', o_add', o_sub', c_lt', c_le', c_gt', c_ge', c_eq', c_ne', List.length_cons, List.length_nil, List.map_cons, List.map_nil, List.replicate, Nat.sub_self, Nat.add_sub_cancel, List.cons_append, List.nil_append, List.append_nil, List.getElem?_cons_zero, List.getElem?_cons_succ, List.set_cons_zero, List.set_cons_succ, if_true, if_false, ite_true, ite_false, reduceIte, Nat.reduceAdd, Nat.reduceSub, Nat.reduceLT, Nat.zero_add, Bool.true_and, Bool.and_true, rowD, hj, Bool.false_and, Bool.false_eq_true]
    · by_cases z : (r.j && decide (co r.c k ≠ 0)) = true
      · rw [if_pos z]
        have : firstJust l k = some i := by
          refine List.findIdx?_eq_some_iff_getElem.mpr ⟨lt, by rw [hr]; exact z, fun p hp => ?_⟩
          have := hn p (by omega) hp
          simpa using this
        rw [this]
        (refine ss_cons (s_ret (Ok.of (by ((simp only [runFn, evSs, evS, evE, evT, evEs, evO, evG, evGs, b_ok, ix0, ix1, ix2', o_add', o_sub', c_lt', c_le', c_gt', c_ge', c_eq', c_ne', List.length_cons, List.length_nil, List.map_cons, List.map_nil, List.replicate, Nat.sub_self, Nat.add_sub_cancel, List.cons_append, List.nil_append, List.append_nil, List.getElem?_cons_zero, List.getElem?_cons_succ, List.set_cons_zero, List.set_cons_succ, if_true, if_false, ite_true, ite_false, reduceIte, Nat.reduceAdd, Nat.reduceSub, Nat.reduceLT, Nat.zero_add, Bool.true_and, Bool.and_true]) <;> rfl)) ?_)); dsimp only [List.set_cons_zero, List.set_cons_succ])
        exact ⟨rfl, rfl⟩
      · rw [if_neg z]
        refine ss_nil (ss_nil ⟨rfl, ⟨_, _, rfl⟩, fun p hp h => ?_⟩)
        by_cases q : p = i
        · subst q
          rw [hr]
          simpa using z
        · exact hn p hp (by omega)
end
end K00
set_option Elab.async false
set_option linter.all false
set_option maxRecDepth 100000
set_option maxHeartbeats 1000000
/-! K00N: shape. -/
namespace K00
open SF PySem
section
variable {n k m : Nat} {h : Hh} {r : Row}
theorem cut_to {α : Type} {xs : List α} : cut xs none (some (m : Int)) = xs.take m := by
  unfold cut
  rw [HT.sIx_nat, HT.sIx_none, List.drop_zero, Nat.sub_zero, List.take_eq_take_min (i := m)]
theorem cut_from {α : Type} {xs : List α} : cut xs (some (m : Int)) none = xs.drop m := by
  unfold cut
  rw [HT.sIx_nat, HT.sIx_none, List.take_of_length_le (by rw [List.length_drop]; exact Nat.le_refl _)]
  by_cases c : m ≤ xs.length
  · rw [Nat.min_eq_left c]
  · rw [Nat.min_eq_right (by omega), List.drop_eq_nil_of_le (Nat.le_refl _), List.drop_eq_nil_of_le (by omega)]
theorem absR_eq (a : Rat) : absR a = absQ a := rfl
theorem sm_inv {a : Rat} (h : Sm k a) (h0 : a ≠ 0) : Sm k (1 / absQ a) := by
  have n0 : a.num ≠ 0 := fun z => h0 (Rat.num_eq_zero.mp z)
  have e : Rat.divInt (a.den : Int) (a.num.natAbs : Int) = 1 / absQ a := by
    have h1 := div_eq (a := 1) (b := absQ a) (fun z => by have := absQ_pos h0; rw [z] at this; exact Rat.lt_irrefl this)
    rw [← h1]
    unfold absQ
    by_cases c : a < 0
    · rw [if_pos c, Rat.neg_num, Rat.neg_den]
      have := num_neg.mpr c
      congr 1
      · show (a.den : Int) = 1 * (a.den : Int); omega
      · show _ = 1 * -a.num; omega
    · rw [if_neg c]
      have : ¬ a.num < 0 := fun z => c (num_neg.mp z)
      congr 1
      · show (a.den : Int) = 1 * (a.den : Int); omega
      · show _ = 1 * a.num; omega
  rw [← e]
  exact sm_div (by simpa using h.2) (by simpa using h.1) (by omega)
theorem sm_abs {a : Rat} (h : Sm k a) : Sm k (absR a) := by
  unfold absR
  split
  · exact ⟨by rw [Rat.neg_num, Int.natAbs_neg]; exact h.1, h.2⟩
  · exact h
theorem sm_one (hp : 0 < k) : Sm k 1 := by
  have : 1 < 2 ^ k := Nat.one_lt_two_pow (by omega)
  exact ⟨this, this⟩
theorem shape_ok (hr : SmR k r) (hp : 0 < k) (hk : k ≤ 4500) : ∃ t, C (n + 4) 14 [rowD r, .int (m : Int)] h = .ok (rowD (shape r m), h ++ t) := by
  have sg := fun (a : Rat) (h : Hh) => sign_eq (n := n + 2) (a := a) (h := h)
  have sz := fun (a : Rat) (h : Hh) => size_eq (n := n + 2) (a := a) (h := h)
  have ov := fun (a : Rat) (h : Hh) (ha : Sm k a) (h0 : absR a ≠ 0) => over_eq (n := n + 1) (h := h) (sm_one hp) (sm_abs ha) h0 hp hk
  have sc := fun (f : Rat) (h : Hh) (hf : Sm k f) => scaled_ok (n := n) (h := h) hr hf hp hk
  suffices hs : Ok (C (n + 4) 14 [rowD r, .int (m : Int)] h) fun d h' => d = rowD (shape r m) ∧ ∃ t, h' = h ++ t by
    obtain ⟨d, h', e, rfl, t, rfl⟩ := hs
    exact ⟨t, e⟩
  refine C_ok (f := f_shape) rfl rfl fun call hc => ?_
  rw [← hc] at sg sz ov sc
  show Ok (evSs call gvals b_shape [some (rowD r), some (.int (m : Int)), none] h) _
  unfold b_shape
  have ct : cut (r.c.map rq) none (some (m : Int)) = (r.c.take m).map rq := by rw [cut_to, List.map_take]
  refine ss_cons (s_for (Ok.of (a := .tup ((r.c.take m).map rq)) (h := h) ?_ ?_))
  · unfold evI
    simp only [runFn, evSs, evS, evE, evT, evEs, evO, evG, evGs, b_ok, ix0, ix1, ix2', o_add', o_sub', c_lt', c_le', c_gt', c_ge', c_eq', c_ne', List.length_cons, List.length_nil, List.map_cons, List.map_nil, List.replicate, Nat.sub_self, Nat.add_sub_cancel, List.cons_append, List.nil_append, List.append_nil, List.getElem?_cons_zero, List.getElem?_cons_succ, List.set_cons_zero, List.set_cons_succ, if_true, if_false, ite_true, ite_false, reduceIte, Nat.reduceAdd, Nat.reduceSub, Nat.reduceLT, Nat.zero_add, Bool.true_and, Bool.and_true, rowD, sl2, ct, itOf]
  have hm : It.most h (.tup ((r.c.take m).map rq)) = (r.c.take m).length := List.length_map ..
  rw [hm]
  refine ⟨fun i e2 h2 => h2 = h ∧ (∃ x, e2 = [some (rowD r), some (.int (m : Int)), x]) ∧ ∀ (p : Nat) (hq : p < (r.c.take m).length), p < i → (r.c.take m)[p] = 0, ⟨rfl, ⟨_, rfl⟩, fun p _ h => by omega⟩, ?_⟩
  rintro i e2 h2 ⟨rfl, ⟨x, rfl⟩, hn⟩ le
  rcases Nat.eq_or_lt_of_le le with e' | lt
  · have te := tup_end (h := h2) (xs := (r.c.take m).map rq)
    rw [List.length_map] at te
    refine .inl ⟨e', by rw [e']; exact te, ?_⟩
    have : shape r m = r := by
      unfold shape
      have : lead r.c m = none := List.find?_eq_none.mpr fun a ha => by
        obtain ⟨p, hq, rfl⟩ := List.mem_iff_getElem.mp ha
        simp [hn p hq (by omega)]
      rw [this]
    rw [this]
    (refine ss_cons (s_ret (Ok.of (by ((simp only [runFn, evSs, evS, evE, evT, evEs, evO, evG, evGs, b_ok, ix0, ix1, ix2', o_add', o_sub', c_lt', c_le', c_gt', c_ge', c_eq', c_ne', List.length_cons, List.length_nil, List.map_cons, List.map_nil, List.replicate, Nat.sub_self, Nat.add_sub_cancel, List.cons_append, List.nil_append, List.append_nil, List.getElem?_cons_zero, List.getElem?_cons_succ, List.set_cons_zero, List.set_cons_succ, if_true, if_false, ite_true, ite_false, reduceIte, Nat.reduceAdd, Nat.reduceSub, Nat.reduceLT, Nat.zero_add, Bool.true_and, Bool.and_true]) <;> rfl)) ?_)); dsimp only [List.set_cons_zero, List.set_cons_succ])
    exact ⟨rfl, [], by simp⟩
  · have tn := tup_next (h := h2) (xs := (r.c.take m).map rq) (i := i) (by rw [List.length_map]; exact lt)
    rw [List.getElem_map] at tn
    refine .inr ⟨lt, _, tn, Ok.bind (Ok.of (a := [some (rowD r), some (.int (m : Int)), some (rq (r.c.take m)[i])]) (by ((simp only [runFn, evSs, evS, evE, evT, evEs, evO, evG, evGs, b_ok, ix0, ix1, ix2', o_add', o_sub', c_lt', c_le', c_gt', c_ge', c_eq', c_ne', List.length_cons, List.length_nil, List.map_cons, List.map_nil, List.replicate, Nat.sub_self, Nat.add_sub_cancel, List.cons_append, List.nil_append, List.append_nil, List.getElem?_cons_zero, List.getElem?_cons_succ, List.set_cons_zero, List.set_cons_succ, if_true, if_false, ite_true, ite_false, reduceIte, Nat.reduceAdd, Nat.reduceSub, Nat.reduceLT, Nat.zero_add, Bool.true_and, Bool.and_true]) <;> rfl)) ?_)⟩
    have hmem : (r.c.take m)[i] ∈ r.c := List.mem_of_mem_take (List.getElem_mem lt)
    generalize ha : (r.c.take m)[i] = a at *
    refine ss_cons (s_if (Ok.of (a := decide (a ≠ 0)) (h := h2) ?_ ?_))
    · have hd : decide (a ≠ 0) = !decide (sgn a = 0) := by
        by_cases z : a = 0
        · simp [z, sgn_zero.mpr rfl]
        · simp [z, sgn_zero]
      rw [hd]
      simp only [runFn, evSs, evS, evE, evT, evEs, evO, evG, evGs, b_ok, ix0, ix1, ix2', o_add', o_sub', c_lt', c_le', c_gt', c_ge', c_eq', c_ne', List.length_cons, List.length_nil, List.map_cons, List.map_nil, List.replicate, Nat.sub_self, Nat.add_sub_cancel, List.cons_append, List.nil_append, List.append_nil, List.getElem?_cons_zero, List.getElem?_cons_succ, List.set_cons_zero, List.set_cons_succ, if_true, if_false, ite_true, ite_false, reduceIte, Nat.reduceAdd, Nat.reduceSub, Nat.reduceLT, Nat.zero_add, Bool.true_and, Bool.and_true, sg]
    · by_cases z : a = 0
      · rw [if_neg (by simp [z])]
        refine ss_nil (ss_nil ⟨rfl, ⟨_, rfl⟩, fun p hq h => ?_⟩)
        by_cases q : p = i
        · subst q; rw [ha]; exact z
        · exact hn p hq (by omega)
      · rw [if_pos (by simp [z])]
        have h0 : absR a ≠ 0 := fun q => by
          have := absQ_pos z
          rw [← absR_eq, q] at this
          exact Rat.lt_irrefl this
        obtain ⟨t, et⟩ := sc (1 / absR a) h2 (sm_inv (hr.c a hmem) z)
        have hsh : shape r m = scaled r (1 / absR a) := by
          unfold shape
          have : lead r.c m = some a := by
            refine List.find?_eq_some_iff_getElem.mpr ⟨by simp [z], i, lt, ha, fun p hq => ?_⟩
            simp [hn p (by omega) hq]
          rw [this]
          rfl
        rw [hsh]
        have g1 : (gvals[1]? : Option D) = some (rq 1) := rfl
        refine ss_cons (s_ret (Ok.of (a := rowD (scaled r (1 / absR a))) (h := h2 ++ t) ?_ ⟨rfl, t, rfl⟩))
        simp only [runFn, evSs, evS, evE, evT, evEs, evO, evG, evGs, b_ok, ix0, ix1, ix2', o_add', o_sub', c_lt', c_le', c_gt', c_ge', c_eq', c_ne', List.length_cons, List.length_nil, List.map_cons, List.map_nil, List.replicate, Nat.sub_self, Nat.add_sub_cancel, List.cons_append, List.nil_append, List.append_nil, List.getElem?_cons_zero, List.getElem?_cons_succ, List.set_cons_zero, List.set_cons_succ, if_true, if_false, ite_true, ite_false, reduceIte, Nat.reduceAdd, Nat.reduceSub, Nat.reduceLT, Nat.zero_add, Bool.true_and, Bool.and_true, g1, sz, ov a h2 (hr.c a hmem) h0, et]
end
end K00
set_option Elab.async false
set_option linter.all false
set_option maxRecDepth 100000
set_option maxHeartbeats 1000000
/-! K00O: by pairs, by an equation. -/
namespace K00
open SF PySem
section
variable {call : Nat → List D → Hh → R (D × Hh)} {gl : List D} {e : En} {h : Hh}
theorem lst_next {c : Nat} {xs : List D} {i : Nat} (e : h[c]? = some (O.lst xs)) (hi : i < xs.length) : It.next h (.lst c) i = some (some xs[i]) := by
  show (match lstAt h c with
    | some xs => turnAt xs i
    | none => none) = _
  rw [lstAt_of e]
  exact tup_next (h := h) hi
theorem lst_end {c : Nat} {xs : List D} (e : h[c]? = some (O.lst xs)) : It.next h (.lst c) xs.length = some none := by
  show (match lstAt h c with
    | some xs => turnAt xs _
    | none => none) = _
  rw [lstAt_of e]
  exact tup_end (h := h)
/-- the items of a list that pass a test -/
theorem comp_filter {v w c : Nat} {t : E} {rs : List Row} {p : Row → Bool} (he : e[w]? = some (some (.ref c))) (hc : h[c]? = some (O.lst (rs.map rowD))) (hv : v < e.length)
    (ht : ∀ r ∈ rs, evT call gl t ((wipeE e [v]).set v (some (rowD r))) h = .ok (p r, h)) (hN : rs.length ≤ sizeLine) :
    evE call gl (.comp (.var v) (.var v) (.of (.var w)) (.cons t .nil) [v]) e h = .ok (.ref h.length, h ++ [.lst ((rs.filter p).map rowD)]) := by
  refine Ok.eq ?_
  unfold evE
  have hi : evI call gl (.of (.var w)) e h = .ok (.lst c, h) := by
    unfold evI evE
    rw [he]
    show itOf (.ref c) h = _
    unfold itOf
    dsimp only
    rw [lstAt_of hc]
  rw [hi, b_ok]
  refine Ok.seq (P := fun ds h' => ds = (rs.filter p).map rowD ∧ h' = h) ?_ fun ds h' q => by
    obtain ⟨rfl, rfl⟩ := q
    exact Ok.pure ⟨rfl, rfl⟩
  dsimp only
  have hm : It.most h (.lst c) = rs.length := by
    show ((lstAt h c).map List.length).getD 0 = _
    rw [lstAt_of hc]
    simp
  rw [hm]
  refine loopC_ok (fun i acc h' => acc = ((rs.take i).filter p).map rowD ∧ h' = h) rs.length (fun i acc h' q le => ?_) (rs.length + 1) 0 [] h ⟨by simp, rfl⟩ (Nat.zero_le _) (by omega)
  obtain ⟨rfl, rfl⟩ := q
  have lm : (rs.map rowD).length = rs.length := List.length_map ..
  rcases Nat.eq_or_lt_of_le le with e' | lt
  · subst e'
    have := lst_end hc
    rw [lm] at this
    exact .inl ⟨rfl, this, by rw [List.take_length], rfl⟩
  · have nx1 := lst_next hc (i := i) (by rw [lm]; exact lt)
    rw [List.getElem_map] at nx1
    refine .inr ⟨lt, _, nx1, ?_⟩
    have tt := ht rs[i] (List.getElem_mem lt)
    have hset : v < (wipeE e [v]).length := by
      unfold wipeE wipeE
      rw [List.length_set]
      exact hv
    have eg : evG call gl (.var v) (rowD rs[i]) (wipeE e [v]) h' = .ok ((wipeE e [v]).set v (some (rowD rs[i])), h') := by
      unfold evG
      rw [if_pos hset]
    have tk : rs.take (i + 1) = rs.take i ++ [rs[i]] := by rw [List.take_succ, List.getElem?_eq_getElem lt]; rfl
    have ex : evE call gl (.var v) ((wipeE e [v]).set v (some (rowD rs[i]))) h' = .ok (rowD rs[i], h') := by
      unfold evE
      rw [List.getElem?_set_self hset]
    cases hp : p rs[i] with
    | true =>
      rw [hp] at tt
      refine Ok.of (a := some (rowD rs[i])) (h := h') ?_ ⟨?_, ?_, rfl⟩
      · rw [eg, b_ok]
        unfold evC
        dsimp only
        rw [tt, b_ok]
        dsimp only
        rw [if_pos rfl, ex, b_ok]
      · rw [List.length_map]
        have := List.length_filter_le p (rs.take i)
        rw [List.length_take] at this
        omega
      · rw [tk, List.filter_append, List.map_append]
        simp [hp]
    | false =>
      rw [hp] at tt
      refine Ok.of (a := none) (h := h') ?_ ⟨?_, rfl⟩
      · rw [eg, b_ok]
        unfold evC
        dsimp only
        rw [tt, b_ok]
        dsimp only
        rw [if_neg Bool.false_ne_true]
      · rw [tk, List.filter_append, List.map_append]
        simp [hp]
theorem sm_neg {k : Nat} {a : Rat} (h : Sm k a) : Sm k (-a) := ⟨by rw [Rat.neg_num, Int.natAbs_neg]; exact h.1, h.2⟩
theorem sm_over {k : Nat} {a b : Rat} (ha : Sm k a) (hb : Sm k b) (h0 : b ≠ 0) : Sm (2 * k) (a / b) := by
  have n0 : b.num ≠ 0 := fun z => h0 (Rat.num_eq_zero.mp z)
  rw [← div_eq h0, Nat.two_mul]
  exact sm_div (mul_sm ha.1 hb.den) (mul_sm ha.den hb.1) (Int.mul_ne_zero (den0 a) n0)
theorem SmR.mono {j k : Nat} {r : Row} (h : SmR j r) (le : j ≤ k) : SmR k r := ⟨fun a ha => (h.c a ha).mono le, h.b.mono le, h.len⟩
theorem sgn_pos {a : Rat} : 0 < sgn a ↔ 0 < a := by
  unfold sgn
  by_cases c : a < 0
  · rw [if_pos c]; constructor <;> (intro h; grind)
  · rw [if_neg c]
    by_cases d : 0 < a
    · rw [if_pos d]; constructor <;> (intro h; grind)
    · rw [if_neg d]; constructor <;> (intro h; grind)
theorem sgn_neg {a : Rat} : sgn a < 0 ↔ a < 0 := by
  unfold sgn
  by_cases c : a < 0
  · rw [if_pos c]; constructor <;> (intro h; grind)
  · rw [if_neg c]
    by_cases d : 0 < a
    · rw [if_pos d]; constructor <;> (intro h; grind)
    · rw [if_neg d]; constructor <;> (intro h; grind)
theorem byPairs_ok {n k c q len : Nat} {l : List Row} (hc : h[c]? = some (O.lst (l.map rowD))) (hs : ∀ r ∈ l, SmR k r) (hl : Len len l) (hq : q < len) (hn : l.length ≤ 1000) (hp : 0 < k) (hk : 2 * k ≤ 2200) :
    Ok (C (n + 4) 13 [.ref c, .int (q : Int)] h) fun d h' => d = .ref h.length ∧ h'[h.length]? = some (O.lst ((byPairs l q).map rowD)) ∧ Keep [] h h' := by
  have sg := fun (a : Rat) (h : Hh) => sign_eq (n := n + 2) (a := a) (h := h)
  have ng := fun (a : Rat) (h : Hh) => negative_eq (n := n + 2) (a := a) (h := h)
  have ov := fun (a b : Rat) (h : Hh) (ha : Sm k a) (hb : Sm k b) (h0 : b ≠ 0) => over_eq (n := n + 1) (h := h) ha hb h0 hp (by omega)
  have ad := fun (u w : Row) (f : Rat) (h : Hh) (hu : SmR k u) (hw : SmR k w) (hf : Sm (2 * k) f) (hl : u.c.length = w.c.length) => added_ok (n := n) (h := h) (j := false) (hu.mono (show k ≤ 2 * k by omega)) (hw.mono (show k ≤ 2 * k by omega)) hf hl (by omega) hk
  refine C_ok (f := f_by_pairs) rfl rfl fun call hcall => ?_
  rw [← hcall] at sg ng ov ad
  show Ok (evSs call gvals b_by_pairs [some (.ref c), some (.int (q : Int)), none, none, none, none, none, none, none] h) _
  unfold b_by_pairs
  have hN := sz_ok hn
  have ic := fun (r : Row) (hr : r ∈ l) (h : Hh) => ix_co (h := h) (r := r) (k := q) (by rw [hl r hr]; exact hq)
  have c0 := comp_filter (call := call) (gl := gvals) (v := 3) (w := 0) (t := .cmp .eq (.call 7 (.cons (.ix (.ix (.var 3) (.lit (.int 0))) (.var 1)) .nil) []) (.lit (.int 0))) (p := fun r => decide (co r.c q = 0)) (e := [some (.ref c), some (.int (q : Int)), none, none, none, none, none, none, none]) (h := h) rfl hc (by simp) (fun r hr => by
    have z : decide (sgn (co r.c q) = 0) = decide (co r.c q = 0) := by rw [decide_eq_decide]; exact sgn_zero
    simp only [runFn, evSs, evS, evE, evT, evEs, evO, evG, evGs, b_ok, ix0, ix1, ix2', o_add', o_sub', c_lt', c_le', c_gt', c_ge', c_eq', c_ne', List.length_cons, List.length_nil, List.map_cons, List.map_nil, List.replicate, Nat.sub_self, Nat.add_sub_cancel, List.cons_append, List.nil_append, List.append_nil, List.getElem?_cons_zero, List.getElem?_cons_succ, List.set_cons_zero, List.set_cons_succ, if_true, if_false, ite_true, ite_false, reduceIte, Nat.reduceAdd, Nat.reduceSub, Nat.reduceLT, Nat.zero_add, Bool.true_and, Bool.and_true, wipeE, rowD, ic r hr h, sg, z]) hN
  generalize E.comp (.var 3) (.var 3) (.of (.var 0)) (.cons (.cmp .eq (.call 7 (.cons (.ix (.ix (.var 3) (.lit (.int 0))) (.var 1)) .nil) []) (.lit (.int 0))) .nil) [3] = ce0 at c0 ⊢
  refine ss_cons (s_asg (by simp) (Ok.of c0 ?_))
  dsimp only [List.set_cons_zero, List.set_cons_succ]
  generalize ha0 : h.length = a0
  have k1 : Keep [] h (h ++ [O.lst ((l.filter fun r => decide (co r.c q = 0)).map rowD)]) := Keep.app _
  have g0 : (h ++ [O.lst ((l.filter fun r => decide (co r.c q = 0)).map rowD)])[a0]? = some (O.lst ((l.filter fun r => decide (co r.c q = 0)).map rowD)) := by rw [← ha0]; exact get_new
  have hc1 := get_old (t := [O.lst ((l.filter fun r => decide (co r.c q = 0)).map rowD)]) hc
  generalize h ++ [O.lst ((l.filter fun r => decide (co r.c q = 0)).map rowD)] = h1 at *
  have c1 := comp_filter (call := call) (gl := gvals) (v := 3) (w := 0) (t := .cmp .gt (.call 7 (.cons (.ix (.ix (.var 3) (.lit (.int 0))) (.var 1)) .nil) []) (.lit (.int 0))) (p := fun r => decide (0 < co r.c q)) (e := [some (.ref c), some (.int (q : Int)), some (.ref a0), none, none, none, none, none, none]) (h := h1) rfl hc1 (by simp) (fun r hr => by
    have z : decide (0 < sgn (co r.c q)) = decide (0 < co r.c q) := by rw [decide_eq_decide]; exact sgn_pos
    simp only [runFn, evSs, evS, evE, evT, evEs, evO, evG, evGs, b_ok, ix0, ix1, ix2', o_add', o_sub', c_lt', c_le', c_gt', c_ge', c_eq', c_ne', List.length_cons, List.length_nil, List.map_cons, List.map_nil, List.replicate, Nat.sub_self, Nat.add_sub_cancel, List.cons_append, List.nil_append, List.append_nil, List.getElem?_cons_zero, List.getElem?_cons_succ, List.set_cons_zero, List.set_cons_succ, if_true, if_false, ite_true, ite_false, reduceIte, Nat.reduceAdd, Nat.reduceSub, Nat.reduceLT, Nat.zero_add, Bool.true_and, Bool.and_true, wipeE, rowD, ic r hr h1, sg, z]) hN
  generalize E.comp (.var 3) (.var 3) (.of (.var 0)) (.cons (.cmp .gt (.call 7 (.cons (.ix (.ix (.var 3) (.lit (.int 0))) (.var 1)) .nil) []) (.lit (.int 0))) .nil) [3] = ce1 at c1 ⊢
  refine ss_cons (s_asg (by simp) (Ok.of c1 ?_))
  dsimp only [List.set_cons_zero, List.set_cons_succ]
  generalize ha1 : h1.length = a1
  have g1 : (h1 ++ [O.lst ((l.filter fun r => decide (0 < co r.c q)).map rowD)])[a1]? = some (O.lst ((l.filter fun r => decide (0 < co r.c q)).map rowD)) := by rw [← ha1]; exact get_new
  have l01 : a0 < a1 := by rw [← ha1]; exact lt_of g0
  have g0 := get_old (t := [O.lst ((l.filter fun r => decide (0 < co r.c q)).map rowD)]) g0
  have hc2 := get_old (t := [O.lst ((l.filter fun r => decide (0 < co r.c q)).map rowD)]) hc1
  have k2 : Keep [] h (h1 ++ [O.lst ((l.filter fun r => decide (0 < co r.c q)).map rowD)]) := k1.trans (Keep.app _)
  generalize h1 ++ [O.lst ((l.filter fun r => decide (0 < co r.c q)).map rowD)] = h2 at *
  have c2 := comp_filter (call := call) (gl := gvals) (v := 3) (w := 0) (t := .cmp .lt (.call 7 (.cons (.ix (.ix (.var 3) (.lit (.int 0))) (.var 1)) .nil) []) (.lit (.int 0))) (p := fun r => decide (co r.c q < 0)) (e := [some (.ref c), some (.int (q : Int)), some (.ref a0), none, some (.ref a1), none, none, none, none]) (h := h2) rfl hc2 (by simp) (fun r hr => by
    have z : decide (sgn (co r.c q) < 0) = decide (co r.c q < 0) := by rw [decide_eq_decide]; exact sgn_neg
    simp only [runFn, evSs, evS, evE, evT, evEs, evO, evG, evGs, b_ok, ix0, ix1, ix2', o_add', o_sub', c_lt', c_le', c_gt', c_ge', c_eq', c_ne', List.length_cons, List.length_nil, List.map_cons, List.map_nil, List.replicate, Nat.sub_self, Nat.add_sub_cancel, List.cons_append, List.nil_append, List.append_nil, List.getElem?_cons_zero, List.getElem?_cons_succ, List.set_cons_zero, List.set_cons_succ, if_true, if_false, ite_true, ite_false, reduceIte, Nat.reduceAdd, Nat.reduceSub, Nat.reduceLT, Nat.zero_add, Bool.true_and, Bool.and_true, wipeE, rowD, ic r hr h2, sg, z]) hN
  generalize E.comp (.var 3) (.var 3) (.of (.var 0)) (.cons (.cmp .lt (.call 7 (.cons (.ix (.ix (.var 3) (.lit (.int 0))) (.var 1)) .nil) []) (.lit (.int 0))) .nil) [3] = ce2 at c2 ⊢
  refine ss_cons (s_asg (by simp) (Ok.of c2 ?_))
  dsimp only [List.set_cons_zero, List.set_cons_succ]
  generalize ha2 : h2.length = a2
  have g2 : (h2 ++ [O.lst ((l.filter fun r => decide (co r.c q < 0)).map rowD)])[a2]? = some (O.lst ((l.filter fun r => decide (co r.c q < 0)).map rowD)) := by rw [← ha2]; exact get_new
  have l12 : a1 < a2 := by rw [← ha2]; exact lt_of g1
  have g0 := get_old (t := [O.lst ((l.filter fun r => decide (co r.c q < 0)).map rowD)]) g0
  have g1 := get_old (t := [O.lst ((l.filter fun r => decide (co r.c q < 0)).map rowD)]) g1
  have k3 : Keep [] h (h2 ++ [O.lst ((l.filter fun r => decide (co r.c q < 0)).map rowD)]) := k2.trans (Keep.app _)
  generalize h2 ++ [O.lst ((l.filter fun r => decide (co r.c q < 0)).map rowD)] = h3 at *
  have mz : ∀ r ∈ (l.filter fun r => decide (0 < co r.c q)), r ∈ l ∧ 0 < co r.c q := fun r hr => ⟨(List.mem_filter.mp hr).1, of_decide_eq_true (List.mem_filter.mp hr).2⟩
  have mw : ∀ r ∈ (l.filter fun r => decide (co r.c q < 0)), r ∈ l ∧ co r.c q < 0 := fun r hr => ⟨(List.mem_filter.mp hr).1, of_decide_eq_true (List.mem_filter.mp hr).2⟩
  have la := List.length_filter_le (fun r => decide (0 < co r.c q)) l
  have lb := List.length_filter_le (fun r => decide (co r.c q < 0)) l
  have lz := List.length_filter_le (fun r => decide (co r.c q = 0)) l
  have bp : byPairs l q = (l.filter fun r => decide (co r.c q = 0)) ++ (l.filter fun r => decide (0 < co r.c q)).flatMap fun u => (l.filter fun r => decide (co r.c q < 0)).map fun w => added u (-(co u.c q / co w.c q)) w false := rfl
  rw [bp]
  generalize (l.filter fun r => decide (0 < co r.c q)) = us at *
  generalize (l.filter fun r => decide (co r.c q < 0)) = ws at *
  generalize (l.filter fun r => decide (co r.c q = 0)) = zs at *
  have it1 : ∀ (hh : Hh) (a : Nat) (rs : List Row), hh[a]? = some (O.lst (rs.map rowD)) → It.most hh (.lst a) = rs.length := fun hh a rs e => by
    show ((lstAt hh a).map List.length).getD 0 = _
    rw [lstAt_of e]
    simp
  have nxt : ∀ (hh : Hh) (a : Nat) (rs : List Row) (i : Nat) (hi : i < rs.length), hh[a]? = some (O.lst (rs.map rowD)) → It.next hh (.lst a) i = some (some (rowD rs[i])) := fun hh a rs i hi e => by
    have := lst_next e (i := i) (by rw [List.length_map]; exact hi)
    rw [List.getElem_map] at this
    exact this
  have nen : ∀ (hh : Hh) (a : Nat) (rs : List Row), hh[a]? = some (O.lst (rs.map rowD)) → It.next hh (.lst a) rs.length = some none := fun hh a rs e => by
    have := lst_end e
    rw [List.length_map] at this
    exact this
  refine ss_cons (s_for (Ok.of (a := .lst a1) (h := h3) (by unfold evI; simp only [runFn, evSs, evS, evE, evT, evEs, evO, evG, evGs, b_ok, ix0, ix1, ix2', o_add', o_sub', c_lt', c_le', c_gt', c_ge', c_eq', c_ne', List.length_cons, List.length_nil, List.map_cons, List.map_nil, List.replicate, Nat.sub_self, Nat.add_sub_cancel, List.cons_append, List.nil_append, List.append_nil, List.getElem?_cons_zero, List.getElem?_cons_succ, List.set_cons_zero, List.set_cons_succ, if_true, if_false, ite_true, ite_false, reduceIte, Nat.reduceAdd, Nat.reduceSub, Nat.reduceLT, Nat.zero_add, Bool.true_and, Bool.and_true, itOf, lstAt_of g1]) ?_))
  rw [it1 h3 a1 us g1]
  refine ⟨fun i e4 h4 => (∃ x y z, e4 = [some (.ref c), some (.int (q : Int)), some (.ref a0), none, some (.ref a1), some (.ref a2), x, y, z]) ∧ h4[a0]? = some (O.lst ((zs ++ (us.take i).flatMap fun u => ws.map fun w => added u (-(co u.c q / co w.c q)) w false).map rowD)) ∧ Keep [a0] h3 h4, ⟨⟨_, _, _, rfl⟩, by simpa using g0, Keep.refl⟩, ?_⟩
  rintro i e4 h4 ⟨⟨x, y, z, rfl⟩, g4, k4⟩ le
  have ne1 : a1 ∉ [a0] := by simp; omega
  have ne2 : a2 ∉ [a0] := by simp; omega
  have g41 := k4.get g1 ne1
  have g42 := k4.get g2 ne2
  rcases Nat.eq_or_lt_of_le le with e' | lt
  · refine .inl ⟨e', by rw [e']; exact nen h4 a1 us g41, ?_⟩
    rw [e', List.take_length] at g4
    (refine ss_cons (s_ret (Ok.of (by ((simp only [runFn, evSs, evS, evE, evT, evEs, evO, evG, evGs, b_ok, ix0, ix1, ix2', o_add', o_sub', c_lt', c_le', c_gt', c_ge', c_eq', c_ne', List.length_cons, List.length_nil, List.map_cons, List.map_nil, List.replicate, Nat.sub_self, Nat.add_sub_cancel, List.cons_append, List.nil_append, List.append_nil, List.getElem?_cons_zero, List.getElem?_cons_succ, List.set_cons_zero, List.set_cons_succ, if_true, if_false, ite_true, ite_false, reduceIte, Nat.reduceAdd, Nat.reduceSub, Nat.reduceLT, Nat.zero_add, Bool.true_and, Bool.and_true]) <;> rfl)) ?_)); dsimp only [List.set_cons_zero, List.set_cons_succ])
    exact ⟨rfl, g4, k3.past k4 fun i hi => .inr (by rw [List.mem_singleton.mp hi, ← ha0]; exact Nat.le_refl _)⟩
  · refine .inr ⟨lt, _, nxt h4 a1 us i lt g41, Ok.bind (Ok.of (a := [some (.ref c), some (.int (q : Int)), some (.ref a0), none, some (.ref a1), some (.ref a2), some (rowD us[i]), y, z]) (by ((simp only [runFn, evSs, evS, evE, evT, evEs, evO, evG, evGs, b_ok, ix0, ix1, ix2', o_add', o_sub', c_lt', c_le', c_gt', c_ge', c_eq', c_ne', List.length_cons, List.length_nil, List.map_cons, List.map_nil, List.replicate, Nat.sub_self, Nat.add_sub_cancel, List.cons_append, List.nil_append, List.append_nil, List.getElem?_cons_zero, List.getElem?_cons_succ, List.set_cons_zero, List.set_cons_succ, if_true, if_false, ite_true, ite_false, reduceIte, Nat.reduceAdd, Nat.reduceSub, Nat.reduceLT, Nat.zero_add, Bool.true_and, Bool.and_true]) <;> rfl)) ?_)⟩
    have mu := mz us[i] (List.getElem_mem lt)
    have tk : us.take (i + 1) = us.take i ++ [us[i]] := by rw [List.take_succ, List.getElem?_eq_getElem lt]; rfl
    have lf : ((us.take i).flatMap fun u => ws.map fun w => added u (-(co u.c q / co w.c q)) w false).length ≤ 1000 * 1000 := by
      have : ∀ xs : List Row, (xs.flatMap fun u => ws.map fun w => added u (-(co u.c q / co w.c q)) w false).length = xs.length * ws.length := fun xs => by
        induction xs with
        | nil => simp
        | cons x xs ih => rw [List.flatMap_cons, List.length_append, List.length_map, ih, List.length_cons, Nat.succ_mul, Nat.add_comm]
      rw [this, List.length_take]
      exact Nat.mul_le_mul (by omega) (by omega)
    dsimp only
    rw [tk, List.flatMap_append]
    generalize us[i] = u at *
    generalize ((us.take i).flatMap fun u => ws.map fun w => added u (-(co u.c q / co w.c q)) w false) = done_ at *
    refine ss_cons (s_for (Ok.of (a := .lst a2) (h := h4) (by unfold evI; simp only [runFn, evSs, evS, evE, evT, evEs, evO, evG, evGs, b_ok, ix0, ix1, ix2', o_add', o_sub', c_lt', c_le', c_gt', c_ge', c_eq', c_ne', List.length_cons, List.length_nil, List.map_cons, List.map_nil, List.replicate, Nat.sub_self, Nat.add_sub_cancel, List.cons_append, List.nil_append, List.append_nil, List.getElem?_cons_zero, List.getElem?_cons_succ, List.set_cons_zero, List.set_cons_succ, if_true, if_false, ite_true, ite_false, reduceIte, Nat.reduceAdd, Nat.reduceSub, Nat.reduceLT, Nat.zero_add, Bool.true_and, Bool.and_true, itOf, lstAt_of g42]) ?_))
    rw [it1 h4 a2 ws g42]
    refine ⟨fun j e5 h5 => (∃ y z, e5 = [some (.ref c), some (.int (q : Int)), some (.ref a0), none, some (.ref a1), some (.ref a2), some (rowD u), y, z]) ∧ h5[a0]? = some (O.lst ((zs ++ (done_ ++ (ws.take j).map fun w => added u (-(co u.c q / co w.c q)) w false)).map rowD)) ∧ Keep [a0] h3 h5, ⟨⟨_, _, rfl⟩, by simpa using g4, k4⟩, ?_⟩
    rintro j e5 h5 ⟨⟨y, z, rfl⟩, g5, k5⟩ lej
    have g52 := k5.get g2 ne2
    rcases Nat.eq_or_lt_of_le lej with e' | lt'
    · refine .inl ⟨e', by rw [e']; exact nen h5 a2 ws g52, ?_⟩
      rw [e', List.take_length] at g5
      exact ss_nil ⟨⟨_, _, _, rfl⟩, by simpa using g5, k5⟩
    · have mw' := mw ws[j] (List.getElem_mem lt')
      have tk' : ws.take (j + 1) = ws.take j ++ [ws[j]] := by rw [List.take_succ, List.getElem?_eq_getElem lt']; rfl
      refine .inr ⟨lt', _, nxt h5 a2 ws j lt' g52, Ok.bind (Ok.of (a := [some (.ref c), some (.int (q : Int)), some (.ref a0), none, some (.ref a1), some (.ref a2), some (rowD u), some (rowD ws[j]), z]) (by ((simp only [runFn, evSs, evS, evE, evT, evEs, evO, evG, evGs, b_ok, ix0, ix1, ix2', o_add', o_sub', c_lt', c_le', c_gt', c_ge', c_eq', c_ne', List.length_cons, List.length_nil, List.map_cons, List.map_nil, List.replicate, Nat.sub_self, Nat.add_sub_cancel, List.cons_append, List.nil_append, List.append_nil, List.getElem?_cons_zero, List.getElem?_cons_succ, List.set_cons_zero, List.set_cons_succ, if_true, if_false, ite_true, ite_false, reduceIte, Nat.reduceAdd, Nat.reduceSub, Nat.reduceLT, Nat.zero_add, Bool.true_and, Bool.and_true]) <;> rfl)) ?_)⟩
      dsimp only
      have lw : ((zs ++ (done_ ++ (ws.take j).map fun w => added u (-(co u.c q / co w.c q)) w false)).map rowD).length < sizeLine := by
        rw [List.length_map, List.length_append, List.length_append, List.length_map, List.length_take]
        have : (1003000 : Nat) < sizeLine := by decide
        omega
      rw [tk', List.map_append]
      generalize ws[j] = w at *
      have su : Sm k (co u.c q) := by rw [getQ (by rw [hl u mu.1]; exact hq)]; exact (hs u mu.1).c _ (List.getElem_mem _)
      have sw : Sm k (co w.c q) := by rw [getQ (by rw [hl w mw'.1]; exact hq)]; exact (hs w mw'.1).c _ (List.getElem_mem _)
      have w0 : co w.c q ≠ 0 := fun z => by have := mw'.2; rw [z] at this; exact Rat.lt_irrefl this
      have iu := ic u mu.1 h5
      have iw := ic w mw'.1 h5
      refine ss_cons (s_asg (by simp) (Ok.of (a := rq (-(co u.c q / co w.c q))) (h := h5) (by simp only [runFn, evSs, evS, evE, evT, evEs, evO, evG, evGs, b_ok, ix0, ix1, ix2', o_add', o_sub', c_lt', c_le', c_gt', c_ge', c_eq', c_ne', List.length_cons, List.length_nil, List.map_cons, List.map_nil, List.replicate, Nat.sub_self, Nat.add_sub_cancel, List.cons_append, List.nil_append, List.append_nil, List.getElem?_cons_zero, List.getElem?_cons_succ, List.set_cons_zero, List.set_cons_succ, if_true, if_false, ite_true, ite_false, reduceIte, Nat.reduceAdd, Nat.reduceSub, Nat.reduceLT, Nat.zero_add, Bool.true_and, Bool.and_true, rowD, iu, iw, ov _ _ h5 su sw w0, ng]) ?_))
      dsimp only [List.set_cons_zero, List.set_cons_succ]
      obtain ⟨t, et⟩ := ad u w (-(co u.c q / co w.c q)) h5 (hs u mu.1) (hs w mw'.1) (sm_neg (sm_over su sw w0)) ((hl u mu.1).trans (hl w mw'.1).symm)
      have g6 := get_old (t := t) g5
      refine ss_cons (s_expr (Ok.of (a := .non) (by ((simp only [runFn, evSs, evS, evE, evT, evEs, evO, evG, evGs, b_ok, ix0, ix1, ix2', o_add', o_sub', c_lt', c_le', c_gt', c_ge', c_eq', c_ne', List.length_cons, List.length_nil, List.map_cons, List.map_nil, List.replicate, Nat.sub_self, Nat.add_sub_cancel, List.cons_append, List.nil_append, List.append_nil, List.getElem?_cons_zero, List.getElem?_cons_succ, List.set_cons_zero, List.set_cons_succ, if_true, if_false, ite_true, ite_false, reduceIte, Nat.reduceAdd, Nat.reduceSub, Nat.reduceLT, Nat.zero_add, Bool.true_and, Bool.and_true, is_lst g5, et, m_append g6 lw]) <;> rfl)) ?_))
      refine ss_nil ⟨⟨_, _, rfl⟩, ?_, (k5.trans (Keep.app t)).trans (Keep.set (by simp))⟩
      rw [get_set g6]
      simp
end
end K00
set_option Elab.async false
set_option linter.all false
set_option maxRecDepth 100000
set_option maxHeartbeats 1000000
/-! K00P: by an equation. -/
namespace K00
open SF PySem
theorem erase_step {α : Type} {l : List α} {p j : Nat} (hj : j < l.length) (h : j ≠ p) : (l.take (j + 1)).eraseIdx p = (l.take j).eraseIdx p ++ [l[j]] := by
  have tk : l.take (j + 1) = l.take j ++ [l[j]] := by rw [List.take_succ, List.getElem?_eq_getElem hj]; rfl
  have lt : (l.take j).length = j := by rw [List.length_take]; omega
  rw [tk]
  by_cases c : p < j
  · rw [List.eraseIdx_append_of_lt_length (by omega)]
  · rw [List.eraseIdx_of_length_le (by rw [List.length_append, lt]; simp; omega), List.eraseIdx_of_length_le (by omega)]
theorem erase_at {α : Type} {l : List α} {j : Nat} (hj : j < l.length) : (l.take (j + 1)).eraseIdx j = (l.take j).eraseIdx j := by
  have tk : l.take (j + 1) = l.take j ++ [l[j]] := by rw [List.take_succ, List.getElem?_eq_getElem hj]; rfl
  have lt : (l.take j).length = j := by rw [List.length_take]; omega
  have e2 : (l.take j).eraseIdx j = l.take j := List.eraseIdx_of_length_le (by omega)
  rw [e2, tk, List.eraseIdx_append_of_length_le (by omega), lt, Nat.sub_self]
  simp
theorem byEq_ok {n k c q p len : Nat} {l : List Row} {used : Row} {h : Hh} (hc : h[c]? = some (O.lst (l.map rowD))) (hs : ∀ r ∈ l, SmR k r) (hl : Len len l) (hq : q < len) (hn : l.length ≤ 1000) (hp : 0 < k) (hk : 2 * k ≤ 2200)
    (hu : l[p]? = some used) (h0 : co used.c q ≠ 0) : Ok (C (n + 4) 12 [.ref c, .int (p : Int), .int (q : Int)] h) fun d h' => d = .ref h.length ∧ h'[h.length]? = some (O.lst ((byEq l p used q).map rowD)) ∧ Keep [] h h' := by
  have sg := fun (a : Rat) (h : Hh) => sign_eq (n := n + 2) (a := a) (h := h)
  have ng := fun (a : Rat) (h : Hh) => negative_eq (n := n + 2) (a := a) (h := h)
  have ov := fun (a b : Rat) (h : Hh) (ha : Sm k a) (hb : Sm k b) (h0 : b ≠ 0) => over_eq (n := n + 1) (h := h) ha hb h0 hp (by omega)
  have ad := fun (u w : Row) (f : Rat) (h : Hh) (j : Bool) (hu : SmR k u) (hw : SmR k w) (hf : Sm (2 * k) f) (hl : u.c.length = w.c.length) => added_ok (n := n) (h := h) (j := j) (hu.mono (show k ≤ 2 * k by omega)) (hw.mono (show k ≤ 2 * k by omega)) hf hl (by omega) hk
  have mu := List.mem_of_getElem? hu
  obtain ⟨pl, pe⟩ := List.getElem?_eq_some_iff.mp hu
  refine C_ok (f := f_by_equation) rfl rfl fun call hcall => ?_
  rw [← hcall] at sg ng ov ad
  show Ok (evSs call gvals b_by_equation [some (.ref c), some (.int (p : Int)), some (.int (q : Int)), none, none, none, none, none] h) _
  unfold b_by_equation
  have ic := fun (r : Row) (hr : r ∈ l) (h : Hh) => ix_co (h := h) (r := r) (k := q) (by rw [hl r hr]; exact hq)
  have lm : (l.map rowD).length = l.length := List.length_map ..
  have iu := ix_ref hc (k := p) (by rw [lm]; exact pl)
  rw [List.getElem_map, pe] at iu
  (refine ss_cons (s_asg (by simp) (Ok.of (by ((simp only [runFn, evSs, evS, evE, evT, evEs, evO, evG, evGs, b_ok, ix0, ix1, ix2', o_add', o_sub', c_lt', c_le', c_gt', c_ge', c_eq', c_ne', List.length_cons, List.length_nil, List.map_cons, List.map_nil, List.replicate, Nat.sub_self, Nat.add_sub_cancel, List.cons_append, List.nil_append, List.append_nil, List.getElem?_cons_zero, List.getElem?_cons_succ, List.set_cons_zero, List.set_cons_succ, if_true, if_false, ite_true, ite_false, reduceIte, Nat.reduceAdd, Nat.reduceSub, Nat.reduceLT, Nat.zero_add, Bool.true_and, Bool.and_true, iu]) <;> rfl)) ?_)); dsimp only [List.set_cons_zero, List.set_cons_succ])
  (refine ss_cons (s_asg (by simp) (Ok.of (by ((simp only [runFn, evSs, evS, evE, evT, evEs, evO, evG, evGs, b_ok, ix0, ix1, ix2', o_add', o_sub', c_lt', c_le', c_gt', c_ge', c_eq', c_ne', List.length_cons, List.length_nil, List.map_cons, List.map_nil, List.replicate, Nat.sub_self, Nat.add_sub_cancel, List.cons_append, List.nil_append, List.append_nil, List.getElem?_cons_zero, List.getElem?_cons_succ, List.set_cons_zero, List.set_cons_succ, if_true, if_false, ite_true, ite_false, reduceIte, Nat.reduceAdd, Nat.reduceSub, Nat.reduceLT, Nat.zero_add, Bool.true_and, Bool.and_true]) <;> rfl)) ?_)); dsimp only [List.set_cons_zero, List.set_cons_succ])
  generalize ha0 : h.length = a0
  have k1 : Keep [] h (h ++ [O.lst []]) := Keep.app _
  have g0 : (h ++ [O.lst []])[a0]? = some (O.lst []) := by rw [← ha0]; exact get_new
  have hc1 := get_old (t := [O.lst []]) hc
  have lc : c ≠ a0 := by have := lt_of hc; omega
  generalize h ++ [O.lst []] = h1 at *
  refine ss_cons (s_for (Ok.of (a := .enum (.lst c)) (h := h1) (by unfold evI; simp only [runFn, evSs, evS, evE, evT, evEs, evO, evG, evGs, b_ok, ix0, ix1, ix2', o_add', o_sub', c_lt', c_le', c_gt', c_ge', c_eq', c_ne', List.length_cons, List.length_nil, List.map_cons, List.map_nil, List.replicate, Nat.sub_self, Nat.add_sub_cancel, List.cons_append, List.nil_append, List.append_nil, List.getElem?_cons_zero, List.getElem?_cons_succ, List.set_cons_zero, List.set_cons_succ, if_true, if_false, ite_true, ite_false, reduceIte, Nat.reduceAdd, Nat.reduceSub, Nat.reduceLT, Nat.zero_add, Bool.true_and, Bool.and_true, itOf, lstAt_of hc1]) ?_))
  have hm : It.most h1 (.enum (.lst c)) = l.length := by
    show ((lstAt h1 c).map List.length).getD 0 = _
    rw [lstAt_of hc1]
    simp
  rw [hm]
  refine ⟨fun j e2 h2 => (∃ x y z, e2 = [some (.ref c), some (.int (p : Int)), some (.int (q : Int)), some (rowD used), some (.ref a0), x, y, z]) ∧ h2[a0]? = some (O.lst ((((l.take j).eraseIdx p).map fun r => if co r.c q = 0 then r else added r (-(co r.c q / co used.c q)) used r.j).map rowD)) ∧ Keep [a0] h1 h2, ⟨⟨_, _, _, rfl⟩, by simpa using g0, Keep.refl⟩, ?_⟩
  rintro j e2 h2 ⟨⟨x, y, z, rfl⟩, g2, k2⟩ le
  have hc2 := k2.get hc1 (by simpa using lc)
  rcases Nat.eq_or_lt_of_le le with e' | lt
  · refine .inl ⟨e', by rw [e', ← lm]; exact enum_end hc2, ?_⟩
    rw [e', List.take_length] at g2
    (refine ss_cons (s_ret (Ok.of (by ((simp only [runFn, evSs, evS, evE, evT, evEs, evO, evG, evGs, b_ok, ix0, ix1, ix2', o_add', o_sub', c_lt', c_le', c_gt', c_ge', c_eq', c_ne', List.length_cons, List.length_nil, List.map_cons, List.map_nil, List.replicate, Nat.sub_self, Nat.add_sub_cancel, List.cons_append, List.nil_append, List.append_nil, List.getElem?_cons_zero, List.getElem?_cons_succ, List.set_cons_zero, List.set_cons_succ, if_true, if_false, ite_true, ite_false, reduceIte, Nat.reduceAdd, Nat.reduceSub, Nat.reduceLT, Nat.zero_add, Bool.true_and, Bool.and_true]) <;> rfl)) ?_)); dsimp only [List.set_cons_zero, List.set_cons_succ])
    exact ⟨rfl, g2, k1.past k2 fun i hi => .inr (by rw [List.mem_singleton.mp hi, ← ha0]; exact Nat.le_refl _)⟩
  · have nx1 := enum_next hc2 (i := j) (by rw [lm]; exact lt)
    rw [List.getElem_map] at nx1
    refine .inr ⟨lt, _, nx1, Ok.bind (Ok.of (a := [some (.ref c), some (.int (p : Int)), some (.int (q : Int)), some (rowD used), some (.ref a0), some (.int (j : Int)), some (rowD l[j]), z]) (by ((simp only [runFn, evSs, evS, evE, evT, evEs, evO, evG, evGs, b_ok, ix0, ix1, ix2', o_add', o_sub', c_lt', c_le', c_gt', c_ge', c_eq', c_ne', List.length_cons, List.length_nil, List.map_cons, List.map_nil, List.replicate, Nat.sub_self, Nat.add_sub_cancel, List.cons_append, List.nil_append, List.append_nil, List.getElem?_cons_zero, List.getElem?_cons_succ, List.set_cons_zero, List.set_cons_succ, if_true, if_false, ite_true, ite_false, reduceIte, Nat.reduceAdd, Nat.reduceSub, Nat.reduceLT, Nat.zero_add, Bool.true_and, Bool.and_true]) <;> rfl)) ?_)⟩
    dsimp only
    refine ss_cons (s_if (Ok.of (a := decide ((j : Int) = p)) (h := h2) (by simp only [runFn, evSs, evS, evE, evT, evEs, evO, evG, evGs, b_ok, ix0, ix1, ix2', o_add', o_sub', c_lt', c_le', c_gt', c_ge', c_eq', c_ne', List.length_cons, List.length_nil, List.map_cons, List.map_nil, List.replicate, Nat.sub_self, Nat.add_sub_cancel, List.cons_append, List.nil_append, List.append_nil, List.getElem?_cons_zero, List.getElem?_cons_succ, List.set_cons_zero, List.set_cons_succ, if_true, if_false, ite_true, ite_false, reduceIte, Nat.reduceAdd, Nat.reduceSub, Nat.reduceLT, Nat.zero_add, Bool.true_and, Bool.and_true]) ?_))
    by_cases c1 : j = p
    · subst c1
      rw [if_pos (by simp)]
      refine ss_cons (Ok.of rfl ?_)
      exact ⟨⟨_, _, _, rfl⟩, by rw [erase_at lt]; exact g2, k2⟩
    · rw [if_neg (by simp; omega)]
      refine ss_nil ?_
      have sz : ((((l.take j).eraseIdx p).map fun r => if co r.c q = 0 then r else added r (-(co r.c q / co used.c q)) used r.j).map rowD).length < sizeLine := by
        rw [List.length_map, List.length_map]
        have h1 := List.length_eraseIdx_le (l.take j) p
        rw [List.length_take] at h1
        have : (2000 : Nat) < sizeLine := by decide
        omega
      rw [erase_step lt c1]
      have mr : l[j] ∈ l := List.getElem_mem lt
      generalize l[j] = r at *
      have ir := ic r mr h2
      have iv := ic used mu h2
      refine ss_cons (s_if (Ok.of (a := decide (co r.c q = 0)) (h := h2) ?_ ?_))
      · have z : decide (sgn (co r.c q) = 0) = decide (co r.c q = 0) := by rw [decide_eq_decide]; exact sgn_zero
        simp only [runFn, evSs, evS, evE, evT, evEs, evO, evG, evGs, b_ok, ix0, ix1, ix2', o_add', o_sub', c_lt', c_le', c_gt', c_ge', c_eq', c_ne', List.length_cons, List.length_nil, List.map_cons, List.map_nil, List.replicate, Nat.sub_self, Nat.add_sub_cancel, List.cons_append, List.nil_append, List.append_nil, List.getElem?_cons_zero, List.getElem?_cons_succ, List.set_cons_zero, List.set_cons_succ, if_true, if_false, ite_true, ite_false, reduceIte, Nat.reduceAdd, Nat.reduceSub, Nat.reduceLT, Nat.zero_add, Bool.true_and, Bool.and_true, rowD, ir, sg, z]
      · by_cases z0 : co r.c q = 0
        · rw [if_pos (by simp [z0])]
          refine ss_cons (s_expr (Ok.of (a := .non) (by ((simp only [runFn, evSs, evS, evE, evT, evEs, evO, evG, evGs, b_ok, ix0, ix1, ix2', o_add', o_sub', c_lt', c_le', c_gt', c_ge', c_eq', c_ne', List.length_cons, List.length_nil, List.map_cons, List.map_nil, List.replicate, Nat.sub_self, Nat.add_sub_cancel, List.cons_append, List.nil_append, List.append_nil, List.getElem?_cons_zero, List.getElem?_cons_succ, List.set_cons_zero, List.set_cons_succ, if_true, if_false, ite_true, ite_false, reduceIte, Nat.reduceAdd, Nat.reduceSub, Nat.reduceLT, Nat.zero_add, Bool.true_and, Bool.and_true, is_lst g2, m_append g2 sz]) <;> rfl)) ?_))
          refine ss_nil (ss_nil ⟨⟨_, _, _, rfl⟩, ?_, k2.trans (Keep.set (by simp))⟩)
          rw [get_set g2]
          simp [z0]
        · rw [if_neg (by simp [z0])]
          have sr : Sm k (co r.c q) := by rw [getQ (by rw [hl r mr]; exact hq)]; exact (hs r mr).c _ (List.getElem_mem _)
          have su : Sm k (co used.c q) := by rw [getQ (by rw [hl used mu]; exact hq)]; exact (hs used mu).c _ (List.getElem_mem _)
          refine ss_cons (s_asg (by simp) (Ok.of (a := rq (-(co r.c q / co used.c q))) (h := h2) (by simp only [runFn, evSs, evS, evE, evT, evEs, evO, evG, evGs, b_ok, ix0, ix1, ix2', o_add', o_sub', c_lt', c_le', c_gt', c_ge', c_eq', c_ne', List.length_cons, List.length_nil, List.map_cons, List.map_nil, List.replicate, Nat.sub_self, Nat.add_sub_cancel, List.cons_append, List.nil_append, List.append_nil, List.getElem?_cons_zero, List.getElem?_cons_succ, List.set_cons_zero, List.set_cons_succ, if_true, if_false, ite_true, ite_false, reduceIte, Nat.reduceAdd, Nat.reduceSub, Nat.reduceLT, Nat.zero_add, Bool.true_and, Bool.and_true, rowD, ir, iv, ov _ _ h2 sr su h0, ng]) ?_))
          dsimp only [List.set_cons_zero, List.set_cons_succ]
          obtain ⟨t, et⟩ := ad r used (-(co r.c q / co used.c q)) h2 r.j (hs r mr) (hs used mu) (sm_neg (sm_over sr su h0)) ((hl r mr).trans (hl used mu).symm)
          have g6 := get_old (t := t) g2
          have i2 : ix2 (rowD r) (.int 2) h2 = .ok (.bl r.j, h2) := ix2'
          refine ss_cons (s_expr (Ok.of (a := .non) (by ((simp only [runFn, evSs, evS, evE, evT, evEs, evO, evG, evGs, b_ok, ix0, ix1, ix2', o_add', o_sub', c_lt', c_le', c_gt', c_ge', c_eq', c_ne', List.length_cons, List.length_nil, List.map_cons, List.map_nil, List.replicate, Nat.sub_self, Nat.add_sub_cancel, List.cons_append, List.nil_append, List.append_nil, List.getElem?_cons_zero, List.getElem?_cons_succ, List.set_cons_zero, List.set_cons_succ, if_true, if_false, ite_true, ite_false, reduceIte, Nat.reduceAdd, Nat.reduceSub, Nat.reduceLT, Nat.zero_add, Bool.true_and, Bool.and_true, is_lst g2, i2, et, m_append g6 sz]) <;> rfl)) ?_))
          refine ss_nil (ss_nil ⟨⟨_, _, _, rfl⟩, ?_, (k2.trans (Keep.app t)).trans (Keep.set (by simp))⟩)
          rw [get_set g6]
          simp [z0]
end K00
set_option Elab.async false
set_option linter.all false
set_option maxRecDepth 100000
set_option maxHeartbeats 1000000
/-! K00Q: the tightest rows, in a dict. -/
namespace K00
open SF PySem
def keyD (k : List Rat × Bool) : D := .tup [.tup (k.1.map rq), .bl k.2]
def nq (q : Rat) : NestedKey := .tup [.num q.num, .num (q.den : Int)]
def nkey (k : List Rat × Bool) : NestedKey := .tup [.tup (k.1.map nq), .num (if k.2 = true then 1 else 0)]
theorem toKey_rq (n : Nat) (q : Rat) : toKey (n + 2) (rq q) = some (nq q) := rfl
theorem mapO_rq (n : Nat) : ∀ c : List Rat, mapO (toKey (n + 2)) (c.map rq) = some (c.map nq)
  | [] => rfl
  | a :: c => by
    rw [List.map_cons]
    unfold mapO
    rw [toKey_rq, mapO_rq n c]
    rfl
theorem dkey_of (k : List Rat × Bool) : dkey (keyD k) = some (nkey k) := by
  show toKey 8 (.tup [.tup (k.1.map rq), .bl k.2]) = _
  have e : toKey 7 (.tup (k.1.map rq)) = some (.tup (k.1.map nq)) := by
    show (mapO (toKey 6) (k.1.map rq)).map NestedKey.tup = _
    rw [mapO_rq 4]
    rfl
  show (mapO (toKey 7) [.tup (k.1.map rq), .bl k.2]).map NestedKey.tup = _
  unfold mapO
  rw [e]
  rfl
theorem nq_inj {a b : Rat} (h : nq a = nq b) : a = b := by
  unfold nq at h
  injection h with h
  injection h with h1 h2
  injection h2 with h2 _
  injection h1 with h1
  injection h2 with h2
  exact Rat.ext h1 (by omega)
theorem nqs_inj : ∀ {c d : List Rat}, c.map nq = d.map nq → c = d
  | [], [], _ => rfl
  | [], _ :: _, h => by cases h
  | _ :: _, [], h => by cases h
  | a :: c, b :: d, h => by
    rw [List.map_cons, List.map_cons] at h
    injection h with h1 h2
    rw [nq_inj h1, nqs_inj h2]
theorem nkey_inj {k k' : List Rat × Bool} (h : nkey k = nkey k') : k = k' := by
  unfold nkey at h
  injection h with h
  injection h with h1 h2
  injection h1 with h1
  injection h2 with h2 _
  injection h2 with h2
  refine Prod.ext (nqs_inj h1) ?_
  cases a : k.2 <;> cases b : k'.2
  · rfl
  · rw [a, b] at h2; exact absurd h2 (by decide)
  · rw [a, b] at h2; exact absurd h2 (by decide)
  · rfl
theorem keyIs_key (k k' : List Rat × Bool) : SF.keyIs (nkey k) (keyD k') = decide (k' = k) := by
  rw [keyIs_of (dkey_of k')]
  rw [decide_eq_decide]
  exact ⟨nkey_inj, fun h => by rw [h]⟩
def kvD (l : Kp) : List (D × D) := l.map fun p => (keyD p.1, rowD p.2)
theorem dget_kv {k : List Rat × Bool} : ∀ l : Kp, dget (kvD l) (nkey k) = (kget l k).map rowD
  | [] => rfl
  | (q, r) :: l => by
    show (if SF.keyIs (nkey k) (keyD q) = true then some (rowD r) else dget (kvD l) (nkey k)) = _
    rw [keyIs_key, dget_kv l]
    show _ = (if q = k then some r else kget l k).map rowD
    by_cases c : q = k
    · rw [if_pos (decide_eq_true c), if_pos c]; rfl
    · rw [if_neg (by simpa using c), if_neg c]
theorem dset_kv {k : List Rat × Bool} {v : Row} : ∀ l : Kp, dset (kvD l) (nkey k) (rowD v) = kvD (kset l k v)
  | [] => rfl
  | (q, r) :: l => by
    show (keyD q, if SF.keyIs (nkey k) (keyD q) = true then rowD v else rowD r) :: dset (kvD l) (nkey k) (rowD v) = _
    rw [keyIs_key, dset_kv l]
    show _ = kvD ((q, if q = k then v else r) :: kset l k v)
    by_cases c : q = k
    · rw [if_pos (decide_eq_true c), if_pos c]; rfl
    · rw [if_neg (by simpa using c), if_neg c]; rfl
theorem dput_kv {k : List Rat × Bool} {v : Row} (l : Kp) : dput (kvD l) (nkey k) (keyD k) (rowD v) = kvD (kput l k v) := by
  unfold dput kput
  rw [dget_kv]
  cases h : kget l k with
  | none =>
    rw [Option.map_none, if_neg (by simp), if_neg (by simp)]
    unfold kvD
    rw [List.map_append]
    rfl
  | some o =>
    rw [Option.map_some, if_pos (by simp), if_pos (by simp), dset_kv]
/-- == of ratios -/
theorem eq_rq {a b : Rat} {h : Hh} : eqD h (rq a) (rq b) = some (decide (a = b)) := by
  have e : ∀ q : Rat, toPy h deep (rq q) = some (.tuple [.int q.num, .int (q.den : Int)]) := fun q => rfl
  unfold eqD
  rw [e, e]
  dsimp only
  congr 1
  have e2 : PyData.eqv (.tuple [.int a.num, .int (a.den : Int)]) (.tuple [.int b.num, .int (b.den : Int)]) = ((a.num == b.num) && (((a.den : Int) == (b.den : Int)) && true)) := rfl
  rw [e2]
  by_cases c : a = b
  · subst c; simp
  · have : ¬ (a.num = b.num ∧ a.den = b.den) := fun z => c (Rat.ext z.1 z.2)
    rw [decide_eq_false c]
    by_cases d : a.num = b.num
    · have : a.den ≠ b.den := fun z => this ⟨d, z⟩
      simp [d]
      omega
    · simp [d]
theorem ne_rq {a b : Rat} {h : Hh} : cmp2 .ne (rq a) (rq b) h = .ok (.bl (decide (a ≠ b)), h) := by
  have : cmp2 .ne (rq a) (rq b) h = (match eqD h (rq a) (rq b) with
    | some b => .ok (.bl (!b), h)
    | none => .stuck) := rfl
  rw [this, eq_rq]
  simp
end K00
set_option Elab.async false
set_option linter.all false
set_option maxRecDepth 100000
set_option maxHeartbeats 2000000
/-! K00R: tightest. -/
namespace K00
open SF PySem
theorem ix_dic {h : Hh} {a : Nat} {l : Kp} {k : List Rat × Bool} {o : Row} (e : h[a]? = some (O.dic (kvD l))) (g : kget l k = some o) : ix2 (.ref a) (keyD k) h = .ok (rowD o, h) := by
  unfold ix2
  dsimp only
  rw [e]
  dsimp only
  rw [dkey_of]
  dsimp only
  rw [dget_kv, g]
  rfl
theorem notin_dic {h : Hh} {a : Nat} {l : Kp} {k : List Rat × Bool} (e : h[a]? = some (O.dic (kvD l))) : cmp2 .notIn (keyD k) (.ref a) h = .ok (.bl (!(kget l k).isSome), h) := by
  unfold cmp2
  dsimp only
  rw [e]
  dsimp only
  rw [dkey_of]
  dsimp only
  rw [dget_kv, Option.isSome_map]
theorem put_dic {h : Hh} {a : Nat} {l : Kp} {k : List Rat × Bool} {v : Row} (e : h[a]? = some (O.dic (kvD l))) (hl : l.length ≤ sizeLine) (en : En) : evSub (.ref a) (keyD k) (rowD v) en h = .ok (en, h.set a (.dic (kvD (kput l k v)))) := by
  unfold evSub
  dsimp only
  rw [e]
  dsimp only
  rw [dkey_of]
  dsimp only
  rw [if_pos (by unfold kvD; rw [List.length_map]; exact hl), dput_kv]
theorem kput_len {l : Kp} {k : List Rat × Bool} {v : Row} : (kput l k v).length ≤ l.length + 1 := by
  unfold kput
  split
  · have := congrArg List.length (kset_keys (l := l) (k := k) (v := v))
    rw [List.length_map, List.length_map] at this
    omega
  · rw [List.length_append]; exact Nat.le_refl _
theorem tstep_len {n : Nat} {l : Kp} {r : Row} : (tstep n l r).length ≤ l.length + 1 := by
  unfold tstep
  dsimp only
  split
  · exact kput_len
  · split
    · exact kput_len
    · split
      · exact kput_len
      · omega
theorem tstep_P {n len : Nat} {l : Kp} {r0 : Row} {P Q R : Row → Prop} (i : KI n len l) (hl : r0.c.length = len) (hp : ∀ p ∈ l, Q p.2) (pr : P (shape r0 n)) (hPR : ∀ r, P r → R r) (hQR : ∀ r, Q r → R r)
    (h2 : ∀ r o : Row, P r → Q o → r.c.length = len → o.c.length = len → r.c.take n = o.c.take n → r.j = true → o.j = true → R (added r (-1) o true)) : ∀ p ∈ tstep n l r0, R p.2 := by
  have ls : (shape r0 n).c.length = len := shape_len.trans hl
  have put : ∀ k v, R v → ∀ p ∈ kput l k v, R p.2 := fun k v hv p hm => by
    rcases kput_mem hm with e | ⟨e, _⟩
    · rw [e]; exact hv
    · exact hQR _ (hp p e)
  unfold tstep
  dsimp only
  cases h : kget l ((shape r0 n).c.take n, (shape r0 n).j) with
  | none => exact put _ _ (hPR _ pr)
  | some o =>
    dsimp only
    split
    · exact put _ _ (hPR _ pr)
    · split
      · rename_i c
        have ho := kget_mem h
        have ko := i.key _ ho
        have kj : (shape r0 n).j = o.j := (Prod.mk.inj ko).2
        exact put _ _ (h2 _ _ pr (hp _ ho) ls (i.len _ ho) (Prod.mk.inj ko).1 c.1 (by rw [← kj]; exact c.1))
      · exact fun p h => hQR _ (hp p h)
/-- the key of a row as the program makes it -/
theorem key_ev {r : Row} {m : Nat} : D.tup [.tup ((r.c.take m).map rq), .bl r.j] = keyD (r.c.take m, r.j) := rfl
theorem tight_run {n k c m len : Nat} {rs : List Row} {h : Hh} (P : Nat → Row → Prop) (hP : ∀ t r, t ≤ rs.length → P t r → SmR k r) (hM : ∀ t r, P t r → P (t + 1) r) (hc : h[c]? = some (O.lst (rs.map rowD))) (hl : Len len rs) (h1 : ∀ r ∈ rs, SmR k r ∧ P 0 (shape r m))
    (h2 : ∀ t (r o : Row), P 0 r → P t o → r.c.length = len → o.c.length = len → r.c.take m = o.c.take m → r.j = true → o.j = true → P (t + 1) (added r (-1) o true)) (hn : rs.length ≤ 1000000) (hp : 0 < k) (hk : k ≤ 2200) :
    Ok (C (n + 5) 15 [.ref c, .int (m : Int)] h) fun d h' => ∃ a, d = .ref a ∧ h.length ≤ a ∧ h'[a]? = some (O.lst ((tightest rs m).map rowD)) ∧ Keep [] h h' := by
  have sh := fun (r : Row) (h : Hh) (hr : SmR k r) => shape_ok (n := n) (m := m) (h := h) hr hp (by omega)
  have le := fun (a b : Rat) (h : Hh) (ha : Sm k a) (hb : Sm k b) => less_eq (n := n + 3) (h := h) ha hb hp (by omega)
  have s1 : Sm k (-1) := ⟨(sm_one hp).1, (sm_one hp).2⟩
  have ad := fun (u w : Row) (h : Hh) (hu : SmR k u) (hw : SmR k w) (hl : u.c.length = w.c.length) => added_ok (n := n + 1) (h := h) (j := true) hu hw s1 hl hp hk
  refine C_ok (f := f_tightest) rfl rfl fun call hcall => ?_
  rw [← hcall] at sh le ad
  show Ok (evSs call gvals b_tightest [some (.ref c), some (.int (m : Int)), none, none, none, none, none] h) _
  unfold b_tightest
  (refine ss_cons (s_asg (by simp) (Ok.of (by ((simp only [runFn, evSs, evS, evE, evT, evEs, evO, evG, evGs, b_ok, ix0, ix1, ix2', o_add', o_sub', c_lt', c_le', c_gt', c_ge', c_eq', c_ne', List.length_cons, List.length_nil, List.map_cons, List.map_nil, List.replicate, Nat.sub_self, Nat.add_sub_cancel, List.cons_append, List.nil_append, List.append_nil, List.getElem?_cons_zero, List.getElem?_cons_succ, List.set_cons_zero, List.set_cons_succ, if_true, if_false, ite_true, ite_false, reduceIte, Nat.reduceAdd, Nat.reduceSub, Nat.reduceLT, Nat.zero_add, Bool.true_and, Bool.and_true]) <;> rfl)) ?_)); dsimp only [List.set_cons_zero, List.set_cons_succ])
  generalize ha0 : h.length = a0
  have k1 : Keep [] h (h ++ [O.dic []]) := Keep.app _
  have g0 : (h ++ [O.dic []])[a0]? = some (O.dic (kvD [])) := by rw [← ha0]; exact get_new
  have hc1 := get_old (t := [O.dic []]) hc
  have lc : c ≠ a0 := by have := lt_of hc; omega
  generalize h ++ [O.dic []] = h1' at *
  refine ss_cons (s_for (Ok.of (a := .lst c) (h := h1') (by unfold evI; simp only [runFn, evSs, evS, evE, evT, evEs, evO, evG, evGs, b_ok, ix0, ix1, ix2', o_add', o_sub', c_lt', c_le', c_gt', c_ge', c_eq', c_ne', List.length_cons, List.length_nil, List.map_cons, List.map_nil, List.replicate, Nat.sub_self, Nat.add_sub_cancel, List.cons_append, List.nil_append, List.append_nil, List.getElem?_cons_zero, List.getElem?_cons_succ, List.set_cons_zero, List.set_cons_succ, if_true, if_false, ite_true, ite_false, reduceIte, Nat.reduceAdd, Nat.reduceSub, Nat.reduceLT, Nat.zero_add, Bool.true_and, Bool.and_true, itOf, lstAt_of hc1]) ?_))
  have lm : (rs.map rowD).length = rs.length := List.length_map ..
  have hm : It.most h1' (.lst c) = rs.length := by
    show ((lstAt h1' c).map List.length).getD 0 = _
    rw [lstAt_of hc1]
    simp
  rw [hm]
  refine ⟨fun i e2 h2' => (∃ x y z w, e2 = [some (.ref c), some (.int (m : Int)), some (.ref a0), x, y, z, w]) ∧ h2'[a0]? = some (O.dic (kvD ((rs.take i).foldl (tstep m) []))) ∧ KI m len ((rs.take i).foldl (tstep m) []) ∧ (∀ p ∈ (rs.take i).foldl (tstep m) [], P i p.2) ∧ ((rs.take i).foldl (tstep m) []).length ≤ i ∧ Keep [a0] h1' h2',
    ⟨⟨_, _, _, _, rfl⟩, by simpa using g0, ⟨fun p hp => (by cases hp), fun p hp => (by cases hp), List.nodup_nil⟩, fun p hp => (by cases hp), Nat.le_refl _, Keep.refl⟩, ?_⟩
  rintro i e2 h2' ⟨⟨x, y, z, w, rfl⟩, g2, ki, hpp, ln, k2⟩ lei
  have hc2 := k2.get hc1 (by simpa using lc)
  rcases Nat.eq_or_lt_of_le lei with e' | lt
  · have le1 := lst_end hc2
    rw [lm] at le1
    refine .inl ⟨e', by rw [e']; exact le1, ?_⟩
    rw [e', List.take_length] at g2
    rw [e', List.take_length] at ln
    refine ss_cons (s_ret (Ok.of (a := .ref h2'.length) (h := h2' ++ [.lst ((tightest rs m).map rowD)]) ?_ ?_))
    · unfold evE
      have ev1 : evE call gvals (.var 2) [some (.ref c), some (.int (m : Int)), some (.ref a0), x, y, z, w] h2' = .ok (.ref a0, h2') := rfl
      rw [ev1, b_ok]
      unfold dvals
      dsimp only
      rw [g2]
      dsimp only
      have : (100000000 : Nat) < sizeLine * 100 := by decide
      rw [if_pos (by unfold kvD; rw [List.length_map]; have : (1000000 : Nat) < sizeLine := by decide
                     omega)]
      unfold kvD tightest
      rw [List.map_map, List.map_map]
      rfl
    · refine ⟨h2'.length, rfl, ?_, get_new, (k1.past k2 fun i hi => .inr (by rw [List.mem_singleton.mp hi, ← ha0]; exact Nat.le_refl _)).trans (Keep.app _)⟩
      exact Nat.le_trans (by rw [← ha0]; exact k1.1) k2.1
  · have nx1 := lst_next hc2 (i := i) (by rw [lm]; exact lt)
    rw [List.getElem_map] at nx1
    refine .inr ⟨lt, _, nx1, Ok.bind (Ok.of (a := [some (.ref c), some (.int (m : Int)), some (.ref a0), some (rowD rs[i]), y, z, w]) (by ((simp only [runFn, evSs, evS, evE, evT, evEs, evO, evG, evGs, b_ok, ix0, ix1, ix2', o_add', o_sub', c_lt', c_le', c_gt', c_ge', c_eq', c_ne', List.length_cons, List.length_nil, List.map_cons, List.map_nil, List.replicate, Nat.sub_self, Nat.add_sub_cancel, List.cons_append, List.nil_append, List.append_nil, List.getElem?_cons_zero, List.getElem?_cons_succ, List.set_cons_zero, List.set_cons_succ, if_true, if_false, ite_true, ite_false, reduceIte, Nat.reduceAdd, Nat.reduceSub, Nat.reduceLT, Nat.zero_add, Bool.true_and, Bool.and_true]) <;> rfl)) ?_)⟩
    dsimp only
    have tk : rs.take (i + 1) = rs.take i ++ [rs[i]] := by rw [List.take_succ, List.getElem?_eq_getElem lt]; rfl
    have mr : rs[i] ∈ rs := List.getElem_mem lt
    rw [tk, List.foldl_append, List.foldl_cons, List.foldl_nil]
    generalize rs[i] = r0 at *
    generalize (rs.take i).foldl (tstep m) [] = kp at *
    obtain ⟨sr0, pr⟩ := h1 r0 mr
    have hki := (tstep_ok ki (hl r0 mr)).1
    have hlen := tstep_len (n := m) (l := kp) (r := r0)
    have hup : ∀ t r, P 0 r → P t r := fun t r h0 => by
      induction t with
      | zero => exact h0
      | succ t ih => exact hM t r ih
    have hP' := tstep_P ki (hl r0 mr) hpp pr (hup (i + 1)) (hM i) (h2 i)
    obtain ⟨t, et⟩ := sh r0 h2' sr0
    refine ss_cons (s_asg (by simp) (Ok.of (a := rowD (shape r0 m)) (h := h2' ++ t) (by simp only [runFn, evSs, evS, evE, evT, evEs, evO, evG, evGs, b_ok, ix0, ix1, ix2', o_add', o_sub', c_lt', c_le', c_gt', c_ge', c_eq', c_ne', List.length_cons, List.length_nil, List.map_cons, List.map_nil, List.replicate, Nat.sub_self, Nat.add_sub_cancel, List.cons_append, List.nil_append, List.append_nil, List.getElem?_cons_zero, List.getElem?_cons_succ, List.set_cons_zero, List.set_cons_succ, if_true, if_false, ite_true, ite_false, reduceIte, Nat.reduceAdd, Nat.reduceSub, Nat.reduceLT, Nat.zero_add, Bool.true_and, Bool.and_true, et]) ?_))
    dsimp only [List.set_cons_zero, List.set_cons_succ]
    have ls : (shape r0 m).c.length = len := shape_len.trans (hl r0 mr)
    have hts : tstep m kp r0 = (match kget kp ((shape r0 m).c.take m, (shape r0 m).j) with
      | none => kput kp ((shape r0 m).c.take m, (shape r0 m).j) (shape r0 m)
      | some o => if (shape r0 m).j = false ∧ (shape r0 m).b < o.b then kput kp ((shape r0 m).c.take m, (shape r0 m).j) (shape r0 m)
        else if (shape r0 m).j = true ∧ (shape r0 m).b ≠ o.b then kput kp ((added (shape r0 m) (-1) o true).c.take m, true) (added (shape r0 m) (-1) o true) else kp) := rfl
    generalize shape r0 m = r at *
    have g3 := get_old (t := t) g2
    have k3 : Keep [a0] h1' (h2' ++ t) := k2.trans (Keep.app t)
    generalize h2' ++ t = h3 at *
    have ct : ∀ r : Row, cut (r.c.map rq) none (some (m : Int)) = (r.c.take m).map rq := fun r => by rw [cut_to, List.map_take]
    refine ss_cons (s_asg (by simp) (Ok.of (a := keyD (r.c.take m, r.j)) (h := h3) (by simp only [runFn, evSs, evS, evE, evT, evEs, evO, evG, evGs, b_ok, ix0, ix1, ix2', o_add', o_sub', c_lt', c_le', c_gt', c_ge', c_eq', c_ne', List.length_cons, List.length_nil, List.map_cons, List.map_nil, List.replicate, Nat.sub_self, Nat.add_sub_cancel, List.cons_append, List.nil_append, List.append_nil, List.getElem?_cons_zero, List.getElem?_cons_succ, List.set_cons_zero, List.set_cons_succ, if_true, if_false, ite_true, ite_false, reduceIte, Nat.reduceAdd, Nat.reduceSub, Nat.reduceLT, Nat.zero_add, Bool.true_and, Bool.and_true, rowD, sl2, ct, keyD]) ?_))
    dsimp only [List.set_cons_zero, List.set_cons_succ]
    have ni := notin_dic (k := (r.c.take m, r.j)) g3
    have sz : kp.length ≤ sizeLine := by have : (1000000 : Nat) < sizeLine := by decide
                                         omega
    have srr := hP 0 r (Nat.zero_le _) pr
    have fin : ∀ (nk : Kp) (h4 : Hh) (w' : Option D), tstep m kp r0 = nk → h4[a0]? = some (O.dic (kvD nk)) → Keep [a0] h1' h4 →
        (∃ x y z w, [some (.ref c), some (.int (m : Int)), some (.ref a0), some (rowD r0), some (rowD r), some (keyD (r.c.take m, r.j)), w'] = [some (.ref c), some (.int (m : Int)), some (.ref a0), x, y, z, w]) ∧ h4[a0]? = some (O.dic (kvD (tstep m kp r0))) ∧ KI m len (tstep m kp r0) ∧ (∀ p ∈ tstep m kp r0, P (i + 1) p.2) ∧ (tstep m kp r0).length ≤ i + 1 ∧ Keep [a0] h1' h4 := fun nk h4 w' e1 e2 e3 =>
      ⟨⟨_, _, _, _, rfl⟩, by rw [e1]; exact e2, hki, hP', by omega, e3⟩
    cases hg : kget kp (r.c.take m, r.j) with
    | none =>
      rw [hg] at hts ni
      refine ss_cons (s_if (Ok.of (a := true) (h := h3) (by simp only [runFn, evSs, evS, evE, evT, evEs, evO, evG, evGs, b_ok, ix0, ix1, ix2', o_add', o_sub', c_lt', c_le', c_gt', c_ge', c_eq', c_ne', List.length_cons, List.length_nil, List.map_cons, List.map_nil, List.replicate, Nat.sub_self, Nat.add_sub_cancel, List.cons_append, List.nil_append, List.append_nil, List.getElem?_cons_zero, List.getElem?_cons_succ, List.set_cons_zero, List.set_cons_succ, if_true, if_false, ite_true, ite_false, reduceIte, Nat.reduceAdd, Nat.reduceSub, Nat.reduceLT, Nat.zero_add, Bool.true_and, Bool.and_true, ni, Option.isSome_none, Bool.not_false, if_true]) ?_))
      rw [if_pos rfl]
      refine ss_cons (Ok.of (a := .nx [some (.ref c), some (.int (m : Int)), some (.ref a0), some (rowD r0), some (rowD r), some (keyD (r.c.take m, r.j)), w]) (by ((simp only [runFn, evSs, evS, evE, evT, evEs, evO, evG, evGs, b_ok, ix0, ix1, ix2', o_add', o_sub', c_lt', c_le', c_gt', c_ge', c_eq', c_ne', List.length_cons, List.length_nil, List.map_cons, List.map_nil, List.replicate, Nat.sub_self, Nat.add_sub_cancel, List.cons_append, List.nil_append, List.append_nil, List.getElem?_cons_zero, List.getElem?_cons_succ, List.set_cons_zero, List.set_cons_succ, if_true, if_false, ite_true, ite_false, reduceIte, Nat.reduceAdd, Nat.reduceSub, Nat.reduceLT, Nat.zero_add, Bool.true_and, Bool.and_true, put_dic g3 sz]) <;> rfl)) ?_)
      exact ss_nil (ss_nil (fin _ _ _ hts (get_set g3) (k3.trans (Keep.set (by simp)))))
    | some o =>
      rw [hg] at hts ni
      have ho := kget_mem hg
      have so := hP i o lei (hpp _ ho)
      have gd := ix_dic g3 hg
      have i1r : ix2 (rowD r) (.int 1) h3 = .ok (rq r.b, h3) := ix1
      have i2r : ix2 (rowD r) (.int 2) h3 = .ok (.bl r.j, h3) := ix2'
      have i1o : ix2 (rowD o) (.int 1) h3 = .ok (rq o.b, h3) := ix1
      have lee := le r.b o.b h3 srr.b so.b
      obtain ⟨jv, hjv⟩ : ∃ jv, jv = r.j := ⟨_, rfl⟩
      have i2v : ix2 (rowD r) (.int 2) h3 = .ok (.bl jv, h3) := by rw [hjv]; exact i2r
      refine ss_cons (s_if (Ok.of (a := !jv && decide (r.b < o.b)) (h := h3) ?_ ?_))
      · cases jv with
        | true => simp only [runFn, evSs, evS, evE, evT, evEs, evO, evG, evGs, b_ok, ix0, ix1, ix2', o_add', o_sub', c_lt', c_le', c_gt', c_ge', c_eq', c_ne', List.length_cons, List.length_nil, List.map_cons, List.map_nil, List.replicate, Nat.sub_self, Nat.add_sub_cancel, List.cons_append, List.nil_append, List.append_nil, List.getElem?_cons_zero, List.getElem?_cons_succ, List.set_cons_zero, List.set_cons_succ, if_true, if_false, ite_true, ite_false, reduceIte, Nat.reduceAdd, Nat.reduceSub, Nat.reduceLT, Nat.zero_add, Bool.true_and, Bool.and_true, ni, Option.isSome_some, Bool.not_true, Bool.false_eq_true, i2v, Bool.false_and]
        | false => simp only [runFn, evSs, evS, evE, evT, evEs, evO, evG, evGs, b_ok, ix0, ix1, ix2', o_add', o_sub', c_lt', c_le', c_gt', c_ge', c_eq', c_ne', List.length_cons, List.length_nil, List.map_cons, List.map_nil, List.replicate, Nat.sub_self, Nat.add_sub_cancel, List.cons_append, List.nil_append, List.append_nil, List.getElem?_cons_zero, List.getElem?_cons_succ, List.set_cons_zero, List.set_cons_succ, if_true, if_false, ite_true, ite_false, reduceIte, Nat.reduceAdd, Nat.reduceSub, Nat.reduceLT, Nat.zero_add, Bool.true_and, Bool.and_true, ni, Option.isSome_some, Bool.not_true, Bool.false_eq_true, i2v, Bool.not_false, i1r, gd, i1o, lee]
      · by_cases c1 : r.j = false ∧ r.b < o.b
        · rw [if_pos (by simp [hjv, c1.1, c1.2])]
          dsimp only at hts
          rw [if_pos c1] at hts
          refine ss_cons (Ok.of (a := .nx [some (.ref c), some (.int (m : Int)), some (.ref a0), some (rowD r0), some (rowD r), some (keyD (r.c.take m, r.j)), w]) (by ((simp only [runFn, evSs, evS, evE, evT, evEs, evO, evG, evGs, b_ok, ix0, ix1, ix2', o_add', o_sub', c_lt', c_le', c_gt', c_ge', c_eq', c_ne', List.length_cons, List.length_nil, List.map_cons, List.map_nil, List.replicate, Nat.sub_self, Nat.add_sub_cancel, List.cons_append, List.nil_append, List.append_nil, List.getElem?_cons_zero, List.getElem?_cons_succ, List.set_cons_zero, List.set_cons_succ, if_true, if_false, ite_true, ite_false, reduceIte, Nat.reduceAdd, Nat.reduceSub, Nat.reduceLT, Nat.zero_add, Bool.true_and, Bool.and_true, put_dic g3 sz]) <;> rfl)) ?_)
          exact ss_nil (ss_nil (fin _ _ _ hts (get_set g3) (k3.trans (Keep.set (by simp)))))
        · rw [if_neg (by rw [hjv]; simpa using c1)]
          dsimp only at hts
          rw [if_neg c1] at hts
          have ne := ne_rq (a := r.b) (b := o.b) (h := h3)
          refine ss_cons (s_if (Ok.of (a := jv && decide (r.b ≠ o.b)) (h := h3) ?_ ?_))
          · cases jv with
            | true => simp only [runFn, evSs, evS, evE, evT, evEs, evO, evG, evGs, b_ok, ix0, ix1, ix2', o_add', o_sub', c_lt', c_le', c_gt', c_ge', c_eq', c_ne', List.length_cons, List.length_nil, List.map_cons, List.map_nil, List.replicate, Nat.sub_self, Nat.add_sub_cancel, List.cons_append, List.nil_append, List.append_nil, List.getElem?_cons_zero, List.getElem?_cons_succ, List.set_cons_zero, List.set_cons_succ, if_true, if_false, ite_true, ite_false, reduceIte, Nat.reduceAdd, Nat.reduceSub, Nat.reduceLT, Nat.zero_add, Bool.true_and, Bool.and_true, i2v, i1r, gd, i1o, ne]
            | false => simp only [runFn, evSs, evS, evE, evT, evEs, evO, evG, evGs, b_ok, ix0, ix1, ix2', o_add', o_sub', c_lt', c_le', c_gt', c_ge', c_eq', c_ne', List.length_cons, List.length_nil, List.map_cons, List.map_nil, List.replicate, Nat.sub_self, Nat.add_sub_cancel, List.cons_append, List.nil_append, List.append_nil, List.getElem?_cons_zero, List.getElem?_cons_succ, List.set_cons_zero, List.set_cons_succ, if_true, if_false, ite_true, ite_false, reduceIte, Nat.reduceAdd, Nat.reduceSub, Nat.reduceLT, Nat.zero_add, Bool.true_and, Bool.and_true, i2v, Bool.false_and, Bool.false_eq_true]
          · by_cases c2 : r.j = true ∧ r.b ≠ o.b
            · rw [if_pos (by simp [hjv, c2.1, c2.2])]
              rw [if_pos c2] at hts
              have lo := ki.len _ ho
              obtain ⟨t2, et2⟩ := ad r o h3 srr so (ls.trans lo.symm)
              have rm1 : D.tup [.int (-1), .int 1] = rq (-1) := rfl
              refine ss_cons (s_asg (by simp) (Ok.of (a := rowD (added r (-1) o true)) (h := h3 ++ t2) (by simp only [runFn, evSs, evS, evE, evT, evEs, evO, evG, evGs, b_ok, ix0, ix1, ix2', o_add', o_sub', c_lt', c_le', c_gt', c_ge', c_eq', c_ne', List.length_cons, List.length_nil, List.map_cons, List.map_nil, List.replicate, Nat.sub_self, Nat.add_sub_cancel, List.cons_append, List.nil_append, List.append_nil, List.getElem?_cons_zero, List.getElem?_cons_succ, List.set_cons_zero, List.set_cons_succ, if_true, if_false, ite_true, ite_false, reduceIte, Nat.reduceAdd, Nat.reduceSub, Nat.reduceLT, Nat.zero_add, Bool.true_and, Bool.and_true, gd, rm1, et2]) ?_))
              dsimp only [List.set_cons_zero, List.set_cons_succ]
              have g4 := get_old (t := t2) g3
              generalize hgap : added r (-1) o true = gp at *
              refine ss_cons (Ok.of (a := .nx [some (.ref c), some (.int (m : Int)), some (.ref a0), some (rowD r0), some (rowD r), some (keyD (r.c.take m, r.j)), some (rowD gp)]) (h := (h3 ++ t2).set a0 (.dic (kvD (kput kp (gp.c.take m, true) gp)))) ?_ ?_)
              · have pd := put_dic (k := (gp.c.take m, true)) (v := gp) g4 sz
                have kk : keyD (gp.c.take m, true) = .tup [.tup ((gp.c.take m).map rq), .bl true] := rfl
                rw [kk] at pd
                have i0 : ix2 (rowD gp) (.int 0) (h3 ++ t2) = .ok (.tup (gp.c.map rq), h3 ++ t2) := ix0
                simp only [runFn, evSs, evS, evE, evT, evEs, evO, evG, evGs, b_ok, ix0, ix1, ix2', o_add', o_sub', c_lt', c_le', c_gt', c_ge', c_eq', c_ne', List.length_cons, List.length_nil, List.map_cons, List.map_nil, List.replicate, Nat.sub_self, Nat.add_sub_cancel, List.cons_append, List.nil_append, List.append_nil, List.getElem?_cons_zero, List.getElem?_cons_succ, List.set_cons_zero, List.set_cons_succ, if_true, if_false, ite_true, ite_false, reduceIte, Nat.reduceAdd, Nat.reduceSub, Nat.reduceLT, Nat.zero_add, Bool.true_and, Bool.and_true, i0, sl2, ct, pd]
              · exact ss_nil (ss_nil (ss_nil (fin _ _ _ hts (get_set g4) ((k3.trans (Keep.app t2)).trans (Keep.set (by simp))))))
            · rw [if_neg (by rw [hjv]; simpa using c2)]
              rw [if_neg c2] at hts
              exact ss_nil (ss_nil (ss_nil (fin _ _ _ hts g3 k3)))
end K00
set_option Elab.async false
set_option linter.all false
set_option maxRecDepth 100000
set_option maxHeartbeats 2000000
/-! K00S: without, chain. -/
namespace K00
open SF PySem
/-- the rows ahead of the tightest -/
def mid (l : List Row) (k : Nat) : List Row := match firstJust l k with
  | none => byPairs l k
  | some p => match l[p]? with
    | some used => byEq l p used k
    | none => []
theorem without_mid {l : List Row} {k m : Nat} : without l k m = tightest (mid l k) m := by
  unfold without mid
  cases firstJust l k with
  | none => rfl
  | some p =>
    dsimp only
    cases l[p]? with
    | none => rfl
    | some used => rfl
theorem mid_len {l : List Row} {k len : Nat} (h : Len len l) : Len len (mid l k) := by
  unfold mid
  split
  · exact pairs_len h
  · rename_i p e
    obtain ⟨used, e1, _, _⟩ := firstJust_some e
    rw [e1]
    exact eq_len h (List.mem_of_getElem? e1)
theorem call1 {call : Nat → List D → Hh → R (D × Hh)} {gl : List D} {e : En} {h : Hh} {f i : Nat} {a : E} {Q : D → Hh → Prop} (k : Ok (evE call gl a e h) fun d h' => ∃ x, e[i]? = some (some x) ∧ Ok (call f [d, x] h') Q) : Ok (evE call gl (.call f (.cons a (.cons (.var i) .nil)) []) e h) Q := by
  obtain ⟨d, h1, e1, x, e2, q⟩ := k
  have ev1 : evE call gl (.var i) e h1 = .ok (x, h1) := by
    unfold evE
    rw [e2]
  have ev2 : evE call gl (.call f (.cons a (.cons (.var i) .nil)) []) e h = call f [d, x] h1 := by
    show (evEs call gl (.cons a (.cons (.var i) .nil)) e h >>= fun p => call f (p.1 ++ []) p.2) = _
    have : evEs call gl (.cons a (.cons (.var i) .nil)) e h = .ok ([d, x], h1) := by
      show (evE call gl a e h >>= fun p => (evE call gl (.var i) e p.2 >>= fun q => R.ok ([q.1], q.2)) >>= fun q => R.ok (p.1 :: q.1, q.2)) = _
      rw [e1, b_ok]
      dsimp only
      rw [ev1, b_ok, b_ok]
    rw [this, b_ok]
    rfl
  rw [ev2]
  exact q
theorem without_run {n k K c q m len : Nat} {l : List Row} {h : Hh} (P : Nat → Row → Prop) (hP : ∀ t r, t ≤ (mid l q).length → P t r → SmR K r) (hM : ∀ t r, P t r → P (t + 1) r) (hc : h[c]? = some (O.lst (l.map rowD))) (hs : ∀ r ∈ l, SmR k r) (hl : Len len l) (hq : q < len) (hn : l.length ≤ 900) (hp : 0 < k) (hk : 2 * k ≤ 2200) (hK : K ≤ 2200) (hKp : 0 < K)
    (h1 : ∀ r ∈ mid l q, SmR K r ∧ P 0 (shape r m)) (hml : (mid l q).length ≤ 1000000)
    (h2 : ∀ t (r o : Row), P 0 r → P t o → r.c.length = len → o.c.length = len → r.c.take m = o.c.take m → r.j = true → o.j = true → P (t + 1) (added r (-1) o true)) :
    Ok (C (n + 6) 16 [.ref c, .int (q : Int), .int (m : Int)] h) fun d h' => ∃ a, d = .ref a ∧ h.length ≤ a ∧ h'[a]? = some (O.lst ((without l q m).map rowD)) ∧ Keep [] h h' := by
  have fj := firstJust_ok (n := n + 3) hc (k := q) fun r hr => by rw [hl r hr]; exact hq
  have bp := byPairs_ok (n := n + 1) (h := h) hc hs hl hq (by omega) hp hk
  have be := fun (p : Nat) (used : Row) (hu : l[p]? = some used) (h0 : co used.c q ≠ 0) => byEq_ok (n := n + 1) (h := h) hc hs hl hq (by omega) hp hk hu h0
  have ti := fun (c' : Nat) (h' : Hh) (hc' : h'[c']? = some (O.lst ((mid l q).map rowD))) => tight_run (n := n) P hP hM hc' (mid_len hl) h1 h2 hml hKp hK
  refine C_ok (f := f_without) rfl rfl fun call hcall => ?_
  rw [← hcall] at fj bp be ti
  show Ok (evSs call gvals b_without [some (.ref c), some (.int (q : Int)), some (.int (m : Int)), none] h) _
  unfold b_without
  (refine ss_cons (s_asg (by simp) (Ok.of (by ((simp only [runFn, evSs, evS, evE, evT, evEs, evO, evG, evGs, b_ok, ix0, ix1, ix2', o_add', o_sub', c_lt', c_le', c_gt', c_ge', c_eq', c_ne', List.length_cons, List.length_nil, List.map_cons, List.map_nil, List.replicate, Nat.sub_self, Nat.add_sub_cancel, List.cons_append, List.nil_append, List.append_nil, List.getElem?_cons_zero, List.getElem?_cons_succ, List.set_cons_zero, List.set_cons_succ, if_true, if_false, ite_true, ite_false, reduceIte, Nat.reduceAdd, Nat.reduceSub, Nat.reduceLT, Nat.zero_add, Bool.true_and, Bool.and_true, fj]) <;> rfl)) ?_)); dsimp only [List.set_cons_zero, List.set_cons_succ])
  have fin : ∀ d1 h1', d1 = D.ref h.length → h1'[h.length]? = some (O.lst ((mid l q).map rowD)) → Keep [] h h1' → Ok (call 15 [d1, .int (m : Int)] h1') fun d h' => ∃ a, d = .ref a ∧ h.length ≤ a ∧ h'[a]? = some (O.lst ((without l q m).map rowD)) ∧ Keep [] h h' := fun d1 h1' e1 e2 e3 => by
    rw [e1]
    refine (ti _ h1' e2).imp fun d h' q => ?_
    obtain ⟨a, r1, r2, r3, r4⟩ := q
    rw [without_mid]
    exact ⟨a, r1, Nat.le_trans e3.1 r2, r3, e3.trans r4⟩
  cases hf : firstJust l q with
  | none =>
    have hmid : mid l q = byPairs l q := by unfold mid; rw [hf]
    rw [hmid] at fin
    refine ss_cons (s_if (Ok.of (a := true) (h := h) (by simp only [runFn, evSs, evS, evE, evT, evEs, evO, evG, evGs, b_ok, ix0, ix1, ix2', o_add', o_sub', c_lt', c_le', c_gt', c_ge', c_eq', c_ne', List.length_cons, List.length_nil, List.map_cons, List.map_nil, List.replicate, Nat.sub_self, Nat.add_sub_cancel, List.cons_append, List.nil_append, List.append_nil, List.getElem?_cons_zero, List.getElem?_cons_succ, List.set_cons_zero, List.set_cons_succ, if_true, if_false, ite_true, ite_false, reduceIte, Nat.reduceAdd, Nat.reduceSub, Nat.reduceLT, Nat.zero_add, Bool.true_and, Bool.and_true, oN, cmp2]) ?_))
    rw [if_pos rfl]
    refine ss_cons (s_ret (call1 ?_))
    unfold evE
    refine Ok.bind (Ok.of (a := [.ref c, .int (q : Int)]) (h := h) (by simp only [runFn, evSs, evS, evE, evT, evEs, evO, evG, evGs, b_ok, ix0, ix1, ix2', o_add', o_sub', c_lt', c_le', c_gt', c_ge', c_eq', c_ne', List.length_cons, List.length_nil, List.map_cons, List.map_nil, List.replicate, Nat.sub_self, Nat.add_sub_cancel, List.cons_append, List.nil_append, List.append_nil, List.getElem?_cons_zero, List.getElem?_cons_succ, List.set_cons_zero, List.set_cons_succ, if_true, if_false, ite_true, ite_false, reduceIte, Nat.reduceAdd, Nat.reduceSub, Nat.reduceLT, Nat.zero_add, Bool.true_and, Bool.and_true]) ?_)
    rw [List.append_nil]
    refine bp.imp fun d1 h1' q1 => ?_
    exact ⟨_, rfl, fin d1 h1' q1.1 q1.2.1 q1.2.2⟩
  | some p =>
    obtain ⟨used, u1, u2, u3⟩ := firstJust_some hf
    have hmid : mid l q = byEq l p used q := by
      unfold mid
      rw [hf]
      dsimp only
      rw [u1]
    rw [hmid] at fin
    refine ss_cons (s_if (Ok.of (a := false) (h := h) (by simp only [runFn, evSs, evS, evE, evT, evEs, evO, evG, evGs, b_ok, ix0, ix1, ix2', o_add', o_sub', c_lt', c_le', c_gt', c_ge', c_eq', c_ne', List.length_cons, List.length_nil, List.map_cons, List.map_nil, List.replicate, Nat.sub_self, Nat.add_sub_cancel, List.cons_append, List.nil_append, List.append_nil, List.getElem?_cons_zero, List.getElem?_cons_succ, List.set_cons_zero, List.set_cons_succ, if_true, if_false, ite_true, ite_false, reduceIte, Nat.reduceAdd, Nat.reduceSub, Nat.reduceLT, Nat.zero_add, Bool.true_and, Bool.and_true, oN, cmp2]) ?_))
    rw [if_neg Bool.false_ne_true]
    refine ss_nil ?_
    refine ss_cons (s_ret (call1 ?_))
    unfold evE
    refine Ok.bind (Ok.of (a := [.ref c, .int (p : Int), .int (q : Int)]) (h := h) (by simp only [runFn, evSs, evS, evE, evT, evEs, evO, evG, evGs, b_ok, ix0, ix1, ix2', o_add', o_sub', c_lt', c_le', c_gt', c_ge', c_eq', c_ne', List.length_cons, List.length_nil, List.map_cons, List.map_nil, List.replicate, Nat.sub_self, Nat.add_sub_cancel, List.cons_append, List.nil_append, List.append_nil, List.getElem?_cons_zero, List.getElem?_cons_succ, List.set_cons_zero, List.set_cons_succ, if_true, if_false, ite_true, ite_false, reduceIte, Nat.reduceAdd, Nat.reduceSub, Nat.reduceLT, Nat.zero_add, Bool.true_and, Bool.and_true, oN]) ?_)
    rw [List.append_nil]
    refine (be p used u1 u3).imp fun d1 h1' q1 => ?_
    exact ⟨_, rfl, fin d1 h1' q1.1 q1.2.1 q1.2.2⟩
end K00
set_option Elab.async false
set_option linter.all false
set_option maxRecDepth 100000
set_option maxHeartbeats 2000000
/-! K00T: chain, broken. -/
namespace K00
open SF PySem
/-- all numbers on the way are small, all lists short -/
structure Fine (l : List Row) (n len k K : Nat) : Prop where
  sm : ∀ m, m ≤ n → ∀ r ∈ el l n m, SmR k r
  cnt : ∀ m, m ≤ n → (el l n m).length ≤ 900
  mid : ∀ m, m < n → (K00.mid (el l n m) (n - 1 - m)).length ≤ 1000000 ∧ ∃ P : Nat → Row → Prop, (∀ t r, t ≤ (K00.mid (el l n m) (n - 1 - m)).length → P t r → SmR K r) ∧ (∀ t r, P t r → P (t + 1) r) ∧ (∀ r ∈ K00.mid (el l n m) (n - 1 - m), SmR K r ∧ P 0 (shape r n)) ∧
    ∀ t (r o : Row), P 0 r → P t o → r.c.length = len → o.c.length = len → r.c.take n = o.c.take n → r.j = true → o.j = true → P (t + 1) (added r (-1) o true)
theorem rngd_ok {call : Nat → List D → Hh → R (D × Hh)} {gl : List D} {e : En} {h : Hh} {a b : E} {i j : Int} {P : SF.It → Hh → Prop} (ha : evE call gl a e h = .ok (.int i, h)) (hb : evE call gl b e h = .ok (.int j, h)) (h1 : -(2 ^ 61) ≤ i) (h2 : i < 2 ^ 61) (h3 : -(2 ^ 61) ≤ j) (h4 : j < 2 ^ 61)
    (q : P (.rng i (-1) (i - j).toNat) h) : Ok (evI call gl (.rngd a b) e h) P := by
  unfold evI
  rw [ha, b_ok, hb, b_ok]
  dsimp only
  rw [if_pos (by rw [small_ok h1 h2, small_ok h3 h4]; rfl)]
  exact Ok.pure q
theorem broken_ok {n k c : Nat} {m : Int} {l : List Row} {h : Hh} (hc : h[c]? = some (O.lst (l.map rowD))) : C (n + 2) 18 [.ref c, .int m] h = .ok (match l.find? isBroken with
    | some r => rowD r
    | none => .non, h) := by
  have sg := fun (a : Rat) (h : Hh) => sign_eq (n := n) (a := a) (h := h)
  refine Ok.eq (C_ok (f := f_broken) rfl rfl fun call hcall => ?_)
  rw [← hcall] at sg
  show Ok (evSs call gvals b_broken [some (.ref c), some (.int m), none, none] h) _
  unfold b_broken
  refine ss_cons (s_for (Ok.of (a := .lst c) (h := h) (by unfold evI; simp only [runFn, evSs, evS, evE, evT, evEs, evO, evG, evGs, b_ok, ix0, ix1, ix2', o_add', o_sub', c_lt', c_le', c_gt', c_ge', c_eq', c_ne', List.length_cons, List.length_nil, List.map_cons, List.map_nil, List.replicate, Nat.sub_self, Nat.add_sub_cancel, List.cons_append, List.nil_append, List.append_nil, List.getElem?_cons_zero, List.getElem?_cons_succ, List.set_cons_zero, List.set_cons_succ, if_true, if_false, ite_true, ite_false, reduceIte, Nat.reduceAdd, Nat.reduceSub, Nat.reduceLT, Nat.zero_add, Bool.true_and, Bool.and_true, itOf, lstAt_of hc]) ?_))
  have lm : (l.map rowD).length = l.length := List.length_map ..
  have hm : It.most h (.lst c) = l.length := by
    show ((lstAt h c).map List.length).getD 0 = _
    rw [lstAt_of hc]
    simp
  rw [hm]
  refine ⟨fun i e2 h2 => h2 = h ∧ (∃ x y, e2 = [some (.ref c), some (.int m), x, y]) ∧ ∀ (p : Nat) (hp : p < l.length), p < i → isBroken l[p] = false, ⟨rfl, ⟨_, _, rfl⟩, fun p _ h => by omega⟩, ?_⟩
  rintro i e2 h2 ⟨rfl, ⟨x, y, rfl⟩, hn⟩ le
  rcases Nat.eq_or_lt_of_le le with e' | lt
  · have le1 := lst_end hc
    rw [lm] at le1
    refine .inl ⟨e', by rw [e']; exact le1, ?_⟩
    have : l.find? isBroken = none := List.find?_eq_none.mpr fun r hr => by
      obtain ⟨p, hp, rfl⟩ := List.mem_iff_getElem.mp hr
      rw [hn p hp (by omega)]
      simp
    rw [this]
    (refine ss_cons (s_ret (Ok.of (by ((simp only [runFn, evSs, evS, evE, evT, evEs, evO, evG, evGs, b_ok, ix0, ix1, ix2', o_add', o_sub', c_lt', c_le', c_gt', c_ge', c_eq', c_ne', List.length_cons, List.length_nil, List.map_cons, List.map_nil, List.replicate, Nat.sub_self, Nat.add_sub_cancel, List.cons_append, List.nil_append, List.append_nil, List.getElem?_cons_zero, List.getElem?_cons_succ, List.set_cons_zero, List.set_cons_succ, if_true, if_false, ite_true, ite_false, reduceIte, Nat.reduceAdd, Nat.reduceSub, Nat.reduceLT, Nat.zero_add, Bool.true_and, Bool.and_true]) <;> rfl)) ?_)); dsimp only [List.set_cons_zero, List.set_cons_succ])
    exact ⟨rfl, rfl⟩
  · have nx1 := lst_next hc (i := i) (by rw [lm]; exact lt)
    rw [List.getElem_map] at nx1
    refine .inr ⟨lt, _, nx1, Ok.bind (Ok.of (a := [some (.ref c), some (.int m), some (rowD l[i]), y]) (by ((simp only [runFn, evSs, evS, evE, evT, evEs, evO, evG, evGs, b_ok, ix0, ix1, ix2', o_add', o_sub', c_lt', c_le', c_gt', c_ge', c_eq', c_ne', List.length_cons, List.length_nil, List.map_cons, List.map_nil, List.replicate, Nat.sub_self, Nat.add_sub_cancel, List.cons_append, List.nil_append, List.append_nil, List.getElem?_cons_zero, List.getElem?_cons_succ, List.set_cons_zero, List.set_cons_succ, if_true, if_false, ite_true, ite_false, reduceIte, Nat.reduceAdd, Nat.reduceSub, Nat.reduceLT, Nat.zero_add, Bool.true_and, Bool.and_true]) <;> rfl)) ?_)⟩
    dsimp only
    generalize hr : l[i] = r at *
    have i1 : ix2 (rowD r) (.int 1) h2 = .ok (rq r.b, h2) := ix1
    have i2 : ix2 (rowD r) (.int 2) h2 = .ok (.bl r.j, h2) := ix2'
    (refine ss_cons (s_asg (by simp) (Ok.of (by ((simp only [runFn, evSs, evS, evE, evT, evEs, evO, evG, evGs, b_ok, ix0, ix1, ix2', o_add', o_sub', c_lt', c_le', c_gt', c_ge', c_eq', c_ne', List.length_cons, List.length_nil, List.map_cons, List.map_nil, List.replicate, Nat.sub_self, Nat.add_sub_cancel, List.cons_append, List.nil_append, List.append_nil, List.getElem?_cons_zero, List.getElem?_cons_succ, List.set_cons_zero, List.set_cons_succ, if_true, if_false, ite_true, ite_false, reduceIte, Nat.reduceAdd, Nat.reduceSub, Nat.reduceLT, Nat.zero_add, Bool.true_and, Bool.and_true, i1]) <;> rfl)) ?_)); dsimp only [List.set_cons_zero, List.set_cons_succ])
    refine ss_cons (s_if (Ok.of (a := isBroken r) (h := h2) ?_ ?_))
    · unfold isBroken
      have z1 : decide (sgn r.b < 0) = decide (r.b < 0) := by rw [decide_eq_decide]; exact sgn_neg
      have z2 : (!decide (sgn r.b = 0)) = decide (r.b ≠ 0) := by
        by_cases z : r.b = 0
        · simp [z, sgn_zero.mpr rfl]
        · simp [z, sgn_zero]
      by_cases c1 : r.b < 0
      · have d1 : decide (r.b < 0) = true := decide_eq_true c1
        rw [d1]
        simp only [runFn, evSs, evS, evE, evT, evEs, evO, evG, evGs, b_ok, ix0, ix1, ix2', o_add', o_sub', c_lt', c_le', c_gt', c_ge', c_eq', c_ne', List.length_cons, List.length_nil, List.map_cons, List.map_nil, List.replicate, Nat.sub_self, Nat.add_sub_cancel, List.cons_append, List.nil_append, List.append_nil, List.getElem?_cons_zero, List.getElem?_cons_succ, List.set_cons_zero, List.set_cons_succ, if_true, if_false, ite_true, ite_false, reduceIte, Nat.reduceAdd, Nat.reduceSub, Nat.reduceLT, Nat.zero_add, Bool.true_and, Bool.and_true, sg, z1, d1, Bool.true_or]
      · have d1 : decide (r.b < 0) = false := decide_eq_false c1
        rw [d1]
        cases hj : r.j with
        | true =>
          rw [hj] at i2
          simp only [runFn, evSs, evS, evE, evT, evEs, evO, evG, evGs, b_ok, ix0, ix1, ix2', o_add', o_sub', c_lt', c_le', c_gt', c_ge', c_eq', c_ne', List.length_cons, List.length_nil, List.map_cons, List.map_nil, List.replicate, Nat.sub_self, Nat.add_sub_cancel, List.cons_append, List.nil_append, List.append_nil, List.getElem?_cons_zero, List.getElem?_cons_succ, List.set_cons_zero, List.set_cons_succ, if_true, if_false, ite_true, ite_false, reduceIte, Nat.reduceAdd, Nat.reduceSub, Nat.reduceLT, Nat.zero_add, Bool.true_and, Bool.and_true, sg, z1, d1, i2, z2, Bool.false_or, Bool.false_eq_true]
        | false =>
          rw [hj] at i2
          simp only [runFn, evSs, evS, evE, evT, evEs, evO, evG, evGs, b_ok, ix0, ix1, ix2', o_add', o_sub', c_lt', c_le', c_gt', c_ge', c_eq', c_ne', List.length_cons, List.length_nil, List.map_cons, List.map_nil, List.replicate, Nat.sub_self, Nat.add_sub_cancel, List.cons_append, List.nil_append, List.append_nil, List.getElem?_cons_zero, List.getElem?_cons_succ, List.set_cons_zero, List.set_cons_succ, if_true, if_false, ite_true, ite_false, reduceIte, Nat.reduceAdd, Nat.reduceSub, Nat.reduceLT, Nat.zero_add, Bool.true_and, Bool.and_true, sg, z1, d1, i2, z2, Bool.false_or, Bool.false_eq_true, Bool.false_and]
    · cases hb : isBroken r with
      | true =>
        rw [if_pos rfl]
        have : l.find? isBroken = some r := List.find?_eq_some_iff_getElem.mpr ⟨hb, i, lt, hr, fun p hp => by rw [hn p (by omega) hp]; rfl⟩
        rw [this]
        (refine ss_cons (s_ret (Ok.of (by ((simp only [runFn, evSs, evS, evE, evT, evEs, evO, evG, evGs, b_ok, ix0, ix1, ix2', o_add', o_sub', c_lt', c_le', c_gt', c_ge', c_eq', c_ne', List.length_cons, List.length_nil, List.map_cons, List.map_nil, List.replicate, Nat.sub_self, Nat.add_sub_cancel, List.cons_append, List.nil_append, List.append_nil, List.getElem?_cons_zero, List.getElem?_cons_succ, List.set_cons_zero, List.set_cons_succ, if_true, if_false, ite_true, ite_false, reduceIte, Nat.reduceAdd, Nat.reduceSub, Nat.reduceLT, Nat.zero_add, Bool.true_and, Bool.and_true]) <;> rfl)) ?_)); dsimp only [List.set_cons_zero, List.set_cons_succ])
        exact ⟨rfl, rfl⟩
      | false =>
        rw [if_neg Bool.false_ne_true]
        refine ss_nil (ss_nil ⟨rfl, ⟨_, _, rfl⟩, fun p hp h => ?_⟩)
        by_cases q : p = i
        · subst q; rw [hr]; exact hb
        · exact hn p hp (by omega)
end K00
set_option Elab.async false
set_option linter.all false
set_option maxRecDepth 100000
set_option maxHeartbeats 2000000
/-! K00U: chain. -/
namespace K00
open SF PySem
theorem chain_run {n k K c m len : Nat} {l : List Row} {h : Hh} (hc : h[c]? = some (O.lst (l.map rowD))) (hl : Len len l) (hq : m ≤ len) (F : Fine l m len k K) (hp : 0 < k) (hk : 2 * k ≤ 2200) (hK : K ≤ 2200) (hKp : 0 < K) (hm : m ≤ 100) :
    Ok (C (n + 7) 17 [.ref c, .int (m : Int)] h) fun d h' => ∃ (a : Nat) (as : List Nat), d = .ref a ∧ h'[a]? = some (O.lst (as.map D.ref)) ∧ as.length = m + 1 ∧ (∀ (i b : Nat), as[i]? = some b → h'[b]? = some (O.lst ((el l m (m - i)).map rowD))) ∧ Keep [] h h' := by
  have wr : ∀ (i c' : Nat) (h' : Hh), i < m → h'[c']? = some (O.lst ((el l m i).map rowD)) → Ok (C (n + 6) 16 [.ref c', .int ((m - 1 - i : Nat) : Int), .int (m : Int)] h') fun d h'' => ∃ a, d = .ref a ∧ h'.length ≤ a ∧ h''[a]? = some (O.lst ((el l m (i + 1)).map rowD)) ∧ Keep [] h' h'' := fun i c' h' hi hc' => by
    obtain ⟨q1, P, q2, qM, q3, q4⟩ := F.mid i hi
    exact without_run (n := n) (m := m) (q := m - 1 - i) P q2 qM hc' (F.sm i (by omega)) (el_len hl i) (by omega) (F.cnt i (by omega)) hp hk hK hKp q3 q1 q4
  refine C_ok (f := f_chain) rfl rfl fun call hcall => ?_
  rw [← hcall] at wr
  show Ok (evSs call gvals b_chain [some (.ref c), some (.int (m : Int)), none, none, none] h) _
  unfold b_chain
  have lc := lstAt_of hc
  (refine ss_cons (s_asg (by simp) (Ok.of (by ((simp only [runFn, evSs, evS, evE, evT, evEs, evO, evG, evGs, b_ok, ix0, ix1, ix2', o_add', o_sub', c_lt', c_le', c_gt', c_ge', c_eq', c_ne', List.length_cons, List.length_nil, List.map_cons, List.map_nil, List.replicate, Nat.sub_self, Nat.add_sub_cancel, List.cons_append, List.nil_append, List.append_nil, List.getElem?_cons_zero, List.getElem?_cons_succ, List.set_cons_zero, List.set_cons_succ, if_true, if_false, ite_true, ite_false, reduceIte, Nat.reduceAdd, Nat.reduceSub, Nat.reduceLT, Nat.zero_add, Bool.true_and, Bool.and_true, bf2, listD, lc]) <;> rfl)) ?_)); dsimp only [List.set_cons_zero, List.set_cons_succ])
  have k0 : Keep [] h (h ++ [O.lst (l.map rowD)]) := Keep.app _
  have g0 : (h ++ [O.lst (l.map rowD)])[h.length]? = some (O.lst (l.map rowD)) := get_new
  generalize ha0 : h.length = a0 at g0
  generalize h ++ [O.lst (l.map rowD)] = h1 at *
  (refine ss_cons (s_asg (by simp) (Ok.of (by ((simp only [runFn, evSs, evS, evE, evT, evEs, evO, evG, evGs, b_ok, ix0, ix1, ix2', o_add', o_sub', c_lt', c_le', c_gt', c_ge', c_eq', c_ne', List.length_cons, List.length_nil, List.map_cons, List.map_nil, List.replicate, Nat.sub_self, Nat.add_sub_cancel, List.cons_append, List.nil_append, List.append_nil, List.getElem?_cons_zero, List.getElem?_cons_succ, List.set_cons_zero, List.set_cons_succ, if_true, if_false, ite_true, ite_false, reduceIte, Nat.reduceAdd, Nat.reduceSub, Nat.reduceLT, Nat.zero_add, Bool.true_and, Bool.and_true]) <;> rfl)) ?_)); dsimp only [List.set_cons_zero, List.set_cons_succ])
  have k1 : Keep [] h (h1 ++ [O.lst [.ref a0]]) := k0.trans (Keep.app _)
  have g1 := get_old (t := [O.lst [D.ref a0]]) g0
  have gr : (h1 ++ [O.lst [D.ref a0]])[h1.length]? = some (O.lst ([a0].map D.ref)) := get_new
  have l01 : a0 < h1.length := lt_of g0
  have hl1 : h.length ≤ h1.length := k0.1
  generalize h1.length = R at *
  generalize h1 ++ [O.lst [D.ref a0]] = h2 at *
  refine ss_cons (s_for (rngd_ok (i := (m : Int) - 1) (j := -1) ?_ ?_ (by omega) (by omega) (by decide) (by decide) ?_))
  · simp only [runFn, evSs, evS, evE, evT, evEs, evO, evG, evGs, b_ok, ix0, ix1, ix2', o_add', o_sub', c_lt', c_le', c_gt', c_ge', c_eq', c_ne', List.length_cons, List.length_nil, List.map_cons, List.map_nil, List.replicate, Nat.sub_self, Nat.add_sub_cancel, List.cons_append, List.nil_append, List.append_nil, List.getElem?_cons_zero, List.getElem?_cons_succ, List.set_cons_zero, List.set_cons_succ, if_true, if_false, ite_true, ite_false, reduceIte, Nat.reduceAdd, Nat.reduceSub, Nat.reduceLT, Nat.zero_add, Bool.true_and, Bool.and_true]
  · simp only [runFn, evSs, evS, evE, evT, evEs, evO, evG, evGs, b_ok, ix0, ix1, ix2', o_add', o_sub', c_lt', c_le', c_gt', c_ge', c_eq', c_ne', List.length_cons, List.length_nil, List.map_cons, List.map_nil, List.replicate, Nat.sub_self, Nat.add_sub_cancel, List.cons_append, List.nil_append, List.append_nil, List.getElem?_cons_zero, List.getElem?_cons_succ, List.set_cons_zero, List.set_cons_succ, if_true, if_false, ite_true, ite_false, reduceIte, Nat.reduceAdd, Nat.reduceSub, Nat.reduceLT, Nat.zero_add, Bool.true_and, Bool.and_true]
  have hmm : (((m : Int) - 1) - (-1)).toNat = m := by omega
  rw [hmm]
  have hmo : It.most h2 (.rng ((m : Int) - 1) (-1) m) = m := rfl
  rw [hmo]
  refine ⟨fun i e3 h3 => ∃ (as : List Nat) (x : Option D) (b : Nat), e3 = [some (.ref c), some (.int (m : Int)), some (.ref b), some (.ref R), x] ∧ h3[R]? = some (O.lst (as.map D.ref)) ∧ as.length = i + 1 ∧ as[i]? = some b ∧ (∀ (t d : Nat), as[t]? = some d → d ≠ R ∧ h3[d]? = some (O.lst ((el l m t).map rowD))) ∧ Keep [] h h3,
    ⟨[a0], none, a0, rfl, gr, rfl, rfl, fun t d e => by
      have : t = 0 := by have := (List.getElem?_eq_some_iff.mp e).1; simpa using this
      subst this
      cases e
      exact ⟨by omega, g1⟩, k1⟩, ?_⟩
  rintro i e3 h3 ⟨as, x, b, rfl, g3, la, hb, ha, k3⟩ le
  rcases Nat.eq_or_lt_of_le le with e' | lt
  · refine .inl ⟨e', ?_, ?_⟩
    · unfold It.next
      rw [e', if_neg (Nat.lt_irrefl m)]
    · refine ss_cons (s_expr (Ok.of (a := .non) (h := h3.set R (.lst (as.map D.ref).reverse)) (by simp only [runFn, evSs, evS, evE, evT, evEs, evO, evG, evGs, b_ok, ix0, ix1, ix2', o_add', o_sub', c_lt', c_le', c_gt', c_ge', c_eq', c_ne', List.length_cons, List.length_nil, List.map_cons, List.map_nil, List.replicate, Nat.sub_self, Nat.add_sub_cancel, List.cons_append, List.nil_append, List.append_nil, List.getElem?_cons_zero, List.getElem?_cons_succ, List.set_cons_zero, List.set_cons_succ, if_true, if_false, ite_true, ite_false, reduceIte, Nat.reduceAdd, Nat.reduceSub, Nat.reduceLT, Nat.zero_add, Bool.true_and, Bool.and_true, is_lst g3, m_reverse g3]) ?_))
      (refine ss_cons (s_ret (Ok.of (by ((simp only [runFn, evSs, evS, evE, evT, evEs, evO, evG, evGs, b_ok, ix0, ix1, ix2', o_add', o_sub', c_lt', c_le', c_gt', c_ge', c_eq', c_ne', List.length_cons, List.length_nil, List.map_cons, List.map_nil, List.replicate, Nat.sub_self, Nat.add_sub_cancel, List.cons_append, List.nil_append, List.append_nil, List.getElem?_cons_zero, List.getElem?_cons_succ, List.set_cons_zero, List.set_cons_succ, if_true, if_false, ite_true, ite_false, reduceIte, Nat.reduceAdd, Nat.reduceSub, Nat.reduceLT, Nat.zero_add, Bool.true_and, Bool.and_true]) <;> rfl)) ?_)); dsimp only [List.set_cons_zero, List.set_cons_succ])
      refine ⟨R, as.reverse, rfl, by rw [List.map_reverse]; exact get_set g3, by rw [List.length_reverse, la, e'], fun t d e => ?_, k3.past (Keep.set (l := [R]) (by simp)) fun i hi => .inr (by rw [List.mem_singleton.mp hi]; omega)⟩
      have tl : t < as.reverse.length := (List.getElem?_eq_some_iff.mp e).1
      rw [List.length_reverse] at tl
      rw [List.getElem?_reverse tl] at e
      obtain ⟨q1, q2⟩ := ha _ d e
      rw [List.getElem?_set_ne (Ne.symm q1), q2]
      congr 4
      omega
  · have en : It.next h3 (.rng ((m : Int) - 1) (-1) m) i = some (some (.int ((m : Int) - 1 + i * (-1)))) := by
      unfold It.next
      rw [if_pos lt]
    have ev1 : ((m : Int) - 1 + i * (-1)) = ((m - 1 - i : Nat) : Int) := by omega
    rw [ev1] at en
    refine .inr ⟨lt, _, en, Ok.bind (Ok.of (a := [some (.ref c), some (.int (m : Int)), some (.ref b), some (.ref R), some (.int ((m - 1 - i : Nat) : Int))]) (by ((simp only [runFn, evSs, evS, evE, evT, evEs, evO, evG, evGs, b_ok, ix0, ix1, ix2', o_add', o_sub', c_lt', c_le', c_gt', c_ge', c_eq', c_ne', List.length_cons, List.length_nil, List.map_cons, List.map_nil, List.replicate, Nat.sub_self, Nat.add_sub_cancel, List.cons_append, List.nil_append, List.append_nil, List.getElem?_cons_zero, List.getElem?_cons_succ, List.set_cons_zero, List.set_cons_succ, if_true, if_false, ite_true, ite_false, reduceIte, Nat.reduceAdd, Nat.reduceSub, Nat.reduceLT, Nat.zero_add, Bool.true_and, Bool.and_true]) <;> rfl)) ?_)⟩
    dsimp only
    obtain ⟨b1, b2⟩ := ha i b hb
    refine ss_cons (s_asg (by simp) ?_)
    unfold evE
    refine Ok.bind (Ok.of (a := [.ref b, .int ((m - 1 - i : Nat) : Int), .int (m : Int)]) (h := h3) (by simp only [runFn, evSs, evS, evE, evT, evEs, evO, evG, evGs, b_ok, ix0, ix1, ix2', o_add', o_sub', c_lt', c_le', c_gt', c_ge', c_eq', c_ne', List.length_cons, List.length_nil, List.map_cons, List.map_nil, List.replicate, Nat.sub_self, Nat.add_sub_cancel, List.cons_append, List.nil_append, List.append_nil, List.getElem?_cons_zero, List.getElem?_cons_succ, List.set_cons_zero, List.set_cons_succ, if_true, if_false, ite_true, ite_false, reduceIte, Nat.reduceAdd, Nat.reduceSub, Nat.reduceLT, Nat.zero_add, Bool.true_and, Bool.and_true]) ?_)
    rw [List.append_nil]
    refine (wr i b h3 lt b2).imp fun d h4 q => ?_
    obtain ⟨a, rfl, q1, q2, q3⟩ := q
    dsimp only [List.set_cons_zero, List.set_cons_succ]
    have g4 := q3.get g3 (by simp)
    have sz : (as.map D.ref).length < sizeLine := by
      rw [List.length_map, la]
      have : (200 : Nat) < sizeLine := by decide
      omega
    have hR : R < h3.length := lt_of g3
    refine ss_cons (s_expr (Ok.of (a := .non) (h := h4.set R (.lst (as.map D.ref ++ [D.ref a]))) (by simp only [runFn, evSs, evS, evE, evT, evEs, evO, evG, evGs, b_ok, ix0, ix1, ix2', o_add', o_sub', c_lt', c_le', c_gt', c_ge', c_eq', c_ne', List.length_cons, List.length_nil, List.map_cons, List.map_nil, List.replicate, Nat.sub_self, Nat.add_sub_cancel, List.cons_append, List.nil_append, List.append_nil, List.getElem?_cons_zero, List.getElem?_cons_succ, List.set_cons_zero, List.set_cons_succ, if_true, if_false, ite_true, ite_false, reduceIte, Nat.reduceAdd, Nat.reduceSub, Nat.reduceLT, Nat.zero_add, Bool.true_and, Bool.and_true, is_lst g4, m_append g4 sz]) ?_))
    refine ss_nil ⟨as ++ [a], _, a, rfl, by rw [List.map_append]; exact get_set g4, by rw [List.length_append, la]; rfl, ?_, fun t d e => ?_, (k3.trans q3).past (Keep.set (l := [R]) (by simp)) fun i hi => .inr (by rw [List.mem_singleton.mp hi]; omega)⟩
    · rw [List.getElem?_append_right (by omega), la, Nat.sub_self]
      rfl
    · by_cases z : t < as.length
      · rw [List.getElem?_append_left z] at e
        obtain ⟨w1, w2⟩ := ha t d e
        exact ⟨w1, by rw [List.getElem?_set_ne (Ne.symm w1)]; exact q3.get w2 (by simp)⟩
      · rw [List.getElem?_append_right (by omega)] at e
        have tz : t = i + 1 := by
          have := (List.getElem?_eq_some_iff.mp e).1
          simp at this
          omega
        subst tz
        rw [la, Nat.sub_self] at e
        have e : a = d := by simpa using e
        subst e
        exact ⟨by omega, by rw [List.getElem?_set_ne (by omega)]; exact q2⟩
end K00
set_option Elab.async false
set_option linter.all false
set_option maxRecDepth 100000
set_option maxHeartbeats 2000000
/-! K00V: can_be_met. -/
namespace K00
open SF PySem
theorem canMet_run {n k K c m len : Nat} {l : List Row} {h : Hh} (hc : h[c]? = some (O.lst (l.map rowD))) (hl : Len len l) (hq : m ≤ len) (F : Fine l m len k K) (hp : 0 < k) (hk : 2 * k ≤ 2200) (hK : K ≤ 2200) (hKp : 0 < K) (hm : m ≤ 100) :
    Ok (C (n + 8) 19 [.ref c, .int (m : Int)] h) fun d h' => d = .bl ((el l m m).find? isBroken).isNone ∧ Keep [] h h' := by
  have ch := chain_run (n := n) hc hl hq F hp hk hK hKp hm
  have br := fun (c' : Nat) (l' : List Row) (h' : Hh) (hc' : h'[c']? = some (O.lst (l'.map rowD))) => broken_ok (n := n + 5) (k := 0) (m := (m : Int)) hc'
  refine C_ok (f := f_can_be_met) rfl rfl fun call hcall => ?_
  rw [← hcall] at ch br
  show Ok (evSs call gvals b_can_be_met [some (.ref c), some (.int (m : Int))] h) _
  unfold b_can_be_met
  refine ss_cons (s_ret ?_)
  have inner : Ok (evE call gvals (.call 18 (.cons (.ix (.call 17 (.cons (.var 0) (.cons (.var 1) .nil)) []) (.lit (.int 0))) (.cons (.var 1) .nil)) []) [some (.ref c), some (.int (m : Int))] h) fun d h' => d = (match (el l m m).find? isBroken with
      | some r => rowD r
      | none => .non) ∧ Keep [] h h' := by
    refine call1 ?_
    have e17 : evE call gvals (.call 17 (.cons (.var 0) (.cons (.var 1) .nil)) []) [some (.ref c), some (.int (m : Int))] h = call 17 [.ref c, .int (m : Int)] h := by simp only [runFn, evSs, evS, evE, evT, evEs, evO, evG, evGs, b_ok, ix0, ix1, ix2', o_add', o_sub', c_lt', c_le', c_gt', c_ge', c_eq', c_ne', List.length_cons, List.length_nil, List.map_cons, List.map_nil, List.replicate, Nat.sub_self, Nat.add_sub_cancel, List.cons_append, List.nil_append, List.append_nil, List.getElem?_cons_zero, List.getElem?_cons_succ, List.set_cons_zero, List.set_cons_succ, if_true, if_false, ite_true, ite_false, reduceIte, Nat.reduceAdd, Nat.reduceSub, Nat.reduceLT, Nat.zero_add, Bool.true_and, Bool.and_true]
    unfold evE
    rw [e17]
    refine Ok.bind (ch.imp fun d h1 q => ?_)
    obtain ⟨a, as, rfl, q1, q2, q3, q4⟩ := q
    obtain ⟨b, hb⟩ : ∃ b, as[0]? = some b := ⟨as[0]'(by omega), List.getElem?_eq_getElem _⟩
    have i0 := ix_ref q1 (k := 0) (by rw [List.length_map]; omega)
    rw [List.getElem_map] at i0
    have b0 : as[0]'(by omega) = b := (List.getElem?_eq_some_iff.mp hb).2
    rw [b0] at i0
    have hb1 := q3 0 b hb
    rw [Nat.sub_zero] at hb1
    refine Ok.of (a := .ref b) (h := h1) (by simp only [runFn, evSs, evS, evE, evT, evEs, evO, evG, evGs, b_ok, ix0, ix1, ix2', o_add', o_sub', c_lt', c_le', c_gt', c_ge', c_eq', c_ne', List.length_cons, List.length_nil, List.map_cons, List.map_nil, List.replicate, Nat.sub_self, Nat.add_sub_cancel, List.cons_append, List.nil_append, List.append_nil, List.getElem?_cons_zero, List.getElem?_cons_succ, List.set_cons_zero, List.set_cons_succ, if_true, if_false, ite_true, ite_false, reduceIte, Nat.reduceAdd, Nat.reduceSub, Nat.reduceLT, Nat.zero_add, Bool.true_and, Bool.and_true]; exact i0) ⟨_, rfl, Ok.of (br b _ h1 hb1) ⟨rfl, q4⟩⟩
  unfold evE
  refine Ok.bind (inner.imp fun d h1 q => ?_)
  obtain ⟨rfl, q2⟩ := q
  cases hf : (el l m m).find? isBroken with
  | none => exact Ok.of (a := .bl true) (h := h1) (by simp only [runFn, evSs, evS, evE, evT, evEs, evO, evG, evGs, b_ok, ix0, ix1, ix2', o_add', o_sub', c_lt', c_le', c_gt', c_ge', c_eq', c_ne', List.length_cons, List.length_nil, List.map_cons, List.map_nil, List.replicate, Nat.sub_self, Nat.add_sub_cancel, List.cons_append, List.nil_append, List.append_nil, List.getElem?_cons_zero, List.getElem?_cons_succ, List.set_cons_zero, List.set_cons_succ, if_true, if_false, ite_true, ite_false, reduceIte, Nat.reduceAdd, Nat.reduceSub, Nat.reduceLT, Nat.zero_add, Bool.true_and, Bool.and_true, cmp2]) ⟨rfl, q2⟩
  | some r => exact Ok.of (a := .bl false) (h := h1) (by simp only [runFn, evSs, evS, evE, evT, evEs, evO, evG, evGs, b_ok, ix0, ix1, ix2', o_add', o_sub', c_lt', c_le', c_gt', c_ge', c_eq', c_ne', List.length_cons, List.length_nil, List.map_cons, List.map_nil, List.replicate, Nat.sub_self, Nat.add_sub_cancel, List.cons_append, List.nil_append, List.append_nil, List.getElem?_cons_zero, List.getElem?_cons_succ, List.set_cons_zero, List.set_cons_succ, if_true, if_false, ite_true, ite_false, reduceIte, Nat.reduceAdd, Nat.reduceSub, Nat.reduceLT, Nat.zero_add, Bool.true_and, Bool.and_true, cmp2, rowD]) ⟨rfl, q2⟩
end K00
set_option Elab.async false
set_option linter.all false
set_option maxRecDepth 100000
set_option maxHeartbeats 2000000
/-! K00W: interval, with_value. -/
namespace K00
open SF PySem
def ivD (r : Rat × Rat × Bool) : D := .tup [rq r.1, rq r.2.1, .bl r.2.2]
def oD : Option Rat → D
  | none => .non
  | some q => rq q
def SmO (k : Nat) (o : Option Rat) : Prop := ∀ q, o = some q → Sm k q
theorem smO_max {k : Nat} {o : Option Rat} {e : Rat} (h : SmO k o) (he : Sm k e) : SmO k (omax o e) := fun q hq => by
  unfold omax at hq
  cases o with
  | none => cases hq; exact he
  | some v =>
    dsimp only at hq
    split at hq <;> cases hq
    · exact he
    · exact h _ rfl
theorem smO_min {k : Nat} {o : Option Rat} {e : Rat} (h : SmO k o) (he : Sm k e) : SmO k (ominR o e) := fun q hq => by
  unfold ominR at hq
  cases o with
  | none => cases hq; exact he
  | some v =>
    dsimp only at hq
    split at hq <;> cases hq
    · exact he
    · exact h _ rfl
theorem interval_ok {n k c : Nat} {rs : List (Rat × Rat × Bool)} {h : Hh} (hc : h[c]? = some (O.lst (rs.map ivD))) (hs : ∀ r ∈ rs, Sm k r.1 ∧ Sm k r.2.1) (hp : 0 < k) (hk : 2 * k ≤ 4500) :
    C (n + 3) 23 [.ref c] h = .ok (.tup [oD (ivF rs).1, oD (ivF rs).2], h) ∧ SmO (2 * k) (ivF rs).1 ∧ SmO (2 * k) (ivF rs).2 := by
  have sg := fun (a : Rat) (h : Hh) => sign_eq (n := n + 1) (a := a) (h := h)
  have ov := fun (a b : Rat) (h : Hh) (ha : Sm k a) (hb : Sm k b) (h0 : b ≠ 0) => over_eq (n := n) (h := h) ha hb h0 hp (by omega)
  have le := fun (a b : Rat) (h : Hh) (ha : Sm (2 * k) a) (hb : Sm (2 * k) b) => less_eq (n := n + 1) (h := h) ha hb (by omega) hk
  suffices hh : Ok (C (n + 3) 23 [.ref c] h) fun d h' => (d = .tup [oD (ivF rs).1, oD (ivF rs).2] ∧ h' = h) ∧ SmO (2 * k) (ivF rs).1 ∧ SmO (2 * k) (ivF rs).2 by
    obtain ⟨d, h', e, ⟨rfl, rfl⟩, q⟩ := hh
    exact ⟨e, q⟩
  refine C_ok (f := f_interval) rfl rfl fun call hcall => ?_
  rw [← hcall] at sg ov le
  show Ok (evSs call gvals b_interval [some (.ref c), none, none, none, none, none, none] h) _
  unfold b_interval
  (refine ss_cons (s_asg (by simp) (Ok.of (by ((simp only [runFn, evSs, evS, evE, evT, evEs, evO, evG, evGs, b_ok, ix0, ix1, ix2', o_add', o_sub', c_lt', c_le', c_gt', c_ge', c_eq', c_ne', List.length_cons, List.length_nil, List.map_cons, List.map_nil, List.replicate, Nat.sub_self, Nat.add_sub_cancel, List.cons_append, List.nil_append, List.append_nil, List.getElem?_cons_zero, List.getElem?_cons_succ, List.set_cons_zero, List.set_cons_succ, if_true, if_false, ite_true, ite_false, reduceIte, Nat.reduceAdd, Nat.reduceSub, Nat.reduceLT, Nat.zero_add, Bool.true_and, Bool.and_true]) <;> rfl)) ?_)); dsimp only [List.set_cons_zero, List.set_cons_succ])
  (refine ss_cons (s_asg (by simp) (Ok.of (by ((simp only [runFn, evSs, evS, evE, evT, evEs, evO, evG, evGs, b_ok, ix0, ix1, ix2', o_add', o_sub', c_lt', c_le', c_gt', c_ge', c_eq', c_ne', List.length_cons, List.length_nil, List.map_cons, List.map_nil, List.replicate, Nat.sub_self, Nat.add_sub_cancel, List.cons_append, List.nil_append, List.append_nil, List.getElem?_cons_zero, List.getElem?_cons_succ, List.set_cons_zero, List.set_cons_succ, if_true, if_false, ite_true, ite_false, reduceIte, Nat.reduceAdd, Nat.reduceSub, Nat.reduceLT, Nat.zero_add, Bool.true_and, Bool.and_true]) <;> rfl)) ?_)); dsimp only [List.set_cons_zero, List.set_cons_succ])
  refine ss_cons (s_for (Ok.of (a := .lst c) (h := h) (by unfold evI; simp only [runFn, evSs, evS, evE, evT, evEs, evO, evG, evGs, b_ok, ix0, ix1, ix2', o_add', o_sub', c_lt', c_le', c_gt', c_ge', c_eq', c_ne', List.length_cons, List.length_nil, List.map_cons, List.map_nil, List.replicate, Nat.sub_self, Nat.add_sub_cancel, List.cons_append, List.nil_append, List.append_nil, List.getElem?_cons_zero, List.getElem?_cons_succ, List.set_cons_zero, List.set_cons_succ, if_true, if_false, ite_true, ite_false, reduceIte, Nat.reduceAdd, Nat.reduceSub, Nat.reduceLT, Nat.zero_add, Bool.true_and, Bool.and_true, itOf, lstAt_of hc]) ?_))
  have lm : (rs.map ivD).length = rs.length := List.length_map ..
  have hm : It.most h (.lst c) = rs.length := by
    show ((lstAt h c).map List.length).getD 0 = _
    rw [lstAt_of hc]
    simp
  rw [hm]
  refine ⟨fun i e2 h2 => h2 = h ∧ (∃ x y z w, e2 = [some (.ref c), some (oD (ivF (rs.take i)).1), some (oD (ivF (rs.take i)).2), x, y, z, w]) ∧ SmO (2 * k) (ivF (rs.take i)).1 ∧ SmO (2 * k) (ivF (rs.take i)).2, ⟨rfl, ⟨_, _, _, _, rfl⟩, fun q hq => (by cases hq), fun q hq => (by cases hq)⟩, ?_⟩
  rintro i e2 h2 ⟨rfl, ⟨x, y, z, w, rfl⟩, s1, s2⟩ lei
  rcases Nat.eq_or_lt_of_le lei with e' | lt
  · have le1 := lst_end hc
    rw [lm] at le1
    refine .inl ⟨e', by rw [e']; exact le1, ?_⟩
    rw [e', List.take_length] at s1 s2 ⊢
    (refine ss_cons (s_ret (Ok.of (by ((simp only [runFn, evSs, evS, evE, evT, evEs, evO, evG, evGs, b_ok, ix0, ix1, ix2', o_add', o_sub', c_lt', c_le', c_gt', c_ge', c_eq', c_ne', List.length_cons, List.length_nil, List.map_cons, List.map_nil, List.replicate, Nat.sub_self, Nat.add_sub_cancel, List.cons_append, List.nil_append, List.append_nil, List.getElem?_cons_zero, List.getElem?_cons_succ, List.set_cons_zero, List.set_cons_succ, if_true, if_false, ite_true, ite_false, reduceIte, Nat.reduceAdd, Nat.reduceSub, Nat.reduceLT, Nat.zero_add, Bool.true_and, Bool.and_true]) <;> rfl)) ?_)); dsimp only [List.set_cons_zero, List.set_cons_succ])
    exact ⟨⟨rfl, rfl⟩, s1, s2⟩
  · have nx1 := lst_next hc (i := i) (by rw [lm]; exact lt)
    rw [List.getElem_map] at nx1
    have tk : rs.take (i + 1) = rs.take i ++ [rs[i]] := by rw [List.take_succ, List.getElem?_eq_getElem lt]; rfl
    have iv : ivF (rs.take (i + 1)) = ivStep (ivF (rs.take i)) rs[i] := by
      rw [tk]
      unfold ivF
      rw [List.foldl_append]
      rfl
    have sr := hs rs[i] (List.getElem_mem lt)
    refine .inr ⟨lt, _, nx1, ?_⟩
    dsimp only
    rw [iv]
    generalize rs[i] = r at *
    generalize ivF (rs.take i) = s at *
    obtain ⟨a, b, jv⟩ := r
    obtain ⟨lo, hi⟩ := s
    dsimp only at s1 s2 sr
    refine Ok.bind (Ok.of (a := [some (.ref c), some (oD lo), some (oD hi), some (rq a), some (rq b), some (.bl jv), w]) (h := h2) (by simp only [runFn, evSs, evS, evE, evT, evEs, evO, evG, evGs, b_ok, ix0, ix1, ix2', o_add', o_sub', c_lt', c_le', c_gt', c_ge', c_eq', c_ne', List.length_cons, List.length_nil, List.map_cons, List.map_nil, List.replicate, Nat.sub_self, Nat.add_sub_cancel, List.cons_append, List.nil_append, List.append_nil, List.getElem?_cons_zero, List.getElem?_cons_succ, List.set_cons_zero, List.set_cons_succ, if_true, if_false, ite_true, ite_false, reduceIte, Nat.reduceAdd, Nat.reduceSub, Nat.reduceLT, Nat.zero_add, Bool.true_and, Bool.and_true, ivD]) ?_)
    dsimp only
    refine ss_cons (s_if (Ok.of (a := decide (sgn a = 0)) (h := h2) (by simp only [runFn, evSs, evS, evE, evT, evEs, evO, evG, evGs, b_ok, ix0, ix1, ix2', o_add', o_sub', c_lt', c_le', c_gt', c_ge', c_eq', c_ne', List.length_cons, List.length_nil, List.map_cons, List.map_nil, List.replicate, Nat.sub_self, Nat.add_sub_cancel, List.cons_append, List.nil_append, List.append_nil, List.getElem?_cons_zero, List.getElem?_cons_succ, List.set_cons_zero, List.set_cons_succ, if_true, if_false, ite_true, ite_false, reduceIte, Nat.reduceAdd, Nat.reduceSub, Nat.reduceLT, Nat.zero_add, Bool.true_and, Bool.and_true, sg]) ?_))
    by_cases z0 : a = 0
    · rw [if_pos (decide_eq_true (sgn_zero.mpr z0))]
      refine ss_cons (Ok.of rfl ?_)
      unfold ivStep
      rw [if_pos z0]
      exact ⟨rfl, ⟨_, _, _, _, rfl⟩, s1, s2⟩
    · rw [if_neg (by simpa using fun q => z0 (sgn_zero.mp q))]
      refine ss_nil ?_
      have hst : ivStep (lo, hi) (a, b, jv) = (if jv = true ∨ a < 0 then omax lo (b / a) else lo, if jv = true ∨ 0 < a then ominR hi (b / a) else hi) := by
        unfold ivStep
        rw [if_neg z0]
      rw [hst]
      have se : Sm (2 * k) (b / a) := sm_over sr.2 sr.1 z0
      (refine ss_cons (s_asg (by simp) (Ok.of (by ((simp only [runFn, evSs, evS, evE, evT, evEs, evO, evG, evGs, b_ok, ix0, ix1, ix2', o_add', o_sub', c_lt', c_le', c_gt', c_ge', c_eq', c_ne', List.length_cons, List.length_nil, List.map_cons, List.map_nil, List.replicate, Nat.sub_self, Nat.add_sub_cancel, List.cons_append, List.nil_append, List.append_nil, List.getElem?_cons_zero, List.getElem?_cons_succ, List.set_cons_zero, List.set_cons_succ, if_true, if_false, ite_true, ite_false, reduceIte, Nat.reduceAdd, Nat.reduceSub, Nat.reduceLT, Nat.zero_add, Bool.true_and, Bool.and_true, ov b a h2 sr.2 sr.1 z0]) <;> rfl)) ?_)); dsimp only [List.set_cons_zero, List.set_cons_succ])
      generalize b / a = e at *
      -- the lower end
      have lowS : Ok (evS call gvals (.ife (.or (.var 5) (.cmp .lt (.call 7 (.cons (.var 3) .nil) []) (.lit (.int 0)))) (.cons (.ife (.or (.cmp .isN (.var 1) (.lit .non)) (.call 8 (.cons (.var 1) (.cons (.var 6) .nil)) [])) (.cons (.asg (.var 1) (.var 6)) .nil) .nil) .nil) .nil)
          [some (.ref c), some (oD lo), some (oD hi), some (rq a), some (rq b), some (.bl jv), some (rq e)] h2) fun f h' => f = .nx [some (.ref c), some (oD (if jv = true ∨ a < 0 then omax lo e else lo)), some (oD hi), some (rq a), some (rq b), some (.bl jv), some (rq e)] ∧ h' = h2 := by
        refine s_if (Ok.of (a := jv || decide (sgn a < 0)) (h := h2) ?_ ?_)
        · cases jv with
          | true => simp only [runFn, evSs, evS, evE, evT, evEs, evO, evG, evGs, b_ok, ix0, ix1, ix2', o_add', o_sub', c_lt', c_le', c_gt', c_ge', c_eq', c_ne', List.length_cons, List.length_nil, List.map_cons, List.map_nil, List.replicate, Nat.sub_self, Nat.add_sub_cancel, List.cons_append, List.nil_append, List.append_nil, List.getElem?_cons_zero, List.getElem?_cons_succ, List.set_cons_zero, List.set_cons_succ, if_true, if_false, ite_true, ite_false, reduceIte, Nat.reduceAdd, Nat.reduceSub, Nat.reduceLT, Nat.zero_add, Bool.true_and, Bool.and_true, Bool.true_or]
          | false => simp only [runFn, evSs, evS, evE, evT, evEs, evO, evG, evGs, b_ok, ix0, ix1, ix2', o_add', o_sub', c_lt', c_le', c_gt', c_ge', c_eq', c_ne', List.length_cons, List.length_nil, List.map_cons, List.map_nil, List.replicate, Nat.sub_self, Nat.add_sub_cancel, List.cons_append, List.nil_append, List.append_nil, List.getElem?_cons_zero, List.getElem?_cons_succ, List.set_cons_zero, List.set_cons_succ, if_true, if_false, ite_true, ite_false, reduceIte, Nat.reduceAdd, Nat.reduceSub, Nat.reduceLT, Nat.zero_add, Bool.true_and, Bool.and_true, sg, Bool.false_or, Bool.false_eq_true]
        · by_cases cc : jv = true ∨ a < 0
          · rw [if_pos (by simpa [sgn_neg] using cc), if_pos cc]
            cases lo with
            | none =>
              refine ss_cons (s_if (Ok.of (a := true) (h := h2) (by simp only [runFn, evSs, evS, evE, evT, evEs, evO, evG, evGs, b_ok, ix0, ix1, ix2', o_add', o_sub', c_lt', c_le', c_gt', c_ge', c_eq', c_ne', List.length_cons, List.length_nil, List.map_cons, List.map_nil, List.replicate, Nat.sub_self, Nat.add_sub_cancel, List.cons_append, List.nil_append, List.append_nil, List.getElem?_cons_zero, List.getElem?_cons_succ, List.set_cons_zero, List.set_cons_succ, if_true, if_false, ite_true, ite_false, reduceIte, Nat.reduceAdd, Nat.reduceSub, Nat.reduceLT, Nat.zero_add, Bool.true_and, Bool.and_true, oD, cmp2]) ?_))
              rw [if_pos rfl]
              (refine ss_cons (s_asg (by simp) (Ok.of (by ((simp only [runFn, evSs, evS, evE, evT, evEs, evO, evG, evGs, b_ok, ix0, ix1, ix2', o_add', o_sub', c_lt', c_le', c_gt', c_ge', c_eq', c_ne', List.length_cons, List.length_nil, List.map_cons, List.map_nil, List.replicate, Nat.sub_self, Nat.add_sub_cancel, List.cons_append, List.nil_append, List.append_nil, List.getElem?_cons_zero, List.getElem?_cons_succ, List.set_cons_zero, List.set_cons_succ, if_true, if_false, ite_true, ite_false, reduceIte, Nat.reduceAdd, Nat.reduceSub, Nat.reduceLT, Nat.zero_add, Bool.true_and, Bool.and_true]) <;> rfl)) ?_)); dsimp only [List.set_cons_zero, List.set_cons_succ])
              exact ss_nil (ss_nil ⟨rfl, rfl⟩)
            | some v =>
              have lv := le v e h2 (s1 v rfl) se
              refine ss_cons (s_if (Ok.of (a := decide (v < e)) (h := h2) (by simp only [runFn, evSs, evS, evE, evT, evEs, evO, evG, evGs, b_ok, ix0, ix1, ix2', o_add', o_sub', c_lt', c_le', c_gt', c_ge', c_eq', c_ne', List.length_cons, List.length_nil, List.map_cons, List.map_nil, List.replicate, Nat.sub_self, Nat.add_sub_cancel, List.cons_append, List.nil_append, List.append_nil, List.getElem?_cons_zero, List.getElem?_cons_succ, List.set_cons_zero, List.set_cons_succ, if_true, if_false, ite_true, ite_false, reduceIte, Nat.reduceAdd, Nat.reduceSub, Nat.reduceLT, Nat.zero_add, Bool.true_and, Bool.and_true, show oD (some v) = rq v from rfl, show cmp2 .isN (rq v) .non h2 = .ok (.bl false, h2) from rfl, Bool.false_eq_true, lv]) ?_))
              by_cases d : v < e
              · rw [if_pos (decide_eq_true d)]
                (refine ss_cons (s_asg (by simp) (Ok.of (by ((simp only [runFn, evSs, evS, evE, evT, evEs, evO, evG, evGs, b_ok, ix0, ix1, ix2', o_add', o_sub', c_lt', c_le', c_gt', c_ge', c_eq', c_ne', List.length_cons, List.length_nil, List.map_cons, List.map_nil, List.replicate, Nat.sub_self, Nat.add_sub_cancel, List.cons_append, List.nil_append, List.append_nil, List.getElem?_cons_zero, List.getElem?_cons_succ, List.set_cons_zero, List.set_cons_succ, if_true, if_false, ite_true, ite_false, reduceIte, Nat.reduceAdd, Nat.reduceSub, Nat.reduceLT, Nat.zero_add, Bool.true_and, Bool.and_true]) <;> rfl)) ?_)); dsimp only [List.set_cons_zero, List.set_cons_succ])
                refine ss_nil (ss_nil ⟨?_, rfl⟩)
                unfold omax
                dsimp only
                rw [if_pos d]
                rfl
              · rw [if_neg (by simpa using d)]
                refine ss_nil (ss_nil ⟨?_, rfl⟩)
                unfold omax
                dsimp only
                rw [if_neg d]
          · rw [if_neg (by simpa [sgn_neg] using cc), if_neg cc]
            exact ss_nil ⟨rfl, rfl⟩
      refine ss_cons (lowS.imp fun f h' q => ?_)
      obtain ⟨rfl, rfl⟩ := q
      dsimp only
      have s1' : SmO (2 * k) (if jv = true ∨ a < 0 then omax lo e else lo) := by
        split
        · exact smO_max s1 se
        · exact s1
      generalize (if jv = true ∨ a < 0 then omax lo e else lo) = lo' at *
      have highS : Ok (evS call gvals (.ife (.or (.var 5) (.cmp .gt (.call 7 (.cons (.var 3) .nil) []) (.lit (.int 0)))) (.cons (.ife (.or (.cmp .isN (.var 2) (.lit .non)) (.call 8 (.cons (.var 6) (.cons (.var 2) .nil)) [])) (.cons (.asg (.var 2) (.var 6)) .nil) .nil) .nil) .nil)
          [some (.ref c), some (oD lo'), some (oD hi), some (rq a), some (rq b), some (.bl jv), some (rq e)] h') fun f h'' => f = .nx [some (.ref c), some (oD lo'), some (oD (if jv = true ∨ 0 < a then ominR hi e else hi)), some (rq a), some (rq b), some (.bl jv), some (rq e)] ∧ h'' = h' := by
        refine s_if (Ok.of (a := jv || decide (0 < sgn a)) (h := h') ?_ ?_)
        · cases jv with
          | true => simp only [runFn, evSs, evS, evE, evT, evEs, evO, evG, evGs, b_ok, ix0, ix1, ix2', o_add', o_sub', c_lt', c_le', c_gt', c_ge', c_eq', c_ne', List.length_cons, List.length_nil, List.map_cons, List.map_nil, List.replicate, Nat.sub_self, Nat.add_sub_cancel, List.cons_append, List.nil_append, List.append_nil, List.getElem?_cons_zero, List.getElem?_cons_succ, List.set_cons_zero, List.set_cons_succ, if_true, if_false, ite_true, ite_false, reduceIte, Nat.reduceAdd, Nat.reduceSub, Nat.reduceLT, Nat.zero_add, Bool.true_and, Bool.and_true, Bool.true_or]
          | false => simp only [runFn, evSs, evS, evE, evT, evEs, evO, evG, evGs, b_ok, ix0, ix1, ix2', o_add', o_sub', c_lt', c_le', c_gt', c_ge', c_eq', c_ne', List.length_cons, List.length_nil, List.map_cons, List.map_nil, List.replicate, Nat.sub_self, Nat.add_sub_cancel, List.cons_append, List.nil_append, List.append_nil, List.getElem?_cons_zero, List.getElem?_cons_succ, List.set_cons_zero, List.set_cons_succ, if_true, if_false, ite_true, ite_false, reduceIte, Nat.reduceAdd, Nat.reduceSub, Nat.reduceLT, Nat.zero_add, Bool.true_and, Bool.and_true, sg, Bool.false_or, Bool.false_eq_true]
        · by_cases cc : jv = true ∨ 0 < a
          · rw [if_pos (by simpa [sgn_pos] using cc), if_pos cc]
            cases hi with
            | none =>
              refine ss_cons (s_if (Ok.of (a := true) (h := h') (by simp only [runFn, evSs, evS, evE, evT, evEs, evO, evG, evGs, b_ok, ix0, ix1, ix2', o_add', o_sub', c_lt', c_le', c_gt', c_ge', c_eq', c_ne', List.length_cons, List.length_nil, List.map_cons, List.map_nil, List.replicate, Nat.sub_self, Nat.add_sub_cancel, List.cons_append, List.nil_append, List.append_nil, List.getElem?_cons_zero, List.getElem?_cons_succ, List.set_cons_zero, List.set_cons_succ, if_true, if_false, ite_true, ite_false, reduceIte, Nat.reduceAdd, Nat.reduceSub, Nat.reduceLT, Nat.zero_add, Bool.true_and, Bool.and_true, oD, cmp2]) ?_))
              rw [if_pos rfl]
              (refine ss_cons (s_asg (by simp) (Ok.of (by ((simp only [runFn, evSs, evS, evE, evT, evEs, evO, evG, evGs, b_ok, ix0, ix1, ix2', o_add', o_sub', c_lt', c_le', c_gt', c_ge', c_eq', c_ne', List.length_cons, List.length_nil, List.map_cons, List.map_nil, List.replicate, Nat.sub_self, Nat.add_sub_cancel, List.cons_append, List.nil_append, List.append_nil, List.getElem?_cons_zero, List.getElem?_cons_succ, List.set_cons_zero, List.set_cons_succ, if_true, if_false, ite_true, ite_false, reduceIte, Nat.reduceAdd, Nat.reduceSub, Nat.reduceLT, Nat.zero_add, Bool.true_and, Bool.and_true]) <;> rfl)) ?_)); dsimp only [List.set_cons_zero, List.set_cons_succ])
              exact ss_nil (ss_nil ⟨rfl, rfl⟩)
            | some v =>
              have lv := le e v h' se (s2 v rfl)
              refine ss_cons (s_if (Ok.of (a := decide (e < v)) (h := h') (by simp only [runFn, evSs, evS, evE, evT, evEs, evO, evG, evGs, b_ok, ix0, ix1, ix2', o_add', o_sub', c_lt', c_le', c_gt', c_ge', c_eq', c_ne', List.length_cons, List.length_nil, List.map_cons, List.map_nil, List.replicate, Nat.sub_self, Nat.add_sub_cancel, List.cons_append, List.nil_append, List.append_nil, List.getElem?_cons_zero, List.getElem?_cons_succ, List.set_cons_zero, List.set_cons_succ, if_true, if_false, ite_true, ite_false, reduceIte, Nat.reduceAdd, Nat.reduceSub, Nat.reduceLT, Nat.zero_add, Bool.true_and, Bool.and_true, show oD (some v) = rq v from rfl, show cmp2 .isN (rq v) .non h' = .ok (.bl false, h') from rfl, Bool.false_eq_true, lv]) ?_))
              by_cases d : e < v
              · rw [if_pos (decide_eq_true d)]
                (refine ss_cons (s_asg (by simp) (Ok.of (by ((simp only [runFn, evSs, evS, evE, evT, evEs, evO, evG, evGs, b_ok, ix0, ix1, ix2', o_add', o_sub', c_lt', c_le', c_gt', c_ge', c_eq', c_ne', List.length_cons, List.length_nil, List.map_cons, List.map_nil, List.replicate, Nat.sub_self, Nat.add_sub_cancel, List.cons_append, List.nil_append, List.append_nil, List.getElem?_cons_zero, List.getElem?_cons_succ, List.set_cons_zero, List.set_cons_succ, if_true, if_false, ite_true, ite_false, reduceIte, Nat.reduceAdd, Nat.reduceSub, Nat.reduceLT, Nat.zero_add, Bool.true_and, Bool.and_true]) <;> rfl)) ?_)); dsimp only [List.set_cons_zero, List.set_cons_succ])
                refine ss_nil (ss_nil ⟨?_, rfl⟩)
                unfold ominR
                dsimp only
                rw [if_pos d]
                rfl
              · rw [if_neg (by simpa using d)]
                refine ss_nil (ss_nil ⟨?_, rfl⟩)
                unfold ominR
                dsimp only
                rw [if_neg d]
          · rw [if_neg (by simpa [sgn_pos] using cc), if_neg cc]
            exact ss_nil ⟨rfl, rfl⟩
      refine ss_cons (highS.imp fun f h'' q => ?_)
      obtain ⟨rfl, rfl⟩ := q
      dsimp only
      refine ss_nil ⟨rfl, ⟨_, _, _, _, rfl⟩, s1', ?_⟩
      split
      · exact smO_min s2 se
      · exact s2
end K00
set_option Elab.async false
set_option linter.all false
set_option maxRecDepth 100000
set_option maxHeartbeats 2000000
/-! K00X: with_value. -/
namespace K00
open SF PySem
theorem zipL_next {h : Hh} {cv i : Nat} {xs ys : List D} (e : h[cv]? = some (O.lst ys)) (hx : i < xs.length) (hy : i < ys.length) : It.next h (SF.It.zip (SF.It.tup xs) (SF.It.lst cv)) i = some (some (D.tup [xs[i], ys[i]])) := by
  have e1 := tup_next (h := h) hx
  have e2 := lst_next e hy
  unfold It.next
  rw [e1, e2]
theorem zipL_end {h : Hh} {cv : Nat} {xs ys : List D} (e : h[cv]? = some (O.lst ys)) (hl : ys.length ≤ xs.length) : It.next h (SF.It.zip (SF.It.tup xs) (SF.It.lst cv)) ys.length = some none := by
  have e2 := lst_end e
  unfold It.next
  rw [e2]
  by_cases c : ys.length < xs.length
  · rw [tup_next c]
  · have : ys.length = xs.length := by omega
    rw [this, tup_end]
theorem num0 {a : Rat} : (a.num = 0) ↔ a = 0 := Rat.num_eq_zero
theorem withV_run {n K c cv k : Nat} {l : List Row} {v : List Rat} {h : Hh} (hc : h[c]? = some (O.lst (l.map rowD))) (hv : h[cv]? = some (O.lst (v.map rq))) (lv : v.length = k) (hk : ∀ r ∈ l, k < r.c.length) (hn : l.length ≤ 1000000) (hp : 0 < K) (hK : K ≤ 4500)
    (s1 : ∀ r ∈ l, ∀ i, i < k → Sm K (co r.c i) ∧ Sm K (co v i) ∧ Sm K (co r.c i * co v i)) (s2 : ∀ r ∈ l, ∀ i, i ≤ k → Sm K (r.b - dot i r.c (co v))) :
    Ok (C (n + 3) 22 [.ref c, .ref cv, .int (k : Int)] h) fun d h' => d = .ref h.length ∧ h'[h.length]? = some (O.lst ((withV l v k).map ivD)) ∧ Keep [] h h' := by
  have tm := fun (a b : Rat) (h : Hh) (ha : Sm K a) (hb : Sm K b) => times_eq (n := n) (h := h) ha hb hp hK
  have mi := fun (a b : Rat) (h : Hh) (ha : Sm K a) (hb : Sm K b) => minus_eq (n := n) (h := h) ha hb hp hK
  refine C_ok (f := f_with_value) rfl rfl fun call hcall => ?_
  rw [← hcall] at tm mi
  show Ok (evSs call gvals b_with_value [some (.ref c), some (.ref cv), some (.int (k : Int)), none, none, none, none, none, none, none] h) _
  unfold b_with_value
  (refine ss_cons (s_asg (by simp) (Ok.of (by ((simp only [runFn, evSs, evS, evE, evT, evEs, evO, evG, evGs, b_ok, ix0, ix1, ix2', o_add', o_sub', c_lt', c_le', c_gt', c_ge', c_eq', c_ne', List.length_cons, List.length_nil, List.map_cons, List.map_nil, List.replicate, Nat.sub_self, Nat.add_sub_cancel, List.cons_append, List.nil_append, List.append_nil, List.getElem?_cons_zero, List.getElem?_cons_succ, List.set_cons_zero, List.set_cons_succ, if_true, if_false, ite_true, ite_false, reduceIte, Nat.reduceAdd, Nat.reduceSub, Nat.reduceLT, Nat.zero_add, Bool.true_and, Bool.and_true]) <;> rfl)) ?_)); dsimp only [List.set_cons_zero, List.set_cons_succ])
  generalize ha0 : h.length = a0
  have k1 : Keep [] h (h ++ [O.lst []]) := Keep.app _
  have g0 : (h ++ [O.lst []])[a0]? = some (O.lst (([] : List (Rat × Rat × Bool)).map ivD)) := by rw [← ha0]; exact get_new
  have hc1 := get_old (t := [O.lst []]) hc
  have hv1 := get_old (t := [O.lst []]) hv
  have lc : c ≠ a0 := by have := lt_of hc; omega
  have lcv : cv ≠ a0 := by have := lt_of hv; omega
  generalize h ++ [O.lst []] = h1' at *
  refine ss_cons (s_for (Ok.of (a := .lst c) (h := h1') (by unfold evI; simp only [runFn, evSs, evS, evE, evT, evEs, evO, evG, evGs, b_ok, ix0, ix1, ix2', o_add', o_sub', c_lt', c_le', c_gt', c_ge', c_eq', c_ne', List.length_cons, List.length_nil, List.map_cons, List.map_nil, List.replicate, Nat.sub_self, Nat.add_sub_cancel, List.cons_append, List.nil_append, List.append_nil, List.getElem?_cons_zero, List.getElem?_cons_succ, List.set_cons_zero, List.set_cons_succ, if_true, if_false, ite_true, ite_false, reduceIte, Nat.reduceAdd, Nat.reduceSub, Nat.reduceLT, Nat.zero_add, Bool.true_and, Bool.and_true, itOf, lstAt_of hc1]) ?_))
  have lm : (l.map rowD).length = l.length := List.length_map ..
  have hm : It.most h1' (.lst c) = l.length := by
    show ((lstAt h1' c).map List.length).getD 0 = _
    rw [lstAt_of hc1]
    simp
  rw [hm]
  refine ⟨fun i e2 h2' => (∃ x4 x5 x6 x7 x8 x9, e2 = [some (.ref c), some (.ref cv), some (.int (k : Int)), some (.ref a0), x4, x5, x6, x7, x8, x9]) ∧ h2'[a0]? = some (O.lst ((withV (l.take i) v k).map ivD)) ∧ Keep [a0] h1' h2',
    ⟨⟨_, _, _, _, _, _, rfl⟩, g0, Keep.refl⟩, ?_⟩
  rintro i e2 h2' ⟨⟨x4, x5, x6, x7, x8, x9, rfl⟩, g2, k2⟩ lei
  have hc2 := k2.get hc1 (by simpa using lc)
  have hv2 := k2.get hv1 (by simpa using lcv)
  rcases Nat.eq_or_lt_of_le lei with e' | lt
  · have le1 := lst_end hc2
    rw [lm] at le1
    refine .inl ⟨e', by rw [e']; exact le1, ?_⟩
    rw [e', List.take_length] at g2
    (refine ss_cons (s_ret (Ok.of (by ((simp only [runFn, evSs, evS, evE, evT, evEs, evO, evG, evGs, b_ok, ix0, ix1, ix2', o_add', o_sub', c_lt', c_le', c_gt', c_ge', c_eq', c_ne', List.length_cons, List.length_nil, List.map_cons, List.map_nil, List.replicate, Nat.sub_self, Nat.add_sub_cancel, List.cons_append, List.nil_append, List.append_nil, List.getElem?_cons_zero, List.getElem?_cons_succ, List.set_cons_zero, List.set_cons_succ, if_true, if_false, ite_true, ite_false, reduceIte, Nat.reduceAdd, Nat.reduceSub, Nat.reduceLT, Nat.zero_add, Bool.true_and, Bool.and_true]) <;> rfl)) ?_)); dsimp only [List.set_cons_zero, List.set_cons_succ])
    exact ⟨rfl, g2, k1.past k2 fun i hi => .inr (by rw [List.mem_singleton.mp hi, ← ha0]; exact Nat.le_refl _)⟩
  · have nx1 := lst_next hc2 (i := i) (by rw [lm]; exact lt)
    rw [List.getElem_map] at nx1
    have tk : l.take (i + 1) = l.take i ++ [l[i]] := by rw [List.take_succ, List.getElem?_eq_getElem lt]; rfl
    have mr : l[i] ∈ l := List.getElem_mem lt
    have wl : (withV (l.take i) v k).length ≤ i := by unfold withV; rw [List.length_map, List.length_take]; omega
    have wv : withV (l.take (i + 1)) v k = withV (l.take i) v k ++ [(co l[i].c k, l[i].b - dot k l[i].c (co v), l[i].j)] := by
      rw [tk]
      unfold withV
      rw [List.map_append]
      rfl
    refine .inr ⟨lt, _, nx1, ?_⟩
    dsimp only
    rw [wv]
    refine Ok.bind (Ok.of (a := [some (.ref c), some (.ref cv), some (.int (k : Int)), some (.ref a0), some (.tup (l[i].c.map rq)), some (rq l[i].b), some (.bl l[i].j), x7, x8, x9]) (h := h2') (by simp only [runFn, evSs, evS, evE, evT, evEs, evO, evG, evGs, b_ok, ix0, ix1, ix2', o_add', o_sub', c_lt', c_le', c_gt', c_ge', c_eq', c_ne', List.length_cons, List.length_nil, List.map_cons, List.map_nil, List.replicate, Nat.sub_self, Nat.add_sub_cancel, List.cons_append, List.nil_append, List.append_nil, List.getElem?_cons_zero, List.getElem?_cons_succ, List.set_cons_zero, List.set_cons_succ, if_true, if_false, ite_true, ite_false, reduceIte, Nat.reduceAdd, Nat.reduceSub, Nat.reduceLT, Nat.zero_add, Bool.true_and, Bool.and_true, rowD]) ?_)
    generalize l[i] = r at *
    generalize withV (l.take i) v k = W at *
    have q1 := s1 r mr
    have q2 := s2 r mr
    have q3 := hk r mr
    dsimp only
    (refine ss_cons (s_asg (by simp) (Ok.of (by ((simp only [runFn, evSs, evS, evE, evT, evEs, evO, evG, evGs, b_ok, ix0, ix1, ix2', o_add', o_sub', c_lt', c_le', c_gt', c_ge', c_eq', c_ne', List.length_cons, List.length_nil, List.map_cons, List.map_nil, List.replicate, Nat.sub_self, Nat.add_sub_cancel, List.cons_append, List.nil_append, List.append_nil, List.getElem?_cons_zero, List.getElem?_cons_succ, List.set_cons_zero, List.set_cons_succ, if_true, if_false, ite_true, ite_false, reduceIte, Nat.reduceAdd, Nat.reduceSub, Nat.reduceLT, Nat.zero_add, Bool.true_and, Bool.and_true]) <;> rfl)) ?_)); dsimp only [List.set_cons_zero, List.set_cons_succ])
    refine ss_cons (s_for (Ok.of (a := .zip (.tup (r.c.map rq)) (.lst cv)) (h := h2') (by unfold evI; simp only [runFn, evSs, evS, evE, evT, evEs, evO, evG, evGs, b_ok, ix0, ix1, ix2', o_add', o_sub', c_lt', c_le', c_gt', c_ge', c_eq', c_ne', List.length_cons, List.length_nil, List.map_cons, List.map_nil, List.replicate, Nat.sub_self, Nat.add_sub_cancel, List.cons_append, List.nil_append, List.append_nil, List.getElem?_cons_zero, List.getElem?_cons_succ, List.set_cons_zero, List.set_cons_succ, if_true, if_false, ite_true, ite_false, reduceIte, Nat.reduceAdd, Nat.reduceSub, Nat.reduceLT, Nat.zero_add, Bool.true_and, Bool.and_true, itOf, lstAt_of hv2]) ?_))
    have lvm : (v.map rq).length = k := by rw [List.length_map, lv]
    have hm2 : It.most h2' (.zip (.tup (r.c.map rq)) (.lst cv)) = k := by
      show min (r.c.map rq).length (((lstAt h2' cv).map List.length).getD 0) = _
      rw [lstAt_of hv2]
      show min _ (v.map rq).length = _
      rw [lvm, List.length_map]
      omega
    rw [hm2]
    refine ⟨fun j e3 h3 => h3 = h2' ∧ ∃ y8 y9, e3 = [some (.ref c), some (.ref cv), some (.int (k : Int)), some (.ref a0), some (.tup (r.c.map rq)), some (rq r.b), some (.bl r.j), some (rq (r.b - dot j r.c (co v))), y8, y9],
      ⟨rfl, x8, x9, ?_⟩, ?_⟩
    · have : r.b - dot 0 r.c (co v) = r.b := by show r.b - 0 = r.b; grind
      rw [this]
    · rintro j e3 h3 ⟨rfl, y8, y9, rfl⟩ lj
      rcases Nat.eq_or_lt_of_le lj with e'' | lt'
      · have le2 := zipL_end hv2 (xs := r.c.map rq) (by rw [lvm, List.length_map]; omega)
        rw [lvm] at le2
        refine .inl ⟨e'', by rw [e'']; exact le2, ?_⟩
        rw [e'']
        have ik := ix_co (h := h3) (k := k) (r := r) q3
        have sz : (W.map ivD).length < sizeLine := by
          rw [List.length_map]
          have : (1000000 : Nat) < sizeLine := by decide
          omega
        refine ss_cons (s_expr (Ok.of (a := .non) (h := h3.set a0 (.lst (W.map ivD ++ [ivD (co r.c k, r.b - dot k r.c (co v), r.j)]))) (by simp only [runFn, evSs, evS, evE, evT, evEs, evO, evG, evGs, b_ok, ix0, ix1, ix2', o_add', o_sub', c_lt', c_le', c_gt', c_ge', c_eq', c_ne', List.length_cons, List.length_nil, List.map_cons, List.map_nil, List.replicate, Nat.sub_self, Nat.add_sub_cancel, List.cons_append, List.nil_append, List.append_nil, List.getElem?_cons_zero, List.getElem?_cons_succ, List.set_cons_zero, List.set_cons_succ, if_true, if_false, ite_true, ite_false, reduceIte, Nat.reduceAdd, Nat.reduceSub, Nat.reduceLT, Nat.zero_add, Bool.true_and, Bool.and_true, is_lst g2, ik, m_append g2 sz, ivD]) ?_))
        refine ss_nil ⟨⟨_, _, _, _, _, _, rfl⟩, ?_, k2.trans (Keep.set (by simp))⟩
        rw [List.map_append]
        exact get_set g2
      · have nx2 := zipL_next hv2 (xs := r.c.map rq) (i := j) (by rw [List.length_map]; omega) (by rw [lvm]; exact lt')
        rw [List.getElem_map, List.getElem_map, ← getQ (by omega), ← getQ (by omega)] at nx2
        refine .inr ⟨lt', _, nx2, Ok.bind (Ok.of (a := [some (.ref c), some (.ref cv), some (.int (k : Int)), some (.ref a0), some (.tup (r.c.map rq)), some (rq r.b), some (.bl r.j), some (rq (r.b - dot j r.c (co v))), some (rq (co r.c j)), some (rq (co v j))]) (by ((simp only [runFn, evSs, evS, evE, evT, evEs, evO, evG, evGs, b_ok, ix0, ix1, ix2', o_add', o_sub', c_lt', c_le', c_gt', c_ge', c_eq', c_ne', List.length_cons, List.length_nil, List.map_cons, List.map_nil, List.replicate, Nat.sub_self, Nat.add_sub_cancel, List.cons_append, List.nil_append, List.append_nil, List.getElem?_cons_zero, List.getElem?_cons_succ, List.set_cons_zero, List.set_cons_succ, if_true, if_false, ite_true, ite_false, reduceIte, Nat.reduceAdd, Nat.reduceSub, Nat.reduceLT, Nat.zero_add, Bool.true_and, Bool.and_true]) <;> rfl)) ?_)⟩
        obtain ⟨p1, p2, p3⟩ := q1 j lt'
        have p4 := q2 j (by omega)
        have ds : r.b - dot (j + 1) r.c (co v) = r.b - dot j r.c (co v) - co r.c j * co v j := by
          show r.b - (dot j r.c (co v) + co r.c j * co v j) = _
          grind
        dsimp only
        have i0 : ix2 (rq (co r.c j)) (.int 0) h3 = .ok (.int (co r.c j).num, h3) := ix0
        refine ss_cons (s_if (Ok.of (a := !decide ((co r.c j).num = 0)) (h := h3) (by simp only [runFn, evSs, evS, evE, evT, evEs, evO, evG, evGs, b_ok, ix0, ix1, ix2', o_add', o_sub', c_lt', c_le', c_gt', c_ge', c_eq', c_ne', List.length_cons, List.length_nil, List.map_cons, List.map_nil, List.replicate, Nat.sub_self, Nat.add_sub_cancel, List.cons_append, List.nil_append, List.append_nil, List.getElem?_cons_zero, List.getElem?_cons_succ, List.set_cons_zero, List.set_cons_succ, if_true, if_false, ite_true, ite_false, reduceIte, Nat.reduceAdd, Nat.reduceSub, Nat.reduceLT, Nat.zero_add, Bool.true_and, Bool.and_true, i0]) ?_))
        by_cases z : co r.c j = 0
        · rw [if_neg (by simp [z])]
          refine ss_nil (ss_nil ⟨rfl, some (rq (co r.c j)), some (rq (co v j)), ?_⟩)
          rw [ds, z]
          have : r.b - dot j r.c (co v) - 0 * co v j = r.b - dot j r.c (co v) := by grind
          rw [this]
        · rw [if_pos (by simp [num0, z])]
          rw [ds]
          generalize r.b - dot j r.c (co v) = rest at *
          (refine ss_cons (s_asg (by simp) (Ok.of (by ((simp only [runFn, evSs, evS, evE, evT, evEs, evO, evG, evGs, b_ok, ix0, ix1, ix2', o_add', o_sub', c_lt', c_le', c_gt', c_ge', c_eq', c_ne', List.length_cons, List.length_nil, List.map_cons, List.map_nil, List.replicate, Nat.sub_self, Nat.add_sub_cancel, List.cons_append, List.nil_append, List.append_nil, List.getElem?_cons_zero, List.getElem?_cons_succ, List.set_cons_zero, List.set_cons_succ, if_true, if_false, ite_true, ite_false, reduceIte, Nat.reduceAdd, Nat.reduceSub, Nat.reduceLT, Nat.zero_add, Bool.true_and, Bool.and_true, tm (co r.c j) (co v j) h3 p1 p2, mi rest (co r.c j * co v j) h3 p4 p3]) <;> rfl)) ?_)); dsimp only [List.set_cons_zero, List.set_cons_succ])
          exact ss_nil (ss_nil ⟨rfl, _, _, rfl⟩)
/-! ### dot, meets -/
theorem dot_ok {n K m : Nat} {c v : List Rat} {h : Hh} (lc : c.length = m) (lv : v.length = m) (hp : 0 < K) (hK : K ≤ 4500)
    (s1 : ∀ i, i < m → Sm K (co c i) ∧ Sm K (co v i) ∧ Sm K (co c i * co v i)) (s2 : ∀ i, i ≤ m → Sm K (dot i c (co v))) :
    C (n + 3) 26 [.tup (c.map rq), .tup (v.map rq)] h = .ok (rq (dot m c (co v)), h) := by
  have tm := fun (a b : Rat) (h : Hh) (ha : Sm K a) (hb : Sm K b) => times_eq (n := n) (h := h) ha hb hp hK
  have pl := fun (a b : Rat) (h : Hh) (ha : Sm K a) (hb : Sm K b) => plus_eq (n := n) (h := h) ha hb hp hK
  refine Ok.eq (C_ok (f := f_dot) rfl rfl fun call hcall => ?_)
  rw [← hcall] at tm pl
  show Ok (evSs call gvals b_dot [some (.tup (c.map rq)), some (.tup (v.map rq)), none, none, none] h) _
  unfold b_dot
  have z0 : rq 0 = .tup [.int 0, .int 1] := rfl
  refine ss_cons (s_asg (by simp) (Ok.of (a := rq 0) (h := h) (by simp only [runFn, evSs, evS, evE, evT, evEs, evO, evG, evGs, b_ok, ix0, ix1, ix2', o_add', o_sub', c_lt', c_le', c_gt', c_ge', c_eq', c_ne', List.length_cons, List.length_nil, List.map_cons, List.map_nil, List.replicate, Nat.sub_self, Nat.add_sub_cancel, List.cons_append, List.nil_append, List.append_nil, List.getElem?_cons_zero, List.getElem?_cons_succ, List.set_cons_zero, List.set_cons_succ, if_true, if_false, ite_true, ite_false, reduceIte, Nat.reduceAdd, Nat.reduceSub, Nat.reduceLT, Nat.zero_add, Bool.true_and, Bool.and_true, z0, gvals]) ?_))
  dsimp only [List.set_cons_zero, List.set_cons_succ]
  refine ss_cons (s_for (Ok.of (a := .zip (.tup (c.map rq)) (.tup (v.map rq))) (h := h) (by unfold evI; simp only [runFn, evSs, evS, evE, evT, evEs, evO, evG, evGs, b_ok, ix0, ix1, ix2', o_add', o_sub', c_lt', c_le', c_gt', c_ge', c_eq', c_ne', List.length_cons, List.length_nil, List.map_cons, List.map_nil, List.replicate, Nat.sub_self, Nat.add_sub_cancel, List.cons_append, List.nil_append, List.append_nil, List.getElem?_cons_zero, List.getElem?_cons_succ, List.set_cons_zero, List.set_cons_succ, if_true, if_false, ite_true, ite_false, reduceIte, Nat.reduceAdd, Nat.reduceSub, Nat.reduceLT, Nat.zero_add, Bool.true_and, Bool.and_true, itOf]) ?_))
  have lcm : (c.map rq).length = m := by rw [List.length_map, lc]
  have lvm : (v.map rq).length = m := by rw [List.length_map, lv]
  have hm : It.most h (.zip (.tup (c.map rq)) (.tup (v.map rq))) = m := by
    show min (c.map rq).length (v.map rq).length = _
    rw [lcm, lvm, Nat.min_self]
  rw [hm]
  refine ⟨fun j e3 h3 => h3 = h ∧ ∃ y3 y4, e3 = [some (.tup (c.map rq)), some (.tup (v.map rq)), some (rq (dot j c (co v))), y3, y4], ⟨rfl, none, none, rfl⟩, ?_⟩
  rintro j e3 h3 ⟨rfl, y8, y9, rfl⟩ lj
  rcases Nat.eq_or_lt_of_le lj with e'' | lt'
  · have le2 := zip_end (h := h3) (xs := c.map rq) (ys := v.map rq) (by rw [lcm, lvm])
    rw [lcm] at le2
    refine .inl ⟨e'', by rw [e'']; exact le2, ?_⟩
    rw [e'']
    (refine ss_cons (s_ret (Ok.of (by ((simp only [runFn, evSs, evS, evE, evT, evEs, evO, evG, evGs, b_ok, ix0, ix1, ix2', o_add', o_sub', c_lt', c_le', c_gt', c_ge', c_eq', c_ne', List.length_cons, List.length_nil, List.map_cons, List.map_nil, List.replicate, Nat.sub_self, Nat.add_sub_cancel, List.cons_append, List.nil_append, List.append_nil, List.getElem?_cons_zero, List.getElem?_cons_succ, List.set_cons_zero, List.set_cons_succ, if_true, if_false, ite_true, ite_false, reduceIte, Nat.reduceAdd, Nat.reduceSub, Nat.reduceLT, Nat.zero_add, Bool.true_and, Bool.and_true]) <;> rfl)) ?_)); dsimp only [List.set_cons_zero, List.set_cons_succ])
    exact ⟨rfl, rfl⟩
  · have nx2 := zip_next (h := h3) (xs := c.map rq) (ys := v.map rq) (i := j) (by rw [lcm]; exact lt') (by rw [lvm]; exact lt')
    rw [List.getElem_map, List.getElem_map, ← getQ (by omega), ← getQ (by omega)] at nx2
    refine .inr ⟨lt', _, nx2, Ok.bind (Ok.of (a := [some (.tup (c.map rq)), some (.tup (v.map rq)), some (rq (dot j c (co v))), some (rq (co c j)), some (rq (co v j))]) (by ((simp only [runFn, evSs, evS, evE, evT, evEs, evO, evG, evGs, b_ok, ix0, ix1, ix2', o_add', o_sub', c_lt', c_le', c_gt', c_ge', c_eq', c_ne', List.length_cons, List.length_nil, List.map_cons, List.map_nil, List.replicate, Nat.sub_self, Nat.add_sub_cancel, List.cons_append, List.nil_append, List.append_nil, List.getElem?_cons_zero, List.getElem?_cons_succ, List.set_cons_zero, List.set_cons_succ, if_true, if_false, ite_true, ite_false, reduceIte, Nat.reduceAdd, Nat.reduceSub, Nat.reduceLT, Nat.zero_add, Bool.true_and, Bool.and_true]) <;> rfl)) ?_)⟩
    obtain ⟨p1, p2, p3⟩ := s1 j lt'
    have p4 := s2 j (by omega)
    have ds : dot (j + 1) c (co v) = dot j c (co v) + co c j * co v j := rfl
    dsimp only
    have i0 : ix2 (rq (co c j)) (.int 0) h3 = .ok (.int (co c j).num, h3) := ix0
    have i1 : ix2 (rq (co v j)) (.int 0) h3 = .ok (.int (co v j).num, h3) := ix0
    by_cases z : co c j = 0
    · have d1 : decide ((co c j).num = 0) = true := decide_eq_true (num0.mpr z)
      refine ss_cons (s_if (Ok.of (a := false) (h := h3) (by simp only [runFn, evSs, evS, evE, evT, evEs, evO, evG, evGs, b_ok, ix0, ix1, ix2', o_add', o_sub', c_lt', c_le', c_gt', c_ge', c_eq', c_ne', List.length_cons, List.length_nil, List.map_cons, List.map_nil, List.replicate, Nat.sub_self, Nat.add_sub_cancel, List.cons_append, List.nil_append, List.append_nil, List.getElem?_cons_zero, List.getElem?_cons_succ, List.set_cons_zero, List.set_cons_succ, if_true, if_false, ite_true, ite_false, reduceIte, Nat.reduceAdd, Nat.reduceSub, Nat.reduceLT, Nat.zero_add, Bool.true_and, Bool.and_true, i0, d1, Bool.not_true, Bool.false_eq_true]) ?_))
      rw [if_neg Bool.false_ne_true]
      refine ss_nil (ss_nil ⟨rfl, some (rq (co c j)), some (rq (co v j)), ?_⟩)
      rw [ds, z]
      have : dot j c (co v) + 0 * co v j = dot j c (co v) := by grind
      rw [this]
    · have d1 : decide ((co c j).num = 0) = false := decide_eq_false (fun q => z (num0.mp q))
      by_cases w : co v j = 0
      · have d2 : decide ((co v j).num = 0) = true := decide_eq_true (num0.mpr w)
        refine ss_cons (s_if (Ok.of (a := false) (h := h3) (by simp only [runFn, evSs, evS, evE, evT, evEs, evO, evG, evGs, b_ok, ix0, ix1, ix2', o_add', o_sub', c_lt', c_le', c_gt', c_ge', c_eq', c_ne', List.length_cons, List.length_nil, List.map_cons, List.map_nil, List.replicate, Nat.sub_self, Nat.add_sub_cancel, List.cons_append, List.nil_append, List.append_nil, List.getElem?_cons_zero, List.getElem?_cons_succ, List.set_cons_zero, List.set_cons_succ, if_true, if_false, ite_true, ite_false, reduceIte, Nat.reduceAdd, Nat.reduceSub, Nat.reduceLT, Nat.zero_add, Bool.true_and, Bool.and_true, i0, i1, d1, d2, Bool.not_true, Bool.not_false]) ?_))
        rw [if_neg Bool.false_ne_true]
        refine ss_nil (ss_nil ⟨rfl, some (rq (co c j)), some (rq (co v j)), ?_⟩)
        rw [ds, w]
        have : dot j c (co v) + co c j * 0 = dot j c (co v) := by grind
        rw [this]
      · have d2 : decide ((co v j).num = 0) = false := decide_eq_false (fun q => w (num0.mp q))
        refine ss_cons (s_if (Ok.of (a := true) (h := h3) (by simp only [runFn, evSs, evS, evE, evT, evEs, evO, evG, evGs, b_ok, ix0, ix1, ix2', o_add', o_sub', c_lt', c_le', c_gt', c_ge', c_eq', c_ne', List.length_cons, List.length_nil, List.map_cons, List.map_nil, List.replicate, Nat.sub_self, Nat.add_sub_cancel, List.cons_append, List.nil_append, List.append_nil, List.getElem?_cons_zero, List.getElem?_cons_succ, List.set_cons_zero, List.set_cons_succ, if_true, if_false, ite_true, ite_false, reduceIte, Nat.reduceAdd, Nat.reduceSub, Nat.reduceLT, Nat.zero_add, Bool.true_and, Bool.and_true, i0, i1, d1, d2, Bool.not_true, Bool.not_false]) ?_))
        rw [if_pos rfl, ds]
        generalize dot j c (co v) = rest at *
        (refine ss_cons (s_asg (by simp) (Ok.of (by ((simp only [runFn, evSs, evS, evE, evT, evEs, evO, evG, evGs, b_ok, ix0, ix1, ix2', o_add', o_sub', c_lt', c_le', c_gt', c_ge', c_eq', c_ne', List.length_cons, List.length_nil, List.map_cons, List.map_nil, List.replicate, Nat.sub_self, Nat.add_sub_cancel, List.cons_append, List.nil_append, List.append_nil, List.getElem?_cons_zero, List.getElem?_cons_succ, List.set_cons_zero, List.set_cons_succ, if_true, if_false, ite_true, ite_false, reduceIte, Nat.reduceAdd, Nat.reduceSub, Nat.reduceLT, Nat.zero_add, Bool.true_and, Bool.and_true, tm (co c j) (co v j) h3 p1 p2, pl rest (co c j * co v j) h3 p4 p3]) <;> rfl)) ?_)); dsimp only [List.set_cons_zero, List.set_cons_succ])
        exact ss_nil (ss_nil ⟨rfl, _, _, rfl⟩)
theorem meets_ok {n K m c : Nat} {l : List Row} {v : List Rat} {h : Hh} (hc : h[c]? = some (O.lst (l.map rowD))) (hl : Len m l) (lv : v.length = m) (hp : 0 < K) (hK : K ≤ 4500)
    (s1 : ∀ r ∈ l, Sm K r.b ∧ ∀ i, i < m → Sm K (co r.c i) ∧ Sm K (co v i) ∧ Sm K (co r.c i * co v i)) (s2 : ∀ r ∈ l, ∀ i, i ≤ m → Sm K (dot i r.c (co v))) (hs : Sat m (co v) l) :
    C (n + 4) 27 [.tup (v.map rq), .ref c] h = .ok (.bl true, h) := by
  have dt := fun (r : Row) (h : Hh) (hr : r ∈ l) => dot_ok (n := n) (h := h) (hl r hr) lv hp hK (s1 r hr).2 (s2 r hr)
  have le := fun (a b : Rat) (h : Hh) (ha : Sm K a) (hb : Sm K b) => less_eq (n := n + 2) (h := h) ha hb hp hK
  refine Ok.eq (C_ok (f := f_meets) rfl rfl fun call hcall => ?_)
  rw [← hcall] at dt le
  show Ok (evSs call gvals b_meets [some (.tup (v.map rq)), some (.ref c), none, none, none, none] h) _
  unfold b_meets
  refine ss_cons (s_for (Ok.of (a := .lst c) (h := h) (by unfold evI; simp only [runFn, evSs, evS, evE, evT, evEs, evO, evG, evGs, b_ok, ix0, ix1, ix2', o_add', o_sub', c_lt', c_le', c_gt', c_ge', c_eq', c_ne', List.length_cons, List.length_nil, List.map_cons, List.map_nil, List.replicate, Nat.sub_self, Nat.add_sub_cancel, List.cons_append, List.nil_append, List.append_nil, List.getElem?_cons_zero, List.getElem?_cons_succ, List.set_cons_zero, List.set_cons_succ, if_true, if_false, ite_true, ite_false, reduceIte, Nat.reduceAdd, Nat.reduceSub, Nat.reduceLT, Nat.zero_add, Bool.true_and, Bool.and_true, itOf, lstAt_of hc]) ?_))
  have lm : (l.map rowD).length = l.length := List.length_map ..
  have hm : It.most h (.lst c) = l.length := by
    show ((lstAt h c).map List.length).getD 0 = _
    rw [lstAt_of hc]
    simp
  rw [hm]
  refine ⟨fun i e2 h2 => h2 = h ∧ (∃ x y z w, e2 = [some (.tup (v.map rq)), some (.ref c), x, y, z, w]), ⟨rfl, ⟨_, _, _, _, rfl⟩⟩, ?_⟩
  rintro i e2 h2 ⟨rfl, ⟨x, y, z, w, rfl⟩⟩ lei
  rcases Nat.eq_or_lt_of_le lei with e' | lt
  · have le1 := lst_end hc
    rw [lm] at le1
    refine .inl ⟨e', by rw [e']; exact le1, ?_⟩
    (refine ss_cons (s_ret (Ok.of (by ((simp only [runFn, evSs, evS, evE, evT, evEs, evO, evG, evGs, b_ok, ix0, ix1, ix2', o_add', o_sub', c_lt', c_le', c_gt', c_ge', c_eq', c_ne', List.length_cons, List.length_nil, List.map_cons, List.map_nil, List.replicate, Nat.sub_self, Nat.add_sub_cancel, List.cons_append, List.nil_append, List.append_nil, List.getElem?_cons_zero, List.getElem?_cons_succ, List.set_cons_zero, List.set_cons_succ, if_true, if_false, ite_true, ite_false, reduceIte, Nat.reduceAdd, Nat.reduceSub, Nat.reduceLT, Nat.zero_add, Bool.true_and, Bool.and_true]) <;> rfl)) ?_)); dsimp only [List.set_cons_zero, List.set_cons_succ])
    exact ⟨rfl, rfl⟩
  · have nx1 := lst_next hc (i := i) (by rw [lm]; exact lt)
    rw [List.getElem_map] at nx1
    have mr : l[i] ∈ l := List.getElem_mem lt
    refine .inr ⟨lt, _, nx1, Ok.bind (Ok.of (a := [some (.tup (v.map rq)), some (.ref c), some (.tup (l[i].c.map rq)), some (rq l[i].b), some (.bl l[i].j), w]) (h := h2) (by simp only [runFn, evSs, evS, evE, evT, evEs, evO, evG, evGs, b_ok, ix0, ix1, ix2', o_add', o_sub', c_lt', c_le', c_gt', c_ge', c_eq', c_ne', List.length_cons, List.length_nil, List.map_cons, List.map_nil, List.replicate, Nat.sub_self, Nat.add_sub_cancel, List.cons_append, List.nil_append, List.append_nil, List.getElem?_cons_zero, List.getElem?_cons_succ, List.set_cons_zero, List.set_cons_succ, if_true, if_false, ite_true, ite_false, reduceIte, Nat.reduceAdd, Nat.reduceSub, Nat.reduceLT, Nat.zero_add, Bool.true_and, Bool.and_true, rowD]) ?_)⟩
    generalize l[i] = r at *
    have d0 := dt r h2 mr
    have sd := s2 r mr m (Nat.le_refl _)
    have sr := hs r mr
    unfold sat at sr
    dsimp only
    (refine ss_cons (s_asg (by simp) (Ok.of (by ((simp only [runFn, evSs, evS, evE, evT, evEs, evO, evG, evGs, b_ok, ix0, ix1, ix2', o_add', o_sub', c_lt', c_le', c_gt', c_ge', c_eq', c_ne', List.length_cons, List.length_nil, List.map_cons, List.map_nil, List.replicate, Nat.sub_self, Nat.add_sub_cancel, List.cons_append, List.nil_append, List.append_nil, List.getElem?_cons_zero, List.getElem?_cons_succ, List.set_cons_zero, List.set_cons_succ, if_true, if_false, ite_true, ite_false, reduceIte, Nat.reduceAdd, Nat.reduceSub, Nat.reduceLT, Nat.zero_add, Bool.true_and, Bool.and_true, d0]) <;> rfl)) ?_)); dsimp only [List.set_cons_zero, List.set_cons_succ])
    generalize dot m r.c (co v) = am at *
    have ne := ne_rq (a := am) (b := r.b) (h := h2)
    have lb := le r.b am h2 (s1 r mr).1 sd
    obtain ⟨jv, hjv⟩ : ∃ jv, jv = r.j := ⟨_, rfl⟩
    rw [← hjv] at sr ⊢
    have d1 : decide (r.b < am) = false := by
      refine decide_eq_false fun q => ?_
      cases jv with
      | true => rw [if_pos rfl] at sr; grind
      | false => rw [if_neg Bool.false_ne_true] at sr; grind
    refine ss_cons (s_if (Ok.of (a := false) (h := h2) ?_ ?_))
    · cases jv with
      | true =>
        rw [if_pos rfl] at sr
        have d2 : decide (am ≠ r.b) = false := decide_eq_false (fun q => q sr)
        simp only [runFn, evSs, evS, evE, evT, evEs, evO, evG, evGs, b_ok, ix0, ix1, ix2', o_add', o_sub', c_lt', c_le', c_gt', c_ge', c_eq', c_ne', List.length_cons, List.length_nil, List.map_cons, List.map_nil, List.replicate, Nat.sub_self, Nat.add_sub_cancel, List.cons_append, List.nil_append, List.append_nil, List.getElem?_cons_zero, List.getElem?_cons_succ, List.set_cons_zero, List.set_cons_succ, if_true, if_false, ite_true, ite_false, reduceIte, Nat.reduceAdd, Nat.reduceSub, Nat.reduceLT, Nat.zero_add, Bool.true_and, Bool.and_true, lb, d1, ne, d2, Bool.false_eq_true]
      | false => simp only [runFn, evSs, evS, evE, evT, evEs, evO, evG, evGs, b_ok, ix0, ix1, ix2', o_add', o_sub', c_lt', c_le', c_gt', c_ge', c_eq', c_ne', List.length_cons, List.length_nil, List.map_cons, List.map_nil, List.replicate, Nat.sub_self, Nat.add_sub_cancel, List.cons_append, List.nil_append, List.append_nil, List.getElem?_cons_zero, List.getElem?_cons_succ, List.set_cons_zero, List.set_cons_succ, if_true, if_false, ite_true, ite_false, reduceIte, Nat.reduceAdd, Nat.reduceSub, Nat.reduceLT, Nat.zero_add, Bool.true_and, Bool.and_true, lb, d1, Bool.false_eq_true]
    · rw [if_neg Bool.false_ne_true]
      exact ss_nil (ss_nil ⟨rfl, _, _, _, _, rfl⟩)
end K00
set_option Elab.async false
set_option linter.all false
set_option maxRecDepth 100000
set_option maxHeartbeats 2000000
/-! K00Y: nearest, greatest. -/
namespace K00
open SF PySem
section
variable {call : Nat → List D → Hh → R (D × Hh)} {gl : List D} {e : En} {h : Hh}
theorem s_asgT {t : T} {a : E} {Q : Fl → Hh → Prop} (k : Ok (evE call gl a e h) fun d h' => Ok (evG call gl t d e h') fun e' h'' => Q (.nx e') h'') : Ok (evS call gl (.asg t a) e h) Q := by
  unfold evS
  exact k.seq fun d h' q => q.seq fun e' h'' q => Ok.pure q
theorem callA {f : Nat} {a : E} {Q : D → Hh → Prop} (k : Ok (evE call gl a e h) fun d h' => Ok (call f [d] h') Q) : Ok (evE call gl (.call f (.cons a .nil) []) e h) Q := by
  obtain ⟨d, h1, e1, q⟩ := k
  have ev2 : evE call gl (.call f (.cons a .nil) []) e h = call f [d] h1 := by
    show (evEs call gl (.cons a .nil) e h >>= fun p => call f (p.1 ++ []) p.2) = _
    have : evEs call gl (.cons a .nil) e h = .ok ([d], h1) := by
      show (evE call gl a e h >>= fun p => R.ok ([p.1], p.2)) = _
      rw [e1, b_ok]
    rw [this, b_ok]
    rfl
  rw [ev2]
  exact q
end
def pickU : Option Rat → Rat
  | some b => if b < 0 then b else 0
  | none => 0
theorem pickF_up {lo hi : Option Rat} (hn : ∀ v, lo = some v → ¬ 0 < v) : pickF (lo, hi) = pickU hi := by
  unfold pickF pickU
  cases lo with
  | none => rfl
  | some v =>
    exact (if_neg (hn v rfl)).trans rfl
/-- what the values on the way need of sizes -/
def FineV (l : List Row) (m K : Nat) : Prop := ∀ k, k < m → ∀ r ∈ el l m (m - 1 - k), Sm K (co r.c k) ∧ (∀ i, i < k → Sm K (co r.c i) ∧ Sm K (co (runF l m k) i) ∧ Sm K (co r.c i * co (runF l m k) i)) ∧ ∀ i, i ≤ k → Sm K (r.b - dot i r.c (co (runF l m k)))
/-- with_value and interval -/
theorem step_run {n K b cv k m len : Nat} {l : List Row} {h : Hh} (hb : h[b]? = some (O.lst ((el l m (m - 1 - k)).map rowD))) (hv : h[cv]? = some (O.lst ((runF l m k).map rq))) (hl : Len len l) (hq : m ≤ len) (hk : k < m) (hn : (el l m (m - 1 - k)).length ≤ 900) (V : FineV l m K) (hp : 0 < K) (hK : 2 * K ≤ 4500)
    {call : Nat → List D → Hh → R (D × Hh)} (hcall : call = C (n + 3)) {gl : List D} {e : En} {a1 a2 a3 : E} {h0 : Hh} (e1 : evEs call gl (.cons a1 (.cons a2 (.cons a3 .nil))) e h0 = .ok ([.ref b, .ref cv, .int (k : Int)], h)) :
    Ok (evE call gl (.call 23 (.cons (.call 22 (.cons a1 (.cons a2 (.cons a3 .nil))) []) .nil) []) e h0) fun d h' => d = .tup [oD (ivF (withV (el l m (m - 1 - k)) (runF l m k) k)).1, oD (ivF (withV (el l m (m - 1 - k)) (runF l m k) k)).2] ∧ Keep [] h h' := by
  have hv' := V k hk
  have w := withV_run (n := n) hb hv (runF_len k) (fun r hr => by rw [el_len hl _ r hr]; omega) (by omega) hp (by omega) (fun r hr => (hv' r hr).2.1) (fun r hr => (hv' r hr).2.2)
  refine callA ?_
  have e2 : evE call gl (.call 22 (.cons a1 (.cons a2 (.cons a3 .nil))) []) e h0 = call 22 [.ref b, .ref cv, .int (k : Int)] h := by
    show (evEs call gl (.cons a1 (.cons a2 (.cons a3 .nil))) e h0 >>= fun p => call 22 (p.1 ++ []) p.2) = _
    rw [e1, b_ok]
    rfl
  rw [e2, hcall]
  refine w.imp fun d h' q => ?_
  obtain ⟨rfl, q2, q3⟩ := q
  have iv := interval_ok (n := n) q2 (fun r hr => by
    obtain ⟨r', hr', rfl⟩ := List.mem_map.mp hr
    exact ⟨(hv' r' hr').1, (hv' r' hr').2.2 k (Nat.le_refl _)⟩) hp hK
  exact Ok.of iv.1 ⟨rfl, q3⟩
theorem nearest_run {n k K K' c m len : Nat} {l : List Row} {h : Hh} (hc : h[c]? = some (O.lst (l.map rowD))) (hl : Len len l) (hq : m ≤ len) (F : Fine l m len k K) (hp : 0 < k) (hk : 2 * k ≤ 2200) (hK : K ≤ 2200) (hKp : 0 < K) (hm : m ≤ 100) (V : FineV l m K') (hp' : 0 < K') (hK' : 2 * K' ≤ 4500) :
    Ok (C (n + 8) 24 [.ref c, .int (m : Int)] h) fun d h' => d = (if ((el l m m).find? isBroken).isNone then .tup ((runF l m m).map rq) else .non) ∧ Keep [] h h' := by
  have ch := chain_run (n := n) hc hl hq F hp hk hK hKp hm
  have br := fun (c' : Nat) (l' : List Row) (h' : Hh) (hc' : h'[c']? = some (O.lst (l'.map rowD))) => broken_ok (n := n + 5) (k := 0) (m := (m : Int)) hc'
  have sg := fun (a : Rat) (h : Hh) => sign_eq (n := n + 6) (a := a) (h := h)
  refine C_ok (f := f_nearest) rfl rfl fun call hcall => ?_
  rw [← hcall] at ch br sg
  show Ok (evSs call gvals b_nearest [some (.ref c), some (.int (m : Int)), none, none, none, none, none, none] h) _
  unfold b_nearest
  refine ss_cons (s_asg (by simp) ?_)
  have e17 : evE call gvals (.call 17 (.cons (.var 0) (.cons (.var 1) .nil)) []) [some (.ref c), some (.int (m : Int)), none, none, none, none, none, none] h = call 17 [.ref c, .int (m : Int)] h := by simp only [runFn, evSs, evS, evE, evT, evEs, evO, evG, evGs, b_ok, ix0, ix1, ix2', o_add', o_sub', c_lt', c_le', c_gt', c_ge', c_eq', c_ne', List.length_cons, List.length_nil, List.map_cons, List.map_nil, List.replicate, Nat.sub_self, Nat.add_sub_cancel, List.cons_append, List.nil_append, List.append_nil, List.getElem?_cons_zero, List.getElem?_cons_succ, List.set_cons_zero, List.set_cons_succ, if_true, if_false, ite_true, ite_false, reduceIte, Nat.reduceAdd, Nat.reduceSub, Nat.reduceLT, Nat.zero_add, Bool.true_and, Bool.and_true]
  rw [e17]
  refine ch.imp fun d h1 q => ?_
  obtain ⟨S, as, rfl, q1, q2, q3, q4⟩ := q
  dsimp only [List.set_cons_zero, List.set_cons_succ]
  have ixs : ∀ (i b : Nat) (h' : Hh), as[i]? = some b → h'[S]? = some (O.lst (as.map D.ref)) → ix2 (.ref S) (.int (i : Int)) h' = .ok (.ref b, h') := fun i b h' hb hS => by
    have hi : i < as.length := (List.getElem?_eq_some_iff.mp hb).1
    have i0 := ix_ref hS (k := i) (by rw [List.length_map]; exact hi)
    rw [List.getElem_map] at i0
    rw [(List.getElem?_eq_some_iff.mp hb).2] at i0
    exact i0
  obtain ⟨b0, hb0⟩ : ∃ b, as[0]? = some b := ⟨as[0]'(by omega), List.getElem?_eq_getElem _⟩
  have i0 := ixs 0 b0 h1 hb0 q1
  have g0 := q3 0 b0 hb0
  rw [Nat.sub_zero] at g0
  have br0 := br b0 _ h1 g0
  have z0 : ((0 : Nat) : Int) = 0 := rfl
  rw [z0] at i0
  cases hf : (el l m m).find? isBroken with
  | some r =>
    rw [hf] at br0
    refine ss_cons (s_if (Ok.of (a := true) (h := h1) (by simp only [runFn, evSs, evS, evE, evT, evEs, evO, evG, evGs, b_ok, ix0, ix1, ix2', o_add', o_sub', c_lt', c_le', c_gt', c_ge', c_eq', c_ne', List.length_cons, List.length_nil, List.map_cons, List.map_nil, List.replicate, Nat.sub_self, Nat.add_sub_cancel, List.cons_append, List.nil_append, List.append_nil, List.getElem?_cons_zero, List.getElem?_cons_succ, List.set_cons_zero, List.set_cons_succ, if_true, if_false, ite_true, ite_false, reduceIte, Nat.reduceAdd, Nat.reduceSub, Nat.reduceLT, Nat.zero_add, Bool.true_and, Bool.and_true, i0, br0, cmp2, rowD]) ?_))
    rw [if_pos rfl]
    (refine ss_cons (s_ret (Ok.of (by ((simp only [runFn, evSs, evS, evE, evT, evEs, evO, evG, evGs, b_ok, ix0, ix1, ix2', o_add', o_sub', c_lt', c_le', c_gt', c_ge', c_eq', c_ne', List.length_cons, List.length_nil, List.map_cons, List.map_nil, List.replicate, Nat.sub_self, Nat.add_sub_cancel, List.cons_append, List.nil_append, List.append_nil, List.getElem?_cons_zero, List.getElem?_cons_succ, List.set_cons_zero, List.set_cons_succ, if_true, if_false, ite_true, ite_false, reduceIte, Nat.reduceAdd, Nat.reduceSub, Nat.reduceLT, Nat.zero_add, Bool.true_and, Bool.and_true]) <;> rfl)) ?_)); dsimp only [List.set_cons_zero, List.set_cons_succ])
    exact ⟨rfl, q4⟩
  | none =>
    rw [hf] at br0
    refine ss_cons (s_if (Ok.of (a := false) (h := h1) (by simp only [runFn, evSs, evS, evE, evT, evEs, evO, evG, evGs, b_ok, ix0, ix1, ix2', o_add', o_sub', c_lt', c_le', c_gt', c_ge', c_eq', c_ne', List.length_cons, List.length_nil, List.map_cons, List.map_nil, List.replicate, Nat.sub_self, Nat.add_sub_cancel, List.cons_append, List.nil_append, List.append_nil, List.getElem?_cons_zero, List.getElem?_cons_succ, List.set_cons_zero, List.set_cons_succ, if_true, if_false, ite_true, ite_false, reduceIte, Nat.reduceAdd, Nat.reduceSub, Nat.reduceLT, Nat.zero_add, Bool.true_and, Bool.and_true, i0, br0, cmp2]) ?_))
    rw [if_neg Bool.false_ne_true]
    refine ss_nil ?_
    (refine ss_cons (s_asg (by simp) (Ok.of (by ((simp only [runFn, evSs, evS, evE, evT, evEs, evO, evG, evGs, b_ok, ix0, ix1, ix2', o_add', o_sub', c_lt', c_le', c_gt', c_ge', c_eq', c_ne', List.length_cons, List.length_nil, List.map_cons, List.map_nil, List.replicate, Nat.sub_self, Nat.add_sub_cancel, List.cons_append, List.nil_append, List.append_nil, List.getElem?_cons_zero, List.getElem?_cons_succ, List.set_cons_zero, List.set_cons_succ, if_true, if_false, ite_true, ite_false, reduceIte, Nat.reduceAdd, Nat.reduceSub, Nat.reduceLT, Nat.zero_add, Bool.true_and, Bool.and_true]) <;> rfl)) ?_)); dsimp only [List.set_cons_zero, List.set_cons_succ])
    generalize ha0 : h1.length = V0
    have k1 : Keep [] h (h1 ++ [O.lst []]) := q4.trans (Keep.app _)
    have gV : (h1 ++ [O.lst []])[V0]? = some (O.lst ((runF l m 0).map rq)) := by rw [← ha0]; exact get_new
    have gS := get_old (t := [O.lst []]) q1
    have ga : ∀ (i b : Nat), as[i]? = some b → (h1 ++ [O.lst []])[b]? = some (O.lst ((el l m (m - i)).map rowD)) := fun i b hb => get_old (q3 i b hb)
    have lS : S ≠ V0 := by have := lt_of q1; omega
    have la : ∀ (i b : Nat), as[i]? = some b → b ≠ V0 := fun i b hb => by have := lt_of (q3 i b hb); omega
    have hV0 : h.length ≤ V0 := by rw [← ha0]; exact q4.1
    generalize h1 ++ [O.lst []] = h2 at *
    refine ss_cons (s_for (rng_ok (i := 0) (j := (m : Int)) rfl rfl (by decide) (by decide) (by omega) (by omega) ?_))
    rw [rng_fmt]
    have hmo : It.most h2 (.rng 0 1 m) = m := rfl
    rw [hmo]
    refine ⟨fun i e3 h3 => (∃ x4 x5 x6 x7, e3 = [some (.ref c), some (.int (m : Int)), some (.ref S), some (.ref V0), x4, x5, x6, x7]) ∧ h3[V0]? = some (O.lst ((runF l m i).map rq)) ∧ Keep [V0] h2 h3, ⟨⟨_, _, _, _, rfl⟩, gV, Keep.refl⟩, ?_⟩
    rintro i e3 h3 ⟨⟨x4, x5, x6, x7, rfl⟩, g3, k3⟩ lei
    rcases Nat.eq_or_lt_of_le lei with e' | lt
    · refine .inl ⟨e', by rw [e']; exact rng_end, ?_⟩
      rw [e'] at g3
      refine ss_cons (s_ret (Ok.of (a := .tup ((runF l m m).map rq)) (h := h3) (by simp only [runFn, evSs, evS, evE, evT, evEs, evO, evG, evGs, b_ok, ix0, ix1, ix2', o_add', o_sub', c_lt', c_le', c_gt', c_ge', c_eq', c_ne', List.length_cons, List.length_nil, List.map_cons, List.map_nil, List.replicate, Nat.sub_self, Nat.add_sub_cancel, List.cons_append, List.nil_append, List.append_nil, List.getElem?_cons_zero, List.getElem?_cons_succ, List.set_cons_zero, List.set_cons_succ, if_true, if_false, ite_true, ite_false, reduceIte, Nat.reduceAdd, Nat.reduceSub, Nat.reduceLT, Nat.zero_add, Bool.true_and, Bool.and_true, bf2, tupleD, lstAt_of g3]) ?_))
      exact ⟨rfl, k1.past k3 fun i hi => .inr (by rw [List.mem_singleton.mp hi]; exact hV0)⟩
    · refine .inr ⟨lt, .int (0 + i), rng_next lt, Ok.bind (Ok.of (a := [some (.ref c), some (.int (m : Int)), some (.ref S), some (.ref V0), some (.int (i : Int)), x5, x6, x7]) (h := h3) (by simp only [runFn, evSs, evS, evE, evT, evEs, evO, evG, evGs, b_ok, ix0, ix1, ix2', o_add', o_sub', c_lt', c_le', c_gt', c_ge', c_eq', c_ne', List.length_cons, List.length_nil, List.map_cons, List.map_nil, List.replicate, Nat.sub_self, Nat.add_sub_cancel, List.cons_append, List.nil_append, List.append_nil, List.getElem?_cons_zero, List.getElem?_cons_succ, List.set_cons_zero, List.set_cons_succ, if_true, if_false, ite_true, ite_false, reduceIte, Nat.reduceAdd, Nat.reduceSub, Nat.reduceLT, Nat.zero_add, Bool.true_and, Bool.and_true, Int.zero_add]) ?_)⟩
      dsimp only
      obtain ⟨b, hb⟩ : ∃ b, as[i + 1]? = some b := ⟨as[i + 1]'(by omega), List.getElem?_eq_getElem _⟩
      have gS3 := k3.get gS (by simpa using lS)
      have gb3 := k3.get (ga _ _ hb) (by simpa using la _ _ hb)
      have em : m - (i + 1) = m - 1 - i := by omega
      rw [em] at gb3
      have ib := ixs (i + 1) b h3 hb gS3
      have ei : ((i + 1 : Nat) : Int) = (i : Int) + 1 := by omega
      rw [ei] at ib
      have st := step_run (n := n + 4) gb3 g3 hl hq lt (F.cnt _ (by omega)) V hp' hK' hcall (gl := gvals) (a1 := .ix (.var 2) (.bin .add (.var 4) (.lit (.int 1)))) (a2 := .var 3) (a3 := .var 4) (e := [some (.ref c), some (.int (m : Int)), some (.ref S), some (.ref V0), some (.int (i : Int)), x5, x6, x7]) (h0 := h3) (by simp only [runFn, evSs, evS, evE, evT, evEs, evO, evG, evGs, b_ok, ix0, ix1, ix2', o_add', o_sub', c_lt', c_le', c_gt', c_ge', c_eq', c_ne', List.length_cons, List.length_nil, List.map_cons, List.map_nil, List.replicate, Nat.sub_self, Nat.add_sub_cancel, List.cons_append, List.nil_append, List.append_nil, List.getElem?_cons_zero, List.getElem?_cons_succ, List.set_cons_zero, List.set_cons_succ, if_true, if_false, ite_true, ite_false, reduceIte, Nat.reduceAdd, Nat.reduceSub, Nat.reduceLT, Nat.zero_add, Bool.true_and, Bool.and_true, ib])
      have pk : runF l m (i + 1) = runF l m i ++ [pickF (ivF (withV (el l m (m - 1 - i)) (runF l m i) i))] := rfl
      rw [pk]
      generalize ivF (withV (el l m (m - 1 - i)) (runF l m i) i) = s at *
      obtain ⟨lo, hi⟩ := s
      refine ss_cons (s_asgT (st.imp fun d h4 q => ?_))
      obtain ⟨rfl, k4⟩ := q
      dsimp only
      refine Ok.of (a := [some (.ref c), some (.int (m : Int)), some (.ref S), some (.ref V0), some (.int (i : Int)), some (oD lo), some (oD hi), x7]) (h := h4) (by simp only [runFn, evSs, evS, evE, evT, evEs, evO, evG, evGs, b_ok, ix0, ix1, ix2', o_add', o_sub', c_lt', c_le', c_gt', c_ge', c_eq', c_ne', List.length_cons, List.length_nil, List.map_cons, List.map_nil, List.replicate, Nat.sub_self, Nat.add_sub_cancel, List.cons_append, List.nil_append, List.append_nil, List.getElem?_cons_zero, List.getElem?_cons_succ, List.set_cons_zero, List.set_cons_succ, if_true, if_false, ite_true, ite_false, reduceIte, Nat.reduceAdd, Nat.reduceSub, Nat.reduceLT, Nat.zero_add, Bool.true_and, Bool.and_true]) ?_
      have g4 := k4.get g3 (by simp)
      have sz : ((runF l m i).map rq).length < sizeLine := by
        rw [List.length_map, runF_len]
        have : (100 : Nat) < sizeLine := by decide
        omega
      have zq : rq 0 = .tup [.int 0, .int 1] := rfl
      refine ss_cons (s_asg (by simp) (Ok.of (a := rq 0) (h := h4) (by simp only [runFn, evSs, evS, evE, evT, evEs, evO, evG, evGs, b_ok, ix0, ix1, ix2', o_add', o_sub', c_lt', c_le', c_gt', c_ge', c_eq', c_ne', List.length_cons, List.length_nil, List.map_cons, List.map_nil, List.replicate, Nat.sub_self, Nat.add_sub_cancel, List.cons_append, List.nil_append, List.append_nil, List.getElem?_cons_zero, List.getElem?_cons_succ, List.set_cons_zero, List.set_cons_succ, if_true, if_false, ite_true, ite_false, reduceIte, Nat.reduceAdd, Nat.reduceSub, Nat.reduceLT, Nat.zero_add, Bool.true_and, Bool.and_true, zq, gvals]) ?_))
      dsimp only [List.set_cons_zero, List.set_cons_succ]
      have sig : ∀ (q : Rat), decide (0 < sgn q) = decide (0 < q) := fun q => by rw [decide_eq_decide]; exact sgn_pos
      have sig' : ∀ (q : Rat), decide (sgn q < 0) = decide (q < 0) := fun q => by rw [decide_eq_decide]; exact sgn_neg
      have isn : ∀ (q : Rat), cmp2 .notN (rq q) .non h4 = .ok (.bl true, h4) := fun q => rfl
      have isn0 : cmp2 .notN .non .non h4 = .ok (.bl false, h4) := rfl
      have pick : Ok (evS call gvals (.ife (.and (.cmp .notN (.var 5) (.lit .non)) (.cmp .gt (.call 7 (.cons (.var 5) .nil) []) (.lit (.int 0)))) (.cons (.asg (.var 7) (.var 5)) <|
          .nil) (.cons (.ife (.and (.cmp .notN (.var 6) (.lit .non)) (.cmp .lt (.call 7 (.cons (.var 6) .nil) []) (.lit (.int 0)))) (.cons (.asg (.var 7) (.var 6)) <|
              .nil) .nil) <|
          .nil)) [some (.ref c), some (.int (m : Int)), some (.ref S), some (.ref V0), some (.int (i : Int)), some (oD lo), some (oD hi), some (rq 0)] h4) fun f h' => f = .nx [some (.ref c), some (.int (m : Int)), some (.ref S), some (.ref V0), some (.int (i : Int)), some (oD lo), some (oD hi), some (rq (pickF (lo, hi)))] ∧ h' = h4 := by
        have up : (∀ v, lo = some v → ¬ 0 < v) → Ok (evSs call gvals (.cons (.ife (.and (.cmp .notN (.var 6) (.lit .non)) (.cmp .lt (.call 7 (.cons (.var 6) .nil) []) (.lit (.int 0)))) (.cons (.asg (.var 7) (.var 6)) <|
              .nil) .nil) <|
          .nil) [some (.ref c), some (.int (m : Int)), some (.ref S), some (.ref V0), some (.int (i : Int)), some (oD lo), some (oD hi), some (rq 0)] h4) fun f h' => f = .nx [some (.ref c), some (.int (m : Int)), some (.ref S), some (.ref V0), some (.int (i : Int)), some (oD lo), some (oD hi), some (rq (pickF (lo, hi)))] ∧ h' = h4 := fun hn => by
          have ep : pickF (lo, hi) = pickU hi := pickF_up hn
          cases hi with
          | none =>
            rw [ep]
            refine ss_cons (s_if (Ok.of (a := false) (h := h4) (by simp only [runFn, evSs, evS, evE, evT, evEs, evO, evG, evGs, b_ok, ix0, ix1, ix2', o_add', o_sub', c_lt', c_le', c_gt', c_ge', c_eq', c_ne', List.length_cons, List.length_nil, List.map_cons, List.map_nil, List.replicate, Nat.sub_self, Nat.add_sub_cancel, List.cons_append, List.nil_append, List.append_nil, List.getElem?_cons_zero, List.getElem?_cons_succ, List.set_cons_zero, List.set_cons_succ, if_true, if_false, ite_true, ite_false, reduceIte, Nat.reduceAdd, Nat.reduceSub, Nat.reduceLT, Nat.zero_add, Bool.true_and, Bool.and_true, oD, isn0, Bool.false_eq_true]) ?_))
            rw [if_neg Bool.false_ne_true]
            exact ss_nil (ss_nil ⟨rfl, rfl⟩)
          | some b =>
            rw [ep]
            refine ss_cons (s_if (Ok.of (a := decide (b < 0)) (h := h4) (by simp only [runFn, evSs, evS, evE, evT, evEs, evO, evG, evGs, b_ok, ix0, ix1, ix2', o_add', o_sub', c_lt', c_le', c_gt', c_ge', c_eq', c_ne', List.length_cons, List.length_nil, List.map_cons, List.map_nil, List.replicate, Nat.sub_self, Nat.add_sub_cancel, List.cons_append, List.nil_append, List.append_nil, List.getElem?_cons_zero, List.getElem?_cons_succ, List.set_cons_zero, List.set_cons_succ, if_true, if_false, ite_true, ite_false, reduceIte, Nat.reduceAdd, Nat.reduceSub, Nat.reduceLT, Nat.zero_add, Bool.true_and, Bool.and_true, show oD (some b) = rq b from rfl, isn, sg, sig']) ?_))
            by_cases z : b < 0
            · rw [if_pos (decide_eq_true z)]
              have : pickU (some b) = b := if_pos z
              rw [this]
              (refine ss_cons (s_asg (by simp) (Ok.of (by ((simp only [runFn, evSs, evS, evE, evT, evEs, evO, evG, evGs, b_ok, ix0, ix1, ix2', o_add', o_sub', c_lt', c_le', c_gt', c_ge', c_eq', c_ne', List.length_cons, List.length_nil, List.map_cons, List.map_nil, List.replicate, Nat.sub_self, Nat.add_sub_cancel, List.cons_append, List.nil_append, List.append_nil, List.getElem?_cons_zero, List.getElem?_cons_succ, List.set_cons_zero, List.set_cons_succ, if_true, if_false, ite_true, ite_false, reduceIte, Nat.reduceAdd, Nat.reduceSub, Nat.reduceLT, Nat.zero_add, Bool.true_and, Bool.and_true]) <;> rfl)) ?_)); dsimp only [List.set_cons_zero, List.set_cons_succ])
              exact ss_nil (ss_nil ⟨rfl, rfl⟩)
            · rw [if_neg (by simpa using z)]
              have : pickU (some b) = 0 := if_neg z
              rw [this]
              exact ss_nil (ss_nil ⟨rfl, rfl⟩)
        cases hlo : lo with
        | none =>
          rw [hlo] at up
          refine s_if (Ok.of (a := false) (h := h4) (by simp only [runFn, evSs, evS, evE, evT, evEs, evO, evG, evGs, b_ok, ix0, ix1, ix2', o_add', o_sub', c_lt', c_le', c_gt', c_ge', c_eq', c_ne', List.length_cons, List.length_nil, List.map_cons, List.map_nil, List.replicate, Nat.sub_self, Nat.add_sub_cancel, List.cons_append, List.nil_append, List.append_nil, List.getElem?_cons_zero, List.getElem?_cons_succ, List.set_cons_zero, List.set_cons_succ, if_true, if_false, ite_true, ite_false, reduceIte, Nat.reduceAdd, Nat.reduceSub, Nat.reduceLT, Nat.zero_add, Bool.true_and, Bool.and_true, oD, isn0, Bool.false_eq_true]) ?_)
          rw [if_neg Bool.false_ne_true]
          exact up fun v hv => by cases hv
        | some v =>
          rw [hlo] at up
          refine s_if (Ok.of (a := decide (0 < v)) (h := h4) (by simp only [runFn, evSs, evS, evE, evT, evEs, evO, evG, evGs, b_ok, ix0, ix1, ix2', o_add', o_sub', c_lt', c_le', c_gt', c_ge', c_eq', c_ne', List.length_cons, List.length_nil, List.map_cons, List.map_nil, List.replicate, Nat.sub_self, Nat.add_sub_cancel, List.cons_append, List.nil_append, List.append_nil, List.getElem?_cons_zero, List.getElem?_cons_succ, List.set_cons_zero, List.set_cons_succ, if_true, if_false, ite_true, ite_false, reduceIte, Nat.reduceAdd, Nat.reduceSub, Nat.reduceLT, Nat.zero_add, Bool.true_and, Bool.and_true, show oD (some v) = rq v from rfl, isn, sg, sig]) ?_)
          by_cases z : 0 < v
          · rw [if_pos (decide_eq_true z)]
            (refine ss_cons (s_asg (by simp) (Ok.of (by ((simp only [runFn, evSs, evS, evE, evT, evEs, evO, evG, evGs, b_ok, ix0, ix1, ix2', o_add', o_sub', c_lt', c_le', c_gt', c_ge', c_eq', c_ne', List.length_cons, List.length_nil, List.map_cons, List.map_nil, List.replicate, Nat.sub_self, Nat.add_sub_cancel, List.cons_append, List.nil_append, List.append_nil, List.getElem?_cons_zero, List.getElem?_cons_succ, List.set_cons_zero, List.set_cons_succ, if_true, if_false, ite_true, ite_false, reduceIte, Nat.reduceAdd, Nat.reduceSub, Nat.reduceLT, Nat.zero_add, Bool.true_and, Bool.and_true]) <;> rfl)) ?_)); dsimp only [List.set_cons_zero, List.set_cons_succ])
            refine ss_nil ⟨?_, rfl⟩
            unfold pickF
            dsimp only
            rw [if_pos z]
            rfl
          · rw [if_neg (by simpa using z)]
            exact up fun w hw => by cases hw; exact z
      refine ss_cons (pick.imp fun f h' q => ?_)
      obtain ⟨rfl, rfl⟩ := q
      dsimp only
      generalize pickF (lo, hi) = p at *
      refine ss_cons (s_expr (Ok.of (a := .non) (h := h'.set V0 (.lst ((runF l m i).map rq ++ [rq p]))) (by simp only [runFn, evSs, evS, evE, evT, evEs, evO, evG, evGs, b_ok, ix0, ix1, ix2', o_add', o_sub', c_lt', c_le', c_gt', c_ge', c_eq', c_ne', List.length_cons, List.length_nil, List.map_cons, List.map_nil, List.replicate, Nat.sub_self, Nat.add_sub_cancel, List.cons_append, List.nil_append, List.append_nil, List.getElem?_cons_zero, List.getElem?_cons_succ, List.set_cons_zero, List.set_cons_succ, if_true, if_false, ite_true, ite_false, reduceIte, Nat.reduceAdd, Nat.reduceSub, Nat.reduceLT, Nat.zero_add, Bool.true_and, Bool.and_true, is_lst g4, m_append g4 sz]) ?_))
      refine ss_nil ⟨⟨_, _, _, _, rfl⟩, ?_, (k3.trans (k4.mono (by simp))).trans (Keep.set (by simp))⟩
      rw [List.map_append]
      exact get_set g4
theorem greatest_run {n k K K' c m len : Nat} {l : List Row} {h : Hh} (hc : h[c]? = some (O.lst (l.map rowD))) (hl : Len len l) (hq : m ≤ len) (F : Fine l m len k K) (hp : 0 < k) (hk : 2 * k ≤ 2200) (hK : K ≤ 2200) (hKp : 0 < K) (hm : m ≤ 100) (V : FineV l m K') (hp' : 0 < K') (hK' : 2 * K' ≤ 4500) (h1m : 0 < m) :
    Ok (C (n + 8) 25 [.ref c, .int (m : Int)] h) fun d h' => d = oD (ivF (withV (el l m (m - 1)) [] 0)).2 ∧ Keep [] h h' := by
  have ch := chain_run (n := n) hc hl hq F hp hk hK hKp hm
  refine C_ok (f := f_greatest) rfl rfl fun call hcall => ?_
  rw [← hcall] at ch
  show Ok (evSs call gvals b_greatest [some (.ref c), some (.int (m : Int)), none] h) _
  unfold b_greatest
  refine ss_cons (s_asg (by simp) ?_)
  have e17 : evE call gvals (.call 17 (.cons (.var 0) (.cons (.var 1) .nil)) []) [some (.ref c), some (.int (m : Int)), none] h = call 17 [.ref c, .int (m : Int)] h := by simp only [runFn, evSs, evS, evE, evT, evEs, evO, evG, evGs, b_ok, ix0, ix1, ix2', o_add', o_sub', c_lt', c_le', c_gt', c_ge', c_eq', c_ne', List.length_cons, List.length_nil, List.map_cons, List.map_nil, List.replicate, Nat.sub_self, Nat.add_sub_cancel, List.cons_append, List.nil_append, List.append_nil, List.getElem?_cons_zero, List.getElem?_cons_succ, List.set_cons_zero, List.set_cons_succ, if_true, if_false, ite_true, ite_false, reduceIte, Nat.reduceAdd, Nat.reduceSub, Nat.reduceLT, Nat.zero_add, Bool.true_and, Bool.and_true]
  rw [e17]
  refine ch.imp fun d h1 q => ?_
  obtain ⟨S, as, rfl, q1, q2, q3, q4⟩ := q
  dsimp only [List.set_cons_zero, List.set_cons_succ]
  obtain ⟨b1, hb1⟩ : ∃ b, as[1]? = some b := ⟨as[1]'(by omega), List.getElem?_eq_getElem _⟩
  have i0 := ix_ref q1 (k := 1) (by rw [List.length_map]; omega)
  rw [List.getElem_map, (List.getElem?_eq_some_iff.mp hb1).2] at i0
  have z1 : ((1 : Nat) : Int) = 1 := rfl
  rw [z1] at i0
  have g1 := q3 1 b1 hb1
  have g1' := get_old (t := [O.lst []]) g1
  have gv : (h1 ++ [O.lst []])[h1.length]? = some (O.lst ((runF l m 0).map rq)) := get_new
  have st := step_run (n := n + 4) (k := 0) g1' gv hl hq h1m (F.cnt _ (by omega)) V hp' hK' hcall (gl := gvals) (a1 := .ix (.var 2) (.lit (.int 1))) (a2 := .lst .nil) (a3 := .lit (.int 0)) (e := [some (.ref c), some (.int (m : Int)), some (.ref S)]) (h0 := h1) (by simp only [runFn, evSs, evS, evE, evT, evEs, evO, evG, evGs, b_ok, ix0, ix1, ix2', o_add', o_sub', c_lt', c_le', c_gt', c_ge', c_eq', c_ne', List.length_cons, List.length_nil, List.map_cons, List.map_nil, List.replicate, Nat.sub_self, Nat.add_sub_cancel, List.cons_append, List.nil_append, List.append_nil, List.getElem?_cons_zero, List.getElem?_cons_succ, List.set_cons_zero, List.set_cons_succ, if_true, if_false, ite_true, ite_false, reduceIte, Nat.reduceAdd, Nat.reduceSub, Nat.reduceLT, Nat.zero_add, Bool.true_and, Bool.and_true, i0]; rfl)
  refine ss_cons (s_ret ?_)
  have e2 : m - 1 - 0 = m - 1 := by omega
  rw [e2] at st
  unfold evE
  refine Ok.bind (st.imp fun d h2 q => ?_)
  obtain ⟨rfl, k2⟩ := q
  have rf : runF l m 0 = [] := rfl
  rw [rf] at *
  refine Ok.of (a := oD (ivF (withV (el l m (m - 1)) [] 0)).2) (h := h2) (by simp only [runFn, evSs, evS, evE, evT, evEs, evO, evG, evGs, b_ok, ix0, ix1, ix2', o_add', o_sub', c_lt', c_le', c_gt', c_ge', c_eq', c_ne', List.length_cons, List.length_nil, List.map_cons, List.map_nil, List.replicate, Nat.sub_self, Nat.add_sub_cancel, List.cons_append, List.nil_append, List.append_nil, List.getElem?_cons_zero, List.getElem?_cons_succ, List.set_cons_zero, List.set_cons_succ, if_true, if_false, ite_true, ite_false, reduceIte, Nat.reduceAdd, Nat.reduceSub, Nat.reduceLT, Nat.zero_add, Bool.true_and, Bool.and_true]) ⟨rfl, (q4.trans (Keep.app _)).trans k2⟩
end K00
set_option Elab.async false
set_option linter.all false
set_option maxRecDepth 100000
set_option maxHeartbeats 2000000
/-! K00Z: marked, refutation. -/
namespace K00
open SF PySem
theorem rng_eq {call : Nat → List D → Hh → R (D × Hh)} {gl : List D} {e : En} {h : Hh} {a b : E} {i j : Int} (ha : evE call gl a e h = .ok (.int i, h)) (hb : evE call gl b e h = .ok (.int j, h)) (h1 : -(2 ^ 61) ≤ i) (h2 : i < 2 ^ 61) (h3 : -(2 ^ 61) ≤ j) (h4 : j < 2 ^ 61) :
    evI call gl (.rng a b) e h = .ok (.rng i 1 (j - i).toNat, h) := Ok.eq (rng_ok ha hb h1 h2 h3 h4 ⟨rfl, rfl⟩)
theorem unit_map {m p : Nat} : ((List.range m).map fun t => rq (if p = t then 1 else 0)) = (unit m p).map rq := by
  unfold unit
  rw [List.map_map]
  rfl
theorem marked_get {l : List Row} {i : Nat} (h : i < l.length) : (marked l)[i]'(by unfold marked; rw [List.length_mapIdx]; exact h) = ⟨l[i].c ++ unit l.length i, l[i].b, l[i].j⟩ := by
  unfold marked
  rw [List.getElem_mapIdx]
theorem marked_run {n c len : Nat} {l : List Row} {h : Hh} (hc : h[c]? = some (O.lst (l.map rowD))) (hl : Len len l) (hlen : len ≤ 500) (hn : l.length ≤ 500) :
    Ok (C (n + 1) 20 [.ref c] h) fun d h' => d = .ref h.length ∧ h'[h.length]? = some (O.lst ((marked l).map rowD)) ∧ Keep [] h h' := by
  refine C_ok (f := f_marked) rfl rfl fun call hcall => ?_
  show Ok (evSs call gvals b_marked [some (.ref c), none, none, none, none, none, none] h) _
  unfold b_marked
  have lm : (l.map rowD).length = l.length := List.length_map ..
  (refine ss_cons (s_asg (by simp) (Ok.of (by ((simp only [runFn, evSs, evS, evE, evT, evEs, evO, evG, evGs, b_ok, ix0, ix1, ix2', o_add', o_sub', c_lt', c_le', c_gt', c_ge', c_eq', c_ne', List.length_cons, List.length_nil, List.map_cons, List.map_nil, List.replicate, Nat.sub_self, Nat.add_sub_cancel, List.cons_append, List.nil_append, List.append_nil, List.getElem?_cons_zero, List.getElem?_cons_succ, List.set_cons_zero, List.set_cons_succ, if_true, if_false, ite_true, ite_false, reduceIte, Nat.reduceAdd, Nat.reduceSub, Nat.reduceLT, Nat.zero_add, Bool.true_and, Bool.and_true, b_lenR hc, lm]) <;> rfl)) ?_)); dsimp only [List.set_cons_zero, List.set_cons_succ])
  (refine ss_cons (s_asg (by simp) (Ok.of (by ((simp only [runFn, evSs, evS, evE, evT, evEs, evO, evG, evGs, b_ok, ix0, ix1, ix2', o_add', o_sub', c_lt', c_le', c_gt', c_ge', c_eq', c_ne', List.length_cons, List.length_nil, List.map_cons, List.map_nil, List.replicate, Nat.sub_self, Nat.add_sub_cancel, List.cons_append, List.nil_append, List.append_nil, List.getElem?_cons_zero, List.getElem?_cons_succ, List.set_cons_zero, List.set_cons_succ, if_true, if_false, ite_true, ite_false, reduceIte, Nat.reduceAdd, Nat.reduceSub, Nat.reduceLT, Nat.zero_add, Bool.true_and, Bool.and_true]) <;> rfl)) ?_)); dsimp only [List.set_cons_zero, List.set_cons_succ])
  generalize ha0 : h.length = a0
  have k1 : Keep [] h (h ++ [O.lst []]) := Keep.app _
  have g0 : (h ++ [O.lst []])[a0]? = some (O.lst (((marked l).take 0).map rowD)) := by rw [← ha0]; exact get_new
  have hc1 := get_old (t := [O.lst []]) hc
  have lc : c ≠ a0 := by have := lt_of hc; omega
  generalize h ++ [O.lst []] = h1' at *
  refine ss_cons (s_for (Ok.of (a := .enum (.lst c)) (h := h1') (by unfold evI; simp only [runFn, evSs, evS, evE, evT, evEs, evO, evG, evGs, b_ok, ix0, ix1, ix2', o_add', o_sub', c_lt', c_le', c_gt', c_ge', c_eq', c_ne', List.length_cons, List.length_nil, List.map_cons, List.map_nil, List.replicate, Nat.sub_self, Nat.add_sub_cancel, List.cons_append, List.nil_append, List.append_nil, List.getElem?_cons_zero, List.getElem?_cons_succ, List.set_cons_zero, List.set_cons_succ, if_true, if_false, ite_true, ite_false, reduceIte, Nat.reduceAdd, Nat.reduceSub, Nat.reduceLT, Nat.zero_add, Bool.true_and, Bool.and_true, itOf, lstAt_of hc1]) ?_))
  have hm : It.most h1' (.enum (.lst c)) = l.length := by
    show ((lstAt h1' c).map List.length).getD 0 = _
    rw [lstAt_of hc1]
    simp
  rw [hm]
  have ml : (marked l).length = l.length := by unfold marked; rw [List.length_mapIdx]
  refine ⟨fun i e2 h2' => (∃ x3 x4 x5, e2 = [some (.ref c), some (.int (l.length : Nat)), some (.ref a0), x3, x4, x5, none]) ∧ h2'[a0]? = some (O.lst (((marked l).take i).map rowD)) ∧ Keep [a0] h1' h2',
    ⟨⟨_, _, _, rfl⟩, g0, Keep.refl⟩, ?_⟩
  rintro i e2 h2' ⟨⟨x3, x4, x5, rfl⟩, g2, k2⟩ lei
  have hc2 := k2.get hc1 (by simpa using lc)
  rcases Nat.eq_or_lt_of_le lei with e' | lt
  · have le1 := enum_end hc2
    rw [lm] at le1
    refine .inl ⟨e', by rw [e']; exact le1, ?_⟩
    rw [e', ← ml, List.take_length] at g2
    (refine ss_cons (s_ret (Ok.of (by ((simp only [runFn, evSs, evS, evE, evT, evEs, evO, evG, evGs, b_ok, ix0, ix1, ix2', o_add', o_sub', c_lt', c_le', c_gt', c_ge', c_eq', c_ne', List.length_cons, List.length_nil, List.map_cons, List.map_nil, List.replicate, Nat.sub_self, Nat.add_sub_cancel, List.cons_append, List.nil_append, List.append_nil, List.getElem?_cons_zero, List.getElem?_cons_succ, List.set_cons_zero, List.set_cons_succ, if_true, if_false, ite_true, ite_false, reduceIte, Nat.reduceAdd, Nat.reduceSub, Nat.reduceLT, Nat.zero_add, Bool.true_and, Bool.and_true]) <;> rfl)) ?_)); dsimp only [List.set_cons_zero, List.set_cons_succ])
    exact ⟨rfl, g2, k1.past k2 fun i hi => .inr (by rw [List.mem_singleton.mp hi, ← ha0]; exact Nat.le_refl _)⟩
  · have nx1 := enum_next hc2 (i := i) (by rw [lm]; exact lt)
    rw [List.getElem_map] at nx1
    refine .inr ⟨lt, _, nx1, ?_⟩
    dsimp only
    have tk : (marked l).take (i + 1) = (marked l).take i ++ [⟨l[i].c ++ unit l.length i, l[i].b, l[i].j⟩] := by
      rw [List.take_succ, List.getElem?_eq_getElem (by rw [ml]; exact lt), marked_get lt]
      rfl
    rw [tk]
    have lr := hl l[i] (List.getElem_mem lt)
    have tl : ((marked l).take i).length ≤ 500 := by rw [List.length_take]; omega
    generalize l[i] = r at *
    generalize (marked l).take i = W at *
    generalize l.length = N at *
    refine Ok.bind (Ok.of (a := [some (.ref c), some (.int (N : Int)), some (.ref a0), some (.int (i : Int)), some (rowD r), x5, none]) (h := h2') (by simp only [runFn, evSs, evS, evE, evT, evEs, evO, evG, evGs, b_ok, ix0, ix1, ix2', o_add', o_sub', c_lt', c_le', c_gt', c_ge', c_eq', c_ne', List.length_cons, List.length_nil, List.map_cons, List.map_nil, List.replicate, Nat.sub_self, Nat.add_sub_cancel, List.cons_append, List.nil_append, List.append_nil, List.getElem?_cons_zero, List.getElem?_cons_succ, List.set_cons_zero, List.set_cons_succ, if_true, if_false, ite_true, ite_false, reduceIte, Nat.reduceAdd, Nat.reduceSub, Nat.reduceLT, Nat.zero_add, Bool.true_and, Bool.and_true]) ?_)
    dsimp only
    have cm : evE call gvals (.comp (.ife (.cmp .eq (.var 3) (.var 6)) (.glb 1) (.glb 0)) (.var 6) (.rng (.lit (.int 0)) (.var 1)) .nil [6]) [some (.ref c), some (.int (N : Int)), some (.ref a0), some (.int (i : Int)), some (rowD r), x5, none] h2' =
        .ok (.ref h2'.length, h2' ++ [.lst ((List.range N).map fun t => rq (if i = t then 1 else 0))]) := by
      refine comp_gen (J := .rng 0 1 ((N : Int) - 0).toNat) (d := fun t => .int (0 + (t : Int))) (rng_eq rfl rfl (by decide) (by decide) (by omega) (by omega)) (fun t ht h' => rng_next (by omega)) (fun h' => ?_) ?_ (fun t ht h' => ?_) (sz_ok (by omega))
      · rw [rng_fmt]; exact rng_end
      · show ((N : Int) - 0).toNat = N
        exact rng_fmt
      · refine ⟨[some (.ref c), some (.int (N : Int)), some (.ref a0), some (.int (i : Int)), some (rowD r), x5, some (.int (0 + (t : Int)))], by ((simp only [runFn, evSs, evS, evE, evT, evEs, evO, evG, evGs, b_ok, ix0, ix1, ix2', o_add', o_sub', c_lt', c_le', c_gt', c_ge', c_eq', c_ne', List.length_cons, List.length_nil, List.map_cons, List.map_nil, List.replicate, Nat.sub_self, Nat.add_sub_cancel, List.cons_append, List.nil_append, List.append_nil, List.getElem?_cons_zero, List.getElem?_cons_succ, List.set_cons_zero, List.set_cons_succ, if_true, if_false, ite_true, ite_false, reduceIte, Nat.reduceAdd, Nat.reduceSub, Nat.reduceLT, Nat.zero_add, Bool.true_and, Bool.and_true, wipeE]) <;> rfl), ?_⟩
        have o1 : gvals[1]? = some (rq 1) := rfl
        have o0 : gvals[0]? = some (rq 0) := rfl
        by_cases z : i = t
        · have d1 : decide ((i : Int) = 0 + (t : Int)) = true := decide_eq_true (by omega)
          rw [if_pos z]
          simp only [runFn, evSs, evS, evE, evT, evEs, evO, evG, evGs, b_ok, ix0, ix1, ix2', o_add', o_sub', c_lt', c_le', c_gt', c_ge', c_eq', c_ne', List.length_cons, List.length_nil, List.map_cons, List.map_nil, List.replicate, Nat.sub_self, Nat.add_sub_cancel, List.cons_append, List.nil_append, List.append_nil, List.getElem?_cons_zero, List.getElem?_cons_succ, List.set_cons_zero, List.set_cons_succ, if_true, if_false, ite_true, ite_false, reduceIte, Nat.reduceAdd, Nat.reduceSub, Nat.reduceLT, Nat.zero_add, Bool.true_and, Bool.and_true, d1, o1]
        · have d1 : decide ((i : Int) = 0 + (t : Int)) = false := decide_eq_false (by omega)
          rw [if_neg z]
          simp only [runFn, evSs, evS, evE, evT, evEs, evO, evG, evGs, b_ok, ix0, ix1, ix2', o_add', o_sub', c_lt', c_le', c_gt', c_ge', c_eq', c_ne', List.length_cons, List.length_nil, List.map_cons, List.map_nil, List.replicate, Nat.sub_self, Nat.add_sub_cancel, List.cons_append, List.nil_append, List.append_nil, List.getElem?_cons_zero, List.getElem?_cons_succ, List.set_cons_zero, List.set_cons_succ, if_true, if_false, ite_true, ite_false, reduceIte, Nat.reduceAdd, Nat.reduceSub, Nat.reduceLT, Nat.zero_add, Bool.true_and, Bool.and_true, d1, o0, Bool.false_eq_true]
    rw [unit_map] at cm
    generalize E.comp (.ife (.cmp .eq (.var 3) (.var 6)) (.glb 1) (.glb 0)) (.var 6) (.rng (.lit (.int 0)) (.var 1)) .nil [6] = ce at cm ⊢
    have g3 := get_old (t := [O.lst ((unit N i).map rq)]) g2
    have gl : lstAt (h2' ++ [O.lst ((unit N i).map rq)]) h2'.length = some ((unit N i).map rq) := lstAt_of get_new
    have k3 : Keep [a0] h1' (h2' ++ [O.lst ((unit N i).map rq)]) := k2.trans (Keep.app _)
    refine ss_cons (s_asg (by simp) (Ok.of (a := .tup ((unit N i).map rq)) (h := h2' ++ [O.lst ((unit N i).map rq)]) (by simp only [runFn, evSs, evS, evE, evT, evEs, evO, evG, evGs, b_ok, ix0, ix1, ix2', o_add', o_sub', c_lt', c_le', c_gt', c_ge', c_eq', c_ne', List.length_cons, List.length_nil, List.map_cons, List.map_nil, List.replicate, Nat.sub_self, Nat.add_sub_cancel, List.cons_append, List.nil_append, List.append_nil, List.getElem?_cons_zero, List.getElem?_cons_succ, List.set_cons_zero, List.set_cons_succ, if_true, if_false, ite_true, ite_false, reduceIte, Nat.reduceAdd, Nat.reduceSub, Nat.reduceLT, Nat.zero_add, Bool.true_and, Bool.and_true, cm, bf2, tupleD, gl]) ?_))
    dsimp only [List.set_cons_zero, List.set_cons_succ]
    generalize h2' ++ [O.lst ((unit N i).map rq)] = h3 at *
    have lu : (unit N i).length = N := by unfold unit; rw [List.length_map, List.length_range]
    have ad : op2 .add (.tup (r.c.map rq)) (.tup ((unit N i).map rq)) h3 = .ok (.tup ((r.c ++ unit N i).map rq), h3) := by
      show (if sizeLine < (r.c.map rq).length + ((unit N i).map rq).length then _ else _) = _
      rw [List.length_map, List.length_map, lu, lr, if_neg (by have := sz_ok (m := len + N) (by omega); omega), List.map_append]
    have sz : (W.map rowD).length < sizeLine := by
      rw [List.length_map]
      have : (1000 : Nat) < sizeLine := by decide
      omega
    have j0 : ix2 (rowD r) (.int 0) h3 = .ok (.tup (r.c.map rq), h3) := ix0
    have j1 : ix2 (rowD r) (.int 1) h3 = .ok (rq r.b, h3) := ix1
    have j2 : ix2 (rowD r) (.int 2) h3 = .ok (.bl r.j, h3) := ix2'
    have er : rowD ⟨r.c ++ unit N i, r.b, r.j⟩ = .tup [.tup ((r.c ++ unit N i).map rq), rq r.b, .bl r.j] := rfl
    refine ss_cons (s_expr (Ok.of (a := .non) (h := h3.set a0 (.lst (W.map rowD ++ [rowD ⟨r.c ++ unit N i, r.b, r.j⟩]))) (by rw [er]; simp only [runFn, evSs, evS, evE, evT, evEs, evO, evG, evGs, b_ok, ix0, ix1, ix2', o_add', o_sub', c_lt', c_le', c_gt', c_ge', c_eq', c_ne', List.length_cons, List.length_nil, List.map_cons, List.map_nil, List.replicate, Nat.sub_self, Nat.add_sub_cancel, List.cons_append, List.nil_append, List.append_nil, List.getElem?_cons_zero, List.getElem?_cons_succ, List.set_cons_zero, List.set_cons_succ, if_true, if_false, ite_true, ite_false, reduceIte, Nat.reduceAdd, Nat.reduceSub, Nat.reduceLT, Nat.zero_add, Bool.true_and, Bool.and_true, is_lst g3, j0, j1, j2, ad, m_append g3 sz]) ?_))
    refine ss_nil ⟨⟨_, _, _, rfl⟩, ?_, k3.trans (Keep.set (by simp))⟩
    rw [List.map_append]
    exact get_set g3
theorem refutation_run {n k K c m len : Nat} {l : List Row} {h : Hh} (hc : h[c]? = some (O.lst (l.map rowD))) (hl : Len m l) (hn : l.length ≤ 500) (F : Fine (marked l) m (m + l.length) k K) (hp : 0 < k) (hk : 2 * k ≤ 2200) (hK : K ≤ 2200) (hKp : 0 < K) (hm : m ≤ 100) :
    Ok (C (n + 8) 21 [.ref c, .int (m : Int)] h) fun d h' => d = (match (el (marked l) m m).find? isBroken with
      | some r => .tup ((r.c.drop m).map fun a => rq (a * (-1 / r.b)))
      | none => .non) ∧ Keep [] h h' := by
  have mk := marked_run (n := n + 6) hc hl (by omega) hn
  have ch := fun (c' : Nat) (h' : Hh) (hc' : h'[c']? = some (O.lst ((marked l).map rowD))) => chain_run (n := n) hc' (marked_len hl) (by omega) F hp hk hK hKp hm
  have br := fun (c' : Nat) (l' : List Row) (h' : Hh) (hc' : h'[c']? = some (O.lst (l'.map rowD))) => broken_ok (n := n + 5) (k := 0) (m := (m : Int)) hc'
  have ov := fun (b : Rat) (h : Hh) (hb : Sm k b) (h0 : b ≠ 0) => over_eq (n := n + 5) (h := h) (show Sm k (-1) from ⟨(sm_one hp).1, (sm_one hp).2⟩) hb h0 hp (by omega)
  have tm := fun (a b : Rat) (h : Hh) (ha : Sm (2 * k) a) (hb : Sm (2 * k) b) => times_eq (n := n + 5) (h := h) ha hb (by omega) (by omega)
  refine C_ok (f := f_refutation) rfl rfl fun call hcall => ?_
  rw [← hcall] at mk ch br ov tm
  show Ok (evSs call gvals b_refutation [some (.ref c), some (.int (m : Int)), none, none, none] h) _
  unfold b_refutation
  have inner : Ok (evE call gvals (.call 18 (.cons (.ix (.call 17 (.cons (.call 20 (.cons (.var 0) .nil) []) (.cons (.var 1) .nil)) []) (.lit (.int 0))) (.cons (.var 1) .nil)) []) [some (.ref c), some (.int (m : Int)), none, none, none] h) fun d h' => d = (match (el (marked l) m m).find? isBroken with
      | some r => rowD r
      | none => .non) ∧ Keep [] h h' := by
    refine call1 ?_
    have i17 : Ok (evE call gvals (.call 17 (.cons (.call 20 (.cons (.var 0) .nil) []) (.cons (.var 1) .nil)) []) [some (.ref c), some (.int (m : Int)), none, none, none] h) fun d h' => ∃ (a : Nat) (as : List Nat), d = .ref a ∧ h'[a]? = some (O.lst (as.map D.ref)) ∧ as.length = m + 1 ∧ (∀ (i b : Nat), as[i]? = some b → h'[b]? = some (O.lst ((el (marked l) m (m - i)).map rowD))) ∧ Keep [] h h' := by
      refine call1 ?_
      have e20 : evE call gvals (.call 20 (.cons (.var 0) .nil) []) [some (.ref c), some (.int (m : Int)), none, none, none] h = call 20 [.ref c] h := by simp only [runFn, evSs, evS, evE, evT, evEs, evO, evG, evGs, b_ok, ix0, ix1, ix2', o_add', o_sub', c_lt', c_le', c_gt', c_ge', c_eq', c_ne', List.length_cons, List.length_nil, List.map_cons, List.map_nil, List.replicate, Nat.sub_self, Nat.add_sub_cancel, List.cons_append, List.nil_append, List.append_nil, List.getElem?_cons_zero, List.getElem?_cons_succ, List.set_cons_zero, List.set_cons_succ, if_true, if_false, ite_true, ite_false, reduceIte, Nat.reduceAdd, Nat.reduceSub, Nat.reduceLT, Nat.zero_add, Bool.true_and, Bool.and_true]
      rw [e20]
      refine mk.imp fun d h1 q => ?_
      obtain ⟨rfl, q2, q3⟩ := q
      refine ⟨_, rfl, (ch _ h1 q2).imp fun d h2 q => ?_⟩
      obtain ⟨a, as, p1, p2, p3, p4, p5⟩ := q
      exact ⟨a, as, p1, p2, p3, p4, q3.trans p5⟩
    unfold evE
    refine Ok.bind (i17.imp fun d h1 q => ?_)
    obtain ⟨a, as, rfl, q1, q2, q3, q4⟩ := q
    obtain ⟨b, hb⟩ : ∃ b, as[0]? = some b := ⟨as[0]'(by omega), List.getElem?_eq_getElem _⟩
    have i0 := ix_ref q1 (k := 0) (by rw [List.length_map]; omega)
    rw [List.getElem_map] at i0
    have b0 : as[0]'(by omega) = b := (List.getElem?_eq_some_iff.mp hb).2
    rw [b0] at i0
    have hb1 := q3 0 b hb
    rw [Nat.sub_zero] at hb1
    refine Ok.of (a := .ref b) (h := h1) (by simp only [runFn, evSs, evS, evE, evT, evEs, evO, evG, evGs, b_ok, ix0, ix1, ix2', o_add', o_sub', c_lt', c_le', c_gt', c_ge', c_eq', c_ne', List.length_cons, List.length_nil, List.map_cons, List.map_nil, List.replicate, Nat.sub_self, Nat.add_sub_cancel, List.cons_append, List.nil_append, List.append_nil, List.getElem?_cons_zero, List.getElem?_cons_succ, List.set_cons_zero, List.set_cons_succ, if_true, if_false, ite_true, ite_false, reduceIte, Nat.reduceAdd, Nat.reduceSub, Nat.reduceLT, Nat.zero_add, Bool.true_and, Bool.and_true]; exact i0) ⟨_, rfl, Ok.of (br b _ h1 hb1) ⟨rfl, q4⟩⟩
  refine ss_cons (s_asg (by simp) (inner.imp fun d h1 q => ?_))
  obtain ⟨rfl, k1⟩ := q
  dsimp only [List.set_cons_zero, List.set_cons_succ]
  cases hf : (el (marked l) m m).find? isBroken with
  | none =>
    refine ss_cons (s_if (Ok.of (a := true) (h := h1) (by simp only [runFn, evSs, evS, evE, evT, evEs, evO, evG, evGs, b_ok, ix0, ix1, ix2', o_add', o_sub', c_lt', c_le', c_gt', c_ge', c_eq', c_ne', List.length_cons, List.length_nil, List.map_cons, List.map_nil, List.replicate, Nat.sub_self, Nat.add_sub_cancel, List.cons_append, List.nil_append, List.append_nil, List.getElem?_cons_zero, List.getElem?_cons_succ, List.set_cons_zero, List.set_cons_succ, if_true, if_false, ite_true, ite_false, reduceIte, Nat.reduceAdd, Nat.reduceSub, Nat.reduceLT, Nat.zero_add, Bool.true_and, Bool.and_true, cmp2]) ?_))
    rw [if_pos rfl]
    (refine ss_cons (s_ret (Ok.of (by ((simp only [runFn, evSs, evS, evE, evT, evEs, evO, evG, evGs, b_ok, ix0, ix1, ix2', o_add', o_sub', c_lt', c_le', c_gt', c_ge', c_eq', c_ne', List.length_cons, List.length_nil, List.map_cons, List.map_nil, List.replicate, Nat.sub_self, Nat.add_sub_cancel, List.cons_append, List.nil_append, List.append_nil, List.getElem?_cons_zero, List.getElem?_cons_succ, List.set_cons_zero, List.set_cons_succ, if_true, if_false, ite_true, ite_false, reduceIte, Nat.reduceAdd, Nat.reduceSub, Nat.reduceLT, Nat.zero_add, Bool.true_and, Bool.and_true]) <;> rfl)) ?_)); dsimp only [List.set_cons_zero, List.set_cons_succ])
    exact ⟨rfl, k1⟩
  | some r =>
    have mr := List.mem_of_find?_eq_some hf
    have br' := List.find?_some hf
    have sr := F.sm m (Nat.le_refl _) r mr
    have nb : r.b ≠ 0 := by
      unfold isBroken at br'
      simp only [Bool.or_eq_true, Bool.and_eq_true, decide_eq_true_eq] at br'
      grind
    dsimp only
    refine ss_cons (s_if (Ok.of (a := false) (h := h1) (by simp only [runFn, evSs, evS, evE, evT, evEs, evO, evG, evGs, b_ok, ix0, ix1, ix2', o_add', o_sub', c_lt', c_le', c_gt', c_ge', c_eq', c_ne', List.length_cons, List.length_nil, List.map_cons, List.map_nil, List.replicate, Nat.sub_self, Nat.add_sub_cancel, List.cons_append, List.nil_append, List.append_nil, List.getElem?_cons_zero, List.getElem?_cons_succ, List.set_cons_zero, List.set_cons_succ, if_true, if_false, ite_true, ite_false, reduceIte, Nat.reduceAdd, Nat.reduceSub, Nat.reduceLT, Nat.zero_add, Bool.true_and, Bool.and_true, cmp2, rowD]) ?_))
    rw [if_neg Bool.false_ne_true]
    refine ss_nil ?_
    have j0 : ix2 (rowD r) (.int 0) h1 = .ok (.tup (r.c.map rq), h1) := ix0
    have j1 : ix2 (rowD r) (.int 1) h1 = .ok (rq r.b, h1) := ix1
    have m1 : D.tup [.int (-1), .int 1] = rq (-1) := rfl
    have ov1 := ov r.b h1 sr.b nb
    (refine ss_cons (s_asg (by simp) (Ok.of (by ((simp only [runFn, evSs, evS, evE, evT, evEs, evO, evG, evGs, b_ok, ix0, ix1, ix2', o_add', o_sub', c_lt', c_le', c_gt', c_ge', c_eq', c_ne', List.length_cons, List.length_nil, List.map_cons, List.map_nil, List.replicate, Nat.sub_self, Nat.add_sub_cancel, List.cons_append, List.nil_append, List.append_nil, List.getElem?_cons_zero, List.getElem?_cons_succ, List.set_cons_zero, List.set_cons_succ, if_true, if_false, ite_true, ite_false, reduceIte, Nat.reduceAdd, Nat.reduceSub, Nat.reduceLT, Nat.zero_add, Bool.true_and, Bool.and_true, j1, m1, ov1]) <;> rfl)) ?_)); dsimp only [List.set_cons_zero, List.set_cons_succ])
    have sf : Sm (2 * k) (-1 / r.b) := sm_over (show Sm k (-1) from ⟨(sm_one hp).1, (sm_one hp).2⟩) sr.b nb
    generalize -1 / r.b = f at *
    have ld : (r.c.drop m).length ≤ 1000 := by rw [List.length_drop]; have := sr.len; omega
    have cf : cut (r.c.map rq) (some (m : Int)) none = (r.c.drop m).map rq := by rw [cut_from, List.map_drop]
    have sd : ∀ a ∈ r.c.drop m, Sm (2 * k) a := fun a ha => (sr.c a (List.mem_of_mem_drop ha)).mono (by omega)
    have cm : evE call gvals (.comp (.call 3 (.cons (.var 4) (.cons (.var 3) .nil)) []) (.var 4) (.of (.sl (.ix (.var 2) (.lit (.int 0))) (.some (.var 1)) .none)) .nil [4]) [some (.ref c), some (.int (m : Int)), some (rowD r), some (rq f), none] h1 =
        .ok (.ref h1.length, h1 ++ [.lst ((List.range (r.c.drop m).length).map fun i => rq (co (r.c.drop m) i * f))]) := by
      generalize r.c.drop m = cs at *
      refine comp_gen (J := .tup (cs.map rq)) (d := fun i => rq (co cs i)) (by unfold evI; simp only [runFn, evSs, evS, evE, evT, evEs, evO, evG, evGs, b_ok, ix0, ix1, ix2', o_add', o_sub', c_lt', c_le', c_gt', c_ge', c_eq', c_ne', List.length_cons, List.length_nil, List.map_cons, List.map_nil, List.replicate, Nat.sub_self, Nat.add_sub_cancel, List.cons_append, List.nil_append, List.append_nil, List.getElem?_cons_zero, List.getElem?_cons_succ, List.set_cons_zero, List.set_cons_succ, if_true, if_false, ite_true, ite_false, reduceIte, Nat.reduceAdd, Nat.reduceSub, Nat.reduceLT, Nat.zero_add, Bool.true_and, Bool.and_true, j0, sl2, cf, itOf]) (fun i hi h' => ?_) (fun h' => ?_) (by show (cs.map rq).length = _; rw [List.length_map]) (fun i hi h' => ?_) (sz_ok ld)
      · have := tup_next (h := h') (xs := cs.map rq) (i := i) (by rw [List.length_map]; exact hi)
        rw [this, List.getElem_map, getQ hi]
      · have := tup_end (h := h') (xs := cs.map rq)
        rw [List.length_map] at this
        exact this
      · refine ⟨[some (.ref c), some (.int (m : Int)), some (rowD r), some (rq f), some (rq (co cs i))], by ((simp only [runFn, evSs, evS, evE, evT, evEs, evO, evG, evGs, b_ok, ix0, ix1, ix2', o_add', o_sub', c_lt', c_le', c_gt', c_ge', c_eq', c_ne', List.length_cons, List.length_nil, List.map_cons, List.map_nil, List.replicate, Nat.sub_self, Nat.add_sub_cancel, List.cons_append, List.nil_append, List.append_nil, List.getElem?_cons_zero, List.getElem?_cons_succ, List.set_cons_zero, List.set_cons_succ, if_true, if_false, ite_true, ite_false, reduceIte, Nat.reduceAdd, Nat.reduceSub, Nat.reduceLT, Nat.zero_add, Bool.true_and, Bool.and_true, wipeE]) <;> rfl), ?_⟩
        have := tm (co cs i) f h' (sd _ (by rw [getQ hi]; exact List.getElem_mem hi)) sf
        simp only [runFn, evSs, evS, evE, evT, evEs, evO, evG, evGs, b_ok, ix0, ix1, ix2', o_add', o_sub', c_lt', c_le', c_gt', c_ge', c_eq', c_ne', List.length_cons, List.length_nil, List.map_cons, List.map_nil, List.replicate, Nat.sub_self, Nat.add_sub_cancel, List.cons_append, List.nil_append, List.append_nil, List.getElem?_cons_zero, List.getElem?_cons_succ, List.set_cons_zero, List.set_cons_succ, if_true, if_false, ite_true, ite_false, reduceIte, Nat.reduceAdd, Nat.reduceSub, Nat.reduceLT, Nat.zero_add, Bool.true_and, Bool.and_true, this]
    rw [map_co (g := fun a => a * f)] at cm
    generalize E.comp (.call 3 (.cons (.var 4) (.cons (.var 3) .nil)) []) (.var 4) (.of (.sl (.ix (.var 2) (.lit (.int 0))) (.some (.var 1)) .none)) .nil [4] = ce at cm ⊢
    have em : ((r.c.drop m).map fun a => a * f).map rq = (r.c.drop m).map fun a => rq (a * f) := by rw [List.map_map]; rfl
    rw [em] at cm
    generalize (r.c.drop m).map (fun a => rq (a * f)) = zs at *
    have gl : lstAt (h1 ++ [O.lst zs]) h1.length = some zs := lstAt_of get_new
    refine ss_cons (s_ret (Ok.of (a := .tup zs) (h := h1 ++ [O.lst zs]) (by simp only [runFn, evSs, evS, evE, evT, evEs, evO, evG, evGs, b_ok, ix0, ix1, ix2', o_add', o_sub', c_lt', c_le', c_gt', c_ge', c_eq', c_ne', List.length_cons, List.length_nil, List.map_cons, List.map_nil, List.replicate, Nat.sub_self, Nat.add_sub_cancel, List.cons_append, List.nil_append, List.append_nil, List.getElem?_cons_zero, List.getElem?_cons_succ, List.set_cons_zero, List.set_cons_succ, if_true, if_false, ite_true, ite_false, reduceIte, Nat.reduceAdd, Nat.reduceSub, Nat.reduceLT, Nat.zero_add, Bool.true_and, Bool.and_true, cm, bf2, tupleD, gl]) ?_))
    exact ⟨rfl, k1.trans (Keep.app _)⟩
end K00
set_option Elab.async false
set_option linter.all false
set_option maxRecDepth 100000
set_option maxHeartbeats 2000000
/-! K00Fa: the rows are differences; how great their numbers can be. -/
namespace K00
open SF PySem
/-- 1 at a, -1 at b -/
def dv (a b i : Nat) : Int := (if i = a then 1 else 0) - (if i = b then 1 else 0)
theorem dv_le {a b i : Nat} : (dv a b i).natAbs ≤ 1 := by
  unfold dv
  split <;> split <;> decide
/-- a difference of two unknowns, multiplied -/
def Wd (n B : Nat) (r : Row) : Prop := ∃ (s : Int) (a b : Nat), 0 < s ∧ s ≤ 28 ∧ a ≤ n ∧ b ≤ n ∧ (∀ i, i < n → co r.c i = (s : Rat) / 12 * (dv a b i : Rat)) ∧
  (∃ z : Int, z.natAbs ≤ B ∧ r.b = (s : Rat) / 144 * (z : Rat)) ∧ ∀ i, ∃ z : Int, z.natAbs ≤ B ∧ co r.c (n + i) = (s : Rat) / 504 * (z : Rat)
theorem Wd.mono {n B B' : Nat} {r : Row} (h : Wd n B r) (le : B ≤ B') : Wd n B' r := by
  obtain ⟨s, a, b, h1, h2, h3, h4, h5, ⟨z, h6, h7⟩, h8⟩ := h
  refine ⟨s, a, b, h1, h2, h3, h4, h5, ⟨z, Nat.le_trans h6 le, h7⟩, fun i => ?_⟩
  obtain ⟨w, h9, h10⟩ := h8 i
  exact ⟨w, Nat.le_trans h9 le, h10⟩
theorem cast0 : ((0 : Int) : Rat) = 0 := rfl
theorem cast1 : ((1 : Int) : Rat) = 1 := rfl
theorem castm1 : ((-1 : Int) : Rat) = -1 := rfl
/-- the sign by which two differences are put together -/
theorem dv_mix {a b c d k n : Nat} (ha : a ≤ n) (hb : b ≤ n) (hc : c ≤ n) (hd : d ≤ n) (h1 : dv a b k ≠ 0) (h2 : dv c d k ≠ 0) : ∃ g : Int, (g = 1 ∨ g = -1) ∧ g * dv c d k = -dv a b k ∧ ∃ p q, p ≤ n ∧ q ≤ n ∧ ∀ i, dv a b i + g * dv c d i = dv p q i := by
  have e : ∀ x y : Nat, dv x y k ≠ 0 → (k = x ∧ k ≠ y ∧ dv x y k = 1) ∨ (k = y ∧ k ≠ x ∧ dv x y k = -1) := fun x y h => by
    unfold dv at h ⊢
    by_cases p : k = x <;> by_cases q : k = y <;> simp [p, q] at h ⊢ <;> omega
  rcases e a b h1 with ⟨ka, kb, e1⟩ | ⟨kb, ka, e1⟩ <;> rcases e c d h2 with ⟨kc, kd, e2⟩ | ⟨kd, kc, e2⟩
  · refine ⟨-1, .inr rfl, by omega, d, b, hd, hb, fun i => ?_⟩
    subst ka; subst kc
    unfold dv; omega
  · refine ⟨1, .inl rfl, by omega, c, b, hc, hb, fun i => ?_⟩
    subst ka; subst kd
    unfold dv; omega
  · refine ⟨1, .inl rfl, by omega, a, d, ha, hd, fun i => ?_⟩
    subst kb; subst kc
    unfold dv; omega
  · refine ⟨-1, .inr rfl, by omega, a, c, ha, hc, fun i => ?_⟩
    subst kb; subst kd
    unfold dv; omega
theorem wd_added {n B k : Nat} {r u : Row} {j : Bool} (hr : Wd n B r) (hu : Wd n B u) (hl : r.c.length = u.c.length) (hk : k < n) (h1 : co r.c k ≠ 0) (h2 : co u.c k ≠ 0) : Wd n (2 * B) (added r (-(co r.c k / co u.c k)) u j) := by
  obtain ⟨s, a, b, s1, s2, ha, hb, hn, ⟨z, z1, z2⟩, hm⟩ := hr
  obtain ⟨t, c, d, t1, t2, hc, hd, kn, ⟨y, y1, y2⟩, km⟩ := hu
  have n1 : dv a b k ≠ 0 := fun q => h1 (by rw [hn k hk, q, cast0]; grind)
  have n2 : dv c d k ≠ 0 := fun q => h2 (by rw [kn k hk, q, cast0]; grind)
  obtain ⟨g, hg, e, p, q, hp, hq, hpq⟩ := dv_mix ha hb hc hd n1 n2
  have hf : -(co r.c k / co u.c k) * (t : Rat) = (s : Rat) * (g : Rat) := by
    have h3 := Rat.div_mul_cancel (a := co r.c k) h2
    have e' : (g : Rat) * (dv c d k : Rat) = -(dv a b k : Rat) := by rw [← Rat.intCast_mul, e, Rat.intCast_neg]
    have x0 := hn k hk
    have x1 := kn k hk
    have g2 : (g : Rat) * (g : Rat) = 1 := by
      rcases hg with h | h <;> rw [h]
      · rw [cast1]; grind
      · rw [castm1]; grind
    have c2 : (dv c d k : Rat) * (dv c d k : Rat) = 1 := by
      have : dv c d k = 1 ∨ dv c d k = -1 := by have := dv_le (a := c) (b := d) (i := k); omega
      rcases this with h | h <;> rw [h]
      · rw [cast1]; grind
      · rw [castm1]; grind
    generalize co r.c k / co u.c k = f at *
    grind
  generalize -(co r.c k / co u.c k) = f at *
  refine ⟨s, p, q, s1, s2, hp, hq, fun i hi => ?_, ⟨z + g * y, ?_, ?_⟩, fun i => ?_⟩
  · rw [co_added hl, hn i hi, kn i hi, ← hpq i, Rat.intCast_add, Rat.intCast_mul]
    grind
  · rcases hg with h | h <;> subst h <;> omega
  · show r.b + f * u.b = _
    rw [z2, y2, Rat.intCast_add, Rat.intCast_mul]
    grind
  · obtain ⟨z', w1, w2⟩ := hm i
    obtain ⟨y', w3, w4⟩ := km i
    refine ⟨z' + g * y', ?_, ?_⟩
    · rcases hg with h | h <;> subst h <;> omega
    · rw [co_added hl, w2, w4, Rat.intCast_add, Rat.intCast_mul]
      grind
theorem wd_mid {n B k len : Nat} {l : List Row} (hw : ∀ r ∈ l, Wd n B r) (hl : Len len l) (hk : k < n) : ∀ r ∈ mid l k, Wd n (2 * B) r := by
  intro r hr
  unfold mid at hr
  split at hr
  · unfold byPairs at hr
    rcases List.mem_append.mp hr with h | h
    · exact (hw r (List.mem_filter.mp h).1).mono (by omega)
    · obtain ⟨u, hu, h⟩ := List.mem_flatMap.mp h
      obtain ⟨w, hw', rfl⟩ := List.mem_map.mp h
      obtain ⟨mu, pu⟩ := List.mem_filter.mp hu
      obtain ⟨mw, pw⟩ := List.mem_filter.mp hw'
      have pu := of_decide_eq_true pu
      have pw := of_decide_eq_true pw
      exact wd_added (hw u mu) (hw w mw) ((hl u mu).trans (hl w mw).symm) hk (by grind) (by grind)
  · rename_i p e
    obtain ⟨used, e1, e2, e3⟩ := firstJust_some e
    rw [e1] at hr
    have mu := List.mem_of_getElem? e1
    unfold byEq at hr
    obtain ⟨x, hx, rfl⟩ := List.mem_map.mp hr
    have mx := List.mem_of_mem_eraseIdx hx
    split
    · exact (hw x mx).mono (by omega)
    · rename_i h0
      exact wd_added (hw x mx) (hw used mu) ((hl x mx).trans (hl used mu).symm) hk h0 e3
/-- a shaped row that speaks of unknowns -/
def Nz (n B : Nat) (r : Row) : Prop := ∃ (a b : Nat), a ≤ n ∧ b ≤ n ∧ (∀ i, i < n → co r.c i = (dv a b i : Rat)) ∧
  (∃ z : Int, z.natAbs ≤ B ∧ r.b = (z : Rat) / 12) ∧ ∀ i, ∃ z : Int, z.natAbs ≤ B ∧ co r.c (n + i) = (z : Rat) / 42
def Zr (n M : Nat) (r : Row) : Prop := (∀ i, i < n → co r.c i = 0) ∧
  (∃ z : Int, z.natAbs ≤ M ∧ r.b = (z : Rat) / 144) ∧ ∀ i, ∃ z : Int, z.natAbs ≤ M ∧ co r.c (n + i) = (z : Rat) / 504
def Pt (n B t : Nat) (r : Row) : Prop := Nz n B r ∨ Zr n (28 * B * (t + 1)) r
theorem Zr.mono {n M M' : Nat} {r : Row} (h : Zr n M r) (le : M ≤ M') : Zr n M' r := by
  obtain ⟨h5, ⟨z, h6, h7⟩, h8⟩ := h
  refine ⟨h5, ⟨z, Nat.le_trans h6 le, h7⟩, fun i => ?_⟩
  obtain ⟨w, h9, h10⟩ := h8 i
  exact ⟨w, Nat.le_trans h9 le, h10⟩
theorem Pt.mono {n B t : Nat} {r : Row} (h : Pt n B t r) : Pt n B (t + 1) r := by
  rcases h with h | h
  · exact .inl h
  · exact .inr (h.mono (Nat.mul_le_mul_left _ (by omega)))
theorem lead_some {c : List Rat} {n : Nat} {x : Rat} (h : lead c n = some x) : ∃ i, i < n ∧ i < c.length ∧ co c i = x ∧ x ≠ 0 := by
  unfold lead at h
  have h1 := List.mem_of_find?_eq_some h
  have h2 := List.find?_some h
  obtain ⟨i, hi, e⟩ := List.mem_iff_getElem.mp h1
  rw [List.length_take] at hi
  rw [List.getElem_take] at e
  exact ⟨i, by omega, by omega, by rw [getQ (by omega), e], of_decide_eq_true h2⟩
theorem lead_none {c : List Rat} {n : Nat} (h : lead c n = none) : ∀ i, i < n → co c i = 0 := fun i hi => by
  unfold lead at h
  by_cases hc : i < c.length
  · have := List.find?_eq_none.mp h c[i] (by
      refine List.mem_iff_getElem.mpr ⟨i, by rw [List.length_take]; omega, ?_⟩
      rw [List.getElem_take])
    rw [getQ hc]
    simpa using this
  · unfold co
    rw [List.getD_eq_getElem?_getD, List.getElem?_eq_none (by omega)]
    rfl
theorem pt_shape {n B : Nat} {r : Row} (h : Wd n B r) : Pt n B 0 (shape r n) := by
  obtain ⟨s, a, b, s1, s2, ha, hb, hn, ⟨z, z1, z2⟩, hm⟩ := h
  unfold shape
  cases e : lead r.c n with
  | none =>
    right
    refine ⟨lead_none e, ⟨s * z, ?_, ?_⟩, fun i => ?_⟩
    · rw [Int.natAbs_mul]
      have : s.natAbs ≤ 28 := by omega
      calc s.natAbs * z.natAbs ≤ 28 * B := Nat.mul_le_mul this z1
        _ = 28 * B * (0 + 1) := by omega
    · dsimp only
      rw [z2, Rat.intCast_mul]; grind
    · obtain ⟨y, y1, y2⟩ := hm i
      refine ⟨s * y, ?_, ?_⟩
      · rw [Int.natAbs_mul]
        have : s.natAbs ≤ 28 := by omega
        calc s.natAbs * y.natAbs ≤ 28 * B := Nat.mul_le_mul this y1
          _ = 28 * B * (0 + 1) := by omega
      · dsimp only
        rw [y2, Rat.intCast_mul]; grind
  | some x =>
    left
    obtain ⟨i0, i1, i2, i3, i4⟩ := lead_some e
    have sp : (0 : Rat) < (s : Rat) := Rat.intCast_pos.mpr s1
    have hx : absQ x = (s : Rat) / 12 := by
      rw [← i3, hn i0 i1]
      have hd : dv a b i0 ≠ 0 := fun q => i4 (by rw [← i3, hn i0 i1, q, cast0]; grind)
      have : dv a b i0 = 1 ∨ dv a b i0 = -1 := by have := dv_le (a := a) (b := b) (i := i0); omega
      unfold absQ
      rcases this with h | h <;> rw [h]
      · rw [cast1]; grind
      · rw [castm1]; grind
    have hy : (s : Rat) * (1 / absQ x) = 12 := by
      rw [hx]
      have h0 : (s : Rat) / 12 ≠ 0 := by grind
      have := Rat.div_mul_cancel (a := 1) h0
      grind
    dsimp only
    generalize 1 / absQ x = f at *
    refine ⟨a, b, ha, hb, fun i hi => ?_, ⟨z, z1, ?_⟩, fun i => ?_⟩
    · show co (r.c.map (· * f)) i = _
      rw [co_map, hn i hi]; grind
    · show r.b * f = _
      rw [z2]; grind
    · obtain ⟨y, y1, y2⟩ := hm i
      refine ⟨y, y1, ?_⟩
      show co (r.c.map (· * f)) (n + i) = _
      rw [co_map, y2]; grind
theorem pt_any {n B t : Nat} {r : Row} (h : Pt n B t r) : (∃ z : Int, z.natAbs ≤ 28 * B * (t + 1) ∧ r.b = (z : Rat) / 144) ∧ ∀ i, ∃ z : Int, z.natAbs ≤ 28 * B * (t + 1) ∧ co r.c (n + i) = (z : Rat) / 504 := by
  rcases h with ⟨a, b, ha, hb, hn, ⟨z, z1, z2⟩, hm⟩ | ⟨_, h1, h2⟩
  · have big : 28 * B ≤ 28 * B * (t + 1) := Nat.le_mul_of_pos_right _ (by omega)
    refine ⟨⟨12 * z, by omega, ?_⟩, fun i => ?_⟩
    · rw [z2, Rat.intCast_mul]
      have : ((12 : Int) : Rat) = 12 := rfl
      rw [this]; grind
    · obtain ⟨y, y1, y2⟩ := hm i
      refine ⟨12 * y, by omega, ?_⟩
      rw [y2, Rat.intCast_mul]
      have : ((12 : Int) : Rat) = 12 := rfl
      rw [this]; grind
  · exact ⟨h1, h2⟩
theorem pt_gap {n B t len : Nat} {r o : Row} (h : Pt n B 0 r) (k : Pt n B t o) (l1 : r.c.length = len) (l2 : o.c.length = len) (e : r.c.take n = o.c.take n) : Pt n B (t + 1) (added r (-1) o true) := by
  right
  obtain ⟨⟨z, z1, z2⟩, hm⟩ := pt_any h
  obtain ⟨⟨y, y1, y2⟩, km⟩ := pt_any k
  have big : 28 * B * (0 + 1) + 28 * B * (t + 1) = 28 * B * (t + 1 + 1) := by grind
  have hl := l1.trans l2.symm
  refine ⟨fun i hi => ?_, ⟨z - y, by omega, ?_⟩, fun i => ?_⟩
  · rw [co_added hl, ← co_take hi, e, co_take hi]; grind
  · show r.b + -1 * o.b = _
    rw [z2, y2, Rat.intCast_sub]; grind
  · obtain ⟨z', w1, w2⟩ := hm i
    obtain ⟨y', w3, w4⟩ := km i
    refine ⟨z' - y', by omega, ?_⟩
    rw [co_added hl, w2, w4, Rat.intCast_sub]; grind
theorem pt_wd {n B t : Nat} {r : Row} (h : Pt n B t r) : Wd n (28 * B * (t + 1)) r := by
  rcases h with ⟨a, b, ha, hb, hn, ⟨z, z1, z2⟩, hm⟩ | ⟨h0, ⟨z, z1, z2⟩, hm⟩
  · have big : 28 * B ≤ 28 * B * (t + 1) := Nat.le_mul_of_pos_right _ (by omega)
    have : ((12 : Int) : Rat) = 12 := rfl
    refine ⟨12, a, b, by decide, by decide, ha, hb, fun i hi => ?_, ⟨z, by omega, ?_⟩, fun i => ?_⟩
    · rw [hn i hi, this]; grind
    · rw [z2, this]; grind
    · obtain ⟨y, y1, y2⟩ := hm i
      refine ⟨y, by omega, ?_⟩
      rw [y2, this]; grind
  · refine ⟨1, 0, 0, by decide, by decide, Nat.zero_le _, Nat.zero_le _, fun i hi => ?_, ⟨z, z1, ?_⟩, fun i => ?_⟩
    · have : dv 0 0 i = 0 := by unfold dv; omega
      rw [h0 i hi, this, cast0]; grind
    · rw [z2, cast1]; grind
    · obtain ⟨y, y1, y2⟩ := hm i
      refine ⟨y, y1, ?_⟩
      rw [y2, cast1]; grind
end K00
set_option Elab.async false
set_option linter.all false
set_option maxRecDepth 100000
set_option maxHeartbeats 2000000
/-! K00Fb: all numbers are small, all lists short. -/
namespace K00
open SF PySem
theorem tightC {n len : Nat} {P : Nat → Row → Prop} {rs : List Row} (hl : Len len rs) (hM : ∀ t r, P t r → P (t + 1) r) (h1 : ∀ r ∈ rs, P 0 (shape r n))
    (h2 : ∀ t (r o : Row), P 0 r → P t o → r.c.length = len → o.c.length = len → r.c.take n = o.c.take n → r.j = true → o.j = true → P (t + 1) (added r (-1) o true)) : ∀ r ∈ tightest rs n, P rs.length r := by
  have hup : ∀ t r, P 0 r → P t r := fun t r h0 => by
    induction t with
    | zero => exact h0
    | succ t ih => exact hM t r ih
  have all : ∀ (rs : List Row) (l : Kp) (t : Nat), KI n len l → Len len rs → (∀ p ∈ l, P t p.2) → (∀ r ∈ rs, P 0 (shape r n)) → ∀ p ∈ rs.foldl (tstep n) l, P (t + rs.length) p.2 := by
    intro rs
    induction rs with
    | nil => exact fun l t _ _ h _ => h
    | cons r rs ih =>
      intro l t i hl hp hr
      rw [List.foldl_cons]
      have hr0 := hl r List.mem_cons_self
      have := ih (tstep n l r) (t + 1) (tstep_ok i hr0).1 (fun q hq => hl q (List.mem_cons_of_mem _ hq)) (tstep_P i hr0 hp (hr r List.mem_cons_self) (hup (t + 1)) (hM t) (h2 t)) fun q hq => hr q (List.mem_cons_of_mem _ hq)
      have e : t + (r :: rs).length = t + 1 + rs.length := by rw [List.length_cons]; omega
      rw [e]
      exact this
  intro r hr
  obtain ⟨p, hp, rfl⟩ := List.mem_map.mp hr
  have := all rs [] 0 ⟨fun p hp => (by cases hp), fun p hp => (by cases hp), List.nodup_nil⟩ hl (fun p hp => (by cases hp)) h1 p hp
  rwa [Nat.zero_add] at this
theorem nodup_le {α : Type} : ∀ (l L : List α), l.Nodup → (∀ x ∈ l, x ∈ L) → l.length ≤ L.length
  | [], _, _, _ => Nat.zero_le _
  | x :: l, L, hn, h => by
    obtain ⟨s, t, rfl⟩ := List.append_of_mem (h x List.mem_cons_self)
    have hn' := List.nodup_cons.mp hn
    have := nodup_le l (s ++ t) hn'.2 fun y hy => by
      have := h y (List.mem_cons_of_mem _ hy)
      rcases List.mem_append.mp this with q | q
      · exact List.mem_append_left _ q
      · rcases List.mem_cons.mp q with rfl | q
        · exact absurd hy hn'.1
        · exact List.mem_append_right _ q
    simp only [List.length_append, List.length_cons] at this ⊢
    omega
/-- all keys that there can be -/
def keyL (n : Nat) : List (List Rat × Bool) := (List.range 72).map fun t => ((List.range n).map fun i => (dv (t / 12) (t / 2 % 6) i : Rat), decide (t % 2 = 1))
theorem key_in {n B t : Nat} {r : Row} (h : Pt n B t r) (hn : n ≤ 5) (hl : n ≤ r.c.length) : (r.c.take n, r.j) ∈ keyL n := by
  obtain ⟨a, b, ha, hb, hc⟩ : ∃ a b, a ≤ 5 ∧ b ≤ 5 ∧ ∀ i, i < n → co r.c i = (dv a b i : Rat) := by
    rcases h with ⟨a, b, ha, hb, hc, _⟩ | ⟨hc, _⟩
    · exact ⟨a, b, by omega, by omega, hc⟩
    · refine ⟨0, 0, by omega, by omega, fun i hi => ?_⟩
      have : dv 0 0 i = 0 := by unfold dv; omega
      rw [hc i hi, this]; rfl
  refine List.mem_map.mpr ⟨12 * a + 2 * b + (if r.j = true then 1 else 0), List.mem_range.mpr (by split <;> omega), ?_⟩
  have e1 : (12 * a + 2 * b + (if r.j = true then 1 else 0)) / 12 = a := by split <;> omega
  have e2 : (12 * a + 2 * b + (if r.j = true then 1 else 0)) / 2 % 6 = b := by split <;> omega
  have e3 : decide ((12 * a + 2 * b + (if r.j = true then 1 else 0)) % 2 = 1) = r.j := by
    cases r.j with
    | true => simp; omega
    | false => simp; omega
  rw [e1, e2, e3]
  congr 1
  refine List.ext_getElem (by rw [List.length_map, List.length_range, List.length_take]; omega) fun i h1 h2 => ?_
  rw [List.length_map, List.length_range] at h1
  rw [List.getElem_map, List.getElem_range, List.getElem_take, ← getQ (by omega), hc i h1]
theorem tight_pt {n B len : Nat} {rs : List Row} (hl : Len len rs) (h1 : ∀ r ∈ rs, Wd n B r) : ∀ r ∈ tightest rs n, Pt n B rs.length r :=
  tightC (P := Pt n B) hl (fun t r h => h.mono) (fun r hr => pt_shape (h1 r hr)) fun t r o h k l1 l2 e _ _ => pt_gap h k l1 l2 e
theorem tight_count {n B len : Nat} {rs : List Row} (hl : Len len rs) (hn : n ≤ 5) (hnl : n ≤ len) (h1 : ∀ r ∈ rs, Wd n B r) : (tightest rs n).length ≤ 72 := by
  have ki := (tight_ok (n := n) hl).1
  have e : (tightest rs n).length = ((rs.foldl (tstep n) []).map (·.1)).length := by unfold tightest; rw [List.length_map, List.length_map]
  rw [e]
  refine Nat.le_trans (nodup_le _ (keyL n) ki.nod fun x hx => ?_) (by unfold keyL; rw [List.length_map, List.length_range]; exact Nat.le_refl _)
  obtain ⟨p, hp, rfl⟩ := List.mem_map.mp hx
  rw [ki.key p hp]
  exact key_in (tight_pt hl h1 p.2 (List.mem_map.mpr ⟨p, hp, rfl⟩)) hn (by rw [ki.len p hp]; exact hnl)
theorem flat_le {α β : Type} {f : α → List β} {c : Nat} : ∀ l : List α, (∀ x ∈ l, (f x).length ≤ c) → (l.flatMap f).length ≤ l.length * c
  | [], _ => Nat.zero_le _
  | x :: l, h => by
    have := flat_le l fun y hy => h y (List.mem_cons_of_mem _ hy)
    have h0 := h x List.mem_cons_self
    rw [List.flatMap_cons, List.length_append, List.length_cons, Nat.succ_mul]
    omega
theorem mid_count {l : List Row} {k : Nat} (h : l.length ≤ 72) : (mid l k).length ≤ 5256 := by
  unfold mid
  split
  · unfold byPairs
    rw [List.length_append]
    have h1 := List.length_filter_le (fun r => decide (co r.c k = 0)) l
    have h2 := List.length_filter_le (fun r => decide (0 < co r.c k)) l
    have h3 := List.length_filter_le (fun r => decide (co r.c k < 0)) l
    have h4 := flat_le (c := 72) (f := fun u => (l.filter fun r => decide (co r.c k < 0)).map fun w => added u (-(co u.c k / co w.c k)) w false) (l.filter fun r => decide (0 < co r.c k)) fun x hx => by
      rw [List.length_map]; omega
    have h5 : (l.filter fun r => decide (0 < co r.c k)).length * 72 ≤ 72 * 72 := Nat.mul_le_mul_right _ (by omega)
    omega
  · split
    · unfold byEq
      rw [List.length_map]
      have := List.length_eraseIdx_le l ‹Nat›
      omega
    · exact Nat.zero_le _
theorem grow {m t : Nat} (ht : t ≤ 5256) : 28 * (2 * 2 ^ (19 * m + 7)) * (t + 1) ≤ 2 ^ (19 * (m + 1) + 7) := by
  have e : 2 ^ (19 * (m + 1) + 7) = 2 ^ 19 * 2 ^ (19 * m + 7) := by rw [← Nat.pow_add]; congr 1; omega
  rw [e]
  generalize 2 ^ (19 * m + 7) = x
  have e2 : 28 * (2 * x) * (t + 1) = (56 * (t + 1)) * x := by grind
  rw [e2]
  exact Nat.mul_le_mul_right x (by omega)
theorem el_wd {l : List Row} {n len : Nat} (hl : Len len l) (h0 : ∀ r ∈ l, Wd n (2 ^ 7) r) (hc : l.length ≤ 72) (hn : n ≤ 5) (hnl : n ≤ len) : ∀ m, m ≤ n → (el l n m).length ≤ 72 ∧ ∀ r ∈ el l n m, Wd n (2 ^ (19 * m + 7)) r
  | 0, _ => ⟨hc, h0⟩
  | m + 1, hm => by
    obtain ⟨c1, c2⟩ := el_wd hl h0 hc hn hnl m (by omega)
    have e : el l n (m + 1) = tightest (mid (el l n m) (n - 1 - m)) n := without_mid
    have ml := mid_len (k := n - 1 - m) (el_len (n := n) hl m)
    have w := wd_mid (k := n - 1 - m) c2 (el_len hl m) (by omega)
    rw [e]
    refine ⟨tight_count ml hn hnl w, fun r hr => ?_⟩
    exact (pt_wd (tight_pt ml w r hr)).mono (grow (mid_count c1))
theorem sm_of {k : Nat} {q : Rat} {x d : Int} (e : q = (x : Rat) / (d : Rat)) (hx : x.natAbs < 2 ^ k) (hd : d.natAbs < 2 ^ k) (h0 : d ≠ 0) : Sm k q := by
  rw [e, ← Rat.divInt_eq_div]
  exact sm_div hx hd h0
theorem c12 : ((12 : Int) : Rat) = 12 := rfl
theorem c144 : ((144 : Int) : Rat) = 144 := rfl
theorem c504 : ((504 : Int) : Rat) = 504 := rfl
theorem mul28 {s z : Int} {B : Nat} (h1 : 0 < s) (h2 : s ≤ 28) (hz : z.natAbs ≤ B) : (s * z).natAbs ≤ 28 * B := by
  rw [Int.natAbs_mul]
  exact Nat.mul_le_mul (by omega) hz
theorem sm_wd {n B : Nat} {r : Row} (h : Wd n B r) (hB : B ≤ 2 ^ 110) (hl : r.c.length ≤ 1000) : SmR 128 r := by
  obtain ⟨s, a, b, s1, s2, ha, hb, hn, ⟨z, z1, z2⟩, hm⟩ := h
  refine ⟨fun x hx => ?_, ?_, hl⟩
  · obtain ⟨i, hi, rfl⟩ := List.mem_iff_getElem.mp hx
    rw [← getQ hi]
    by_cases c : i < n
    · refine sm_of (x := s * dv a b i) (d := 12) ?_ ?_ (by decide) (by decide)
      · rw [hn i c, Rat.intCast_mul, c12]; grind
      · have := mul28 s1 s2 (dv_le (a := a) (b := b) (i := i))
        exact Nat.lt_of_le_of_lt this (by decide)
    · obtain ⟨y, y1, y2⟩ := hm (i - n)
      have e : n + (i - n) = i := by omega
      rw [e] at y2
      refine sm_of (x := s * y) (d := 504) ?_ ?_ (by decide) (by decide)
      · rw [y2, Rat.intCast_mul, c504]; grind
      · have := mul28 s1 s2 y1
        have h3 : 28 * B ≤ 28 * 2 ^ 110 := Nat.mul_le_mul_left _ hB
        exact Nat.lt_of_le_of_lt (Nat.le_trans this h3) (by decide)
  · refine sm_of (x := s * z) (d := 144) ?_ ?_ (by decide) (by decide)
    · rw [z2, Rat.intCast_mul, c144]; grind
    · have := mul28 s1 s2 z1
      have h3 : 28 * B ≤ 28 * 2 ^ 110 := Nat.mul_le_mul_left _ hB
      exact Nat.lt_of_le_of_lt (Nat.le_trans this h3) (by decide)
theorem pw {m : Nat} (h : m ≤ 5) : 2 ^ (19 * m + 7) ≤ 2 ^ 110 := Nat.pow_le_pow_right (by decide) (by omega)
theorem fine {l : List Row} {n len : Nat} (hl : Len len l) (h0 : ∀ r ∈ l, Wd n (2 ^ 7) r) (hc : l.length ≤ 72) (hn : n ≤ 5) (hnl : n ≤ len) (hlen : len ≤ 1000) : Fine l n len 128 128 := by
  refine ⟨fun m hm r hr => ?_, fun m hm => ?_, fun m hm => ?_⟩
  · exact sm_wd ((el_wd hl h0 hc hn hnl m hm).2 r hr) (pw (by omega)) (by rw [el_len hl m r hr]; exact hlen)
  · have := (el_wd hl h0 hc hn hnl m hm).1
    omega
  · obtain ⟨c1, c2⟩ := el_wd hl h0 hc hn hnl m (by omega)
    have ml := mid_len (k := n - 1 - m) (el_len (n := n) hl m)
    have w := wd_mid (k := n - 1 - m) c2 (el_len hl m) (by omega)
    have mc := mid_count (k := n - 1 - m) c1
    refine ⟨by omega, fun t r => Pt n (2 * 2 ^ (19 * m + 7)) t r ∧ r.c.length = len, fun t r ht h => ?_, fun t r h => ⟨h.1.mono, h.2⟩, fun r hr => ⟨?_, pt_shape (w r hr), shape_len.trans (ml r hr)⟩, fun t r o h k l1 l2 e _ _ => ⟨pt_gap h.1 k.1 l1 l2 e, (added_len (l1.trans l2.symm)).trans l1⟩⟩
    · exact sm_wd (pt_wd h.1) (Nat.le_trans (grow (by omega)) (pw (by omega))) (by rw [h.2]; exact hlen)
    · refine sm_wd (w r hr) ?_ (by rw [ml r hr]; exact hlen)
      have := grow (m := m) (t := 0) (by omega)
      have h2 := pw (m := m + 1) (by omega)
      generalize 2 ^ (19 * m + 7) = x at *
      omega
end K00
set_option Elab.async false
set_option linter.all false
set_option maxRecDepth 100000
set_option maxHeartbeats 2000000
/-! K01A: _law_plain, _law_same. -/
namespace K00
open SF PySem
/-- as data it is p, and stays so -/
def St (h : Hh) (F : Nat) (d : D) (p : PyData) : Prop := ∀ h', Keep [] h h' → ∀ f, F ≤ f → toPy h' f d = some p
theorem St.keep {h h1 : Hh} {F : Nat} {d : D} {p : PyData} (s : St h F d p) (k : Keep [] h h1) : St h1 F d p := fun h' k' f hf => s h' (k.trans k') f hf
theorem St.mono {h : Hh} {F F' : Nat} {d : D} {p : PyData} (s : St h F d p) (le : F ≤ F') : St h F' d p := fun h' k' f hf => s h' k' f (Nat.le_trans le hf)
def LF (h : Hh) (F : Nat) (ds : List D) (ps : List PyData) : Prop := ds.length = ps.length ∧ ∀ (j : Nat) (d : D) (p : PyData), ds[j]? = some d → ps[j]? = some p → St h F d p
theorem LF.nil {h : Hh} {F : Nat} : LF h F [] [] := ⟨rfl, fun j d p h => by simp at h⟩
theorem LF.cons {h : Hh} {F : Nat} {d : D} {p : PyData} {ds : List D} {ps : List PyData} (s : St h F d p) (l : LF h F ds ps) : LF h F (d :: ds) (p :: ps) :=
  ⟨by rw [List.length_cons, List.length_cons, l.1], fun j d' p' h1 h2 => by
    cases j with
    | zero =>
      rw [List.getElem?_cons_zero] at h1 h2
      cases h1; cases h2; exact s
    | succ j =>
      rw [List.getElem?_cons_succ] at h1 h2
      exact l.2 j d' p' h1 h2⟩
theorem LF.keep {h h1 : Hh} {F : Nat} {ds : List D} {ps : List PyData} (l : LF h F ds ps) (k : Keep [] h h1) : LF h1 F ds ps := ⟨l.1, fun j d p a b => (l.2 j d p a b).keep k⟩
theorem LF.snoc {h : Hh} {F : Nat} {d : D} {p : PyData} {ds : List D} {ps : List PyData} (l : LF h F ds ps) (s : St h F d p) : LF h F (ds ++ [d]) (ps ++ [p]) :=
  ⟨by rw [List.length_append, List.length_append, l.1]; rfl, fun j d' p' h1 h2 => by
    by_cases c : j < ds.length
    · rw [List.getElem?_append_left c] at h1
      rw [List.getElem?_append_left (by rw [← l.1]; exact c)] at h2
      exact l.2 j d' p' h1 h2
    · rw [List.getElem?_append_right (by omega)] at h1
      rw [List.getElem?_append_right (by rw [← l.1]; omega), ← l.1] at h2
      have hj : j - ds.length = 0 := by
        have := (List.getElem?_eq_some_iff.mp h1).1
        rw [List.length_singleton] at this
        omega
      rw [hj] at h1 h2
      cases h1; cases h2; exact s⟩
theorem LF.toPys {h h' : Hh} {F : Nat} (k : Keep [] h h') : ∀ {ds : List D} {ps : List PyData}, LF h F ds ps → ∀ f, F + ds.length + 1 ≤ f → toPys h' f ds = some ps
  | [], ps, l, f, hf => by
    have : ps = [] := List.length_eq_zero_iff.mp (by rw [← l.1]; rfl)
    subst this
    obtain ⟨n, rfl⟩ : ∃ n, f = n + 1 := ⟨f - 1, by omega⟩
    rfl
  | d :: ds, ps, l, f, hf => by
    obtain ⟨n, rfl⟩ : ∃ n, f = n + 1 := ⟨f - 1, by omega⟩
    rw [List.length_cons] at hf
    cases ps with
    | nil => have := l.1; simp at this
    | cons p ps =>
      have e1 : toPy h' n d = some p := l.2 0 d p rfl rfl h' k n (by omega)
      have e2 := LF.toPys k (ds := ds) (ps := ps) ⟨by have := l.1; simpa using this, fun j d p a b => l.2 (j + 1) d p a b⟩ n (by omega)
      unfold SF.toPys
      rw [e1]
      dsimp only
      rw [e2]
      rfl
theorem st_list {h : Hh} {F a : Nat} {ds : List D} {ps : List PyData} (ha : h[a]? = some (O.lst ds)) (l : LF h F ds ps) : St h (F + ds.length + 2) (.ref a) (.list ps) := fun h' k f hf => by
  obtain ⟨n, rfl⟩ : ∃ n, f = n + 1 := ⟨f - 1, by omega⟩
  unfold toPy
  dsimp only
  rw [lstAt_of (k.get ha (by simp))]
  dsimp only
  rw [l.toPys k n (by omega)]
  rfl
theorem st_int {h : Hh} {i : Int} : St h 1 (.int i) (.int i) := fun h' k f hf => by
  obtain ⟨n, rfl⟩ : ∃ n, f = n + 1 := ⟨f - 1, by omega⟩
  rfl
theorem st_bl {h : Hh} {b : Bool} : St h 1 (.bl b) (.bool b) := fun h' k f hf => by
  obtain ⟨n, rfl⟩ : ∃ n, f = n + 1 := ⟨f - 1, by omega⟩
  rfl
theorem st_str {h : Hh} {x : Str} (c : (PyData.str x).canLay0 = true) : St h 1 (.str x) (.str x) := fun h' k f hf => by
  obtain ⟨n, rfl⟩ : ∃ n, f = n + 1 := ⟨f - 1, by omega⟩
  unfold toPy
  dsimp only
  rw [if_pos c]
/-- a number, a truth or nothing -/
def leafD : D → Bool
  | .int _ => true
  | .bl _ => true
  | .non => true
  | _ => false
def leafP : D → PyData
  | .int i => .list [.bool false, .int i]
  | .bl b => .str (if b = true then "True" else "False")
  | .non => .str "None"
  | _ => .none
def plP : Nat → D → PyData
  | 0, d => leafP d
  | n + 1, d => match d with
    | .tup xs => .list (.bool false :: xs.map (plP n))
    | d => leafP d
/-- tuples of tuples .. of leaves, none longer than w -/
def Le (w : Nat) : Nat → D → Prop
  | 0, d => leafD d = true
  | n + 1, d => leafD d = true ∨ ∃ xs, d = .tup xs ∧ xs.length ≤ w ∧ ∀ x ∈ xs, Le w n x
def isRS : D → Bool
  | .ref _ => true
  | .str _ => true
  | _ => false
/-- what _law_plain gives -/
def PQ (h : Hh) (F : Nat) (p : PyData) (d : D) (h' : Hh) : Prop := isRS d = true ∧ Keep [] h h' ∧ St h' F d p
theorem leaf_ok {call : Nat → List D → Hh → R (D × Hh)} {d : D} (hd : leafD d = true) (h : Hh) :
    Ok (evSs call gvals b__law_plain [some d, none] h) fun fl h' => match fl with
    | .nx _ => PQ h 5 (leafP d) .non h'
    | .rt d' => PQ h 5 (leafP d) d' h'
    | _ => False := by
  unfold b__law_plain
  have tx3 : ∀ h : Hh, (h ++ [O.lst [D.str "None", D.str "False", D.str "True"]])[h.length]? = some (O.lst [D.str "None", D.str "False", D.str "True"]) := fun h => get_new
  cases d with
  | int i =>
    refine ss_cons (s_if (Ok.of (a := false) (h := h) (by simp only [runFn, evSs, evS, evE, evT, evEs, evO, evG, evGs, b_ok, ix0, ix1, ix2', o_add', o_sub', c_lt', c_le', c_gt', c_ge', c_eq', c_ne', List.length_cons, List.length_nil, List.map_cons, List.map_nil, List.replicate, Nat.sub_self, Nat.add_sub_cancel, List.cons_append, List.nil_append, List.append_nil, List.getElem?_cons_zero, List.getElem?_cons_succ, List.set_cons_zero, List.set_cons_succ, if_true, if_false, ite_true, ite_false, reduceIte, Nat.reduceAdd, Nat.reduceSub, Nat.reduceLT, Nat.zero_add, Bool.true_and, Bool.and_true, show tyAny h (.int i) [.tuple, .list] = some false from rfl]) ?_))
    rw [if_neg Bool.false_ne_true]
    refine ss_nil (ss_cons (s_if (Ok.of (a := false) (h := h) (by simp only [runFn, evSs, evS, evE, evT, evEs, evO, evG, evGs, b_ok, ix0, ix1, ix2', o_add', o_sub', c_lt', c_le', c_gt', c_ge', c_eq', c_ne', List.length_cons, List.length_nil, List.map_cons, List.map_nil, List.replicate, Nat.sub_self, Nat.add_sub_cancel, List.cons_append, List.nil_append, List.append_nil, List.getElem?_cons_zero, List.getElem?_cons_succ, List.set_cons_zero, List.set_cons_succ, if_true, if_false, ite_true, ite_false, reduceIte, Nat.reduceAdd, Nat.reduceSub, Nat.reduceLT, Nat.zero_add, Bool.true_and, Bool.and_true, show cmp2 .isN (.int i) .non h = .ok (.bl false, h) from rfl, show tyAny h (.int i) [.bool] = some false from rfl, Bool.false_eq_true]) ?_)))
    rw [if_neg Bool.false_ne_true]
    refine ss_nil (ss_cons (s_ret (Ok.of (a := .ref h.length) (h := h ++ [.lst [.bl false, .int i]]) (by simp only [runFn, evSs, evS, evE, evT, evEs, evO, evG, evGs, b_ok, ix0, ix1, ix2', o_add', o_sub', c_lt', c_le', c_gt', c_ge', c_eq', c_ne', List.length_cons, List.length_nil, List.map_cons, List.map_nil, List.replicate, Nat.sub_self, Nat.add_sub_cancel, List.cons_append, List.nil_append, List.append_nil, List.getElem?_cons_zero, List.getElem?_cons_succ, List.set_cons_zero, List.set_cons_succ, if_true, if_false, ite_true, ite_false, reduceIte, Nat.reduceAdd, Nat.reduceSub, Nat.reduceLT, Nat.zero_add, Bool.true_and, Bool.and_true, show tyAny h (.int i) [.int, .str] = some true from rfl, show tyAny h (.int i) [.str] = some false from rfl]) ?_)))
    refine ⟨rfl, Keep.app _, ?_⟩
    exact (st_list (F := 1) get_new (.cons st_bl (.cons st_int .nil))).mono (Nat.le_refl 5)
  | bl b =>
    refine ss_cons (s_if (Ok.of (a := false) (h := h) (by simp only [runFn, evSs, evS, evE, evT, evEs, evO, evG, evGs, b_ok, ix0, ix1, ix2', o_add', o_sub', c_lt', c_le', c_gt', c_ge', c_eq', c_ne', List.length_cons, List.length_nil, List.map_cons, List.map_nil, List.replicate, Nat.sub_self, Nat.add_sub_cancel, List.cons_append, List.nil_append, List.append_nil, List.getElem?_cons_zero, List.getElem?_cons_succ, List.set_cons_zero, List.set_cons_succ, if_true, if_false, ite_true, ite_false, reduceIte, Nat.reduceAdd, Nat.reduceSub, Nat.reduceLT, Nat.zero_add, Bool.true_and, Bool.and_true, show tyAny h (.bl b) [.tuple, .list] = some false from rfl]) ?_))
    rw [if_neg Bool.false_ne_true]
    refine ss_nil (ss_cons (s_if (Ok.of (a := true) (h := h) (by simp only [runFn, evSs, evS, evE, evT, evEs, evO, evG, evGs, b_ok, ix0, ix1, ix2', o_add', o_sub', c_lt', c_le', c_gt', c_ge', c_eq', c_ne', List.length_cons, List.length_nil, List.map_cons, List.map_nil, List.replicate, Nat.sub_self, Nat.add_sub_cancel, List.cons_append, List.nil_append, List.append_nil, List.getElem?_cons_zero, List.getElem?_cons_succ, List.set_cons_zero, List.set_cons_succ, if_true, if_false, ite_true, ite_false, reduceIte, Nat.reduceAdd, Nat.reduceSub, Nat.reduceLT, Nat.zero_add, Bool.true_and, Bool.and_true, show cmp2 .isN (.bl b) .non h = .ok (.bl false, h) from rfl, show tyAny h (.bl b) [.bool] = some true from rfl, Bool.false_eq_true]) ?_)))
    rw [if_pos rfl]
    have i1 := ix_ref (k := if b = true then 2 else 1) (tx3 h) (by cases b <;> decide)
    refine ss_cons (s_ret (Ok.of (a := .str (if b = true then "True" else "False")) (h := h ++ [O.lst [D.str "None", D.str "False", D.str "True"]]) ?_ ?_))
    · have c1 : ∀ h, cmp2 .notN (.bl b) .non h = .ok (.bl true, h) := fun h => rfl
      have c2 : ∀ h, cmp2 .isT (.bl b) (.bl true) h = .ok (.bl b, h) := fun h => rfl
      cases b with
      | true => simp only [runFn, evSs, evS, evE, evT, evEs, evO, evG, evGs, b_ok, ix0, ix1, ix2', o_add', o_sub', c_lt', c_le', c_gt', c_ge', c_eq', c_ne', List.length_cons, List.length_nil, List.map_cons, List.map_nil, List.replicate, Nat.sub_self, Nat.add_sub_cancel, List.cons_append, List.nil_append, List.append_nil, List.getElem?_cons_zero, List.getElem?_cons_succ, List.set_cons_zero, List.set_cons_succ, if_true, if_false, ite_true, ite_false, reduceIte, Nat.reduceAdd, Nat.reduceSub, Nat.reduceLT, Nat.zero_add, Bool.true_and, Bool.and_true, c1, c2, b_intb]; exact i1
      | false => simp only [runFn, evSs, evS, evE, evT, evEs, evO, evG, evGs, b_ok, ix0, ix1, ix2', o_add', o_sub', c_lt', c_le', c_gt', c_ge', c_eq', c_ne', List.length_cons, List.length_nil, List.map_cons, List.map_nil, List.replicate, Nat.sub_self, Nat.add_sub_cancel, List.cons_append, List.nil_append, List.append_nil, List.getElem?_cons_zero, List.getElem?_cons_succ, List.set_cons_zero, List.set_cons_succ, if_true, if_false, ite_true, ite_false, reduceIte, Nat.reduceAdd, Nat.reduceSub, Nat.reduceLT, Nat.zero_add, Bool.true_and, Bool.and_true, c1, c2, b_intb, Bool.false_eq_true]; exact i1
    · refine ⟨rfl, Keep.app _, ?_⟩
      refine (st_str ?_).mono (by decide)
      cases b <;> decide +kernel
  | non =>
    refine ss_cons (s_if (Ok.of (a := false) (h := h) (by simp only [runFn, evSs, evS, evE, evT, evEs, evO, evG, evGs, b_ok, ix0, ix1, ix2', o_add', o_sub', c_lt', c_le', c_gt', c_ge', c_eq', c_ne', List.length_cons, List.length_nil, List.map_cons, List.map_nil, List.replicate, Nat.sub_self, Nat.add_sub_cancel, List.cons_append, List.nil_append, List.append_nil, List.getElem?_cons_zero, List.getElem?_cons_succ, List.set_cons_zero, List.set_cons_succ, if_true, if_false, ite_true, ite_false, reduceIte, Nat.reduceAdd, Nat.reduceSub, Nat.reduceLT, Nat.zero_add, Bool.true_and, Bool.and_true, show tyAny h .non [.tuple, .list] = some false from rfl]) ?_))
    rw [if_neg Bool.false_ne_true]
    refine ss_nil (ss_cons (s_if (Ok.of (a := true) (h := h) (by simp only [runFn, evSs, evS, evE, evT, evEs, evO, evG, evGs, b_ok, ix0, ix1, ix2', o_add', o_sub', c_lt', c_le', c_gt', c_ge', c_eq', c_ne', List.length_cons, List.length_nil, List.map_cons, List.map_nil, List.replicate, Nat.sub_self, Nat.add_sub_cancel, List.cons_append, List.nil_append, List.append_nil, List.getElem?_cons_zero, List.getElem?_cons_succ, List.set_cons_zero, List.set_cons_succ, if_true, if_false, ite_true, ite_false, reduceIte, Nat.reduceAdd, Nat.reduceSub, Nat.reduceLT, Nat.zero_add, Bool.true_and, Bool.and_true, show cmp2 .isN .non .non h = .ok (.bl true, h) from rfl]) ?_)))
    rw [if_pos rfl]
    have i1 := ix_ref (k := 0) (tx3 h) (by decide)
    refine ss_cons (s_ret (Ok.of (a := .str "None") (h := h ++ [O.lst [D.str "None", D.str "False", D.str "True"]]) ?_ ?_))
    · have c1 : ∀ h, cmp2 .notN .non .non h = .ok (.bl false, h) := fun h => rfl
      have c2 : ∀ h, cmp2 .isT .non (.bl true) h = .ok (.bl false, h) := fun h => rfl
      simp only [runFn, evSs, evS, evE, evT, evEs, evO, evG, evGs, b_ok, ix0, ix1, ix2', o_add', o_sub', c_lt', c_le', c_gt', c_ge', c_eq', c_ne', List.length_cons, List.length_nil, List.map_cons, List.map_nil, List.replicate, Nat.sub_self, Nat.add_sub_cancel, List.cons_append, List.nil_append, List.append_nil, List.getElem?_cons_zero, List.getElem?_cons_succ, List.set_cons_zero, List.set_cons_succ, if_true, if_false, ite_true, ite_false, reduceIte, Nat.reduceAdd, Nat.reduceSub, Nat.reduceLT, Nat.zero_add, Bool.true_and, Bool.and_true, c1, c2, b_intb, Bool.false_eq_true]
      exact i1
    · exact ⟨rfl, Keep.app _, (st_str (by decide +kernel)).mono (by decide)⟩
  | str x => exact absurd hd Bool.false_ne_true
  | tup xs => exact absurd hd Bool.false_ne_true
  | cl xs => exact absurd hd Bool.false_ne_true
  | ref a => exact absurd hd Bool.false_ne_true
/-- the items -/
theorem items_ok {call : Nat → List D → Hh → R (D × Hh)} {F : Nat} {f : D → PyData} {xs : List D} {d : D} {x : Option D} {J : SF.It} {h : Hh} (hc : ∀ y ∈ xs, ∀ h, Ok (call 36 [y] h) (PQ h F (f y)))
    (hJ : itOf d h = .ok (J, h)) (hm : J.most h = xs.length) (hn : ∀ h', Keep [] h h' → ∀ i (hi : i < xs.length), It.next h' J i = some (some xs[i])) (he : ∀ h', Keep [] h h' → It.next h' J xs.length = some none) (hs : xs.length ≤ 1000) :
    Ok (evE call gvals (.comp (.call 36 (.cons (.var 1) .nil) []) (.var 1) (.of (.var 0)) .nil [1]) [some d, x] h) fun d' h' => ∃ a ds, d' = .ref a ∧ h'[a]? = some (O.lst ds) ∧ LF h' F ds (xs.map f) ∧ Keep [] h h' := by
  unfold evE
  have e1 : evI call gvals (.of (.var 0)) [some d, x] h = .ok (J, h) := by
    unfold evI
    simp only [runFn, evSs, evS, evE, evT, evEs, evO, evG, evGs, b_ok, ix0, ix1, ix2', o_add', o_sub', c_lt', c_le', c_gt', c_ge', c_eq', c_ne', List.length_cons, List.length_nil, List.map_cons, List.map_nil, List.replicate, Nat.sub_self, Nat.add_sub_cancel, List.cons_append, List.nil_append, List.append_nil, List.getElem?_cons_zero, List.getElem?_cons_succ, List.set_cons_zero, List.set_cons_succ, if_true, if_false, ite_true, ite_false, reduceIte, Nat.reduceAdd, Nat.reduceSub, Nat.reduceLT, Nat.zero_add, Bool.true_and, Bool.and_true]
    exact hJ
  rw [e1, b_ok]
  refine Ok.seq (P := fun ds h' => LF h' F ds (xs.map f) ∧ Keep [] h h') ?_ fun ds h' q => Ok.pure ⟨h'.length, ds, rfl, get_new, q.1.keep (Keep.app _), q.2.trans (Keep.app _)⟩
  dsimp only
  rw [hm]
  refine loopC_ok (fun i acc h' => LF h' F acc ((xs.take i).map f) ∧ Keep [] h h') xs.length (fun i acc h' q le => ?_) _ 0 [] h ⟨.nil, Keep.refl⟩ (Nat.zero_le _) (by omega)
  obtain ⟨q1, q2⟩ := q
  rcases Nat.eq_or_lt_of_le le with e' | lt
  · refine .inl ⟨e', by rw [e']; exact he h' q2, ?_⟩
    rw [e', List.take_length] at q1
    exact ⟨q1, q2⟩
  · refine .inr ⟨lt, xs[i], hn h' q2 i lt, ?_⟩
    have tk : xs.take (i + 1) = xs.take i ++ [xs[i]] := by rw [List.take_succ, List.getElem?_eq_getElem lt]; rfl
    have c1 := hc xs[i] (List.getElem_mem lt) h'
    rw [tk]
    generalize xs[i] = y at *
    refine Ok.bind (Ok.of (a := [some d, some y]) (h := h') (by ((simp only [runFn, evSs, evS, evE, evT, evEs, evO, evG, evGs, b_ok, ix0, ix1, ix2', o_add', o_sub', c_lt', c_le', c_gt', c_ge', c_eq', c_ne', List.length_cons, List.length_nil, List.map_cons, List.map_nil, List.replicate, Nat.sub_self, Nat.add_sub_cancel, List.cons_append, List.nil_append, List.append_nil, List.getElem?_cons_zero, List.getElem?_cons_succ, List.set_cons_zero, List.set_cons_succ, if_true, if_false, ite_true, ite_false, reduceIte, Nat.reduceAdd, Nat.reduceSub, Nat.reduceLT, Nat.zero_add, Bool.true_and, Bool.and_true, wipeE]) <;> rfl)) ?_)
    dsimp only
    unfold evC
    refine Ok.bind (Ok.of rfl ?_)
    dsimp only
    rw [if_pos rfl]
    have e2 : evE call gvals (.call 36 (.cons (.var 1) .nil) []) [some d, some y] h' = call 36 [y] h' := by simp only [runFn, evSs, evS, evE, evT, evEs, evO, evG, evGs, b_ok, ix0, ix1, ix2', o_add', o_sub', c_lt', c_le', c_gt', c_ge', c_eq', c_ne', List.length_cons, List.length_nil, List.map_cons, List.map_nil, List.replicate, Nat.sub_self, Nat.add_sub_cancel, List.cons_append, List.nil_append, List.append_nil, List.getElem?_cons_zero, List.getElem?_cons_succ, List.set_cons_zero, List.set_cons_succ, if_true, if_false, ite_true, ite_false, reduceIte, Nat.reduceAdd, Nat.reduceSub, Nat.reduceLT, Nat.zero_add, Bool.true_and, Bool.and_true]
    rw [e2]
    refine Ok.bind (c1.imp fun d' h2 q => ?_)
    obtain ⟨r1, r2, r3⟩ := q
    refine Ok.pure ⟨?_, ?_, q2.trans r2⟩
    · have := q1.1
      rw [List.length_map, List.length_take] at this
      have h1 : (1000 : Nat) < sizeLine := by decide
      omega
    · rw [List.map_append]
      exact (q1.keep r2).snoc r3
theorem seq_ok {call : Nat → List D → Hh → R (D × Hh)} {F : Nat} {f : D → PyData} {xs : List D} {d : D} {J : SF.It} {h : Hh} {isL : Bool} (hc : ∀ y ∈ xs, ∀ h, Ok (call 36 [y] h) (PQ h F (f y)))
    (t1 : tyAny h d [.tuple, .list] = some true) (t2 : tyAny h d [.list] = some isL) (hF : 1 ≤ F)
    (hJ : ∀ h', Keep [] h h' → itOf d h' = .ok (J, h')) (hm : ∀ h', Keep [] h h' → J.most h' = xs.length) (hn : ∀ h', Keep [] h h' → ∀ i (hi : i < xs.length), It.next h' J i = some (some xs[i])) (he : ∀ h', Keep [] h h' → It.next h' J xs.length = some none) (hs : xs.length ≤ 1000) :
    Ok (evSs call gvals b__law_plain [some d, none] h) fun fl h' => match fl with
    | .nx _ => PQ h (F + xs.length + 3) (.list (.bool isL :: xs.map f)) .non h'
    | .rt d' => PQ h (F + xs.length + 3) (.list (.bool isL :: xs.map f)) d' h'
    | _ => False := by
  unfold b__law_plain
  refine ss_cons (s_if (Ok.of (a := true) (h := h) (by simp only [runFn, evSs, evS, evE, evT, evEs, evO, evG, evGs, b_ok, ix0, ix1, ix2', o_add', o_sub', c_lt', c_le', c_gt', c_ge', c_eq', c_ne', List.length_cons, List.length_nil, List.map_cons, List.map_nil, List.replicate, Nat.sub_self, Nat.add_sub_cancel, List.cons_append, List.nil_append, List.append_nil, List.getElem?_cons_zero, List.getElem?_cons_succ, List.set_cons_zero, List.set_cons_succ, if_true, if_false, ite_true, ite_false, reduceIte, Nat.reduceAdd, Nat.reduceSub, Nat.reduceLT, Nat.zero_add, Bool.true_and, Bool.and_true, t1]) ?_))
  rw [if_pos rfl]
  refine ss_cons (s_ret ?_)
  have k0 : Keep [] h (h ++ [O.lst [.bl isL]]) := Keep.app _
  have it := items_ok (d := d) (x := none) (h := h ++ [O.lst [.bl isL]]) hc (hJ _ k0) (hm _ k0) (fun h' k => hn h' (k0.trans k)) (fun h' k => he h' (k0.trans k)) hs
  have e1 : evE call gvals (.lst (.cons (.isi (.var 0) [.list]) .nil)) [some d, none] h = .ok (.ref h.length, h ++ [O.lst [.bl isL]]) := by simp only [runFn, evSs, evS, evE, evT, evEs, evO, evG, evGs, b_ok, ix0, ix1, ix2', o_add', o_sub', c_lt', c_le', c_gt', c_ge', c_eq', c_ne', List.length_cons, List.length_nil, List.map_cons, List.map_nil, List.replicate, Nat.sub_self, Nat.add_sub_cancel, List.cons_append, List.nil_append, List.append_nil, List.getElem?_cons_zero, List.getElem?_cons_succ, List.set_cons_zero, List.set_cons_succ, if_true, if_false, ite_true, ite_false, reduceIte, Nat.reduceAdd, Nat.reduceSub, Nat.reduceLT, Nat.zero_add, Bool.true_and, Bool.and_true, t2]
  generalize hce : E.comp (.call 36 (.cons (.var 1) .nil) []) (.var 1) (.of (.var 0)) .nil [1] = ce at it ⊢
  have e2 : evE call gvals (.bin .add (.lst (.cons (.isi (.var 0) [.list]) .nil)) ce) [some d, none] h = (evE call gvals ce [some d, none] (h ++ [O.lst [.bl isL]]) >>= fun q => op2 .add (.ref h.length) q.1 q.2) := by
    show (evE call gvals (.lst (.cons (.isi (.var 0) [.list]) .nil)) [some d, none] h >>= fun p => evE call gvals ce [some d, none] p.2 >>= fun q => op2 .add p.1 q.1 q.2) = _
    rw [e1, b_ok]
  rw [e2]
  refine Ok.bind (it.imp fun d' h' q => ?_)
  obtain ⟨a, ds, rfl, q1, q2, q3⟩ := q
  have g0 : h'[h.length]? = some (O.lst [.bl isL]) := q3.get get_new (by simp)
  have ll := q2.1
  rw [List.length_map] at ll
  refine Ok.of (a := .ref h'.length) (h := h' ++ [.lst ([.bl isL] ++ ds)]) ?_ ⟨rfl, (k0.trans q3).trans (Keep.app _), ?_⟩
  · unfold op2
    dsimp only
    rw [g0, q1]
    dsimp only
    rw [if_neg (by have : (1001 : Nat) < sizeLine := by decide
                   simp only [List.length_singleton]; omega)]
  · have := st_list (h := h' ++ [.lst ([.bl isL] ++ ds)]) (F := F) (ds := [.bl isL] ++ ds) get_new (.cons (st_bl.mono hF) (q2.keep (Keep.app _)))
    refine this.mono ?_
    rw [List.length_append, List.length_singleton]
    omega
theorem plain_ok {w : Nat} (hw : w ≤ 1000) : ∀ (n : Nat) (d : D), Le w n d → ∀ (N : Nat) (h : Hh), Ok (C (n + 1 + N) 36 [d] h) (PQ h (5 + n * (w + 3)) (plP n d))
  | 0, d, hd, N, h => by
    have e0 : 0 + 1 + N = N + 1 := by omega
    rw [e0]
    refine C_ok (f := f__law_plain) rfl rfl fun call hcall => ?_
    refine (leaf_ok hd h).imp fun fl h' q => ?_
    cases fl with
    | nx e => exact ⟨q.1, q.2.1, q.2.2.mono (by omega)⟩
    | rt d => exact ⟨q.1, q.2.1, q.2.2.mono (by omega)⟩
    | bk e => exact q
    | ct e => exact q
  | n + 1, d, hd, N, h => by
    have e0 : n + 1 + 1 + N = (n + 1 + N) + 1 := by omega
    rw [e0]
    have ih := plain_ok hw n
    rcases hd with hd | ⟨xs, rfl, hx, hxs⟩
    · refine C_ok (f := f__law_plain) rfl rfl fun call hcall => ?_
      have ep : plP (n + 1) d = leafP d := by
        cases d with
        | tup xs => exact absurd hd Bool.false_ne_true
        | _ => rfl
      rw [ep]
      refine (leaf_ok hd h).imp fun fl h' q => ?_
      cases fl with
      | nx e => exact ⟨q.1, q.2.1, q.2.2.mono (by omega)⟩
      | rt d => exact ⟨q.1, q.2.1, q.2.2.mono (by omega)⟩
      | bk e => exact q
      | ct e => exact q
    · have ih' : ∀ y ∈ xs, ∀ h, Ok (C (n + 1 + N) 36 [y] h) (PQ h (5 + n * (w + 3)) (plP n y)) := fun y hy h => ih y (hxs y hy) N h
      refine C_ok (f := f__law_plain) rfl rfl fun call hcall => ?_
      rw [← hcall] at ih'
      have sq := seq_ok (call := call) (d := .tup xs) (h := h) (J := .tup xs) (isL := false) ih' rfl rfl (by omega) (fun h' k => rfl) (fun h' k => rfl) (fun h' k i hi => tup_next hi) (fun h' k => tup_end) (by omega)
      refine sq.imp fun fl h' q => ?_
      have le : 5 + n * (w + 3) + xs.length + 3 ≤ 5 + (n + 1) * (w + 3) := by rw [Nat.succ_mul]; omega
      cases fl with
      | nx e => exact ⟨q.1, q.2.1, q.2.2.mono le⟩
      | rt d => exact ⟨q.1, q.2.1, q.2.2.mono le⟩
      | bk e => exact q
      | ct e => exact q
theorem plainL_ok {w n N a : Nat} {xs : List D} {h : Hh} (hw : w ≤ 1000) (ha : h[a]? = some (O.lst xs)) (hx : xs.length ≤ w) (hxs : ∀ x ∈ xs, Le w n x) : Ok (C (n + 2 + N) 36 [.ref a] h) (PQ h (5 + (n + 1) * (w + 3)) (.list (.bool true :: xs.map (plP n)))) := by
  have e0 : n + 2 + N = (n + 1 + N) + 1 := by omega
  rw [e0]
  have ih' : ∀ y ∈ xs, ∀ h, Ok (C (n + 1 + N) 36 [y] h) (PQ h (5 + n * (w + 3)) (plP n y)) := fun y hy h => plain_ok hw n y (hxs y hy) N h
  refine C_ok (f := f__law_plain) rfl rfl fun call hcall => ?_
  rw [← hcall] at ih'
  have kl : kdOf h (.ref a) = some .lst := by
    unfold kdOf
    dsimp only
    rw [lstAt_of ha]
  have ty : ∀ ts, tyAny h (.ref a) ts = some (ts.any Kd.lst.isA) := fun ts => by
    unfold tyAny
    rw [kl]
  have sq := seq_ok (call := call) (d := .ref a) (h := h) (J := .lst a) (isL := true) ih' (ty _) (ty _) (by omega) (fun h' k => by
      unfold itOf
      dsimp only
      rw [lstAt_of (k.get ha (by simp))]) (fun h' k => by
      show ((lstAt h' a).map List.length).getD 0 = _
      rw [lstAt_of (k.get ha (by simp))]
      rfl) (fun h' k i hi => lst_next (k.get ha (by simp)) hi) (fun h' k => lst_end (k.get ha (by simp))) (by omega)
  refine sq.imp fun fl h' q => ?_
  have le : 5 + n * (w + 3) + xs.length + 3 ≤ 5 + (n + 1) * (w + 3) := by rw [Nat.succ_mul]; omega
  cases fl with
  | nx e => exact ⟨q.1, q.2.1, q.2.2.mono le⟩
  | rt d => exact ⟨q.1, q.2.1, q.2.2.mono le⟩
  | bk e => exact q
  | ct e => exact q
theorem eqv_refl {h : Hh} : ∀ n, (∀ d p, toPy h n d = some p → PyData.eqv p p = true) ∧ (∀ ds ps, toPys h n ds = some ps → PyData.eqvAll ps ps = true)
  | 0 => ⟨fun d p e => by simp [toPy] at e, fun ds ps e => by simp [toPys] at e⟩
  | n + 1 => by
    obtain ⟨i1, i2⟩ := eqv_refl (h := h) n
    refine ⟨fun d p e => ?_, fun ds ps e => ?_⟩
    · unfold toPy at e
      cases d with
      | non => cases e; simp [PyData.eqv]
      | bl b => cases e; simp [PyData.eqv]
      | int i => cases e; simp [PyData.eqv]
      | str x =>
        dsimp only at e
        split at e
        · cases e; simp [PyData.eqv]
        · cases e
      | tup xs =>
        dsimp only at e
        obtain ⟨ps, e1, rfl⟩ := Option.map_eq_some_iff.mp e
        unfold PyData.eqv
        exact i2 xs ps e1
      | cl xs => cases e
      | ref a =>
        dsimp only at e
        split at e
        · obtain ⟨ps, e1, rfl⟩ := Option.map_eq_some_iff.mp e
          unfold PyData.eqv
          exact i2 _ ps e1
        · cases e
    · cases ds with
      | nil => unfold toPys at e; cases e; simp [PyData.eqvAll]
      | cons d ds =>
        unfold toPys at e
        cases h1 : toPy h n d with
        | none => rw [h1] at e; cases e
        | some p =>
          rw [h1] at e
          dsimp only at e
          obtain ⟨qs, e1, rfl⟩ := Option.map_eq_some_iff.mp e
          unfold PyData.eqvAll
          rw [i1 d p h1, i2 ds qs e1]
          rfl
theorem same_ok {N F : Nat} {x y : D} {p : PyData} {h : Hh} (hx : Ok (C N 36 [x] h) (PQ h F p)) (hy : ∀ h', Keep [] h h' → Ok (C N 36 [y] h') (PQ h' F p)) (hF : F ≤ deep) : Ok (C (N + 1) 37 [x, y] h) fun d h' => d = .bl true ∧ Keep [] h h' := by
  refine C_ok (f := f__law_same) rfl rfl fun call hcall => ?_
  rw [← hcall] at hx hy
  show Ok (evSs call gvals b__law_same [some x, some y] h) _
  unfold b__law_same
  refine ss_cons (s_ret ?_)
  have e1 : evE call gvals (.call 36 (.cons (.var 0) .nil) []) [some x, some y] h = call 36 [x] h := by simp only [runFn, evSs, evS, evE, evT, evEs, evO, evG, evGs, b_ok, ix0, ix1, ix2', o_add', o_sub', c_lt', c_le', c_gt', c_ge', c_eq', c_ne', List.length_cons, List.length_nil, List.map_cons, List.map_nil, List.replicate, Nat.sub_self, Nat.add_sub_cancel, List.cons_append, List.nil_append, List.append_nil, List.getElem?_cons_zero, List.getElem?_cons_succ, List.set_cons_zero, List.set_cons_succ, if_true, if_false, ite_true, ite_false, reduceIte, Nat.reduceAdd, Nat.reduceSub, Nat.reduceLT, Nat.zero_add, Bool.true_and, Bool.and_true]
  have e2 : ∀ h', evE call gvals (.call 36 (.cons (.var 1) .nil) []) [some x, some y] h' = call 36 [y] h' := fun h' => by simp only [runFn, evSs, evS, evE, evT, evEs, evO, evG, evGs, b_ok, ix0, ix1, ix2', o_add', o_sub', c_lt', c_le', c_gt', c_ge', c_eq', c_ne', List.length_cons, List.length_nil, List.map_cons, List.map_nil, List.replicate, Nat.sub_self, Nat.add_sub_cancel, List.cons_append, List.nil_append, List.append_nil, List.getElem?_cons_zero, List.getElem?_cons_succ, List.set_cons_zero, List.set_cons_succ, if_true, if_false, ite_true, ite_false, reduceIte, Nat.reduceAdd, Nat.reduceSub, Nat.reduceLT, Nat.zero_add, Bool.true_and, Bool.and_true]
  unfold evE
  rw [e1]
  refine Ok.bind (hx.imp fun d1 h1 q => ?_)
  obtain ⟨r1, k1, s1⟩ := q
  dsimp only
  rw [e2]
  refine Ok.bind ((hy h1 k1).imp fun d2 h2 q => ?_)
  obtain ⟨r2, k2, s2⟩ := q
  have t1 := s1 h2 k2 deep hF
  have t2 := s2 h2 Keep.refl deep hF
  have ed : eqD h2 d1 d2 = some true := by
    unfold eqD
    rw [t1, t2]
    dsimp only
    rw [(eqv_refl deep).1 _ _ t1]
  have ec : cmp2 .eq d1 d2 h2 = (match eqD h2 d1 d2 with
      | some b => .ok (.bl b, h2)
      | none => .stuck) := by
    cases d1 with
    | ref a => rfl
    | str s => rfl
    | _ => exact absurd r1 Bool.false_ne_true
  refine Ok.of (a := .bl true) (h := h2) ?_ ⟨rfl, k1.trans k2⟩
  dsimp only
  rw [ec, ed]
end K00
set_option Elab.async false
set_option linter.all false
set_option maxRecDepth 100000
set_option maxHeartbeats 2000000
/-! K01B: _law_condition. -/
namespace K00
open SF PySem
/-- unknown j less unknown i, times s -/
def condR (many i j : Nat) (way : Int) (s : Rat) (b : Bool) : Row := ⟨(List.range many).map fun k => s * (dv j i k : Rat), s * ((way : Rat) / 12), b⟩
theorem condition_ok {n many i j : Nat} {way kind : Int} {f : Rat} {h : Hh} (hm : many ≤ 500) (hij : i ≠ j) (hf : Sm 20 f) (hw : way.natAbs < 2 ^ 20) (hk : kind = 0 ∨ kind = 1 ∨ kind = 2) :
    Ok (C (n + 4) 40 [.int (many : Int), .int (i : Int), .int (j : Int), .int way, rq f, .int kind] h) fun d h' => d = rowD (condR many i j way (if kind = 1 then -f else f) (decide (kind = 2))) ∧ Keep [] h h' := by
  have ng := fun (a : Rat) (h : Hh) => lnegative_eq (n := n + 2) (a := a) (h := h)
  have rt := fun (h : Hh) => lratio_eq (n := n + 1) (k := 20) (h := h) way 12 (by decide) (by decide) (by decide) (by decide)
  have sw : Sm 20 (Rat.divInt way 12) := sm_div hw (by decide) (by decide)
  have tm := fun (a : Rat) (h : Hh) (ha : Sm 20 a) => ltimes_eq (n := n) (h := h) ha sw (by decide) (by decide)
  refine C_ok (f := f__law_condition) rfl rfl fun call hcall => ?_
  rw [← hcall] at ng rt tm
  show Ok (evSs call gvals b__law_condition [some (.int (many : Int)), some (.int (i : Int)), some (.int (j : Int)), some (.int way), some (rq f), some (.int kind), none, none, none] h) _
  unfold b__law_condition
  (refine ss_cons (s_asg (by simp) (Ok.of (by ((simp only [runFn, evSs, evS, evE, evT, evEs, evO, evG, evGs, b_ok, ix0, ix1, ix2', o_add', o_sub', c_lt', c_le', c_gt', c_ge', c_eq', c_ne', List.length_cons, List.length_nil, List.map_cons, List.map_nil, List.replicate, Nat.sub_self, Nat.add_sub_cancel, List.cons_append, List.nil_append, List.append_nil, List.getElem?_cons_zero, List.getElem?_cons_succ, List.set_cons_zero, List.set_cons_succ, if_true, if_false, ite_true, ite_false, reduceIte, Nat.reduceAdd, Nat.reduceSub, Nat.reduceLT, Nat.zero_add, Bool.true_and, Bool.and_true]) <;> rfl)) ?_)); dsimp only [List.set_cons_zero, List.set_cons_succ])
  have rest : ∀ s : Rat, Sm 20 s → Ok (evSs call gvals (.cons (.asg (.var 7) (.lst .nil)) <|
  .cons (.for_ (.var 8) (.rng (.lit (.int 0)) (.var 0)) (.cons (.expr (.bm .append (.var 7) (.cons (.ix (.lst (.cons (.tup (.cons (.lit (.int 0)) (.cons (.lit (.int 1)) .nil))) (.cons (.var 6) (.cons (.call 35 (.cons (.var 6) .nil) []) .nil)))) (.bin .add (.bf .int (.cons (.cmp .eq (.var 8) (.var 2)) .nil)) (.bin .mul (.lit (.int 2)) (.bf .int (.cons (.cmp .eq (.var 8) (.var 1)) .nil))))) .nil))) <|
      .nil)) <|
  .cons (.ret (.tup (.cons (.bf .tuple (.cons (.var 7) .nil)) (.cons (.call 34 (.cons (.var 6) (.cons (.call 32 (.cons (.var 3) (.cons (.lit (.int 12)) .nil)) []) .nil)) []) (.cons (.cmp .eq (.var 5) (.lit (.int 2))) .nil))))) <|
  .nil) [some (.int (many : Int)), some (.int (i : Int)), some (.int (j : Int)), some (.int way), some (rq f), some (.int kind), some (rq s), none, none] h) fun fl h' => match fl with
    | .nx _ => D.non = rowD (condR many i j way s (decide (kind = 2))) ∧ Keep [] h h'
    | .rt d => d = rowD (condR many i j way s (decide (kind = 2))) ∧ Keep [] h h'
    | _ => False := fun s hs => by
    (refine ss_cons (s_asg (by simp) (Ok.of (by ((simp only [runFn, evSs, evS, evE, evT, evEs, evO, evG, evGs, b_ok, ix0, ix1, ix2', o_add', o_sub', c_lt', c_le', c_gt', c_ge', c_eq', c_ne', List.length_cons, List.length_nil, List.map_cons, List.map_nil, List.replicate, Nat.sub_self, Nat.add_sub_cancel, List.cons_append, List.nil_append, List.append_nil, List.getElem?_cons_zero, List.getElem?_cons_succ, List.set_cons_zero, List.set_cons_succ, if_true, if_false, ite_true, ite_false, reduceIte, Nat.reduceAdd, Nat.reduceSub, Nat.reduceLT, Nat.zero_add, Bool.true_and, Bool.and_true]) <;> rfl)) ?_)); dsimp only [List.set_cons_zero, List.set_cons_succ])
    generalize ha0 : h.length = a0
    have k1 : Keep [] h (h ++ [O.lst []]) := Keep.app _
    have g0 : (h ++ [O.lst []])[a0]? = some (O.lst (((List.range 0).map fun k => s * (dv j i k : Rat)).map rq)) := by rw [← ha0]; exact get_new
    generalize h ++ [O.lst []] = h1 at *
    refine ss_cons (s_for (rng_ok (i := 0) (j := (many : Int)) rfl rfl (by decide) (by decide) (by omega) (by omega) ?_))
    rw [rng_fmt]
    have hmo : It.most h1 (.rng 0 1 many) = many := rfl
    rw [hmo]
    refine ⟨fun t e3 h3 => (∃ x8, e3 = [some (.int (many : Int)), some (.int (i : Int)), some (.int (j : Int)), some (.int way), some (rq f), some (.int kind), some (rq s), some (.ref a0), x8]) ∧ h3[a0]? = some (O.lst (((List.range t).map fun k => s * (dv j i k : Rat)).map rq)) ∧ Keep [a0] h1 h3, ⟨⟨_, rfl⟩, g0, Keep.refl⟩, ?_⟩
    rintro t e3 h3 ⟨⟨x8, rfl⟩, g3, k3⟩ lei
    rcases Nat.eq_or_lt_of_le lei with e' | lt
    · refine .inl ⟨e', by rw [e']; exact rng_end, ?_⟩
      rw [e'] at g3
      have er : rowD (condR many i j way s (decide (kind = 2))) = .tup [.tup (((List.range many).map fun k => s * (dv j i k : Rat)).map rq), rq (s * Rat.divInt way 12), .bl (decide (kind = 2))] := by
        rw [Rat.divInt_eq_div]
        rfl
      rw [er]
      generalize ((List.range many).map fun k => s * (dv j i k : Rat)).map rq = zs at *
      refine ss_cons (s_ret (Ok.of (a := .tup [.tup zs, rq (s * Rat.divInt way 12), .bl (decide (kind = 2))]) (h := h3) (by simp only [runFn, evSs, evS, evE, evT, evEs, evO, evG, evGs, b_ok, ix0, ix1, ix2', o_add', o_sub', c_lt', c_le', c_gt', c_ge', c_eq', c_ne', List.length_cons, List.length_nil, List.map_cons, List.map_nil, List.replicate, Nat.sub_self, Nat.add_sub_cancel, List.cons_append, List.nil_append, List.append_nil, List.getElem?_cons_zero, List.getElem?_cons_succ, List.set_cons_zero, List.set_cons_succ, if_true, if_false, ite_true, ite_false, reduceIte, Nat.reduceAdd, Nat.reduceSub, Nat.reduceLT, Nat.zero_add, Bool.true_and, Bool.and_true, bf2, tupleD, lstAt_of g3, rt, tm s h3 hs]) ?_))
      exact ⟨rfl, k1.past k3 fun i hi => .inr (by rw [List.mem_singleton.mp hi, ← ha0]; exact Nat.le_refl _)⟩
    · refine .inr ⟨lt, .int (0 + t), rng_next lt, ?_⟩
      dsimp only
      rw [List.range_succ, List.map_append, List.map_append, show List.map rq (List.map (fun k => s * (dv j i k : Rat)) [t]) = [rq (s * (dv j i t : Rat))] from rfl]
      have sz : (((List.range t).map fun k => s * (dv j i k : Rat)).map rq).length < sizeLine := by
        rw [List.length_map, List.length_map, List.length_range]
        have : (500 : Nat) < sizeLine := by decide
        omega
      generalize ((List.range t).map fun k => s * (dv j i k : Rat)).map rq = zs at *
      refine Ok.bind (Ok.of (a := [some (.int (many : Int)), some (.int (i : Int)), some (.int (j : Int)), some (.int way), some (rq f), some (.int kind), some (rq s), some (.ref a0), some (.int (t : Int))]) (h := h3) (by simp only [runFn, evSs, evS, evE, evT, evEs, evO, evG, evGs, b_ok, ix0, ix1, ix2', o_add', o_sub', c_lt', c_le', c_gt', c_ge', c_eq', c_ne', List.length_cons, List.length_nil, List.map_cons, List.map_nil, List.replicate, Nat.sub_self, Nat.add_sub_cancel, List.cons_append, List.nil_append, List.append_nil, List.getElem?_cons_zero, List.getElem?_cons_succ, List.set_cons_zero, List.set_cons_succ, if_true, if_false, ite_true, ite_false, reduceIte, Nat.reduceAdd, Nat.reduceSub, Nat.reduceLT, Nat.zero_add, Bool.true_and, Bool.and_true, Int.zero_add]) ?_)
      dsimp only
      have z0 : D.tup [.int 0, .int 1] = rq 0 := rfl
      have g4 := get_old (t := [O.lst [rq 0, rq s, rq (-s)]]) g3
      have gn : (h3 ++ [O.lst [rq 0, rq s, rq (-s)]])[h3.length]? = some (O.lst [rq 0, rq s, rq (-s)]) := get_new
      have k4 : Keep [a0] h1 (h3 ++ [O.lst [rq 0, rq s, rq (-s)]]) := k3.trans (Keep.app _)
      have m2 : ∀ x, mulOk 2 x = true := fun x => mul64 (.inl ⟨by decide, by decide⟩)
      have key : ∃ p : Nat, ∃ hp : p < 3, (if decide ((t : Int) = (j : Int)) = true then (1 : Int) else 0) + 2 * (if decide ((t : Int) = (i : Int)) = true then (1 : Int) else 0) = (p : Int) ∧ ([rq 0, rq s, rq (-s)] : List D)[p] = rq (s * (dv j i t : Rat)) := by
        by_cases c1 : t = j
        · have c2 : t ≠ i := by omega
          refine ⟨1, by decide, by simp [c1]; omega, ?_⟩
          have : dv j i t = 1 := by unfold dv; simp [c1]; omega
          rw [this, cast1]
          show rq s = _
          congr 1; grind
        · by_cases c2 : t = i
          · refine ⟨2, by decide, by simp [c2]; omega, ?_⟩
            have : dv j i t = -1 := by unfold dv; simp [c2]; omega
            rw [this, castm1]
            show rq (-s) = _
            congr 1; grind
          · refine ⟨0, by decide, by simp; omega, ?_⟩
            have : dv j i t = 0 := by unfold dv; simp [c1, c2]
            rw [this, cast0]
            show rq 0 = _
            congr 1; grind
      obtain ⟨p, hp, e1, e2⟩ := key
      have ip := ix_ref (k := p) gn hp
      rw [e2, ← e1] at ip
      have ap := m_append (y := rq (s * (dv j i t : Rat))) g4 sz
      generalize rq (s * (dv j i t : Rat)) = y at *
      generalize hh4 : h3 ++ [O.lst [rq 0, rq s, rq (-s)]] = h4 at *
      refine ss_cons (s_expr (Ok.of (a := .non) (h := h4.set a0 (.lst (zs ++ [y]))) (by simp only [runFn, evSs, evS, evE, evT, evEs, evO, evG, evGs, b_ok, ix0, ix1, ix2', o_add', o_sub', c_lt', c_le', c_gt', c_ge', c_eq', c_ne', List.length_cons, List.length_nil, List.map_cons, List.map_nil, List.replicate, Nat.sub_self, Nat.add_sub_cancel, List.cons_append, List.nil_append, List.append_nil, List.getElem?_cons_zero, List.getElem?_cons_succ, List.set_cons_zero, List.set_cons_succ, if_true, if_false, ite_true, ite_false, reduceIte, Nat.reduceAdd, Nat.reduceSub, Nat.reduceLT, Nat.zero_add, Bool.true_and, Bool.and_true, is_lst g3, z0, ng, hh4, b_intb, o_mul' (m2 _), ip, ap]) ?_))
      exact ss_nil ⟨⟨_, rfl⟩, get_set g4, k4.trans (Keep.set (by simp))⟩
  rcases hk with rfl | rfl | rfl
  · refine ss_cons (s_if (Ok.of (a := false) (h := h) (by simp only [runFn, evSs, evS, evE, evT, evEs, evO, evG, evGs, b_ok, ix0, ix1, ix2', o_add', o_sub', c_lt', c_le', c_gt', c_ge', c_eq', c_ne', List.length_cons, List.length_nil, List.map_cons, List.map_nil, List.replicate, Nat.sub_self, Nat.add_sub_cancel, List.cons_append, List.nil_append, List.append_nil, List.getElem?_cons_zero, List.getElem?_cons_succ, List.set_cons_zero, List.set_cons_succ, if_true, if_false, ite_true, ite_false, reduceIte, Nat.reduceAdd, Nat.reduceSub, Nat.reduceLT, Nat.zero_add, Bool.true_and, Bool.and_true, show decide ((0 : Int) = 1) = false from rfl]) ?_))
    rw [if_neg Bool.false_ne_true]
    refine ss_nil ?_
    have := rest f hf
    rw [if_neg (by decide)]
    exact this
  · refine ss_cons (s_if (Ok.of (a := true) (h := h) (by simp only [runFn, evSs, evS, evE, evT, evEs, evO, evG, evGs, b_ok, ix0, ix1, ix2', o_add', o_sub', c_lt', c_le', c_gt', c_ge', c_eq', c_ne', List.length_cons, List.length_nil, List.map_cons, List.map_nil, List.replicate, Nat.sub_self, Nat.add_sub_cancel, List.cons_append, List.nil_append, List.append_nil, List.getElem?_cons_zero, List.getElem?_cons_succ, List.set_cons_zero, List.set_cons_succ, if_true, if_false, ite_true, ite_false, reduceIte, Nat.reduceAdd, Nat.reduceSub, Nat.reduceLT, Nat.zero_add, Bool.true_and, Bool.and_true, decide_true]) ?_))
    rw [if_pos rfl]
    (refine ss_cons (s_asg (by simp) (Ok.of (by ((simp only [runFn, evSs, evS, evE, evT, evEs, evO, evG, evGs, b_ok, ix0, ix1, ix2', o_add', o_sub', c_lt', c_le', c_gt', c_ge', c_eq', c_ne', List.length_cons, List.length_nil, List.map_cons, List.map_nil, List.replicate, Nat.sub_self, Nat.add_sub_cancel, List.cons_append, List.nil_append, List.append_nil, List.getElem?_cons_zero, List.getElem?_cons_succ, List.set_cons_zero, List.set_cons_succ, if_true, if_false, ite_true, ite_false, reduceIte, Nat.reduceAdd, Nat.reduceSub, Nat.reduceLT, Nat.zero_add, Bool.true_and, Bool.and_true, ng]) <;> rfl)) ?_)); dsimp only [List.set_cons_zero, List.set_cons_succ])
    refine ss_nil ?_
    have := rest (-f) (sm_neg hf)
    rw [if_pos rfl]
    exact this
  · refine ss_cons (s_if (Ok.of (a := false) (h := h) (by simp only [runFn, evSs, evS, evE, evT, evEs, evO, evG, evGs, b_ok, ix0, ix1, ix2', o_add', o_sub', c_lt', c_le', c_gt', c_ge', c_eq', c_ne', List.length_cons, List.length_nil, List.map_cons, List.map_nil, List.replicate, Nat.sub_self, Nat.add_sub_cancel, List.cons_append, List.nil_append, List.append_nil, List.getElem?_cons_zero, List.getElem?_cons_succ, List.set_cons_zero, List.set_cons_succ, if_true, if_false, ite_true, ite_false, reduceIte, Nat.reduceAdd, Nat.reduceSub, Nat.reduceLT, Nat.zero_add, Bool.true_and, Bool.and_true, show decide ((2 : Int) = 1) = false from rfl]) ?_))
    rw [if_neg Bool.false_ne_true]
    refine ss_nil ?_
    have := rest f hf
    rw [if_neg (by decide)]
    exact this
/-! ### what a condition says -/
theorem condR_co {many i j : Nat} {way : Int} {s : Rat} {b : Bool} {k : Nat} (hk : k < many) : co (condR many i j way s b).c k = s * (dv j i k : Rat) := by
  show co ((List.range many).map fun k => s * (dv j i k : Rat)) k = _
  rw [getQ (by rw [List.length_map, List.length_range]; exact hk), List.getElem_map, List.getElem_range]
theorem condR_len {many i j : Nat} {way : Int} {s : Rat} {b : Bool} : (condR many i j way s b).c.length = many := by
  show ((List.range many).map fun k => s * (dv j i k : Rat)).length = _
  rw [List.length_map, List.length_range]
theorem dot_cond {many i j : Nat} {way : Int} {s : Rat} {b : Bool} {y : Nat → Rat} : ∀ m, m ≤ many → i ≠ j → dot m (condR many i j way s b).c y = s * ((if j < m then y j else 0) - (if i < m then y i else 0))
  | 0, _, _ => by show (0 : Rat) = _; rw [if_neg (by omega), if_neg (by omega)]; grind
  | m + 1, hm, hij => by
    show dot m _ y + co _ m * y m = _
    rw [dot_cond m (by omega) hij, condR_co (by omega)]
    by_cases c1 : m = j
    · subst c1
      have : dv m i m = 1 := by unfold dv; simp; omega
      rw [this, cast1, if_neg (Nat.lt_irrefl m), if_pos (Nat.lt_succ_self m)]
      by_cases c2 : i < m
      · rw [if_pos c2, if_pos (by omega)]; grind
      · rw [if_neg c2, if_neg (by omega)]; grind
    · by_cases c2 : m = i
      · subst c2
        have : dv j m m = -1 := by unfold dv; simp; omega
        rw [this, castm1, if_neg (Nat.lt_irrefl m), if_pos (Nat.lt_succ_self m)]
        by_cases c3 : j < m
        · rw [if_pos c3, if_pos (by omega)]; grind
        · rw [if_neg c3, if_neg (by omega)]; grind
      · have : dv j i m = 0 := by unfold dv; simp [c1, c2]
        rw [this, cast0]
        by_cases c3 : j < m <;> by_cases c4 : i < m
        · rw [if_pos c3, if_pos c4, if_pos (by omega), if_pos (by omega)]; grind
        · rw [if_pos c3, if_neg c4, if_pos (by omega), if_neg (by omega)]; grind
        · rw [if_neg c3, if_pos c4, if_neg (by omega), if_pos (by omega)]; grind
        · rw [if_neg c3, if_neg c4, if_neg (by omega), if_neg (by omega)]; grind
theorem sat_cond {many i j : Nat} {way : Int} {s : Rat} {b : Bool} {y : Nat → Rat} (hi : i ≤ many) (hj : j ≤ many) (hij : i ≠ j) (hs : s ≠ 0) :
    sat many y (condR many i j way s b) ↔ if b = true then toX many y j - toX many y i = (way : Rat) else s * (toX many y j - toX many y i) ≤ s * (way : Rat) := by
  have d := dot_cond (way := way) (s := s) (b := b) (y := y) many (Nat.le_refl _) hij
  have e : toX many y j - toX many y i = 12 * ((if j < many then y j else 0) - (if i < many then y i else 0)) := by
    unfold toX
    by_cases c3 : j < many <;> by_cases c4 : i < many
    · rw [if_pos c3, if_pos c4, if_pos c3, if_pos c4]; grind
    · rw [if_pos c3, if_neg c4, if_pos c3, if_neg c4]; grind
    · rw [if_neg c3, if_pos c4, if_neg c3, if_pos c4]; grind
    · rw [if_neg c3, if_neg c4, if_neg c3, if_neg c4]; grind
  unfold sat
  rw [e, d]
  have hb : (condR many i j way s b).b = s * ((way : Rat) / 12) := rfl
  have hj' : (condR many i j way s b).j = b := rfl
  rw [hb, hj']
  generalize (if j < many then y j else 0) - (if i < many then y i else 0) = u
  cases b with
  | true =>
    rw [if_pos rfl, if_pos rfl]
    constructor
    · intro h
      have : u = (way : Rat) / 12 := by
        have h3 : s * (u - (way : Rat) / 12) = 0 := by grind
        rcases Rat.mul_eq_zero.mp h3 with h4 | h4
        · exact absurd h4 hs
        · grind
      grind
    · intro h
      have : u = (way : Rat) / 12 := by grind
      rw [this]
  | false =>
    rw [if_neg Bool.false_ne_true, if_neg Bool.false_ne_true]
    constructor
    · intro h
      have : 12 * (s * u) ≤ 12 * (s * ((way : Rat) / 12)) := Rat.mul_le_mul_of_nonneg_left h (by decide)
      grind
    · intro h
      grind
end K00
set_option Elab.async false
set_option linter.all false
set_option maxRecDepth 100000
set_option maxHeartbeats 2000000
/-! K01C: the matrix of the law, hidden values, a pick. -/
namespace K00
open SF PySem
section
variable {call : Nat → List D → Hh → R (D × Hh)} {gl : List D} {e : En} {h : Hh}
/-- a comprehension whose items are made with the heap -/
theorem comp_run {elt : E} {tg : T} {it : I} {own : List Nat} {J : SF.It} {N : Nat} {d : Nat → D} (Inv : Nat → List D → Hh → Prop) (hi : evI call gl it e h = .ok (J, h)) (h1 : ∀ i, i < N → ∀ h', It.next h' J i = some (some (d i))) (h2 : ∀ h', It.next h' J N = some none) (hm : J.most h = N)
    (h0 : Inv 0 [] h) (step : ∀ i acc h', i < N → Inv i acc h' → Ok (evG call gl tg (d i) (wipeE e own) h' >>= fun q => evE call gl elt q.1 q.2) fun y h'' => acc.length < sizeLine ∧ Inv (i + 1) (acc ++ [y]) h'') :
    Ok (evE call gl (.comp elt tg it .nil own) e h) fun d h' => ∃ ys h0, d = .ref h0.length ∧ h' = h0 ++ [.lst ys] ∧ Inv N ys h0 := by
  unfold evE
  rw [hi, b_ok]
  refine Ok.seq (P := fun ds h' => Inv N ds h') ?_ fun ds h' q => Ok.pure ⟨ds, h', rfl, rfl, q⟩
  dsimp only
  rw [hm]
  refine loopC_ok Inv N (fun i acc h' q le => ?_) (N + 1) 0 [] h h0 (Nat.zero_le _) (by omega)
  rcases Nat.eq_or_lt_of_le le with e' | lt
  · subst e'
    exact .inl ⟨rfl, h2 _, q⟩
  · refine .inr ⟨lt, d i, h1 i lt _, ?_⟩
    have st := step i acc h' lt q
    obtain ⟨y, h'', e2, q1, q2⟩ := st
    refine Ok.of (a := some y) (h := h'') ?_ ⟨q1, q2⟩
    cases hg : evG call gl tg (d i) (wipeE e own) h' with
    | stuck => rw [hg] at e2; cases e2
    | exc c fs hx => rw [hg] at e2; cases e2
    | ok p =>
      rw [hg, b_ok] at e2
      rw [b_ok]
      unfold evC
      rw [b_ok]
      dsimp only
      rw [if_pos rfl, e2, b_ok]
end
/-- nothing known yet -/
def M0 : Mx := fun a b => if a = b then some 0 else none
def rowE : E := .comp (.ix (.lst (.cons (.lit .non) (.cons (.lit (.int 0)) .nil))) (.bf .int (.cons (.cmp .eq (.var 3) (.var 4)) .nil))) (.var 3) (.rng (.lit (.int 0)) (.bin .add (.var 1) (.lit (.int 1)))) .nil [3]
theorem rowE_ok {call : Nat → List D → Hh → R (D × Hh)} {many j : Nat} {a x3 : Option D} {dk : D} {t : List (Option D)} {h : Hh} (hm : many ≤ 500) :
    Ok (evE call gvals rowE (some dk :: some (.int (many : Int)) :: a :: x3 :: some (.int (j : Int)) :: t) h) fun d h' => ∃ r, d = .ref r ∧ h.length ≤ r ∧ h'[r]? = some (O.lst ((List.range (many + 1)).map fun b => oi (M0 j b))) ∧ Keep [] h h' := by
  unfold rowE
  refine (comp_run (J := .rng 0 1 (((many : Int) + 1) - 0).toNat) (N := many + 1) (d := fun t => .int (0 + (t : Int))) (fun i acc h' => acc = (List.range i).map (fun b => oi (M0 j b)) ∧ Keep [] h h') (rng_eq rfl (by simp only [runFn, evSs, evS, evE, evT, evEs, evO, evG, evGs, b_ok, ix0, ix1, ix2', o_add', o_sub', c_lt', c_le', c_gt', c_ge', c_eq', c_ne', List.length_cons, List.length_nil, List.map_cons, List.map_nil, List.replicate, Nat.sub_self, Nat.add_sub_cancel, List.cons_append, List.nil_append, List.append_nil, List.getElem?_cons_zero, List.getElem?_cons_succ, List.set_cons_zero, List.set_cons_succ, if_true, if_false, ite_true, ite_false, reduceIte, Nat.reduceAdd, Nat.reduceSub, Nat.reduceLT, Nat.zero_add, Bool.true_and, Bool.and_true]) (by decide) (by decide) (by omega) (by omega)) (fun i hi h' => rng_next (by omega)) (fun h' => ?_) ?_ ⟨rfl, Keep.refl⟩ ?_).imp fun d h' q => ?_
  · have : (((many : Int) + 1) - 0).toNat = many + 1 := by omega
    rw [this]; exact rng_end
  · show (((many : Int) + 1) - 0).toNat = many + 1
    omega
  · rintro i acc h' lt ⟨rfl, k⟩
    refine Ok.bind (Ok.of (a := some dk :: some (.int (many : Int)) :: a :: some (.int (0 + (i : Int))) :: some (.int (j : Int)) :: t) (h := h') (by ((simp only [runFn, evSs, evS, evE, evT, evEs, evO, evG, evGs, b_ok, ix0, ix1, ix2', o_add', o_sub', c_lt', c_le', c_gt', c_ge', c_eq', c_ne', List.length_cons, List.length_nil, List.map_cons, List.map_nil, List.replicate, Nat.sub_self, Nat.add_sub_cancel, List.cons_append, List.nil_append, List.append_nil, List.getElem?_cons_zero, List.getElem?_cons_succ, List.set_cons_zero, List.set_cons_succ, if_true, if_false, ite_true, ite_false, reduceIte, Nat.reduceAdd, Nat.reduceSub, Nat.reduceLT, Nat.zero_add, Bool.true_and, Bool.and_true, wipeE]) <;> rfl)) ?_)
    have gn : (h' ++ [O.lst [.non, .int 0]])[h'.length]? = some (O.lst [.non, .int 0]) := get_new
    refine Ok.of (a := oi (M0 j i)) (h := h' ++ [O.lst [.non, .int 0]]) ?_ ⟨?_, ?_, k.trans (Keep.app _)⟩
    · by_cases c : i = j
      · have d1 : decide ((0 : Int) + (i : Int) = (j : Int)) = true := decide_eq_true (by omega)
        have i1 := ix_ref (k := 1) gn (by decide)
        have em : M0 j i = some 0 := if_pos c.symm
        rw [em]
        simp only [runFn, evSs, evS, evE, evT, evEs, evO, evG, evGs, b_ok, ix0, ix1, ix2', o_add', o_sub', c_lt', c_le', c_gt', c_ge', c_eq', c_ne', List.length_cons, List.length_nil, List.map_cons, List.map_nil, List.replicate, Nat.sub_self, Nat.add_sub_cancel, List.cons_append, List.nil_append, List.append_nil, List.getElem?_cons_zero, List.getElem?_cons_succ, List.set_cons_zero, List.set_cons_succ, if_true, if_false, ite_true, ite_false, reduceIte, Nat.reduceAdd, Nat.reduceSub, Nat.reduceLT, Nat.zero_add, Bool.true_and, Bool.and_true, d1, b_intb]
        exact i1
      · have d1 : decide ((0 : Int) + (i : Int) = (j : Int)) = false := decide_eq_false (by omega)
        have i1 := ix_ref (k := 0) gn (by decide)
        have em : M0 j i = none := if_neg fun q => c q.symm
        rw [em]
        simp only [runFn, evSs, evS, evE, evT, evEs, evO, evG, evGs, b_ok, ix0, ix1, ix2', o_add', o_sub', c_lt', c_le', c_gt', c_ge', c_eq', c_ne', List.length_cons, List.length_nil, List.map_cons, List.map_nil, List.replicate, Nat.sub_self, Nat.add_sub_cancel, List.cons_append, List.nil_append, List.append_nil, List.getElem?_cons_zero, List.getElem?_cons_succ, List.set_cons_zero, List.set_cons_succ, if_true, if_false, ite_true, ite_false, reduceIte, Nat.reduceAdd, Nat.reduceSub, Nat.reduceLT, Nat.zero_add, Bool.true_and, Bool.and_true, d1, b_intb, Bool.false_eq_true]
        exact i1
    · rw [List.length_map, List.length_range]
      have : (501 : Nat) < sizeLine := by decide
      omega
    · rw [List.range_succ, List.map_append]
      rfl
  · obtain ⟨ys, h0, rfl, rfl, rfl, k⟩ := q
    exact ⟨_, rfl, k.1, get_new, k.trans (Keep.app _)⟩
theorem far_ok {call : Nat → List D → Hh → R (D × Hh)} {many : Nat} {a x3 x4 : Option D} {dk : D} {t : List (Option D)} {h : Hh} (hm : many ≤ 500) :
    Ok (evE call gvals (.comp rowE (.var 4) (.rng (.lit (.int 0)) (.bin .add (.var 1) (.lit (.int 1)))) .nil [4]) (some dk :: some (.int (many : Int)) :: a :: x3 :: x4 :: t) h) fun d h' => ∃ f rs, d = .ref f ∧ h.length ≤ f ∧ (∀ r ∈ rs, h.length ≤ r) ∧ Mat h' f (many + 1) rs M0 ∧ Keep [] h h' := by
  refine (comp_run (J := .rng 0 1 (((many : Int) + 1) - 0).toNat) (N := many + 1) (d := fun t => .int (0 + (t : Int))) (fun i acc h' => ∃ rs : List Nat, acc = rs.map D.ref ∧ rs.length = i ∧ rs.Nodup ∧ (∀ r ∈ rs, h.length ≤ r ∧ r < h'.length) ∧ (∀ (p r : Nat), rs[p]? = some r → h'[r]? = some (O.lst ((List.range (many + 1)).map fun b => oi (M0 p b)))) ∧ Keep [] h h') (rng_eq rfl (by simp only [runFn, evSs, evS, evE, evT, evEs, evO, evG, evGs, b_ok, ix0, ix1, ix2', o_add', o_sub', c_lt', c_le', c_gt', c_ge', c_eq', c_ne', List.length_cons, List.length_nil, List.map_cons, List.map_nil, List.replicate, Nat.sub_self, Nat.add_sub_cancel, List.cons_append, List.nil_append, List.append_nil, List.getElem?_cons_zero, List.getElem?_cons_succ, List.set_cons_zero, List.set_cons_succ, if_true, if_false, ite_true, ite_false, reduceIte, Nat.reduceAdd, Nat.reduceSub, Nat.reduceLT, Nat.zero_add, Bool.true_and, Bool.and_true]) (by decide) (by decide) (by omega) (by omega)) (fun i hi h' => rng_next (by omega)) (fun h' => ?_) ?_ ⟨[], rfl, rfl, List.nodup_nil, fun r hr => (by cases hr), fun p r e => by simp at e, Keep.refl⟩ ?_).imp fun d h' q => ?_
  · have : (((many : Int) + 1) - 0).toNat = many + 1 := by omega
    rw [this]; exact rng_end
  · show (((many : Int) + 1) - 0).toNat = many + 1
    omega
  · rintro i acc h' lt ⟨rs, rfl, q1, q2, q3, q4, k⟩
    refine Ok.bind (Ok.of (a := some dk :: some (.int (many : Int)) :: a :: x3 :: some (.int (i : Int)) :: t) (h := h') (by ((simp only [runFn, evSs, evS, evE, evT, evEs, evO, evG, evGs, b_ok, ix0, ix1, ix2', o_add', o_sub', c_lt', c_le', c_gt', c_ge', c_eq', c_ne', List.length_cons, List.length_nil, List.map_cons, List.map_nil, List.replicate, Nat.sub_self, Nat.add_sub_cancel, List.cons_append, List.nil_append, List.append_nil, List.getElem?_cons_zero, List.getElem?_cons_succ, List.set_cons_zero, List.set_cons_succ, if_true, if_false, ite_true, ite_false, reduceIte, Nat.reduceAdd, Nat.reduceSub, Nat.reduceLT, Nat.zero_add, Bool.true_and, Bool.and_true, wipeE, Int.zero_add]) <;> rfl)) ?_)
    dsimp only
    refine (rowE_ok hm).imp fun d h2 q => ?_
    obtain ⟨r, rfl, r1, r2, r3⟩ := q
    refine ⟨?_, rs ++ [r], by rw [List.map_append]; rfl, by rw [List.length_append, q1]; rfl, ?_, ?_, fun p r' e => ?_, k.trans r3⟩
    · rw [List.length_map, q1]
      have : (501 : Nat) < sizeLine := by decide
      omega
    · refine List.nodup_append.mpr ⟨q2, by simp, fun x hx y hy => ?_⟩
      have := (q3 x hx).2
      rw [List.mem_singleton.mp hy]
      omega
    · intro x hx
      rcases List.mem_append.mp hx with hx | hx
      · have := q3 x hx
        have := r3.1
        omega
      · rw [List.mem_singleton.mp hx]
        have := k.1
        have := lt_of r2
        omega
    · by_cases c : p < rs.length
      · rw [List.getElem?_append_left c] at e
        exact r3.get (q4 p r' e) (by simp)
      · rw [List.getElem?_append_right (by omega)] at e
        have hp : p - rs.length = 0 := by
          have := (List.getElem?_eq_some_iff.mp e).1
          rw [List.length_singleton] at this
          omega
        rw [hp] at e
        cases e
        have : p = i := by omega
        rw [this]
        exact r2
  · obtain ⟨ys, h0, rfl, rfl, rs, rfl, q1, q2, q3, q4, k⟩ := q
    refine ⟨_, rs, rfl, k.1, fun r hr => (q3 r hr).1, ⟨q1, q2, fun hf => ?_, get_new, fun p r e => get_old (q4 p r e)⟩, k.trans (Keep.app _)⟩
    have := (q3 _ hf).2
    omega
/-- hidden values: ints of at most 30 -/
def hidE : E := .comp (.bin .sub (.call 29 (.cons (.var 0) (.cons (.lit (.int 61)) .nil)) []) (.lit (.int 30))) (.var 6) (.rng (.lit (.int 0)) (.var 1)) .nil [6]
theorem hid_ok {n many dk : Nat} {call : Nat → List D → Hh → R (D × Hh)} (hcall : call = C (n + 1)) {x2 x3 x4 x5 x6 : Option D} {t : List (Option D)} {h : Hh} {xs : List D} (hd : h[dk]? = some (O.lst xs)) (hi : Ints xs) (hm : many ≤ 500) :
    Ok (evE call gvals hidE (some (.ref dk) :: some (.int (many : Int)) :: x2 :: x3 :: x4 :: x5 :: x6 :: t) h) fun d h' => ∃ (a : Nat) (hs : List Int), d = .ref a ∧ h.length ≤ a ∧ h'[a]? = some (O.lst (hs.map D.int)) ∧ hs.length = many ∧ (∀ v ∈ hs, -30 ≤ v ∧ v ≤ 30) ∧ (∃ ys, h'[dk]? = some (O.lst ys) ∧ Ints ys) ∧ Keep [dk] h h' := by
  unfold hidE
  have tk := fun (xs : List D) (h : Hh) (hd : h[dk]? = some (O.lst xs)) (hi : Ints xs) => take_ok (n := n) (m := 61) hd hi (by decide)
  rw [← hcall] at tk
  refine (comp_run (J := .rng 0 1 ((many : Int) - 0).toNat) (N := many) (d := fun t => .int (0 + (t : Int))) (fun i acc h' => ∃ hs : List Int, acc = hs.map D.int ∧ hs.length = i ∧ (∀ v ∈ hs, -30 ≤ v ∧ v ≤ 30) ∧ (∃ ys, h'[dk]? = some (O.lst ys) ∧ Ints ys) ∧ Keep [dk] h h') (rng_eq rfl rfl (by decide) (by decide) (by omega) (by omega)) (fun i hi h' => rng_next (by omega)) (fun h' => ?_) rng_fmt ⟨[], rfl, rfl, fun v hv => (by cases hv), ⟨xs, hd, hi⟩, Keep.refl⟩ ?_).imp fun d h' q => ?_
  · rw [rng_fmt]; exact rng_end
  · rintro i acc h' lt ⟨hs, rfl, q1, q2, ⟨ys, q3, q4⟩, k⟩
    refine Ok.bind (Ok.of (a := some (.ref dk) :: some (.int (many : Int)) :: x2 :: x3 :: x4 :: x5 :: some (.int (0 + (i : Int))) :: t) (h := h') (by ((simp only [runFn, evSs, evS, evE, evT, evEs, evO, evG, evGs, b_ok, ix0, ix1, ix2', o_add', o_sub', c_lt', c_le', c_gt', c_ge', c_eq', c_ne', List.length_cons, List.length_nil, List.map_cons, List.map_nil, List.replicate, Nat.sub_self, Nat.add_sub_cancel, List.cons_append, List.nil_append, List.append_nil, List.getElem?_cons_zero, List.getElem?_cons_succ, List.set_cons_zero, List.set_cons_succ, if_true, if_false, ite_true, ite_false, reduceIte, Nat.reduceAdd, Nat.reduceSub, Nat.reduceLT, Nat.zero_add, Bool.true_and, Bool.and_true, wipeE]) <;> rfl)) ?_)
    dsimp only
    have e1 : evE call gvals (.call 29 (.cons (.var 0) (.cons (.lit (.int 61)) .nil)) []) (some (.ref dk) :: some (.int (many : Int)) :: x2 :: x3 :: x4 :: x5 :: some (.int (0 + (i : Int))) :: t) h' = call 29 [.ref dk, .int 61] h' := by simp only [runFn, evSs, evS, evE, evT, evEs, evO, evG, evGs, b_ok, ix0, ix1, ix2', o_add', o_sub', c_lt', c_le', c_gt', c_ge', c_eq', c_ne', List.length_cons, List.length_nil, List.map_cons, List.map_nil, List.replicate, Nat.sub_self, Nat.add_sub_cancel, List.cons_append, List.nil_append, List.append_nil, List.getElem?_cons_zero, List.getElem?_cons_succ, List.set_cons_zero, List.set_cons_succ, if_true, if_false, ite_true, ite_false, reduceIte, Nat.reduceAdd, Nat.reduceSub, Nat.reduceLT, Nat.zero_add, Bool.true_and, Bool.and_true]
    unfold evE
    rw [e1]
    refine Ok.bind ((tk ys h' q3 q4).imp fun d h2 q => ?_)
    obtain ⟨⟨r, rfl, r1, r2⟩, zs, rfl, r3⟩ := q
    refine Ok.of (a := .int (r - 30)) (h := h'.set dk (.lst zs)) (by simp only [runFn, evSs, evS, evE, evT, evEs, evO, evG, evGs, b_ok, ix0, ix1, ix2', o_add', o_sub', c_lt', c_le', c_gt', c_ge', c_eq', c_ne', List.length_cons, List.length_nil, List.map_cons, List.map_nil, List.replicate, Nat.sub_self, Nat.add_sub_cancel, List.cons_append, List.nil_append, List.append_nil, List.getElem?_cons_zero, List.getElem?_cons_succ, List.set_cons_zero, List.set_cons_succ, if_true, if_false, ite_true, ite_false, reduceIte, Nat.reduceAdd, Nat.reduceSub, Nat.reduceLT, Nat.zero_add, Bool.true_and, Bool.and_true]) ⟨?_, hs ++ [r - 30], by rw [List.map_append]; rfl, by rw [List.length_append, q1]; rfl, fun v hv => ?_, ⟨zs, get_set q3, r3⟩, k.trans (Keep.set (by simp))⟩
    · rw [List.length_map, q1]
      have : (500 : Nat) < sizeLine := by decide
      omega
    · rcases List.mem_append.mp hv with hv | hv
      · exact q2 v hv
      · rw [List.mem_singleton.mp hv]; omega
  · obtain ⟨ys, h0, rfl, rfl, hs, rfl, q1, q2, ⟨zs, q3, q4⟩, k⟩ := q
    exact ⟨_, hs, rfl, k.1, get_new, q1, q2, ⟨zs, get_old q3, q4⟩, k.trans (Keep.app _)⟩
theorem pick_ok {n dk b : Nat} {h : Hh} {xs zs : List D} (hd : h[dk]? = some (O.lst xs)) (hi : Ints xs) (hb : h[b]? = some (O.lst zs)) (hz : 0 < zs.length) (hne : b ≠ dk) : Ok (C (n + 2) 30 [.ref dk, .ref b] h) fun d h' => d ∈ zs ∧ ∃ ys, h' = h.set dk (.lst ys) ∧ Ints ys := by
  have tk := take_ok (n := n) (m := (zs.length : Int)) hd hi (by omega)
  refine C_ok (f := f__law_pick) rfl rfl fun call hcall => ?_
  rw [← hcall] at tk
  show Ok (evSs call gvals b__law_pick [some (.ref dk), some (.ref b)] h) _
  unfold b__law_pick
  refine ss_cons (s_ret ?_)
  have e1 : evE call gvals (.call 29 (.cons (.var 0) (.cons (.bf .len (.cons (.var 1) .nil)) .nil)) []) [some (.ref dk), some (.ref b)] h = call 29 [.ref dk, .int (zs.length : Int)] h := by simp only [runFn, evSs, evS, evE, evT, evEs, evO, evG, evGs, b_ok, ix0, ix1, ix2', o_add', o_sub', c_lt', c_le', c_gt', c_ge', c_eq', c_ne', List.length_cons, List.length_nil, List.map_cons, List.map_nil, List.replicate, Nat.sub_self, Nat.add_sub_cancel, List.cons_append, List.nil_append, List.append_nil, List.getElem?_cons_zero, List.getElem?_cons_succ, List.set_cons_zero, List.set_cons_succ, if_true, if_false, ite_true, ite_false, reduceIte, Nat.reduceAdd, Nat.reduceSub, Nat.reduceLT, Nat.zero_add, Bool.true_and, Bool.and_true, b_lenR hb]
  have e2 : evE call gvals (.ix (.var 1) (.call 29 (.cons (.var 0) (.cons (.bf .len (.cons (.var 1) .nil)) .nil)) [])) [some (.ref dk), some (.ref b)] h = (call 29 [.ref dk, .int (zs.length : Int)] h >>= fun q => ix2 (.ref b) q.1 q.2) := by
    rw [← e1]
    rfl
  rw [e2]
  refine Ok.bind (tk.imp fun d h2 q => ?_)
  obtain ⟨⟨r, rfl, r1, r2⟩, ys, rfl, r3⟩ := q
  obtain ⟨p, rfl⟩ : ∃ p : Nat, r = (p : Int) := ⟨r.toNat, by omega⟩
  have hp : p < zs.length := by omega
  have hb' : (h.set dk (.lst ys))[b]? = some (O.lst zs) := by rw [List.getElem?_set_ne (Ne.symm hne)]; exact hb
  exact Ok.of (ix_ref hb' hp) ⟨List.getElem_mem hp, ys, rfl, r3⟩
end K00
set_option Elab.async false
set_option linter.all false
set_option maxRecDepth 100000
set_option maxHeartbeats 2000000
/-! K01D: _law_differences. -/
namespace K00
open SF PySem
/-- what stands in the heap while conditions are drawn -/
structure Dst (many dk f hd cn : Nat) (rs : List Nat) (M : Mx) (cs : List D) (hs : List Int) (h : Hh) : Prop where
  deck : ∃ xs, h[dk]? = some (O.lst xs) ∧ Ints xs
  mat : Mat h f (many + 1) rs M
  hid : h[hd]? = some (O.lst (hs.map D.int))
  con : h[cn]? = some (O.lst cs)
  d1 : dk ≠ f ∧ dk ∉ rs ∧ dk ≠ hd ∧ dk ≠ cn
  d2 : hd ∉ rs ∧ cn ∉ rs ∧ cn ≠ hd ∧ cn ≠ f
section
variable {many dk f hd cn : Nat} {rs : List Nat} {M : Mx} {cs : List D} {hs : List Int} {h h' : Hh}
theorem Dst.keep (s : Dst many dk f hd cn rs M cs hs h) (k : Keep [] h h') : Dst many dk f hd cn rs M cs hs h' := by
  obtain ⟨xs, a, b⟩ := s.deck
  exact ⟨⟨xs, k.get a (by simp), b⟩, s.mat.keep k (by simp) (fun _ _ => by simp), k.get s.hid (by simp), k.get s.con (by simp), s.d1, s.d2⟩
theorem Dst.take (s : Dst many dk f hd cn rs M cs hs h) {ys : List D} (hy : Ints ys) : Dst many dk f hd cn rs M cs hs (h.set dk (.lst ys)) := by
  obtain ⟨xs, a, b⟩ := s.deck
  have k : Keep [dk] h (h.set dk (.lst ys)) := Keep.set (by simp)
  have ne : ∀ x, dk ≠ x → x ∉ [dk] := fun x q z => q (List.mem_singleton.mp z).symm
  exact ⟨⟨ys, get_set a, hy⟩, s.mat.keep k (ne f s.d1.1) (fun r hr => ne r fun q => s.d1.2.1 (q ▸ hr)), k.get s.hid (ne hd s.d1.2.2.1), k.get s.con (ne cn s.d1.2.2.2), s.d1, s.d2⟩
theorem Dst.near (s : Dst many dk f hd cn rs M cs hs h) {M' : Mx} (m : Mat h' f (many + 1) rs M') (k : Keep rs h h') : Dst many dk f hd cn rs M' cs hs h' := by
  obtain ⟨xs, a, b⟩ := s.deck
  exact ⟨⟨xs, k.get a s.d1.2.1, b⟩, m, k.get s.hid s.d2.1, k.get s.con s.d2.2.1, s.d1, s.d2⟩
theorem Dst.push (s : Dst many dk f hd cn rs M cs hs h) {cs' : List D} : Dst many dk f hd cn rs M cs' hs (h.set cn (.lst cs')) := by
  obtain ⟨xs, a, b⟩ := s.deck
  have k : Keep [cn] h (h.set cn (.lst cs')) := Keep.set (by simp)
  have ne : ∀ x, cn ≠ x → x ∉ [cn] := fun x q z => q (List.mem_singleton.mp z).symm
  exact ⟨⟨xs, k.get a (ne dk (Ne.symm s.d1.2.2.2)), b⟩, s.mat.keep k (ne f s.d2.2.2.2) (fun r hr => ne r fun q => s.d2.2.1 (q ▸ hr)), k.get s.hid (ne hd s.d2.2.2.1), get_set s.con, s.d1, s.d2⟩
theorem take_st {n : Nat} {m : Int} (s : Dst many dk f hd cn rs M cs hs h) (hm : 0 < m) : Ok (C (n + 1) 29 [.ref dk, .int m] h) fun d h' => ∃ r : Int, d = .int r ∧ 0 ≤ r ∧ r < m ∧ Dst many dk f hd cn rs M cs hs h' := by
  obtain ⟨xs, a, b⟩ := s.deck
  refine (take_ok (n := n) a b hm).imp fun d h' q => ?_
  obtain ⟨⟨r, rfl, r1, r2⟩, ys, rfl, r3⟩ := q
  exact ⟨r, rfl, r1, r2, s.take r3⟩
theorem ix_mem {b p : Nat} {L : List Int} {h : Hh} (hb : h[b]? = some (O.lst (L.map D.int))) (hp : p < L.length) : ∃ v ∈ L, ix2 (.ref b) (.int (p : Int)) h = .ok (.int v, h) := by
  have := ix_ref hb (k := p) (by rw [List.length_map]; exact hp)
  rw [List.getElem_map] at this
  exact ⟨L[p], List.getElem_mem hp, this⟩
/-- a drawn item of a fixed list -/
theorem lit_st {n : Nat} {call : Nat → List D → Hh → R (D × Hh)} (hcall : call = C (n + 1)) {e : En} {es : Es} {L : List Int} {m : Nat} (hm : 0 < m) (hL : m = L.length) (s : Dst many dk f hd cn rs M cs hs h) (h0 : e[0]? = some (some (.ref dk))) (hl : evE call gvals (.lst es) e h = .ok (.ref h.length, h ++ [.lst (L.map D.int)])) :
    Ok (evE call gvals (.ix (.lst es) (.call 29 (.cons (.var 0) (.cons (.lit (.int (m : Int))) .nil)) [])) e h) fun d h' => ∃ v ∈ L, d = .int v ∧ Dst many dk f hd cn rs M cs hs h' := by
  have s1 := s.keep (Keep.app [.lst (L.map D.int)])
  have gn : (h ++ [O.lst (L.map D.int)])[h.length]? = some (O.lst (L.map D.int)) := get_new
  obtain ⟨xs, a, b⟩ := s1.deck
  have tk := take_ok (n := n) (m := (m : Int)) a b (by omega)
  have ne : h.length ≠ dk := by
    obtain ⟨xs, a, b⟩ := s.deck
    have := lt_of a
    omega
  unfold evE
  rw [hl, b_ok]
  dsimp only
  have e1 : evE call gvals (.call 29 (.cons (.var 0) (.cons (.lit (.int (m : Int))) .nil)) []) e (h ++ [O.lst (L.map D.int)]) = call 29 [.ref dk, .int (m : Int)] (h ++ [O.lst (L.map D.int)]) := by simp only [runFn, evSs, evS, evE, evT, evEs, evO, evG, evGs, b_ok, ix0, ix1, ix2', o_add', o_sub', c_lt', c_le', c_gt', c_ge', c_eq', c_ne', List.length_cons, List.length_nil, List.map_cons, List.map_nil, List.replicate, Nat.sub_self, Nat.add_sub_cancel, List.cons_append, List.nil_append, List.append_nil, List.getElem?_cons_zero, List.getElem?_cons_succ, List.set_cons_zero, List.set_cons_succ, if_true, if_false, ite_true, ite_false, reduceIte, Nat.reduceAdd, Nat.reduceSub, Nat.reduceLT, Nat.zero_add, Bool.true_and, Bool.and_true, h0]
  rw [e1, hcall]
  refine Ok.bind (tk.imp fun d h' q => ?_)
  obtain ⟨⟨r, rfl, r1, r2⟩, ys, rfl, r3⟩ := q
  obtain ⟨p, rfl⟩ : ∃ p : Nat, r = (p : Int) := ⟨r.toNat, by omega⟩
  have gn' : ((h ++ [O.lst (L.map D.int)]).set dk (.lst ys))[h.length]? = some (O.lst (L.map D.int)) := by rw [List.getElem?_set_ne (Ne.symm ne)]; exact gn
  obtain ⟨v, hv, e2⟩ := ix_mem gn' (p := p) (by omega)
  exact Ok.of e2 ⟨v, hv, rfl, s1.take r3⟩
end
/-- the ratios that multiply -/
def facs : List Rat := [1, 2, 1 / 2, 3 / 4, 7 / 3]
theorem facs_D : facs.map rq = [.tup [.int 1, .int 1], .tup [.int 2, .int 1], .tup [.int 1, .int 2], .tup [.int 3, .int 4], .tup [.int 7, .int 3]] := by
  have e3 : (1 / 2 : Rat).num = 1 ∧ (1 / 2 : Rat).den = 2 := by decide +kernel
  have e4 : (3 / 4 : Rat).num = 3 ∧ (3 / 4 : Rat).den = 4 := by decide +kernel
  have e5 : (7 / 3 : Rat).num = 7 ∧ (7 / 3 : Rat).den = 3 := by decide +kernel
  have e1 : (1 : Rat).num = 1 ∧ (1 : Rat).den = 1 := by decide +kernel
  have e2 : (2 : Rat).num = 2 ∧ (2 : Rat).den = 1 := by decide +kernel
  unfold facs rq
  simp only [List.map_cons, List.map_nil, e1, e2, e3, e4, e5]
  rfl
/-- a raw condition -/
def Dc (n : Nat) (r : Row) : Prop := ∃ (i j : Nat) (way : Int) (f : Rat) (kind : Int), i ≤ n ∧ j ≤ n ∧ i ≠ j ∧ way.natAbs ≤ 128 ∧ f ∈ facs ∧ (kind = 0 ∨ kind = 1 ∨ kind = 2) ∧ r = condR n i j way (if kind = 1 then -f else f) (decide (kind = 2))
theorem fac_pos {f : Rat} (h : f ∈ facs) : 0 < f := by
  unfold facs at h
  simp only [List.mem_cons, List.not_mem_nil, or_false] at h
  rcases h with h | h | h | h | h <;> rw [h] <;> decide +kernel
theorem fac_sm {f : Rat} (h : f ∈ facs) : Sm 20 f := by
  unfold facs at h
  simp only [List.mem_cons, List.not_mem_nil, or_false] at h
  rcases h with h | h | h | h | h <;> rw [h] <;> unfold Sm <;> decide +kernel
/-- the bounds that a condition brings -/
def addM (M : Mx) (i j : Nat) (way kind : Int) : Mx :=
  let M1 := if kind = 1 then M else relax M i j way
  if kind = 0 then M1 else relax M1 j i (-way)
theorem add_iff {n i j : Nat} {M : Mx} {way kind : Int} {f : Rat} {l : List Row} (hi : i ≤ n) (hj : j ≤ n) (hij : i ≠ j) (hf : 0 < f) (hk : kind = 0 ∨ kind = 1 ∨ kind = 2) (rel : ∀ y, Sat n y l ↔ Sol (n + 1) M (toX n y)) :
    ∀ y, Sat n y (l ++ [condR n i j way (if kind = 1 then -f else f) (decide (kind = 2))]) ↔ Sol (n + 1) (addM M i j way kind) (toX n y) := fun y => by
  have e : Sat n y (l ++ [condR n i j way (if kind = 1 then -f else f) (decide (kind = 2))]) ↔ Sat n y l ∧ sat n y (condR n i j way (if kind = 1 then -f else f) (decide (kind = 2))) := by
    constructor
    · exact fun h => ⟨fun r hr => h r (List.mem_append_left _ hr), h _ (List.mem_append_right _ (by simp))⟩
    · rintro ⟨h1, h2⟩ r hr
      rcases List.mem_append.mp hr with q | q
      · exact h1 r q
      · rw [List.mem_singleton.mp q]; exact h2
  have cancel : ∀ a b : Rat, f * a ≤ f * b ↔ a ≤ b := fun a b => ⟨fun h => Rat.le_of_mul_le_mul_left h hf, fun h => Rat.mul_le_mul_of_nonneg_left h (Rat.le_of_lt hf)⟩
  rw [e, rel y]
  unfold addM
  rcases hk with rfl | rfl | rfl
  · rw [sat_cond hi hj hij (by rw [if_neg (by decide)]; grind)]
    simp only [show ((0 : Int) = 1) = False from by simp, show decide ((0 : Int) = 2) = false from rfl, if_false, if_true, Bool.false_eq_true]
    rw [relax_iff (by omega) (by omega), cancel]
  · rw [sat_cond hi hj hij (by rw [if_pos rfl]; grind)]
    simp only [show ((1 : Int) = 0) = False from by simp, show decide ((1 : Int) = 2) = false from rfl, if_false, if_true, Bool.false_eq_true]
    rw [relax_iff (by omega) (by omega), Rat.intCast_neg]
    have := cancel (-(toX n y j - toX n y i)) (-(way : Rat))
    constructor
    · rintro ⟨h1, h2⟩
      refine ⟨h1, ?_⟩
      have := this.mp (by grind)
      grind
    · rintro ⟨h1, h2⟩
      refine ⟨h1, ?_⟩
      have := this.mpr (by grind)
      grind
  · rw [sat_cond hi hj hij (by rw [if_neg (by decide)]; grind)]
    simp only [show ((2 : Int) = 1) = False from by simp, show ((2 : Int) = 0) = False from by simp, show decide ((2 : Int) = 2) = true from rfl, if_false, if_true]
    rw [relax_iff (by omega) (by omega), relax_iff (by omega) (by omega), Rat.intCast_neg]
    constructor
    · rintro ⟨h1, h2⟩
      exact ⟨⟨h1, by grind⟩, by grind⟩
    · rintro ⟨⟨h1, h2⟩, h3⟩
      exact ⟨h1, by grind⟩
end K00
set_option Elab.async false
set_option linter.all false
set_option maxRecDepth 100000
set_option maxHeartbeats 2000000
/-! K01E: _law_differences, the turns. -/
namespace K00
open SF PySem
section
variable {call : Nat → List D → Hh → R (D × Hh)} {gl : List D} {e : En} {h : Hh} {Q : D → Hh → Prop}
theorem e_bin {op : Op2} {a b : E} (k : Ok (evE call gl a e h) fun x h1 => Ok (evE call gl b e h1) fun y h2 => Ok (op2 op x y h2) Q) : Ok (evE call gl (.bin op a b) e h) Q := by
  unfold evE
  exact Ok.bind (k.imp fun x h1 q => Ok.bind q)
theorem e_int {a : E} (k : Ok (evE call gl a e h) fun x h1 => ∃ i : Int, x = .int i ∧ Q (.int i) h1) : Ok (evE call gl (.bf .int (.cons a .nil)) e h) Q := by
  obtain ⟨x, h1, e1, i, rfl, q⟩ := k
  refine Ok.of (a := .int i) (h := h1) ?_ q
  simp only [runFn, evSs, evS, evE, evT, evEs, evO, evG, evGs, b_ok, ix0, ix1, ix2', o_add', o_sub', c_lt', c_le', c_gt', c_ge', c_eq', c_ne', List.length_cons, List.length_nil, List.map_cons, List.map_nil, List.replicate, Nat.sub_self, Nat.add_sub_cancel, List.cons_append, List.nil_append, List.append_nil, List.getElem?_cons_zero, List.getElem?_cons_succ, List.set_cons_zero, List.set_cons_succ, if_true, if_false, ite_true, ite_false, reduceIte, Nat.reduceAdd, Nat.reduceSub, Nat.reduceLT, Nat.zero_add, Bool.true_and, Bool.and_true, e1, b_int]
end
theorem turn_ok {n many dk f hd cn : Nat} {rs : List Nat} {M : Mx} {l : List Row} {hs : List Int} {h : Hh} {call : Nat → List D → Hh → R (D × Hh)} (hcall : call = C (n + 4)) (hm : 0 < many) (hm2 : many ≤ 100) (s : Dst many dk f hd cn rs M (l.map rowD) hs h)
    (lh : hs.length = many + 1) (bh : ∀ v ∈ hs, -30 ≤ v ∧ v ≤ 30) (ll : l.length ≤ 100) {x3 x4 x6 x9 x10 x11 x12 x13 : Option D} {fr : Bool} :
    Ok (evSs call gvals (.cons (.asg (.var 3) (.call 29 (.cons (.var 0) (.cons (.bin .add (.var 1) (.lit (.int 1))) .nil)) [])) <|
      .cons (.asg (.var 4) (.bin .mod (.bf .int (.cons (.bin .add (.bin .add (.var 3) (.lit (.int 1))) (.call 29 (.cons (.var 0) (.cons (.var 1) .nil)) [])) .nil)) (.bin .add (.var 1) (.lit (.int 1))))) <|
      .cons (.asg (.var 10) (.ix (.lst (.cons (.lit (.int 0)) (.cons (.lit (.int 1)) (.cons (.lit (.int 0)) (.cons (.lit (.int 1)) (.cons (.lit (.int 2)) .nil)))))) (.call 29 (.cons (.var 0) (.cons (.lit (.int 5)) .nil)) []))) <|
      .cons (.asg (.var 11) (.bin .sub (.call 29 (.cons (.var 0) (.cons (.lit (.int 41)) .nil)) []) (.lit (.int 20)))) <|
      .cons (.ife (.not (.var 7)) (.cons (.asg (.var 12) (.ix (.lst (.cons (.lit (.int 0)) (.cons (.lit (.int 5)) (.cons (.lit (.int 16)) (.cons (.lit (.int 30)) .nil))))) (.call 29 (.cons (.var 0) (.cons (.lit (.int 4)) .nil)) []))) <|
          .cons (.asg (.var 11) (.bin .add (.bin .sub (.ix (.var 5) (.var 4)) (.ix (.var 5) (.var 3))) (.ix (.lst (.cons (.var 12) (.cons (.neg (.var 12)) (.cons (.lit (.int 0)) .nil)))) (.var 10)))) <|
          .nil) .nil) <|
      .cons (.ife (.cmp .ne (.var 10) (.lit (.int 1))) (.cons (.expr (.call 38 (.cons (.var 2) (.cons (.var 3) (.cons (.var 4) (.cons (.var 11) .nil)))) [])) <|
          .nil) .nil) <|
      .cons (.ife (.cmp .ne (.var 10) (.lit (.int 0))) (.cons (.expr (.call 38 (.cons (.var 2) (.cons (.var 4) (.cons (.var 3) (.cons (.neg (.var 11)) .nil)))) [])) <|
          .nil) .nil) <|
      .cons (.asg (.var 13) (.call 30 (.cons (.var 0) (.cons (.lst (.cons (.tup (.cons (.lit (.int 1)) (.cons (.lit (.int 1)) .nil))) (.cons (.tup (.cons (.lit (.int 2)) (.cons (.lit (.int 1)) .nil))) (.cons (.tup (.cons (.lit (.int 1)) (.cons (.lit (.int 2)) .nil))) (.cons (.tup (.cons (.lit (.int 3)) (.cons (.lit (.int 4)) .nil))) (.cons (.tup (.cons (.lit (.int 7)) (.cons (.lit (.int 3)) .nil))) .nil)))))) .nil)) [])) <|
      .cons (.expr (.bm .append (.var 8) (.cons (.call 40 (.cons (.var 1) (.cons (.var 3) (.cons (.var 4) (.cons (.var 11) (.cons (.var 13) (.cons (.var 10) .nil)))))) []) .nil))) <|
      .nil) [some (.ref dk), some (.int (many : Int)), some (.ref f), x3, x4, some (.ref hd), x6, some (.bl fr), some (.ref cn), x9, x10, x11, x12, x13] h) fun fl h' => ∃ (x3 x4 x10 x11 x12 x13 : Option D) (i j : Nat) (way : Int) (fa : Rat) (kind : Int),
        fl = .nx [some (.ref dk), some (.int (many : Int)), some (.ref f), x3, x4, some (.ref hd), x6, some (.bl fr), some (.ref cn), x9, x10, x11, x12, x13] ∧ i ≤ many ∧ j ≤ many ∧ i ≠ j ∧ way.natAbs ≤ 128 ∧ fa ∈ facs ∧ (kind = 0 ∨ kind = 1 ∨ kind = 2) ∧
        Dst many dk f hd cn rs (addM M i j way kind) ((l ++ [condR many i j way (if kind = 1 then -fa else fa) (decide (kind = 2))]).map rowD) hs h' := by
  have tk := fun {M : Mx} {cs : List D} {h : Hh} (m : Int) (hm : 0 < m) (s : Dst many dk f hd cn rs M cs hs h) => take_st (n := n + 3) s hm
  rw [← hcall] at tk
  have lt := fun {M : Mx} {cs : List D} {h : Hh} {e : En} {es : Es} {L : List Int} {m : Nat} (hm : 0 < m) (hL : m = L.length) (s : Dst many dk f hd cn rs M cs hs h) (h0 : e[0]? = some (some (.ref dk))) (hl : evE call gvals (.lst es) e h = .ok (.ref h.length, h ++ [.lst (L.map D.int)])) => lit_st (n := n + 3) hcall hm hL s h0 hl
  -- i
  refine ss_cons (s_asg (by simp) (Ok.imp (r := evE call gvals _ _ h) (Q := fun d h' => ∃ i : Nat, d = .int (i : Int) ∧ i ≤ many ∧ Dst many dk f hd cn rs M (l.map rowD) hs h') ?_ ?_))
  · have e1 : evE call gvals (.call 29 (.cons (.var 0) (.cons (.bin .add (.var 1) (.lit (.int 1))) .nil)) []) [some (.ref dk), some (.int (many : Int)), some (.ref f), x3, x4, some (.ref hd), x6, some (.bl fr), some (.ref cn), x9, x10, x11, x12, x13] h = call 29 [.ref dk, .int ((many : Int) + 1)] h := by simp only [runFn, evSs, evS, evE, evT, evEs, evO, evG, evGs, b_ok, ix0, ix1, ix2', o_add', o_sub', c_lt', c_le', c_gt', c_ge', c_eq', c_ne', List.length_cons, List.length_nil, List.map_cons, List.map_nil, List.replicate, Nat.sub_self, Nat.add_sub_cancel, List.cons_append, List.nil_append, List.append_nil, List.getElem?_cons_zero, List.getElem?_cons_succ, List.set_cons_zero, List.set_cons_succ, if_true, if_false, ite_true, ite_false, reduceIte, Nat.reduceAdd, Nat.reduceSub, Nat.reduceLT, Nat.zero_add, Bool.true_and, Bool.and_true]
    rw [e1]
    refine (tk _ (by omega) s).imp fun d h' q => ?_
    obtain ⟨r, rfl, r1, r2, r3⟩ := q
    exact ⟨r.toNat, by rw [Int.toNat_of_nonneg r1], by omega, r3⟩
  rintro d h1 ⟨i, rfl, hi, s1⟩
  dsimp only [List.set_cons_zero, List.set_cons_succ]
  clear s
  -- j
  refine ss_cons (s_asg (by simp) (Ok.imp (r := evE call gvals _ _ h1) (Q := fun d h' => ∃ j : Nat, d = .int (j : Int) ∧ j ≤ many ∧ i ≠ j ∧ Dst many dk f hd cn rs M (l.map rowD) hs h') ?_ ?_))
  · refine e_bin (e_int (e_bin (Ok.of (a := .int ((i : Int) + 1)) (h := h1) (by simp only [runFn, evSs, evS, evE, evT, evEs, evO, evG, evGs, b_ok, ix0, ix1, ix2', o_add', o_sub', c_lt', c_le', c_gt', c_ge', c_eq', c_ne', List.length_cons, List.length_nil, List.map_cons, List.map_nil, List.replicate, Nat.sub_self, Nat.add_sub_cancel, List.cons_append, List.nil_append, List.append_nil, List.getElem?_cons_zero, List.getElem?_cons_succ, List.set_cons_zero, List.set_cons_succ, if_true, if_false, ite_true, ite_false, reduceIte, Nat.reduceAdd, Nat.reduceSub, Nat.reduceLT, Nat.zero_add, Bool.true_and, Bool.and_true]) ?_)))
    have e1 : evE call gvals (.call 29 (.cons (.var 0) (.cons (.var 1) .nil)) []) [some (.ref dk), some (.int (many : Int)), some (.ref f), some (.int (i : Int)), x4, some (.ref hd), x6, some (.bl fr), some (.ref cn), x9, x10, x11, x12, x13] h1 = call 29 [.ref dk, .int (many : Int)] h1 := by simp only [runFn, evSs, evS, evE, evT, evEs, evO, evG, evGs, b_ok, ix0, ix1, ix2', o_add', o_sub', c_lt', c_le', c_gt', c_ge', c_eq', c_ne', List.length_cons, List.length_nil, List.map_cons, List.map_nil, List.replicate, Nat.sub_self, Nat.add_sub_cancel, List.cons_append, List.nil_append, List.append_nil, List.getElem?_cons_zero, List.getElem?_cons_succ, List.set_cons_zero, List.set_cons_succ, if_true, if_false, ite_true, ite_false, reduceIte, Nat.reduceAdd, Nat.reduceSub, Nat.reduceLT, Nat.zero_add, Bool.true_and, Bool.and_true]
    rw [e1]
    refine (tk _ (by omega) s1).imp fun d h' q => ?_
    obtain ⟨r, rfl, r1, r2, r3⟩ := q
    refine Ok.of (a := .int ((i : Int) + 1 + r)) (h := h') rfl ⟨_, rfl, ?_⟩
    refine Ok.of (a := .int ((many : Int) + 1)) (h := h') (by simp only [runFn, evSs, evS, evE, evT, evEs, evO, evG, evGs, b_ok, ix0, ix1, ix2', o_add', o_sub', c_lt', c_le', c_gt', c_ge', c_eq', c_ne', List.length_cons, List.length_nil, List.map_cons, List.map_nil, List.replicate, Nat.sub_self, Nat.add_sub_cancel, List.cons_append, List.nil_append, List.append_nil, List.getElem?_cons_zero, List.getElem?_cons_succ, List.set_cons_zero, List.set_cons_succ, if_true, if_false, ite_true, ite_false, reduceIte, Nat.reduceAdd, Nat.reduceSub, Nat.reduceLT, Nat.zero_add, Bool.true_and, Bool.and_true]) ?_
    have fm := fmod_rng (x := (i : Int) + 1 + r) (m := (many : Int) + 1) (by omega)
    refine Ok.of (o_mod' (show (many : Int) + 1 ≠ 0 by omega)) ⟨(((i : Int) + 1 + r).fmod ((many : Int) + 1)).toNat, by rw [Int.toNat_of_nonneg fm.1], by omega, fun q => ?_, r3⟩
    have e2 : ((i : Int) + 1 + r).fmod ((many : Int) + 1) = i := by omega
    rw [Int.fmod_eq_emod_of_nonneg _ (by omega)] at e2
    have e3 := Int.emod_add_mul_ediv ((i : Int) + 1 + r) ((many : Int) + 1)
    rw [e2] at e3
    have e4 : ((many : Int) + 1) * (((i : Int) + 1 + r) / ((many : Int) + 1)) = 1 + r := by omega
    generalize ((i : Int) + 1 + r) / ((many : Int) + 1) = k at e4
    rcases Int.lt_or_le k 1 with c | c
    · have : ((many : Int) + 1) * k ≤ ((many : Int) + 1) * 0 := Int.mul_le_mul_of_nonneg_left (by omega) (by omega)
      omega
    · have : ((many : Int) + 1) * 1 ≤ ((many : Int) + 1) * k := Int.mul_le_mul_of_nonneg_left (by omega) (by omega)
      omega
  rintro d h2 ⟨j, rfl, hj, hij, s2⟩
  dsimp only [List.set_cons_zero, List.set_cons_succ]
  clear s1
  -- kind
  refine ss_cons (s_asg (by simp) ((lt (L := [0, 1, 0, 1, 2]) (m := 5) (by decide) rfl s2 rfl (by simp only [runFn, evSs, evS, evE, evT, evEs, evO, evG, evGs, b_ok, ix0, ix1, ix2', o_add', o_sub', c_lt', c_le', c_gt', c_ge', c_eq', c_ne', List.length_cons, List.length_nil, List.map_cons, List.map_nil, List.replicate, Nat.sub_self, Nat.add_sub_cancel, List.cons_append, List.nil_append, List.append_nil, List.getElem?_cons_zero, List.getElem?_cons_succ, List.set_cons_zero, List.set_cons_succ, if_true, if_false, ite_true, ite_false, reduceIte, Nat.reduceAdd, Nat.reduceSub, Nat.reduceLT, Nat.zero_add, Bool.true_and, Bool.and_true])).imp ?_))
  rintro d h3 ⟨kind, hk, rfl, s3⟩
  dsimp only [List.set_cons_zero, List.set_cons_succ]
  clear s2
  have hk' : kind = 0 ∨ kind = 1 ∨ kind = 2 := by simp at hk; omega
  -- way
  refine ss_cons (s_asg (by simp) (Ok.imp (r := evE call gvals _ _ h3) (Q := fun d h' => ∃ w : Int, d = .int w ∧ w.natAbs ≤ 128 ∧ Dst many dk f hd cn rs M (l.map rowD) hs h') ?_ ?_))
  · refine e_bin ?_
    have e1 : evE call gvals (.call 29 (.cons (.var 0) (.cons (.lit (.int 41)) .nil)) []) [some (.ref dk), some (.int (many : Int)), some (.ref f), some (.int (i : Int)), some (.int (j : Int)), some (.ref hd), x6, some (.bl fr), some (.ref cn), x9, some (.int kind), x11, x12, x13] h3 = call 29 [.ref dk, .int 41] h3 := by simp only [runFn, evSs, evS, evE, evT, evEs, evO, evG, evGs, b_ok, ix0, ix1, ix2', o_add', o_sub', c_lt', c_le', c_gt', c_ge', c_eq', c_ne', List.length_cons, List.length_nil, List.map_cons, List.map_nil, List.replicate, Nat.sub_self, Nat.add_sub_cancel, List.cons_append, List.nil_append, List.append_nil, List.getElem?_cons_zero, List.getElem?_cons_succ, List.set_cons_zero, List.set_cons_succ, if_true, if_false, ite_true, ite_false, reduceIte, Nat.reduceAdd, Nat.reduceSub, Nat.reduceLT, Nat.zero_add, Bool.true_and, Bool.and_true]
    rw [e1]
    refine (tk _ (by decide) s3).imp fun d h' q => ?_
    obtain ⟨r, rfl, r1, r2, r3⟩ := q
    refine Ok.of (a := .int 20) (h := h') (by simp only [runFn, evSs, evS, evE, evT, evEs, evO, evG, evGs, b_ok, ix0, ix1, ix2', o_add', o_sub', c_lt', c_le', c_gt', c_ge', c_eq', c_ne', List.length_cons, List.length_nil, List.map_cons, List.map_nil, List.replicate, Nat.sub_self, Nat.add_sub_cancel, List.cons_append, List.nil_append, List.append_nil, List.getElem?_cons_zero, List.getElem?_cons_succ, List.set_cons_zero, List.set_cons_succ, if_true, if_false, ite_true, ite_false, reduceIte, Nat.reduceAdd, Nat.reduceSub, Nat.reduceLT, Nat.zero_add, Bool.true_and, Bool.and_true]) (Ok.of rfl ⟨r - 20, rfl, by omega, r3⟩)
  rintro d h4 ⟨w0, rfl, hw0, s4⟩
  dsimp only [List.set_cons_zero, List.set_cons_succ]
  clear s3
  -- room
  have st5 : Ok (evS call gvals (.ife (.not (.var 7)) (.cons (.asg (.var 12) (.ix (.lst (.cons (.lit (.int 0)) (.cons (.lit (.int 5)) (.cons (.lit (.int 16)) (.cons (.lit (.int 30)) .nil))))) (.call 29 (.cons (.var 0) (.cons (.lit (.int 4)) .nil)) []))) <|
          .cons (.asg (.var 11) (.bin .add (.bin .sub (.ix (.var 5) (.var 4)) (.ix (.var 5) (.var 3))) (.ix (.lst (.cons (.var 12) (.cons (.neg (.var 12)) (.cons (.lit (.int 0)) .nil)))) (.var 10)))) <|
          .nil) .nil) [some (.ref dk), some (.int (many : Int)), some (.ref f), some (.int (i : Int)), some (.int (j : Int)), some (.ref hd), x6, some (.bl fr), some (.ref cn), x9, some (.int kind), some (.int w0), x12, x13] h4) fun fl h' => ∃ (x12 : Option D) (w : Int), fl = .nx [some (.ref dk), some (.int (many : Int)), some (.ref f), some (.int (i : Int)), some (.int (j : Int)), some (.ref hd), x6, some (.bl fr), some (.ref cn), x9, some (.int kind), some (.int w), x12, x13] ∧ w.natAbs ≤ 128 ∧ Dst many dk f hd cn rs M (l.map rowD) hs h' := by
    refine s_if (Ok.of (a := !fr) (h := h4) (by simp only [runFn, evSs, evS, evE, evT, evEs, evO, evG, evGs, b_ok, ix0, ix1, ix2', o_add', o_sub', c_lt', c_le', c_gt', c_ge', c_eq', c_ne', List.length_cons, List.length_nil, List.map_cons, List.map_nil, List.replicate, Nat.sub_self, Nat.add_sub_cancel, List.cons_append, List.nil_append, List.append_nil, List.getElem?_cons_zero, List.getElem?_cons_succ, List.set_cons_zero, List.set_cons_succ, if_true, if_false, ite_true, ite_false, reduceIte, Nat.reduceAdd, Nat.reduceSub, Nat.reduceLT, Nat.zero_add, Bool.true_and, Bool.and_true]) ?_)
    cases fr with
    | true =>
      rw [if_neg (by decide)]
      exact ss_nil ⟨_, _, rfl, hw0, s4⟩
    | false =>
      rw [if_pos (by decide)]
      refine ss_cons (s_asg (by simp) ((lt (L := [0, 5, 16, 30]) (m := 4) (by decide) rfl s4 rfl (by simp only [runFn, evSs, evS, evE, evT, evEs, evO, evG, evGs, b_ok, ix0, ix1, ix2', o_add', o_sub', c_lt', c_le', c_gt', c_ge', c_eq', c_ne', List.length_cons, List.length_nil, List.map_cons, List.map_nil, List.replicate, Nat.sub_self, Nat.add_sub_cancel, List.cons_append, List.nil_append, List.append_nil, List.getElem?_cons_zero, List.getElem?_cons_succ, List.set_cons_zero, List.set_cons_succ, if_true, if_false, ite_true, ite_false, reduceIte, Nat.reduceAdd, Nat.reduceSub, Nat.reduceLT, Nat.zero_add, Bool.true_and, Bool.and_true])).imp ?_))
      rintro d h5 ⟨room, hr, rfl, s5⟩
      dsimp only [List.set_cons_zero, List.set_cons_succ]
      have hr' : 0 ≤ room ∧ room ≤ 30 := by simp at hr; omega
      obtain ⟨vj, mj, ij⟩ := ix_mem s5.hid (p := j) (by omega)
      obtain ⟨vi, mi, ii⟩ := ix_mem s5.hid (p := i) (by omega)
      have bj := bh vj mj
      have bi := bh vi mi
      have gn : (h5 ++ [O.lst ([room, -room, 0].map D.int)])[h5.length]? = some (O.lst ([room, -room, 0].map D.int)) := get_new
      obtain ⟨kn, rfl⟩ : ∃ kn : Nat, kind = (kn : Int) := ⟨kind.toNat, by omega⟩
      obtain ⟨vk, mk, ik⟩ := ix_mem gn (p := kn) (by show kn < 3; omega)
      have mk' : vk.natAbs ≤ 30 := by simp at mk; omega
      refine ss_cons (s_asg (by simp) (Ok.of (a := .int (vj - vi + vk)) (h := h5 ++ [O.lst ([room, -room, 0].map D.int)]) ?_ ?_))
      · have el : evE call gvals (.lst (.cons (.var 12) (.cons (.neg (.var 12)) (.cons (.lit (.int 0)) .nil)))) [some (.ref dk), some (.int (many : Int)), some (.ref f), some (.int (i : Int)), some (.int (j : Int)), some (.ref hd), x6, some (.bl false), some (.ref cn), x9, some (.int (kn : Int)), some (.int w0), some (.int room), x13] h5 = .ok (.ref h5.length, h5 ++ [O.lst ([room, -room, 0].map D.int)]) := by simp only [runFn, evSs, evS, evE, evT, evEs, evO, evG, evGs, b_ok, ix0, ix1, ix2', o_add', o_sub', c_lt', c_le', c_gt', c_ge', c_eq', c_ne', List.length_cons, List.length_nil, List.map_cons, List.map_nil, List.replicate, Nat.sub_self, Nat.add_sub_cancel, List.cons_append, List.nil_append, List.append_nil, List.getElem?_cons_zero, List.getElem?_cons_succ, List.set_cons_zero, List.set_cons_succ, if_true, if_false, ite_true, ite_false, reduceIte, Nat.reduceAdd, Nat.reduceSub, Nat.reduceLT, Nat.zero_add, Bool.true_and, Bool.and_true]
        generalize E.lst (.cons (.var 12) (.cons (.neg (.var 12)) (.cons (.lit (.int 0)) .nil))) = le at el ⊢
        have ik' : ix2 (.ref h5.length) (.int (kn : Int)) (h5 ++ [O.lst [.int room, .int (-room), .int 0]]) = .ok (.int vk, h5 ++ [O.lst [.int room, .int (-room), .int 0]]) := ik
        simp only [runFn, evSs, evS, evE, evT, evEs, evO, evG, evGs, b_ok, ix0, ix1, ix2', o_add', o_sub', c_lt', c_le', c_gt', c_ge', c_eq', c_ne', List.length_cons, List.length_nil, List.map_cons, List.map_nil, List.replicate, Nat.sub_self, Nat.add_sub_cancel, List.cons_append, List.nil_append, List.append_nil, List.getElem?_cons_zero, List.getElem?_cons_succ, List.set_cons_zero, List.set_cons_succ, if_true, if_false, ite_true, ite_false, reduceIte, Nat.reduceAdd, Nat.reduceSub, Nat.reduceLT, Nat.zero_add, Bool.true_and, Bool.and_true, ij, ii, el, ik', o_add']
      · dsimp only [List.set_cons_zero, List.set_cons_succ]
        exact ss_nil ⟨_, _, rfl, by omega, s5.keep (Keep.app _)⟩
  refine ss_cons (st5.imp fun fl h5 q => ?_)
  obtain ⟨y12, way, rfl, hw, s5⟩ := q
  dsimp only
  clear s4 st5
  -- nearer
  have nr := fun {M : Mx} {h : Hh} (i j : Nat) (w : Int) (m : Mat h f (many + 1) rs M) (hi : i ≤ many) (hj : j ≤ many) => nearer_ok (n := n + 3) (w := w) m (show i < many + 1 by omega) (show j < many + 1 by omega)
  rw [← hcall] at nr
  have st6 : Ok (evS call gvals (.ife (.cmp .ne (.var 10) (.lit (.int 1))) (.cons (.expr (.call 38 (.cons (.var 2) (.cons (.var 3) (.cons (.var 4) (.cons (.var 11) .nil)))) [])) <|
          .nil) .nil) [some (.ref dk), some (.int (many : Int)), some (.ref f), some (.int (i : Int)), some (.int (j : Int)), some (.ref hd), x6, some (.bl fr), some (.ref cn), x9, some (.int kind), some (.int way), y12, x13] h5) fun fl h' => fl = .nx [some (.ref dk), some (.int (many : Int)), some (.ref f), some (.int (i : Int)), some (.int (j : Int)), some (.ref hd), x6, some (.bl fr), some (.ref cn), x9, some (.int kind), some (.int way), y12, x13] ∧ Dst many dk f hd cn rs (if kind = 1 then M else relax M i j way) (l.map rowD) hs h' := by
    refine s_if (Ok.of (a := !decide (kind = 1)) (h := h5) (by simp only [runFn, evSs, evS, evE, evT, evEs, evO, evG, evGs, b_ok, ix0, ix1, ix2', o_add', o_sub', c_lt', c_le', c_gt', c_ge', c_eq', c_ne', List.length_cons, List.length_nil, List.map_cons, List.map_nil, List.replicate, Nat.sub_self, Nat.add_sub_cancel, List.cons_append, List.nil_append, List.append_nil, List.getElem?_cons_zero, List.getElem?_cons_succ, List.set_cons_zero, List.set_cons_succ, if_true, if_false, ite_true, ite_false, reduceIte, Nat.reduceAdd, Nat.reduceSub, Nat.reduceLT, Nat.zero_add, Bool.true_and, Bool.and_true]) ?_)
    by_cases c : kind = 1
    · rw [if_neg (by simp [c]), if_pos c]
      exact ss_nil ⟨rfl, s5⟩
    · rw [if_pos (by simp [c]), if_neg c]
      have e1 : evE call gvals (.call 38 (.cons (.var 2) (.cons (.var 3) (.cons (.var 4) (.cons (.var 11) .nil)))) []) [some (.ref dk), some (.int (many : Int)), some (.ref f), some (.int (i : Int)), some (.int (j : Int)), some (.ref hd), x6, some (.bl fr), some (.ref cn), x9, some (.int kind), some (.int way), y12, x13] h5 = call 38 [.ref f, .int (i : Int), .int (j : Int), .int way] h5 := by simp only [runFn, evSs, evS, evE, evT, evEs, evO, evG, evGs, b_ok, ix0, ix1, ix2', o_add', o_sub', c_lt', c_le', c_gt', c_ge', c_eq', c_ne', List.length_cons, List.length_nil, List.map_cons, List.map_nil, List.replicate, Nat.sub_self, Nat.add_sub_cancel, List.cons_append, List.nil_append, List.append_nil, List.getElem?_cons_zero, List.getElem?_cons_succ, List.set_cons_zero, List.set_cons_succ, if_true, if_false, ite_true, ite_false, reduceIte, Nat.reduceAdd, Nat.reduceSub, Nat.reduceLT, Nat.zero_add, Bool.true_and, Bool.and_true]
      refine ss_cons (s_expr ?_)
      rw [e1]
      refine (nr i j way s5.mat hi hj).imp fun d h' q => ?_
      exact ss_nil ⟨rfl, s5.near q.1 q.2⟩
  refine ss_cons (st6.imp fun fl h6 q => ?_)
  obtain ⟨rfl, s6⟩ := q
  dsimp only
  clear s5 st6
  have st7 : Ok (evS call gvals (.ife (.cmp .ne (.var 10) (.lit (.int 0))) (.cons (.expr (.call 38 (.cons (.var 2) (.cons (.var 4) (.cons (.var 3) (.cons (.neg (.var 11)) .nil)))) [])) <|
          .nil) .nil) [some (.ref dk), some (.int (many : Int)), some (.ref f), some (.int (i : Int)), some (.int (j : Int)), some (.ref hd), x6, some (.bl fr), some (.ref cn), x9, some (.int kind), some (.int way), y12, x13] h6) fun fl h' => fl = .nx [some (.ref dk), some (.int (many : Int)), some (.ref f), some (.int (i : Int)), some (.int (j : Int)), some (.ref hd), x6, some (.bl fr), some (.ref cn), x9, some (.int kind), some (.int way), y12, x13] ∧ Dst many dk f hd cn rs (addM M i j way kind) (l.map rowD) hs h' := by
    unfold addM
    dsimp only
    generalize (if kind = 1 then M else relax M i j way) = M1 at *
    refine s_if (Ok.of (a := !decide (kind = 0)) (h := h6) (by simp only [runFn, evSs, evS, evE, evT, evEs, evO, evG, evGs, b_ok, ix0, ix1, ix2', o_add', o_sub', c_lt', c_le', c_gt', c_ge', c_eq', c_ne', List.length_cons, List.length_nil, List.map_cons, List.map_nil, List.replicate, Nat.sub_self, Nat.add_sub_cancel, List.cons_append, List.nil_append, List.append_nil, List.getElem?_cons_zero, List.getElem?_cons_succ, List.set_cons_zero, List.set_cons_succ, if_true, if_false, ite_true, ite_false, reduceIte, Nat.reduceAdd, Nat.reduceSub, Nat.reduceLT, Nat.zero_add, Bool.true_and, Bool.and_true]) ?_)
    by_cases c : kind = 0
    · rw [if_neg (by simp [c]), if_pos c]
      exact ss_nil ⟨rfl, s6⟩
    · rw [if_pos (by simp [c]), if_neg c]
      have e1 : evE call gvals (.call 38 (.cons (.var 2) (.cons (.var 4) (.cons (.var 3) (.cons (.neg (.var 11)) .nil)))) []) [some (.ref dk), some (.int (many : Int)), some (.ref f), some (.int (i : Int)), some (.int (j : Int)), some (.ref hd), x6, some (.bl fr), some (.ref cn), x9, some (.int kind), some (.int way), y12, x13] h6 = call 38 [.ref f, .int (j : Int), .int (i : Int), .int (-way)] h6 := by simp only [runFn, evSs, evS, evE, evT, evEs, evO, evG, evGs, b_ok, ix0, ix1, ix2', o_add', o_sub', c_lt', c_le', c_gt', c_ge', c_eq', c_ne', List.length_cons, List.length_nil, List.map_cons, List.map_nil, List.replicate, Nat.sub_self, Nat.add_sub_cancel, List.cons_append, List.nil_append, List.append_nil, List.getElem?_cons_zero, List.getElem?_cons_succ, List.set_cons_zero, List.set_cons_succ, if_true, if_false, ite_true, ite_false, reduceIte, Nat.reduceAdd, Nat.reduceSub, Nat.reduceLT, Nat.zero_add, Bool.true_and, Bool.and_true]
      refine ss_cons (s_expr ?_)
      rw [e1]
      refine (nr j i (-way) s6.mat hj hi).imp fun d h' q => ?_
      exact ss_nil ⟨rfl, s6.near q.1 q.2⟩
  refine ss_cons (st7.imp fun fl h7 q => ?_)
  obtain ⟨rfl, s7⟩ := q
  dsimp only
  clear s6 st7
  generalize hM' : addM M i j way kind = M' at *
  -- factor
  refine ss_cons (s_asg (by simp) (Ok.imp (r := evE call gvals _ _ h7) (Q := fun d h' => ∃ fa ∈ facs, d = rq fa ∧ Dst many dk f hd cn rs M' (l.map rowD) hs h') ?_ ?_))
  · have s8 := s7.keep (Keep.app [.lst (facs.map rq)])
    have gn : (h7 ++ [O.lst (facs.map rq)])[h7.length]? = some (O.lst (facs.map rq)) := get_new
    obtain ⟨xs, a, b⟩ := s8.deck
    have ne : h7.length ≠ dk := by
      obtain ⟨xs, a, b⟩ := s7.deck
      have := lt_of a
      omega
    have pk := pick_ok (n := n + 2) a b gn (by decide) ne
    rw [← hcall] at pk
    have e1 : evE call gvals (.call 30 (.cons (.var 0) (.cons (.lst (.cons (.tup (.cons (.lit (.int 1)) (.cons (.lit (.int 1)) .nil))) (.cons (.tup (.cons (.lit (.int 2)) (.cons (.lit (.int 1)) .nil))) (.cons (.tup (.cons (.lit (.int 1)) (.cons (.lit (.int 2)) .nil))) (.cons (.tup (.cons (.lit (.int 3)) (.cons (.lit (.int 4)) .nil))) (.cons (.tup (.cons (.lit (.int 7)) (.cons (.lit (.int 3)) .nil))) .nil)))))) .nil)) []) [some (.ref dk), some (.int (many : Int)), some (.ref f), some (.int (i : Int)), some (.int (j : Int)), some (.ref hd), x6, some (.bl fr), some (.ref cn), x9, some (.int kind), some (.int way), y12, x13] h7 = call 30 [.ref dk, .ref h7.length] (h7 ++ [O.lst (facs.map rq)]) := by
      rw [facs_D]
      simp only [runFn, evSs, evS, evE, evT, evEs, evO, evG, evGs, b_ok, ix0, ix1, ix2', o_add', o_sub', c_lt', c_le', c_gt', c_ge', c_eq', c_ne', List.length_cons, List.length_nil, List.map_cons, List.map_nil, List.replicate, Nat.sub_self, Nat.add_sub_cancel, List.cons_append, List.nil_append, List.append_nil, List.getElem?_cons_zero, List.getElem?_cons_succ, List.set_cons_zero, List.set_cons_succ, if_true, if_false, ite_true, ite_false, reduceIte, Nat.reduceAdd, Nat.reduceSub, Nat.reduceLT, Nat.zero_add, Bool.true_and, Bool.and_true]
    rw [e1]
    refine pk.imp fun d h' q => ?_
    obtain ⟨md, ys, rfl, hy⟩ := q
    obtain ⟨fa, hfa, rfl⟩ := List.mem_map.mp md
    exact ⟨fa, hfa, rfl, s8.take hy⟩
  rintro d h8 ⟨fa, hfa, rfl, s8⟩
  dsimp only [List.set_cons_zero, List.set_cons_succ]
  clear s7
  -- the condition
  have cd := condition_ok (n := n) (many := many) (way := way) (kind := kind) (f := fa) (h := h8) (by omega) hij (fac_sm hfa) (Nat.lt_of_le_of_lt hw (by decide)) hk'
  rw [← hcall] at cd
  refine ss_cons (s_expr ?_)
  have e1 : evE call gvals (.call 40 (.cons (.var 1) (.cons (.var 3) (.cons (.var 4) (.cons (.var 11) (.cons (.var 13) (.cons (.var 10) .nil)))))) []) [some (.ref dk), some (.int (many : Int)), some (.ref f), some (.int (i : Int)), some (.int (j : Int)), some (.ref hd), x6, some (.bl fr), some (.ref cn), x9, some (.int kind), some (.int way), y12, some (rq fa)] h8 = call 40 [.int (many : Int), .int (i : Int), .int (j : Int), .int way, rq fa, .int kind] h8 := by simp only [runFn, evSs, evS, evE, evT, evEs, evO, evG, evGs, b_ok, ix0, ix1, ix2', o_add', o_sub', c_lt', c_le', c_gt', c_ge', c_eq', c_ne', List.length_cons, List.length_nil, List.map_cons, List.map_nil, List.replicate, Nat.sub_self, Nat.add_sub_cancel, List.cons_append, List.nil_append, List.append_nil, List.getElem?_cons_zero, List.getElem?_cons_succ, List.set_cons_zero, List.set_cons_succ, if_true, if_false, ite_true, ite_false, reduceIte, Nat.reduceAdd, Nat.reduceSub, Nat.reduceLT, Nat.zero_add, Bool.true_and, Bool.and_true]
  obtain ⟨d, h9, e2, rfl, k9⟩ := cd
  rw [e2] at e1
  have s9 := s8.keep k9
  have sz : (l.map rowD).length < sizeLine := by
    rw [List.length_map]
    have : (100 : Nat) < sizeLine := by decide
    omega
  generalize hce : E.call 40 (.cons (.var 1) (.cons (.var 3) (.cons (.var 4) (.cons (.var 11) (.cons (.var 13) (.cons (.var 10) .nil)))))) [] = ce at e1 ⊢
  refine Ok.of (a := .non) (h := h9.set cn (.lst (l.map rowD ++ [rowD (condR many i j way (if kind = 1 then -fa else fa) (decide (kind = 2)))]))) (by simp only [runFn, evSs, evS, evE, evT, evEs, evO, evG, evGs, b_ok, ix0, ix1, ix2', o_add', o_sub', c_lt', c_le', c_gt', c_ge', c_eq', c_ne', List.length_cons, List.length_nil, List.map_cons, List.map_nil, List.replicate, Nat.sub_self, Nat.add_sub_cancel, List.cons_append, List.nil_append, List.append_nil, List.getElem?_cons_zero, List.getElem?_cons_succ, List.set_cons_zero, List.set_cons_succ, if_true, if_false, ite_true, ite_false, reduceIte, Nat.reduceAdd, Nat.reduceSub, Nat.reduceLT, Nat.zero_add, Bool.true_and, Bool.and_true, is_lst s8.con, e1, m_append s9.con sz]) ?_
  refine ss_nil ⟨_, _, _, _, _, _, i, j, way, fa, kind, rfl, hi, hj, hij, hw, hfa, hk', ?_⟩
  rw [List.map_append, hM']
  exact s9.push
end K00
set_option Elab.async false
set_option linter.all false
set_option maxRecDepth 100000
set_option maxHeartbeats 2000000
/-! K01F: _law_differences, whole. -/
namespace K00
open SF PySem
theorem rng_ok2 {call : Nat → List D → Hh → R (D × Hh)} {gl : List D} {e : En} {h : Hh} {a b : E} {i : Int} {P : SF.It → Hh → Prop} (ha : evE call gl a e h = .ok (.int i, h)) (h1 : -(2 ^ 61) ≤ i) (h2 : i < 2 ^ 61)
    (hb : Ok (evE call gl b e h) fun d h' => ∃ j : Int, d = .int j ∧ -(2 ^ 61) ≤ j ∧ j < 2 ^ 61 ∧ P (.rng i 1 (j - i).toNat) h') : Ok (evI call gl (.rng a b) e h) P := by
  unfold evI
  rw [ha, b_ok]
  dsimp only
  refine Ok.bind (hb.imp fun d h' q => ?_)
  obtain ⟨j, rfl, h3, h4, q⟩ := q
  dsimp only
  rw [if_pos (by rw [small_ok h1 h2, small_ok h3 h4]; rfl)]
  exact Ok.pure q
theorem down_add {M : Mx} {i j : Nat} {way kind : Int} : Down M (addM M i j way kind) := by
  unfold addM
  dsimp only
  have h1 : Down M (if kind = 1 then M else relax M i j way) := by
    split
    · exact Down.refl
    · exact down_relax
  split
  · exact h1
  · exact h1.trans down_relax
theorem rel0 {n : Nat} : ∀ y, Sat n y [] ↔ Sol (n + 1) M0 (toX n y) := fun y => by
  constructor
  · intro _ a b _ _ v hv
    unfold M0 at hv
    split at hv
    · rename_i c
      cases hv
      rw [c, cast0]
      grind
    · cases hv
  · intro _ r hr
    cases hr
theorem differences_ok {n many dk : Nat} {xs : List D} {h : Hh} (hd : h[dk]? = some (O.lst xs)) (hi : Ints xs) (hm : 0 < many) (hm2 : many ≤ 100) :
    Ok (C (n + 5) 41 [.ref dk, .int (many : Int)] h) fun d h' => ∃ (cn f : Nat) (rs : List Nat) (l : List Row) (M : Mx), d = .tup [.ref cn, .ref f] ∧ h'[cn]? = some (O.lst (l.map rowD)) ∧ Mat h' f (many + 1) rs M ∧ cn ∉ rs ∧ cn ≠ f ∧ (∀ r ∈ l, Dc many r) ∧ l.length ≤ 8 ∧ Down M0 M ∧ ∀ y, Sat many y l ↔ Sol (many + 1) M (toX many y) := by
  refine C_ok (f := f__law_differences) rfl rfl fun call hcall => ?_
  show Ok (evSs call gvals b__law_differences [some (.ref dk), some (.int (many : Int)), none, none, none, none, none, none, none, none, none, none, none, none] h) _
  unfold b__law_differences
  have fk := far_ok (call := call) (many := many) (a := none) (x3 := none) (x4 := none) (dk := .ref dk) (t := [none, none, none, none, none, none, none, none, none]) (h := h) (by omega)
  unfold rowE at fk
  refine ss_cons (s_asg (by simp) (fk.imp fun d h1 q => ?_))
  clear fk
  obtain ⟨f, rs, rfl, lf, lrs, mt, k1⟩ := q
  dsimp only [List.set_cons_zero, List.set_cons_succ]
  have hd1 := k1.get hd (by simp)
  -- hidden
  have hk := hid_ok (n := n + 3) hcall (many := many) (x2 := some (.ref f)) (x3 := none) (x4 := none) (x5 := none) (x6 := none) (t := [none, none, none, none, none, none, none]) hd1 hi (by omega)
  unfold hidE at hk
  refine ss_cons (s_asg (by simp) (e_bin (hk.imp fun d h2 q => ?_)))
  clear hk
  obtain ⟨a, hs, rfl, la, ga, lh, bh, ⟨ys, hd2, hi2⟩, k2⟩ := q
  refine Ok.of (a := .ref h2.length) (h := h2 ++ [O.lst [.int 0]]) (by simp only [runFn, evSs, evS, evE, evT, evEs, evO, evG, evGs, b_ok, ix0, ix1, ix2', o_add', o_sub', c_lt', c_le', c_gt', c_ge', c_eq', c_ne', List.length_cons, List.length_nil, List.map_cons, List.map_nil, List.replicate, Nat.sub_self, Nat.add_sub_cancel, List.cons_append, List.nil_append, List.append_nil, List.getElem?_cons_zero, List.getElem?_cons_succ, List.set_cons_zero, List.set_cons_succ, if_true, if_false, ite_true, ite_false, reduceIte, Nat.reduceAdd, Nat.reduceSub, Nat.reduceLT, Nat.zero_add, Bool.true_and, Bool.and_true]) ?_
  have ga' : (h2 ++ [O.lst [.int 0]])[a]? = some (O.lst (hs.map D.int)) := get_old ga
  have gb' : (h2 ++ [O.lst [.int 0]])[h2.length]? = some (O.lst [.int 0]) := get_new
  refine Ok.of (a := .ref (h2 ++ [O.lst [.int 0]]).length) (h := h2 ++ [O.lst [.int 0]] ++ [O.lst ((hs ++ [0]).map D.int)]) ?_ ?_
  · unfold op2
    dsimp only
    rw [ga', gb']
    dsimp only
    rw [if_neg (by have : (101 : Nat) < sizeLine := by decide
                   rw [List.length_map, List.length_singleton]; omega), List.map_append]
    rfl
  dsimp only [List.set_cons_zero, List.set_cons_succ]
  have dkl : dk < h.length := lt_of hd
  have dkf : dk ≠ f := by omega
  have dkr : dk ∉ rs := fun z => by have := lrs _ z; omega
  have mt2 := mt.keep k2 (fun z => dkf (List.mem_singleton.mp z).symm) fun r hr z => dkr (List.mem_singleton.mp z ▸ hr)
  have s0 : ∀ cn, (h2 ++ [O.lst [.int 0]] ++ [O.lst ((hs ++ [0]).map D.int)]).length ≤ cn → ∀ h', h'[cn]? = some (O.lst []) → Keep [] (h2 ++ [O.lst [.int 0]] ++ [O.lst ((hs ++ [0]).map D.int)]) h' → Dst many dk f (h2 ++ [O.lst [.int 0]]).length cn rs M0 ([] : List D) (hs ++ [0]) h' := fun cn lc h' gc k => by
    have kk : Keep [] h2 h' := ((Keep.app _).trans (Keep.app _)).trans k
    have gh : (h2 ++ [O.lst [.int 0]] ++ [O.lst ((hs ++ [0]).map D.int)])[(h2 ++ [O.lst [.int 0]]).length]? = some (O.lst ((hs ++ [0]).map D.int)) := get_new
    have l2 := lt_of hd2
    have m2 := mt2.lt
    rw [List.length_append, List.length_append, List.length_singleton, List.length_singleton] at lc
    rw [List.length_append, List.length_singleton] at gh ⊢
    exact ⟨⟨ys, kk.get hd2 (by simp), hi2⟩, mt2.keep kk (by simp) (fun _ _ => by simp), k.get gh (by simp), gc, ⟨dkf, dkr, by omega, by omega⟩, ⟨fun z => by have := m2.1 _ z; omega, fun z => by have := m2.1 _ z; omega, by omega, by have := m2.2; omega⟩⟩
  generalize (h2 ++ [O.lst [.int 0]]).length = hd' at *
  have hd3 : (h2 ++ [O.lst [.int 0]] ++ [O.lst ((hs ++ [0]).map D.int)])[dk]? = some (O.lst ys) := get_old (get_old hd2)
  generalize h2 ++ [O.lst [.int 0]] ++ [O.lst ((hs ++ [0]).map D.int)] = h3 at *
  -- free
  have tk := fun {M : Mx} {cs : List D} {cn : Nat} {h : Hh} (m : Int) (hm : 0 < m) (s : Dst many dk f hd' cn rs M cs (hs ++ [0]) h) => take_st (n := n + 3) s hm
  rw [← hcall] at tk
  have tk0 := take_ok (n := n + 3) (m := 3) hd3 hi2 (by decide)
  rw [← hcall] at tk0
  have e1 : evE call gvals (.call 29 (.cons (.var 0) (.cons (.lit (.int 3)) .nil)) []) [some (.ref dk), some (.int (many : Int)), some (.ref f), none, none, some (.ref hd'), none, none, none, none, none, none, none, none] h3 = call 29 [.ref dk, .int 3] h3 := by simp only [runFn, evSs, evS, evE, evT, evEs, evO, evG, evGs, b_ok, ix0, ix1, ix2', o_add', o_sub', c_lt', c_le', c_gt', c_ge', c_eq', c_ne', List.length_cons, List.length_nil, List.map_cons, List.map_nil, List.replicate, Nat.sub_self, Nat.add_sub_cancel, List.cons_append, List.nil_append, List.append_nil, List.getElem?_cons_zero, List.getElem?_cons_succ, List.set_cons_zero, List.set_cons_succ, if_true, if_false, ite_true, ite_false, reduceIte, Nat.reduceAdd, Nat.reduceSub, Nat.reduceLT, Nat.zero_add, Bool.true_and, Bool.and_true]
  obtain ⟨d, h4, e2, ⟨r, rfl, r1, r2⟩, zs, rfl, hz⟩ := tk0
  rw [e2] at e1
  refine ss_cons (s_asg (by simp) (Ok.of (a := .bl (decide (r = 0))) (h := h3.set dk (.lst zs)) ?_ ?_))
  · generalize E.call 29 (.cons (.var 0) (.cons (.lit (.int 3)) .nil)) [] = ce at e1 ⊢
    simp only [runFn, evSs, evS, evE, evT, evEs, evO, evG, evGs, b_ok, ix0, ix1, ix2', o_add', o_sub', c_lt', c_le', c_gt', c_ge', c_eq', c_ne', List.length_cons, List.length_nil, List.map_cons, List.map_nil, List.replicate, Nat.sub_self, Nat.add_sub_cancel, List.cons_append, List.nil_append, List.append_nil, List.getElem?_cons_zero, List.getElem?_cons_succ, List.set_cons_zero, List.set_cons_succ, if_true, if_false, ite_true, ite_false, reduceIte, Nat.reduceAdd, Nat.reduceSub, Nat.reduceLT, Nat.zero_add, Bool.true_and, Bool.and_true, e1]
  dsimp only [List.set_cons_zero, List.set_cons_succ]
  generalize decide (r = 0) = fr
  refine ss_cons (s_asg (by simp) (Ok.of (a := .ref (h3.set dk (.lst zs)).length) (h := h3.set dk (.lst zs) ++ [O.lst []]) (by simp only [runFn, evSs, evS, evE, evT, evEs, evO, evG, evGs, b_ok, ix0, ix1, ix2', o_add', o_sub', c_lt', c_le', c_gt', c_ge', c_eq', c_ne', List.length_cons, List.length_nil, List.map_cons, List.map_nil, List.replicate, Nat.sub_self, Nat.add_sub_cancel, List.cons_append, List.nil_append, List.append_nil, List.getElem?_cons_zero, List.getElem?_cons_succ, List.set_cons_zero, List.set_cons_succ, if_true, if_false, ite_true, ite_false, reduceIte, Nat.reduceAdd, Nat.reduceSub, Nat.reduceLT, Nat.zero_add, Bool.true_and, Bool.and_true]) ?_))
  dsimp only [List.set_cons_zero, List.set_cons_succ]
  have ls : (h3.set dk (.lst zs)).length = h3.length := List.length_set ..
  have s1 : Dst many dk f hd' (h3.set dk (.lst zs)).length rs M0 (([] : List Row).map rowD) (hs ++ [0]) (h3.set dk (.lst zs) ++ [O.lst []]) := by
    rw [ls]
    have s := s0 h3.length (Nat.le_refl _) (h3 ++ [O.lst []]) get_new (Keep.app _)
    have s' := s.take (ys := zs) hz
    have e3 : (h3 ++ [O.lst []]).set dk (.lst zs) = h3.set dk (.lst zs) ++ [O.lst []] := List.set_append_left _ _ (lt_of hd3)
    rw [e3] at s'
    exact s'
  generalize (h3.set dk (.lst zs)).length = cn at *
  generalize h3.set dk (.lst zs) ++ [O.lst []] = h5 at *
  -- the turns
  refine ss_cons (s_for (rng_ok2 (i := 0) rfl (by decide) (by decide) (e_bin (Ok.of (a := .int 1) (h := h5) (by simp only [runFn, evSs, evS, evE, evT, evEs, evO, evG, evGs, b_ok, ix0, ix1, ix2', o_add', o_sub', c_lt', c_le', c_gt', c_ge', c_eq', c_ne', List.length_cons, List.length_nil, List.map_cons, List.map_nil, List.replicate, Nat.sub_self, Nat.add_sub_cancel, List.cons_append, List.nil_append, List.append_nil, List.getElem?_cons_zero, List.getElem?_cons_succ, List.set_cons_zero, List.set_cons_succ, if_true, if_false, ite_true, ite_false, reduceIte, Nat.reduceAdd, Nat.reduceSub, Nat.reduceLT, Nat.zero_add, Bool.true_and, Bool.and_true]) ?_))))
  have e4 : evE call gvals (.call 29 (.cons (.var 0) (.cons (.lit (.int 8)) .nil)) []) [some (.ref dk), some (.int (many : Int)), some (.ref f), none, none, some (.ref hd'), none, some (.bl fr), some (.ref cn), none, none, none, none, none] h5 = call 29 [.ref dk, .int 8] h5 := by simp only [runFn, evSs, evS, evE, evT, evEs, evO, evG, evGs, b_ok, ix0, ix1, ix2', o_add', o_sub', c_lt', c_le', c_gt', c_ge', c_eq', c_ne', List.length_cons, List.length_nil, List.map_cons, List.map_nil, List.replicate, Nat.sub_self, Nat.add_sub_cancel, List.cons_append, List.nil_append, List.append_nil, List.getElem?_cons_zero, List.getElem?_cons_succ, List.set_cons_zero, List.set_cons_succ, if_true, if_false, ite_true, ite_false, reduceIte, Nat.reduceAdd, Nat.reduceSub, Nat.reduceLT, Nat.zero_add, Bool.true_and, Bool.and_true]
  rw [e4]
  refine (tk 8 (by decide) s1).imp fun d h6 q => ?_
  obtain ⟨t, rfl, t1, t2, s6⟩ := q
  refine Ok.of (a := .int (1 + t)) (h := h6) rfl ⟨1 + t, rfl, by omega, by omega, ?_⟩
  obtain ⟨T, hT, hT8⟩ : ∃ T : Nat, ((1 + t) - 0).toNat = T ∧ T ≤ 8 := ⟨_, rfl, by omega⟩
  rw [hT]
  have hmo : It.most h6 (.rng 0 1 T) = T := rfl
  rw [hmo]
  refine ⟨fun i e3 h3 => ∃ (x3 x4 x9 x10 x11 x12 x13 : Option D) (l : List Row) (M : Mx), e3 = [some (.ref dk), some (.int (many : Int)), some (.ref f), x3, x4, some (.ref hd'), none, some (.bl fr), some (.ref cn), x9, x10, x11, x12, x13] ∧ Dst many dk f hd' cn rs M (l.map rowD) (hs ++ [0]) h3 ∧ l.length = i ∧ (∀ r ∈ l, Dc many r) ∧ Down M0 M ∧ ∀ y, Sat many y l ↔ Sol (many + 1) M (toX many y),
    ⟨_, _, _, _, _, _, _, [], M0, rfl, s6, rfl, fun r hr => (by cases hr), Down.refl, rel0⟩, ?_⟩
  rintro i e3 h7 ⟨x3, x4, x9, x10, x11, x12, x13, l, M, rfl, s7, ll, dc, dw, rel⟩ lei
  rcases Nat.eq_or_lt_of_le lei with e' | lt
  · refine .inl ⟨e', by rw [e']; exact rng_end, ?_⟩
    (refine ss_cons (s_ret (Ok.of (by ((simp only [runFn, evSs, evS, evE, evT, evEs, evO, evG, evGs, b_ok, ix0, ix1, ix2', o_add', o_sub', c_lt', c_le', c_gt', c_ge', c_eq', c_ne', List.length_cons, List.length_nil, List.map_cons, List.map_nil, List.replicate, Nat.sub_self, Nat.add_sub_cancel, List.cons_append, List.nil_append, List.append_nil, List.getElem?_cons_zero, List.getElem?_cons_succ, List.set_cons_zero, List.set_cons_succ, if_true, if_false, ite_true, ite_false, reduceIte, Nat.reduceAdd, Nat.reduceSub, Nat.reduceLT, Nat.zero_add, Bool.true_and, Bool.and_true]) <;> rfl)) ?_)); dsimp only [List.set_cons_zero, List.set_cons_succ])
    exact ⟨cn, f, rs, l, M, rfl, s7.con, s7.mat, s7.d2.2.1, s7.d2.2.2.2, dc, by omega, dw, rel⟩
  · refine .inr ⟨lt, .int (0 + i), rng_next lt, Ok.bind (Ok.of (a := [some (.ref dk), some (.int (many : Int)), some (.ref f), x3, x4, some (.ref hd'), none, some (.bl fr), some (.ref cn), some (.int (0 + i)), x10, x11, x12, x13]) (h := h7) (by ((simp only [runFn, evSs, evS, evE, evT, evEs, evO, evG, evGs, b_ok, ix0, ix1, ix2', o_add', o_sub', c_lt', c_le', c_gt', c_ge', c_eq', c_ne', List.length_cons, List.length_nil, List.map_cons, List.map_nil, List.replicate, Nat.sub_self, Nat.add_sub_cancel, List.cons_append, List.nil_append, List.append_nil, List.getElem?_cons_zero, List.getElem?_cons_succ, List.set_cons_zero, List.set_cons_succ, if_true, if_false, ite_true, ite_false, reduceIte, Nat.reduceAdd, Nat.reduceSub, Nat.reduceLT, Nat.zero_add, Bool.true_and, Bool.and_true]) <;> rfl)) ?_)⟩
    dsimp only
    refine (turn_ok (n := n) hcall hm hm2 s7 (by rw [List.length_append, lh]; rfl) (fun v hv => ?_) (by omega)).imp fun fl h8 q => ?_
    · rcases List.mem_append.mp hv with hv | hv
      · exact bh v hv
      · rw [List.mem_singleton.mp hv]; omega
    · obtain ⟨y3, y4, y10, y11, y12, y13, i', j', way, fa, kind, rfl, q1, q2, q3, q4, q5, q6, q7⟩ := q
      dsimp only
      refine ⟨_, _, _, _, _, _, _, _, _, rfl, q7, by rw [List.length_append, ll]; rfl, fun r hr => ?_, dw.trans down_add, add_iff q1 q2 q3 (fac_pos q5) q6 rel⟩
      rcases List.mem_append.mp hr with hr | hr
      · exact dc r hr
      · rw [List.mem_singleton.mp hr]
        exact ⟨i', j', way, fa, kind, q1, q2, q3, q4, q5, q6, rfl⟩
end K00
set_option Elab.async false
set_option linter.all false
set_option maxRecDepth 100000
set_option maxHeartbeats 2000000
/-! K01G: sizes of values (plain). -/
namespace K00
open SF PySem
def Qv (V : Nat) (q : Rat) : Prop := ∃ w : Int, w.natAbs ≤ V ∧ q = (w : Rat) / 12
def Vb (V : Nat) (v : List Rat) : Prop := ∀ i, Qv V (co v i)
theorem qv0 {V : Nat} : Qv V 0 := ⟨0, Nat.zero_le _, by rw [cast0]; grind⟩
theorem Qv.mono {V V' : Nat} {q : Rat} (h : Qv V q) (le : V ≤ V') : Qv V' q := by
  obtain ⟨w, h1, h2⟩ := h
  exact ⟨w, Nat.le_trans h1 le, h2⟩
theorem dv_mul {a b i : Nat} {w : Int} {V : Nat} (h : w.natAbs ≤ V) : (dv a b i * w).natAbs ≤ V := by
  rw [Int.natAbs_mul]
  have := Nat.mul_le_mul (dv_le (a := a) (b := b) (i := i)) h
  omega
theorem dot_wd {n V : Nat} {s : Int} {a b : Nat} {c : List Rat} {v : List Rat} (hn : ∀ i, i < n → co c i = (s : Rat) / 12 * (dv a b i : Rat)) (hv : Vb V v) : ∀ k, k ≤ n → ∃ y : Int, y.natAbs ≤ k * V ∧ dot k c (co v) = (s : Rat) / 144 * (y : Rat)
  | 0, _ => ⟨0, Nat.zero_le _, by show (0 : Rat) = _; rw [cast0]; grind⟩
  | k + 1, hk => by
    obtain ⟨y, y1, y2⟩ := dot_wd hn hv k (by omega)
    obtain ⟨w, w1, w2⟩ := hv k
    refine ⟨y + dv a b k * w, ?_, ?_⟩
    · have := dv_mul (a := a) (b := b) (i := k) w1
      rw [Nat.succ_mul]
      omega
    · show dot k c (co v) + co c k * co v k = _
      rw [y2, hn k (by omega), w2, Rat.intCast_add, Rat.intCast_mul]
      grind
/-- the sizes of all that a row and values make -/
structure Szs (K : Nat) (r : Row) (v : List Rat) (n : Nat) : Prop where
  b : Sm K r.b
  c : ∀ i, i < n → Sm K (co r.c i)
  w : ∀ i, Sm K (co v i)
  m : ∀ i, i < n → Sm K (co r.c i * co v i)
  d : ∀ i, i ≤ n → Sm K (dot i r.c (co v))
  t : ∀ i, i ≤ n → Sm K (r.b - dot i r.c (co v))
theorem lt200 {x : Nat} (h : x ≤ 28 * (2 ^ 110 + 5 * 2 ^ 120)) : x < 2 ^ 200 := Nat.lt_of_le_of_lt h (by decide)
theorem szs {n B V : Nat} {r : Row} {v : List Rat} (h : Wd n B r) (hB : B ≤ 2 ^ 110) (hv : Vb V v) (hV : V ≤ 2 ^ 120) (hn5 : n ≤ 5) : Szs 200 r v n := by
  obtain ⟨s, a, b, s1, s2, ha, hb, hn, ⟨z, z1, z2⟩, hm⟩ := h
  have z1' : z.natAbs ≤ 2 ^ 110 := Nat.le_trans z1 hB
  have kv : ∀ k, k ≤ n → k * V ≤ 5 * 2 ^ 120 := fun k hk => Nat.mul_le_mul (by omega) hV
  refine ⟨?_, fun i hi => ?_, fun i => ?_, fun i hi => ?_, fun i hi => ?_, fun i hi => ?_⟩
  · refine sm_of (x := s * z) (d := 144) ?_ (lt200 (Nat.le_trans (mul28 s1 s2 z1') (by decide))) (by decide) (by decide)
    rw [z2, Rat.intCast_mul, c144]; grind
  · refine sm_of (x := s * dv a b i) (d := 12) ?_ (lt200 (Nat.le_trans (mul28 s1 s2 (dv_le (a := a) (b := b) (i := i))) (by decide))) (by decide) (by decide)
    rw [hn i hi, Rat.intCast_mul, c12]; grind
  · obtain ⟨w, w1, w2⟩ := hv i
    exact sm_of (x := w) (d := 12) (by rw [w2, c12]) (lt200 (Nat.le_trans (Nat.le_trans w1 hV) (by decide))) (by decide) (by decide)
  · obtain ⟨w, w1, w2⟩ := hv i
    refine sm_of (x := s * (dv a b i * w)) (d := 144) ?_ (lt200 (Nat.le_trans (mul28 s1 s2 (dv_mul (a := a) (b := b) (i := i) (Nat.le_trans w1 hV))) (by decide))) (by decide) (by decide)
    rw [hn i hi, w2, Rat.intCast_mul, Rat.intCast_mul, c144]; grind
  · obtain ⟨y, y1, y2⟩ := dot_wd hn hv i hi
    refine sm_of (x := s * y) (d := 144) ?_ (lt200 (Nat.le_trans (mul28 s1 s2 (Nat.le_trans y1 (kv i hi))) (by decide))) (by decide) (by decide)
    rw [y2, Rat.intCast_mul, c144]; grind
  · obtain ⟨y, y1, y2⟩ := dot_wd hn hv i hi
    have := kv i hi
    refine sm_of (x := s * (z - y)) (d := 144) ?_ (lt200 (mul28 s1 s2 (B := 2 ^ 110 + 5 * 2 ^ 120) (by omega))) (by decide) (by decide)
    rw [z2, y2, Rat.intCast_mul, Rat.intCast_sub, c144]; grind
/-- every end is one of the quotients -/
theorem ivF_P {P : Rat → Prop} {rs : List (Rat × Rat × Bool)} (h : ∀ r ∈ rs, r.1 ≠ 0 → P (r.2.1 / r.1)) : (∀ q, (ivF rs).1 = some q → P q) ∧ ∀ q, (ivF rs).2 = some q → P q := by
  have all : ∀ (rs : List (Rat × Rat × Bool)) (s : Option Rat × Option Rat), (∀ r ∈ rs, r.1 ≠ 0 → P (r.2.1 / r.1)) → ((∀ q, s.1 = some q → P q) ∧ ∀ q, s.2 = some q → P q) → (∀ q, (rs.foldl ivStep s).1 = some q → P q) ∧ ∀ q, (rs.foldl ivStep s).2 = some q → P q := by
    intro rs
    induction rs with
    | nil => exact fun s _ h => h
    | cons r rs ih =>
      intro s hr hs
      rw [List.foldl_cons]
      refine ih _ (fun q hq => hr q (List.mem_cons_of_mem _ hq)) ?_
      have h0 := hr r List.mem_cons_self
      unfold ivStep
      by_cases c : r.1 = 0
      · rw [if_pos c]; exact hs
      · rw [if_neg c]
        have pe := h0 c
        constructor
        · dsimp only
          split
          · intro q hq
            unfold omax at hq
            split at hq
            · cases hq; exact pe
            · rename_i v e
              split at hq <;> cases hq
              · exact pe
              · exact hs.1 _ e
          · exact hs.1
        · dsimp only
          split
          · intro q hq
            unfold ominR at hq
            split at hq
            · cases hq; exact pe
            · rename_i v e
              split at hq <;> cases hq
              · exact pe
              · exact hs.2 _ e
          · exact hs.2
  exact all rs (none, none) h ⟨fun q hq => (by cases hq), fun q hq => (by cases hq)⟩
theorem pickF_P {P : Rat → Prop} {s : Option Rat × Option Rat} (h0 : P 0) (h : (∀ q, s.1 = some q → P q) ∧ ∀ q, s.2 = some q → P q) : P (pickF s) := by
  have up : P (pickU s.2) := by
    unfold pickU
    split
    · rename_i b e
      split
      · exact h.2 b e
      · exact h0
    · exact h0
  obtain ⟨lo, hi⟩ := s
  by_cases c : ∀ v, lo = some v → ¬ 0 < v
  · rw [pickF_up c]; exact up
  · cases lo with
    | none => exact absurd (fun v hv => by cases hv) c
    | some v =>
      by_cases z : 0 < v
      · have : pickF (some v, hi) = v := by unfold pickF; dsimp only; rw [if_pos z]
        rw [this]
        exact h.1 v rfl
      · exact absurd (fun w hw => by cases hw; exact z) c
theorem vb_snoc {V : Nat} {v : List Rat} {q : Rat} (h : Vb V v) (hq : Qv V q) : Vb V (v ++ [q]) := fun i => by
  rw [co_snoc]
  split
  · exact h i
  · split
    · exact hq
    · exact qv0
theorem Vb.mono {V V' : Nat} {v : List Rat} (h : Vb V v) (le : V ≤ V') : Vb V' v := fun i => (h i).mono le
theorem runF_vb {l : List Row} {n len : Nat} (hl : Len len l) (h0 : ∀ r ∈ l, Wd n (2 ^ 7) r) (hc : l.length ≤ 72) (hn : n ≤ 5) (hnl : n ≤ len) : ∀ k, k ≤ n → Vb (2 ^ (103 + 3 * k)) (runF l n k)
  | 0, _ => fun i => by
    have : co (runF l n 0) i = 0 := by
      show co [] i = 0
      unfold co
      simp
    rw [this]; exact qv0
  | k + 1, hk => by
    have ih := runF_vb hl h0 hc hn hnl k (by omega)
    have e : 2 ^ (103 + 3 * (k + 1)) = 8 * 2 ^ (103 + 3 * k) := by
      have : 103 + 3 * (k + 1) = 3 + (103 + 3 * k) := by omega
      rw [this, Nat.pow_add]
    have e2 : 2 ^ 103 ≤ 2 ^ (103 + 3 * k) := Nat.pow_le_pow_right (by decide) (by omega)
    rw [e]
    show Vb _ (runF l n k ++ [_])
    refine vb_snoc (ih.mono (by omega)) ?_
    refine pickF_P qv0 (ivF_P fun r hr c => ?_)
    obtain ⟨r', hr', rfl⟩ := List.mem_map.mp hr
    obtain ⟨s, a, b, s1, s2, ha, hb, hn', ⟨z, z1, z2⟩, hm⟩ := (el_wd hl h0 hc hn hnl (n - 1 - k) (by omega)).2 r' hr'
    obtain ⟨y, y1, y2⟩ := dot_wd hn' ih k (by omega)
    dsimp only at c ⊢
    have hz : z.natAbs ≤ 2 ^ 103 := Nat.le_trans z1 (Nat.pow_le_pow_right (by decide) (by omega))
    have hy : y.natAbs ≤ 5 * 2 ^ (103 + 3 * k) := Nat.le_trans y1 (Nat.mul_le_mul_right _ (by omega))
    have e3 : dot k r'.c (fun i => co (runF l n k) i) = (s : Rat) / 144 * (y : Rat) := y2
    rw [e3, z2]
    have c0 := c
    rw [hn' k (by omega)] at c ⊢
    have hd : dv a b k ≠ 0 := fun q => c (by rw [q, cast0]; grind)
    have hd' : dv a b k = 1 ∨ dv a b k = -1 := by have := dv_le (a := a) (b := b) (i := k); omega
    have sp : (0 : Rat) < (s : Rat) := Rat.intCast_pos.mpr s1
    refine ⟨dv a b k * (z - y), Nat.le_trans (dv_mul (Nat.le_refl _)) (by omega), ?_⟩
    have h3 := Rat.div_mul_cancel (a := (s : Rat) / 144 * (z : Rat) - (s : Rat) / 144 * (y : Rat)) c
    generalize ((s : Rat) / 144 * (z : Rat) - (s : Rat) / 144 * (y : Rat)) / ((s : Rat) / 12 * (dv a b k : Rat)) = q at *
    have h4 : (s : Rat) * (q * (dv a b k : Rat) * 12 - ((z : Rat) - (y : Rat))) = 0 := by grind
    have h5 : q * (dv a b k : Rat) * 12 - ((z : Rat) - (y : Rat)) = 0 := by
      rcases Rat.mul_eq_zero.mp h4 with h | h
      · grind
      · exact h
    rw [Rat.intCast_mul, Rat.intCast_sub]
    rcases hd' with h | h <;> rw [h] at h5 ⊢
    · rw [cast1] at h5 ⊢; grind
    · rw [castm1] at h5 ⊢; grind
theorem fineV {l : List Row} {n len : Nat} (hl : Len len l) (h0 : ∀ r ∈ l, Wd n (2 ^ 7) r) (hc : l.length ≤ 72) (hn : n ≤ 5) (hnl : n ≤ len) : FineV l n 200 := fun k hk r hr => by
  have w := (el_wd hl h0 hc hn hnl (n - 1 - k) (by omega)).2 r hr
  have v := runF_vb hl h0 hc hn hnl k (by omega)
  have z := szs w (pw (by omega)) v (Nat.pow_le_pow_right (by decide) (by omega)) hn
  exact ⟨z.c k hk, fun i hi => ⟨z.c i (by omega), z.w i, z.m i (by omega)⟩, fun i hi => z.t i (by omega)⟩
/-! ### the raw conditions -/
theorem fac_sig {f : Rat} (h : f ∈ facs) : ∃ s : Int, 0 < s ∧ s ≤ 28 ∧ f = (s : Rat) / 12 ∧ ∃ t : Int, t.natAbs ≤ 128 ∧ s * t = 504 := by
  unfold facs at h
  simp only [List.mem_cons, List.not_mem_nil, or_false] at h
  rcases h with h | h | h | h | h
  · exact ⟨12, by decide, by decide, by rw [h, c12]; grind, 42, by decide, by decide⟩
  · exact ⟨24, by decide, by decide, by rw [h, show ((24 : Int) : Rat) = 24 from rfl]; grind, 21, by decide, by decide⟩
  · exact ⟨6, by decide, by decide, by rw [h, show ((6 : Int) : Rat) = 6 from rfl]; grind, 84, by decide, by decide⟩
  · exact ⟨9, by decide, by decide, by rw [h, show ((9 : Int) : Rat) = 9 from rfl]; grind, 56, by decide, by decide⟩
  · exact ⟨28, by decide, by decide, by rw [h, show ((28 : Int) : Rat) = 28 from rfl]; grind, 18, by decide, by decide⟩
theorem dv_swap {i j k : Nat} : dv j i k = -dv i j k := by unfold dv; omega
theorem dc_len {n : Nat} {r : Row} (h : Dc n r) : r.c.length = n := by
  obtain ⟨i, j, way, f, kind, _, _, _, _, _, _, rfl⟩ := h
  exact condR_len
/-- marks of any kind behind a raw condition -/
theorem dc_wd {n : Nat} {r : Row} (h : Dc n r) (m : List Rat) (hm : ∀ i, co m i = 0 ∨ co m i = 1) : Wd n (2 ^ 7) ⟨r.c ++ m, r.b, r.j⟩ := by
  have ln := dc_len h
  obtain ⟨i, j, way, f, kind, hi, hj, hij, hw, hf, hk, rfl⟩ := h
  obtain ⟨s, s1, s2, e, t, t1, t2⟩ := fac_sig hf
  have marks : ∀ p, ∃ z : Int, z.natAbs ≤ 2 ^ 7 ∧ co m p = (s : Rat) / 504 * (z : Rat) := fun p => by
    rcases hm p with h | h
    · exact ⟨0, by decide, by rw [h, cast0]; grind⟩
    · refine ⟨t, t1, ?_⟩
      have : (s : Rat) * (t : Rat) = 504 := by rw [← Rat.intCast_mul, t2, c504]
      rw [h]; grind
  have cm : ∀ (c : List Rat) p, c.length = n → co (c ++ m) (n + p) = co m p := fun c p hc => by
    rw [co_app hc, if_neg (by omega)]
    congr 1; omega
  have cn : ∀ (c : List Rat) p, c.length = n → p < n → co (c ++ m) p = co c p := fun c p hc hp => by
    rw [co_app hc, if_pos hp]
  by_cases hk1 : kind = 1
  · rw [if_pos hk1] at ln ⊢
    refine ⟨s, i, j, s1, s2, hi, hj, fun p hp => ?_, ⟨-way, by omega, ?_⟩, fun p => ?_⟩
    · rw [cn _ p ln hp, condR_co hp, dv_swap, Rat.intCast_neg, e]; grind
    · show -f * ((way : Rat) / 12) = _
      rw [e, Rat.intCast_neg]; grind
    · rw [cm _ p ln]; exact marks p
  · rw [if_neg hk1] at ln ⊢
    refine ⟨s, j, i, s1, s2, hj, hi, fun p hp => ?_, ⟨way, hw, ?_⟩, fun p => ?_⟩
    · rw [cn _ p ln hp, condR_co hp, e]
    · show f * ((way : Rat) / 12) = _
      rw [e]; grind
    · rw [cm _ p ln]; exact marks p
theorem dc_wd0 {n : Nat} {r : Row} (h : Dc n r) : Wd n (2 ^ 7) r := by
  have := dc_wd h [] fun i => .inl (by unfold co; simp)
  rw [List.append_nil] at this
  exact this
theorem dc_marked {n : Nat} {l : List Row} (h : ∀ r ∈ l, Dc n r) : ∀ r ∈ marked l, Wd n (2 ^ 7) r := fun r hr => by
  obtain ⟨i, hi, rfl⟩ := List.mem_iff_getElem.mp hr
  have hi' : i < l.length := by unfold marked at hi; rwa [List.length_mapIdx] at hi
  rw [marked_get hi']
  refine dc_wd (h _ (List.getElem_mem hi')) _ fun p => ?_
  by_cases c : p < l.length
  · rw [co_unit c]
    split
    · exact .inr rfl
    · exact .inl rfl
  · left
    unfold co unit
    rw [List.getD_eq_getElem?_getD, List.getElem?_eq_none (by rw [List.length_map, List.length_range]; omega)]
    rfl
end K00
set_option Elab.async false
set_option linter.all false
set_option maxRecDepth 100000
set_option maxHeartbeats 2000000
/-! K01H: _law_refutes. -/
namespace K00
open SF PySem
/-- the numbers of row q, and its bound -/
def wq (l : List Row) (q at' : Nat) : Rat := co (((l[q]?).getD ⟨[], 0, false⟩).c ++ [((l[q]?).getD ⟨[], 0, false⟩).b]) at'
/-- the sums behind p turns -/
def sm (ts : List Rat) (l : List Row) (p at' : Nat) : Rat := sumN p fun q => co ts q * wq l q at'
theorem st_rq {h : Hh} {q : Rat} : St h 4 (rq q) (.tuple [.int q.num, .int (q.den : Int)]) := fun h' k f hf => by
  obtain ⟨n, rfl⟩ : ∃ n, f = n + 4 := ⟨f - 4, by omega⟩
  rfl
theorem lf_rqs {h : Hh} : ∀ cs : List Rat, LF h 4 (cs.map rq) (cs.map fun q => .tuple [.int q.num, .int (q.den : Int)])
  | [] => .nil
  | q :: cs => .cons st_rq (lf_rqs cs)
theorem same_rq {n : Nat} {q : Rat} {h : Hh} : Ok (C (n + 3) 37 [rq q, rq q] h) fun d h' => d = .bl true ∧ Keep [] h h' := by
  have le : Le 2 1 (rq q) := .inr ⟨_, rfl, Nat.le_refl 2, fun x hx => by
    simp only [List.mem_cons, List.not_mem_nil, or_false] at hx
    rcases hx with rfl | rfl <;> rfl⟩
  have p := fun h => plain_ok (w := 2) (by decide) 1 (rq q) le n h
  have e : 1 + 1 + n = n + 2 := by omega
  rw [e] at p
  exact same_ok (N := n + 2) (p h) (fun h' _ => p h') (by decide)
theorem refutes_ok {n m K c : Nat} {l : List Row} {ts : List Rat} {h : Hh} (hc : h[c]? = some (O.lst (l.map rowD))) (hl : Len m l) (lt : ts.length = l.length) (hn : l.length ≤ 100) (hm : m ≤ 50) (hp : 0 < K) (hK : K ≤ 4500)
    (s1 : ∀ q, q < l.length → Sm K (co ts q)) (s2 : ∀ q, q < l.length → ∀ a, a ≤ m → Sm K (wq l q a) ∧ Sm K (co ts q * wq l q a)) (s3 : ∀ p, p ≤ l.length → ∀ a, a ≤ m → Sm K (sm ts l p a))
    (pos : ∀ (q : Nat) (r : Row), l[q]? = some r → co ts q < 0 → r.j = true) (z0 : ∀ a, a < m → sm ts l l.length a = 0) (z1 : sm ts l l.length m = -1) :
    Ok (C (n + 4) 43 [.tup (ts.map rq), .ref c, .int (m : Int)] h) fun d h' => d = .bl true ∧ Keep [] h h' := by
  have sa := fun (q : Rat) (h : Hh) => same_rq (n := n) (q := q) (h := h)
  have rt := fun (q : Rat) (h : Hh) (hq : Sm K q) => lratio_eq (n := n + 1) (k := K) (h := h) q.num q.den (den0 q) hq.den (by omega) hp
  have pl := fun (a b : Rat) (h : Hh) (ha : Sm K a) (hb : Sm K b) => lplus_eq (n := n) (h := h) ha hb hp hK
  have tm := fun (a b : Rat) (h : Hh) (ha : Sm K a) (hb : Sm K b) => ltimes_eq (n := n) (h := h) ha hb hp hK
  refine C_ok (f := f__law_refutes) rfl rfl fun call hcall => ?_
  rw [← hcall] at sa rt pl tm
  show Ok (evSs call gvals b__law_refutes [some (.tup (ts.map rq)), some (.ref c), some (.int (m : Int)), none, none, none, none] h) _
  unfold b__law_refutes
  have lm : (l.map rowD).length = l.length := List.length_map ..
  have lt' : (ts.map rq).length = l.length := by rw [List.length_map, lt]
  have d0 : decide ((l.length : Int) = (l.length : Int)) = true := decide_eq_true rfl
  refine ss_cons (s_if (Ok.of (a := false) (h := h) (by simp only [runFn, evSs, evS, evE, evT, evEs, evO, evG, evGs, b_ok, ix0, ix1, ix2', o_add', o_sub', c_lt', c_le', c_gt', c_ge', c_eq', c_ne', List.length_cons, List.length_nil, List.map_cons, List.map_nil, List.replicate, Nat.sub_self, Nat.add_sub_cancel, List.cons_append, List.nil_append, List.append_nil, List.getElem?_cons_zero, List.getElem?_cons_succ, List.set_cons_zero, List.set_cons_succ, if_true, if_false, ite_true, ite_false, reduceIte, Nat.reduceAdd, Nat.reduceSub, Nat.reduceLT, Nat.zero_add, Bool.true_and, Bool.and_true, show ∀ xs, tyAny h (.tup xs) [.tuple] = some true from fun _ => rfl, Bool.not_true, Bool.false_eq_true, b_lenT, b_lenR hc, lt', lm, decide_true]) ?_))
  rw [if_neg Bool.false_ne_true]
  refine ss_nil ?_
  have rz : D.tup [.int 0, .int 1] = rq 0 := rfl
  have zeros : ∀ (M : Nat) (b : E) (e : En) (h : Hh), (e.length = 7) → evE call gvals b e h = .ok (.int (M : Int), h) → M ≤ 101 → evE call gvals (.comp (.tup (.cons (.lit (.int 0)) (.cons (.lit (.int 1)) .nil))) (.var 4) (.rng (.lit (.int 0)) b) .nil [4]) e h = .ok (.ref h.length, h ++ [.lst ((List.range M).map fun _ => rq 0)]) := fun M b e h le hb hM => by
    refine comp_gen (J := .rng 0 1 ((M : Int) - 0).toNat) (d := fun t => .int (0 + (t : Int))) (rng_eq rfl hb (by decide) (by decide) (by omega) (by omega)) (fun t ht h' => rng_next (by omega)) (fun h' => by rw [rng_fmt]; exact rng_end) rng_fmt (fun t ht h' => ?_) (sz_ok (by omega))
    have lw : 4 < (wipeE e [4]).length := by
      show 4 < (e.set 4 none).length
      rw [List.length_set]; omega
    refine ⟨_, by unfold evG; rw [if_pos lw], ?_⟩
    simp only [runFn, evSs, evS, evE, evT, evEs, evO, evG, evGs, b_ok, ix0, ix1, ix2', o_add', o_sub', c_lt', c_le', c_gt', c_ge', c_eq', c_ne', List.length_cons, List.length_nil, List.map_cons, List.map_nil, List.replicate, Nat.sub_self, Nat.add_sub_cancel, List.cons_append, List.nil_append, List.append_nil, List.getElem?_cons_zero, List.getElem?_cons_succ, List.set_cons_zero, List.set_cons_succ, if_true, if_false, ite_true, ite_false, reduceIte, Nat.reduceAdd, Nat.reduceSub, Nat.reduceLT, Nat.zero_add, Bool.true_and, Bool.and_true, rz]
  have z := zeros (m + 1) (.bin .add (.var 2) (.lit (.int 1))) [some (.tup (ts.map rq)), some (.ref c), some (.int (m : Int)), none, none, none, none] h rfl (by simp only [runFn, evSs, evS, evE, evT, evEs, evO, evG, evGs, b_ok, ix0, ix1, ix2', o_add', o_sub', c_lt', c_le', c_gt', c_ge', c_eq', c_ne', List.length_cons, List.length_nil, List.map_cons, List.map_nil, List.replicate, Nat.sub_self, Nat.add_sub_cancel, List.cons_append, List.nil_append, List.append_nil, List.getElem?_cons_zero, List.getElem?_cons_succ, List.set_cons_zero, List.set_cons_succ, if_true, if_false, ite_true, ite_false, reduceIte, Nat.reduceAdd, Nat.reduceSub, Nat.reduceLT, Nat.zero_add, Bool.true_and, Bool.and_true, Int.natCast_add, Int.natCast_one]) (by omega)
  refine ss_cons (s_asg (by simp) (Ok.of z ?_))
  dsimp only [List.set_cons_zero, List.set_cons_succ]
  have k1 : Keep [] h (h ++ [O.lst ((List.range (m + 1)).map fun _ => rq 0)]) := Keep.app _
  have e0 : ((List.range (m + 1)).map fun _ => rq 0) = ((List.range (m + 1)).map (sm ts l 0)).map rq := by
    rw [List.map_map]
    rfl
  rw [e0] at k1 ⊢
  have g0 : (h ++ [O.lst (((List.range (m + 1)).map (sm ts l 0)).map rq)])[h.length]? = some (O.lst (((List.range (m + 1)).map (sm ts l 0)).map rq)) := get_new
  generalize h ++ [O.lst (((List.range (m + 1)).map (sm ts l 0)).map rq)] = h1 at *
  generalize h.length = a0 at *
  refine ss_cons (s_for (rng_ok (i := 0) (j := (l.length : Int)) rfl (by simp only [runFn, evSs, evS, evE, evT, evEs, evO, evG, evGs, b_ok, ix0, ix1, ix2', o_add', o_sub', c_lt', c_le', c_gt', c_ge', c_eq', c_ne', List.length_cons, List.length_nil, List.map_cons, List.map_nil, List.replicate, Nat.sub_self, Nat.add_sub_cancel, List.cons_append, List.nil_append, List.append_nil, List.getElem?_cons_zero, List.getElem?_cons_succ, List.set_cons_zero, List.set_cons_succ, if_true, if_false, ite_true, ite_false, reduceIte, Nat.reduceAdd, Nat.reduceSub, Nat.reduceLT, Nat.zero_add, Bool.true_and, Bool.and_true, b_lenT, lt']) (by decide) (by decide) (by omega) (by omega) ?_))
  rw [rng_fmt]
  have hmo : It.most h1 (.rng 0 1 l.length) = l.length := rfl
  rw [hmo]
  refine ⟨fun p e3 h3 => ∃ (a : Nat) (x4 x5 x6 : Option D), e3 = [some (.tup (ts.map rq)), some (.ref c), some (.int (m : Int)), some (.ref a), x4, x5, x6] ∧ h3[a]? = some (O.lst (((List.range (m + 1)).map (sm ts l p)).map rq)) ∧ Keep [] h h3, ⟨a0, none, none, none, rfl, g0, k1⟩, ?_⟩
  rintro p e3 h3 ⟨a, x4, x5, x6, rfl, g3, k3⟩ lep
  rcases Nat.eq_or_lt_of_le lep with e' | ltp
  · refine .inl ⟨e', by rw [e']; exact rng_end, ?_⟩
    rw [e'] at g3
    have el : (List.range (m + 1)).map (sm ts l l.length) = (List.range m).map (fun _ => (0 : Rat)) ++ [-1] := by
      rw [List.range_succ, List.map_append]
      congr 1
      · exact List.map_congr_left fun a ha => z0 a (List.mem_range.mp ha)
      · show [sm ts l l.length m] = [-1]
        rw [z1]
    rw [el] at g3
    have z' := zeros m (.var 2) [some (.tup (ts.map rq)), some (.ref c), some (.int (m : Int)), some (.ref a), x4, x5, x6] h3 rfl (by simp only [runFn, evSs, evS, evE, evT, evEs, evO, evG, evGs, b_ok, ix0, ix1, ix2', o_add', o_sub', c_lt', c_le', c_gt', c_ge', c_eq', c_ne', List.length_cons, List.length_nil, List.map_cons, List.map_nil, List.replicate, Nat.sub_self, Nat.add_sub_cancel, List.cons_append, List.nil_append, List.append_nil, List.getElem?_cons_zero, List.getElem?_cons_succ, List.set_cons_zero, List.set_cons_succ, if_true, if_false, ite_true, ite_false, reduceIte, Nat.reduceAdd, Nat.reduceSub, Nat.reduceLT, Nat.zero_add, Bool.true_and, Bool.and_true]) (by omega)
    have ez : ((List.range m).map fun _ => rq 0) = ((List.range m).map fun _ => (0 : Rat)).map rq := by
      rw [List.map_map]
      rfl
    rw [ez] at z'
    have lz : (((List.range m).map fun _ => (0 : Rat)).map rq).length = m := by rw [List.length_map, List.length_map, List.length_range]
    generalize (List.range m).map (fun _ => (0 : Rat)) = Z at *
    have gz : (h3 ++ [O.lst (Z.map rq)] ++ [O.lst [rq (-1)]])[h3.length]? = some (O.lst (Z.map rq)) := get_old get_new
    have go : (h3 ++ [O.lst (Z.map rq)] ++ [O.lst [rq (-1)]])[(h3 ++ [O.lst (Z.map rq)]).length]? = some (O.lst [rq (-1)]) := get_new
    have g3' : (h3 ++ [O.lst (Z.map rq)] ++ [O.lst [rq (-1)]] ++ [O.lst ((Z ++ [-1]).map rq)])[a]? = some (O.lst ((Z ++ [-1]).map rq)) := get_old (get_old (get_old g3))
    have gf : (h3 ++ [O.lst (Z.map rq)] ++ [O.lst [rq (-1)]] ++ [O.lst ((Z ++ [-1]).map rq)])[(h3 ++ [O.lst (Z.map rq)] ++ [O.lst [rq (-1)]]).length]? = some (O.lst ((Z ++ [-1]).map rq)) := get_new
    have kf : Keep [] h3 (h3 ++ [O.lst (Z.map rq)] ++ [O.lst [rq (-1)]] ++ [O.lst ((Z ++ [-1]).map rq)]) := ((Keep.app _).trans (Keep.app _)).trans (Keep.app _)
    have ad : op2 .add (.ref h3.length) (.ref (h3 ++ [O.lst (Z.map rq)]).length) (h3 ++ [O.lst (Z.map rq)] ++ [O.lst [rq (-1)]]) = .ok (.ref (h3 ++ [O.lst (Z.map rq)] ++ [O.lst [rq (-1)]]).length, h3 ++ [O.lst (Z.map rq)] ++ [O.lst [rq (-1)]] ++ [O.lst ((Z ++ [-1]).map rq)]) := by
      unfold op2
      dsimp only
      rw [gz, go]
      dsimp only
      rw [if_neg (by have : (1000 : Nat) < sizeLine := by decide
                     rw [lz, List.length_singleton]; omega), List.map_append]
      rfl
    have m1 : D.tup [.int (-1), .int 1] = rq (-1) := rfl
    have lzz : ((Z ++ [-1]).map rq).length = m + 1 := by rw [List.length_map] at lz; rw [List.length_map, List.length_append, lz]; rfl
    have t1 := st_list (F := 4) g3' (lf_rqs _) _ Keep.refl deep (by rw [lzz]; show 4 + (m + 1) + 2 ≤ 60; omega)
    have t2 := st_list (F := 4) gf (lf_rqs _) _ Keep.refl deep (by rw [lzz]; show 4 + (m + 1) + 2 ≤ 60; omega)
    have hb1 : ∃ b1, b1 = (h3 ++ [O.lst (Z.map rq)] ++ [O.lst [rq (-1)]]).length := ⟨_, rfl⟩
    obtain ⟨b1, hb1⟩ := hb1
    rw [← hb1] at t2 ad
    have ec : cmp2 .eq (.ref a) (.ref b1) (h3 ++ [O.lst (Z.map rq)] ++ [O.lst [rq (-1)]] ++ [O.lst ((Z ++ [-1]).map rq)]) = .ok (.bl true, h3 ++ [O.lst (Z.map rq)] ++ [O.lst [rq (-1)]] ++ [O.lst ((Z ++ [-1]).map rq)]) := by
      have : cmp2 .eq (.ref a) (.ref b1) (h3 ++ [O.lst (Z.map rq)] ++ [O.lst [rq (-1)]] ++ [O.lst ((Z ++ [-1]).map rq)]) = (match eqD (h3 ++ [O.lst (Z.map rq)] ++ [O.lst [rq (-1)]] ++ [O.lst ((Z ++ [-1]).map rq)]) (.ref a) (.ref b1) with
        | some b => .ok (.bl b, h3 ++ [O.lst (Z.map rq)] ++ [O.lst [rq (-1)]] ++ [O.lst ((Z ++ [-1]).map rq)])
        | none => .stuck) := rfl
      rw [this]
      unfold eqD
      rw [t1, t2]
      dsimp only
      rw [(eqv_refl deep).1 _ _ t1]
    generalize E.comp (.tup (.cons (.lit (.int 0)) (.cons (.lit (.int 1)) .nil))) (.var 4) (.rng (.lit (.int 0)) (.var 2)) .nil [4] = ce at z' ⊢
    refine ss_cons (s_ret (Ok.of (a := .bl true) (h := h3 ++ [O.lst (Z.map rq)] ++ [O.lst [rq (-1)]] ++ [O.lst ((Z ++ [-1]).map rq)]) ?_ ⟨rfl, k3.trans kf⟩))
    simp only [runFn, evSs, evS, evE, evT, evEs, evO, evG, evGs, b_ok, ix0, ix1, ix2', o_add', o_sub', c_lt', c_le', c_gt', c_ge', c_eq', c_ne', List.length_cons, List.length_nil, List.map_cons, List.map_nil, List.replicate, Nat.sub_self, Nat.add_sub_cancel, List.cons_append, List.nil_append, List.append_nil, List.getElem?_cons_zero, List.getElem?_cons_succ, List.set_cons_zero, List.set_cons_succ, if_true, if_false, ite_true, ite_false, reduceIte, Nat.reduceAdd, Nat.reduceSub, Nat.reduceLT, Nat.zero_add, Bool.true_and, Bool.and_true, z', m1, ad, ec]
  · refine .inr ⟨ltp, .int (0 + p), rng_next ltp, Ok.bind (Ok.of (a := [some (.tup (ts.map rq)), some (.ref c), some (.int (m : Int)), some (.ref a), some (.int (p : Int)), x5, x6]) (h := h3) (by ((simp only [runFn, evSs, evS, evE, evT, evEs, evO, evG, evGs, b_ok, ix0, ix1, ix2', o_add', o_sub', c_lt', c_le', c_gt', c_ge', c_eq', c_ne', List.length_cons, List.length_nil, List.map_cons, List.map_nil, List.replicate, Nat.sub_self, Nat.add_sub_cancel, List.cons_append, List.nil_append, List.append_nil, List.getElem?_cons_zero, List.getElem?_cons_succ, List.set_cons_zero, List.set_cons_succ, if_true, if_false, ite_true, ite_false, reduceIte, Nat.reduceAdd, Nat.reduceSub, Nat.reduceLT, Nat.zero_add, Bool.true_and, Bool.and_true, Int.zero_add]) <;> rfl)) ?_)⟩
    dsimp only
    have hc3 := k3.get hc (by simp)
    obtain ⟨q, hq⟩ : ∃ q, q = co ts p := ⟨_, rfl⟩
    obtain ⟨r, hr⟩ : ∃ r, r = l[p] := ⟨_, rfl⟩
    have it : ∀ h, ix2 (.tup (ts.map rq)) (.int (p : Int)) h = .ok (rq q, h) := fun h => by
      rw [ix_nat (k := p) (by rw [lt']; exact ltp), List.getElem_map, hq, getQ (by omega)]
    have ic : ∀ h', Keep [] h3 h' → ix2 (.ref c) (.int (p : Int)) h' = .ok (rowD r, h') := fun h' k => by
      rw [ix_ref (k.get hc3 (by simp)) (k := p) (by rw [lm]; exact ltp), List.getElem_map, hr]
    have lr : r.c.length = m := hl r (by rw [hr]; exact List.getElem_mem ltp)
    have gr : l[p]? = some r := by rw [hr]; exact List.getElem?_eq_getElem ltp
    have q0 : ∀ h, ix2 (rq q) (.int 0) h = .ok (.int q.num, h) := fun h => ix0
    have q1 : ∀ h, ix2 (rq q) (.int 1) h = .ok (.int (q.den : Int), h) := fun h => ix1
    have sq := s1 p ltp
    rw [← hq] at sq
    have rtq := rt q h3 sq
    have eqq : Rat.divInt q.num q.den = q := Rat.num_divInt_den q
    rw [eqq] at rtq
    have lq : bf2 .len [rq q] h3 = .ok (.int 2, h3) := rfl
    have tq : ∀ h, tyAny h (rq q) [.tuple] = some true := fun h => rfl
    obtain ⟨d, h4, es, rfl, k4⟩ := sa q h3
    refine ss_cons (s_if (Ok.of (a := false) (h := h4) (by simp only [runFn, evSs, evS, evE, evT, evEs, evO, evG, evGs, b_ok, ix0, ix1, ix2', o_add', o_sub', c_lt', c_le', c_gt', c_ge', c_eq', c_ne', List.length_cons, List.length_nil, List.map_cons, List.map_nil, List.replicate, Nat.sub_self, Nat.add_sub_cancel, List.cons_append, List.nil_append, List.append_nil, List.getElem?_cons_zero, List.getElem?_cons_succ, List.set_cons_zero, List.set_cons_succ, if_true, if_false, ite_true, ite_false, reduceIte, Nat.reduceAdd, Nat.reduceSub, Nat.reduceLT, Nat.zero_add, Bool.true_and, Bool.and_true, it, tq, lq, q0, q1, rtq, es, Bool.not_true, decide_true, Bool.false_eq_true]) ?_))
    rw [if_neg Bool.false_ne_true]
    refine ss_nil ?_
    have kk4 : Keep [] h h4 := k3.trans k4
    have ic4 := ic h4 k4
    have j0 : ∀ h, ix2 (rowD r) (.int 0) h = .ok (.tup (r.c.map rq), h) := fun h => ix0
    have j1 : ∀ h, ix2 (rowD r) (.int 1) h = .ok (rq r.b, h) := fun h => ix1
    have j2 : ∀ h, ix2 (rowD r) (.int 2) h = .ok (.bl r.j, h) := fun h => ix2'
    refine ss_cons (s_if (Ok.of (a := false) (h := h4) ?_ ?_))
    · by_cases z : q < 0
      · have dz : decide (q.num < 0) = true := decide_eq_true (num_neg.mpr z)
        have jr := pos p r gr (by rw [← hq]; exact z)
        simp only [runFn, evSs, evS, evE, evT, evEs, evO, evG, evGs, b_ok, ix0, ix1, ix2', o_add', o_sub', c_lt', c_le', c_gt', c_ge', c_eq', c_ne', List.length_cons, List.length_nil, List.map_cons, List.map_nil, List.replicate, Nat.sub_self, Nat.add_sub_cancel, List.cons_append, List.nil_append, List.append_nil, List.getElem?_cons_zero, List.getElem?_cons_succ, List.set_cons_zero, List.set_cons_succ, if_true, if_false, ite_true, ite_false, reduceIte, Nat.reduceAdd, Nat.reduceSub, Nat.reduceLT, Nat.zero_add, Bool.true_and, Bool.and_true, it, q0, dz, ic4, j2, jr, Bool.not_true]
      · have dz : decide (q.num < 0) = false := decide_eq_false fun w => z (num_neg.mp w)
        simp only [runFn, evSs, evS, evE, evT, evEs, evO, evG, evGs, b_ok, ix0, ix1, ix2', o_add', o_sub', c_lt', c_le', c_gt', c_ge', c_eq', c_ne', List.length_cons, List.length_nil, List.map_cons, List.map_nil, List.replicate, Nat.sub_self, Nat.add_sub_cancel, List.cons_append, List.nil_append, List.append_nil, List.getElem?_cons_zero, List.getElem?_cons_succ, List.set_cons_zero, List.set_cons_succ, if_true, if_false, ite_true, ite_false, reduceIte, Nat.reduceAdd, Nat.reduceSub, Nat.reduceLT, Nat.zero_add, Bool.true_and, Bool.and_true, it, q0, dz, Bool.false_eq_true]
    rw [if_neg Bool.false_ne_true]
    refine ss_nil ?_
    have g5 : (h4 ++ [O.lst (r.c.map rq)] ++ [O.lst [rq r.b]])[h4.length]? = some (O.lst (r.c.map rq)) := get_old get_new
    have g6 : (h4 ++ [O.lst (r.c.map rq)] ++ [O.lst [rq r.b]])[(h4 ++ [O.lst (r.c.map rq)]).length]? = some (O.lst [rq r.b]) := get_new
    have ad : op2 .add (.ref h4.length) (.ref (h4 ++ [O.lst (r.c.map rq)]).length) (h4 ++ [O.lst (r.c.map rq)] ++ [O.lst [rq r.b]]) = .ok (.ref (h4 ++ [O.lst (r.c.map rq)] ++ [O.lst [rq r.b]]).length, h4 ++ [O.lst (r.c.map rq)] ++ [O.lst [rq r.b]] ++ [O.lst ((r.c ++ [r.b]).map rq)]) := by
      unfold op2
      dsimp only
      rw [g5, g6]
      dsimp only
      rw [if_neg (by have : (1000 : Nat) < sizeLine := by decide
                     rw [List.length_map, lr, List.length_singleton]; omega), List.map_append]
      rfl
    have ic5 := ic (h4 ++ [O.lst (r.c.map rq)]) (k4.trans (Keep.app _))
    refine ss_cons (s_asg (by simp) (Ok.of (a := .ref (h4 ++ [O.lst (r.c.map rq)] ++ [O.lst [rq r.b]]).length) (h := h4 ++ [O.lst (r.c.map rq)] ++ [O.lst [rq r.b]] ++ [O.lst ((r.c ++ [r.b]).map rq)]) (by simp only [runFn, evSs, evS, evE, evT, evEs, evO, evG, evGs, b_ok, ix0, ix1, ix2', o_add', o_sub', c_lt', c_le', c_gt', c_ge', c_eq', c_ne', List.length_cons, List.length_nil, List.map_cons, List.map_nil, List.replicate, Nat.sub_self, Nat.add_sub_cancel, List.cons_append, List.nil_append, List.append_nil, List.getElem?_cons_zero, List.getElem?_cons_succ, List.set_cons_zero, List.set_cons_succ, if_true, if_false, ite_true, ite_false, reduceIte, Nat.reduceAdd, Nat.reduceSub, Nat.reduceLT, Nat.zero_add, Bool.true_and, Bool.and_true, ic4, j0, bf2, listD, ic5, j1, ad]) ?_))
    dsimp only [List.set_cons_zero, List.set_cons_succ]
    have gR : (h4 ++ [O.lst (r.c.map rq)] ++ [O.lst [rq r.b]] ++ [O.lst ((r.c ++ [r.b]).map rq)])[(h4 ++ [O.lst (r.c.map rq)] ++ [O.lst [rq r.b]]).length]? = some (O.lst ((r.c ++ [r.b]).map rq)) := get_new
    have k5 : Keep [] h4 (h4 ++ [O.lst (r.c.map rq)] ++ [O.lst [rq r.b]] ++ [O.lst ((r.c ++ [r.b]).map rq)]) := ((Keep.app _).trans (Keep.app _)).trans (Keep.app _)
    generalize (h4 ++ [O.lst (r.c.map rq)] ++ [O.lst [rq r.b]]).length = R at *
    generalize h4 ++ [O.lst (r.c.map rq)] ++ [O.lst [rq r.b]] ++ [O.lst ((r.c ++ [r.b]).map rq)] = h5 at *
    have gA := (k4.trans k5).get g3 (by simp)
    have wr : ∀ a, wq l p a = co (r.c ++ [r.b]) a := fun a => by
      unfold wq
      rw [gr]
      rfl
    have lR : (r.c ++ [r.b]).length = m + 1 := by rw [List.length_append, lr]; rfl
    have cm := comp_run (call := call) (gl := gvals) (e := [some (.tup (ts.map rq)), some (.ref c), some (.int (m : Int)), some (.ref a), some (.int (p : Int)), some (.ref R), x6]) (h := h5) (elt := .call 33 (.cons (.ix (.var 3) (.var 6)) (.cons (.call 34 (.cons (.ix (.var 0) (.var 4)) (.cons (.ix (.var 5) (.var 6)) .nil)) []) .nil)) []) (tg := .var 6) (it := .rng (.lit (.int 0)) (.bin .add (.var 2) (.lit (.int 1)))) (own := [6])
      (J := .rng 0 1 (((m : Int) + 1) - 0).toNat) (N := m + 1) (d := fun t => .int (0 + (t : Int))) (fun i acc h' => acc = ((List.range i).map (sm ts l (p + 1))).map rq ∧ Keep [] h5 h') (rng_eq rfl (by simp only [runFn, evSs, evS, evE, evT, evEs, evO, evG, evGs, b_ok, ix0, ix1, ix2', o_add', o_sub', c_lt', c_le', c_gt', c_ge', c_eq', c_ne', List.length_cons, List.length_nil, List.map_cons, List.map_nil, List.replicate, Nat.sub_self, Nat.add_sub_cancel, List.cons_append, List.nil_append, List.append_nil, List.getElem?_cons_zero, List.getElem?_cons_succ, List.set_cons_zero, List.set_cons_succ, if_true, if_false, ite_true, ite_false, reduceIte, Nat.reduceAdd, Nat.reduceSub, Nat.reduceLT, Nat.zero_add, Bool.true_and, Bool.and_true]) (by decide) (by decide) (by omega) (by omega)) (fun i hi h' => rng_next (by omega)) (fun h' => by
        have : (((m : Int) + 1) - 0).toNat = m + 1 := by omega
        rw [this]; exact rng_end) (by show (((m : Int) + 1) - 0).toNat = m + 1; omega) ⟨rfl, Keep.refl⟩ (fun i acc h' lti q' => by
        obtain ⟨rfl, k⟩ := q'
        refine Ok.bind (Ok.of (a := [some (.tup (ts.map rq)), some (.ref c), some (.int (m : Int)), some (.ref a), some (.int (p : Int)), some (.ref R), some (.int (i : Int))]) (h := h') (by ((simp only [runFn, evSs, evS, evE, evT, evEs, evO, evG, evGs, b_ok, ix0, ix1, ix2', o_add', o_sub', c_lt', c_le', c_gt', c_ge', c_eq', c_ne', List.length_cons, List.length_nil, List.map_cons, List.map_nil, List.replicate, Nat.sub_self, Nat.add_sub_cancel, List.cons_append, List.nil_append, List.append_nil, List.getElem?_cons_zero, List.getElem?_cons_succ, List.set_cons_zero, List.set_cons_succ, if_true, if_false, ite_true, ite_false, reduceIte, Nat.reduceAdd, Nat.reduceSub, Nat.reduceLT, Nat.zero_add, Bool.true_and, Bool.and_true, wipeE, Int.zero_add]) <;> rfl)) ?_)
        dsimp only
        have i3 := ix_ref (k.get gA (by simp)) (k := i) (by rw [List.length_map, List.length_map, List.length_range]; omega)
        rw [List.getElem_map, List.getElem_map, List.getElem_range] at i3
        have i5 := ix_ref (k.get gR (by simp)) (k := i) (by rw [List.length_map, lR]; omega)
        rw [List.getElem_map, ← getQ (by rw [lR]; omega), ← wr] at i5
        have sw := s2 p ltp i (by omega)
        rw [← hq] at sw
        have t1 := tm q (wq l p i) h' sq sw.1
        have t2 := pl (sm ts l p i) (q * wq l p i) h' (s3 p (by omega) i (by omega)) sw.2
        have es : sm ts l (p + 1) i = sm ts l p i + q * wq l p i := by rw [hq]; rfl
        refine Ok.of (a := rq (sm ts l (p + 1) i)) (h := h') ?_ ⟨?_, ?_, k⟩
        · rw [es]
          simp only [runFn, evSs, evS, evE, evT, evEs, evO, evG, evGs, b_ok, ix0, ix1, ix2', o_add', o_sub', c_lt', c_le', c_gt', c_ge', c_eq', c_ne', List.length_cons, List.length_nil, List.map_cons, List.map_nil, List.replicate, Nat.sub_self, Nat.add_sub_cancel, List.cons_append, List.nil_append, List.append_nil, List.getElem?_cons_zero, List.getElem?_cons_succ, List.set_cons_zero, List.set_cons_succ, if_true, if_false, ite_true, ite_false, reduceIte, Nat.reduceAdd, Nat.reduceSub, Nat.reduceLT, Nat.zero_add, Bool.true_and, Bool.and_true, i3, it, i5, t1, t2]
        · rw [List.length_map, List.length_map, List.length_range]
          have : (1000 : Nat) < sizeLine := by decide
          omega
        · rw [List.range_succ, List.map_append, List.map_append]
          rfl)
    refine ss_cons (s_asg (by simp) (cm.imp fun d h6 q' => ?_))
    obtain ⟨ys, h0, rfl, rfl, rfl, k6⟩ := q'
    dsimp only [List.set_cons_zero, List.set_cons_succ]
    exact ss_nil ⟨h0.length, _, _, _, rfl, get_new, ((kk4.trans k5).trans k6).trans (Keep.app _)⟩
end K00
set_option Elab.async false
set_option linter.all false
set_option maxRecDepth 100000
set_option maxHeartbeats 2000000
/-! K01I: plain facts for the law. -/
namespace K00
open SF PySem
theorem co_drop {c : List Rat} {m i : Nat} : co (c.drop m) i = co c (m + i) := by
  unfold co
  rw [List.getD_eq_getElem?_getD, List.getD_eq_getElem?_getD, List.getElem?_drop]
theorem feas_iff {m : Nat} {l : List Row} {M : Mx} (rel : ∀ y, Sat m y l ↔ Sol (m + 1) M (toX m y)) : (∃ y, Sat m y l) ↔ ∃ x, Sol (m + 1) M x := by
  constructor
  · rintro ⟨y, h⟩
    exact ⟨_, (rel y).mp h⟩
  · rintro ⟨x, h⟩
    have e : ∀ i, i < m + 1 → toX m (fun i => (x i - x m) / 12) i = x i - x m := fun i hi => by
      unfold toX
      split
      · exact twelve
      · have : i = m := by omega
        rw [this]; grind
    refine ⟨fun i => (x i - x m) / 12, (rel _).mpr fun a b ha hb v hv => ?_⟩
    rw [e a ha, e b hb]
    have := h a b ha hb v hv
    grind
theorem rat_div {q x d : Rat} (h : q * d = x) (hd : d ≠ 0) : q = x / d := by
  have h1 := Rat.div_mul_cancel (a := x) hd
  have h2 : (q - x / d) * d = 0 := by grind
  rcases Rat.mul_eq_zero.mp h2 with h3 | h3
  · grind
  · exact absurd h3 hd
/-- a number or the bound of a raw condition -/
theorem wq_int {m q a : Nat} {l : List Row} (hd : ∀ r ∈ l, Dc m r) (hq : q < l.length) (ha : a ≤ m) : ∃ y : Int, y.natAbs ≤ 2 ^ 12 ∧ wq l q a = (y : Rat) / 144 := by
  have dr := hd l[q] (List.getElem_mem hq)
  have ln := dc_len dr
  have e : wq l q a = co (l[q].c ++ [l[q].b]) a := by
    unfold wq
    rw [List.getElem?_eq_getElem hq]
    rfl
  obtain ⟨s, x, b, s1, s2, hx, hb, hn, ⟨z, z1, z2⟩, _⟩ := dc_wd0 dr
  rw [e, co_app ln]
  by_cases c : a < m
  · rw [if_pos c, hn a c]
    refine ⟨12 * (s * dv x b a), ?_, ?_⟩
    · have := mul28 s1 s2 (dv_le (a := x) (b := b) (i := a))
      rw [Int.natAbs_mul]
      exact Nat.le_trans (Nat.mul_le_mul_left _ this) (by decide)
    · rw [Rat.intCast_mul, Rat.intCast_mul, c12]; grind
  · have : a - m = 0 := by omega
    rw [if_neg c, this]
    refine ⟨s * z, Nat.le_trans (mul28 s1 s2 z1) (by decide), ?_⟩
    show l[q].b = _
    rw [z2, Rat.intCast_mul]; grind
/-- what the multipliers are -/
def mulT (r : Row) (m : Nat) : List Rat := (r.c.drop m).map fun a => a * (-1 / r.b)
structure RefOk (l : List Row) (m : Nat) (ts : List Rat) : Prop where
  len : ts.length = l.length
  s1 : ∀ q, q < l.length → Sm 200 (co ts q)
  s2 : ∀ q, q < l.length → ∀ a, a ≤ m → Sm 200 (wq l q a) ∧ Sm 200 (co ts q * wq l q a)
  s3 : ∀ p, p ≤ l.length → ∀ a, a ≤ m → Sm 200 (sm ts l p a)
  pos : ∀ (q : Nat) (r : Row), l[q]? = some r → co ts q < 0 → r.j = true
  z0 : ∀ a, a < m → sm ts l l.length a = 0
  z1 : sm ts l l.length m = -1
theorem ref_ok {l : List Row} {m : Nat} {r : Row} (hd : ∀ r ∈ l, Dc m r) (h8 : l.length ≤ 8) (hm : m ≤ 5) (hf : (el (marked l) m m).find? isBroken = some r) : RefOk l m (mulT r m) := by
  have hl : Len m l := fun r hr => dc_len (hd r hr)
  have mr := List.mem_of_find?_eq_some hf
  have br := List.find?_some hf
  have nb : r.b ≠ 0 := by
    unfold isBroken at br
    simp only [Bool.or_eq_true, Bool.and_eq_true, decide_eq_true_eq] at br
    grind
  have ml := marked_len hl
  have cb : Comb l m r := comb_el (comb_marked hl) m r mr
  have g := gone_el (n := m) ml m (Nat.le_refl _)
  rw [Nat.sub_self] at g
  obtain ⟨f1, f2, f3⟩ := refutes cb (fun i hi => g r mr i (Nat.zero_le _) hi) br
  have mlen : (marked l).length = l.length := by unfold marked; rw [List.length_mapIdx]
  obtain ⟨s, a0, b0, t1, t2, _, _, _, ⟨z, z1, z2⟩, hmk⟩ := (el_wd (n := m) ml (dc_marked hd) (by omega) hm (by omega) m (Nat.le_refl _)).2 r mr
  have pB : 2 ^ (19 * m + 7) ≤ 2 ^ 110 := pw hm
  have lr := el_len (n := m) ml m r mr
  have ct : ∀ q, co (mulT r m) q = co r.c (m + q) * (-1 / r.b) := fun q => by
    unfold mulT
    rw [co_map, co_drop]
  have nz : z ≠ 0 := fun e => nb (by rw [z2, e, cast0]; grind)
  have f0 : (-1 / r.b) * r.b = -1 := Rat.div_mul_cancel nb
  have fz : (-1 / r.b) * (s : Rat) * (z : Rat) = -144 := by
    generalize -1 / r.b = f at *
    rw [z2] at f0; grind
  have d0 : ((504 * z : Int) : Rat) ≠ 0 := fun e => by
    rw [Rat.intCast_mul, c504] at e
    rcases Rat.mul_eq_zero.mp e with h | h
    · exact absurd h (by decide +kernel)
    · exact nz (Rat.intCast_eq_zero_iff.mp h)
  have dI : (504 * z : Int) ≠ 0 := by omega
  have dS : (504 * z : Int).natAbs < 2 ^ 200 := by
    rw [Int.natAbs_mul]
    have : (504 : Int).natAbs * z.natAbs ≤ 504 * 2 ^ 110 := Nat.mul_le_mul_left _ (Nat.le_trans z1 pB)
    exact Nat.lt_of_le_of_lt this (by decide)
  have tq : ∀ q, ∃ w : Int, w.natAbs ≤ 2 ^ 110 ∧ co (mulT r m) q * ((504 * z : Int) : Rat) = -144 * (w : Rat) := fun q => by
    obtain ⟨w, w1, w2⟩ := hmk q
    refine ⟨w, Nat.le_trans w1 pB, ?_⟩
    rw [ct, w2, Rat.intCast_mul, c504]
    generalize -1 / r.b = f at *
    grind
  have prod : ∀ q, q < l.length → ∀ a, a ≤ m → ∃ x : Int, x.natAbs ≤ 2 ^ 122 ∧ co (mulT r m) q * wq l q a * ((504 * z : Int) : Rat) = (x : Rat) := fun q hq a ha => by
    obtain ⟨w, w1, w2⟩ := tq q
    obtain ⟨y, y1, y2⟩ := wq_int hd hq ha
    refine ⟨-(w * y), ?_, ?_⟩
    · rw [Int.natAbs_neg, Int.natAbs_mul]
      have := Nat.mul_le_mul w1 y1
      rw [← Nat.pow_add] at this
      exact this
    · rw [y2, Rat.intCast_neg, Rat.intCast_mul]
      generalize co (mulT r m) q = c at *
      grind
  have sums : ∀ a, a ≤ m → ∀ p, p ≤ l.length → ∃ x : Int, x.natAbs ≤ p * 2 ^ 122 ∧ sm (mulT r m) l p a * ((504 * z : Int) : Rat) = (x : Rat) := fun a ha p => by
    induction p with
    | zero => exact fun _ => ⟨0, Nat.zero_le _, by show (0 : Rat) * _ = _; rw [cast0]; grind⟩
    | succ p ih =>
      intro hp
      obtain ⟨x, x1, x2⟩ := ih (by omega)
      obtain ⟨y, y1, y2⟩ := prod p (by omega) a ha
      refine ⟨x + y, by rw [Nat.succ_mul]; omega, ?_⟩
      show (sm (mulT r m) l p a + co (mulT r m) p * wq l p a) * _ = _
      rw [Rat.intCast_add, ← x2, ← y2]; grind
  have wl : ∀ q, q < l.length → ∀ a, wq l q a = if a < m then co ((l[q]?).getD ⟨[], 0, false⟩).c a else co [((l[q]?).getD ⟨[], 0, false⟩).b] (a - m) := fun q hq a => by
    unfold wq
    rw [co_app]
    rw [List.getElem?_eq_getElem hq]
    exact hl _ (List.getElem_mem hq)
  refine ⟨?_, fun q hq => ?_, fun q hq a ha => ⟨?_, ?_⟩, fun p hp a ha => ?_, fun q r' e1 e2 => ?_, fun a ha => ?_, ?_⟩
  · unfold mulT
    rw [List.length_map, List.length_drop, lr]; omega
  · obtain ⟨w, w1, w2⟩ := tq q
    refine sm_of (x := -144 * w) (d := 504 * z) (rat_div ?_ d0) ?_ dS dI
    · rw [w2, Rat.intCast_mul]; rfl
    · rw [Int.natAbs_mul]
      have : (-144 : Int).natAbs * w.natAbs ≤ 144 * 2 ^ 110 := Nat.mul_le_mul_left _ w1
      exact Nat.lt_of_le_of_lt this (by decide)
  · obtain ⟨y, y1, y2⟩ := wq_int hd hq ha
    exact sm_of (x := y) (d := 144) (by rw [y2, c144]) (Nat.lt_of_le_of_lt y1 (by decide)) (by decide) (by decide)
  · obtain ⟨x, x1, x2⟩ := prod q hq a ha
    exact sm_of (x := x) (d := 504 * z) (rat_div x2 d0) (Nat.lt_of_le_of_lt x1 (by decide)) dS dI
  · obtain ⟨x, x1, x2⟩ := sums a ha p hp
    have : p * 2 ^ 122 ≤ 8 * 2 ^ 122 := Nat.mul_le_mul_right _ (by omega)
    exact sm_of (x := x) (d := 504 * z) (rat_div x2 d0) (Nat.lt_of_le_of_lt (Nat.le_trans x1 this) (by decide)) dS dI
  · exact f3 q r' e1 (by rw [← ct]; exact e2)
  · have := f1 a ha
    rw [← this]
    refine sumN_congr _ fun q hq => ?_
    rw [ct, wl q hq, if_pos ha]
  · rw [← f2]
    refine sumN_congr _ fun q hq => ?_
    rw [ct, wl q hq, if_neg (Nat.lt_irrefl m), Nat.sub_self]
    rfl
/-! ### both sides -/
theorem values_eq {m : Nat} {l : List Row} {X : Mx} (R : RI l m X m) : ((runM m X m).2.map fun v => rq (Rat.divInt v 12)) = (runF l m m).map rq := by
  have l1 := runF_len (l := l) (n := m) m
  have l2 := runM_len (M := X) (n := m) m
  refine List.ext_getElem (by rw [List.length_map, List.length_map, l1, l2]) fun i h1 h2 => ?_
  rw [List.length_map] at h1 h2
  rw [List.getElem_map, List.getElem_map]
  congr 1
  have := R.eq i (by omega)
  have e1 : co (runF l m m) i = (runF l m m)[i] := getQ h2
  have e2 : coI (runM m X m).2 i = (runM m X m).2[i] := by
    unfold coI
    rw [List.getD_eq_getElem?_getD, List.getElem?_eq_getElem h1]
    rfl
  rw [e1, e2] at this
  rw [Rat.divInt_eq_div, ← this, c12]
  grind
theorem le_rq {w n : Nat} (hw : 2 ≤ w) {q : Rat} : Le w (n + 1) (rq q) := .inr ⟨_, rfl, hw, fun x hx => by
  simp only [List.mem_cons, List.not_mem_nil, or_false] at hx
  have : leafD x = true := by rcases hx with rfl | rfl <;> rfl
  cases n with
  | zero => exact this
  | succ n => exact .inl this⟩
theorem le_rqs {w n : Nat} (hw : 2 ≤ w) {cs : List Rat} (hc : cs.length ≤ w) : Le w (n + 2) (.tup (cs.map rq)) := .inr ⟨_, rfl, by rw [List.length_map]; exact hc, fun x hx => by
  obtain ⟨q, _, rfl⟩ := List.mem_map.mp hx
  exact le_rq hw⟩
theorem le_row {w : Nat} (hw : 3 ≤ w) {r : Row} (hc : r.c.length ≤ w) : Le w 3 (rowD r) := .inr ⟨_, rfl, hw, fun x hx => by
  simp only [List.mem_cons, List.not_mem_nil, or_false] at hx
  rcases hx with rfl | rfl | rfl
  · exact le_rqs (by omega) hc
  · exact le_rq (by omega)
  · exact .inl rfl⟩
end K00
set_option Elab.async false
set_option linter.all false
set_option maxRecDepth 100000
set_option maxHeartbeats 4000000
/-! K01J: the law. -/
namespace K00
open SF PySem
section
variable {call : Nat → List D → Hh → R (D × Hh)} {gl : List D} {e : En} {h : Hh}
theorem t_call {f : Nat} {es : Es} {dv : List D} {Q : Bool → Hh → Prop} (k : Ok (evE call gl (.call f es dv) e h) fun d h' => ∃ b, d = .bl b ∧ Q b h') : Ok (evT call gl (.call f es dv) e h) Q := by
  obtain ⟨d, h', e1, b, rfl, q⟩ := k
  refine ⟨b, h', ?_, q⟩
  have e2 : evE call gl (.call f es dv) e h = (evEs call gl es e h >>= fun p => call f (p.1 ++ dv) p.2) := rfl
  rw [e2] at e1
  show (evEs call gl es e h >>= fun p => call f (p.1 ++ dv) p.2 >>= fun r => match r.1 with
    | .bl k => R.ok (k, r.2)
    | _ => .stuck) = _
  cases hs : evEs call gl es e h with
  | stuck => rw [hs] at e1; cases e1
  | exc c fs hx => rw [hs] at e1; cases e1
  | ok p =>
    rw [hs, b_ok] at e1
    rw [b_ok, e1, b_ok]
theorem t_not {a : E} {Q : Bool → Hh → Prop} (k : Ok (evT call gl a e h) fun b h' => Q (!b) h') : Ok (evT call gl (.not a) e h) Q := by
  unfold evT
  exact k.seq fun b h' q => Ok.pure q
theorem t_or {a b : E} {Q : Bool → Hh → Prop} (k : Ok (evT call gl a e h) fun x h' => if x = true then Q true h' else Ok (evT call gl b e h') Q) : Ok (evT call gl (.or a b) e h) Q := by
  unfold evT
  refine k.seq fun x h' q => ?_
  cases x with
  | true => exact Ok.pure q
  | false => exact q
theorem e_and {a b : E} {Q : D → Hh → Prop} (k : Ok (evE call gl a e h) fun x h' => x = .bl true ∧ Ok (evE call gl b e h') Q) : Ok (evE call gl (.and a b) e h) Q := by
  unfold evE
  refine Ok.bind (k.imp fun x h' q => ?_)
  obtain ⟨rfl, q⟩ := q
  exact q
theorem t_notN {a : E} {Q : Bool → Hh → Prop} (k : Ok (evE call gl a e h) fun d h' => Ok (cmp2 .notN d .non h') fun x h'' => ∃ b, x = .bl b ∧ Q b h'') : Ok (evT call gl (.cmp .notN a (.lit .non)) e h) Q := by
  obtain ⟨d, h', e1, x, h'', e2, b, rfl, q⟩ := k
  refine ⟨b, h'', ?_, q⟩
  simp only [runFn, evSs, evS, evE, evT, evEs, evO, evG, evGs, b_ok, ix0, ix1, ix2', o_add', o_sub', c_lt', c_le', c_gt', c_ge', c_eq', c_ne', List.length_cons, List.length_nil, List.map_cons, List.map_nil, List.replicate, Nat.sub_self, Nat.add_sub_cancel, List.cons_append, List.nil_append, List.append_nil, List.getElem?_cons_zero, List.getElem?_cons_succ, List.set_cons_zero, List.set_cons_succ, if_true, if_false, ite_true, ite_false, reduceIte, Nat.reduceAdd, Nat.reduceSub, Nat.reduceLT, Nat.zero_add, Bool.true_and, Bool.and_true, e1, e2]
end
theorem same_val {n k : Nat} {d : D} {h : Hh} (hk : k ≤ 3) (le : Le 8 k d) : Ok (C (n + 9) 37 [d, d] h) fun r h' => r = .bl true ∧ Keep [] h h' := by
  have p := fun h => plain_ok (w := 8) (by decide) k d le (n + 7 - k) h
  have e : k + 1 + (n + 7 - k) = n + 8 := by omega
  rw [e] at p
  exact same_ok (N := n + 8) (p h) (fun h' _ => p h') (by show 5 + k * (8 + 3) ≤ 60; omega)
theorem same_lists {n a b : Nat} {xs : List D} {h : Hh} (ha : h[a]? = some (O.lst xs)) (hb : h[b]? = some (O.lst xs)) (hx : xs.length ≤ 8) (le : ∀ x ∈ xs, Le 8 3 x) : Ok (C (n + 9) 37 [.ref a, .ref b] h) fun r h' => r = .bl true ∧ Keep [] h h' := by
  have p := fun (a : Nat) (h : Hh) (ha : h[a]? = some (O.lst xs)) => plainL_ok (w := 8) (n := 3) (N := n + 3) (by decide) ha hx le
  have e : 3 + 2 + (n + 3) = n + 8 := by omega
  rw [e] at p
  exact same_ok (N := n + 8) (p a h ha) (fun h' k => p b h' (k.get hb (by simp))) (by decide)
/-- all of the law behind the drawing -/
theorem can_ok {call : Nat → List D → Hh → R (D × Hh)} {m f : Nat} {rs : List Nat} {X : Mx} {h : Hh} (mt : Mat h f (m + 1) rs X) (hm : m ≤ 5) (dw : ∀ k, k < m + 1 → ∃ v, X k k = some v) {e : En} (e2 : e[2]? = some (some (.int (m : Int)))) (e4 : e[4]? = some (some (.ref f))) (el : e.length = 10) :
    ∃ can : Bool, (can = true ↔ Dg (m + 1) X) ∧ Ok (evE call gvals (.cmp .notIn (.lit (.bl true)) (.comp (.cmp .lt (.ix (.ix (.var 4) (.var 6)) (.var 6)) (.lit (.int 0))) (.var 6) (.rng (.lit (.int 0)) (.bin .add (.var 2) (.lit (.int 1)))) .nil [6])) e h) fun d h' => d = .bl can ∧ Keep [] h h' := by
  refine ⟨!(((List.range (m + 1)).map fun k => D.bl (decide ((X k k).getD 0 < 0))).any fun y => eqF y (.bl true)), ?_, ?_⟩
  · rw [Bool.not_eq_true', List.any_eq_false]
    constructor
    · intro H i hi v hv
      have := H (.bl (decide ((X i i).getD 0 < 0))) (List.mem_map.mpr ⟨i, List.mem_range.mpr hi, rfl⟩)
      rw [hv] at this
      simp [eqF] at this
      exact this
    · intro H y hy
      obtain ⟨k, hk, rfl⟩ := List.mem_map.mp hy
      obtain ⟨v, hv⟩ := dw k (List.mem_range.mp hk)
      have := H k (List.mem_range.mp hk) v hv
      rw [hv]
      simp [eqF]
      exact this
  · have cm := comp_run (call := call) (gl := gvals) (e := e) (h := h) (elt := .cmp .lt (.ix (.ix (.var 4) (.var 6)) (.var 6)) (.lit (.int 0))) (tg := .var 6) (it := .rng (.lit (.int 0)) (.bin .add (.var 2) (.lit (.int 1)))) (own := [6])
      (J := .rng 0 1 (((m : Int) + 1) - 0).toNat) (N := m + 1) (d := fun t => .int (0 + (t : Int))) (fun i acc h' => acc = ((List.range i).map fun k => D.bl (decide ((X k k).getD 0 < 0))) ∧ Keep [] h h') (rng_eq rfl (by simp only [runFn, evSs, evS, evE, evT, evEs, evO, evG, evGs, b_ok, ix0, ix1, ix2', o_add', o_sub', c_lt', c_le', c_gt', c_ge', c_eq', c_ne', List.length_cons, List.length_nil, List.map_cons, List.map_nil, List.replicate, Nat.sub_self, Nat.add_sub_cancel, List.cons_append, List.nil_append, List.append_nil, List.getElem?_cons_zero, List.getElem?_cons_succ, List.set_cons_zero, List.set_cons_succ, if_true, if_false, ite_true, ite_false, reduceIte, Nat.reduceAdd, Nat.reduceSub, Nat.reduceLT, Nat.zero_add, Bool.true_and, Bool.and_true, e2]) (by decide) (by decide) (by omega) (by omega)) (fun i hi h' => rng_next (by omega)) (fun h' => by
        have : (((m : Int) + 1) - 0).toNat = m + 1 := by omega
        rw [this]; exact rng_end) (by show (((m : Int) + 1) - 0).toNat = m + 1; omega) ⟨rfl, Keep.refl⟩ (fun i acc h' lti q' => by
        obtain ⟨rfl, k⟩ := q'
        have ez : (0 : Int) + (i : Int) = (i : Int) := Int.zero_add _
        rw [ez]
        have ew : wipeE e [6] = e.set 6 none := rfl
        rw [ew]
        have lw : 6 < (e.set 6 none).length := by rw [List.length_set]; omega
        refine Ok.bind (Ok.of (a := (e.set 6 none).set 6 (some (.int (i : Int)))) (h := h') (by unfold evG; rw [if_pos lw]) ?_)
        dsimp only
        have m6 : ((e.set 6 none).set 6 (some (.int (i : Int))))[6]? = some (some (.int (i : Int))) := List.getElem?_set_self lw
        have m4 : ((e.set 6 none).set 6 (some (.int (i : Int))))[4]? = some (some (.ref f)) := by
          rw [List.getElem?_set_ne (by decide), List.getElem?_set_ne (by decide)]; exact e4
        obtain ⟨r, hr, i1, i2⟩ := (mt.keep k (by simp) (fun _ _ => by simp)).ix1 lti
        have i3 := i2 i lti
        obtain ⟨v, hv⟩ := dw i lti
        rw [hv] at i3
        have ov : oi (some v) = .int v := rfl
        rw [ov] at i3
        refine Ok.of (a := .bl (decide ((X i i).getD 0 < 0))) (h := h') ?_ ⟨?_, ?_, k⟩
        · rw [hv]
          show evE call gvals _ _ _ = .ok (.bl (decide (v < 0)), h')
          simp only [runFn, evSs, evS, evE, evT, evEs, evO, evG, evGs, b_ok, ix0, ix1, ix2', o_add', o_sub', c_lt', c_le', c_gt', c_ge', c_eq', c_ne', List.length_cons, List.length_nil, List.map_cons, List.map_nil, List.replicate, Nat.sub_self, Nat.add_sub_cancel, List.cons_append, List.nil_append, List.append_nil, List.getElem?_cons_zero, List.getElem?_cons_succ, List.set_cons_zero, List.set_cons_succ, if_true, if_false, ite_true, ite_false, reduceIte, Nat.reduceAdd, Nat.reduceSub, Nat.reduceLT, Nat.zero_add, Bool.true_and, Bool.and_true, m6, m4, i1, i3]
        · rw [List.length_map, List.length_range]
          have : (1000 : Nat) < sizeLine := by decide
          omega
        · rw [List.range_succ, List.map_append]
          rfl)
    unfold evE
    refine Ok.bind (Ok.of (a := .bl true) (h := h) (by simp only [runFn, evSs, evS, evE, evT, evEs, evO, evG, evGs, b_ok, ix0, ix1, ix2', o_add', o_sub', c_lt', c_le', c_gt', c_ge', c_eq', c_ne', List.length_cons, List.length_nil, List.map_cons, List.map_nil, List.replicate, Nat.sub_self, Nat.add_sub_cancel, List.cons_append, List.nil_append, List.append_nil, List.getElem?_cons_zero, List.getElem?_cons_succ, List.set_cons_zero, List.set_cons_succ, if_true, if_false, ite_true, ite_false, reduceIte, Nat.reduceAdd, Nat.reduceSub, Nat.reduceLT, Nat.zero_add, Bool.true_and, Bool.and_true]) ?_)
    dsimp only
    refine Ok.bind (cm.imp fun d h' q => ?_)
    obtain ⟨ys, h0, rfl, rfl, rfl, k⟩ := q
    generalize hys : ((List.range (m + 1)).map fun k => D.bl (decide ((X k k).getD 0 < 0))) = ys
    have gn : (h0 ++ [O.lst ys])[h0.length]? = some (O.lst ys) := get_new
    refine Ok.of (a := .bl (!(ys.any fun y => eqF y (.bl true)))) (h := h0 ++ [O.lst ys]) ?_ ⟨rfl, k.trans (Keep.app _)⟩
    unfold cmp2
    dsimp only
    rw [gn]
    dsimp only
    have af : (flat (.bl true) && ys.all flat) = true := by
      have : ys.all flat = true := List.all_eq_true.mpr fun x hx => by
        rw [← hys] at hx
        obtain ⟨k, _, rfl⟩ := List.mem_map.mp hx
        rfl
      rw [this]; rfl
    rw [if_pos af]
end K00
set_option Elab.async false
set_option linter.all false
set_option maxRecDepth 100000
set_option maxHeartbeats 4000000
/-! K01K: the law, behind the drawing. -/
namespace K00
open SF PySem
theorem law_rest {n m cn f : Nat} {sc dk : Option D} {rs : List Nat} {l : List Row} {M : Mx} {h : Hh} {call : Nat → List D → Hh → R (D × Hh)} (hcall : call = C (n + 9)) (hm1 : 0 < m) (hm : m ≤ 5)
    (hc : h[cn]? = some (O.lst (l.map rowD))) (mt : Mat h f (m + 1) rs (close (m + 1) M)) (n1 : cn ∉ rs) (n2 : cn ≠ f) (hd : ∀ r ∈ l, Dc m r) (h8 : l.length ≤ 8) (dw : Down M0 M) (rel : ∀ y, Sat m y l ↔ Sol (m + 1) M (toX m y)) :
    Ok (evSs call gvals (.cons (.asg (.var 5) (.cmp .notIn (.lit (.bl true)) (.comp (.cmp .lt (.ix (.ix (.var 4) (.var 6)) (.var 6)) (.lit (.int 0))) (.var 6) (.rng (.lit (.int 0)) (.bin .add (.var 2) (.lit (.int 1)))) .nil [6]))) <|
  .cons (.asg (.var 7) (.bf .list (.cons (.var 3) .nil))) <|
  .cons (.ife (.not (.call 37 (.cons (.call 19 (.cons (.var 7) (.cons (.var 2) .nil)) []) (.cons (.var 5) .nil)) [])) (.cons (.ret (.lit (.bl false))) <|
      .nil) .nil) <|
  .cons (.ife (.not (.var 5)) (.cons (.ife (.cmp .notN (.call 24 (.cons (.bf .list (.cons (.var 3) .nil)) (.cons (.var 2) .nil)) []) (.lit .non)) (.cons (.ret (.lit (.bl false))) <|
          .nil) .nil) <|
      .cons (.ret (.and (.call 43 (.cons (.call 21 (.cons (.var 7) (.cons (.var 2) .nil)) []) (.cons (.var 3) (.cons (.var 2) .nil))) []) (.call 37 (.cons (.var 7) (.cons (.var 3) .nil)) []))) <|
      .nil) .nil) <|
  .cons (.ife (.cmp .notN (.call 21 (.cons (.bf .list (.cons (.var 3) .nil)) (.cons (.var 2) .nil)) []) (.lit .non)) (.cons (.ret (.lit (.bl false))) <|
      .nil) .nil) <|
  .cons (.asg (.var 8) (.lit .non)) <|
  .cons (.ife (.cmp .notN (.ix (.ix (.var 4) (.var 2)) (.lit (.int 0))) (.lit .non)) (.cons (.asg (.var 8) (.call 32 (.cons (.ix (.ix (.var 4) (.var 2)) (.lit (.int 0))) (.cons (.lit (.int 12)) .nil)) [])) <|
      .nil) .nil) <|
  .cons (.asg (.var 9) (.call 42 (.cons (.var 4) (.cons (.var 2) .nil)) [])) <|
  .cons (.ife (.or (.not (.call 37 (.cons (.call 25 (.cons (.var 7) (.cons (.var 2) .nil)) []) (.cons (.var 8) .nil)) [])) (.not (.call 37 (.cons (.call 24 (.cons (.var 7) (.cons (.var 2) .nil)) []) (.cons (.var 9) .nil)) []))) (.cons (.ret (.lit (.bl false))) <|
      .nil) .nil) <|
  .cons (.ret (.and (.cmp .isT (.call 27 (.cons (.var 9) (.cons (.bf .list (.cons (.var 3) .nil)) .nil)) []) (.lit (.bl true))) (.call 37 (.cons (.var 7) (.cons (.var 3) .nil)) []))) <|
  .nil) [sc, dk, some (.int (m : Int)), some (.ref cn), some (.ref f), none, none, none, none, none] h) fun fl h' => match fl with
    | .nx _ => D.non = .bl true
    | .rt d => d = .bl true
    | _ => False := by
  have hl : Len m l := fun r hr => dc_len (hd r hr)
  have F := fine hl (fun r hr => dc_wd0 (hd r hr)) (by omega) hm (Nat.le_refl m) (by omega)
  have V := fineV hl (fun r hr => dc_wd0 (hd r hr)) (by omega) hm (Nat.le_refl m)
  have ml := marked_len hl
  have mlen : (marked l).length = l.length := by unfold marked; rw [List.length_mapIdx]
  have FM := fine ml (dc_marked hd) (by omega) hm (by omega) (by omega)
  have le_l : ∀ x ∈ l.map rowD, Le 8 3 x := fun x hx => by
    obtain ⟨r, hr, rfl⟩ := List.mem_map.mp hx
    exact le_row (by decide) (by rw [hl r hr]; omega)
  have l8 : (l.map rowD).length ≤ 8 := by rw [List.length_map]; exact h8
  have dwX : ∀ k, k < m + 1 → ∃ v, close (m + 1) M k k = some v := fun k hk => by
    obtain ⟨v, e, _⟩ := (dw.trans down_close) k k 0 (by unfold M0; rw [if_pos rfl])
    exact ⟨v, e⟩
  have cmet := fun (c : Nat) (h : Hh) (hc : h[c]? = some (O.lst (l.map rowD))) => canMet_run (n := n + 1) hc hl (Nat.le_refl m) F (by decide) (by decide) (by decide) (by decide) (by omega)
  have near := fun (c : Nat) (h : Hh) (hc : h[c]? = some (O.lst (l.map rowD))) => nearest_run (n := n + 1) hc hl (Nat.le_refl m) F (by decide) (by decide) (by decide) (by decide) (by omega) V (by decide) (by decide)
  have grea := fun (c : Nat) (h : Hh) (hc : h[c]? = some (O.lst (l.map rowD))) => greatest_run (n := n + 1) hc hl (Nat.le_refl m) F (by decide) (by decide) (by decide) (by decide) (by omega) V (by decide) (by decide) hm1
  have refu := fun (c : Nat) (h : Hh) (hc : h[c]? = some (O.lst (l.map rowD))) => refutation_run (n := n + 1) (len := m) hc hl (by omega) FM (by decide) (by decide) (by decide) (by decide) (by omega)
  have sv := fun (k : Nat) (d : D) (h : Hh) (hk : k ≤ 3) (le : Le 8 k d) => same_val (n := n) (h := h) hk le
  have sl := fun (a b : Nat) (h : Hh) (ha : h[a]? = some (O.lst (l.map rowD))) (hb : h[b]? = some (O.lst (l.map rowD))) => same_lists (n := n) (h := h) ha hb l8 le_l
  rw [← hcall] at cmet near grea refu sv sl
  obtain ⟨can, hcan, cok⟩ := can_ok (call := call) mt hm dwX (e := [sc, dk, some (.int (m : Int)), some (.ref cn), some (.ref f), none, none, none, none, none]) rfl rfl rfl
  have feas : can = true ↔ ∃ y, Sat m y l := by rw [hcan, dg_iff, feas_iff rel]
  have brk := broken_iff (n := m) (len := m) hl
  have brkM : ((el (marked l) m m).find? isBroken) = none ↔ ∃ y, Sat m y l := by
    rw [broken_iff (n := m) ml]
    exact ⟨fun ⟨y, q⟩ => ⟨y, (marked_sat hl).mp q⟩, fun ⟨y, q⟩ => ⟨y, (marked_sat hl).mpr q⟩⟩
  refine ss_cons (s_asg (by simp) (cok.imp fun d h1 q => ?_))
  obtain ⟨rfl, k1⟩ := q
  dsimp only [List.set_cons_zero, List.set_cons_succ]
  have hc1 := k1.get hc (by simp)
  have mt1 := mt.keep k1 (by simp) (fun _ _ => by simp)
  clear cok
  -- handed
  refine ss_cons (s_asg (by simp) (Ok.of (a := .ref h1.length) (h := h1 ++ [.lst (l.map rowD)]) (by simp only [runFn, evSs, evS, evE, evT, evEs, evO, evG, evGs, b_ok, ix0, ix1, ix2', o_add', o_sub', c_lt', c_le', c_gt', c_ge', c_eq', c_ne', List.length_cons, List.length_nil, List.map_cons, List.map_nil, List.replicate, Nat.sub_self, Nat.add_sub_cancel, List.cons_append, List.nil_append, List.append_nil, List.getElem?_cons_zero, List.getElem?_cons_succ, List.set_cons_zero, List.set_cons_succ, if_true, if_false, ite_true, ite_false, reduceIte, Nat.reduceAdd, Nat.reduceSub, Nat.reduceLT, Nat.zero_add, Bool.true_and, Bool.and_true, bf2, listD, lstAt_of hc1]) ?_))
  dsimp only [List.set_cons_zero, List.set_cons_succ]
  have g2 : (h1 ++ [O.lst (l.map rowD)])[h1.length]? = some (O.lst (l.map rowD)) := get_new
  have hc2 : (h1 ++ [O.lst (l.map rowD)])[cn]? = some (O.lst (l.map rowD)) := get_old hc1
  have mt2 := mt1.app [O.lst (l.map rowD)]
  have lt2 := mt1.lt
  have nH : h1.length ∉ f :: rs := fun z => by
    rcases List.mem_cons.mp z with z | z
    · have := lt2.2; omega
    · have := lt2.1 _ z; omega
  generalize h1.length = H at *
  generalize h1 ++ [O.lst (l.map rowD)] = h2 at *
  clear hc1 mt1 lt2
  -- can_be_met
  have isn : ((el l m m).find? isBroken).isNone = can := by
    cases hb : (el l m m).find? isBroken with
    | none => exact (feas.mpr (brk.mp hb)).symm
    | some r =>
      cases hcc : can with
      | false => rfl
      | true =>
        have := brk.mpr (feas.mp hcc)
        rw [hb] at this
        cases this
  have st3 : Ok (evT call gvals (.not (.call 37 (.cons (.call 19 (.cons (.var 7) (.cons (.var 2) .nil)) []) (.cons (.var 5) .nil)) [])) [sc, dk, some (.int (m : Int)), some (.ref cn), some (.ref f), some (.bl can), none, some (.ref H), none, none] h2) fun b h' => b = false ∧ Keep [] h2 h' := by
    refine t_not (t_call (call1 ?_))
    have e1 : evE call gvals (.call 19 (.cons (.var 7) (.cons (.var 2) .nil)) []) [sc, dk, some (.int (m : Int)), some (.ref cn), some (.ref f), some (.bl can), none, some (.ref H), none, none] h2 = call 19 [.ref H, .int (m : Int)] h2 := by simp only [runFn, evSs, evS, evE, evT, evEs, evO, evG, evGs, b_ok, ix0, ix1, ix2', o_add', o_sub', c_lt', c_le', c_gt', c_ge', c_eq', c_ne', List.length_cons, List.length_nil, List.map_cons, List.map_nil, List.replicate, Nat.sub_self, Nat.add_sub_cancel, List.cons_append, List.nil_append, List.append_nil, List.getElem?_cons_zero, List.getElem?_cons_succ, List.set_cons_zero, List.set_cons_succ, if_true, if_false, ite_true, ite_false, reduceIte, Nat.reduceAdd, Nat.reduceSub, Nat.reduceLT, Nat.zero_add, Bool.true_and, Bool.and_true]
    rw [e1]
    refine (cmet H h2 g2).imp fun d h3 q => ?_
    obtain ⟨rfl, k3⟩ := q
    rw [isn]
    exact ⟨_, rfl, (sv 0 (.bl can) h3 (by decide) rfl).imp fun d h4 q => ⟨true, q.1, rfl, k3.trans q.2⟩⟩
  refine ss_cons (s_if (st3.imp fun b h3 q => ?_))
  obtain ⟨rfl, k3⟩ := q
  rw [if_neg Bool.false_ne_true]
  refine ss_nil ?_
  have g3 := k3.get g2 (by simp)
  have hc3 := k3.get hc2 (by simp)
  have mt3 := mt2.keep k3 (by simp) (fun _ _ => by simp)
  clear st3 k3 g2 hc2 mt2
  refine ss_cons (s_if (Ok.of (a := !can) (h := h3) (by simp only [runFn, evSs, evS, evE, evT, evEs, evO, evG, evGs, b_ok, ix0, ix1, ix2', o_add', o_sub', c_lt', c_le', c_gt', c_ge', c_eq', c_ne', List.length_cons, List.length_nil, List.map_cons, List.map_nil, List.replicate, Nat.sub_self, Nat.add_sub_cancel, List.cons_append, List.nil_append, List.append_nil, List.getElem?_cons_zero, List.getElem?_cons_succ, List.set_cons_zero, List.set_cons_succ, if_true, if_false, ite_true, ite_false, reduceIte, Nat.reduceAdd, Nat.reduceSub, Nat.reduceLT, Nat.zero_add, Bool.true_and, Bool.and_true]) ?_))
  cases hcc : can with
  | false =>
    rw [if_pos (by decide)]
    have inf : ¬ ∃ y, Sat m y l := fun q => by rw [feas.mpr q] at hcc; cases hcc
    -- nearest
    have st4 : Ok (evT call gvals (.cmp .notN (.call 24 (.cons (.bf .list (.cons (.var 3) .nil)) (.cons (.var 2) .nil)) []) (.lit .non)) [sc, dk, some (.int (m : Int)), some (.ref cn), some (.ref f), some (.bl false), none, some (.ref H), none, none] h3) fun b h' => b = false ∧ Keep [] h3 h' := by
      refine t_notN (call1 (Ok.of (a := .ref h3.length) (h := h3 ++ [.lst (l.map rowD)]) (by simp only [runFn, evSs, evS, evE, evT, evEs, evO, evG, evGs, b_ok, ix0, ix1, ix2', o_add', o_sub', c_lt', c_le', c_gt', c_ge', c_eq', c_ne', List.length_cons, List.length_nil, List.map_cons, List.map_nil, List.replicate, Nat.sub_self, Nat.add_sub_cancel, List.cons_append, List.nil_append, List.append_nil, List.getElem?_cons_zero, List.getElem?_cons_succ, List.set_cons_zero, List.set_cons_succ, if_true, if_false, ite_true, ite_false, reduceIte, Nat.reduceAdd, Nat.reduceSub, Nat.reduceLT, Nat.zero_add, Bool.true_and, Bool.and_true, bf2, listD, lstAt_of hc3]) ⟨_, rfl, ?_⟩))
      refine (near _ _ get_new).imp fun d h4 q => ?_
      obtain ⟨rfl, k4⟩ := q
      rw [isn, hcc, if_neg Bool.false_ne_true]
      exact Ok.of (a := .bl false) (h := h4) rfl ⟨false, rfl, rfl, (Keep.app _).trans k4⟩
    refine ss_cons (s_if (st4.imp fun b h4 q => ?_))
    obtain ⟨rfl, k4⟩ := q
    rw [if_neg Bool.false_ne_true]
    refine ss_nil ?_
    have g4 := k4.get g3 (by simp)
    have hc4 := k4.get hc3 (by simp)
    clear st4
    cases hf : (el (marked l) m m).find? isBroken with
    | none => exact absurd (brkM.mp hf) inf
    | some r =>
      have R := ref_ok hd h8 hm hf
      have rfo := fun (h : Hh) (hc : h[cn]? = some (O.lst (l.map rowD))) => refutes_ok (n := n + 5) (K := 200) hc hl R.len (by omega) (by omega) (by decide) (by decide) R.s1 R.s2 R.s3 R.pos R.z0 R.z1
      rw [← hcall] at rfo
      refine ss_cons (s_ret (e_and ?_))
      have e1 : evE call gvals (.call 21 (.cons (.var 7) (.cons (.var 2) .nil)) []) [sc, dk, some (.int (m : Int)), some (.ref cn), some (.ref f), some (.bl false), none, some (.ref H), none, none] h4 = call 21 [.ref H, .int (m : Int)] h4 := by simp only [runFn, evSs, evS, evE, evT, evEs, evO, evG, evGs, b_ok, ix0, ix1, ix2', o_add', o_sub', c_lt', c_le', c_gt', c_ge', c_eq', c_ne', List.length_cons, List.length_nil, List.map_cons, List.map_nil, List.replicate, Nat.sub_self, Nat.add_sub_cancel, List.cons_append, List.nil_append, List.append_nil, List.getElem?_cons_zero, List.getElem?_cons_succ, List.set_cons_zero, List.set_cons_succ, if_true, if_false, ite_true, ite_false, reduceIte, Nat.reduceAdd, Nat.reduceSub, Nat.reduceLT, Nat.zero_add, Bool.true_and, Bool.and_true]
      obtain ⟨d, h5, e2, q, k5⟩ := refu H h4 g4
      rw [e2] at e1
      rw [hf] at q
      have et : (r.c.drop m).map (fun a => rq (a * (-1 / r.b))) = (mulT r m).map rq := by
        unfold mulT
        rw [List.map_map]
        rfl
      dsimp only at q
      rw [et] at q
      subst q
      have g5 := k5.get g4 (by simp)
      have hc5 := k5.get hc4 (by simp)
      have e3 : evE call gvals (.call 43 (.cons (.call 21 (.cons (.var 7) (.cons (.var 2) .nil)) []) (.cons (.var 3) (.cons (.var 2) .nil))) []) [sc, dk, some (.int (m : Int)), some (.ref cn), some (.ref f), some (.bl false), none, some (.ref H), none, none] h4 = call 43 [.tup ((mulT r m).map rq), .ref cn, .int (m : Int)] h5 := by
        generalize E.call 21 (.cons (.var 7) (.cons (.var 2) .nil)) [] = ce at e1 ⊢
        simp only [runFn, evSs, evS, evE, evT, evEs, evO, evG, evGs, b_ok, ix0, ix1, ix2', o_add', o_sub', c_lt', c_le', c_gt', c_ge', c_eq', c_ne', List.length_cons, List.length_nil, List.map_cons, List.map_nil, List.replicate, Nat.sub_self, Nat.add_sub_cancel, List.cons_append, List.nil_append, List.append_nil, List.getElem?_cons_zero, List.getElem?_cons_succ, List.set_cons_zero, List.set_cons_succ, if_true, if_false, ite_true, ite_false, reduceIte, Nat.reduceAdd, Nat.reduceSub, Nat.reduceLT, Nat.zero_add, Bool.true_and, Bool.and_true, e1]
      rw [e3]
      refine (rfo h5 hc5).imp fun d h6 q => ?_
      obtain ⟨rfl, k6⟩ := q
      refine ⟨rfl, ?_⟩
      have e4 : evE call gvals (.call 37 (.cons (.var 7) (.cons (.var 3) .nil)) []) [sc, dk, some (.int (m : Int)), some (.ref cn), some (.ref f), some (.bl false), none, some (.ref H), none, none] h6 = call 37 [.ref H, .ref cn] h6 := by simp only [runFn, evSs, evS, evE, evT, evEs, evO, evG, evGs, b_ok, ix0, ix1, ix2', o_add', o_sub', c_lt', c_le', c_gt', c_ge', c_eq', c_ne', List.length_cons, List.length_nil, List.map_cons, List.map_nil, List.replicate, Nat.sub_self, Nat.add_sub_cancel, List.cons_append, List.nil_append, List.append_nil, List.getElem?_cons_zero, List.getElem?_cons_succ, List.set_cons_zero, List.set_cons_succ, if_true, if_false, ite_true, ite_false, reduceIte, Nat.reduceAdd, Nat.reduceSub, Nat.reduceLT, Nat.zero_add, Bool.true_and, Bool.and_true]
      rw [e4]
      exact (sl H cn h6 (k6.get g5 (by simp)) (k6.get hc5 (by simp))).imp fun d h7 q => q.1
  | true =>
    rw [if_neg (by decide)]
    refine ss_nil ?_
    have hfe := feas.mp hcc
    have noM := brkM.mpr hfe
    -- refutation
    have st4 : Ok (evT call gvals (.cmp .notN (.call 21 (.cons (.bf .list (.cons (.var 3) .nil)) (.cons (.var 2) .nil)) []) (.lit .non)) [sc, dk, some (.int (m : Int)), some (.ref cn), some (.ref f), some (.bl true), none, some (.ref H), none, none] h3) fun b h' => b = false ∧ Keep [] h3 h' := by
      refine t_notN (call1 (Ok.of (a := .ref h3.length) (h := h3 ++ [.lst (l.map rowD)]) (by simp only [runFn, evSs, evS, evE, evT, evEs, evO, evG, evGs, b_ok, ix0, ix1, ix2', o_add', o_sub', c_lt', c_le', c_gt', c_ge', c_eq', c_ne', List.length_cons, List.length_nil, List.map_cons, List.map_nil, List.replicate, Nat.sub_self, Nat.add_sub_cancel, List.cons_append, List.nil_append, List.append_nil, List.getElem?_cons_zero, List.getElem?_cons_succ, List.set_cons_zero, List.set_cons_succ, if_true, if_false, ite_true, ite_false, reduceIte, Nat.reduceAdd, Nat.reduceSub, Nat.reduceLT, Nat.zero_add, Bool.true_and, Bool.and_true, bf2, listD, lstAt_of hc3]) ⟨_, rfl, ?_⟩))
      refine (refu _ _ get_new).imp fun d h4 q => ?_
      obtain ⟨rfl, k4⟩ := q
      rw [noM]
      exact Ok.of (a := .bl false) (h := h4) rfl ⟨false, rfl, rfl, (Keep.app _).trans k4⟩
    refine ss_cons (s_if (st4.imp fun b h4 q => ?_))
    obtain ⟨rfl, k4⟩ := q
    rw [if_neg Bool.false_ne_true]
    refine ss_nil ?_
    have g4 := k4.get g3 (by simp)
    have hc4 := k4.get hc3 (by simp)
    have mt4 := mt3.keep k4 (by simp) (fun _ _ => by simp)
    clear st4 g3 hc3 mt3 k4
    have hM : ∀ y, Sat m y l ↔ Sol (m + 1) (close (m + 1) M) (toX m y) := fun y => (rel y).trans sol_iff.symm
    have R0 := run_eq hl hM hfe 0 (Nat.zero_le _)
    have Rm := run_eq hl hM hfe m (Nat.le_refl _)
    have en := (run_ends hl hM hm1 R0).1
    have ve := values_eq Rm
    have vo := values_ok (n := n + 6) mt4 (by omega)
    rw [← hcall, ve] at vo
    have hi_eq : (ivF (withV (el l m (m - 1)) [] 0)).2 = (close (m + 1) M m 0).map fun (b : Int) => (b : Rat) / 12 := by
      have := congrArg Prod.snd en
      rw [Nat.sub_zero] at this
      exact this
    have hsat : Sat m (co (runF l m m)) l := by
      obtain ⟨y, q1, q2⟩ := Rm.fea
      exact (sat_congr q2).mp q1
    have vb := runF_vb hl (fun r hr => dc_wd0 (hd r hr)) (by omega) hm (Nat.le_refl m) m (Nat.le_refl m)
    have sz := fun (r : Row) (hr : r ∈ l) => szs (dc_wd0 (hd r hr)) (by decide) vb (Nat.pow_le_pow_right (by decide) (by omega)) hm
    have me := fun (c : Nat) (h : Hh) (hc : h[c]? = some (O.lst (l.map rowD))) => meets_ok (n := n + 5) (K := 200) hc hl (runF_len m) (by decide) (by decide) (fun r hr => ⟨(sz r hr).b, fun i hi => ⟨(sz r hr).c i hi, (sz r hr).w i, (sz r hr).m i hi⟩⟩) (fun r hr => (sz r hr).d) hsat
    rw [← hcall] at me
    have rt := fun (b : Int) (h : Hh) => lratio_eq (n := n + 7) (k := 20) (h := h) b 12 (by decide) (by decide) (by decide) (by decide)
    rw [← hcall] at rt
    (refine ss_cons (s_asg (by simp) (Ok.of (by ((simp only [runFn, evSs, evS, evE, evT, evEs, evO, evG, evGs, b_ok, ix0, ix1, ix2', o_add', o_sub', c_lt', c_le', c_gt', c_ge', c_eq', c_ne', List.length_cons, List.length_nil, List.map_cons, List.map_nil, List.replicate, Nat.sub_self, Nat.add_sub_cancel, List.cons_append, List.nil_append, List.append_nil, List.getElem?_cons_zero, List.getElem?_cons_succ, List.set_cons_zero, List.set_cons_succ, if_true, if_false, ite_true, ite_false, reduceIte, Nat.reduceAdd, Nat.reduceSub, Nat.reduceLT, Nat.zero_add, Bool.true_and, Bool.and_true]) <;> rfl)) ?_)); dsimp only [List.set_cons_zero, List.set_cons_succ])
    -- highest
    have st5 : Ok (evS call gvals (.ife (.cmp .notN (.ix (.ix (.var 4) (.var 2)) (.lit (.int 0))) (.lit .non)) (.cons (.asg (.var 8) (.call 32 (.cons (.ix (.ix (.var 4) (.var 2)) (.lit (.int 0))) (.cons (.lit (.int 12)) .nil)) [])) <|
      .nil) .nil) [sc, dk, some (.int (m : Int)), some (.ref cn), some (.ref f), some (.bl true), none, some (.ref H), some .non, none] h4) fun fl h' => fl = .nx [sc, dk, some (.int (m : Int)), some (.ref cn), some (.ref f), some (.bl true), none, some (.ref H), some (oD ((close (m + 1) M m 0).map fun (b : Int) => (b : Rat) / 12)), none] ∧ h' = h4 := by
      obtain ⟨r, hr, i1, i2⟩ := mt4.ix1 (show m < m + 1 by omega)
      have i3 := i2 0 (by omega)
      have z0 : ((0 : Nat) : Int) = 0 := rfl
      rw [z0] at i3
      cases hb : close (m + 1) M m 0 with
      | none =>
        rw [hb] at i3
        refine s_if (Ok.of (a := false) (h := h4) (by simp only [runFn, evSs, evS, evE, evT, evEs, evO, evG, evGs, b_ok, ix0, ix1, ix2', o_add', o_sub', c_lt', c_le', c_gt', c_ge', c_eq', c_ne', List.length_cons, List.length_nil, List.map_cons, List.map_nil, List.replicate, Nat.sub_self, Nat.add_sub_cancel, List.cons_append, List.nil_append, List.append_nil, List.getElem?_cons_zero, List.getElem?_cons_succ, List.set_cons_zero, List.set_cons_succ, if_true, if_false, ite_true, ite_false, reduceIte, Nat.reduceAdd, Nat.reduceSub, Nat.reduceLT, Nat.zero_add, Bool.true_and, Bool.and_true, i1, i3, oi, show cmp2 .notN .non .non h4 = .ok (.bl false, h4) from rfl]) ?_)
        rw [if_neg Bool.false_ne_true]
        exact ss_nil ⟨rfl, rfl⟩
      | some b =>
        rw [hb] at i3
        refine s_if (Ok.of (a := true) (h := h4) (by simp only [runFn, evSs, evS, evE, evT, evEs, evO, evG, evGs, b_ok, ix0, ix1, ix2', o_add', o_sub', c_lt', c_le', c_gt', c_ge', c_eq', c_ne', List.length_cons, List.length_nil, List.map_cons, List.map_nil, List.replicate, Nat.sub_self, Nat.add_sub_cancel, List.cons_append, List.nil_append, List.append_nil, List.getElem?_cons_zero, List.getElem?_cons_succ, List.set_cons_zero, List.set_cons_succ, if_true, if_false, ite_true, ite_false, reduceIte, Nat.reduceAdd, Nat.reduceSub, Nat.reduceLT, Nat.zero_add, Bool.true_and, Bool.and_true, i1, i3, oi, show cmp2 .notN (.int b) .non h4 = .ok (.bl true, h4) from rfl]) ?_)
        rw [if_pos rfl]
        have rb := rt b h4
        rw [Rat.divInt_eq_div, c12] at rb
        refine ss_cons (s_asg (by simp) (Ok.of (a := rq ((b : Rat) / 12)) (h := h4) (by simp only [runFn, evSs, evS, evE, evT, evEs, evO, evG, evGs, b_ok, ix0, ix1, ix2', o_add', o_sub', c_lt', c_le', c_gt', c_ge', c_eq', c_ne', List.length_cons, List.length_nil, List.map_cons, List.map_nil, List.replicate, Nat.sub_self, Nat.add_sub_cancel, List.cons_append, List.nil_append, List.append_nil, List.getElem?_cons_zero, List.getElem?_cons_succ, List.set_cons_zero, List.set_cons_succ, if_true, if_false, ite_true, ite_false, reduceIte, Nat.reduceAdd, Nat.reduceSub, Nat.reduceLT, Nat.zero_add, Bool.true_and, Bool.and_true, i1, i3, oi, rb]) ?_))
        exact ss_nil ⟨rfl, rfl⟩
    refine ss_cons (st5.imp fun fl h' q => ?_)
    obtain ⟨rfl, rfl⟩ := q
    clear st5
    dsimp only
    rw [← hi_eq]
    generalize (ivF (withV (el l m (m - 1)) [] 0)).2 = hi at *
    -- values
    have e42 : evE call gvals (.call 42 (.cons (.var 4) (.cons (.var 2) .nil)) []) [sc, dk, some (.int (m : Int)), some (.ref cn), some (.ref f), some (.bl true), none, some (.ref H), some (oD hi), none] h' = call 42 [.ref f, .int (m : Int)] h' := by simp only [runFn, evSs, evS, evE, evT, evEs, evO, evG, evGs, b_ok, ix0, ix1, ix2', o_add', o_sub', c_lt', c_le', c_gt', c_ge', c_eq', c_ne', List.length_cons, List.length_nil, List.map_cons, List.map_nil, List.replicate, Nat.sub_self, Nat.add_sub_cancel, List.cons_append, List.nil_append, List.append_nil, List.getElem?_cons_zero, List.getElem?_cons_succ, List.set_cons_zero, List.set_cons_succ, if_true, if_false, ite_true, ite_false, reduceIte, Nat.reduceAdd, Nat.reduceSub, Nat.reduceLT, Nat.zero_add, Bool.true_and, Bool.and_true]
    refine ss_cons (s_asg (by simp) ?_)
    rw [e42]
    refine vo.imp fun d h5 q => ?_
    obtain ⟨rfl, k5⟩ := q
    dsimp only [List.set_cons_zero, List.set_cons_succ]
    have g5 := k5.get g4 nH
    have hc5 := k5.get hc4 (fun z => by
      rcases List.mem_cons.mp z with z | z
      · exact n2 z
      · exact n1 z)
    have lv : (runF l m m).length = m := runF_len m
    generalize hvs : runF l m m = vs at *
    -- both
    have st6 : Ok (evT call gvals (.or (.not (.call 37 (.cons (.call 25 (.cons (.var 7) (.cons (.var 2) .nil)) []) (.cons (.var 8) .nil)) [])) (.not (.call 37 (.cons (.call 24 (.cons (.var 7) (.cons (.var 2) .nil)) []) (.cons (.var 9) .nil)) []))) [sc, dk, some (.int (m : Int)), some (.ref cn), some (.ref f), some (.bl true), none, some (.ref H), some (oD hi), some (.tup (vs.map rq))] h5) fun b h' => b = false ∧ Keep [] h5 h' := by
      refine t_or (t_not (t_call (call1 ?_)))
      have e1 : evE call gvals (.call 25 (.cons (.var 7) (.cons (.var 2) .nil)) []) [sc, dk, some (.int (m : Int)), some (.ref cn), some (.ref f), some (.bl true), none, some (.ref H), some (oD hi), some (.tup (vs.map rq))] h5 = call 25 [.ref H, .int (m : Int)] h5 := by simp only [runFn, evSs, evS, evE, evT, evEs, evO, evG, evGs, b_ok, ix0, ix1, ix2', o_add', o_sub', c_lt', c_le', c_gt', c_ge', c_eq', c_ne', List.length_cons, List.length_nil, List.map_cons, List.map_nil, List.replicate, Nat.sub_self, Nat.add_sub_cancel, List.cons_append, List.nil_append, List.append_nil, List.getElem?_cons_zero, List.getElem?_cons_succ, List.set_cons_zero, List.set_cons_succ, if_true, if_false, ite_true, ite_false, reduceIte, Nat.reduceAdd, Nat.reduceSub, Nat.reduceLT, Nat.zero_add, Bool.true_and, Bool.and_true]
      rw [e1]
      refine (grea H h5 g5).imp fun d h6 q => ?_
      obtain ⟨rfl, k6⟩ := q
      refine ⟨_, rfl, (sv 1 (oD hi) h6 (by decide) ?_).imp fun d h7 q => ?_⟩
      · cases hi with
        | none => exact .inl rfl
        | some q => exact le_rq (by decide)
      · obtain ⟨rfl, k7⟩ := q
        refine ⟨true, rfl, ?_⟩
        rw [if_neg (by decide)]
        refine t_not (t_call (call1 ?_))
        have e2 : evE call gvals (.call 24 (.cons (.var 7) (.cons (.var 2) .nil)) []) [sc, dk, some (.int (m : Int)), some (.ref cn), some (.ref f), some (.bl true), none, some (.ref H), some (oD hi), some (.tup (vs.map rq))] h7 = call 24 [.ref H, .int (m : Int)] h7 := by simp only [runFn, evSs, evS, evE, evT, evEs, evO, evG, evGs, b_ok, ix0, ix1, ix2', o_add', o_sub', c_lt', c_le', c_gt', c_ge', c_eq', c_ne', List.length_cons, List.length_nil, List.map_cons, List.map_nil, List.replicate, Nat.sub_self, Nat.add_sub_cancel, List.cons_append, List.nil_append, List.append_nil, List.getElem?_cons_zero, List.getElem?_cons_succ, List.set_cons_zero, List.set_cons_succ, if_true, if_false, ite_true, ite_false, reduceIte, Nat.reduceAdd, Nat.reduceSub, Nat.reduceLT, Nat.zero_add, Bool.true_and, Bool.and_true]
        rw [e2]
        refine (near H h7 (k7.get (k6.get g5 (by simp)) (by simp))).imp fun d h8 q => ?_
        obtain ⟨rfl, k8⟩ := q
        rw [isn, hcc, if_pos rfl]
        exact ⟨_, rfl, (sv 2 (.tup (vs.map rq)) h8 (by decide) (le_rqs (by decide) (by omega))).imp fun d h9 q => ⟨true, q.1, rfl, ((k6.trans k7).trans k8).trans q.2⟩⟩
    refine ss_cons (s_if (st6.imp fun b h6 q => ?_))
    obtain ⟨rfl, k6⟩ := q
    rw [if_neg Bool.false_ne_true]
    refine ss_nil ?_
    have g6 := k6.get g5 (by simp)
    have hc6 := k6.get hc5 (by simp)
    clear st6
    have m27 := me h6.length (h6 ++ [.lst (l.map rowD)]) get_new
    refine ss_cons (s_ret (e_and (Ok.of (a := .bl true) (h := h6 ++ [.lst (l.map rowD)]) ?_ ⟨rfl, ?_⟩)))
    · simp only [runFn, evSs, evS, evE, evT, evEs, evO, evG, evGs, b_ok, ix0, ix1, ix2', o_add', o_sub', c_lt', c_le', c_gt', c_ge', c_eq', c_ne', List.length_cons, List.length_nil, List.map_cons, List.map_nil, List.replicate, Nat.sub_self, Nat.add_sub_cancel, List.cons_append, List.nil_append, List.append_nil, List.getElem?_cons_zero, List.getElem?_cons_succ, List.set_cons_zero, List.set_cons_succ, if_true, if_false, ite_true, ite_false, reduceIte, Nat.reduceAdd, Nat.reduceSub, Nat.reduceLT, Nat.zero_add, Bool.true_and, Bool.and_true, bf2, listD, lstAt_of hc6, m27, cmp2]
    · have e4 : evE call gvals (.call 37 (.cons (.var 7) (.cons (.var 3) .nil)) []) [sc, dk, some (.int (m : Int)), some (.ref cn), some (.ref f), some (.bl true), none, some (.ref H), some (oD hi), some (.tup (vs.map rq))] (h6 ++ [.lst (l.map rowD)]) = call 37 [.ref H, .ref cn] (h6 ++ [.lst (l.map rowD)]) := by simp only [runFn, evSs, evS, evE, evT, evEs, evO, evG, evGs, b_ok, ix0, ix1, ix2', o_add', o_sub', c_lt', c_le', c_gt', c_ge', c_eq', c_ne', List.length_cons, List.length_nil, List.map_cons, List.map_nil, List.replicate, Nat.sub_self, Nat.add_sub_cancel, List.cons_append, List.nil_append, List.append_nil, List.getElem?_cons_zero, List.getElem?_cons_succ, List.set_cons_zero, List.set_cons_succ, if_true, if_false, ite_true, ite_false, reduceIte, Nat.reduceAdd, Nat.reduceSub, Nat.reduceLT, Nat.zero_add, Bool.true_and, Bool.and_true]
      rw [e4]
      exact (sl H cn _ (get_old g6) (get_old hc6)).imp fun d h7 q => q.1
end K00
set_option Elab.async false
set_option linter.all false
set_option maxRecDepth 100000
set_option maxHeartbeats 4000000
/-! K01L: the law, whole. -/
namespace K00
open SF PySem
theorem law_ok {n : Nat} {ns : List Int} (hn : ns.length ≤ 63) : Ok (C (n + 10) 44 [.cl (ns.map .int)] []) fun d _ => d = .bl true := by
  have intsH : Ints (ns.map D.int) := fun x hx => by
    obtain ⟨i, _, rfl⟩ := List.mem_map.mp hx
    exact ⟨i, rfl⟩
  have dk := deck_ok (n := n + 8) (h := []) intsH (by rw [List.length_map]; exact hn)
  have tk := fun (xs : List D) (a : Nat) (h : Hh) (e : h[a]? = some (O.lst xs)) (hi : Ints xs) => take_ok (n := n + 8) (m := 5) e hi (by decide)
  have df := fun (many dk : Nat) (xs : List D) (h : Hh) (e : h[dk]? = some (O.lst xs)) (hi : Ints xs) (h1 : 0 < many) (h2 : many ≤ 100) => differences_ok (n := n + 4) e hi h1 h2
  have cl := fun (h : Hh) (f N : Nat) (rs : List Nat) (M : Mx) (m : Mat h f N rs M) (hN : N ≤ 100) => close_ok (n := n + 7) m hN
  refine C_ok (f := f_law) rfl rfl fun call hcall => ?_
  rw [← hcall] at dk tk df cl
  show Ok (evSs call gvals b_law [some (.cl (ns.map .int)), none, none, none, none, none, none, none, none, none] []) _
  unfold b_law
  have e1 : evE call gvals (.call 28 (.cons (.var 0) (.cons (.lit (.int 30)) (.cons (.lit (.int 4)) .nil))) []) [some (.cl (ns.map .int)), none, none, none, none, none, none, none, none, none] [] = call 28 [.cl (ns.map .int), .int 30, .int 4] [] := by simp only [runFn, evSs, evS, evE, evT, evEs, evO, evG, evGs, b_ok, ix0, ix1, ix2', o_add', o_sub', c_lt', c_le', c_gt', c_ge', c_eq', c_ne', List.length_cons, List.length_nil, List.map_cons, List.map_nil, List.replicate, Nat.sub_self, Nat.add_sub_cancel, List.cons_append, List.nil_append, List.append_nil, List.getElem?_cons_zero, List.getElem?_cons_succ, List.set_cons_zero, List.set_cons_succ, if_true, if_false, ite_true, ite_false, reduceIte, Nat.reduceAdd, Nat.reduceSub, Nat.reduceLT, Nat.zero_add, Bool.true_and, Bool.and_true]
  refine ss_cons (s_asg (by simp) ?_)
  rw [e1]
  refine dk.imp fun d h1 q => ?_
  obtain ⟨rfl, ⟨xs, g1, i1⟩, _⟩ := q
  dsimp only [List.set_cons_zero, List.set_cons_succ]
  clear dk e1
  generalize ([] : Hh).length = D0 at *
  -- many
  refine ss_cons (s_asg (by simp) (e_bin (Ok.of (a := .int 1) (h := h1) (by simp only [runFn, evSs, evS, evE, evT, evEs, evO, evG, evGs, b_ok, ix0, ix1, ix2', o_add', o_sub', c_lt', c_le', c_gt', c_ge', c_eq', c_ne', List.length_cons, List.length_nil, List.map_cons, List.map_nil, List.replicate, Nat.sub_self, Nat.add_sub_cancel, List.cons_append, List.nil_append, List.append_nil, List.getElem?_cons_zero, List.getElem?_cons_succ, List.set_cons_zero, List.set_cons_succ, if_true, if_false, ite_true, ite_false, reduceIte, Nat.reduceAdd, Nat.reduceSub, Nat.reduceLT, Nat.zero_add, Bool.true_and, Bool.and_true]) ?_)))
  have e2 : evE call gvals (.call 29 (.cons (.var 1) (.cons (.lit (.int 5)) .nil)) []) [some (.cl (ns.map .int)), some (.ref D0), none, none, none, none, none, none, none, none] h1 = call 29 [.ref D0, .int 5] h1 := by simp only [runFn, evSs, evS, evE, evT, evEs, evO, evG, evGs, b_ok, ix0, ix1, ix2', o_add', o_sub', c_lt', c_le', c_gt', c_ge', c_eq', c_ne', List.length_cons, List.length_nil, List.map_cons, List.map_nil, List.replicate, Nat.sub_self, Nat.add_sub_cancel, List.cons_append, List.nil_append, List.append_nil, List.getElem?_cons_zero, List.getElem?_cons_succ, List.set_cons_zero, List.set_cons_succ, if_true, if_false, ite_true, ite_false, reduceIte, Nat.reduceAdd, Nat.reduceSub, Nat.reduceLT, Nat.zero_add, Bool.true_and, Bool.and_true]
  rw [e2]
  refine (tk xs D0 h1 g1 i1).imp fun d h2 q => ?_
  obtain ⟨⟨r, rfl, r1, r2⟩, ys, rfl, hy⟩ := q
  refine Ok.of (a := .int (1 + r)) (h := h1.set D0 (.lst ys)) rfl ?_
  dsimp only [List.set_cons_zero, List.set_cons_succ]
  have g2 : (h1.set D0 (.lst ys))[D0]? = some (O.lst ys) := get_set g1
  generalize h1.set D0 (.lst ys) = h2 at *
  obtain ⟨m, hm, m1, m5⟩ : ∃ m : Nat, 1 + r = (m : Int) ∧ 0 < m ∧ m ≤ 5 := ⟨(1 + r).toNat, by omega, by omega, by omega⟩
  rw [hm]
  clear tk e2
  -- differences
  refine ss_cons (s_asgT ?_)
  have e3 : evE call gvals (.call 41 (.cons (.var 1) (.cons (.var 2) .nil)) []) [some (.cl (ns.map .int)), some (.ref D0), some (.int (m : Int)), none, none, none, none, none, none, none] h2 = call 41 [.ref D0, .int (m : Int)] h2 := by simp only [runFn, evSs, evS, evE, evT, evEs, evO, evG, evGs, b_ok, ix0, ix1, ix2', o_add', o_sub', c_lt', c_le', c_gt', c_ge', c_eq', c_ne', List.length_cons, List.length_nil, List.map_cons, List.map_nil, List.replicate, Nat.sub_self, Nat.add_sub_cancel, List.cons_append, List.nil_append, List.append_nil, List.getElem?_cons_zero, List.getElem?_cons_succ, List.set_cons_zero, List.set_cons_succ, if_true, if_false, ite_true, ite_false, reduceIte, Nat.reduceAdd, Nat.reduceSub, Nat.reduceLT, Nat.zero_add, Bool.true_and, Bool.and_true]
  rw [e3]
  refine (df m D0 ys h2 g2 hy m1 (by omega)).imp fun d h3 q => ?_
  obtain ⟨cn, f, rs, l, M, rfl, hc, mt, n1, n2, hd, h8, dw, rel⟩ := q
  refine Ok.of (a := [some (.cl (ns.map .int)), some (.ref D0), some (.int (m : Int)), some (.ref cn), some (.ref f), none, none, none, none, none]) (h := h3) (by simp only [runFn, evSs, evS, evE, evT, evEs, evO, evG, evGs, b_ok, ix0, ix1, ix2', o_add', o_sub', c_lt', c_le', c_gt', c_ge', c_eq', c_ne', List.length_cons, List.length_nil, List.map_cons, List.map_nil, List.replicate, Nat.sub_self, Nat.add_sub_cancel, List.cons_append, List.nil_append, List.append_nil, List.getElem?_cons_zero, List.getElem?_cons_succ, List.set_cons_zero, List.set_cons_succ, if_true, if_false, ite_true, ite_false, reduceIte, Nat.reduceAdd, Nat.reduceSub, Nat.reduceLT, Nat.zero_add, Bool.true_and, Bool.and_true]) ?_
  clear df e3
  -- close
  have e4 : evE call gvals (.call 39 (.cons (.var 4) .nil) []) [some (.cl (ns.map .int)), some (.ref D0), some (.int (m : Int)), some (.ref cn), some (.ref f), none, none, none, none, none] h3 = call 39 [.ref f] h3 := by simp only [runFn, evSs, evS, evE, evT, evEs, evO, evG, evGs, b_ok, ix0, ix1, ix2', o_add', o_sub', c_lt', c_le', c_gt', c_ge', c_eq', c_ne', List.length_cons, List.length_nil, List.map_cons, List.map_nil, List.replicate, Nat.sub_self, Nat.add_sub_cancel, List.cons_append, List.nil_append, List.append_nil, List.getElem?_cons_zero, List.getElem?_cons_succ, List.set_cons_zero, List.set_cons_succ, if_true, if_false, ite_true, ite_false, reduceIte, Nat.reduceAdd, Nat.reduceSub, Nat.reduceLT, Nat.zero_add, Bool.true_and, Bool.and_true]
  refine ss_cons (s_expr ?_)
  rw [e4]
  refine (cl h3 f (m + 1) rs M mt (by omega)).imp fun d h4 q => ?_
  obtain ⟨mt4, k4⟩ := q
  exact law_rest hcall m1 m5 (k4.get hc n1) mt4 n1 n2 hd h8 dw rel
theorem plain {ns : List Int} (hn : ns.length ≤ 63) : ∃ h, callN fns gvals 40 44 [.cl (ns.map .int)] [] = .ok (.bl true, h) := by
  obtain ⟨d, h, e, rfl⟩ := law_ok (n := 30) hn
  exact ⟨h, e⟩
end K00
set_option Elab.async false
set_option linter.all false
set_option maxRecDepth 100000
set_option maxHeartbeats 0
namespace K00
open SF PySem PySem.Spec PyProof.Rows L2
theorem facts {P : Program} {w : World} {K : PySem.W.Frag} {h : Heap} {mg : Str → Option Value} {f : Addr} {n : Nat} (X : K.In h) (Gm : h.Ns mainGlobals mg) (hfa : mg ("law" : Str) = some (.ref f)) (c : SaysX gs sds K) :
    ∃ fd : FuncData, (∀ (s : Shared) (v : Value), BindsTo s fd ⟨[v], []⟩ [("script", v)]) ∧ ∀ base : Heap, K.In base → base.Ns mainGlobals mg →
      FnOk P w K mg base C8.CX0 n f fd ["script"] (spOf ⟨P, w, K, fun _ => 0⟩ 1 (callN (sds.map (·.fn)) (gs.map fun g => D.tup (g.2.map dvD)) n 44)) := by
  have hd : sd_law ∈ sds := List.mem_append_right _ (by simp)
  have F := c.fnOf sd_law hd
  have hm : mg "law" = some (.ref (He.ga K "law")) := He.glo_ok X Gm (c.all.2.1 (.glo "law") (List.mem_append_left _ (List.mem_map.mpr ⟨sd_law, hd, rfl⟩)))
  have e := hfa.symm.trans hm
  cases e
  refine ⟨fdOf K sd_law, fun s v => FunD.bindsA (ps := ["script"]) F (fun _ _ _ _ _ _ us hl => match us, hl with | [_], _ => rfl) s [v] rfl, fun base _ _ => ?_⟩
  have e1 : (sds.map (drOf K)).map (·.fn) = sds.map (·.fn) := by rw [List.map_map]; rfl
  have r := levels (P := P) (w := w) (cls := fun _ => 0) (base := base) (gl := gs.map fun g => D.tup (g.2.map dvD)) (sds.map (drOf K)) (dr_ok X Gm c look binds) (free_all X Gm c) (gcd_is X Gm c) (glo_all X Gm c (by decide +kernel)) n 44 (drOf K sd_law) rfl
  rw [e1] at r
  exact r
def plainLaw : Prop := ∀ ns : List Int, ns.length ≤ 63 → ∃ h, callN (sds.map (·.fn)) (gs.map fun g => D.tup (g.2.map dvD)) 40 44 [.cl (ns.map .int)] [] = .ok (.bl true, h)
end K00
open PySem PySem.W PySem.Calls PyProof.Rows
theorem k00_holds (pl : K00.plainLaw) : PySem.Challenge.rw_standfast_k00_whole_differences_by_short.Holds := by
  w_on; o_law
  refine HandSHeadRun.head_imp (r := OpenLaw.row PySem.Challenge.rw_standfast_k00_whole_differences_by_short) (q := view (OpenLaw.row PySem.Challenge.rw_standfast_k00_whole_differences_by_short).prog [0, 53]) (H := SF.hookX 4 K00.gs K00.sds) (ob := K00.ob) (M := 20000) (loose := K00.loose) (d := HandSHeadRun.topDef (OpenLaw.row PySem.Challenge.rw_standfast_k00_whole_differences_by_short).prog 53) (kwd := [])
    (fun s => K00.ob_eq s) K00.run (by kernel_rfl) (by kernel_rfl) (by kernel_rfl) (by rfl) (by first | assumption | decide +kernel) (by decide +kernel) ⟨rfl, rfl, rfl, rfl, rfl, by decide +kernel⟩ ?hw ?hc
  case hw => w_witness2
  case hc =>
    refine L2.walk_ofE (l := PySem.Challenge.rw_standfast_k00_whole_differences_by_short) (n := 63) (k := 40) (x := "script") (CX := C8.CX0) rfl (by decide) (by kernel_rfl) ⟨rfl, by decide, by decide⟩ ?F (fun _ _ _ _ z => z)
    intro w mg fa h Y G hmg0
    obtain ⟨K, KX, c⟩ := Y
    have hmg : mg ("law" : PySem.Str) = some (.ref fa) := by
      have e : (HandSHeadRun.topDef (OpenLaw.row PySem.Challenge.rw_standfast_k00_whole_differences_by_short).prog 53).name = ("law" : PySem.Str) := by kernel_rfl
      rw [← e]
      exact hmg0
    obtain ⟨fd, hb, hF⟩ := K00.facts (P := (PySem.Challenge.rw_standfast_k00_whole_differences_by_short).prog) (w := w) (n := 40) KX G hmg c
    exact ⟨K, fd, _, KX, hb, fun H a ns hl hO hS => SF.script_ok hO hS (pl ns hl) fun _ => rfl, hF⟩
set_option Elab.async false
set_option linter.all false
set_option maxRecDepth 100000
set_option maxHeartbeats 0
/-! K00End: the statement. -/
namespace K00
open SF PySem
theorem plain_law : plainLaw := fun ns hn => by
  have e1 : sds.map (·.fn) = fns := rfl
  have e2 : (gs.map fun g => D.tup (g.2.map dvD)) = gvals := rfl
  rw [e1, e2]
  exact plain hn
end K00
theorem PySem.Challenge.cw_standfast_k00_whole_differences_by_short_holds : PySem.Challenge.rw_standfast_k00_whole_differences_by_short.Holds :=
  k00_holds K00.plain_law
