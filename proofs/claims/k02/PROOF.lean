import PyProof.Rows.All
import PySem.Challenge.RW_skycycles_k02_whole_periods
import PyProof.P3Eq
import Wide.All
import OpenK.AllK
import Wide.FinOn
import HandS.ForMost
import HandS.ForExc
import HandS.Walk
import HandS.SortInts
import HandS.SetFor
import HandS.Zip
import HandS.Deep
import HandS.Style
import HandS.Conv
import HandS.IsInst
import HandS.Strs
set_option Elab.async false
set_option linter.all false
set_option linter.all false
namespace Sk
open PySem

/-! the small language: what the defs of the text are made of -/
abbrev D := PyData
inductive Exn where
  | sky | bodies | day | number | text | non
  deriving DecidableEq
inductive Sl where
  | no
  | d (x : D)
  | own (xs : List D)
abbrev Ev := List Sl
inductive Bop where
  | add | sub | mul | fdiv | mod
inductive Cop where
  | lt | le | gt | ge | eq | ne | inn | notin
inductive Ty where
  | int | bool | tuple | list | str
inductive Gc where
  | units | day | digits
  deriving DecidableEq
inductive BI where
  | len | max | min | sum | all | sorted | abs | str | int | list
inductive Mt where
  | count | index | join | partition | split

/-- the defs of the program and the helpers of the laws; lw n: a law's own -/
inductive Fn where
  | is_int | is_body | is_sky | check_sky | check_body | check_some | check_day | check_bound
  | place_of | place | places | ahead | distance | arc_of | arc | arc_starts | order | bodies_at
  | common | joint | round_of | body_period | period_of | period | relative_of | relative_period | meeting_units | ever_at
  | check_all | days_of | together | days | first_day | last_day | count_before | day_at | least_bound | arc_counts
  | waits_of | waits | kinds_of_waits | longest_wait | longest_after | mean_wait | rows_of_days
  | shift_of | shift | near_returns | best_returns | first_return | best_within
  | way_of | rounds | laps_of | laps | overtakings | overtaking_days | leader | same_place
  | check_parts | sign_of | sign | days_in | sign_counts | next_entry | same_sign | first_same_sign
  | check_units | check_seen | fits_of | fits | count_fits | can_be_at | told_apart | best_day | slowest
  | later | turned_back | shifted | seen_from | with_body | without_body | finer
  | number_in | format_sky | parse_sky
  | ldraw | lpick | lsky | lsome | lat | larc | lrelative | ltrue | lerror
  | lw (n : Nat)
  deriving DecidableEq

mutual
inductive E where
  | var (i : Nat)
  | ci (i : Int)
  | cs (s : Str)
  | cb (b : Bool)
  | cn
  | gc (g : Gc)
  | bin (op : Bop) (a b : E)
  | neg (a : E)
  | inot (a : E)
  | cmp (op : Cop) (a b : E)
  | chain (o p : Cop) (a b c : E)
  | isN (a : E)
  | notN (a : E)
  | isB (v : Bool) (a : E)
  | notB (v : Bool) (a : E)
  | bool (an : Bool) (es : Es)
  | ife (c a b : E)
  | ix (a i : E)
  | slc (a : E) (lo hi : O)
  | tup (es : Es)
  | lst (es : Es)
  | call (f : Fn) (es : Es)
  | bi (b : BI) (es : Es)
  | mth (m : Mt) (o : E) (es : Es)
  | lc (ts : List Nat) (it : It) (c : O) (e : E)
  | isi (a : E) (t : Ty)
  | srtSet (a : E)
  | lenSet (a : E)
  | lstRg (a b c : O)
  | lstRg3 (a b c : E)
inductive Es where
  | nil
  | cons (e : E) (r : Es)
inductive O where
  | none
  | some (e : E)
inductive It where
  | list (e : E)
  | tup (e : E)
  | str (e : E)
  | rg1 (a : E)
  | rg2 (a b : E)
  | rg3 (a b c : E)
  | zip (a b : E)
end
mutual
inductive S where
  | asg (fl : Bool) (i : Nat) (e : E)
  | own (i : Nat) (e : E)
  | asgT (ts : List Nat) (e : E)
  | par (i j : Nat) (a b : E)
  | expr (e : E)
  | app (i : Nat) (e : E)
  | setix (i : Nat) (k e : E)
  | augix (i : Nat) (k e : E)
  | iadd (i : Nat) (e : E)
  | rem (i : Nat) (e : E)
  | ret (e : E)
  | ifs (c : E) (a b : Ss)
  | fors (ts : List Nat) (it : It) (b : Ss)
  | whil (c : E) (b : Ss)
  | raise (x : Exn)
  | shut (i : Nat)
inductive Ss where
  | nil
  | cons (s : S) (r : Ss)
end

/-! environments -/
def getS : Ev → Nat → Sl
  | [], _ => .no
  | x :: _, 0 => x
  | _ :: r, n + 1 => getS r n
def setS : Ev → Nat → Sl → Ev
  | [], _, _ => []
  | _ :: r, 0, y => y :: r
  | x :: r, n + 1, y => x :: setS r n y
def blank1 : Sl → Sl
  | .own _ => .no
  | s => s
def blank : Ev → Ev
  | [] => []
  | s :: r => blank1 s :: blank r
def start (n : Nat) (ds : List D) : Ev := ds.map Sl.d ++ List.replicate (n - ds.length) Sl.no

/-! data -/
def lim : Nat := 100000
mutual
def noList : D → Bool
  | .none => true
  | .bool _ => true
  | .int _ => true
  | .str _ => true
  | .list _ => false
  | .tuple xs => noListAll xs
  | .dict _ => false
def noListAll : List D → Bool
  | [] => true
  | x :: xs => noList x && noListAll xs
end
/-- no deeper than n, no tokens -/
def okD : Nat → D → Bool
  | _, .none => true
  | _, .bool _ => true
  | _, .int _ => true
  | _, .str s => PyData.strOk s
  | n + 1, .list xs => xs.all (okD n)
  | n + 1, .tuple xs => xs.all (okD n)
  | _, _ => false
def int? : D → Option Int
  | .int i => some i
  | _ => none
def ints? : List D → Option (List Int)
  | [] => some []
  | .int i :: r => (ints? r).map (i :: ·)
  | _ :: _ => none
def bools? : List D → Option (List Bool)
  | [] => some []
  | .bool i :: r => (bools? r).map (i :: ·)
  | _ :: _ => none
def pairs? : List D → Option (List (Int × Int))
  | [] => some []
  | .tuple [.int i, .int j] :: r => (pairs? r).map ((i, j) :: ·)
  | _ :: _ => none
def strs? : List D → Option (List Str)
  | [] => some []
  | .str i :: r => (strs? r).map (i :: ·)
  | _ :: _ => none
def pairD (p : Int × Int) : D := .tuple [.int p.1, .int p.2]
def intsD (l : List Int) : D := .list (l.map .int)
def pairsD (l : List (Int × Int)) : D := .list (l.map pairD)

/-- sorting by insertion -/
def ins (x : Int) : List Int → List Int
  | [] => [x]
  | y :: r => if x ≤ y then x :: y :: r else y :: ins x r
def isort : List Int → List Int
  | [] => []
  | x :: r => ins x (isort r)
def leP (p q : Int × Int) : Bool := decide (p.1 < q.1) || (decide (p.1 = q.1) && decide (p.2 ≤ q.2))
def insP (x : Int × Int) : List (Int × Int) → List (Int × Int)
  | [] => [x]
  | y :: r => if leP x y then x :: y :: r else y :: insP x r
def isortP : List (Int × Int) → List (Int × Int)
  | [] => []
  | x :: r => insP x (isortP r)
def dedup : List Int → List Int
  | [] => []
  | x :: r => if r.contains x then dedup r else x :: dedup r
def lmax : List Int → Int
  | [] => 0
  | [x] => x
  | x :: r => max x (lmax r)
def lmin : List Int → Int
  | [] => 0
  | [x] => x
  | x :: r => min x (lmin r)
def ixD (n : Nat) (i : Int) : Option Nat := if 0 ≤ i then (if i < n then some i.toNat else none) else if -(n : Int) ≤ i then some (i + n).toNat else none
def atD {α : Type} (xs : List α) (i : Int) : Option α := (ixD xs.length i).bind fun j => xs[j]?
/-- where a slice begins or ends -/
def cutIx (n : Nat) (dflt : Nat) : Option Int → Nat
  | none => dflt
  | some i => if i < 0 then (i + (n : Int)).toNat else min i.toNat n
def cutD {α : Type} (xs : List α) (lo hi : Option Int) : List α := (xs.drop (cutIx xs.length 0 lo)).take (cutIx xs.length xs.length hi - cutIx xs.length 0 lo)
def rangeD (lo : Int) (n : Nat) : List D := (List.range n).map fun (i : Nat) => .int (lo + i)
def rgN (l h s : Int) : Nat := if l < h then ((h - l - 1) / s + 1).toNat else 0
def rangeS (l s : Int) (n : Nat) : List D := (List.range n).map fun (i : Nat) => .int (l + i * s)
def rangeDown (lo : Int) (n : Nat) : List D := (List.range n).map fun (i : Nat) => .int (lo - i)

def small (i : Int) : Bool := decide (-(2 ^ 64) < i) && decide (i < 2 ^ 64)
def bop : Bop → D → D → Option D
  | .add, .int i, .int j => some (.int (i + j))
  | .add, .list xs, .list ys => if xs.length + ys.length ≤ lim then some (.list (xs ++ ys)) else none
  | .add, .str x, .str y => if x.length + y.length ≤ lim then some (.str (x ++ y)) else none
  | .sub, .int i, .int j => some (.int (i - j))
  | .mul, .int i, .int j => if small i || small j then some (.int (i * j)) else none
  | .mul, .list xs, .int k => if 0 ≤ k ∧ k ≤ 1000 ∧ xs.length ≤ 100 then some (.list (List.replicate k.toNat xs).flatten) else none
  | .fdiv, .int i, .int j => if 0 < j ∧ j < 1073741824 then some (.int (i / j)) else none
  | .mod, .int i, .int j => if 0 < j then some (.int (i % j)) else none
  | _, _, _ => none
def oneSign (x : Str) : Option Nat := match x.cps.toList with
  | [c] => some c
  | _ => none
def cop : Cop → D → D → Option D
  | .lt, .int i, .int j => some (.bool (decide (i < j)))
  | .le, .int i, .int j => some (.bool (decide (i ≤ j)))
  | .gt, .int i, .int j => some (.bool (decide (j < i)))
  | .ge, .int i, .int j => some (.bool (decide (j ≤ i)))
  | .eq, .str x, .str y => some (.bool (x == y))
  | .ne, .str x, .str y => some (.bool (!(x == y)))
  | .eq, x, y => if okD 6 x && okD 6 y then some (.bool (PyData.eqv x y)) else none
  | .ne, x, y => if okD 6 x && okD 6 y then some (.bool (!PyData.eqv x y)) else none
  | .inn, x, .list ys => if okD 5 x && ys.all (okD 5) then some (.bool (ys.any fun z => PyData.eqv z x)) else none
  | .notin, x, .list ys => if okD 5 x && ys.all (okD 5) then some (.bool (!ys.any fun z => PyData.eqv z x)) else none
  | .inn, .str x, .str z => (oneSign x).map fun c => .bool (decide (c ∈ z.cps.toList))
  | _, _, _ => none
def ixOp : D → D → Option D
  | .list xs, .int i => atD xs i
  | .tuple xs, .int i => atD xs i
  | .str z, .int i => if z.length ≤ lim then (atD z.cps.toList i).map fun c => .str ⟨#[c]⟩ else none
  | _, _ => none
def slOp : D → Option Int → Option Int → Option D
  | .list xs, lo, hi => some (.list (cutD xs lo hi))
  | .str z, lo, hi => if z.length ≤ lim then some (.str ⟨(cutD z.cps.toList lo hi).toArray⟩) else none
  | _, _, _ => none
def isiD : D → Ty → Bool
  | .bool _, .bool => true
  | .bool _, .int => true
  | .int _, .int => true
  | .tuple _, .tuple => true
  | .list _, .list => true
  | .str _, .str => true
  | _, _ => false
def isNon : D → Bool
  | .none => true
  | _ => false
def isTok : D → Bool
  | .dict _ => true
  | _ => false
def plain : List D → Bool
  | [] => true
  | x :: r => !isTok x && plain r
def bsem : BI → List D → Option D
  | .len, [.list xs] => some (.int xs.length)
  | .len, [.tuple xs] => some (.int xs.length)
  | .len, [.str z] => if z.length ≤ lim then some (.int z.length) else none
  | .max, [.list xs] => (ints? xs).bind fun ns => if ns.length = 0 then none else some (.int (lmax ns))
  | .max, [.int i, .int j] => some (.int (max i j))
  | .min, [.list xs] => (ints? xs).bind fun ns => if ns.length = 0 then none else some (.int (lmin ns))
  | .min, [.int i, .int j] => some (.int (min i j))
  | .sum, [.list xs] => (ints? xs).map fun ns => .int ns.sum
  | .all, [.list xs] => (bools? xs).map fun bs => .bool (bs.all id)
  | .sorted, [.list xs] => match ints? xs with
    | some ns => some (intsD (isort ns))
    | none => (pairs? xs).map fun ps => pairsD (isortP ps)
  | .abs, [.int i] => some (.int (if i < 0 then -i else i))
  | .list, [.list xs] => some (.list xs)
  | _, _ => none
def msem : Mt → D → List D → Option D
  | .count, .list xs, [.int k] => (ints? xs).map fun ns => .int (ns.count k : Nat)
  | .index, .list xs, [y] => if okD 5 y && xs.all (okD 5) then (xs.findIdx? fun z => PyData.eqv z y).map fun (j : Nat) => .int j else none
  | _, _, _ => none

def mtTy : Mt → D → Bool
  | .count, .list _ => true
  | .index, .list _ => true
  | .join, .str _ => true
  | .partition, .str _ => true
  | .split, .str _ => true
  | _, _ => false

/-! what must hold so that .. -/
abbrev Spec := List D → (D → Prop) → (Exn → Prop) → Prop
def wpLc (f : D → (Option D → Prop) → Prop) : List D → List D → (List D → Prop) → Prop
  | [], acc, Q => Q acc
  | x :: xs, acc, Q => f x fun r => match r with
    | some y => wpLc f xs (acc ++ [y]) Q
    | none => wpLc f xs acc Q
def wpFor (f : D → Ev → (Ev → Prop) → Prop) : List D → Ev → (Ev → Prop) → Prop
  | [], G, K => K G
  | x :: xs, G, K => f x G fun G' => wpFor f xs G' K
def bindT : List Nat → D → Ev → (Ev → Prop) → Prop
  | [i], x, G, K => K (setS G i (.d x))
  | [i, j], .tuple [x, y], G, K => K (setS (setS G i (.d x)) j (.d y))
  | _, _, _, _ => False
def gcv : Gc → D
  | .units => .int 120
  | .day => .int 1000000
  | .digits => .str (Str.ofString "0123456789")
def must (o : Option D) (Q : D → Prop) : Prop := match o with
  | some d => Q d
  | none => False
def asInt (Q : Int → Prop) : D → Prop
  | .int i => Q i
  | _ => False
def asBool (Q : Bool → Prop) : D → Prop
  | .bool i => Q i
  | _ => False
def asList (Q : List D → Prop) : D → Prop
  | .list i => Q i
  | _ => False
def asTup (Q : List D → Prop) : D → Prop
  | .tuple i => Q i
  | _ => False
def big : Int := 1000000000000

section
variable (T : Fn → Spec)
mutual
def wpE : E → Ev → (D → Prop) → (Exn → Prop) → Prop
  | .var i, G, Q, _ => match getS G i with
    | .d x => Q x
    | .own xs => Q (.list xs)
    | .no => False
  | .ci i, _, Q, _ => Q (.int i)
  | .cs s, _, Q, _ => Q (.str s)
  | .cb b, _, Q, _ => Q (.bool b)
  | .cn, _, Q, _ => Q .none
  | .gc g, _, Q, _ => Q (gcv g)
  | .bin op a b, G, Q, X => wpE a G (fun x => wpE b G (fun y => must (bop op x y) Q) X) X
  | .neg a, G, Q, X => wpE a G (asInt fun i => Q (.int (-i))) X
  | .inot a, G, Q, X => wpE a G (asBool fun b => Q (.bool (!b))) X
  | .cmp op a b, G, Q, X => wpE a G (fun x => wpE b G (fun y => must (cop op x y) Q) X) X
  | .chain o p a b c, G, Q, X => wpE a G (fun x => wpE b G (fun y => must (cop o x y) (asBool fun t => if t = true then wpE c G (fun z => must (cop p y z) Q) X else Q (.bool false))) X) X
  | .isN a, G, Q, X => wpE a G (fun x => Q (.bool (isNon x))) X
  | .notN a, G, Q, X => wpE a G (fun x => Q (.bool (!isNon x))) X
  | .isB v a, G, Q, X => wpE a G (asBool fun b => Q (.bool (decide (b = v)))) X
  | .notB v a, G, Q, X => wpE a G (asBool fun b => Q (.bool (!decide (b = v)))) X
  | .bool an es, G, Q, X => wpB an es G Q X
  | .ife c a b, G, Q, X => wpE c G (asBool fun t => if t = true then wpE a G Q X else wpE b G Q X) X
  | .ix a i, G, Q, X => wpE a G (fun x => wpE i G (fun y => must (ixOp x y) Q) X) X
  | .slc a lo hi, G, Q, X => wpE a G (fun x => wpO lo G (fun l => wpO hi G (fun h => must (slOp x l h) Q) X) X) X
  | .tup es, G, Q, X => wpEs es G (fun ds => ds.length ≤ lim ∧ plain ds = true ∧ Q (.tuple ds)) X
  | .lst es, G, Q, X => wpEs es G (fun ds => ds.length ≤ lim ∧ plain ds = true ∧ Q (.list ds)) X
  | .call f es, G, Q, X => wpEs es G (fun ds => T f ds Q X) X
  | .bi b es, G, Q, X => wpEs es G (fun ds => must (bsem b ds) Q) X
  | .mth m o es, G, Q, X => wpE o G (fun x => mtTy m x = true ∧ wpEs es G (fun ds => must (msem m x ds) Q) X) X
  | .lc ts it c e, G, Q, X => wpI it G (fun xs => xs.length ≤ lim ∧
      wpLc (fun x k => bindT ts x G fun G2 => wpC c G2 (fun t => if t = true then wpE e G2 (fun y => isTok y = false ∧ k (some y)) (fun _ => False) else k none) (fun _ => False)) xs [] fun ys => Q (.list ys)) X
  | .isi a t, G, Q, X => wpE a G (fun x => isTok x = false ∧ Q (.bool (isiD x t))) X
  | .srtSet a, G, Q, X => wpE a G (asList fun xs => xs.length ≤ 4000 ∧ must ((ints? xs).map fun ns => intsD (isort (dedup ns))) Q) X
  | .lenSet a, G, Q, X => wpE a G (asList fun xs => xs.length ≤ 4000 ∧ must ((ints? xs).map fun ns => .int ((dedup ns).length : Nat)) Q) X
  | .lstRg a b _, G, Q, X => wpO a G (fun l => wpO b G (fun h => match l, h with
      | some l, some h => (-big ≤ l ∧ l ≤ big ∧ -big ≤ h ∧ h - l ≤ 100000) ∧ Q (.list (rangeD l (h - l).toNat))
      | _, _ => False) X) X
  | .lstRg3 a b c, G, Q, X => wpE a G (asInt fun l => wpE b G (asInt fun h => wpE c G (asInt fun s => (0 ≤ l ∧ l ≤ 1000 ∧ 0 ≤ h ∧ h ≤ 1000 ∧ 0 < s ∧ s ≤ 1000) ∧ Q (.list (rangeS l s (rgN l h s)))) X) X) X
def wpEs : Es → Ev → (List D → Prop) → (Exn → Prop) → Prop
  | .nil, _, Q, _ => Q []
  | .cons e r, G, Q, X => wpE e G (fun x => wpEs r G (fun xs => Q (x :: xs)) X) X
def wpB : Bool → Es → Ev → (D → Prop) → (Exn → Prop) → Prop
  | _, .nil, _, _, _ => False
  | an, .cons e r, G, Q, X => match r with
    | .nil => wpE e G (asBool fun t => Q (.bool t)) X
    | .cons e2 r2 => wpE e G (asBool fun t => if t = an then wpB an (.cons e2 r2) G Q X else Q (.bool t)) X
def wpO : O → Ev → (Option Int → Prop) → (Exn → Prop) → Prop
  | .none, _, Q, _ => Q none
  | .some e, G, Q, X => wpE e G (asInt fun i => Q (some i)) X
def wpC : O → Ev → (Bool → Prop) → (Exn → Prop) → Prop
  | .none, _, Q, _ => Q true
  | .some e, G, Q, X => wpE e G (asBool Q) X
def wpI : It → Ev → (List D → Prop) → (Exn → Prop) → Prop
  | .list e, G, Q, X => wpE e G (asList Q) X
  | .tup e, G, Q, X => wpE e G (asTup Q) X
  | .str e, G, Q, X => wpE e G (fun x => match x with | .str z => Q (z.cps.toList.map fun c => .str ⟨#[c]⟩) | _ => False) X
  | .rg1 a, G, Q, X => wpE a G (asInt fun n => -big ≤ n ∧ n ≤ big ∧ Q (rangeD 0 n.toNat)) X
  | .rg2 a b, G, Q, X => wpE a G (asInt fun l => wpE b G (asInt fun n => (-big ≤ l ∧ l ≤ big ∧ -big ≤ n ∧ n ≤ big) ∧ Q (rangeD l (n - l).toNat)) X) X
  | .rg3 a b c, G, Q, X => wpE a G (asInt fun l => wpE b G (asInt fun n => wpE c G (asInt fun s => s = -1 ∧ (-big ≤ l ∧ l ≤ big ∧ -big ≤ n ∧ n ≤ big) ∧ Q (rangeDown l (l - n).toNat)) X) X) X
  | .zip a b, G, Q, X => wpE a G (asList fun xs => wpE b G (asList fun ys => Q ((xs.zip ys).map fun p => .tuple [p.1, p.2])) X) X
end

structure Ends where
  nx : Ev → Prop
  rt : D → Prop
  bk : Ev → Prop
  ct : Ev → Prop
  ex : Exn → Prop
mutual
def wpS : S → Ev → Ends → Prop
  | .asg true i e, G, K => wpE T e G (fun x => noList x = true ∧ K.nx (setS G i (.d x))) K.ex
  | .asg false i e, G, K => wpE T e (blank G) (fun x => K.nx (setS G i (.d x))) K.ex
  | .own i e, G, K => wpE T e (blank G) (asList fun xs => K.nx (setS G i (.own xs))) K.ex
  | .asgT ts e, G, K => wpE T e (blank G) (fun x => bindT ts x G K.nx) K.ex
  | .par i j a b, G, K => wpE T a (blank G) (fun x => wpE T b (blank G) (fun y => K.nx (setS (setS G i (.d x)) j (.d y))) K.ex) K.ex
  | .expr e, G, K => wpE T e G (fun _ => K.nx G) K.ex
  | .app i e, G, K => match getS G i with
    | .own xs => wpE T e G (fun x => noList x = true ∧ xs.length < lim ∧ K.nx (setS G i (.own (xs ++ [x])))) K.ex
    | _ => False
  | .setix i k e, G, K => match getS G i with
    | .own xs => wpE T e G (fun x => noList x = true ∧ wpE T k G (asInt fun n => match ixD xs.length n with
      | some j => K.nx (setS G i (.own (xs.set j x)))
      | none => False) K.ex) K.ex
    | _ => False
  | .augix i k e, G, K => match getS G i with
    | .own xs => wpE T k G (asInt fun n => match atD xs n, ixD xs.length n with
      | some (.int o), some j => wpE T e G (asInt fun v => K.nx (setS G i (.own (xs.set j (.int (o + v)))))) K.ex
      | _, _ => False) K.ex
    | _ => False
  | .iadd i e, G, K => match getS G i with
    | .own xs => wpE T e (blank G) (asList fun ys => xs.length + ys.length ≤ lim ∧ K.nx (setS G i (.own (xs ++ ys)))) K.ex
    | _ => False
  | .rem i e, G, K => match getS G i with
    | .own xs => wpE T e G (asInt fun k => match ints? xs with
      | some ns => k ∈ ns ∧ K.nx (setS G i (.own ((ns.erase k).map .int)))
      | none => False) K.ex
    | _ => False
  | .ret e, G, K => wpE T e G K.rt K.ex
  | .ifs c a b, G, K => wpE T c G (asBool fun t => if t = true then wpSs a G K else wpSs b G K) K.ex
  | .fors ts it b, G, K => wpI T it (blank G) (fun xs => wpFor (fun x G1 nx => bindT ts x G1 fun G2 => wpSs b G2 { K with nx := nx, ct := nx, bk := K.nx }) xs G K.nx) K.ex
  | .whil c b, G, K => ∃ W : Nat → Ev → Prop, (∃ m, W m G) ∧ ∀ m G1, W m G1 → wpE T c G1 (asBool fun t => if t = true then
      wpSs b G1 { K with nx := fun G2 => ∃ m', m' < m ∧ W m' G2, ct := fun G2 => ∃ m', m' < m ∧ W m' G2, bk := K.nx } else K.nx G1) K.ex
  | .raise x, _, K => K.ex x
  | .shut i, G, K => match getS G i with
    | .own xs => K.nx (setS G i (.d (.list xs)))
    | _ => False
def wpSs : Ss → Ev → Ends → Prop
  | .nil, G, K => K.nx G
  | .cons s r, G, K => wpS s G { K with nx := fun G' => wpSs r G' K }
end
/-- a def: n names in all -/
def runs (n : Nat) (b : Ss) (ds : List D) (Q : D → Prop) (X : Exn → Prop) : Prop :=
  wpSs T b (start n ds) { nx := fun _ => Q .none, rt := Q, bk := fun _ => False, ct := fun _ => False, ex := X }
end
end Sk
set_option linter.all false
namespace Sk
open PySem

/-! plain facts: sorting, greatest, least -/
theorem lmax_spec : ∀ (l : List Int), l ≠ [] → lmax l ∈ l ∧ ∀ y ∈ l, y ≤ lmax l
  | [], h => absurd rfl h
  | [x], _ => by simp [lmax]
  | x :: y :: r, _ => by
    have ih := lmax_spec (y :: r) (by simp)
    have e : lmax (x :: y :: r) = max x (lmax (y :: r)) := rfl
    rw [e]
    refine ⟨?_, fun z hz => ?_⟩
    · by_cases h : x ≤ lmax (y :: r)
      · rw [Int.max_eq_right h]; exact List.mem_cons_of_mem _ ih.1
      · rw [Int.max_eq_left (by omega)]; simp
    · rcases List.mem_cons.mp hz with rfl | hz
      · omega
      · have := ih.2 z hz; omega
theorem lmin_spec : ∀ (l : List Int), l ≠ [] → lmin l ∈ l ∧ ∀ y ∈ l, lmin l ≤ y
  | [], h => absurd rfl h
  | [x], _ => by simp [lmin]
  | x :: y :: r, _ => by
    have ih := lmin_spec (y :: r) (by simp)
    have e : lmin (x :: y :: r) = min x (lmin (y :: r)) := rfl
    rw [e]
    refine ⟨?_, fun z hz => ?_⟩
    · by_cases h : x ≤ lmin (y :: r)
      · rw [Int.min_eq_left h]; simp
      · rw [Int.min_eq_right (by omega)]; exact List.mem_cons_of_mem _ ih.1
    · rcases List.mem_cons.mp hz with rfl | hz
      · omega
      · have := ih.2 z hz; omega
theorem lmax_uniq {l : List Int} {m : Int} (h : m ∈ l) (g : ∀ y ∈ l, y ≤ m) : lmax l = m := by
  have := lmax_spec l (List.ne_nil_of_mem h)
  have h1 := g _ this.1
  have h2 := this.2 _ h
  omega
theorem lmin_uniq {l : List Int} {m : Int} (h : m ∈ l) (g : ∀ y ∈ l, m ≤ y) : lmin l = m := by
  have := lmin_spec l (List.ne_nil_of_mem h)
  have h1 := g _ this.1
  have h2 := this.2 _ h
  omega
theorem ins_perm (x : Int) : ∀ l : List Int, (ins x l).Perm (x :: l)
  | [] => .refl _
  | y :: r => by
    unfold ins
    split
    · exact .refl _
    · exact ((ins_perm x r).cons y).trans (.swap x y r)
theorem isort_perm : ∀ l : List Int, (isort l).Perm l
  | [] => .refl _
  | x :: r => (ins_perm x _).trans ((isort_perm r).cons x)
theorem ins_sorted (x : Int) : ∀ l : List Int, l.Pairwise (· ≤ ·) → (ins x l).Pairwise (· ≤ ·)
  | [], _ => by simp [ins]
  | y :: r, h => by
    unfold ins
    split
    · rename_i hxy
      refine List.pairwise_cons.mpr ⟨fun z hz => ?_, h⟩
      rcases List.mem_cons.mp hz with rfl | hz
      · exact hxy
      · exact Int.le_trans hxy ((List.pairwise_cons.mp h).1 z hz)
    · rename_i hxy
      refine List.pairwise_cons.mpr ⟨fun z hz => ?_, ins_sorted x r (List.pairwise_cons.mp h).2⟩
      rcases List.mem_cons.mp ((ins_perm x r).mem_iff.mp hz) with rfl | hz
      · omega
      · exact (List.pairwise_cons.mp h).1 z hz
theorem isort_sorted : ∀ l : List Int, (isort l).Pairwise (· ≤ ·)
  | [] => .nil
  | x :: r => ins_sorted x _ (isort_sorted r)
theorem sorted_uniq : ∀ {l m : List Int}, l.Perm m → l.Pairwise (· ≤ ·) → m.Pairwise (· ≤ ·) → l = m
  | [], m, p, _, _ => by rw [List.nil_perm.mp p]
  | x :: l, [], p, _, _ => by have := p.length_eq; simp at this
  | x :: l, y :: m, p, hl, hm => by
    have hx : x = y := by
      have h1 : x ∈ y :: m := p.mem_iff.mp (by simp)
      have h2 : y ∈ x :: l := p.mem_iff.mpr (by simp)
      rcases List.mem_cons.mp h1 with e | h1
      · exact e
      · rcases List.mem_cons.mp h2 with e | h2
        · exact e.symm
        · have a := (List.pairwise_cons.mp hl).1 y h2
          have b := (List.pairwise_cons.mp hm).1 x h1
          omega
    subst hx
    rw [sorted_uniq (List.Perm.cons_inv p) (List.pairwise_cons.mp hl).2 (List.pairwise_cons.mp hm).2]
theorem isort_uniq {l m : List Int} (p : m.Perm l) (h : m.Pairwise (· ≤ ·)) : isort l = m := sorted_uniq ((isort_perm l).trans p.symm) (isort_sorted l) h
theorem mem_dedup : ∀ (l : List Int) (x : Int), x ∈ dedup l ↔ x ∈ l
  | [], x => by simp [dedup]
  | y :: r, x => by
    unfold dedup
    split
    · rename_i h
      have h : y ∈ r := by simpa using h
      rw [mem_dedup r x, List.mem_cons]
      constructor
      · exact .inr
      · rintro (rfl | h2)
        · exact h
        · exact h2
    · rw [List.mem_cons, List.mem_cons, mem_dedup r x]
theorem nodup_dedup : ∀ l : List Int, (dedup l).Nodup
  | [] => .nil
  | y :: r => by
    unfold dedup
    split
    · exact nodup_dedup r
    · rename_i h
      refine List.nodup_cons.mpr ⟨fun q => h ?_, nodup_dedup r⟩
      simpa using (mem_dedup r y).mp q
theorem dedup_len : ∀ l : List Int, (dedup l).length ≤ l.length
  | [] => Nat.le_refl _
  | y :: r => by
    unfold dedup
    have := dedup_len r
    split <;> simp <;> omega
theorem perm_of_nodup {l m : List Int} (h1 : l.Nodup) (h2 : m.Nodup) (h : ∀ x, x ∈ l ↔ x ∈ m) : l.Perm m := (List.perm_ext_iff_of_nodup h1 h2).mpr h
theorem lt_le {l : List Int} (h : l.Pairwise (· < ·)) : l.Pairwise (· ≤ ·) := h.imp fun h => Int.le_of_lt h
theorem lt_nodup {l : List Int} (h : l.Pairwise (· < ·)) : l.Nodup := h.imp fun h => Int.ne_of_lt h
theorem sortSet_uniq {l m : List Int} (h : m.Pairwise (· < ·)) (hm : ∀ x, x ∈ m ↔ x ∈ l) : isort (dedup l) = m :=
  isort_uniq (perm_of_nodup (lt_nodup h) (nodup_dedup l) fun x => by rw [hm, mem_dedup]) (lt_le h)
theorem leP_iff {p q : Int × Int} : leP p q = true ↔ p.1 < q.1 ∨ (p.1 = q.1 ∧ p.2 ≤ q.2) := by simp [leP]
theorem leP_no {p q : Int × Int} (h : ¬ leP p q = true) : leP q p = true := by
  rw [leP_iff] at h ⊢
  omega
theorem leP_trans {p q r : Int × Int} (h1 : leP p q = true) (h2 : leP q r = true) : leP p r = true := by
  rw [leP_iff] at h1 h2 ⊢
  omega
theorem leP_anti {p q : Int × Int} (h1 : leP p q = true) (h2 : leP q p = true) : p = q := by
  rw [leP_iff] at h1 h2
  have e1 : p.1 = q.1 := by omega
  have e2 : p.2 = q.2 := by omega
  exact Prod.ext e1 e2
theorem insP_perm (x : Int × Int) : ∀ l : List (Int × Int), (insP x l).Perm (x :: l)
  | [] => .refl _
  | y :: r => by
    unfold insP
    split
    · exact .refl _
    · exact ((insP_perm x r).cons y).trans (.swap x y r)
theorem isortP_perm : ∀ l : List (Int × Int), (isortP l).Perm l
  | [] => .refl _
  | x :: r => (insP_perm x _).trans ((isortP_perm r).cons x)
theorem insP_sorted (x : Int × Int) : ∀ l : List (Int × Int), l.Pairwise (fun p q => leP p q = true) → (insP x l).Pairwise (fun p q => leP p q = true)
  | [], _ => by simp [insP]
  | y :: r, h => by
    unfold insP
    split
    · rename_i hxy
      refine List.pairwise_cons.mpr ⟨fun z hz => ?_, h⟩
      rcases List.mem_cons.mp hz with rfl | hz
      · exact hxy
      · exact leP_trans hxy ((List.pairwise_cons.mp h).1 z hz)
    · rename_i hxy
      refine List.pairwise_cons.mpr ⟨fun z hz => ?_, insP_sorted x r (List.pairwise_cons.mp h).2⟩
      rcases List.mem_cons.mp ((insP_perm x r).mem_iff.mp hz) with rfl | hz
      · exact leP_no hxy
      · exact (List.pairwise_cons.mp h).1 z hz
theorem isortP_sorted : ∀ l : List (Int × Int), (isortP l).Pairwise (fun p q => leP p q = true)
  | [] => .nil
  | x :: r => insP_sorted x _ (isortP_sorted r)
theorem sortedP_uniq : ∀ {l m : List (Int × Int)}, l.Perm m → l.Pairwise (fun p q => leP p q = true) → m.Pairwise (fun p q => leP p q = true) → l = m
  | [], m, p, _, _ => by rw [List.nil_perm.mp p]
  | x :: l, [], p, _, _ => by have := p.length_eq; simp at this
  | x :: l, y :: m, p, hl, hm => by
    have hx : x = y := by
      have h1 : x ∈ y :: m := p.mem_iff.mp (by simp)
      have h2 : y ∈ x :: l := p.mem_iff.mpr (by simp)
      rcases List.mem_cons.mp h1 with e | h1
      · exact e
      · rcases List.mem_cons.mp h2 with e | h2
        · exact e.symm
        · exact leP_anti ((List.pairwise_cons.mp hl).1 y h2) ((List.pairwise_cons.mp hm).1 x h1)
    subst hx
    rw [sortedP_uniq (List.Perm.cons_inv p) (List.pairwise_cons.mp hl).2 (List.pairwise_cons.mp hm).2]
theorem isortP_uniq {l m : List (Int × Int)} (p : m.Perm l) (h : m.Pairwise (fun p q => leP p q = true)) : isortP l = m := sortedP_uniq ((isortP_perm l).trans p.symm) (isortP_sorted l) h
theorem ints?_map : ∀ l : List Int, ints? (l.map .int) = some l
  | [] => rfl
  | x :: r => by simp [ints?, ints?_map r]
theorem pairs?_map : ∀ l : List (Int × Int), pairs? (l.map pairD) = some l
  | [] => rfl
  | x :: r => by
    show pairs? (.tuple [.int x.1, .int x.2] :: r.map pairD) = _
    simp [pairs?, pairs?_map r]
theorem bools?_map : ∀ l : List Bool, bools? (l.map .bool) = some l
  | [] => rfl
  | x :: r => by simp [bools?, bools?_map r]
end Sk
set_option Elab.async false
set_option linter.all false
set_option maxRecDepth 100000
set_option maxHeartbeats 4000000
namespace Sk
open PySem L2

/-! what of the heap is data (B), and what stands beside it: the lists that a slot owns, the draws (R) -/
abbrev Rg := Option (Addr × Addr)
def inR (R : Rg) (b : Addr) : Prop := match R with
  | none => False
  | some (a, n) => b = a ∨ b = n
def DrOk (R : Rg) (B H : Hp) : Prop := match R with
  | none => True
  | some (a, n) => a ≠ n ∧ B a = none ∧ B n = none ∧ ∃ (c : Int) (nums : List Int), nums ≠ [] ∧ nums.length ≤ 100 ∧ H a = some (.lst [.ref n, .int c]) ∧ H n = some (.lst (nums.map V.int))
structure Gd (R : Rg) (B H : Hp) : Prop where
  ex : ∀ b o, B b = some o → H b = some o
  dr : DrOk R B H
structure Step (R : Rg) (B H B' H' : Hp) : Prop where
  gd : Gd R B' H'
  sb : ∀ b o, B b = some o → B' b = some o
  hb : ∀ b o, ¬ inR R b → H b = some o → H' b = some o
  nw : ∀ b o, B' b = some o → B b = some o ∨ H b = none
theorem Gd.notIn {R : Rg} {B H : Hp} (g : Gd R B H) {b : Addr} {o : HO} (h : B b = some o) : ¬ inR R b := by
  intro q
  match R, g, q with
  | some (a, n), g, q =>
    obtain ⟨_, h1, h2, _⟩ := g.dr
    rcases q with rfl | rfl
    · rw [h1] at h; cases h
    · rw [h2] at h; cases h
theorem Gd.there {R : Rg} {B H : Hp} (g : Gd R B H) {b : Addr} (q : inR R b) : ∃ o, H b = some o := by
  match R, g, q with
  | some (a, n), g, q =>
    obtain ⟨_, h1, h2, c, ns, _, _, h3, h4⟩ := g.dr
    rcases q with rfl | rfl
    · exact ⟨_, h3⟩
    · exact ⟨_, h4⟩
theorem Step.refl {R : Rg} {B H : Hp} (g : Gd R B H) : Step R B H B H := ⟨g, fun _ _ h => h, fun _ _ _ h => h, fun _ _ h => .inl h⟩
theorem Step.fresh {R : Rg} {B H B' H' : Hp} (s : Step R B H B' H') {b : Addr} (h : H' b = none) : H b = none := by
  cases q : H b with
  | none => rfl
  | some o =>
    by_cases hi : inR R b
    · obtain ⟨o', e⟩ := s.gd.there hi
      rw [e] at h; cases h
    · rw [s.hb b o hi q] at h; cases h
theorem Step.trans {R : Rg} {B H B1 H1 B2 H2 : Hp} (s : Step R B H B1 H1) (t : Step R B1 H1 B2 H2) : Step R B H B2 H2 :=
  ⟨t.gd, fun b o h => t.sb b o (s.sb b o h), fun b o i h => t.hb b o i (s.hb b o i h), fun b o h => by
    rcases t.nw b o h with q | q
    · exact s.nw b o q
    · exact .inr (s.fresh q)⟩
theorem DrOk.updN {R : Rg} {B H : Hp} {p : Addr} {o u : HO} (g : Gd R B H) (h : H p = none) : DrOk R (upd B p o) (upd H p u) := by
  match R, g with
  | none, _ => trivial
  | some (a, n), g =>
    obtain ⟨h0, h1, h2, c, ns, h5, h6, h3, h4⟩ := g.dr
    have na : a ≠ p := ne_of_none h3 h
    have nn : n ≠ p := ne_of_none h4 h
    exact ⟨h0, by rw [upd_ne na]; exact h1, by rw [upd_ne nn]; exact h2, c, ns, h5, h6, by rw [upd_ne na]; exact h3, by rw [upd_ne nn]; exact h4⟩
theorem DrOk.updH {R : Rg} {B H : Hp} {p : Addr} {u : HO} (g : Gd R B H) (h : ¬ inR R p) : DrOk R B (upd H p u) := by
  match R, g with
  | none, _ => trivial
  | some (a, n), g =>
    obtain ⟨h0, h1, h2, c, ns, h5, h6, h3, h4⟩ := g.dr
    have na : a ≠ p := fun e => h (.inl e.symm)
    have nn : n ≠ p := fun e => h (.inr e.symm)
    exact ⟨h0, h1, h2, c, ns, h5, h6, by rw [upd_ne na]; exact h3, by rw [upd_ne nn]; exact h4⟩
/-- a new object that is data -/
theorem Step.new {R : Rg} {B H : Hp} {p : Addr} {o : HO} (g : Gd R B H) (h : H p = none) : Step R B H (upd B p o) (upd H p o) := by
  have hb : ∀ b u, H b = some u → b ≠ p := fun b u e => ne_of_none e h
  refine ⟨⟨fun b u e => ?_, DrOk.updN g h⟩, fun b u e => ?_, fun b u _ e => ?_, fun b u e => ?_⟩
  · by_cases q : b = p
    · subst q; rw [upd_same] at e ⊢; exact e
    · rw [upd_ne q] at e ⊢; exact g.ex b u e
  · rw [upd_ne (hb b u (g.ex b u e))]; exact e
  · rw [upd_ne (hb b u e)]; exact e
  · by_cases q : b = p
    · subst q; exact .inr h
    · rw [upd_ne q] at e; exact .inl e
/-- a new object that is not (yet) data -/
theorem Step.newH {R : Rg} {B H : Hp} {p : Addr} {o : HO} (g : Gd R B H) (h : H p = none) : Step R B H B (upd H p o) := by
  have ni : ¬ inR R p := fun q => by
    obtain ⟨o, e⟩ := g.there q
    rw [h] at e; cases e
  have hb : ∀ b u, H b = some u → b ≠ p := fun b u e => ne_of_none e h
  refine ⟨⟨fun b u e => ?_, DrOk.updH g ni⟩, fun b u e => e, fun b u _ e => ?_, fun b u e => .inl e⟩
  · have := g.ex b u e
    rw [upd_ne (hb b u this)]; exact this
  · rw [upd_ne (hb b u e)]; exact e

mutual
/-- v stands for the data d, all of it in B -/
inductive Rp (B : Hp) : V → PyData → Prop
  | non : Rp B .non .none
  | bl (b : Bool) : Rp B (.bl b) (.bool b)
  | int (i : Int) : Rp B (.int i) (.int i)
  | str (x : Str) : Rp B (.str x) (.str x)
  | lst {a : Addr} {xs : List V} {ds : List PyData} : B a = some (.lst xs) → RpAll B xs ds → Rp B (.ref a) (.list ds)
  | tup {a : Addr} {xs : List V} {ds : List PyData} : B a = some (.tup xs) → RpAll B xs ds → Rp B (.ref a) (.tuple ds)
inductive RpAll (B : Hp) : List V → List PyData → Prop
  | nil : RpAll B [] []
  | cons {v : V} {vs : List V} {d : PyData} {ds : List PyData} : Rp B v d → RpAll B vs ds → RpAll B (v :: vs) (d :: ds)
end
mutual
theorem Rp.mono {B B' : Hp} (h : ∀ b o, B b = some o → B' b = some o) : ∀ {v : V} {d : PyData}, Rp B v d → Rp B' v d
  | _, _, .non => .non
  | _, _, .bl b => .bl b
  | _, _, .int b => .int b
  | _, _, .str b => .str b
  | _, _, .lst e r => .lst (h _ _ e) (RpAll.mono h r)
  | _, _, .tup e r => .tup (h _ _ e) (RpAll.mono h r)
theorem RpAll.mono {B B' : Hp} (h : ∀ b o, B b = some o → B' b = some o) : ∀ {v : List V} {d : List PyData}, RpAll B v d → RpAll B' v d
  | _, _, .nil => .nil
  | _, _, .cons a b => .cons (Rp.mono h a) (RpAll.mono h b)
end
mutual
theorem Rp.dp {K : PySem.W.Frag} {B H : Hp} (h : ∀ b o, B b = some o → H b = some o) : ∀ {v : V} {d : PyData}, Rp B v d → Dp K H v d
  | _, _, .non => .non
  | _, _, .bl b => .bl b
  | _, _, .int b => .int b
  | _, _, .str b => .str b
  | _, _, .lst e r => .lst (SqL.of (h _ _ e)) (RpAll.dp h r)
  | _, _, .tup e r => .tup (SqT.of (h _ _ e)) (RpAll.dp h r)
theorem RpAll.dp {K : PySem.W.Frag} {B H : Hp} (h : ∀ b o, B b = some o → H b = some o) : ∀ {v : List V} {d : List PyData}, RpAll B v d → DpAll K H v d
  | _, _, .nil => .nil
  | _, _, .cons a b => .cons (Rp.dp h a) (RpAll.dp h b)
end
mutual
/-- data without lists does not stand on them -/
theorem Rp.nolist {B B' : Hp} (h : ∀ b xs, B b = some (.tup xs) → B' b = some (.tup xs)) : ∀ {v : V} {d : PyData}, Rp B v d → noList d = true → Rp B' v d
  | _, _, .non, _ => .non
  | _, _, .bl b, _ => .bl b
  | _, _, .int b, _ => .int b
  | _, _, .str b, _ => .str b
  | _, _, .lst e r, z => by simp [noList] at z
  | _, _, .tup e r, z => .tup (h _ _ e) (RpAll.nolist h r (by simpa [noList] using z))
theorem RpAll.nolist {B B' : Hp} (h : ∀ b xs, B b = some (.tup xs) → B' b = some (.tup xs)) : ∀ {v : List V} {d : List PyData}, RpAll B v d → noListAll d = true → RpAll B' v d
  | _, _, .nil, _ => .nil
  | _, _, .cons a b, z => by
    simp only [noListAll, Bool.and_eq_true] at z
    exact .cons (Rp.nolist h a z.1) (RpAll.nolist h b z.2)
end
theorem RpAll.len {B : Hp} : ∀ {vs : List V} {ds : List PyData}, RpAll B vs ds → vs.length = ds.length
  | _, _, .nil => rfl
  | _, _, .cons _ r => congrArg (· + 1) r.len
theorem RpAll.get {B : Hp} : ∀ {vs : List V} {ds : List PyData} {i : Nat} {d : PyData}, RpAll B vs ds → ds[i]? = some d → ∃ v, vs[i]? = some v ∧ Rp B v d
  | _, _, _, _, .nil, e => by simp at e
  | _, _, 0, _, .cons a _, e => by
    simp at e
    subst e
    exact ⟨_, rfl, a⟩
  | _, _, i + 1, d, .cons _ r, e => by
    obtain ⟨v, h1, h2⟩ := RpAll.get (i := i) r (by simpa using e)
    exact ⟨v, by simpa using h1, h2⟩
theorem RpAll.getV {B : Hp} : ∀ {vs : List V} {ds : List PyData} {i : Nat} {v : V}, RpAll B vs ds → vs[i]? = some v → ∃ d, ds[i]? = some d ∧ Rp B v d
  | _, _, _, _, .nil, e => by simp at e
  | _, _, 0, _, .cons a _, e => by
    simp at e
    subst e
    exact ⟨_, rfl, a⟩
  | _, _, i + 1, d, .cons _ r, e => by
    obtain ⟨v, h1, h2⟩ := RpAll.getV (i := i) r (by simpa using e)
    exact ⟨v, by simpa using h1, h2⟩
theorem RpAll.append {B : Hp} : ∀ {vs ws : List V} {ds es : List PyData}, RpAll B vs ds → RpAll B ws es → RpAll B (vs ++ ws) (ds ++ es)
  | _, _, _, _, .nil, s => s
  | _, _, _, _, .cons a r, s => .cons a (r.append s)
theorem RpAll.drop {B : Hp} : ∀ {vs : List V} {ds : List PyData} (n : Nat), RpAll B vs ds → RpAll B (vs.drop n) (ds.drop n)
  | _, _, 0, r => r
  | _, _, _ + 1, .nil => .nil
  | _, _, n + 1, .cons _ r => r.drop n
theorem RpAll.take {B : Hp} : ∀ {vs : List V} {ds : List PyData} (n : Nat), RpAll B vs ds → RpAll B (vs.take n) (ds.take n)
  | _, _, 0, r => by simp; exact .nil
  | _, _, _ + 1, .nil => .nil
  | _, _, n + 1, .cons a r => .cons a (r.take n)
theorem RpAll.set {B : Hp} {v : V} {d : PyData} (h : Rp B v d) : ∀ {vs : List V} {ds : List PyData} (n : Nat), RpAll B vs ds → RpAll B (vs.set n v) (ds.set n d)
  | _, _, _, .nil => .nil
  | _, _, 0, .cons _ r => .cons h r
  | _, _, n + 1, .cons a r => .cons a (r.set h n)
theorem RpAll.rep {B : Hp} {vs : List V} {ds : List PyData} (h : RpAll B vs ds) : ∀ n : Nat, RpAll B (List.replicate n vs).flatten (List.replicate n ds).flatten
  | 0 => .nil
  | n + 1 => by
    rw [List.replicate_succ, List.replicate_succ, List.flatten_cons, List.flatten_cons]
    exact h.append (h.rep n)
theorem RpAll.ints {B : Hp} : ∀ {vs : List V} {ds : List PyData} {ns : List Int}, RpAll B vs ds → ints? ds = some ns → vs = ns.map V.int
  | _, _, ns, .nil, e => by
    simp [ints?] at e
    subst e; rfl
  | _, _, ns, .cons (d := d) a r, e => by
    cases a with
    | int i =>
      simp only [ints?, Option.map_eq_some_iff] at e
      obtain ⟨m, h1, rfl⟩ := e
      rw [RpAll.ints r h1]; rfl
    | _ => simp [ints?] at e
theorem RpAll.ofInts {B : Hp} : ∀ ns : List Int, RpAll B (ns.map V.int) (ns.map PyData.int)
  | [] => .nil
  | n :: r => .cons (.int n) (RpAll.ofInts r)
theorem RpAll.bools {B : Hp} : ∀ {vs : List V} {ds : List PyData} {ns : List Bool}, RpAll B vs ds → bools? ds = some ns → vs = ns.map V.bl
  | _, _, ns, .nil, e => by
    simp [bools?] at e
    subst e; rfl
  | _, _, ns, .cons (d := d) a r, e => by
    cases a with
    | bl i =>
      simp only [bools?, Option.map_eq_some_iff] at e
      obtain ⟨m, h1, rfl⟩ := e
      rw [RpAll.bools r h1]; rfl
    | _ => simp [bools?] at e

/-- a value at a slot or an argument: data, or the draws' token -/
def tok : PyData := .dict []
def RV (R : Rg) (B : Hp) (v : V) (d : PyData) : Prop := Rp B v d ∨ (d = tok ∧ ∃ a n, R = some (a, n) ∧ v = .ref a)
theorem RV.mono {R : Rg} {B B' : Hp} (h : ∀ b o, B b = some o → B' b = some o) {v : V} {d : PyData} (r : RV R B v d) : RV R B' v d := r.imp (Rp.mono h) id
theorem RV.rp {R : Rg} {B : Hp} {v : V} {d : PyData} (r : RV R B v d) (h : isTok d = false) : Rp B v d := by
  rcases r with r | ⟨rfl, _⟩
  · exact r
  · cases h
inductive RVs (R : Rg) (B : Hp) : List V → List PyData → Prop
  | nil : RVs R B [] []
  | cons {v : V} {vs : List V} {d : PyData} {ds : List PyData} : RV R B v d → RVs R B vs ds → RVs R B (v :: vs) (d :: ds)
theorem RVs.mono {R : Rg} {B B' : Hp} (h : ∀ b o, B b = some o → B' b = some o) : ∀ {v : List V} {d : List PyData}, RVs R B v d → RVs R B' v d
  | _, _, .nil => .nil
  | _, _, .cons a b => .cons (a.mono h) (b.mono h)
theorem RVs.len {R : Rg} {B : Hp} : ∀ {vs : List V} {ds : List PyData}, RVs R B vs ds → vs.length = ds.length
  | _, _, .nil => rfl
  | _, _, .cons _ r => congrArg (· + 1) r.len
theorem RV.int {R : Rg} {B : Hp} {v : V} {i : Int} (r : RV R B v (.int i)) : v = .int i := by
  rcases r with r | ⟨e, _⟩
  · cases r; rfl
  · cases e
theorem RV.bool {R : Rg} {B : Hp} {v : V} {i : Bool} (r : RV R B v (.bool i)) : v = .bl i := by
  rcases r with r | ⟨e, _⟩
  · cases r; rfl
  · cases e
theorem RV.str {R : Rg} {B : Hp} {v : V} {i : Str} (r : RV R B v (.str i)) : v = .str i := by
  rcases r with r | ⟨e, _⟩
  · cases r; rfl
  · cases e
theorem RV.list {R : Rg} {B : Hp} {v : V} {ds : List PyData} (r : RV R B v (.list ds)) : ∃ a xs, v = .ref a ∧ B a = some (.lst xs) ∧ RpAll B xs ds := by
  rcases r with r | ⟨e, _⟩
  · cases r with | lst h1 h2 => exact ⟨_, _, rfl, h1, h2⟩
  · cases e
theorem RV.tuple {R : Rg} {B : Hp} {v : V} {ds : List PyData} (r : RV R B v (.tuple ds)) : ∃ a xs, v = .ref a ∧ B a = some (.tup xs) ∧ RpAll B xs ds := by
  rcases r with r | ⟨e, _⟩
  · cases r with | tup h1 h2 => exact ⟨_, _, rfl, h1, h2⟩
  · cases e
theorem RV.of {R : Rg} {B : Hp} {v : V} {d : PyData} (r : Rp B v d) : RV R B v d := .inl r
/-- no token within: okD -/
theorem okD_tok {n : Nat} {d : PyData} (h : okD n d = true) : isTok d = false := by
  cases d with
  | dict x => cases n <;> simp [okD] at h
  | _ => rfl

/-! environments -/
def SlE (R : Rg) (B : Hp) (o : Option (Option V)) : Sl → Prop
  | .no => True
  | .d x => ∃ v, o = some (some v) ∧ RV R B v x
  | .own xs => ∃ v, o = some (some v) ∧ Rp B v (.list xs)
def RepE (R : Rg) (B : Hp) (σ : St) (G : Ev) : Prop := σ.length = G.length ∧ ∀ i, SlE R B (σ[i]?) (getS G i)
theorem SlE.mono {R : Rg} {B B' : Hp} (h : ∀ b o, B b = some o → B' b = some o) {o : Option (Option V)} : ∀ {s : Sl}, SlE R B o s → SlE R B' o s
  | .no, _ => trivial
  | .d x, ⟨v, e, r⟩ => ⟨v, e, r.mono h⟩
  | .own x, ⟨v, e, r⟩ => ⟨v, e, Rp.mono h r⟩
theorem RepE.mono {R : Rg} {B B' : Hp} (h : ∀ b o, B b = some o → B' b = some o) {σ : St} {G : Ev} (r : RepE R B σ G) : RepE R B' σ G := ⟨r.1, fun i => (r.2 i).mono h⟩
theorem getS_set : ∀ (G : Ev) (i j : Nat) (y : Sl), getS (setS G i y) j = if j = i ∧ i < G.length then y else getS G j
  | [], i, j, y => by simp [setS, getS]
  | x :: r, 0, 0, y => by simp [setS, getS]
  | x :: r, 0, j + 1, y => by simp [setS, getS]
  | x :: r, i + 1, 0, y => by simp [setS, getS]
  | x :: r, i + 1, j + 1, y => by
    simp only [setS, getS, getS_set r i j y, List.length_cons]
    by_cases h : j = i ∧ i < r.length
    · rw [if_pos h, if_pos ⟨by omega, by omega⟩]
    · rw [if_neg h, if_neg (fun q => h ⟨by omega, by omega⟩)]
theorem setS_len : ∀ (G : Ev) (i : Nat) (y : Sl), (setS G i y).length = G.length
  | [], _, _ => rfl
  | _ :: _, 0, _ => rfl
  | _ :: r, i + 1, y => by simp [setS, setS_len r i y]
theorem getS_lt : ∀ {G : Ev} {i : Nat}, getS G i ≠ .no → i < G.length
  | [], i, h => absurd rfl h
  | _ :: _, 0, _ => by simp
  | _ :: r, i + 1, h => by
    have := getS_lt (G := r) (i := i) (by simpa [getS] using h)
    simp; omega
theorem RepE.set {R : Rg} {B : Hp} {σ : St} {G : Ev} {i : Nat} {v : V} {x : PyData} (r : RepE R B σ G) (h : RV R B v x) : RepE R B (σ.set i (some v)) (setS G i (.d x)) := by
  refine ⟨by rw [List.length_set, setS_len]; exact r.1, fun j => ?_⟩
  have hl := r.1
  rw [getS_set]
  by_cases q : j = i ∧ i < G.length
  · rw [if_pos q]
    obtain ⟨rfl, q⟩ := q
    exact ⟨v, by rw [List.getElem?_set_self (by omega)], h⟩
  · rw [if_neg q]
    by_cases e : j = i
    · subst e
      have : getS G j = .no := by
        cases z : getS G j with
        | no => rfl
        | _ => exact absurd ⟨rfl, getS_lt (by rw [z]; simp)⟩ q
      rw [this]
      trivial
    · rw [List.getElem?_set_ne (Ne.symm e)]
      exact r.2 j
theorem Step.mutH {R : Rg} {B H B' H' : Hp} {p : Addr} {o : HO} (s : Step R B H B' H') (g : Gd R B H) (h : H p = none) (h' : B' p = none) : Step R B H B' (upd H' p o) := by
  have ni : ¬ inR R p := fun q => by
    obtain ⟨o, e⟩ := g.there q
    rw [h] at e; cases e
  refine ⟨⟨fun b u e => ?_, DrOk.updH s.gd ni⟩, s.sb, fun b u i e => ?_, s.nw⟩
  · rw [upd_ne (ne_of_none e h')]; exact s.gd.ex b u e
  · rw [upd_ne (ne_of_none e h)]; exact s.hb b u i e
theorem Step.notNew {R : Rg} {B H B' H' : Hp} {p : Addr} {o : HO} (s : Step R B H B' H') (h1 : B p = none) (h2 : H p = some o) : B' p = none := by
  cases q : B' p with
  | none => rfl
  | some u =>
    rcases s.nw p u q with z | z
    · rw [h1] at z; cases z
    · rw [h2] at z; cases z
theorem Gd.notR {R : Rg} {B H : Hp} (g : Gd R B H) {p : Addr} (h : H p = none) : ¬ inR R p := fun q => by
  obtain ⟨o, e⟩ := g.there q
  rw [h] at e; cases e
theorem Gd.free {R : Rg} {B H : Hp} (g : Gd R B H) {p : Addr} (h : H p = none) : B p = none := by
  cases q : B p with
  | none => rfl
  | some o => rw [g.ex _ _ q] at h; cases h
theorem getS_blank : ∀ (G : Ev) (i : Nat), getS (blank G) i = blank1 (getS G i)
  | [], _ => rfl
  | _ :: _, 0 => rfl
  | _ :: r, i + 1 => getS_blank r i
end Sk
set_option Elab.async false
set_option linter.all false
set_option maxRecDepth 100000
set_option maxHeartbeats 4000000
namespace Sk
open PySem L2

/-! the text against the small language -/
def tyStr : Ty → String
  | .int => "int" | .bool => "bool" | .tuple => "tuple" | .list => "list" | .str => "str"
def tyName (t : Ty) : Str := Str.ofString (tyStr t)
def gcName : Gc → Str
  | .units => "MOST_UNITS" | .day => "MOST_DAY" | .digits => "DIGITS"
def gcV : Gc → V
  | .units => .int 120 | .day => .int 1000000 | .digits => .str (Str.ofString "0123456789")
def biName : BI → Str
  | .len => "len" | .max => "max" | .min => "min" | .sum => "sum" | .all => "all" | .sorted => "sorted" | .abs => "abs" | .str => "str" | .int => "int" | .list => "list"
def mtName : Mt → Str
  | .count => "count" | .index => "index" | .join => "join" | .partition => "partition" | .split => "split"
def fnName (ln : Nat → Str) : Fn → Str
  | .is_int => "is_int" | .is_body => "is_body" | .is_sky => "is_sky" | .check_sky => "check_sky" | .check_body => "check_body" | .check_some => "check_some" | .check_day => "check_day" | .check_bound => "check_bound"
  | .place_of => "place_of" | .place => "place" | .places => "places" | .ahead => "ahead" | .distance => "distance" | .arc_of => "arc_of" | .arc => "arc" | .arc_starts => "arc_starts" | .order => "order" | .bodies_at => "bodies_at"
  | .common => "common" | .joint => "joint" | .round_of => "round_of" | .body_period => "body_period" | .period_of => "period_of" | .period => "period" | .relative_of => "relative_of" | .relative_period => "relative_period" | .meeting_units => "meeting_units" | .ever_at => "ever_at"
  | .check_all => "check_all" | .days_of => "days_of" | .together => "together" | .days => "days" | .first_day => "first_day" | .last_day => "last_day" | .count_before => "count_before" | .day_at => "day_at" | .least_bound => "least_bound" | .arc_counts => "arc_counts"
  | .waits_of => "waits_of" | .waits => "waits" | .kinds_of_waits => "kinds_of_waits" | .longest_wait => "longest_wait" | .longest_after => "longest_after" | .mean_wait => "mean_wait" | .rows_of_days => "rows_of_days"
  | .shift_of => "shift_of" | .shift => "shift" | .near_returns => "near_returns" | .best_returns => "best_returns" | .first_return => "first_return" | .best_within => "best_within"
  | .way_of => "way_of" | .rounds => "rounds" | .laps_of => "laps_of" | .laps => "laps" | .overtakings => "overtakings" | .overtaking_days => "overtaking_days" | .leader => "leader" | .same_place => "same_place"
  | .check_parts => "check_parts" | .sign_of => "sign_of" | .sign => "sign" | .days_in => "days_in" | .sign_counts => "sign_counts" | .next_entry => "next_entry" | .same_sign => "same_sign" | .first_same_sign => "first_same_sign"
  | .check_units => "check_units" | .check_seen => "check_seen" | .fits_of => "fits_of" | .fits => "fits" | .count_fits => "count_fits" | .can_be_at => "can_be_at" | .told_apart => "told_apart" | .best_day => "best_day" | .slowest => "slowest"
  | .later => "later" | .turned_back => "turned_back" | .shifted => "shifted" | .seen_from => "seen_from" | .with_body => "with_body" | .without_body => "without_body" | .finer => "finer"
  | .number_in => "number_in" | .format_sky => "format_sky" | .parse_sky => "parse_sky"
  | .ldraw => "_law_draw" | .lpick => "_law_pick" | .lsky => "_law_sky" | .lsome => "_law_some" | .lat => "_law_at" | .larc => "_law_arc" | .lrelative => "_law_relative" | .ltrue => "_law_true" | .lerror => "_law_error"
  | .lw n => ln n
structure Ck where
  N : List Str
  ln : Nat → Str
  fns : List Fn
  gcs : List Gc
  blts : List Str
  exs : List Exn
def exName : Exn → Str
  | .sky => "BadSky" | .bodies => "BadBodies" | .day => "BadDay" | .number => "BadNumber" | .text => "BadText" | .non => "NotFound"
def opB : Bop → Operator → Bool
  | .add, .Add => true
  | .sub, .Sub => true
  | .mul, .Mult => true
  | .fdiv, .FloorDiv => true
  | .mod, .Mod => true
  | _, _ => false
def cmB : Cop → CmpOp → Bool
  | .lt, .Lt => true
  | .le, .LtE => true
  | .gt, .Gt => true
  | .ge, .GtE => true
  | .eq, .Eq => true
  | .ne, .NotEq => true
  | .inn, .In => true
  | .notin, .NotIn => true
  | _, _ => false
def visK : Option NameKind → Bool
  | some .local => true
  | some .cell => true
  | some .free => true
  | _ => false
def visB (sc : Scope) (x : Str) : Bool := visK (sc.names.lookup x) && !(x == ("__debug__" : Str)) && !(x == ("__classdict__" : Str))
def glK : Option NameKind → Bool
  | some .globalImplicit => true
  | _ => false
def glB (sc : Scope) (x : Str) : Bool := glK (sc.names.lookup x) && !(x == ("__debug__" : Str)) && !(x == ("__name__" : Str))
def bltB (C : Ck) (sc : Scope) (x : Str) : Bool := glB sc x && C.blts.contains x
mutual
/-- no conditional expression where a test is asked -/
def noIfe : E → Bool
  | .ife .. => false
  | .inot a => noIfe a
  | .bool _ es => noIfes es
  | _ => true
def noIfes : Es → Bool
  | .nil => true
  | .cons e r => noIfe e && noIfes r
end
/-- the targets of a for or a comprehension -/
def locK : Option NameKind → Bool
  | some .local => true
  | some .cell => true
  | _ => false
def chT1 (N : List Str) (sc : Scope) (i : Nat) : Expr → Bool
  | .Name x _ => decide (N[i]? = some x) && locK (sc.names.lookup x)
  | _ => false
def chT (N : List Str) (sc : Scope) : List Nat → Expr → Bool
  | [i], tg => chT1 N sc i tg
  | [i, j], .Tuple [a, b] _ _ => chT1 N sc i a && chT1 N sc j b && decide (i ≠ j)
  | _, _ => false
def ownOf (N : List Str) (ts : List Nat) : List (Str × Nat) := ts.map fun i => (N.getD i "", i)
def isTupE : Expr → Bool
  | .Tuple _ _ _ => true
  | _ => false
def zipOk : It → Expr → Bool
  | .zip _ _, tg => isTupE tg
  | _, _ => true
section
variable (C : Ck)
mutual
def chE : E → Scope → Expr → Bool
  | .var i, sc, a => match a with
    | .Name x _ => decide (C.N[i]? = some x) && visB sc x
    | _ => false
  | .ci i, _, a => match a with
    | .Constant (.int j) _ _ => decide (i = j)
    | _ => false
  | .cs i, _, a => match a with
    | .Constant (.str j) _ _ => decide (i = j)
    | _ => false
  | .cb i, _, a => match a with
    | .Constant (.bool j) _ _ => decide (i = j)
    | _ => false
  | .cn, _, a => match a with
    | .Constant .none _ _ => true
    | _ => false
  | .gc g, sc, a => match a with
    | .Name x _ => decide (x = gcName g) && glB sc x && C.gcs.contains g
    | _ => false
  | .bin op p q, sc, a => match a with
    | .BinOp l o r _ => opB op o && chE p sc l && chE q sc r
    | _ => false
  | .neg p, sc, a => match a with
    | .UnaryOp .USub l _ => chE p sc l
    | _ => false
  | .inot p, sc, a => match a with
    | .UnaryOp .Not l _ => chE p sc l
    | _ => false
  | .cmp op p q, sc, a => match a with
    | .Compare l [o] [r] _ => cmB op o && !behindInMarks o r && chE p sc l && chE q sc r
    | _ => false
  | .chain op oq p q u, sc, a => match a with
    | .Compare l [o, o2] [m, r] _ => cmB op o && cmB oq o2 && !behindInMarks o2 r && chE p sc l && chE q sc m && chE u sc r
    | _ => false
  | .isN p, sc, a => match a with
    | .Compare l [.Is] [.Constant .none _ _] _ => chE p sc l
    | _ => false
  | .notN p, sc, a => match a with
    | .Compare l [.IsNot] [.Constant .none _ _] _ => chE p sc l
    | _ => false
  | .isB v p, sc, a => match a with
    | .Compare l [.Is] [.Constant (.bool u) _ _] _ => decide (v = u) && chE p sc l
    | _ => false
  | .notB v p, sc, a => match a with
    | .Compare l [.IsNot] [.Constant (.bool u) _ _] _ => decide (v = u) && chE p sc l
    | _ => false
  | .bool an es, sc, a => match a with
    | .BoolOp op vs _ => (match op with | .And => an | .Or => !an) && chEs es sc vs
    | _ => false
  | .ife c p q, sc, a => match a with
    | .IfExp t l r _ => noIfe c && chE c sc t && chE p sc l && chE q sc r
    | _ => false
  | .ix p q, sc, a => match a with
    | .Subscript l r _ => chE p sc l && chE q sc r
    | _ => false
  | .slc p lo hi, sc, a => match a with
    | .Subscript l (.Slice x y none _) _ => chE p sc l && chO lo sc x && chO hi sc y
    | _ => false
  | .tup es, sc, a => match a with
    | .Tuple vs _ _ => chEs es sc vs
    | _ => false
  | .lst es, sc, a => match a with
    | .List vs _ => chEs es sc vs
    | _ => false
  | .call f es, sc, a => match a with
    | .Call (.Name x _) vs [] _ => decide (x = fnName C.ln f) && glB sc x && C.fns.contains f && !vs.isEmpty && chEs es sc vs
    | _ => false
  | .bi b es, sc, a => match a with
    | .Call (.Name x _) vs [] _ => decide (x = biName b) && bltB C sc x && !vs.isEmpty && chEs es sc vs
    | _ => false
  | .mth m o es, sc, a => match a with
    | .Call (.Attribute v n ap) vs [] cp => decide (n = mtName m) && decide (vs.length < 20) && (ap.endLine == cp.line) && !vs.isEmpty && chE o sc v && chEs es sc vs
    | _ => false
  | .lc ts it c e, sc, a => match a with
    | .ListComp elt [⟨tg, iter, ifs, k⟩] scope _ => decide (k = 0) && chI it sc iter && zipOk it tg && chT C.N scope ts tg && blkC C.N sc scope (ownOf C.N ts) && chC c (relS scope sc) ifs && chE e (relS scope sc) elt
    | _ => false
  | .isi p t, sc, a => match a with
    | .Call (.Name x _) [v, .Name y _] [] _ => decide (x = ("isinstance" : Str)) && bltB C sc x && decide (y = tyName t) && bltB C sc y && chE p sc v
    | _ => false
  | .srtSet p, sc, a => match a with
    | .Call (.Name x _) [.Call (.Name y _) [v] [] _] [] _ => decide (x = ("sorted" : Str)) && bltB C sc x && decide (y = ("set" : Str)) && bltB C sc y && chE p sc v
    | _ => false
  | .lenSet p, sc, a => match a with
    | .Call (.Name x _) [.Call (.Name y _) [v] [] _] [] _ => decide (x = ("len" : Str)) && bltB C sc x && decide (y = ("set" : Str)) && bltB C sc y && chE p sc v
    | _ => false
  | .lstRg lo hi _, sc, a => match a with
    | .Call (.Name x _) [.Call (.Name y _) vs [] _] [] _ => decide (x = ("list" : Str)) && bltB C sc x && decide (y = ("range" : Str)) && bltB C sc y && (match vs with
      | [v] => (match lo with | .some (.ci 0) => true | _ => false) && chO hi sc (some v)
      | [u, v] => chO lo sc (some u) && chO hi sc (some v)
      | _ => false)
    | _ => false
  | .lstRg3 p q r, sc, a => match a with
    | .Call (.Name x _) [.Call (.Name y _) [u, v, t] [] _] [] _ => decide (x = ("list" : Str)) && bltB C sc x && decide (y = ("range" : Str)) && bltB C sc y && chE p sc u && chE q sc v && chE r sc t
    | _ => false
def chEs : Es → Scope → List Expr → Bool
  | .nil, _, as => as.isEmpty
  | .cons e r, sc, as => match as with
    | a :: as => chE e sc a && chEs r sc as
    | [] => false
def chO : O → Scope → Option Expr → Bool
  | .none, _, a => a.isNone
  | .some e, sc, a => match a with
    | some a => chE e sc a
    | none => false
def chC : O → Scope → List Expr → Bool
  | .none, _, as => as.isEmpty
  | .some e, sc, as => match as with
    | [a] => noIfe e && chE e sc a
    | _ => false
def chI : It → Scope → Expr → Bool
  | .list e, sc, a => chE e sc a
  | .tup e, sc, a => chE e sc a
  | .str e, sc, a => chE e sc a
  | .rg1 p, sc, a => match a with
    | .Call (.Name x _) [v] [] _ => decide (x = ("range" : Str)) && bltB C sc x && chE p sc v
    | _ => false
  | .rg2 p q, sc, a => match a with
    | .Call (.Name x _) [v, u] [] _ => decide (x = ("range" : Str)) && bltB C sc x && chE p sc v && chE q sc u
    | _ => false
  | .rg3 p q r, sc, a => match a with
    | .Call (.Name x _) [v, u, t] [] _ => decide (x = ("range" : Str)) && bltB C sc x && chE p sc v && chE q sc u && chE r sc t
    | _ => false
  | .zip p q, sc, a => match a with
    | .Call (.Name x _) [v, u] [] _ => decide (x = ("zip" : Str)) && bltB C sc x && chE p sc v && chE q sc u
    | _ => false
end
/-! statements -/
def isFresh : E → Bool
  | .lst _ => true
  | .lc _ _ _ _ => true
  | .lstRg _ _ _ => true
  | .bin .mul (.lst _) _ => true
  | _ => false
/-- how a name is stored: beside a comprehension on its line, or plainly -/
def swOk (sc : Scope) (x : Str) (px : Pos) : Expr → Bool
  | .ListComp _ _ scope pos => match sc.names.lookup x with
    | some .cell => true
    | some .local => (px.line == pos.line) && !(scope.names.any fun (n, k) => n == x && (k == .local || k == .cell))
    | _ => false
  | .SetComp .. => false
  | .DictComp .. => false
  | _ => true
def noCompE : Expr → Bool
  | .ListComp .. => false
  | .SetComp .. => false
  | .DictComp .. => false
  | _ => true
def nmB (N : List Str) (sc : Scope) (i : Nat) (x : Str) : Bool := decide (N[i]? = some x) && locK (sc.names.lookup x)
/-- a slot's name read -/
def nvB (N : List Str) (sc : Scope) (i : Nat) (x : Str) : Bool := nmB N sc i x && visB sc x
def isLocal (sc : Scope) (x : Str) : Bool := match sc.names.lookup x with
  | some .local => true
  | _ => false
/-- two plain names stored from a written pair -/
def parB (sc : Scope) (x y : Str) (px py : Pos) (a b : Expr) : Bool := isLocal sc x && isLocal sc y && !(x == y) && (py.line == px.line) && !(foldedForSure 8 a && foldedForSure 8 b) && !(constantsAlone 8 a && constantsAlone 8 b)
def notStar : Expr → Bool
  | .Starred .. => false
  | _ => true
/-- a tuple's names stored one by one: not a written pair, or a name of it is a cell -/
def plainT (sc : Scope) (tg v : Expr) : Bool := match v with
  | .Tuple _ _ _ => (match tg with
    | .Tuple [.Name x _, .Name y _] _ _ => !(isLocal sc x && isLocal sc y)
    | _ => false)
  | _ => true
mutual
def chS : S → Scope → Stmt → Bool
  | .asg _ i e, sc, st => match st with
    | .Assign [.Name x px] v _ => nmB C.N sc i x && swOk sc x px v && chE C e sc v
    | _ => false
  | .own i e, sc, st => match st with
    | .Assign [.Name x px] v _ => nmB C.N sc i x && swOk sc x px v && isFresh e && chE C e sc v
    | _ => false
  | .asgT ts e, sc, st => match st with
    | .Assign [tg] v _ => isTupE tg && chT C.N sc ts tg && plainT sc tg v && noCompE v && chE C e sc v
    | _ => false
  | .par i j p q, sc, st => match st with
    | .Assign [.Tuple [.Name x px, .Name y py] _ _] (.Tuple [a, b] _ _) _ => nmB C.N sc i x && nmB C.N sc j y && decide (i ≠ j) && parB sc x y px py a b && chE C p sc a && chE C q sc b
    | _ => false
  | .expr e, sc, st => match st with
    | .Expr v _ => noCompE v && chE C e sc v
    | _ => false
  | .app i e, sc, st => match st with
    | .Expr (.Call (.Attribute (.Name x _) n ap) [v] [] cp) _ => nvB C.N sc i x && decide (n = ("append" : Str)) && (ap.endLine == cp.line) && chE C e sc v
    | _ => false
  | .setix i k e, sc, st => match st with
    | .Assign [.Subscript (.Name x _) u _] v _ => nvB C.N sc i x && noCompE v && chE C k sc u && chE C e sc v
    | _ => false
  | .augix i k e, sc, st => match st with
    | .AugAssign (.Subscript (.Name x _) u _) .Add v _ => nvB C.N sc i x && chE C k sc u && chE C e sc v
    | _ => false
  | .iadd i e, sc, st => match st with
    | .AugAssign (.Name x _) .Add v _ => nvB C.N sc i x && chE C e sc v
    | _ => false
  | .rem i e, sc, st => match st with
    | .Expr (.Call (.Attribute (.Name x _) n ap) [v] [] cp) _ => nvB C.N sc i x && decide (n = ("remove" : Str)) && (ap.endLine == cp.line) && chE C e sc v
    | _ => false
  | .ret e, sc, st => match st with
    | .Return (some v) _ => chE C e sc v
    | _ => false
  | .ifs c a b, sc, st => match st with
    | .If t p q _ => noIfe c && chE C c sc t && chSs a sc p && chSs b sc q
    | _ => false
  | .fors ts it b, sc, st => match st with
    | .For tg iter p [] _ => chI C it sc iter && zipOk it tg && chT C.N sc ts tg && chSs b sc p
    | _ => false
  | .whil c b, sc, st => match st with
    | .While t p [] _ => noIfe c && chE C c sc t && chSs b sc p
    | _ => false
  | .raise x, sc, st => match st with
    | .Raise (some (.Call (.Name n _) [.Constant (.str _) _ _] [] _)) none _ => decide (n = exName x) && glB sc n && C.exs.contains x
    | _ => false
  | .shut _, _, _ => false
def chSs : Ss → Scope → List Stmt → Bool
  | .nil, _, sts => sts.isEmpty
  | .cons s r, sc, sts => match s with
    | .shut _ => chSs r sc sts
    | _ => match sts with
      | st :: sts => chS s sc st && chSs r sc sts
      | [] => false
end
end
end Sk
set_option Elab.async false
set_option linter.all false
set_option maxRecDepth 100000
set_option maxHeartbeats 4000000
namespace Sk
open PySem L2

/-- a def's promise, by data -/
def toSp (cl : Exn → Value) (n : Nat) (sp : Spec) : Sp := fun vs H Q X => ∃ (R : Rg) (B : Hp) (ds : List D) (Qd : D → Prop) (Xd : Exn → Prop), Gd R B H ∧ RVs R B vs ds ∧ ds.length = n ∧
  sp ds Qd Xd ∧ (∀ v d B' H', Step R B H B' H' → RV R B' v d → Qd d → Q v H') ∧ (∀ x B' H', Step R B H B' H' → Xd x → X (cl x) none H')

structure FnGood (P : Program) (w : World) (K : PySem.W.Frag) (mg : Str → Option Value) (base : Heap) (cl : Exn → Value) (k : Nat) (nm : Str) (sp : Spec) : Prop where
  ok : ∃ (a : Addr) (fd : FuncData) (ps : List Str), mg nm = some (.ref a) ∧ PySem.W.keepIn K (.ref a) = true ∧ Binds K fd ps [] ∧ FnOk P w K mg base (L2.CX P w) k a fd ps (toSp cl ps.length sp) ∧ ∀ ds Q X, sp ds Q X → ds.length = ps.length

section
variable {P : Program} {w : World} {K : PySem.W.Frag} {mg : Str → Option Value} {base : Heap} {T : Fn → Spec} {cl : Exn → Value} {k : Nat} {C : Ck} {W : WX} {sc : Scope} {F : Cx → Prop}

structure ExG (K : PySem.W.Frag) (mg : Str → Option Value) (nm : Str) (c : Value) : Prop where
  ok : ∃ Ca : Addr, c = .ref Ca ∧ mg nm = some (.ref Ca) ∧ PySem.W.excIn K Ca [.type "ValueError", .type "Exception", .type "BaseException", .type "object"] "ValueError.__new__" = true ∧ PySem.W.keepIn K (.ref Ca) = true ∧
    PySem.W.subIn K (.ref Ca) (.type "BaseException") = some true ∧ PySem.W.typeIn K (.ref Ca) = some (.type "type")
/-- what the top holds -/
structure Tp (P : Program) (w : World) (K : PySem.W.Frag) (mg : Str → Option Value) (base : Heap) (T : Fn → Spec) (cl : Exn → Value) (k : Nat) (C : Ck) : Prop where
  nd : C.N.Nodup
  blt : ∀ x, C.blts.contains x = true → mg x = none
  gcs : ∀ g, C.gcs.contains g = true → ∃ u, mg (gcName g) = some u ∧ RelV (gcV g) u
  fns : ∀ f, C.fns.contains f = true → FnGood P w K mg base cl k (fnName C.ln f) (T f)
  exs : ∀ x, C.exs.contains x = true → ExG K mg (exName x) (cl x)
/-- a family of places in which one text is read -/
structure Fam (P : Program) (w : World) (K : PySem.W.Frag) (mg : Str → Option Value) (base : Heap) (k : Nat) (C : Ck) (W : WX) (sc : Scope) (F : Cx → Prop) : Prop where
  pr : ∀ X, F X → X.prog = P
  wo : ∀ X, F X → X.w = w
  kk : ∀ X, F X → X.K = K
  mm : ∀ X, F X → X.mg = mg
  ba : ∀ X, F X → X.base = base
  nn : ∀ X, F X → X.N = C.N
  ss : ∀ X, F X → X.env.scope = sc
  cm : ∀ X, F X → X.calm = true
  ro : ∀ X, F X → Room k X.A
  tk : ∀ X, F X → Takes X W

def RdE (T : Fn → Spec) (cl : Exn → Value) (W : WX) (t : TE) (e : E) : Prop := ∀ (R : Rg) (B : Hp) (σ : L2.St) (H : Hp) (G : Ev) (Q : VK) (Qd : D → Prop) (Xd : Exn → Prop), Gd R B H → RepE R B σ G → wpE T e G Qd Xd →
  (∀ v d B' H', Step R B H B' H' → RV R B' v d → Qd d → Q v H') → (∀ x B' H', Step R B H B' H' → Xd x → W (cl x) none σ H') → t σ H Q
def RdT (T : Fn → Spec) (cl : Exn → Value) (W : WX) (t : TT) (e : E) : Prop := ∀ (R : Rg) (B : Hp) (σ : L2.St) (H : Hp) (G : Ev) (Q : Bool → Hp → Prop) (Qd : Bool → Prop) (Xd : Exn → Prop), Gd R B H → RepE R B σ G → wpE T e G (asBool Qd) Xd →
  (∀ b B' H', Step R B H B' H' → Qd b → Q b H') → (∀ x B' H', Step R B H B' H' → Xd x → W (cl x) none σ H') → t σ H Q
def RdA (T : Fn → Spec) (cl : Exn → Value) (W : WX) (t : TA) (e : Es) : Prop := ∀ (R : Rg) (B : Hp) (σ : L2.St) (H : Hp) (G : Ev) (Q : List V → Hp → Prop) (Qd : List D → Prop) (Xd : Exn → Prop), Gd R B H → RepE R B σ G → wpEs T e G Qd Xd →
  (∀ v d B' H', Step R B H B' H' → RVs R B' v d → Qd d → Q v H') → (∀ x B' H', Step R B H B' H' → Xd x → W (cl x) none σ H') → t σ H Q
def RdO (T : Fn → Spec) (cl : Exn → Value) (W : WX) (t : TO) (e : O) : Prop := ∀ (R : Rg) (B : Hp) (σ : L2.St) (H : Hp) (G : Ev) (Q : Option Int → Hp → Prop) (Qd : Option Int → Prop) (Xd : Exn → Prop), Gd R B H → RepE R B σ G → wpO T e G Qd Xd →
  (∀ d B' H', Step R B H B' H' → Qd d → Q d H') → (∀ x B' H', Step R B H B' H' → Xd x → W (cl x) none σ H') → t σ H Q
def RdC (T : Fn → Spec) (cl : Exn → Value) (W : WX) (t : TT) (e : O) : Prop := ∀ (R : Rg) (B : Hp) (σ : L2.St) (H : Hp) (G : Ev) (Q : Bool → Hp → Prop) (Qd : Bool → Prop) (Xd : Exn → Prop), Gd R B H → RepE R B σ G → wpC T e G Qd Xd →
  (∀ b B' H', Step R B H B' H' → Qd b → Q b H') → (∀ x B' H', Step R B H B' H' → Xd x → W (cl x) none σ H') → t σ H Q
/-- a new list: at p, its items data of B', p itself not -/
def RdF (T : Fn → Spec) (cl : Exn → Value) (W : WX) (t : TE) (e : E) : Prop := ∀ (R : Rg) (B : Hp) (σ : L2.St) (H : Hp) (G : Ev) (Q : VK) (Qd : D → Prop) (Xd : Exn → Prop), Gd R B H → RepE R B σ G → wpE T e G Qd Xd →
  (∀ p vs ds B' H', Step R B H B' H' → H p = none → B' p = none → H' p = some (.lst vs) → RpAll B' vs ds → Qd (.list ds) → Q (.ref p) H') → (∀ x B' H', Step R B H B' H' → Xd x → W (cl x) none σ H') → t σ H Q
def SndE (T : Fn → Spec) (cl : Exn → Value) (W : WX) (F : Cx → Prop) (a : Expr) (e : E) : Prop := ∃ t, (∀ X, F X → PE X a t) ∧ RdE T cl W t e
def SndT (T : Fn → Spec) (cl : Exn → Value) (W : WX) (F : Cx → Prop) (a : Expr) (e : E) : Prop := ∃ t, (∀ X, F X → PT X a t) ∧ RdT T cl W t e
def SndF (T : Fn → Spec) (cl : Exn → Value) (W : WX) (F : Cx → Prop) (a : Expr) (e : E) : Prop := ∃ t, (∀ X, F X → PE X a t) ∧ RdF T cl W t e
def SndA (T : Fn → Spec) (cl : Exn → Value) (W : WX) (F : Cx → Prop) (a : List Expr) (e : Es) : Prop := ∃ t, (∀ X, F X → PA X a t) ∧ RdA T cl W t e
def SndO (T : Fn → Spec) (cl : Exn → Value) (W : WX) (F : Cx → Prop) (a : Option Expr) (e : O) : Prop := ∃ t, (∀ X, F X → PO X a t) ∧ RdO T cl W t e
def SndC (T : Fn → Spec) (cl : Exn → Value) (W : WX) (F : Cx → Prop) (a : List Expr) (e : O) : Prop := ∃ t, (∀ X, F X → PTs X a t) ∧ RdC T cl W t e

theorem must_some {o : Option D} {Q : D → Prop} (h : must o Q) : ∃ d, o = some d ∧ Q d := by
  cases o with
  | none => exact h.elim
  | some d => exact ⟨d, rfl, h⟩
theorem asInt_some {x : D} {Q : Int → Prop} (h : asInt Q x) : ∃ i, x = .int i ∧ Q i := by
  cases x <;> first | exact h.elim | exact ⟨_, rfl, h⟩
theorem asBool_some {x : D} {Q : Bool → Prop} (h : asBool Q x) : ∃ i, x = .bool i ∧ Q i := by
  cases x <;> first | exact h.elim | exact ⟨_, rfl, h⟩
theorem asList_some {x : D} {Q : List D → Prop} (h : asList Q x) : ∃ i, x = .list i ∧ Q i := by
  cases x <;> first | exact h.elim | exact ⟨_, rfl, h⟩
theorem asTup_some {x : D} {Q : List D → Prop} (h : asTup Q x) : ∃ i, x = .tuple i ∧ Q i := by
  cases x <;> first | exact h.elim | exact ⟨_, rfl, h⟩
theorem lim_line : lim ≤ sizeLine := by decide
theorem lim_lt : lim < sizeLine := by decide

/-- a new list is data when nothing owns it -/
theorem RdF.toE {t : TE} {e : E} (h : RdF T cl W t e) : RdE T cl W t e := by
  intro R B σ H G Q Qd Xd g r hw hq hx
  refine h R B σ H G Q Qd Xd g r hw (fun p vs ds B' H' st hp hB hH ha q => ?_) hx
  have hs : Step R B H (upd B' p (.lst vs)) H' := by
    have nb : ∀ b o, B' b = some o → b ≠ p := fun b o e => ne_of_none e hB
    refine ⟨⟨fun b o e => ?_, ?_⟩, fun b o e => ?_, st.hb, fun b o e => ?_⟩
    · by_cases z : b = p
      · subst z; rw [upd_same] at e; cases e; exact hH
      · rw [upd_ne z] at e; exact st.gd.ex b o e
    · have d := st.gd.dr
      match R, d with
      | none, _ => trivial
      | some (a, n), d =>
        obtain ⟨h0, h1, h2, c, ns, h5, h6, h3, h4⟩ := d
        have na : a ≠ p := fun e => by
          subst e
          have : ∃ o, H a = some o := g.there (R := some (a, n)) (.inl rfl)
          obtain ⟨o, e⟩ := this
          rw [hp] at e; cases e
        have nn : n ≠ p := fun e => by
          subst e
          have : ∃ o, H n = some o := g.there (R := some (a, n)) (.inr rfl)
          obtain ⟨o, e⟩ := this
          rw [hp] at e; cases e
        exact ⟨h0, by rw [upd_ne na]; exact h1, by rw [upd_ne nn]; exact h2, c, ns, h5, h6, h3, h4⟩
    · have := st.sb b o e
      rw [upd_ne (nb b o this)]; exact this
    · by_cases z : b = p
      · subst z; exact .inr hp
      · rw [upd_ne z] at e; exact st.nw b o e
  refine hq _ _ (upd B' p (.lst vs)) H' hs (.inl (.lst upd_same (RpAll.mono (fun b o e => ?_) ha))) q
  rw [upd_ne (ne_of_none e hB)]; exact e

/-! names and constants -/
theorem snd_var (fm : Fam P w K mg base k C W sc F) {i : Nat} {x : Str} {pos : Pos} (h1 : C.N[i]? = some x) (h2 : visB sc x = true) : SndE T cl W F (.Name x pos) (.var i) := by
  simp only [visB, Bool.and_eq_true, Bool.not_eq_true'] at h2
  refine ⟨tVar i, fun X hX => pe_var (by rw [fm.nn X hX]; exact h1) ?_ h2.1.2 h2.2, ?_⟩
  · unfold Vis
    rw [fm.ss X hX]
    have := h2.1.1
    revert this
    cases sc.names.lookup x with
    | none => simp [visK]
    | some y => cases y <;> simp [visK]
  · intro R B σ H G Q Qd Xd g r hw hq hx
    have ri := r.2 i
    simp only [wpE] at hw
    revert ri hw
    cases getS G i with
    | no => intro hw _; exact hw.elim
    | d x => intro hw ⟨v, e, rv⟩; exact ⟨v, e, hq v x B H (Step.refl g) rv hw⟩
    | own xs => intro hw ⟨v, e, rv⟩; exact ⟨v, e, hq v _ B H (Step.refl g) (.inl rv) hw⟩
theorem snd_const {a : Expr} {e : E} {v : V} {d : D} (hp : ∀ X, PE X a (tC v)) (hr : ∀ B, Rp B v d) (hw : ∀ G Q X, wpE T e G Q X → Q d) : SndE T cl W F a e :=
  ⟨tC v, fun X _ => hp X, fun R B σ H G Q Qd Xd g r h hq hx => hq v d B H (Step.refl g) (.inl (hr B)) (hw _ _ _ h)⟩
theorem gl_of (fm : Fam P w K mg base k C W sc F) {X : Cx} (hX : F X) {x : Str} (h : glB sc x = true) : Gl X x ∧ (x == ("__debug__" : Str)) = false ∧ x ≠ "__name__" := by
  simp only [glB, Bool.and_eq_true, Bool.not_eq_true'] at h
  refine ⟨?_, h.1.2, fun e => ?_⟩
  · unfold Gl Env.kindOf
    rw [fm.ss X hX]
    have := h.1.1
    revert this
    cases sc.names.lookup x with
    | none => simp [glK]
    | some y => cases y <;> simp [glK]
  · have := h.2
    rw [e] at this
    simp at this
theorem snd_gc (tp : Tp P w K mg base T cl k C) (fm : Fam P w K mg base k C W sc F) {g : Gc} {x : Str} {pos : Pos} (h1 : x = gcName g) (h2 : glB sc x = true) (h3 : C.gcs.contains g = true) : SndE T cl W F (.Name x pos) (.gc g) := by
  obtain ⟨u, hu, ru⟩ := tp.gcs g h3
  subst h1
  refine ⟨tC (gcV g), fun X hX => pe_glob (gl_of fm hX h2).1 (by rw [fm.mm X hX]; exact hu) ru (gl_of fm hX h2).2.1, fun R B σ H G Q Qd Xd gd r h hq hx => ?_⟩
  have h : Qd (gcv g) := h
  refine hq _ _ B H (Step.refl gd) (.inl ?_) h
  cases g <;> first | exact .int _ | exact .str _

/-! operators -/
/-- an operator by values that gives data -/
def OpD (r : R2) (f : D → D → Option D) : Prop := ∀ (R : Rg) (B H : Hp) (x y : V) (dx dy dz : D) (Q : VK), Gd R B H → RV R B x dx → RV R B y dy → f dx dy = some dz →
  (∀ v B' H', Step R B H B' H' → RV R B' v dz → Q v H') → r x y H Q
theorem rd_op {r : R2} {f : D → D → Option D} {ta tb : TE} {p q e : E} (hr : OpD r f) (ha : RdE T cl W ta p) (hb : RdE T cl W tb q) (he : ∀ G Q X, wpE T e G Q X → wpE T p G (fun x => wpE T q G (fun y => must (f x y) Q) X) X) :
    RdE T cl W (tOp r ta tb) e := by
  intro R B σ H G Q Qd Xd g rp hw hq hx
  refine ha R B σ H G _ _ Xd g rp (he _ _ _ hw) (fun v d B1 H1 s1 r1 w1 => ?_) hx
  refine hb R B1 σ H1 G _ _ Xd s1.gd (rp.mono s1.sb) w1 (fun u d2 B2 H2 s2 r2 w2 => ?_) (fun x B' H' s' => hx x B' H' (s1.trans s'))
  obtain ⟨z, e1, w3⟩ := must_some w2
  exact hr R B2 H2 v u d d2 z Q s2.gd (r1.mono s2.sb) r2 e1 fun v B3 H3 s3 r3 => hq v z B3 H3 ((s1.trans s2).trans s3) r3 w3
theorem OpD.or {r r' : R2} {f : D → D → Option D} {c : D → D → Bool} (h : ∀ R B H x y dx dy dz Q, c dx dy = true → Gd R B H → RV R B x dx → RV R B y dy → f dx dy = some dz → (∀ v B' H', Step R B H B' H' → RV R B' v dz → Q v H') → r x y H Q)
    (h' : ∀ R B H x y dx dy dz Q, c dx dy = false → Gd R B H → RV R B x dx → RV R B y dy → f dx dy = some dz → (∀ v B' H', Step R B H B' H' → RV R B' v dz → Q v H') → r' x y H Q) : OpD (fun x y H Q => r x y H Q ∨ r' x y H Q) f := by
  intro R B H x y dx dy dz Q g r1 r2 e q
  cases hc : c dx dy with
  | true => exact .inl (h R B H x y dx dy dz Q hc g r1 r2 e q)
  | false => exact .inr (h' R B H x y dx dy dz Q hc g r1 r2 e q)
theorem stay {R : Rg} {B H : Hp} {Q : VK} {v : V} {d : D} (g : Gd R B H) (r : Rp B v d) (q : ∀ v B' H', Step R B H B' H' → RV R B' v d → Q v H') : Q v H := q v B H (Step.refl g) (.inl r)
theorem newL {R : Rg} {B H : Hp} {Q : VK} {p : Addr} {vs : List V} {ds : List D} (g : Gd R B H) (hp : H p = none) (r : RpAll B vs ds) (q : ∀ v B' H', Step R B H B' H' → RV R B' v (.list ds) → Q v H') : Q (.ref p) (upd H p (.lst vs)) :=
  q (.ref p) _ _ (Step.new g hp) (.inl (.lst upd_same (RpAll.mono (Step.new (o := .lst vs) g hp).sb r)))
theorem newT {R : Rg} {B H : Hp} {Q : VK} {p : Addr} {vs : List V} {ds : List D} (g : Gd R B H) (hp : H p = none) (r : RpAll B vs ds) (q : ∀ v B' H', Step R B H B' H' → RV R B' v (.tuple ds) → Q v H') : Q (.ref p) (upd H p (.tup vs)) :=
  q (.ref p) _ _ (Step.new g hp) (.inl (.tup upd_same (RpAll.mono (Step.new (o := .tup vs) g hp).sb r)))

def isL : D → Bool
  | .list _ => true
  | _ => false
def isS : D → Bool
  | .str _ => true
  | _ => false
theorem opd_add : OpD (fun x y H Q => rCat x y H Q ∨ (fun x y H Q => (∃ i j, x = .str i ∧ y = .str j ∧ i.length + j.length ≤ sizeLine ∧ Q (.str (i ++ j)) H) ∨ rI0 (fun i j => .int (i + j)) x y H Q) x y H Q) (bop .add) := by
  intro R B H x y dx dy dz Q g r1 r2 e q
  match dx, dy, r1, r2, e with
  | .int i, .int j, r1, r2, e =>
    cases e
    exact .inr (.inr ⟨i, j, r1.int, r2.int, stay g (.int _) q⟩)
  | .list i, .list j, r1, r2, e =>
    obtain ⟨a, xs, rfl, h1, h2⟩ := r1.list
    obtain ⟨b, ys, rfl, h3, h4⟩ := r2.list
    simp only [bop] at e
    split at e
    · rename_i hl
      cases e
      exact .inl ⟨a, b, xs, ys, rfl, rfl, g.ex _ _ h1, g.ex _ _ h3, by rw [h2.len, h4.len]; exact Nat.le_trans hl lim_line, fun p hp => newL g hp (h2.append h4) q⟩
    · cases e
  | .str i, .str j, r1, r2, e =>
    simp only [bop] at e
    split at e
    · rename_i hl
      cases e
      exact .inr (.inl ⟨i, j, r1.str, r2.str, Nat.le_trans hl lim_line, stay g (.str _) q⟩)
    · cases e
theorem opd_sub : OpD (rI0 fun i j => .int (i - j)) (bop .sub) := by
  intro R B H x y dx dy dz Q g r1 r2 e q
  match dx, dy, r1, r2, e with
  | .int i, .int j, r1, r2, e =>
    cases e
    exact ⟨i, j, r1.int, r2.int, stay g (.int _) q⟩
theorem opd_mul : OpD (fun x y H Q => rRep x y H Q ∨ rI CMul (fun i j => .int (i * j)) x y H Q) (bop .mul) := by
  intro R B H x y dx dy dz Q g r1 r2 e q
  match dx, dy, r1, r2, e with
  | .int i, .int j, r1, r2, e =>
    simp only [bop] at e
    split at e
    · rename_i hl
      cases e
      refine .inr ⟨i, j, r1.int, r2.int, ?_, stay g (.int _) q⟩
      simp only [small, Bool.or_eq_true, Bool.and_eq_true, decide_eq_true_eq] at hl
      exact hl
    · cases e
  | .list i, .int j, r1, r2, e =>
    obtain ⟨a, xs, rfl, h1, h2⟩ := r1.list
    simp only [bop] at e
    split at e
    · rename_i hl
      cases e
      refine .inl ⟨a, j, xs, rfl, r2.int, g.ex _ _ h1, by omega, by omega, ?_, fun p hp => newL g hp (h2.rep _) q⟩
      rw [h2.len]
      have h5 : i.length * j.toNat ≤ 100 * 1000 := Nat.mul_le_mul hl.2.2 (by omega)
      exact Nat.le_trans h5 lim_line
    · cases e
theorem opd_fdiv : OpD (rI CDiv fun i j => .int (i / j)) (bop .fdiv) := by
  intro R B H x y dx dy dz Q g r1 r2 e q
  match dx, dy, r1, r2, e with
  | .int i, .int j, r1, r2, e =>
    simp only [bop] at e
    split at e
    · rename_i hl
      cases e
      exact ⟨i, j, r1.int, r2.int, hl, stay g (.int _) q⟩
    · cases e
theorem opd_mod : OpD (rI (fun _ j => 0 < j) fun i j => .int (i % j)) (bop .mod) := by
  intro R B H x y dx dy dz Q g r1 r2 e q
  match dx, dy, r1, r2, e with
  | .int i, .int j, r1, r2, e =>
    simp only [bop] at e
    split at e
    · rename_i hl
      cases e
      exact ⟨i, j, r1.int, r2.int, hl, stay g (.int _) q⟩
    · cases e
theorem snd_bin {op : Bop} {o : Operator} {a b : Expr} {p q : E} {pos : Pos} (h : opB op o = true) (ha : SndE T cl W F a p) (hb : SndE T cl W F b q) : SndE T cl W F (.BinOp a o b pos) (.bin op p q) := by
  obtain ⟨ta, pa, ra⟩ := ha
  obtain ⟨tb, pb, rb⟩ := hb
  cases op <;> cases o <;> first | (simp [opB] at h; done) | skip
  · exact ⟨_, fun X hX => pe_op (op_cat.or (op_add_str.or op_add)) (pa X hX) (pb X hX), rd_op opd_add ra rb fun _ _ _ h => h⟩
  · exact ⟨_, fun X hX => pe_op op_sub (pa X hX) (pb X hX), rd_op opd_sub ra rb fun _ _ _ h => h⟩
  · exact ⟨_, fun X hX => pe_op (op_rep.or op_mul) (pa X hX) (pb X hX), rd_op opd_mul ra rb fun _ _ _ h => h⟩
  · exact ⟨_, fun X hX => pe_op op_fdiv (pa X hX) (pb X hX), rd_op opd_fdiv ra rb fun _ _ _ h => h⟩
  · exact ⟨_, fun X hX => pe_op op_mod (pa X hX) (pb X hX), rd_op opd_mod ra rb fun _ _ _ h => h⟩
theorem snd_neg {a : Expr} {p : E} {pos : Pos} (ha : SndE T cl W F a p) : SndE T cl W F (.UnaryOp .USub a pos) (.neg p) := by
  obtain ⟨ta, pa, ra⟩ := ha
  refine ⟨_, fun X hX => pe_un un_neg (pa X hX), fun R B σ H G Q Qd Xd g rp hw hq hx => ?_⟩
  refine ra R B σ H G _ _ Xd g rp (by simpa only [wpE] using hw) (fun v d B1 H1 s1 r1 w1 => ?_) hx
  obtain ⟨i, rfl, w1⟩ := asInt_some w1
  exact ⟨i, r1.int, hq _ _ B1 H1 s1 (.inl (.int _)) w1⟩
theorem snd_notV {a : Expr} {p : E} {pos : Pos} (ha : SndE T cl W F a p) : SndE T cl W F (.UnaryOp .Not a pos) (.inot p) := by
  obtain ⟨ta, pa, ra⟩ := ha
  refine ⟨_, fun X hX => pe_not (pa X hX), fun R B σ H G Q Qd Xd g rp hw hq hx => ?_⟩
  refine ra R B σ H G _ _ Xd g rp (by simpa only [wpE] using hw) (fun v d B1 H1 s1 r1 w1 => ?_) hx
  obtain ⟨i, rfl, w1⟩ := asBool_some w1
  exact ⟨i, r1.bool, hq _ _ B1 H1 s1 (.inl (.bl _)) w1⟩
theorem snd_notT {a : Expr} {p : E} {pos : Pos} (ha : SndT T cl W F a p) : SndT T cl W F (.UnaryOp .Not a pos) (.inot p) := by
  obtain ⟨ta, pa, ra⟩ := ha
  refine ⟨_, fun X hX => pt_not (pa X hX), fun R B σ H G Q Qd Xd g rp hw hq hx => ?_⟩
  exact ra R B σ H G (fun c H1 => Q (!c) H1) (fun b => Qd (!b)) Xd g rp (by simp only [wpE] at hw; exact hw) (fun b B1 H1 s1 w1 => hq _ B1 H1 s1 w1) hx
end
end Sk
set_option Elab.async false
set_option linter.all false
set_option maxRecDepth 100000
set_option maxHeartbeats 4000000
namespace Sk
open PySem L2

theorem okD_can : ∀ (n : Nat) (d : D), okD n d = true → d.canLay0 = true ∧ d.depth ≤ n
  | _, .none, _ => ⟨rfl, Nat.zero_le _⟩
  | _, .bool _, _ => ⟨rfl, Nat.zero_le _⟩
  | _, .int _, _ => ⟨rfl, Nat.zero_le _⟩
  | n, .str s, h => ⟨by cases n <;> simpa [okD, PyData.canLay0] using h, by simp [PyData.depth]⟩
  | 0, .list _, h => by simp [okD] at h
  | 0, .tuple _, h => by simp [okD] at h
  | n + 1, .list xs, h => by
    have q := all n xs (by simpa [okD] using h)
    exact ⟨by simpa [PyData.canLay0] using q.1, by simp only [PyData.depth]; omega⟩
  | n + 1, .tuple xs, h => by
    have q := all n xs (by simpa [okD] using h)
    exact ⟨by simpa [PyData.canLay0] using q.1, by simp only [PyData.depth]; omega⟩
  | n, .dict _, h => by cases n <;> simp [okD] at h
where all (n : Nat) : ∀ xs : List D, (∀ x ∈ xs, okD n x = true) → PyData.canLayAll0 xs = true ∧ PyData.depthAll xs ≤ n
  | [], _ => ⟨rfl, Nat.zero_le _⟩
  | x :: xs, h => by
    have h1 := okD_can n x (h x (by simp))
    have h2 := all n xs (fun y hy => h y (by simp [hy]))
    exact ⟨by simp [PyData.canLayAll0, h1.1, h2.1], by simp only [PyData.depthAll]; omega⟩
theorem okD_shaped {n : Nat} (hn : n ≤ 64) {d : D} (h : okD n d = true) : SeqAt.shaped d = true := by
  obtain ⟨h1, h2⟩ := okD_can n d h
  simp only [SeqAt.shaped, h1, Bool.true_and, decide_eq_true_eq]
  omega

section
variable {P : Program} {w : World} {K : PySem.W.Frag} {mg : Str → Option Value} {base : Heap} {T : Fn → Spec} {cl : Exn → Value} {k : Nat} {C : Ck} {W : WX} {sc : Scope} {F : Cx → Prop}

/-! comparisons -/
theorem opd_cmp {f : D → D → Option D} {g : Int → Int → Bool} (h : ∀ dx dy dz, f dx dy = some dz → ∃ i j, dx = .int i ∧ dy = .int j ∧ dz = .bool (g i j)) : OpD (rI0 fun i j => .bl (g i j)) f := by
  intro R B H x y dx dy dz Q gd r1 r2 e q
  obtain ⟨i, j, rfl, rfl, rfl⟩ := h _ _ _ e
  exact ⟨i, j, r1.int, r2.int, stay gd (.bl _) q⟩
theorem opd_eq : OpD (fun x y H Q => rEq x y H Q ∨ rEqD K x y H Q) (cop .eq) := by
  intro R B H x y dx dy dz Q g r1 r2 e q
  by_cases hs : isS dx && isS dy
  · cases dx <;> cases dy <;> simp [isS] at hs
    simp only [cop, Option.some.injEq] at e
    subst e
    refine .inl ?_
    rw [r1.str, r2.str]
    refine ⟨rfl, ?_⟩
    rw [dec_str]
    exact stay g (.bl _) q
  · have e2 : (if okD 6 dx && okD 6 dy then some (PyData.bool (PyData.eqv dx dy)) else none) = some dz := by
      cases dx <;> cases dy <;> first | (simp [isS] at hs; done) | exact e
    split at e2
    · rename_i hk
      simp only [Bool.and_eq_true] at hk
      cases e2
      exact .inr ⟨dx, dy, (r1.rp (okD_tok hk.1)).dp g.ex, (r2.rp (okD_tok hk.2)).dp g.ex, okD_shaped (by omega) hk.1, okD_shaped (by omega) hk.2, stay g (.bl _) q⟩
    · cases e2
theorem opd_ne : OpD (fun x y H Q => rNe x y H Q ∨ rNeD K x y H Q) (cop .ne) := by
  intro R B H x y dx dy dz Q g r1 r2 e q
  by_cases hs : isS dx && isS dy
  · cases dx <;> cases dy <;> simp [isS] at hs
    simp only [cop, Option.some.injEq] at e
    subst e
    refine .inl ?_
    rw [r1.str, r2.str]
    refine ⟨rfl, ?_⟩
    rw [dec_str]
    exact stay g (.bl _) q
  · have e2 : (if okD 6 dx && okD 6 dy then some (PyData.bool (!PyData.eqv dx dy)) else none) = some dz := by
      cases dx <;> cases dy <;> first | (simp [isS] at hs; done) | exact e
    split at e2
    · rename_i hk
      simp only [Bool.and_eq_true] at hk
      cases e2
      exact .inr ⟨dx, dy, (r1.rp (okD_tok hk.1)).dp g.ex, (r2.rp (okD_tok hk.2)).dp g.ex, okD_shaped (by omega) hk.1, okD_shaped (by omega) hk.2, stay g (.bl _) q⟩
    · cases e2
theorem okL {ys : List D} (h : ys.all (okD 5) = true) : okD 6 (.list ys) = true := by simpa [okD] using h
theorem opd_in : OpD (fun x y H Q => (∃ (c : Nat) (z : Str), x = .str ⟨#[c]⟩ ∧ y = .str z ∧ Q (.bl (decide (c ∈ z.cps.toList))) H) ∨ rInD K x y H Q) (cop .inn) := by
  intro R B H x y dx dy dz Q g r1 r2 e q
  match dy, r2, e with
  | .list ys, r2, e =>
    have e2 : (if okD 5 dx && ys.all (okD 5) then some (PyData.bool (ys.any fun z => PyData.eqv z dx)) else none) = some dz := by
      cases dx <;> exact e
    split at e2
    · rename_i hk
      simp only [Bool.and_eq_true] at hk
      cases e2
      exact .inr ⟨dx, ys, (r1.rp (okD_tok hk.1)).dp g.ex, (r2.rp rfl).dp g.ex, okD_shaped (by omega) hk.1, okD_shaped (by omega) (okL hk.2), stay g (.bl _) q⟩
    · cases e2
  | .str z, r2, e =>
    match dx, r1, e with
    | .str u, r1, e =>
      have e : (oneSign u).map (fun c => PyData.bool (decide (c ∈ z.cps.toList))) = some dz := e
      obtain ⟨c, h1, h2⟩ := Option.map_eq_some_iff.mp e
      subst h2
      refine .inl ⟨c, z, ?_, r2.str, stay g (.bl _) q⟩
      rw [r1.str]
      unfold oneSign at h1
      split at h1
      · rename_i h3
        cases h1
        obtain ⟨⟨l⟩⟩ := u
        cases h3
        rfl
      · cases h1
theorem opd_notin : OpD (rNotInD K) (cop .notin) := by
  intro R B H x y dx dy dz Q g r1 r2 e q
  match dy, r2, e with
  | .list ys, r2, e =>
    have e2 : (if okD 5 dx && ys.all (okD 5) then some (PyData.bool (!ys.any fun z => PyData.eqv z dx)) else none) = some dz := by
      cases dx <;> exact e
    split at e2
    · rename_i hk
      simp only [Bool.and_eq_true] at hk
      cases e2
      exact ⟨dx, ys, (r1.rp (okD_tok hk.1)).dp g.ex, (r2.rp rfl).dp g.ex, okD_shaped (by omega) hk.1, okD_shaped (by omega) (okL hk.2), stay g (.bl _) q⟩
    · cases e2
/-- the rule of a comparison, for a family -/
theorem cmp_rule (fm : Fam P w K mg base k C W sc F) {op : Cop} {o : CmpOp} (h : cmB op o = true) : ∃ r, (∀ X, F X → OpR X (compareOp o) r) ∧ OpD r (cop op) := by
  cases op <;> cases o <;> first | (simp [cmB] at h; done) | skip
  · exact ⟨_, fun X _ => op_lt, opd_cmp fun dx dy dz e => by cases dx <;> cases dy <;> first | (simp [cop] at e; done) | exact ⟨_, _, rfl, rfl, by simpa [cop] using e.symm⟩⟩
  · exact ⟨_, fun X _ => op_le, opd_cmp fun dx dy dz e => by cases dx <;> cases dy <;> first | (simp [cop] at e; done) | exact ⟨_, _, rfl, rfl, by simpa [cop] using e.symm⟩⟩
  · exact ⟨_, fun X _ => op_gt, opd_cmp fun dx dy dz e => by cases dx <;> cases dy <;> first | (simp [cop] at e; done) | exact ⟨_, _, rfl, rfl, by simpa [cop] using e.symm⟩⟩
  · exact ⟨_, fun X _ => op_ge, opd_cmp fun dx dy dz e => by cases dx <;> cases dy <;> first | (simp [cop] at e; done) | exact ⟨_, _, rfl, rfl, by simpa [cop] using e.symm⟩⟩
  · exact ⟨_, fun X hX => op_eq.or (by have h := op_eqD (X := X) (fm.ro X hX).units; rw [fm.kk X hX] at h; exact h), opd_eq⟩
  · exact ⟨_, fun X hX => op_ne.or (by have h := op_neD (X := X) (fm.ro X hX).units; rw [fm.kk X hX] at h; exact h), opd_ne⟩
  · exact ⟨_, fun X hX => op_in_sign.or (by have h := op_inD (X := X) (by have := (fm.ro X hX).un; omega); rw [fm.kk X hX] at h; exact h), opd_in⟩
  · exact ⟨_, fun X hX => (by have h := op_notInD (X := X) (by have := (fm.ro X hX).un; omega); rw [fm.kk X hX] at h; exact h), opd_notin⟩
theorem RdE.test {t : TE} {e : E} (h : RdE T cl W t e) : RdT T cl W (tTest t) e := by
  intro R B σ H G Q Qd Xd g r hw hq hx
  refine h R B σ H G _ _ Xd g r hw (fun v d B' H' s rv q => ?_) hx
  obtain ⟨b, rfl, q⟩ := asBool_some q
  exact ⟨b, rv.bool, hq b B' H' s q⟩
theorem RdE.testB {t : TE} {e : E} (h : RdE T cl W t e) : RdT T cl W (tB t) e := by
  intro R B σ H G Q Qd Xd g r hw hq hx
  refine h R B σ H G _ _ Xd g r hw (fun v d B' H' s rv q => ?_) hx
  obtain ⟨b, rfl, q⟩ := asBool_some q
  exact ⟨b, rv.bool, hq b B' H' s q⟩
theorem snd_cmp (fm : Fam P w K mg base k C W sc F) {op : Cop} {o : CmpOp} {a b : Expr} {p q : E} {pos : Pos} (h : cmB op o = true) (hm : behindInMarks o b = false) (ha : SndE T cl W F a p) (hb : SndE T cl W F b q) :
    SndE T cl W F (.Compare a [o] [b] pos) (.cmp op p q) ∧ SndT T cl W F (.Compare a [o] [b] pos) (.cmp op p q) := by
  obtain ⟨ta, pa, ra⟩ := ha
  obtain ⟨tb, pb, rb⟩ := hb
  obtain ⟨r, hr, hd⟩ := cmp_rule fm h
  have rd := rd_op (T := T) (cl := cl) (W := W) (e := .cmp op p q) hd ra rb fun _ _ _ h => h
  exact ⟨⟨_, fun X hX => pe_cmpR (hr X hX) (pa X hX) (pb X hX) hm, rd⟩, ⟨_, fun X hX => pt_cmpR (hr X hX) (pa X hX) (pb X hX) hm, rd.test⟩⟩
theorem rd_chain {r r' : R2} {ta tb tc : TE} {o p : Cop} {a b c : E} (hr : OpD r (cop o)) (hr' : OpD r' (cop p)) (ha : RdE T cl W ta a) (hb : RdE T cl W tb b) (hc : RdE T cl W tc c) : RdE T cl W (tChain r r' ta tb tc) (.chain o p a b c) := by
  intro R B σ H G Q Qd Xd g rp hw hq hx
  simp only [wpE] at hw
  refine ha R B σ H G _ _ Xd g rp hw (fun v d B1 H1 s1 r1 w1 => ?_) hx
  refine hb R B1 σ H1 G _ _ Xd s1.gd (rp.mono s1.sb) w1 (fun u d2 B2 H2 s2 r2 w2 => ?_) (fun x B' H' s' => hx x B' H' (s1.trans s'))
  obtain ⟨z, e1, w3⟩ := must_some w2
  refine hr R B2 H2 v u d d2 z _ s2.gd (r1.mono s2.sb) r2 e1 fun v3 B3 H3 s3 r3 => ?_
  obtain ⟨t, rfl, w4⟩ := asBool_some w3
  refine ⟨t, r3.bool, ?_⟩
  cases t with
  | false =>
    rw [if_neg Bool.false_ne_true] at w4 ⊢
    exact hq _ _ B3 H3 ((s1.trans s2).trans s3) (.inl (.bl _)) w4
  | true =>
    rw [if_pos rfl] at w4 ⊢
    refine hc R B3 σ H3 G _ _ Xd s3.gd (((rp.mono s1.sb).mono s2.sb).mono s3.sb) w4 (fun v5 d5 B5 H5 s5 r5 w5 => ?_) (fun x B' H' s' => hx x B' H' (((s1.trans s2).trans s3).trans s'))
    obtain ⟨z6, e6, w6⟩ := must_some w5
    exact hr' R B5 H5 u v5 d2 d5 z6 Q s5.gd ((r2.mono s3.sb).mono s5.sb) r5 e6 fun v7 B7 H7 s7 r7 => hq v7 z6 B7 H7 ((((s1.trans s2).trans s3).trans s5).trans s7) r7 w6
theorem snd_chain (fm : Fam P w K mg base k C W sc F) {op oq : Cop} {o o2 : CmpOp} {a b c : Expr} {p q u : E} {pos : Pos} (h : cmB op o = true) (h2 : cmB oq o2 = true) (hm : behindInMarks o2 c = false) (ha : SndE T cl W F a p) (hb : SndE T cl W F b q) (hc : SndE T cl W F c u) :
    SndE T cl W F (.Compare a [o, o2] [b, c] pos) (.chain op oq p q u) ∧ SndT T cl W F (.Compare a [o, o2] [b, c] pos) (.chain op oq p q u) := by
  obtain ⟨ta, pa, ra⟩ := ha
  obtain ⟨tb, pb, rb⟩ := hb
  obtain ⟨tc, pc, rc⟩ := hc
  obtain ⟨r, hr, hd⟩ := cmp_rule fm h
  obtain ⟨r', hr', hd'⟩ := cmp_rule fm h2
  have rd := rd_chain (T := T) (cl := cl) (W := W) hd hd' ra rb rc
  exact ⟨⟨_, fun X hX => pe_chain (hr X hX) (hr' X hX) (pa X hX) (pb X hX) (pc X hX) (by simp [lastMarks, hm]), rd⟩, ⟨_, fun X hX => pt_chain (hr X hX) (hr' X hX) (pa X hX) (pb X hX) (pc X hX) (by simp [lastMarks, hm]), rd.test⟩⟩
end
end Sk
set_option Elab.async false
set_option linter.all false
set_option maxRecDepth 100000
set_option maxHeartbeats 4000000
namespace Sk
open PySem L2
section
variable {P : Program} {w : World} {K : PySem.W.Frag} {mg : Str → Option Value} {base : Heap} {T : Fn → Spec} {cl : Exn → Value} {k : Nat} {C : Ck} {W : WX} {sc : Scope} {F : Cx → Prop}

/-! is -/
theorem rp_non {R : Rg} {B : Hp} {v : V} {d : D} (r : RV R B v d) : decide (v = .non) = isNon d := by
  rcases r with r | ⟨rfl, a, n, _, rfl⟩
  · cases r <;> rfl
  · rfl
theorem rp_non' {R : Rg} {B : Hp} {v : V} {d : D} (r : RV R B v d) : (!decide (v = .non)) = !isNon d := by
  rcases r with r | ⟨rfl, a, n, _, rfl⟩
  · cases r <;> rfl
  · rfl
theorem snd_isN {a : Expr} {p : E} {j : Nat} {pos pos' : Pos} (ha : SndE T cl W F a p) : SndE T cl W F (.Compare a [.Is] [.Constant .none j pos'] pos) (.isN p) ∧ SndT T cl W F (.Compare a [.Is] [.Constant .none j pos'] pos) (.isN p) := by
  obtain ⟨ta, pa, ra⟩ := ha
  have rd : RdE T cl W (tOp (fun x y H Q => y = .non ∧ Q (.bl (decide (x = .non))) H) ta (tC .non)) (.isN p) := by
    intro R B σ H G Q Qd Xd g rp hw hq hx
    refine ra R B σ H G _ _ Xd g rp (by simp only [wpE] at hw; exact hw) (fun v d B1 H1 s1 r1 w1 => ⟨rfl, ?_⟩) hx
    rw [rp_non r1]
    exact hq _ _ B1 H1 s1 (.inl (.bl _)) w1
  exact ⟨⟨_, fun X hX => pe_cmpR op_isN (pa X hX) pe_non (nomark _), rd⟩, ⟨_, fun X hX => pt_cmpR op_isN (pa X hX) pe_non (nomark _), rd.test⟩⟩
theorem snd_notN {a : Expr} {p : E} {j : Nat} {pos pos' : Pos} (ha : SndE T cl W F a p) : SndE T cl W F (.Compare a [.IsNot] [.Constant .none j pos'] pos) (.notN p) ∧ SndT T cl W F (.Compare a [.IsNot] [.Constant .none j pos'] pos) (.notN p) := by
  obtain ⟨ta, pa, ra⟩ := ha
  have rd : RdE T cl W (tOp (fun x y H Q => y = .non ∧ Q (.bl (!decide (x = .non))) H) ta (tC .non)) (.notN p) := by
    intro R B σ H G Q Qd Xd g rp hw hq hx
    refine ra R B σ H G _ _ Xd g rp (by simp only [wpE] at hw; exact hw) (fun v d B1 H1 s1 r1 w1 => ⟨rfl, ?_⟩) hx
    rw [rp_non' r1]
    exact hq _ _ B1 H1 s1 (.inl (.bl _)) w1
  exact ⟨⟨_, fun X hX => pe_cmpR op_notN (pa X hX) pe_non (nomark _), rd⟩, ⟨_, fun X hX => pt_cmpR op_notN (pa X hX) pe_non (nomark _), rd.test⟩⟩
theorem snd_isB {a : Expr} {p : E} {b : Bool} {j : Nat} {pos pos' : Pos} (ha : SndE T cl W F a p) : SndE T cl W F (.Compare a [.Is] [.Constant (.bool b) j pos'] pos) (.isB b p) ∧ SndT T cl W F (.Compare a [.Is] [.Constant (.bool b) j pos'] pos) (.isB b p) := by
  obtain ⟨ta, pa, ra⟩ := ha
  have rd : RdE T cl W (tOp rIsB ta (tC (.bl b))) (.isB b p) := by
    intro R B σ H G Q Qd Xd g rp hw hq hx
    refine ra R B σ H G _ _ Xd g rp (by simp only [wpE] at hw; exact hw) (fun v d B1 H1 s1 r1 w1 => ?_) hx
    obtain ⟨c, rfl, w1⟩ := asBool_some w1
    exact ⟨c, b, r1.bool, rfl, hq _ _ B1 H1 s1 (.inl (.bl _)) w1⟩
  exact ⟨⟨_, fun X hX => pe_cmpR op_isBl (pa X hX) pe_bl (nomark _), rd⟩, ⟨_, fun X hX => pt_cmpR op_isBl (pa X hX) pe_bl (nomark _), rd.test⟩⟩
theorem snd_notB {a : Expr} {p : E} {b : Bool} {j : Nat} {pos pos' : Pos} (ha : SndE T cl W F a p) : SndE T cl W F (.Compare a [.IsNot] [.Constant (.bool b) j pos'] pos) (.notB b p) ∧ SndT T cl W F (.Compare a [.IsNot] [.Constant (.bool b) j pos'] pos) (.notB b p) := by
  obtain ⟨ta, pa, ra⟩ := ha
  have rd : RdE T cl W (tOp rNotB ta (tC (.bl b))) (.notB b p) := by
    intro R B σ H G Q Qd Xd g rp hw hq hx
    refine ra R B σ H G _ _ Xd g rp (by simp only [wpE] at hw; exact hw) (fun v d B1 H1 s1 r1 w1 => ?_) hx
    obtain ⟨c, rfl, w1⟩ := asBool_some w1
    exact ⟨c, b, r1.bool, rfl, hq _ _ B1 H1 s1 (.inl (.bl _)) w1⟩
  exact ⟨⟨_, fun X hX => pe_cmpR op_notBl (pa X hX) pe_bl (nomark _), rd⟩, ⟨_, fun X hX => pt_cmpR op_notBl (pa X hX) pe_bl (nomark _), rd.test⟩⟩

/-! and, or -/
def bop2 (an : Bool) : BoolOp := if an = true then .And else .Or
theorem snd_bool1 {an : Bool} {a : Expr} {p : E} {pos : Pos} (ha : SndE T cl W F a p) : SndE T cl W F (.BoolOp (bop2 an) [a] pos) (.bool an (.cons p .nil)) := by
  obtain ⟨ta, pa, ra⟩ := ha
  refine ⟨_, fun X hX => pe_one (pa X hX), fun R B σ H G Q Qd Xd g rp hw hq hx => ?_⟩
  refine ra R B σ H G _ _ Xd g rp (by simp only [wpE, wpB] at hw; exact hw) (fun v d B1 H1 s1 r1 w1 => ?_) hx
  obtain ⟨c, rfl, w1⟩ := asBool_some w1
  exact hq _ _ B1 H1 s1 r1 w1
theorem snd_bool2 {an : Bool} {a b : Expr} {rest : List Expr} {p q : E} {r : Es} {pos : Pos} (ha : SndE T cl W F a p) (hb : SndE T cl W F (.BoolOp (bop2 an) (b :: rest) pos) (.bool an (.cons q r))) :
    SndE T cl W F (.BoolOp (bop2 an) (a :: b :: rest) pos) (.bool an (.cons p (.cons q r))) := by
  obtain ⟨ta, pa, ra⟩ := ha
  obtain ⟨tb, pb, rb⟩ := hb
  cases an with
  | true =>
    refine ⟨_, fun X hX => pe_and (pa X hX) (pb X hX), fun R B σ H G Q Qd Xd g rp hw hq hx => ?_⟩
    refine ra R B σ H G _ _ Xd g rp (by simp only [wpE, wpB] at hw; exact hw) (fun v d B1 H1 s1 r1 w1 => ?_) hx
    obtain ⟨c, rfl, w2⟩ := asBool_some w1
    refine ⟨c, r1.bool, ?_⟩
    cases c with
    | true =>
      rw [if_pos rfl] at w2 ⊢
      exact rb R B1 σ H1 G _ _ Xd s1.gd (rp.mono s1.sb) (by simp only [wpE]; exact w2) (fun v d B2 H2 s2 => hq v d B2 H2 (s1.trans s2)) (fun x B' H' s' => hx x B' H' (s1.trans s'))
    | false =>
      rw [if_neg (by decide)] at w2 ⊢
      exact hq _ _ B1 H1 s1 (.inl (.bl _)) w2
  | false =>
    refine ⟨_, fun X hX => pe_or (pa X hX) (pb X hX), fun R B σ H G Q Qd Xd g rp hw hq hx => ?_⟩
    refine ra R B σ H G _ _ Xd g rp (by simp only [wpE, wpB] at hw; exact hw) (fun v d B1 H1 s1 r1 w1 => ?_) hx
    obtain ⟨c, rfl, w2⟩ := asBool_some w1
    refine ⟨c, r1.bool, ?_⟩
    cases c with
    | false =>
      rw [if_pos rfl] at w2
      rw [if_neg (by decide)]
      exact rb R B1 σ H1 G _ _ Xd s1.gd (rp.mono s1.sb) (by simp only [wpE]; exact w2) (fun v d B2 H2 s2 => hq v d B2 H2 (s1.trans s2)) (fun x B' H' s' => hx x B' H' (s1.trans s'))
    | true =>
      rw [if_neg (by decide)] at w2
      rw [if_pos rfl]
      exact hq _ _ B1 H1 s1 (.inl (.bl _)) w2
def SndW (T : Fn → Spec) (cl : Exn → Value) (W : WX) (F : Cx → Prop) (a : Expr) (e : E) : Prop := ∃ t, (∀ X, F X → PW X a t) ∧ RdT T cl W t e
theorem SndW.t {a : Expr} {e : E} (h : SndW T cl W F a e) : SndT T cl W F a e := let ⟨t, h1, h2⟩ := h; ⟨t, fun X hX => (h1 X hX).pt, h2⟩
theorem snd_boolT1 {an : Bool} {a : Expr} {p : E} {pos : Pos} (ha : SndT T cl W F a p) : SndW T cl W F (.BoolOp (bop2 an) [a] pos) (.bool an (.cons p .nil)) := by
  obtain ⟨ta, pa, ra⟩ := ha
  cases an with
  | true => exact ⟨_, fun X hX => pw_and1 (pa X hX), fun R B σ H G Q Qd Xd g rp hw hq hx => ra R B σ H G _ _ Xd g rp (by simp only [wpE, wpB] at hw; exact hw) hq hx⟩
  | false => exact ⟨_, fun X hX => pw_or1 (pa X hX), fun R B σ H G Q Qd Xd g rp hw hq hx => ra R B σ H G _ _ Xd g rp (by simp only [wpE, wpB] at hw; exact hw) hq hx⟩
theorem snd_boolT2 {an : Bool} {a b : Expr} {rest : List Expr} {p q : E} {r : Es} {pos : Pos} (ha : SndT T cl W F a p) (hb : SndW T cl W F (.BoolOp (bop2 an) (b :: rest) pos) (.bool an (.cons q r))) :
    SndW T cl W F (.BoolOp (bop2 an) (a :: b :: rest) pos) (.bool an (.cons p (.cons q r))) := by
  obtain ⟨ta, pa, ra⟩ := ha
  obtain ⟨tb, pb, rb⟩ := hb
  cases an with
  | true =>
    refine ⟨_, fun X hX => pw_and (pa X hX) (pb X hX), fun R B σ H G Q Qd Xd g rp hw hq hx => ?_⟩
    refine ra R B σ H G _ _ Xd g rp (by simp only [wpE, wpB] at hw; exact hw) (fun c B1 H1 s1 w1 => ?_) hx
    cases c with
    | true =>
      rw [if_pos rfl] at w1 ⊢
      exact rb R B1 σ H1 G _ _ Xd s1.gd (rp.mono s1.sb) (by simp only [wpE]; exact w1) (fun d B2 H2 s2 => hq d B2 H2 (s1.trans s2)) (fun x B' H' s' => hx x B' H' (s1.trans s'))
    | false =>
      rw [if_neg (by decide)] at w1 ⊢
      exact hq _ B1 H1 s1 w1
  | false =>
    refine ⟨_, fun X hX => pw_or (pa X hX) (pb X hX), fun R B σ H G Q Qd Xd g rp hw hq hx => ?_⟩
    refine ra R B σ H G _ _ Xd g rp (by simp only [wpE, wpB] at hw; exact hw) (fun c B1 H1 s1 w1 => ?_) hx
    cases c with
    | false =>
      rw [if_pos rfl] at w1
      rw [if_neg (by decide)]
      exact rb R B1 σ H1 G _ _ Xd s1.gd (rp.mono s1.sb) (by simp only [wpE]; exact w1) (fun d B2 H2 s2 => hq d B2 H2 (s1.trans s2)) (fun x B' H' s' => hx x B' H' (s1.trans s'))
    | true =>
      rw [if_neg (by decide)] at w1
      rw [if_pos rfl]
      exact hq _ B1 H1 s1 w1
theorem snd_ife {c a b : Expr} {e p q : E} {pos : Pos} (hc : SndT T cl W F c e) (ha : SndE T cl W F a p) (hb : SndE T cl W F b q) : SndE T cl W F (.IfExp c a b pos) (.ife e p q) := by
  obtain ⟨tc, pc, rc⟩ := hc
  obtain ⟨ta, pa, ra⟩ := ha
  obtain ⟨tb, pb, rb⟩ := hb
  refine ⟨_, fun X hX => pe_ifExp (pc X hX) (pa X hX) (pb X hX), fun R B σ H G Q Qd Xd g rp hw hq hx => ?_⟩
  refine rc R B σ H G _ _ Xd g rp (by simp only [wpE] at hw; exact hw) (fun c B1 H1 s1 w1 => ?_) hx
  cases c with
  | true =>
    rw [if_pos rfl] at w1 ⊢
    exact ra R B1 σ H1 G _ _ Xd s1.gd (rp.mono s1.sb) w1 (fun v d B2 H2 s2 => hq v d B2 H2 (s1.trans s2)) (fun x B' H' s' => hx x B' H' (s1.trans s'))
  | false =>
    rw [if_neg (by decide)] at w1 ⊢
    exact rb R B1 σ H1 G _ _ Xd s1.gd (rp.mono s1.sb) w1 (fun v d B2 H2 s2 => hq v d B2 H2 (s1.trans s2)) (fun x B' H' s' => hx x B' H' (s1.trans s'))

/-! subscripts -/
theorem atD_rp {B : Hp} {xs : List V} {ds : List D} {i : Int} {d : D} (h : RpAll B xs ds) (e : atD ds i = some d) : ∃ v, atI xs i = some v ∧ Rp B v d := by
  unfold atD at e
  obtain ⟨j, e1, e2⟩ := Option.bind_eq_some_iff.mp e
  obtain ⟨v, h1, h2⟩ := h.get e2
  refine ⟨v, ?_, h2⟩
  unfold atI
  rw [h.len]
  show (ixD ds.length i).bind _ = _
  rw [e1]
  exact h1
theorem opd_ix : OpD (rIx K) ixOp := by
  intro R B H x y dx dy dz Q g r1 r2 e q
  match dx, dy, r1, r2, e with
  | .list ds, .int i, r1, r2, e =>
    obtain ⟨a, xs, rfl, h1, h2⟩ := r1.list
    obtain ⟨v, h3, h4⟩ := atD_rp h2 e
    exact .inl ⟨a, xs, i, v, rfl, r2.int, SqL.of (g.ex _ _ h1), h3, stay g h4 q⟩
  | .tuple ds, .int i, r1, r2, e =>
    obtain ⟨a, xs, rfl, h1, h2⟩ := r1.tuple
    obtain ⟨v, h3, h4⟩ := atD_rp h2 e
    exact .inr (.inl ⟨a, xs, i, v, rfl, r2.int, SqT.of (g.ex _ _ h1), h3, stay g h4 q⟩)
  | .str z, .int i, r1, r2, e =>
    simp only [ixOp] at e
    split at e
    · rename_i hl
      obtain ⟨c, h1, h2⟩ := Option.map_eq_some_iff.mp e
      subst h2
      exact .inr (.inr ⟨z, i, c, r1.str, r2.int, Nat.le_trans hl lim_line, h1, stay g (.str _) q⟩)
    · cases e
theorem snd_ix (fm : Fam P w K mg base k C W sc F) {a b : Expr} {p q : E} {pos : Pos} (hs : PlainIx b) (ha : SndE T cl W F a p) (hb : SndE T cl W F b q) : SndE T cl W F (.Subscript a b pos) (.ix p q) := by
  obtain ⟨ta, pa, ra⟩ := ha
  obtain ⟨tb, pb, rb⟩ := hb
  exact ⟨_, fun X hX => pe_ix (by have h := ix_seq (X := X); rw [fm.kk X hX] at h; exact h) (pa X hX) (pb X hX) hs, rd_op opd_ix ra rb fun _ _ _ h => h⟩
theorem snd_slc (fm : Fam P w K mg base k C W sc F) {a : Expr} {lo hi : Option Expr} {p : E} {l h : O} {pos p2 : Pos} (ha : SndE T cl W F a p) (hl : SndO T cl W F lo l) (hh : SndO T cl W F hi h) : SndE T cl W F (.Subscript a (.Slice lo hi none p2) pos) (.slc p l h) := by
  obtain ⟨ta, pa, ra⟩ := ha
  obtain ⟨tl, pl, rl⟩ := hl
  obtain ⟨th, ph, rh⟩ := hh
  refine ⟨_, fun X hX => pe_slice (SlR.or (by have h := sl_list (X := X); rw [fm.kk X hX] at h; exact h) sl_str) (pa X hX) (pl X hX) (ph X hX), fun R B σ H G Q Qd Xd g rp hw hq hx => ?_⟩
  refine ra R B σ H G _ _ Xd g rp (by simp only [wpE] at hw; exact hw) (fun v d B1 H1 s1 r1 w1 => ?_) hx
  refine rl R B1 σ H1 G _ _ Xd s1.gd (rp.mono s1.sb) w1 (fun o2 B2 H2 s2 w2 => ?_) (fun x B' H' s' => hx x B' H' (s1.trans s'))
  refine rh R B2 σ H2 G _ _ Xd s2.gd ((rp.mono s1.sb).mono s2.sb) w2 (fun o3 B3 H3 s3 w3 => ?_) (fun x B' H' s' => hx x B' H' ((s1.trans s2).trans s'))
  obtain ⟨z, e, w4⟩ := must_some w3
  have s13 := (s1.trans s2).trans s3
  have r3 := (r1.mono s2.sb).mono s3.sb
  have q3 : ∀ v B' H', Step R B3 H3 B' H' → RV R B' v z → Q v H' := fun v B' H' s' r' => hq v z B' H' (s13.trans s') r' w4
  match d, r3, e with
  | .list ds, r3, e =>
    cases e
    obtain ⟨a, xs, rfl, h1, h2⟩ := r3.list
    refine .inl ⟨a, xs, rfl, SqL.of (s3.gd.ex _ _ h1), fun p hp => ?_⟩
    refine newL s3.gd hp ?_ q3
    unfold cutV cutD
    rw [h2.len]
    exact (h2.drop _).take _
  | .str z, r3, e =>
    simp only [slOp] at e
    split at e
    · rename_i hl
      cases e
      exact .inr ⟨z, r3.str, Nat.le_trans hl lim_line, stay s3.gd (.str _) q3⟩
    · cases e
theorem snd_oN : SndO T cl W F none .none := ⟨_, fun X _ => po_none, fun R B σ H G Q Qd Xd g rp hw hq hx => hq _ B H (Step.refl g) hw⟩
theorem snd_oS {a : Expr} {p : E} (ha : SndE T cl W F a p) : SndO T cl W F (some a) (.some p) := by
  obtain ⟨ta, pa, ra⟩ := ha
  refine ⟨_, fun X hX => po_some (pa X hX), fun R B σ H G Q Qd Xd g rp hw hq hx => ?_⟩
  refine ra R B σ H G _ _ Xd g rp (by simp only [wpO] at hw; exact hw) (fun v d B1 H1 s1 r1 w1 => ?_) hx
  obtain ⟨i, rfl, w1⟩ := asInt_some w1
  exact ⟨i, r1.int, hq _ B1 H1 s1 w1⟩
theorem snd_cN : SndC T cl W F [] .none := ⟨_, fun X _ => pts_nil, fun R B σ H G Q Qd Xd g rp hw hq hx => hq _ B H (Step.refl g) hw⟩
theorem snd_cS {a : Expr} {p : E} (ha : SndT T cl W F a p) : SndC T cl W F [a] (.some p) := by
  obtain ⟨ta, pa, ra⟩ := ha
  exact ⟨_, fun X hX => pts_one (pa X hX), fun R B σ H G Q Qd Xd g rp hw hq hx => ra R B σ H G _ _ Xd g rp (by simp only [wpC] at hw; exact hw) hq hx⟩

/-! arguments, displays -/
def NoStar (a : Expr) : Prop := ∀ es env, starEach (a :: es) env = (false, eval a env) :: starEach es env
theorem snd_aN : SndA T cl W F [] .nil := ⟨_, fun X _ => pa_nil, fun R B σ H G Q Qd Xd g rp hw hq hx => hq [] [] B H (Step.refl g) .nil (by simp only [wpEs] at hw; exact hw)⟩
theorem snd_aC {a : Expr} {as : List Expr} {p : E} {r : Es} (hn : NoStar a) (ha : SndE T cl W F a p) (hr : SndA T cl W F as r) : SndA T cl W F (a :: as) (.cons p r) := by
  obtain ⟨ta, pa, ra⟩ := ha
  obtain ⟨tr, pr, rr⟩ := hr
  refine ⟨_, fun X hX => pa_cons (pa X hX) (pr X hX) (hn _ _), fun R B σ H G Q Qd Xd g rp hw hq hx => ?_⟩
  refine ra R B σ H G _ _ Xd g rp (by simp only [wpEs] at hw; exact hw) (fun v d B1 H1 s1 r1 w1 => ?_) hx
  refine rr R B1 σ H1 G _ _ Xd s1.gd (rp.mono s1.sb) w1 (fun vs ds B2 H2 s2 r2 w2 => ?_) (fun x B' H' s' => hx x B' H' (s1.trans s'))
  exact hq _ _ B2 H2 (s1.trans s2) (.cons (r1.mono s2.sb) r2) w2
/-- arguments that are all data -/
theorem RVs.all {R : Rg} {B : Hp} : ∀ {vs : List V} {ds : List D}, RVs R B vs ds → (∀ d ∈ ds, isTok d = false) → RpAll B vs ds
  | _, _, .nil, _ => .nil
  | _, _, .cons a r, h => .cons (a.rp (h _ (by simp))) (r.all fun d hd => h d (by simp [hd]))
end
end Sk
set_option Elab.async false
set_option linter.all false
set_option maxRecDepth 100000
set_option maxHeartbeats 4000000
namespace Sk
open PySem L2
section
variable {P : Program} {w : World} {K : PySem.W.Frag} {mg : Str → Option Value} {base : Heap} {T : Fn → Spec} {cl : Exn → Value} {k : Nat} {C : Ck} {W : WX} {sc : Scope} {F : Cx → Prop}

theorem plain_all {ds : List D} (h : plain ds = true) : ∀ d ∈ ds, isTok d = false := by
  induction ds with
  | nil => intro d hd; cases hd
  | cons x r ih =>
    simp only [plain, Bool.and_eq_true, Bool.not_eq_true'] at h
    intro d hd
    rcases List.mem_cons.mp hd with rfl | hd
    · exact h.1
    · exact ih h.2 d hd
/-! displays -/
theorem snd_tup {as : List Expr} {es : Es} {j : Nat} {pos : Pos} (ha : SndA T cl W F as es) : SndE T cl W F (.Tuple as j pos) (.tup es) := by
  obtain ⟨ta, pa, ra⟩ := ha
  refine ⟨_, fun X hX => pe_tup (pa X hX), fun R B σ H G Q Qd Xd g rp hw hq hx => ?_⟩
  refine ra R B σ H G _ _ Xd g rp (by simp only [wpE] at hw; exact hw) (fun v d B1 H1 s1 r1 w1 => ?_) hx
  obtain ⟨h1, h2, w1⟩ := w1
  refine ⟨by rw [r1.len]; exact Nat.le_trans h1 lim_line, fun p hp => newT s1.gd hp (r1.all (plain_all h2)) fun v B' H' s' r' => hq v _ B' H' (s1.trans s') r' w1⟩
theorem sndF_lst {as : List Expr} {es : Es} {pos : Pos} (ha : SndA T cl W F as es) : SndF T cl W F (.List as pos) (.lst es) := by
  obtain ⟨ta, pa, ra⟩ := ha
  refine ⟨_, fun X hX => pe_lst (pa X hX), fun R B σ H G Q Qd Xd g rp hw hq hx => ?_⟩
  refine ra R B σ H G _ _ Xd g rp (by simp only [wpE] at hw; exact hw) (fun v d B1 H1 s1 r1 w1 => ?_) hx
  obtain ⟨h1, h2, w1⟩ := w1
  refine ⟨by rw [r1.len]; exact Nat.le_trans h1 lim_line, fun p hp => ?_⟩
  have s2 := Step.newH (o := .lst v) s1.gd hp
  have hpB : B1 p = none := by
    cases q : B1 p with
    | none => rfl
    | some o => rw [s1.gd.ex _ _ q] at hp; cases hp
  exact hq p v d B1 _ (s1.trans s2) (s1.fresh hp) hpB upd_same (r1.all (plain_all h2)) w1
theorem SndF.toE {a : Expr} {e : E} (h : SndF T cl W F a e) : SndE T cl W F a e := let ⟨t, h1, h2⟩ := h; ⟨t, h1, h2.toE⟩

/-! calls -/
def NoStars (as : List Expr) : Prop := (∀ a ∈ as, NoStar a)
theorem noStars_any : ∀ {as : List Expr}, NoStars as → ∀ (pos : Pos) (env : Env), (backTo pos (starEach as env)).any (·.1) = false
  | [], _, _, _ => by simp [starEach, backTo]
  | a :: as, h, pos, env => by
    rw [h a (by simp) as env]
    have ih := noStars_any (as := as) (fun b hb => h b (by simp [hb])) pos env
    unfold backTo at ih ⊢
    rw [List.map_cons, List.any_cons, ih]
    rfl
theorem snd_call (tp : Tp P w K mg base T cl k C) (fm : Fam P w K mg base k C W sc F) {f : Fn} {x : Str} {a : Expr} {as : List Expr} {es : Es} {p pos : Pos} (h1 : x = fnName C.ln f) (h2 : glB sc x = true) (h3 : C.fns.contains f = true) (hn : NoStars (a :: as)) (ha : SndA T cl W F (a :: as) es) :
    SndE T cl W F (.Call (.Name x p) (a :: as) [] pos) (.call f es) := by
  obtain ⟨ta, pa, ra⟩ := ha
  subst h1
  obtain ⟨ad, fd, ps, hm, hk, hb, ok, hlen⟩ := (tp.fns f h3).ok
  refine ⟨tCallS (toSp cl ps.length (T f)) (WE W) ta, fun X hX => ?_, fun R B σ H G Q Qd Xd g rp hw hq hx => ?_⟩
  · have ok' : FnOk X.prog X.w X.K X.mg X.base (L2.CX X.prog X.w) k ad fd ps (toSp cl ps.length (T f)) := by
      rw [fm.pr X hX, fm.wo X hX, fm.kk X hX, fm.mm X hX, fm.ba X hX]; exact ok
    exact pe_callS ok' (fm.ro X hX) (gl_of fm hX h2).1 (by rw [fm.mm X hX]; exact hm) (by rw [fm.kk X hX]; exact hk) (by rw [fm.kk X hX]; exact hb) (fun σ => passAt (fm.tk X hX) σ) (pa X hX) (gl_of fm hX h2).2.1 (hn a (by simp) _ _)
      (noStars_any (fun b hb => hn b (by simp [hb])) _ _)
  · refine ra R B σ H G _ _ Xd g rp (by simp only [wpE] at hw; exact hw) (fun v d B1 H1 s1 r1 w1 => ?_) hx
    exact ⟨R, B1, d, Qd, Xd, s1.gd, r1, hlen _ _ _ w1, w1, fun v d B' H' s' => hq v d B' H' (s1.trans s'), fun x B' H' s' => hx x B' H' (s1.trans s')⟩
end
end Sk
set_option Elab.async false
set_option linter.all false
set_option maxRecDepth 100000
set_option maxHeartbeats 4000000
namespace Sk
open PySem L2
section
variable {P : Program} {w : World} {K : PySem.W.Frag} {mg : Str → Option Value} {base : Heap} {T : Fn → Spec} {cl : Exn → Value} {k : Nat} {C : Ck} {W : WX} {sc : Scope} {F : Cx → Prop}

/-- a call by values that gives data -/
def ClD (r : List V → Hp → VK → Prop) (f : List D → Option D) : Prop := ∀ (R : Rg) (B H : Hp) (vs : List V) (ds : List D) (dz : D) (Q : VK), Gd R B H → RVs R B vs ds → f ds = some dz → (∀ v B' H', Step R B H B' H' → RV R B' v dz → Q v H') → r vs H Q
theorem RVs.one {R : Rg} {B : Hp} {vs : List V} {d : D} (r : RVs R B vs [d]) : ∃ v, vs = [v] ∧ RV R B v d := by
  cases r with | cons a b => cases b; exact ⟨_, rfl, a⟩
theorem RVs.two {R : Rg} {B : Hp} {vs : List V} {d e : D} (r : RVs R B vs [d, e]) : ∃ v u, vs = [v, u] ∧ RV R B v d ∧ RV R B u e := by
  cases r with | cons a b => cases b with | cons b c => cases c; exact ⟨_, _, rfl, a, b⟩
theorem cld_len : ClD (fun xs H Q => (∃ p ys, xs = [.ref p] ∧ (SqL K H p ys ∨ SqT K H p ys) ∧ Q (.int ys.length) H) ∨ ∃ z, xs = [.str z] ∧ z.length ≤ sizeLine ∧ Q (.int z.length) H) (bsem .len) := by
  intro R B H vs ds dz Q g r e q
  match ds, r, e with
  | [.list xs], r, e =>
    cases e
    obtain ⟨v, rfl, rv⟩ := r.one
    obtain ⟨a, ys, rfl, h1, h2⟩ := rv.list
    refine .inl ⟨a, ys, rfl, .inl (SqL.of (g.ex _ _ h1)), ?_⟩
    rw [h2.len]
    exact stay g (.int _) q
  | [.tuple xs], r, e =>
    cases e
    obtain ⟨v, rfl, rv⟩ := r.one
    obtain ⟨a, ys, rfl, h1, h2⟩ := rv.tuple
    refine .inl ⟨a, ys, rfl, .inr (SqT.of (g.ex _ _ h1)), ?_⟩
    rw [h2.len]
    exact stay g (.int _) q
  | [.str z], r, e =>
    obtain ⟨v, rfl, rv⟩ := r.one
    simp only [bsem] at e
    split at e
    · rename_i hl
      cases e
      exact .inr ⟨z, by rw [rv.str], Nat.le_trans hl lim_line, stay g (.int _) q⟩
    · cases e
theorem cld_max : ClD (fun xs H Q => rMax K xs H Q ∨ ∃ i j, xs = [.int i, .int j] ∧ Q (.int (if j > i then j else i)) H) (bsem .max) := by
  intro R B H vs ds dz Q g r e q
  match ds, r, e with
  | [.list xs], r, e =>
    obtain ⟨v, rfl, rv⟩ := r.one
    obtain ⟨a, ys, rfl, h1, h2⟩ := rv.list
    simp only [bsem] at e
    obtain ⟨ns, e1, e2⟩ := Option.bind_eq_some_iff.mp e
    split at e2
    · cases e2
    · rename_i hl
      cases e2
      have h3 := h2.ints e1
      refine .inl ⟨a, ns, rfl, SqL.of (by rw [← h3]; exact g.ex _ _ h1), by omega, fun m hm hg => ?_⟩
      rw [← lmax_uniq hm hg]
      exact stay g (.int _) q
  | [.int i, .int j], r, e =>
    cases e
    obtain ⟨v, u, rfl, r1, r2⟩ := r.two
    refine .inr ⟨i, j, by rw [r1.int, r2.int], ?_⟩
    have : (if j > i then j else i) = max i j := by
      by_cases h : j > i
      · rw [if_pos h, Int.max_eq_right (by omega)]
      · rw [if_neg h, Int.max_eq_left (by omega)]
    rw [this]
    exact stay g (.int _) q
theorem cld_min : ClD (fun xs H Q => rMin K xs H Q ∨ ∃ i j, xs = [.int i, .int j] ∧ Q (.int (if j < i then j else i)) H) (bsem .min) := by
  intro R B H vs ds dz Q g r e q
  match ds, r, e with
  | [.list xs], r, e =>
    obtain ⟨v, rfl, rv⟩ := r.one
    obtain ⟨a, ys, rfl, h1, h2⟩ := rv.list
    simp only [bsem] at e
    obtain ⟨ns, e1, e2⟩ := Option.bind_eq_some_iff.mp e
    split at e2
    · cases e2
    · rename_i hl
      cases e2
      have h3 := h2.ints e1
      refine .inl ⟨a, ns, rfl, SqL.of (by rw [← h3]; exact g.ex _ _ h1), by omega, fun m hm hg => ?_⟩
      rw [← lmin_uniq hm hg]
      exact stay g (.int _) q
  | [.int i, .int j], r, e =>
    cases e
    obtain ⟨v, u, rfl, r1, r2⟩ := r.two
    refine .inr ⟨i, j, by rw [r1.int, r2.int], ?_⟩
    have : (if j < i then j else i) = min i j := by
      by_cases h : j < i
      · rw [if_pos h, Int.min_eq_right (by omega)]
      · rw [if_neg h, Int.min_eq_left (by omega)]
    rw [this]
    exact stay g (.int _) q
theorem cld_sum : ClD (rSum K) (bsem .sum) := by
  intro R B H vs ds dz Q g r e q
  match ds, r, e with
  | [.list xs], r, e =>
    obtain ⟨v, rfl, rv⟩ := r.one
    obtain ⟨a, ys, rfl, h1, h2⟩ := rv.list
    simp only [bsem] at e
    obtain ⟨ns, e1, rfl⟩ := Option.map_eq_some_iff.mp e
    have h3 := h2.ints e1
    exact ⟨a, ns, rfl, SqL.of (by rw [← h3]; exact g.ex _ _ h1), stay g (.int _) q⟩
theorem cld_all : ClD (rAll K) (bsem .all) := by
  intro R B H vs ds dz Q g r e q
  match ds, r, e with
  | [.list xs], r, e =>
    obtain ⟨v, rfl, rv⟩ := r.one
    obtain ⟨a, ys, rfl, h1, h2⟩ := rv.list
    simp only [bsem] at e
    obtain ⟨ns, e1, rfl⟩ := Option.map_eq_some_iff.mp e
    have h3 := h2.bools e1
    exact ⟨a, ns, rfl, SqL.of (by rw [← h3]; exact g.ex _ _ h1), stay g (.bl _) q⟩
theorem cld_abs : ClD (fun xs H Q => ∃ i, xs = [.int i] ∧ Q (.int (if i < 0 then -i else i)) H) (bsem .abs) := by
  intro R B H vs ds dz Q g r e q
  match ds, r, e with
  | [.int i], r, e =>
    obtain ⟨v, rfl, rv⟩ := r.one
    cases e
    exact ⟨i, by rw [rv.int], stay g (.int _) q⟩
theorem cld_list : ClD (fun xs H Q => ∃ p ys, xs = [.ref p] ∧ (SqL K H p ys ∨ SqT K H p ys) ∧ ∀ l, H l = none → Q (.ref l) (upd H l (.lst ys))) (bsem .list) := by
  intro R B H vs ds dz Q g r e q
  match ds, r, e with
  | [.list xs], r, e =>
    obtain ⟨v, rfl, rv⟩ := r.one
    obtain ⟨a, ys, rfl, h1, h2⟩ := rv.list
    cases e
    exact ⟨a, ys, rfl, .inl (SqL.of (g.ex _ _ h1)), fun p hp => newL g hp h2 q⟩

/-! sorted -/
def kP (H : Hp) : V → Int × Int
  | .ref t => match H t with
    | some (.tup [.int i, .int j]) => (i, j)
    | _ => (0, 0)
  | _ => (0, 0)
theorem RpAll.pairs {B H : Hp} (h : ∀ b o, B b = some o → H b = some o) : ∀ {vs : List V} {ds : List D} {ps : List (Int × Int)}, RpAll B vs ds → pairs? ds = some ps →
    (∀ x ∈ vs, ∃ t, x = V.ref t ∧ B t = some (.tup [.int (kP H x).1, .int (kP H x).2])) ∧ vs.map (kP H) = ps
  | _, _, ps, .nil, e => by
    simp [pairs?] at e
    subst e
    exact ⟨fun x hx => by simp at hx, rfl⟩
  | _, _, ps, .cons (d := d) a r, e => by
    cases a with
    | tup h1 h2 =>
      rename_i ad xs es
      match es, h2, e with
      | [.int i, .int j], h2, e =>
        simp only [pairs?, Option.map_eq_some_iff] at e
        obtain ⟨m, h3, rfl⟩ := e
        obtain ⟨q1, q2⟩ := RpAll.pairs h r h3
        cases h2 with | cons c1 h2 => cases h2 with | cons c2 h2 =>
        cases h2
        cases c1
        cases c2
        have hk : kP H (.ref ad) = (i, j) := by simp [kP, h _ _ h1]
        refine ⟨fun x hx => ?_, by rw [List.map_cons, q2, hk]⟩
        rcases List.mem_cons.mp hx with rfl | hx
        · exact ⟨ad, rfl, by rw [hk]; exact h1⟩
        · exact q1 x hx
      | [], _, e => simp [pairs?] at e
      | [_], _, e => simp [pairs?] at e
      | _ :: _ :: _ :: _, _, e => simp [pairs?] at e
      | .none :: _ :: [], _, e => simp [pairs?] at e
      | .bool _ :: _ :: [], _, e => simp [pairs?] at e
      | .str _ :: _ :: [], _, e => simp [pairs?] at e
      | .list _ :: _ :: [], _, e => simp [pairs?] at e
      | .tuple _ :: _ :: [], _, e => simp [pairs?] at e
      | .dict _ :: _ :: [], _, e => simp [pairs?] at e
      | .int _ :: .none :: [], _, e => simp [pairs?] at e
      | .int _ :: .bool _ :: [], _, e => simp [pairs?] at e
      | .int _ :: .str _ :: [], _, e => simp [pairs?] at e
      | .int _ :: .list _ :: [], _, e => simp [pairs?] at e
      | .int _ :: .tuple _ :: [], _, e => simp [pairs?] at e
      | .int _ :: .dict _ :: [], _, e => simp [pairs?] at e
    | _ => simp [pairs?] at e
theorem RpAll.ofPairs {B H : Hp} : ∀ {vs : List V}, (∀ x ∈ vs, ∃ t, x = V.ref t ∧ B t = some (.tup [.int (kP H x).1, .int (kP H x).2])) → RpAll B vs ((vs.map (kP H)).map pairD)
  | [], _ => .nil
  | x :: r, h => by
    obtain ⟨t, e, h1⟩ := h x (by simp)
    refine .cons ?_ (RpAll.ofPairs fun y hy => h y (by simp [hy]))
    subst e
    exact .tup h1 (.cons (.int _) (.cons (.int _) .nil))
theorem lexB_le {p q : Int × Int} (h : SrtO.lexB q p = false) : leP p q = true := by
  have := SrtO.lexB_no.mp h
  rw [leP_iff]
  omega
theorem cld_sorted : ClD (fun xs H Q => rSortedI K xs H Q ∨ rSortedPO K xs H Q) (bsem .sorted) := by
  intro R B H vs ds dz Q g r e q
  match ds, r, e with
  | [.list xs], r, e =>
    obtain ⟨v, rfl, rv⟩ := r.one
    obtain ⟨a, ys, rfl, h1, h2⟩ := rv.list
    simp only [bsem] at e
    split at e
    · rename_i ns e1
      cases e
      have h3 := h2.ints e1
      refine .inl ⟨a, ns, rfl, SqL.of (by rw [← h3]; exact g.ex _ _ h1), fun ns' p hp hs hn => ?_⟩
      rw [← isort_uniq hp hs]
      exact newL g hn (RpAll.ofInts _) q
    · rename_i e1
      obtain ⟨ps, e2, rfl⟩ := Option.map_eq_some_iff.mp e
      obtain ⟨q1, q2⟩ := h2.pairs g.ex e2
      refine .inr ⟨a, ys, kP H, rfl, SqL.of (g.ex _ _ h1), fun x hx => ?_, fun zs p hs hb hn => ?_⟩
      · obtain ⟨t, e, h4⟩ := q1 x hx
        exact ⟨t, e, g.ex _ _ h4⟩
      · have hz : ∀ x ∈ zs, ∃ t, x = V.ref t ∧ B t = some (.tup [.int (kP H x).1, .int (kP H x).2]) := fun x hx => q1 x (hb.perm.mem_iff.mp hx)
        have he : isortP ps = zs.map (kP H) := isortP_uniq (by rw [← q2]; exact hb.perm.map _) (List.pairwise_map.mpr (hs.imp fun h => lexB_le h))
        have hr := RpAll.ofPairs (B := B) (H := H) hz
        refine newL g hn (ds := (isortP ps).map pairD) ?_ q
        rw [he]
        exact hr
/-- the rule of a built-in, for a family -/
theorem bi_rule (fm : Fam P w K mg base k C W sc F) (b : BI) : (∃ id r, bootBuiltins (biName b) = some (.builtin id) ∧ (∀ X, F X → CallR X (.builtin id) r) ∧ ClD r (bsem b)) ∨ (∃ id r, bootBuiltins (biName b) = some (.type id) ∧ (∀ X, F X → CallR X (.type id) r) ∧ ClD r (bsem b)) := by
  cases b
  · exact .inl ⟨_, _, boot_len, fun X hX => by have h := (call_len_seq (X := X)).or call_len_str; rw [fm.kk X hX] at h; exact h, cld_len⟩
  · exact .inl ⟨_, _, PyProof.Rows.boot_max, fun X hX => by have h := (cr_max (X := X) (fm.cm X hX)).or (call_max2 (fm.cm X hX)); rw [fm.kk X hX] at h; exact h, cld_max⟩
  · exact .inl ⟨_, _, PyProof.Rows.boot_min, fun X hX => by have h := (cr_min (X := X) (fm.cm X hX)).or (call_min2 (fm.cm X hX)); rw [fm.kk X hX] at h; exact h, cld_min⟩
  · exact .inl ⟨_, _, PyProof.Rows.boot_sum, fun X hX => by have h := (cr_sum (X := X) (fm.cm X hX)); rw [fm.kk X hX] at h; exact h, cld_sum⟩
  · exact .inl ⟨_, _, PyProof.Rows.boot_all, fun X hX => by have h := (cr_all (X := X) (fm.cm X hX)); rw [fm.kk X hX] at h; exact h, cld_all⟩
  · exact .inl ⟨_, _, PyProof.Rows.boot_sorted, fun X hX => by have h := (cr_sortedI (X := X)).or cr_sortedPO; rw [fm.kk X hX] at h; exact h, cld_sorted⟩
  · exact .inl ⟨_, _, PyProof.Rows.boot_abs, fun X hX => call_abs, cld_abs⟩
  · exact .inr ⟨_, _, PyProof.Rows.boot_str, fun X hX => call_str_int, fun R B H vs ds dz Q g r e q => by cases ds <;> simp [bsem] at e⟩
  · exact .inr ⟨_, _, PyProof.Rows.boot_int, fun X hX => call_int1, fun R B H vs ds dz Q g r e q => by cases ds <;> simp [bsem] at e⟩
  · exact .inr ⟨_, _, PyProof.Rows.boot_list, fun X hX => by have h := (call_list_of (X := X)); rw [fm.kk X hX] at h; exact h, cld_list⟩
theorem rd_cl {r : List V → Hp → VK → Prop} {f : List D → Option D} {ta : TA} {es : Es} {e : E} (hr : ClD r f) (ha : RdA T cl W ta es) (he : ∀ G Q X, wpE T e G Q X → wpEs T es G (fun ds => must (f ds) Q) X) : RdE T cl W (tCB r ta) e := by
  intro R B σ H G Q Qd Xd g rp hw hq hx
  refine ha R B σ H G _ _ Xd g rp (he _ _ _ hw) (fun v d B1 H1 s1 r1 w1 => ?_) hx
  obtain ⟨z, e1, w2⟩ := must_some w1
  exact hr R B1 H1 v d z Q s1.gd r1 e1 fun v B3 H3 s3 r3 => hq v z B3 H3 (s1.trans s3) r3 w2
theorem blt_of (tp : Tp P w K mg base T cl k C) (fm : Fam P w K mg base k C W sc F) {X : Cx} (hX : F X) {x : Str} (h : bltB C sc x = true) : Gl X x ∧ X.mg x = none ∧ (x == ("__debug__" : Str)) = false ∧ x ≠ "__name__" := by
  simp only [bltB, Bool.and_eq_true] at h
  obtain ⟨h1, h2, h3⟩ := gl_of fm hX h.1
  exact ⟨h1, by rw [fm.mm X hX]; exact tp.blt x h.2, h2, h3⟩
theorem snd_bi (tp : Tp P w K mg base T cl k C) (fm : Fam P w K mg base k C W sc F) {b : BI} {x : Str} {a : Expr} {as : List Expr} {es : Es} {p pos : Pos} (h1 : x = biName b) (h2 : bltB C sc x = true) (hn : NoStars (a :: as)) (ha : SndA T cl W F (a :: as) es) :
    SndE T cl W F (.Call (.Name x p) (a :: as) [] pos) (.bi b es) := by
  obtain ⟨ta, pa, ra⟩ := ha
  subst h1
  rcases bi_rule fm b with ⟨id, r, hb, hr, hd⟩ | ⟨id, r, hb, hr, hd⟩
  · exact ⟨_, fun X hX => pe_callB (hr X hX) (blt_of tp fm hX h2).1 (blt_of tp fm hX h2).2.1 hb (pa X hX) (blt_of tp fm hX h2).2.2.2 (blt_of tp fm hX h2).2.2.1 (hn a (by simp) _ _) (noStars_any (fun b hb => hn b (by simp [hb])) _ _), rd_cl hd ra fun _ _ _ h => h⟩
  · exact ⟨_, fun X hX => pe_callTy (hr X hX) (blt_of tp fm hX h2).1 (blt_of tp fm hX h2).2.1 hb (pa X hX) (blt_of tp fm hX h2).2.2.2 (blt_of tp fm hX h2).2.2.1 (hn a (by simp) _ _) (noStars_any (fun b hb => hn b (by simp [hb])) _ _), rd_cl hd ra fun _ _ _ h => h⟩

/-! isinstance -/
theorem boot_ty (t : Ty) : bootBuiltins (tyName t) = some (.type (tyStr t)) := by cases t <;> decide +kernel
def tyD : D → Option String
  | .none => some "NoneType" | .bool _ => some "bool" | .int _ => some "int" | .str _ => some "str" | .list _ => some "list" | .tuple _ => some "tuple" | .dict _ => none
theorem kit_all (d : D) (t : Ty) (s : String) (h : tyD d = some s) : kitB s (tyStr t) = some (isiD d t) := by
  cases d <;> cases t <;> simp only [tyD, Option.some.injEq, reduceCtorEq] at h <;> subst h <;> simp only [isiD, tyStr] <;> decide +kernel
theorem ty_rp {B H : Hp} (g : ∀ b o, B b = some o → H b = some o) {v : V} {d : D} (r : Rp B v d) : ∃ s, tyD d = some s ∧ TyX K H v (.type s) := by
  cases r with
  | non => exact ⟨_, rfl, .base .non⟩
  | bl b => exact ⟨_, rfl, .base (.bl b)⟩
  | int b => exact ⟨_, rfl, .base (.int b)⟩
  | str b => exact ⟨_, rfl, .base (.str b)⟩
  | lst h1 h2 => exact ⟨_, rfl, .base (.lst (g _ _ h1))⟩
  | tup h1 h2 => exact ⟨_, rfl, .base (.tup (g _ _ h1))⟩
theorem noStar_name {y : Str} {q : Pos} : NoStar (.Name y q) := fun _ _ => rfl
theorem snd_isi (tp : Tp P w K mg base T cl k C) (fm : Fam P w K mg base k C W sc F) {t : Ty} {x y : Str} {a : Expr} {e : E} {p pos q : Pos} (h1 : x = ("isinstance" : Str)) (h2 : bltB C sc x = true) (h3 : y = tyName t) (h4 : bltB C sc y = true) (hn : NoStar a) (ha : SndE T cl W F a e) :
    SndE T cl W F (.Call (.Name x p) [a, .Name y q] [] pos) (.isi e t) := by
  obtain ⟨ta, pa, ra⟩ := ha
  subst h1
  subst h3
  refine ⟨tCB (rIsi K) (tCons ta (tCons (tC (.ty (tyStr t))) tNil)), fun X hX => ?_, fun R B σ H G Q Qd Xd g rp hw hq hx => ?_⟩
  · have hc := call_isi (X := X)
    rw [fm.kk X hX] at hc
    have hb := blt_of tp fm hX h4
    exact pe_callB hc (blt_of tp fm hX h2).1 (blt_of tp fm hX h2).2.1 PyProof.Rows.boot_isinstance (pa_cons (pa X hX) (pa_cons (pe_bltn hb.1 hb.2.1 (boot_ty t) rfl hb.2.2.2 hb.2.2.1) pa_nil) (hn _ _)) (blt_of tp fm hX h2).2.2.2 (blt_of tp fm hX h2).2.2.1 (hn _ _)
      (noStars_any (fun b hb => by rw [List.mem_singleton.mp hb]; exact noStar_name) _ _)
  · refine ra R B σ H G _ _ Xd g rp (by simp only [wpE] at hw; exact hw) (fun v d B1 H1 s1 r1 w1 => ?_) hx
    obtain ⟨h5, w1⟩ := w1
    obtain ⟨s, h6, h7⟩ := ty_rp (K := K) s1.gd.ex (r1.rp h5)
    exact ⟨v, .ty (tyStr t), .type s, .type (tyStr t), isiD d t, rfl, .ty _, h7, kit_ty (kit_all d t s h6), hq _ _ B1 H1 s1 (.inl (.bl _)) w1⟩
end
end Sk
set_option Elab.async false
set_option linter.all false
set_option maxRecDepth 100000
set_option maxHeartbeats 4000000
namespace Sk
open PySem PySem.Spec PyProof.Rows L2

/-! set(xs) of a list of ints; its size; sorted(set(xs)) of any size -/
abbrev set0 (w : World) : Obj := { cls := .type "set", dict := none, data := .set #[] 0 (.fresh 0 0 (!w.params.followText "set-order")) }
section
variable {P : Program} {w : World} {A : Around} {E : Value → Shared → Prop} {s : Shared}
set_option maxHeartbeats 3200000 in
theorem set_of_list {l : Addr} {vs : Array Value} (ns : List Int) {Q : Value → Shared → Prop} (hh : A.handled = none) (hl : s.heap.IsList l vs) (hi : IntsAre vs.toList ns) (hb : ns.length + 1 < scanBound)
    (hQ : ∀ (h' : Heap) (tk c : Nat), SetR w h' s.heap.objs.size (fun j => decide (j ∈ ns)) c → c ≤ ns.length → (∀ b o, s.heap.get? b = some o → h'.get? b = some o) → Q (.ref s.heap.objs.size) { s with heap := h', toks := tk }) :
    wpAny (model P w) A (call (.type "set") [.ref l]) Q E s := by
  have hz : vs.size = ns.length := by
    have q := IntsAre.length hi
    rw [Array.length_toList] at q; exact q
  obtain ⟨c, tl, hm1⟩ := F.called_set.mro
  have hm2 := F.called_set.made
  have hm3 := F.called_set.sub
  refine wpAny_call (codeAny_of_tree (show wpAny _ _ (callAny (.type "set") _) _ _ _ from ?_))
  refine wpAny_pure (And.intro (Code.quiet_builtin _ (by decide +kernel)) (codeAny_builtin F.entry_type_call ?_))
  rw [Around.under_plain (weight_type_call_type "set" [.ref l] []) (by rfl)]
  have hm4 := F.called_set.notType
  have hm5 := F.called_set.canCreate
  have hm6 := F.typeCall_set_1 (.ref l)
  repeat (any_goals (first | assumption | wp_step))
  refine codeAny_mono (code_set_led1 (.ref l) (E := E) (Q₁ := fun obj s1 => obj = .ref s.heap.objs.size ∧ s1 = { s with heap := s.heap.push (set0 w) }) ⟨rfl, rfl⟩) fun r s1 hr => ?_
  cases r with
  | error e => exact hr
  | ok fl =>
    cases fl with
    | ret obj =>
      obtain ⟨rfl, rfl⟩ := hr
      have hS : (s.heap.push (set0 w)).get? s.heap.objs.size = some (set0 w) := Heap.get?_push_size _ rfl
      have hT : Shared.TypeIs { s with heap := s.heap.push (set0 w) } (.ref s.heap.objs.size) "set" := ⟨_, hS, rfl⟩
      have hi1 := F.called_set.init.lookup
      have hi2 := F.called_set.init.bind (.ref s.heap.objs.size)
      repeat (any_goals (first | assumption | wp_step))
      refine codeAny_mono (codeAny_call_builtin (R := wants (fun r s2 => r = .none ∧ ∃ h' tk c, s2 = { s with heap := h', toks := tk } ∧ SetR w h' s.heap.objs.size (fun j => decide (j ∈ ns)) c ∧ c ≤ ns.length ∧
          (∀ b o, s.heap.get? b = some o → h'.get? b = some o)) E) F.called_set.init.plain F.entry_set_init (check_set_init_1 hT ?_)) fun r2 s2 hr2 => ?_
      · obtain ⟨ol, hol, hcl, nl, hdl⟩ := hl
        obtain ⟨oc, od, odt, osl⟩ := ol
        simp only at hcl hdl
        subst hcl; subst hdl
        have hol' : (s.heap.push (set0 w)).get? l = some { cls := .type "list", dict := od, data := .seq vs nl, slots := osl } := Heap.get?_push_of_some _ hol
        have hj1 := F.sub_list_set
        have hj2 := F.sub_list_frozenset
        have hj3 : (Value.type "list" == Value.type "dict") = false := by decide
        have hl1 : (s.heap.push (set0 w)).IsList l vs := ⟨_, hol', rfl, nl, rfl⟩
        unfold Builtin.«set.__init__» noKeywords Builtin.Frozenset.updateFrom
        generalize hPI : pyIter = PI
        wp_walk
        subst hPI
        refine wpAny_pyIter_list hl1 (wpAny_bind (wpAny_runValue ?_))
        have hlS : l < s.heap.objs.size := Heap.lt_size hol
        have hh3 : A.in1.in1.in1.handled = none := by simp [hh]
        have hne : l ≠ (s.heap.push (set0 w)).objs.size := by
          rw [Heap.size_push]
          exact Nat.ne_of_lt (Nat.lt_succ_of_lt hlS)
        have hnf : s.heap.objs.size ∉ [(s.heap.push (set0 w)).objs.size, l] := by
          rw [Heap.size_push]
          intro q
          rcases List.mem_cons.mp q with q | q
          · exact absurd q (Nat.ne_of_lt (Nat.lt_succ_self _))
          · exact absurd (List.mem_singleton.mp q) (Nat.ne_of_gt hlS)
        have hval : ∀ (i : Nat) (v : Value), vs[i]? = some v → ∃ k t, ns[i]? = some k ∧ v = .int k t := fun i v hv => by
          have hlt : i < ns.length := by rw [← hz]; exact (Array.getElem?_eq_some_iff.mp hv).1
          obtain ⟨t, e⟩ := IntsAre.int_at hi i v (by rw [Array.getElem?_toList]; exact hv)
          refine ⟨ns[i], t, List.getElem?_eq_getElem hlt, ?_⟩
          rw [e, List.getD_eq_getElem?_getD, List.getElem?_eq_getElem hlt]
          rfl
        refine set_update_ints ((Walks.list hh3 _ l hne vs).toS) s.heap.objs.size hnf ns hz hb hval (vs.size - 0) 0 _ (by omega) (Nat.zero_le _)
          ⟨⟨_, Heap.get?_push_size _ rfl, rfl, rfl⟩, (hl1.push _)⟩ ?h0 ?h9
        case h0 => exact ⟨0, Nat.le_refl 0, setR_new_at (Heap.get?_push_of_some _ hS)⟩
        case h9 =>
          intro s' c' hm hc' hS'
          obtain ⟨h', g2, d', tk', os'⟩ := s'
          have eg : g2 = s.gens := hm.gens
          have ed : d' = s.drawn := hm.drawn
          have eo : os' = s.os := hm.os
          subst eg; subst ed; subst eo
          show wpAny _ _ _ _ _ _
          refine wpAny_pure (show wpAny _ _ (ret Value.none) _ _ _ from ?_)
          rw [hz] at hc'
          refine wpAny_pure ⟨rfl, h', tk', c', rfl, hS', hc', fun b o e => ?_⟩
          have hb0 : b < s.heap.objs.size := Heap.lt_size e
          refine hm.heap b o (fun q => ?_) (Heap.get?_push_of_some _ (Heap.get?_push_of_some _ e))
          rcases List.mem_cons.mp q with q | q
          · exact absurd q (Nat.ne_of_lt hb0)
          · have := List.mem_singleton.mp q
            rw [Heap.size_push] at this
            exact absurd this (Nat.ne_of_lt (Nat.lt_succ_of_lt hb0))
      · cases r2 with
        | error e => exact hr2
        | ok fl2 =>
          cases fl2 with
          | ret r =>
            obtain ⟨rfl, h', tk, c', rfl, hS', hc', hk'⟩ := hr2
            repeat (any_goals (first | assumption | wp_step))
            exact hQ _ _ _ hS' hc' hk'
          | _ => exact hr2.elim
    | _ => exact hr.elim
theorem setR_len {h : Heap} {a : Addr} {ns : List Int} {n : Nat} (R : SetR w h a (fun j => decide (j ∈ ns)) n) : n = (dedup ns).length := by
  obtain ⟨o, es, ep, t, ho, hex, hd, g, nd, hm, hb, hf, hn, hr, hl⟩ := R
  have p : (es.toList.map keyOf).Perm (dedup ns) := perm_of_nodup nd (nodup_dedup ns) fun x => by rw [← hm x, mem_dedup]; simp
  rw [← p.length_eq, List.length_map, Array.length_toList]
  exact hn.symm
theorem sorted_any {a : Addr} {S : Int → Bool} {n : Nat} {Q : Value → Shared → Prop} (R : SetR w s.heap a S n) (hh : A.handled = none)
    (hQ : ∀ s' p (out : List Value) (c : Nat) (ns : List Int), (∀ b o, s.heap.get? b = some o → s'.heap.get? b = some o) → s'.gens = s.gens → s'.os = s.os → s.heap.objs.size ≤ p →
      s'.heap.get? p = some (seqObj "list" out.toArray c) → IntsAre out ns → ns.Pairwise (· < ·) → (∀ k, k ∈ ns ↔ S k = true) → ns.length = n → Q (.ref p) s') :
    wpAny (model P w) A (call (.builtin "sorted") [.ref a]) Q E s := by
  obtain ⟨o, es, ep, t, ho, hex, hd, g, nd, hm, hb, hf, hn, hr, hl⟩ := R
  refine Calls.call_function_entry kind_sorted plain_sorted entry_sorted (args_sorted1 _) ?_
  unfold Builtin.«sorted»
  refine wpAny_bind (m := checkCount "sorted" 1 1 _) (wpAny_pure (wpAny_bind (collect_set (A := A.in1) hh ⟨o, ho, hex.1, hd⟩ hf hb hr hl fun s1 vs k1 hz g1 o1 pm => ?_)))
  have hvl : vs.length = n := by rw [pm.length_eq, List.length_map, Array.length_toList]; exact hn
  have hI : IntsAre vs (vs.map SrtO.iv) := SrtO.ints_iv fun v hv => by
    obtain ⟨e, he, q⟩ := List.mem_map.mp (pm.mem_iff.mp hv)
    obtain ⟨k, tk, h1, _⟩ := g e he
    exact ⟨k, tk, by rw [← q]; exact h1⟩
  have pk : (vs.map SrtO.iv).Perm (es.toList.map keyOf) := by
    have q := pm.map SrtO.iv
    rw [List.map_map] at q
    refine q.trans (List.Perm.of_eq (List.map_congr_left fun e he => ?_))
    obtain ⟨k, tk, h1, _⟩ := g e he
    simp [SrtO.iv, keyOf, h1]
  have hlv : vs.length ≤ sizeLine := by
    rw [hvl, sizeLine_eq]
    have : scanBound = 4096 := rfl
    omega
  refine wpAny_bind (wpAny_newList ?_ hlv)
  have hoL : (s1.heap.push (seqObj "list" vs.toArray 0)).get? s1.heap.objs.size = some (seqObj "list" vs.toArray 0) := Heap.get?_push_size _ rfl
  refine wpAny_bind (wpAny_holding (wpAny_call_entry slot_list_sort ⟨_, hoL, rfl⟩ entry_list_sort (SrtO.list_sort_ord SrtO.swo_int hoL hlv (fun h2 => SrtO.ints_sortable hI h2) fun out a1 a2 => ⟨_, rfl, ?_⟩) (args_list_sort _)))
  obtain ⟨b1, b2, b3⟩ := SrtO.ints_out hI a1 a2
  obtain ⟨c, hc⟩ := sortedHeap_at (vs := vs) (out := out.toArray) hoL
  have pn : (out.map SrtO.iv).Perm (es.toList.map keyOf) := b2.trans pk
  refine wpAny_pure ⟨_, rfl, hQ _ s1.heap.objs.size out c _ (fun b u e => ?_) g1 o1 hz hc b1 (lt_of_le_nodup _ b3 (pn.nodup_iff.mpr nd)) (fun k => by rw [pn.mem_iff, ← hm k]) ?_⟩
  · have q := k1 b u e
    have hlt := Heap.lt_size q
    show (sortedHeap (s1.heap.push (seqObj "list" vs.toArray 0)) s1.heap.objs.size vs out.toArray).get? b = some u
    rw [sortedHeap_old (show b ≠ s1.heap.objs.size from Nat.ne_of_lt hlt) (by rw [size_push']; exact Nat.lt_succ_of_lt hlt)]
    exact Heap.get?_push_of_some _ q
  · rw [pn.length_eq, List.length_map, Array.length_toList]
    exact hn
end
def tLenSet (K : PySem.W.Frag) (ta : TE) : TE := fun σ H Q => ta σ H fun x H1 => ∃ (l : Addr) (ns : List Int), x = .ref l ∧ SqL K H1 l (ns.map V.int) ∧ ns.length ≤ 4000 ∧ Q (.int ((dedup ns).length : Nat)) H1
def tSrtSet (K : PySem.W.Frag) (ta : TE) : TE := fun σ H Q => ta σ H fun x H1 => ∃ (l : Addr) (ns : List Int), x = .ref l ∧ SqL K H1 l (ns.map V.int) ∧ ns.length ≤ 4000 ∧ ∀ p, H1 p = none → Q (.ref p) (upd H1 p (.lst ((isort (dedup ns)).map V.int)))
section
variable {X : Cx} {a : Expr} {ta : TE} {p p2 q pos : Pos}
theorem pe_lenSet (hg : Gl X "len") (hm : X.mg "len" = none) (hg2 : Gl X "set") (hm2 : X.mg "set" = none) (hc : X.calm = true) (na : starEach [a] X.env = (false, eval a X.env) :: starEach [] X.env) (ha : PE X a ta) :
    PE X (.Call (.Name "len" p) [.Call (.Name "set" p2) [a] [] q] [] pos) (tLenSet X.K ta) := by
  refine ⟨fun pins s σ H Q I h => Call_ (ld_blt I hg hm boot_len (callWith_builtin1 (args_cons (Call_ (ld_blt I hg2 hm2 PyProof.Rows.boot_set ?_)) rfl) rfl rfl))⟩
  refine callWith_type1 (args_cons (thn (ha.run pins s σ H _ I h) fun v s1 ⟨x, H1, I1, r1, q1⟩ => args_nil ?_) na) na rfl
  obtain ⟨l, ns, rfl, hq, hl, q1⟩ := q1
  cases r1
  obtain ⟨its, r, pl, hz⟩ := I1.list hq
  refine set_of_list ns (I1.ok.hd hc) pl.isList (by simpa using intsAre_of r) (by unfold scanBound; omega) fun h' tk c hS hc' hk => args_nil ?_
  have hn := setR_len hS
  obtain ⟨o, es, ep, t, ho, hex, hd, _, _, _, hb, hf, hn2, _⟩ := hS
  have I2 : Inv X pins σ H1 { s1 with heap := h', toks := tk } := I1.kept fun b o e => hk b o e
  have hsz : (es.size : Int) < 2 ^ 63 := by
    have : scanBound = 4096 := rfl
    omega
  exact call_len_set ho hex hd hf hsz ⟨.int ((dedup ns).length : Nat), H1, I2.tok _, ⟨_, by rw [hn2, hn]⟩, q1⟩
theorem pe_srtSet (hg : Gl X "sorted") (hm : X.mg "sorted" = none) (hg2 : Gl X "set") (hm2 : X.mg "set" = none) (hc : X.calm = true) (na : starEach [a] X.env = (false, eval a X.env) :: starEach [] X.env) (ha : PE X a ta) :
    PE X (.Call (.Name "sorted" p) [.Call (.Name "set" p2) [a] [] q] [] pos) (tSrtSet X.K ta) := by
  refine ⟨fun pins s σ H Q I h => Call_ (ld_blt I hg hm PyProof.Rows.boot_sorted (callWith_builtin1 (args_cons (Call_ (ld_blt I hg2 hm2 PyProof.Rows.boot_set ?_)) rfl) rfl rfl))⟩
  refine callWith_type1 (args_cons (thn (ha.run pins s σ H _ I h) fun v s1 ⟨x, H1, I1, r1, q1⟩ => args_nil ?_) na) na rfl
  obtain ⟨l, ns, rfl, hq, hl, q1⟩ := q1
  cases r1
  obtain ⟨its, r, pl, hz⟩ := I1.list hq
  refine set_of_list ns (I1.ok.hd hc) pl.isList (by simpa using intsAre_of r) (by unfold scanBound; omega) fun h' tk c hS hc' hk => args_nil ?_
  have I2 : Inv X pins σ H1 { s1 with heap := h', toks := tk } := I1.kept fun b o e => hk b o e
  refine sorted_any (s := { s1 with heap := h', toks := tk }) hS (I1.ok.hd hc) fun s' p out c2 ms k g o hp hgt hi hs hmm hl2 => ?_
  have em : isort (dedup ns) = ms := sortSet_uniq hs fun x => by rw [hmm x]; simp
  subst em
  have hlen : ((isort (dedup ns)).map V.int).length ≤ sizeLine := by
    rw [List.length_map, (isort_perm _).length_eq]
    have := dedup_len ns
    rw [sizeLine_eq]
    omega
  have hn : H1 p = none := I2.hok.fresh hp
  have J := L2.Inv.call (g' := s'.gens) (t' := s'.toks) (d' := s'.drawn) (h' := s'.heap) (H' := upd H1 p (.lst ((isort (dedup ns)).map V.int))) (ch := []) I2 (Un.laid k hp hn) (I2.hok.laid k hp ⟨hlen, out, c2, vals_of_ints hi, hgt⟩) (by rw [g]; exact I2.bare) (fun _ z => nomatch z)
  have e : s' = { s1 with heap := s'.heap, gens := s'.gens, drawn := s'.drawn, toks := s'.toks } := by
    cases s'
    cases s1
    cases o
    rfl
  rw [e]
  exact ⟨.ref p, _, J, rfl, q1 p hn⟩
end
end Sk
set_option Elab.async false
set_option linter.all false
set_option maxRecDepth 100000
set_option maxHeartbeats 4000000
namespace Sk
open PySem L2
section
variable {P : Program} {w : World} {K : PySem.W.Frag} {mg : Str → Option Value} {base : Heap} {T : Fn → Spec} {cl : Exn → Value} {k : Nat} {C : Ck} {W : WX} {sc : Scope} {F : Cx → Prop}

/-! sets -/
theorem snd_lenSet (tp : Tp P w K mg base T cl k C) (fm : Fam P w K mg base k C W sc F) {x y : Str} {a : Expr} {e : E} {p pos q p2 : Pos} (h1 : x = ("len" : Str)) (h2 : bltB C sc x = true) (h3 : y = ("set" : Str)) (h4 : bltB C sc y = true) (hn : NoStar a) (ha : SndE T cl W F a e) :
    SndE T cl W F (.Call (.Name x p) [.Call (.Name y p2) [a] [] q] [] pos) (.lenSet e) := by
  obtain ⟨ta, pa, ra⟩ := ha
  subst h1
  subst h3
  refine ⟨tLenSet K ta, fun X hX => ?_, fun R B σ H G Q Qd Xd g rp hw hq hx => ?_⟩
  · have h := pe_lenSet (p := p) (p2 := p2) (q := q) (pos := pos) (blt_of tp fm hX h2).1 (blt_of tp fm hX h2).2.1 (blt_of tp fm hX h4).1 (blt_of tp fm hX h4).2.1 (fm.cm X hX) (hn _ _) (pa X hX)
    rw [fm.kk X hX] at h
    exact h
  · refine ra R B σ H G _ _ Xd g rp (by simp only [wpE] at hw; exact hw) (fun v d B1 H1 s1 r1 w1 => ?_) hx
    obtain ⟨xs, rfl, hl, w2⟩ := asList_some w1
    obtain ⟨z, e1, w3⟩ := must_some w2
    obtain ⟨ns, e2, rfl⟩ := Option.map_eq_some_iff.mp e1
    obtain ⟨ad, ys, rfl, h5, h6⟩ := r1.list
    have h7 := h6.ints e2
    refine ⟨ad, ns, rfl, SqL.of (by rw [← h7]; exact s1.gd.ex _ _ h5), ?_, hq _ _ B1 H1 s1 (.inl (.int _)) w3⟩
    have := h6.len
    rw [h7, List.length_map] at this
    omega
theorem snd_srtSet (tp : Tp P w K mg base T cl k C) (fm : Fam P w K mg base k C W sc F) {x y : Str} {a : Expr} {e : E} {p pos q p2 : Pos} (h1 : x = ("sorted" : Str)) (h2 : bltB C sc x = true) (h3 : y = ("set" : Str)) (h4 : bltB C sc y = true) (hn : NoStar a) (ha : SndE T cl W F a e) :
    SndE T cl W F (.Call (.Name x p) [.Call (.Name y p2) [a] [] q] [] pos) (.srtSet e) := by
  obtain ⟨ta, pa, ra⟩ := ha
  subst h1
  subst h3
  refine ⟨tSrtSet K ta, fun X hX => ?_, fun R B σ H G Q Qd Xd g rp hw hq hx => ?_⟩
  · have h := pe_srtSet (p := p) (p2 := p2) (q := q) (pos := pos) (blt_of tp fm hX h2).1 (blt_of tp fm hX h2).2.1 (blt_of tp fm hX h4).1 (blt_of tp fm hX h4).2.1 (fm.cm X hX) (hn _ _) (pa X hX)
    rw [fm.kk X hX] at h
    exact h
  · refine ra R B σ H G _ _ Xd g rp (by simp only [wpE] at hw; exact hw) (fun v d B1 H1 s1 r1 w1 => ?_) hx
    obtain ⟨xs, rfl, hl, w2⟩ := asList_some w1
    obtain ⟨z, e1, w3⟩ := must_some w2
    obtain ⟨ns, e2, rfl⟩ := Option.map_eq_some_iff.mp e1
    obtain ⟨ad, ys, rfl, h5, h6⟩ := r1.list
    have h7 := h6.ints e2
    refine ⟨ad, ns, rfl, SqL.of (by rw [← h7]; exact s1.gd.ex _ _ h5), ?_, fun p hp => newL s1.gd hp (RpAll.ofInts _) fun v B' H' s' r' => hq v _ B' H' (s1.trans s') r' w3⟩
    have := h6.len
    rw [h7, List.length_map] at this
    omega
/-! list(range(..)) -/
theorem rgV_rp {B : Hp} (l h : Int) : RpAll B (rgV l h) (rangeD l (h - l).toNat) := by
  unfold rgV rangeD
  induction (List.range (h - l).toNat) with
  | nil => exact .nil
  | cons x r ih => exact .cons (.int _) ih
theorem newF {R : Rg} {B H : Hp} {Q : VK} {p : Addr} {vs : List V} {ds : List D} (g : Gd R B H) (hp : H p = none) (r : RpAll B vs ds)
    (q : ∀ p vs ds' B' H', Step R B H B' H' → H p = none → B' p = none → H' p = some (.lst vs) → RpAll B' vs ds' → ds' = ds → Q (.ref p) H') : Q (.ref p) (upd H p (.lst vs)) := by
  have hpB : B p = none := by
    cases q : B p with
    | none => rfl
    | some o => rw [g.ex _ _ q] at hp; cases hp
  exact q p vs ds B _ (Step.newH g hp) hp hpB upd_same r rfl
theorem sndF_lstRg1 (tp : Tp P w K mg base T cl k C) (fm : Fam P w K mg base k C W sc F) {x y : Str} {b : Expr} {hi c : O} {p pos q p2 : Pos} (h1 : x = ("list" : Str)) (h2 : bltB C sc x = true) (h3 : y = ("range" : Str)) (h4 : bltB C sc y = true) (hn : NoStar b)
    (hb : ∃ e, hi = .some e ∧ SndE T cl W F b e) : SndF T cl W F (.Call (.Name x p) [.Call (.Name y p2) [b] [] q] [] pos) (.lstRg (.some (.ci 0)) hi c) := by
  obtain ⟨e, rfl, tb, pb, rb⟩ := hb
  subst h1
  subst h3
  refine ⟨tLstRg (tRg1 tb), fun X hX => ?_, fun R B σ H G Q Qd Xd g rp hw hq hx => ?_⟩
  · exact pe_listRg (fm.cm X hX) (blt_of tp fm hX h2).1 (blt_of tp fm hX h2).2.1 (prg_1 (blt_of tp fm hX h4).1 (blt_of tp fm hX h4).2.1 (pb X hX) (hn _ _)) rfl
  · simp only [wpE, wpO, asInt] at hw
    refine rb R B σ H G _ _ Xd g rp hw (fun v d B1 H1 s1 r1 w1 => ?_) hx
    obtain ⟨n, rfl, ⟨a1, a2, a3, a4⟩, w2⟩ := asInt_some w1
    refine ⟨n, r1.int, ⟨by omega, by omega, by unfold big at *; omega, by unfold big at *; omega, by omega⟩, fun p hp => newF (ds := rangeD 0 (n - 0).toNat) s1.gd hp (rgV_rp _ _) fun p vs ds' B' H' s' b1 b2 b3 b4 e => ?_⟩
    subst e
    exact hq p vs _ B' H' (s1.trans s') (s1.fresh b1) b2 b3 b4 w2
theorem sndF_lstRg2 (tp : Tp P w K mg base T cl k C) (fm : Fam P w K mg base k C W sc F) {x y : Str} {a b : Expr} {lo hi c : O} {p pos q p2 : Pos} (h1 : x = ("list" : Str)) (h2 : bltB C sc x = true) (h3 : y = ("range" : Str)) (h4 : bltB C sc y = true) (hna : NoStar a) (hn : NoStar b)
    (ha : ∃ e, lo = .some e ∧ SndE T cl W F a e) (hb : ∃ e, hi = .some e ∧ SndE T cl W F b e) : SndF T cl W F (.Call (.Name x p) [.Call (.Name y p2) [a, b] [] q] [] pos) (.lstRg lo hi c) := by
  obtain ⟨e2, rfl, ta, pa, ra⟩ := ha
  obtain ⟨e, rfl, tb, pb, rb⟩ := hb
  subst h1
  subst h3
  refine ⟨tLstRg (tRg2 ta tb), fun X hX => ?_, fun R B σ H G Q Qd Xd g rp hw hq hx => ?_⟩
  · exact pe_listRg (fm.cm X hX) (blt_of tp fm hX h2).1 (blt_of tp fm hX h2).2.1 (prg_2 (blt_of tp fm hX h4).1 (blt_of tp fm hX h4).2.1 (pa X hX) (pb X hX) (hna _ _) (hn _ _) (noStars_any (fun z hz => by rw [List.mem_singleton.mp hz]; exact hn) _ _)) rfl
  · simp only [wpE, wpO] at hw
    refine ra R B σ H G _ _ Xd g rp hw (fun v d B1 H1 s1 r1 w1 => ?_) hx
    obtain ⟨l, rfl, w2⟩ := asInt_some w1
    refine rb R B1 σ H1 G _ _ Xd s1.gd (rp.mono s1.sb) w2 (fun u d2 B2 H2 s2 r2 w3 => ?_) (fun x B' H' s' => hx x B' H' (s1.trans s'))
    obtain ⟨n, rfl, ⟨a1, a2, a3, a4⟩, w4⟩ := asInt_some w3
    refine ⟨l, n, r1.int, r2.int, ⟨by unfold big at *; omega, by unfold big at *; omega, ?_, by unfold big at *; omega, by omega⟩, fun p hp => newF (ds := rangeD l (n - l).toNat) s2.gd hp (rgV_rp _ _) fun p vs ds' B' H' s' b1 b2 b3 b4 e => ?_⟩
    · unfold big at *; omega
    · subst e
      exact hq p vs _ B' H' ((s1.trans s2).trans s') ((s1.trans s2).fresh b1) b2 b3 b4 w4
/-! list(range(a, b, c)) -/
def rgV3 (a c : Int) (n : Nat) : List V := (List.range n).map fun (i : Nat) => V.int (a + i * c)
def tLstRg3 (ta : TA) : TE := fun σ H Q => ta σ H fun vs H1 => ∃ (i j c : Int) (n : Nat), vs = [.int i, .int j, .int c] ∧ RgC i j c n ∧ n ≤ 100000 ∧ ∀ q, H1 q = none → Q (.ref q) (upd H1 q (.lst (rgV3 i c n)))
theorem vals_rg3 {a c : Int} {n : Nat} {acc : Array Value} (h : ItemsOf (fun i v => ∃ t, v = .int (a + i * c) t) acc n) : Vals (rgV3 a c n) acc.toList := by
  have e : acc.toList.length = n := by rw [Array.length_toList]; exact h.1
  unfold rgV3
  rw [← e]
  refine vals_of_get acc.toList _ fun j u hj => ?_
  obtain ⟨t, rfl⟩ := h.2 j u (by rw [← hj, Array.getElem?_toList])
  exact ⟨t, rfl⟩
open PySem.Spec PyProof.Rows in
theorem pe_listRg3 {X : Cx} {a b c : Expr} {ta : TA} {p pos q p2 : Pos} (hc : X.calm = true) (hg : Gl X "list") (hm : X.mg "list" = none) (hg2 : Gl X "range") (hm2 : X.mg "range" = none) (ha : PA X [a, b, c] ta)
    (hs : starEach [a, b, c] X.env = (false, eval a X.env) :: starEach [b, c] X.env) (hpl : (backTo q (starEach [b, c] X.env)).any (·.1) = false)
    (na : starEach [Expr.Call (.Name "range" p2) [a, b, c] [] q] X.env = (false, eval (Expr.Call (.Name "range" p2) [a, b, c] [] q) X.env) :: starEach [] X.env := by rfl) : PE X (.Call (.Name "list" p) [.Call (.Name "range" p2) [a, b, c] [] q] [] pos) (tLstRg3 ta) := by
  refine ⟨fun pins s σ H Q I h => ?_⟩
  have inner : wpAny (model X.prog X.w) X.A (eval (Expr.Call (.Name "range" p2) [a, b, c] [] q) X.env) (fun x s' => ∃ (r : Addr) (i j c : Int) (n : Nat) (t u v : Tok) (H' : Hp), x = .ref r ∧ IsRange s'.heap r i j c t u v ∧ Inv X pins σ H' s' ∧ RgC i j c n ∧ n ≤ 100000 ∧ ∀ q, H' q = none → Q (.ref q) (upd H' q (.lst (rgV3 i c n)))) X.xe s := by
    refine Call_ (ld_blt I hg2 hm2 boot_range (PyProof.Rows.callWith_type1 (thn (ha.run q pins s σ H _ I h) fun us s1 ⟨vs, H1, I1, r1, q1⟩ => ?_) hs hpl))
    obtain ⟨i, j, k, n, e, rc, hn, q⟩ := q1
    subst e
    cases r1 with
    | cons r rr =>
      cases rr with
      | cons r' rr =>
        cases rr with
        | cons r'' rr =>
          cases rr
          obtain ⟨t, rfl⟩ := r
          obtain ⟨t', rfl⟩ := r'
          obtain ⟨t'', rfl⟩ := r''
          exact call_range_3 rc.1 ⟨_, i, j, k, n, _, _, _, H1, rfl, IsRange.new _ _ _ _ _ _ _, I1.kept fun b u e => Heap.get?_push_of_some _ e, rc, hn, q⟩ (.inl (PyProof.noPylong_small rc.2.1))
  refine Call_ (ld_blt I hg hm boot_list (PyProof.Rows.callWith_type1 (args_cons (thn inner fun x s1 ⟨r, i, j, c, n, t, u, v, H1, ex, hr, I1, rc, hn, q⟩ => args_nil ?_) na) na))
  subst ex
  refine call_list_range (n := n) (I1.ok.hd hc) hr rc.2.2.1 rc.2.2.2 (by omega) fun h' tk acc c' hk e' hi => ?_
  refine ⟨.ref s1.heap.objs.size, upd H1 s1.heap.objs.size (.lst (rgV3 i c n)), I1.laid hk (Nat.le_refl _) (show ObjOk X.prog X.w _ _ _ (.lst (rgV3 i c n)) from ⟨?_, acc.toList, c', vals_rg3 hi, ?_⟩), rfl, q _ (I1.hok.fresh (Nat.le_refl _))⟩
  · have : (rgV3 i c n).length = n := by unfold rgV3; simp
    rw [this]
    exact Nat.le_trans hn (show 100000 ≤ sizeLine by decide)
  · rw [Array.toArray_toList]; exact e'
theorem rgV3_rp {B : Hp} (l c : Int) (n : Nat) : RpAll B (rgV3 l c n) (rangeS l c n) := by
  unfold rgV3 rangeS
  induction (List.range n) with
  | nil => exact .nil
  | cons x r ih => exact .cons (.int _) ih
theorem rgC_pos {i j c : Int} (i0 : 0 ≤ i) (i1 : i ≤ 1000) (j0 : 0 ≤ j) (j1 : j ≤ 1000) (c0 : 0 < c) (c1 : c ≤ 1000) : RgC i j c (rgN i j c) ∧ rgN i j c ≤ 100000 := by
  have q0 : i < j → 0 ≤ (j - i - 1) / c := fun h => Int.ediv_nonneg (by omega) (by omega)
  have q1 : i < j → (j - i - 1) / c ≤ j - i - 1 := fun h => Int.ediv_le_self _ (by omega)
  have sz : Builtin.Range.rangeSize i j c = rgN i j c := by
    unfold Builtin.Range.rangeSize rgN
    rw [if_pos (show c > 0 from c0)]
    by_cases h : i < j
    · have := q0 h
      rw [if_pos h, if_pos h]
      omega
    · rw [if_neg h, if_neg h]
      rfl
  have le : (rgN i j c : Int) ≤ 1000 := by
    unfold rgN
    by_cases h : i < j
    · have := q0 h
      have := q1 h
      rw [if_pos h]
      omega
    · rw [if_neg h]
      omega
  refine ⟨⟨by omega, by omega, ?_, sz⟩, by omega⟩
  unfold Builtin.Range.small
  rw [sz]
  simp only [Builtin.Range.rangeFitsLong, Bool.and_eq_true, Bool.or_eq_true, decide_eq_true_eq, beq_iff_eq, show c > 0 from c0, if_true]
  omega
theorem snd_lstRg3 (tp : Tp P w K mg base T cl k C) (fm : Fam P w K mg base k C W sc F) {x y : Str} {a b c : Expr} {e f u : E} {p pos q p2 : Pos} (h1 : x = ("list" : Str)) (h2 : bltB C sc x = true) (h3 : y = ("range" : Str)) (h4 : bltB C sc y = true) (hn : NoStar a) (hn2 : NoStar b) (hn3 : NoStar c)
    (ha : SndE T cl W F a e) (hb : SndE T cl W F b f) (hc : SndE T cl W F c u) : SndE T cl W F (.Call (.Name x p) [.Call (.Name y p2) [a, b, c] [] q] [] pos) (.lstRg3 e f u) := by
  obtain ⟨ta, pa, ra⟩ := ha
  obtain ⟨tb, pb, rb⟩ := hb
  obtain ⟨tc, pc, rc⟩ := hc
  subst h1
  subst h3
  refine ⟨tLstRg3 (tCons ta (tCons tb (tCons tc tNil))), fun X hX => ?_, fun R B σ H G Q Qd Xd g rp hw hq hx => ?_⟩
  · exact pe_listRg3 (fm.cm X hX) (blt_of tp fm hX h2).1 (blt_of tp fm hX h2).2.1 (blt_of tp fm hX h4).1 (blt_of tp fm hX h4).2.1 (pa_cons (pa X hX) (pa_cons (pb X hX) (pa_cons (pc X hX) pa_nil (hn3 _ _)) (hn2 _ _)) (hn _ _)) (hn _ _)
      (noStars_any (fun z hz => by rcases List.mem_cons.mp hz with rfl | hz; exact hn2; rw [List.mem_singleton.mp hz]; exact hn3) _ _) rfl
  · refine ra R B σ H G _ _ Xd g rp (by simp only [wpE] at hw; exact hw) (fun v d B1 H1 s1 r1 w1 => ?_) hx
    obtain ⟨l, rfl, w2⟩ := asInt_some w1
    refine rb R B1 σ H1 G _ _ Xd s1.gd (rp.mono s1.sb) w2 (fun u d2 B2 H2 s2 r2 w3 => ?_) (fun x B' H' s' => hx x B' H' (s1.trans s'))
    obtain ⟨n, rfl, w4⟩ := asInt_some w3
    refine rc R B2 σ H2 G _ _ Xd s2.gd ((rp.mono s1.sb).mono s2.sb) w4 (fun u d2 B3 H3 s3 r3 w5 => ?_) (fun x B' H' s' => hx x B' H' ((s1.trans s2).trans s'))
    obtain ⟨c, rfl, ⟨b1, b2, b3, b4, b5, b6⟩, w6⟩ := asInt_some w5
    obtain ⟨k1, k2⟩ := rgC_pos b1 b2 b3 b4 b5 b6
    exact ⟨l, n, c, rgN l n c, by rw [r1.int, r2.int, r3.int], k1, k2, fun p hp => newL s3.gd hp (rgV3_rp _ _ _) fun v B' H' s' r' => hq v _ B' H' (((s1.trans s2).trans s3).trans s') r' w6⟩
end
end Sk
set_option Elab.async false
set_option linter.all false
set_option maxRecDepth 100000
set_option maxHeartbeats 4000000
namespace Sk
open PySem L2
section
variable {P : Program} {w : World} {K : PySem.W.Frag} {mg : Str → Option Value} {base : Heap} {T : Fn → Spec} {cl : Exn → Value} {k : Nat} {C : Ck} {W : WX} {sc : Scope} {F : Cx → Prop}

/-! what is walked -/
def ItOk (R : Rg) (B : Hp) (J : L2.It) (xs : List D) : Prop := ∃ (Gp : Hp → Prop) (Y : Nat → Hp → V → Hp → Prop), Walk J xs.length Gp Y ∧ (∀ H, (∀ b o, B b = some o → H b = some o) → Gp H) ∧
  ∀ i H x H' B1 d, Gd R B1 H → (∀ b o, B b = some o → B1 b = some o) → xs[i]? = some d → Y i H x H' → ∃ B2, Step R B1 H B2 H' ∧ RV R B2 x d
def RdI (T : Fn → Spec) (cl : Exn → Value) (W : WX) (wi : TI) (it : It) : Prop := ∀ (R : Rg) (B : Hp) (σ : L2.St) (H : Hp) (G : Ev) (Rk : L2.It → Hp → Prop) (Qd : List D → Prop) (Xd : Exn → Prop), Gd R B H → RepE R B σ G → wpI T it G Qd Xd →
  (∀ xs J B' H', Step R B H B' H' → ItOk R B' J xs → Qd xs → Rk J H') → (∀ x B' H', Step R B H B' H' → Xd x → W (cl x) none σ H') → wi σ H Rk
def SndI (T : Fn → Spec) (cl : Exn → Value) (W : WX) (F : Cx → Prop) (tg a : Expr) (it : It) : Prop := ∃ wi, (∀ X, F X → PI X tg a wi) ∧ RdI T cl W wi it
theorem itok_list {R : Rg} {B : Hp} {a : Addr} {vs : List V} {ds : List D} (h : B a = some (.lst vs)) (r : RpAll B vs ds) : ItOk R B (Itl K a) ds := by
  refine ⟨_, _, by rw [← r.len]; exact walk_list (K := K) (a := a), fun H ex => SqL.of (ex _ _ h), fun i H x H' B1 d g hb e y => ?_⟩
  obtain ⟨rfl, e2⟩ := y
  obtain ⟨v, e3, r3⟩ := r.get e
  rw [e2] at e3
  cases e3
  exact ⟨B1, Step.refl g, .inl (Rp.mono hb r3)⟩
theorem itok_tup {R : Rg} {B : Hp} {a : Addr} {vs : List V} {ds : List D} (h : B a = some (.tup vs)) (r : RpAll B vs ds) : ItOk R B (Itt K a) ds := by
  refine ⟨_, _, by rw [← r.len]; exact walk_tup (K := K) (a := a), fun H ex => SqT.of (ex _ _ h), fun i H x H' B1 d g hb e y => ?_⟩
  obtain ⟨rfl, e2⟩ := y
  obtain ⟨v, e3, r3⟩ := r.get e
  rw [e2] at e3
  cases e3
  exact ⟨B1, Step.refl g, .inl (Rp.mono hb r3)⟩
theorem itok_rg {R : Rg} {B : Hp} {lo : Int} {n : Nat} : ItOk R B (Itr lo n) (rangeD lo n) := by
  refine ⟨_, _, by have : (rangeD lo n).length = n := by simp [rangeD]
                   rw [this]; exact walk_range, fun _ _ => trivial, fun i H x H' B1 d g hb e y => ?_⟩
  obtain ⟨rfl, rfl⟩ := y
  unfold rangeD at e
  rw [List.getElem?_map] at e
  obtain ⟨j, e1, rfl⟩ := Option.map_eq_some_iff.mp e
  have : i = j := by
    obtain ⟨h1, h2⟩ := List.getElem?_eq_some_iff.mp e1
    simpa using h2
  subst this
  exact ⟨B1, Step.refl g, .inl (.int _)⟩
theorem itok_rgD {R : Rg} {B : Hp} {lo : Int} {n : Nat} : ItOk R B (Itc lo (-1) n) (rangeDown lo n) := by
  refine ⟨_, _, by have : (rangeDown lo n).length = n := by simp [rangeDown]
                   rw [this]; exact walk_rangeC, fun _ _ => trivial, fun i H x H' B1 d g hb e y => ?_⟩
  obtain ⟨rfl, rfl⟩ := y
  unfold rangeDown at e
  rw [List.getElem?_map] at e
  obtain ⟨j, e1, rfl⟩ := Option.map_eq_some_iff.mp e
  have : i = j := by
    obtain ⟨h1, h2⟩ := List.getElem?_eq_some_iff.mp e1
    simpa using h2
  subst this
  have e2 : lo + (i : Nat) * (-1) = lo - (i : Nat) := by omega
  refine ⟨B1, Step.refl g, ?_⟩
  show RV R B1 (V.int (lo + (i : Nat) * (-1))) _
  rw [e2]
  exact .inl (.int _)
theorem itok_str {R : Rg} {B : Hp} {z : Str} : ItOk R B (Its z) (z.cps.toList.map fun c => .str ⟨#[c]⟩) := by
  refine ⟨_, _, by rw [List.length_map, Array.length_toList]; exact walk_str, fun _ _ => trivial, fun i H x H' B1 d g hb e y => ?_⟩
  obtain ⟨rfl, c, e1, rfl⟩ := y
  rw [List.getElem?_map] at e
  obtain ⟨j, e2, rfl⟩ := Option.map_eq_some_iff.mp e
  rw [Array.getElem?_toList, e1] at e2
  cases e2
  exact ⟨B1, Step.refl g, .inl (.str _)⟩
theorem itok_zip {R : Rg} {B : Hp} {a b : Addr} {xs ys : List V} {ds es : List D} (h : B a = some (.lst xs)) (r : RpAll B xs ds) (h' : B b = some (.lst ys)) (r' : RpAll B ys es) : ItOk R B (Itz K a b) ((ds.zip es).map fun p => .tuple [p.1, p.2]) := by
  refine ⟨fun H => SqL K H a xs ∧ SqL K H b ys, YPair (fun i => xs[i]?) (fun i => ys[i]?), by rw [List.length_map, List.length_zip]; exact walk_zip (by rw [r.len, r'.len]), fun H ex => ⟨SqL.of (ex _ _ h), SqL.of (ex _ _ h')⟩, fun i H x H' B1 d g hb e y => ?_⟩
  obtain ⟨tt, u, v, rfl, hT, rfl, e1, e2⟩ := y
  obtain ⟨d1, f1, q1⟩ := r.getV e1
  obtain ⟨d2, f2, q2⟩ := r'.getV e2
  have e3 : d = .tuple [d1, d2] := by
    rw [List.getElem?_map, (List.getElem?_zip_eq_some (z := (d1, d2))).mpr ⟨f1, f2⟩] at e
    exact (Option.some.inj e).symm
  subst e3
  have st := Step.new (o := .tup [u, v]) g hT
  exact ⟨_, st, .inl (.tup upd_same (.cons (Rp.mono (fun b o z => st.sb b o (hb b o z)) q1) (.cons (Rp.mono (fun b o z => st.sb b o (hb b o z)) q2) .nil)))⟩
theorem sndI_list (fm : Fam P w K mg base k C W sc F) {tg a : Expr} {e : E} (ha : SndE T cl W F a e) : SndI T cl W F tg a (.list e) := by
  obtain ⟨ta, pa, ra⟩ := ha
  refine ⟨iList K ta, fun X hX => by have h := pi_list (tg := tg) (pa X hX); rw [fm.kk X hX] at h; exact h, fun R B σ H G Rk Qd Xd g rp hw hq hx => ?_⟩
  refine ra R B σ H G _ _ Xd g rp (by simp only [wpI] at hw; exact hw) (fun v d B1 H1 s1 r1 w1 => ?_) hx
  obtain ⟨xs, rfl, w2⟩ := asList_some w1
  obtain ⟨ad, ys, rfl, h5, h6⟩ := r1.list
  exact ⟨ad, rfl, ⟨ys, SqL.of (s1.gd.ex _ _ h5)⟩, hq xs _ B1 H1 s1 (itok_list h5 h6) w2⟩
theorem sndI_tup (fm : Fam P w K mg base k C W sc F) {tg a : Expr} {e : E} (ha : SndE T cl W F a e) : SndI T cl W F tg a (.tup e) := by
  obtain ⟨ta, pa, ra⟩ := ha
  refine ⟨iTup K ta, fun X hX => by have h := pi_tup (tg := tg) (pa X hX); rw [fm.kk X hX] at h; exact h, fun R B σ H G Rk Qd Xd g rp hw hq hx => ?_⟩
  refine ra R B σ H G _ _ Xd g rp (by simp only [wpI] at hw; exact hw) (fun v d B1 H1 s1 r1 w1 => ?_) hx
  obtain ⟨xs, rfl, w2⟩ := asTup_some w1
  obtain ⟨ad, ys, rfl, h5, h6⟩ := r1.tuple
  exact ⟨ad, rfl, ⟨ys, SqT.of (s1.gd.ex _ _ h5)⟩, hq xs _ B1 H1 s1 (itok_tup h5 h6) w2⟩
theorem sndI_str {tg a : Expr} {e : E} (ha : SndE T cl W F a e) : SndI T cl W F tg a (.str e) := by
  obtain ⟨ta, pa, ra⟩ := ha
  refine ⟨iStr ta, fun X hX => pi_str (pa X hX), fun R B σ H G Rk Qd Xd g rp hw hq hx => ?_⟩
  refine ra R B σ H G _ _ Xd g rp (by simp only [wpI] at hw; exact hw) (fun v d B1 H1 s1 r1 w1 => ?_) hx
  match d, r1, w1 with
  | .str z, r1, w1 => exact ⟨z, r1.str, hq _ _ B1 H1 s1 itok_str w1⟩
theorem sndI_rg1 (tp : Tp P w K mg base T cl k C) (fm : Fam P w K mg base k C W sc F) {tg a : Expr} {x : Str} {p pos : Pos} {e : E} (h1 : x = ("range" : Str)) (h2 : bltB C sc x = true) (hn : NoStar a) (ha : SndE T cl W F a e) : SndI T cl W F tg (.Call (.Name x p) [a] [] pos) (.rg1 e) := by
  obtain ⟨ta, pa, ra⟩ := ha
  subst h1
  refine ⟨iRng1 (tCons ta tNil), fun X hX => pi_range1 (blt_of tp fm hX h2).1 (blt_of tp fm hX h2).2.1 (pa_cons (pa X hX) pa_nil (hn _ _)) (hn _ _), fun R B σ H G Rk Qd Xd g rp hw hq hx => ?_⟩
  refine ra R B σ H G _ _ Xd g rp (by simp only [wpI] at hw; exact hw) (fun v d B1 H1 s1 r1 w1 => ?_) hx
  obtain ⟨n, rfl, b1, b2, w2⟩ := asInt_some w1
  exact ⟨n, by rw [r1.int], by unfold big at *; omega, by unfold big at *; omega, hq _ _ B1 H1 s1 itok_rg w2⟩
theorem sndI_rg2 (tp : Tp P w K mg base T cl k C) (fm : Fam P w K mg base k C W sc F) {tg a b : Expr} {x : Str} {p pos : Pos} {e f : E} (h1 : x = ("range" : Str)) (h2 : bltB C sc x = true) (hn : NoStar a) (hn2 : NoStar b) (ha : SndE T cl W F a e) (hb : SndE T cl W F b f) :
    SndI T cl W F tg (.Call (.Name x p) [a, b] [] pos) (.rg2 e f) := by
  obtain ⟨ta, pa, ra⟩ := ha
  obtain ⟨tb, pb, rb⟩ := hb
  subst h1
  refine ⟨iRng2 (tCons ta (tCons tb tNil)), fun X hX => pi_range2 (blt_of tp fm hX h2).1 (blt_of tp fm hX h2).2.1 (pa_cons (pa X hX) (pa_cons (pb X hX) pa_nil (hn2 _ _)) (hn _ _)) (by rw [hn, hn2]; rfl) (by rw [hn2]; rfl), fun R B σ H G Rk Qd Xd g rp hw hq hx => ?_⟩
  refine ra R B σ H G _ _ Xd g rp (by simp only [wpI] at hw; exact hw) (fun v d B1 H1 s1 r1 w1 => ?_) hx
  obtain ⟨l, rfl, w2⟩ := asInt_some w1
  refine rb R B1 σ H1 G _ _ Xd s1.gd (rp.mono s1.sb) w2 (fun u d2 B2 H2 s2 r2 w3 => ?_) (fun x B' H' s' => hx x B' H' (s1.trans s'))
  obtain ⟨n, rfl, ⟨b1, b2, b3, b4⟩, w4⟩ := asInt_some w3
  exact ⟨l, n, by rw [r1.int, r2.int], ⟨by unfold big at *; omega, by unfold big at *; omega, by unfold big at *; omega, by unfold big at *; omega⟩, hq _ _ B2 H2 (s1.trans s2) itok_rg w4⟩
theorem sndI_rg3 (tp : Tp P w K mg base T cl k C) (fm : Fam P w K mg base k C W sc F) {tg a b c : Expr} {x : Str} {p pos : Pos} {e f u : E} (h1 : x = ("range" : Str)) (h2 : bltB C sc x = true) (hn : NoStar a) (hn2 : NoStar b) (hn3 : NoStar c) (ha : SndE T cl W F a e) (hb : SndE T cl W F b f) (hc : SndE T cl W F c u) :
    SndI T cl W F tg (.Call (.Name x p) [a, b, c] [] pos) (.rg3 e f u) := by
  obtain ⟨ta, pa, ra⟩ := ha
  obtain ⟨tb, pb, rb⟩ := hb
  obtain ⟨tc, pc, rc⟩ := hc
  subst h1
  refine ⟨iRng3 (tCons ta (tCons tb (tCons tc tNil))), fun X hX => pi_range3 (blt_of tp fm hX h2).1 (blt_of tp fm hX h2).2.1 (pa_cons (pa X hX) (pa_cons (pb X hX) (pa_cons (pc X hX) pa_nil (hn3 _ _)) (hn2 _ _)) (hn _ _)) (hn _ _)
    (noStars_any (fun z hz => by rcases List.mem_cons.mp hz with rfl | hz; exact hn2; rw [List.mem_singleton.mp hz]; exact hn3) _ _), fun R B σ H G Rk Qd Xd g rp hw hq hx => ?_⟩
  refine ra R B σ H G _ _ Xd g rp (by simp only [wpI] at hw; exact hw) (fun v d B1 H1 s1 r1 w1 => ?_) hx
  obtain ⟨l, rfl, w2⟩ := asInt_some w1
  refine rb R B1 σ H1 G _ _ Xd s1.gd (rp.mono s1.sb) w2 (fun u d2 B2 H2 s2 r2 w3 => ?_) (fun x B' H' s' => hx x B' H' (s1.trans s'))
  obtain ⟨n, rfl, w4⟩ := asInt_some w3
  refine rc R B2 σ H2 G _ _ Xd s2.gd ((rp.mono s1.sb).mono s2.sb) w4 (fun u d2 B3 H3 s3 r3 w5 => ?_) (fun x B' H' s' => hx x B' H' ((s1.trans s2).trans s'))
  obtain ⟨c, rfl, rfl, ⟨b1, b2, b3, b4⟩, w6⟩ := asInt_some w5
  exact ⟨l, n, -1, (l - n).toNat, by rw [r1.int, r2.int, r3.int], RgC.neg (by unfold big at *; omega) (by unfold big at *; omega) (by unfold big at *; omega) (by unfold big at *; omega), hq _ _ B3 H3 ((s1.trans s2).trans s3) itok_rgD w6⟩
theorem sndI_zip (tp : Tp P w K mg base T cl k C) (fm : Fam P w K mg base k C W sc F) {tg a b : Expr} {x : Str} {p pos : Pos} {e f : E} (ht : isTupE tg = true) (h1 : x = ("zip" : Str)) (h2 : bltB C sc x = true) (hn : NoStar a) (hn2 : NoStar b) (ha : SndE T cl W F a e) (hb : SndE T cl W F b f) :
    SndI T cl W F tg (.Call (.Name x p) [a, b] [] pos) (.zip e f) := by
  obtain ⟨ta, pa, ra⟩ := ha
  obtain ⟨tb, pb, rb⟩ := hb
  subst h1
  cases tg <;> simp only [isTupE, Bool.false_eq_true] at ht
  rename_i elts k_1 pos_1
  refine ⟨iZip K (tCons ta (tCons tb tNil)), fun X hX => ?_, fun R B σ H G Rk Qd Xd g rp hw hq hx => ?_⟩
  · have h := pi_zip (p := p) (elts := elts) (kk := k_1) (tpos := pos_1) (blt_of tp fm hX h2).1 (blt_of tp fm hX h2).2.1 (pa_cons (pa X hX) (pa_cons (pb X hX) pa_nil (hn2 _ _)) (hn _ _)) (hn _ _) (noStars_any (pos := pos) (fun z hz => by rw [List.mem_singleton.mp hz]; exact hn2) _)
    rw [fm.kk X hX] at h
    exact h
  refine ra R B σ H G _ _ Xd g rp (by simp only [wpI] at hw; exact hw) (fun v d B1 H1 s1 r1 w1 => ?_) hx
  obtain ⟨l, rfl, w2⟩ := asList_some w1
  refine rb R B1 σ H1 G _ _ Xd s1.gd (rp.mono s1.sb) w2 (fun u d2 B2 H2 s2 r2 w3 => ?_) (fun x B' H' s' => hx x B' H' (s1.trans s'))
  obtain ⟨n, rfl, w4⟩ := asList_some w3
  obtain ⟨a1, ys1, rfl, h5, h6⟩ := (r1.mono s2.sb).list
  obtain ⟨a2, ys2, rfl, h7, h8⟩ := r2.list
  exact ⟨a1, a2, ys1, ys2, rfl, SqL.of (s2.gd.ex _ _ h5), SqL.of (s2.gd.ex _ _ h7), hq _ _ B2 H2 (s1.trans s2) (itok_zip h5 h6 h7 h8) w4⟩
end
end Sk
set_option Elab.async false
set_option linter.all false
set_option maxRecDepth 100000
set_option maxHeartbeats 4000000
namespace Sk
open PySem L2
section
variable {P : Program} {w : World} {K : PySem.W.Frag} {mg : Str → Option Value} {base : Heap} {T : Fn → Spec} {cl : Exn → Value} {k : Nat} {C : Ck} {W : WX} {sc : Scope} {F : Cx → Prop}

/-! targets -/
/-- what the slots are behind a target -/
def setT : List Nat → L2.St → List V → L2.St
  | i :: ts, σ, v :: vs => setT ts (σ.set i (some v)) vs
  | _, σ, _ => σ
def RdG (ts : List Nat) (g : TG) : Prop := ∀ (R : Rg) (B : Hp) (σ : L2.St) (H : Hp) (G : Ev) (v : V) (d : D) (Kd : Ev → Prop) (Q : L2.St → Hp → Prop), Gd R B H → RepE R B σ G → RV R B v d → bindT ts d G Kd →
  (∀ vs G', vs.length = ts.length → RepE R B (setT ts σ vs) G' → (∀ (σ0 : L2.St) (Go : Ev), True) → Kd G' → Q (setT ts σ vs) H) → g v σ H Q
theorem bindT_two {i j : Nat} {d : D} {G : Ev} {Kd : Ev → Prop} (h : bindT [i, j] d G Kd) : ∃ x y, d = .tuple [x, y] ∧ Kd (setS (setS G i (.d x)) j (.d y)) := by
  match d, h with
  | .tuple [x, y], h => exact ⟨x, y, rfl, h⟩
theorem locK_of {o : Option NameKind} (h : locK o = true) : o = some .local ∨ o = some .cell := by
  cases o with
  | none => simp [locK] at h
  | some y => cases y <;> first | (simp [locK] at h; done) | exact .inl rfl | exact .inr rfl
/-- a target's reading is as its slots say; the places in which it is written may store them -/
def gOf (K : PySem.W.Frag) : List Nat → TG
  | [i] => gName i
  | [i, j] => gTup K 2 (gCons (gName i) (gCons (gName j) gNil))
  | _ => fun _ _ _ _ => False
theorem rdG_of (ts : List Nat) : RdG ts (gOf K ts) := by
  intro R B σ H G v d Kd Q g rp rv hb hq
  match ts, hb, hq with
  | [i], hb, hq =>
    exact hq [v] _ rfl (rp.set rv) (fun _ _ => trivial) hb
  | [i, j], hb, hq =>
    obtain ⟨x, y, rfl, hk⟩ := bindT_two hb
    obtain ⟨a, xs, rfl, h1, h2⟩ := rv.tuple
    cases h2 with | cons c1 h2 => cases h2 with | cons c2 h2 =>
    cases h2
    rename_i u1 u2
    refine ⟨a, _, rfl, SqT.of (g.ex _ _ h1), rfl, u1, [u2], rfl, u2, [], rfl, rfl, ?_⟩
    exact hq [u1, u2] _ rfl ((rp.set (.inl c1)).set (.inl c2)) (fun _ _ => trivial) hk
  | [], hb, _ => exact hb.elim
  | _ :: _ :: _ :: _, hb, _ => exact hb.elim
/-- the places that can store these targets -/
structure Stor (X : Cx) (N : List Str) (sc : Scope) : Prop where
  nn : X.N = N
  nd : N.Nodup
  lc : ∀ x, locK (sc.names.lookup x) = true → Loc X.env.scope x ∧ (X.fn x = true ∨ X.env.scope.names.lookup x = some .local)
  cm : X.calm = true
theorem pg1 {X : Cx} {N : List Str} {sc : Scope} (st : Stor X N sc) {i : Nat} {tg : Expr} (h : chT1 N sc i tg = true) : PG X tg (gName i) := by
  cases tg <;> simp only [chT1, Bool.false_eq_true] at h
  rename_i x pos
  simp only [Bool.and_eq_true, decide_eq_true_eq] at h
  exact pg_name (by rw [st.nn]; exact st.nd) (by rw [st.nn]; exact h.1) (st.lc x h.2).1 (st.lc x h.2).2
theorem noTgStar {N : List Str} {sc : Scope} {i : Nat} {tg : Expr} (h : chT1 N sc i tg = true) : ∃ x pos, tg = .Name x pos := by
  cases tg <;> simp only [chT1, Bool.false_eq_true] at h
  exact ⟨_, _, rfl⟩
theorem pgT {X : Cx} {N : List Str} {sc : Scope} (st : Stor X N sc) (hk : X.K = K) {ts : List Nat} {tg : Expr} (h : chT N sc ts tg = true) : PG X tg (gOf K ts) := by
  match ts, tg, h with
  | [i], tg, h => exact pg1 st h
  | [i, j], .Tuple [a, b] n p, h =>
    simp only [chT, Bool.and_eq_true] at h
    obtain ⟨x1, p1, rfl⟩ := noTgStar h.1.1
    obtain ⟨x2, p2, rfl⟩ := noTgStar h.1.2
    have q := pg_tup (X := X) (k := n) (pos := p) (n := 2) st.cm (pgs_cons (pg1 st h.1.1) (pgs_cons (pg1 st h.1.2) pgs_nil))
    rw [hk] at q
    exact q
/-! a list comprehension -/
def Blk (F : Cx → Prop) (scope : Scope) : Cx → Prop := fun Y => ∃ X s H Ca cl fp, F X ∧ Y = X.blk s H scope (compEnvC scope cl Ca X.env) fp
theorem fam_blk (fm : Fam P w K mg base k C W sc F) (scope : Scope) : Fam P w K mg base k C (fun _ _ _ _ => False) (relS scope sc) (Blk F scope) where
  pr := by rintro Y ⟨X, s, H, Ca, cl, fp, hX, rfl⟩; exact fm.pr X hX
  wo := by rintro Y ⟨X, s, H, Ca, cl, fp, hX, rfl⟩; exact fm.wo X hX
  kk := by rintro Y ⟨X, s, H, Ca, cl, fp, hX, rfl⟩; exact fm.kk X hX
  mm := by rintro Y ⟨X, s, H, Ca, cl, fp, hX, rfl⟩; exact fm.mm X hX
  ba := by rintro Y ⟨X, s, H, Ca, cl, fp, hX, rfl⟩; exact fm.ba X hX
  nn := by rintro Y ⟨X, s, H, Ca, cl, fp, hX, rfl⟩; exact fm.nn X hX
  ss := by
    rintro Y ⟨X, s, H, Ca, cl, fp, hX, rfl⟩
    show relS scope X.env.scope = _
    rw [fm.ss X hX]
  cm := by rintro Y ⟨X, s, H, Ca, cl, fp, hX, rfl⟩; exact fm.cm X hX
  ro := by rintro Y ⟨X, s, H, Ca, cl, fp, hX, rfl⟩; exact fm.ro X hX
  tk := fun Y _ => takes0
theorem stor_blk (fm : Fam P w K mg base k C W sc F) (nd : C.N.Nodup) (scope : Scope) {Y : Cx} (h : Blk F scope Y) : Stor Y C.N scope := by
  obtain ⟨X, s, H, Ca, cl, fp, hX, rfl⟩ := h
  refine ⟨fm.nn X hX, nd, fun x hx => ?_, fm.cm X hX⟩
  have hn : ∀ kd, kd ≠ .free → scope.names.lookup x = some kd → (relS scope X.env.scope).names.lookup x = some kd := fun kd h1 h2 => lookup_relS_keep h1 h2
  rcases locK_of hx with e | e
  · exact ⟨.inl (hn _ (by decide) e), .inr (hn _ (by decide) e)⟩
  · refine ⟨.inr (hn _ (by decide) e), .inl ?_⟩
    show (scope.names.lookup x == some NameKind.cell) = true
    rw [e]
    rfl
theorem wipe_setT : ∀ {ts : List Nat} (σ : L2.St) (vs : List V), ts.length ≤ 2 → vs.length = ts.length → setT ts (wipe σ ts) vs = setT ts σ vs ∧ wipe (setT ts (wipe σ ts) vs) ts = wipe σ ts
  | [], σ, [], _, _ => ⟨rfl, rfl⟩
  | [i], σ, [v], _, _ => by simp [setT, wipe, List.set_set]
  | [i, j], σ, [v, u], _, _ => by
    simp only [setT, wipe]
    by_cases e : i = j
    · subst e
      simp [List.set_set]
    · refine ⟨?_, ?_⟩
      · rw [List.set_set, List.set_comm _ _ (Ne.symm e), List.set_set]
      · rw [List.set_set, List.set_set, List.set_comm _ _ e, List.set_set, List.set_set]
  | [], _, _ :: _, _, h => by simp at h
  | [_], _, [], _, h => by simp at h
  | [_], _, _ :: _ :: _, _, h => by simp at h
  | [_, _], _, [], _, h => by simp at h
  | [_, _], _, [_], _, h => by simp at h
  | [_, _], _, _ :: _ :: _ :: _, _, h => by simp at h
  | _ :: _ :: _ :: _, _, _, h, _ => by simp at h
theorem chT_len {N : List Str} {sc : Scope} {ts : List Nat} {tg : Expr} (h : chT N sc ts tg = true) : ts.length ≤ 2 := by
  match ts, h with
  | [], _ => simp
  | [_], _ => simp
  | [_, _], _ => simp
  | _ :: _ :: _ :: _, h => simp [chT] at h
theorem ownOf_snd (N : List Str) (ts : List Nat) : (ownOf N ts).map (·.2) = ts := by
  unfold ownOf
  rw [List.map_map]
  exact (List.map_congr_left fun _ _ => rfl).trans (List.map_id _)
theorem drop_cons {α : Type} {xs : List α} {i : Nat} (h : i < xs.length) : ∃ d, xs[i]? = some d ∧ xs.drop i = d :: xs.drop (i + 1) := ⟨xs[i], List.getElem?_eq_getElem h, by rw [List.drop_eq_getElem_cons h]⟩
/-- the target's slots are set, the others stay: a wiped start does as well -/
theorem rdG_wipe (ts : List Nat) (hts : ts.length ≤ 2) {R : Rg} {B : Hp} {σ : L2.St} {H : Hp} {G : Ev} {v : V} {d : D} {Kd : Ev → Prop} {Q : L2.St → Hp → Prop} (g : Gd R B H) (rp : RepE R B σ G) (rv : RV R B v d) (hb : bindT ts d G Kd)
    (hq : ∀ σ2 G', RepE R B σ2 G' → wipe σ2 ts = wipe σ ts → Kd G' → Q σ2 H) : gOf K ts v (wipe σ ts) H Q := by
  match ts, hts, hb, hq with
  | [i], _, hb, hq =>
    have e := wipe_setT (ts := [i]) σ [v] (by simp) rfl
    refine hq ((wipe σ [i]).set i (some v)) _ ?_ e.2 hb
    have e1 : (wipe σ [i]).set i (some v) = σ.set i (some v) := e.1
    rw [e1]
    exact rp.set rv
  | [i, j], _, hb, hq =>
    obtain ⟨x, y, rfl, hk⟩ := bindT_two hb
    obtain ⟨a, xs, rfl, h1, h2⟩ := rv.tuple
    cases h2 with | cons c1 h2 => cases h2 with | cons c2 h2 =>
    cases h2
    rename_i u1 u2
    have e := wipe_setT (ts := [i, j]) σ [u1, u2] (by simp) rfl
    refine ⟨a, _, rfl, SqT.of (g.ex _ _ h1), rfl, u1, [u2], rfl, u2, [], rfl, rfl, ?_⟩
    refine hq (((wipe σ [i, j]).set i (some u1)).set j (some u2)) _ ?_ e.2 hk
    have e1 : ((wipe σ [i, j]).set i (some u1)).set j (some u2) = (σ.set i (some u1)).set j (some u2) := e.1
    rw [e1]
    exact (rp.set (.inl c1)).set (.inl c2)
  | [], _, hb, _ => exact hb.elim
  | _ :: _ :: _ :: _, _, hb, _ => exact hb.elim
theorem rdF_lc {ts : List Nat} {it : It} {c : O} {e : E} {wi : TI} {tt : TT} {te : TE} (hts : ts.length ≤ 2) (ri : RdI T cl W wi it) (rc : RdC T cl (fun _ _ _ _ => False) tt c) (re : RdE T cl (fun _ _ _ _ => False) te e) :
    RdF T cl W (tLc wi (gOf K ts) tt te ts) (.lc ts it c e) := by
  intro R B σ H G Q Qd Xd g rp hw hq hx
  simp only [wpE] at hw
  refine ri R B σ H G _ _ Xd g rp hw (fun xs J B1 H1 s1 io w1 => ?_) hx
  intro Dl hD
  obtain ⟨hlen, w2⟩ := w1
  obtain ⟨Gp, Y, wk, hG, hY⟩ := io
  have nR : ¬ inR R Dl := s1.gd.notR hD
  refine lc_it wk (fun i Hc => ∃ Bc vs acc, Step R B1 H1 Bc Hc ∧ Bc Dl = none ∧ Hc Dl = some (.lst vs) ∧ RpAll Bc vs acc ∧ acc.length ≤ i ∧
    wpLc (fun x k => bindT ts x G fun G2 => wpC T c G2 (fun t => if t = true then wpE T e G2 (fun y => isTok y = false ∧ k (some y)) (fun _ => False) else k none) (fun _ => False)) (xs.drop i) acc fun ys => Qd (.list ys)) ?_ ?_ ?_ ?_
  · exact ⟨B1, [], [], Step.newH s1.gd hD, s1.gd.free hD, upd_same, .nil, Nat.le_refl _, w2⟩
  · rintro i Hc _ ⟨Bc, vs, acc, st, _⟩
    exact hG Hc fun b o h => st.gd.ex b o (st.sb b o h)
  · rintro i x Hc H' hi ⟨Bc, vs, acc, st, hB, hH, ha, hl, hw3⟩ y
    obtain ⟨d, ed, edr⟩ := drop_cons hi
    rw [edr] at hw3
    simp only [wpLc] at hw3
    obtain ⟨B2, st2, rv⟩ := hY i Hc x H' Bc d st.gd st.sb ed y
    have hB2 : B2 Dl = none := st2.notNew hB hH
    have hH2 : H' Dl = some (.lst vs) := st2.hb Dl _ nR hH
    have rp2 : RepE R B2 σ G := ((rp.mono s1.sb).mono st.sb).mono st2.sb
    refine rdG_wipe ts hts st2.gd rp2 rv hw3 fun σ2 G2 rp3 hwp hk => ⟨hwp, ?_⟩
    refine rc R B2 σ2 H' G2 _ _ _ st2.gd rp3 hk (fun b B3 H3 s3 w3 => ?_) (fun x B' H' _ z => z.elim)
    have hB3 : B3 Dl = none := s3.notNew hB2 hH2
    have hH3 : H3 Dl = some (.lst vs) := s3.hb Dl _ nR hH2
    cases b with
    | false =>
      rw [if_neg (by decide)] at w3 ⊢
      exact ⟨B3, vs, acc, (st.trans st2).trans s3, hB3, hH3, (ha.mono st2.sb).mono s3.sb, by omega, w3⟩
    | true =>
      rw [if_pos rfl] at w3 ⊢
      refine re R B3 σ2 H3 G2 _ _ _ s3.gd (rp3.mono s3.sb) w3 (fun v d4 B4 H4 s4 r4 w5 => ?_) (fun x B' H' _ z => z.elim)
      obtain ⟨ht4, w4⟩ := w5
      have hB4 : B4 Dl = none := s4.notNew hB3 hH3
      have hH4 : H4 Dl = some (.lst vs) := s4.hb Dl _ nR hH3
      have ha4 := ((ha.mono st2.sb).mono s3.sb).mono s4.sb
      refine ⟨vs, hH4, ?_, B4, vs ++ [v], acc ++ [d4], ((((st.trans st2).trans s3).trans s4).mutH s1.gd hD hB4), hB4, upd_same, ha4.append (.cons ?_ .nil), by simp; omega, w4⟩
      · rw [ha.len]
        have : acc.length < lim := by omega
        exact Nat.lt_trans this lim_lt
      · exact r4.rp ht4
  · rintro Hc ⟨Bc, vs, acc, st, hB, hH, ha, hl, hw3⟩
    rw [List.drop_length] at hw3
    exact hq Dl vs acc Bc Hc (s1.trans st) (s1.fresh hD) hB hH ha hw3
end
end Sk
set_option Elab.async false
set_option linter.all false
set_option maxRecDepth 100000
set_option maxHeartbeats 4000000
namespace Sk
open PySem L2
section
variable {P : Program} {w : World} {K : PySem.W.Frag} {mg : Str → Option Value} {base : Heap} {T : Fn → Spec} {cl : Exn → Value} {k : Nat} {C : Ck} {W : WX} {sc : Scope} {F : Cx → Prop}

/-! the forms of what is written -/
theorem noStar_of {e : E} {a : Expr} (h : chE C e sc a = true) : NoStar a := by
  cases a <;> first | exact fun _ _ => rfl | skip
  cases e <;> simp [chE] at h
theorem noStars_of : ∀ {es : Es} {as : List Expr}, chEs C es sc as = true → NoStars as
  | .nil, [], _ => fun a ha => by cases ha
  | .nil, _ :: _, h => by simp [chEs] at h
  | .cons e r, [], h => by simp [chEs] at h
  | .cons e r, a :: as, h => by
    simp only [chEs, Bool.and_eq_true] at h
    intro b hb
    rcases List.mem_cons.mp hb with rfl | hb
    · exact noStar_of h.1
    · exact noStars_of h.2 b hb
theorem plainIx_of {e : E} {a : Expr} (h : chE C e sc a = true) : PlainIx a := by
  cases a <;> first | exact fun _ _ => rfl | skip
  cases e <;> simp [chE] at h
theorem noSet_of {e : E} {a : Expr} (h : chE C e sc a = true) (env : Env) (x : Value) : foldedSetIterable a env x = pure x := by
  cases a <;> first | rfl | skip
  cases e <;> simp [chE] at h
theorem noSetI_of {it : It} {a : Expr} (h : chI C it sc a = true) (env : Env) (x : Value) : foldedSetIterable a env x = pure x := by
  cases a <;> first | rfl | skip
  cases it <;> first | (simp [chI] at h; done) | (rename_i e; cases e <;> simp [chI, chE] at h)
theorem attr_of' {e : E} {a : Expr} (h : chE C e sc a = true) (name : Str) (env : Env) (wh : Sem Value) : attributeBase a name env wh = wh := by
  cases a <;> first | rfl | skip
  rename_i f args kws pos
  cases f <;> first | rfl | skip
  cases args with
  | cons b bs => rfl
  | nil =>
    cases kws with
    | cons b bs => rfl
    | nil => cases e <;> simp [chE] at h

/-! methods of lists -/
theorem few_of {as : List Expr} (hn : NoStars as) (hl : as.length < 20) (pos : Pos) (env : Env) : ((backTo pos (starEach as env)).all (fun x => !x.1) && (backToKw pos (keywordEach [] env)).all (fun x => x.1.isSome)
      && decide (as.length + ([] : List Keyword).length + (if ([] : List Keyword).isEmpty then 0 else 1) < 30)) = true := by
  have h1 := noStars_any hn pos env
  have h2 : (backTo pos (starEach as env)).all (fun x => !x.1) = true := by
    rw [List.all_eq_true]
    intro x hx
    rw [List.any_eq_false] at h1
    have := h1 x hx
    simpa using this
  rw [h2]
  simp [keywordEach, backToKw]
  omega
theorem mth_count {R : Rg} {B H : Hp} {v : V} {vs : List V} {d dz : D} {ds : List D} {Q : VK} (g : Gd R B H) (r : RV R B v d) (rs : RVs R B vs ds) (e : msem .count d ds = some dz) (q : ∀ v B' H', Step R B H B' H' → RV R B' v dz → Q v H') : rCntI K v vs H Q := by
  match d, ds, r, rs, e with
  | .list xs, [.int n], r, rs, e =>
    obtain ⟨u, rfl, ru⟩ := rs.one
    obtain ⟨a, ys, rfl, h1, h2⟩ := r.list
    simp only [msem] at e
    obtain ⟨ns, e1, rfl⟩ := Option.map_eq_some_iff.mp e
    have h3 := h2.ints e1
    exact ⟨a, ns, n, rfl, by rw [ru.int], SqL.of (by rw [← h3]; exact g.ex _ _ h1), stay g (.int _) q⟩
theorem mth_index {R : Rg} {B H : Hp} {v : V} {vs : List V} {d dz : D} {ds : List D} {Q : VK} (g : Gd R B H) (r : RV R B v d) (rs : RVs R B vs ds) (e : msem .index d ds = some dz) (q : ∀ v B' H', Step R B H B' H' → RV R B' v dz → Q v H') : rIndexD K v vs H Q := by
  match d, ds, r, rs, e with
  | .list xs, [y], r, rs, e =>
    obtain ⟨u, rfl, ru⟩ := rs.one
    obtain ⟨a, ys, rfl, h1, h2⟩ := r.list
    simp only [msem] at e
    split at e
    · rename_i hk
      simp only [Bool.and_eq_true] at hk
      obtain ⟨j, e1, rfl⟩ := Option.map_eq_some_iff.mp e
      obtain ⟨hj, e2, e3⟩ := List.findIdx?_eq_some_iff_getElem.mp e1
      refine ⟨a, u, y, xs, j, xs[j], rfl, rfl, (r.rp rfl).dp g.ex, (ru.rp (okD_tok hk.1)).dp g.ex, okD_shaped (by omega) (okL hk.2), okD_shaped (by omega) hk.1, List.getElem?_eq_getElem hj, e2, fun m z hm ez => ?_, stay g (.int _) q⟩
      have h4 := e3 m hm
      obtain ⟨h5, h6⟩ := List.getElem?_eq_some_iff.mp ez
      rw [h6] at h4
      simpa using h4
    · cases e
theorem tyV_list {R : Rg} {B H : Hp} (g : Gd R B H) {v : V} {xs : List D} (r : RV R B v (.list xs)) : tyV K "list" v H := by
  obtain ⟨a, ys, rfl, h1, h2⟩ := r.list
  exact .inl ⟨rfl, _, SqL.of (g.ex _ _ h1)⟩
theorem msem_list {m : Mt} {d dz : D} {ds : List D} (e : msem m d ds = some dz) : ∃ xs, d = .list xs := by
  cases m <;> cases d <;> first | exact ⟨_, rfl⟩ | (simp [msem] at e)
def mtT : Mt → String
  | .count => "list" | .index => "list" | _ => "str"
theorem tyV_of {R : Rg} {B H : Hp} (g : Gd R B H) {m : Mt} {v : V} {d : D} (h : mtTy m d = true) (r : RV R B v d) : tyV K (mtT m) v H := by
  cases m <;> cases d <;> first | (simp [mtTy] at h; done) | exact tyV_list g r | (rw [r.str]; rfl)
/-- a method by values that gives data -/
def MtD (r : V → List V → Hp → VK → Prop) (m : Mt) : Prop := ∀ (R : Rg) (B H : Hp) (v : V) (vs : List V) (d dz : D) (ds : List D) (Q : VK), Gd R B H → RV R B v d → RVs R B vs ds → msem m d ds = some dz → (∀ v B' H', Step R B H B' H' → RV R B' v dz → Q v H') → r v vs H Q
theorem mt_no {X : Cx} {id : String} : MtR X id (fun _ _ _ _ => False) := fun _ _ _ _ _ _ _ _ _ _ _ _ h => h.elim
theorem mt_rule (fm : Fam P w K mg base k C W sc F) (m : Mt) : ∃ id r, PlainAttrs (mtT m) ∧ Slot (mtT m) (mtName m) id ∧ typeOf (.builtin id) = pure (.type "method_descriptor") ∧ (∀ X, F X → MtR X id r) ∧ MtD r m := by
  cases m
  · exact ⟨_, _, PySem.F.plainAttrs_list, PySem.F.slot_list_count, PySem.F.type_list_count, fun X hX => by have h := mt_lcount (X := X); rw [fm.kk X hX] at h; exact h, fun R B H v vs d dz ds Q g r rs e q => mth_count g r rs e q⟩
  · exact ⟨_, _, PySem.F.plainAttrs_list, PySem.F.slot_list_index, PySem.F.type_list_index, fun X hX => by have h := mt_indexD (X := X) (by have := (fm.ro X hX).un; omega); rw [fm.kk X hX] at h; exact h, fun R B H v vs d dz ds Q g r rs e q => mth_index g r rs e q⟩
  · exact ⟨_, _, PySem.F.plainAttrs_str, PySem.F.slot_str_join, PySem.F.type_str_join, fun X hX => mt_no, fun R B H v vs d dz ds Q g r rs e q => by cases d <;> simp [msem] at e⟩
  · exact ⟨_, _, PySem.F.plainAttrs_str, PySem.F.slot_str_partition, PySem.F.type_str_partition, fun X hX => mt_no, fun R B H v vs d dz ds Q g r rs e q => by cases d <;> simp [msem] at e⟩
  · exact ⟨_, _, PySem.F.plainAttrs_str, PySem.F.slot_str_split, PySem.F.type_str_split, fun X hX => mt_no, fun R B H v vs d dz ds Q g r rs e q => by cases d <;> simp [msem] at e⟩
theorem snd_mth (fm : Fam P w K mg base k C W sc F) {m : Mt} {n : Str} {o a : Expr} {as : List Expr} {e : E} {es : Es} {ap cp : Pos} (h1 : n = mtName m) (hl : (a :: as).length < 20) (hline : (ap.endLine == cp.line) = true) (hb : ∀ env wh, attributeBase o n env wh = wh) (hn : NoStars (a :: as))
    (ho : SndE T cl W F o e) (ha : SndA T cl W F (a :: as) es) : SndE T cl W F (.Call (.Attribute o n ap) (a :: as) [] cp) (.mth m e es) := by
  obtain ⟨to, po, ro⟩ := ho
  obtain ⟨ta, pa, ra⟩ := ha
  subst h1
  obtain ⟨id, r, f1, f2, f3, f4, f5⟩ := mt_rule fm m
  refine ⟨tBM K (mtT m) r to ta, fun X hX => ?_, fun R B σ H G Q Qd Xd g rp hw hq hx => ?_⟩
  · have h := pe_bm (apos := ap) (cpos := cp) f1 f2 f3 (f4 X hX) (po X hX) (pa X hX) (hb _ _) (few_of hn hl _ _) hline (hn a (by simp) _ _) (noStars_any (fun b hb => hn b (by simp [hb])) _ _)
    rw [fm.kk X hX] at h
    exact h
  · refine ro R B σ H G _ _ Xd g rp (by simp only [wpE] at hw; exact hw) (fun v d B1 H1 s1 r1 w1 => ?_) hx
    obtain ⟨ht, w2⟩ := w1
    refine ⟨tyV_of s1.gd ht r1, ra R B1 σ H1 G _ _ Xd s1.gd (rp.mono s1.sb) w2 (fun vs ds B2 H2 s2 r2 w3 => ?_) (fun x B' H' s' => hx x B' H' (s1.trans s'))⟩
    obtain ⟨z, e1, w4⟩ := must_some w3
    exact f5 R B2 H2 v vs d z ds Q s2.gd (r1.mono s2.sb) r2 e1 fun v B3 H3 s3 r3 => hq v z B3 H3 ((s1.trans s2).trans s3) r3 w4
/-! tests that are plain values -/
theorem SndE.toT {a : Expr} {e : E} (h : SndE T cl W F a e) (he : ∀ env whole, isTrue a env whole = (do let v ← whole; standAt a.pos; holding [v] (truthy v))) : SndT T cl W F a e :=
  let ⟨t, h1, h2⟩ := h; ⟨_, fun X hX => pt_val (h1 X hX) (fun wh => he X.env wh), h2.testB⟩
end
end Sk
set_option Elab.async false
set_option linter.all false
set_option maxRecDepth 100000
set_option maxHeartbeats 4000000
namespace Sk
open PySem L2
section
variable {P : Program} {w : World} {K : PySem.W.Frag} {mg : Str → Option Value} {base : Heap} {T : Fn → Spec} {cl : Exn → Value} {k : Nat} {C : Ck}

theorem both {W : WX} {F : Cx → Prop} {a : Expr} {e : E} (he : ∀ env whole, isTrue a env whole = (do let v ← whole; standAt a.pos; holding [v] (truthy v))) (q : SndE T cl W F a e) : SndE T cl W F a e ∧ (noIfe e = true → SndT T cl W F a e) := ⟨q, fun _ => q.toT he⟩
theorem both2 {W : WX} {F : Cx → Prop} {a : Expr} {e : E} (q : SndE T cl W F a e ∧ SndT T cl W F a e) : SndE T cl W F a e ∧ (noIfe e = true → SndT T cl W F a e) := ⟨q.1, fun _ => q.2⟩
/-! the reading of every expression -/
mutual
theorem sndE (tp : Tp P w K mg base T cl k C) : ∀ (e : E) (sc : Scope) (a : Expr) (W : WX) (F : Cx → Prop), Fam P w K mg base k C W sc F → chE C e sc a = true → SndE T cl W F a e ∧ (noIfe e = true → SndT T cl W F a e)
  | .var i, sc, a, W, F, fm, h => by
    unfold chE at h
    split at h
    · simp only [Bool.and_eq_true, decide_eq_true_eq] at h
      exact both (fun _ _ => rfl) (snd_var (T := T) (cl := cl) (i := i) fm h.1 h.2)
    · cases h
  | .ci i, sc, a, W, F, fm, h => by
    unfold chE at h
    split at h
    · simp only [decide_eq_true_eq] at h
      subst h
      exact both (fun _ _ => rfl) (snd_const (T := T) (cl := cl) (W := W) (F := F) (e := .ci i) (fun X => pe_int) (fun B => .int i) (fun G Q X h => h))
    · cases h
  | .cs i, sc, a, W, F, fm, h => by
    unfold chE at h
    split at h
    · simp only [decide_eq_true_eq] at h
      subst h
      exact both (fun _ _ => rfl) (snd_const (T := T) (cl := cl) (W := W) (F := F) (e := .cs i) (fun X => pe_str) (fun B => .str i) (fun G Q X h => h))
    · cases h
  | .cb i, sc, a, W, F, fm, h => by
    unfold chE at h
    split at h
    · simp only [decide_eq_true_eq] at h
      subst h
      exact both (fun _ _ => rfl) (snd_const (T := T) (cl := cl) (W := W) (F := F) (e := .cb i) (fun X => pe_bl) (fun B => .bl i) (fun G Q X h => h))
    · cases h
  | .cn, sc, a, W, F, fm, h => by
    unfold chE at h
    split at h
    · exact both (fun _ _ => rfl) (snd_const (T := T) (cl := cl) (W := W) (F := F) (e := .cn) (fun X => pe_non) (fun B => .non) (fun G Q X h => h))
    · cases h
  | .gc g, sc, a, W, F, fm, h => by
    unfold chE at h
    split at h
    · simp only [Bool.and_eq_true, decide_eq_true_eq] at h
      exact both (fun _ _ => rfl) (snd_gc (pos := _) tp fm h.1.1 h.1.2 h.2)
    · cases h
  | .bin op p q, sc, a, W, F, fm, h => by
    unfold chE at h
    split at h
    · simp only [Bool.and_eq_true] at h
      exact both (fun _ _ => rfl) (snd_bin (pos := _) h.1.1 (sndE tp p sc _ W F fm h.1.2).1 (sndE tp q sc _ W F fm h.2).1)
    · cases h
  | .neg p, sc, a, W, F, fm, h => by
    unfold chE at h
    split at h
    · exact both (fun _ _ => rfl) (snd_neg (pos := _) (sndE tp p sc _ W F fm h).1)
    · cases h
  | .inot p, sc, a, W, F, fm, h => by
    unfold chE at h
    split at h
    · have q := sndE tp p sc _ W F fm h
      exact ⟨snd_notV q.1, fun z => snd_notT (q.2 (by simpa only [noIfe] using z))⟩
    · cases h
  | .cmp op p q, sc, a, W, F, fm, h => by
    unfold chE at h
    split at h
    · simp only [Bool.and_eq_true, Bool.not_eq_true'] at h
      exact both2 (snd_cmp (pos := _) fm h.1.1.1 h.1.1.2 (sndE tp p sc _ W F fm h.1.2).1 (sndE tp q sc _ W F fm h.2).1)
    · cases h
  | .chain o1 o2 p q u, sc, a, W, F, fm, h => by
    unfold chE at h
    split at h
    · simp only [Bool.and_eq_true, Bool.not_eq_true'] at h
      exact both2 (snd_chain (pos := _) fm h.1.1.1.1.1 h.1.1.1.1.2 h.1.1.1.2 (sndE tp p sc _ W F fm h.1.1.2).1 (sndE tp q sc _ W F fm h.1.2).1 (sndE tp u sc _ W F fm h.2).1)
    · cases h
  | .isN p, sc, a, W, F, fm, h => by
    unfold chE at h
    split at h
    · exact both2 (snd_isN (pos := _) (pos' := _) (j := _) (sndE tp p sc _ W F fm h).1)
    · cases h
  | .notN p, sc, a, W, F, fm, h => by
    unfold chE at h
    split at h
    · exact both2 (snd_notN (pos := _) (pos' := _) (j := _) (sndE tp p sc _ W F fm h).1)
    · cases h
  | .isB v p, sc, a, W, F, fm, h => by
    unfold chE at h
    split at h
    · simp only [Bool.and_eq_true, decide_eq_true_eq] at h
      obtain ⟨rfl, h⟩ := h
      exact both2 (snd_isB (b := v) (pos := _) (pos' := _) (j := _) (sndE tp p sc _ W F fm h).1)
    · cases h
  | .notB v p, sc, a, W, F, fm, h => by
    unfold chE at h
    split at h
    · simp only [Bool.and_eq_true, decide_eq_true_eq] at h
      obtain ⟨rfl, h⟩ := h
      exact both2 (snd_notB (b := v) (pos := _) (pos' := _) (j := _) (sndE tp p sc _ W F fm h).1)
    · cases h
  | .bool an es, sc, a, W, F, fm, h => by
    unfold chE at h
    split at h
    · rename_i op vs pos
      simp only [Bool.and_eq_true] at h
      have e : op = bop2 an := by
        cases op <;> cases an <;> first | rfl | (exact absurd h.1 (by decide))
      subst e
      have q := sndB tp es sc vs W F fm h.2 an pos
      exact ⟨q.1, fun z => (q.2 (by simpa only [noIfe] using z)).t⟩
    · cases h
  | .ife c p q, sc, a, W, F, fm, h => by
    unfold chE at h
    split at h
    · simp only [Bool.and_eq_true] at h
      exact ⟨snd_ife ((sndE tp c sc _ W F fm h.1.1.2).2 h.1.1.1) (sndE tp p sc _ W F fm h.1.2).1 (sndE tp q sc _ W F fm h.2).1, fun z => by simp [noIfe] at z⟩
    · cases h
  | .ix p q, sc, a, W, F, fm, h => by
    unfold chE at h
    split at h
    · simp only [Bool.and_eq_true] at h
      exact both (fun _ _ => rfl) (snd_ix (pos := _) fm (plainIx_of h.2) (sndE tp p sc _ W F fm h.1).1 (sndE tp q sc _ W F fm h.2).1)
    · cases h
  | .slc p lo hi, sc, a, W, F, fm, h => by
    unfold chE at h
    split at h
    · simp only [Bool.and_eq_true] at h
      exact both (fun _ _ => rfl) (snd_slc (pos := _) (p2 := _) fm (sndE tp p sc _ W F fm h.1.1).1 (sndO tp lo sc _ W F fm h.1.2) (sndO tp hi sc _ W F fm h.2))
    · cases h
  | .tup es, sc, a, W, F, fm, h => by
    unfold chE at h
    split at h
    · exact both (fun _ _ => rfl) (snd_tup (pos := _) (j := _) (sndA tp es sc _ W F fm h))
    · cases h
  | .lst es, sc, a, W, F, fm, h => by
    unfold chE at h
    split at h
    · exact both (fun _ _ => rfl) ((sndF_lst (pos := _) (sndA tp es sc _ W F fm h)).toE)
    · cases h
  | .call f es, sc, a, W, F, fm, h => by
    unfold chE at h
    split at h
    · rename_i x px vs pos
      simp only [Bool.and_eq_true, decide_eq_true_eq, Bool.not_eq_true'] at h
      cases vs with
      | nil => exact absurd h.1.2 (by decide)
      | cons b bs =>
        exact both (fun _ _ => rfl) (snd_call (p := px) (pos := pos) tp fm h.1.1.1.1 h.1.1.1.2 h.1.1.2 (noStars_of h.2) (sndA tp es sc _ W F fm h.2))
    · cases h
  | .bi b es, sc, a, W, F, fm, h => by
    unfold chE at h
    split at h
    · rename_i x px vs pos
      simp only [Bool.and_eq_true, decide_eq_true_eq, Bool.not_eq_true'] at h
      cases vs with
      | nil => exact absurd h.1.2 (by decide)
      | cons c cs =>
        exact both (fun _ _ => rfl) (snd_bi (p := px) (pos := pos) tp fm h.1.1.1 h.1.1.2 (noStars_of h.2) (sndA tp es sc _ W F fm h.2))
    · cases h
  | .mth m o es, sc, a, W, F, fm, h => by
    unfold chE at h
    split at h
    · rename_i v n ap vs cp
      simp only [Bool.and_eq_true, decide_eq_true_eq, Bool.not_eq_true'] at h
      cases vs with
      | nil => exact absurd h.1.1.2 (by decide)
      | cons c cs =>
        exact both (fun _ _ => rfl) (snd_mth (ap := ap) (cp := cp) fm h.1.1.1.1.1 h.1.1.1.1.2 h.1.1.1.2 (fun env wh => attr_of' h.1.2 n env wh) (noStars_of h.2) (sndE tp o sc _ W F fm h.1.2).1 (sndA tp es sc _ W F fm h.2))
    · cases h
  | .lc ts it c e, sc, a, W, F, fm, h => by
    unfold chE at h
    split at h
    · rename_i elt tg iter ifs n scope pos
      simp only [Bool.and_eq_true, decide_eq_true_eq] at h
      obtain ⟨⟨⟨⟨⟨⟨h0, h1⟩, h2⟩, h3⟩, h4⟩, h5⟩, h6⟩ := h
      subst h0
      obtain ⟨wi, pi, ri⟩ := sndIt tp it sc tg iter W F fm h1 h2
      have fb := fam_blk fm scope
      obtain ⟨tt, pt, rt⟩ := sndC tp c (relS scope sc) ifs _ _ fb h5
      obtain ⟨te, pe, re⟩ := (sndE tp e (relS scope sc) elt _ _ fb h6).1
      have q : SndE T cl W F (.ListComp elt [⟨tg, iter, ifs, 0⟩] scope pos) (.lc ts it c e) := by
        refine SndF.toE ⟨tLc wi (gOf K ts) tt te ts, fun X hX => ?_, rdF_lc (chT_len h3) ri rt re⟩
        have ok := blkOk_by h4
        have q := pe_lc (X := X) (pos := pos) (own := ownOf C.N ts) (fm.cm X hX) (by rw [fm.nn X hX]; exact tp.nd) (pi X hX) (by rw [fm.nn X hX, fm.ss X hX]; exact ok)
          (fun s H Ca cl fp => pgT (K := K) (stor_blk fm tp.nd scope ⟨X, s, H, Ca, cl, fp, hX, rfl⟩) (fm.kk X hX) h3) (fun s H Ca cl fp => pt _ ⟨X, s, H, Ca, cl, fp, hX, rfl⟩) (fun s H Ca cl fp => pe _ ⟨X, s, H, Ca, cl, fp, hX, rfl⟩) (fun x => noSetI_of h1 _ _)
        rw [ownOf_snd] at q
        exact q
      exact ⟨q, fun _ => q.toT fun _ _ => rfl⟩
    · cases h
  | .isi p t, sc, a, W, F, fm, h => by
    unfold chE at h
    split at h
    · simp only [Bool.and_eq_true, decide_eq_true_eq] at h
      exact both (fun _ _ => rfl) (snd_isi (p := _) (pos := _) (q := _) tp fm h.1.1.1.1 h.1.1.1.2 h.1.1.2 h.1.2 (noStar_of h.2) (sndE tp p sc _ W F fm h.2).1)
    · cases h
  | .srtSet p, sc, a, W, F, fm, h => by
    unfold chE at h
    split at h
    · simp only [Bool.and_eq_true, decide_eq_true_eq] at h
      exact both (fun _ _ => rfl) (snd_srtSet (p := _) (pos := _) (q := _) (p2 := _) tp fm h.1.1.1.1 h.1.1.1.2 h.1.1.2 h.1.2 (noStar_of h.2) (sndE tp p sc _ W F fm h.2).1)
    · cases h
  | .lenSet p, sc, a, W, F, fm, h => by
    unfold chE at h
    split at h
    · simp only [Bool.and_eq_true, decide_eq_true_eq] at h
      exact both (fun _ _ => rfl) (snd_lenSet (p := _) (pos := _) (q := _) (p2 := _) tp fm h.1.1.1.1 h.1.1.1.2 h.1.1.2 h.1.2 (noStar_of h.2) (sndE tp p sc _ W F fm h.2).1)
    · cases h
  | .lstRg lo hi c, sc, a, W, F, fm, h => by
    unfold chE at h
    split at h
    · simp only [Bool.and_eq_true, decide_eq_true_eq] at h
      obtain ⟨⟨⟨⟨h1, h2⟩, h3⟩, h4⟩, h5⟩ := h
      split at h5
      · rename_i v
        simp only [Bool.and_eq_true] at h5
        obtain ⟨h5, h6⟩ := h5
        split at h5
        · have hb := sndOe tp hi sc v W F fm h6
          exact both (fun _ _ => rfl) ((sndF_lstRg1 (c := c) (p := _) (pos := _) (q := _) (p2 := _) tp fm h1 h2 h3 h4 hb.1 hb.2).toE)
        · cases h5
      · rename_i u v
        simp only [Bool.and_eq_true] at h5
        have ha := sndOe tp lo sc u W F fm h5.1
        have hb := sndOe tp hi sc v W F fm h5.2
        exact both (fun _ _ => rfl) ((sndF_lstRg2 (c := c) (p := _) (pos := _) (q := _) (p2 := _) tp fm h1 h2 h3 h4 ha.1 hb.1 ha.2 hb.2).toE)
      · cases h5
    · cases h
  | .lstRg3 p q r, sc, a, W, F, fm, h => by
    unfold chE at h
    split at h
    · simp only [Bool.and_eq_true, decide_eq_true_eq] at h
      obtain ⟨⟨⟨⟨⟨⟨h1, h2⟩, h3⟩, h4⟩, h5⟩, h6⟩, h7⟩ := h
      exact both (fun _ _ => rfl) (snd_lstRg3 (p := _) (pos := _) (q := _) (p2 := _) tp fm h1 h2 h3 h4 (noStar_of h5) (noStar_of h6) (noStar_of h7) (sndE tp p sc _ W F fm h5).1 (sndE tp q sc _ W F fm h6).1 (sndE tp r sc _ W F fm h7).1)
    · cases h
theorem sndA (tp : Tp P w K mg base T cl k C) : ∀ (es : Es) (sc : Scope) (as : List Expr) (W : WX) (F : Cx → Prop), Fam P w K mg base k C W sc F → chEs C es sc as = true → SndA T cl W F as es
  | .nil, sc, [], W, F, fm, h => snd_aN
  | .nil, sc, _ :: _, W, F, fm, h => by simp [chEs] at h
  | .cons e r, sc, [], W, F, fm, h => by simp [chEs] at h
  | .cons e r, sc, a :: as, W, F, fm, h => by
    simp only [chEs, Bool.and_eq_true] at h
    exact snd_aC (noStar_of h.1) (sndE tp e sc a W F fm h.1).1 (sndA tp r sc as W F fm h.2)
theorem sndB (tp : Tp P w K mg base T cl k C) : ∀ (es : Es) (sc : Scope) (as : List Expr) (W : WX) (F : Cx → Prop), Fam P w K mg base k C W sc F → chEs C es sc as = true → ∀ (an : Bool) (pos : Pos),
    SndE T cl W F (.BoolOp (bop2 an) as pos) (.bool an es) ∧ (noIfes es = true → SndW T cl W F (.BoolOp (bop2 an) as pos) (.bool an es))
  | .nil, sc, as, W, F, fm, h, an, pos => by
    refine ⟨⟨fun _ _ _ => False, fun X hX => ⟨fun _ _ _ _ _ _ h => h.elim⟩, fun R B σ H G Q Qd Xd g rp hw hq hx => by simp only [wpE, wpB] at hw⟩, fun _ => ⟨fun _ _ _ => False, fun X hX => ⟨fun _ _ _ _ _ _ _ h => h.elim⟩, fun R B σ H G Q Qd Xd g rp hw hq hx => by simp only [wpE, wpB] at hw⟩⟩
  | .cons e r, sc, [], W, F, fm, h, an, pos => by simp [chEs] at h
  | .cons e .nil, sc, a :: as, W, F, fm, h, an, pos => by
    simp only [chEs, Bool.and_eq_true, List.isEmpty_iff] at h
    obtain ⟨h1, rfl⟩ := h
    have q := sndE tp e sc a W F fm h1
    exact ⟨snd_bool1 q.1, fun z => snd_boolT1 (q.2 (by simp only [noIfes, Bool.and_eq_true] at z; exact z.1))⟩
  | .cons e (.cons e2 r), sc, [a], W, F, fm, h, an, pos => by simp [chEs] at h
  | .cons e (.cons e2 r), sc, a :: b :: as, W, F, fm, h, an, pos => by
    have h' : chE C e sc a = true ∧ chEs C (.cons e2 r) sc (b :: as) = true := by simpa only [chEs, Bool.and_eq_true] using h
    have q := sndE tp e sc a W F fm h'.1
    have q2 := sndB tp (.cons e2 r) sc (b :: as) W F fm h'.2 an pos
    exact ⟨snd_bool2 q.1 q2.1, fun z => by
      have z' : noIfe e = true ∧ noIfes (.cons e2 r) = true := by simpa only [noIfes, Bool.and_eq_true] using z
      exact snd_boolT2 (q.2 z'.1) (q2.2 z'.2)⟩
theorem sndO (tp : Tp P w K mg base T cl k C) : ∀ (o : O) (sc : Scope) (a : Option Expr) (W : WX) (F : Cx → Prop), Fam P w K mg base k C W sc F → chO C o sc a = true → SndO T cl W F a o
  | .none, sc, none, W, F, fm, h => snd_oN
  | .none, sc, some _, W, F, fm, h => by simp [chO] at h
  | .some e, sc, none, W, F, fm, h => by simp [chO] at h
  | .some e, sc, some a, W, F, fm, h => snd_oS (sndE tp e sc a W F fm (by simpa only [chO] using h)).1
theorem sndOe (tp : Tp P w K mg base T cl k C) : ∀ (o : O) (sc : Scope) (a : Expr) (W : WX) (F : Cx → Prop), Fam P w K mg base k C W sc F → chO C o sc (some a) = true → NoStar a ∧ ∃ e, o = .some e ∧ SndE T cl W F a e
  | .none, sc, a, W, F, fm, h => by simp [chO] at h
  | .some e, sc, a, W, F, fm, h => by
    have h' : chE C e sc a = true := by simpa only [chO] using h
    exact ⟨noStar_of h', e, rfl, (sndE tp e sc a W F fm h').1⟩
theorem sndC (tp : Tp P w K mg base T cl k C) : ∀ (o : O) (sc : Scope) (as : List Expr) (W : WX) (F : Cx → Prop), Fam P w K mg base k C W sc F → chC C o sc as = true → SndC T cl W F as o
  | .none, sc, [], W, F, fm, h => snd_cN
  | .none, sc, _ :: _, W, F, fm, h => by simp [chC] at h
  | .some e, sc, [], W, F, fm, h => by simp [chC] at h
  | .some e, sc, [a], W, F, fm, h => by
    simp only [chC, Bool.and_eq_true] at h
    exact snd_cS ((sndE tp e sc a W F fm h.2).2 h.1)
  | .some e, sc, _ :: _ :: _, W, F, fm, h => by simp [chC] at h
theorem sndIt (tp : Tp P w K mg base T cl k C) : ∀ (it : It) (sc : Scope) (tg a : Expr) (W : WX) (F : Cx → Prop), Fam P w K mg base k C W sc F → chI C it sc a = true → zipOk it tg = true → SndI T cl W F tg a it
  | .list e, sc, tg, a, W, F, fm, h, _ => sndI_list fm (sndE tp e sc a W F fm (by simpa only [chI] using h)).1
  | .tup e, sc, tg, a, W, F, fm, h, _ => sndI_tup fm (sndE tp e sc a W F fm (by simpa only [chI] using h)).1
  | .str e, sc, tg, a, W, F, fm, h, _ => sndI_str (sndE tp e sc a W F fm (by simpa only [chI] using h)).1
  | .rg1 p, sc, tg, a, W, F, fm, h, _ => by
    unfold chI at h
    split at h
    · simp only [Bool.and_eq_true, decide_eq_true_eq] at h
      exact sndI_rg1 tp fm h.1.1 h.1.2 (noStar_of h.2) (sndE tp p sc _ W F fm h.2).1
    · cases h
  | .rg2 p q, sc, tg, a, W, F, fm, h, _ => by
    unfold chI at h
    split at h
    · simp only [Bool.and_eq_true, decide_eq_true_eq] at h
      exact sndI_rg2 tp fm h.1.1.1 h.1.1.2 (noStar_of h.1.2) (noStar_of h.2) (sndE tp p sc _ W F fm h.1.2).1 (sndE tp q sc _ W F fm h.2).1
    · cases h
  | .rg3 p q r, sc, tg, a, W, F, fm, h, _ => by
    unfold chI at h
    split at h
    · simp only [Bool.and_eq_true, decide_eq_true_eq] at h
      exact sndI_rg3 tp fm h.1.1.1.1 h.1.1.1.2 (noStar_of h.1.1.2) (noStar_of h.1.2) (noStar_of h.2) (sndE tp p sc _ W F fm h.1.1.2).1 (sndE tp q sc _ W F fm h.1.2).1 (sndE tp r sc _ W F fm h.2).1
    · cases h
  | .zip p q, sc, tg, a, W, F, fm, h, ht => by
    unfold chI at h
    split at h
    · simp only [Bool.and_eq_true, decide_eq_true_eq] at h
      exact sndI_zip tp fm ht h.1.1.1 h.1.1.2 (noStar_of h.1.2) (noStar_of h.2) (sndE tp p sc _ W F fm h.1.2).1 (sndE tp q sc _ W F fm h.2).1
    · cases h
end
end
end Sk
set_option Elab.async false
set_option linter.all false
set_option maxRecDepth 100000
set_option maxHeartbeats 4000000
namespace Sk
open PySem L2

/-! slots that own a list -/
def Ow (σ : L2.St) (G : Ev) (p : Addr) : Prop := ∃ i xs, getS G i = .own xs ∧ σ[i]? = some (some (.ref p))
open Classical in
noncomputable def plusO (O : Addr → Prop) (H B : Hp) : Hp := fun b => if O b then H b else B b
open Classical in
noncomputable def cutO (O : Addr → Prop) (B : Hp) : Hp := fun b => if O b then none else B b
theorem plusO_yes {O : Addr → Prop} {H B : Hp} {b : Addr} (h : O b) : plusO O H B b = H b := by unfold plusO; rw [if_pos h]
theorem plusO_no {O : Addr → Prop} {H B : Hp} {b : Addr} (h : ¬ O b) : plusO O H B b = B b := by unfold plusO; rw [if_neg h]
theorem cutO_yes {O : Addr → Prop} {B : Hp} {b : Addr} (h : O b) : cutO O B b = none := by unfold cutO; rw [if_pos h]
theorem cutO_no {O : Addr → Prop} {B : Hp} {b : Addr} (h : ¬ O b) : cutO O B b = B b := by unfold cutO; rw [if_neg h]
def SlS (R : Rg) (H0 B H : Hp) (o : Option (Option V)) : Sl → Prop
  | .no => True
  | .d x => ∃ v, o = some (some v) ∧ RV R B v x
  | .own xs => ∃ p vs, o = some (some (.ref p)) ∧ H0 p = none ∧ B p = none ∧ H p = some (.lst vs) ∧ RpAll B vs xs
structure RepS (R : Rg) (B0 H0 B H : Hp) (σ : L2.St) (G : Ev) : Prop where
  g0 : Gd R B0 H0
  st : Step R B0 H0 B H
  len : σ.length = G.length
  sl : ∀ i, SlS R H0 B H (σ[i]?) (getS G i)
  dis : ∀ i j p xs ys, i ≠ j → getS G i = .own xs → getS G j = .own ys → σ[i]? = some (some (.ref p)) → σ[j]? = some (some (.ref p)) → False
theorem blank_len : ∀ G : Ev, (blank G).length = G.length
  | [] => rfl
  | _ :: t => congrArg (· + 1) (blank_len t)
section
variable {R : Rg} {B0 H0 B H B' H' : Hp} {σ : L2.St} {G : Ev}
theorem RepS.own (r : RepS R B0 H0 B H σ G) {p : Addr} (h : Ow σ G p) : H0 p = none ∧ B p = none ∧ ¬ inR R p ∧ ∃ vs xs, H p = some (.lst vs) ∧ RpAll B vs xs := by
  obtain ⟨i, xs, e1, e2⟩ := h
  have q := r.sl i
  rw [e1] at q
  obtain ⟨p', vs, e3, h1, h2, h3, h4⟩ := q
  rw [e2] at e3
  cases e3
  exact ⟨h1, h2, r.g0.notR h1, vs, xs, h3, h4⟩
theorem RepS.blank (r : RepS R B0 H0 B H σ G) : RepE R B σ (blank G) := by
  refine ⟨?_, fun i => ?_⟩
  · rw [r.len, blank_len]
  · rw [getS_blank]
    have q := r.sl i
    revert q
    cases getS G i with
    | no => intro _; trivial
    | d x => intro q; exact q
    | own xs => intro _; trivial
/-- with the owned lists as data -/
theorem RepS.plus (r : RepS R B0 H0 B H σ G) : Gd R (plusO (Ow σ G) H B) H ∧ RepE R (plusO (Ow σ G) H B) σ G ∧ Step R B0 H0 (plusO (Ow σ G) H B) H := by
  have hm : ∀ b o, B b = some o → plusO (Ow σ G) H B b = some o := fun b o e => by
    by_cases h : Ow σ G b
    · have := (r.own h).2.1
      rw [e] at this; cases this
    · rw [plusO_no h]; exact e
  have gd : Gd R (plusO (Ow σ G) H B) H := by
    refine ⟨fun b o e => ?_, ?_⟩
    · by_cases h : Ow σ G b
      · rw [plusO_yes h] at e; exact e
      · rw [plusO_no h] at e; exact r.st.gd.ex b o e
    · have d := r.st.gd.dr
      match R, r, d with
      | none, _, _ => trivial
      | some (a, n), r, d =>
        obtain ⟨h0, h1, h2, c, ns, h5, h6, h3, h4⟩ := d
        have na : ¬ Ow σ G a := fun h => (r.own h).2.2.1 (.inl rfl)
        have nn : ¬ Ow σ G n := fun h => (r.own h).2.2.1 (.inr rfl)
        exact ⟨h0, by rw [plusO_no na]; exact h1, by rw [plusO_no nn]; exact h2, c, ns, h5, h6, h3, h4⟩
  refine ⟨gd, ⟨r.len, fun i => ?_⟩, gd, fun b o e => hm b o (r.st.sb b o e), r.st.hb, fun b o e => ?_⟩
  · have q := r.sl i
    revert q
    cases e : getS G i with
    | no => intro _; trivial
    | d x => intro ⟨v, h1, h2⟩; exact ⟨v, h1, h2.mono hm⟩
    | own xs =>
      intro ⟨p, vs, h1, h2, h3, h4, h5⟩
      exact ⟨.ref p, h1, .lst (by rw [plusO_yes ⟨i, xs, e, h1⟩]; exact h4) (h5.mono hm)⟩
  · by_cases h : Ow σ G b
    · exact .inr (r.own h).1
    · rw [plusO_no h] at e; exact r.st.nw b o e
/-- behind an expression, the owned lists read as data: they are as they were -/
theorem RepS.after (r : RepS R B0 H0 B H σ G) (s : Step R (plusO (Ow σ G) H B) H B' H') : RepS R B0 H0 (cutO (Ow σ G) B') H' σ G ∧ ∀ b xs, B' b = some (.tup xs) → cutO (Ow σ G) B' b = some (.tup xs) := by
  have hm : ∀ b o, B b = some o → cutO (Ow σ G) B' b = some o := fun b o e => by
    have h : ¬ Ow σ G b := fun h => by
      have := (r.own h).2.1
      rw [e] at this; cases this
    rw [cutO_no h]
    exact s.sb b o (by rw [plusO_no h]; exact e)
  refine ⟨⟨r.g0, ⟨⟨fun b o e => ?_, ?_⟩, fun b o e => hm b o (r.st.sb b o e), fun b o i e => s.hb b o i (r.st.hb b o i e), fun b o e => ?_⟩, r.len, fun i => ?_, r.dis⟩, fun b xs e => ?_⟩
  · by_cases h : Ow σ G b
    · rw [cutO_yes h] at e; cases e
    · rw [cutO_no h] at e; exact s.gd.ex b o e
  · have d := s.gd.dr
    match R, r, d with
    | none, _, _ => trivial
    | some (a, n), r, d =>
      obtain ⟨h0, h1, h2, c, ns, h5, h6, h3, h4⟩ := d
      have na : ¬ Ow σ G a := fun h => (r.own h).2.2.1 (.inl rfl)
      have nn : ¬ Ow σ G n := fun h => (r.own h).2.2.1 (.inr rfl)
      exact ⟨h0, by rw [cutO_no na]; exact h1, by rw [cutO_no nn]; exact h2, c, ns, h5, h6, h3, h4⟩
  · by_cases h : Ow σ G b
    · rw [cutO_yes h] at e; cases e
    · rw [cutO_no h] at e
      rcases s.nw b o e with q | q
      · rw [plusO_no h] at q; exact r.st.nw b o q
      · exact .inr (r.st.fresh q)
  · have q := r.sl i
    revert q
    cases e : getS G i with
    | no => intro _; trivial
    | d x => intro ⟨v, h1, h2⟩; exact ⟨v, h1, h2.mono hm⟩
    | own xs =>
      intro ⟨p, vs, h1, h2, h3, h4, h5⟩
      have ho : Ow σ G p := ⟨i, xs, e, h1⟩
      exact ⟨p, vs, h1, h2, cutO_yes ho, s.hb p _ (r.own ho).2.2.1 h4, h5.mono hm⟩
  · have h : ¬ Ow σ G b := fun h => by
      obtain ⟨_, _, nr, vs, ys, h4, _⟩ := r.own h
      have e2 := s.gd.ex b _ e
      have e3 := s.hb b _ nr h4
      rw [e2] at e3; cases e3
    rw [cutO_no h]; exact e
/-- behind an expression that did not read them -/
theorem RepS.afterB (r : RepS R B0 H0 B H σ G) (s : Step R B H B' H') : RepS R B0 H0 B' H' σ G := by
  refine ⟨r.g0, r.st.trans s, r.len, fun i => ?_, r.dis⟩
  have q := r.sl i
  revert q
  cases e : getS G i with
  | no => intro _; trivial
  | d x => intro ⟨v, h1, h2⟩; exact ⟨v, h1, h2.mono s.sb⟩
  | own xs =>
    intro ⟨p, vs, h1, h2, h3, h4, h5⟩
    exact ⟨p, vs, h1, h2, s.notNew h3 h4, s.hb p _ (r.g0.notR h2) h4, h5.mono s.sb⟩
theorem no_of_ge {i : Nat} (h : ¬ i < G.length) : getS G i = .no := by
  cases z : getS G i with
  | no => rfl
  | _ => exact absurd (getS_lt (by rw [z]; simp)) h
/-- a slot is set to data -/
theorem RepS.set (r : RepS R B0 H0 B H σ G) {i : Nat} {v : V} {x : D} (h : RV R B v x) : RepS R B0 H0 B H (σ.set i (some v)) (setS G i (.d x)) := by
  refine ⟨r.g0, r.st, by rw [List.length_set, setS_len]; exact r.len, fun j => ?_, fun a b p xs ys hab h1 h2 h3 h4 => ?_⟩
  · rw [getS_set]
    have hl := r.len
    by_cases q : j = i ∧ i < G.length
    · rw [if_pos q]
      obtain ⟨rfl, q⟩ := q
      exact ⟨v, by rw [List.getElem?_set_self (by omega)], h⟩
    · rw [if_neg q]
      by_cases e : j = i
      · subst e
        rw [no_of_ge (fun z => q ⟨rfl, z⟩)]
        trivial
      · rw [List.getElem?_set_ne (Ne.symm e)]
        exact r.sl j
  · rw [getS_set] at h1 h2
    split at h1
    · cases h1
    split at h2
    · cases h2
    rename_i n1 n2
    have na : a ≠ i := fun e => by
      subst e
      rw [no_of_ge (fun z => n1 ⟨rfl, z⟩)] at h1; cases h1
    have nb : b ≠ i := fun e => by
      subst e
      rw [no_of_ge (fun z => n2 ⟨rfl, z⟩)] at h2; cases h2
    rw [List.getElem?_set_ne (Ne.symm na)] at h3
    rw [List.getElem?_set_ne (Ne.symm nb)] at h4
    exact r.dis a b p xs ys hab h1 h2 h3 h4
/-- a slot takes a new list for its own -/
theorem RepS.take (r : RepS R B0 H0 B H σ G) {i : Nat} {p : Addr} {vs : List V} {xs : List D} (h0 : H0 p = none) (hB : B p = none) (hH : H p = some (.lst vs)) (ha : RpAll B vs xs) (hn : ∀ j, σ[j]? = some (some (.ref p)) → ∀ ys, getS G j = .own ys → j = i) :
    RepS R B0 H0 B H (σ.set i (some (.ref p))) (setS G i (.own xs)) := by
  refine ⟨r.g0, r.st, by rw [List.length_set, setS_len]; exact r.len, fun j => ?_, fun a b q ys zs hab h1 h2 h3 h4 => ?_⟩
  · rw [getS_set]
    have hl := r.len
    by_cases q : j = i ∧ i < G.length
    · rw [if_pos q]
      obtain ⟨rfl, q⟩ := q
      exact ⟨p, vs, by rw [List.getElem?_set_self (by omega)], h0, hB, hH, ha⟩
    · rw [if_neg q]
      by_cases e : j = i
      · subst e
        rw [no_of_ge (fun z => q ⟨rfl, z⟩)]
        trivial
      · rw [List.getElem?_set_ne (Ne.symm e)]
        exact r.sl j
  · have key : ∀ a ys, getS (setS G i (.own xs)) a = .own ys → (σ.set i (some (V.ref p)))[a]? = some (some (.ref q)) → (a = i ∧ q = p) ∨ (a ≠ i ∧ getS G a = .own ys ∧ σ[a]? = some (some (.ref q))) := fun a ys e1 e2 => by
      rw [getS_set] at e1
      by_cases ha : a = i
      · subst ha
        left
        refine ⟨rfl, ?_⟩
        have hl : a < G.length := by
          have := getS_lt (G := setS G a (.own xs)) (i := a) (by rw [getS_set, e1]; simp)
          rw [setS_len] at this; exact this
        rw [List.getElem?_set_self (by rw [r.len]; exact hl)] at e2
        cases e2; rfl
      · right
        rw [if_neg (fun z => ha z.1)] at e1
        rw [List.getElem?_set_ne (Ne.symm ha)] at e2
        exact ⟨ha, e1, e2⟩
    rcases key a ys h1 h3 with ⟨rfl, rfl⟩ | ⟨na, e1, e2⟩
    · rcases key b zs h2 h4 with ⟨rfl, _⟩ | ⟨nb, e3, e4⟩
      · exact hab rfl
      · exact nb (hn b e4 zs e3)
    · rcases key b zs h2 h4 with ⟨rfl, rfl⟩ | ⟨nb, e3, e4⟩
      · exact na (hn a e2 ys e1)
      · exact r.dis a b q ys zs hab e1 e3 e2 e4
/-- an owned list is changed in place -/
theorem RepS.mut (r : RepS R B0 H0 B H σ G) {i : Nat} {xs ys : List D} {p : Addr} {vs : List V} (e : getS G i = .own xs) (hp : σ[i]? = some (some (.ref p))) (ha : RpAll B vs ys) : RepS R B0 H0 B (upd H p (.lst vs)) σ (setS G i (.own ys)) := by
  have ho : Ow σ G p := ⟨i, xs, e, hp⟩
  obtain ⟨h0, hB, nr, vs0, _, hH, _⟩ := r.own ho
  have hil : i < G.length := getS_lt (by rw [e]; simp)
  refine ⟨r.g0, r.st.mutH r.g0 h0 hB, by rw [setS_len]; exact r.len, fun j => ?_, fun a b q us ws hab h1 h2 h3 h4 => ?_⟩
  · rw [getS_set]
    by_cases q : j = i ∧ i < G.length
    · rw [if_pos q]
      obtain ⟨rfl, q⟩ := q
      exact ⟨p, vs, hp, h0, hB, upd_same, ha⟩
    · rw [if_neg q]
      have nji : j ≠ i := fun z => q ⟨z, hil⟩
      have q := r.sl j
      revert q
      cases ej : getS G j with
      | no => intro _; trivial
      | d x => intro q; exact q
      | own zs =>
        intro ⟨p2, vs2, h1, h2, h3, h4, h5⟩
        have np : p2 ≠ p := fun z => by
          subst z
          exact r.dis j i p2 zs xs nji ej e h1 hp
        exact ⟨p2, vs2, h1, h2, h3, by rw [upd_ne np]; exact h4, h5⟩
  · have key : ∀ a us, getS (setS G i (.own ys)) a = .own us → ∃ us', getS G a = .own us' := fun a us z => by
      rw [getS_set] at z
      split at z
      · rename_i z2
        rw [z2.1]; exact ⟨_, e⟩
      · exact ⟨_, z⟩
    obtain ⟨us', k1⟩ := key a us h1
    obtain ⟨ws', k2⟩ := key b ws h2
    exact r.dis a b q us' ws' hab k1 k2 h3 h4
/-- an owned list becomes data -/
theorem RepS.shut (r : RepS R B0 H0 B H σ G) {i : Nat} {xs : List D} (e : getS G i = .own xs) : ∃ B', RepS R B0 H0 B' H σ (setS G i (.d (.list xs))) := by
  have q := r.sl i
  rw [e] at q
  obtain ⟨p, vs, hp, h0, hB, hH, ha⟩ := q
  have hil : i < G.length := getS_lt (by rw [e]; simp)
  have nr := r.g0.notR h0
  have nb : ∀ b o, B b = some o → b ≠ p := fun b o z => ne_of_none z hB
  have hm : ∀ b o, B b = some o → upd B p (.lst vs) b = some o := fun b o z => by rw [upd_ne (nb b o z)]; exact z
  refine ⟨upd B p (.lst vs), r.g0, ⟨⟨fun b o z => ?_, ?_⟩, fun b o z => hm b o (r.st.sb b o z), r.st.hb, fun b o z => ?_⟩, by rw [setS_len]; exact r.len, fun j => ?_, fun a b q us ws hab h1 h2 h3 h4 => ?_⟩
  · by_cases h : b = p
    · subst h; rw [upd_same] at z; cases z; exact hH
    · rw [upd_ne h] at z; exact r.st.gd.ex b o z
  · have d := r.st.gd.dr
    match R, nr, d with
    | none, _, _ => trivial
    | some (a, n), nr, d =>
      obtain ⟨h0, h1, h2, c, ns, h5, h6, h3, h4⟩ := d
      have na : a ≠ p := fun z => nr (.inl z.symm)
      have nn : n ≠ p := fun z => nr (.inr z.symm)
      exact ⟨h0, by rw [upd_ne na]; exact h1, by rw [upd_ne nn]; exact h2, c, ns, h5, h6, h3, h4⟩
  · by_cases h : b = p
    · subst h; exact .inr h0
    · rw [upd_ne h] at z; exact r.st.nw b o z
  · rw [getS_set]
    by_cases q : j = i ∧ i < G.length
    · rw [if_pos q]
      obtain ⟨rfl, q⟩ := q
      exact ⟨.ref p, hp, .inl (.lst upd_same (ha.mono hm))⟩
    · rw [if_neg q]
      have nji : j ≠ i := fun z => q ⟨z, hil⟩
      have q := r.sl j
      revert q
      cases ej : getS G j with
      | no => intro _; trivial
      | d x => intro ⟨v, h1, h2⟩; exact ⟨v, h1, h2.mono hm⟩
      | own zs =>
        intro ⟨p2, vs2, h1, h2, h3, h4, h5⟩
        have np : p2 ≠ p := fun z => by
          subst z
          exact r.dis j i p2 zs xs nji ej e h1 hp
        exact ⟨p2, vs2, h1, h2, by rw [upd_ne np]; exact h3, h4, h5.mono hm⟩
  · rw [getS_set] at h1 h2
    split at h1
    · cases h1
    split at h2
    · cases h2
    exact r.dis a b q us ws hab h1 h2 h3 h4
end
end Sk
set_option Elab.async false
set_option linter.all false
set_option maxRecDepth 100000
set_option maxHeartbeats 4000000
namespace Sk
open PySem L2
section
variable {P : Program} {w : World} {K : PySem.W.Frag} {mg : Str → Option Value} {base : Heap} {T : Fn → Spec} {cl : Exn → Value} {k : Nat} {C : Ck} {W : WX} {sc : Scope} {F : Cx → Prop}

/-- a family of places for statements -/
structure FamS (P : Program) (w : World) (K : PySem.W.Frag) (mg : Str → Option Value) (base : Heap) (k : Nat) (C : Ck) (W : WX) (sc : Scope) (F : Cx → Prop) : Prop where
  fm : Fam P w K mg base k C W sc F
  po : ∀ X, F X → PassesOwn (model X.prog X.w) X.A X.env X.xe
  kd : sc.kind = .function
  fn : ∀ X, F X → ∀ x, X.fn x = true
  nd : C.N.Nodup
theorem FamS.stor (fs : FamS P w K mg base k C W sc F) {X : Cx} (hX : F X) : Stor X C.N sc :=
  ⟨fs.fm.nn X hX, fs.nd, fun x hx => ⟨by unfold L2.Loc; rw [fs.fm.ss X hX]; exact locK_of hx, .inl (fs.fn X hX x)⟩, fs.fm.cm X hX⟩
structure Cmp (R : Rg) (B0 H0 : Hp) (E : L2.Ends) (J : Ends) : Prop where
  nx : ∀ B H σ G, RepS R B0 H0 B H σ G → J.nx G → E.nx σ H
  rt : ∀ v d B H, Step R B0 H0 B H → RV R B v d → J.rt d → E.rt v H
  bk : ∀ B H σ G, RepS R B0 H0 B H σ G → J.bk G → E.bk σ H
  ct : ∀ B H σ G, RepS R B0 H0 B H σ G → J.ct G → E.ct σ H
def RdS (T : Fn → Spec) (cl : Exn → Value) (W : WX) (t : TS) (s : S) : Prop := ∀ (R : Rg) (B0 H0 B H : Hp) (σ : L2.St) (G : Ev) (E : L2.Ends) (J : Ends), RepS R B0 H0 B H σ G → wpS T s G J → Cmp R B0 H0 E J →
  (∀ x σ' B' H', Step R B0 H0 B' H' → J.ex x → W (cl x) none σ' H') → t E σ H
def RdSs (T : Fn → Spec) (cl : Exn → Value) (W : WX) (t : TS) (s : Ss) : Prop := ∀ (R : Rg) (B0 H0 B H : Hp) (σ : L2.St) (G : Ev) (E : L2.Ends) (J : Ends), RepS R B0 H0 B H σ G → wpSs T s G J → Cmp R B0 H0 E J →
  (∀ x σ' B' H', Step R B0 H0 B' H' → J.ex x → W (cl x) none σ' H') → t E σ H
def SndS (T : Fn → Spec) (cl : Exn → Value) (W : WX) (F : Cx → Prop) (a : Stmt) (s : S) : Prop := ∃ t, (∀ X, F X → PS X a t) ∧ RdS T cl W t s
def SndSs (T : Fn → Spec) (cl : Exn → Value) (W : WX) (F : Cx → Prop) (a : List Stmt) (s : Ss) : Prop := ∃ t, (∀ X, F X → PSs X a t) ∧ RdSs T cl W t s

/-! expressions within statements: the owned lists unread, or read -/
theorem evB {t : TE} {e : E} (r : RdE T cl W t e) {R : Rg} {B0 H0 B H : Hp} {σ : L2.St} {G : Ev} {Q : VK} {Qd : D → Prop} {Xd : Exn → Prop} (rs : RepS R B0 H0 B H σ G) (hw : wpE T e (blank G) Qd Xd)
    (hq : ∀ v d B' H', RepS R B0 H0 B' H' σ G → RV R B' v d → Qd d → Q v H') (hx : ∀ x σ' B' H', Step R B0 H0 B' H' → Xd x → W (cl x) none σ' H') : t σ H Q :=
  r R B σ H (blank G) Q Qd Xd rs.st.gd rs.blank hw (fun v d B' H' s rv q => hq v d B' H' (rs.afterB s) rv q) (fun x B' H' s z => hx x σ B' H' (rs.st.trans s) z)
theorem evP {t : TE} {e : E} (r : RdE T cl W t e) {R : Rg} {B0 H0 B H : Hp} {σ : L2.St} {G : Ev} {Q : VK} {Qd : D → Prop} {Xd : Exn → Prop} (rs : RepS R B0 H0 B H σ G) (hw : wpE T e G Qd Xd)
    (hq : ∀ v d B' H', RepS R B0 H0 B' H' σ G → (noList d = true → Rp B' v d) → Qd d → Q v H') (hx : ∀ x σ' B' H', Step R B0 H0 B' H' → Xd x → W (cl x) none σ' H') : t σ H Q := by
  obtain ⟨gd, re, st⟩ := rs.plus
  refine r R _ σ H G Q Qd Xd gd re hw (fun v d B' H' s rv q => ?_) (fun x B' H' s z => hx x σ B' H' (st.trans s) z)
  obtain ⟨ra, rt⟩ := rs.after s
  refine hq v d _ H' ra (fun hn => ?_) q
  have rp : Rp B' v d := rv.rp (by cases d <;> first | rfl | (simp [noList] at hn))
  exact rp.nolist rt hn
theorem evT {t : TT} {e : E} (r : RdT T cl W t e) {R : Rg} {B0 H0 B H : Hp} {σ : L2.St} {G : Ev} {Q : Bool → Hp → Prop} {Qd : Bool → Prop} {Xd : Exn → Prop} (rs : RepS R B0 H0 B H σ G) (hw : wpE T e G (asBool Qd) Xd)
    (hq : ∀ b B' H', RepS R B0 H0 B' H' σ G → Qd b → Q b H') (hx : ∀ x σ' B' H', Step R B0 H0 B' H' → Xd x → W (cl x) none σ' H') : t σ H Q := by
  obtain ⟨gd, re, st⟩ := rs.plus
  exact r R _ σ H G Q Qd Xd gd re hw (fun b B' H' s q => hq b _ H' (rs.after s).1 q) (fun x B' H' s z => hx x σ B' H' (st.trans s) z)
theorem evF {t : TE} {e : E} (r : RdF T cl W t e) {R : Rg} {B0 H0 B H : Hp} {σ : L2.St} {G : Ev} {Q : VK} {Qd : D → Prop} {Xd : Exn → Prop} (rs : RepS R B0 H0 B H σ G) (hw : wpE T e (blank G) Qd Xd)
    (hq : ∀ p vs ds B' H', RepS R B0 H0 B' H' σ G → H0 p = none → H p = none → B' p = none → H' p = some (.lst vs) → RpAll B' vs ds → Qd (.list ds) → Q (.ref p) H') (hx : ∀ x σ' B' H', Step R B0 H0 B' H' → Xd x → W (cl x) none σ' H') : t σ H Q :=
  r R B σ H (blank G) Q Qd Xd rs.st.gd rs.blank hw (fun p vs ds B' H' s h1 h2 h3 h4 q => hq p vs ds B' H' (rs.afterB s) (rs.st.fresh h1) h1 h2 h3 h4 q) (fun x B' H' s z => hx x σ B' H' (rs.st.trans s) z)
/-- a list that is new is owned by no slot -/
theorem RepS.newP {R : Rg} {B0 H0 B H : Hp} {σ : L2.St} {G : Ev} (rs : RepS R B0 H0 B H σ G) {p : Addr} (h : H p = none) : ∀ j, σ[j]? = some (some (.ref p)) → ∀ ys, getS G j = .own ys → False := fun j e ys g => by
  obtain ⟨_, _, _, vs, xs, h4, _⟩ := rs.own (p := p) ⟨j, ys, g, e⟩
  rw [h] at h4; cases h4

/-! names stored -/
theorem noComp_sw {v : Expr} (h : noCompE v = true) (t : Option Expr) (n : Nat) (env : Env) : swapsWith v t n env = pure false := by
  cases v <;> first | rfl | (simp [noCompE] at h)
theorem sw_cell {elt : Expr} {gs : List Comprehension} {scope : Scope} {pos py : Pos} {y : Str} {l : Nat} {env : Env} (hy : env.scope.names.lookup y = some .cell) : swapsWith (.ListComp elt gs scope pos) (some (.Name y py)) l env = pure false := by
  have ky : env.kindOf y = some .cell := hy
  unfold swapsWith
  simp only [ky]
  have : (some NameKind.cell == some NameKind.local) = false := by decide
  simp only [this, Bool.and_false, Bool.false_and]
  first | done | rfl
/-- the storing of a name, by what the value's reading is -/
theorem asg_rule (tp : Tp P w K mg base T cl k C) (fs : FamS P w K mg base k C W sc F) {i : Nat} {e : E} {x : Str} {px pos : Pos} {v : Expr} (h1 : nmB C.N sc i x = true) (h2 : swOk sc x px v = true) (h3 : chE C e sc v = true) :
    ∃ t, (∀ X, F X → PS X (.Assign [.Name x px] v pos) (tAsg t (gName i))) ∧ RdE T cl W t e ∧ ((∃ ts it c el, e = .lc ts it c el) → RdF T cl W t e) := by
  simp only [nmB, Bool.and_eq_true, decide_eq_true_eq] at h1
  by_cases hc : noCompE v = true
  · obtain ⟨t, pt, rt⟩ := (sndE tp e sc v W F fs.fm h3).1
    refine ⟨t, fun X hX => ps_set (by rw [fs.fm.nn X hX]; exact fs.nd) (by rw [fs.fm.nn X hX]; exact h1.1) ((fs.stor hX).lc x h1.2).1 (pt X hX) (noComp_sw hc _ _ _) (.inl (fs.fn X hX x)), rt, fun ⟨ts, it, c, el, q⟩ => ?_⟩
    subst q
    cases v <;> simp [noCompE] at hc <;> simp [chE] at h3
  · cases v with
    | ListComp elt gs scope p2 =>
      cases e <;> simp only [chE, Bool.false_eq_true] at h3
      rename_i ts it c el
      split at h3
      · rename_i h3a
        rename_i elt' tg iter ifs n scope' pos' 
        cases h3a
        simp only [Bool.and_eq_true, decide_eq_true_eq] at h3
        obtain ⟨⟨⟨⟨⟨⟨h30, h31⟩, h32⟩, h33⟩, h34⟩, h35⟩, h36⟩ := h3
        subst h30
        obtain ⟨wi, pi, ri⟩ := sndIt tp it sc tg iter W F fs.fm h31 h32
        have fb := fam_blk fs.fm scope
        obtain ⟨tt, pt, rt⟩ := sndC tp c (relS scope sc) ifs _ _ fb h35
        obtain ⟨te, pe, re⟩ := (sndE tp el (relS scope sc) elt _ _ fb h36).1
        have rf : RdF T cl W (tLc wi (gOf K ts) tt te ts) (.lc ts it c el) := rdF_lc (chT_len h33) ri rt re
        have ok := blkOk_by h34
        refine ⟨tLc wi (gOf K ts) tt te ts, fun X hX => ?_, rf.toE, fun _ => rf⟩
        have hg : ∀ (s : Shared) (H : Hp) (Ca : Addr) (cl : List (Str × Addr)) (fp : List Addr), PG (X.blk s H scope (compEnvC scope cl Ca X.env) fp) tg (gOf K ts) := fun s H Ca cl fp => pgT (K := K) (stor_blk fs.fm fs.nd scope ⟨X, s, H, Ca, cl, fp, hX, rfl⟩) (fs.fm.kk X hX) h33
        have ht : ∀ (s : Shared) (H : Hp) (Ca : Addr) (cl : List (Str × Addr)) (fp : List Addr), PTs (X.blk s H scope (compEnvC scope cl Ca X.env) fp) ifs tt := fun s H Ca cl fp => pt _ ⟨X, s, H, Ca, cl, fp, hX, rfl⟩
        have hE : ∀ (s : Shared) (H : Hp) (Ca : Addr) (cl : List (Str × Addr)) (fp : List Addr), PE (X.blk s H scope (compEnvC scope cl Ca X.env) fp) elt te := fun s H Ca cl fp => pe _ ⟨X, s, H, Ca, cl, fp, hX, rfl⟩
        have okX : BlkOk X.N X.env.scope scope (ownOf C.N ts) := by rw [fs.fm.nn X hX, fs.fm.ss X hX]; exact ok
        have nd : X.N.Nodup := by rw [fs.fm.nn X hX]; exact fs.nd
        have hN : X.N[i]? = some x := by rw [fs.fm.nn X hX]; exact h1.1
        simp only [swOk] at h2
        split at h2
        · rename_i hcell
          have q := pe_lc (X := X) (pos := p2) (own := ownOf C.N ts) (fs.fm.cm X hX) nd (pi X hX) okX hg ht hE (fun z => noSetI_of h31 _ _)
          rw [ownOf_snd] at q
          exact ps_set nd hN ((fs.stor hX).lc x h1.2).1 q (sw_cell (by rw [fs.fm.ss X hX]; exact hcell)) (.inl (fs.fn X hX x))
        · rename_i hloc
          simp only [Bool.and_eq_true, Bool.not_eq_true'] at h2
          have hl : X.env.scope.names.lookup x = some .local := by rw [fs.fm.ss X hX]; exact hloc
          have q := ps_setLc (X := X) (i := i) (pos := p2) (spos := pos) (py := px) (own := ownOf C.N ts) (fs.fm.cm X hX) nd hN hl (sw_true (by rw [fs.fm.ss X hX]; exact fs.kd) hl h2.1 h2.2) (pi X hX) okX hg ht hE (fun z => noSetI_of h31 _ _)
          rw [ownOf_snd] at q
          exact q
        · cases h2
      · cases h3
    | SetComp => simp [swOk] at h2
    | DictComp => simp [swOk] at h2
    | _ => exact absurd rfl hc
theorem rd_asg {t : TE} {e : E} {i : Nat} {fl : Bool} (r : RdE T cl W t e) : RdS T cl W (tAsg t (gName i)) (.asg fl i e) := by
  intro R B0 H0 B H σ G E J rs hw cm hx
  cases fl with
  | true =>
    simp only [wpS] at hw
    exact evP r rs hw (fun v d B' H' ra hn q => cm.nx B' H' _ _ (ra.set (.inl (hn q.1))) q.2) hx
  | false =>
    simp only [wpS] at hw
    exact evB r rs hw (fun v d B' H' ra rv q => cm.nx B' H' _ _ (ra.set rv) q) hx
theorem rd_own {t : TE} {e : E} {i : Nat} (r : RdF T cl W t e) : RdS T cl W (tAsg t (gName i)) (.own i e) := by
  intro R B0 H0 B H σ G E J rs hw cm hx
  simp only [wpS] at hw
  refine evF r rs hw (fun p vs ds B' H' ra h0 h1 h2 h3 h4 q => ?_) hx
  exact cm.nx B' H' _ _ (ra.take h0 h2 h3 h4 (fun j e ys g => (rs.newP h1 j e ys g).elim)) q
end
end Sk
set_option Elab.async false
set_option linter.all false
set_option maxRecDepth 100000
set_option maxHeartbeats 4000000
namespace Sk
open PySem L2
section
variable {P : Program} {w : World} {K : PySem.W.Frag} {mg : Str → Option Value} {base : Heap} {T : Fn → Spec} {cl : Exn → Value} {k : Nat} {C : Ck} {W : WX} {sc : Scope} {F : Cx → Prop}

/-! new lists that a slot will own -/
theorem sndFr (tp : Tp P w K mg base T cl k C) (fm : Fam P w K mg base k C W sc F) {e : E} {v : Expr} (hf : isFresh e = true) (hl : ∀ ts it c el, e ≠ .lc ts it c el) (h : chE C e sc v = true) : SndF T cl W F v e := by
  cases e with
  | lst es =>
    unfold chE at h
    split at h
    · exact sndF_lst (sndA tp es sc _ W F fm h)
    · cases h
  | lc ts it c el => exact absurd rfl (hl ts it c el)
  | lstRg lo hi c =>
    unfold chE at h
    split at h
    · simp only [Bool.and_eq_true, decide_eq_true_eq] at h
      obtain ⟨⟨⟨⟨h1, h2⟩, h3⟩, h4⟩, h5⟩ := h
      split at h5
      · simp only [Bool.and_eq_true] at h5
        obtain ⟨h5, h6⟩ := h5
        split at h5
        · have hb := sndOe tp hi sc _ W F fm h6
          exact sndF_lstRg1 tp fm h1 h2 h3 h4 hb.1 hb.2
        · cases h5
      · simp only [Bool.and_eq_true] at h5
        have ha := sndOe tp lo sc _ W F fm h5.1
        have hb := sndOe tp hi sc _ W F fm h5.2
        exact sndF_lstRg2 tp fm h1 h2 h3 h4 ha.1 hb.1 ha.2 hb.2
      · cases h5
    · cases h
  | bin op p q =>
    cases op <;> cases p <;> simp only [isFresh, Bool.false_eq_true] at hf
    rename_i es
    unfold chE at h
    split at h
    · rename_i l o r pos
      simp only [Bool.and_eq_true] at h
      have hfl : SndF T cl W F l (.lst es) := by
        have hl2 := h.1.2
        unfold chE at hl2
        split at hl2
        · exact sndF_lst (sndA tp es sc _ W F fm hl2)
        · cases hl2
      obtain ⟨ta, pa, ra⟩ := hfl
      obtain ⟨tb, pb, rb⟩ := (sndE tp q sc r W F fm h.2).1
      cases o <;> simp only [opB, Bool.false_eq_true, false_and] at h
      refine ⟨_, fun X hX => pe_op (op_rep.or op_mul) (pa X hX) (pb X hX), fun R B σ H G Q Qd Xd g rp hw hq hx => ?_⟩
      have hw' : wpE T (.lst es) G (fun x => wpE T q G (fun y => must (bop .mul x y) Qd) Xd) Xd := hw
      refine ra R B σ H G _ _ Xd g rp hw' (fun p0 ys xs B1 H1 s1 hp0 hB0 hH0 ha0 w1 => ?_) hx
      refine rb R B1 σ H1 G _ _ Xd s1.gd (rp.mono s1.sb) w1 (fun u d2 B2 H2 s2 r2 w2 => ?_) (fun x B' H' s' => hx x B' H' (s1.trans s'))
      obtain ⟨z, e1, w3⟩ := must_some w2
      match d2, r2, e1 with
      | .int j, r2, e1 =>
        have hH2 : H2 p0 = some (.lst ys) := s2.hb p0 _ (g.notR hp0) hH0
        have h2 := ha0.mono s2.sb
        simp only [bop] at e1
        split at e1
        · rename_i hl
          cases e1
          refine .inl ⟨p0, j, ys, rfl, r2.int, hH2, by omega, by omega, ?_, fun p hp => newF (ds := (List.replicate j.toNat xs).flatten) s2.gd hp (h2.rep _) fun p vs ds' B' H' s' b1 b2 b3 b4 e => ?_⟩
          · rw [h2.len]
            have h5 : xs.length * j.toNat ≤ 100 * 1000 := Nat.mul_le_mul hl.2.2 (by omega)
            exact Nat.le_trans h5 lim_line
          · subst e
            exact hq p vs _ B' H' ((s1.trans s2).trans s') ((s1.trans s2).fresh b1) b2 b3 b4 w3
        · cases e1
    · cases h
  | _ => simp [isFresh] at hf

/-! tuples of names stored -/
theorem rdG_S {R : Rg} {B0 H0 B H : Hp} {σ : L2.St} {G : Ev} {ts : List Nat} {v : V} {d : D} {Kd : Ev → Prop} {Q : L2.St → Hp → Prop} (rs : RepS R B0 H0 B H σ G) (rv : RV R B v d) (hb : bindT ts d G Kd)
    (hq : ∀ σ' G', RepS R B0 H0 B H σ' G' → Kd G' → Q σ' H) : gOf K ts v σ H Q := by
  match ts, hb with
  | [i], hb => exact hq _ _ (rs.set rv) hb
  | [i, j], hb =>
    obtain ⟨x, y, rfl, hk⟩ := bindT_two hb
    obtain ⟨a, xs, rfl, h1, h2⟩ := rv.tuple
    cases h2 with | cons c1 h2 => cases h2 with | cons c2 h2 =>
    cases h2
    rename_i u1 u2
    exact ⟨a, _, rfl, SqT.of (rs.st.gd.ex _ _ h1), rfl, u1, [u2], rfl, u2, [], rfl, rfl, hq _ _ ((rs.set (.inl c1)).set (.inl c2)) hk⟩
  | [], hb => exact hb.elim
  | _ :: _ :: _ :: _, hb => exact hb.elim
theorem swapped_none {x y : Str} {px py tpos p : Pos} {us : List Expr} {kk j : Nat} {env : Env} (h : ¬ (env.kindOf x = some .local ∧ env.kindOf y = some .local)) : swappedStores [.Tuple [.Name x px, .Name y py] kk tpos] (.Tuple us j p) env = pure none := by
  unfold swappedStores
  dsimp only
  simp
  intro h1 h2 h3 h4
  exfalso
  revert h4
  by_cases hx : env.kindOf x = some .local
  · have hy : ¬ env.kindOf y = some .local := fun z => h ⟨hx, z⟩
    simp only [List.filterMap_cons, List.filterMap_nil, hy, false_and, if_false]
    split <;> simp
  · simp only [List.filterMap_cons, List.filterMap_nil, hx, false_and, if_false]
    split <;> simp
theorem sndS_asgT (tp : Tp P w K mg base T cl k C) (fs : FamS P w K mg base k C W sc F) {ts : List Nat} {e : E} {tg v : Expr} {pos : Pos} (h0 : isTupE tg = true) (h1 : chT C.N sc ts tg = true) (h2 : plainT sc tg v = true) (h3 : noCompE v = true) (h4 : chE C e sc v = true) : SndS T cl W F (.Assign [tg] v pos) (.asgT ts e) := by
  obtain ⟨t, pt, rt⟩ := (sndE tp e sc v W F fs.fm h4).1
  cases tg <;> simp only [isTupE, Bool.false_eq_true] at h0
  rename_i elts kk tpos
  refine ⟨tAsg t (gOf K ts), fun X hX => ps_asg (pt X hX) (pgT (K := K) (fs.stor hX) (fs.fm.kk X hX) h1) (noComp_sw h3 (some (.Tuple elts kk tpos)) pos.line X.env) ?_ rfl, fun R B0 H0 B H σ G E J rs hw cm hx => ?_⟩
  · cases v <;> first | rfl | skip
    simp only [plainT] at h2
    split at h2
    · rename_i heq
      cases heq
      refine swapped_none fun ⟨z1, z2⟩ => ?_
      unfold Env.kindOf at z1 z2
      rw [fs.fm.ss X hX] at z1 z2
      simp [isLocal, z1, z2] at h2
    · cases h2
  · simp only [wpS] at hw
    exact evB rt rs hw (fun u d B' H' ra rv q => rdG_S ra rv q fun σ' G' ra' q' => cm.nx B' H' σ' G' ra' q') hx
end
end Sk
set_option Elab.async false
set_option linter.all false
set_option maxRecDepth 100000
set_option maxHeartbeats 4000000
namespace Sk
open PySem L2
section
variable {P : Program} {w : World} {K : PySem.W.Frag} {mg : Str → Option Value} {base : Heap} {T : Fn → Spec} {cl : Exn → Value} {k : Nat} {C : Ck} {W : WX} {sc : Scope} {F : Cx → Prop}

theorem nm_ok (fs : FamS P w K mg base k C W sc F) {X : Cx} (hX : F X) {i : Nat} {x : Str} (h : nmB C.N sc i x = true) : X.N.Nodup ∧ X.N[i]? = some x ∧ L2.Loc X.env.scope x ∧ (X.fn x = true ∨ X.env.scope.names.lookup x = some .local) := by
  simp only [nmB, Bool.and_eq_true, decide_eq_true_eq] at h
  exact ⟨by rw [fs.fm.nn X hX]; exact fs.nd, by rw [fs.fm.nn X hX]; exact h.1, ((fs.stor hX).lc x h.2).1, ((fs.stor hX).lc x h.2).2⟩
theorem nv_pe (fs : FamS P w K mg base k C W sc F) {X : Cx} (hX : F X) {i : Nat} {x : Str} {pos : Pos} (h : nvB C.N sc i x = true) : PE X (.Name x pos) (tVar i) := by
  simp only [nvB, Bool.and_eq_true] at h
  have h1 := nm_ok fs hX h.1
  have h2 := h.2
  simp only [visB, Bool.and_eq_true, Bool.not_eq_true'] at h2
  refine pe_var h1.2.1 ?_ h2.1.2 h2.2
  rcases h1.2.2.1 with z | z
  · exact .inl z
  · exact .inr (.inl z)
/-! two names stored from a written pair -/
theorem isLocal_of {x : Str} (h : isLocal sc x = true) : sc.names.lookup x = some .local := by
  unfold isLocal at h
  split at h
  · assumption
  · cases h
theorem swapped_some {x y : Str} {px py tpos p : Pos} {a b : Expr} {kk j : Nat} {env : Env} (hk : env.scope.kind = .function) (hx : env.kindOf x = some .local) (hy : env.kindOf y = some .local) (hxy : (x == y) = false) (hl : (py.line == px.line) = true)
    (hf : (foldedForSure 8 a && foldedForSure 8 b) = false) (hc : (constantsAlone 8 a && constantsAlone 8 b) = false) (ha : notStar a = true) (hb : notStar b = true) :
    swappedStores [.Tuple [.Name x px, .Name y py] kk tpos] (.Tuple [a, b] j p) env = pure (some [x, y]) := by
  have hbk : env.blockKind = .function := by unfold Env.blockKind; rw [hk]; rfl
  have hxy2 : ¬ y = x := fun e => by subst e; simp at hxy
  have hl2 : py.line = px.line := by simpa using hl
  have hsa : (match a with | .Starred .. => true | _ => false) = false := by cases a <;> first | rfl | (simp [notStar] at ha)
  have hsb : (match b with | .Starred .. => true | _ => false) = false := by cases b <;> first | rfl | (simp [notStar] at hb)
  unfold swappedStores
  dsimp only
  simp only [List.length_cons, List.length_nil, List.any_cons, List.any_nil, List.all_cons, List.all_nil, List.filterMap_cons, List.filterMap_nil, hbk, hx, hy, Expr.pos, List.head?_cons, Option.map_some, Option.getD_some, hsa, hsb, hl, beq_self_eq_true, Bool.and_true, if_true, hf, hc]
  simp [hl2, List.eraseDups_cons, hxy2, Expr.pos]
  intro hh
  exfalso
  rcases hh with z | z
  · cases a <;> first | (cases z; done) | (simp [notStar] at ha)
  · cases b <;> first | (cases z; done) | (simp [notStar] at hb)
theorem notStar_of {e : E} {a : Expr} (h : chE C e sc a = true) : notStar a = true := by
  cases a <;> first | rfl | skip
  cases e <;> simp [chE] at h
theorem sndS_par (tp : Tp P w K mg base T cl k C) (fs : FamS P w K mg base k C W sc F) {i j : Nat} {p q : E} {x y : Str} {px py tpos vpos pos : Pos} {a b : Expr} {kk k2 : Nat} (h1 : nmB C.N sc i x = true) (h2 : nmB C.N sc j y = true) (h3 : i ≠ j) (h4 : parB sc x y px py a b = true)
    (h5 : chE C p sc a = true) (h6 : chE C q sc b = true) : SndS T cl W F (.Assign [.Tuple [.Name x px, .Name y py] kk tpos] (.Tuple [a, b] k2 vpos) pos) (.par i j p q) := by
  obtain ⟨ta, pa, ra⟩ := (sndE tp p sc a W F fs.fm h5).1
  obtain ⟨tb, pb, rb⟩ := (sndE tp q sc b W F fs.fm h6).1
  simp only [parB, Bool.and_eq_true, Bool.not_eq_true'] at h4
  obtain ⟨⟨⟨⟨⟨g1, g2⟩, g3⟩, g4⟩, g5⟩, g6⟩ := h4
  refine ⟨tPar i j (tCons ta (tCons tb tNil)), fun X hX => ?_, fun R B0 H0 B H σ G E J rs hw cm hx => ?_⟩
  · have e1 : X.env.scope.names.lookup x = some .local := by rw [fs.fm.ss X hX]; exact isLocal_of g1
    have e2 : X.env.scope.names.lookup y = some .local := by rw [fs.fm.ss X hX]; exact isLocal_of g2
    exact ps_par (fs.fm.cm X hX) (nm_ok fs hX h1).1 (nm_ok fs hX h1).2.1 (nm_ok fs hX h2).2.1 h3 e1 e2 (pa_cons (pa X hX) (pa_cons (pb X hX) pa_nil (noStar_of h6 _ _)) (noStar_of h5 _ _))
      (swapped_some (by rw [fs.fm.ss X hX]; exact fs.kd) e1 e2 g3 g4 g5 g6 (notStar_of h5) (notStar_of h6)) rfl
  · simp only [wpS] at hw
    refine evB ra rs hw (fun v d B1 H1 r1 rv w1 => ?_) hx
    have := r1.st
    refine rb R B1 σ H1 (blank G) _ _ _ r1.st.gd r1.blank w1 (fun u d2 B2 H2 s2 ru w2 => ?_) (fun x B' H' s z => hx x σ B' H' (r1.st.trans s) z)
    exact ⟨v, u, rfl, cm.nx B2 H2 _ _ (((r1.afterB s2).set (rv.mono s2.sb)).set ru) w2⟩
/-! an expression's value dropped -/
theorem sndS_expr (tp : Tp P w K mg base T cl k C) (fs : FamS P w K mg base k C W sc F) {e : E} {v : Expr} {pos : Pos} (h1 : noCompE v = true) (h2 : chE C e sc v = true) : SndS T cl W F (.Expr v pos) (.expr e) := by
  obtain ⟨ta, pa, ra⟩ := (sndE tp e sc v W F fs.fm h2).1
  refine ⟨tDrop ta, fun X hX => ps_expr (pa X hX) (noComp_sw h1 _ _ _), fun R B0 H0 B H σ G E J rs hw cm hx => ?_⟩
  simp only [wpS] at hw
  exact evP ra rs hw (fun v d B' H' r' _ q => cm.nx B' H' σ G r' q) hx
/-! lists changed in place -/
theorem own_slot {R : Rg} {B0 H0 B H : Hp} {σ : L2.St} {G : Ev} {i : Nat} {xs : List D} (rs : RepS R B0 H0 B H σ G) (e : getS G i = .own xs) : ∃ p vs, σ[i]? = some (some (.ref p)) ∧ H p = some (.lst vs) ∧ RpAll B vs xs := by
  have q := rs.sl i
  rw [e] at q
  obtain ⟨p, vs, h1, _, _, h4, h5⟩ := q
  exact ⟨p, vs, h1, h4, h5⟩
theorem getS_own {G : Ev} {i : Nat} {f : List D → Prop} (h : match getS G i with | .own xs => f xs | _ => False) : ∃ xs, getS G i = .own xs ∧ f xs := by
  revert h
  cases e : getS G i with
  | own xs => intro h; exact ⟨xs, rfl, h⟩
  | no => intro h; exact h.elim
  | d x => intro h; exact h.elim
theorem sndS_app (tp : Tp P w K mg base T cl k C) (fs : FamS P w K mg base k C W sc F) {i : Nat} {e : E} {x n : Str} {px ap cp pos : Pos} {v : Expr} (h1 : nvB C.N sc i x = true) (h2 : n = ("append" : Str)) (h3 : (ap.endLine == cp.line) = true) (h4 : chE C e sc v = true) :
    SndS T cl W F (.Expr (.Call (.Attribute (.Name x px) n ap) [v] [] cp) pos) (.app i e) := by
  obtain ⟨ta, pa, ra⟩ := (sndE tp e sc v W F fs.fm h4).1
  subst h2
  have hn : NoStars [v] := fun z hz => by rw [List.mem_singleton.mp hz]; exact noStar_of h4
  refine ⟨tDrop (tBM K "list" rAppend (tVar i) (tCons ta tNil)), fun X hX => ps_expr ?_ rfl, fun R B0 H0 B H σ G E J rs hw cm hx => ?_⟩
  · have h := pe_bm (apos := ap) (cpos := cp) PySem.F.plainAttrs_list PySem.F.slot_list_append PySem.F.type_list_append (mt_append (X := X)) (nv_pe (pos := px) fs hX h1) (pa_cons (pa X hX) pa_nil (noStar_of h4 _ _)) rfl (few_of hn (by simp) _ _) h3 (noStar_of h4 _ _) rfl
    rw [fs.fm.kk X hX] at h
    exact h
  · simp only [wpS] at hw
    obtain ⟨xs, e1, hw⟩ := getS_own hw
    obtain ⟨p, vs, hp, hH, ha⟩ := own_slot rs e1
    refine ⟨.ref p, hp, .inl ⟨rfl, _, SqL.of hH⟩, evP ra rs hw (fun u d B' H' r' hn' q => ?_) hx⟩
    obtain ⟨q1, q2, q3⟩ := q
    obtain ⟨p', vs', hp', hH', ha'⟩ := own_slot r' e1
    rw [hp] at hp'
    cases hp'
    exact ⟨p, vs', u, rfl, rfl, hH', by rw [ha'.len]; exact Nat.lt_trans q2 lim_lt, cm.nx B' _ σ _ (r'.mut e1 hp (ha'.append (.cons (hn' q1) .nil))) q3⟩
theorem erase_ix : ∀ {ns : List Int} {n : Int}, n ∈ ns → ∃ j, ns[j]? = some n ∧ (∀ m : Nat, m < j → ns[m]? ≠ some n) ∧ ns.erase n = ns.eraseIdx j
  | [], n, h => by cases h
  | x :: r, n, h => by
    by_cases e : x = n
    · subst e
      exact ⟨0, rfl, fun m hm => by omega, by simp⟩
    · have hr : n ∈ r := by
        rcases List.mem_cons.mp h with z | z
        · exact absurd z.symm e
        · exact z
      obtain ⟨j, h1, h2, h3⟩ := erase_ix hr
      refine ⟨j + 1, by simpa using h1, fun m hm => ?_, ?_⟩
      · cases m with
        | zero => simpa using e
        | succ m => simpa using h2 m (by omega)
      · rw [List.erase_cons_tail (by simpa using e), h3]
        rfl
theorem sndS_rem (tp : Tp P w K mg base T cl k C) (fs : FamS P w K mg base k C W sc F) {i : Nat} {e : E} {x n : Str} {px ap cp pos : Pos} {v : Expr} (h1 : nvB C.N sc i x = true) (h2 : n = ("remove" : Str)) (h3 : (ap.endLine == cp.line) = true) (h4 : chE C e sc v = true) :
    SndS T cl W F (.Expr (.Call (.Attribute (.Name x px) n ap) [v] [] cp) pos) (.rem i e) := by
  obtain ⟨ta, pa, ra⟩ := (sndE tp e sc v W F fs.fm h4).1
  subst h2
  have hn : NoStars [v] := fun z hz => by rw [List.mem_singleton.mp hz]; exact noStar_of h4
  refine ⟨tDrop (tBM K "list" rRemI (tVar i) (tCons ta tNil)), fun X hX => ps_expr ?_ rfl, fun R B0 H0 B H σ G E J rs hw cm hx => ?_⟩
  · have h := pe_bm (apos := ap) (cpos := cp) PySem.F.plainAttrs_list PySem.F.slot_list_remove PySem.F.type_list_remove (mt_remove (X := X)) (nv_pe (pos := px) fs hX h1) (pa_cons (pa X hX) pa_nil (noStar_of h4 _ _)) rfl (few_of hn (by simp) _ _) h3 (noStar_of h4 _ _) rfl
    rw [fs.fm.kk X hX] at h
    exact h
  · simp only [wpS] at hw
    obtain ⟨xs, e1, hw⟩ := getS_own hw
    obtain ⟨p, vs, hp, hH, ha⟩ := own_slot rs e1
    refine ⟨.ref p, hp, .inl ⟨rfl, _, SqL.of hH⟩, evP ra rs hw (fun u d B' H' r' hn' q => ?_) hx⟩
    obtain ⟨m, rfl, q0⟩ := asInt_some q
    have hu : u = .int m := by cases hn' rfl; rfl
    subst hu
    split at q0
    · rename_i ns e2
      obtain ⟨q1, q2⟩ := q0
      obtain ⟨p', vs', hp', hH', ha'⟩ := own_slot r' e1
      rw [hp] at hp'
      cases hp'
      have hv := ha'.ints e2
      obtain ⟨j, j1, j2, j3⟩ := erase_ix q1
      refine ⟨p, ns, m, j, rfl, rfl, by rw [← hv]; exact hH', j1, j2, cm.nx B' _ σ _ ?_ q2⟩
      rw [j3]
      exact r'.mut e1 hp (RpAll.ofInts _)
    · exact q0.elim
theorem ix_set {B : Hp} {xs : List D} {vs : List V} (ha : RpAll B vs xs) (n : Int) : ixN vs.length n = ixD xs.length n := by rw [ha.len]; rfl
theorem noComp_sub {v : Expr} (h : noCompE v = true) {o u : Expr} {p : Pos} {l : Nat} {env : Env} : swapsWithSole [.Subscript o u p] v l env = pure false := noComp_sw h (some (.Subscript o u p)) l env
theorem sw_sub {v o u : Expr} {p : Pos} {env : Env} : swappedStores [.Subscript o u p] v env = pure none := by cases v <;> rfl
theorem sndS_setix (tp : Tp P w K mg base T cl k C) (fs : FamS P w K mg base k C W sc F) {i : Nat} {n e : E} {x : Str} {px sp pos : Pos} {u v : Expr} (h1 : nvB C.N sc i x = true) (h2 : noCompE v = true) (h3 : chE C n sc u = true) (h4 : chE C e sc v = true) :
    SndS T cl W F (.Assign [.Subscript (.Name x px) u sp] v pos) (.setix i n e) := by
  obtain ⟨ta, pa, ra⟩ := (sndE tp e sc v W F fs.fm h4).1
  obtain ⟨tn, pn, rn⟩ := (sndE tp n sc u W F fs.fm h3).1
  refine ⟨tAsg ta (gSub (tVar i) tn rSetL), fun X hX => ps_asg (pa X hX) (pg_sub (nv_pe fs hX h1) (pn X hX) set_list (fun z => ?_)) (noComp_sub h2) sw_sub rfl, fun R B0 H0 B H σ G E J rs hw cm hx => ?_⟩
  · cases u <;> first | rfl | skip
    cases n <;> simp [chE] at h3
  · simp only [wpS] at hw
    obtain ⟨xs, e1, hw⟩ := getS_own hw
    refine evP ra rs hw (fun y d B' H' r' hn' q => ?_) hx
    obtain ⟨q1, q2⟩ := q
    obtain ⟨p, vs, hp, hH, ha⟩ := own_slot r' e1
    have ry := hn' q1
    refine ⟨.ref p, hp, ?_⟩
    -- the value keeps: it holds no list
    obtain ⟨gd, re, st⟩ := r'.plus
    refine rn R _ σ H' G _ _ _ gd re q2 (fun v2 d2 B2 H2 s2 rv2 w2 => ?_) (fun x B' H' s z => hx x σ B' H' (st.trans s) z)
    obtain ⟨ra2, rt2⟩ := r'.after s2
    obtain ⟨m, rfl, w3⟩ := asInt_some w2
    split at w3
    · rename_i j ej
      obtain ⟨p', vs', hp', hH', ha'⟩ := own_slot ra2 e1
      rw [hp] at hp'
      cases hp'
      have ry2 : Rp (cutO (Ow σ G) B2) y d := by
        refine ry.nolist (fun b xs hb => rt2 b xs ?_) q1
        exact s2.sb b _ (by
          rw [plusO_no (fun z => ?_)]
          · exact hb
          · have := (r'.own z).2.1
            rw [hb] at this; cases this)
      exact ⟨p, vs', m, j, rfl, rv2.int, hH', by rw [ix_set ha']; exact ej, cm.nx _ _ σ _ (ra2.mut e1 hp (ha'.set ry2 j)) w3⟩
    · exact w3.elim
/-- o[i] of a list, by values -/
theorem get_list {X : Cx} : PGet X (rIxL X.K) := by
  intro pins s σ H x y v u Q I rx ry h
  obtain ⟨p, xs, i, z, rfl, rfl, hq, he, q⟩ := h
  cases rx
  obtain ⟨t, rfl⟩ := ry
  obtain ⟨its, r, pl, hz⟩ := I.list hq
  obtain ⟨j, h1, h2, h3, h4, h5⟩ := atI_get he
  obtain ⟨w, ew, rw'⟩ := r.get h2
  have hl := r.length
  have hn := line63
  have fin : EP X pins σ Q w s := ⟨z, H, I, rw', q⟩
  by_cases h0 : 0 ≤ i
  · have hj : i.toNat = j := Option.some.inj ((seqIndex_of h0 h5).symm.trans h1)
    exact wpAny_getItem_list pl.isList h0 (by omega) (by rw [hj]; simpa using ew) fin
  · have hj : (i + (its.toArray.size : Int)).toNat = j := by
      rw [List.size_toArray, ← hl]
      exact Option.some.inj ((seqIndex_neg (by omega) h4).symm.trans h1)
    exact wpAny_getItem_list_neg pl.isList (by omega) (by rw [List.size_toArray]; omega) (by omega) (by rw [hj]; simpa using ew) fin
theorem sndS_augix (tp : Tp P w K mg base T cl k C) (fs : FamS P w K mg base k C W sc F) {i : Nat} {n e : E} {x : Str} {px sp pos : Pos} {u v : Expr} (h1 : nvB C.N sc i x = true) (h3 : chE C n sc u = true) (h4 : chE C e sc v = true) :
    SndS T cl W F (.AugAssign (.Subscript (.Name x px) u sp) .Add v pos) (.augix i n e) := by
  obtain ⟨ta, pa, ra⟩ := (sndE tp e sc v W F fs.fm h4).1
  obtain ⟨tn, pn, rn⟩ := (sndE tp n sc u W F fs.fm h3).1
  refine ⟨tAugS (tVar i) tn ta (rIxL K) (ipI fun i j => i + j) rSetL, fun X hX => ?_, fun R B0 H0 B H σ G E J rs hw cm hx => ?_⟩
  · have hg := get_list (X := X)
    rw [fs.fm.kk X hX] at hg
    refine ps_augS (nv_pe fs hX h1) (pn X hX) hg (pa X hX) ip_add set_list (fun ov iv new => ?_)
    cases u <;> first | rfl | skip
    cases n <;> simp [chE] at h3
  · simp only [wpS] at hw
    obtain ⟨xs, e1, hw⟩ := getS_own hw
    obtain ⟨p, vs, hp, hH, ha⟩ := own_slot rs e1
    refine ⟨.ref p, hp, evP rn rs hw (fun v1 d1 B1 H1 r1 hn1 q => ?_) hx⟩
    obtain ⟨m, rfl, q0⟩ := asInt_some q
    have hu : v1 = .int m := by cases hn1 rfl; rfl
    subst hu
    split at q0
    · rename_i o j e2 e3
      obtain ⟨p', vs', hp', hH', ha'⟩ := own_slot r1 e1
      rw [hp] at hp'
      cases hp'
      obtain ⟨z, z1, z2⟩ := atD_rp ha' e2
      cases z2
      refine ⟨p, vs', m, .int o, rfl, rfl, SqL.of hH', z1, evP ra r1 q0 (fun v2 d2 B2 H2 r2 hn2 q2 => ?_) hx⟩
      obtain ⟨l, rfl, q3⟩ := asInt_some q2
      have hu : v2 = .int l := by cases hn2 rfl; rfl
      subst hu
      obtain ⟨p', vs2, hp', hH2, ha2⟩ := own_slot r2 e1
      rw [hp] at hp'
      cases hp'
      exact ⟨o, l, rfl, rfl, p, vs2, m, j, rfl, rfl, hH2, by rw [ix_set ha2]; exact e3, cm.nx _ _ σ _ (r2.mut e1 hp (ha2.set (.int _) j)) q3⟩
    · exact q0.elim
theorem pip_ext {X : Cx} : PIp X .Add (fun x y H Q => rExt2 x y H Q) := fun pins s σ H x y v u Q I r1 r2 h => iop_ext pins s σ H x y v u Q I r1 r2 h
theorem sndS_iadd (tp : Tp P w K mg base T cl k C) (fs : FamS P w K mg base k C W sc F) {i : Nat} {e : E} {x : Str} {px pos : Pos} {v : Expr} (h1 : nvB C.N sc i x = true) (h4 : chE C e sc v = true) :
    SndS T cl W F (.AugAssign (.Name x px) .Add v pos) (.iadd i e) := by
  obtain ⟨ta, pa, ra⟩ := (sndE tp e sc v W F fs.fm h4).1
  have h2 : nmB C.N sc i x = true := by
    simp only [nvB, Bool.and_eq_true] at h1
    exact h1.1
  refine ⟨tAug i ta (fun x y H Q => rExt2 x y H Q), fun X hX => ps_aug (nm_ok fs hX h2).1 (nm_ok fs hX h2).2.1 (nm_ok fs hX h2).2.2.1 (pa X hX) pip_ext (nm_ok fs hX h2).2.2.2, fun R B0 H0 B H σ G E J rs hw cm hx => ?_⟩
  simp only [wpS] at hw
  obtain ⟨xs, e1, hw⟩ := getS_own hw
  obtain ⟨p, vs, hp, hH, ha⟩ := own_slot rs e1
  refine ⟨.ref p, hp, evB ra rs hw (fun u d B' H' r' rv q => ?_) hx⟩
  obtain ⟨ys, rfl, q1, q2⟩ := asList_some q
  obtain ⟨a, ws, rfl, h5, h6⟩ := rv.list
  obtain ⟨p', vs', hp', hH', ha'⟩ := own_slot r' e1
  rw [hp] at hp'
  cases hp'
  refine ⟨p, a, vs', ws, rfl, rfl, hH', r'.st.gd.ex _ _ h5, by rw [ha'.len, h6.len]; exact Nat.le_trans q1 lim_line, ?_⟩
  have hs : σ.set i (some (.ref p)) = σ := by
    apply List.ext_getElem?
    intro j
    by_cases hj : j = i
    · subst hj
      rw [hp, List.getElem?_set_self (List.getElem?_eq_some_iff.mp hp).1]
    · rw [List.getElem?_set_ne (Ne.symm hj)]
  show E.nx (σ.set i (some (V.ref p))) _
  rw [hs]
  exact cm.nx _ _ σ _ (r'.mut e1 hp (ha'.append h6)) q2
end
end Sk
set_option Elab.async false
set_option linter.all false
set_option maxRecDepth 100000
set_option maxHeartbeats 4000000
namespace Sk
open PySem L2
section
variable {P : Program} {w : World} {K : PySem.W.Frag} {mg : Str → Option Value} {base : Heap} {T : Fn → Spec} {cl : Exn → Value} {k : Nat} {C : Ck} {W : WX} {sc : Scope} {F : Cx → Prop}

theorem sndS_ret (tp : Tp P w K mg base T cl k C) (fs : FamS P w K mg base k C W sc F) {e : E} {v : Expr} {pos : Pos} (h : chE C e sc v = true) : SndS T cl W F (.Return (some v) pos) (.ret e) := by
  obtain ⟨ta, pa, ra⟩ := (sndE tp e sc v W F fs.fm h).1
  refine ⟨tRet ta, fun X hX => ps_ret (pa X hX), fun R B0 H0 B H σ G E J rs hw cm hx => ?_⟩
  simp only [wpS] at hw
  obtain ⟨gd, re, st⟩ := rs.plus
  exact ra R _ σ H G _ _ _ gd re hw (fun v d B' H' s rv q => cm.rt v d B' H' (st.trans s) rv q) (fun x B' H' s z => hx x σ B' H' (st.trans s) z)
theorem sndS_if (tp : Tp P w K mg base T cl k C) (fs : FamS P w K mg base k C W sc F) {c : E} {t : Expr} {a b : Ss} {p q : List Stmt} {pos : Pos} (h1 : noIfe c = true) (h2 : chE C c sc t = true) (ha : SndSs T cl W F p a) (hb : SndSs T cl W F q b) : SndS T cl W F (.If t p q pos) (.ifs c a b) := by
  obtain ⟨tc, pc, rc⟩ := (sndE tp c sc t W F fs.fm h2).2 h1
  obtain ⟨ta, pa, ra⟩ := ha
  obtain ⟨tb, pb, rb⟩ := hb
  refine ⟨tIfS tc ta tb, fun X hX => ps_if (pc X hX) (pa X hX) (pb X hX), fun R B0 H0 B H σ G E J rs hw cm hx => ?_⟩
  simp only [wpS] at hw
  refine evT rc rs hw (fun b B' H' r' q => ?_) hx
  cases b with
  | true =>
    rw [if_pos rfl] at q ⊢
    exact ra R B0 H0 B' H' σ G E J r' q cm hx
  | false =>
    rw [if_neg (by decide)] at q ⊢
    exact rb R B0 H0 B' H' σ G E J r' q cm hx
theorem sndS_raise (tp : Tp P w K mg base T cl k C) (fs : FamS P w K mg base k C W sc F) {x : Exn} {n m : Str} {p p2 p3 pos : Pos} {j : Nat} (h1 : n = exName x) (h2 : glB sc n = true) (h3 : C.exs.contains x = true) :
    SndS T cl W F (.Raise (some (.Call (.Name n p) [.Constant (.str m) j p2] [] p3)) none pos) (.raise x) := by
  obtain ⟨Ca, e1, e2, e3, e4, e5, e6⟩ := (tp.exs x h3).ok
  subst h1
  refine ⟨fun _ σ H => W (.ref Ca) none σ H, fun X hX => ?_, fun R B0 H0 B H σ G E J rs hw cm hx => ?_⟩
  · have hk := fs.fm.kk X hX
    have hm := fs.fm.mm X hX
    exact ps_raise (fs.fm.cm X hX) (fs.fm.tk X hX) (pmk_own (X := X) PySem.F.excBase_ValueError (by rw [hk]; exact e3) (by rw [hm]; exact e2) (by rw [hk]; exact e4) (raises_own (by rw [hk]; exact e5) (by rw [hk]; exact e6)) (gl_of fs.fm hX h2).1 (gl_of fs.fm hX h2).2.1)
  · have q : J.ex x := by simpa only [wpS] using hw
    have := hx x σ B H rs.st q
    rw [e1] at this
    exact this
/-! a while -/
theorem sndS_while (tp : Tp P w K mg base T cl k C) (fs : FamS P w K mg base k C W sc F) {c : E} {t : Expr} {b : Ss} {p : List Stmt} {pos : Pos} (h1 : noIfe c = true) (h2 : chE C c sc t = true) (hb : SndSs T cl W F p b) : SndS T cl W F (.While t p [] pos) (.whil c b) := by
  obtain ⟨tc, pc, rc⟩ := (sndE tp c sc t W F fs.fm h2).2 h1
  obtain ⟨tb, pb, rb⟩ := hb
  refine ⟨tWhile tc tb, fun X hX => ps_while (fs.po X hX) (pc X hX) (pb X hX), fun R B0 H0 B H σ G E J rs hw cm hx => ?_⟩
  simp only [wpS] at hw
  obtain ⟨Wd, ⟨m0, w0⟩, turn⟩ := hw
  refine ⟨fun m σ' H' => ∃ B' G', RepS R B0 H0 B' H' σ' G' ∧ Wd m G', ⟨m0, B, G, rs, w0⟩, ?_⟩
  rintro m σ1 H1 ⟨B1, G1, r1, w1⟩
  refine evT rc r1 (turn m G1 w1) (fun b B' H' r' q => ?_) hx
  cases b with
  | true =>
    rw [if_pos rfl] at q ⊢
    refine ⟨fun σ2 H2 => ∃ m', m' < m ∧ ∃ B2 G2, RepS R B0 H0 B2 H2 σ2 G2 ∧ Wd m' G2, fun σ2 H2 z => z, ?_⟩
    refine rb R B0 H0 B' H' σ1 G1 _ _ r' q ⟨fun B2 H2 σ2 G2 r2 z => ?_, cm.rt, fun B2 H2 σ2 G2 r2 z => cm.nx B2 H2 σ2 G2 r2 z, fun B2 H2 σ2 G2 r2 z => ?_⟩ hx
    · obtain ⟨m', hm, wz⟩ := z
      exact ⟨m', hm, B2, G2, r2, wz⟩
    · obtain ⟨m', hm, wz⟩ := z
      exact ⟨m', hm, B2, G2, r2, wz⟩
  | false =>
    rw [if_neg (by decide)] at q ⊢
    exact cm.nx B' H' σ1 G1 r' q
/-! a for -/
theorem RepS.rebase {R : Rg} {B0 H0 B H : Hp} {σ : L2.St} {G : Ev} (rs : RepS R B0 H0 B H σ G) : ∃ H1, RepS R B H1 B H σ G ∧ (∀ B' H', Step R B H1 B' H' → Step R B0 H0 B' H') ∧ ∀ B' H' σ' G', RepS R B H1 B' H' σ' G' → RepS R B0 H0 B' H' σ' G' := by
  have ex : ∀ b o, B b = some o → cutO (Ow σ G) H b = some o := fun b o e => by
    rw [cutO_no (fun z => ?_)]
    · exact rs.st.gd.ex b o e
    · have := (rs.own z).2.1
      rw [e] at this; cases this
  have g1 : Gd R B (cutO (Ow σ G) H) := by
    refine ⟨ex, ?_⟩
    have d := rs.st.gd.dr
    match R, rs, d with
    | none, _, _ => trivial
    | some (a, n), r, d =>
      obtain ⟨h0, h1, h2, c, ns, h5, h6, h3, h4⟩ := d
      have na : ¬ Ow σ G a := fun h => (r.own h).2.2.1 (.inl rfl)
      have nn : ¬ Ow σ G n := fun h => (r.own h).2.2.1 (.inr rfl)
      exact ⟨h0, h1, h2, c, ns, h5, h6, by rw [cutO_no na]; exact h3, by rw [cutO_no nn]; exact h4⟩
  have hc : ∀ b, cutO (Ow σ G) H b = none → H0 b = none := fun b e => by
    by_cases z : Ow σ G b
    · exact (rs.own z).1
    · rw [cutO_no z] at e; exact rs.st.fresh e
  have conv : ∀ B' H', Step R B (cutO (Ow σ G) H) B' H' → Step R B0 H0 B' H' := fun B' H' s => by
    refine ⟨s.gd, fun b o e => s.sb b o (rs.st.sb b o e), fun b o i e => s.hb b o i ?_, fun b o e => ?_⟩
    · rw [cutO_no (fun z => ?_)]
      · exact rs.st.hb b o i e
      · have := (rs.own z).1
        rw [e] at this; cases this
    · rcases s.nw b o e with q | q
      · exact rs.st.nw b o q
      · exact .inr (hc b q)
  refine ⟨cutO (Ow σ G) H, ⟨g1, ⟨rs.st.gd, fun _ _ h => h, fun b o i e => ?_, fun _ _ h => .inl h⟩, rs.len, fun i => ?_, rs.dis⟩, conv, fun B' H' σ' G' r => ⟨rs.g0, conv B' H' r.st, r.len, fun i => ?_, r.dis⟩⟩
  · by_cases z : Ow σ G b
    · rw [cutO_yes z] at e; cases e
    · rw [cutO_no z] at e; exact e
  · have q := rs.sl i
    revert q
    cases e : getS G i with
    | no => intro _; trivial
    | d x => intro q; exact q
    | own xs =>
      intro ⟨p, vs, h1, h2, h3, h4, h5⟩
      exact ⟨p, vs, h1, cutO_yes ⟨i, xs, e, h1⟩, h3, h4, h5⟩
  · have q := r.sl i
    revert q
    cases e : getS G' i with
    | no => intro _; trivial
    | d x => intro q; exact q
    | own xs =>
      intro ⟨p, vs, h1, h2, h3, h4, h5⟩
      exact ⟨p, vs, h1, hc p h2, h3, h4, h5⟩
theorem sndS_for (tp : Tp P w K mg base T cl k C) (fs : FamS P w K mg base k C W sc F) {ts : List Nat} {it : It} {tg iter : Expr} {b : Ss} {p : List Stmt} {pos : Pos} (h1 : chI C it sc iter = true) (h2 : zipOk it tg = true) (h3 : chT C.N sc ts tg = true) (hb : SndSs T cl W F p b) :
    SndS T cl W F (.For tg iter p [] pos) (.fors ts it b) := by
  obtain ⟨wi, pi, ri⟩ := sndIt tp it sc tg iter W F fs.fm h1 h2
  obtain ⟨tb, pb, rb⟩ := hb
  refine ⟨tFor wi (gOf K ts) tb, fun X hX => ps_for (fs.po X hX) (fs.fm.cm X hX) (pi X hX) (pgT (K := K) (fs.stor hX) (fs.fm.kk X hX) h3) (pb X hX) (fun x => noSetI_of h1 _ _), fun R B0 H0 B H σ G E J rs hw cm hx => ?_⟩
  simp only [wpS] at hw
  refine ri R B σ H (blank G) _ _ _ rs.st.gd rs.blank hw (fun xs Jt B1 H1 s1 io w1 => ?_) (fun x B' H' s z => hx x σ B' H' (rs.st.trans s) z)
  obtain ⟨Hz, rz, cs, cr⟩ := (rs.afterB s1).rebase
  obtain ⟨Gp, Y, wk, hG, hY⟩ := io
  refine for_it wk (fun i σ' Hc => ∃ Bc Gc, RepS R B1 Hz Bc Hc σ' Gc ∧ wpFor (fun x G1 nx => bindT ts x G1 fun G2 => wpSs T b G2 { J with nx := nx, ct := nx, bk := J.nx }) (xs.drop i) Gc J.nx) ⟨B1, G, rz, w1⟩ ?_ ?_ ?_
  · rintro i σ' Hc _ ⟨Bc, Gc, r, _⟩
    exact hG Hc fun b o h => r.st.gd.ex b o (r.st.sb b o h)
  · rintro i x σ' Hc H' hi ⟨Bc, Gc, r, hw3⟩ y
    obtain ⟨d, ed, edr⟩ := drop_cons hi
    rw [edr] at hw3
    simp only [wpFor] at hw3
    obtain ⟨B2, st2, rv⟩ := hY i Hc x H' Bc d r.st.gd r.st.sb ed y
    refine rdG_S (r.afterB st2) rv hw3 fun σ2 G2 r2 hw4 => ?_
    refine rb R B1 Hz B2 H' σ2 G2 _ _ r2 hw4 ⟨fun B3 H3 σ3 G3 r3 z => ⟨B3, G3, r3, z⟩, fun v d B3 H3 s z q => cm.rt v d B3 H3 (cs _ _ s) z q, fun B3 H3 σ3 G3 r3 z => cm.nx B3 H3 σ3 G3 (cr _ _ _ _ r3) z, fun B3 H3 σ3 G3 r3 z => ⟨B3, G3, r3, z⟩⟩ (fun x σ3 B3 H3 s z => hx x σ3 B3 H3 (cs _ _ s) z)
  · rintro σ' Hc ⟨Bc, Gc, r, hw3⟩
    rw [List.drop_length] at hw3
    exact cm.nx Bc Hc σ' Gc (cr _ _ _ _ r) hw3
/-! blocks -/
theorem sndSs_nil : SndSs T cl W F [] .nil := ⟨tNext, fun X _ => pss_nil, fun R B0 H0 B H σ G E J rs hw cm hx => cm.nx B H σ G rs hw⟩
theorem sndSs_cons {s : S} {r : Ss} {a : Stmt} {as : List Stmt} (h1 : SndS T cl W F a s) (h2 : SndSs T cl W F as r) : SndSs T cl W F (a :: as) (.cons s r) := by
  obtain ⟨t, pt, rt⟩ := h1
  obtain ⟨u, pu, ru⟩ := h2
  refine ⟨tSeq t u, fun X hX => pss_cons (pt X hX) (pu X hX), fun R B0 H0 B H σ G E J rs hw cm hx => ?_⟩
  simp only [wpSs] at hw
  exact rt R B0 H0 B H σ G _ _ rs hw ⟨fun B' H' σ' G' r' q => ru R B0 H0 B' H' σ' G' E J r' q cm hx, cm.rt, cm.bk, cm.ct⟩ hx
theorem sndSs_shut {i : Nat} {r : Ss} {as : List Stmt} (h2 : SndSs T cl W F as r) : SndSs T cl W F as (.cons (.shut i) r) := by
  obtain ⟨u, pu, ru⟩ := h2
  refine ⟨u, pu, fun R B0 H0 B H σ G E J rs hw cm hx => ?_⟩
  simp only [wpSs, wpS] at hw
  obtain ⟨xs, e1, hw⟩ := getS_own hw
  obtain ⟨B', r'⟩ := rs.shut e1
  exact ru R B0 H0 B' H σ _ E J r' hw cm hx
mutual
theorem sndS (tp : Tp P w K mg base T cl k C) : ∀ (s : S) (a : Stmt) (F : Cx → Prop), FamS P w K mg base k C W sc F → chS C s sc a = true → SndS T cl W F a s
  | .asg fl i e, a, F, fs, h => by
    unfold chS at h
    split at h
    · simp only [Bool.and_eq_true] at h
      obtain ⟨t, p1, p2, p3⟩ := asg_rule (pos := _) tp fs h.1.1 h.1.2 h.2
      exact ⟨_, p1, rd_asg p2⟩
    · cases h
  | .own i e, a, F, fs, h => by
    unfold chS at h
    split at h
    · rename_i x px v pos
      simp only [Bool.and_eq_true] at h
      by_cases hl : ∃ ts it c el, e = .lc ts it c el
      · obtain ⟨t, p1, p2, p3⟩ := asg_rule (pos := pos) tp fs h.1.1.1 h.1.1.2 h.2
        exact ⟨_, p1, rd_own (p3 hl)⟩
      · have hnc : noCompE v = true := by
          cases v <;> first | rfl | skip
          · cases e <;> simp [chE] at h
            exact absurd ⟨_, _, _, _, rfl⟩ hl
          · cases e <;> simp [chE] at h
          · cases e <;> simp [chE] at h
        obtain ⟨t, pt, rt⟩ := sndFr tp fs.fm h.1.2 (fun ts it c el z => hl ⟨ts, it, c, el, z⟩) h.2
        have h1 := h.1.1.1
        exact ⟨tAsg t (gName i), fun X hX => ps_set (nm_ok fs hX h1).1 (nm_ok fs hX h1).2.1 (nm_ok fs hX h1).2.2.1 (pt X hX) (noComp_sw hnc _ _ _) (nm_ok fs hX h1).2.2.2, rd_own rt⟩
    · cases h
  | .asgT ts e, a, F, fs, h => by
    unfold chS at h
    split at h
    · simp only [Bool.and_eq_true] at h
      exact sndS_asgT tp fs h.1.1.1.1 h.1.1.1.2 h.1.1.2 h.1.2 h.2
    · cases h
  | .par i j p q, a, F, fs, h => by
    unfold chS at h
    split at h
    · simp only [Bool.and_eq_true, decide_eq_true_eq] at h
      exact sndS_par tp fs h.1.1.1.1.1 h.1.1.1.1.2 h.1.1.1.2 h.1.1.2 h.1.2 h.2
    · cases h
  | .expr e, a, F, fs, h => by
    unfold chS at h
    split at h
    · simp only [Bool.and_eq_true] at h
      exact sndS_expr tp fs h.1 h.2
    · cases h
  | .app i e, a, F, fs, h => by
    unfold chS at h
    split at h
    · simp only [Bool.and_eq_true, decide_eq_true_eq] at h
      exact sndS_app tp fs h.1.1.1 h.1.1.2 h.1.2 h.2
    · cases h
  | .setix i n e, a, F, fs, h => by
    unfold chS at h
    split at h
    · simp only [Bool.and_eq_true] at h
      exact sndS_setix tp fs h.1.1.1 h.1.1.2 h.1.2 h.2
    · cases h
  | .augix i n e, a, F, fs, h => by
    unfold chS at h
    split at h
    · simp only [Bool.and_eq_true] at h
      exact sndS_augix tp fs h.1.1 h.1.2 h.2
    · cases h
  | .iadd i e, a, F, fs, h => by
    unfold chS at h
    split at h
    · simp only [Bool.and_eq_true] at h
      exact sndS_iadd tp fs h.1 h.2
    · cases h
  | .rem i e, a, F, fs, h => by
    unfold chS at h
    split at h
    · simp only [Bool.and_eq_true, decide_eq_true_eq] at h
      exact sndS_rem tp fs h.1.1.1 h.1.1.2 h.1.2 h.2
    · cases h
  | .ret e, a, F, fs, h => by
    unfold chS at h
    split at h
    · exact sndS_ret tp fs h
    · cases h
  | .ifs c p q, a, F, fs, h => by
    unfold chS at h
    split at h
    · simp only [Bool.and_eq_true] at h
      exact sndS_if tp fs h.1.1.1 h.1.1.2 (sndSs tp p _ F fs h.1.2) (sndSs tp q _ F fs h.2)
    · cases h
  | .fors ts it b, a, F, fs, h => by
    unfold chS at h
    split at h
    · simp only [Bool.and_eq_true] at h
      exact sndS_for tp fs h.1.1.1 h.1.1.2 h.1.2 (sndSs tp b _ F fs h.2)
    · cases h
  | .whil c b, a, F, fs, h => by
    unfold chS at h
    split at h
    · simp only [Bool.and_eq_true] at h
      exact sndS_while tp fs h.1.1 h.1.2 (sndSs tp b _ F fs h.2)
    · cases h
  | .raise x, a, F, fs, h => by
    unfold chS at h
    split at h
    · simp only [Bool.and_eq_true, decide_eq_true_eq] at h
      exact sndS_raise tp fs h.1.1 h.1.2 h.2
    · cases h
  | .shut i, a, F, fs, h => by simp [chS] at h
theorem sndSs (tp : Tp P w K mg base T cl k C) : ∀ (s : Ss) (a : List Stmt) (F : Cx → Prop), FamS P w K mg base k C W sc F → chSs C s sc a = true → SndSs T cl W F a s
  | .nil, [], F, fs, h => sndSs_nil
  | .nil, _ :: _, F, fs, h => by simp [chSs] at h
  | .cons s r, as, F, fs, h => by
    by_cases hs : ∃ i, s = .shut i
    · obtain ⟨i, rfl⟩ := hs
      exact sndSs_shut (sndSs tp r as F fs (by simpa only [chSs] using h))
    · cases as with
      | nil => cases s <;> first | (simp [chSs] at h; done) | (exact absurd ⟨_, rfl⟩ hs)
      | cons a as =>
        have h' : chS C s sc a = true ∧ chSs C r sc as = true := by
          cases s <;> first | (exact absurd ⟨_, rfl⟩ hs) | (simpa only [chSs, Bool.and_eq_true] using h)
        exact sndSs_cons (sndS tp s a F fs h'.1) (sndSs tp r as F fs h'.2)
end
end
end Sk
set_option Elab.async false
set_option linter.all false
set_option maxRecDepth 100000
set_option maxHeartbeats 4000000
namespace Sk
open PySem L2
section
variable {P : Program} {w : World} {K : PySem.W.Frag} {mg : Str → Option Value} {base : Heap} {T : Fn → Spec} {cl : Exn → Value} {k : Nat} {C : Ck}

theorem getS_start : ∀ (ds : List D) (n i : Nat), getS (ds.map Sl.d ++ List.replicate n Sl.no) i = match ds[i]? with | some d => .d d | none => .no
  | [], 0, i => rfl
  | [], n + 1, 0 => rfl
  | [], n + 1, i + 1 => by
    have := getS_start [] n i
    simpa [getS, List.replicate_succ] using this
  | d :: ds, n, 0 => rfl
  | d :: ds, n, i + 1 => by
    have := getS_start ds n i
    simpa [getS] using this
theorem RVs.get {R : Rg} {B : Hp} : ∀ {vs : List V} {ds : List D} {i : Nat} {d : D}, RVs R B vs ds → ds[i]? = some d → ∃ v, vs[i]? = some v ∧ RV R B v d
  | _, _, _, _, .nil, e => by simp at e
  | _, _, 0, _, .cons a _, e => by
    simp at e
    subst e
    exact ⟨_, rfl, a⟩
  | _, _, i + 1, d, .cons _ r, e => by
    obtain ⟨v, h1, h2⟩ := RVs.get (i := i) r (by simpa using e)
    exact ⟨v, by simpa using h1, h2⟩
theorem rep_start {R : Rg} {B H : Hp} {N : List Str} {vs : List V} {ds : List D} (g : Gd R B H) (rv : RVs R B vs ds) (hl : ds.length ≤ N.length) : RepS R B H B H (L2.start N vs) (start N.length ds) := by
  have hv := rv.len
  have hg : ∀ i, getS (start N.length ds) i = match ds[i]? with | some d => .d d | none => .no := fun i => getS_start ds _ i
  refine ⟨g, Step.refl g, ?_, fun i => ?_, fun i j p xs ys _ h1 => ?_⟩
  · unfold L2.start start
    simp [hv]
  · rw [hg]
    cases e : ds[i]? with
    | none => trivial
    | some d =>
      obtain ⟨v, h1, h2⟩ := rv.get e
      refine ⟨v, ?_, h2⟩
      unfold L2.start
      rw [List.getElem?_append_left (by rw [List.length_map]; exact (List.getElem?_eq_some_iff.mp h1).1), List.getElem?_map, h1]
      rfl
  · rw [hg] at h1
    split at h1 <;> cases h1
/-- the places of a def's body -/
theorem fam_def {N ps : List Str} {st : Stmt} (S : FnScope N ps (defScope st)) (hN : C.N = N) {qual : Str} {f : Addr} {cdv : Value} {A : Around} {outer : List Env} {s : Shared} {H : Hp} {E : XK} (hr : Room k (A.deeper (PyProof.Rows.envOfC qual (defScope st) s.heap.objs.size f cdv))) :
    FamS P w K mg base k C (fun cls d _ H => E cls d H) (defScope st) (fun X => X = cxOf (L2.CX P w) P w K mg base N qual (defScope st) f cdv A outer s H E) where
  fm := {
    pr := by rintro X rfl; rfl
    wo := by rintro X rfl; rfl
    kk := by rintro X rfl; rfl
    mm := by rintro X rfl; rfl
    ba := by rintro X rfl; rfl
    nn := by rintro X rfl; exact hN.symm
    ss := by rintro X rfl; rfl
    cm := by rintro X rfl; rfl
    ro := by rintro X rfl; exact hr
    tk := by rintro X rfl; exact takes_of rfl rfl rfl rfl }
  po := by rintro X rfl; exact passes_of rfl
  kd := S.kind
  fn := by rintro X rfl x; rfl
  nd := by rw [hN]; exact S.nd
/-- a def keeps its promise by data, if its text is the small language's and that does what is promised -/
theorem def_ok {x qual : Str} {st : Stmt} {f : Addr} {fd : FuncData} {N ps : List Str} {b : Ss} {sp : Spec} (Fn : Fun K x qual st f fd) (S : FnScope N ps (defScope st)) (tp : Tp P w K mg base T cl k C) (hN : C.N = N) (hc : chSs C b (defScope st) (defBody st) = true)
    (hl : ps.length ≤ N.length) (hs : ∀ ds Q X, sp ds Q X → ds.length = ps.length ∧ runs T N.length b ds Q X) : FnOk P w K mg base (L2.CX P w) (k + 1) f fd ps (toSp cl ps.length sp) := by
  refine Fn.okX S (fun vs H Q E h => ?_) (fun cdv A outer s H vs Q E hr h => ?_)
  · obtain ⟨R, B, ds, Qd, Xd, g, rv, e, _⟩ := h
    rw [rv.len]; exact e
  · obtain ⟨R, B, ds, Qd, Xd, g, rv, e, hsp, hq, hx⟩ := h
    obtain ⟨t, pt, rt⟩ := sndSs tp b (defBody st) _ (fam_def (C := C) S hN hr) hc
    refine ⟨t, pt _ rfl, ?_⟩
    refine rt R B H B H _ _ _ _ (rep_start g rv (by omega)) (hs ds Qd Xd hsp).2 ⟨fun B' H' σ' G' r' q => hq .non .none B' H' r'.st (.inl .non) q, fun v d B' H' s' rv' q => hq v d B' H' s' rv' q, fun _ _ _ _ _ q => q.elim, fun _ _ _ _ _ q => q.elim⟩ (fun x' σ' B' H' s' q => hx x' B' H' s' q)
theorem fn_good {x : Str} {st : Stmt} {f : Addr} {fd : FuncData} {N ps : List Str} {b : Ss} {sp : Spec} (Fn : Fun K x x st f fd) (hm : mg x = some (.ref f)) (hb : Binds K fd ps []) (S : FnScope N ps (defScope st)) (tp : Tp P w K mg base T cl k C) (hN : C.N = N) (hc : chSs C b (defScope st) (defBody st) = true)
    (hl : ps.length ≤ N.length) (hs : ∀ ds Q X, sp ds Q X → ds.length = ps.length ∧ runs T N.length b ds Q X) : FnGood P w K mg base cl (k + 1) x sp :=
  ⟨f, fd, ps, hm, Fn.kp, hb, def_ok Fn S tp hN hc hl hs, fun ds Q X h => (hs ds Q X h).1⟩
theorem FnGood.mono {j : Nat} {x : Str} {sp : Spec} (h : FnGood P w K mg base cl j x sp) (hj : j ≤ k) : FnGood P w K mg base cl k x sp := by
  obtain ⟨f, fd, ps, h1, h2, h3, h4, h5⟩ := h.ok
  exact ⟨f, fd, ps, h1, h2, h3, h4.mono hj, h5⟩

/-! the draws -/
def drawN : List Str := ["draws", "limit", "numbers", "at", "cell", "mixed"]
def spDraw : Spec := fun ds Q _ => ∃ lm : Int, ds = [tok, .int lm] ∧ 0 < lm ∧ lm ≤ 1000000000 ∧ ∀ r, 0 ≤ r → r < lm → Q (.int r)
theorem no_rp_tok {B : Hp} {v : V} : ¬ Rp B v tok := fun h => by cases h
theorem RV.tok {R : Rg} {B : Hp} {v : V} (h : RV R B v tok) : ∃ a n, R = some (a, n) ∧ v = .ref a := by
  rcases h with h | ⟨_, h⟩
  · exact absurd h no_rp_tok
  · exact h
/-- what is asked of the reading of _law_draw's body -/
def DrawRd (t : TS) : Prop := ∀ (a n : Addr) (c lm : Int) (nums : List Int) (H : Hp) (Q : VK) (nx : L2.St → Hp → Prop), a ≠ n → H a = some (.lst [.ref n, .int c]) → H n = some (.lst (nums.map V.int)) → nums ≠ [] → nums.length ≤ 100 → 0 < lm → lm ≤ 1000000000 →
  (∀ r c' nums', 0 ≤ r → r < lm → nums' ≠ [] → nums'.length ≤ 100 → ∀ H', (∀ b, b ≠ a → b ≠ n → H' b = H b) → H' a = some (.lst [.ref n, .int c']) → H' n = some (.lst (nums'.map V.int)) → Q (.int r) H') → t { nx := nx, rt := Q } [some (.ref a), some (.int lm), none, none, none, none] H
theorem draw_ok {st : Stmt} {f : Addr} {fd : FuncData} (Fn : Fun K "_law_draw" "_law_draw" st f fd) (S : FnScope drawN ["draws", "limit"] (defScope st))
    (hb : ∀ (cdv : Value) (A : Around) (outer : List Env) (s : Shared) (H : Hp) (E : XK), ∃ t, PSs (cxOf (L2.CX P w) P w K mg base drawN "_law_draw" (defScope st) f cdv A outer s H E) (defBody st) t ∧ DrawRd t) :
    FnOk P w K mg base (L2.CX P w) (k + 1) f fd ["draws", "limit"] (toSp cl 2 spDraw) := by
  refine Fn.okX S (fun vs H Q E h => ?_) (fun cdv A outer s H vs Q E hr h => ?_)
  · obtain ⟨R, B, ds, Qd, Xd, g, rv, e, _⟩ := h
    rw [rv.len]; exact e
  · obtain ⟨R, B, ds, Qd, Xd, g, rv, e, ⟨lm, rfl, l1, l2, hd⟩, hq, hx⟩ := h
    obtain ⟨v, u, rfl, r1, r2⟩ := rv.two
    obtain ⟨a, n, rfl, rfl⟩ := r1.tok
    obtain ⟨g0, g1, g2, c, nums, g5, g6, g3, g4⟩ := g.dr
    have hu := r2.int
    subst hu
    obtain ⟨t, pt, rt⟩ := hb cdv A outer s H E
    refine ⟨t, pt, rt a n c lm nums H Q _ g0 g3 g4 g5 g6 l1 l2 fun r c' nums' q1 q2 q3 q4 H' k1 k2 k3 => ?_⟩
    refine hq (.int r) (.int r) B H' ⟨⟨fun b o z => ?_, g0, g1, g2, c', nums', q3, q4, k2, k3⟩, fun _ _ z => z, fun b o i z => ?_, fun _ _ z => .inl z⟩ (.inl (.int r)) (hd r q1 q2)
    · have nb : b ≠ a := fun e => by rw [e, g1] at z; cases z
      have nb2 : b ≠ n := fun e => by rw [e, g2] at z; cases z
      rw [k1 b nb nb2]; exact g.ex b o z
    · rw [k1 b (fun e => i (.inl e)) (fun e => i (.inr e))]; exact z
theorem draw_good {st : Stmt} {f : Addr} {fd : FuncData} (Fn : Fun K "_law_draw" "_law_draw" st f fd) (hm : mg "_law_draw" = some (.ref f)) (hbd : Binds K fd ["draws", "limit"] []) (S : FnScope drawN ["draws", "limit"] (defScope st))
    (hb : ∀ (cdv : Value) (A : Around) (outer : List Env) (s : Shared) (H : Hp) (E : XK), ∃ t, PSs (cxOf (L2.CX P w) P w K mg base drawN "_law_draw" (defScope st) f cdv A outer s H E) (defBody st) t ∧ DrawRd t) : FnGood P w K mg base cl 1 "_law_draw" spDraw :=
  ⟨f, fd, _, hm, Fn.kp, hbd, draw_ok Fn S hb, fun ds Q X h => by obtain ⟨lm, rfl, _⟩ := h; rfl⟩

/-! the beginning of a law -/
def spStart (K : PySem.W.Frag) : Sp := fun vs H Q _ => ∃ (a : Addr) (ns : List Int), vs = [.ref a] ∧ SqL K H a (ns.map V.int) ∧ ns.length ≤ 63 ∧
  ∀ p n nums H', H p = none → H n = none → p ≠ n → H' p = some (.lst [.ref n, .int 0]) → H' n = some (.lst (nums.map V.int)) → nums ≠ [] → nums.length ≤ 100 → Q (.ref p) H'
def spLaw (K : PySem.W.Frag) : Sp := fun vs H Q _ => ∃ (a : Addr) (ns : List Int), vs = [.ref a] ∧ SqL K H a (ns.map V.int) ∧ ns.length ≤ 63 ∧ ∀ H', Q (.bl true) H'
/-- the law holds, if its rest does over any draws -/
theorem law_ok {st st0 : Stmt} {rest : List Stmt} {f : Addr} {fd : FuncData} {N : List Str} {b : Ss} (Fn : Fun K "law" "law" st f fd) (S : FnScope N ["script"] (defScope st)) (tp : Tp P w K mg base T cl k C) (hN : C.N = N) (hN2 : ∃ N', N = ("script" : Str) :: ("draws" : Str) :: N') (hbody : defBody st = st0 :: rest) (hc : chSs C b (defScope st) rest = true)
    (h0 : ∀ (cdv : Value) (A : Around) (outer : List Env) (s : Shared) (H : Hp) (E : XK), Room k (A.deeper (PyProof.Rows.envOfC "law" (defScope st) s.heap.objs.size f cdv)) → ∃ sE, PS (cxOf (L2.CX P w) P w K mg base N "law" (defScope st) f cdv A outer s H E) st0 (tAsg (tCallS (spStart K) sE (tCons (tVar 0) tNil)) (gName 1)))
    (hw : wpSs T b (.no :: .d tok :: List.replicate (N.length - 2) .no) { nx := fun _ => False, rt := fun d => d = .bool true, bk := fun _ => False, ct := fun _ => False, ex := fun _ => False }) :
    FnOk P w K mg base (L2.CX P w) (k + 1) f fd ["script"] (spLaw K) := by
  obtain ⟨N', rfl⟩ := hN2
  refine Fn.okX S (fun vs H Q E h => ?_) (fun cdv A outer s H vs Q E hr h => ?_)
  · obtain ⟨a, ns, rfl, _⟩ := h
    rfl
  · obtain ⟨a, ns, rfl, hS, hlen, hQ⟩ := h
    obtain ⟨t, pt, rt⟩ := sndSs tp b rest _ (fam_def (C := C) S hN hr) hc
    obtain ⟨sE, p0⟩ := h0 cdv A outer s H E hr
    rw [hbody]
    refine ⟨tSeq _ t, pss_cons p0 (pt _ rfl), ?_⟩
    refine ⟨.ref a, rfl, a, ns, rfl, hS, hlen, fun p n nums H' hp hn hpn h1 h2 h3 h4 => ?_⟩
    have gd : Gd (some (p, n)) (fun _ => none) H' := ⟨fun b o z => (by cases z), hpn, rfl, rfl, 0, nums, h3, h4, h1, h2⟩
    refine rt (some (p, n)) (fun _ => none) H' (fun _ => none) H' _ (.no :: .d tok :: List.replicate ((("script" : Str) :: ("draws" : Str) :: N').length - 2) .no) _ _ ⟨gd, Step.refl gd, ?_, fun i => ?_, fun i j q xs ys _ z => ?_⟩ hw ⟨fun _ _ _ _ _ q => q.elim, fun v d B' H2 s' rv q => ?_, fun _ _ _ _ _ q => q.elim, fun _ _ _ _ _ q => q.elim⟩ (fun _ _ _ _ _ q => q.elim)
    · simp [L2.start]
    · match i with
      | 0 => trivial
      | 1 => exact ⟨.ref p, rfl, .inr ⟨rfl, p, n, rfl, rfl⟩⟩
      | i + 2 =>
        have e : getS (Sl.no :: Sl.d tok :: List.replicate ((("script" : Str) :: ("draws" : Str) :: N').length - 2) Sl.no) (i + 2) = .no := by
          have := getS_start [] ((("script" : Str) :: ("draws" : Str) :: N').length - 2) i
          simpa [getS] using this
        rw [e]
        trivial
    · have e : ∀ i xs, getS (Sl.no :: Sl.d tok :: List.replicate ((("script" : Str) :: ("draws" : Str) :: N').length - 2) Sl.no) i ≠ .own xs := fun i xs z => by
        match i, z with
        | 0, z => cases z
        | 1, z => cases z
        | i + 2, z =>
          have := getS_start [] ((("script" : Str) :: ("draws" : Str) :: N').length - 2) i
          have z2 : getS (List.replicate ((("script" : Str) :: ("draws" : Str) :: N').length - 2) Sl.no) i = .own xs := by simpa [getS] using z
          have t2 : getS (List.replicate ((("script" : Str) :: ("draws" : Str) :: N').length - 2) Sl.no) i = .no := by simpa [getS] using this
          rw [t2] at z2; cases z2
      exact absurd z (e i xs)
    · subst q
      have := rv.bool
      subst this
      exact hQ H2
end
end Sk
set_option linter.all false
namespace Sk
open PySem

/-! data by types -/
def skyD (u : Int) (bs : List (Int × Int)) : D := .tuple [.int u, pairsD bs]
structure Sky (u : Int) (bs : List (Int × Int)) : Prop where
  lo : 2 ≤ u
  hi : u ≤ 120
  l1 : 1 ≤ bs.length
  l4 : bs.length ≤ 4
  ok : ∀ b ∈ bs, 0 ≤ b.1 ∧ b.1 < u ∧ 0 ≤ b.2 ∧ b.2 < u
def isInt (v : D) (lo hi : Int) : Bool := match v with
  | .int i => decide (lo ≤ i) && decide (i ≤ hi)
  | _ => false
def isBody (u : Int) (v : D) : Bool := match v with
  | .tuple [a, b] => isInt a 0 (u - 1) && isInt b 0 (u - 1)
  | _ => false
def isSky (v : D) : Bool := match v with
  | .tuple [.int u, .list xs] => isInt (.int u) 2 120 && (decide (1 ≤ xs.length) && decide (xs.length ≤ 4)) && xs.all (isBody u)
  | _ => false
def isDay (v : D) : Bool := isInt v 0 1000000
theorem isInt_iff {v : D} {lo hi : Int} : isInt v lo hi = true ↔ ∃ i, v = .int i ∧ lo ≤ i ∧ i ≤ hi := by
  cases v <;> simp [isInt]
theorem isBody_iff {u : Int} {v : D} : isBody u v = true ↔ ∃ p : Int × Int, v = pairD p ∧ 0 ≤ p.1 ∧ p.1 < u ∧ 0 ≤ p.2 ∧ p.2 < u := by
  constructor
  · intro h
    unfold isBody at h
    split at h
    · simp only [Bool.and_eq_true] at h
      obtain ⟨i, rfl, h1, h2⟩ := isInt_iff.mp h.1
      obtain ⟨j, rfl, h3, h4⟩ := isInt_iff.mp h.2
      exact ⟨(i, j), rfl, h1, by show i < u; omega, h3, by show j < u; omega⟩
    · cases h
  · rintro ⟨⟨i, j⟩, rfl, h1, h2, h3, h4⟩
    simp only [isBody, pairD, Bool.and_eq_true]
    refine ⟨isInt_iff.mpr ⟨i, rfl, h1, ?_⟩, isInt_iff.mpr ⟨j, rfl, h3, ?_⟩⟩
    · have : i < u := h2
      omega
    · have : j < u := h4
      omega
theorem bodies_of {u : Int} : ∀ {xs : List D}, xs.all (isBody u) = true → ∃ bs : List (Int × Int), xs = bs.map pairD ∧ ∀ b ∈ bs, 0 ≤ b.1 ∧ b.1 < u ∧ 0 ≤ b.2 ∧ b.2 < u
  | [], _ => ⟨[], rfl, by simp⟩
  | x :: r, h => by
    simp only [List.all_cons, Bool.and_eq_true] at h
    obtain ⟨p, rfl, hp⟩ := isBody_iff.mp h.1
    obtain ⟨bs, rfl, hb⟩ := bodies_of h.2
    refine ⟨p :: bs, rfl, fun b hm => ?_⟩
    rcases List.mem_cons.mp hm with rfl | hm
    · exact hp
    · exact hb b hm
theorem isSky_iff {v : D} : isSky v = true ↔ ∃ u bs, v = skyD u bs ∧ Sky u bs := by
  constructor
  · intro h
    unfold isSky at h
    split at h
    · simp only [Bool.and_eq_true, decide_eq_true_eq] at h
      obtain ⟨⟨h1, h2, h3⟩, h4⟩ := h
      rename_i u xs
      obtain ⟨i, e, h5, h6⟩ := isInt_iff.mp h1
      have e2 : u = i := by cases e; rfl
      subst e2
      obtain ⟨bs, rfl, hb⟩ := bodies_of h4
      rw [List.length_map] at h2 h3
      exact ⟨u, bs, rfl, h5, h6, h2, h3, hb⟩
    · cases h
  · rintro ⟨u, bs, rfl, h⟩
    simp only [isSky, skyD, pairsD, Bool.and_eq_true, decide_eq_true_eq, List.length_map]
    refine ⟨⟨isInt_iff.mpr ⟨u, rfl, h.lo, h.hi⟩, h.l1, h.l4⟩, ?_⟩
    rw [List.all_eq_true]
    intro x hx
    obtain ⟨b, hb, rfl⟩ := List.mem_map.mp hx
    exact isBody_iff.mpr ⟨b, rfl, h.ok b hb⟩
theorem sky_is {u : Int} {bs : List (Int × Int)} (h : Sky u bs) : isSky (skyD u bs) = true := isSky_iff.mpr ⟨u, bs, rfl, h⟩

/-! readings of comprehensions and loops -/
theorem wpLc_det {f : D → (Option D → Prop) → Prop} {g : D → Option D} {Q : List D → Prop} : ∀ {xs acc : List D}, (∀ x ∈ xs, ∀ k : Option D → Prop, k (g x) → f x k) → Q (acc ++ xs.filterMap g) → wpLc f xs acc Q
  | [], acc, _, q => by simpa [wpLc] using q
  | x :: xs, acc, h, q => by
    simp only [wpLc]
    refine h x (by simp) _ ?_
    cases e : g x with
    | some y =>
      refine wpLc_det (fun z hz => h z (by simp [hz])) ?_
      rw [List.filterMap_cons, e] at q
      simpa using q
    | none =>
      refine wpLc_det (fun z hz => h z (by simp [hz])) ?_
      rw [List.filterMap_cons, e] at q
      simpa using q
/-- every item gives one -/
theorem wpLc_map {f : D → (Option D → Prop) → Prop} {g : D → D} {Q : List D → Prop} {xs : List D} (h : ∀ x ∈ xs, ∀ k : Option D → Prop, k (some (g x)) → f x k) (q : Q (xs.map g)) : wpLc f xs [] Q :=
  wpLc_det (g := fun x => some (g x)) h (by simpa using q)
/-- over a mapped list -/
theorem wpLc_mapM {α : Type} {f : D → (Option D → Prop) → Prop} {i : α → D} {g : α → D} {Q : List D → Prop} {xs : List α} (h : ∀ x ∈ xs, ∀ k : Option D → Prop, k (some (g x)) → f (i x) k) (q : Q (xs.map g)) : wpLc f (xs.map i) [] Q := by
  have key : ∀ (ys : List α) (acc : List D), (∀ y ∈ ys, ∀ k : Option D → Prop, k (some (g y)) → f (i y) k) → Q (acc ++ ys.map g) → wpLc f (ys.map i) acc Q := by
    intro ys
    induction ys with
    | nil => intro acc _ q; simpa [wpLc] using q
    | cons y ys ih =>
      intro acc h q
      simp only [List.map_cons, wpLc]
      exact h y (by simp) _ (ih _ (fun z hz => h z (by simp [hz])) (by simpa using q))
  exact key xs [] h (by simpa using q)
/-- .. with a test -/
theorem wpLc_filM {α : Type} {f : D → (Option D → Prop) → Prop} {i : α → D} {p : α → Bool} {g : α → D} {Q : List D → Prop} {xs : List α} (h : ∀ x ∈ xs, ∀ k : Option D → Prop, k (if p x = true then some (g x) else none) → f (i x) k) (q : Q ((xs.filter p).map g)) : wpLc f (xs.map i) [] Q := by
  have key : ∀ (ys : List α) (acc : List D), (∀ y ∈ ys, ∀ k : Option D → Prop, k (if p y = true then some (g y) else none) → f (i y) k) → Q (acc ++ (ys.filter p).map g) → wpLc f (ys.map i) acc Q := by
    intro ys
    induction ys with
    | nil => intro acc _ q; simpa [wpLc] using q
    | cons y ys ih =>
      intro acc h q
      simp only [List.map_cons, wpLc]
      refine h y (by simp) _ ?_
      cases e : p y with
      | true =>
        simp only [if_true]
        exact ih _ (fun z hz => h z (by simp [hz])) (by simpa [List.filter_cons, e] using q)
      | false =>
        simp only [Bool.false_eq_true, if_false]
        exact ih _ (fun z hz => h z (by simp [hz])) (by simpa [List.filter_cons, e] using q)
  exact key xs [] h (by simpa using q)
theorem rangeD_eq (lo : Int) (n : Nat) : rangeD lo n = ((List.range n).map fun (i : Nat) => lo + (i : Int)).map .int := by
  unfold rangeD
  rw [List.map_map]
  rfl
theorem atD_nat {α : Type} {xs : List α} {i : Int} {x : α} (h0 : 0 ≤ i) (h : xs[i.toNat]? = some x) : atD xs i = some x := by
  have hl : i < xs.length := by
    have := (List.getElem?_eq_some_iff.mp h).1
    omega
  unfold atD ixD
  rw [if_pos h0, if_pos hl]
  exact h
theorem atD_last {α : Type} {xs : List α} {x : α} (h : xs.getLast? = some x) : atD xs (-1) = some x := by
  have hn : xs ≠ [] := fun e => by subst e; simp at h
  have hl : 0 < xs.length := List.length_pos_iff.mpr hn
  unfold atD ixD
  rw [if_neg (by omega), if_pos (by omega)]
  show xs[(-1 + (xs.length : Int)).toNat]? = some x
  rw [List.getLast?_eq_getElem?] at h
  rw [show (-1 + (xs.length : Int)).toNat = xs.length - 1 by omega]
  exact h
end Sk
set_option linter.all false
set_option maxRecDepth 10000
namespace Sk
open PySem

/-! small steps of the readings -/
theorem asBool_b {Q : Bool → Prop} {b : Bool} : asBool Q (.bool b) = Q b := rfl
theorem asInt_i {Q : Int → Prop} {b : Int} : asInt Q (.int b) = Q b := rfl
theorem asList_l {Q : List D → Prop} {b : List D} : asList Q (.list b) = Q b := rfl
theorem asTup_t {Q : List D → Prop} {b : List D} : asTup Q (.tuple b) = Q b := rfl
theorem must_s {Q : D → Prop} {d : D} : must (some d) Q = Q d := rfl
theorem cop_lt {i j : Int} : cop .lt (.int i) (.int j) = some (.bool (decide (i < j))) := rfl
theorem cop_le {i j : Int} : cop .le (.int i) (.int j) = some (.bool (decide (i ≤ j))) := rfl
theorem cop_gt {i j : Int} : cop .gt (.int i) (.int j) = some (.bool (decide (j < i))) := rfl
theorem cop_ge {i j : Int} : cop .ge (.int i) (.int j) = some (.bool (decide (j ≤ i))) := rfl
theorem bop_add {i j : Int} : bop .add (.int i) (.int j) = some (.int (i + j)) := rfl
theorem bop_sub {i j : Int} : bop .sub (.int i) (.int j) = some (.int (i - j)) := rfl
theorem bop_mod {i j : Int} (h : 0 < j) : bop .mod (.int i) (.int j) = some (.int (i % j)) := by simp [bop, h]
theorem bop_fdiv {i j : Int} (h : 0 < j) (h2 : j < 1073741824) : bop .fdiv (.int i) (.int j) = some (.int (i / j)) := by simp [bop, h, h2]
theorem bop_mul {i j : Int} (h : -10000000000 ≤ i) (h2 : i ≤ 10000000000) : bop .mul (.int i) (.int j) = some (.int (i * j)) := by
  have : small i = true := by simp [small]; omega
  simp [bop, this]
theorem ixOp_t0 {x : D} {r : List D} : ixOp (.tuple (x :: r)) (.int 0) = some x := by simp [ixOp, atD, ixD]
theorem ixOp_t1 {x y : D} {r : List D} : ixOp (.tuple (x :: y :: r)) (.int 1) = some y := by
  have : (1 : Int) < ((x :: y :: r).length : Nat) := by simp; omega
  simp only [ixOp, atD, ixD]
  rw [if_pos (by omega), if_pos this]
  rfl
theorem ixOp_l {α : Type} {xs : List α} {f : α → D} {i : Int} (h0 : 0 ≤ i) (h1 : i < xs.length) : ixOp (.list (xs.map f)) (.int i) = some (f (xs[i.toNat]'(by omega))) := by
  refine atD_nat h0 ?_
  rw [List.getElem?_map, List.getElem?_eq_getElem (by omega)]
  rfl
theorem bsem_lenl {xs : List D} : bsem .len [.list xs] = some (.int xs.length) := rfl
theorem bsem_lent {xs : List D} : bsem .len [.tuple xs] = some (.int xs.length) := rfl
theorem gcv_u : gcv .units = .int 120 := rfl
theorem gcv_d : gcv .day = .int 1000000 := rfl
theorem isiD_i {i : Int} : isiD (.int i) .int = true := rfl
theorem isiD_b {i : Int} : isiD (.int i) .bool = false := rfl
theorem isTok_i {i : Int} : isTok (.int i) = false := rfl
theorem isTok_b {i : Bool} : isTok (.bool i) = false := rfl
theorem isTok_n : isTok .none = false := rfl
theorem isTok_t {i : List D} : isTok (.tuple i) = false := rfl
theorem isTok_l {i : List D} : isTok (.list i) = false := rfl
theorem isTok_s {i : Str} : isTok (.str i) = false := rfl
theorem isNon_i {i : Int} : isNon (.int i) = false := rfl
theorem isNon_b {i : Bool} : isNon (.bool i) = false := rfl
theorem isNon_n : isNon .none = true := rfl
theorem isNon_t {i : List D} : isNon (.tuple i) = false := rfl
theorem isNon_l {i : List D} : isNon (.list i) = false := rfl
theorem isNon_s {i : Str} : isNon (.str i) = false := rfl
theorem noList_i {i : Int} : noList (.int i) = true := rfl
theorem noList_b {i : Bool} : noList (.bool i) = true := rfl
theorem noList_n : noList .none = true := rfl
theorem noList_t {i j : Int} : noList (.tuple [.int i, .int j]) = true := rfl
theorem plain_n : plain [] = true := rfl
theorem plain_c {x : D} {r : List D} : plain (x :: r) = (!isTok x && plain r) := rfl
theorem lenlim {n : Nat} (h : n ≤ 100000) : (n ≤ lim) = True := eq_true h
theorem bindT_1 {i : Nat} {x : D} {G : Ev} {K : Ev → Prop} : bindT [i] x G K = K (setS G i (.d x)) := rfl
theorem bindT_2 {i j : Nat} {x y : D} {G : Ev} {K : Ev → Prop} : bindT [i, j] (.tuple [x, y]) G K = K (setS (setS G i (.d x)) j (.d y)) := rfl

/-! checks -/
/-- is_int(value, low, high); slots: value low high -/
def b_is_int_0 : Ss := .cons (.ret (.bool true (.cons (.isi (.var 0) .int) (.cons (.inot (.isi (.var 0) .bool)) (.cons (.chain .le .le (.var 1) (.var 0) (.var 2)) (.nil)))))) .nil
def b_is_int : Ss := b_is_int_0
/-- is_body(units, value); slots: units value -/
def b_is_body_1 : Ss := .cons (.ret (.bool true (.cons (.call .is_int (.cons (.ix (.var 1) (.ci 0)) (.cons (.ci 0) (.cons (.bin .sub (.var 0) (.ci 1)) (.nil))))) (.cons (.call .is_int (.cons (.ix (.var 1) (.ci 1)) (.cons (.ci 0) (.cons (.bin .sub (.var 0) (.ci 1)) (.nil))))) (.nil))))) .nil
def b_is_body_0 : Ss := .cons (.ifs (.bool false (.cons (.inot (.isi (.var 1) .tuple)) (.cons (.cmp .ne (.bi .len (.cons (.var 1) (.nil))) (.ci 2)) (.nil)))) (.cons (.ret (.cb false)) <| .nil) .nil) b_is_body_1
def b_is_body : Ss := b_is_body_0
/-- is_sky(value); slots: value one -/
def b_is_sky_2 : Ss := .cons (.ret (.bi .all (.cons (.lc [1] (.list (.ix (.var 0) (.ci 1))) .none (.call .is_body (.cons (.ix (.var 0) (.ci 0)) (.cons (.var 1) (.nil))))) (.nil)))) .nil
def b_is_sky_1 : Ss := .cons (.ifs (.bool false (.cons (.inot (.isi (.ix (.var 0) (.ci 1)) .list)) (.cons (.inot (.chain .le .le (.ci 1) (.bi .len (.cons (.ix (.var 0) (.ci 1)) (.nil))) (.ci 4))) (.nil)))) (.cons (.ret (.cb false)) <| .nil) .nil) b_is_sky_2
def b_is_sky_0 : Ss := .cons (.ifs (.bool false (.cons (.inot (.isi (.var 0) .tuple)) (.cons (.cmp .ne (.bi .len (.cons (.var 0) (.nil))) (.ci 2)) (.cons (.inot (.call .is_int (.cons (.ix (.var 0) (.ci 0)) (.cons (.ci 2) (.cons (.gc .units) (.nil)))))) (.nil))))) (.cons (.ret (.cb false)) <| .nil) .nil) b_is_sky_1
def b_is_sky : Ss := b_is_sky_0
def sp_is_int : Spec := fun ds Q _ => ∃ v lo hi, ds = [v, .int lo, .int hi] ∧ isTok v = false ∧ Q (.bool (isInt v lo hi))
theorem c_is_int {v : D} {lo hi : Int} {Q : D → Prop} {X : Exn → Prop} (hv : isTok v = false) : sp_is_int [v, .int lo, .int hi] Q X = Q (.bool (isInt v lo hi)) := by
  simp only [eq_iff_iff]
  constructor
  · rintro ⟨v', lo', hi', e, _, h⟩
    simp only [List.cons.injEq, PyData.int.injEq, and_true] at e
    obtain ⟨rfl, rfl, rfl⟩ := e
    exact h
  · exact fun h => ⟨v, lo, hi, rfl, hv, h⟩
theorem r_is_int {T : Fn → Spec} {ds : List D} {Q : D → Prop} {X : Exn → Prop} (h : sp_is_int ds Q X) : ds.length = 3 ∧ runs T 3 b_is_int ds Q X := by
  obtain ⟨v, lo, hi, rfl, hv, hQ⟩ := h
  refine ⟨rfl, ?_⟩
  try simp (maxSteps := 2000000) (disch := first | assumption | omega) only [runs, start, wpSs, wpS, wpE, wpEs, wpB, wpO, wpC, wpI, getS, setS, blank, blank1, List.map_cons, List.map_nil, List.length_cons, List.length_nil, List.cons_append, List.nil_append, List.replicate, Nat.sub_self, asBool_b, asInt_i, asList_l, asTup_t, must_s, cop_lt, cop_le, cop_gt, cop_ge, bop_add, bop_sub, bop_mod, bop_fdiv, bop_mul, ixOp_t0, ixOp_t1, ixOp_l, bsem_lenl, bsem_lent, gcv_u, gcv_d, isiD_i, isiD_b, isTok_i, isTok_b, isTok_n, isTok_t, isTok_l, isTok_s, and_true, true_and, if_true, if_false, Bool.false_eq_true, Bool.true_eq_false, Bool.not_true, Bool.not_false, Bool.not_not, noList_i, noList_b, noList_n, noList_t, plain_n, plain_c, lenlim, bindT_1, bindT_2, Nat.reduceAdd, Nat.reduceSub, isNon_n, isNon_i, isNon_b, isNon_t, isNon_l, isNon_s, ite_self, not_true_eq_false, not_false_eq_true, implies_true, false_and, and_false, decide_true, decide_false, decide_not, b_is_int, b_is_int_0, hv]
  cases v with
  | int i =>
    try simp (maxSteps := 2000000) (disch := first | assumption | omega) only [runs, start, wpSs, wpS, wpE, wpEs, wpB, wpO, wpC, wpI, getS, setS, blank, blank1, List.map_cons, List.map_nil, List.length_cons, List.length_nil, List.cons_append, List.nil_append, List.replicate, Nat.sub_self, asBool_b, asInt_i, asList_l, asTup_t, must_s, cop_lt, cop_le, cop_gt, cop_ge, bop_add, bop_sub, bop_mod, bop_fdiv, bop_mul, ixOp_t0, ixOp_t1, ixOp_l, bsem_lenl, bsem_lent, gcv_u, gcv_d, isiD_i, isiD_b, isTok_i, isTok_b, isTok_n, isTok_t, isTok_l, isTok_s, and_true, true_and, if_true, if_false, Bool.false_eq_true, Bool.true_eq_false, Bool.not_true, Bool.not_false, Bool.not_not, noList_i, noList_b, noList_n, noList_t, plain_n, plain_c, lenlim, bindT_1, bindT_2, Nat.reduceAdd, Nat.reduceSub, isNon_n, isNon_i, isNon_b, isNon_t, isNon_l, isNon_s, ite_self, not_true_eq_false, not_false_eq_true, implies_true, false_and, and_false, decide_true, decide_false, decide_not]
    by_cases h1 : lo ≤ i
    · simp only [h1, decide_true, if_true]
      simpa [isInt, h1] using hQ
    · simp only [h1, decide_false, Bool.false_eq_true, if_false]
      simpa [isInt, h1] using hQ
  | _ => first | (simp [isTok] at hv; done) | (simpa [isiD, isInt] using hQ)

theorem cop_eqi {i j : Int} : cop .eq (.int i) (.int j) = some (.bool (decide (i = j))) := by
  by_cases h : i = j <;> simp [cop, okD, PyData.eqv, h]
theorem cop_nei {i j : Int} : cop .ne (.int i) (.int j) = some (.bool (!decide (i = j))) := by
  by_cases h : i = j <;> simp [cop, okD, PyData.eqv, h]
theorem okD_in {n : Nat} {xs : List D} {x : D} (h : okD (n + 1) (.tuple xs) = true) (hx : x ∈ xs) : okD n x = true := by
  simp only [okD, List.all_eq_true] at h
  exact h x hx
theorem okD_inl {n : Nat} {xs : List D} {x : D} (h : okD (n + 1) (.list xs) = true) (hx : x ∈ xs) : okD n x = true := by
  simp only [okD, List.all_eq_true] at h
  exact h x hx
theorem okD_isTok {n : Nat} {d : D} (h : okD n d = true) : isTok d = false := by
  cases d with
  | dict x => cases n <;> simp [okD] at h
  | _ => rfl
theorem pairD_inj {p q : Int × Int} (h : pairD p = pairD q) : p = q := by
  simp only [pairD, PyData.tuple.injEq, List.cons.injEq, PyData.int.injEq, and_true] at h
  exact Prod.ext h.1 h.2
theorem map_pairD_inj : ∀ {a b : List (Int × Int)}, a.map pairD = b.map pairD → a = b
  | [], [], _ => rfl
  | [], _ :: _, h => by simp at h
  | _ :: _, [], h => by simp at h
  | x :: a, y :: b, h => by
    simp only [List.map_cons, List.cons.injEq] at h
    rw [pairD_inj h.1, map_pairD_inj h.2]
theorem skyD_inj {u u' : Int} {bs bs' : List (Int × Int)} (h : skyD u bs = skyD u' bs') : u = u' ∧ bs = bs' := by
  simp only [skyD, pairsD, PyData.tuple.injEq, List.cons.injEq, PyData.int.injEq, PyData.list.injEq, and_true] at h
  exact ⟨h.1, map_pairD_inj h.2⟩
theorem bsem_all {α : Type} {xs : List α} {f : α → Bool} : bsem .all [.list (xs.map fun x => .bool (f x))] = some (.bool (xs.all f)) := by
  have : xs.map (fun x => PyData.bool (f x)) = (xs.map f).map .bool := by rw [List.map_map]; rfl
  simp only [bsem, this, bools?_map, Option.map_some]
  simp [List.all_map, Function.comp_def]
def sp_is_body : Spec := fun ds Q _ => ∃ u v, ds = [.int u, v] ∧ okD 5 v = true ∧ Q (.bool (isBody u v))
theorem c_is_body {u : Int} {v : D} {Q : D → Prop} {X : Exn → Prop} (hv : okD 5 v = true) : sp_is_body [.int u, v] Q X = Q (.bool (isBody u v)) := by
  simp only [eq_iff_iff]
  constructor
  · rintro ⟨u', v', e, _, h⟩
    simp only [List.cons.injEq, PyData.int.injEq, and_true] at e
    obtain ⟨rfl, rfl⟩ := e
    exact h
  · exact fun h => ⟨u, v, rfl, hv, h⟩
theorem r_is_body {T : Fn → Spec} (t1 : T .is_int = sp_is_int) {ds : List D} {Q : D → Prop} {X : Exn → Prop} (h : sp_is_body ds Q X) : ds.length = 2 ∧ runs T 2 b_is_body ds Q X := by
  obtain ⟨u, v, rfl, hv, hQ⟩ := h
  refine ⟨rfl, ?_⟩
  have hk := okD_isTok hv
  try simp (maxSteps := 2000000) (disch := first | assumption | omega) only [runs, start, wpSs, wpS, wpE, wpEs, wpB, wpO, wpC, wpI, getS, setS, blank, blank1, List.map_cons, List.map_nil, List.length_cons, List.length_nil, List.cons_append, List.nil_append, List.replicate, Nat.sub_self, asBool_b, asInt_i, asList_l, asTup_t, must_s, cop_lt, cop_le, cop_gt, cop_ge, bop_add, bop_sub, bop_mod, bop_fdiv, bop_mul, ixOp_t0, ixOp_t1, ixOp_l, bsem_lenl, bsem_lent, gcv_u, gcv_d, isiD_i, isiD_b, isTok_i, isTok_b, isTok_n, isTok_t, isTok_l, isTok_s, and_true, true_and, if_true, if_false, Bool.false_eq_true, Bool.true_eq_false, Bool.not_true, Bool.not_false, Bool.not_not, noList_i, noList_b, noList_n, noList_t, plain_n, plain_c, lenlim, bindT_1, bindT_2, Nat.reduceAdd, Nat.reduceSub, isNon_n, isNon_i, isNon_b, isNon_t, isNon_l, isNon_s, ite_self, not_true_eq_false, not_false_eq_true, implies_true, false_and, and_false, decide_true, decide_false, decide_not, b_is_body, b_is_body_0, hk]
  cases v with
  | tuple xs =>
    simp only [isiD]
    try simp (maxSteps := 2000000) (disch := first | assumption | omega) only [runs, start, wpSs, wpS, wpE, wpEs, wpB, wpO, wpC, wpI, getS, setS, blank, blank1, List.map_cons, List.map_nil, List.length_cons, List.length_nil, List.cons_append, List.nil_append, List.replicate, Nat.sub_self, asBool_b, asInt_i, asList_l, asTup_t, must_s, cop_lt, cop_le, cop_gt, cop_ge, bop_add, bop_sub, bop_mod, bop_fdiv, bop_mul, ixOp_t0, ixOp_t1, ixOp_l, bsem_lenl, bsem_lent, gcv_u, gcv_d, isiD_i, isiD_b, isTok_i, isTok_b, isTok_n, isTok_t, isTok_l, isTok_s, and_true, true_and, if_true, if_false, Bool.false_eq_true, Bool.true_eq_false, Bool.not_true, Bool.not_false, Bool.not_not, noList_i, noList_b, noList_n, noList_t, plain_n, plain_c, lenlim, bindT_1, bindT_2, Nat.reduceAdd, Nat.reduceSub, isNon_n, isNon_i, isNon_b, isNon_t, isNon_l, isNon_s, ite_self, not_true_eq_false, not_false_eq_true, implies_true, false_and, and_false, decide_true, decide_false, decide_not, cop_nei]
    match xs, hv, hQ with
    | [a, b], hv, hQ =>
      have ha : isTok a = false := okD_isTok (okD_in hv (by simp))
      have hb : isTok b = false := okD_isTok (okD_in hv (by simp))
      have e2 : ((2 : Nat) : Int) = 2 := rfl
      try simp (maxSteps := 2000000) (disch := first | assumption | omega) only [runs, start, wpSs, wpS, wpE, wpEs, wpB, wpO, wpC, wpI, getS, setS, blank, blank1, List.map_cons, List.map_nil, List.length_cons, List.length_nil, List.cons_append, List.nil_append, List.replicate, Nat.sub_self, asBool_b, asInt_i, asList_l, asTup_t, must_s, cop_lt, cop_le, cop_gt, cop_ge, bop_add, bop_sub, bop_mod, bop_fdiv, bop_mul, ixOp_t0, ixOp_t1, ixOp_l, bsem_lenl, bsem_lent, gcv_u, gcv_d, isiD_i, isiD_b, isTok_i, isTok_b, isTok_n, isTok_t, isTok_l, isTok_s, and_true, true_and, if_true, if_false, Bool.false_eq_true, Bool.true_eq_false, Bool.not_true, Bool.not_false, Bool.not_not, noList_i, noList_b, noList_n, noList_t, plain_n, plain_c, lenlim, bindT_1, bindT_2, Nat.reduceAdd, Nat.reduceSub, isNon_n, isNon_i, isNon_b, isNon_t, isNon_l, isNon_s, ite_self, not_true_eq_false, not_false_eq_true, implies_true, false_and, and_false, decide_true, decide_false, decide_not, e2, b_is_body_1, t1, c_is_int]
      cases h1 : isInt a 0 (u - 1) with
      | true =>
        try simp (maxSteps := 2000000) (disch := first | assumption | omega) only [runs, start, wpSs, wpS, wpE, wpEs, wpB, wpO, wpC, wpI, getS, setS, blank, blank1, List.map_cons, List.map_nil, List.length_cons, List.length_nil, List.cons_append, List.nil_append, List.replicate, Nat.sub_self, asBool_b, asInt_i, asList_l, asTup_t, must_s, cop_lt, cop_le, cop_gt, cop_ge, bop_add, bop_sub, bop_mod, bop_fdiv, bop_mul, ixOp_t0, ixOp_t1, ixOp_l, bsem_lenl, bsem_lent, gcv_u, gcv_d, isiD_i, isiD_b, isTok_i, isTok_b, isTok_n, isTok_t, isTok_l, isTok_s, and_true, true_and, if_true, if_false, Bool.false_eq_true, Bool.true_eq_false, Bool.not_true, Bool.not_false, Bool.not_not, noList_i, noList_b, noList_n, noList_t, plain_n, plain_c, lenlim, bindT_1, bindT_2, Nat.reduceAdd, Nat.reduceSub, isNon_n, isNon_i, isNon_b, isNon_t, isNon_l, isNon_s, ite_self, not_true_eq_false, not_false_eq_true, implies_true, false_and, and_false, decide_true, decide_false, decide_not]
        simpa [isBody, h1] using hQ
      | false =>
        try simp (maxSteps := 2000000) (disch := first | assumption | omega) only [runs, start, wpSs, wpS, wpE, wpEs, wpB, wpO, wpC, wpI, getS, setS, blank, blank1, List.map_cons, List.map_nil, List.length_cons, List.length_nil, List.cons_append, List.nil_append, List.replicate, Nat.sub_self, asBool_b, asInt_i, asList_l, asTup_t, must_s, cop_lt, cop_le, cop_gt, cop_ge, bop_add, bop_sub, bop_mod, bop_fdiv, bop_mul, ixOp_t0, ixOp_t1, ixOp_l, bsem_lenl, bsem_lent, gcv_u, gcv_d, isiD_i, isiD_b, isTok_i, isTok_b, isTok_n, isTok_t, isTok_l, isTok_s, and_true, true_and, if_true, if_false, Bool.false_eq_true, Bool.true_eq_false, Bool.not_true, Bool.not_false, Bool.not_not, noList_i, noList_b, noList_n, noList_t, plain_n, plain_c, lenlim, bindT_1, bindT_2, Nat.reduceAdd, Nat.reduceSub, isNon_n, isNon_i, isNon_b, isNon_t, isNon_l, isNon_s, ite_self, not_true_eq_false, not_false_eq_true, implies_true, false_and, and_false, decide_true, decide_false, decide_not]
        simpa [isBody, h1] using hQ
    | [], hv, hQ => simpa [isBody] using hQ
    | [_], hv, hQ => simpa [isBody] using hQ
    | _ :: _ :: _ :: r, hv, hQ =>
      have : ¬ ((r.length : Int) + 1 + 1 + 1 = 2) := by omega
      simpa [isBody, this] using hQ
  | _ => first | (simp [isTok] at hk; done) | (simpa [isiD, isBody] using hQ)

theorem okD_succ : ∀ (n : Nat) (d : D), okD n d = true → okD (n + 1) d = true
  | _, .none, _ => rfl
  | _, .bool _, _ => rfl
  | _, .int _, _ => rfl
  | 0, .str _, h => h
  | _ + 1, .str _, h => h
  | 0, .list _, h => by simp [okD] at h
  | 0, .tuple _, h => by simp [okD] at h
  | n + 1, .list xs, h => by
    simp only [okD, List.all_eq_true] at h ⊢
    exact fun x hx => okD_succ n x (h x hx)
  | n + 1, .tuple xs, h => by
    simp only [okD, List.all_eq_true] at h ⊢
    exact fun x hx => okD_succ n x (h x hx)
  | 0, .dict _, h => by simp [okD] at h
  | _ + 1, .dict _, h => by simp [okD] at h
def sp_is_sky : Spec := fun ds Q _ => ∃ v, ds = [v] ∧ okD 6 v = true ∧ Q (.bool (isSky v))
theorem c_is_sky {v : D} {Q : D → Prop} {X : Exn → Prop} (hv : okD 6 v = true) : sp_is_sky [v] Q X = Q (.bool (isSky v)) := by
  simp only [eq_iff_iff]
  constructor
  · rintro ⟨v', e, _, h⟩
    simp only [List.cons.injEq, and_true] at e
    subst e
    exact h
  · exact fun h => ⟨v, rfl, hv, h⟩
theorem isSky_two {a b : D} (h : isSky (.tuple [a, b]) = true) : isInt a 2 120 = true ∧ ∃ ys, b = .list ys ∧ 1 ≤ ys.length ∧ ys.length ≤ 4 := by
  obtain ⟨u, bs, e, hs⟩ := isSky_iff.mp h
  simp only [skyD, pairsD, PyData.tuple.injEq, List.cons.injEq, and_true] at e
  obtain ⟨rfl, rfl⟩ := e
  exact ⟨isInt_iff.mpr ⟨u, rfl, hs.lo, hs.hi⟩, _, rfl, by rw [List.length_map]; exact hs.l1, by rw [List.length_map]; exact hs.l4⟩
theorem not_true {b : Bool} (h : b = true → False) : b = false := by cases b with | false => rfl | true => exact (h rfl).elim
theorem r_is_sky {T : Fn → Spec} (t1 : T .is_int = sp_is_int) (t2 : T .is_body = sp_is_body) {ds : List D} {Q : D → Prop} {X : Exn → Prop} (h : sp_is_sky ds Q X) : ds.length = 1 ∧ runs T 2 b_is_sky ds Q X := by
  obtain ⟨v, rfl, hv, hQ⟩ := h
  refine ⟨rfl, ?_⟩
  have hk := okD_isTok hv
  by_cases hS : ∃ a b, v = .tuple [a, b]
  · obtain ⟨a, b, rfl⟩ := hS
    have oa := okD_in hv (show a ∈ [a, b] by simp)
    have ob := okD_in hv (show b ∈ [a, b] by simp)
    have ha : isTok a = false := okD_isTok oa
    have hb : isTok b = false := okD_isTok ob
    have e2 : (((0 : Nat) + 1 + 1 : Nat) : Int) = 2 := rfl
    have e3 : isiD (.tuple [a, b]) .tuple = true := rfl
    cases h1 : isInt a 2 120 with
    | false =>
      try simp (maxSteps := 2000000) (disch := first | assumption | omega) only [runs, start, wpSs, wpS, wpE, wpEs, wpB, wpO, wpC, wpI, getS, setS, blank, blank1, List.map_cons, List.map_nil, List.length_cons, List.length_nil, List.cons_append, List.nil_append, List.replicate, Nat.sub_self, asBool_b, asInt_i, asList_l, asTup_t, must_s, cop_lt, cop_le, cop_gt, cop_ge, bop_add, bop_sub, bop_mod, bop_fdiv, bop_mul, ixOp_t0, ixOp_t1, ixOp_l, bsem_lenl, bsem_lent, gcv_u, gcv_d, isiD_i, isiD_b, isTok_i, isTok_b, isTok_n, isTok_t, isTok_l, isTok_s, and_true, true_and, if_true, if_false, Bool.false_eq_true, Bool.true_eq_false, Bool.not_true, Bool.not_false, Bool.not_not, noList_i, noList_b, noList_n, noList_t, plain_n, plain_c, lenlim, bindT_1, bindT_2, Nat.reduceAdd, Nat.reduceSub, isNon_n, isNon_i, isNon_b, isNon_t, isNon_l, isNon_s, ite_self, not_true_eq_false, not_false_eq_true, implies_true, false_and, and_false, decide_true, decide_false, decide_not, b_is_sky, b_is_sky_0, cop_nei, e2, e3, t1, c_is_int, h1]
      have hf : isSky (.tuple [a, b]) = false := not_true (fun z => by rw [(isSky_two z).1] at h1; cases h1)
      rw [hf] at hQ
      exact hQ
    | true =>
      try simp (maxSteps := 2000000) (disch := first | assumption | omega) only [runs, start, wpSs, wpS, wpE, wpEs, wpB, wpO, wpC, wpI, getS, setS, blank, blank1, List.map_cons, List.map_nil, List.length_cons, List.length_nil, List.cons_append, List.nil_append, List.replicate, Nat.sub_self, asBool_b, asInt_i, asList_l, asTup_t, must_s, cop_lt, cop_le, cop_gt, cop_ge, bop_add, bop_sub, bop_mod, bop_fdiv, bop_mul, ixOp_t0, ixOp_t1, ixOp_l, bsem_lenl, bsem_lent, gcv_u, gcv_d, isiD_i, isiD_b, isTok_i, isTok_b, isTok_n, isTok_t, isTok_l, isTok_s, and_true, true_and, if_true, if_false, Bool.false_eq_true, Bool.true_eq_false, Bool.not_true, Bool.not_false, Bool.not_not, noList_i, noList_b, noList_n, noList_t, plain_n, plain_c, lenlim, bindT_1, bindT_2, Nat.reduceAdd, Nat.reduceSub, isNon_n, isNon_i, isNon_b, isNon_t, isNon_l, isNon_s, ite_self, not_true_eq_false, not_false_eq_true, implies_true, false_and, and_false, decide_true, decide_false, decide_not, b_is_sky, b_is_sky_0, cop_nei, e2, e3, t1, c_is_int, h1]
      obtain ⟨u, rfl, l1, l2⟩ := isInt_iff.mp h1
      by_cases hL : ∃ ys, b = .list ys
      · obtain ⟨ys, rfl⟩ := hL
        have e4 : isiD (.list ys) .list = true := rfl
        by_cases g1 : (1 : Int) ≤ ys.length
        · by_cases g2 : (ys.length : Int) ≤ 4
          · have d1 : decide ((1 : Int) ≤ ys.length) = true := decide_eq_true g1
            have d2 : decide ((ys.length : Int) ≤ 4) = true := decide_eq_true g2
            try simp (maxSteps := 2000000) (disch := first | assumption | omega) only [runs, start, wpSs, wpS, wpE, wpEs, wpB, wpO, wpC, wpI, getS, setS, blank, blank1, List.map_cons, List.map_nil, List.length_cons, List.length_nil, List.cons_append, List.nil_append, List.replicate, Nat.sub_self, asBool_b, asInt_i, asList_l, asTup_t, must_s, cop_lt, cop_le, cop_gt, cop_ge, bop_add, bop_sub, bop_mod, bop_fdiv, bop_mul, ixOp_t0, ixOp_t1, ixOp_l, bsem_lenl, bsem_lent, gcv_u, gcv_d, isiD_i, isiD_b, isTok_i, isTok_b, isTok_n, isTok_t, isTok_l, isTok_s, and_true, true_and, if_true, if_false, Bool.false_eq_true, Bool.true_eq_false, Bool.not_true, Bool.not_false, Bool.not_not, noList_i, noList_b, noList_n, noList_t, plain_n, plain_c, lenlim, bindT_1, bindT_2, Nat.reduceAdd, Nat.reduceSub, isNon_n, isNon_i, isNon_b, isNon_t, isNon_l, isNon_s, ite_self, not_true_eq_false, not_false_eq_true, implies_true, false_and, and_false, decide_true, decide_false, decide_not, b_is_sky_1, b_is_sky_2, e4, d1, d2]
            refine wpLc_map (g := fun x => .bool (isBody u x)) (fun x hx k hk => ?_) ?_
            · have ox : okD 5 x = true := okD_succ 4 x (okD_inl ob hx)
              try simp (maxSteps := 2000000) (disch := first | assumption | omega) only [runs, start, wpSs, wpS, wpE, wpEs, wpB, wpO, wpC, wpI, getS, setS, blank, blank1, List.map_cons, List.map_nil, List.length_cons, List.length_nil, List.cons_append, List.nil_append, List.replicate, Nat.sub_self, asBool_b, asInt_i, asList_l, asTup_t, must_s, cop_lt, cop_le, cop_gt, cop_ge, bop_add, bop_sub, bop_mod, bop_fdiv, bop_mul, ixOp_t0, ixOp_t1, ixOp_l, bsem_lenl, bsem_lent, gcv_u, gcv_d, isiD_i, isiD_b, isTok_i, isTok_b, isTok_n, isTok_t, isTok_l, isTok_s, and_true, true_and, if_true, if_false, Bool.false_eq_true, Bool.true_eq_false, Bool.not_true, Bool.not_false, Bool.not_not, noList_i, noList_b, noList_n, noList_t, plain_n, plain_c, lenlim, bindT_1, bindT_2, Nat.reduceAdd, Nat.reduceSub, isNon_n, isNon_i, isNon_b, isNon_t, isNon_l, isNon_s, ite_self, not_true_eq_false, not_false_eq_true, implies_true, false_and, and_false, decide_true, decide_false, decide_not, t2, c_is_body]
              exact hk
            · try simp (maxSteps := 2000000) (disch := first | assumption | omega) only [runs, start, wpSs, wpS, wpE, wpEs, wpB, wpO, wpC, wpI, getS, setS, blank, blank1, List.map_cons, List.map_nil, List.length_cons, List.length_nil, List.cons_append, List.nil_append, List.replicate, Nat.sub_self, asBool_b, asInt_i, asList_l, asTup_t, must_s, cop_lt, cop_le, cop_gt, cop_ge, bop_add, bop_sub, bop_mod, bop_fdiv, bop_mul, ixOp_t0, ixOp_t1, ixOp_l, bsem_lenl, bsem_lent, gcv_u, gcv_d, isiD_i, isiD_b, isTok_i, isTok_b, isTok_n, isTok_t, isTok_l, isTok_s, and_true, true_and, if_true, if_false, Bool.false_eq_true, Bool.true_eq_false, Bool.not_true, Bool.not_false, Bool.not_not, noList_i, noList_b, noList_n, noList_t, plain_n, plain_c, lenlim, bindT_1, bindT_2, Nat.reduceAdd, Nat.reduceSub, isNon_n, isNon_i, isNon_b, isNon_t, isNon_l, isNon_s, ite_self, not_true_eq_false, not_false_eq_true, implies_true, false_and, and_false, decide_true, decide_false, decide_not, bsem_all]
              have e : isSky (.tuple [.int u, .list ys]) = ys.all (isBody u) := by
                have e1 : decide (1 ≤ ys.length) = true := decide_eq_true (by omega)
                have e2 : decide (ys.length ≤ 4) = true := decide_eq_true (by omega)
                simp only [isSky, h1, e1, e2, Bool.true_and]
              rw [e] at hQ
              exact hQ
          · have d1 : decide ((1 : Int) ≤ ys.length) = true := decide_eq_true g1
            have d2 : decide ((ys.length : Int) ≤ 4) = false := decide_eq_false g2
            try simp (maxSteps := 2000000) (disch := first | assumption | omega) only [runs, start, wpSs, wpS, wpE, wpEs, wpB, wpO, wpC, wpI, getS, setS, blank, blank1, List.map_cons, List.map_nil, List.length_cons, List.length_nil, List.cons_append, List.nil_append, List.replicate, Nat.sub_self, asBool_b, asInt_i, asList_l, asTup_t, must_s, cop_lt, cop_le, cop_gt, cop_ge, bop_add, bop_sub, bop_mod, bop_fdiv, bop_mul, ixOp_t0, ixOp_t1, ixOp_l, bsem_lenl, bsem_lent, gcv_u, gcv_d, isiD_i, isiD_b, isTok_i, isTok_b, isTok_n, isTok_t, isTok_l, isTok_s, and_true, true_and, if_true, if_false, Bool.false_eq_true, Bool.true_eq_false, Bool.not_true, Bool.not_false, Bool.not_not, noList_i, noList_b, noList_n, noList_t, plain_n, plain_c, lenlim, bindT_1, bindT_2, Nat.reduceAdd, Nat.reduceSub, isNon_n, isNon_i, isNon_b, isNon_t, isNon_l, isNon_s, ite_self, not_true_eq_false, not_false_eq_true, implies_true, false_and, and_false, decide_true, decide_false, decide_not, b_is_sky_1, e4, d1, d2]
            have hf : isSky (.tuple [.int u, .list ys]) = false := not_true (fun z => by obtain ⟨_, zs, e, h5, h6⟩ := isSky_two z; cases e; omega)
            rw [hf] at hQ
            exact hQ
        · have d1 : decide ((1 : Int) ≤ ys.length) = false := decide_eq_false g1
          try simp (maxSteps := 2000000) (disch := first | assumption | omega) only [runs, start, wpSs, wpS, wpE, wpEs, wpB, wpO, wpC, wpI, getS, setS, blank, blank1, List.map_cons, List.map_nil, List.length_cons, List.length_nil, List.cons_append, List.nil_append, List.replicate, Nat.sub_self, asBool_b, asInt_i, asList_l, asTup_t, must_s, cop_lt, cop_le, cop_gt, cop_ge, bop_add, bop_sub, bop_mod, bop_fdiv, bop_mul, ixOp_t0, ixOp_t1, ixOp_l, bsem_lenl, bsem_lent, gcv_u, gcv_d, isiD_i, isiD_b, isTok_i, isTok_b, isTok_n, isTok_t, isTok_l, isTok_s, and_true, true_and, if_true, if_false, Bool.false_eq_true, Bool.true_eq_false, Bool.not_true, Bool.not_false, Bool.not_not, noList_i, noList_b, noList_n, noList_t, plain_n, plain_c, lenlim, bindT_1, bindT_2, Nat.reduceAdd, Nat.reduceSub, isNon_n, isNon_i, isNon_b, isNon_t, isNon_l, isNon_s, ite_self, not_true_eq_false, not_false_eq_true, implies_true, false_and, and_false, decide_true, decide_false, decide_not, b_is_sky_1, e4, d1]
          have hf : isSky (.tuple [.int u, .list ys]) = false := not_true (fun z => by obtain ⟨_, zs, e, h5, h6⟩ := isSky_two z; cases e; omega)
          rw [hf] at hQ
          exact hQ
      · have e4 : isiD b .list = false := by cases b <;> first | rfl | (exact absurd ⟨_, rfl⟩ hL)
        try simp (maxSteps := 2000000) (disch := first | assumption | omega) only [runs, start, wpSs, wpS, wpE, wpEs, wpB, wpO, wpC, wpI, getS, setS, blank, blank1, List.map_cons, List.map_nil, List.length_cons, List.length_nil, List.cons_append, List.nil_append, List.replicate, Nat.sub_self, asBool_b, asInt_i, asList_l, asTup_t, must_s, cop_lt, cop_le, cop_gt, cop_ge, bop_add, bop_sub, bop_mod, bop_fdiv, bop_mul, ixOp_t0, ixOp_t1, ixOp_l, bsem_lenl, bsem_lent, gcv_u, gcv_d, isiD_i, isiD_b, isTok_i, isTok_b, isTok_n, isTok_t, isTok_l, isTok_s, and_true, true_and, if_true, if_false, Bool.false_eq_true, Bool.true_eq_false, Bool.not_true, Bool.not_false, Bool.not_not, noList_i, noList_b, noList_n, noList_t, plain_n, plain_c, lenlim, bindT_1, bindT_2, Nat.reduceAdd, Nat.reduceSub, isNon_n, isNon_i, isNon_b, isNon_t, isNon_l, isNon_s, ite_self, not_true_eq_false, not_false_eq_true, implies_true, false_and, and_false, decide_true, decide_false, decide_not, b_is_sky_1, e4, hb]
        have hf : isSky (.tuple [.int u, b]) = false := not_true (fun z => by obtain ⟨_, zs, e, h5, h6⟩ := isSky_two z; exact hL ⟨zs, e⟩)
        rw [hf] at hQ
        exact hQ
  · have hf : isSky v = false := not_true fun z => by
      obtain ⟨u, bs, rfl, h⟩ := isSky_iff.mp z
      exact hS ⟨_, _, rfl⟩
    rw [hf] at hQ
    by_cases ht : ∃ xs, v = .tuple xs
    · obtain ⟨xs, rfl⟩ := ht
      have e3 : isiD (.tuple xs) .tuple = true := rfl
      have e2 : decide ((xs.length : Int) = 2) = false := decide_eq_false fun z => by
        match xs, hS, z with
        | [a, b], hS, _ => exact hS ⟨a, b, rfl⟩
        | [], _, z => simp at z
        | [_], _, z => simp at z
        | _ :: _ :: _ :: r, _, z => simp at z; omega
      try simp (maxSteps := 2000000) (disch := first | assumption | omega) only [runs, start, wpSs, wpS, wpE, wpEs, wpB, wpO, wpC, wpI, getS, setS, blank, blank1, List.map_cons, List.map_nil, List.length_cons, List.length_nil, List.cons_append, List.nil_append, List.replicate, Nat.sub_self, asBool_b, asInt_i, asList_l, asTup_t, must_s, cop_lt, cop_le, cop_gt, cop_ge, bop_add, bop_sub, bop_mod, bop_fdiv, bop_mul, ixOp_t0, ixOp_t1, ixOp_l, bsem_lenl, bsem_lent, gcv_u, gcv_d, isiD_i, isiD_b, isTok_i, isTok_b, isTok_n, isTok_t, isTok_l, isTok_s, and_true, true_and, if_true, if_false, Bool.false_eq_true, Bool.true_eq_false, Bool.not_true, Bool.not_false, Bool.not_not, noList_i, noList_b, noList_n, noList_t, plain_n, plain_c, lenlim, bindT_1, bindT_2, Nat.reduceAdd, Nat.reduceSub, isNon_n, isNon_i, isNon_b, isNon_t, isNon_l, isNon_s, ite_self, not_true_eq_false, not_false_eq_true, implies_true, false_and, and_false, decide_true, decide_false, decide_not, b_is_sky, b_is_sky_0, cop_nei, e2, e3]
      exact hQ
    · have e3 : isiD v .tuple = false := by cases v <;> first | rfl | (exact absurd ⟨_, rfl⟩ ht)
      try simp (maxSteps := 2000000) (disch := first | assumption | omega) only [runs, start, wpSs, wpS, wpE, wpEs, wpB, wpO, wpC, wpI, getS, setS, blank, blank1, List.map_cons, List.map_nil, List.length_cons, List.length_nil, List.cons_append, List.nil_append, List.replicate, Nat.sub_self, asBool_b, asInt_i, asList_l, asTup_t, must_s, cop_lt, cop_le, cop_gt, cop_ge, bop_add, bop_sub, bop_mod, bop_fdiv, bop_mul, ixOp_t0, ixOp_t1, ixOp_l, bsem_lenl, bsem_lent, gcv_u, gcv_d, isiD_i, isiD_b, isTok_i, isTok_b, isTok_n, isTok_t, isTok_l, isTok_s, and_true, true_and, if_true, if_false, Bool.false_eq_true, Bool.true_eq_false, Bool.not_true, Bool.not_false, Bool.not_not, noList_i, noList_b, noList_n, noList_t, plain_n, plain_c, lenlim, bindT_1, bindT_2, Nat.reduceAdd, Nat.reduceSub, isNon_n, isNon_i, isNon_b, isNon_t, isNon_l, isNon_s, ite_self, not_true_eq_false, not_false_eq_true, implies_true, false_and, and_false, decide_true, decide_false, decide_not, b_is_sky, b_is_sky_0, hk, e3]
      exact hQ
end Sk
set_option linter.all false
set_option maxRecDepth 10000
namespace Sk
open PySem

/-- a body's start and rate -/
def bd (bs : List (Int × Int)) (i : Int) : Int × Int := bs.getD i.toNat (0, 0)
theorem bd_mem {bs : List (Int × Int)} {i : Int} (h0 : 0 ≤ i) (h1 : i < bs.length) : bd bs i ∈ bs := by
  have : i.toNat < bs.length := by omega
  unfold bd
  rw [List.getD_eq_getElem?_getD, List.getElem?_eq_getElem this]
  exact List.getElem_mem this
theorem Sky.at {u : Int} {bs : List (Int × Int)} (h : Sky u bs) {i : Int} (h0 : 0 ≤ i) (h1 : i < bs.length) : 0 ≤ (bd bs i).1 ∧ (bd bs i).1 < u ∧ 0 ≤ (bd bs i).2 ∧ (bd bs i).2 < u := h.ok _ (bd_mem h0 h1)
theorem Sky.pos {u : Int} {bs : List (Int × Int)} (h : Sky u bs) : 0 < u := by
  have := h.lo
  omega
theorem Sky.n4 {u : Int} {bs : List (Int × Int)} (h : Sky u bs) : (bs.length : Int) ≤ 4 := by
  have := h.l4
  omega
theorem Sky.n1 {u : Int} {bs : List (Int × Int)} (h : Sky u bs) : (1 : Int) ≤ bs.length := by
  have := h.l1
  omega
theorem skyD_eq {u u' : Int} {bs bs' : List (Int × Int)} : (skyD u bs = skyD u' bs') = (u = u' ∧ bs = bs') := by
  rw [eq_iff_iff]
  exact ⟨skyD_inj, fun h => by rw [h.1, h.2]⟩
theorem pairD_eq {p q : Int × Int} : (pairD p = pairD q) = (p = q) := by
  rw [eq_iff_iff]
  exact ⟨pairD_inj, fun h => by rw [h]⟩
theorem pairsD_eq {p q : List (Int × Int)} : (pairsD p = pairsD q) = (p = q) := by
  rw [eq_iff_iff]
  refine ⟨fun h => ?_, fun h => by rw [h]⟩
  simp only [pairsD, PyData.list.injEq] at h
  exact map_pairD_inj h
theorem map_int_inj : ∀ {a b : List Int}, a.map PyData.int = b.map PyData.int → a = b
  | [], [], _ => rfl
  | [], _ :: _, h => by simp at h
  | _ :: _, [], h => by simp at h
  | x :: a, y :: b, h => by
    simp only [List.map_cons, List.cons.injEq, PyData.int.injEq] at h
    rw [h.1, map_int_inj h.2]
theorem intsD_eq {p q : List Int} : (intsD p = intsD q) = (p = q) := by
  rw [eq_iff_iff]
  refine ⟨fun h => ?_, fun h => by rw [h]⟩
  simp only [intsD, PyData.list.injEq] at h
  exact map_int_inj h
/-- a number of a list -/
def nth (l : List Int) (i : Int) : Int := l.getD i.toNat 0
theorem ixOp_s0 {u : Int} {bs : List (Int × Int)} : ixOp (skyD u bs) (.int 0) = some (.int u) := ixOp_t0
theorem ixOp_s1 {u : Int} {bs : List (Int × Int)} : ixOp (skyD u bs) (.int 1) = some (pairsD bs) := ixOp_t1
theorem ixOp_p {bs : List (Int × Int)} {i : Int} (h0 : 0 ≤ i) (h1 : i < bs.length) : ixOp (pairsD bs) (.int i) = some (pairD (bd bs i)) := by
  have : i.toNat < bs.length := by omega
  unfold pairsD
  rw [ixOp_l h0 h1]
  unfold bd
  rw [List.getD_eq_getElem?_getD, List.getElem?_eq_getElem this]
  rfl
theorem ixOp_i {l : List Int} {i : Int} (h0 : 0 ≤ i) (h1 : i < l.length) : ixOp (intsD l) (.int i) = some (.int (nth l i)) := by
  have : i.toNat < l.length := by omega
  unfold intsD
  rw [ixOp_l h0 h1]
  unfold nth
  rw [List.getD_eq_getElem?_getD, List.getElem?_eq_getElem this]
  rfl
theorem ixOp_p0 {p : Int × Int} : ixOp (pairD p) (.int 0) = some (.int p.1) := ixOp_t0
theorem ixOp_p1 {p : Int × Int} : ixOp (pairD p) (.int 1) = some (.int p.2) := ixOp_t1
theorem bsem_lenp {bs : List (Int × Int)} : bsem .len [pairsD bs] = some (.int bs.length) := by simp [bsem, pairsD]
theorem bsem_leni {bs : List Int} : bsem .len [intsD bs] = some (.int bs.length) := by simp [bsem, intsD]
theorem bindT_p {i j : Nat} {p : Int × Int} {G : Ev} {K : Ev → Prop} : bindT [i, j] (pairD p) G K = K (setS (setS G i (.d (.int p.1))) j (.d (.int p.2))) := rfl
theorem isTok_sky {u : Int} {bs : List (Int × Int)} : isTok (skyD u bs) = false := rfl
theorem isTok_ps {bs : List (Int × Int)} : isTok (pairsD bs) = false := rfl
theorem isTok_is {bs : List Int} : isTok (intsD bs) = false := rfl
theorem isTok_p {p : Int × Int} : isTok (pairD p) = false := rfl
theorem noList_p {p : Int × Int} : noList (pairD p) = true := rfl
theorem asList_p {Q : List D → Prop} {b : List (Int × Int)} : asList Q (pairsD b) = Q (b.map pairD) := rfl
theorem asList_il {Q : List D → Prop} {b : List Int} : asList Q (intsD b) = Q (b.map .int) := rfl
theorem bsem_max2 {i j : Int} : bsem .max [.int i, .int j] = some (.int (max i j)) := rfl
theorem bsem_min2 {i j : Int} : bsem .min [.int i, .int j] = some (.int (min i j)) := rfl
theorem ge0 {n : Nat} : (0 ≤ (n : Int)) = True := eq_true (Int.natCast_nonneg n)
theorem okD_p {n : Nat} {p : Int × Int} : okD (n + 1) (pairD p) = true := by cases n <;> rfl
theorem okD_ps {n : Nat} {p : List (Int × Int)} : okD (n + 2) (pairsD p) = true := by
  simp only [okD, pairsD, List.all_eq_true, List.mem_map]
  rintro x ⟨q, _, rfl⟩
  exact okD_p
theorem okD_is {n : Nat} {p : List Int} : okD (n + 1) (intsD p) = true := by
  simp only [okD, intsD, List.all_eq_true, List.mem_map]
  rintro x ⟨q, _, rfl⟩
  cases n <;> rfl
theorem okD_sky {n : Nat} {u : Int} {bs : List (Int × Int)} : okD (n + 3) (skyD u bs) = true := by
  simp only [okD, skyD, List.all_cons, List.all_nil, Bool.and_true]
  exact okD_ps
theorem eqv_ii : ∀ {a b : List Int}, PyData.eqv (intsD a) (intsD b) = decide (a = b) := by
  have key : ∀ {a b : List Int}, PyData.eqvAll (a.map .int) (b.map .int) = decide (a = b) := by
    intro a
    induction a with
    | nil => intro b; cases b <;> simp [PyData.eqvAll]
    | cons x a ih =>
      intro b
      cases b with
      | nil => simp [PyData.eqvAll]
      | cons y b =>
        simp only [List.map_cons, PyData.eqvAll, PyData.eqv, ih, List.cons.injEq]
        by_cases h1 : x = y <;> by_cases h2 : a = b <;> simp [h1, h2]
  intro a b
  simp only [intsD, PyData.eqv]
  exact key
theorem eqv_pp {p q : Int × Int} : PyData.eqv (pairD p) (pairD q) = decide (p = q) := by
  obtain ⟨a, b⟩ := p
  obtain ⟨c, d⟩ := q
  by_cases h1 : a = c <;> by_cases h2 : b = d <;> simp [PyData.eqv, PyData.eqvAll, pairD, h1, h2]
theorem eqv_ps : ∀ {a b : List (Int × Int)}, PyData.eqv (pairsD a) (pairsD b) = decide (a = b) := by
  have key : ∀ {a b : List (Int × Int)}, PyData.eqvAll (a.map pairD) (b.map pairD) = decide (a = b) := by
    intro a
    induction a with
    | nil => intro b; cases b <;> simp [PyData.eqvAll]
    | cons x a ih =>
      intro b
      cases b with
      | nil => simp [PyData.eqvAll]
      | cons y b =>
        simp only [List.map_cons, PyData.eqvAll, eqv_pp, ih, List.cons.injEq]
        by_cases h1 : x = y <;> by_cases h2 : a = b <;> simp [h1, h2]
  intro a b
  simp only [pairsD, PyData.eqv]
  exact key
theorem cop_eqd {x y : D} (hx : okD 6 x = true) (hy : okD 6 y = true) (hn : ∀ z, x ≠ .str z) : cop .eq x y = some (.bool (PyData.eqv x y)) := by
  cases x <;> simp_all [cop]
theorem cop_ned {x y : D} (hx : okD 6 x = true) (hy : okD 6 y = true) (hn : ∀ z, x ≠ .str z) : cop .ne x y = some (.bool (!PyData.eqv x y)) := by
  cases x <;> simp_all [cop]
theorem cop_eqil {a b : List Int} : cop .eq (intsD a) (intsD b) = some (.bool (decide (a = b))) := by
  rw [cop_eqd okD_is okD_is (by intro z; simp [intsD]), eqv_ii]
theorem cop_neil {a b : List Int} : cop .ne (intsD a) (intsD b) = some (.bool (!decide (a = b))) := by
  rw [cop_ned okD_is okD_is (by intro z; simp [intsD]), eqv_ii]
theorem cop_eqps {a b : List (Int × Int)} : cop .eq (pairsD a) (pairsD b) = some (.bool (decide (a = b))) := by
  rw [cop_eqd okD_ps okD_ps (by intro z; simp [pairsD]), eqv_ps]
theorem cop_neps {a b : List (Int × Int)} : cop .ne (pairsD a) (pairsD b) = some (.bool (!decide (a = b))) := by
  rw [cop_ned okD_ps okD_ps (by intro z; simp [pairsD]), eqv_ps]
theorem cop_eqp {a b : Int × Int} : cop .eq (pairD a) (pairD b) = some (.bool (decide (a = b))) := by
  rw [cop_eqd okD_p okD_p (by intro z; simp [pairD]), eqv_pp]
theorem cop_nep {a b : Int × Int} : cop .ne (pairD a) (pairD b) = some (.bool (!decide (a = b))) := by
  rw [cop_ned okD_p okD_p (by intro z; simp [pairD]), eqv_pp]

theorem c_is_int_i {v lo hi : Int} {Q : D → Prop} {X : Exn → Prop} : sp_is_int [.int v, .int lo, .int hi] Q X = Q (.bool (isInt (.int v) lo hi)) := c_is_int rfl
/-- a comprehension over range(n), every item one number -/
theorem lc_rgi {f : D → (Option D → Prop) → Prop} {g : Int → Int} {Q : List D → Prop} {n : Nat} (h : ∀ i : Int, 0 ≤ i → i < n → ∀ k : Option D → Prop, k (some (.int (g i))) → f (.int i) k) (q : Q (((List.range n).map fun (i : Nat) => g i).map .int)) : wpLc f (rangeD 0 n) [] Q := by
  have e : rangeD 0 n = (List.range n).map fun (i : Nat) => PyData.int (i : Int) := by
    unfold rangeD
    simp
  rw [e]
  refine wpLc_mapM (g := fun (i : Nat) => .int (g i)) (fun i hi k hk => ?_) ?_
  · exact h i (by omega) (by have := List.mem_range.mp hi; omega) k hk
  · rw [List.map_map] at q
    exact q
theorem toNat_nat {n : Nat} : (n : Int).toNat = n := by omega
theorem rangeD_len {lo : Int} {n : Nat} : (rangeD lo n).length = n := by simp [rangeD]
theorem bigs {n : Nat} (h : n ≤ 100000) : (-big ≤ (n : Int)) = True ∧ ((n : Int) ≤ big) = True := ⟨eq_true (by unfold big; omega), eq_true (by unfold big; omega)⟩
theorem big1 {i : Int} (h : -1000000000 ≤ i) : (-big ≤ i) = True := eq_true (by unfold big; omega)
theorem big2 {i : Int} (h : i ≤ 1000000000) : (i ≤ big) = True := eq_true (by unfold big; omega)
/-- check_sky(value); slots: value -/
def b_check_sky_0 : Ss := .cons (.ifs (.inot (.call .is_sky (.cons (.var 0) (.nil)))) (.cons (.raise .sky) <| .nil) .nil) .nil
def b_check_sky : Ss := b_check_sky_0
/-- check_body(sky, value); slots: sky value -/
def b_check_body_0 : Ss := .cons (.ifs (.inot (.call .is_int (.cons (.var 1) (.cons (.ci 0) (.cons (.bin .sub (.bi .len (.cons (.ix (.var 0) (.ci 1)) (.nil))) (.ci 1)) (.nil)))))) (.cons (.raise .bodies) <| .nil) .nil) .nil
def b_check_body : Ss := b_check_body_0
/-- check_day(value); slots: value -/
def b_check_day_0 : Ss := .cons (.ifs (.inot (.call .is_int (.cons (.var 0) (.cons (.ci 0) (.cons (.gc .day) (.nil)))))) (.cons (.raise .day) <| .nil) .nil) .nil
def b_check_day : Ss := b_check_day_0
/-- place_of(sky, body, day); slots: sky body day start rate -/
def b_place_of_1 : Ss := .cons (.ret (.bin .mod (.bin .add (.var 3) (.bin .mul (.var 2) (.var 4))) (.ix (.var 0) (.ci 0)))) .nil
def b_place_of_0 : Ss := .cons (.asgT [3, 4] (.ix (.ix (.var 0) (.ci 1)) (.var 1))) b_place_of_1
def b_place_of : Ss := b_place_of_0
/-- place(sky, body, day); slots: sky body day -/
def b_place_3 : Ss := .cons (.ret (.call .place_of (.cons (.var 0) (.cons (.var 1) (.cons (.var 2) (.nil)))))) .nil
def b_place_2 : Ss := .cons (.expr (.call .check_day (.cons (.var 2) (.nil)))) b_place_3
def b_place_1 : Ss := .cons (.expr (.call .check_body (.cons (.var 0) (.cons (.var 1) (.nil))))) b_place_2
def b_place_0 : Ss := .cons (.expr (.call .check_sky (.cons (.var 0) (.nil)))) b_place_1
def b_place : Ss := b_place_0
/-- places(sky, day); slots: sky day body -/
def b_places_2 : Ss := .cons (.ret (.lc [2] (.rg1 (.bi .len (.cons (.ix (.var 0) (.ci 1)) (.nil)))) .none (.call .place_of (.cons (.var 0) (.cons (.var 2) (.cons (.var 1) (.nil))))))) .nil
def b_places_1 : Ss := .cons (.expr (.call .check_day (.cons (.var 1) (.nil)))) b_places_2
def b_places_0 : Ss := .cons (.expr (.call .check_sky (.cons (.var 0) (.nil)))) b_places_1
def b_places : Ss := b_places_0
/-- ahead(sky, one, other, day); slots: sky one other day -/
def b_ahead_4 : Ss := .cons (.ret (.bin .mod (.bin .sub (.call .place_of (.cons (.var 0) (.cons (.var 2) (.cons (.var 3) (.nil))))) (.call .place_of (.cons (.var 0) (.cons (.var 1) (.cons (.var 3) (.nil)))))) (.ix (.var 0) (.ci 0)))) .nil
def b_ahead_3 : Ss := .cons (.expr (.call .check_day (.cons (.var 3) (.nil)))) b_ahead_4
def b_ahead_2 : Ss := .cons (.expr (.call .check_body (.cons (.var 0) (.cons (.var 2) (.nil))))) b_ahead_3
def b_ahead_1 : Ss := .cons (.expr (.call .check_body (.cons (.var 0) (.cons (.var 1) (.nil))))) b_ahead_2
def b_ahead_0 : Ss := .cons (.expr (.call .check_sky (.cons (.var 0) (.nil)))) b_ahead_1
def b_ahead : Ss := b_ahead_0
/-- distance(sky, one, other, day); slots: sky one other day gap -/
def b_distance_1 : Ss := .cons (.ret (.bi .min (.cons (.var 4) (.cons (.bin .sub (.ix (.var 0) (.ci 0)) (.var 4)) (.nil))))) .nil
def b_distance_0 : Ss := .cons (.asg false 4 (.call .ahead (.cons (.var 0) (.cons (.var 1) (.cons (.var 2) (.cons (.var 3) (.nil))))))) b_distance_1
def b_distance : Ss := b_distance_0
/-- _law_pick(draws, choices); slots: draws choices -/
def b_law_pick_0 : Ss := .cons (.ret (.ix (.var 1) (.call .ldraw (.cons (.var 0) (.cons (.bi .len (.cons (.var 1) (.nil))) (.nil)))))) .nil
def b_law_pick : Ss := b_law_pick_0
/-- _law_sky(draws, most, many); slots: draws most many units bodies k -/
def b_law_sky_2l_0 : Ss := .cons (.app 4 (.tup (.cons (.call .ldraw (.cons (.var 0) (.cons (.var 3) (.nil)))) (.cons (.call .ldraw (.cons (.var 0) (.cons (.var 3) (.nil)))) (.nil))))) .nil
def b_law_sky_4 : Ss := .cons (.ret (.tup (.cons (.var 3) (.cons (.var 4) (.nil))))) .nil
def b_law_sky_3 : Ss := .cons (.shut 4) b_law_sky_4
def b_law_sky_2 : Ss := .cons (.fors [5] (.rg1 (.bin .add (.ci 1) (.call .ldraw (.cons (.var 0) (.cons (.var 2) (.nil)))))) b_law_sky_2l_0) b_law_sky_3
def b_law_sky_1 : Ss := .cons (.own 4 (.lst .nil)) b_law_sky_2
def b_law_sky_0 : Ss := .cons (.asg false 3 (.bin .add (.ci 2) (.call .ldraw (.cons (.var 0) (.cons (.bin .sub (.var 1) (.ci 1)) (.nil)))))) b_law_sky_1
def b_law_sky : Ss := b_law_sky_0
/-- _law_at(sky, body, day); slots: sky body day -/
def b_law_at_0 : Ss := .cons (.ret (.bin .mod (.bin .add (.ix (.ix (.ix (.var 0) (.ci 1)) (.var 1)) (.ci 0)) (.bin .mul (.ix (.ix (.ix (.var 0) (.ci 1)) (.var 1)) (.ci 1)) (.var 2))) (.ix (.var 0) (.ci 0)))) .nil
def b_law_at : Ss := b_law_at_0
def sp_check_sky : Spec := fun ds Q X => ∃ (u : Int) (bs : List (Int × Int)), ds = [skyD u bs] ∧ (Sky u bs) ∧ (Q (.none))
theorem c_check_sky {u : Int} {bs : List (Int × Int)} {Q : D → Prop} {X : Exn → Prop} (h0 : Sky u bs) : sp_check_sky [skyD u bs] Q X = (Q (.none)) := by
  simp only [eq_iff_iff]
  constructor
  · rintro ⟨u', bs', e, _, h⟩
    simp only [List.cons.injEq, PyData.int.injEq, PyData.bool.injEq, skyD_eq, intsD_eq, pairsD_eq, pairD_eq, and_true, true_and] at e
    obtain ⟨rfl, rfl⟩ := e
    exact h
  · exact fun h => ⟨u, bs, rfl, h0, h⟩
theorem r_check_sky {T : Fn → Spec} (t_is_sky : T .is_sky = sp_is_sky) {ds : List D} {Q : D → Prop} {X : Exn → Prop} (h : sp_check_sky ds Q X) : ds.length = 1 ∧ runs T 1 b_check_sky ds Q X := by
  obtain ⟨u, bs, rfl, hs, hQ⟩ := h
  refine ⟨rfl, ?_⟩
  have e1 : okD 6 (skyD u bs) = true := okD_sky
  have e2 : isSky (skyD u bs) = true := sky_is hs
  try simp (maxSteps := 2000000) (disch := first | assumption | omega) only [runs, start, wpSs, wpS, wpE, wpEs, wpB, wpO, wpC, wpI, getS, setS, blank, blank1, List.map_cons, List.map_nil, List.length_cons, List.length_nil, List.cons_append, List.nil_append, List.replicate, Nat.sub_self, asBool_b, asInt_i, asList_l, asTup_t, must_s, cop_lt, cop_le, cop_gt, cop_ge, bop_add, bop_sub, bop_mod, bop_fdiv, bop_mul, ixOp_t0, ixOp_t1, ixOp_l, bsem_lenl, bsem_lent, gcv_u, gcv_d, isiD_i, isiD_b, isTok_i, isTok_b, isTok_n, isTok_t, isTok_l, isTok_s, and_true, true_and, if_true, if_false, Bool.false_eq_true, Bool.true_eq_false, Bool.not_true, Bool.not_false, Bool.not_not, noList_i, noList_b, noList_n, noList_t, plain_n, plain_c, lenlim, bindT_1, bindT_2, Nat.reduceAdd, Nat.reduceSub, isNon_n, isNon_i, isNon_b, isNon_t, isNon_l, isNon_s, ite_self, not_true_eq_false, not_false_eq_true, implies_true, false_and, and_false, decide_true, decide_false, decide_not, ixOp_s0, ixOp_s1, ixOp_p, ixOp_p0, ixOp_p1, ixOp_i, bsem_lenp, bsem_leni, bindT_p, isTok_sky, isTok_ps, isTok_is, isTok_p, noList_p, asList_p, asList_il, cop_eqi, cop_nei, bsem_max2, bsem_min2, ge0, c_is_int_i, toNat_nat, rangeD_len, eq_self, cop_eqil, cop_neil, cop_eqps, cop_neps, cop_eqp, cop_nep, Bool.and_true, Bool.true_and, big1, big2, t_is_sky, c_is_sky, b_check_sky, b_check_sky_0, e2]
  exact hQ
def sp_check_body : Spec := fun ds Q X => ∃ (u : Int) (bs : List (Int × Int)) (b : Int), ds = [skyD u bs, .int b] ∧ (Sky u bs) ∧ (0 ≤ b) ∧ (b < bs.length) ∧ (Q (.none))
theorem c_check_body {u : Int} {bs : List (Int × Int)} {b : Int} {Q : D → Prop} {X : Exn → Prop} (h0 : Sky u bs) (h1 : 0 ≤ b) (h2 : b < bs.length) : sp_check_body [skyD u bs, .int b] Q X = (Q (.none)) := by
  simp only [eq_iff_iff]
  constructor
  · rintro ⟨u', bs', b', e, _, _, _, h⟩
    simp only [List.cons.injEq, PyData.int.injEq, PyData.bool.injEq, skyD_eq, intsD_eq, pairsD_eq, pairD_eq, and_true, true_and] at e
    obtain ⟨⟨rfl, rfl⟩, rfl⟩ := e
    exact h
  · exact fun h => ⟨u, bs, b, rfl, h0, h1, h2, h⟩
theorem r_check_body {T : Fn → Spec} (t_is_int : T .is_int = sp_is_int) {ds : List D} {Q : D → Prop} {X : Exn → Prop} (h : sp_check_body ds Q X) : ds.length = 2 ∧ runs T 2 b_check_body ds Q X := by
  obtain ⟨u, bs, b, rfl, hs, h1, h2, hQ⟩ := h
  refine ⟨rfl, ?_⟩
  have e2 : isInt (.int b) 0 ((bs.length : Int) - 1) = true := isInt_iff.mpr ⟨b, rfl, h1, by omega⟩
  try simp (maxSteps := 2000000) (disch := first | assumption | omega) only [runs, start, wpSs, wpS, wpE, wpEs, wpB, wpO, wpC, wpI, getS, setS, blank, blank1, List.map_cons, List.map_nil, List.length_cons, List.length_nil, List.cons_append, List.nil_append, List.replicate, Nat.sub_self, asBool_b, asInt_i, asList_l, asTup_t, must_s, cop_lt, cop_le, cop_gt, cop_ge, bop_add, bop_sub, bop_mod, bop_fdiv, bop_mul, ixOp_t0, ixOp_t1, ixOp_l, bsem_lenl, bsem_lent, gcv_u, gcv_d, isiD_i, isiD_b, isTok_i, isTok_b, isTok_n, isTok_t, isTok_l, isTok_s, and_true, true_and, if_true, if_false, Bool.false_eq_true, Bool.true_eq_false, Bool.not_true, Bool.not_false, Bool.not_not, noList_i, noList_b, noList_n, noList_t, plain_n, plain_c, lenlim, bindT_1, bindT_2, Nat.reduceAdd, Nat.reduceSub, isNon_n, isNon_i, isNon_b, isNon_t, isNon_l, isNon_s, ite_self, not_true_eq_false, not_false_eq_true, implies_true, false_and, and_false, decide_true, decide_false, decide_not, ixOp_s0, ixOp_s1, ixOp_p, ixOp_p0, ixOp_p1, ixOp_i, bsem_lenp, bsem_leni, bindT_p, isTok_sky, isTok_ps, isTok_is, isTok_p, noList_p, asList_p, asList_il, cop_eqi, cop_nei, bsem_max2, bsem_min2, ge0, c_is_int_i, toNat_nat, rangeD_len, eq_self, cop_eqil, cop_neil, cop_eqps, cop_neps, cop_eqp, cop_nep, Bool.and_true, Bool.true_and, big1, big2, t_is_int, c_is_int, b_check_body, b_check_body_0, e2]
  exact hQ
def sp_check_day : Spec := fun ds Q X => ∃ (d : Int), ds = [.int d] ∧ (0 ≤ d) ∧ (d ≤ 1000000) ∧ (Q (.none))
theorem c_check_day {d : Int} {Q : D → Prop} {X : Exn → Prop} (h0 : 0 ≤ d) (h1 : d ≤ 1000000) : sp_check_day [.int d] Q X = (Q (.none)) := by
  simp only [eq_iff_iff]
  constructor
  · rintro ⟨d', e, _, _, h⟩
    simp only [List.cons.injEq, PyData.int.injEq, PyData.bool.injEq, skyD_eq, intsD_eq, pairsD_eq, pairD_eq, and_true, true_and] at e
    subst e
    exact h
  · exact fun h => ⟨d, rfl, h0, h1, h⟩
theorem r_check_day {T : Fn → Spec} (t_is_int : T .is_int = sp_is_int) {ds : List D} {Q : D → Prop} {X : Exn → Prop} (h : sp_check_day ds Q X) : ds.length = 1 ∧ runs T 1 b_check_day ds Q X := by
  obtain ⟨d, rfl, h1, h2, hQ⟩ := h
  refine ⟨rfl, ?_⟩
  have e2 : isInt (.int d) 0 1000000 = true := isInt_iff.mpr ⟨d, rfl, h1, h2⟩
  try simp (maxSteps := 2000000) (disch := first | assumption | omega) only [runs, start, wpSs, wpS, wpE, wpEs, wpB, wpO, wpC, wpI, getS, setS, blank, blank1, List.map_cons, List.map_nil, List.length_cons, List.length_nil, List.cons_append, List.nil_append, List.replicate, Nat.sub_self, asBool_b, asInt_i, asList_l, asTup_t, must_s, cop_lt, cop_le, cop_gt, cop_ge, bop_add, bop_sub, bop_mod, bop_fdiv, bop_mul, ixOp_t0, ixOp_t1, ixOp_l, bsem_lenl, bsem_lent, gcv_u, gcv_d, isiD_i, isiD_b, isTok_i, isTok_b, isTok_n, isTok_t, isTok_l, isTok_s, and_true, true_and, if_true, if_false, Bool.false_eq_true, Bool.true_eq_false, Bool.not_true, Bool.not_false, Bool.not_not, noList_i, noList_b, noList_n, noList_t, plain_n, plain_c, lenlim, bindT_1, bindT_2, Nat.reduceAdd, Nat.reduceSub, isNon_n, isNon_i, isNon_b, isNon_t, isNon_l, isNon_s, ite_self, not_true_eq_false, not_false_eq_true, implies_true, false_and, and_false, decide_true, decide_false, decide_not, ixOp_s0, ixOp_s1, ixOp_p, ixOp_p0, ixOp_p1, ixOp_i, bsem_lenp, bsem_leni, bindT_p, isTok_sky, isTok_ps, isTok_is, isTok_p, noList_p, asList_p, asList_il, cop_eqi, cop_nei, bsem_max2, bsem_min2, ge0, c_is_int_i, toNat_nat, rangeD_len, eq_self, cop_eqil, cop_neil, cop_eqps, cop_neps, cop_eqp, cop_nep, Bool.and_true, Bool.true_and, big1, big2, t_is_int, c_is_int, b_check_day, b_check_day_0, e2]
  exact hQ
def plc (u : Int) (bs : List (Int × Int)) (b d : Int) : Int := ((bd bs b).1 + d * (bd bs b).2) % u
def way (bs : List (Int × Int)) (b d : Int) : Int := (bd bs b).1 + d * (bd bs b).2
def sp_place_of : Spec := fun ds Q X => ∃ (u : Int) (bs : List (Int × Int)) (b : Int) (d : Int), ds = [skyD u bs, .int b, .int d] ∧ (Sky u bs) ∧ (0 ≤ b) ∧ (b < bs.length) ∧ (-1000 ≤ d) ∧ (d ≤ 10000000) ∧ (Q (.int (plc u bs b d)))
theorem c_place_of {u : Int} {bs : List (Int × Int)} {b : Int} {d : Int} {Q : D → Prop} {X : Exn → Prop} (h0 : Sky u bs) (h1 : 0 ≤ b) (h2 : b < bs.length) (h3 : -1000 ≤ d) (h4 : d ≤ 10000000) : sp_place_of [skyD u bs, .int b, .int d] Q X = (Q (.int (plc u bs b d))) := by
  simp only [eq_iff_iff]
  constructor
  · rintro ⟨u', bs', b', d', e, _, _, _, _, _, h⟩
    simp only [List.cons.injEq, PyData.int.injEq, PyData.bool.injEq, skyD_eq, intsD_eq, pairsD_eq, pairD_eq, and_true, true_and] at e
    obtain ⟨⟨rfl, rfl⟩, rfl, rfl⟩ := e
    exact h
  · exact fun h => ⟨u, bs, b, d, rfl, h0, h1, h2, h3, h4, h⟩
theorem r_place_of {T : Fn → Spec}  {ds : List D} {Q : D → Prop} {X : Exn → Prop} (h : sp_place_of ds Q X) : ds.length = 3 ∧ runs T 5 b_place_of ds Q X := by
  obtain ⟨u, bs, b, d, rfl, hs, h1, h2, h3, h4, hQ⟩ := h
  refine ⟨rfl, ?_⟩
  have hu := hs.pos
  try simp (maxSteps := 2000000) (disch := first | assumption | omega) only [runs, start, wpSs, wpS, wpE, wpEs, wpB, wpO, wpC, wpI, getS, setS, blank, blank1, List.map_cons, List.map_nil, List.length_cons, List.length_nil, List.cons_append, List.nil_append, List.replicate, Nat.sub_self, asBool_b, asInt_i, asList_l, asTup_t, must_s, cop_lt, cop_le, cop_gt, cop_ge, bop_add, bop_sub, bop_mod, bop_fdiv, bop_mul, ixOp_t0, ixOp_t1, ixOp_l, bsem_lenl, bsem_lent, gcv_u, gcv_d, isiD_i, isiD_b, isTok_i, isTok_b, isTok_n, isTok_t, isTok_l, isTok_s, and_true, true_and, if_true, if_false, Bool.false_eq_true, Bool.true_eq_false, Bool.not_true, Bool.not_false, Bool.not_not, noList_i, noList_b, noList_n, noList_t, plain_n, plain_c, lenlim, bindT_1, bindT_2, Nat.reduceAdd, Nat.reduceSub, isNon_n, isNon_i, isNon_b, isNon_t, isNon_l, isNon_s, ite_self, not_true_eq_false, not_false_eq_true, implies_true, false_and, and_false, decide_true, decide_false, decide_not, ixOp_s0, ixOp_s1, ixOp_p, ixOp_p0, ixOp_p1, ixOp_i, bsem_lenp, bsem_leni, bindT_p, isTok_sky, isTok_ps, isTok_is, isTok_p, noList_p, asList_p, asList_il, cop_eqi, cop_nei, bsem_max2, bsem_min2, ge0, c_is_int_i, toNat_nat, rangeD_len, eq_self, cop_eqil, cop_neil, cop_eqps, cop_neps, cop_eqp, cop_nep, Bool.and_true, Bool.true_and, big1, big2, b_place_of, b_place_of_0, b_place_of_1]
  exact hQ
def sp_place : Spec := fun ds Q X => ∃ (u : Int) (bs : List (Int × Int)) (b : Int) (d : Int), ds = [skyD u bs, .int b, .int d] ∧ (Sky u bs) ∧ (0 ≤ b) ∧ (b < bs.length) ∧ (0 ≤ d) ∧ (d ≤ 1000000) ∧ (Q (.int (plc u bs b d)))
theorem c_place {u : Int} {bs : List (Int × Int)} {b : Int} {d : Int} {Q : D → Prop} {X : Exn → Prop} (h0 : Sky u bs) (h1 : 0 ≤ b) (h2 : b < bs.length) (h3 : 0 ≤ d) (h4 : d ≤ 1000000) : sp_place [skyD u bs, .int b, .int d] Q X = (Q (.int (plc u bs b d))) := by
  simp only [eq_iff_iff]
  constructor
  · rintro ⟨u', bs', b', d', e, _, _, _, _, _, h⟩
    simp only [List.cons.injEq, PyData.int.injEq, PyData.bool.injEq, skyD_eq, intsD_eq, pairsD_eq, pairD_eq, and_true, true_and] at e
    obtain ⟨⟨rfl, rfl⟩, rfl, rfl⟩ := e
    exact h
  · exact fun h => ⟨u, bs, b, d, rfl, h0, h1, h2, h3, h4, h⟩
theorem r_place {T : Fn → Spec} (t_check_sky : T .check_sky = sp_check_sky) (t_check_body : T .check_body = sp_check_body) (t_check_day : T .check_day = sp_check_day) (t_place_of : T .place_of = sp_place_of) {ds : List D} {Q : D → Prop} {X : Exn → Prop} (h : sp_place ds Q X) : ds.length = 3 ∧ runs T 3 b_place ds Q X := by
  obtain ⟨u, bs, b, d, rfl, hs, h1, h2, h3, h4, hQ⟩ := h
  refine ⟨rfl, ?_⟩
  try simp (maxSteps := 2000000) (disch := first | assumption | omega) only [runs, start, wpSs, wpS, wpE, wpEs, wpB, wpO, wpC, wpI, getS, setS, blank, blank1, List.map_cons, List.map_nil, List.length_cons, List.length_nil, List.cons_append, List.nil_append, List.replicate, Nat.sub_self, asBool_b, asInt_i, asList_l, asTup_t, must_s, cop_lt, cop_le, cop_gt, cop_ge, bop_add, bop_sub, bop_mod, bop_fdiv, bop_mul, ixOp_t0, ixOp_t1, ixOp_l, bsem_lenl, bsem_lent, gcv_u, gcv_d, isiD_i, isiD_b, isTok_i, isTok_b, isTok_n, isTok_t, isTok_l, isTok_s, and_true, true_and, if_true, if_false, Bool.false_eq_true, Bool.true_eq_false, Bool.not_true, Bool.not_false, Bool.not_not, noList_i, noList_b, noList_n, noList_t, plain_n, plain_c, lenlim, bindT_1, bindT_2, Nat.reduceAdd, Nat.reduceSub, isNon_n, isNon_i, isNon_b, isNon_t, isNon_l, isNon_s, ite_self, not_true_eq_false, not_false_eq_true, implies_true, false_and, and_false, decide_true, decide_false, decide_not, ixOp_s0, ixOp_s1, ixOp_p, ixOp_p0, ixOp_p1, ixOp_i, bsem_lenp, bsem_leni, bindT_p, isTok_sky, isTok_ps, isTok_is, isTok_p, noList_p, asList_p, asList_il, cop_eqi, cop_nei, bsem_max2, bsem_min2, ge0, c_is_int_i, toNat_nat, rangeD_len, eq_self, cop_eqil, cop_neil, cop_eqps, cop_neps, cop_eqp, cop_nep, Bool.and_true, Bool.true_and, big1, big2, t_check_sky, c_check_sky, t_check_body, c_check_body, t_check_day, c_check_day, t_place_of, c_place_of, b_place, b_place_0, b_place_1, b_place_2, b_place_3]
  exact hQ
def plcs (u : Int) (bs : List (Int × Int)) (d : Int) : List Int := (List.range bs.length).map fun (i : Nat) => plc u bs i d
def sp_places : Spec := fun ds Q X => ∃ (u : Int) (bs : List (Int × Int)) (d : Int), ds = [skyD u bs, .int d] ∧ (Sky u bs) ∧ (0 ≤ d) ∧ (d ≤ 1000000) ∧ (Q (intsD (plcs u bs d)))
theorem c_places {u : Int} {bs : List (Int × Int)} {d : Int} {Q : D → Prop} {X : Exn → Prop} (h0 : Sky u bs) (h1 : 0 ≤ d) (h2 : d ≤ 1000000) : sp_places [skyD u bs, .int d] Q X = (Q (intsD (plcs u bs d))) := by
  simp only [eq_iff_iff]
  constructor
  · rintro ⟨u', bs', d', e, _, _, _, h⟩
    simp only [List.cons.injEq, PyData.int.injEq, PyData.bool.injEq, skyD_eq, intsD_eq, pairsD_eq, pairD_eq, and_true, true_and] at e
    obtain ⟨⟨rfl, rfl⟩, rfl⟩ := e
    exact h
  · exact fun h => ⟨u, bs, d, rfl, h0, h1, h2, h⟩
theorem r_places {T : Fn → Spec} (t_check_sky : T .check_sky = sp_check_sky) (t_check_day : T .check_day = sp_check_day) (t_place_of : T .place_of = sp_place_of) {ds : List D} {Q : D → Prop} {X : Exn → Prop} (h : sp_places ds Q X) : ds.length = 2 ∧ runs T 3 b_places ds Q X := by
  obtain ⟨u, bs, d, rfl, hs, h1, h2, hQ⟩ := h
  refine ⟨rfl, ?_⟩
  have hn := hs.n4
  try simp (maxSteps := 2000000) (disch := first | assumption | omega) only [runs, start, wpSs, wpS, wpE, wpEs, wpB, wpO, wpC, wpI, getS, setS, blank, blank1, List.map_cons, List.map_nil, List.length_cons, List.length_nil, List.cons_append, List.nil_append, List.replicate, Nat.sub_self, asBool_b, asInt_i, asList_l, asTup_t, must_s, cop_lt, cop_le, cop_gt, cop_ge, bop_add, bop_sub, bop_mod, bop_fdiv, bop_mul, ixOp_t0, ixOp_t1, ixOp_l, bsem_lenl, bsem_lent, gcv_u, gcv_d, isiD_i, isiD_b, isTok_i, isTok_b, isTok_n, isTok_t, isTok_l, isTok_s, and_true, true_and, if_true, if_false, Bool.false_eq_true, Bool.true_eq_false, Bool.not_true, Bool.not_false, Bool.not_not, noList_i, noList_b, noList_n, noList_t, plain_n, plain_c, lenlim, bindT_1, bindT_2, Nat.reduceAdd, Nat.reduceSub, isNon_n, isNon_i, isNon_b, isNon_t, isNon_l, isNon_s, ite_self, not_true_eq_false, not_false_eq_true, implies_true, false_and, and_false, decide_true, decide_false, decide_not, ixOp_s0, ixOp_s1, ixOp_p, ixOp_p0, ixOp_p1, ixOp_i, bsem_lenp, bsem_leni, bindT_p, isTok_sky, isTok_ps, isTok_is, isTok_p, noList_p, asList_p, asList_il, cop_eqi, cop_nei, bsem_max2, bsem_min2, ge0, c_is_int_i, toNat_nat, rangeD_len, eq_self, cop_eqil, cop_neil, cop_eqps, cop_neps, cop_eqp, cop_nep, Bool.and_true, Bool.true_and, big1, big2, t_check_sky, c_check_sky, t_check_day, c_check_day, t_place_of, c_place_of, b_places, b_places_0, b_places_1, b_places_2]
  refine lc_rgi (g := fun i => plc u bs i d) (fun i i0 i1 k hk => ?_) ?_
  · try simp (maxSteps := 2000000) (disch := first | assumption | omega) only [runs, start, wpSs, wpS, wpE, wpEs, wpB, wpO, wpC, wpI, getS, setS, blank, blank1, List.map_cons, List.map_nil, List.length_cons, List.length_nil, List.cons_append, List.nil_append, List.replicate, Nat.sub_self, asBool_b, asInt_i, asList_l, asTup_t, must_s, cop_lt, cop_le, cop_gt, cop_ge, bop_add, bop_sub, bop_mod, bop_fdiv, bop_mul, ixOp_t0, ixOp_t1, ixOp_l, bsem_lenl, bsem_lent, gcv_u, gcv_d, isiD_i, isiD_b, isTok_i, isTok_b, isTok_n, isTok_t, isTok_l, isTok_s, and_true, true_and, if_true, if_false, Bool.false_eq_true, Bool.true_eq_false, Bool.not_true, Bool.not_false, Bool.not_not, noList_i, noList_b, noList_n, noList_t, plain_n, plain_c, lenlim, bindT_1, bindT_2, Nat.reduceAdd, Nat.reduceSub, isNon_n, isNon_i, isNon_b, isNon_t, isNon_l, isNon_s, ite_self, not_true_eq_false, not_false_eq_true, implies_true, false_and, and_false, decide_true, decide_false, decide_not, ixOp_s0, ixOp_s1, ixOp_p, ixOp_p0, ixOp_p1, ixOp_i, bsem_lenp, bsem_leni, bindT_p, isTok_sky, isTok_ps, isTok_is, isTok_p, noList_p, asList_p, asList_il, cop_eqi, cop_nei, bsem_max2, bsem_min2, ge0, c_is_int_i, toNat_nat, rangeD_len, eq_self, cop_eqil, cop_neil, cop_eqps, cop_neps, cop_eqp, cop_nep, Bool.and_true, Bool.true_and, big1, big2, t_check_sky, c_check_sky, t_check_day, c_check_day, t_place_of, c_place_of]
    exact hk
  · exact hQ
def sp_ahead : Spec := fun ds Q X => ∃ (u : Int) (bs : List (Int × Int)) (b : Int) (c : Int) (d : Int), ds = [skyD u bs, .int b, .int c, .int d] ∧ (Sky u bs) ∧ (0 ≤ b) ∧ (b < bs.length) ∧ (0 ≤ c) ∧ (c < bs.length) ∧ (0 ≤ d) ∧ (d ≤ 1000000) ∧ (Q (.int ((plc u bs c d - plc u bs b d) % u)))
theorem c_ahead {u : Int} {bs : List (Int × Int)} {b : Int} {c : Int} {d : Int} {Q : D → Prop} {X : Exn → Prop} (h0 : Sky u bs) (h1 : 0 ≤ b) (h2 : b < bs.length) (h3 : 0 ≤ c) (h4 : c < bs.length) (h5 : 0 ≤ d) (h6 : d ≤ 1000000) : sp_ahead [skyD u bs, .int b, .int c, .int d] Q X = (Q (.int ((plc u bs c d - plc u bs b d) % u))) := by
  simp only [eq_iff_iff]
  constructor
  · rintro ⟨u', bs', b', c', d', e, _, _, _, _, _, _, _, h⟩
    simp only [List.cons.injEq, PyData.int.injEq, PyData.bool.injEq, skyD_eq, intsD_eq, pairsD_eq, pairD_eq, and_true, true_and] at e
    obtain ⟨⟨rfl, rfl⟩, rfl, rfl, rfl⟩ := e
    exact h
  · exact fun h => ⟨u, bs, b, c, d, rfl, h0, h1, h2, h3, h4, h5, h6, h⟩
theorem r_ahead {T : Fn → Spec} (t_check_sky : T .check_sky = sp_check_sky) (t_check_body : T .check_body = sp_check_body) (t_check_day : T .check_day = sp_check_day) (t_place_of : T .place_of = sp_place_of) {ds : List D} {Q : D → Prop} {X : Exn → Prop} (h : sp_ahead ds Q X) : ds.length = 4 ∧ runs T 4 b_ahead ds Q X := by
  obtain ⟨u, bs, b, c, d, rfl, hs, h1, h2, h3, h4, h5, h6, hQ⟩ := h
  refine ⟨rfl, ?_⟩
  have hu := hs.pos
  try simp (maxSteps := 2000000) (disch := first | assumption | omega) only [runs, start, wpSs, wpS, wpE, wpEs, wpB, wpO, wpC, wpI, getS, setS, blank, blank1, List.map_cons, List.map_nil, List.length_cons, List.length_nil, List.cons_append, List.nil_append, List.replicate, Nat.sub_self, asBool_b, asInt_i, asList_l, asTup_t, must_s, cop_lt, cop_le, cop_gt, cop_ge, bop_add, bop_sub, bop_mod, bop_fdiv, bop_mul, ixOp_t0, ixOp_t1, ixOp_l, bsem_lenl, bsem_lent, gcv_u, gcv_d, isiD_i, isiD_b, isTok_i, isTok_b, isTok_n, isTok_t, isTok_l, isTok_s, and_true, true_and, if_true, if_false, Bool.false_eq_true, Bool.true_eq_false, Bool.not_true, Bool.not_false, Bool.not_not, noList_i, noList_b, noList_n, noList_t, plain_n, plain_c, lenlim, bindT_1, bindT_2, Nat.reduceAdd, Nat.reduceSub, isNon_n, isNon_i, isNon_b, isNon_t, isNon_l, isNon_s, ite_self, not_true_eq_false, not_false_eq_true, implies_true, false_and, and_false, decide_true, decide_false, decide_not, ixOp_s0, ixOp_s1, ixOp_p, ixOp_p0, ixOp_p1, ixOp_i, bsem_lenp, bsem_leni, bindT_p, isTok_sky, isTok_ps, isTok_is, isTok_p, noList_p, asList_p, asList_il, cop_eqi, cop_nei, bsem_max2, bsem_min2, ge0, c_is_int_i, toNat_nat, rangeD_len, eq_self, cop_eqil, cop_neil, cop_eqps, cop_neps, cop_eqp, cop_nep, Bool.and_true, Bool.true_and, big1, big2, t_check_sky, c_check_sky, t_check_body, c_check_body, t_check_day, c_check_day, t_place_of, c_place_of, b_ahead, b_ahead_0, b_ahead_1, b_ahead_2, b_ahead_3, b_ahead_4]
  exact hQ
def sp_distance : Spec := fun ds Q X => ∃ (u : Int) (bs : List (Int × Int)) (b : Int) (c : Int) (d : Int), ds = [skyD u bs, .int b, .int c, .int d] ∧ (Sky u bs) ∧ (0 ≤ b) ∧ (b < bs.length) ∧ (0 ≤ c) ∧ (c < bs.length) ∧ (0 ≤ d) ∧ (d ≤ 1000000) ∧ (Q (.int (min ((plc u bs c d - plc u bs b d) % u) (u - (plc u bs c d - plc u bs b d) % u))))
theorem c_distance {u : Int} {bs : List (Int × Int)} {b : Int} {c : Int} {d : Int} {Q : D → Prop} {X : Exn → Prop} (h0 : Sky u bs) (h1 : 0 ≤ b) (h2 : b < bs.length) (h3 : 0 ≤ c) (h4 : c < bs.length) (h5 : 0 ≤ d) (h6 : d ≤ 1000000) : sp_distance [skyD u bs, .int b, .int c, .int d] Q X = (Q (.int (min ((plc u bs c d - plc u bs b d) % u) (u - (plc u bs c d - plc u bs b d) % u)))) := by
  simp only [eq_iff_iff]
  constructor
  · rintro ⟨u', bs', b', c', d', e, _, _, _, _, _, _, _, h⟩
    simp only [List.cons.injEq, PyData.int.injEq, PyData.bool.injEq, skyD_eq, intsD_eq, pairsD_eq, pairD_eq, and_true, true_and] at e
    obtain ⟨⟨rfl, rfl⟩, rfl, rfl, rfl⟩ := e
    exact h
  · exact fun h => ⟨u, bs, b, c, d, rfl, h0, h1, h2, h3, h4, h5, h6, h⟩
theorem r_distance {T : Fn → Spec} (t_ahead : T .ahead = sp_ahead) {ds : List D} {Q : D → Prop} {X : Exn → Prop} (h : sp_distance ds Q X) : ds.length = 4 ∧ runs T 5 b_distance ds Q X := by
  obtain ⟨u, bs, b, c, d, rfl, hs, h1, h2, h3, h4, h5, h6, hQ⟩ := h
  refine ⟨rfl, ?_⟩
  try simp (maxSteps := 2000000) (disch := first | assumption | omega) only [runs, start, wpSs, wpS, wpE, wpEs, wpB, wpO, wpC, wpI, getS, setS, blank, blank1, List.map_cons, List.map_nil, List.length_cons, List.length_nil, List.cons_append, List.nil_append, List.replicate, Nat.sub_self, asBool_b, asInt_i, asList_l, asTup_t, must_s, cop_lt, cop_le, cop_gt, cop_ge, bop_add, bop_sub, bop_mod, bop_fdiv, bop_mul, ixOp_t0, ixOp_t1, ixOp_l, bsem_lenl, bsem_lent, gcv_u, gcv_d, isiD_i, isiD_b, isTok_i, isTok_b, isTok_n, isTok_t, isTok_l, isTok_s, and_true, true_and, if_true, if_false, Bool.false_eq_true, Bool.true_eq_false, Bool.not_true, Bool.not_false, Bool.not_not, noList_i, noList_b, noList_n, noList_t, plain_n, plain_c, lenlim, bindT_1, bindT_2, Nat.reduceAdd, Nat.reduceSub, isNon_n, isNon_i, isNon_b, isNon_t, isNon_l, isNon_s, ite_self, not_true_eq_false, not_false_eq_true, implies_true, false_and, and_false, decide_true, decide_false, decide_not, ixOp_s0, ixOp_s1, ixOp_p, ixOp_p0, ixOp_p1, ixOp_i, bsem_lenp, bsem_leni, bindT_p, isTok_sky, isTok_ps, isTok_is, isTok_p, noList_p, asList_p, asList_il, cop_eqi, cop_nei, bsem_max2, bsem_min2, ge0, c_is_int_i, toNat_nat, rangeD_len, eq_self, cop_eqil, cop_neil, cop_eqps, cop_neps, cop_eqp, cop_nep, Bool.and_true, Bool.true_and, big1, big2, t_ahead, c_ahead, b_distance, b_distance_0, b_distance_1]
  exact hQ
def sp_lat : Spec := fun ds Q X => ∃ (u : Int) (bs : List (Int × Int)) (b : Int) (d : Int), ds = [skyD u bs, .int b, .int d] ∧ (Sky u bs) ∧ (0 ≤ b) ∧ (b < bs.length) ∧ (-1000 ≤ d) ∧ (d ≤ 10000000) ∧ (Q (.int (plc u bs b d)))
theorem c_lat {u : Int} {bs : List (Int × Int)} {b : Int} {d : Int} {Q : D → Prop} {X : Exn → Prop} (h0 : Sky u bs) (h1 : 0 ≤ b) (h2 : b < bs.length) (h3 : -1000 ≤ d) (h4 : d ≤ 10000000) : sp_lat [skyD u bs, .int b, .int d] Q X = (Q (.int (plc u bs b d))) := by
  simp only [eq_iff_iff]
  constructor
  · rintro ⟨u', bs', b', d', e, _, _, _, _, _, h⟩
    simp only [List.cons.injEq, PyData.int.injEq, PyData.bool.injEq, skyD_eq, intsD_eq, pairsD_eq, pairD_eq, and_true, true_and] at e
    obtain ⟨⟨rfl, rfl⟩, rfl, rfl⟩ := e
    exact h
  · exact fun h => ⟨u, bs, b, d, rfl, h0, h1, h2, h3, h4, h⟩
theorem r_lat {T : Fn → Spec}  {ds : List D} {Q : D → Prop} {X : Exn → Prop} (h : sp_lat ds Q X) : ds.length = 3 ∧ runs T 3 b_law_at ds Q X := by
  obtain ⟨u, bs, b, d, rfl, hs, h1, h2, h3, h4, hQ⟩ := h
  refine ⟨rfl, ?_⟩
  have hu := hs.pos
  have := hs.at h1 h2
  have := hs.hi
  try simp (maxSteps := 2000000) (disch := first | assumption | omega) only [runs, start, wpSs, wpS, wpE, wpEs, wpB, wpO, wpC, wpI, getS, setS, blank, blank1, List.map_cons, List.map_nil, List.length_cons, List.length_nil, List.cons_append, List.nil_append, List.replicate, Nat.sub_self, asBool_b, asInt_i, asList_l, asTup_t, must_s, cop_lt, cop_le, cop_gt, cop_ge, bop_add, bop_sub, bop_mod, bop_fdiv, bop_mul, ixOp_t0, ixOp_t1, ixOp_l, bsem_lenl, bsem_lent, gcv_u, gcv_d, isiD_i, isiD_b, isTok_i, isTok_b, isTok_n, isTok_t, isTok_l, isTok_s, and_true, true_and, if_true, if_false, Bool.false_eq_true, Bool.true_eq_false, Bool.not_true, Bool.not_false, Bool.not_not, noList_i, noList_b, noList_n, noList_t, plain_n, plain_c, lenlim, bindT_1, bindT_2, Nat.reduceAdd, Nat.reduceSub, isNon_n, isNon_i, isNon_b, isNon_t, isNon_l, isNon_s, ite_self, not_true_eq_false, not_false_eq_true, implies_true, false_and, and_false, decide_true, decide_false, decide_not, ixOp_s0, ixOp_s1, ixOp_p, ixOp_p0, ixOp_p1, ixOp_i, bsem_lenp, bsem_leni, bindT_p, isTok_sky, isTok_ps, isTok_is, isTok_p, noList_p, asList_p, asList_il, cop_eqi, cop_nei, bsem_max2, bsem_min2, ge0, c_is_int_i, toNat_nat, rangeD_len, eq_self, cop_eqil, cop_neil, cop_eqps, cop_neps, cop_eqp, cop_nep, Bool.and_true, Bool.true_and, big1, big2, b_law_at, b_law_at_0]
  unfold plc at hQ
  rw [Int.mul_comm]
  exact hQ
end Sk
set_option linter.all false
set_option maxRecDepth 10000
namespace Sk
open PySem

/-! loops -/
theorem for_rg {f : D → Ev → (Ev → Prop) → Prop} {n : Nat} {K : Ev → Prop} (I : Nat → Ev → Prop) {G : Ev} (h0 : I 0 G) (hs : ∀ i : Nat, i < n → ∀ G, I i G → ∀ k : Ev → Prop, (∀ G', I (i + 1) G' → k G') → f (.int i) G k) (hn : ∀ G, I n G → K G) : wpFor f (rangeD 0 n) G K := by
  have key : ∀ (m i : Nat) (G : Ev), i + m = n → I i G → wpFor f ((List.range m).map fun (j : Nat) => PyData.int ((i : Int) + j)) G K := by
    intro m
    induction m with
    | zero =>
      intro i G e h
      have : i = n := by omega
      subst this
      exact hn G h
    | succ m ih =>
      intro i G e h
      rw [List.range_succ_eq_map, List.map_cons, List.map_map]
      simp only [wpFor]
      have : (PyData.int ((i : Int) + (0 : Nat))) = .int i := by simp
      rw [this]
      refine hs i (by omega) G h _ fun G' h' => ?_
      have := ih (i + 1) G' (by omega) h'
      have e2 : (fun (j : Nat) => PyData.int ((i : Int) + j)) ∘ Nat.succ = fun (j : Nat) => PyData.int (((i + 1 : Nat) : Int) + j) := by
        funext j
        simp only [Function.comp]
        congr 1
        omega
      rw [e2]
      exact this
  have := key n 0 G (by omega) h0
  unfold rangeD
  exact this
/-- over a list of some kind -/
theorem for_map {α : Type} {e : α → D} {f : D → Ev → (Ev → Prop) → Prop} {xs : List α} {K : Ev → Prop} (I : Nat → Ev → Prop) {G : Ev} (h0 : I 0 G) (hs : ∀ (i : Nat) (h : i < xs.length), ∀ G, I i G → ∀ k : Ev → Prop, (∀ G', I (i + 1) G' → k G') → f (e (xs[i])) G k) (hn : ∀ G, I xs.length G → K G) : wpFor f (xs.map e) G K := by
  have key : ∀ (m i : Nat) (G : Ev), i + m = xs.length → I i G → wpFor f ((xs.drop i).map e) G K := by
    intro m
    induction m with
    | zero =>
      intro i G q h
      have : i = xs.length := by omega
      subst this
      rw [List.drop_length]
      exact hn G h
    | succ m ih =>
      intro i G q h
      have hi : i < xs.length := by omega
      rw [List.drop_eq_getElem_cons hi, List.map_cons]
      simp only [wpFor]
      exact hs i hi G h _ fun G' h' => ih (i + 1) G' (by omega) h'
  exact key xs.length 0 G (by omega) h0
theorem for_rg2 {f : D → Ev → (Ev → Prop) → Prop} {lo : Int} {n : Nat} {K : Ev → Prop} (I : Nat → Ev → Prop) {G : Ev} (h0 : I 0 G) (hs : ∀ i : Nat, i < n → ∀ G, I i G → ∀ k : Ev → Prop, (∀ G', I (i + 1) G' → k G') → f (.int (lo + i)) G k) (hn : ∀ G, I n G → K G) : wpFor f (rangeD lo n) G K := by
  unfold rangeD
  refine for_map I h0 (fun i hi G hG k hk => ?_) (fun G hG => hn G (by simpa using hG))
  rw [List.getElem_range]
  exact hs i (by simpa using hi) G hG k hk
theorem rangeD_map {lo : Int} {n : Nat} : rangeD lo n = (List.range n).map fun (j : Nat) => PyData.int (lo + j) := rfl
/-- a comprehension over range with a test -/
theorem lc_rgf {f : D → (Option D → Prop) → Prop} {p : Int → Bool} {g : Int → D} {Q : List D → Prop} {lo : Int} {n : Nat} (h : ∀ i : Int, lo ≤ i → i < lo + n → ∀ k : Option D → Prop, k (if p i = true then some (g i) else none) → f (.int i) k) (q : Q ((((List.range n).map fun (j : Nat) => lo + j).filter p).map g)) : wpLc f (rangeD lo n) [] Q := by
  rw [rangeD_eq]
  refine wpLc_filM (p := p) (g := g) (fun i hi k hk => ?_) q
  obtain ⟨j, hj, rfl⟩ := List.mem_map.mp hi
  have := List.mem_range.mp hj
  exact h _ (by omega) (by omega) k hk
theorem ite_k {c : Prop} [Decidable c] {k : Option D → Prop} {a b : Option D} (h : k (if c then a else b)) : if c then k a else k b := by
  split <;> simp_all
/-! index and max -/
def idx (l : List Int) (y : Int) : Int := ((l.findIdx? fun z => z == y).getD 0 : Nat)
theorem findIdx?_int {y : Int} : ∀ {l : List Int}, (l.map PyData.int).findIdx? (fun z => PyData.eqv z (.int y)) = l.findIdx? fun z => z == y := by
  intro l
  rw [List.findIdx?_map]
  congr 1
theorem msem_index {l : List Int} {y : Int} (h : y ∈ l) : msem .index (intsD l) [.int y] = some (.int (idx l y)) := by
  have o : (l.map PyData.int).all (okD 5) = true := by
    simp only [List.all_eq_true, List.mem_map]
    rintro x ⟨q, _, rfl⟩
    rfl
  obtain ⟨j, hj⟩ : ∃ j, l.findIdx? (fun z => z == y) = some j := by
    cases e : l.findIdx? fun z => z == y with
    | some j => exact ⟨j, rfl⟩
    | none =>
      rw [List.findIdx?_eq_none_iff] at e
      have := e y h
      simp at this
  have o2 : okD 5 (.int y) = true := rfl
  simp only [msem, intsD, o, o2, Bool.and_true, if_true, findIdx?_int, hj, idx, Option.map_some, Option.getD_some]
theorem mtTy_index {l : List Int} : mtTy .index (intsD l) = true := rfl
theorem bsem_maxl {l : List Int} (h : 0 < l.length) : bsem .max [intsD l] = some (.int (lmax l)) := by
  simp only [bsem, intsD, ints?_map, Option.bind_some]
  rw [if_neg (by omega)]
theorem bsem_minl {l : List Int} (h : 0 < l.length) : bsem .min [intsD l] = some (.int (lmin l)) := by
  simp only [bsem, intsD, ints?_map, Option.bind_some]
  rw [if_neg (by omega)]
theorem lmax_in {l : List Int} (h : 0 < l.length) : lmax l ∈ l := (lmax_spec l (List.length_pos_iff.mp h)).1
theorem cop_eqi0 {a : List Int} : cop .eq (intsD a) (.list []) = some (.bool (decide (a = []))) := cop_eqil (b := [])
theorem cop_nei0 {a : List Int} : cop .ne (intsD a) (.list []) = some (.bool (!decide (a = []))) := cop_neil (b := [])
theorem cop_eqp0 {a : List (Int × Int)} : cop .eq (pairsD a) (.list []) = some (.bool (decide (a = []))) := cop_eqps (b := [])
theorem cop_nep0 {a : List (Int × Int)} : cop .ne (pairsD a) (.list []) = some (.bool (!decide (a = []))) := cop_neps (b := [])
theorem bop_addps {a b : List (Int × Int)} (h : a.length + b.length ≤ 100000) : bop .add (pairsD a) (pairsD b) = some (pairsD (a ++ b)) := by
  simp only [bop, pairsD, List.length_map, List.map_append]
  rw [if_pos (show a.length + b.length ≤ lim from h)]
theorem bop_addis {a b : List Int} (h : a.length + b.length ≤ 100000) : bop .add (intsD a) (intsD b) = some (intsD (a ++ b)) := by
  simp only [bop, intsD, List.length_map, List.map_append]
  rw [if_pos (show a.length + b.length ≤ lim from h)]
def sp_ldraw : Spec := fun ds Q X => ∃ (lm : Int), ds = [.dict [], .int lm] ∧ (0 < lm) ∧ (lm ≤ 1000000000) ∧ (∀ r, 0 ≤ r → r < lm → Q (.int r))
theorem c_ldraw {lm : Int} {Q : D → Prop} {X : Exn → Prop} (h0 : 0 < lm) (h1 : lm ≤ 1000000000) : sp_ldraw [.dict [], .int lm] Q X = (∀ r, 0 ≤ r → r < lm → Q (.int r)) := by
  simp only [eq_iff_iff]
  constructor
  · rintro ⟨lm', e, _, _, h⟩
    simp only [List.cons.injEq, PyData.int.injEq, PyData.bool.injEq, skyD_eq, intsD_eq, pairsD_eq, pairD_eq, and_true, true_and] at e
    subst e
    exact h
  · exact fun h => ⟨lm, rfl, h0, h1, h⟩
/-- way_of(sky, body, day); slots: sky body day start rate -/
def b_way_of_1 : Ss := .cons (.ret (.bin .add (.var 3) (.bin .mul (.var 2) (.var 4)))) .nil
def b_way_of_0 : Ss := .cons (.asgT [3, 4] (.ix (.ix (.var 0) (.ci 1)) (.var 1))) b_way_of_1
def b_way_of : Ss := b_way_of_0
/-- rounds(sky, body, day); slots: sky body day -/
def b_rounds_3 : Ss := .cons (.ret (.bin .fdiv (.call .way_of (.cons (.var 0) (.cons (.var 1) (.cons (.var 2) (.nil))))) (.ix (.var 0) (.ci 0)))) .nil
def b_rounds_2 : Ss := .cons (.expr (.call .check_day (.cons (.var 2) (.nil)))) b_rounds_3
def b_rounds_1 : Ss := .cons (.expr (.call .check_body (.cons (.var 0) (.cons (.var 1) (.nil))))) b_rounds_2
def b_rounds_0 : Ss := .cons (.expr (.call .check_sky (.cons (.var 0) (.nil)))) b_rounds_1
def b_rounds : Ss := b_rounds_0
/-- laps_of(sky, one, other, day); slots: sky one other day -/
def b_laps_of_0 : Ss := .cons (.ret (.bin .fdiv (.bin .sub (.call .way_of (.cons (.var 0) (.cons (.var 1) (.cons (.var 3) (.nil))))) (.call .way_of (.cons (.var 0) (.cons (.var 2) (.cons (.var 3) (.nil)))))) (.ix (.var 0) (.ci 0)))) .nil
def b_laps_of : Ss := b_laps_of_0
/-- laps(sky, one, other, day); slots: sky one other day -/
def b_laps_4 : Ss := .cons (.ret (.call .laps_of (.cons (.var 0) (.cons (.var 1) (.cons (.var 2) (.cons (.var 3) (.nil))))))) .nil
def b_laps_3 : Ss := .cons (.expr (.call .check_day (.cons (.var 3) (.nil)))) b_laps_4
def b_laps_2 : Ss := .cons (.expr (.call .check_body (.cons (.var 0) (.cons (.var 2) (.nil))))) b_laps_3
def b_laps_1 : Ss := .cons (.expr (.call .check_body (.cons (.var 0) (.cons (.var 1) (.nil))))) b_laps_2
def b_laps_0 : Ss := .cons (.expr (.call .check_sky (.cons (.var 0) (.nil)))) b_laps_1
def b_laps : Ss := b_laps_0
/-- overtakings(sky, one, other, day); slots: sky one other day -/
def b_overtakings_4 : Ss := .cons (.ret (.bin .sub (.call .laps_of (.cons (.var 0) (.cons (.var 1) (.cons (.var 2) (.cons (.var 3) (.nil)))))) (.call .laps_of (.cons (.var 0) (.cons (.var 1) (.cons (.var 2) (.cons (.ci 0) (.nil)))))))) .nil
def b_overtakings_3 : Ss := .cons (.expr (.call .check_day (.cons (.var 3) (.nil)))) b_overtakings_4
def b_overtakings_2 : Ss := .cons (.expr (.call .check_body (.cons (.var 0) (.cons (.var 2) (.nil))))) b_overtakings_3
def b_overtakings_1 : Ss := .cons (.expr (.call .check_body (.cons (.var 0) (.cons (.var 1) (.nil))))) b_overtakings_2
def b_overtakings_0 : Ss := .cons (.expr (.call .check_sky (.cons (.var 0) (.nil)))) b_overtakings_1
def b_overtakings : Ss := b_overtakings_0
/-- overtaking_days(sky, one, other, many); slots: sky one other many faster found gap turn wanted -/
def b_overtaking_days_8l_1 : Ss := .cons (.app 5 (.neg (.bin .fdiv (.neg (.var 8)) (.var 4)))) .nil
def b_overtaking_days_8l_0 : Ss := .cons (.asg false 8 (.bin .sub (.bin .mul (.bin .add (.bin .add (.bin .fdiv (.var 6) (.ix (.var 0) (.ci 0))) (.ci 1)) (.var 7)) (.ix (.var 0) (.ci 0))) (.var 6))) b_overtaking_days_8l_1
def b_overtaking_days_10 : Ss := .cons (.ret (.var 5)) .nil
def b_overtaking_days_9 : Ss := .cons (.shut 5) b_overtaking_days_10
def b_overtaking_days_8 : Ss := .cons (.fors [7] (.rg1 (.bi .min (.cons (.var 3) (.cons (.ci 100) (.nil))))) b_overtaking_days_8l_0) b_overtaking_days_9
def b_overtaking_days_7 : Ss := .cons (.asg false 6 (.bin .sub (.ix (.ix (.ix (.var 0) (.ci 1)) (.var 1)) (.ci 0)) (.ix (.ix (.ix (.var 0) (.ci 1)) (.var 2)) (.ci 0)))) b_overtaking_days_8
def b_overtaking_days_6 : Ss := .cons (.own 5 (.lst .nil)) b_overtaking_days_7
def b_overtaking_days_5 : Ss := .cons (.ifs (.cmp .le (.var 4) (.ci 0)) (.cons (.ret (.lst .nil)) <| .nil) .nil) b_overtaking_days_6
def b_overtaking_days_4 : Ss := .cons (.asg false 4 (.bin .sub (.ix (.ix (.ix (.var 0) (.ci 1)) (.var 1)) (.ci 1)) (.ix (.ix (.ix (.var 0) (.ci 1)) (.var 2)) (.ci 1)))) b_overtaking_days_5
def b_overtaking_days_3 : Ss := .cons (.expr (.call .check_day (.cons (.var 3) (.nil)))) b_overtaking_days_4
def b_overtaking_days_2 : Ss := .cons (.expr (.call .check_body (.cons (.var 0) (.cons (.var 2) (.nil))))) b_overtaking_days_3
def b_overtaking_days_1 : Ss := .cons (.expr (.call .check_body (.cons (.var 0) (.cons (.var 1) (.nil))))) b_overtaking_days_2
def b_overtaking_days_0 : Ss := .cons (.expr (.call .check_sky (.cons (.var 0) (.nil)))) b_overtaking_days_1
def b_overtaking_days : Ss := b_overtaking_days_0
/-- leader(sky, day); slots: sky day ways body -/
def b_leader_3 : Ss := .cons (.ret (.mth .index (.var 2) (.cons (.bi .max (.cons (.var 2) (.nil))) (.nil)))) .nil
def b_leader_2 : Ss := .cons (.asg false 2 (.lc [3] (.rg1 (.bi .len (.cons (.ix (.var 0) (.ci 1)) (.nil)))) .none (.call .way_of (.cons (.var 0) (.cons (.var 3) (.cons (.var 1) (.nil))))))) b_leader_3
def b_leader_1 : Ss := .cons (.expr (.call .check_day (.cons (.var 1) (.nil)))) b_leader_2
def b_leader_0 : Ss := .cons (.expr (.call .check_sky (.cons (.var 0) (.nil)))) b_leader_1
def b_leader : Ss := b_leader_0
/-- same_place(sky, day); slots: sky day found one own far -/
def b_same_place_3l_1 : Ss := .cons (.iadd 2 (.lc [5] (.rg2 (.bin .add (.var 3) (.ci 1)) (.bi .len (.cons (.ix (.var 0) (.ci 1)) (.nil)))) (.some (.cmp .eq (.call .place_of (.cons (.var 0) (.cons (.var 5) (.cons (.var 1) (.nil))))) (.var 4))) (.tup (.cons (.var 3) (.cons (.var 5) (.nil)))))) .nil
def b_same_place_3l_0 : Ss := .cons (.asg false 4 (.call .place_of (.cons (.var 0) (.cons (.var 3) (.cons (.var 1) (.nil)))))) b_same_place_3l_1
def b_same_place_5 : Ss := .cons (.ret (.var 2)) .nil
def b_same_place_4 : Ss := .cons (.shut 2) b_same_place_5
def b_same_place_3 : Ss := .cons (.fors [3] (.rg1 (.bi .len (.cons (.ix (.var 0) (.ci 1)) (.nil)))) b_same_place_3l_0) b_same_place_4
def b_same_place_2 : Ss := .cons (.own 2 (.lst .nil)) b_same_place_3
def b_same_place_1 : Ss := .cons (.expr (.call .check_day (.cons (.var 1) (.nil)))) b_same_place_2
def b_same_place_0 : Ss := .cons (.expr (.call .check_sky (.cons (.var 0) (.nil)))) b_same_place_1
def b_same_place : Ss := b_same_place_0
def sp_lpick : Spec := fun ds Q X => ∃ (l : List Int), ds = [.dict [], intsD l] ∧ (0 < l.length) ∧ (l.length ≤ 1000000) ∧ (∀ r, r ∈ l → Q (.int r))
theorem c_lpick {l : List Int} {Q : D → Prop} {X : Exn → Prop} (h0 : 0 < l.length) (h1 : l.length ≤ 1000000) : sp_lpick [.dict [], intsD l] Q X = (∀ r, r ∈ l → Q (.int r)) := by
  simp only [eq_iff_iff]
  constructor
  · rintro ⟨l', e, _, _, h⟩
    simp only [List.cons.injEq, PyData.int.injEq, PyData.bool.injEq, skyD_eq, intsD_eq, pairsD_eq, pairD_eq, and_true, true_and] at e
    subst e
    exact h
  · exact fun h => ⟨l, rfl, h0, h1, h⟩
theorem nth_mem {l : List Int} {i : Int} (h0 : 0 ≤ i) (h1 : i < l.length) : nth l i ∈ l := by
  have : i.toNat < l.length := by omega
  unfold nth
  rw [List.getD_eq_getElem?_getD, List.getElem?_eq_getElem this]
  exact List.getElem_mem this
theorem c_lpick2 {a b : Int} {Q : D → Prop} {X : Exn → Prop} : sp_lpick [.dict [], .list [.int a, .int b]] Q X = ∀ r, r ∈ [a, b] → Q (.int r) := c_lpick (l := [a, b]) (by simp) (by simp)
theorem c_lpick3 {a b c : Int} {Q : D → Prop} {X : Exn → Prop} : sp_lpick [.dict [], .list [.int a, .int b, .int c]] Q X = ∀ r, r ∈ [a, b, c] → Q (.int r) := c_lpick (l := [a, b, c]) (by simp) (by simp)
theorem r_lpick {T : Fn → Spec} (t_ldraw : T .ldraw = sp_ldraw) {ds : List D} {Q : D → Prop} {X : Exn → Prop} (h : sp_lpick ds Q X) : ds.length = 2 ∧ runs T 2 b_law_pick ds Q X := by
  obtain ⟨l, rfl, h1, h2, hQ⟩ := h
  refine ⟨rfl, ?_⟩
  try simp (maxSteps := 2000000) (disch := first | assumption | omega) only [runs, start, wpSs, wpS, wpE, wpEs, wpB, wpO, wpC, wpI, getS, setS, blank, blank1, List.map_cons, List.map_nil, List.length_cons, List.length_nil, List.cons_append, List.nil_append, List.replicate, Nat.sub_self, asBool_b, asInt_i, asList_l, asTup_t, must_s, cop_lt, cop_le, cop_gt, cop_ge, bop_add, bop_sub, bop_mod, bop_fdiv, bop_mul, ixOp_t0, ixOp_t1, ixOp_l, bsem_lenl, bsem_lent, gcv_u, gcv_d, isiD_i, isiD_b, isTok_i, isTok_b, isTok_n, isTok_t, isTok_l, isTok_s, and_true, true_and, if_true, if_false, Bool.false_eq_true, Bool.true_eq_false, Bool.not_true, Bool.not_false, Bool.not_not, noList_i, noList_b, noList_n, noList_t, plain_n, plain_c, lenlim, bindT_1, bindT_2, Nat.reduceAdd, Nat.reduceSub, isNon_n, isNon_i, isNon_b, isNon_t, isNon_l, isNon_s, ite_self, not_true_eq_false, not_false_eq_true, implies_true, false_and, and_false, decide_true, decide_false, decide_not, ixOp_s0, ixOp_s1, ixOp_p, ixOp_p0, ixOp_p1, ixOp_i, bsem_lenp, bsem_leni, bindT_p, isTok_sky, isTok_ps, isTok_is, isTok_p, noList_p, asList_p, asList_il, cop_eqi, cop_nei, bsem_max2, bsem_min2, ge0, c_is_int_i, toNat_nat, rangeD_len, eq_self, cop_eqil, cop_neil, cop_eqps, cop_neps, cop_eqp, cop_nep, Bool.and_true, Bool.true_and, big1, big2, t_ldraw, c_ldraw, b_law_pick, b_law_pick_0]
  intro r r0 r1
  try simp (maxSteps := 2000000) (disch := first | assumption | omega) only [runs, start, wpSs, wpS, wpE, wpEs, wpB, wpO, wpC, wpI, getS, setS, blank, blank1, List.map_cons, List.map_nil, List.length_cons, List.length_nil, List.cons_append, List.nil_append, List.replicate, Nat.sub_self, asBool_b, asInt_i, asList_l, asTup_t, must_s, cop_lt, cop_le, cop_gt, cop_ge, bop_add, bop_sub, bop_mod, bop_fdiv, bop_mul, ixOp_t0, ixOp_t1, ixOp_l, bsem_lenl, bsem_lent, gcv_u, gcv_d, isiD_i, isiD_b, isTok_i, isTok_b, isTok_n, isTok_t, isTok_l, isTok_s, and_true, true_and, if_true, if_false, Bool.false_eq_true, Bool.true_eq_false, Bool.not_true, Bool.not_false, Bool.not_not, noList_i, noList_b, noList_n, noList_t, plain_n, plain_c, lenlim, bindT_1, bindT_2, Nat.reduceAdd, Nat.reduceSub, isNon_n, isNon_i, isNon_b, isNon_t, isNon_l, isNon_s, ite_self, not_true_eq_false, not_false_eq_true, implies_true, false_and, and_false, decide_true, decide_false, decide_not, ixOp_s0, ixOp_s1, ixOp_p, ixOp_p0, ixOp_p1, ixOp_i, bsem_lenp, bsem_leni, bindT_p, isTok_sky, isTok_ps, isTok_is, isTok_p, noList_p, asList_p, asList_il, cop_eqi, cop_nei, bsem_max2, bsem_min2, ge0, c_is_int_i, toNat_nat, rangeD_len, eq_self, cop_eqil, cop_neil, cop_eqps, cop_neps, cop_eqp, cop_nep, Bool.and_true, Bool.true_and, big1, big2, t_ldraw, c_ldraw]
  exact hQ _ (nth_mem r0 r1)
def sp_lsky : Spec := fun ds Q X => ∃ (m : Int) (n : Int), ds = [.dict [], .int m, .int n] ∧ (2 ≤ m) ∧ (m ≤ 120) ∧ (1 ≤ n) ∧ (n ≤ 4) ∧ (∀ u bs, Sky u bs → u ≤ m → bs.length ≤ n → Q (skyD u bs))
theorem c_lsky {m : Int} {n : Int} {Q : D → Prop} {X : Exn → Prop} (h0 : 2 ≤ m) (h1 : m ≤ 120) (h2 : 1 ≤ n) (h3 : n ≤ 4) : sp_lsky [.dict [], .int m, .int n] Q X = (∀ u bs, Sky u bs → u ≤ m → bs.length ≤ n → Q (skyD u bs)) := by
  simp only [eq_iff_iff]
  constructor
  · rintro ⟨m', n', e, _, _, _, _, h⟩
    simp only [List.cons.injEq, PyData.int.injEq, PyData.bool.injEq, skyD_eq, intsD_eq, pairsD_eq, pairD_eq, and_true, true_and] at e
    obtain ⟨rfl, rfl⟩ := e
    exact h
  · exact fun h => ⟨m, n, rfl, h0, h1, h2, h3, h⟩
theorem r_lsky {T : Fn → Spec} (t_ldraw : T .ldraw = sp_ldraw) {ds : List D} {Q : D → Prop} {X : Exn → Prop} (h : sp_lsky ds Q X) : ds.length = 3 ∧ runs T 6 b_law_sky ds Q X := by
  obtain ⟨m, n, rfl, h1, h2, h3, h4, hQ⟩ := h
  refine ⟨rfl, ?_⟩
  try simp (maxSteps := 2000000) (disch := first | assumption | omega) only [runs, start, wpSs, wpS, wpE, wpEs, wpB, wpO, wpC, wpI, getS, setS, blank, blank1, List.map_cons, List.map_nil, List.length_cons, List.length_nil, List.cons_append, List.nil_append, List.replicate, Nat.sub_self, asBool_b, asInt_i, asList_l, asTup_t, must_s, cop_lt, cop_le, cop_gt, cop_ge, bop_add, bop_sub, bop_mod, bop_fdiv, bop_mul, ixOp_t0, ixOp_t1, ixOp_l, bsem_lenl, bsem_lent, gcv_u, gcv_d, isiD_i, isiD_b, isTok_i, isTok_b, isTok_n, isTok_t, isTok_l, isTok_s, and_true, true_and, if_true, if_false, Bool.false_eq_true, Bool.true_eq_false, Bool.not_true, Bool.not_false, Bool.not_not, noList_i, noList_b, noList_n, noList_t, plain_n, plain_c, lenlim, bindT_1, bindT_2, Nat.reduceAdd, Nat.reduceSub, isNon_n, isNon_i, isNon_b, isNon_t, isNon_l, isNon_s, ite_self, not_true_eq_false, not_false_eq_true, implies_true, false_and, and_false, decide_true, decide_false, decide_not, ixOp_s0, ixOp_s1, ixOp_p, ixOp_p0, ixOp_p1, ixOp_i, bsem_lenp, bsem_leni, bindT_p, isTok_sky, isTok_ps, isTok_is, isTok_p, noList_p, asList_p, asList_il, cop_eqi, cop_nei, bsem_max2, bsem_min2, ge0, c_is_int_i, toNat_nat, rangeD_len, eq_self, cop_eqil, cop_neil, cop_eqps, cop_neps, cop_eqp, cop_nep, Bool.and_true, Bool.true_and, big1, big2, t_ldraw, c_ldraw, b_law_sky, b_law_sky_0, b_law_sky_1, b_law_sky_2]
  intro u0 u1 u2
  try simp (maxSteps := 2000000) (disch := first | assumption | omega) only [runs, start, wpSs, wpS, wpE, wpEs, wpB, wpO, wpC, wpI, getS, setS, blank, blank1, List.map_cons, List.map_nil, List.length_cons, List.length_nil, List.cons_append, List.nil_append, List.replicate, Nat.sub_self, asBool_b, asInt_i, asList_l, asTup_t, must_s, cop_lt, cop_le, cop_gt, cop_ge, bop_add, bop_sub, bop_mod, bop_fdiv, bop_mul, ixOp_t0, ixOp_t1, ixOp_l, bsem_lenl, bsem_lent, gcv_u, gcv_d, isiD_i, isiD_b, isTok_i, isTok_b, isTok_n, isTok_t, isTok_l, isTok_s, and_true, true_and, if_true, if_false, Bool.false_eq_true, Bool.true_eq_false, Bool.not_true, Bool.not_false, Bool.not_not, noList_i, noList_b, noList_n, noList_t, plain_n, plain_c, lenlim, bindT_1, bindT_2, Nat.reduceAdd, Nat.reduceSub, isNon_n, isNon_i, isNon_b, isNon_t, isNon_l, isNon_s, ite_self, not_true_eq_false, not_false_eq_true, implies_true, false_and, and_false, decide_true, decide_false, decide_not, ixOp_s0, ixOp_s1, ixOp_p, ixOp_p0, ixOp_p1, ixOp_i, bsem_lenp, bsem_leni, bindT_p, isTok_sky, isTok_ps, isTok_is, isTok_p, noList_p, asList_p, asList_il, cop_eqi, cop_nei, bsem_max2, bsem_min2, ge0, c_is_int_i, toNat_nat, rangeD_len, eq_self, cop_eqil, cop_neil, cop_eqps, cop_neps, cop_eqp, cop_nep, Bool.and_true, Bool.true_and, big1, big2, t_ldraw, c_ldraw]
  intro c c0 c1
  try simp (maxSteps := 2000000) (disch := first | assumption | omega) only [runs, start, wpSs, wpS, wpE, wpEs, wpB, wpO, wpC, wpI, getS, setS, blank, blank1, List.map_cons, List.map_nil, List.length_cons, List.length_nil, List.cons_append, List.nil_append, List.replicate, Nat.sub_self, asBool_b, asInt_i, asList_l, asTup_t, must_s, cop_lt, cop_le, cop_gt, cop_ge, bop_add, bop_sub, bop_mod, bop_fdiv, bop_mul, ixOp_t0, ixOp_t1, ixOp_l, bsem_lenl, bsem_lent, gcv_u, gcv_d, isiD_i, isiD_b, isTok_i, isTok_b, isTok_n, isTok_t, isTok_l, isTok_s, and_true, true_and, if_true, if_false, Bool.false_eq_true, Bool.true_eq_false, Bool.not_true, Bool.not_false, Bool.not_not, noList_i, noList_b, noList_n, noList_t, plain_n, plain_c, lenlim, bindT_1, bindT_2, Nat.reduceAdd, Nat.reduceSub, isNon_n, isNon_i, isNon_b, isNon_t, isNon_l, isNon_s, ite_self, not_true_eq_false, not_false_eq_true, implies_true, false_and, and_false, decide_true, decide_false, decide_not, ixOp_s0, ixOp_s1, ixOp_p, ixOp_p0, ixOp_p1, ixOp_i, bsem_lenp, bsem_leni, bindT_p, isTok_sky, isTok_ps, isTok_is, isTok_p, noList_p, asList_p, asList_il, cop_eqi, cop_nei, bsem_max2, bsem_min2, ge0, c_is_int_i, toNat_nat, rangeD_len, eq_self, cop_eqil, cop_neil, cop_eqps, cop_neps, cop_eqp, cop_nep, Bool.and_true, Bool.true_and, big1, big2, t_ldraw, c_ldraw]
  have e : (1 + c).toNat ≤ 4 := by omega
  refine for_rg (I := fun i G => ∃ (bs : List (Int × Int)) (s : Sl), G = [.d (.dict []), .d (.int m), .d (.int n), .d (.int (2 + u0)), .own (bs.map pairD), s] ∧ bs.length = i ∧ ∀ b ∈ bs, 0 ≤ b.1 ∧ b.1 < 2 + u0 ∧ 0 ≤ b.2 ∧ b.2 < 2 + u0) ⟨[], _, rfl, rfl, by simp⟩ (fun i hi G hG k hk => ?_) (fun G hG => ?_)
  · obtain ⟨bs, s, rfl, hl, hb⟩ := hG
    try simp (maxSteps := 2000000) (disch := first | assumption | omega) only [runs, start, wpSs, wpS, wpE, wpEs, wpB, wpO, wpC, wpI, getS, setS, blank, blank1, List.map_cons, List.map_nil, List.length_cons, List.length_nil, List.cons_append, List.nil_append, List.replicate, Nat.sub_self, asBool_b, asInt_i, asList_l, asTup_t, must_s, cop_lt, cop_le, cop_gt, cop_ge, bop_add, bop_sub, bop_mod, bop_fdiv, bop_mul, ixOp_t0, ixOp_t1, ixOp_l, bsem_lenl, bsem_lent, gcv_u, gcv_d, isiD_i, isiD_b, isTok_i, isTok_b, isTok_n, isTok_t, isTok_l, isTok_s, and_true, true_and, if_true, if_false, Bool.false_eq_true, Bool.true_eq_false, Bool.not_true, Bool.not_false, Bool.not_not, noList_i, noList_b, noList_n, noList_t, plain_n, plain_c, lenlim, bindT_1, bindT_2, Nat.reduceAdd, Nat.reduceSub, isNon_n, isNon_i, isNon_b, isNon_t, isNon_l, isNon_s, ite_self, not_true_eq_false, not_false_eq_true, implies_true, false_and, and_false, decide_true, decide_false, decide_not, ixOp_s0, ixOp_s1, ixOp_p, ixOp_p0, ixOp_p1, ixOp_i, bsem_lenp, bsem_leni, bindT_p, isTok_sky, isTok_ps, isTok_is, isTok_p, noList_p, asList_p, asList_il, cop_eqi, cop_nei, bsem_max2, bsem_min2, ge0, c_is_int_i, toNat_nat, rangeD_len, eq_self, cop_eqil, cop_neil, cop_eqps, cop_neps, cop_eqp, cop_nep, Bool.and_true, Bool.true_and, big1, big2, t_ldraw, c_ldraw, b_law_sky_2l_0]
    intro r r0 r1
    try simp (maxSteps := 2000000) (disch := first | assumption | omega) only [runs, start, wpSs, wpS, wpE, wpEs, wpB, wpO, wpC, wpI, getS, setS, blank, blank1, List.map_cons, List.map_nil, List.length_cons, List.length_nil, List.cons_append, List.nil_append, List.replicate, Nat.sub_self, asBool_b, asInt_i, asList_l, asTup_t, must_s, cop_lt, cop_le, cop_gt, cop_ge, bop_add, bop_sub, bop_mod, bop_fdiv, bop_mul, ixOp_t0, ixOp_t1, ixOp_l, bsem_lenl, bsem_lent, gcv_u, gcv_d, isiD_i, isiD_b, isTok_i, isTok_b, isTok_n, isTok_t, isTok_l, isTok_s, and_true, true_and, if_true, if_false, Bool.false_eq_true, Bool.true_eq_false, Bool.not_true, Bool.not_false, Bool.not_not, noList_i, noList_b, noList_n, noList_t, plain_n, plain_c, lenlim, bindT_1, bindT_2, Nat.reduceAdd, Nat.reduceSub, isNon_n, isNon_i, isNon_b, isNon_t, isNon_l, isNon_s, ite_self, not_true_eq_false, not_false_eq_true, implies_true, false_and, and_false, decide_true, decide_false, decide_not, ixOp_s0, ixOp_s1, ixOp_p, ixOp_p0, ixOp_p1, ixOp_i, bsem_lenp, bsem_leni, bindT_p, isTok_sky, isTok_ps, isTok_is, isTok_p, noList_p, asList_p, asList_il, cop_eqi, cop_nei, bsem_max2, bsem_min2, ge0, c_is_int_i, toNat_nat, rangeD_len, eq_self, cop_eqil, cop_neil, cop_eqps, cop_neps, cop_eqp, cop_nep, Bool.and_true, Bool.true_and, big1, big2, t_ldraw, c_ldraw]
    intro q q0 q1
    try simp (maxSteps := 2000000) (disch := first | assumption | omega) only [runs, start, wpSs, wpS, wpE, wpEs, wpB, wpO, wpC, wpI, getS, setS, blank, blank1, List.map_cons, List.map_nil, List.length_cons, List.length_nil, List.cons_append, List.nil_append, List.replicate, Nat.sub_self, asBool_b, asInt_i, asList_l, asTup_t, must_s, cop_lt, cop_le, cop_gt, cop_ge, bop_add, bop_sub, bop_mod, bop_fdiv, bop_mul, ixOp_t0, ixOp_t1, ixOp_l, bsem_lenl, bsem_lent, gcv_u, gcv_d, isiD_i, isiD_b, isTok_i, isTok_b, isTok_n, isTok_t, isTok_l, isTok_s, and_true, true_and, if_true, if_false, Bool.false_eq_true, Bool.true_eq_false, Bool.not_true, Bool.not_false, Bool.not_not, noList_i, noList_b, noList_n, noList_t, plain_n, plain_c, lenlim, bindT_1, bindT_2, Nat.reduceAdd, Nat.reduceSub, isNon_n, isNon_i, isNon_b, isNon_t, isNon_l, isNon_s, ite_self, not_true_eq_false, not_false_eq_true, implies_true, false_and, and_false, decide_true, decide_false, decide_not, ixOp_s0, ixOp_s1, ixOp_p, ixOp_p0, ixOp_p1, ixOp_i, bsem_lenp, bsem_leni, bindT_p, isTok_sky, isTok_ps, isTok_is, isTok_p, noList_p, asList_p, asList_il, cop_eqi, cop_nei, bsem_max2, bsem_min2, ge0, c_is_int_i, toNat_nat, rangeD_len, eq_self, cop_eqil, cop_neil, cop_eqps, cop_neps, cop_eqp, cop_nep, Bool.and_true, Bool.true_and, big1, big2, t_ldraw, c_ldraw]
    replace hk := fun s h => hk _ ⟨bs ++ [(r, q)], s, rfl, by simp [hl], h⟩
    rw [List.map_append] at hk
    refine ⟨by simp; unfold lim; omega, hk _ fun b hm => ?_⟩
    · rcases List.mem_append.mp hm with h | h
      · exact hb b h
      · simp at h
        subst h
        exact ⟨r0, r1, q0, q1⟩
  · obtain ⟨bs, s, rfl, hl, hb⟩ := hG
    try simp (maxSteps := 2000000) (disch := first | assumption | omega) only [runs, start, wpSs, wpS, wpE, wpEs, wpB, wpO, wpC, wpI, getS, setS, blank, blank1, List.map_cons, List.map_nil, List.length_cons, List.length_nil, List.cons_append, List.nil_append, List.replicate, Nat.sub_self, asBool_b, asInt_i, asList_l, asTup_t, must_s, cop_lt, cop_le, cop_gt, cop_ge, bop_add, bop_sub, bop_mod, bop_fdiv, bop_mul, ixOp_t0, ixOp_t1, ixOp_l, bsem_lenl, bsem_lent, gcv_u, gcv_d, isiD_i, isiD_b, isTok_i, isTok_b, isTok_n, isTok_t, isTok_l, isTok_s, and_true, true_and, if_true, if_false, Bool.false_eq_true, Bool.true_eq_false, Bool.not_true, Bool.not_false, Bool.not_not, noList_i, noList_b, noList_n, noList_t, plain_n, plain_c, lenlim, bindT_1, bindT_2, Nat.reduceAdd, Nat.reduceSub, isNon_n, isNon_i, isNon_b, isNon_t, isNon_l, isNon_s, ite_self, not_true_eq_false, not_false_eq_true, implies_true, false_and, and_false, decide_true, decide_false, decide_not, ixOp_s0, ixOp_s1, ixOp_p, ixOp_p0, ixOp_p1, ixOp_i, bsem_lenp, bsem_leni, bindT_p, isTok_sky, isTok_ps, isTok_is, isTok_p, noList_p, asList_p, asList_il, cop_eqi, cop_nei, bsem_max2, bsem_min2, ge0, c_is_int_i, toNat_nat, rangeD_len, eq_self, cop_eqil, cop_neil, cop_eqps, cop_neps, cop_eqp, cop_nep, Bool.and_true, Bool.true_and, big1, big2, t_ldraw, c_ldraw, b_law_sky_3, b_law_sky_4]
    exact hQ (2 + u0) bs ⟨by omega, by omega, by omega, by omega, hb⟩ (by omega) (by omega)
def sp_way_of : Spec := fun ds Q X => ∃ (u : Int) (bs : List (Int × Int)) (b : Int) (d : Int), ds = [skyD u bs, .int b, .int d] ∧ (Sky u bs) ∧ (0 ≤ b) ∧ (b < bs.length) ∧ (-1000 ≤ d) ∧ (d ≤ 10000000) ∧ (Q (.int (way bs b d)))
theorem c_way_of {u : Int} {bs : List (Int × Int)} {b : Int} {d : Int} {Q : D → Prop} {X : Exn → Prop} (h0 : Sky u bs) (h1 : 0 ≤ b) (h2 : b < bs.length) (h3 : -1000 ≤ d) (h4 : d ≤ 10000000) : sp_way_of [skyD u bs, .int b, .int d] Q X = (Q (.int (way bs b d))) := by
  simp only [eq_iff_iff]
  constructor
  · rintro ⟨u', bs', b', d', e, _, _, _, _, _, h⟩
    simp only [List.cons.injEq, PyData.int.injEq, PyData.bool.injEq, skyD_eq, intsD_eq, pairsD_eq, pairD_eq, and_true, true_and] at e
    obtain ⟨⟨rfl, rfl⟩, rfl, rfl⟩ := e
    exact h
  · exact fun h => ⟨u, bs, b, d, rfl, h0, h1, h2, h3, h4, h⟩
theorem r_way_of {T : Fn → Spec}  {ds : List D} {Q : D → Prop} {X : Exn → Prop} (h : sp_way_of ds Q X) : ds.length = 3 ∧ runs T 5 b_way_of ds Q X := by
  obtain ⟨u, bs, b, d, rfl, hs, h1, h2, h3, h4, hQ⟩ := h
  refine ⟨rfl, ?_⟩
  try simp (maxSteps := 2000000) (disch := first | assumption | omega) only [runs, start, wpSs, wpS, wpE, wpEs, wpB, wpO, wpC, wpI, getS, setS, blank, blank1, List.map_cons, List.map_nil, List.length_cons, List.length_nil, List.cons_append, List.nil_append, List.replicate, Nat.sub_self, asBool_b, asInt_i, asList_l, asTup_t, must_s, cop_lt, cop_le, cop_gt, cop_ge, bop_add, bop_sub, bop_mod, bop_fdiv, bop_mul, ixOp_t0, ixOp_t1, ixOp_l, bsem_lenl, bsem_lent, gcv_u, gcv_d, isiD_i, isiD_b, isTok_i, isTok_b, isTok_n, isTok_t, isTok_l, isTok_s, and_true, true_and, if_true, if_false, Bool.false_eq_true, Bool.true_eq_false, Bool.not_true, Bool.not_false, Bool.not_not, noList_i, noList_b, noList_n, noList_t, plain_n, plain_c, lenlim, bindT_1, bindT_2, Nat.reduceAdd, Nat.reduceSub, isNon_n, isNon_i, isNon_b, isNon_t, isNon_l, isNon_s, ite_self, not_true_eq_false, not_false_eq_true, implies_true, false_and, and_false, decide_true, decide_false, decide_not, ixOp_s0, ixOp_s1, ixOp_p, ixOp_p0, ixOp_p1, ixOp_i, bsem_lenp, bsem_leni, bindT_p, isTok_sky, isTok_ps, isTok_is, isTok_p, noList_p, asList_p, asList_il, cop_eqi, cop_nei, bsem_max2, bsem_min2, ge0, c_is_int_i, toNat_nat, rangeD_len, eq_self, cop_eqil, cop_neil, cop_eqps, cop_neps, cop_eqp, cop_nep, Bool.and_true, Bool.true_and, big1, big2, b_way_of, b_way_of_0, b_way_of_1]
  exact hQ
def sp_rounds : Spec := fun ds Q X => ∃ (u : Int) (bs : List (Int × Int)) (b : Int) (d : Int), ds = [skyD u bs, .int b, .int d] ∧ (Sky u bs) ∧ (0 ≤ b) ∧ (b < bs.length) ∧ (0 ≤ d) ∧ (d ≤ 1000000) ∧ (Q (.int (way bs b d / u)))
theorem c_rounds {u : Int} {bs : List (Int × Int)} {b : Int} {d : Int} {Q : D → Prop} {X : Exn → Prop} (h0 : Sky u bs) (h1 : 0 ≤ b) (h2 : b < bs.length) (h3 : 0 ≤ d) (h4 : d ≤ 1000000) : sp_rounds [skyD u bs, .int b, .int d] Q X = (Q (.int (way bs b d / u))) := by
  simp only [eq_iff_iff]
  constructor
  · rintro ⟨u', bs', b', d', e, _, _, _, _, _, h⟩
    simp only [List.cons.injEq, PyData.int.injEq, PyData.bool.injEq, skyD_eq, intsD_eq, pairsD_eq, pairD_eq, and_true, true_and] at e
    obtain ⟨⟨rfl, rfl⟩, rfl, rfl⟩ := e
    exact h
  · exact fun h => ⟨u, bs, b, d, rfl, h0, h1, h2, h3, h4, h⟩
theorem r_rounds {T : Fn → Spec} (t_check_sky : T .check_sky = sp_check_sky) (t_check_body : T .check_body = sp_check_body) (t_check_day : T .check_day = sp_check_day) (t_way_of : T .way_of = sp_way_of) {ds : List D} {Q : D → Prop} {X : Exn → Prop} (h : sp_rounds ds Q X) : ds.length = 3 ∧ runs T 3 b_rounds ds Q X := by
  obtain ⟨u, bs, b, d, rfl, hs, h1, h2, h3, h4, hQ⟩ := h
  refine ⟨rfl, ?_⟩
  have hu := hs.pos
  have hi := hs.hi
  try simp (maxSteps := 2000000) (disch := first | assumption | omega) only [runs, start, wpSs, wpS, wpE, wpEs, wpB, wpO, wpC, wpI, getS, setS, blank, blank1, List.map_cons, List.map_nil, List.length_cons, List.length_nil, List.cons_append, List.nil_append, List.replicate, Nat.sub_self, asBool_b, asInt_i, asList_l, asTup_t, must_s, cop_lt, cop_le, cop_gt, cop_ge, bop_add, bop_sub, bop_mod, bop_fdiv, bop_mul, ixOp_t0, ixOp_t1, ixOp_l, bsem_lenl, bsem_lent, gcv_u, gcv_d, isiD_i, isiD_b, isTok_i, isTok_b, isTok_n, isTok_t, isTok_l, isTok_s, and_true, true_and, if_true, if_false, Bool.false_eq_true, Bool.true_eq_false, Bool.not_true, Bool.not_false, Bool.not_not, noList_i, noList_b, noList_n, noList_t, plain_n, plain_c, lenlim, bindT_1, bindT_2, Nat.reduceAdd, Nat.reduceSub, isNon_n, isNon_i, isNon_b, isNon_t, isNon_l, isNon_s, ite_self, not_true_eq_false, not_false_eq_true, implies_true, false_and, and_false, decide_true, decide_false, decide_not, ixOp_s0, ixOp_s1, ixOp_p, ixOp_p0, ixOp_p1, ixOp_i, bsem_lenp, bsem_leni, bindT_p, isTok_sky, isTok_ps, isTok_is, isTok_p, noList_p, asList_p, asList_il, cop_eqi, cop_nei, bsem_max2, bsem_min2, ge0, c_is_int_i, toNat_nat, rangeD_len, eq_self, cop_eqil, cop_neil, cop_eqps, cop_neps, cop_eqp, cop_nep, Bool.and_true, Bool.true_and, big1, big2, t_check_sky, c_check_sky, t_check_body, c_check_body, t_check_day, c_check_day, t_way_of, c_way_of, b_rounds, b_rounds_0, b_rounds_1, b_rounds_2, b_rounds_3]
  exact hQ
def sp_laps_of : Spec := fun ds Q X => ∃ (u : Int) (bs : List (Int × Int)) (b : Int) (c : Int) (d : Int), ds = [skyD u bs, .int b, .int c, .int d] ∧ (Sky u bs) ∧ (0 ≤ b) ∧ (b < bs.length) ∧ (0 ≤ c) ∧ (c < bs.length) ∧ (0 ≤ d) ∧ (d ≤ 1000000) ∧ (Q (.int ((way bs b d - way bs c d) / u)))
theorem c_laps_of {u : Int} {bs : List (Int × Int)} {b : Int} {c : Int} {d : Int} {Q : D → Prop} {X : Exn → Prop} (h0 : Sky u bs) (h1 : 0 ≤ b) (h2 : b < bs.length) (h3 : 0 ≤ c) (h4 : c < bs.length) (h5 : 0 ≤ d) (h6 : d ≤ 1000000) : sp_laps_of [skyD u bs, .int b, .int c, .int d] Q X = (Q (.int ((way bs b d - way bs c d) / u))) := by
  simp only [eq_iff_iff]
  constructor
  · rintro ⟨u', bs', b', c', d', e, _, _, _, _, _, _, _, h⟩
    simp only [List.cons.injEq, PyData.int.injEq, PyData.bool.injEq, skyD_eq, intsD_eq, pairsD_eq, pairD_eq, and_true, true_and] at e
    obtain ⟨⟨rfl, rfl⟩, rfl, rfl, rfl⟩ := e
    exact h
  · exact fun h => ⟨u, bs, b, c, d, rfl, h0, h1, h2, h3, h4, h5, h6, h⟩
theorem r_laps_of {T : Fn → Spec} (t_way_of : T .way_of = sp_way_of) {ds : List D} {Q : D → Prop} {X : Exn → Prop} (h : sp_laps_of ds Q X) : ds.length = 4 ∧ runs T 4 b_laps_of ds Q X := by
  obtain ⟨u, bs, b, c, d, rfl, hs, h1, h2, h3, h4, h5, h6, hQ⟩ := h
  refine ⟨rfl, ?_⟩
  have hu := hs.pos
  have hi := hs.hi
  try simp (maxSteps := 2000000) (disch := first | assumption | omega) only [runs, start, wpSs, wpS, wpE, wpEs, wpB, wpO, wpC, wpI, getS, setS, blank, blank1, List.map_cons, List.map_nil, List.length_cons, List.length_nil, List.cons_append, List.nil_append, List.replicate, Nat.sub_self, asBool_b, asInt_i, asList_l, asTup_t, must_s, cop_lt, cop_le, cop_gt, cop_ge, bop_add, bop_sub, bop_mod, bop_fdiv, bop_mul, ixOp_t0, ixOp_t1, ixOp_l, bsem_lenl, bsem_lent, gcv_u, gcv_d, isiD_i, isiD_b, isTok_i, isTok_b, isTok_n, isTok_t, isTok_l, isTok_s, and_true, true_and, if_true, if_false, Bool.false_eq_true, Bool.true_eq_false, Bool.not_true, Bool.not_false, Bool.not_not, noList_i, noList_b, noList_n, noList_t, plain_n, plain_c, lenlim, bindT_1, bindT_2, Nat.reduceAdd, Nat.reduceSub, isNon_n, isNon_i, isNon_b, isNon_t, isNon_l, isNon_s, ite_self, not_true_eq_false, not_false_eq_true, implies_true, false_and, and_false, decide_true, decide_false, decide_not, ixOp_s0, ixOp_s1, ixOp_p, ixOp_p0, ixOp_p1, ixOp_i, bsem_lenp, bsem_leni, bindT_p, isTok_sky, isTok_ps, isTok_is, isTok_p, noList_p, asList_p, asList_il, cop_eqi, cop_nei, bsem_max2, bsem_min2, ge0, c_is_int_i, toNat_nat, rangeD_len, eq_self, cop_eqil, cop_neil, cop_eqps, cop_neps, cop_eqp, cop_nep, Bool.and_true, Bool.true_and, big1, big2, t_way_of, c_way_of, b_laps_of, b_laps_of_0]
  exact hQ
def sp_laps : Spec := fun ds Q X => ∃ (u : Int) (bs : List (Int × Int)) (b : Int) (c : Int) (d : Int), ds = [skyD u bs, .int b, .int c, .int d] ∧ (Sky u bs) ∧ (0 ≤ b) ∧ (b < bs.length) ∧ (0 ≤ c) ∧ (c < bs.length) ∧ (0 ≤ d) ∧ (d ≤ 1000000) ∧ (Q (.int ((way bs b d - way bs c d) / u)))
theorem c_laps {u : Int} {bs : List (Int × Int)} {b : Int} {c : Int} {d : Int} {Q : D → Prop} {X : Exn → Prop} (h0 : Sky u bs) (h1 : 0 ≤ b) (h2 : b < bs.length) (h3 : 0 ≤ c) (h4 : c < bs.length) (h5 : 0 ≤ d) (h6 : d ≤ 1000000) : sp_laps [skyD u bs, .int b, .int c, .int d] Q X = (Q (.int ((way bs b d - way bs c d) / u))) := by
  simp only [eq_iff_iff]
  constructor
  · rintro ⟨u', bs', b', c', d', e, _, _, _, _, _, _, _, h⟩
    simp only [List.cons.injEq, PyData.int.injEq, PyData.bool.injEq, skyD_eq, intsD_eq, pairsD_eq, pairD_eq, and_true, true_and] at e
    obtain ⟨⟨rfl, rfl⟩, rfl, rfl, rfl⟩ := e
    exact h
  · exact fun h => ⟨u, bs, b, c, d, rfl, h0, h1, h2, h3, h4, h5, h6, h⟩
theorem r_laps {T : Fn → Spec} (t_check_sky : T .check_sky = sp_check_sky) (t_check_body : T .check_body = sp_check_body) (t_check_day : T .check_day = sp_check_day) (t_laps_of : T .laps_of = sp_laps_of) {ds : List D} {Q : D → Prop} {X : Exn → Prop} (h : sp_laps ds Q X) : ds.length = 4 ∧ runs T 4 b_laps ds Q X := by
  obtain ⟨u, bs, b, c, d, rfl, hs, h1, h2, h3, h4, h5, h6, hQ⟩ := h
  refine ⟨rfl, ?_⟩
  try simp (maxSteps := 2000000) (disch := first | assumption | omega) only [runs, start, wpSs, wpS, wpE, wpEs, wpB, wpO, wpC, wpI, getS, setS, blank, blank1, List.map_cons, List.map_nil, List.length_cons, List.length_nil, List.cons_append, List.nil_append, List.replicate, Nat.sub_self, asBool_b, asInt_i, asList_l, asTup_t, must_s, cop_lt, cop_le, cop_gt, cop_ge, bop_add, bop_sub, bop_mod, bop_fdiv, bop_mul, ixOp_t0, ixOp_t1, ixOp_l, bsem_lenl, bsem_lent, gcv_u, gcv_d, isiD_i, isiD_b, isTok_i, isTok_b, isTok_n, isTok_t, isTok_l, isTok_s, and_true, true_and, if_true, if_false, Bool.false_eq_true, Bool.true_eq_false, Bool.not_true, Bool.not_false, Bool.not_not, noList_i, noList_b, noList_n, noList_t, plain_n, plain_c, lenlim, bindT_1, bindT_2, Nat.reduceAdd, Nat.reduceSub, isNon_n, isNon_i, isNon_b, isNon_t, isNon_l, isNon_s, ite_self, not_true_eq_false, not_false_eq_true, implies_true, false_and, and_false, decide_true, decide_false, decide_not, ixOp_s0, ixOp_s1, ixOp_p, ixOp_p0, ixOp_p1, ixOp_i, bsem_lenp, bsem_leni, bindT_p, isTok_sky, isTok_ps, isTok_is, isTok_p, noList_p, asList_p, asList_il, cop_eqi, cop_nei, bsem_max2, bsem_min2, ge0, c_is_int_i, toNat_nat, rangeD_len, eq_self, cop_eqil, cop_neil, cop_eqps, cop_neps, cop_eqp, cop_nep, Bool.and_true, Bool.true_and, big1, big2, t_check_sky, c_check_sky, t_check_body, c_check_body, t_check_day, c_check_day, t_laps_of, c_laps_of, b_laps, b_laps_0, b_laps_1, b_laps_2, b_laps_3, b_laps_4]
  exact hQ
def overt (u : Int) (bs : List (Int × Int)) (b c d : Int) : Int := (way bs b d - way bs c d) / u - (way bs b 0 - way bs c 0) / u
def sp_overtakings : Spec := fun ds Q X => ∃ (u : Int) (bs : List (Int × Int)) (b : Int) (c : Int) (d : Int), ds = [skyD u bs, .int b, .int c, .int d] ∧ (Sky u bs) ∧ (0 ≤ b) ∧ (b < bs.length) ∧ (0 ≤ c) ∧ (c < bs.length) ∧ (0 ≤ d) ∧ (d ≤ 1000000) ∧ (Q (.int (overt u bs b c d)))
theorem c_overtakings {u : Int} {bs : List (Int × Int)} {b : Int} {c : Int} {d : Int} {Q : D → Prop} {X : Exn → Prop} (h0 : Sky u bs) (h1 : 0 ≤ b) (h2 : b < bs.length) (h3 : 0 ≤ c) (h4 : c < bs.length) (h5 : 0 ≤ d) (h6 : d ≤ 1000000) : sp_overtakings [skyD u bs, .int b, .int c, .int d] Q X = (Q (.int (overt u bs b c d))) := by
  simp only [eq_iff_iff]
  constructor
  · rintro ⟨u', bs', b', c', d', e, _, _, _, _, _, _, _, h⟩
    simp only [List.cons.injEq, PyData.int.injEq, PyData.bool.injEq, skyD_eq, intsD_eq, pairsD_eq, pairD_eq, and_true, true_and] at e
    obtain ⟨⟨rfl, rfl⟩, rfl, rfl, rfl⟩ := e
    exact h
  · exact fun h => ⟨u, bs, b, c, d, rfl, h0, h1, h2, h3, h4, h5, h6, h⟩
theorem r_overtakings {T : Fn → Spec} (t_check_sky : T .check_sky = sp_check_sky) (t_check_body : T .check_body = sp_check_body) (t_check_day : T .check_day = sp_check_day) (t_laps_of : T .laps_of = sp_laps_of) {ds : List D} {Q : D → Prop} {X : Exn → Prop} (h : sp_overtakings ds Q X) : ds.length = 4 ∧ runs T 4 b_overtakings ds Q X := by
  obtain ⟨u, bs, b, c, d, rfl, hs, h1, h2, h3, h4, h5, h6, hQ⟩ := h
  refine ⟨rfl, ?_⟩
  try simp (maxSteps := 2000000) (disch := first | assumption | omega) only [runs, start, wpSs, wpS, wpE, wpEs, wpB, wpO, wpC, wpI, getS, setS, blank, blank1, List.map_cons, List.map_nil, List.length_cons, List.length_nil, List.cons_append, List.nil_append, List.replicate, Nat.sub_self, asBool_b, asInt_i, asList_l, asTup_t, must_s, cop_lt, cop_le, cop_gt, cop_ge, bop_add, bop_sub, bop_mod, bop_fdiv, bop_mul, ixOp_t0, ixOp_t1, ixOp_l, bsem_lenl, bsem_lent, gcv_u, gcv_d, isiD_i, isiD_b, isTok_i, isTok_b, isTok_n, isTok_t, isTok_l, isTok_s, and_true, true_and, if_true, if_false, Bool.false_eq_true, Bool.true_eq_false, Bool.not_true, Bool.not_false, Bool.not_not, noList_i, noList_b, noList_n, noList_t, plain_n, plain_c, lenlim, bindT_1, bindT_2, Nat.reduceAdd, Nat.reduceSub, isNon_n, isNon_i, isNon_b, isNon_t, isNon_l, isNon_s, ite_self, not_true_eq_false, not_false_eq_true, implies_true, false_and, and_false, decide_true, decide_false, decide_not, ixOp_s0, ixOp_s1, ixOp_p, ixOp_p0, ixOp_p1, ixOp_i, bsem_lenp, bsem_leni, bindT_p, isTok_sky, isTok_ps, isTok_is, isTok_p, noList_p, asList_p, asList_il, cop_eqi, cop_nei, bsem_max2, bsem_min2, ge0, c_is_int_i, toNat_nat, rangeD_len, eq_self, cop_eqil, cop_neil, cop_eqps, cop_neps, cop_eqp, cop_nep, Bool.and_true, Bool.true_and, big1, big2, t_check_sky, c_check_sky, t_check_body, c_check_body, t_check_day, c_check_day, t_laps_of, c_laps_of, b_overtakings, b_overtakings_0, b_overtakings_1, b_overtakings_2, b_overtakings_3, b_overtakings_4]
  exact hQ
/-- the day of one overtaking -/
def otDay (u : Int) (bs : List (Int × Int)) (b c t : Int) : Int := -(-((((bd bs b).1 - (bd bs c).1) / u + 1 + t) * u - ((bd bs b).1 - (bd bs c).1)) / ((bd bs b).2 - (bd bs c).2))
def otDays (u : Int) (bs : List (Int × Int)) (b c n : Int) : List Int := if (bd bs b).2 - (bd bs c).2 ≤ 0 then [] else (List.range (min n 100).toNat).map fun (t : Nat) => otDay u bs b c t
def sp_overtaking_days : Spec := fun ds Q X => ∃ (u : Int) (bs : List (Int × Int)) (b : Int) (c : Int) (n : Int), ds = [skyD u bs, .int b, .int c, .int n] ∧ (Sky u bs) ∧ (0 ≤ b) ∧ (b < bs.length) ∧ (0 ≤ c) ∧ (c < bs.length) ∧ (0 ≤ n) ∧ (n ≤ 1000000) ∧ (Q (intsD (otDays u bs b c n)))
theorem c_overtaking_days {u : Int} {bs : List (Int × Int)} {b : Int} {c : Int} {n : Int} {Q : D → Prop} {X : Exn → Prop} (h0 : Sky u bs) (h1 : 0 ≤ b) (h2 : b < bs.length) (h3 : 0 ≤ c) (h4 : c < bs.length) (h5 : 0 ≤ n) (h6 : n ≤ 1000000) : sp_overtaking_days [skyD u bs, .int b, .int c, .int n] Q X = (Q (intsD (otDays u bs b c n))) := by
  simp only [eq_iff_iff]
  constructor
  · rintro ⟨u', bs', b', c', n', e, _, _, _, _, _, _, _, h⟩
    simp only [List.cons.injEq, PyData.int.injEq, PyData.bool.injEq, skyD_eq, intsD_eq, pairsD_eq, pairD_eq, and_true, true_and] at e
    obtain ⟨⟨rfl, rfl⟩, rfl, rfl, rfl⟩ := e
    exact h
  · exact fun h => ⟨u, bs, b, c, n, rfl, h0, h1, h2, h3, h4, h5, h6, h⟩
theorem r_overtaking_days {T : Fn → Spec} (t_check_sky : T .check_sky = sp_check_sky) (t_check_body : T .check_body = sp_check_body) (t_check_day : T .check_day = sp_check_day) {ds : List D} {Q : D → Prop} {X : Exn → Prop} (h : sp_overtaking_days ds Q X) : ds.length = 4 ∧ runs T 9 b_overtaking_days ds Q X := by
  obtain ⟨u, bs, b, c, n, rfl, hs, h1, h2, h3, h4, h5, h6, hQ⟩ := h
  refine ⟨rfl, ?_⟩
  have hu := hs.pos
  have hi := hs.hi
  have ab := hs.at h1 h2
  have ac := hs.at h3 h4
  try simp (maxSteps := 2000000) (disch := first | assumption | omega) only [runs, start, wpSs, wpS, wpE, wpEs, wpB, wpO, wpC, wpI, getS, setS, blank, blank1, List.map_cons, List.map_nil, List.length_cons, List.length_nil, List.cons_append, List.nil_append, List.replicate, Nat.sub_self, asBool_b, asInt_i, asList_l, asTup_t, must_s, cop_lt, cop_le, cop_gt, cop_ge, bop_add, bop_sub, bop_mod, bop_fdiv, bop_mul, ixOp_t0, ixOp_t1, ixOp_l, bsem_lenl, bsem_lent, gcv_u, gcv_d, isiD_i, isiD_b, isTok_i, isTok_b, isTok_n, isTok_t, isTok_l, isTok_s, and_true, true_and, if_true, if_false, Bool.false_eq_true, Bool.true_eq_false, Bool.not_true, Bool.not_false, Bool.not_not, noList_i, noList_b, noList_n, noList_t, plain_n, plain_c, lenlim, bindT_1, bindT_2, Nat.reduceAdd, Nat.reduceSub, isNon_n, isNon_i, isNon_b, isNon_t, isNon_l, isNon_s, ite_self, not_true_eq_false, not_false_eq_true, implies_true, false_and, and_false, decide_true, decide_false, decide_not, ixOp_s0, ixOp_s1, ixOp_p, ixOp_p0, ixOp_p1, ixOp_i, bsem_lenp, bsem_leni, bindT_p, isTok_sky, isTok_ps, isTok_is, isTok_p, noList_p, asList_p, asList_il, cop_eqi, cop_nei, bsem_max2, bsem_min2, ge0, c_is_int_i, toNat_nat, rangeD_len, eq_self, cop_eqil, cop_neil, cop_eqps, cop_neps, cop_eqp, cop_nep, Bool.and_true, Bool.true_and, big1, big2, t_check_sky, c_check_sky, t_check_body, c_check_body, t_check_day, c_check_day, b_overtaking_days, b_overtaking_days_0, b_overtaking_days_1, b_overtaking_days_2, b_overtaking_days_3, b_overtaking_days_4, b_overtaking_days_5]
  by_cases hf : (bd bs b).2 - (bd bs c).2 ≤ 0
  · simp only [hf, decide_true, if_true]
    try simp (maxSteps := 2000000) (disch := first | assumption | omega) only [runs, start, wpSs, wpS, wpE, wpEs, wpB, wpO, wpC, wpI, getS, setS, blank, blank1, List.map_cons, List.map_nil, List.length_cons, List.length_nil, List.cons_append, List.nil_append, List.replicate, Nat.sub_self, asBool_b, asInt_i, asList_l, asTup_t, must_s, cop_lt, cop_le, cop_gt, cop_ge, bop_add, bop_sub, bop_mod, bop_fdiv, bop_mul, ixOp_t0, ixOp_t1, ixOp_l, bsem_lenl, bsem_lent, gcv_u, gcv_d, isiD_i, isiD_b, isTok_i, isTok_b, isTok_n, isTok_t, isTok_l, isTok_s, and_true, true_and, if_true, if_false, Bool.false_eq_true, Bool.true_eq_false, Bool.not_true, Bool.not_false, Bool.not_not, noList_i, noList_b, noList_n, noList_t, plain_n, plain_c, lenlim, bindT_1, bindT_2, Nat.reduceAdd, Nat.reduceSub, isNon_n, isNon_i, isNon_b, isNon_t, isNon_l, isNon_s, ite_self, not_true_eq_false, not_false_eq_true, implies_true, false_and, and_false, decide_true, decide_false, decide_not, ixOp_s0, ixOp_s1, ixOp_p, ixOp_p0, ixOp_p1, ixOp_i, bsem_lenp, bsem_leni, bindT_p, isTok_sky, isTok_ps, isTok_is, isTok_p, noList_p, asList_p, asList_il, cop_eqi, cop_nei, bsem_max2, bsem_min2, ge0, c_is_int_i, toNat_nat, rangeD_len, eq_self, cop_eqil, cop_neil, cop_eqps, cop_neps, cop_eqp, cop_nep, Bool.and_true, Bool.true_and, big1, big2, t_check_sky, c_check_sky, t_check_body, c_check_body, t_check_day, c_check_day]
    simp only [otDays, hf, if_true] at hQ
    exact hQ
  · simp only [hf, decide_false, Bool.false_eq_true, if_false]
    have dlo : -1 ≤ ((bd bs b).1 - (bd bs c).1) / u := (Int.le_ediv_iff_mul_le hu).mpr (by omega)
    have dhi : ((bd bs b).1 - (bd bs c).1) / u < 1 := Int.ediv_lt_of_lt_mul hu (by omega)
    try simp (maxSteps := 2000000) (disch := first | assumption | omega) only [runs, start, wpSs, wpS, wpE, wpEs, wpB, wpO, wpC, wpI, getS, setS, blank, blank1, List.map_cons, List.map_nil, List.length_cons, List.length_nil, List.cons_append, List.nil_append, List.replicate, Nat.sub_self, asBool_b, asInt_i, asList_l, asTup_t, must_s, cop_lt, cop_le, cop_gt, cop_ge, bop_add, bop_sub, bop_mod, bop_fdiv, bop_mul, ixOp_t0, ixOp_t1, ixOp_l, bsem_lenl, bsem_lent, gcv_u, gcv_d, isiD_i, isiD_b, isTok_i, isTok_b, isTok_n, isTok_t, isTok_l, isTok_s, and_true, true_and, if_true, if_false, Bool.false_eq_true, Bool.true_eq_false, Bool.not_true, Bool.not_false, Bool.not_not, noList_i, noList_b, noList_n, noList_t, plain_n, plain_c, lenlim, bindT_1, bindT_2, Nat.reduceAdd, Nat.reduceSub, isNon_n, isNon_i, isNon_b, isNon_t, isNon_l, isNon_s, ite_self, not_true_eq_false, not_false_eq_true, implies_true, false_and, and_false, decide_true, decide_false, decide_not, ixOp_s0, ixOp_s1, ixOp_p, ixOp_p0, ixOp_p1, ixOp_i, bsem_lenp, bsem_leni, bindT_p, isTok_sky, isTok_ps, isTok_is, isTok_p, noList_p, asList_p, asList_il, cop_eqi, cop_nei, bsem_max2, bsem_min2, ge0, c_is_int_i, toNat_nat, rangeD_len, eq_self, cop_eqil, cop_neil, cop_eqps, cop_neps, cop_eqp, cop_nep, Bool.and_true, Bool.true_and, big1, big2, t_check_sky, c_check_sky, t_check_body, c_check_body, t_check_day, c_check_day, b_overtaking_days_6, b_overtaking_days_7, b_overtaking_days_8]
    simp only [otDays, hf, if_false] at hQ
    refine for_rg (I := fun i G => ∃ (s1 s2 : Sl), G = [.d (skyD u bs), .d (.int b), .d (.int c), .d (.int n), .d (.int ((bd bs b).2 - (bd bs c).2)), .own (((List.range i).map fun (t : Nat) => otDay u bs b c t).map .int), .d (.int ((bd bs b).1 - (bd bs c).1)), s1, s2]) ⟨_, _, rfl⟩ (fun i hi G hG k hk => ?_) (fun G hG => ?_)
    · obtain ⟨s1, s2, rfl⟩ := hG
      try simp (maxSteps := 2000000) (disch := first | assumption | omega) only [runs, start, wpSs, wpS, wpE, wpEs, wpB, wpO, wpC, wpI, getS, setS, blank, blank1, List.map_cons, List.map_nil, List.length_cons, List.length_nil, List.cons_append, List.nil_append, List.replicate, Nat.sub_self, asBool_b, asInt_i, asList_l, asTup_t, must_s, cop_lt, cop_le, cop_gt, cop_ge, bop_add, bop_sub, bop_mod, bop_fdiv, bop_mul, ixOp_t0, ixOp_t1, ixOp_l, bsem_lenl, bsem_lent, gcv_u, gcv_d, isiD_i, isiD_b, isTok_i, isTok_b, isTok_n, isTok_t, isTok_l, isTok_s, and_true, true_and, if_true, if_false, Bool.false_eq_true, Bool.true_eq_false, Bool.not_true, Bool.not_false, Bool.not_not, noList_i, noList_b, noList_n, noList_t, plain_n, plain_c, lenlim, bindT_1, bindT_2, Nat.reduceAdd, Nat.reduceSub, isNon_n, isNon_i, isNon_b, isNon_t, isNon_l, isNon_s, ite_self, not_true_eq_false, not_false_eq_true, implies_true, false_and, and_false, decide_true, decide_false, decide_not, ixOp_s0, ixOp_s1, ixOp_p, ixOp_p0, ixOp_p1, ixOp_i, bsem_lenp, bsem_leni, bindT_p, isTok_sky, isTok_ps, isTok_is, isTok_p, noList_p, asList_p, asList_il, cop_eqi, cop_nei, bsem_max2, bsem_min2, ge0, c_is_int_i, toNat_nat, rangeD_len, eq_self, cop_eqil, cop_neil, cop_eqps, cop_neps, cop_eqp, cop_nep, Bool.and_true, Bool.true_and, big1, big2, t_check_sky, c_check_sky, t_check_body, c_check_body, t_check_day, c_check_day, b_overtaking_days_8l_0, b_overtaking_days_8l_1]
      replace hk := fun s1 s2 => hk _ ⟨s1, s2, rfl⟩
      simp only [List.range_succ, List.map_append, List.map_cons, List.map_nil] at hk
      exact ⟨by simp; unfold lim; omega, hk _ _⟩
    · obtain ⟨s1, s2, rfl⟩ := hG
      try simp (maxSteps := 2000000) (disch := first | assumption | omega) only [runs, start, wpSs, wpS, wpE, wpEs, wpB, wpO, wpC, wpI, getS, setS, blank, blank1, List.map_cons, List.map_nil, List.length_cons, List.length_nil, List.cons_append, List.nil_append, List.replicate, Nat.sub_self, asBool_b, asInt_i, asList_l, asTup_t, must_s, cop_lt, cop_le, cop_gt, cop_ge, bop_add, bop_sub, bop_mod, bop_fdiv, bop_mul, ixOp_t0, ixOp_t1, ixOp_l, bsem_lenl, bsem_lent, gcv_u, gcv_d, isiD_i, isiD_b, isTok_i, isTok_b, isTok_n, isTok_t, isTok_l, isTok_s, and_true, true_and, if_true, if_false, Bool.false_eq_true, Bool.true_eq_false, Bool.not_true, Bool.not_false, Bool.not_not, noList_i, noList_b, noList_n, noList_t, plain_n, plain_c, lenlim, bindT_1, bindT_2, Nat.reduceAdd, Nat.reduceSub, isNon_n, isNon_i, isNon_b, isNon_t, isNon_l, isNon_s, ite_self, not_true_eq_false, not_false_eq_true, implies_true, false_and, and_false, decide_true, decide_false, decide_not, ixOp_s0, ixOp_s1, ixOp_p, ixOp_p0, ixOp_p1, ixOp_i, bsem_lenp, bsem_leni, bindT_p, isTok_sky, isTok_ps, isTok_is, isTok_p, noList_p, asList_p, asList_il, cop_eqi, cop_nei, bsem_max2, bsem_min2, ge0, c_is_int_i, toNat_nat, rangeD_len, eq_self, cop_eqil, cop_neil, cop_eqps, cop_neps, cop_eqp, cop_nep, Bool.and_true, Bool.true_and, big1, big2, t_check_sky, c_check_sky, t_check_body, c_check_body, t_check_day, c_check_day, b_overtaking_days_9, b_overtaking_days_10]
      exact hQ
def ways (bs : List (Int × Int)) (d : Int) : List Int := (List.range bs.length).map fun (i : Nat) => way bs i d
def sp_leader : Spec := fun ds Q X => ∃ (u : Int) (bs : List (Int × Int)) (d : Int), ds = [skyD u bs, .int d] ∧ (Sky u bs) ∧ (0 ≤ d) ∧ (d ≤ 1000000) ∧ (Q (.int (idx (ways bs d) (lmax (ways bs d)))))
theorem c_leader {u : Int} {bs : List (Int × Int)} {d : Int} {Q : D → Prop} {X : Exn → Prop} (h0 : Sky u bs) (h1 : 0 ≤ d) (h2 : d ≤ 1000000) : sp_leader [skyD u bs, .int d] Q X = (Q (.int (idx (ways bs d) (lmax (ways bs d))))) := by
  simp only [eq_iff_iff]
  constructor
  · rintro ⟨u', bs', d', e, _, _, _, h⟩
    simp only [List.cons.injEq, PyData.int.injEq, PyData.bool.injEq, skyD_eq, intsD_eq, pairsD_eq, pairD_eq, and_true, true_and] at e
    obtain ⟨⟨rfl, rfl⟩, rfl⟩ := e
    exact h
  · exact fun h => ⟨u, bs, d, rfl, h0, h1, h2, h⟩
theorem ways_len {bs : List (Int × Int)} {d : Int} : (ways bs d).length = bs.length := by simp [ways]
theorem r_leader {T : Fn → Spec} (t_check_sky : T .check_sky = sp_check_sky) (t_check_day : T .check_day = sp_check_day) (t_way_of : T .way_of = sp_way_of) {ds : List D} {Q : D → Prop} {X : Exn → Prop} (h : sp_leader ds Q X) : ds.length = 2 ∧ runs T 4 b_leader ds Q X := by
  obtain ⟨u, bs, d, rfl, hs, h1, h2, hQ⟩ := h
  refine ⟨rfl, ?_⟩
  have hn := hs.n4
  have h1 := hs.l1
  try simp (maxSteps := 2000000) (disch := first | assumption | omega) only [runs, start, wpSs, wpS, wpE, wpEs, wpB, wpO, wpC, wpI, getS, setS, blank, blank1, List.map_cons, List.map_nil, List.length_cons, List.length_nil, List.cons_append, List.nil_append, List.replicate, Nat.sub_self, asBool_b, asInt_i, asList_l, asTup_t, must_s, cop_lt, cop_le, cop_gt, cop_ge, bop_add, bop_sub, bop_mod, bop_fdiv, bop_mul, ixOp_t0, ixOp_t1, ixOp_l, bsem_lenl, bsem_lent, gcv_u, gcv_d, isiD_i, isiD_b, isTok_i, isTok_b, isTok_n, isTok_t, isTok_l, isTok_s, and_true, true_and, if_true, if_false, Bool.false_eq_true, Bool.true_eq_false, Bool.not_true, Bool.not_false, Bool.not_not, noList_i, noList_b, noList_n, noList_t, plain_n, plain_c, lenlim, bindT_1, bindT_2, Nat.reduceAdd, Nat.reduceSub, isNon_n, isNon_i, isNon_b, isNon_t, isNon_l, isNon_s, ite_self, not_true_eq_false, not_false_eq_true, implies_true, false_and, and_false, decide_true, decide_false, decide_not, ixOp_s0, ixOp_s1, ixOp_p, ixOp_p0, ixOp_p1, ixOp_i, bsem_lenp, bsem_leni, bindT_p, isTok_sky, isTok_ps, isTok_is, isTok_p, noList_p, asList_p, asList_il, cop_eqi, cop_nei, bsem_max2, bsem_min2, ge0, c_is_int_i, toNat_nat, rangeD_len, eq_self, cop_eqil, cop_neil, cop_eqps, cop_neps, cop_eqp, cop_nep, Bool.and_true, Bool.true_and, big1, big2, t_check_sky, c_check_sky, t_check_day, c_check_day, t_way_of, c_way_of, b_leader, b_leader_0, b_leader_1, b_leader_2]
  refine lc_rgi (g := fun i => way bs i d) (fun i i0 i1 k hk => ?_) ?_
  · try simp (maxSteps := 2000000) (disch := first | assumption | omega) only [runs, start, wpSs, wpS, wpE, wpEs, wpB, wpO, wpC, wpI, getS, setS, blank, blank1, List.map_cons, List.map_nil, List.length_cons, List.length_nil, List.cons_append, List.nil_append, List.replicate, Nat.sub_self, asBool_b, asInt_i, asList_l, asTup_t, must_s, cop_lt, cop_le, cop_gt, cop_ge, bop_add, bop_sub, bop_mod, bop_fdiv, bop_mul, ixOp_t0, ixOp_t1, ixOp_l, bsem_lenl, bsem_lent, gcv_u, gcv_d, isiD_i, isiD_b, isTok_i, isTok_b, isTok_n, isTok_t, isTok_l, isTok_s, and_true, true_and, if_true, if_false, Bool.false_eq_true, Bool.true_eq_false, Bool.not_true, Bool.not_false, Bool.not_not, noList_i, noList_b, noList_n, noList_t, plain_n, plain_c, lenlim, bindT_1, bindT_2, Nat.reduceAdd, Nat.reduceSub, isNon_n, isNon_i, isNon_b, isNon_t, isNon_l, isNon_s, ite_self, not_true_eq_false, not_false_eq_true, implies_true, false_and, and_false, decide_true, decide_false, decide_not, ixOp_s0, ixOp_s1, ixOp_p, ixOp_p0, ixOp_p1, ixOp_i, bsem_lenp, bsem_leni, bindT_p, isTok_sky, isTok_ps, isTok_is, isTok_p, noList_p, asList_p, asList_il, cop_eqi, cop_nei, bsem_max2, bsem_min2, ge0, c_is_int_i, toNat_nat, rangeD_len, eq_self, cop_eqil, cop_neil, cop_eqps, cop_neps, cop_eqp, cop_nep, Bool.and_true, Bool.true_and, big1, big2, t_check_sky, c_check_sky, t_check_day, c_check_day, t_way_of, c_way_of]
    exact hk
  · show wpSs T b_leader_3 [.d (skyD u bs), .d (.int d), .d (intsD (ways bs d)), .no] _
    have l0 : 0 < (ways bs d).length := by rw [ways_len]; omega
    have lm := lmax_in l0
    try simp (maxSteps := 2000000) (disch := first | assumption | omega) only [runs, start, wpSs, wpS, wpE, wpEs, wpB, wpO, wpC, wpI, getS, setS, blank, blank1, List.map_cons, List.map_nil, List.length_cons, List.length_nil, List.cons_append, List.nil_append, List.replicate, Nat.sub_self, asBool_b, asInt_i, asList_l, asTup_t, must_s, cop_lt, cop_le, cop_gt, cop_ge, bop_add, bop_sub, bop_mod, bop_fdiv, bop_mul, ixOp_t0, ixOp_t1, ixOp_l, bsem_lenl, bsem_lent, gcv_u, gcv_d, isiD_i, isiD_b, isTok_i, isTok_b, isTok_n, isTok_t, isTok_l, isTok_s, and_true, true_and, if_true, if_false, Bool.false_eq_true, Bool.true_eq_false, Bool.not_true, Bool.not_false, Bool.not_not, noList_i, noList_b, noList_n, noList_t, plain_n, plain_c, lenlim, bindT_1, bindT_2, Nat.reduceAdd, Nat.reduceSub, isNon_n, isNon_i, isNon_b, isNon_t, isNon_l, isNon_s, ite_self, not_true_eq_false, not_false_eq_true, implies_true, false_and, and_false, decide_true, decide_false, decide_not, ixOp_s0, ixOp_s1, ixOp_p, ixOp_p0, ixOp_p1, ixOp_i, bsem_lenp, bsem_leni, bindT_p, isTok_sky, isTok_ps, isTok_is, isTok_p, noList_p, asList_p, asList_il, cop_eqi, cop_nei, bsem_max2, bsem_min2, ge0, c_is_int_i, toNat_nat, rangeD_len, eq_self, cop_eqil, cop_neil, cop_eqps, cop_neps, cop_eqp, cop_nep, Bool.and_true, Bool.true_and, big1, big2, t_check_sky, c_check_sky, t_check_day, c_check_day, t_way_of, c_way_of, b_leader_3, mtTy_index, bsem_maxl, msem_index]
    exact hQ
def rowP (u : Int) (bs : List (Int × Int)) (d i : Int) : List (Int × Int) := (((List.range (bs.length - (i + 1)).toNat).map fun (j : Nat) => i + 1 + (j : Int)).filter fun j => decide (plc u bs j d = plc u bs i d)).map fun j => (i, j)
def sameP (u : Int) (bs : List (Int × Int)) (d : Int) (m : Nat) : List (Int × Int) := ((List.range m).map fun (i : Nat) => rowP u bs d i).flatten
theorem sameP_succ {u : Int} {bs : List (Int × Int)} {d : Int} {m : Nat} : sameP u bs d (m + 1) = sameP u bs d m ++ rowP u bs d m := by simp [sameP, List.range_succ]
theorem rowP_len {u : Int} {bs : List (Int × Int)} {d i : Int} (h : 0 ≤ i) : (rowP u bs d i).length ≤ bs.length := by
  unfold rowP
  rw [List.length_map]
  refine Nat.le_trans (List.length_filter_le _ _) ?_
  simp
  omega
theorem sameP_len {u : Int} {bs : List (Int × Int)} {d : Int} : ∀ {m : Nat}, (sameP u bs d m).length ≤ m * bs.length
  | 0 => by simp [sameP]
  | m + 1 => by
    rw [sameP_succ, List.length_append, Nat.add_mul, Nat.one_mul]
    exact Nat.add_le_add sameP_len (rowP_len (by omega))
def sp_same_place : Spec := fun ds Q X => ∃ (u : Int) (bs : List (Int × Int)) (d : Int), ds = [skyD u bs, .int d] ∧ (Sky u bs) ∧ (0 ≤ d) ∧ (d ≤ 1000000) ∧ (Q (pairsD (sameP u bs d bs.length)))
theorem c_same_place {u : Int} {bs : List (Int × Int)} {d : Int} {Q : D → Prop} {X : Exn → Prop} (h0 : Sky u bs) (h1 : 0 ≤ d) (h2 : d ≤ 1000000) : sp_same_place [skyD u bs, .int d] Q X = (Q (pairsD (sameP u bs d bs.length))) := by
  simp only [eq_iff_iff]
  constructor
  · rintro ⟨u', bs', d', e, _, _, _, h⟩
    simp only [List.cons.injEq, PyData.int.injEq, PyData.bool.injEq, skyD_eq, intsD_eq, pairsD_eq, pairD_eq, and_true, true_and] at e
    obtain ⟨⟨rfl, rfl⟩, rfl⟩ := e
    exact h
  · exact fun h => ⟨u, bs, d, rfl, h0, h1, h2, h⟩
theorem r_same_place {T : Fn → Spec} (t_check_sky : T .check_sky = sp_check_sky) (t_check_day : T .check_day = sp_check_day) (t_place_of : T .place_of = sp_place_of) {ds : List D} {Q : D → Prop} {X : Exn → Prop} (h : sp_same_place ds Q X) : ds.length = 2 ∧ runs T 6 b_same_place ds Q X := by
  obtain ⟨u, bs, d, rfl, hs, h1, h2, hQ⟩ := h
  refine ⟨rfl, ?_⟩
  have hn := hs.n4
  have hl := hs.l4
  try simp (maxSteps := 2000000) (disch := first | assumption | omega) only [runs, start, wpSs, wpS, wpE, wpEs, wpB, wpO, wpC, wpI, getS, setS, blank, blank1, List.map_cons, List.map_nil, List.length_cons, List.length_nil, List.cons_append, List.nil_append, List.replicate, Nat.sub_self, asBool_b, asInt_i, asList_l, asTup_t, must_s, cop_lt, cop_le, cop_gt, cop_ge, bop_add, bop_sub, bop_mod, bop_fdiv, bop_mul, ixOp_t0, ixOp_t1, ixOp_l, bsem_lenl, bsem_lent, gcv_u, gcv_d, isiD_i, isiD_b, isTok_i, isTok_b, isTok_n, isTok_t, isTok_l, isTok_s, and_true, true_and, if_true, if_false, Bool.false_eq_true, Bool.true_eq_false, Bool.not_true, Bool.not_false, Bool.not_not, noList_i, noList_b, noList_n, noList_t, plain_n, plain_c, lenlim, bindT_1, bindT_2, Nat.reduceAdd, Nat.reduceSub, isNon_n, isNon_i, isNon_b, isNon_t, isNon_l, isNon_s, ite_self, not_true_eq_false, not_false_eq_true, implies_true, false_and, and_false, decide_true, decide_false, decide_not, ixOp_s0, ixOp_s1, ixOp_p, ixOp_p0, ixOp_p1, ixOp_i, bsem_lenp, bsem_leni, bindT_p, isTok_sky, isTok_ps, isTok_is, isTok_p, noList_p, asList_p, asList_il, cop_eqi, cop_nei, bsem_max2, bsem_min2, ge0, c_is_int_i, toNat_nat, rangeD_len, eq_self, cop_eqil, cop_neil, cop_eqps, cop_neps, cop_eqp, cop_nep, Bool.and_true, Bool.true_and, big1, big2, t_check_sky, c_check_sky, t_check_day, c_check_day, t_place_of, c_place_of, b_same_place, b_same_place_0, b_same_place_1, b_same_place_2, b_same_place_3]
  refine for_rg (I := fun i G => ∃ (s1 s2 s3 : Sl), blank1 s1 = s1 ∧ G = [.d (skyD u bs), .d (.int d), .own ((sameP u bs d i).map pairD), s1, s2, s3]) ⟨_, _, _, rfl, rfl⟩ (fun i hi G hG k hk => ?_) (fun G hG => ?_)
  · obtain ⟨s1, s2, s3, e1, rfl⟩ := hG
    have i0 : 0 ≤ (i : Int) := by omega
    have i1 : (i : Int) < bs.length := by omega
    try simp (maxSteps := 2000000) (disch := first | assumption | omega) only [runs, start, wpSs, wpS, wpE, wpEs, wpB, wpO, wpC, wpI, getS, setS, blank, blank1, List.map_cons, List.map_nil, List.length_cons, List.length_nil, List.cons_append, List.nil_append, List.replicate, Nat.sub_self, asBool_b, asInt_i, asList_l, asTup_t, must_s, cop_lt, cop_le, cop_gt, cop_ge, bop_add, bop_sub, bop_mod, bop_fdiv, bop_mul, ixOp_t0, ixOp_t1, ixOp_l, bsem_lenl, bsem_lent, gcv_u, gcv_d, isiD_i, isiD_b, isTok_i, isTok_b, isTok_n, isTok_t, isTok_l, isTok_s, and_true, true_and, if_true, if_false, Bool.false_eq_true, Bool.true_eq_false, Bool.not_true, Bool.not_false, Bool.not_not, noList_i, noList_b, noList_n, noList_t, plain_n, plain_c, lenlim, bindT_1, bindT_2, Nat.reduceAdd, Nat.reduceSub, isNon_n, isNon_i, isNon_b, isNon_t, isNon_l, isNon_s, ite_self, not_true_eq_false, not_false_eq_true, implies_true, false_and, and_false, decide_true, decide_false, decide_not, ixOp_s0, ixOp_s1, ixOp_p, ixOp_p0, ixOp_p1, ixOp_i, bsem_lenp, bsem_leni, bindT_p, isTok_sky, isTok_ps, isTok_is, isTok_p, noList_p, asList_p, asList_il, cop_eqi, cop_nei, bsem_max2, bsem_min2, ge0, c_is_int_i, toNat_nat, rangeD_len, eq_self, cop_eqil, cop_neil, cop_eqps, cop_neps, cop_eqp, cop_nep, Bool.and_true, Bool.true_and, big1, big2, t_check_sky, c_check_sky, t_check_day, c_check_day, t_place_of, c_place_of, b_same_place_3l_0, b_same_place_3l_1]
    replace hk := fun s1 s2 s3 h => hk _ ⟨s1, s2, s3, h, rfl⟩
    simp only [sameP_succ, List.map_append] at hk
    refine lc_rgf (p := fun j => decide (plc u bs j d = plc u bs i d)) (g := fun j => pairD (i, j)) (fun j j0 j1 k hk => ?_) ?_
    · try simp (maxSteps := 2000000) (disch := first | assumption | omega) only [runs, start, wpSs, wpS, wpE, wpEs, wpB, wpO, wpC, wpI, getS, setS, blank, blank1, List.map_cons, List.map_nil, List.length_cons, List.length_nil, List.cons_append, List.nil_append, List.replicate, Nat.sub_self, asBool_b, asInt_i, asList_l, asTup_t, must_s, cop_lt, cop_le, cop_gt, cop_ge, bop_add, bop_sub, bop_mod, bop_fdiv, bop_mul, ixOp_t0, ixOp_t1, ixOp_l, bsem_lenl, bsem_lent, gcv_u, gcv_d, isiD_i, isiD_b, isTok_i, isTok_b, isTok_n, isTok_t, isTok_l, isTok_s, and_true, true_and, if_true, if_false, Bool.false_eq_true, Bool.true_eq_false, Bool.not_true, Bool.not_false, Bool.not_not, noList_i, noList_b, noList_n, noList_t, plain_n, plain_c, lenlim, bindT_1, bindT_2, Nat.reduceAdd, Nat.reduceSub, isNon_n, isNon_i, isNon_b, isNon_t, isNon_l, isNon_s, ite_self, not_true_eq_false, not_false_eq_true, implies_true, false_and, and_false, decide_true, decide_false, decide_not, ixOp_s0, ixOp_s1, ixOp_p, ixOp_p0, ixOp_p1, ixOp_i, bsem_lenp, bsem_leni, bindT_p, isTok_sky, isTok_ps, isTok_is, isTok_p, noList_p, asList_p, asList_il, cop_eqi, cop_nei, bsem_max2, bsem_min2, ge0, c_is_int_i, toNat_nat, rangeD_len, eq_self, cop_eqil, cop_neil, cop_eqps, cop_neps, cop_eqp, cop_nep, Bool.and_true, Bool.true_and, big1, big2, t_check_sky, c_check_sky, t_check_day, c_check_day, t_place_of, c_place_of]
      exact ite_k hk
    · have := sameP_len (u := u) (bs := bs) (d := d) (m := i)
      have g2 := rowP_len (u := u) (bs := bs) (d := d) i0
      have e : List.map (fun j => pairD (↑i, j)) (List.filter (fun j => decide (plc u bs j d = plc u bs (↑i) d)) (List.map (fun (j : Nat) => (i : Int) + 1 + ↑j) (List.range (↑bs.length - ((i : Int) + 1)).toNat))) = (rowP u bs d i).map pairD := by
        unfold rowP
        rw [List.map_map]
        rfl
      rw [e]
      refine ⟨?_, hk _ _ _ rfl⟩
      have : i * bs.length ≤ 3 * 4 := Nat.mul_le_mul (by omega) hl
      simp
      unfold lim
      omega
  · obtain ⟨s1, s2, s3, e1, rfl⟩ := hG
    try simp (maxSteps := 2000000) (disch := first | assumption | omega) only [runs, start, wpSs, wpS, wpE, wpEs, wpB, wpO, wpC, wpI, getS, setS, blank, blank1, List.map_cons, List.map_nil, List.length_cons, List.length_nil, List.cons_append, List.nil_append, List.replicate, Nat.sub_self, asBool_b, asInt_i, asList_l, asTup_t, must_s, cop_lt, cop_le, cop_gt, cop_ge, bop_add, bop_sub, bop_mod, bop_fdiv, bop_mul, ixOp_t0, ixOp_t1, ixOp_l, bsem_lenl, bsem_lent, gcv_u, gcv_d, isiD_i, isiD_b, isTok_i, isTok_b, isTok_n, isTok_t, isTok_l, isTok_s, and_true, true_and, if_true, if_false, Bool.false_eq_true, Bool.true_eq_false, Bool.not_true, Bool.not_false, Bool.not_not, noList_i, noList_b, noList_n, noList_t, plain_n, plain_c, lenlim, bindT_1, bindT_2, Nat.reduceAdd, Nat.reduceSub, isNon_n, isNon_i, isNon_b, isNon_t, isNon_l, isNon_s, ite_self, not_true_eq_false, not_false_eq_true, implies_true, false_and, and_false, decide_true, decide_false, decide_not, ixOp_s0, ixOp_s1, ixOp_p, ixOp_p0, ixOp_p1, ixOp_i, bsem_lenp, bsem_leni, bindT_p, isTok_sky, isTok_ps, isTok_is, isTok_p, noList_p, asList_p, asList_il, cop_eqi, cop_nei, bsem_max2, bsem_min2, ge0, c_is_int_i, toNat_nat, rangeD_len, eq_self, cop_eqil, cop_neil, cop_eqps, cop_neps, cop_eqp, cop_nep, Bool.and_true, Bool.true_and, big1, big2, t_check_sky, c_check_sky, t_check_day, c_check_day, t_place_of, c_place_of, b_same_place_4, b_same_place_5]
    exact hQ
end Sk
set_option linter.all false
namespace Sk

/-! arcs: the greatest way onward from a place, the least of these; by spaces -/
def far (u : Int) (ss : List Int) (x : Int) : Int := lmax (ss.map fun s => (s - x) % u)
def arcBy (u : Int) (ss : List Int) : Int := lmin (ss.map (far u ss))
/-- the spaces before each, with what is before the first -/
def spc : Int → List Int → List Int
  | _, [] => []
  | p, x :: r => (x - p) :: spc x r
def fnd (ss : List Int) : List Int := isort (dedup ss)
theorem mem_fnd {ss : List Int} {x : Int} : x ∈ fnd ss ↔ x ∈ ss := by
  unfold fnd
  rw [(isort_perm _).mem_iff]
  exact mem_dedup ss x
theorem fnd_sorted {ss : List Int} : (fnd ss).Pairwise (· < ·) := by
  have h1 := isort_sorted (dedup ss)
  have h2 : (fnd ss).Nodup := (isort_perm (dedup ss)).nodup_iff.mpr (nodup_dedup ss)
  have h3 : (fnd ss).Pairwise (fun a b => a ≤ b ∧ a ≠ b) := h1.and h2
  exact h3.imp fun h => by omega
theorem fnd_ne {ss : List Int} (h : ss ≠ []) : fnd ss ≠ [] := by
  obtain ⟨x, r, rfl⟩ := List.exists_cons_of_ne_nil h
  exact List.ne_nil_of_mem (mem_fnd.mpr (List.mem_cons_self))
theorem map_ne {α β : Type} {l : List α} {f : α → β} (h : l ≠ []) : l.map f ≠ [] := fun e => h (List.map_eq_nil_iff.mp e)
theorem far_congr {u x : Int} {a b : List Int} (ha : a ≠ []) (h : ∀ y, y ∈ a ↔ y ∈ b) : far u a x = far u b x := by
  have hb : b ≠ [] := by
    obtain ⟨y, r, rfl⟩ := List.exists_cons_of_ne_nil ha
    exact List.ne_nil_of_mem ((h y).mp (List.mem_cons_self))
  obtain ⟨m1, g1⟩ := lmax_spec _ (map_ne (f := fun s => (s - x) % u) hb)
  refine lmax_uniq ?_ fun y hy => ?_
  · obtain ⟨s, hs, e⟩ := List.mem_map.mp m1
    exact List.mem_map.mpr ⟨s, (h s).mpr hs, e⟩
  · obtain ⟨s, hs, rfl⟩ := List.mem_map.mp hy
    exact g1 _ (List.mem_map.mpr ⟨s, (h s).mp hs, rfl⟩)
theorem mod_down {u a : Int} (h0 : a < 0) (h1 : -u ≤ a) (hu : 0 < u) : a % u = a + u := by
  rw [← Int.add_emod_right]
  exact Int.emod_eq_of_lt (by omega) (by omega)
theorem getLast_ge {l : List Int} (h : l.Pairwise (· < ·)) {z x : Int} (hz : l.getLast? = some z) (hx : x ∈ l) : x ≤ z := by
  obtain ⟨r, rfl⟩ : ∃ r, l = r ++ [z] := by
    have hn : l ≠ [] := fun e => by subst e; simp at hz
    refine ⟨l.dropLast, ?_⟩
    have := List.dropLast_concat_getLast hn
    rw [List.getLast?_eq_some_getLast hn] at hz
    cases hz
    exact this.symm
  rcases List.mem_append.mp hx with h1 | h1
  · have := (List.pairwise_append.mp h).2.2 x h1 z (by simp)
    omega
  · simp at h1
    omega
/-- what is before a place in a row -/
def prv (u z : Int) (pre : List Int) : Int := (pre.getLast?).getD (z - u)
theorem far_at {u z x : Int} {pre post : List Int} (hp : (pre ++ x :: post).Pairwise (· < ·)) (hb : ∀ y ∈ pre ++ x :: post, 0 ≤ y ∧ y < u) (hz : (pre ++ x :: post).getLast? = some z) : far u (pre ++ x :: post) x = u - (x - prv u z pre) := by
  have hx := hb x (by simp)
  have hzm : z ∈ pre ++ x :: post := List.mem_of_getLast? hz
  have hzx : x ≤ z := getLast_ge hp hz (by simp)
  have hzb := hb z hzm
  refine lmax_uniq ?_ fun y hy => ?_
  · cases e : pre.getLast? with
    | none =>
      have : prv u z pre = z - u := by simp [prv, e]
      rw [this]
      refine List.mem_map.mpr ⟨z, hzm, ?_⟩
      rw [Int.emod_eq_of_lt (by omega) (by omega)]
      omega
    | some q =>
      have : prv u z pre = q := by simp [prv, e]
      rw [this]
      have hq : q ∈ pre := List.mem_of_getLast? e
      have hqx : q < x := (List.pairwise_append.mp hp).2.2 q hq x (by simp)
      have hqb := hb q (by simp [hq])
      refine List.mem_map.mpr ⟨q, by simp [hq], ?_⟩
      rw [mod_down (by omega) (by omega) (by omega)]
      omega
  · obtain ⟨s, hs, rfl⟩ := List.mem_map.mp hy
    have hsb := hb s hs
    have hsz := getLast_ge hp hz hs
    show (s - x) % u ≤ _
    rcases List.mem_append.mp hs with h1 | h1
    · have hsx : s < x := (List.pairwise_append.mp hp).2.2 s h1 x (by simp)
      rw [mod_down (by omega) (by omega) (by omega)]
      cases e : pre.getLast? with
      | none =>
        rw [List.getLast?_eq_none_iff] at e
        subst e
        cases h1
      | some q =>
        have : prv u z pre = q := by simp [prv, e]
        rw [this]
        have := getLast_ge (List.pairwise_append.mp hp).1 e h1
        omega
    · have hsx : x ≤ s := by
        rcases List.mem_cons.mp h1 with h2 | h2
        · omega
        · have := List.rel_of_pairwise_cons (List.pairwise_append.mp hp).2.1 h2
          omega
      rw [Int.emod_eq_of_lt (by omega) (by omega)]
      cases e : pre.getLast? with
      | none =>
        have : prv u z pre = z - u := by simp [prv, e]
        omega
      | some q =>
        have : prv u z pre = q := by simp [prv, e]
        have hq : q ∈ pre := List.mem_of_getLast? e
        have hqb := hb q (by simp [hq])
        omega
/-- the spaces are what the ways onward leave -/
theorem spc_eq {u z : Int} {l : List Int} (hp : l.Pairwise (· < ·)) (hb : ∀ y ∈ l, 0 ≤ y ∧ y < u) (hz : l.getLast? = some z) : spc (z - u) l = l.map fun x => u - far u l x := by
  have key : ∀ (rest pre : List Int), l = pre ++ rest → spc (prv u z pre) rest = rest.map fun x => u - far u l x := by
    intro rest
    induction rest with
    | nil => intro pre _; rfl
    | cons x r ih =>
      intro pre e
      have h1 : far u l x = u - (x - prv u z pre) := by
        subst e
        exact far_at hp hb hz
      have h2 := ih (pre ++ [x]) (by rw [e]; simp)
      have h3 : prv u z (pre ++ [x]) = x := by simp [prv]
      rw [h3] at h2
      simp only [spc, List.map_cons, h2, h1]
      congr 1
      omega
  have := key l [] rfl
  simpa [prv] using this
theorem far_bounds {u x : Int} {ss : List Int} (hu : 0 < u) (h : ss ≠ []) : 0 ≤ far u ss x ∧ far u ss x < u := by
  obtain ⟨m, _⟩ := lmax_spec _ (map_ne (f := fun s => (s - x) % u) h)
  obtain ⟨s, _, e⟩ := List.mem_map.mp m
  have : far u ss x = (s - x) % u := e.symm
  rw [this]
  exact ⟨Int.emod_nonneg _ (by omega), Int.emod_lt_of_pos _ hu⟩
theorem far_ge {u x s : Int} {ss : List Int} (h : s ∈ ss) : (s - x) % u ≤ far u ss x := (lmax_spec _ (map_ne (f := fun s => (s - x) % u) (List.ne_nil_of_mem h))).2 _ (List.mem_map.mpr ⟨s, h, rfl⟩)
theorem far_le {u x m : Int} {ss : List Int} (hn : ss ≠ []) (h : ∀ s ∈ ss, (s - x) % u ≤ m) : far u ss x ≤ m := by
  obtain ⟨g, _⟩ := lmax_spec _ (map_ne (f := fun s => (s - x) % u) hn)
  obtain ⟨s, hs, e⟩ := List.mem_map.mp g
  have : far u ss x = (s - x) % u := e.symm
  rw [this]
  exact h s hs
theorem arc_le {u x : Int} {ss : List Int} (h : x ∈ ss) : arcBy u ss ≤ far u ss x := (lmin_spec _ (map_ne (f := far u ss) (List.ne_nil_of_mem h))).2 _ (List.mem_map.mpr ⟨x, h, rfl⟩)
theorem arc_at {u : Int} {ss : List Int} (hn : ss ≠ []) : ∃ x ∈ ss, arcBy u ss = far u ss x := by
  obtain ⟨m, _⟩ := lmin_spec _ (map_ne (f := far u ss) hn)
  obtain ⟨x, hx, e⟩ := List.mem_map.mp m
  exact ⟨x, hx, e.symm⟩
theorem arc_bounds {u : Int} {ss : List Int} (hu : 0 < u) (hn : ss ≠ []) : 0 ≤ arcBy u ss ∧ arcBy u ss < u := by
  obtain ⟨x, _, e⟩ := arc_at (u := u) hn
  rw [e]
  exact far_bounds hu hn
/-- the program's arc -/
theorem arc_spc {u z : Int} {ss : List Int} (hn : ss ≠ []) (hu : 0 < u) (hb : ∀ y ∈ ss, 0 ≤ y ∧ y < u) (hz : (fnd ss).getLast? = some z) : u - lmax (spc (z - u) (fnd ss)) = arcBy u ss := by
  have hb2 : ∀ y ∈ fnd ss, 0 ≤ y ∧ y < u := fun y hy => hb y (mem_fnd.mp hy)
  rw [spc_eq fnd_sorted hb2 hz]
  have hf : ∀ x, far u (fnd ss) x = far u ss x := fun x => far_congr (fnd_ne hn) fun y => mem_fnd
  simp only [hf]
  obtain ⟨x, hx, e⟩ := arc_at (u := u) hn
  have : lmax ((fnd ss).map fun x => u - far u ss x) = u - arcBy u ss := by
    refine lmax_uniq (List.mem_map.mpr ⟨x, mem_fnd.mpr hx, by rw [e]⟩) fun y hy => ?_
    obtain ⟨s, hs, rfl⟩ := List.mem_map.mp hy
    have := arc_le (u := u) (mem_fnd.mp hs)
    show u - far u ss s ≤ _
    omega
  rw [this]
  omega
/-- no unit sees all nearer than some place does -/
theorem far_any {u y : Int} {ss : List Int} (hn : ss ≠ []) (hu : 0 < u) : ∃ x ∈ ss, far u ss x + (x - y) % u ≤ far u ss y := by
  obtain ⟨m, g⟩ := lmin_spec _ (map_ne (f := fun s => (s - y) % u) hn)
  obtain ⟨x, hx, e⟩ := List.mem_map.mp m
  refine ⟨x, hx, ?_⟩
  have h0 : 0 ≤ (x - y) % u := Int.emod_nonneg _ (by omega)
  have : far u ss x ≤ far u ss y - (x - y) % u := by
    refine far_le hn fun s hs => ?_
    have h1 := far_ge (u := u) (x := y) hs
    have h2 : (x - y) % u ≤ (s - y) % u := by
      have := g _ (List.mem_map.mpr ⟨s, hs, rfl⟩)
      rw [← e] at this
      exact this
    have h3 : (s - y) % u < u := Int.emod_lt_of_pos _ hu
    have h4 : (s - x) % u = (s - y) % u - (x - y) % u := by
      have : s - x = (s - y) - (x - y) := by omega
      rw [this, Int.sub_emod]
      exact Int.emod_eq_of_lt (by omega) (by omega)
    omega
  omega
theorem arc_le_any {u y : Int} {ss : List Int} (hn : ss ≠ []) (hu : 0 < u) : arcBy u ss ≤ far u ss y := by
  obtain ⟨x, hx, h⟩ := far_any (y := y) hn hu
  have := arc_le (u := u) hx
  have : 0 ≤ (x - y) % u := Int.emod_nonneg _ (by omega)
  omega
/-- where least arcs begin -/
theorem starts_iff {u y : Int} {ss : List Int} (hn : ss ≠ []) (hu : 0 < u) (hb : ∀ s ∈ ss, 0 ≤ s ∧ s < u) (hy : 0 ≤ y ∧ y < u) : (y ∈ ss ∧ far u ss y = arcBy u ss) ↔ ∀ s ∈ ss, (s - y) % u ≤ arcBy u ss := by
  constructor
  · rintro ⟨_, e⟩ s hs
    rw [← e]
    exact far_ge hs
  · intro h
    obtain ⟨x, hx, g⟩ := far_any (y := y) hn hu
    have h1 := arc_le (u := u) hx
    have h2 := far_le hn h
    have h3 : 0 ≤ (x - y) % u := Int.emod_nonneg _ (by omega)
    have h4 : (x - y) % u = 0 := by omega
    have hxb := hb x hx
    have : x = y := by
      by_cases c : y ≤ x
      · rw [Int.emod_eq_of_lt (by omega) (by omega)] at h4
        omega
      · rw [mod_down (by omega) (by omega) (by omega)] at h4
        omega
    subst this
    exact ⟨hx, by omega⟩
end Sk
set_option linter.all false
set_option maxRecDepth 10000
namespace Sk
open PySem
/-- some bodies -/
structure Sel (bs : List (Int × Int)) (l : List Int) : Prop where
  ps : 0 < l.length
  ok : ∀ x ∈ l, 0 ≤ x ∧ x < bs.length
  nd : l.Nodup
theorem nodup_bound : ∀ (n : Nat) (l : List Int), l.Nodup → (∀ x ∈ l, 0 ≤ x ∧ x < (n : Int)) → l.length ≤ n
  | 0, l, _, h => by
    cases l with
    | nil => simp
    | cons x r =>
      have := h x (by simp)
      omega
  | n + 1, l, hn, h => by
    have h1 : (l.erase (n : Int)).length ≤ n := by
      refine nodup_bound n _ (hn.erase _) fun x hx => ?_
      have h2 := h x (List.mem_of_mem_erase hx)
      have h3 : x ≠ (n : Int) := fun e => by
        subst e
        exact (hn.not_mem_erase) hx
      omega
    by_cases hm : (n : Int) ∈ l
    · rw [List.length_erase_of_mem hm] at h1
      omega
    · rw [List.erase_of_not_mem hm] at h1
      omega
theorem Sel.le {bs : List (Int × Int)} {l : List Int} (h : Sel bs l) : l.length ≤ bs.length := nodup_bound _ _ h.nd h.ok
theorem Sel.ne {bs : List (Int × Int)} {l : List Int} (h : Sel bs l) : l ≠ [] := List.length_pos_iff.mp h.ps
theorem dedup_nodup : ∀ {l : List Int}, l.Nodup → dedup l = l
  | [], _ => rfl
  | x :: r, h => by
    have h1 := List.nodup_cons.mp h
    have : r.contains x = false := by
      cases e : r.contains x with
      | false => rfl
      | true => exact absurd (List.contains_iff_mem.mp e) h1.1
    simp only [dedup, this, Bool.false_eq_true, if_false, dedup_nodup h1.2]
theorem lc_ints {f : D → (Option D → Prop) → Prop} {g : Int → Int} {Q : List D → Prop} {l : List Int} (h : ∀ x ∈ l, ∀ k : Option D → Prop, k (some (.int (g x))) → f (.int x) k) (q : Q ((l.map g).map .int)) : wpLc f (l.map .int) [] Q :=
  wpLc_mapM (i := PyData.int) (g := fun x => .int (g x)) h (by rw [List.map_map] at q; exact q)
theorem lc_bools {α : Type} {i : α → D} {f : D → (Option D → Prop) → Prop} {g : α → Bool} {Q : List D → Prop} {l : List α} (h : ∀ x ∈ l, ∀ k : Option D → Prop, k (some (.bool (g x))) → f (i x) k) (q : Q (l.map fun x => .bool (g x))) : wpLc f (l.map i) [] Q :=
  wpLc_mapM (i := i) (g := fun x => .bool (g x)) h q
theorem isiD_il {l : List Int} : isiD (intsD l) .list = true := rfl
theorem slOp_tail {l : List Int} : slOp (intsD l) (some 1) none = some (intsD (l.drop 1)) := by
  simp only [slOp, intsD, cutD, cutIx, List.length_map]
  rw [if_neg (by omega), ← List.map_drop, ← List.map_take]
  have e : min (1 : Int).toNat l.length = min 1 l.length := rfl
  rw [e]
  congr 3
  cases l with
  | nil => rfl
  | cons x r =>
    rw [List.length_cons, show min 1 (r.length + 1) = 1 by omega]
    simp
theorem zip_pairs {l m : List Int} : (((l.map PyData.int).zip (m.map PyData.int)).map fun p => PyData.tuple [p.1, p.2]) = (l.zip m).map pairD := by
  rw [List.zip_map, List.map_map]
  rfl
theorem ixOp_last {l : List Int} {z : Int} (h : l.getLast? = some z) : ixOp (intsD l) (.int (-1)) = some (.int z) := by
  refine atD_last ?_
  rw [List.getLast?_map, h]
  rfl
theorem spc_len : ∀ {p : Int} {l : List Int}, (spc p l).length = l.length
  | _, [] => rfl
  | _, x :: r => by simp [spc, spc_len]
theorem zip_filter (f : Int → Int) (p : Int × Int → Bool) (q : Int → Bool) : ∀ (W : List Int), (∀ x ∈ W, p (x, f x) = q x) → (((W.zip (W.map f)).filter p).map fun a => PyData.int a.1) = (W.filter q).map .int
  | [], _ => rfl
  | x :: W, h => by
    have h1 := h x (by simp)
    have h2 := zip_filter f p q W fun y hy => h y (by simp [hy])
    simp only [List.map_cons, List.zip_cons_cons, List.filter_cons, h1]
    cases q x <;> simp [h2]
theorem zip_spc : ∀ (x : Int) (r : List Int), ((x :: r).zip r).map (fun p => p.2 - p.1) = spc x r
  | _, [] => rfl
  | x, y :: r => by
    have := zip_spc y r
    simp only [List.zip_cons_cons, List.map_cons, spc]
    rw [this]
theorem lmax_same {a b : List Int} (ha : a ≠ []) (h : ∀ y, y ∈ a ↔ y ∈ b) : lmax a = lmax b := by
  have hb : b ≠ [] := by
    obtain ⟨y, r, rfl⟩ := List.exists_cons_of_ne_nil ha
    exact List.ne_nil_of_mem ((h y).mp (List.mem_cons_self))
  obtain ⟨m, g⟩ := lmax_spec b hb
  exact lmax_uniq ((h _).mpr m) fun y hy => g y ((h y).mp hy)
def spots (u : Int) (bs : List (Int × Int)) (l : List Int) (d : Int) : List Int := l.map fun b => plc u bs b d
theorem spots_ne {u d : Int} {bs : List (Int × Int)} {l : List Int} (h : Sel bs l) : spots u bs l d ≠ [] := map_ne h.ne
theorem plc_b {u d b : Int} {bs : List (Int × Int)} (h : Sky u bs) : 0 ≤ plc u bs b d ∧ plc u bs b d < u := ⟨Int.emod_nonneg _ (by have := h.pos; omega), Int.emod_lt_of_pos _ h.pos⟩
theorem spots_b {u d : Int} {bs : List (Int × Int)} {l : List Int} (h : Sky u bs) : ∀ y ∈ spots u bs l d, 0 ≤ y ∧ y < u := fun y hy => by
  obtain ⟨b, _, rfl⟩ := List.mem_map.mp hy
  exact plc_b h
theorem c_lpickL {l : List Int} {Q : D → Prop} {X : Exn → Prop} (h : 0 < l.length) (h2 : l.length ≤ 1000000) : sp_lpick [.dict [], .list (l.map .int)] Q X = ∀ r, r ∈ l → Q (.int r) := c_lpick (l := l) h h2
theorem ixOp_lastL {l : List D} {z : D} : ixOp (.list (l ++ [z])) (.int (-1)) = some z := atD_last (by simp)
/-- check_some(sky, value); slots: sky value one -/
def b_check_some_1 : Ss := .cons (.ifs (.cmp .ne (.lenSet (.var 1)) (.bi .len (.cons (.var 1) (.nil)))) (.cons (.raise .bodies) <| .nil) .nil) .nil
def b_check_some_0 : Ss := .cons (.ifs (.bool false (.cons (.inot (.isi (.var 1) .list)) (.cons (.cmp .eq (.var 1) (.lst .nil)) (.cons (.inot (.bi .all (.cons (.lc [2] (.list (.var 1)) .none (.call .is_int (.cons (.var 2) (.cons (.ci 0) (.cons (.bin .sub (.bi .len (.cons (.ix (.var 0) (.ci 1)) (.nil))) (.ci 1)) (.nil)))))) (.nil)))) (.nil))))) (.cons (.raise .bodies) <| .nil) .nil) b_check_some_1
def b_check_some : Ss := b_check_some_0
/-- arc_of(sky, some, day); slots: sky some day found body spaces a b -/
def b_arc_of_2 : Ss := .cons (.ret (.bin .sub (.ix (.var 0) (.ci 0)) (.bi .max (.cons (.var 5) (.nil))))) .nil
def b_arc_of_1 : Ss := .cons (.asg false 5 (.bin .add (.lc [6, 7] (.zip (.var 3) (.slc (.var 3) (.some (.ci 1)) .none)) .none (.bin .sub (.var 7) (.var 6))) (.lst (.cons (.bin .sub (.bin .add (.ix (.var 3) (.ci 0)) (.ix (.var 0) (.ci 0))) (.ix (.var 3) (.neg (.ci 1)))) (.nil))))) b_arc_of_2
def b_arc_of_0 : Ss := .cons (.asg false 3 (.srtSet (.lc [4] (.list (.var 1)) .none (.call .place_of (.cons (.var 0) (.cons (.var 4) (.cons (.var 2) (.nil)))))))) b_arc_of_1
def b_arc_of : Ss := b_arc_of_0
/-- arc(sky, some, day); slots: sky some day -/
def b_arc_3 : Ss := .cons (.ret (.call .arc_of (.cons (.var 0) (.cons (.var 1) (.cons (.var 2) (.nil)))))) .nil
def b_arc_2 : Ss := .cons (.expr (.call .check_day (.cons (.var 2) (.nil)))) b_arc_3
def b_arc_1 : Ss := .cons (.expr (.call .check_some (.cons (.var 0) (.cons (.var 1) (.nil))))) b_arc_2
def b_arc_0 : Ss := .cons (.expr (.call .check_sky (.cons (.var 0) (.nil)))) b_arc_1
def b_arc : Ss := b_arc_0
/-- arc_starts(sky, some, day); slots: sky some day found body spaces a b one space -/
def b_arc_starts_5 : Ss := .cons (.ret (.lc [8, 9] (.zip (.var 3) (.var 5)) (.some (.cmp .eq (.var 9) (.bi .max (.cons (.var 5) (.nil))))) (.var 8))) .nil
def b_arc_starts_4 : Ss := .cons (.asg false 5 (.bin .add (.lst (.cons (.bin .sub (.bin .add (.ix (.var 3) (.ci 0)) (.ix (.var 0) (.ci 0))) (.ix (.var 3) (.neg (.ci 1)))) (.nil))) (.lc [6, 7] (.zip (.var 3) (.slc (.var 3) (.some (.ci 1)) .none)) .none (.bin .sub (.var 7) (.var 6))))) b_arc_starts_5
def b_arc_starts_3 : Ss := .cons (.asg false 3 (.srtSet (.lc [4] (.list (.var 1)) .none (.call .place_of (.cons (.var 0) (.cons (.var 4) (.cons (.var 2) (.nil)))))))) b_arc_starts_4
def b_arc_starts_2 : Ss := .cons (.expr (.call .check_day (.cons (.var 2) (.nil)))) b_arc_starts_3
def b_arc_starts_1 : Ss := .cons (.expr (.call .check_some (.cons (.var 0) (.cons (.var 1) (.nil))))) b_arc_starts_2
def b_arc_starts_0 : Ss := .cons (.expr (.call .check_sky (.cons (.var 0) (.nil)))) b_arc_starts_1
def b_arc_starts : Ss := b_arc_starts_0
/-- order(sky, day); slots: sky day unit body -/
def b_order_2 : Ss := .cons (.ret (.lc [2, 3] (.list (.bi .sorted (.cons (.lc [3] (.rg1 (.bi .len (.cons (.ix (.var 0) (.ci 1)) (.nil)))) .none (.tup (.cons (.call .place_of (.cons (.var 0) (.cons (.var 3) (.cons (.var 1) (.nil))))) (.cons (.var 3) (.nil))))) (.nil)))) .none (.var 3))) .nil
def b_order_1 : Ss := .cons (.expr (.call .check_day (.cons (.var 1) (.nil)))) b_order_2
def b_order_0 : Ss := .cons (.expr (.call .check_sky (.cons (.var 0) (.nil)))) b_order_1
def b_order : Ss := b_order_0
/-- bodies_at(sky, unit, day); slots: sky unit day body -/
def b_bodies_at_3 : Ss := .cons (.ret (.lc [3] (.rg1 (.bi .len (.cons (.ix (.var 0) (.ci 1)) (.nil)))) (.some (.cmp .eq (.call .place_of (.cons (.var 0) (.cons (.var 3) (.cons (.var 2) (.nil))))) (.var 1))) (.var 3))) .nil
def b_bodies_at_2 : Ss := .cons (.ifs (.inot (.call .is_int (.cons (.var 1) (.cons (.ci 0) (.cons (.bin .sub (.ix (.var 0) (.ci 0)) (.ci 1)) (.nil)))))) (.cons (.ret (.lst .nil)) <| .nil) .nil) b_bodies_at_3
def b_bodies_at_1 : Ss := .cons (.expr (.call .check_day (.cons (.var 2) (.nil)))) b_bodies_at_2
def b_bodies_at_0 : Ss := .cons (.expr (.call .check_sky (.cons (.var 0) (.nil)))) b_bodies_at_1
def b_bodies_at : Ss := b_bodies_at_0
/-- _law_some(draws, sky); slots: draws sky left found k -/
def b_law_some_2l_1 : Ss := .cons (.rem 2 (.ix (.var 3) (.neg (.ci 1)))) .nil
def b_law_some_2l_0 : Ss := .cons (.app 3 (.call .lpick (.cons (.var 0) (.cons (.var 2) (.nil))))) b_law_some_2l_1
def b_law_some_5 : Ss := .cons (.ret (.var 3)) .nil
def b_law_some_4 : Ss := .cons (.shut 2) b_law_some_5
def b_law_some_3 : Ss := .cons (.shut 3) b_law_some_4
def b_law_some_2 : Ss := .cons (.fors [4] (.rg1 (.bin .add (.ci 1) (.call .ldraw (.cons (.var 0) (.cons (.bi .len (.cons (.ix (.var 1) (.ci 1)) (.nil))) (.nil)))))) b_law_some_2l_0) b_law_some_3
def b_law_some_1 : Ss := .cons (.own 3 (.lst .nil)) b_law_some_2
def b_law_some_0 : Ss := .cons (.own 2 (.lstRg (.some (.ci 0)) (.some (.bi .len (.cons (.ix (.var 1) (.ci 1)) (.nil)))) .none)) b_law_some_1
def b_law_some : Ss := b_law_some_0
/-- _law_arc(sky, some, day); slots: sky some day units spots body one far -/
def b_law_arc_2 : Ss := .cons (.ret (.bi .min (.cons (.lc [6] (.list (.var 4)) .none (.bi .max (.cons (.lc [7] (.list (.var 4)) .none (.bin .mod (.bin .sub (.var 7) (.var 6)) (.var 3))) (.nil)))) (.nil)))) .nil
def b_law_arc_1 : Ss := .cons (.asg false 4 (.lc [5] (.list (.var 1)) .none (.call .lat (.cons (.var 0) (.cons (.var 5) (.cons (.var 2) (.nil))))))) b_law_arc_2
def b_law_arc_0 : Ss := .cons (.asg false 3 (.ix (.var 0) (.ci 0))) b_law_arc_1
def b_law_arc : Ss := b_law_arc_0
def sp_check_some : Spec := fun ds Q X => ∃ (u : Int) (bs : List (Int × Int)) (l : List Int), ds = [skyD u bs, intsD l] ∧ (Sky u bs) ∧ (Sel bs l) ∧ (Q (.none))
theorem c_check_some {u : Int} {bs : List (Int × Int)} {l : List Int} {Q : D → Prop} {X : Exn → Prop} (h0 : Sky u bs) (h1 : Sel bs l) : sp_check_some [skyD u bs, intsD l] Q X = (Q (.none)) := by
  simp only [eq_iff_iff]
  constructor
  · rintro ⟨u', bs', l', e, _, _, h⟩
    simp only [List.cons.injEq, PyData.int.injEq, PyData.bool.injEq, skyD_eq, intsD_eq, pairsD_eq, pairD_eq, and_true, true_and] at e
    obtain ⟨⟨rfl, rfl⟩, rfl⟩ := e
    exact h
  · exact fun h => ⟨u, bs, l, rfl, h0, h1, h⟩
theorem r_check_some {T : Fn → Spec} (t_is_int : T .is_int = sp_is_int) {ds : List D} {Q : D → Prop} {X : Exn → Prop} (h : sp_check_some ds Q X) : ds.length = 2 ∧ runs T 3 b_check_some ds Q X := by
  obtain ⟨u, bs, l, rfl, hs, h1, hQ⟩ := h
  refine ⟨rfl, ?_⟩
  have hn := h1.le
  have h4 := hs.l4
  have hne := h1.ne
  try simp (maxSteps := 2000000) (disch := first | assumption | omega) only [runs, start, wpSs, wpS, wpE, wpEs, wpB, wpO, wpC, wpI, getS, setS, blank, blank1, List.map_cons, List.map_nil, List.length_cons, List.length_nil, List.cons_append, List.nil_append, List.replicate, Nat.sub_self, asBool_b, asInt_i, asList_l, asTup_t, must_s, cop_lt, cop_le, cop_gt, cop_ge, bop_add, bop_sub, bop_mod, bop_fdiv, bop_mul, ixOp_t0, ixOp_t1, ixOp_l, bsem_lenl, bsem_lent, gcv_u, gcv_d, isiD_i, isiD_b, isTok_i, isTok_b, isTok_n, isTok_t, isTok_l, isTok_s, and_true, true_and, if_true, if_false, Bool.false_eq_true, Bool.true_eq_false, Bool.not_true, Bool.not_false, Bool.not_not, noList_i, noList_b, noList_n, noList_t, plain_n, plain_c, lenlim, bindT_1, bindT_2, Nat.reduceAdd, Nat.reduceSub, isNon_n, isNon_i, isNon_b, isNon_t, isNon_l, isNon_s, ite_self, not_true_eq_false, not_false_eq_true, implies_true, false_and, and_false, decide_true, decide_false, decide_not, ixOp_s0, ixOp_s1, ixOp_p, ixOp_p0, ixOp_p1, ixOp_i, bsem_lenp, bsem_leni, bindT_p, isTok_sky, isTok_ps, isTok_is, isTok_p, noList_p, asList_p, asList_il, cop_eqi, cop_nei, bsem_max2, bsem_min2, ge0, c_is_int_i, toNat_nat, rangeD_len, eq_self, cop_eqil, cop_neil, cop_eqps, cop_neps, cop_eqp, cop_nep, Bool.and_true, Bool.true_and, big1, big2, cop_eqi0, cop_nei0, cop_eqp0, cop_nep0, bop_addps, bop_addis, bsem_maxl, bsem_minl, mtTy_index, msem_index, c_lpick2, c_lpick3, t_is_int, c_is_int, b_check_some, b_check_some_0, isiD_il, hne]
  refine ⟨by rw [List.length_map]; unfold lim; omega, ?_⟩
  refine lc_bools (i := PyData.int) (g := fun _ => true) (fun x hx k hk => ?_) ?_
  · have := h1.ok x hx
    have e2 : isInt (.int x) 0 ((bs.length : Int) - 1) = true := isInt_iff.mpr ⟨x, rfl, by omega, by omega⟩
    try simp (maxSteps := 2000000) (disch := first | assumption | omega) only [runs, start, wpSs, wpS, wpE, wpEs, wpB, wpO, wpC, wpI, getS, setS, blank, blank1, List.map_cons, List.map_nil, List.length_cons, List.length_nil, List.cons_append, List.nil_append, List.replicate, Nat.sub_self, asBool_b, asInt_i, asList_l, asTup_t, must_s, cop_lt, cop_le, cop_gt, cop_ge, bop_add, bop_sub, bop_mod, bop_fdiv, bop_mul, ixOp_t0, ixOp_t1, ixOp_l, bsem_lenl, bsem_lent, gcv_u, gcv_d, isiD_i, isiD_b, isTok_i, isTok_b, isTok_n, isTok_t, isTok_l, isTok_s, and_true, true_and, if_true, if_false, Bool.false_eq_true, Bool.true_eq_false, Bool.not_true, Bool.not_false, Bool.not_not, noList_i, noList_b, noList_n, noList_t, plain_n, plain_c, lenlim, bindT_1, bindT_2, Nat.reduceAdd, Nat.reduceSub, isNon_n, isNon_i, isNon_b, isNon_t, isNon_l, isNon_s, ite_self, not_true_eq_false, not_false_eq_true, implies_true, false_and, and_false, decide_true, decide_false, decide_not, ixOp_s0, ixOp_s1, ixOp_p, ixOp_p0, ixOp_p1, ixOp_i, bsem_lenp, bsem_leni, bindT_p, isTok_sky, isTok_ps, isTok_is, isTok_p, noList_p, asList_p, asList_il, cop_eqi, cop_nei, bsem_max2, bsem_min2, ge0, c_is_int_i, toNat_nat, rangeD_len, eq_self, cop_eqil, cop_neil, cop_eqps, cop_neps, cop_eqp, cop_nep, Bool.and_true, Bool.true_and, big1, big2, cop_eqi0, cop_nei0, cop_eqp0, cop_nep0, bop_addps, bop_addis, bsem_maxl, bsem_minl, mtTy_index, msem_index, c_lpick2, c_lpick3, t_is_int, c_is_int, e2]
    exact hk
  · rw [bsem_all]
    have e : l.all (fun _ => true) = true := by simp
    have e3 : ints? (l.map PyData.int) = some l := ints?_map l
    have e4 : dedup l = l := dedup_nodup h1.nd
    try simp (maxSteps := 2000000) (disch := first | assumption | omega) only [runs, start, wpSs, wpS, wpE, wpEs, wpB, wpO, wpC, wpI, getS, setS, blank, blank1, List.map_cons, List.map_nil, List.length_cons, List.length_nil, List.cons_append, List.nil_append, List.replicate, Nat.sub_self, asBool_b, asInt_i, asList_l, asTup_t, must_s, cop_lt, cop_le, cop_gt, cop_ge, bop_add, bop_sub, bop_mod, bop_fdiv, bop_mul, ixOp_t0, ixOp_t1, ixOp_l, bsem_lenl, bsem_lent, gcv_u, gcv_d, isiD_i, isiD_b, isTok_i, isTok_b, isTok_n, isTok_t, isTok_l, isTok_s, and_true, true_and, if_true, if_false, Bool.false_eq_true, Bool.true_eq_false, Bool.not_true, Bool.not_false, Bool.not_not, noList_i, noList_b, noList_n, noList_t, plain_n, plain_c, lenlim, bindT_1, bindT_2, Nat.reduceAdd, Nat.reduceSub, isNon_n, isNon_i, isNon_b, isNon_t, isNon_l, isNon_s, ite_self, not_true_eq_false, not_false_eq_true, implies_true, false_and, and_false, decide_true, decide_false, decide_not, ixOp_s0, ixOp_s1, ixOp_p, ixOp_p0, ixOp_p1, ixOp_i, bsem_lenp, bsem_leni, bindT_p, isTok_sky, isTok_ps, isTok_is, isTok_p, noList_p, asList_p, asList_il, cop_eqi, cop_nei, bsem_max2, bsem_min2, ge0, c_is_int_i, toNat_nat, rangeD_len, eq_self, cop_eqil, cop_neil, cop_eqps, cop_neps, cop_eqp, cop_nep, Bool.and_true, Bool.true_and, big1, big2, cop_eqi0, cop_nei0, cop_eqp0, cop_nep0, bop_addps, bop_addis, bsem_maxl, bsem_minl, mtTy_index, msem_index, c_lpick2, c_lpick3, t_is_int, c_is_int, e, b_check_some_1, List.length_map, e3, e4, Option.map_some]
    exact ⟨by omega, hQ⟩
def sp_arc_of : Spec := fun ds Q X => ∃ (u : Int) (bs : List (Int × Int)) (l : List Int) (d : Int), ds = [skyD u bs, intsD l, .int d] ∧ (Sky u bs) ∧ (Sel bs l) ∧ (-1000 ≤ d) ∧ (d ≤ 10000000) ∧ (Q (.int (arcBy u (spots u bs l d))))
theorem c_arc_of {u : Int} {bs : List (Int × Int)} {l : List Int} {d : Int} {Q : D → Prop} {X : Exn → Prop} (h0 : Sky u bs) (h1 : Sel bs l) (h2 : -1000 ≤ d) (h3 : d ≤ 10000000) : sp_arc_of [skyD u bs, intsD l, .int d] Q X = (Q (.int (arcBy u (spots u bs l d)))) := by
  simp only [eq_iff_iff]
  constructor
  · rintro ⟨u', bs', l', d', e, _, _, _, _, h⟩
    simp only [List.cons.injEq, PyData.int.injEq, PyData.bool.injEq, skyD_eq, intsD_eq, pairsD_eq, pairD_eq, and_true, true_and] at e
    obtain ⟨⟨rfl, rfl⟩, rfl, rfl⟩ := e
    exact h
  · exact fun h => ⟨u, bs, l, d, rfl, h0, h1, h2, h3, h⟩
theorem r_arc_of {T : Fn → Spec} (t_place_of : T .place_of = sp_place_of) {ds : List D} {Q : D → Prop} {X : Exn → Prop} (h : sp_arc_of ds Q X) : ds.length = 3 ∧ runs T 8 b_arc_of ds Q X := by
  obtain ⟨u, bs, l, d, rfl, hs, h1, h2, h3, hQ⟩ := h
  refine ⟨rfl, ?_⟩
  have hn := h1.le
  have h4 := hs.l4
  have hu := hs.pos
  try simp (maxSteps := 2000000) (disch := first | assumption | omega) only [runs, start, wpSs, wpS, wpE, wpEs, wpB, wpO, wpC, wpI, getS, setS, blank, blank1, List.map_cons, List.map_nil, List.length_cons, List.length_nil, List.cons_append, List.nil_append, List.replicate, Nat.sub_self, asBool_b, asInt_i, asList_l, asTup_t, must_s, cop_lt, cop_le, cop_gt, cop_ge, bop_add, bop_sub, bop_mod, bop_fdiv, bop_mul, ixOp_t0, ixOp_t1, ixOp_l, bsem_lenl, bsem_lent, gcv_u, gcv_d, isiD_i, isiD_b, isTok_i, isTok_b, isTok_n, isTok_t, isTok_l, isTok_s, and_true, true_and, if_true, if_false, Bool.false_eq_true, Bool.true_eq_false, Bool.not_true, Bool.not_false, Bool.not_not, noList_i, noList_b, noList_n, noList_t, plain_n, plain_c, lenlim, bindT_1, bindT_2, Nat.reduceAdd, Nat.reduceSub, isNon_n, isNon_i, isNon_b, isNon_t, isNon_l, isNon_s, ite_self, not_true_eq_false, not_false_eq_true, implies_true, false_and, and_false, decide_true, decide_false, decide_not, ixOp_s0, ixOp_s1, ixOp_p, ixOp_p0, ixOp_p1, ixOp_i, bsem_lenp, bsem_leni, bindT_p, isTok_sky, isTok_ps, isTok_is, isTok_p, noList_p, asList_p, asList_il, cop_eqi, cop_nei, bsem_max2, bsem_min2, ge0, c_is_int_i, toNat_nat, rangeD_len, eq_self, cop_eqil, cop_neil, cop_eqps, cop_neps, cop_eqp, cop_nep, Bool.and_true, Bool.true_and, big1, big2, cop_eqi0, cop_nei0, cop_eqp0, cop_nep0, bop_addps, bop_addis, bsem_maxl, bsem_minl, mtTy_index, msem_index, c_lpick2, c_lpick3, t_place_of, c_place_of, b_arc_of, b_arc_of_0]
  refine ⟨by rw [List.length_map]; unfold lim; omega, ?_⟩
  refine lc_ints (g := fun b => plc u bs b d) (fun x hx k hk => ?_) ?_
  · have := h1.ok x hx
    have a1 := this.1
    have a2 := this.2
    try simp (maxSteps := 2000000) (disch := first | assumption | omega) only [runs, start, wpSs, wpS, wpE, wpEs, wpB, wpO, wpC, wpI, getS, setS, blank, blank1, List.map_cons, List.map_nil, List.length_cons, List.length_nil, List.cons_append, List.nil_append, List.replicate, Nat.sub_self, asBool_b, asInt_i, asList_l, asTup_t, must_s, cop_lt, cop_le, cop_gt, cop_ge, bop_add, bop_sub, bop_mod, bop_fdiv, bop_mul, ixOp_t0, ixOp_t1, ixOp_l, bsem_lenl, bsem_lent, gcv_u, gcv_d, isiD_i, isiD_b, isTok_i, isTok_b, isTok_n, isTok_t, isTok_l, isTok_s, and_true, true_and, if_true, if_false, Bool.false_eq_true, Bool.true_eq_false, Bool.not_true, Bool.not_false, Bool.not_not, noList_i, noList_b, noList_n, noList_t, plain_n, plain_c, lenlim, bindT_1, bindT_2, Nat.reduceAdd, Nat.reduceSub, isNon_n, isNon_i, isNon_b, isNon_t, isNon_l, isNon_s, ite_self, not_true_eq_false, not_false_eq_true, implies_true, false_and, and_false, decide_true, decide_false, decide_not, ixOp_s0, ixOp_s1, ixOp_p, ixOp_p0, ixOp_p1, ixOp_i, bsem_lenp, bsem_leni, bindT_p, isTok_sky, isTok_ps, isTok_is, isTok_p, noList_p, asList_p, asList_il, cop_eqi, cop_nei, bsem_max2, bsem_min2, ge0, c_is_int_i, toNat_nat, rangeD_len, eq_self, cop_eqil, cop_neil, cop_eqps, cop_neps, cop_eqp, cop_nep, Bool.and_true, Bool.true_and, big1, big2, cop_eqi0, cop_nei0, cop_eqp0, cop_nep0, bop_addps, bop_addis, bsem_maxl, bsem_minl, mtTy_index, msem_index, c_lpick2, c_lpick3, t_place_of, c_place_of]
    exact hk
  refine ⟨by rw [List.length_map, List.length_map]; omega, ?_⟩
  rw [ints?_map]
  show wpSs T b_arc_of_1 [.d (skyD u bs), .d (intsD l), .d (.int d), .d (intsD (fnd (spots u bs l d))), .no, .no, .no, .no] _
  have hl : (fnd (spots u bs l d)).length ≤ l.length := by
    have e : (fnd (spots u bs l d)).length = (dedup (spots u bs l d)).length := (isort_perm _).length_eq
    rw [e]
    refine Nat.le_trans (dedup_len _) ?_
    simp [spots]
  obtain ⟨z, hz⟩ : ∃ z, (fnd (spots u bs l d)).getLast? = some z := by
    cases e : (fnd (spots u bs l d)).getLast? with
    | some z => exact ⟨z, rfl⟩
    | none => exact absurd (List.getLast?_eq_none_iff.mp e) (fnd_ne (spots_ne h1))
  rw [← arc_spc (spots_ne h1) hu (spots_b hs) hz] at hQ
  obtain ⟨x, r, e⟩ := List.exists_cons_of_ne_nil (fnd_ne (spots_ne (u := u) (d := d) h1))
  rw [e] at hQ hz hl ⊢
  have l0 : (0 : Int) < (x :: r).length := by simp
  have n0 : nth (x :: r) 0 = x := rfl
  try simp (maxSteps := 2000000) (disch := first | assumption | omega) only [runs, start, wpSs, wpS, wpE, wpEs, wpB, wpO, wpC, wpI, getS, setS, blank, blank1, List.map_cons, List.map_nil, List.length_cons, List.length_nil, List.cons_append, List.nil_append, List.replicate, Nat.sub_self, asBool_b, asInt_i, asList_l, asTup_t, must_s, cop_lt, cop_le, cop_gt, cop_ge, bop_add, bop_sub, bop_mod, bop_fdiv, bop_mul, ixOp_t0, ixOp_t1, ixOp_l, bsem_lenl, bsem_lent, gcv_u, gcv_d, isiD_i, isiD_b, isTok_i, isTok_b, isTok_n, isTok_t, isTok_l, isTok_s, and_true, true_and, if_true, if_false, Bool.false_eq_true, Bool.true_eq_false, Bool.not_true, Bool.not_false, Bool.not_not, noList_i, noList_b, noList_n, noList_t, plain_n, plain_c, lenlim, bindT_1, bindT_2, Nat.reduceAdd, Nat.reduceSub, isNon_n, isNon_i, isNon_b, isNon_t, isNon_l, isNon_s, ite_self, not_true_eq_false, not_false_eq_true, implies_true, false_and, and_false, decide_true, decide_false, decide_not, ixOp_s0, ixOp_s1, ixOp_p, ixOp_p0, ixOp_p1, ixOp_i, bsem_lenp, bsem_leni, bindT_p, isTok_sky, isTok_ps, isTok_is, isTok_p, noList_p, asList_p, asList_il, cop_eqi, cop_nei, bsem_max2, bsem_min2, ge0, c_is_int_i, toNat_nat, rangeD_len, eq_self, cop_eqil, cop_neil, cop_eqps, cop_neps, cop_eqp, cop_nep, Bool.and_true, Bool.true_and, big1, big2, cop_eqi0, cop_nei0, cop_eqp0, cop_nep0, bop_addps, bop_addis, bsem_maxl, bsem_minl, mtTy_index, msem_index, c_lpick2, c_lpick3, t_place_of, c_place_of, b_arc_of_1, slOp_tail, zip_pairs, ixOp_last hz, n0, List.drop_one, List.tail_cons]
  have ez : List.map (fun p => PyData.tuple [p.1, p.2]) ((PyData.int x :: List.map PyData.int r).zip (List.map PyData.int r)) = ((x :: r).zip r).map pairD := zip_pairs (l := x :: r) (m := r)
  rw [ez]
  rw [List.length_cons] at hl
  refine ⟨by rw [List.length_map, List.length_zip]; unfold lim; omega, ?_⟩
  refine wpLc_mapM (i := pairD) (g := fun p => .int (p.2 - p.1)) (fun p hp k hk => ?_) ?_
  · try simp (maxSteps := 2000000) (disch := first | assumption | omega) only [runs, start, wpSs, wpS, wpE, wpEs, wpB, wpO, wpC, wpI, getS, setS, blank, blank1, List.map_cons, List.map_nil, List.length_cons, List.length_nil, List.cons_append, List.nil_append, List.replicate, Nat.sub_self, asBool_b, asInt_i, asList_l, asTup_t, must_s, cop_lt, cop_le, cop_gt, cop_ge, bop_add, bop_sub, bop_mod, bop_fdiv, bop_mul, ixOp_t0, ixOp_t1, ixOp_l, bsem_lenl, bsem_lent, gcv_u, gcv_d, isiD_i, isiD_b, isTok_i, isTok_b, isTok_n, isTok_t, isTok_l, isTok_s, and_true, true_and, if_true, if_false, Bool.false_eq_true, Bool.true_eq_false, Bool.not_true, Bool.not_false, Bool.not_not, noList_i, noList_b, noList_n, noList_t, plain_n, plain_c, lenlim, bindT_1, bindT_2, Nat.reduceAdd, Nat.reduceSub, isNon_n, isNon_i, isNon_b, isNon_t, isNon_l, isNon_s, ite_self, not_true_eq_false, not_false_eq_true, implies_true, false_and, and_false, decide_true, decide_false, decide_not, ixOp_s0, ixOp_s1, ixOp_p, ixOp_p0, ixOp_p1, ixOp_i, bsem_lenp, bsem_leni, bindT_p, isTok_sky, isTok_ps, isTok_is, isTok_p, noList_p, asList_p, asList_il, cop_eqi, cop_nei, bsem_max2, bsem_min2, ge0, c_is_int_i, toNat_nat, rangeD_len, eq_self, cop_eqil, cop_neil, cop_eqps, cop_neps, cop_eqp, cop_nep, Bool.and_true, Bool.true_and, big1, big2, cop_eqi0, cop_nei0, cop_eqp0, cop_nep0, bop_addps, bop_addis, bsem_maxl, bsem_minl, mtTy_index, msem_index, c_lpick2, c_lpick3, t_place_of, c_place_of]
    exact hk
  have e5 : ((x :: r).zip r).map (fun p => PyData.int (p.2 - p.1)) = (spc x r).map .int := by
    rw [← zip_spc, List.map_map]
    rfl
  rw [e5]
  have l5 : (spc x r).length = r.length := spc_len
  show must (bop .add (intsD (spc x r)) (intsD [x + u - z])) _
  rw [bop_addis (by simp; omega)]
  have l6 : 0 < (spc x r ++ [x + u - z]).length := by simp
  try simp (maxSteps := 2000000) (disch := first | assumption | omega) only [runs, start, wpSs, wpS, wpE, wpEs, wpB, wpO, wpC, wpI, getS, setS, blank, blank1, List.map_cons, List.map_nil, List.length_cons, List.length_nil, List.cons_append, List.nil_append, List.replicate, Nat.sub_self, asBool_b, asInt_i, asList_l, asTup_t, must_s, cop_lt, cop_le, cop_gt, cop_ge, bop_add, bop_sub, bop_mod, bop_fdiv, bop_mul, ixOp_t0, ixOp_t1, ixOp_l, bsem_lenl, bsem_lent, gcv_u, gcv_d, isiD_i, isiD_b, isTok_i, isTok_b, isTok_n, isTok_t, isTok_l, isTok_s, and_true, true_and, if_true, if_false, Bool.false_eq_true, Bool.true_eq_false, Bool.not_true, Bool.not_false, Bool.not_not, noList_i, noList_b, noList_n, noList_t, plain_n, plain_c, lenlim, bindT_1, bindT_2, Nat.reduceAdd, Nat.reduceSub, isNon_n, isNon_i, isNon_b, isNon_t, isNon_l, isNon_s, ite_self, not_true_eq_false, not_false_eq_true, implies_true, false_and, and_false, decide_true, decide_false, decide_not, ixOp_s0, ixOp_s1, ixOp_p, ixOp_p0, ixOp_p1, ixOp_i, bsem_lenp, bsem_leni, bindT_p, isTok_sky, isTok_ps, isTok_is, isTok_p, noList_p, asList_p, asList_il, cop_eqi, cop_nei, bsem_max2, bsem_min2, ge0, c_is_int_i, toNat_nat, rangeD_len, eq_self, cop_eqil, cop_neil, cop_eqps, cop_neps, cop_eqp, cop_nep, Bool.and_true, Bool.true_and, big1, big2, cop_eqi0, cop_nei0, cop_eqp0, cop_nep0, bop_addps, bop_addis, bsem_maxl, bsem_minl, mtTy_index, msem_index, c_lpick2, c_lpick3, t_place_of, c_place_of, b_arc_of_2]
  have e7 : lmax (spc x r ++ [x + u - z]) = lmax (spc (z - u) (x :: r)) := by
    refine lmax_same (by simp) fun y => ?_
    have e8 : x + u - z = x - (z - u) := by omega
    simp only [spc, List.mem_append, List.mem_cons, List.not_mem_nil, or_false, e8]
    exact Or.comm
  rw [e7]
  exact hQ
def sp_arc : Spec := fun ds Q X => ∃ (u : Int) (bs : List (Int × Int)) (l : List Int) (d : Int), ds = [skyD u bs, intsD l, .int d] ∧ (Sky u bs) ∧ (Sel bs l) ∧ (0 ≤ d) ∧ (d ≤ 1000000) ∧ (Q (.int (arcBy u (spots u bs l d))))
theorem c_arc {u : Int} {bs : List (Int × Int)} {l : List Int} {d : Int} {Q : D → Prop} {X : Exn → Prop} (h0 : Sky u bs) (h1 : Sel bs l) (h2 : 0 ≤ d) (h3 : d ≤ 1000000) : sp_arc [skyD u bs, intsD l, .int d] Q X = (Q (.int (arcBy u (spots u bs l d)))) := by
  simp only [eq_iff_iff]
  constructor
  · rintro ⟨u', bs', l', d', e, _, _, _, _, h⟩
    simp only [List.cons.injEq, PyData.int.injEq, PyData.bool.injEq, skyD_eq, intsD_eq, pairsD_eq, pairD_eq, and_true, true_and] at e
    obtain ⟨⟨rfl, rfl⟩, rfl, rfl⟩ := e
    exact h
  · exact fun h => ⟨u, bs, l, d, rfl, h0, h1, h2, h3, h⟩
theorem r_arc {T : Fn → Spec} (t_check_sky : T .check_sky = sp_check_sky) (t_check_some : T .check_some = sp_check_some) (t_check_day : T .check_day = sp_check_day) (t_arc_of : T .arc_of = sp_arc_of) {ds : List D} {Q : D → Prop} {X : Exn → Prop} (h : sp_arc ds Q X) : ds.length = 3 ∧ runs T 3 b_arc ds Q X := by
  obtain ⟨u, bs, l, d, rfl, hs, h1, h2, h3, hQ⟩ := h
  refine ⟨rfl, ?_⟩
  try simp (maxSteps := 2000000) (disch := first | assumption | omega) only [runs, start, wpSs, wpS, wpE, wpEs, wpB, wpO, wpC, wpI, getS, setS, blank, blank1, List.map_cons, List.map_nil, List.length_cons, List.length_nil, List.cons_append, List.nil_append, List.replicate, Nat.sub_self, asBool_b, asInt_i, asList_l, asTup_t, must_s, cop_lt, cop_le, cop_gt, cop_ge, bop_add, bop_sub, bop_mod, bop_fdiv, bop_mul, ixOp_t0, ixOp_t1, ixOp_l, bsem_lenl, bsem_lent, gcv_u, gcv_d, isiD_i, isiD_b, isTok_i, isTok_b, isTok_n, isTok_t, isTok_l, isTok_s, and_true, true_and, if_true, if_false, Bool.false_eq_true, Bool.true_eq_false, Bool.not_true, Bool.not_false, Bool.not_not, noList_i, noList_b, noList_n, noList_t, plain_n, plain_c, lenlim, bindT_1, bindT_2, Nat.reduceAdd, Nat.reduceSub, isNon_n, isNon_i, isNon_b, isNon_t, isNon_l, isNon_s, ite_self, not_true_eq_false, not_false_eq_true, implies_true, false_and, and_false, decide_true, decide_false, decide_not, ixOp_s0, ixOp_s1, ixOp_p, ixOp_p0, ixOp_p1, ixOp_i, bsem_lenp, bsem_leni, bindT_p, isTok_sky, isTok_ps, isTok_is, isTok_p, noList_p, asList_p, asList_il, cop_eqi, cop_nei, bsem_max2, bsem_min2, ge0, c_is_int_i, toNat_nat, rangeD_len, eq_self, cop_eqil, cop_neil, cop_eqps, cop_neps, cop_eqp, cop_nep, Bool.and_true, Bool.true_and, big1, big2, cop_eqi0, cop_nei0, cop_eqp0, cop_nep0, bop_addps, bop_addis, bsem_maxl, bsem_minl, mtTy_index, msem_index, c_lpick2, c_lpick3, t_check_sky, c_check_sky, t_check_some, c_check_some, t_check_day, c_check_day, t_arc_of, c_arc_of, b_arc, b_arc_0, b_arc_1, b_arc_2, b_arc_3]
  exact hQ
def arcStarts (u : Int) (bs : List (Int × Int)) (l : List Int) (d : Int) : List Int := (fnd (spots u bs l d)).filter fun x => decide (far u (spots u bs l d) x = arcBy u (spots u bs l d))
def sp_arc_starts : Spec := fun ds Q X => ∃ (u : Int) (bs : List (Int × Int)) (l : List Int) (d : Int), ds = [skyD u bs, intsD l, .int d] ∧ (Sky u bs) ∧ (Sel bs l) ∧ (0 ≤ d) ∧ (d ≤ 1000000) ∧ (Q (intsD (arcStarts u bs l d)))
theorem c_arc_starts {u : Int} {bs : List (Int × Int)} {l : List Int} {d : Int} {Q : D → Prop} {X : Exn → Prop} (h0 : Sky u bs) (h1 : Sel bs l) (h2 : 0 ≤ d) (h3 : d ≤ 1000000) : sp_arc_starts [skyD u bs, intsD l, .int d] Q X = (Q (intsD (arcStarts u bs l d))) := by
  simp only [eq_iff_iff]
  constructor
  · rintro ⟨u', bs', l', d', e, _, _, _, _, h⟩
    simp only [List.cons.injEq, PyData.int.injEq, PyData.bool.injEq, skyD_eq, intsD_eq, pairsD_eq, pairD_eq, and_true, true_and] at e
    obtain ⟨⟨rfl, rfl⟩, rfl, rfl⟩ := e
    exact h
  · exact fun h => ⟨u, bs, l, d, rfl, h0, h1, h2, h3, h⟩
theorem r_arc_starts {T : Fn → Spec} (t_check_sky : T .check_sky = sp_check_sky) (t_check_some : T .check_some = sp_check_some) (t_check_day : T .check_day = sp_check_day) (t_place_of : T .place_of = sp_place_of) {ds : List D} {Q : D → Prop} {X : Exn → Prop} (h : sp_arc_starts ds Q X) : ds.length = 3 ∧ runs T 10 b_arc_starts ds Q X := by
  obtain ⟨u, bs, l, d, rfl, hs, h1, h2, h3, hQ⟩ := h
  refine ⟨rfl, ?_⟩
  have hn := h1.le
  have h4 := hs.l4
  have hu := hs.pos
  try simp (maxSteps := 2000000) (disch := first | assumption | omega) only [runs, start, wpSs, wpS, wpE, wpEs, wpB, wpO, wpC, wpI, getS, setS, blank, blank1, List.map_cons, List.map_nil, List.length_cons, List.length_nil, List.cons_append, List.nil_append, List.replicate, Nat.sub_self, asBool_b, asInt_i, asList_l, asTup_t, must_s, cop_lt, cop_le, cop_gt, cop_ge, bop_add, bop_sub, bop_mod, bop_fdiv, bop_mul, ixOp_t0, ixOp_t1, ixOp_l, bsem_lenl, bsem_lent, gcv_u, gcv_d, isiD_i, isiD_b, isTok_i, isTok_b, isTok_n, isTok_t, isTok_l, isTok_s, and_true, true_and, if_true, if_false, Bool.false_eq_true, Bool.true_eq_false, Bool.not_true, Bool.not_false, Bool.not_not, noList_i, noList_b, noList_n, noList_t, plain_n, plain_c, lenlim, bindT_1, bindT_2, Nat.reduceAdd, Nat.reduceSub, isNon_n, isNon_i, isNon_b, isNon_t, isNon_l, isNon_s, ite_self, not_true_eq_false, not_false_eq_true, implies_true, false_and, and_false, decide_true, decide_false, decide_not, ixOp_s0, ixOp_s1, ixOp_p, ixOp_p0, ixOp_p1, ixOp_i, bsem_lenp, bsem_leni, bindT_p, isTok_sky, isTok_ps, isTok_is, isTok_p, noList_p, asList_p, asList_il, cop_eqi, cop_nei, bsem_max2, bsem_min2, ge0, c_is_int_i, toNat_nat, rangeD_len, eq_self, cop_eqil, cop_neil, cop_eqps, cop_neps, cop_eqp, cop_nep, Bool.and_true, Bool.true_and, big1, big2, cop_eqi0, cop_nei0, cop_eqp0, cop_nep0, bop_addps, bop_addis, bsem_maxl, bsem_minl, mtTy_index, msem_index, c_lpick2, c_lpick3, t_check_sky, c_check_sky, t_check_some, c_check_some, t_check_day, c_check_day, t_place_of, c_place_of, b_arc_starts, b_arc_starts_0, b_arc_starts_1, b_arc_starts_2, b_arc_starts_3]
  refine ⟨by rw [List.length_map]; unfold lim; omega, ?_⟩
  refine lc_ints (g := fun b => plc u bs b d) (fun x hx k hk => ?_) ?_
  · have := h1.ok x hx
    have a1 := this.1
    have a2 := this.2
    try simp (maxSteps := 2000000) (disch := first | assumption | omega) only [runs, start, wpSs, wpS, wpE, wpEs, wpB, wpO, wpC, wpI, getS, setS, blank, blank1, List.map_cons, List.map_nil, List.length_cons, List.length_nil, List.cons_append, List.nil_append, List.replicate, Nat.sub_self, asBool_b, asInt_i, asList_l, asTup_t, must_s, cop_lt, cop_le, cop_gt, cop_ge, bop_add, bop_sub, bop_mod, bop_fdiv, bop_mul, ixOp_t0, ixOp_t1, ixOp_l, bsem_lenl, bsem_lent, gcv_u, gcv_d, isiD_i, isiD_b, isTok_i, isTok_b, isTok_n, isTok_t, isTok_l, isTok_s, and_true, true_and, if_true, if_false, Bool.false_eq_true, Bool.true_eq_false, Bool.not_true, Bool.not_false, Bool.not_not, noList_i, noList_b, noList_n, noList_t, plain_n, plain_c, lenlim, bindT_1, bindT_2, Nat.reduceAdd, Nat.reduceSub, isNon_n, isNon_i, isNon_b, isNon_t, isNon_l, isNon_s, ite_self, not_true_eq_false, not_false_eq_true, implies_true, false_and, and_false, decide_true, decide_false, decide_not, ixOp_s0, ixOp_s1, ixOp_p, ixOp_p0, ixOp_p1, ixOp_i, bsem_lenp, bsem_leni, bindT_p, isTok_sky, isTok_ps, isTok_is, isTok_p, noList_p, asList_p, asList_il, cop_eqi, cop_nei, bsem_max2, bsem_min2, ge0, c_is_int_i, toNat_nat, rangeD_len, eq_self, cop_eqil, cop_neil, cop_eqps, cop_neps, cop_eqp, cop_nep, Bool.and_true, Bool.true_and, big1, big2, cop_eqi0, cop_nei0, cop_eqp0, cop_nep0, bop_addps, bop_addis, bsem_maxl, bsem_minl, mtTy_index, msem_index, c_lpick2, c_lpick3, t_check_sky, c_check_sky, t_check_some, c_check_some, t_check_day, c_check_day, t_place_of, c_place_of]
    exact hk
  refine ⟨by rw [List.length_map, List.length_map]; omega, ?_⟩
  rw [ints?_map]
  show wpSs T b_arc_starts_4 [.d (skyD u bs), .d (intsD l), .d (.int d), .d (intsD (fnd (spots u bs l d))), .no, .no, .no, .no, .no, .no] _
  have hl : (fnd (spots u bs l d)).length ≤ l.length := by
    have e : (fnd (spots u bs l d)).length = (dedup (spots u bs l d)).length := (isort_perm _).length_eq
    rw [e]
    refine Nat.le_trans (dedup_len _) ?_
    simp [spots]
  obtain ⟨z, hz⟩ : ∃ z, (fnd (spots u bs l d)).getLast? = some z := by
    cases e : (fnd (spots u bs l d)).getLast? with
    | some z => exact ⟨z, rfl⟩
    | none => exact absurd (List.getLast?_eq_none_iff.mp e) (fnd_ne (spots_ne h1))
  have ha := arc_spc (spots_ne h1) hu (spots_b hs) hz
  have hf : ∀ x, far u (fnd (spots u bs l d)) x = far u (spots u bs l d) x := fun x => far_congr (fnd_ne (spots_ne h1)) fun y => mem_fnd
  have hm := spc_eq fnd_sorted (fun y hy => spots_b hs y (mem_fnd.mp hy)) hz
  simp only [hf] at hm
  unfold arcStarts at hQ
  obtain ⟨x, r, e⟩ := List.exists_cons_of_ne_nil (fnd_ne (spots_ne (u := u) (d := d) h1))
  rw [e] at hQ hz hl ha hm ⊢
  have l0 : (0 : Int) < (x :: r).length := by simp
  have n0 : nth (x :: r) 0 = x := rfl
  try simp (maxSteps := 2000000) (disch := first | assumption | omega) only [runs, start, wpSs, wpS, wpE, wpEs, wpB, wpO, wpC, wpI, getS, setS, blank, blank1, List.map_cons, List.map_nil, List.length_cons, List.length_nil, List.cons_append, List.nil_append, List.replicate, Nat.sub_self, asBool_b, asInt_i, asList_l, asTup_t, must_s, cop_lt, cop_le, cop_gt, cop_ge, bop_add, bop_sub, bop_mod, bop_fdiv, bop_mul, ixOp_t0, ixOp_t1, ixOp_l, bsem_lenl, bsem_lent, gcv_u, gcv_d, isiD_i, isiD_b, isTok_i, isTok_b, isTok_n, isTok_t, isTok_l, isTok_s, and_true, true_and, if_true, if_false, Bool.false_eq_true, Bool.true_eq_false, Bool.not_true, Bool.not_false, Bool.not_not, noList_i, noList_b, noList_n, noList_t, plain_n, plain_c, lenlim, bindT_1, bindT_2, Nat.reduceAdd, Nat.reduceSub, isNon_n, isNon_i, isNon_b, isNon_t, isNon_l, isNon_s, ite_self, not_true_eq_false, not_false_eq_true, implies_true, false_and, and_false, decide_true, decide_false, decide_not, ixOp_s0, ixOp_s1, ixOp_p, ixOp_p0, ixOp_p1, ixOp_i, bsem_lenp, bsem_leni, bindT_p, isTok_sky, isTok_ps, isTok_is, isTok_p, noList_p, asList_p, asList_il, cop_eqi, cop_nei, bsem_max2, bsem_min2, ge0, c_is_int_i, toNat_nat, rangeD_len, eq_self, cop_eqil, cop_neil, cop_eqps, cop_neps, cop_eqp, cop_nep, Bool.and_true, Bool.true_and, big1, big2, cop_eqi0, cop_nei0, cop_eqp0, cop_nep0, bop_addps, bop_addis, bsem_maxl, bsem_minl, mtTy_index, msem_index, c_lpick2, c_lpick3, t_check_sky, c_check_sky, t_check_some, c_check_some, t_check_day, c_check_day, t_place_of, c_place_of, b_arc_starts_4, slOp_tail, zip_pairs, ixOp_last hz, n0, List.drop_one, List.tail_cons]
  have ez : List.map (fun p => PyData.tuple [p.1, p.2]) ((PyData.int x :: List.map PyData.int r).zip (List.map PyData.int r)) = ((x :: r).zip r).map pairD := zip_pairs (l := x :: r) (m := r)
  rw [ez]
  rw [List.length_cons] at hl
  refine ⟨by rw [List.length_map, List.length_zip]; unfold lim; omega, ?_⟩
  refine wpLc_mapM (i := pairD) (g := fun p => .int (p.2 - p.1)) (fun p hp k hk => ?_) ?_
  · try simp (maxSteps := 2000000) (disch := first | assumption | omega) only [runs, start, wpSs, wpS, wpE, wpEs, wpB, wpO, wpC, wpI, getS, setS, blank, blank1, List.map_cons, List.map_nil, List.length_cons, List.length_nil, List.cons_append, List.nil_append, List.replicate, Nat.sub_self, asBool_b, asInt_i, asList_l, asTup_t, must_s, cop_lt, cop_le, cop_gt, cop_ge, bop_add, bop_sub, bop_mod, bop_fdiv, bop_mul, ixOp_t0, ixOp_t1, ixOp_l, bsem_lenl, bsem_lent, gcv_u, gcv_d, isiD_i, isiD_b, isTok_i, isTok_b, isTok_n, isTok_t, isTok_l, isTok_s, and_true, true_and, if_true, if_false, Bool.false_eq_true, Bool.true_eq_false, Bool.not_true, Bool.not_false, Bool.not_not, noList_i, noList_b, noList_n, noList_t, plain_n, plain_c, lenlim, bindT_1, bindT_2, Nat.reduceAdd, Nat.reduceSub, isNon_n, isNon_i, isNon_b, isNon_t, isNon_l, isNon_s, ite_self, not_true_eq_false, not_false_eq_true, implies_true, false_and, and_false, decide_true, decide_false, decide_not, ixOp_s0, ixOp_s1, ixOp_p, ixOp_p0, ixOp_p1, ixOp_i, bsem_lenp, bsem_leni, bindT_p, isTok_sky, isTok_ps, isTok_is, isTok_p, noList_p, asList_p, asList_il, cop_eqi, cop_nei, bsem_max2, bsem_min2, ge0, c_is_int_i, toNat_nat, rangeD_len, eq_self, cop_eqil, cop_neil, cop_eqps, cop_neps, cop_eqp, cop_nep, Bool.and_true, Bool.true_and, big1, big2, cop_eqi0, cop_nei0, cop_eqp0, cop_nep0, bop_addps, bop_addis, bsem_maxl, bsem_minl, mtTy_index, msem_index, c_lpick2, c_lpick3, t_check_sky, c_check_sky, t_check_some, c_check_some, t_check_day, c_check_day, t_place_of, c_place_of]
    exact hk
  have e5 : ((x :: r).zip r).map (fun p => PyData.int (p.2 - p.1)) = (spc x r).map .int := by
    rw [← zip_spc, List.map_map]
    rfl
  rw [e5]
  have l5 : (spc x r).length = r.length := spc_len
  show must (bop .add (intsD [x + u - z]) (intsD (spc x r))) _
  rw [bop_addis (by simp; omega)]
  have e7 : [x + u - z] ++ spc x r = (x :: r).map (fun x => u - far u (spots u bs l d) x) := by
    rw [← hm]
    have e8 : x + u - z = x - (z - u) := by omega
    simp only [spc, List.singleton_append, e8]
  rw [e7]
  rw [hm] at ha
  generalize hS : (x :: r).map (fun x => u - far u (spots u bs l d) x) = S at *
  have lS : S.length = r.length + 1 := by rw [← hS]; simp
  have l6 : 0 < S.length := by omega
  try simp (maxSteps := 2000000) (disch := first | assumption | omega) only [runs, start, wpSs, wpS, wpE, wpEs, wpB, wpO, wpC, wpI, getS, setS, blank, blank1, List.map_cons, List.map_nil, List.length_cons, List.length_nil, List.cons_append, List.nil_append, List.replicate, Nat.sub_self, asBool_b, asInt_i, asList_l, asTup_t, must_s, cop_lt, cop_le, cop_gt, cop_ge, bop_add, bop_sub, bop_mod, bop_fdiv, bop_mul, ixOp_t0, ixOp_t1, ixOp_l, bsem_lenl, bsem_lent, gcv_u, gcv_d, isiD_i, isiD_b, isTok_i, isTok_b, isTok_n, isTok_t, isTok_l, isTok_s, and_true, true_and, if_true, if_false, Bool.false_eq_true, Bool.true_eq_false, Bool.not_true, Bool.not_false, Bool.not_not, noList_i, noList_b, noList_n, noList_t, plain_n, plain_c, lenlim, bindT_1, bindT_2, Nat.reduceAdd, Nat.reduceSub, isNon_n, isNon_i, isNon_b, isNon_t, isNon_l, isNon_s, ite_self, not_true_eq_false, not_false_eq_true, implies_true, false_and, and_false, decide_true, decide_false, decide_not, ixOp_s0, ixOp_s1, ixOp_p, ixOp_p0, ixOp_p1, ixOp_i, bsem_lenp, bsem_leni, bindT_p, isTok_sky, isTok_ps, isTok_is, isTok_p, noList_p, asList_p, asList_il, cop_eqi, cop_nei, bsem_max2, bsem_min2, ge0, c_is_int_i, toNat_nat, rangeD_len, eq_self, cop_eqil, cop_neil, cop_eqps, cop_neps, cop_eqp, cop_nep, Bool.and_true, Bool.true_and, big1, big2, cop_eqi0, cop_nei0, cop_eqp0, cop_nep0, bop_addps, bop_addis, bsem_maxl, bsem_minl, mtTy_index, msem_index, c_lpick2, c_lpick3, t_check_sky, c_check_sky, t_check_some, c_check_some, t_check_day, c_check_day, t_place_of, c_place_of, b_arc_starts_5]
  have ez2 : List.map (fun p => PyData.tuple [p.1, p.2]) ((PyData.int x :: List.map PyData.int r).zip (List.map PyData.int S)) = ((x :: r).zip S).map pairD := zip_pairs (l := x :: r) (m := S)
  rw [ez2]
  refine ⟨by rw [List.length_map, List.length_zip]; unfold lim; omega, ?_⟩
  refine wpLc_filM (i := pairD) (p := fun p => decide (p.2 = lmax S)) (g := fun p => .int p.1) (fun p hp k hk => ?_) ?_
  · try simp (maxSteps := 2000000) (disch := first | assumption | omega) only [runs, start, wpSs, wpS, wpE, wpEs, wpB, wpO, wpC, wpI, getS, setS, blank, blank1, List.map_cons, List.map_nil, List.length_cons, List.length_nil, List.cons_append, List.nil_append, List.replicate, Nat.sub_self, asBool_b, asInt_i, asList_l, asTup_t, must_s, cop_lt, cop_le, cop_gt, cop_ge, bop_add, bop_sub, bop_mod, bop_fdiv, bop_mul, ixOp_t0, ixOp_t1, ixOp_l, bsem_lenl, bsem_lent, gcv_u, gcv_d, isiD_i, isiD_b, isTok_i, isTok_b, isTok_n, isTok_t, isTok_l, isTok_s, and_true, true_and, if_true, if_false, Bool.false_eq_true, Bool.true_eq_false, Bool.not_true, Bool.not_false, Bool.not_not, noList_i, noList_b, noList_n, noList_t, plain_n, plain_c, lenlim, bindT_1, bindT_2, Nat.reduceAdd, Nat.reduceSub, isNon_n, isNon_i, isNon_b, isNon_t, isNon_l, isNon_s, ite_self, not_true_eq_false, not_false_eq_true, implies_true, false_and, and_false, decide_true, decide_false, decide_not, ixOp_s0, ixOp_s1, ixOp_p, ixOp_p0, ixOp_p1, ixOp_i, bsem_lenp, bsem_leni, bindT_p, isTok_sky, isTok_ps, isTok_is, isTok_p, noList_p, asList_p, asList_il, cop_eqi, cop_nei, bsem_max2, bsem_min2, ge0, c_is_int_i, toNat_nat, rangeD_len, eq_self, cop_eqil, cop_neil, cop_eqps, cop_neps, cop_eqp, cop_nep, Bool.and_true, Bool.true_and, big1, big2, cop_eqi0, cop_nei0, cop_eqp0, cop_nep0, bop_addps, bop_addis, bsem_maxl, bsem_minl, mtTy_index, msem_index, c_lpick2, c_lpick3, t_check_sky, c_check_sky, t_check_some, c_check_some, t_check_day, c_check_day, t_place_of, c_place_of]
    exact ite_k hk
  have e9 : List.map (fun (p : Int × Int) => PyData.int p.1) (List.filter (fun p => decide (p.2 = lmax S)) ((x :: r).zip S)) = ((x :: r).filter fun x => decide (far u (spots u bs l d) x = arcBy u (spots u bs l d))).map .int := by
    rw [← hS] at ha ⊢
    refine zip_filter _ _ _ _ fun y _ => ?_
    rw [decide_eq_decide]
    show u - far u (spots u bs l d) y = _ ↔ _
    omega
  rw [e9]
  exact hQ
/-- bodies in the order of their places -/
def ordr (u : Int) (bs : List (Int × Int)) (d : Int) : List Int := (isortP ((List.range bs.length).map fun (i : Nat) => (plc u bs i d, (i : Int)))).map fun p => p.2
theorem bsem_srtP {l : List (Int × Int)} : bsem .sorted [pairsD l] = some (pairsD (isortP l)) := by
  simp only [bsem, pairsD]
  cases l with
  | nil => rfl
  | cons p r =>
    have : ints? ((p :: r).map pairD) = none := rfl
    rw [this]
    simp only [pairs?_map, Option.map_some, pairsD]
def sp_order : Spec := fun ds Q X => ∃ (u : Int) (bs : List (Int × Int)) (d : Int), ds = [skyD u bs, .int d] ∧ (Sky u bs) ∧ (0 ≤ d) ∧ (d ≤ 1000000) ∧ (Q (intsD (ordr u bs d)))
theorem c_order {u : Int} {bs : List (Int × Int)} {d : Int} {Q : D → Prop} {X : Exn → Prop} (h0 : Sky u bs) (h1 : 0 ≤ d) (h2 : d ≤ 1000000) : sp_order [skyD u bs, .int d] Q X = (Q (intsD (ordr u bs d))) := by
  simp only [eq_iff_iff]
  constructor
  · rintro ⟨u', bs', d', e, _, _, _, h⟩
    simp only [List.cons.injEq, PyData.int.injEq, PyData.bool.injEq, skyD_eq, intsD_eq, pairsD_eq, pairD_eq, and_true, true_and] at e
    obtain ⟨⟨rfl, rfl⟩, rfl⟩ := e
    exact h
  · exact fun h => ⟨u, bs, d, rfl, h0, h1, h2, h⟩
theorem r_order {T : Fn → Spec} (t_check_sky : T .check_sky = sp_check_sky) (t_check_day : T .check_day = sp_check_day) (t_place_of : T .place_of = sp_place_of) {ds : List D} {Q : D → Prop} {X : Exn → Prop} (h : sp_order ds Q X) : ds.length = 2 ∧ runs T 4 b_order ds Q X := by
  obtain ⟨u, bs, d, rfl, hs, h1, h2, hQ⟩ := h
  refine ⟨rfl, ?_⟩
  have h4 := hs.l4
  try simp (maxSteps := 2000000) (disch := first | assumption | omega) only [runs, start, wpSs, wpS, wpE, wpEs, wpB, wpO, wpC, wpI, getS, setS, blank, blank1, List.map_cons, List.map_nil, List.length_cons, List.length_nil, List.cons_append, List.nil_append, List.replicate, Nat.sub_self, asBool_b, asInt_i, asList_l, asTup_t, must_s, cop_lt, cop_le, cop_gt, cop_ge, bop_add, bop_sub, bop_mod, bop_fdiv, bop_mul, ixOp_t0, ixOp_t1, ixOp_l, bsem_lenl, bsem_lent, gcv_u, gcv_d, isiD_i, isiD_b, isTok_i, isTok_b, isTok_n, isTok_t, isTok_l, isTok_s, and_true, true_and, if_true, if_false, Bool.false_eq_true, Bool.true_eq_false, Bool.not_true, Bool.not_false, Bool.not_not, noList_i, noList_b, noList_n, noList_t, plain_n, plain_c, lenlim, bindT_1, bindT_2, Nat.reduceAdd, Nat.reduceSub, isNon_n, isNon_i, isNon_b, isNon_t, isNon_l, isNon_s, ite_self, not_true_eq_false, not_false_eq_true, implies_true, false_and, and_false, decide_true, decide_false, decide_not, ixOp_s0, ixOp_s1, ixOp_p, ixOp_p0, ixOp_p1, ixOp_i, bsem_lenp, bsem_leni, bindT_p, isTok_sky, isTok_ps, isTok_is, isTok_p, noList_p, asList_p, asList_il, cop_eqi, cop_nei, bsem_max2, bsem_min2, ge0, c_is_int_i, toNat_nat, rangeD_len, eq_self, cop_eqil, cop_neil, cop_eqps, cop_neps, cop_eqp, cop_nep, Bool.and_true, Bool.true_and, big1, big2, cop_eqi0, cop_nei0, cop_eqp0, cop_nep0, bop_addps, bop_addis, bsem_maxl, bsem_minl, mtTy_index, msem_index, c_lpick2, c_lpick3, t_check_sky, c_check_sky, t_check_day, c_check_day, t_place_of, c_place_of, b_order, b_order_0, b_order_1, b_order_2]
  rw [rangeD_map]
  refine wpLc_mapM (g := fun (i : Nat) => pairD (plc u bs i d, (i : Int))) (fun i hi k hk => ?_) ?_
  · have := List.mem_range.mp hi
    have a1 : 0 ≤ (i : Int) := by omega
    have a2 : (i : Int) < bs.length := by omega
    try simp (maxSteps := 2000000) (disch := first | assumption | omega) only [runs, start, wpSs, wpS, wpE, wpEs, wpB, wpO, wpC, wpI, getS, setS, blank, blank1, List.map_cons, List.map_nil, List.length_cons, List.length_nil, List.cons_append, List.nil_append, List.replicate, Nat.sub_self, asBool_b, asInt_i, asList_l, asTup_t, must_s, cop_lt, cop_le, cop_gt, cop_ge, bop_add, bop_sub, bop_mod, bop_fdiv, bop_mul, ixOp_t0, ixOp_t1, ixOp_l, bsem_lenl, bsem_lent, gcv_u, gcv_d, isiD_i, isiD_b, isTok_i, isTok_b, isTok_n, isTok_t, isTok_l, isTok_s, and_true, true_and, if_true, if_false, Bool.false_eq_true, Bool.true_eq_false, Bool.not_true, Bool.not_false, Bool.not_not, noList_i, noList_b, noList_n, noList_t, plain_n, plain_c, lenlim, bindT_1, bindT_2, Nat.reduceAdd, Nat.reduceSub, isNon_n, isNon_i, isNon_b, isNon_t, isNon_l, isNon_s, ite_self, not_true_eq_false, not_false_eq_true, implies_true, false_and, and_false, decide_true, decide_false, decide_not, ixOp_s0, ixOp_s1, ixOp_p, ixOp_p0, ixOp_p1, ixOp_i, bsem_lenp, bsem_leni, bindT_p, isTok_sky, isTok_ps, isTok_is, isTok_p, noList_p, asList_p, asList_il, cop_eqi, cop_nei, bsem_max2, bsem_min2, ge0, c_is_int_i, toNat_nat, rangeD_len, eq_self, cop_eqil, cop_neil, cop_eqps, cop_neps, cop_eqp, cop_nep, Bool.and_true, Bool.true_and, big1, big2, cop_eqi0, cop_nei0, cop_eqp0, cop_nep0, bop_addps, bop_addis, bsem_maxl, bsem_minl, mtTy_index, msem_index, c_lpick2, c_lpick3, t_check_sky, c_check_sky, t_check_day, c_check_day, t_place_of, c_place_of, Int.zero_add]
    exact hk
  have e : (List.range bs.length).map (fun (i : Nat) => pairD (plc u bs i d, (i : Int))) = ((List.range bs.length).map fun (i : Nat) => (plc u bs i d, (i : Int))).map pairD := by
    rw [List.map_map]
    rfl
  rw [e]
  show must (bsem .sorted [pairsD ((List.range bs.length).map fun (i : Nat) => (plc u bs i d, (i : Int)))]) _
  rw [bsem_srtP]
  try simp (maxSteps := 2000000) (disch := first | assumption | omega) only [runs, start, wpSs, wpS, wpE, wpEs, wpB, wpO, wpC, wpI, getS, setS, blank, blank1, List.map_cons, List.map_nil, List.length_cons, List.length_nil, List.cons_append, List.nil_append, List.replicate, Nat.sub_self, asBool_b, asInt_i, asList_l, asTup_t, must_s, cop_lt, cop_le, cop_gt, cop_ge, bop_add, bop_sub, bop_mod, bop_fdiv, bop_mul, ixOp_t0, ixOp_t1, ixOp_l, bsem_lenl, bsem_lent, gcv_u, gcv_d, isiD_i, isiD_b, isTok_i, isTok_b, isTok_n, isTok_t, isTok_l, isTok_s, and_true, true_and, if_true, if_false, Bool.false_eq_true, Bool.true_eq_false, Bool.not_true, Bool.not_false, Bool.not_not, noList_i, noList_b, noList_n, noList_t, plain_n, plain_c, lenlim, bindT_1, bindT_2, Nat.reduceAdd, Nat.reduceSub, isNon_n, isNon_i, isNon_b, isNon_t, isNon_l, isNon_s, ite_self, not_true_eq_false, not_false_eq_true, implies_true, false_and, and_false, decide_true, decide_false, decide_not, ixOp_s0, ixOp_s1, ixOp_p, ixOp_p0, ixOp_p1, ixOp_i, bsem_lenp, bsem_leni, bindT_p, isTok_sky, isTok_ps, isTok_is, isTok_p, noList_p, asList_p, asList_il, cop_eqi, cop_nei, bsem_max2, bsem_min2, ge0, c_is_int_i, toNat_nat, rangeD_len, eq_self, cop_eqil, cop_neil, cop_eqps, cop_neps, cop_eqp, cop_nep, Bool.and_true, Bool.true_and, big1, big2, cop_eqi0, cop_nei0, cop_eqp0, cop_nep0, bop_addps, bop_addis, bsem_maxl, bsem_minl, mtTy_index, msem_index, c_lpick2, c_lpick3, t_check_sky, c_check_sky, t_check_day, c_check_day, t_place_of, c_place_of]
  refine ⟨by rw [List.length_map, (isortP_perm _).length_eq, List.length_map, List.length_range]; unfold lim; omega, ?_⟩
  refine wpLc_mapM (i := pairD) (g := fun p => .int p.2) (fun p hp k hk => ?_) ?_
  · try simp (maxSteps := 2000000) (disch := first | assumption | omega) only [runs, start, wpSs, wpS, wpE, wpEs, wpB, wpO, wpC, wpI, getS, setS, blank, blank1, List.map_cons, List.map_nil, List.length_cons, List.length_nil, List.cons_append, List.nil_append, List.replicate, Nat.sub_self, asBool_b, asInt_i, asList_l, asTup_t, must_s, cop_lt, cop_le, cop_gt, cop_ge, bop_add, bop_sub, bop_mod, bop_fdiv, bop_mul, ixOp_t0, ixOp_t1, ixOp_l, bsem_lenl, bsem_lent, gcv_u, gcv_d, isiD_i, isiD_b, isTok_i, isTok_b, isTok_n, isTok_t, isTok_l, isTok_s, and_true, true_and, if_true, if_false, Bool.false_eq_true, Bool.true_eq_false, Bool.not_true, Bool.not_false, Bool.not_not, noList_i, noList_b, noList_n, noList_t, plain_n, plain_c, lenlim, bindT_1, bindT_2, Nat.reduceAdd, Nat.reduceSub, isNon_n, isNon_i, isNon_b, isNon_t, isNon_l, isNon_s, ite_self, not_true_eq_false, not_false_eq_true, implies_true, false_and, and_false, decide_true, decide_false, decide_not, ixOp_s0, ixOp_s1, ixOp_p, ixOp_p0, ixOp_p1, ixOp_i, bsem_lenp, bsem_leni, bindT_p, isTok_sky, isTok_ps, isTok_is, isTok_p, noList_p, asList_p, asList_il, cop_eqi, cop_nei, bsem_max2, bsem_min2, ge0, c_is_int_i, toNat_nat, rangeD_len, eq_self, cop_eqil, cop_neil, cop_eqps, cop_neps, cop_eqp, cop_nep, Bool.and_true, Bool.true_and, big1, big2, cop_eqi0, cop_nei0, cop_eqp0, cop_nep0, bop_addps, bop_addis, bsem_maxl, bsem_minl, mtTy_index, msem_index, c_lpick2, c_lpick3, t_check_sky, c_check_sky, t_check_day, c_check_day, t_place_of, c_place_of]
    exact hk
  have e2 : ∀ l : List (Int × Int), l.map (fun p => PyData.int p.2) = (l.map fun p => p.2).map .int := fun l => by
    rw [List.map_map]
    rfl
  rw [e2]
  exact hQ
def atU (u : Int) (bs : List (Int × Int)) (x d : Int) : List Int := ((List.range bs.length).map fun (j : Nat) => (0 : Int) + (j : Int)).filter fun b => decide (plc u bs b d = x)
def bodiesAt (u : Int) (bs : List (Int × Int)) (x : D) (d : Int) : List Int := match x with
  | .int i => if 0 ≤ i ∧ i < u then atU u bs i d else []
  | _ => []
def sp_bodies_at : Spec := fun ds Q X => ∃ (u : Int) (bs : List (Int × Int)) (x : D) (d : Int), ds = [skyD u bs, x, .int d] ∧ (Sky u bs) ∧ (isTok x = false) ∧ (0 ≤ d) ∧ (d ≤ 1000000) ∧ (Q (intsD (bodiesAt u bs x d)))
theorem c_bodies_at {u : Int} {bs : List (Int × Int)} {x : D} {d : Int} {Q : D → Prop} {X : Exn → Prop} (h0 : Sky u bs) (h1 : isTok x = false) (h2 : 0 ≤ d) (h3 : d ≤ 1000000) : sp_bodies_at [skyD u bs, x, .int d] Q X = (Q (intsD (bodiesAt u bs x d))) := by
  simp only [eq_iff_iff]
  constructor
  · rintro ⟨u', bs', x', d', e, _, _, _, _, h⟩
    simp only [List.cons.injEq, PyData.int.injEq, PyData.bool.injEq, skyD_eq, intsD_eq, pairsD_eq, pairD_eq, and_true, true_and] at e
    obtain ⟨⟨rfl, rfl⟩, rfl, rfl⟩ := e
    exact h
  · exact fun h => ⟨u, bs, x, d, rfl, h0, h1, h2, h3, h⟩
theorem r_bodies_at {T : Fn → Spec} (t_check_sky : T .check_sky = sp_check_sky) (t_check_day : T .check_day = sp_check_day) (t_place_of : T .place_of = sp_place_of) (t_is_int : T .is_int = sp_is_int) {ds : List D} {Q : D → Prop} {X : Exn → Prop} (h : sp_bodies_at ds Q X) : ds.length = 3 ∧ runs T 4 b_bodies_at ds Q X := by
  obtain ⟨u, bs, x, d, rfl, hs, h1, h2, h3, hQ⟩ := h
  refine ⟨rfl, ?_⟩
  have h4 := hs.l4
  try simp (maxSteps := 2000000) (disch := first | assumption | omega) only [runs, start, wpSs, wpS, wpE, wpEs, wpB, wpO, wpC, wpI, getS, setS, blank, blank1, List.map_cons, List.map_nil, List.length_cons, List.length_nil, List.cons_append, List.nil_append, List.replicate, Nat.sub_self, asBool_b, asInt_i, asList_l, asTup_t, must_s, cop_lt, cop_le, cop_gt, cop_ge, bop_add, bop_sub, bop_mod, bop_fdiv, bop_mul, ixOp_t0, ixOp_t1, ixOp_l, bsem_lenl, bsem_lent, gcv_u, gcv_d, isiD_i, isiD_b, isTok_i, isTok_b, isTok_n, isTok_t, isTok_l, isTok_s, and_true, true_and, if_true, if_false, Bool.false_eq_true, Bool.true_eq_false, Bool.not_true, Bool.not_false, Bool.not_not, noList_i, noList_b, noList_n, noList_t, plain_n, plain_c, lenlim, bindT_1, bindT_2, Nat.reduceAdd, Nat.reduceSub, isNon_n, isNon_i, isNon_b, isNon_t, isNon_l, isNon_s, ite_self, not_true_eq_false, not_false_eq_true, implies_true, false_and, and_false, decide_true, decide_false, decide_not, ixOp_s0, ixOp_s1, ixOp_p, ixOp_p0, ixOp_p1, ixOp_i, bsem_lenp, bsem_leni, bindT_p, isTok_sky, isTok_ps, isTok_is, isTok_p, noList_p, asList_p, asList_il, cop_eqi, cop_nei, bsem_max2, bsem_min2, ge0, c_is_int_i, toNat_nat, rangeD_len, eq_self, cop_eqil, cop_neil, cop_eqps, cop_neps, cop_eqp, cop_nep, Bool.and_true, Bool.true_and, big1, big2, cop_eqi0, cop_nei0, cop_eqp0, cop_nep0, bop_addps, bop_addis, bsem_maxl, bsem_minl, mtTy_index, msem_index, c_lpick2, c_lpick3, t_check_sky, c_check_sky, t_check_day, c_check_day, t_place_of, c_place_of, t_is_int, c_is_int, b_bodies_at, b_bodies_at_0, b_bodies_at_1, b_bodies_at_2]
  cases e : isInt x 0 (u - 1) with
  | false =>
    try simp (maxSteps := 2000000) (disch := first | assumption | omega) only [runs, start, wpSs, wpS, wpE, wpEs, wpB, wpO, wpC, wpI, getS, setS, blank, blank1, List.map_cons, List.map_nil, List.length_cons, List.length_nil, List.cons_append, List.nil_append, List.replicate, Nat.sub_self, asBool_b, asInt_i, asList_l, asTup_t, must_s, cop_lt, cop_le, cop_gt, cop_ge, bop_add, bop_sub, bop_mod, bop_fdiv, bop_mul, ixOp_t0, ixOp_t1, ixOp_l, bsem_lenl, bsem_lent, gcv_u, gcv_d, isiD_i, isiD_b, isTok_i, isTok_b, isTok_n, isTok_t, isTok_l, isTok_s, and_true, true_and, if_true, if_false, Bool.false_eq_true, Bool.true_eq_false, Bool.not_true, Bool.not_false, Bool.not_not, noList_i, noList_b, noList_n, noList_t, plain_n, plain_c, lenlim, bindT_1, bindT_2, Nat.reduceAdd, Nat.reduceSub, isNon_n, isNon_i, isNon_b, isNon_t, isNon_l, isNon_s, ite_self, not_true_eq_false, not_false_eq_true, implies_true, false_and, and_false, decide_true, decide_false, decide_not, ixOp_s0, ixOp_s1, ixOp_p, ixOp_p0, ixOp_p1, ixOp_i, bsem_lenp, bsem_leni, bindT_p, isTok_sky, isTok_ps, isTok_is, isTok_p, noList_p, asList_p, asList_il, cop_eqi, cop_nei, bsem_max2, bsem_min2, ge0, c_is_int_i, toNat_nat, rangeD_len, eq_self, cop_eqil, cop_neil, cop_eqps, cop_neps, cop_eqp, cop_nep, Bool.and_true, Bool.true_and, big1, big2, cop_eqi0, cop_nei0, cop_eqp0, cop_nep0, bop_addps, bop_addis, bsem_maxl, bsem_minl, mtTy_index, msem_index, c_lpick2, c_lpick3, t_check_sky, c_check_sky, t_check_day, c_check_day, t_place_of, c_place_of, t_is_int, c_is_int]
    have e2 : bodiesAt u bs x d = [] := by
      unfold bodiesAt
      split
      · rename_i i
        rw [if_neg]
        rintro ⟨i0, i1⟩
        have := isInt_iff.mpr ⟨i, rfl, i0, show i ≤ u - 1 by omega⟩
        rw [e] at this
        cases this
      · rfl
    rw [e2] at hQ
    exact hQ
  | true =>
    obtain ⟨i, rfl, i0, i1⟩ := isInt_iff.mp e
    have e2 : bodiesAt u bs (.int i) d = atU u bs i d := by
      simp only [bodiesAt]
      rw [if_pos ⟨i0, by omega⟩]
    rw [e2] at hQ
    try simp (maxSteps := 2000000) (disch := first | assumption | omega) only [runs, start, wpSs, wpS, wpE, wpEs, wpB, wpO, wpC, wpI, getS, setS, blank, blank1, List.map_cons, List.map_nil, List.length_cons, List.length_nil, List.cons_append, List.nil_append, List.replicate, Nat.sub_self, asBool_b, asInt_i, asList_l, asTup_t, must_s, cop_lt, cop_le, cop_gt, cop_ge, bop_add, bop_sub, bop_mod, bop_fdiv, bop_mul, ixOp_t0, ixOp_t1, ixOp_l, bsem_lenl, bsem_lent, gcv_u, gcv_d, isiD_i, isiD_b, isTok_i, isTok_b, isTok_n, isTok_t, isTok_l, isTok_s, and_true, true_and, if_true, if_false, Bool.false_eq_true, Bool.true_eq_false, Bool.not_true, Bool.not_false, Bool.not_not, noList_i, noList_b, noList_n, noList_t, plain_n, plain_c, lenlim, bindT_1, bindT_2, Nat.reduceAdd, Nat.reduceSub, isNon_n, isNon_i, isNon_b, isNon_t, isNon_l, isNon_s, ite_self, not_true_eq_false, not_false_eq_true, implies_true, false_and, and_false, decide_true, decide_false, decide_not, ixOp_s0, ixOp_s1, ixOp_p, ixOp_p0, ixOp_p1, ixOp_i, bsem_lenp, bsem_leni, bindT_p, isTok_sky, isTok_ps, isTok_is, isTok_p, noList_p, asList_p, asList_il, cop_eqi, cop_nei, bsem_max2, bsem_min2, ge0, c_is_int_i, toNat_nat, rangeD_len, eq_self, cop_eqil, cop_neil, cop_eqps, cop_neps, cop_eqp, cop_nep, Bool.and_true, Bool.true_and, big1, big2, cop_eqi0, cop_nei0, cop_eqp0, cop_nep0, bop_addps, bop_addis, bsem_maxl, bsem_minl, mtTy_index, msem_index, c_lpick2, c_lpick3, t_check_sky, c_check_sky, t_check_day, c_check_day, t_place_of, c_place_of, t_is_int, c_is_int, b_bodies_at_3]
    refine lc_rgf (p := fun b => decide (plc u bs b d = i)) (g := fun b => .int b) (fun j j0 j1 k hk => ?_) ?_
    · try simp (maxSteps := 2000000) (disch := first | assumption | omega) only [runs, start, wpSs, wpS, wpE, wpEs, wpB, wpO, wpC, wpI, getS, setS, blank, blank1, List.map_cons, List.map_nil, List.length_cons, List.length_nil, List.cons_append, List.nil_append, List.replicate, Nat.sub_self, asBool_b, asInt_i, asList_l, asTup_t, must_s, cop_lt, cop_le, cop_gt, cop_ge, bop_add, bop_sub, bop_mod, bop_fdiv, bop_mul, ixOp_t0, ixOp_t1, ixOp_l, bsem_lenl, bsem_lent, gcv_u, gcv_d, isiD_i, isiD_b, isTok_i, isTok_b, isTok_n, isTok_t, isTok_l, isTok_s, and_true, true_and, if_true, if_false, Bool.false_eq_true, Bool.true_eq_false, Bool.not_true, Bool.not_false, Bool.not_not, noList_i, noList_b, noList_n, noList_t, plain_n, plain_c, lenlim, bindT_1, bindT_2, Nat.reduceAdd, Nat.reduceSub, isNon_n, isNon_i, isNon_b, isNon_t, isNon_l, isNon_s, ite_self, not_true_eq_false, not_false_eq_true, implies_true, false_and, and_false, decide_true, decide_false, decide_not, ixOp_s0, ixOp_s1, ixOp_p, ixOp_p0, ixOp_p1, ixOp_i, bsem_lenp, bsem_leni, bindT_p, isTok_sky, isTok_ps, isTok_is, isTok_p, noList_p, asList_p, asList_il, cop_eqi, cop_nei, bsem_max2, bsem_min2, ge0, c_is_int_i, toNat_nat, rangeD_len, eq_self, cop_eqil, cop_neil, cop_eqps, cop_neps, cop_eqp, cop_nep, Bool.and_true, Bool.true_and, big1, big2, cop_eqi0, cop_nei0, cop_eqp0, cop_nep0, bop_addps, bop_addis, bsem_maxl, bsem_minl, mtTy_index, msem_index, c_lpick2, c_lpick3, t_check_sky, c_check_sky, t_check_day, c_check_day, t_place_of, c_place_of, t_is_int, c_is_int]
      exact ite_k hk
    · exact hQ
def sp_larc : Spec := fun ds Q X => ∃ (u : Int) (bs : List (Int × Int)) (l : List Int) (d : Int), ds = [skyD u bs, intsD l, .int d] ∧ (Sky u bs) ∧ (Sel bs l) ∧ (-1000 ≤ d) ∧ (d ≤ 10000000) ∧ (Q (.int (arcBy u (spots u bs l d))))
theorem c_larc {u : Int} {bs : List (Int × Int)} {l : List Int} {d : Int} {Q : D → Prop} {X : Exn → Prop} (h0 : Sky u bs) (h1 : Sel bs l) (h2 : -1000 ≤ d) (h3 : d ≤ 10000000) : sp_larc [skyD u bs, intsD l, .int d] Q X = (Q (.int (arcBy u (spots u bs l d)))) := by
  simp only [eq_iff_iff]
  constructor
  · rintro ⟨u', bs', l', d', e, _, _, _, _, h⟩
    simp only [List.cons.injEq, PyData.int.injEq, PyData.bool.injEq, skyD_eq, intsD_eq, pairsD_eq, pairD_eq, and_true, true_and] at e
    obtain ⟨⟨rfl, rfl⟩, rfl, rfl⟩ := e
    exact h
  · exact fun h => ⟨u, bs, l, d, rfl, h0, h1, h2, h3, h⟩
theorem r_larc {T : Fn → Spec} (t_lat : T .lat = sp_lat) {ds : List D} {Q : D → Prop} {X : Exn → Prop} (h : sp_larc ds Q X) : ds.length = 3 ∧ runs T 8 b_law_arc ds Q X := by
  obtain ⟨u, bs, l, d, rfl, hs, h1, h2, h3, hQ⟩ := h
  refine ⟨rfl, ?_⟩
  have hn := h1.le
  have h4 := hs.l4
  have hu := hs.pos
  try simp (maxSteps := 2000000) (disch := first | assumption | omega) only [runs, start, wpSs, wpS, wpE, wpEs, wpB, wpO, wpC, wpI, getS, setS, blank, blank1, List.map_cons, List.map_nil, List.length_cons, List.length_nil, List.cons_append, List.nil_append, List.replicate, Nat.sub_self, asBool_b, asInt_i, asList_l, asTup_t, must_s, cop_lt, cop_le, cop_gt, cop_ge, bop_add, bop_sub, bop_mod, bop_fdiv, bop_mul, ixOp_t0, ixOp_t1, ixOp_l, bsem_lenl, bsem_lent, gcv_u, gcv_d, isiD_i, isiD_b, isTok_i, isTok_b, isTok_n, isTok_t, isTok_l, isTok_s, and_true, true_and, if_true, if_false, Bool.false_eq_true, Bool.true_eq_false, Bool.not_true, Bool.not_false, Bool.not_not, noList_i, noList_b, noList_n, noList_t, plain_n, plain_c, lenlim, bindT_1, bindT_2, Nat.reduceAdd, Nat.reduceSub, isNon_n, isNon_i, isNon_b, isNon_t, isNon_l, isNon_s, ite_self, not_true_eq_false, not_false_eq_true, implies_true, false_and, and_false, decide_true, decide_false, decide_not, ixOp_s0, ixOp_s1, ixOp_p, ixOp_p0, ixOp_p1, ixOp_i, bsem_lenp, bsem_leni, bindT_p, isTok_sky, isTok_ps, isTok_is, isTok_p, noList_p, asList_p, asList_il, cop_eqi, cop_nei, bsem_max2, bsem_min2, ge0, c_is_int_i, toNat_nat, rangeD_len, eq_self, cop_eqil, cop_neil, cop_eqps, cop_neps, cop_eqp, cop_nep, Bool.and_true, Bool.true_and, big1, big2, cop_eqi0, cop_nei0, cop_eqp0, cop_nep0, bop_addps, bop_addis, bsem_maxl, bsem_minl, mtTy_index, msem_index, c_lpick2, c_lpick3, t_lat, c_lat, b_law_arc, b_law_arc_0, b_law_arc_1]
  refine ⟨by rw [List.length_map]; unfold lim; omega, ?_⟩
  refine lc_ints (g := fun b => plc u bs b d) (fun x hx k hk => ?_) ?_
  · have := h1.ok x hx
    have a1 := this.1
    have a2 := this.2
    try simp (maxSteps := 2000000) (disch := first | assumption | omega) only [runs, start, wpSs, wpS, wpE, wpEs, wpB, wpO, wpC, wpI, getS, setS, blank, blank1, List.map_cons, List.map_nil, List.length_cons, List.length_nil, List.cons_append, List.nil_append, List.replicate, Nat.sub_self, asBool_b, asInt_i, asList_l, asTup_t, must_s, cop_lt, cop_le, cop_gt, cop_ge, bop_add, bop_sub, bop_mod, bop_fdiv, bop_mul, ixOp_t0, ixOp_t1, ixOp_l, bsem_lenl, bsem_lent, gcv_u, gcv_d, isiD_i, isiD_b, isTok_i, isTok_b, isTok_n, isTok_t, isTok_l, isTok_s, and_true, true_and, if_true, if_false, Bool.false_eq_true, Bool.true_eq_false, Bool.not_true, Bool.not_false, Bool.not_not, noList_i, noList_b, noList_n, noList_t, plain_n, plain_c, lenlim, bindT_1, bindT_2, Nat.reduceAdd, Nat.reduceSub, isNon_n, isNon_i, isNon_b, isNon_t, isNon_l, isNon_s, ite_self, not_true_eq_false, not_false_eq_true, implies_true, false_and, and_false, decide_true, decide_false, decide_not, ixOp_s0, ixOp_s1, ixOp_p, ixOp_p0, ixOp_p1, ixOp_i, bsem_lenp, bsem_leni, bindT_p, isTok_sky, isTok_ps, isTok_is, isTok_p, noList_p, asList_p, asList_il, cop_eqi, cop_nei, bsem_max2, bsem_min2, ge0, c_is_int_i, toNat_nat, rangeD_len, eq_self, cop_eqil, cop_neil, cop_eqps, cop_neps, cop_eqp, cop_nep, Bool.and_true, Bool.true_and, big1, big2, cop_eqi0, cop_nei0, cop_eqp0, cop_nep0, bop_addps, bop_addis, bsem_maxl, bsem_minl, mtTy_index, msem_index, c_lpick2, c_lpick3, t_lat, c_lat]
    exact hk
  show wpSs T b_law_arc_2 [.d (skyD u bs), .d (intsD l), .d (.int d), .d (.int u), .d (intsD (spots u bs l d)), .no, .no, .no] _
  have ls : (spots u bs l d).length = l.length := by simp [spots]
  have l0 : 0 < l.length := h1.ps
  try simp (maxSteps := 2000000) (disch := first | assumption | omega) only [runs, start, wpSs, wpS, wpE, wpEs, wpB, wpO, wpC, wpI, getS, setS, blank, blank1, List.map_cons, List.map_nil, List.length_cons, List.length_nil, List.cons_append, List.nil_append, List.replicate, Nat.sub_self, asBool_b, asInt_i, asList_l, asTup_t, must_s, cop_lt, cop_le, cop_gt, cop_ge, bop_add, bop_sub, bop_mod, bop_fdiv, bop_mul, ixOp_t0, ixOp_t1, ixOp_l, bsem_lenl, bsem_lent, gcv_u, gcv_d, isiD_i, isiD_b, isTok_i, isTok_b, isTok_n, isTok_t, isTok_l, isTok_s, and_true, true_and, if_true, if_false, Bool.false_eq_true, Bool.true_eq_false, Bool.not_true, Bool.not_false, Bool.not_not, noList_i, noList_b, noList_n, noList_t, plain_n, plain_c, lenlim, bindT_1, bindT_2, Nat.reduceAdd, Nat.reduceSub, isNon_n, isNon_i, isNon_b, isNon_t, isNon_l, isNon_s, ite_self, not_true_eq_false, not_false_eq_true, implies_true, false_and, and_false, decide_true, decide_false, decide_not, ixOp_s0, ixOp_s1, ixOp_p, ixOp_p0, ixOp_p1, ixOp_i, bsem_lenp, bsem_leni, bindT_p, isTok_sky, isTok_ps, isTok_is, isTok_p, noList_p, asList_p, asList_il, cop_eqi, cop_nei, bsem_max2, bsem_min2, ge0, c_is_int_i, toNat_nat, rangeD_len, eq_self, cop_eqil, cop_neil, cop_eqps, cop_neps, cop_eqp, cop_nep, Bool.and_true, Bool.true_and, big1, big2, cop_eqi0, cop_nei0, cop_eqp0, cop_nep0, bop_addps, bop_addis, bsem_maxl, bsem_minl, mtTy_index, msem_index, c_lpick2, c_lpick3, t_lat, c_lat, b_law_arc_2]
  refine ⟨by rw [List.length_map]; unfold lim; omega, ?_⟩
  refine lc_ints (g := far u (spots u bs l d)) (fun x hx k hk => ?_) ?_
  · try simp (maxSteps := 2000000) (disch := first | assumption | omega) only [runs, start, wpSs, wpS, wpE, wpEs, wpB, wpO, wpC, wpI, getS, setS, blank, blank1, List.map_cons, List.map_nil, List.length_cons, List.length_nil, List.cons_append, List.nil_append, List.replicate, Nat.sub_self, asBool_b, asInt_i, asList_l, asTup_t, must_s, cop_lt, cop_le, cop_gt, cop_ge, bop_add, bop_sub, bop_mod, bop_fdiv, bop_mul, ixOp_t0, ixOp_t1, ixOp_l, bsem_lenl, bsem_lent, gcv_u, gcv_d, isiD_i, isiD_b, isTok_i, isTok_b, isTok_n, isTok_t, isTok_l, isTok_s, and_true, true_and, if_true, if_false, Bool.false_eq_true, Bool.true_eq_false, Bool.not_true, Bool.not_false, Bool.not_not, noList_i, noList_b, noList_n, noList_t, plain_n, plain_c, lenlim, bindT_1, bindT_2, Nat.reduceAdd, Nat.reduceSub, isNon_n, isNon_i, isNon_b, isNon_t, isNon_l, isNon_s, ite_self, not_true_eq_false, not_false_eq_true, implies_true, false_and, and_false, decide_true, decide_false, decide_not, ixOp_s0, ixOp_s1, ixOp_p, ixOp_p0, ixOp_p1, ixOp_i, bsem_lenp, bsem_leni, bindT_p, isTok_sky, isTok_ps, isTok_is, isTok_p, noList_p, asList_p, asList_il, cop_eqi, cop_nei, bsem_max2, bsem_min2, ge0, c_is_int_i, toNat_nat, rangeD_len, eq_self, cop_eqil, cop_neil, cop_eqps, cop_neps, cop_eqp, cop_nep, Bool.and_true, Bool.true_and, big1, big2, cop_eqi0, cop_nei0, cop_eqp0, cop_nep0, bop_addps, bop_addis, bsem_maxl, bsem_minl, mtTy_index, msem_index, c_lpick2, c_lpick3, t_lat, c_lat]
    refine ⟨by rw [List.length_map]; unfold lim; omega, ?_⟩
    refine lc_ints (g := fun s => (s - x) % u) (fun y hy k hk => ?_) ?_
    · try simp (maxSteps := 2000000) (disch := first | assumption | omega) only [runs, start, wpSs, wpS, wpE, wpEs, wpB, wpO, wpC, wpI, getS, setS, blank, blank1, List.map_cons, List.map_nil, List.length_cons, List.length_nil, List.cons_append, List.nil_append, List.replicate, Nat.sub_self, asBool_b, asInt_i, asList_l, asTup_t, must_s, cop_lt, cop_le, cop_gt, cop_ge, bop_add, bop_sub, bop_mod, bop_fdiv, bop_mul, ixOp_t0, ixOp_t1, ixOp_l, bsem_lenl, bsem_lent, gcv_u, gcv_d, isiD_i, isiD_b, isTok_i, isTok_b, isTok_n, isTok_t, isTok_l, isTok_s, and_true, true_and, if_true, if_false, Bool.false_eq_true, Bool.true_eq_false, Bool.not_true, Bool.not_false, Bool.not_not, noList_i, noList_b, noList_n, noList_t, plain_n, plain_c, lenlim, bindT_1, bindT_2, Nat.reduceAdd, Nat.reduceSub, isNon_n, isNon_i, isNon_b, isNon_t, isNon_l, isNon_s, ite_self, not_true_eq_false, not_false_eq_true, implies_true, false_and, and_false, decide_true, decide_false, decide_not, ixOp_s0, ixOp_s1, ixOp_p, ixOp_p0, ixOp_p1, ixOp_i, bsem_lenp, bsem_leni, bindT_p, isTok_sky, isTok_ps, isTok_is, isTok_p, noList_p, asList_p, asList_il, cop_eqi, cop_nei, bsem_max2, bsem_min2, ge0, c_is_int_i, toNat_nat, rangeD_len, eq_self, cop_eqil, cop_neil, cop_eqps, cop_neps, cop_eqp, cop_nep, Bool.and_true, Bool.true_and, big1, big2, cop_eqi0, cop_nei0, cop_eqp0, cop_nep0, bop_addps, bop_addis, bsem_maxl, bsem_minl, mtTy_index, msem_index, c_lpick2, c_lpick3, t_lat, c_lat]
      exact hk
    · show must (bsem .max [intsD ((spots u bs l d).map fun s => (s - x) % u)]) _
      rw [bsem_maxl (by rw [List.length_map]; omega)]
      exact ⟨rfl, hk⟩
  · show must (bsem .min [intsD ((spots u bs l d).map (far u (spots u bs l d)))]) _
    rw [bsem_minl (by rw [List.length_map]; omega)]
    exact hQ
def sp_lsome : Spec := fun ds Q X => ∃ (u : Int) (bs : List (Int × Int)), ds = [.dict [], skyD u bs] ∧ (Sky u bs) ∧ (∀ l, Sel bs l → Q (intsD l))
theorem c_lsome {u : Int} {bs : List (Int × Int)} {Q : D → Prop} {X : Exn → Prop} (h0 : Sky u bs) : sp_lsome [.dict [], skyD u bs] Q X = (∀ l, Sel bs l → Q (intsD l)) := by
  simp only [eq_iff_iff]
  constructor
  · rintro ⟨u', bs', e, _, h⟩
    simp only [List.cons.injEq, PyData.int.injEq, PyData.bool.injEq, skyD_eq, intsD_eq, pairsD_eq, pairD_eq, and_true, true_and] at e
    obtain ⟨rfl, rfl⟩ := e
    exact h
  · exact fun h => ⟨u, bs, rfl, h0, h⟩
theorem r_lsome {T : Fn → Spec} (t_ldraw : T .ldraw = sp_ldraw) (t_lpick : T .lpick = sp_lpick) {ds : List D} {Q : D → Prop} {X : Exn → Prop} (h : sp_lsome ds Q X) : ds.length = 2 ∧ runs T 5 b_law_some ds Q X := by
  obtain ⟨u, bs, rfl, hs, hQ⟩ := h
  refine ⟨rfl, ?_⟩
  have h4 := hs.l4
  have hn := hs.n4
  have hm := hs.n1
  try simp (maxSteps := 2000000) (disch := first | assumption | omega) only [runs, start, wpSs, wpS, wpE, wpEs, wpB, wpO, wpC, wpI, getS, setS, blank, blank1, List.map_cons, List.map_nil, List.length_cons, List.length_nil, List.cons_append, List.nil_append, List.replicate, Nat.sub_self, asBool_b, asInt_i, asList_l, asTup_t, must_s, cop_lt, cop_le, cop_gt, cop_ge, bop_add, bop_sub, bop_mod, bop_fdiv, bop_mul, ixOp_t0, ixOp_t1, ixOp_l, bsem_lenl, bsem_lent, gcv_u, gcv_d, isiD_i, isiD_b, isTok_i, isTok_b, isTok_n, isTok_t, isTok_l, isTok_s, and_true, true_and, if_true, if_false, Bool.false_eq_true, Bool.true_eq_false, Bool.not_true, Bool.not_false, Bool.not_not, noList_i, noList_b, noList_n, noList_t, plain_n, plain_c, lenlim, bindT_1, bindT_2, Nat.reduceAdd, Nat.reduceSub, isNon_n, isNon_i, isNon_b, isNon_t, isNon_l, isNon_s, ite_self, not_true_eq_false, not_false_eq_true, implies_true, false_and, and_false, decide_true, decide_false, decide_not, ixOp_s0, ixOp_s1, ixOp_p, ixOp_p0, ixOp_p1, ixOp_i, bsem_lenp, bsem_leni, bindT_p, isTok_sky, isTok_ps, isTok_is, isTok_p, noList_p, asList_p, asList_il, cop_eqi, cop_nei, bsem_max2, bsem_min2, ge0, c_is_int_i, toNat_nat, rangeD_len, eq_self, cop_eqil, cop_neil, cop_eqps, cop_neps, cop_eqp, cop_nep, Bool.and_true, Bool.true_and, big1, big2, cop_eqi0, cop_nei0, cop_eqp0, cop_nep0, bop_addps, bop_addis, bsem_maxl, bsem_minl, mtTy_index, msem_index, c_lpick2, c_lpick3, t_ldraw, c_ldraw, t_lpick, c_lpick, b_law_some, b_law_some_0, b_law_some_1, b_law_some_2]
  refine ⟨by omega, fun c c0 c1 => ⟨by unfold big; omega, by unfold big; omega, ?_⟩⟩
  have e0 : rangeD 0 ((bs.length : Int) - 0).toNat = ((List.range bs.length).map fun (i : Nat) => (i : Int)).map .int := by
    have : ((bs.length : Int) - 0).toNat = bs.length := by omega
    rw [this, rangeD_eq]
    simp
  rw [e0]
  refine for_rg (I := fun i G => ∃ (a l : List Int) (s : Sl), G = [.d (.dict []), .d (skyD u bs), .own (a.map .int), .own (l.map .int), s] ∧ l.length = i ∧ a.length + i = bs.length ∧ (a ++ l).Nodup ∧ ∀ x ∈ a ++ l, 0 ≤ x ∧ x < bs.length) ⟨_, [], _, rfl, rfl, by simp, ?_, ?_⟩ (fun i hi G hG k hk => ?_) (fun G hG => ?_)
  · rw [List.append_nil]
    exact lt_nodup (List.pairwise_map.mpr (List.pairwise_lt_range.imp fun h => by omega))
  · intro x hx
    rw [List.append_nil] at hx
    obtain ⟨j, hj, rfl⟩ := List.mem_map.mp hx
    have := List.mem_range.mp hj
    omega
  · obtain ⟨a, l, s, rfl, g1, g2, g3, g4⟩ := hG
    have ga : 0 < a.length := by omega
    have ga2 : a.length ≤ 1000000 := by omega
    try simp (maxSteps := 2000000) (disch := first | assumption | omega) only [runs, start, wpSs, wpS, wpE, wpEs, wpB, wpO, wpC, wpI, getS, setS, blank, blank1, List.map_cons, List.map_nil, List.length_cons, List.length_nil, List.cons_append, List.nil_append, List.replicate, Nat.sub_self, asBool_b, asInt_i, asList_l, asTup_t, must_s, cop_lt, cop_le, cop_gt, cop_ge, bop_add, bop_sub, bop_mod, bop_fdiv, bop_mul, ixOp_t0, ixOp_t1, ixOp_l, bsem_lenl, bsem_lent, gcv_u, gcv_d, isiD_i, isiD_b, isTok_i, isTok_b, isTok_n, isTok_t, isTok_l, isTok_s, and_true, true_and, if_true, if_false, Bool.false_eq_true, Bool.true_eq_false, Bool.not_true, Bool.not_false, Bool.not_not, noList_i, noList_b, noList_n, noList_t, plain_n, plain_c, lenlim, bindT_1, bindT_2, Nat.reduceAdd, Nat.reduceSub, isNon_n, isNon_i, isNon_b, isNon_t, isNon_l, isNon_s, ite_self, not_true_eq_false, not_false_eq_true, implies_true, false_and, and_false, decide_true, decide_false, decide_not, ixOp_s0, ixOp_s1, ixOp_p, ixOp_p0, ixOp_p1, ixOp_i, bsem_lenp, bsem_leni, bindT_p, isTok_sky, isTok_ps, isTok_is, isTok_p, noList_p, asList_p, asList_il, cop_eqi, cop_nei, bsem_max2, bsem_min2, ge0, c_is_int_i, toNat_nat, rangeD_len, eq_self, cop_eqil, cop_neil, cop_eqps, cop_neps, cop_eqp, cop_nep, Bool.and_true, Bool.true_and, big1, big2, cop_eqi0, cop_nei0, cop_eqp0, cop_nep0, bop_addps, bop_addis, bsem_maxl, bsem_minl, mtTy_index, msem_index, c_lpick2, c_lpick3, t_ldraw, c_ldraw, t_lpick, c_lpick, b_law_some_2l_0, c_lpickL]
    intro x hx
    have e3 : ints? (a.map PyData.int) = some a := ints?_map a
    try simp (maxSteps := 2000000) (disch := first | assumption | omega) only [runs, start, wpSs, wpS, wpE, wpEs, wpB, wpO, wpC, wpI, getS, setS, blank, blank1, List.map_cons, List.map_nil, List.length_cons, List.length_nil, List.cons_append, List.nil_append, List.replicate, Nat.sub_self, asBool_b, asInt_i, asList_l, asTup_t, must_s, cop_lt, cop_le, cop_gt, cop_ge, bop_add, bop_sub, bop_mod, bop_fdiv, bop_mul, ixOp_t0, ixOp_t1, ixOp_l, bsem_lenl, bsem_lent, gcv_u, gcv_d, isiD_i, isiD_b, isTok_i, isTok_b, isTok_n, isTok_t, isTok_l, isTok_s, and_true, true_and, if_true, if_false, Bool.false_eq_true, Bool.true_eq_false, Bool.not_true, Bool.not_false, Bool.not_not, noList_i, noList_b, noList_n, noList_t, plain_n, plain_c, lenlim, bindT_1, bindT_2, Nat.reduceAdd, Nat.reduceSub, isNon_n, isNon_i, isNon_b, isNon_t, isNon_l, isNon_s, ite_self, not_true_eq_false, not_false_eq_true, implies_true, false_and, and_false, decide_true, decide_false, decide_not, ixOp_s0, ixOp_s1, ixOp_p, ixOp_p0, ixOp_p1, ixOp_i, bsem_lenp, bsem_leni, bindT_p, isTok_sky, isTok_ps, isTok_is, isTok_p, noList_p, asList_p, asList_il, cop_eqi, cop_nei, bsem_max2, bsem_min2, ge0, c_is_int_i, toNat_nat, rangeD_len, eq_self, cop_eqil, cop_neil, cop_eqps, cop_neps, cop_eqp, cop_nep, Bool.and_true, Bool.true_and, big1, big2, cop_eqi0, cop_nei0, cop_eqp0, cop_nep0, bop_addps, bop_addis, bsem_maxl, bsem_minl, mtTy_index, msem_index, c_lpick2, c_lpick3, t_ldraw, c_ldraw, t_lpick, c_lpick, b_law_some_2l_1, ixOp_lastL, e3]
    have p1 : (a ++ l).Perm (a.erase x ++ (l ++ [x])) := by
      have q1 : a.Perm (x :: a.erase x) := List.perm_cons_erase hx
      refine (q1.append_right l).trans ?_
      rw [← List.append_assoc]
      exact (List.perm_append_singleton x (a.erase x ++ l)).symm
    refine ⟨by rw [List.length_map]; unfold lim; omega, hx, hk _ ⟨a.erase x, l ++ [x], _, by rw [List.map_append]; rfl, by simp [g1], ?_, p1.nodup_iff.mp g3, fun y hy => g4 y (p1.mem_iff.mpr hy)⟩⟩
    rw [List.length_erase_of_mem hx]
    omega
  · obtain ⟨a, l, s, rfl, g1, g2, g3, g4⟩ := hG
    try simp (maxSteps := 2000000) (disch := first | assumption | omega) only [runs, start, wpSs, wpS, wpE, wpEs, wpB, wpO, wpC, wpI, getS, setS, blank, blank1, List.map_cons, List.map_nil, List.length_cons, List.length_nil, List.cons_append, List.nil_append, List.replicate, Nat.sub_self, asBool_b, asInt_i, asList_l, asTup_t, must_s, cop_lt, cop_le, cop_gt, cop_ge, bop_add, bop_sub, bop_mod, bop_fdiv, bop_mul, ixOp_t0, ixOp_t1, ixOp_l, bsem_lenl, bsem_lent, gcv_u, gcv_d, isiD_i, isiD_b, isTok_i, isTok_b, isTok_n, isTok_t, isTok_l, isTok_s, and_true, true_and, if_true, if_false, Bool.false_eq_true, Bool.true_eq_false, Bool.not_true, Bool.not_false, Bool.not_not, noList_i, noList_b, noList_n, noList_t, plain_n, plain_c, lenlim, bindT_1, bindT_2, Nat.reduceAdd, Nat.reduceSub, isNon_n, isNon_i, isNon_b, isNon_t, isNon_l, isNon_s, ite_self, not_true_eq_false, not_false_eq_true, implies_true, false_and, and_false, decide_true, decide_false, decide_not, ixOp_s0, ixOp_s1, ixOp_p, ixOp_p0, ixOp_p1, ixOp_i, bsem_lenp, bsem_leni, bindT_p, isTok_sky, isTok_ps, isTok_is, isTok_p, noList_p, asList_p, asList_il, cop_eqi, cop_nei, bsem_max2, bsem_min2, ge0, c_is_int_i, toNat_nat, rangeD_len, eq_self, cop_eqil, cop_neil, cop_eqps, cop_neps, cop_eqp, cop_nep, Bool.and_true, Bool.true_and, big1, big2, cop_eqi0, cop_nei0, cop_eqp0, cop_nep0, bop_addps, bop_addis, bsem_maxl, bsem_minl, mtTy_index, msem_index, c_lpick2, c_lpick3, t_ldraw, c_ldraw, t_lpick, c_lpick, b_law_some_3, b_law_some_4, b_law_some_5]
    exact hQ l ⟨by omega, fun x hx => g4 x (by simp [hx]), (List.nodup_append.mp g3).2.1⟩
end Sk
set_option linter.all false
namespace Sk

/-! periods: units over the common divisor, joint multiples -/
def rnd (u r : Int) : Int := u / (Int.gcd u r : Int)
def jnt (a b : Int) : Int := a / (Int.gcd a b : Int) * b
def perF (u : Int) (f : Int) (rs : List Int) : Int := rs.foldl (fun f r => jnt f (rnd u r)) f
def per (u : Int) (rs : List Int) : Int := perF u 1 rs
theorem gcd_pos {u r : Int} (hu : 0 < u) : 0 < (Int.gcd u r : Int) := by
  have : 0 < Int.gcd u r := Int.gcd_pos_of_ne_zero_left r (by omega)
  omega
theorem rnd_mul {u r : Int} : rnd u r * (Int.gcd u r : Int) = u := Int.ediv_mul_cancel (Int.gcd_dvd_left u r)
theorem rnd_pos {u r : Int} (hu : 0 < u) : 0 < rnd u r := by
  have h1 := rnd_mul (u := u) (r := r)
  have h2 := gcd_pos (r := r) hu
  refine Int.not_le.mp fun h => ?_
  have : rnd u r * (Int.gcd u r : Int) ≤ 0 := Int.mul_nonpos_of_nonpos_of_nonneg h (by omega)
  omega
theorem rnd_dvd {u r d : Int} (hu : 0 < u) : rnd u r ∣ d ↔ u ∣ d * r := by
  have g0 := gcd_pos (r := r) hu
  have e1 := rnd_mul (u := u) (r := r)
  obtain ⟨k, hk⟩ := Int.gcd_dvd_right u r
  have hg : (Int.gcd u r : Int) ≠ 0 := by omega
  have hc : Int.gcd (rnd u r) k = 1 := by
    have h1 : Int.gcd (u / (Int.gcd u r : Int)) (r / (Int.gcd u r : Int)) = 1 := Int.gcd_ediv_gcd_ediv_gcd (by omega)
    have h2 : r / (Int.gcd u r : Int) = k := Int.ediv_eq_of_eq_mul_right hg hk
    rw [h2] at h1
    exact h1
  have e2 : u ∣ d * r ↔ rnd u r ∣ d * k := by
    have h3 : d * r = (d * k) * (Int.gcd u r : Int) := by
      conv => lhs; rw [hk]
      rw [Int.mul_assoc, Int.mul_comm k]
    constructor
    · rintro ⟨c, hc⟩
      refine ⟨c, ?_⟩
      have : (d * k) * (Int.gcd u r : Int) = (rnd u r * c) * (Int.gcd u r : Int) := by
        rw [← h3, hc, Int.mul_assoc, Int.mul_comm c, ← Int.mul_assoc, e1]
      exact Int.eq_of_mul_eq_mul_right hg this
    · rintro ⟨c, hc⟩
      refine ⟨c, ?_⟩
      rw [h3, hc, Int.mul_assoc, Int.mul_comm c, ← Int.mul_assoc, e1]
  rw [e2]
  constructor
  · exact fun h => Int.dvd_mul_of_dvd_left h
  · intro h
    have h1 : (rnd u r).natAbs ∣ d.natAbs * k.natAbs := by
      rw [← Int.natAbs_mul]
      exact Int.natAbs_dvd_natAbs.mpr h
    exact Int.natAbs_dvd_natAbs.mp (Nat.Coprime.dvd_of_dvd_mul_right hc h1)
theorem jnt_lcm {a b : Int} (ha : 0 < a) (hb : 0 < b) : jnt a b = (Int.lcm a b : Int) := by
  obtain ⟨n, rfl⟩ := Int.eq_ofNat_of_zero_le (show 0 ≤ a by omega)
  obtain ⟨m, rfl⟩ := Int.eq_ofNat_of_zero_le (show 0 ≤ b by omega)
  unfold jnt
  have e1 : Int.gcd (n : Int) (m : Int) = Nat.gcd n m := rfl
  have e2 : Int.lcm (n : Int) (m : Int) = Nat.lcm n m := rfl
  rw [e1, e2]
  have e3 : ((n : Int) / ((Nat.gcd n m : Nat) : Int)) * (m : Int) = ((n / Nat.gcd n m * m : Nat) : Int) := by
    rw [Int.natCast_mul, Int.natCast_ediv]
  rw [e3, Nat.div_mul_right_comm (Nat.gcd_dvd_left n m)]
  rfl
theorem jnt_pos {a b : Int} (ha : 0 < a) (hb : 0 < b) : 0 < jnt a b := by
  rw [jnt_lcm ha hb]
  have : 0 < Int.lcm a b := Int.lcm_pos (by omega) (by omega)
  omega
theorem jnt_dvd {a b d : Int} (ha : 0 < a) (hb : 0 < b) : jnt a b ∣ d ↔ a ∣ d ∧ b ∣ d := by
  rw [jnt_lcm ha hb]
  have h1 : (Int.lcm a b : Int) ∣ d ↔ (Int.lcm a b : Int) ∣ ((d.natAbs : Nat) : Int) := by rw [Int.dvd_natAbs]
  rw [h1, Int.natCast_dvd_natCast, Int.lcm_dvd_iff, Int.dvd_natAbs, Int.dvd_natAbs]
theorem perF_spec {u : Int} (hu : 0 < u) : ∀ (rs : List Int) (f : Int), 0 < f → 0 < perF u f rs ∧ ∀ d, perF u f rs ∣ d ↔ f ∣ d ∧ ∀ r ∈ rs, u ∣ d * r
  | [], f, hf => ⟨hf, fun d => by simp [perF]⟩
  | r :: rs, f, hf => by
    have h1 := jnt_pos hf (rnd_pos (r := r) hu)
    obtain ⟨h2, h3⟩ := perF_spec hu rs (jnt f (rnd u r)) h1
    refine ⟨h2, fun d => ?_⟩
    have := h3 d
    show perF u (jnt f (rnd u r)) rs ∣ d ↔ _
    rw [this, jnt_dvd hf (rnd_pos hu), rnd_dvd hu, List.forall_mem_cons, and_assoc]
theorem per_pos {u : Int} {rs : List Int} (hu : 0 < u) : 0 < per u rs := (perF_spec hu rs 1 (by omega)).1
theorem per_dvd {u d : Int} {rs : List Int} (hu : 0 < u) : per u rs ∣ d ↔ ∀ r ∈ rs, u ∣ d * r := by
  have := (perF_spec hu rs 1 (by omega)).2 d
  rw [show per u rs = perF u 1 rs from rfl, this]
  exact ⟨fun h => h.2, fun h => ⟨Int.one_dvd d, h⟩⟩
theorem per_units {u : Int} {rs : List Int} (hu : 0 < u) : per u rs ∣ u := (per_dvd hu).mpr fun r _ => Int.dvd_mul_right u r
theorem per_le {u : Int} {rs : List Int} (hu : 0 < u) : per u rs ≤ u := Int.le_of_dvd hu (per_units hu)
theorem per_least {u d : Int} {rs : List Int} (hu : 0 < u) (hd : 0 < d) (h : ∀ r ∈ rs, u ∣ d * r) : per u rs ≤ d := Int.le_of_dvd hd ((per_dvd hu).mpr h)
theorem per_self {u : Int} {rs : List Int} (hu : 0 < u) : ∀ r ∈ rs, u ∣ per u rs * r := (per_dvd hu).mp (Int.dvd_refl _)
theorem rnd_units {u r : Int} (hu : 0 < u) : rnd u r ∣ u := (rnd_dvd hu).mpr (Int.dvd_mul_right u r)
theorem rnd_le {u r : Int} (hu : 0 < u) : rnd u r ≤ u := Int.le_of_dvd hu (rnd_units hu)
/-- one step of Euclid's -/
theorem gcd_step {a b : Int} (ha : 0 ≤ a) (hb : 0 < b) : Int.gcd b (a % b) = Int.gcd a b := by
  obtain ⟨n, rfl⟩ := Int.eq_ofNat_of_zero_le ha
  obtain ⟨m, rfl⟩ := Int.eq_ofNat_of_zero_le (show 0 ≤ b by omega)
  have e : ((n : Int) % (m : Int)) = ((n % m : Nat) : Int) := rfl
  rw [e]
  show Nat.gcd m (n % m) = Nat.gcd n m
  rw [Nat.gcd_comm n m, Nat.gcd_rec m n, Nat.gcd_comm]
theorem gcd_zero {a : Int} (ha : 0 ≤ a) : (Int.gcd a 0 : Int) = a := by
  obtain ⟨n, rfl⟩ := Int.eq_ofNat_of_zero_le ha
  show ((Nat.gcd n 0 : Nat) : Int) = n
  rw [Nat.gcd_zero_right]
theorem gcd_mod {u r : Int} : Int.gcd u (r % u) = Int.gcd u r := by
  have h := Int.emod_add_mul_ediv r u
  refine Nat.dvd_antisymm ?_ ?_
  · refine Int.dvd_gcd (Int.gcd_dvd_left _ _) ?_
    conv => rhs; rw [← h]
    exact Int.dvd_add (Int.gcd_dvd_right _ _) (Int.dvd_mul_of_dvd_left (Int.gcd_dvd_left _ _))
  · refine Int.dvd_gcd (Int.gcd_dvd_left _ _) ?_
    have : r % u = r - u * (r / u) := by omega
    rw [this]
    exact Int.dvd_sub (Int.gcd_dvd_right _ _) (Int.dvd_mul_of_dvd_left (Int.gcd_dvd_left _ _))
theorem dvd_mod {u d r : Int} : u ∣ d * (r % u) ↔ u ∣ d * r := by
  rw [Int.dvd_iff_emod_eq_zero, Int.dvd_iff_emod_eq_zero, Int.mul_emod, Int.emod_emod, ← Int.mul_emod]
end Sk
set_option linter.all false
set_option maxRecDepth 10000
namespace Sk
open PySem
abbrev rngl (lo : Int) (n : Nat) : List Int := (List.range n).map fun (j : Nat) => lo + (j : Int)
theorem mem_rngl {lo x : Int} {n : Nat} : x ∈ rngl lo n ↔ lo ≤ x ∧ x < lo + n := by
  rw [List.mem_map]
  constructor
  · rintro ⟨i, hi, rfl⟩
    have := List.mem_range.mp hi
    omega
  · rintro ⟨h0, h1⟩
    exact ⟨(x - lo).toNat, List.mem_range.mpr (by omega), by omega⟩
theorem rngl_sorted {lo : Int} {n : Nat} : (rngl lo n).Pairwise (· < ·) := List.pairwise_map.mpr (List.pairwise_lt_range.imp fun h => by omega)
theorem rngl_len {lo : Int} {n : Nat} : (rngl lo n).length = n := by simp
def optD : Option Int → D
  | some i => .int i
  | none => .none
theorem for_findL {f : D → Ev → (Ev → Prop) → Prop} {p : Int → Bool} {K : Ev → Prop} {R : Int → Prop} (I : Ev → Prop) : ∀ {l : List Int} {G : Ev}, I G → (∀ i ∈ l, ∀ G, I G → ∀ nx : Ev → Prop, (p i = true → R i) → (p i = false → ∀ G', I G' → nx G') → f (.int i) G nx) → (∀ i, l.find? p = some i → R i) → (∀ G, I G → l.find? p = none → K G) → wpFor f (l.map .int) G K
  | [], G, h0, hs, hr, hn => hn G h0 rfl
  | x :: r, G, h0, hs, hr, hn => by
    simp only [List.map_cons, wpFor]
    refine hs x (by simp) G h0 _ (fun hp => hr x (by simp [hp])) (fun hp G' h' => ?_)
    refine for_findL I h' (fun i hi => hs i (by simp [hi])) (fun i hi => hr i (by simp [hp, hi])) (fun G hG hf => hn G hG (by simp [hp, hf]))
theorem for_find {f : D → Ev → (Ev → Prop) → Prop} {p : Int → Bool} {K : Ev → Prop} {R : Int → Prop} {lo : Int} {n : Nat} (I : Ev → Prop) {G : Ev} (h0 : I G) (hs : ∀ i : Int, lo ≤ i → i < lo + n → ∀ G, I G → ∀ nx : Ev → Prop, (p i = true → R i) → (p i = false → ∀ G', I G' → nx G') → f (.int i) G nx) (hr : ∀ i, (rngl lo n).find? p = some i → R i) (hn : ∀ G, I G → (rngl lo n).find? p = none → K G) : wpFor f (rangeD lo n) G K := by
  rw [rangeD_eq]
  exact for_findL I h0 (fun i hi => hs i (mem_rngl.mp hi).1 (mem_rngl.mp hi).2) hr hn
theorem mtTy_count {l : List Int} : mtTy .count (intsD l) = true := rfl
theorem msem_count {l : List Int} {y : Int} : msem .count (intsD l) [.int y] = some (.int (l.count y : Nat)) := by
  simp only [msem, intsD, ints?_map, Option.map_some]
theorem slen {l : List Int} : (fnd l).length ≤ l.length := by
  have e : (fnd l).length = (dedup l).length := (isort_perm _).length_eq
  rw [e]
  exact dedup_len _
/-- check_bound(sky, value); slots: sky value -/
def b_check_bound_0 : Ss := .cons (.ifs (.inot (.call .is_int (.cons (.var 1) (.cons (.ci 0) (.cons (.bin .sub (.ix (.var 0) (.ci 0)) (.ci 1)) (.nil)))))) (.cons (.raise .number) <| .nil) .nil) .nil
def b_check_bound : Ss := b_check_bound_0
/-- common(one, other); slots: one other -/
def b_common_0l_0 : Ss := .cons (.par 0 1 (.var 1) (.bin .mod (.var 0) (.var 1))) .nil
def b_common_1 : Ss := .cons (.ret (.var 0)) .nil
def b_common_0 : Ss := .cons (.whil (.cmp .ne (.var 1) (.ci 0)) b_common_0l_0) b_common_1
def b_common : Ss := b_common_0
/-- joint(one, other); slots: one other -/
def b_joint_0 : Ss := .cons (.ret (.bin .mul (.bin .fdiv (.var 0) (.call .common (.cons (.var 0) (.cons (.var 1) (.nil))))) (.var 1))) .nil
def b_joint : Ss := b_joint_0
/-- round_of(units, rate); slots: units rate -/
def b_round_of_0 : Ss := .cons (.ret (.bin .fdiv (.var 0) (.call .common (.cons (.var 0) (.cons (.var 1) (.nil)))))) .nil
def b_round_of : Ss := b_round_of_0
/-- relative_of(sky, some); slots: sky some found first body -/
def b_relative_of_2l_0 : Ss := .cons (.asg false 2 (.call .joint (.cons (.var 2) (.cons (.call .round_of (.cons (.ix (.var 0) (.ci 0)) (.cons (.bin .mod (.bin .sub (.ix (.ix (.ix (.var 0) (.ci 1)) (.var 4)) (.ci 1)) (.var 3)) (.ix (.var 0) (.ci 0))) (.nil)))) (.nil))))) .nil
def b_relative_of_3 : Ss := .cons (.ret (.var 2)) .nil
def b_relative_of_2 : Ss := .cons (.fors [4] (.list (.var 1)) b_relative_of_2l_0) b_relative_of_3
def b_relative_of_1 : Ss := .cons (.asg false 3 (.ix (.ix (.ix (.var 0) (.ci 1)) (.ix (.var 1) (.ci 0))) (.ci 1))) b_relative_of_2
def b_relative_of_0 : Ss := .cons (.asg false 2 (.ci 1)) b_relative_of_1
def b_relative_of : Ss := b_relative_of_0
/-- relative_period(sky, some); slots: sky some -/
def b_relative_period_2 : Ss := .cons (.ret (.call .relative_of (.cons (.var 0) (.cons (.var 1) (.nil))))) .nil
def b_relative_period_1 : Ss := .cons (.expr (.call .check_some (.cons (.var 0) (.cons (.var 1) (.nil))))) b_relative_period_2
def b_relative_period_0 : Ss := .cons (.expr (.call .check_sky (.cons (.var 0) (.nil)))) b_relative_period_1
def b_relative_period : Ss := b_relative_period_0
/-- check_all(sky, some, bound); slots: sky some bound -/
def b_check_all_2 : Ss := .cons (.expr (.call .check_bound (.cons (.var 0) (.cons (.var 2) (.nil))))) .nil
def b_check_all_1 : Ss := .cons (.expr (.call .check_some (.cons (.var 0) (.cons (.var 1) (.nil))))) b_check_all_2
def b_check_all_0 : Ss := .cons (.expr (.call .check_sky (.cons (.var 0) (.nil)))) b_check_all_1
def b_check_all : Ss := b_check_all_0
/-- days_of(sky, some, bound); slots: sky some bound day -/
def b_days_of_0 : Ss := .cons (.ret (.lc [3] (.rg1 (.call .relative_of (.cons (.var 0) (.cons (.var 1) (.nil))))) (.some (.cmp .le (.call .arc_of (.cons (.var 0) (.cons (.var 1) (.cons (.var 3) (.nil))))) (.var 2))) (.var 3))) .nil
def b_days_of : Ss := b_days_of_0
/-- together(sky, some, bound, day); slots: sky some bound day -/
def b_together_2 : Ss := .cons (.ret (.cmp .le (.call .arc_of (.cons (.var 0) (.cons (.var 1) (.cons (.var 3) (.nil))))) (.var 2))) .nil
def b_together_1 : Ss := .cons (.expr (.call .check_day (.cons (.var 3) (.nil)))) b_together_2
def b_together_0 : Ss := .cons (.expr (.call .check_all (.cons (.var 0) (.cons (.var 1) (.cons (.var 2) (.nil)))))) b_together_1
def b_together : Ss := b_together_0
/-- days(sky, some, bound); slots: sky some bound -/
def b_days_1 : Ss := .cons (.ret (.call .days_of (.cons (.var 0) (.cons (.var 1) (.cons (.var 2) (.nil)))))) .nil
def b_days_0 : Ss := .cons (.expr (.call .check_all (.cons (.var 0) (.cons (.var 1) (.cons (.var 2) (.nil)))))) b_days_1
def b_days : Ss := b_days_0
/-- first_day(sky, some, bound, day); slots: sky some bound day one -/
def b_first_day_2l_0 : Ss := .cons (.ifs (.cmp .le (.call .arc_of (.cons (.var 0) (.cons (.var 1) (.cons (.var 4) (.nil))))) (.var 2)) (.cons (.ret (.var 4)) <| .nil) .nil) .nil
def b_first_day_3 : Ss := .cons (.ret (.cn)) .nil
def b_first_day_2 : Ss := .cons (.fors [4] (.rg2 (.var 3) (.bin .add (.var 3) (.call .relative_of (.cons (.var 0) (.cons (.var 1) (.nil)))))) b_first_day_2l_0) b_first_day_3
def b_first_day_1 : Ss := .cons (.expr (.call .check_day (.cons (.var 3) (.nil)))) b_first_day_2
def b_first_day_0 : Ss := .cons (.expr (.call .check_all (.cons (.var 0) (.cons (.var 1) (.cons (.var 2) (.nil)))))) b_first_day_1
def b_first_day : Ss := b_first_day_0
/-- last_day(sky, some, bound, day); slots: sky some bound day one -/
def b_last_day_2l_0 : Ss := .cons (.ifs (.cmp .le (.call .arc_of (.cons (.var 0) (.cons (.var 1) (.cons (.var 4) (.nil))))) (.var 2)) (.cons (.ret (.var 4)) <| .nil) .nil) .nil
def b_last_day_3 : Ss := .cons (.ret (.cn)) .nil
def b_last_day_2 : Ss := .cons (.fors [4] (.rg3 (.bin .sub (.var 3) (.ci 1)) (.bi .max (.cons (.neg (.ci 1)) (.cons (.bin .sub (.bin .sub (.var 3) (.ci 1)) (.call .relative_of (.cons (.var 0) (.cons (.var 1) (.nil))))) (.nil)))) (.neg (.ci 1))) b_last_day_2l_0) b_last_day_3
def b_last_day_1 : Ss := .cons (.expr (.call .check_day (.cons (.var 3) (.nil)))) b_last_day_2
def b_last_day_0 : Ss := .cons (.expr (.call .check_all (.cons (.var 0) (.cons (.var 1) (.cons (.var 2) (.nil)))))) b_last_day_1
def b_last_day : Ss := b_last_day_0
/-- count_before(sky, some, bound, day); slots: sky some bound day good turns rest one -/
def b_count_before_4 : Ss := .cons (.ret (.bin .add (.bin .mul (.var 5) (.bi .len (.cons (.var 4) (.nil)))) (.bi .len (.cons (.lc [7] (.list (.var 4)) (.some (.cmp .lt (.var 7) (.var 6))) (.var 7)) (.nil))))) .nil
def b_count_before_3 : Ss := .cons (.asgT [5, 6] (.tup (.cons (.bin .fdiv (.var 3) (.call .relative_of (.cons (.var 0) (.cons (.var 1) (.nil))))) (.cons (.bin .mod (.var 3) (.call .relative_of (.cons (.var 0) (.cons (.var 1) (.nil))))) (.nil))))) b_count_before_4
def b_count_before_2 : Ss := .cons (.asg false 4 (.call .days_of (.cons (.var 0) (.cons (.var 1) (.cons (.var 2) (.nil)))))) b_count_before_3
def b_count_before_1 : Ss := .cons (.expr (.call .check_day (.cons (.var 3) (.nil)))) b_count_before_2
def b_count_before_0 : Ss := .cons (.expr (.call .check_all (.cons (.var 0) (.cons (.var 1) (.cons (.var 2) (.nil)))))) b_count_before_1
def b_count_before : Ss := b_count_before_0
/-- day_at(sky, some, bound, rank); slots: sky some bound rank good -/
def b_day_at_4 : Ss := .cons (.ret (.bin .add (.bin .mul (.bin .fdiv (.var 3) (.bi .len (.cons (.var 4) (.nil)))) (.call .relative_of (.cons (.var 0) (.cons (.var 1) (.nil))))) (.ix (.var 4) (.bin .mod (.var 3) (.bi .len (.cons (.var 4) (.nil))))))) .nil
def b_day_at_3 : Ss := .cons (.ifs (.cmp .eq (.var 4) (.lst .nil)) (.cons (.ret (.cn)) <| .nil) .nil) b_day_at_4
def b_day_at_2 : Ss := .cons (.asg false 4 (.call .days_of (.cons (.var 0) (.cons (.var 1) (.cons (.var 2) (.nil)))))) b_day_at_3
def b_day_at_1 : Ss := .cons (.expr (.call .check_day (.cons (.var 3) (.nil)))) b_day_at_2
def b_day_at_0 : Ss := .cons (.expr (.call .check_all (.cons (.var 0) (.cons (.var 1) (.cons (.var 2) (.nil)))))) b_day_at_1
def b_day_at : Ss := b_day_at_0
/-- least_bound(sky, some); slots: sky some day -/
def b_least_bound_2 : Ss := .cons (.ret (.bi .min (.cons (.lc [2] (.rg1 (.call .relative_of (.cons (.var 0) (.cons (.var 1) (.nil))))) .none (.call .arc_of (.cons (.var 0) (.cons (.var 1) (.cons (.var 2) (.nil)))))) (.nil)))) .nil
def b_least_bound_1 : Ss := .cons (.expr (.call .check_some (.cons (.var 0) (.cons (.var 1) (.nil))))) b_least_bound_2
def b_least_bound_0 : Ss := .cons (.expr (.call .check_sky (.cons (.var 0) (.nil)))) b_least_bound_1
def b_least_bound : Ss := b_least_bound_0
/-- arc_counts(sky, some); slots: sky some found day one -/
def b_arc_counts_3 : Ss := .cons (.ret (.lc [4] (.list (.srtSet (.var 2))) .none (.tup (.cons (.var 4) (.cons (.mth .count (.var 2) (.cons (.var 4) (.nil))) (.nil)))))) .nil
def b_arc_counts_2 : Ss := .cons (.asg false 2 (.lc [3] (.rg1 (.call .relative_of (.cons (.var 0) (.cons (.var 1) (.nil))))) .none (.call .arc_of (.cons (.var 0) (.cons (.var 1) (.cons (.var 3) (.nil))))))) b_arc_counts_3
def b_arc_counts_1 : Ss := .cons (.expr (.call .check_some (.cons (.var 0) (.cons (.var 1) (.nil))))) b_arc_counts_2
def b_arc_counts_0 : Ss := .cons (.expr (.call .check_sky (.cons (.var 0) (.nil)))) b_arc_counts_1
def b_arc_counts : Ss := b_arc_counts_0
/-- _law_relative(sky, some); slots: sky some gaps body day gap -/
def b_law_relative_2l_0 : Ss := .cons (.asg false 4 (.bin .add (.var 4) (.ci 1))) .nil
def b_law_relative_3 : Ss := .cons (.ret (.var 4)) .nil
def b_law_relative_2 : Ss := .cons (.whil (.cmp .ne (.lc [5] (.list (.var 2)) (.some (.cmp .ne (.bin .mod (.bin .mul (.var 5) (.var 4)) (.ix (.var 0) (.ci 0))) (.ci 0))) (.var 5)) (.lst .nil)) b_law_relative_2l_0) b_law_relative_3
def b_law_relative_1 : Ss := .cons (.asg false 4 (.ci 1)) b_law_relative_2
def b_law_relative_0 : Ss := .cons (.asg false 2 (.lc [3] (.list (.var 1)) .none (.bin .sub (.ix (.ix (.ix (.var 0) (.ci 1)) (.var 3)) (.ci 1)) (.ix (.ix (.ix (.var 0) (.ci 1)) (.ix (.var 1) (.ci 0))) (.ci 1))))) b_law_relative_1
def b_law_relative : Ss := b_law_relative_0
/-- _law_true(value, expected); slots: value expected -/
def b_law_true_0 : Ss := .cons (.ret (.bool true (.cons (.isi (.var 0) .bool) (.cons (.cmp .eq (.var 0) (.var 1)) (.nil))))) .nil
def b_law_true : Ss := b_law_true_0
/-- body_period(sky, body); slots: sky body -/
def b_body_period_2 : Ss := .cons (.ret (.call .round_of (.cons (.ix (.var 0) (.ci 0)) (.cons (.ix (.ix (.ix (.var 0) (.ci 1)) (.var 1)) (.ci 1)) (.nil))))) .nil
def b_body_period_1 : Ss := .cons (.expr (.call .check_body (.cons (.var 0) (.cons (.var 1) (.nil))))) b_body_period_2
def b_body_period_0 : Ss := .cons (.expr (.call .check_sky (.cons (.var 0) (.nil)))) b_body_period_1
def b_body_period : Ss := b_body_period_0
/-- period_of(sky); slots: sky found start rate -/
def b_period_of_1l_0 : Ss := .cons (.asg false 1 (.call .joint (.cons (.var 1) (.cons (.call .round_of (.cons (.ix (.var 0) (.ci 0)) (.cons (.var 3) (.nil)))) (.nil))))) .nil
def b_period_of_2 : Ss := .cons (.ret (.var 1)) .nil
def b_period_of_1 : Ss := .cons (.fors [2, 3] (.list (.ix (.var 0) (.ci 1))) b_period_of_1l_0) b_period_of_2
def b_period_of_0 : Ss := .cons (.asg false 1 (.ci 1)) b_period_of_1
def b_period_of : Ss := b_period_of_0
/-- period(sky); slots: sky -/
def b_period_1 : Ss := .cons (.ret (.call .period_of (.cons (.var 0) (.nil)))) .nil
def b_period_0 : Ss := .cons (.expr (.call .check_sky (.cons (.var 0) (.nil)))) b_period_1
def b_period : Ss := b_period_0
/-- meeting_units(sky, one, other); slots: sky one other step -/
def b_meeting_units_4 : Ss := .cons (.ret (.tup (.cons (.bin .mod (.bin .sub (.ix (.ix (.ix (.var 0) (.ci 1)) (.var 2)) (.ci 0)) (.ix (.ix (.ix (.var 0) (.ci 1)) (.var 1)) (.ci 0))) (.var 3)) (.cons (.var 3) (.nil))))) .nil
def b_meeting_units_3 : Ss := .cons (.asg false 3 (.call .common (.cons (.ix (.var 0) (.ci 0)) (.cons (.bin .mod (.bin .sub (.ix (.ix (.ix (.var 0) (.ci 1)) (.var 2)) (.ci 1)) (.ix (.ix (.ix (.var 0) (.ci 1)) (.var 1)) (.ci 1))) (.ix (.var 0) (.ci 0))) (.nil))))) b_meeting_units_4
def b_meeting_units_2 : Ss := .cons (.expr (.call .check_body (.cons (.var 0) (.cons (.var 2) (.nil))))) b_meeting_units_3
def b_meeting_units_1 : Ss := .cons (.expr (.call .check_body (.cons (.var 0) (.cons (.var 1) (.nil))))) b_meeting_units_2
def b_meeting_units_0 : Ss := .cons (.expr (.call .check_sky (.cons (.var 0) (.nil)))) b_meeting_units_1
def b_meeting_units : Ss := b_meeting_units_0
/-- ever_at(sky, body, unit); slots: sky body unit start rate day -/
def b_ever_at_4l_0 : Ss := .cons (.ifs (.cmp .eq (.bin .mod (.bin .add (.var 3) (.bin .mul (.var 5) (.var 4))) (.ix (.var 0) (.ci 0))) (.var 2)) (.cons (.ret (.var 5)) <| .nil) .nil) .nil
def b_ever_at_5 : Ss := .cons (.ret (.cn)) .nil
def b_ever_at_4 : Ss := .cons (.fors [5] (.rg1 (.call .round_of (.cons (.ix (.var 0) (.ci 0)) (.cons (.var 4) (.nil))))) b_ever_at_4l_0) b_ever_at_5
def b_ever_at_3 : Ss := .cons (.asgT [3, 4] (.ix (.ix (.var 0) (.ci 1)) (.var 1))) b_ever_at_4
def b_ever_at_2 : Ss := .cons (.ifs (.inot (.call .is_int (.cons (.var 2) (.cons (.ci 0) (.cons (.bin .sub (.ix (.var 0) (.ci 0)) (.ci 1)) (.nil)))))) (.cons (.ret (.cn)) <| .nil) .nil) b_ever_at_3
def b_ever_at_1 : Ss := .cons (.expr (.call .check_body (.cons (.var 0) (.cons (.var 1) (.nil))))) b_ever_at_2
def b_ever_at_0 : Ss := .cons (.expr (.call .check_sky (.cons (.var 0) (.nil)))) b_ever_at_1
def b_ever_at : Ss := b_ever_at_0
def sp_check_bound : Spec := fun ds Q X => ∃ (u : Int) (bs : List (Int × Int)) (b : Int), ds = [skyD u bs, .int b] ∧ (Sky u bs) ∧ (0 ≤ b) ∧ (b < u) ∧ (Q (.none))
theorem c_check_bound {u : Int} {bs : List (Int × Int)} {b : Int} {Q : D → Prop} {X : Exn → Prop} (h0 : Sky u bs) (h1 : 0 ≤ b) (h2 : b < u) : sp_check_bound [skyD u bs, .int b] Q X = (Q (.none)) := by
  simp only [eq_iff_iff]
  constructor
  · rintro ⟨u', bs', b', e, _, _, _, h⟩
    simp only [List.cons.injEq, PyData.int.injEq, PyData.bool.injEq, skyD_eq, intsD_eq, pairsD_eq, pairD_eq, and_true, true_and] at e
    obtain ⟨⟨rfl, rfl⟩, rfl⟩ := e
    exact h
  · exact fun h => ⟨u, bs, b, rfl, h0, h1, h2, h⟩
theorem r_check_bound {T : Fn → Spec} (t_is_int : T .is_int = sp_is_int) {ds : List D} {Q : D → Prop} {X : Exn → Prop} (h : sp_check_bound ds Q X) : ds.length = 2 ∧ runs T 2 b_check_bound ds Q X := by
  obtain ⟨u, bs, b, rfl, hs, h1, h2, hQ⟩ := h
  refine ⟨rfl, ?_⟩
  have e2 : isInt (.int b) 0 (u - 1) = true := isInt_iff.mpr ⟨b, rfl, h1, by omega⟩
  try simp (maxSteps := 2000000) (disch := first | assumption | omega) only [runs, start, wpSs, wpS, wpE, wpEs, wpB, wpO, wpC, wpI, getS, setS, blank, blank1, List.map_cons, List.map_nil, List.length_cons, List.length_nil, List.cons_append, List.nil_append, List.replicate, Nat.sub_self, asBool_b, asInt_i, asList_l, asTup_t, must_s, cop_lt, cop_le, cop_gt, cop_ge, bop_add, bop_sub, bop_mod, bop_fdiv, bop_mul, ixOp_t0, ixOp_t1, ixOp_l, bsem_lenl, bsem_lent, gcv_u, gcv_d, isiD_i, isiD_b, isTok_i, isTok_b, isTok_n, isTok_t, isTok_l, isTok_s, and_true, true_and, if_true, if_false, Bool.false_eq_true, Bool.true_eq_false, Bool.not_true, Bool.not_false, Bool.not_not, noList_i, noList_b, noList_n, noList_t, plain_n, plain_c, lenlim, bindT_1, bindT_2, Nat.reduceAdd, Nat.reduceSub, isNon_n, isNon_i, isNon_b, isNon_t, isNon_l, isNon_s, ite_self, not_true_eq_false, not_false_eq_true, implies_true, false_and, and_false, decide_true, decide_false, decide_not, ixOp_s0, ixOp_s1, ixOp_p, ixOp_p0, ixOp_p1, ixOp_i, bsem_lenp, bsem_leni, bindT_p, isTok_sky, isTok_ps, isTok_is, isTok_p, noList_p, asList_p, asList_il, cop_eqi, cop_nei, bsem_max2, bsem_min2, ge0, c_is_int_i, toNat_nat, rangeD_len, eq_self, cop_eqil, cop_neil, cop_eqps, cop_neps, cop_eqp, cop_nep, Bool.and_true, Bool.true_and, big1, big2, cop_eqi0, cop_nei0, cop_eqp0, cop_nep0, bop_addps, bop_addis, bsem_maxl, bsem_minl, mtTy_index, msem_index, c_lpick2, c_lpick3, t_is_int, c_is_int, b_check_bound, b_check_bound_0, e2]
  exact hQ
def sp_common : Spec := fun ds Q X => ∃ (a : Int) (b : Int), ds = [.int a, .int b] ∧ (0 ≤ a) ∧ (0 ≤ b) ∧ (Q (.int (Int.gcd a b)))
theorem c_common {a : Int} {b : Int} {Q : D → Prop} {X : Exn → Prop} (h0 : 0 ≤ a) (h1 : 0 ≤ b) : sp_common [.int a, .int b] Q X = (Q (.int (Int.gcd a b))) := by
  simp only [eq_iff_iff]
  constructor
  · rintro ⟨a', b', e, _, _, h⟩
    simp only [List.cons.injEq, PyData.int.injEq, PyData.bool.injEq, skyD_eq, intsD_eq, pairsD_eq, pairD_eq, and_true, true_and] at e
    obtain ⟨rfl, rfl⟩ := e
    exact h
  · exact fun h => ⟨a, b, rfl, h0, h1, h⟩
theorem r_common {T : Fn → Spec}  {ds : List D} {Q : D → Prop} {X : Exn → Prop} (h : sp_common ds Q X) : ds.length = 2 ∧ runs T 2 b_common ds Q X := by
  obtain ⟨a, b, rfl, h1, h2, hQ⟩ := h
  refine ⟨rfl, ?_⟩
  try simp (maxSteps := 2000000) (disch := first | assumption | omega) only [runs, start, wpSs, wpS, wpE, wpEs, wpB, wpO, wpC, wpI, getS, setS, blank, blank1, List.map_cons, List.map_nil, List.length_cons, List.length_nil, List.cons_append, List.nil_append, List.replicate, Nat.sub_self, asBool_b, asInt_i, asList_l, asTup_t, must_s, cop_lt, cop_le, cop_gt, cop_ge, bop_add, bop_sub, bop_mod, bop_fdiv, bop_mul, ixOp_t0, ixOp_t1, ixOp_l, bsem_lenl, bsem_lent, gcv_u, gcv_d, isiD_i, isiD_b, isTok_i, isTok_b, isTok_n, isTok_t, isTok_l, isTok_s, and_true, true_and, if_true, if_false, Bool.false_eq_true, Bool.true_eq_false, Bool.not_true, Bool.not_false, Bool.not_not, noList_i, noList_b, noList_n, noList_t, plain_n, plain_c, lenlim, bindT_1, bindT_2, Nat.reduceAdd, Nat.reduceSub, isNon_n, isNon_i, isNon_b, isNon_t, isNon_l, isNon_s, ite_self, not_true_eq_false, not_false_eq_true, implies_true, false_and, and_false, decide_true, decide_false, decide_not, ixOp_s0, ixOp_s1, ixOp_p, ixOp_p0, ixOp_p1, ixOp_i, bsem_lenp, bsem_leni, bindT_p, isTok_sky, isTok_ps, isTok_is, isTok_p, noList_p, asList_p, asList_il, cop_eqi, cop_nei, bsem_max2, bsem_min2, ge0, c_is_int_i, toNat_nat, rangeD_len, eq_self, cop_eqil, cop_neil, cop_eqps, cop_neps, cop_eqp, cop_nep, Bool.and_true, Bool.true_and, big1, big2, cop_eqi0, cop_nei0, cop_eqp0, cop_nep0, bop_addps, bop_addis, bsem_maxl, bsem_minl, mtTy_index, msem_index, c_lpick2, c_lpick3, b_common, b_common_0]
  refine ⟨fun m G => ∃ x y : Int, G = [.d (.int x), .d (.int y)] ∧ 0 ≤ x ∧ 0 ≤ y ∧ y.toNat = m ∧ Int.gcd x y = Int.gcd a b, ⟨_, a, b, rfl, h1, h2, rfl, rfl⟩, fun m G hG => ?_⟩
  obtain ⟨x, y, rfl, x0, y0, hm, hg⟩ := hG
  by_cases hy : y = 0
  · subst hy
    try simp (maxSteps := 2000000) (disch := first | assumption | omega) only [runs, start, wpSs, wpS, wpE, wpEs, wpB, wpO, wpC, wpI, getS, setS, blank, blank1, List.map_cons, List.map_nil, List.length_cons, List.length_nil, List.cons_append, List.nil_append, List.replicate, Nat.sub_self, asBool_b, asInt_i, asList_l, asTup_t, must_s, cop_lt, cop_le, cop_gt, cop_ge, bop_add, bop_sub, bop_mod, bop_fdiv, bop_mul, ixOp_t0, ixOp_t1, ixOp_l, bsem_lenl, bsem_lent, gcv_u, gcv_d, isiD_i, isiD_b, isTok_i, isTok_b, isTok_n, isTok_t, isTok_l, isTok_s, and_true, true_and, if_true, if_false, Bool.false_eq_true, Bool.true_eq_false, Bool.not_true, Bool.not_false, Bool.not_not, noList_i, noList_b, noList_n, noList_t, plain_n, plain_c, lenlim, bindT_1, bindT_2, Nat.reduceAdd, Nat.reduceSub, isNon_n, isNon_i, isNon_b, isNon_t, isNon_l, isNon_s, ite_self, not_true_eq_false, not_false_eq_true, implies_true, false_and, and_false, decide_true, decide_false, decide_not, ixOp_s0, ixOp_s1, ixOp_p, ixOp_p0, ixOp_p1, ixOp_i, bsem_lenp, bsem_leni, bindT_p, isTok_sky, isTok_ps, isTok_is, isTok_p, noList_p, asList_p, asList_il, cop_eqi, cop_nei, bsem_max2, bsem_min2, ge0, c_is_int_i, toNat_nat, rangeD_len, eq_self, cop_eqil, cop_neil, cop_eqps, cop_neps, cop_eqp, cop_nep, Bool.and_true, Bool.true_and, big1, big2, cop_eqi0, cop_nei0, cop_eqp0, cop_nep0, bop_addps, bop_addis, bsem_maxl, bsem_minl, mtTy_index, msem_index, c_lpick2, c_lpick3, b_common_1]
    rw [← hg, gcd_zero x0] at hQ
    exact hQ
  · have y1 : 0 < y := by omega
    try simp (maxSteps := 2000000) (disch := first | assumption | omega) only [runs, start, wpSs, wpS, wpE, wpEs, wpB, wpO, wpC, wpI, getS, setS, blank, blank1, List.map_cons, List.map_nil, List.length_cons, List.length_nil, List.cons_append, List.nil_append, List.replicate, Nat.sub_self, asBool_b, asInt_i, asList_l, asTup_t, must_s, cop_lt, cop_le, cop_gt, cop_ge, bop_add, bop_sub, bop_mod, bop_fdiv, bop_mul, ixOp_t0, ixOp_t1, ixOp_l, bsem_lenl, bsem_lent, gcv_u, gcv_d, isiD_i, isiD_b, isTok_i, isTok_b, isTok_n, isTok_t, isTok_l, isTok_s, and_true, true_and, if_true, if_false, Bool.false_eq_true, Bool.true_eq_false, Bool.not_true, Bool.not_false, Bool.not_not, noList_i, noList_b, noList_n, noList_t, plain_n, plain_c, lenlim, bindT_1, bindT_2, Nat.reduceAdd, Nat.reduceSub, isNon_n, isNon_i, isNon_b, isNon_t, isNon_l, isNon_s, ite_self, not_true_eq_false, not_false_eq_true, implies_true, false_and, and_false, decide_true, decide_false, decide_not, ixOp_s0, ixOp_s1, ixOp_p, ixOp_p0, ixOp_p1, ixOp_i, bsem_lenp, bsem_leni, bindT_p, isTok_sky, isTok_ps, isTok_is, isTok_p, noList_p, asList_p, asList_il, cop_eqi, cop_nei, bsem_max2, bsem_min2, ge0, c_is_int_i, toNat_nat, rangeD_len, eq_self, cop_eqil, cop_neil, cop_eqps, cop_neps, cop_eqp, cop_nep, Bool.and_true, Bool.true_and, big1, big2, cop_eqi0, cop_nei0, cop_eqp0, cop_nep0, bop_addps, bop_addis, bsem_maxl, bsem_minl, mtTy_index, msem_index, c_lpick2, c_lpick3, hy, b_common_0l_0]
    have q0 := Int.emod_nonneg x hy
    have q1 := Int.emod_lt_of_pos x y1
    exact ⟨_, by omega, y, x % y, rfl, y0, q0, rfl, (gcd_step x0 y1).trans hg⟩
theorem gcd_le {a b : Int} (ha : 0 < a) : (Int.gcd a b : Int) ≤ a := Int.le_of_dvd ha (Int.gcd_dvd_left a b)
theorem div_le {a b : Int} (ha : 0 ≤ a) (hb : 0 < b) : 0 ≤ a / b ∧ a / b ≤ a := ⟨Int.ediv_nonneg ha (by omega), Int.ediv_le_self b ha⟩
def sp_joint : Spec := fun ds Q X => ∃ (a : Int) (b : Int), ds = [.int a, .int b] ∧ (0 < a) ∧ (0 < b) ∧ (a ≤ 1000000) ∧ (Q (.int (jnt a b)))
theorem c_joint {a : Int} {b : Int} {Q : D → Prop} {X : Exn → Prop} (h0 : 0 < a) (h1 : 0 < b) (h2 : a ≤ 1000000) : sp_joint [.int a, .int b] Q X = (Q (.int (jnt a b))) := by
  simp only [eq_iff_iff]
  constructor
  · rintro ⟨a', b', e, _, _, _, h⟩
    simp only [List.cons.injEq, PyData.int.injEq, PyData.bool.injEq, skyD_eq, intsD_eq, pairsD_eq, pairD_eq, and_true, true_and] at e
    obtain ⟨rfl, rfl⟩ := e
    exact h
  · exact fun h => ⟨a, b, rfl, h0, h1, h2, h⟩
theorem r_joint {T : Fn → Spec} (t_common : T .common = sp_common) {ds : List D} {Q : D → Prop} {X : Exn → Prop} (h : sp_joint ds Q X) : ds.length = 2 ∧ runs T 2 b_joint ds Q X := by
  obtain ⟨a, b, rfl, h1, h2, h3, hQ⟩ := h
  refine ⟨rfl, ?_⟩
  have g0 := gcd_pos (r := b) h1
  have g1 := gcd_le (b := b) h1
  obtain ⟨q0, q1⟩ := div_le (show 0 ≤ a by omega) g0
  try simp (maxSteps := 2000000) (disch := first | assumption | omega) only [runs, start, wpSs, wpS, wpE, wpEs, wpB, wpO, wpC, wpI, getS, setS, blank, blank1, List.map_cons, List.map_nil, List.length_cons, List.length_nil, List.cons_append, List.nil_append, List.replicate, Nat.sub_self, asBool_b, asInt_i, asList_l, asTup_t, must_s, cop_lt, cop_le, cop_gt, cop_ge, bop_add, bop_sub, bop_mod, bop_fdiv, bop_mul, ixOp_t0, ixOp_t1, ixOp_l, bsem_lenl, bsem_lent, gcv_u, gcv_d, isiD_i, isiD_b, isTok_i, isTok_b, isTok_n, isTok_t, isTok_l, isTok_s, and_true, true_and, if_true, if_false, Bool.false_eq_true, Bool.true_eq_false, Bool.not_true, Bool.not_false, Bool.not_not, noList_i, noList_b, noList_n, noList_t, plain_n, plain_c, lenlim, bindT_1, bindT_2, Nat.reduceAdd, Nat.reduceSub, isNon_n, isNon_i, isNon_b, isNon_t, isNon_l, isNon_s, ite_self, not_true_eq_false, not_false_eq_true, implies_true, false_and, and_false, decide_true, decide_false, decide_not, ixOp_s0, ixOp_s1, ixOp_p, ixOp_p0, ixOp_p1, ixOp_i, bsem_lenp, bsem_leni, bindT_p, isTok_sky, isTok_ps, isTok_is, isTok_p, noList_p, asList_p, asList_il, cop_eqi, cop_nei, bsem_max2, bsem_min2, ge0, c_is_int_i, toNat_nat, rangeD_len, eq_self, cop_eqil, cop_neil, cop_eqps, cop_neps, cop_eqp, cop_nep, Bool.and_true, Bool.true_and, big1, big2, cop_eqi0, cop_nei0, cop_eqp0, cop_nep0, bop_addps, bop_addis, bsem_maxl, bsem_minl, mtTy_index, msem_index, c_lpick2, c_lpick3, t_common, c_common, b_joint, b_joint_0]
  exact hQ
def sp_round_of : Spec := fun ds Q X => ∃ (u : Int) (r : Int), ds = [.int u, .int r] ∧ (0 < u) ∧ (u ≤ 1000) ∧ (0 ≤ r) ∧ (Q (.int (rnd u r)))
theorem c_round_of {u : Int} {r : Int} {Q : D → Prop} {X : Exn → Prop} (h0 : 0 < u) (h1 : u ≤ 1000) (h2 : 0 ≤ r) : sp_round_of [.int u, .int r] Q X = (Q (.int (rnd u r))) := by
  simp only [eq_iff_iff]
  constructor
  · rintro ⟨u', r', e, _, _, _, h⟩
    simp only [List.cons.injEq, PyData.int.injEq, PyData.bool.injEq, skyD_eq, intsD_eq, pairsD_eq, pairD_eq, and_true, true_and] at e
    obtain ⟨rfl, rfl⟩ := e
    exact h
  · exact fun h => ⟨u, r, rfl, h0, h1, h2, h⟩
theorem r_round_of {T : Fn → Spec} (t_common : T .common = sp_common) {ds : List D} {Q : D → Prop} {X : Exn → Prop} (h : sp_round_of ds Q X) : ds.length = 2 ∧ runs T 2 b_round_of ds Q X := by
  obtain ⟨u, r, rfl, h1, h2, h3, hQ⟩ := h
  refine ⟨rfl, ?_⟩
  have g0 := gcd_pos (r := r) h1
  have g1 := gcd_le (b := r) h1
  try simp (maxSteps := 2000000) (disch := first | assumption | omega) only [runs, start, wpSs, wpS, wpE, wpEs, wpB, wpO, wpC, wpI, getS, setS, blank, blank1, List.map_cons, List.map_nil, List.length_cons, List.length_nil, List.cons_append, List.nil_append, List.replicate, Nat.sub_self, asBool_b, asInt_i, asList_l, asTup_t, must_s, cop_lt, cop_le, cop_gt, cop_ge, bop_add, bop_sub, bop_mod, bop_fdiv, bop_mul, ixOp_t0, ixOp_t1, ixOp_l, bsem_lenl, bsem_lent, gcv_u, gcv_d, isiD_i, isiD_b, isTok_i, isTok_b, isTok_n, isTok_t, isTok_l, isTok_s, and_true, true_and, if_true, if_false, Bool.false_eq_true, Bool.true_eq_false, Bool.not_true, Bool.not_false, Bool.not_not, noList_i, noList_b, noList_n, noList_t, plain_n, plain_c, lenlim, bindT_1, bindT_2, Nat.reduceAdd, Nat.reduceSub, isNon_n, isNon_i, isNon_b, isNon_t, isNon_l, isNon_s, ite_self, not_true_eq_false, not_false_eq_true, implies_true, false_and, and_false, decide_true, decide_false, decide_not, ixOp_s0, ixOp_s1, ixOp_p, ixOp_p0, ixOp_p1, ixOp_i, bsem_lenp, bsem_leni, bindT_p, isTok_sky, isTok_ps, isTok_is, isTok_p, noList_p, asList_p, asList_il, cop_eqi, cop_nei, bsem_max2, bsem_min2, ge0, c_is_int_i, toNat_nat, rangeD_len, eq_self, cop_eqil, cop_neil, cop_eqps, cop_neps, cop_eqp, cop_nep, Bool.and_true, Bool.true_and, big1, big2, cop_eqi0, cop_nei0, cop_eqp0, cop_nep0, bop_addps, bop_addis, bsem_maxl, bsem_minl, mtTy_index, msem_index, c_lpick2, c_lpick3, t_common, c_common, b_round_of, b_round_of_0]
  exact hQ
def rts (u : Int) (bs : List (Int × Int)) (l : List Int) : List Int := l.map fun b => ((bd bs b).2 - (bd bs (nth l 0)).2) % u
def rel (u : Int) (bs : List (Int × Int)) (l : List Int) : Int := per u (rts u bs l)
theorem perF_snoc {u f r : Int} {rs : List Int} : perF u f (rs ++ [r]) = jnt (perF u f rs) (rnd u r) := by simp [perF]
theorem Sel.first {bs : List (Int × Int)} {l : List Int} (h : Sel bs l) : 0 ≤ nth l 0 ∧ nth l 0 < bs.length := h.ok _ (nth_mem (by omega) (by have := h.ps; omega))
theorem rel_pos {u : Int} {bs : List (Int × Int)} {l : List Int} (h : Sky u bs) : 0 < rel u bs l := per_pos h.pos
theorem rel_le {u : Int} {bs : List (Int × Int)} {l : List Int} (h : Sky u bs) : rel u bs l ≤ u := per_le h.pos
def sp_relative_of : Spec := fun ds Q X => ∃ (u : Int) (bs : List (Int × Int)) (l : List Int), ds = [skyD u bs, intsD l] ∧ (Sky u bs) ∧ (Sel bs l) ∧ (Q (.int (rel u bs l)))
theorem c_relative_of {u : Int} {bs : List (Int × Int)} {l : List Int} {Q : D → Prop} {X : Exn → Prop} (h0 : Sky u bs) (h1 : Sel bs l) : sp_relative_of [skyD u bs, intsD l] Q X = (Q (.int (rel u bs l))) := by
  simp only [eq_iff_iff]
  constructor
  · rintro ⟨u', bs', l', e, _, _, h⟩
    simp only [List.cons.injEq, PyData.int.injEq, PyData.bool.injEq, skyD_eq, intsD_eq, pairsD_eq, pairD_eq, and_true, true_and] at e
    obtain ⟨⟨rfl, rfl⟩, rfl⟩ := e
    exact h
  · exact fun h => ⟨u, bs, l, rfl, h0, h1, h⟩
theorem r_relative_of {T : Fn → Spec} (t_joint : T .joint = sp_joint) (t_round_of : T .round_of = sp_round_of) {ds : List D} {Q : D → Prop} {X : Exn → Prop} (h : sp_relative_of ds Q X) : ds.length = 2 ∧ runs T 5 b_relative_of ds Q X := by
  obtain ⟨u, bs, l, rfl, hs, h1, hQ⟩ := h
  refine ⟨rfl, ?_⟩
  have hn := h1.le
  have h4 := hs.l4
  have hu := hs.pos
  have hi := hs.hi
  have l0 : (0 : Int) < l.length := by have := h1.ps; omega
  obtain ⟨f0, f1⟩ := h1.first
  try simp (maxSteps := 2000000) (disch := first | assumption | omega) only [runs, start, wpSs, wpS, wpE, wpEs, wpB, wpO, wpC, wpI, getS, setS, blank, blank1, List.map_cons, List.map_nil, List.length_cons, List.length_nil, List.cons_append, List.nil_append, List.replicate, Nat.sub_self, asBool_b, asInt_i, asList_l, asTup_t, must_s, cop_lt, cop_le, cop_gt, cop_ge, bop_add, bop_sub, bop_mod, bop_fdiv, bop_mul, ixOp_t0, ixOp_t1, ixOp_l, bsem_lenl, bsem_lent, gcv_u, gcv_d, isiD_i, isiD_b, isTok_i, isTok_b, isTok_n, isTok_t, isTok_l, isTok_s, and_true, true_and, if_true, if_false, Bool.false_eq_true, Bool.true_eq_false, Bool.not_true, Bool.not_false, Bool.not_not, noList_i, noList_b, noList_n, noList_t, plain_n, plain_c, lenlim, bindT_1, bindT_2, Nat.reduceAdd, Nat.reduceSub, isNon_n, isNon_i, isNon_b, isNon_t, isNon_l, isNon_s, ite_self, not_true_eq_false, not_false_eq_true, implies_true, false_and, and_false, decide_true, decide_false, decide_not, ixOp_s0, ixOp_s1, ixOp_p, ixOp_p0, ixOp_p1, ixOp_i, bsem_lenp, bsem_leni, bindT_p, isTok_sky, isTok_ps, isTok_is, isTok_p, noList_p, asList_p, asList_il, cop_eqi, cop_nei, bsem_max2, bsem_min2, ge0, c_is_int_i, toNat_nat, rangeD_len, eq_self, cop_eqil, cop_neil, cop_eqps, cop_neps, cop_eqp, cop_nep, Bool.and_true, Bool.true_and, big1, big2, cop_eqi0, cop_nei0, cop_eqp0, cop_nep0, bop_addps, bop_addis, bsem_maxl, bsem_minl, mtTy_index, msem_index, c_lpick2, c_lpick3, t_joint, c_joint, t_round_of, c_round_of, b_relative_of, b_relative_of_0, b_relative_of_1, b_relative_of_2]
  refine for_map (I := fun i G => ∃ (s : Sl), G = [.d (skyD u bs), .d (intsD l), .d (.int (perF u 1 ((rts u bs l).take i))), .d (.int (bd bs (nth l 0)).2), s]) ⟨_, rfl⟩ (fun i hi G hG k hk => ?_) (fun G hG => ?_)
  · obtain ⟨s, rfl⟩ := hG
    replace hk := fun s => hk _ ⟨s, rfl⟩
    obtain ⟨b0, b1⟩ := h1.ok l[i] (List.getElem_mem hi)
    have p0 := per_pos (rs := (rts u bs l).take i) hu
    have p1 := per_le (rs := (rts u bs l).take i) hu
    unfold per at p0 p1
    have m0 : 0 ≤ ((bd bs l[i]).2 - (bd bs (nth l 0)).2) % u := Int.emod_nonneg _ (by omega)
    have r0 := rnd_pos (r := ((bd bs l[i]).2 - (bd bs (nth l 0)).2) % u) hu
    have e : (rts u bs l).take (i + 1) = (rts u bs l).take i ++ [((bd bs l[i]).2 - (bd bs (nth l 0)).2) % u] := by
      rw [List.take_succ_eq_append_getElem (by simp [rts]; exact hi)]
      simp [rts]
    rw [e, perF_snoc] at hk
    try simp (maxSteps := 2000000) (disch := first | assumption | omega) only [runs, start, wpSs, wpS, wpE, wpEs, wpB, wpO, wpC, wpI, getS, setS, blank, blank1, List.map_cons, List.map_nil, List.length_cons, List.length_nil, List.cons_append, List.nil_append, List.replicate, Nat.sub_self, asBool_b, asInt_i, asList_l, asTup_t, must_s, cop_lt, cop_le, cop_gt, cop_ge, bop_add, bop_sub, bop_mod, bop_fdiv, bop_mul, ixOp_t0, ixOp_t1, ixOp_l, bsem_lenl, bsem_lent, gcv_u, gcv_d, isiD_i, isiD_b, isTok_i, isTok_b, isTok_n, isTok_t, isTok_l, isTok_s, and_true, true_and, if_true, if_false, Bool.false_eq_true, Bool.true_eq_false, Bool.not_true, Bool.not_false, Bool.not_not, noList_i, noList_b, noList_n, noList_t, plain_n, plain_c, lenlim, bindT_1, bindT_2, Nat.reduceAdd, Nat.reduceSub, isNon_n, isNon_i, isNon_b, isNon_t, isNon_l, isNon_s, ite_self, not_true_eq_false, not_false_eq_true, implies_true, false_and, and_false, decide_true, decide_false, decide_not, ixOp_s0, ixOp_s1, ixOp_p, ixOp_p0, ixOp_p1, ixOp_i, bsem_lenp, bsem_leni, bindT_p, isTok_sky, isTok_ps, isTok_is, isTok_p, noList_p, asList_p, asList_il, cop_eqi, cop_nei, bsem_max2, bsem_min2, ge0, c_is_int_i, toNat_nat, rangeD_len, eq_self, cop_eqil, cop_neil, cop_eqps, cop_neps, cop_eqp, cop_nep, Bool.and_true, Bool.true_and, big1, big2, cop_eqi0, cop_nei0, cop_eqp0, cop_nep0, bop_addps, bop_addis, bsem_maxl, bsem_minl, mtTy_index, msem_index, c_lpick2, c_lpick3, t_joint, c_joint, t_round_of, c_round_of, b_relative_of_2l_0]
    exact hk _
  · obtain ⟨s, rfl⟩ := hG
    try simp (maxSteps := 2000000) (disch := first | assumption | omega) only [runs, start, wpSs, wpS, wpE, wpEs, wpB, wpO, wpC, wpI, getS, setS, blank, blank1, List.map_cons, List.map_nil, List.length_cons, List.length_nil, List.cons_append, List.nil_append, List.replicate, Nat.sub_self, asBool_b, asInt_i, asList_l, asTup_t, must_s, cop_lt, cop_le, cop_gt, cop_ge, bop_add, bop_sub, bop_mod, bop_fdiv, bop_mul, ixOp_t0, ixOp_t1, ixOp_l, bsem_lenl, bsem_lent, gcv_u, gcv_d, isiD_i, isiD_b, isTok_i, isTok_b, isTok_n, isTok_t, isTok_l, isTok_s, and_true, true_and, if_true, if_false, Bool.false_eq_true, Bool.true_eq_false, Bool.not_true, Bool.not_false, Bool.not_not, noList_i, noList_b, noList_n, noList_t, plain_n, plain_c, lenlim, bindT_1, bindT_2, Nat.reduceAdd, Nat.reduceSub, isNon_n, isNon_i, isNon_b, isNon_t, isNon_l, isNon_s, ite_self, not_true_eq_false, not_false_eq_true, implies_true, false_and, and_false, decide_true, decide_false, decide_not, ixOp_s0, ixOp_s1, ixOp_p, ixOp_p0, ixOp_p1, ixOp_i, bsem_lenp, bsem_leni, bindT_p, isTok_sky, isTok_ps, isTok_is, isTok_p, noList_p, asList_p, asList_il, cop_eqi, cop_nei, bsem_max2, bsem_min2, ge0, c_is_int_i, toNat_nat, rangeD_len, eq_self, cop_eqil, cop_neil, cop_eqps, cop_neps, cop_eqp, cop_nep, Bool.and_true, Bool.true_and, big1, big2, cop_eqi0, cop_nei0, cop_eqp0, cop_nep0, bop_addps, bop_addis, bsem_maxl, bsem_minl, mtTy_index, msem_index, c_lpick2, c_lpick3, t_joint, c_joint, t_round_of, c_round_of, b_relative_of_3]
    have e : (rts u bs l).take l.length = rts u bs l := List.take_of_length_le (by simp [rts])
    rw [e]
    exact hQ
def sp_relative_period : Spec := fun ds Q X => ∃ (u : Int) (bs : List (Int × Int)) (l : List Int), ds = [skyD u bs, intsD l] ∧ (Sky u bs) ∧ (Sel bs l) ∧ (Q (.int (rel u bs l)))
theorem c_relative_period {u : Int} {bs : List (Int × Int)} {l : List Int} {Q : D → Prop} {X : Exn → Prop} (h0 : Sky u bs) (h1 : Sel bs l) : sp_relative_period [skyD u bs, intsD l] Q X = (Q (.int (rel u bs l))) := by
  simp only [eq_iff_iff]
  constructor
  · rintro ⟨u', bs', l', e, _, _, h⟩
    simp only [List.cons.injEq, PyData.int.injEq, PyData.bool.injEq, skyD_eq, intsD_eq, pairsD_eq, pairD_eq, and_true, true_and] at e
    obtain ⟨⟨rfl, rfl⟩, rfl⟩ := e
    exact h
  · exact fun h => ⟨u, bs, l, rfl, h0, h1, h⟩
theorem r_relative_period {T : Fn → Spec} (t_check_sky : T .check_sky = sp_check_sky) (t_check_some : T .check_some = sp_check_some) (t_relative_of : T .relative_of = sp_relative_of) {ds : List D} {Q : D → Prop} {X : Exn → Prop} (h : sp_relative_period ds Q X) : ds.length = 2 ∧ runs T 2 b_relative_period ds Q X := by
  obtain ⟨u, bs, l, rfl, hs, h1, hQ⟩ := h
  refine ⟨rfl, ?_⟩
  try simp (maxSteps := 2000000) (disch := first | assumption | omega) only [runs, start, wpSs, wpS, wpE, wpEs, wpB, wpO, wpC, wpI, getS, setS, blank, blank1, List.map_cons, List.map_nil, List.length_cons, List.length_nil, List.cons_append, List.nil_append, List.replicate, Nat.sub_self, asBool_b, asInt_i, asList_l, asTup_t, must_s, cop_lt, cop_le, cop_gt, cop_ge, bop_add, bop_sub, bop_mod, bop_fdiv, bop_mul, ixOp_t0, ixOp_t1, ixOp_l, bsem_lenl, bsem_lent, gcv_u, gcv_d, isiD_i, isiD_b, isTok_i, isTok_b, isTok_n, isTok_t, isTok_l, isTok_s, and_true, true_and, if_true, if_false, Bool.false_eq_true, Bool.true_eq_false, Bool.not_true, Bool.not_false, Bool.not_not, noList_i, noList_b, noList_n, noList_t, plain_n, plain_c, lenlim, bindT_1, bindT_2, Nat.reduceAdd, Nat.reduceSub, isNon_n, isNon_i, isNon_b, isNon_t, isNon_l, isNon_s, ite_self, not_true_eq_false, not_false_eq_true, implies_true, false_and, and_false, decide_true, decide_false, decide_not, ixOp_s0, ixOp_s1, ixOp_p, ixOp_p0, ixOp_p1, ixOp_i, bsem_lenp, bsem_leni, bindT_p, isTok_sky, isTok_ps, isTok_is, isTok_p, noList_p, asList_p, asList_il, cop_eqi, cop_nei, bsem_max2, bsem_min2, ge0, c_is_int_i, toNat_nat, rangeD_len, eq_self, cop_eqil, cop_neil, cop_eqps, cop_neps, cop_eqp, cop_nep, Bool.and_true, Bool.true_and, big1, big2, cop_eqi0, cop_nei0, cop_eqp0, cop_nep0, bop_addps, bop_addis, bsem_maxl, bsem_minl, mtTy_index, msem_index, c_lpick2, c_lpick3, t_check_sky, c_check_sky, t_check_some, c_check_some, t_relative_of, c_relative_of, b_relative_period, b_relative_period_0, b_relative_period_1, b_relative_period_2]
  exact hQ
def sp_check_all : Spec := fun ds Q X => ∃ (u : Int) (bs : List (Int × Int)) (l : List Int) (b : Int), ds = [skyD u bs, intsD l, .int b] ∧ (Sky u bs) ∧ (Sel bs l) ∧ (0 ≤ b) ∧ (b < u) ∧ (Q (.none))
theorem c_check_all {u : Int} {bs : List (Int × Int)} {l : List Int} {b : Int} {Q : D → Prop} {X : Exn → Prop} (h0 : Sky u bs) (h1 : Sel bs l) (h2 : 0 ≤ b) (h3 : b < u) : sp_check_all [skyD u bs, intsD l, .int b] Q X = (Q (.none)) := by
  simp only [eq_iff_iff]
  constructor
  · rintro ⟨u', bs', l', b', e, _, _, _, _, h⟩
    simp only [List.cons.injEq, PyData.int.injEq, PyData.bool.injEq, skyD_eq, intsD_eq, pairsD_eq, pairD_eq, and_true, true_and] at e
    obtain ⟨⟨rfl, rfl⟩, rfl, rfl⟩ := e
    exact h
  · exact fun h => ⟨u, bs, l, b, rfl, h0, h1, h2, h3, h⟩
theorem r_check_all {T : Fn → Spec} (t_check_sky : T .check_sky = sp_check_sky) (t_check_some : T .check_some = sp_check_some) (t_check_bound : T .check_bound = sp_check_bound) {ds : List D} {Q : D → Prop} {X : Exn → Prop} (h : sp_check_all ds Q X) : ds.length = 3 ∧ runs T 3 b_check_all ds Q X := by
  obtain ⟨u, bs, l, b, rfl, hs, h1, h2, h3, hQ⟩ := h
  refine ⟨rfl, ?_⟩
  try simp (maxSteps := 2000000) (disch := first | assumption | omega) only [runs, start, wpSs, wpS, wpE, wpEs, wpB, wpO, wpC, wpI, getS, setS, blank, blank1, List.map_cons, List.map_nil, List.length_cons, List.length_nil, List.cons_append, List.nil_append, List.replicate, Nat.sub_self, asBool_b, asInt_i, asList_l, asTup_t, must_s, cop_lt, cop_le, cop_gt, cop_ge, bop_add, bop_sub, bop_mod, bop_fdiv, bop_mul, ixOp_t0, ixOp_t1, ixOp_l, bsem_lenl, bsem_lent, gcv_u, gcv_d, isiD_i, isiD_b, isTok_i, isTok_b, isTok_n, isTok_t, isTok_l, isTok_s, and_true, true_and, if_true, if_false, Bool.false_eq_true, Bool.true_eq_false, Bool.not_true, Bool.not_false, Bool.not_not, noList_i, noList_b, noList_n, noList_t, plain_n, plain_c, lenlim, bindT_1, bindT_2, Nat.reduceAdd, Nat.reduceSub, isNon_n, isNon_i, isNon_b, isNon_t, isNon_l, isNon_s, ite_self, not_true_eq_false, not_false_eq_true, implies_true, false_and, and_false, decide_true, decide_false, decide_not, ixOp_s0, ixOp_s1, ixOp_p, ixOp_p0, ixOp_p1, ixOp_i, bsem_lenp, bsem_leni, bindT_p, isTok_sky, isTok_ps, isTok_is, isTok_p, noList_p, asList_p, asList_il, cop_eqi, cop_nei, bsem_max2, bsem_min2, ge0, c_is_int_i, toNat_nat, rangeD_len, eq_self, cop_eqil, cop_neil, cop_eqps, cop_neps, cop_eqp, cop_nep, Bool.and_true, Bool.true_and, big1, big2, cop_eqi0, cop_nei0, cop_eqp0, cop_nep0, bop_addps, bop_addis, bsem_maxl, bsem_minl, mtTy_index, msem_index, c_lpick2, c_lpick3, t_check_sky, c_check_sky, t_check_some, c_check_some, t_check_bound, c_check_bound, b_check_all, b_check_all_0, b_check_all_1, b_check_all_2]
  exact hQ
def arcAt (u : Int) (bs : List (Int × Int)) (l : List Int) (d : Int) : Int := arcBy u (spots u bs l d)
/-- the days of one relative period -/
def gdays (u : Int) (bs : List (Int × Int)) (l : List Int) (b : Int) : List Int := (rngl 0 (rel u bs l).toNat).filter fun d => decide (arcAt u bs l d ≤ b)
def sp_days_of : Spec := fun ds Q X => ∃ (u : Int) (bs : List (Int × Int)) (l : List Int) (b : Int), ds = [skyD u bs, intsD l, .int b] ∧ (Sky u bs) ∧ (Sel bs l) ∧ (Q (intsD (gdays u bs l b)))
theorem c_days_of {u : Int} {bs : List (Int × Int)} {l : List Int} {b : Int} {Q : D → Prop} {X : Exn → Prop} (h0 : Sky u bs) (h1 : Sel bs l) : sp_days_of [skyD u bs, intsD l, .int b] Q X = (Q (intsD (gdays u bs l b))) := by
  simp only [eq_iff_iff]
  constructor
  · rintro ⟨u', bs', l', b', e, _, _, h⟩
    simp only [List.cons.injEq, PyData.int.injEq, PyData.bool.injEq, skyD_eq, intsD_eq, pairsD_eq, pairD_eq, and_true, true_and] at e
    obtain ⟨⟨rfl, rfl⟩, rfl, rfl⟩ := e
    exact h
  · exact fun h => ⟨u, bs, l, b, rfl, h0, h1, h⟩
theorem r_days_of {T : Fn → Spec} (t_relative_of : T .relative_of = sp_relative_of) (t_arc_of : T .arc_of = sp_arc_of) {ds : List D} {Q : D → Prop} {X : Exn → Prop} (h : sp_days_of ds Q X) : ds.length = 3 ∧ runs T 4 b_days_of ds Q X := by
  obtain ⟨u, bs, l, b, rfl, hs, h1, hQ⟩ := h
  refine ⟨rfl, ?_⟩
  have r0 := rel_pos (l := l) hs
  have r1 := rel_le (l := l) hs
  have hi := hs.hi
  try simp (maxSteps := 2000000) (disch := first | assumption | omega) only [runs, start, wpSs, wpS, wpE, wpEs, wpB, wpO, wpC, wpI, getS, setS, blank, blank1, List.map_cons, List.map_nil, List.length_cons, List.length_nil, List.cons_append, List.nil_append, List.replicate, Nat.sub_self, asBool_b, asInt_i, asList_l, asTup_t, must_s, cop_lt, cop_le, cop_gt, cop_ge, bop_add, bop_sub, bop_mod, bop_fdiv, bop_mul, ixOp_t0, ixOp_t1, ixOp_l, bsem_lenl, bsem_lent, gcv_u, gcv_d, isiD_i, isiD_b, isTok_i, isTok_b, isTok_n, isTok_t, isTok_l, isTok_s, and_true, true_and, if_true, if_false, Bool.false_eq_true, Bool.true_eq_false, Bool.not_true, Bool.not_false, Bool.not_not, noList_i, noList_b, noList_n, noList_t, plain_n, plain_c, lenlim, bindT_1, bindT_2, Nat.reduceAdd, Nat.reduceSub, isNon_n, isNon_i, isNon_b, isNon_t, isNon_l, isNon_s, ite_self, not_true_eq_false, not_false_eq_true, implies_true, false_and, and_false, decide_true, decide_false, decide_not, ixOp_s0, ixOp_s1, ixOp_p, ixOp_p0, ixOp_p1, ixOp_i, bsem_lenp, bsem_leni, bindT_p, isTok_sky, isTok_ps, isTok_is, isTok_p, noList_p, asList_p, asList_il, cop_eqi, cop_nei, bsem_max2, bsem_min2, ge0, c_is_int_i, toNat_nat, rangeD_len, eq_self, cop_eqil, cop_neil, cop_eqps, cop_neps, cop_eqp, cop_nep, Bool.and_true, Bool.true_and, big1, big2, cop_eqi0, cop_nei0, cop_eqp0, cop_nep0, bop_addps, bop_addis, bsem_maxl, bsem_minl, mtTy_index, msem_index, c_lpick2, c_lpick3, t_relative_of, c_relative_of, t_arc_of, c_arc_of, b_days_of, b_days_of_0]
  refine lc_rgf (p := fun d => decide (arcAt u bs l d ≤ b)) (g := fun d => .int d) (fun j j0 j1 k hk => ?_) ?_
  · try simp (maxSteps := 2000000) (disch := first | assumption | omega) only [runs, start, wpSs, wpS, wpE, wpEs, wpB, wpO, wpC, wpI, getS, setS, blank, blank1, List.map_cons, List.map_nil, List.length_cons, List.length_nil, List.cons_append, List.nil_append, List.replicate, Nat.sub_self, asBool_b, asInt_i, asList_l, asTup_t, must_s, cop_lt, cop_le, cop_gt, cop_ge, bop_add, bop_sub, bop_mod, bop_fdiv, bop_mul, ixOp_t0, ixOp_t1, ixOp_l, bsem_lenl, bsem_lent, gcv_u, gcv_d, isiD_i, isiD_b, isTok_i, isTok_b, isTok_n, isTok_t, isTok_l, isTok_s, and_true, true_and, if_true, if_false, Bool.false_eq_true, Bool.true_eq_false, Bool.not_true, Bool.not_false, Bool.not_not, noList_i, noList_b, noList_n, noList_t, plain_n, plain_c, lenlim, bindT_1, bindT_2, Nat.reduceAdd, Nat.reduceSub, isNon_n, isNon_i, isNon_b, isNon_t, isNon_l, isNon_s, ite_self, not_true_eq_false, not_false_eq_true, implies_true, false_and, and_false, decide_true, decide_false, decide_not, ixOp_s0, ixOp_s1, ixOp_p, ixOp_p0, ixOp_p1, ixOp_i, bsem_lenp, bsem_leni, bindT_p, isTok_sky, isTok_ps, isTok_is, isTok_p, noList_p, asList_p, asList_il, cop_eqi, cop_nei, bsem_max2, bsem_min2, ge0, c_is_int_i, toNat_nat, rangeD_len, eq_self, cop_eqil, cop_neil, cop_eqps, cop_neps, cop_eqp, cop_nep, Bool.and_true, Bool.true_and, big1, big2, cop_eqi0, cop_nei0, cop_eqp0, cop_nep0, bop_addps, bop_addis, bsem_maxl, bsem_minl, mtTy_index, msem_index, c_lpick2, c_lpick3, t_relative_of, c_relative_of, t_arc_of, c_arc_of]
    exact ite_k hk
  · exact hQ
def sp_together : Spec := fun ds Q X => ∃ (u : Int) (bs : List (Int × Int)) (l : List Int) (b : Int) (d : Int), ds = [skyD u bs, intsD l, .int b, .int d] ∧ (Sky u bs) ∧ (Sel bs l) ∧ (0 ≤ b) ∧ (b < u) ∧ (0 ≤ d) ∧ (d ≤ 1000000) ∧ (Q (.bool (decide (arcAt u bs l d ≤ b))))
theorem c_together {u : Int} {bs : List (Int × Int)} {l : List Int} {b : Int} {d : Int} {Q : D → Prop} {X : Exn → Prop} (h0 : Sky u bs) (h1 : Sel bs l) (h2 : 0 ≤ b) (h3 : b < u) (h4 : 0 ≤ d) (h5 : d ≤ 1000000) : sp_together [skyD u bs, intsD l, .int b, .int d] Q X = (Q (.bool (decide (arcAt u bs l d ≤ b)))) := by
  simp only [eq_iff_iff]
  constructor
  · rintro ⟨u', bs', l', b', d', e, _, _, _, _, _, _, h⟩
    simp only [List.cons.injEq, PyData.int.injEq, PyData.bool.injEq, skyD_eq, intsD_eq, pairsD_eq, pairD_eq, and_true, true_and] at e
    obtain ⟨⟨rfl, rfl⟩, rfl, rfl, rfl⟩ := e
    exact h
  · exact fun h => ⟨u, bs, l, b, d, rfl, h0, h1, h2, h3, h4, h5, h⟩
theorem r_together {T : Fn → Spec} (t_check_all : T .check_all = sp_check_all) (t_check_day : T .check_day = sp_check_day) (t_arc_of : T .arc_of = sp_arc_of) {ds : List D} {Q : D → Prop} {X : Exn → Prop} (h : sp_together ds Q X) : ds.length = 4 ∧ runs T 4 b_together ds Q X := by
  obtain ⟨u, bs, l, b, d, rfl, hs, h1, h2, h3, h4, h5, hQ⟩ := h
  refine ⟨rfl, ?_⟩
  try simp (maxSteps := 2000000) (disch := first | assumption | omega) only [runs, start, wpSs, wpS, wpE, wpEs, wpB, wpO, wpC, wpI, getS, setS, blank, blank1, List.map_cons, List.map_nil, List.length_cons, List.length_nil, List.cons_append, List.nil_append, List.replicate, Nat.sub_self, asBool_b, asInt_i, asList_l, asTup_t, must_s, cop_lt, cop_le, cop_gt, cop_ge, bop_add, bop_sub, bop_mod, bop_fdiv, bop_mul, ixOp_t0, ixOp_t1, ixOp_l, bsem_lenl, bsem_lent, gcv_u, gcv_d, isiD_i, isiD_b, isTok_i, isTok_b, isTok_n, isTok_t, isTok_l, isTok_s, and_true, true_and, if_true, if_false, Bool.false_eq_true, Bool.true_eq_false, Bool.not_true, Bool.not_false, Bool.not_not, noList_i, noList_b, noList_n, noList_t, plain_n, plain_c, lenlim, bindT_1, bindT_2, Nat.reduceAdd, Nat.reduceSub, isNon_n, isNon_i, isNon_b, isNon_t, isNon_l, isNon_s, ite_self, not_true_eq_false, not_false_eq_true, implies_true, false_and, and_false, decide_true, decide_false, decide_not, ixOp_s0, ixOp_s1, ixOp_p, ixOp_p0, ixOp_p1, ixOp_i, bsem_lenp, bsem_leni, bindT_p, isTok_sky, isTok_ps, isTok_is, isTok_p, noList_p, asList_p, asList_il, cop_eqi, cop_nei, bsem_max2, bsem_min2, ge0, c_is_int_i, toNat_nat, rangeD_len, eq_self, cop_eqil, cop_neil, cop_eqps, cop_neps, cop_eqp, cop_nep, Bool.and_true, Bool.true_and, big1, big2, cop_eqi0, cop_nei0, cop_eqp0, cop_nep0, bop_addps, bop_addis, bsem_maxl, bsem_minl, mtTy_index, msem_index, c_lpick2, c_lpick3, t_check_all, c_check_all, t_check_day, c_check_day, t_arc_of, c_arc_of, b_together, b_together_0, b_together_1, b_together_2]
  exact hQ
def sp_days : Spec := fun ds Q X => ∃ (u : Int) (bs : List (Int × Int)) (l : List Int) (b : Int), ds = [skyD u bs, intsD l, .int b] ∧ (Sky u bs) ∧ (Sel bs l) ∧ (0 ≤ b) ∧ (b < u) ∧ (Q (intsD (gdays u bs l b)))
theorem c_days {u : Int} {bs : List (Int × Int)} {l : List Int} {b : Int} {Q : D → Prop} {X : Exn → Prop} (h0 : Sky u bs) (h1 : Sel bs l) (h2 : 0 ≤ b) (h3 : b < u) : sp_days [skyD u bs, intsD l, .int b] Q X = (Q (intsD (gdays u bs l b))) := by
  simp only [eq_iff_iff]
  constructor
  · rintro ⟨u', bs', l', b', e, _, _, _, _, h⟩
    simp only [List.cons.injEq, PyData.int.injEq, PyData.bool.injEq, skyD_eq, intsD_eq, pairsD_eq, pairD_eq, and_true, true_and] at e
    obtain ⟨⟨rfl, rfl⟩, rfl, rfl⟩ := e
    exact h
  · exact fun h => ⟨u, bs, l, b, rfl, h0, h1, h2, h3, h⟩
theorem r_days {T : Fn → Spec} (t_check_all : T .check_all = sp_check_all) (t_days_of : T .days_of = sp_days_of) {ds : List D} {Q : D → Prop} {X : Exn → Prop} (h : sp_days ds Q X) : ds.length = 3 ∧ runs T 3 b_days ds Q X := by
  obtain ⟨u, bs, l, b, rfl, hs, h1, h2, h3, hQ⟩ := h
  refine ⟨rfl, ?_⟩
  try simp (maxSteps := 2000000) (disch := first | assumption | omega) only [runs, start, wpSs, wpS, wpE, wpEs, wpB, wpO, wpC, wpI, getS, setS, blank, blank1, List.map_cons, List.map_nil, List.length_cons, List.length_nil, List.cons_append, List.nil_append, List.replicate, Nat.sub_self, asBool_b, asInt_i, asList_l, asTup_t, must_s, cop_lt, cop_le, cop_gt, cop_ge, bop_add, bop_sub, bop_mod, bop_fdiv, bop_mul, ixOp_t0, ixOp_t1, ixOp_l, bsem_lenl, bsem_lent, gcv_u, gcv_d, isiD_i, isiD_b, isTok_i, isTok_b, isTok_n, isTok_t, isTok_l, isTok_s, and_true, true_and, if_true, if_false, Bool.false_eq_true, Bool.true_eq_false, Bool.not_true, Bool.not_false, Bool.not_not, noList_i, noList_b, noList_n, noList_t, plain_n, plain_c, lenlim, bindT_1, bindT_2, Nat.reduceAdd, Nat.reduceSub, isNon_n, isNon_i, isNon_b, isNon_t, isNon_l, isNon_s, ite_self, not_true_eq_false, not_false_eq_true, implies_true, false_and, and_false, decide_true, decide_false, decide_not, ixOp_s0, ixOp_s1, ixOp_p, ixOp_p0, ixOp_p1, ixOp_i, bsem_lenp, bsem_leni, bindT_p, isTok_sky, isTok_ps, isTok_is, isTok_p, noList_p, asList_p, asList_il, cop_eqi, cop_nei, bsem_max2, bsem_min2, ge0, c_is_int_i, toNat_nat, rangeD_len, eq_self, cop_eqil, cop_neil, cop_eqps, cop_neps, cop_eqp, cop_nep, Bool.and_true, Bool.true_and, big1, big2, cop_eqi0, cop_nei0, cop_eqp0, cop_nep0, bop_addps, bop_addis, bsem_maxl, bsem_minl, mtTy_index, msem_index, c_lpick2, c_lpick3, t_check_all, c_check_all, t_days_of, c_days_of, b_days, b_days_0, b_days_1]
  exact hQ
def firstOf (u : Int) (bs : List (Int × Int)) (l : List Int) (b d : Int) : Option Int := (rngl d (rel u bs l).toNat).find? fun x => decide (arcAt u bs l x ≤ b)
def sp_first_day : Spec := fun ds Q X => ∃ (u : Int) (bs : List (Int × Int)) (l : List Int) (b : Int) (d : Int), ds = [skyD u bs, intsD l, .int b, .int d] ∧ (Sky u bs) ∧ (Sel bs l) ∧ (0 ≤ b) ∧ (b < u) ∧ (0 ≤ d) ∧ (d ≤ 1000000) ∧ (Q (optD (firstOf u bs l b d)))
theorem c_first_day {u : Int} {bs : List (Int × Int)} {l : List Int} {b : Int} {d : Int} {Q : D → Prop} {X : Exn → Prop} (h0 : Sky u bs) (h1 : Sel bs l) (h2 : 0 ≤ b) (h3 : b < u) (h4 : 0 ≤ d) (h5 : d ≤ 1000000) : sp_first_day [skyD u bs, intsD l, .int b, .int d] Q X = (Q (optD (firstOf u bs l b d))) := by
  simp only [eq_iff_iff]
  constructor
  · rintro ⟨u', bs', l', b', d', e, _, _, _, _, _, _, h⟩
    simp only [List.cons.injEq, PyData.int.injEq, PyData.bool.injEq, skyD_eq, intsD_eq, pairsD_eq, pairD_eq, and_true, true_and] at e
    obtain ⟨⟨rfl, rfl⟩, rfl, rfl, rfl⟩ := e
    exact h
  · exact fun h => ⟨u, bs, l, b, d, rfl, h0, h1, h2, h3, h4, h5, h⟩
theorem r_first_day {T : Fn → Spec} (t_check_all : T .check_all = sp_check_all) (t_check_day : T .check_day = sp_check_day) (t_relative_of : T .relative_of = sp_relative_of) (t_arc_of : T .arc_of = sp_arc_of) {ds : List D} {Q : D → Prop} {X : Exn → Prop} (h : sp_first_day ds Q X) : ds.length = 4 ∧ runs T 5 b_first_day ds Q X := by
  obtain ⟨u, bs, l, b, d, rfl, hs, h1, h2, h3, h4, h5, hQ⟩ := h
  refine ⟨rfl, ?_⟩
  have r0 := rel_pos (l := l) hs
  have r1 := rel_le (l := l) hs
  have hi := hs.hi
  have e : (d + rel u bs l - d).toNat = (rel u bs l).toNat := by omega
  try simp (maxSteps := 2000000) (disch := first | assumption | omega) only [runs, start, wpSs, wpS, wpE, wpEs, wpB, wpO, wpC, wpI, getS, setS, blank, blank1, List.map_cons, List.map_nil, List.length_cons, List.length_nil, List.cons_append, List.nil_append, List.replicate, Nat.sub_self, asBool_b, asInt_i, asList_l, asTup_t, must_s, cop_lt, cop_le, cop_gt, cop_ge, bop_add, bop_sub, bop_mod, bop_fdiv, bop_mul, ixOp_t0, ixOp_t1, ixOp_l, bsem_lenl, bsem_lent, gcv_u, gcv_d, isiD_i, isiD_b, isTok_i, isTok_b, isTok_n, isTok_t, isTok_l, isTok_s, and_true, true_and, if_true, if_false, Bool.false_eq_true, Bool.true_eq_false, Bool.not_true, Bool.not_false, Bool.not_not, noList_i, noList_b, noList_n, noList_t, plain_n, plain_c, lenlim, bindT_1, bindT_2, Nat.reduceAdd, Nat.reduceSub, isNon_n, isNon_i, isNon_b, isNon_t, isNon_l, isNon_s, ite_self, not_true_eq_false, not_false_eq_true, implies_true, false_and, and_false, decide_true, decide_false, decide_not, ixOp_s0, ixOp_s1, ixOp_p, ixOp_p0, ixOp_p1, ixOp_i, bsem_lenp, bsem_leni, bindT_p, isTok_sky, isTok_ps, isTok_is, isTok_p, noList_p, asList_p, asList_il, cop_eqi, cop_nei, bsem_max2, bsem_min2, ge0, c_is_int_i, toNat_nat, rangeD_len, eq_self, cop_eqil, cop_neil, cop_eqps, cop_neps, cop_eqp, cop_nep, Bool.and_true, Bool.true_and, big1, big2, cop_eqi0, cop_nei0, cop_eqp0, cop_nep0, bop_addps, bop_addis, bsem_maxl, bsem_minl, mtTy_index, msem_index, c_lpick2, c_lpick3, t_check_all, c_check_all, t_check_day, c_check_day, t_relative_of, c_relative_of, t_arc_of, c_arc_of, b_first_day, b_first_day_0, b_first_day_1, b_first_day_2, e]
  refine for_find (p := fun x => decide (arcAt u bs l x ≤ b)) (R := fun i => Q (.int i)) (I := fun G => ∃ (s : Sl), G = [.d (skyD u bs), .d (intsD l), .d (.int b), .d (.int d), s]) ⟨_, rfl⟩ (fun i i0 i1 G hG k k1 k2 => ?_) (fun i hf => ?_) (fun G hG hf => ?_)
  · obtain ⟨s, rfl⟩ := hG
    replace k2 := fun h s => k2 h _ ⟨s, rfl⟩
    try simp (maxSteps := 2000000) (disch := first | assumption | omega) only [runs, start, wpSs, wpS, wpE, wpEs, wpB, wpO, wpC, wpI, getS, setS, blank, blank1, List.map_cons, List.map_nil, List.length_cons, List.length_nil, List.cons_append, List.nil_append, List.replicate, Nat.sub_self, asBool_b, asInt_i, asList_l, asTup_t, must_s, cop_lt, cop_le, cop_gt, cop_ge, bop_add, bop_sub, bop_mod, bop_fdiv, bop_mul, ixOp_t0, ixOp_t1, ixOp_l, bsem_lenl, bsem_lent, gcv_u, gcv_d, isiD_i, isiD_b, isTok_i, isTok_b, isTok_n, isTok_t, isTok_l, isTok_s, and_true, true_and, if_true, if_false, Bool.false_eq_true, Bool.true_eq_false, Bool.not_true, Bool.not_false, Bool.not_not, noList_i, noList_b, noList_n, noList_t, plain_n, plain_c, lenlim, bindT_1, bindT_2, Nat.reduceAdd, Nat.reduceSub, isNon_n, isNon_i, isNon_b, isNon_t, isNon_l, isNon_s, ite_self, not_true_eq_false, not_false_eq_true, implies_true, false_and, and_false, decide_true, decide_false, decide_not, ixOp_s0, ixOp_s1, ixOp_p, ixOp_p0, ixOp_p1, ixOp_i, bsem_lenp, bsem_leni, bindT_p, isTok_sky, isTok_ps, isTok_is, isTok_p, noList_p, asList_p, asList_il, cop_eqi, cop_nei, bsem_max2, bsem_min2, ge0, c_is_int_i, toNat_nat, rangeD_len, eq_self, cop_eqil, cop_neil, cop_eqps, cop_neps, cop_eqp, cop_nep, Bool.and_true, Bool.true_and, big1, big2, cop_eqi0, cop_nei0, cop_eqp0, cop_nep0, bop_addps, bop_addis, bsem_maxl, bsem_minl, mtTy_index, msem_index, c_lpick2, c_lpick3, t_check_all, c_check_all, t_check_day, c_check_day, t_relative_of, c_relative_of, t_arc_of, c_arc_of, b_first_day_2l_0]
    by_cases hc : arcBy u (spots u bs l i) ≤ b
    · try simp (maxSteps := 2000000) (disch := first | assumption | omega) only [runs, start, wpSs, wpS, wpE, wpEs, wpB, wpO, wpC, wpI, getS, setS, blank, blank1, List.map_cons, List.map_nil, List.length_cons, List.length_nil, List.cons_append, List.nil_append, List.replicate, Nat.sub_self, asBool_b, asInt_i, asList_l, asTup_t, must_s, cop_lt, cop_le, cop_gt, cop_ge, bop_add, bop_sub, bop_mod, bop_fdiv, bop_mul, ixOp_t0, ixOp_t1, ixOp_l, bsem_lenl, bsem_lent, gcv_u, gcv_d, isiD_i, isiD_b, isTok_i, isTok_b, isTok_n, isTok_t, isTok_l, isTok_s, and_true, true_and, if_true, if_false, Bool.false_eq_true, Bool.true_eq_false, Bool.not_true, Bool.not_false, Bool.not_not, noList_i, noList_b, noList_n, noList_t, plain_n, plain_c, lenlim, bindT_1, bindT_2, Nat.reduceAdd, Nat.reduceSub, isNon_n, isNon_i, isNon_b, isNon_t, isNon_l, isNon_s, ite_self, not_true_eq_false, not_false_eq_true, implies_true, false_and, and_false, decide_true, decide_false, decide_not, ixOp_s0, ixOp_s1, ixOp_p, ixOp_p0, ixOp_p1, ixOp_i, bsem_lenp, bsem_leni, bindT_p, isTok_sky, isTok_ps, isTok_is, isTok_p, noList_p, asList_p, asList_il, cop_eqi, cop_nei, bsem_max2, bsem_min2, ge0, c_is_int_i, toNat_nat, rangeD_len, eq_self, cop_eqil, cop_neil, cop_eqps, cop_neps, cop_eqp, cop_nep, Bool.and_true, Bool.true_and, big1, big2, cop_eqi0, cop_nei0, cop_eqp0, cop_nep0, bop_addps, bop_addis, bsem_maxl, bsem_minl, mtTy_index, msem_index, c_lpick2, c_lpick3, t_check_all, c_check_all, t_check_day, c_check_day, t_relative_of, c_relative_of, t_arc_of, c_arc_of, hc]
      exact k1 (decide_eq_true hc)
    · try simp (maxSteps := 2000000) (disch := first | assumption | omega) only [runs, start, wpSs, wpS, wpE, wpEs, wpB, wpO, wpC, wpI, getS, setS, blank, blank1, List.map_cons, List.map_nil, List.length_cons, List.length_nil, List.cons_append, List.nil_append, List.replicate, Nat.sub_self, asBool_b, asInt_i, asList_l, asTup_t, must_s, cop_lt, cop_le, cop_gt, cop_ge, bop_add, bop_sub, bop_mod, bop_fdiv, bop_mul, ixOp_t0, ixOp_t1, ixOp_l, bsem_lenl, bsem_lent, gcv_u, gcv_d, isiD_i, isiD_b, isTok_i, isTok_b, isTok_n, isTok_t, isTok_l, isTok_s, and_true, true_and, if_true, if_false, Bool.false_eq_true, Bool.true_eq_false, Bool.not_true, Bool.not_false, Bool.not_not, noList_i, noList_b, noList_n, noList_t, plain_n, plain_c, lenlim, bindT_1, bindT_2, Nat.reduceAdd, Nat.reduceSub, isNon_n, isNon_i, isNon_b, isNon_t, isNon_l, isNon_s, ite_self, not_true_eq_false, not_false_eq_true, implies_true, false_and, and_false, decide_true, decide_false, decide_not, ixOp_s0, ixOp_s1, ixOp_p, ixOp_p0, ixOp_p1, ixOp_i, bsem_lenp, bsem_leni, bindT_p, isTok_sky, isTok_ps, isTok_is, isTok_p, noList_p, asList_p, asList_il, cop_eqi, cop_nei, bsem_max2, bsem_min2, ge0, c_is_int_i, toNat_nat, rangeD_len, eq_self, cop_eqil, cop_neil, cop_eqps, cop_neps, cop_eqp, cop_nep, Bool.and_true, Bool.true_and, big1, big2, cop_eqi0, cop_nei0, cop_eqp0, cop_nep0, bop_addps, bop_addis, bsem_maxl, bsem_minl, mtTy_index, msem_index, c_lpick2, c_lpick3, t_check_all, c_check_all, t_check_day, c_check_day, t_relative_of, c_relative_of, t_arc_of, c_arc_of, hc]
      exact k2 (decide_eq_false hc) _
  · unfold firstOf at hQ
    rw [hf] at hQ
    exact hQ
  · obtain ⟨s, rfl⟩ := hG
    unfold firstOf at hQ
    rw [hf] at hQ
    try simp (maxSteps := 2000000) (disch := first | assumption | omega) only [runs, start, wpSs, wpS, wpE, wpEs, wpB, wpO, wpC, wpI, getS, setS, blank, blank1, List.map_cons, List.map_nil, List.length_cons, List.length_nil, List.cons_append, List.nil_append, List.replicate, Nat.sub_self, asBool_b, asInt_i, asList_l, asTup_t, must_s, cop_lt, cop_le, cop_gt, cop_ge, bop_add, bop_sub, bop_mod, bop_fdiv, bop_mul, ixOp_t0, ixOp_t1, ixOp_l, bsem_lenl, bsem_lent, gcv_u, gcv_d, isiD_i, isiD_b, isTok_i, isTok_b, isTok_n, isTok_t, isTok_l, isTok_s, and_true, true_and, if_true, if_false, Bool.false_eq_true, Bool.true_eq_false, Bool.not_true, Bool.not_false, Bool.not_not, noList_i, noList_b, noList_n, noList_t, plain_n, plain_c, lenlim, bindT_1, bindT_2, Nat.reduceAdd, Nat.reduceSub, isNon_n, isNon_i, isNon_b, isNon_t, isNon_l, isNon_s, ite_self, not_true_eq_false, not_false_eq_true, implies_true, false_and, and_false, decide_true, decide_false, decide_not, ixOp_s0, ixOp_s1, ixOp_p, ixOp_p0, ixOp_p1, ixOp_i, bsem_lenp, bsem_leni, bindT_p, isTok_sky, isTok_ps, isTok_is, isTok_p, noList_p, asList_p, asList_il, cop_eqi, cop_nei, bsem_max2, bsem_min2, ge0, c_is_int_i, toNat_nat, rangeD_len, eq_self, cop_eqil, cop_neil, cop_eqps, cop_neps, cop_eqp, cop_nep, Bool.and_true, Bool.true_and, big1, big2, cop_eqi0, cop_nei0, cop_eqp0, cop_nep0, bop_addps, bop_addis, bsem_maxl, bsem_minl, mtTy_index, msem_index, c_lpick2, c_lpick3, t_check_all, c_check_all, t_check_day, c_check_day, t_relative_of, c_relative_of, t_arc_of, c_arc_of, b_first_day_3]
    exact hQ
abbrev dnl (hi : Int) (n : Nat) : List Int := (List.range n).map fun (j : Nat) => hi - (j : Int)
theorem mem_dnl {hi x : Int} {n : Nat} : x ∈ dnl hi n ↔ hi - n < x ∧ x ≤ hi := by
  rw [List.mem_map]
  constructor
  · rintro ⟨i, hi, rfl⟩
    have := List.mem_range.mp hi
    omega
  · rintro ⟨h0, h1⟩
    exact ⟨(hi - x).toNat, List.mem_range.mpr (by omega), by omega⟩
def lastOf (u : Int) (bs : List (Int × Int)) (l : List Int) (b d : Int) : Option Int := (dnl (d - 1) (min d (rel u bs l)).toNat).find? fun x => decide (arcAt u bs l x ≤ b)
def sp_last_day : Spec := fun ds Q X => ∃ (u : Int) (bs : List (Int × Int)) (l : List Int) (b : Int) (d : Int), ds = [skyD u bs, intsD l, .int b, .int d] ∧ (Sky u bs) ∧ (Sel bs l) ∧ (0 ≤ b) ∧ (b < u) ∧ (0 ≤ d) ∧ (d ≤ 1000000) ∧ (Q (optD (lastOf u bs l b d)))
theorem c_last_day {u : Int} {bs : List (Int × Int)} {l : List Int} {b : Int} {d : Int} {Q : D → Prop} {X : Exn → Prop} (h0 : Sky u bs) (h1 : Sel bs l) (h2 : 0 ≤ b) (h3 : b < u) (h4 : 0 ≤ d) (h5 : d ≤ 1000000) : sp_last_day [skyD u bs, intsD l, .int b, .int d] Q X = (Q (optD (lastOf u bs l b d))) := by
  simp only [eq_iff_iff]
  constructor
  · rintro ⟨u', bs', l', b', d', e, _, _, _, _, _, _, h⟩
    simp only [List.cons.injEq, PyData.int.injEq, PyData.bool.injEq, skyD_eq, intsD_eq, pairsD_eq, pairD_eq, and_true, true_and] at e
    obtain ⟨⟨rfl, rfl⟩, rfl, rfl, rfl⟩ := e
    exact h
  · exact fun h => ⟨u, bs, l, b, d, rfl, h0, h1, h2, h3, h4, h5, h⟩
theorem r_last_day {T : Fn → Spec} (t_check_all : T .check_all = sp_check_all) (t_check_day : T .check_day = sp_check_day) (t_relative_of : T .relative_of = sp_relative_of) (t_arc_of : T .arc_of = sp_arc_of) {ds : List D} {Q : D → Prop} {X : Exn → Prop} (h : sp_last_day ds Q X) : ds.length = 4 ∧ runs T 5 b_last_day ds Q X := by
  obtain ⟨u, bs, l, b, d, rfl, hs, h1, h2, h3, h4, h5, hQ⟩ := h
  refine ⟨rfl, ?_⟩
  have r0 := rel_pos (l := l) hs
  have r1 := rel_le (l := l) hs
  have hi := hs.hi
  have e : (d - 1 - max (-1) (d - 1 - rel u bs l)).toNat = (min d (rel u bs l)).toNat := by omega
  have b1 : -big ≤ d - 1 ∧ d - 1 ≤ big ∧ -big ≤ max (-1) (d - 1 - rel u bs l) ∧ max (-1) (d - 1 - rel u bs l) ≤ big := by unfold big; omega
  try simp (maxSteps := 2000000) (disch := first | assumption | omega) only [runs, start, wpSs, wpS, wpE, wpEs, wpB, wpO, wpC, wpI, getS, setS, blank, blank1, List.map_cons, List.map_nil, List.length_cons, List.length_nil, List.cons_append, List.nil_append, List.replicate, Nat.sub_self, asBool_b, asInt_i, asList_l, asTup_t, must_s, cop_lt, cop_le, cop_gt, cop_ge, bop_add, bop_sub, bop_mod, bop_fdiv, bop_mul, ixOp_t0, ixOp_t1, ixOp_l, bsem_lenl, bsem_lent, gcv_u, gcv_d, isiD_i, isiD_b, isTok_i, isTok_b, isTok_n, isTok_t, isTok_l, isTok_s, and_true, true_and, if_true, if_false, Bool.false_eq_true, Bool.true_eq_false, Bool.not_true, Bool.not_false, Bool.not_not, noList_i, noList_b, noList_n, noList_t, plain_n, plain_c, lenlim, bindT_1, bindT_2, Nat.reduceAdd, Nat.reduceSub, isNon_n, isNon_i, isNon_b, isNon_t, isNon_l, isNon_s, ite_self, not_true_eq_false, not_false_eq_true, implies_true, false_and, and_false, decide_true, decide_false, decide_not, ixOp_s0, ixOp_s1, ixOp_p, ixOp_p0, ixOp_p1, ixOp_i, bsem_lenp, bsem_leni, bindT_p, isTok_sky, isTok_ps, isTok_is, isTok_p, noList_p, asList_p, asList_il, cop_eqi, cop_nei, bsem_max2, bsem_min2, ge0, c_is_int_i, toNat_nat, rangeD_len, eq_self, cop_eqil, cop_neil, cop_eqps, cop_neps, cop_eqp, cop_nep, Bool.and_true, Bool.true_and, big1, big2, cop_eqi0, cop_nei0, cop_eqp0, cop_nep0, bop_addps, bop_addis, bsem_maxl, bsem_minl, mtTy_index, msem_index, c_lpick2, c_lpick3, t_check_all, c_check_all, t_check_day, c_check_day, t_relative_of, c_relative_of, t_arc_of, c_arc_of, b_last_day, b_last_day_0, b_last_day_1, b_last_day_2, e]
  have ed : rangeDown (d - 1) (min d (rel u bs l)).toNat = (dnl (d - 1) (min d (rel u bs l)).toNat).map .int := by
    unfold rangeDown
    rw [List.map_map]
    rfl
  rw [ed]
  refine for_findL (p := fun x => decide (arcAt u bs l x ≤ b)) (R := fun i => Q (.int i)) (I := fun G => ∃ (s : Sl), G = [.d (skyD u bs), .d (intsD l), .d (.int b), .d (.int d), s]) ⟨_, rfl⟩ (fun i im G hG k k1 k2 => ?_) (fun i hf => ?_) (fun G hG hf => ?_)
  · obtain ⟨s, rfl⟩ := hG
    replace k2 := fun h s => k2 h _ ⟨s, rfl⟩
    obtain ⟨i0, i1⟩ := mem_dnl.mp im
    try simp (maxSteps := 2000000) (disch := first | assumption | omega) only [runs, start, wpSs, wpS, wpE, wpEs, wpB, wpO, wpC, wpI, getS, setS, blank, blank1, List.map_cons, List.map_nil, List.length_cons, List.length_nil, List.cons_append, List.nil_append, List.replicate, Nat.sub_self, asBool_b, asInt_i, asList_l, asTup_t, must_s, cop_lt, cop_le, cop_gt, cop_ge, bop_add, bop_sub, bop_mod, bop_fdiv, bop_mul, ixOp_t0, ixOp_t1, ixOp_l, bsem_lenl, bsem_lent, gcv_u, gcv_d, isiD_i, isiD_b, isTok_i, isTok_b, isTok_n, isTok_t, isTok_l, isTok_s, and_true, true_and, if_true, if_false, Bool.false_eq_true, Bool.true_eq_false, Bool.not_true, Bool.not_false, Bool.not_not, noList_i, noList_b, noList_n, noList_t, plain_n, plain_c, lenlim, bindT_1, bindT_2, Nat.reduceAdd, Nat.reduceSub, isNon_n, isNon_i, isNon_b, isNon_t, isNon_l, isNon_s, ite_self, not_true_eq_false, not_false_eq_true, implies_true, false_and, and_false, decide_true, decide_false, decide_not, ixOp_s0, ixOp_s1, ixOp_p, ixOp_p0, ixOp_p1, ixOp_i, bsem_lenp, bsem_leni, bindT_p, isTok_sky, isTok_ps, isTok_is, isTok_p, noList_p, asList_p, asList_il, cop_eqi, cop_nei, bsem_max2, bsem_min2, ge0, c_is_int_i, toNat_nat, rangeD_len, eq_self, cop_eqil, cop_neil, cop_eqps, cop_neps, cop_eqp, cop_nep, Bool.and_true, Bool.true_and, big1, big2, cop_eqi0, cop_nei0, cop_eqp0, cop_nep0, bop_addps, bop_addis, bsem_maxl, bsem_minl, mtTy_index, msem_index, c_lpick2, c_lpick3, t_check_all, c_check_all, t_check_day, c_check_day, t_relative_of, c_relative_of, t_arc_of, c_arc_of, b_last_day_2l_0]
    by_cases hc : arcBy u (spots u bs l i) ≤ b
    · try simp (maxSteps := 2000000) (disch := first | assumption | omega) only [runs, start, wpSs, wpS, wpE, wpEs, wpB, wpO, wpC, wpI, getS, setS, blank, blank1, List.map_cons, List.map_nil, List.length_cons, List.length_nil, List.cons_append, List.nil_append, List.replicate, Nat.sub_self, asBool_b, asInt_i, asList_l, asTup_t, must_s, cop_lt, cop_le, cop_gt, cop_ge, bop_add, bop_sub, bop_mod, bop_fdiv, bop_mul, ixOp_t0, ixOp_t1, ixOp_l, bsem_lenl, bsem_lent, gcv_u, gcv_d, isiD_i, isiD_b, isTok_i, isTok_b, isTok_n, isTok_t, isTok_l, isTok_s, and_true, true_and, if_true, if_false, Bool.false_eq_true, Bool.true_eq_false, Bool.not_true, Bool.not_false, Bool.not_not, noList_i, noList_b, noList_n, noList_t, plain_n, plain_c, lenlim, bindT_1, bindT_2, Nat.reduceAdd, Nat.reduceSub, isNon_n, isNon_i, isNon_b, isNon_t, isNon_l, isNon_s, ite_self, not_true_eq_false, not_false_eq_true, implies_true, false_and, and_false, decide_true, decide_false, decide_not, ixOp_s0, ixOp_s1, ixOp_p, ixOp_p0, ixOp_p1, ixOp_i, bsem_lenp, bsem_leni, bindT_p, isTok_sky, isTok_ps, isTok_is, isTok_p, noList_p, asList_p, asList_il, cop_eqi, cop_nei, bsem_max2, bsem_min2, ge0, c_is_int_i, toNat_nat, rangeD_len, eq_self, cop_eqil, cop_neil, cop_eqps, cop_neps, cop_eqp, cop_nep, Bool.and_true, Bool.true_and, big1, big2, cop_eqi0, cop_nei0, cop_eqp0, cop_nep0, bop_addps, bop_addis, bsem_maxl, bsem_minl, mtTy_index, msem_index, c_lpick2, c_lpick3, t_check_all, c_check_all, t_check_day, c_check_day, t_relative_of, c_relative_of, t_arc_of, c_arc_of, hc]
      exact k1 (decide_eq_true hc)
    · try simp (maxSteps := 2000000) (disch := first | assumption | omega) only [runs, start, wpSs, wpS, wpE, wpEs, wpB, wpO, wpC, wpI, getS, setS, blank, blank1, List.map_cons, List.map_nil, List.length_cons, List.length_nil, List.cons_append, List.nil_append, List.replicate, Nat.sub_self, asBool_b, asInt_i, asList_l, asTup_t, must_s, cop_lt, cop_le, cop_gt, cop_ge, bop_add, bop_sub, bop_mod, bop_fdiv, bop_mul, ixOp_t0, ixOp_t1, ixOp_l, bsem_lenl, bsem_lent, gcv_u, gcv_d, isiD_i, isiD_b, isTok_i, isTok_b, isTok_n, isTok_t, isTok_l, isTok_s, and_true, true_and, if_true, if_false, Bool.false_eq_true, Bool.true_eq_false, Bool.not_true, Bool.not_false, Bool.not_not, noList_i, noList_b, noList_n, noList_t, plain_n, plain_c, lenlim, bindT_1, bindT_2, Nat.reduceAdd, Nat.reduceSub, isNon_n, isNon_i, isNon_b, isNon_t, isNon_l, isNon_s, ite_self, not_true_eq_false, not_false_eq_true, implies_true, false_and, and_false, decide_true, decide_false, decide_not, ixOp_s0, ixOp_s1, ixOp_p, ixOp_p0, ixOp_p1, ixOp_i, bsem_lenp, bsem_leni, bindT_p, isTok_sky, isTok_ps, isTok_is, isTok_p, noList_p, asList_p, asList_il, cop_eqi, cop_nei, bsem_max2, bsem_min2, ge0, c_is_int_i, toNat_nat, rangeD_len, eq_self, cop_eqil, cop_neil, cop_eqps, cop_neps, cop_eqp, cop_nep, Bool.and_true, Bool.true_and, big1, big2, cop_eqi0, cop_nei0, cop_eqp0, cop_nep0, bop_addps, bop_addis, bsem_maxl, bsem_minl, mtTy_index, msem_index, c_lpick2, c_lpick3, t_check_all, c_check_all, t_check_day, c_check_day, t_relative_of, c_relative_of, t_arc_of, c_arc_of, hc]
      exact k2 (decide_eq_false hc) _
  · unfold lastOf at hQ
    rw [hf] at hQ
    exact hQ
  · obtain ⟨s, rfl⟩ := hG
    unfold lastOf at hQ
    rw [hf] at hQ
    try simp (maxSteps := 2000000) (disch := first | assumption | omega) only [runs, start, wpSs, wpS, wpE, wpEs, wpB, wpO, wpC, wpI, getS, setS, blank, blank1, List.map_cons, List.map_nil, List.length_cons, List.length_nil, List.cons_append, List.nil_append, List.replicate, Nat.sub_self, asBool_b, asInt_i, asList_l, asTup_t, must_s, cop_lt, cop_le, cop_gt, cop_ge, bop_add, bop_sub, bop_mod, bop_fdiv, bop_mul, ixOp_t0, ixOp_t1, ixOp_l, bsem_lenl, bsem_lent, gcv_u, gcv_d, isiD_i, isiD_b, isTok_i, isTok_b, isTok_n, isTok_t, isTok_l, isTok_s, and_true, true_and, if_true, if_false, Bool.false_eq_true, Bool.true_eq_false, Bool.not_true, Bool.not_false, Bool.not_not, noList_i, noList_b, noList_n, noList_t, plain_n, plain_c, lenlim, bindT_1, bindT_2, Nat.reduceAdd, Nat.reduceSub, isNon_n, isNon_i, isNon_b, isNon_t, isNon_l, isNon_s, ite_self, not_true_eq_false, not_false_eq_true, implies_true, false_and, and_false, decide_true, decide_false, decide_not, ixOp_s0, ixOp_s1, ixOp_p, ixOp_p0, ixOp_p1, ixOp_i, bsem_lenp, bsem_leni, bindT_p, isTok_sky, isTok_ps, isTok_is, isTok_p, noList_p, asList_p, asList_il, cop_eqi, cop_nei, bsem_max2, bsem_min2, ge0, c_is_int_i, toNat_nat, rangeD_len, eq_self, cop_eqil, cop_neil, cop_eqps, cop_neps, cop_eqp, cop_nep, Bool.and_true, Bool.true_and, big1, big2, cop_eqi0, cop_nei0, cop_eqp0, cop_nep0, bop_addps, bop_addis, bsem_maxl, bsem_minl, mtTy_index, msem_index, c_lpick2, c_lpick3, t_check_all, c_check_all, t_check_day, c_check_day, t_relative_of, c_relative_of, t_arc_of, c_arc_of, b_last_day_3]
    exact hQ
theorem gdays_len {u b : Int} {bs : List (Int × Int)} {l : List Int} (h : Sky u bs) : ((gdays u bs l b).length : Int) ≤ u := by
  have r1 := rel_le (l := l) h
  have : (gdays u bs l b).length ≤ (rel u bs l).toNat := by
    refine Nat.le_trans (List.length_filter_le _ _) ?_
    rw [rngl_len]
    exact Nat.le_refl _
  have := rel_pos (l := l) h
  omega
def cntB (u : Int) (bs : List (Int × Int)) (l : List Int) (b d : Int) : Int := d / rel u bs l * ((gdays u bs l b).length : Int) + (((gdays u bs l b).filter fun x => decide (x < d % rel u bs l)).length : Int)
def sp_count_before : Spec := fun ds Q X => ∃ (u : Int) (bs : List (Int × Int)) (l : List Int) (b : Int) (d : Int), ds = [skyD u bs, intsD l, .int b, .int d] ∧ (Sky u bs) ∧ (Sel bs l) ∧ (0 ≤ b) ∧ (b < u) ∧ (0 ≤ d) ∧ (d ≤ 1000000) ∧ (Q (.int (cntB u bs l b d)))
theorem c_count_before {u : Int} {bs : List (Int × Int)} {l : List Int} {b : Int} {d : Int} {Q : D → Prop} {X : Exn → Prop} (h0 : Sky u bs) (h1 : Sel bs l) (h2 : 0 ≤ b) (h3 : b < u) (h4 : 0 ≤ d) (h5 : d ≤ 1000000) : sp_count_before [skyD u bs, intsD l, .int b, .int d] Q X = (Q (.int (cntB u bs l b d))) := by
  simp only [eq_iff_iff]
  constructor
  · rintro ⟨u', bs', l', b', d', e, _, _, _, _, _, _, h⟩
    simp only [List.cons.injEq, PyData.int.injEq, PyData.bool.injEq, skyD_eq, intsD_eq, pairsD_eq, pairD_eq, and_true, true_and] at e
    obtain ⟨⟨rfl, rfl⟩, rfl, rfl, rfl⟩ := e
    exact h
  · exact fun h => ⟨u, bs, l, b, d, rfl, h0, h1, h2, h3, h4, h5, h⟩
theorem r_count_before {T : Fn → Spec} (t_check_all : T .check_all = sp_check_all) (t_check_day : T .check_day = sp_check_day) (t_relative_of : T .relative_of = sp_relative_of) (t_days_of : T .days_of = sp_days_of) {ds : List D} {Q : D → Prop} {X : Exn → Prop} (h : sp_count_before ds Q X) : ds.length = 4 ∧ runs T 8 b_count_before ds Q X := by
  obtain ⟨u, bs, l, b, d, rfl, hs, h1, h2, h3, h4, h5, hQ⟩ := h
  refine ⟨rfl, ?_⟩
  have r0 := rel_pos (l := l) hs
  have r1 := rel_le (l := l) hs
  have hi := hs.hi
  have gl := gdays_len (l := l) (b := b) hs
  obtain ⟨q0, q1⟩ := div_le h4 r0
  try simp (maxSteps := 2000000) (disch := first | assumption | omega) only [runs, start, wpSs, wpS, wpE, wpEs, wpB, wpO, wpC, wpI, getS, setS, blank, blank1, List.map_cons, List.map_nil, List.length_cons, List.length_nil, List.cons_append, List.nil_append, List.replicate, Nat.sub_self, asBool_b, asInt_i, asList_l, asTup_t, must_s, cop_lt, cop_le, cop_gt, cop_ge, bop_add, bop_sub, bop_mod, bop_fdiv, bop_mul, ixOp_t0, ixOp_t1, ixOp_l, bsem_lenl, bsem_lent, gcv_u, gcv_d, isiD_i, isiD_b, isTok_i, isTok_b, isTok_n, isTok_t, isTok_l, isTok_s, and_true, true_and, if_true, if_false, Bool.false_eq_true, Bool.true_eq_false, Bool.not_true, Bool.not_false, Bool.not_not, noList_i, noList_b, noList_n, noList_t, plain_n, plain_c, lenlim, bindT_1, bindT_2, Nat.reduceAdd, Nat.reduceSub, isNon_n, isNon_i, isNon_b, isNon_t, isNon_l, isNon_s, ite_self, not_true_eq_false, not_false_eq_true, implies_true, false_and, and_false, decide_true, decide_false, decide_not, ixOp_s0, ixOp_s1, ixOp_p, ixOp_p0, ixOp_p1, ixOp_i, bsem_lenp, bsem_leni, bindT_p, isTok_sky, isTok_ps, isTok_is, isTok_p, noList_p, asList_p, asList_il, cop_eqi, cop_nei, bsem_max2, bsem_min2, ge0, c_is_int_i, toNat_nat, rangeD_len, eq_self, cop_eqil, cop_neil, cop_eqps, cop_neps, cop_eqp, cop_nep, Bool.and_true, Bool.true_and, big1, big2, cop_eqi0, cop_nei0, cop_eqp0, cop_nep0, bop_addps, bop_addis, bsem_maxl, bsem_minl, mtTy_index, msem_index, c_lpick2, c_lpick3, t_check_all, c_check_all, t_check_day, c_check_day, t_relative_of, c_relative_of, t_days_of, c_days_of, b_count_before, b_count_before_0, b_count_before_1, b_count_before_2, b_count_before_3, b_count_before_4]
  refine ⟨by rw [List.length_map]; unfold lim; omega, ?_⟩
  refine wpLc_filM (i := PyData.int) (p := fun x => decide (x < d % rel u bs l)) (g := PyData.int) (fun x hx k hk => ?_) ?_
  · try simp (maxSteps := 2000000) (disch := first | assumption | omega) only [runs, start, wpSs, wpS, wpE, wpEs, wpB, wpO, wpC, wpI, getS, setS, blank, blank1, List.map_cons, List.map_nil, List.length_cons, List.length_nil, List.cons_append, List.nil_append, List.replicate, Nat.sub_self, asBool_b, asInt_i, asList_l, asTup_t, must_s, cop_lt, cop_le, cop_gt, cop_ge, bop_add, bop_sub, bop_mod, bop_fdiv, bop_mul, ixOp_t0, ixOp_t1, ixOp_l, bsem_lenl, bsem_lent, gcv_u, gcv_d, isiD_i, isiD_b, isTok_i, isTok_b, isTok_n, isTok_t, isTok_l, isTok_s, and_true, true_and, if_true, if_false, Bool.false_eq_true, Bool.true_eq_false, Bool.not_true, Bool.not_false, Bool.not_not, noList_i, noList_b, noList_n, noList_t, plain_n, plain_c, lenlim, bindT_1, bindT_2, Nat.reduceAdd, Nat.reduceSub, isNon_n, isNon_i, isNon_b, isNon_t, isNon_l, isNon_s, ite_self, not_true_eq_false, not_false_eq_true, implies_true, false_and, and_false, decide_true, decide_false, decide_not, ixOp_s0, ixOp_s1, ixOp_p, ixOp_p0, ixOp_p1, ixOp_i, bsem_lenp, bsem_leni, bindT_p, isTok_sky, isTok_ps, isTok_is, isTok_p, noList_p, asList_p, asList_il, cop_eqi, cop_nei, bsem_max2, bsem_min2, ge0, c_is_int_i, toNat_nat, rangeD_len, eq_self, cop_eqil, cop_neil, cop_eqps, cop_neps, cop_eqp, cop_nep, Bool.and_true, Bool.true_and, big1, big2, cop_eqi0, cop_nei0, cop_eqp0, cop_nep0, bop_addps, bop_addis, bsem_maxl, bsem_minl, mtTy_index, msem_index, c_lpick2, c_lpick3, t_check_all, c_check_all, t_check_day, c_check_day, t_relative_of, c_relative_of, t_days_of, c_days_of]
    exact ite_k hk
  · try simp (maxSteps := 2000000) (disch := first | assumption | omega) only [runs, start, wpSs, wpS, wpE, wpEs, wpB, wpO, wpC, wpI, getS, setS, blank, blank1, List.map_cons, List.map_nil, List.length_cons, List.length_nil, List.cons_append, List.nil_append, List.replicate, Nat.sub_self, asBool_b, asInt_i, asList_l, asTup_t, must_s, cop_lt, cop_le, cop_gt, cop_ge, bop_add, bop_sub, bop_mod, bop_fdiv, bop_mul, ixOp_t0, ixOp_t1, ixOp_l, bsem_lenl, bsem_lent, gcv_u, gcv_d, isiD_i, isiD_b, isTok_i, isTok_b, isTok_n, isTok_t, isTok_l, isTok_s, and_true, true_and, if_true, if_false, Bool.false_eq_true, Bool.true_eq_false, Bool.not_true, Bool.not_false, Bool.not_not, noList_i, noList_b, noList_n, noList_t, plain_n, plain_c, lenlim, bindT_1, bindT_2, Nat.reduceAdd, Nat.reduceSub, isNon_n, isNon_i, isNon_b, isNon_t, isNon_l, isNon_s, ite_self, not_true_eq_false, not_false_eq_true, implies_true, false_and, and_false, decide_true, decide_false, decide_not, ixOp_s0, ixOp_s1, ixOp_p, ixOp_p0, ixOp_p1, ixOp_i, bsem_lenp, bsem_leni, bindT_p, isTok_sky, isTok_ps, isTok_is, isTok_p, noList_p, asList_p, asList_il, cop_eqi, cop_nei, bsem_max2, bsem_min2, ge0, c_is_int_i, toNat_nat, rangeD_len, eq_self, cop_eqil, cop_neil, cop_eqps, cop_neps, cop_eqp, cop_nep, Bool.and_true, Bool.true_and, big1, big2, cop_eqi0, cop_nei0, cop_eqp0, cop_nep0, bop_addps, bop_addis, bsem_maxl, bsem_minl, mtTy_index, msem_index, c_lpick2, c_lpick3, t_check_all, c_check_all, t_check_day, c_check_day, t_relative_of, c_relative_of, t_days_of, c_days_of, List.length_map]
    exact hQ
def dayAt (u : Int) (bs : List (Int × Int)) (l : List Int) (b r : Int) : Int := r / ((gdays u bs l b).length : Int) * rel u bs l + nth (gdays u bs l b) (r % ((gdays u bs l b).length : Int))
def sp_day_at : Spec := fun ds Q X => ∃ (u : Int) (bs : List (Int × Int)) (l : List Int) (b : Int) (r : Int), ds = [skyD u bs, intsD l, .int b, .int r] ∧ (Sky u bs) ∧ (Sel bs l) ∧ (0 ≤ b) ∧ (b < u) ∧ (0 ≤ r) ∧ (r ≤ 1000000) ∧ (Q (if gdays u bs l b = [] then .none else .int (dayAt u bs l b r)))
theorem c_day_at {u : Int} {bs : List (Int × Int)} {l : List Int} {b : Int} {r : Int} {Q : D → Prop} {X : Exn → Prop} (h0 : Sky u bs) (h1 : Sel bs l) (h2 : 0 ≤ b) (h3 : b < u) (h4 : 0 ≤ r) (h5 : r ≤ 1000000) : sp_day_at [skyD u bs, intsD l, .int b, .int r] Q X = (Q (if gdays u bs l b = [] then .none else .int (dayAt u bs l b r))) := by
  simp only [eq_iff_iff]
  constructor
  · rintro ⟨u', bs', l', b', r', e, _, _, _, _, _, _, h⟩
    simp only [List.cons.injEq, PyData.int.injEq, PyData.bool.injEq, skyD_eq, intsD_eq, pairsD_eq, pairD_eq, and_true, true_and] at e
    obtain ⟨⟨rfl, rfl⟩, rfl, rfl, rfl⟩ := e
    exact h
  · exact fun h => ⟨u, bs, l, b, r, rfl, h0, h1, h2, h3, h4, h5, h⟩
theorem r_day_at {T : Fn → Spec} (t_check_all : T .check_all = sp_check_all) (t_check_day : T .check_day = sp_check_day) (t_relative_of : T .relative_of = sp_relative_of) (t_days_of : T .days_of = sp_days_of) {ds : List D} {Q : D → Prop} {X : Exn → Prop} (h : sp_day_at ds Q X) : ds.length = 4 ∧ runs T 5 b_day_at ds Q X := by
  obtain ⟨u, bs, l, b, r, rfl, hs, h1, h2, h3, h4, h5, hQ⟩ := h
  refine ⟨rfl, ?_⟩
  have r0 := rel_pos (l := l) hs
  have r1 := rel_le (l := l) hs
  have hi := hs.hi
  have gl := gdays_len (l := l) (b := b) hs
  try simp (maxSteps := 2000000) (disch := first | assumption | omega) only [runs, start, wpSs, wpS, wpE, wpEs, wpB, wpO, wpC, wpI, getS, setS, blank, blank1, List.map_cons, List.map_nil, List.length_cons, List.length_nil, List.cons_append, List.nil_append, List.replicate, Nat.sub_self, asBool_b, asInt_i, asList_l, asTup_t, must_s, cop_lt, cop_le, cop_gt, cop_ge, bop_add, bop_sub, bop_mod, bop_fdiv, bop_mul, ixOp_t0, ixOp_t1, ixOp_l, bsem_lenl, bsem_lent, gcv_u, gcv_d, isiD_i, isiD_b, isTok_i, isTok_b, isTok_n, isTok_t, isTok_l, isTok_s, and_true, true_and, if_true, if_false, Bool.false_eq_true, Bool.true_eq_false, Bool.not_true, Bool.not_false, Bool.not_not, noList_i, noList_b, noList_n, noList_t, plain_n, plain_c, lenlim, bindT_1, bindT_2, Nat.reduceAdd, Nat.reduceSub, isNon_n, isNon_i, isNon_b, isNon_t, isNon_l, isNon_s, ite_self, not_true_eq_false, not_false_eq_true, implies_true, false_and, and_false, decide_true, decide_false, decide_not, ixOp_s0, ixOp_s1, ixOp_p, ixOp_p0, ixOp_p1, ixOp_i, bsem_lenp, bsem_leni, bindT_p, isTok_sky, isTok_ps, isTok_is, isTok_p, noList_p, asList_p, asList_il, cop_eqi, cop_nei, bsem_max2, bsem_min2, ge0, c_is_int_i, toNat_nat, rangeD_len, eq_self, cop_eqil, cop_neil, cop_eqps, cop_neps, cop_eqp, cop_nep, Bool.and_true, Bool.true_and, big1, big2, cop_eqi0, cop_nei0, cop_eqp0, cop_nep0, bop_addps, bop_addis, bsem_maxl, bsem_minl, mtTy_index, msem_index, c_lpick2, c_lpick3, t_check_all, c_check_all, t_check_day, c_check_day, t_relative_of, c_relative_of, t_days_of, c_days_of, b_day_at, b_day_at_0, b_day_at_1, b_day_at_2, b_day_at_3]
  by_cases hg : gdays u bs l b = []
  · try simp (maxSteps := 2000000) (disch := first | assumption | omega) only [runs, start, wpSs, wpS, wpE, wpEs, wpB, wpO, wpC, wpI, getS, setS, blank, blank1, List.map_cons, List.map_nil, List.length_cons, List.length_nil, List.cons_append, List.nil_append, List.replicate, Nat.sub_self, asBool_b, asInt_i, asList_l, asTup_t, must_s, cop_lt, cop_le, cop_gt, cop_ge, bop_add, bop_sub, bop_mod, bop_fdiv, bop_mul, ixOp_t0, ixOp_t1, ixOp_l, bsem_lenl, bsem_lent, gcv_u, gcv_d, isiD_i, isiD_b, isTok_i, isTok_b, isTok_n, isTok_t, isTok_l, isTok_s, and_true, true_and, if_true, if_false, Bool.false_eq_true, Bool.true_eq_false, Bool.not_true, Bool.not_false, Bool.not_not, noList_i, noList_b, noList_n, noList_t, plain_n, plain_c, lenlim, bindT_1, bindT_2, Nat.reduceAdd, Nat.reduceSub, isNon_n, isNon_i, isNon_b, isNon_t, isNon_l, isNon_s, ite_self, not_true_eq_false, not_false_eq_true, implies_true, false_and, and_false, decide_true, decide_false, decide_not, ixOp_s0, ixOp_s1, ixOp_p, ixOp_p0, ixOp_p1, ixOp_i, bsem_lenp, bsem_leni, bindT_p, isTok_sky, isTok_ps, isTok_is, isTok_p, noList_p, asList_p, asList_il, cop_eqi, cop_nei, bsem_max2, bsem_min2, ge0, c_is_int_i, toNat_nat, rangeD_len, eq_self, cop_eqil, cop_neil, cop_eqps, cop_neps, cop_eqp, cop_nep, Bool.and_true, Bool.true_and, big1, big2, cop_eqi0, cop_nei0, cop_eqp0, cop_nep0, bop_addps, bop_addis, bsem_maxl, bsem_minl, mtTy_index, msem_index, c_lpick2, c_lpick3, t_check_all, c_check_all, t_check_day, c_check_day, t_relative_of, c_relative_of, t_days_of, c_days_of, hg]
    simp only [hg, if_true] at hQ
    exact hQ
  · simp only [hg, if_false] at hQ
    have l0 : (0 : Int) < (gdays u bs l b).length := by have := List.length_pos_iff.mpr hg; omega
    obtain ⟨q0, q1⟩ := div_le h4 l0
    have m0 : 0 ≤ r % ((gdays u bs l b).length : Int) := Int.emod_nonneg _ (by omega)
    have m1 : r % ((gdays u bs l b).length : Int) < ((gdays u bs l b).length : Int) := Int.emod_lt_of_pos _ l0
    try simp (maxSteps := 2000000) (disch := first | assumption | omega) only [runs, start, wpSs, wpS, wpE, wpEs, wpB, wpO, wpC, wpI, getS, setS, blank, blank1, List.map_cons, List.map_nil, List.length_cons, List.length_nil, List.cons_append, List.nil_append, List.replicate, Nat.sub_self, asBool_b, asInt_i, asList_l, asTup_t, must_s, cop_lt, cop_le, cop_gt, cop_ge, bop_add, bop_sub, bop_mod, bop_fdiv, bop_mul, ixOp_t0, ixOp_t1, ixOp_l, bsem_lenl, bsem_lent, gcv_u, gcv_d, isiD_i, isiD_b, isTok_i, isTok_b, isTok_n, isTok_t, isTok_l, isTok_s, and_true, true_and, if_true, if_false, Bool.false_eq_true, Bool.true_eq_false, Bool.not_true, Bool.not_false, Bool.not_not, noList_i, noList_b, noList_n, noList_t, plain_n, plain_c, lenlim, bindT_1, bindT_2, Nat.reduceAdd, Nat.reduceSub, isNon_n, isNon_i, isNon_b, isNon_t, isNon_l, isNon_s, ite_self, not_true_eq_false, not_false_eq_true, implies_true, false_and, and_false, decide_true, decide_false, decide_not, ixOp_s0, ixOp_s1, ixOp_p, ixOp_p0, ixOp_p1, ixOp_i, bsem_lenp, bsem_leni, bindT_p, isTok_sky, isTok_ps, isTok_is, isTok_p, noList_p, asList_p, asList_il, cop_eqi, cop_nei, bsem_max2, bsem_min2, ge0, c_is_int_i, toNat_nat, rangeD_len, eq_self, cop_eqil, cop_neil, cop_eqps, cop_neps, cop_eqp, cop_nep, Bool.and_true, Bool.true_and, big1, big2, cop_eqi0, cop_nei0, cop_eqp0, cop_nep0, bop_addps, bop_addis, bsem_maxl, bsem_minl, mtTy_index, msem_index, c_lpick2, c_lpick3, t_check_all, c_check_all, t_check_day, c_check_day, t_relative_of, c_relative_of, t_days_of, c_days_of, hg, b_day_at_4]
    exact hQ
/-- the arcs of one relative period -/
def arcs (u : Int) (bs : List (Int × Int)) (l : List Int) : List Int := (rngl 0 (rel u bs l).toNat).map (arcAt u bs l)
theorem arcs_len {u : Int} {bs : List (Int × Int)} {l : List Int} : (arcs u bs l).length = (rel u bs l).toNat := by simp [arcs]
theorem lc_rgm {f : D → (Option D → Prop) → Prop} {g : Int → Int} {Q : List D → Prop} {lo : Int} {n : Nat} (h : ∀ i : Int, lo ≤ i → i < lo + n → ∀ k : Option D → Prop, k (some (.int (g i))) → f (.int i) k) (q : Q (((rngl lo n).map g).map .int)) : wpLc f (rangeD lo n) [] Q := by
  rw [rangeD_eq]
  refine lc_ints (fun x hx k hk => ?_) q
  exact h x (mem_rngl.mp hx).1 (mem_rngl.mp hx).2 k hk
def sp_least_bound : Spec := fun ds Q X => ∃ (u : Int) (bs : List (Int × Int)) (l : List Int), ds = [skyD u bs, intsD l] ∧ (Sky u bs) ∧ (Sel bs l) ∧ (Q (.int (lmin (arcs u bs l))))
theorem c_least_bound {u : Int} {bs : List (Int × Int)} {l : List Int} {Q : D → Prop} {X : Exn → Prop} (h0 : Sky u bs) (h1 : Sel bs l) : sp_least_bound [skyD u bs, intsD l] Q X = (Q (.int (lmin (arcs u bs l)))) := by
  simp only [eq_iff_iff]
  constructor
  · rintro ⟨u', bs', l', e, _, _, h⟩
    simp only [List.cons.injEq, PyData.int.injEq, PyData.bool.injEq, skyD_eq, intsD_eq, pairsD_eq, pairD_eq, and_true, true_and] at e
    obtain ⟨⟨rfl, rfl⟩, rfl⟩ := e
    exact h
  · exact fun h => ⟨u, bs, l, rfl, h0, h1, h⟩
theorem r_least_bound {T : Fn → Spec} (t_check_sky : T .check_sky = sp_check_sky) (t_check_some : T .check_some = sp_check_some) (t_relative_of : T .relative_of = sp_relative_of) (t_arc_of : T .arc_of = sp_arc_of) {ds : List D} {Q : D → Prop} {X : Exn → Prop} (h : sp_least_bound ds Q X) : ds.length = 2 ∧ runs T 3 b_least_bound ds Q X := by
  obtain ⟨u, bs, l, rfl, hs, h1, hQ⟩ := h
  refine ⟨rfl, ?_⟩
  have r0 := rel_pos (l := l) hs
  have r1 := rel_le (l := l) hs
  have hi := hs.hi
  try simp (maxSteps := 2000000) (disch := first | assumption | omega) only [runs, start, wpSs, wpS, wpE, wpEs, wpB, wpO, wpC, wpI, getS, setS, blank, blank1, List.map_cons, List.map_nil, List.length_cons, List.length_nil, List.cons_append, List.nil_append, List.replicate, Nat.sub_self, asBool_b, asInt_i, asList_l, asTup_t, must_s, cop_lt, cop_le, cop_gt, cop_ge, bop_add, bop_sub, bop_mod, bop_fdiv, bop_mul, ixOp_t0, ixOp_t1, ixOp_l, bsem_lenl, bsem_lent, gcv_u, gcv_d, isiD_i, isiD_b, isTok_i, isTok_b, isTok_n, isTok_t, isTok_l, isTok_s, and_true, true_and, if_true, if_false, Bool.false_eq_true, Bool.true_eq_false, Bool.not_true, Bool.not_false, Bool.not_not, noList_i, noList_b, noList_n, noList_t, plain_n, plain_c, lenlim, bindT_1, bindT_2, Nat.reduceAdd, Nat.reduceSub, isNon_n, isNon_i, isNon_b, isNon_t, isNon_l, isNon_s, ite_self, not_true_eq_false, not_false_eq_true, implies_true, false_and, and_false, decide_true, decide_false, decide_not, ixOp_s0, ixOp_s1, ixOp_p, ixOp_p0, ixOp_p1, ixOp_i, bsem_lenp, bsem_leni, bindT_p, isTok_sky, isTok_ps, isTok_is, isTok_p, noList_p, asList_p, asList_il, cop_eqi, cop_nei, bsem_max2, bsem_min2, ge0, c_is_int_i, toNat_nat, rangeD_len, eq_self, cop_eqil, cop_neil, cop_eqps, cop_neps, cop_eqp, cop_nep, Bool.and_true, Bool.true_and, big1, big2, cop_eqi0, cop_nei0, cop_eqp0, cop_nep0, bop_addps, bop_addis, bsem_maxl, bsem_minl, mtTy_index, msem_index, c_lpick2, c_lpick3, t_check_sky, c_check_sky, t_check_some, c_check_some, t_relative_of, c_relative_of, t_arc_of, c_arc_of, b_least_bound, b_least_bound_0, b_least_bound_1, b_least_bound_2]
  refine lc_rgm (g := arcAt u bs l) (fun i i0 i1 k hk => ?_) ?_
  · try simp (maxSteps := 2000000) (disch := first | assumption | omega) only [runs, start, wpSs, wpS, wpE, wpEs, wpB, wpO, wpC, wpI, getS, setS, blank, blank1, List.map_cons, List.map_nil, List.length_cons, List.length_nil, List.cons_append, List.nil_append, List.replicate, Nat.sub_self, asBool_b, asInt_i, asList_l, asTup_t, must_s, cop_lt, cop_le, cop_gt, cop_ge, bop_add, bop_sub, bop_mod, bop_fdiv, bop_mul, ixOp_t0, ixOp_t1, ixOp_l, bsem_lenl, bsem_lent, gcv_u, gcv_d, isiD_i, isiD_b, isTok_i, isTok_b, isTok_n, isTok_t, isTok_l, isTok_s, and_true, true_and, if_true, if_false, Bool.false_eq_true, Bool.true_eq_false, Bool.not_true, Bool.not_false, Bool.not_not, noList_i, noList_b, noList_n, noList_t, plain_n, plain_c, lenlim, bindT_1, bindT_2, Nat.reduceAdd, Nat.reduceSub, isNon_n, isNon_i, isNon_b, isNon_t, isNon_l, isNon_s, ite_self, not_true_eq_false, not_false_eq_true, implies_true, false_and, and_false, decide_true, decide_false, decide_not, ixOp_s0, ixOp_s1, ixOp_p, ixOp_p0, ixOp_p1, ixOp_i, bsem_lenp, bsem_leni, bindT_p, isTok_sky, isTok_ps, isTok_is, isTok_p, noList_p, asList_p, asList_il, cop_eqi, cop_nei, bsem_max2, bsem_min2, ge0, c_is_int_i, toNat_nat, rangeD_len, eq_self, cop_eqil, cop_neil, cop_eqps, cop_neps, cop_eqp, cop_nep, Bool.and_true, Bool.true_and, big1, big2, cop_eqi0, cop_nei0, cop_eqp0, cop_nep0, bop_addps, bop_addis, bsem_maxl, bsem_minl, mtTy_index, msem_index, c_lpick2, c_lpick3, t_check_sky, c_check_sky, t_check_some, c_check_some, t_relative_of, c_relative_of, t_arc_of, c_arc_of]
    exact hk
  · show must (bsem .min [intsD (arcs u bs l)]) _
    rw [bsem_minl (by rw [arcs_len]; omega)]
    exact hQ
def cnts (l : List Int) : List (Int × Int) := (fnd l).map fun x => (x, (l.count x : Int))
theorem map_cnts {l : List Int} : ((fnd l).map fun x => PyData.tuple [.int x, .int (l.count x : Nat)]) = (cnts l).map pairD := by
  unfold cnts
  rw [List.map_map]
  rfl
def sp_arc_counts : Spec := fun ds Q X => ∃ (u : Int) (bs : List (Int × Int)) (l : List Int), ds = [skyD u bs, intsD l] ∧ (Sky u bs) ∧ (Sel bs l) ∧ (Q (pairsD (cnts (arcs u bs l))))
theorem c_arc_counts {u : Int} {bs : List (Int × Int)} {l : List Int} {Q : D → Prop} {X : Exn → Prop} (h0 : Sky u bs) (h1 : Sel bs l) : sp_arc_counts [skyD u bs, intsD l] Q X = (Q (pairsD (cnts (arcs u bs l)))) := by
  simp only [eq_iff_iff]
  constructor
  · rintro ⟨u', bs', l', e, _, _, h⟩
    simp only [List.cons.injEq, PyData.int.injEq, PyData.bool.injEq, skyD_eq, intsD_eq, pairsD_eq, pairD_eq, and_true, true_and] at e
    obtain ⟨⟨rfl, rfl⟩, rfl⟩ := e
    exact h
  · exact fun h => ⟨u, bs, l, rfl, h0, h1, h⟩
theorem r_arc_counts {T : Fn → Spec} (t_check_sky : T .check_sky = sp_check_sky) (t_check_some : T .check_some = sp_check_some) (t_relative_of : T .relative_of = sp_relative_of) (t_arc_of : T .arc_of = sp_arc_of) {ds : List D} {Q : D → Prop} {X : Exn → Prop} (h : sp_arc_counts ds Q X) : ds.length = 2 ∧ runs T 5 b_arc_counts ds Q X := by
  obtain ⟨u, bs, l, rfl, hs, h1, hQ⟩ := h
  refine ⟨rfl, ?_⟩
  have r0 := rel_pos (l := l) hs
  have r1 := rel_le (l := l) hs
  have hi := hs.hi
  have hl : (arcs u bs l).length ≤ 120 := by rw [arcs_len]; omega
  have hl2 := slen (l := arcs u bs l)
  try simp (maxSteps := 2000000) (disch := first | assumption | omega) only [runs, start, wpSs, wpS, wpE, wpEs, wpB, wpO, wpC, wpI, getS, setS, blank, blank1, List.map_cons, List.map_nil, List.length_cons, List.length_nil, List.cons_append, List.nil_append, List.replicate, Nat.sub_self, asBool_b, asInt_i, asList_l, asTup_t, must_s, cop_lt, cop_le, cop_gt, cop_ge, bop_add, bop_sub, bop_mod, bop_fdiv, bop_mul, ixOp_t0, ixOp_t1, ixOp_l, bsem_lenl, bsem_lent, gcv_u, gcv_d, isiD_i, isiD_b, isTok_i, isTok_b, isTok_n, isTok_t, isTok_l, isTok_s, and_true, true_and, if_true, if_false, Bool.false_eq_true, Bool.true_eq_false, Bool.not_true, Bool.not_false, Bool.not_not, noList_i, noList_b, noList_n, noList_t, plain_n, plain_c, lenlim, bindT_1, bindT_2, Nat.reduceAdd, Nat.reduceSub, isNon_n, isNon_i, isNon_b, isNon_t, isNon_l, isNon_s, ite_self, not_true_eq_false, not_false_eq_true, implies_true, false_and, and_false, decide_true, decide_false, decide_not, ixOp_s0, ixOp_s1, ixOp_p, ixOp_p0, ixOp_p1, ixOp_i, bsem_lenp, bsem_leni, bindT_p, isTok_sky, isTok_ps, isTok_is, isTok_p, noList_p, asList_p, asList_il, cop_eqi, cop_nei, bsem_max2, bsem_min2, ge0, c_is_int_i, toNat_nat, rangeD_len, eq_self, cop_eqil, cop_neil, cop_eqps, cop_neps, cop_eqp, cop_nep, Bool.and_true, Bool.true_and, big1, big2, cop_eqi0, cop_nei0, cop_eqp0, cop_nep0, bop_addps, bop_addis, bsem_maxl, bsem_minl, mtTy_index, msem_index, c_lpick2, c_lpick3, t_check_sky, c_check_sky, t_check_some, c_check_some, t_relative_of, c_relative_of, t_arc_of, c_arc_of, b_arc_counts, b_arc_counts_0, b_arc_counts_1, b_arc_counts_2]
  refine lc_rgm (g := arcAt u bs l) (fun i i0 i1 k hk => ?_) ?_
  · try simp (maxSteps := 2000000) (disch := first | assumption | omega) only [runs, start, wpSs, wpS, wpE, wpEs, wpB, wpO, wpC, wpI, getS, setS, blank, blank1, List.map_cons, List.map_nil, List.length_cons, List.length_nil, List.cons_append, List.nil_append, List.replicate, Nat.sub_self, asBool_b, asInt_i, asList_l, asTup_t, must_s, cop_lt, cop_le, cop_gt, cop_ge, bop_add, bop_sub, bop_mod, bop_fdiv, bop_mul, ixOp_t0, ixOp_t1, ixOp_l, bsem_lenl, bsem_lent, gcv_u, gcv_d, isiD_i, isiD_b, isTok_i, isTok_b, isTok_n, isTok_t, isTok_l, isTok_s, and_true, true_and, if_true, if_false, Bool.false_eq_true, Bool.true_eq_false, Bool.not_true, Bool.not_false, Bool.not_not, noList_i, noList_b, noList_n, noList_t, plain_n, plain_c, lenlim, bindT_1, bindT_2, Nat.reduceAdd, Nat.reduceSub, isNon_n, isNon_i, isNon_b, isNon_t, isNon_l, isNon_s, ite_self, not_true_eq_false, not_false_eq_true, implies_true, false_and, and_false, decide_true, decide_false, decide_not, ixOp_s0, ixOp_s1, ixOp_p, ixOp_p0, ixOp_p1, ixOp_i, bsem_lenp, bsem_leni, bindT_p, isTok_sky, isTok_ps, isTok_is, isTok_p, noList_p, asList_p, asList_il, cop_eqi, cop_nei, bsem_max2, bsem_min2, ge0, c_is_int_i, toNat_nat, rangeD_len, eq_self, cop_eqil, cop_neil, cop_eqps, cop_neps, cop_eqp, cop_nep, Bool.and_true, Bool.true_and, big1, big2, cop_eqi0, cop_nei0, cop_eqp0, cop_nep0, bop_addps, bop_addis, bsem_maxl, bsem_minl, mtTy_index, msem_index, c_lpick2, c_lpick3, t_check_sky, c_check_sky, t_check_some, c_check_some, t_relative_of, c_relative_of, t_arc_of, c_arc_of]
    exact hk
  · show wpSs T b_arc_counts_3 [.d (skyD u bs), .d (intsD l), .d (intsD (arcs u bs l)), .no, .no] _
    try simp (maxSteps := 2000000) (disch := first | assumption | omega) only [runs, start, wpSs, wpS, wpE, wpEs, wpB, wpO, wpC, wpI, getS, setS, blank, blank1, List.map_cons, List.map_nil, List.length_cons, List.length_nil, List.cons_append, List.nil_append, List.replicate, Nat.sub_self, asBool_b, asInt_i, asList_l, asTup_t, must_s, cop_lt, cop_le, cop_gt, cop_ge, bop_add, bop_sub, bop_mod, bop_fdiv, bop_mul, ixOp_t0, ixOp_t1, ixOp_l, bsem_lenl, bsem_lent, gcv_u, gcv_d, isiD_i, isiD_b, isTok_i, isTok_b, isTok_n, isTok_t, isTok_l, isTok_s, and_true, true_and, if_true, if_false, Bool.false_eq_true, Bool.true_eq_false, Bool.not_true, Bool.not_false, Bool.not_not, noList_i, noList_b, noList_n, noList_t, plain_n, plain_c, lenlim, bindT_1, bindT_2, Nat.reduceAdd, Nat.reduceSub, isNon_n, isNon_i, isNon_b, isNon_t, isNon_l, isNon_s, ite_self, not_true_eq_false, not_false_eq_true, implies_true, false_and, and_false, decide_true, decide_false, decide_not, ixOp_s0, ixOp_s1, ixOp_p, ixOp_p0, ixOp_p1, ixOp_i, bsem_lenp, bsem_leni, bindT_p, isTok_sky, isTok_ps, isTok_is, isTok_p, noList_p, asList_p, asList_il, cop_eqi, cop_nei, bsem_max2, bsem_min2, ge0, c_is_int_i, toNat_nat, rangeD_len, eq_self, cop_eqil, cop_neil, cop_eqps, cop_neps, cop_eqp, cop_nep, Bool.and_true, Bool.true_and, big1, big2, cop_eqi0, cop_nei0, cop_eqp0, cop_nep0, bop_addps, bop_addis, bsem_maxl, bsem_minl, mtTy_index, msem_index, c_lpick2, c_lpick3, t_check_sky, c_check_sky, t_check_some, c_check_some, t_relative_of, c_relative_of, t_arc_of, c_arc_of, b_arc_counts_3]
    refine ⟨by rw [List.length_map]; omega, ?_⟩
    rw [ints?_map]
    show must (some (intsD (fnd (arcs u bs l)))) _
    try simp (maxSteps := 2000000) (disch := first | assumption | omega) only [runs, start, wpSs, wpS, wpE, wpEs, wpB, wpO, wpC, wpI, getS, setS, blank, blank1, List.map_cons, List.map_nil, List.length_cons, List.length_nil, List.cons_append, List.nil_append, List.replicate, Nat.sub_self, asBool_b, asInt_i, asList_l, asTup_t, must_s, cop_lt, cop_le, cop_gt, cop_ge, bop_add, bop_sub, bop_mod, bop_fdiv, bop_mul, ixOp_t0, ixOp_t1, ixOp_l, bsem_lenl, bsem_lent, gcv_u, gcv_d, isiD_i, isiD_b, isTok_i, isTok_b, isTok_n, isTok_t, isTok_l, isTok_s, and_true, true_and, if_true, if_false, Bool.false_eq_true, Bool.true_eq_false, Bool.not_true, Bool.not_false, Bool.not_not, noList_i, noList_b, noList_n, noList_t, plain_n, plain_c, lenlim, bindT_1, bindT_2, Nat.reduceAdd, Nat.reduceSub, isNon_n, isNon_i, isNon_b, isNon_t, isNon_l, isNon_s, ite_self, not_true_eq_false, not_false_eq_true, implies_true, false_and, and_false, decide_true, decide_false, decide_not, ixOp_s0, ixOp_s1, ixOp_p, ixOp_p0, ixOp_p1, ixOp_i, bsem_lenp, bsem_leni, bindT_p, isTok_sky, isTok_ps, isTok_is, isTok_p, noList_p, asList_p, asList_il, cop_eqi, cop_nei, bsem_max2, bsem_min2, ge0, c_is_int_i, toNat_nat, rangeD_len, eq_self, cop_eqil, cop_neil, cop_eqps, cop_neps, cop_eqp, cop_nep, Bool.and_true, Bool.true_and, big1, big2, cop_eqi0, cop_nei0, cop_eqp0, cop_nep0, bop_addps, bop_addis, bsem_maxl, bsem_minl, mtTy_index, msem_index, c_lpick2, c_lpick3, t_check_sky, c_check_sky, t_check_some, c_check_some, t_relative_of, c_relative_of, t_arc_of, c_arc_of]
    refine ⟨by rw [List.length_map]; unfold lim; omega, ?_⟩
    refine wpLc_mapM (i := PyData.int) (g := fun x => .tuple [.int x, .int ((arcs u bs l).count x : Nat)]) (fun x hx k hk => ?_) ?_
    · try simp (maxSteps := 2000000) (disch := first | assumption | omega) only [runs, start, wpSs, wpS, wpE, wpEs, wpB, wpO, wpC, wpI, getS, setS, blank, blank1, List.map_cons, List.map_nil, List.length_cons, List.length_nil, List.cons_append, List.nil_append, List.replicate, Nat.sub_self, asBool_b, asInt_i, asList_l, asTup_t, must_s, cop_lt, cop_le, cop_gt, cop_ge, bop_add, bop_sub, bop_mod, bop_fdiv, bop_mul, ixOp_t0, ixOp_t1, ixOp_l, bsem_lenl, bsem_lent, gcv_u, gcv_d, isiD_i, isiD_b, isTok_i, isTok_b, isTok_n, isTok_t, isTok_l, isTok_s, and_true, true_and, if_true, if_false, Bool.false_eq_true, Bool.true_eq_false, Bool.not_true, Bool.not_false, Bool.not_not, noList_i, noList_b, noList_n, noList_t, plain_n, plain_c, lenlim, bindT_1, bindT_2, Nat.reduceAdd, Nat.reduceSub, isNon_n, isNon_i, isNon_b, isNon_t, isNon_l, isNon_s, ite_self, not_true_eq_false, not_false_eq_true, implies_true, false_and, and_false, decide_true, decide_false, decide_not, ixOp_s0, ixOp_s1, ixOp_p, ixOp_p0, ixOp_p1, ixOp_i, bsem_lenp, bsem_leni, bindT_p, isTok_sky, isTok_ps, isTok_is, isTok_p, noList_p, asList_p, asList_il, cop_eqi, cop_nei, bsem_max2, bsem_min2, ge0, c_is_int_i, toNat_nat, rangeD_len, eq_self, cop_eqil, cop_neil, cop_eqps, cop_neps, cop_eqp, cop_nep, Bool.and_true, Bool.true_and, big1, big2, cop_eqi0, cop_nei0, cop_eqp0, cop_nep0, bop_addps, bop_addis, bsem_maxl, bsem_minl, mtTy_index, msem_index, c_lpick2, c_lpick3, t_check_sky, c_check_sky, t_check_some, c_check_some, t_relative_of, c_relative_of, t_arc_of, c_arc_of, mtTy_count, msem_count]
      exact hk
    · rw [map_cnts]
      exact hQ
def sp_lrelative : Spec := fun ds Q X => ∃ (u : Int) (bs : List (Int × Int)) (l : List Int), ds = [skyD u bs, intsD l] ∧ (Sky u bs) ∧ (Sel bs l) ∧ (Q (.int (rel u bs l)))
theorem c_lrelative {u : Int} {bs : List (Int × Int)} {l : List Int} {Q : D → Prop} {X : Exn → Prop} (h0 : Sky u bs) (h1 : Sel bs l) : sp_lrelative [skyD u bs, intsD l] Q X = (Q (.int (rel u bs l))) := by
  simp only [eq_iff_iff]
  constructor
  · rintro ⟨u', bs', l', e, _, _, h⟩
    simp only [List.cons.injEq, PyData.int.injEq, PyData.bool.injEq, skyD_eq, intsD_eq, pairsD_eq, pairD_eq, and_true, true_and] at e
    obtain ⟨⟨rfl, rfl⟩, rfl⟩ := e
    exact h
  · exact fun h => ⟨u, bs, l, rfl, h0, h1, h⟩
theorem r_lrelative {T : Fn → Spec}  {ds : List D} {Q : D → Prop} {X : Exn → Prop} (h : sp_lrelative ds Q X) : ds.length = 2 ∧ runs T 6 b_law_relative ds Q X := by
  obtain ⟨u, bs, l, rfl, hs, h1, hQ⟩ := h
  refine ⟨rfl, ?_⟩
  have hn := h1.le
  have h4 := hs.l4
  have hu := hs.pos
  have hi := hs.hi
  have l0 : (0 : Int) < l.length := by have := h1.ps; omega
  obtain ⟨f0, f1⟩ := h1.first
  have r0 := rel_pos (l := l) hs
  have r1 := rel_le (l := l) hs
  try simp (maxSteps := 2000000) (disch := first | assumption | omega) only [runs, start, wpSs, wpS, wpE, wpEs, wpB, wpO, wpC, wpI, getS, setS, blank, blank1, List.map_cons, List.map_nil, List.length_cons, List.length_nil, List.cons_append, List.nil_append, List.replicate, Nat.sub_self, asBool_b, asInt_i, asList_l, asTup_t, must_s, cop_lt, cop_le, cop_gt, cop_ge, bop_add, bop_sub, bop_mod, bop_fdiv, bop_mul, ixOp_t0, ixOp_t1, ixOp_l, bsem_lenl, bsem_lent, gcv_u, gcv_d, isiD_i, isiD_b, isTok_i, isTok_b, isTok_n, isTok_t, isTok_l, isTok_s, and_true, true_and, if_true, if_false, Bool.false_eq_true, Bool.true_eq_false, Bool.not_true, Bool.not_false, Bool.not_not, noList_i, noList_b, noList_n, noList_t, plain_n, plain_c, lenlim, bindT_1, bindT_2, Nat.reduceAdd, Nat.reduceSub, isNon_n, isNon_i, isNon_b, isNon_t, isNon_l, isNon_s, ite_self, not_true_eq_false, not_false_eq_true, implies_true, false_and, and_false, decide_true, decide_false, decide_not, ixOp_s0, ixOp_s1, ixOp_p, ixOp_p0, ixOp_p1, ixOp_i, bsem_lenp, bsem_leni, bindT_p, isTok_sky, isTok_ps, isTok_is, isTok_p, noList_p, asList_p, asList_il, cop_eqi, cop_nei, bsem_max2, bsem_min2, ge0, c_is_int_i, toNat_nat, rangeD_len, eq_self, cop_eqil, cop_neil, cop_eqps, cop_neps, cop_eqp, cop_nep, Bool.and_true, Bool.true_and, big1, big2, cop_eqi0, cop_nei0, cop_eqp0, cop_nep0, bop_addps, bop_addis, bsem_maxl, bsem_minl, mtTy_index, msem_index, c_lpick2, c_lpick3, b_law_relative, b_law_relative_0]
  refine ⟨by rw [List.length_map]; unfold lim; omega, ?_⟩
  refine lc_ints (g := fun b => (bd bs b).2 - (bd bs (nth l 0)).2) (fun b hb k hk => ?_) ?_
  · obtain ⟨b0, b1⟩ := h1.ok b hb
    try simp (maxSteps := 2000000) (disch := first | assumption | omega) only [runs, start, wpSs, wpS, wpE, wpEs, wpB, wpO, wpC, wpI, getS, setS, blank, blank1, List.map_cons, List.map_nil, List.length_cons, List.length_nil, List.cons_append, List.nil_append, List.replicate, Nat.sub_self, asBool_b, asInt_i, asList_l, asTup_t, must_s, cop_lt, cop_le, cop_gt, cop_ge, bop_add, bop_sub, bop_mod, bop_fdiv, bop_mul, ixOp_t0, ixOp_t1, ixOp_l, bsem_lenl, bsem_lent, gcv_u, gcv_d, isiD_i, isiD_b, isTok_i, isTok_b, isTok_n, isTok_t, isTok_l, isTok_s, and_true, true_and, if_true, if_false, Bool.false_eq_true, Bool.true_eq_false, Bool.not_true, Bool.not_false, Bool.not_not, noList_i, noList_b, noList_n, noList_t, plain_n, plain_c, lenlim, bindT_1, bindT_2, Nat.reduceAdd, Nat.reduceSub, isNon_n, isNon_i, isNon_b, isNon_t, isNon_l, isNon_s, ite_self, not_true_eq_false, not_false_eq_true, implies_true, false_and, and_false, decide_true, decide_false, decide_not, ixOp_s0, ixOp_s1, ixOp_p, ixOp_p0, ixOp_p1, ixOp_i, bsem_lenp, bsem_leni, bindT_p, isTok_sky, isTok_ps, isTok_is, isTok_p, noList_p, asList_p, asList_il, cop_eqi, cop_nei, bsem_max2, bsem_min2, ge0, c_is_int_i, toNat_nat, rangeD_len, eq_self, cop_eqil, cop_neil, cop_eqps, cop_neps, cop_eqp, cop_nep, Bool.and_true, Bool.true_and, big1, big2, cop_eqi0, cop_nei0, cop_eqp0, cop_nep0, bop_addps, bop_addis, bsem_maxl, bsem_minl, mtTy_index, msem_index, c_lpick2, c_lpick3]
    exact hk
  generalize hg : l.map (fun b => (bd bs b).2 - (bd bs (nth l 0)).2) = gs
  show wpSs T b_law_relative_1 [.d (skyD u bs), .d (intsD l), .d (intsD gs), .no, .no, .no] _
  have lg : gs.length = l.length := by rw [← hg]; simp
  have gb : ∀ g ∈ gs, -1000 ≤ g ∧ g ≤ 1000 := by
    rw [← hg]
    intro g hgm
    obtain ⟨b, hb, rfl⟩ := List.mem_map.mp hgm
    obtain ⟨b0, b1⟩ := h1.ok b hb
    have q1 := hs.at b0 b1
    have q2 := hs.at f0 f1
    show -1000 ≤ (bd bs b).2 - _ ∧ (bd bs b).2 - _ ≤ 1000
    omega
  have key : ∀ d : Int, (gs.filter (fun g => !decide (g * d % u = 0)) = []) ↔ rel u bs l ∣ d := by
    intro d
    unfold rel
    rw [per_dvd hu, List.filter_eq_nil_iff, ← hg]
    unfold rts
    simp only [List.forall_mem_map]
    refine forall_congr' fun b => forall_congr' fun _ => ?_
    rw [dvd_mod, Int.dvd_iff_emod_eq_zero, Int.mul_comm d]
    simp
  try simp (maxSteps := 2000000) (disch := first | assumption | omega) only [runs, start, wpSs, wpS, wpE, wpEs, wpB, wpO, wpC, wpI, getS, setS, blank, blank1, List.map_cons, List.map_nil, List.length_cons, List.length_nil, List.cons_append, List.nil_append, List.replicate, Nat.sub_self, asBool_b, asInt_i, asList_l, asTup_t, must_s, cop_lt, cop_le, cop_gt, cop_ge, bop_add, bop_sub, bop_mod, bop_fdiv, bop_mul, ixOp_t0, ixOp_t1, ixOp_l, bsem_lenl, bsem_lent, gcv_u, gcv_d, isiD_i, isiD_b, isTok_i, isTok_b, isTok_n, isTok_t, isTok_l, isTok_s, and_true, true_and, if_true, if_false, Bool.false_eq_true, Bool.true_eq_false, Bool.not_true, Bool.not_false, Bool.not_not, noList_i, noList_b, noList_n, noList_t, plain_n, plain_c, lenlim, bindT_1, bindT_2, Nat.reduceAdd, Nat.reduceSub, isNon_n, isNon_i, isNon_b, isNon_t, isNon_l, isNon_s, ite_self, not_true_eq_false, not_false_eq_true, implies_true, false_and, and_false, decide_true, decide_false, decide_not, ixOp_s0, ixOp_s1, ixOp_p, ixOp_p0, ixOp_p1, ixOp_i, bsem_lenp, bsem_leni, bindT_p, isTok_sky, isTok_ps, isTok_is, isTok_p, noList_p, asList_p, asList_il, cop_eqi, cop_nei, bsem_max2, bsem_min2, ge0, c_is_int_i, toNat_nat, rangeD_len, eq_self, cop_eqil, cop_neil, cop_eqps, cop_neps, cop_eqp, cop_nep, Bool.and_true, Bool.true_and, big1, big2, cop_eqi0, cop_nei0, cop_eqp0, cop_nep0, bop_addps, bop_addis, bsem_maxl, bsem_minl, mtTy_index, msem_index, c_lpick2, c_lpick3, b_law_relative_1, b_law_relative_2]
  refine ⟨fun m G => ∃ (d : Int) (s : Sl), G = [.d (skyD u bs), .d (intsD l), .d (intsD gs), .no, .d (.int d), s] ∧ 0 < d ∧ d ≤ rel u bs l ∧ (rel u bs l - d).toNat = m, ⟨_, 1, _, rfl, by omega, by omega, rfl⟩, fun m G hG => ?_⟩
  obtain ⟨d, s, rfl, d0, d1, hm⟩ := hG
  try simp (maxSteps := 2000000) (disch := first | assumption | omega) only [runs, start, wpSs, wpS, wpE, wpEs, wpB, wpO, wpC, wpI, getS, setS, blank, blank1, List.map_cons, List.map_nil, List.length_cons, List.length_nil, List.cons_append, List.nil_append, List.replicate, Nat.sub_self, asBool_b, asInt_i, asList_l, asTup_t, must_s, cop_lt, cop_le, cop_gt, cop_ge, bop_add, bop_sub, bop_mod, bop_fdiv, bop_mul, ixOp_t0, ixOp_t1, ixOp_l, bsem_lenl, bsem_lent, gcv_u, gcv_d, isiD_i, isiD_b, isTok_i, isTok_b, isTok_n, isTok_t, isTok_l, isTok_s, and_true, true_and, if_true, if_false, Bool.false_eq_true, Bool.true_eq_false, Bool.not_true, Bool.not_false, Bool.not_not, noList_i, noList_b, noList_n, noList_t, plain_n, plain_c, lenlim, bindT_1, bindT_2, Nat.reduceAdd, Nat.reduceSub, isNon_n, isNon_i, isNon_b, isNon_t, isNon_l, isNon_s, ite_self, not_true_eq_false, not_false_eq_true, implies_true, false_and, and_false, decide_true, decide_false, decide_not, ixOp_s0, ixOp_s1, ixOp_p, ixOp_p0, ixOp_p1, ixOp_i, bsem_lenp, bsem_leni, bindT_p, isTok_sky, isTok_ps, isTok_is, isTok_p, noList_p, asList_p, asList_il, cop_eqi, cop_nei, bsem_max2, bsem_min2, ge0, c_is_int_i, toNat_nat, rangeD_len, eq_self, cop_eqil, cop_neil, cop_eqps, cop_neps, cop_eqp, cop_nep, Bool.and_true, Bool.true_and, big1, big2, cop_eqi0, cop_nei0, cop_eqp0, cop_nep0, bop_addps, bop_addis, bsem_maxl, bsem_minl, mtTy_index, msem_index, c_lpick2, c_lpick3]
  refine ⟨by rw [List.length_map]; unfold lim; omega, ?_⟩
  refine wpLc_filM (i := PyData.int) (p := fun g => !decide (g * d % u = 0)) (g := PyData.int) (fun x hx k hk => ?_) ?_
  · obtain ⟨x0, x1⟩ := gb x hx
    try simp (maxSteps := 2000000) (disch := first | assumption | omega) only [runs, start, wpSs, wpS, wpE, wpEs, wpB, wpO, wpC, wpI, getS, setS, blank, blank1, List.map_cons, List.map_nil, List.length_cons, List.length_nil, List.cons_append, List.nil_append, List.replicate, Nat.sub_self, asBool_b, asInt_i, asList_l, asTup_t, must_s, cop_lt, cop_le, cop_gt, cop_ge, bop_add, bop_sub, bop_mod, bop_fdiv, bop_mul, ixOp_t0, ixOp_t1, ixOp_l, bsem_lenl, bsem_lent, gcv_u, gcv_d, isiD_i, isiD_b, isTok_i, isTok_b, isTok_n, isTok_t, isTok_l, isTok_s, and_true, true_and, if_true, if_false, Bool.false_eq_true, Bool.true_eq_false, Bool.not_true, Bool.not_false, Bool.not_not, noList_i, noList_b, noList_n, noList_t, plain_n, plain_c, lenlim, bindT_1, bindT_2, Nat.reduceAdd, Nat.reduceSub, isNon_n, isNon_i, isNon_b, isNon_t, isNon_l, isNon_s, ite_self, not_true_eq_false, not_false_eq_true, implies_true, false_and, and_false, decide_true, decide_false, decide_not, ixOp_s0, ixOp_s1, ixOp_p, ixOp_p0, ixOp_p1, ixOp_i, bsem_lenp, bsem_leni, bindT_p, isTok_sky, isTok_ps, isTok_is, isTok_p, noList_p, asList_p, asList_il, cop_eqi, cop_nei, bsem_max2, bsem_min2, ge0, c_is_int_i, toNat_nat, rangeD_len, eq_self, cop_eqil, cop_neil, cop_eqps, cop_neps, cop_eqp, cop_nep, Bool.and_true, Bool.true_and, big1, big2, cop_eqi0, cop_nei0, cop_eqp0, cop_nep0, bop_addps, bop_addis, bsem_maxl, bsem_minl, mtTy_index, msem_index, c_lpick2, c_lpick3]
    exact ite_k hk
  show must (cop .ne (intsD _) (.list [])) _
  rw [cop_nei0]
  have kd := key d
  by_cases hd : gs.filter (fun g => !decide (g * d % u = 0)) = []
  · have e : d = rel u bs l := by
      have := Int.le_of_dvd d0 (kd.mp hd)
      omega
    try simp (maxSteps := 2000000) (disch := first | assumption | omega) only [runs, start, wpSs, wpS, wpE, wpEs, wpB, wpO, wpC, wpI, getS, setS, blank, blank1, List.map_cons, List.map_nil, List.length_cons, List.length_nil, List.cons_append, List.nil_append, List.replicate, Nat.sub_self, asBool_b, asInt_i, asList_l, asTup_t, must_s, cop_lt, cop_le, cop_gt, cop_ge, bop_add, bop_sub, bop_mod, bop_fdiv, bop_mul, ixOp_t0, ixOp_t1, ixOp_l, bsem_lenl, bsem_lent, gcv_u, gcv_d, isiD_i, isiD_b, isTok_i, isTok_b, isTok_n, isTok_t, isTok_l, isTok_s, and_true, true_and, if_true, if_false, Bool.false_eq_true, Bool.true_eq_false, Bool.not_true, Bool.not_false, Bool.not_not, noList_i, noList_b, noList_n, noList_t, plain_n, plain_c, lenlim, bindT_1, bindT_2, Nat.reduceAdd, Nat.reduceSub, isNon_n, isNon_i, isNon_b, isNon_t, isNon_l, isNon_s, ite_self, not_true_eq_false, not_false_eq_true, implies_true, false_and, and_false, decide_true, decide_false, decide_not, ixOp_s0, ixOp_s1, ixOp_p, ixOp_p0, ixOp_p1, ixOp_i, bsem_lenp, bsem_leni, bindT_p, isTok_sky, isTok_ps, isTok_is, isTok_p, noList_p, asList_p, asList_il, cop_eqi, cop_nei, bsem_max2, bsem_min2, ge0, c_is_int_i, toNat_nat, rangeD_len, eq_self, cop_eqil, cop_neil, cop_eqps, cop_neps, cop_eqp, cop_nep, Bool.and_true, Bool.true_and, big1, big2, cop_eqi0, cop_nei0, cop_eqp0, cop_nep0, bop_addps, bop_addis, bsem_maxl, bsem_minl, mtTy_index, msem_index, c_lpick2, c_lpick3, hd, b_law_relative_3]
    rw [e]
    exact hQ
  · have e : d ≠ rel u bs l := fun z => hd (kd.mpr (by rw [z]; exact Int.dvd_refl _))
    try simp (maxSteps := 2000000) (disch := first | assumption | omega) only [runs, start, wpSs, wpS, wpE, wpEs, wpB, wpO, wpC, wpI, getS, setS, blank, blank1, List.map_cons, List.map_nil, List.length_cons, List.length_nil, List.cons_append, List.nil_append, List.replicate, Nat.sub_self, asBool_b, asInt_i, asList_l, asTup_t, must_s, cop_lt, cop_le, cop_gt, cop_ge, bop_add, bop_sub, bop_mod, bop_fdiv, bop_mul, ixOp_t0, ixOp_t1, ixOp_l, bsem_lenl, bsem_lent, gcv_u, gcv_d, isiD_i, isiD_b, isTok_i, isTok_b, isTok_n, isTok_t, isTok_l, isTok_s, and_true, true_and, if_true, if_false, Bool.false_eq_true, Bool.true_eq_false, Bool.not_true, Bool.not_false, Bool.not_not, noList_i, noList_b, noList_n, noList_t, plain_n, plain_c, lenlim, bindT_1, bindT_2, Nat.reduceAdd, Nat.reduceSub, isNon_n, isNon_i, isNon_b, isNon_t, isNon_l, isNon_s, ite_self, not_true_eq_false, not_false_eq_true, implies_true, false_and, and_false, decide_true, decide_false, decide_not, ixOp_s0, ixOp_s1, ixOp_p, ixOp_p0, ixOp_p1, ixOp_i, bsem_lenp, bsem_leni, bindT_p, isTok_sky, isTok_ps, isTok_is, isTok_p, noList_p, asList_p, asList_il, cop_eqi, cop_nei, bsem_max2, bsem_min2, ge0, c_is_int_i, toNat_nat, rangeD_len, eq_self, cop_eqil, cop_neil, cop_eqps, cop_neps, cop_eqp, cop_nep, Bool.and_true, Bool.true_and, big1, big2, cop_eqi0, cop_nei0, cop_eqp0, cop_nep0, bop_addps, bop_addis, bsem_maxl, bsem_minl, mtTy_index, msem_index, c_lpick2, c_lpick3, hd, b_law_relative_2l_0]
    exact ⟨_, by omega, d + 1, _, rfl, by omega, by omega, rfl⟩
def sp_ltrue : Spec := fun ds Q X => ∃ (a : Bool) (b : Bool), ds = [.bool a, .bool b] ∧ (Q (.bool (decide (a = b))))
theorem c_ltrue {a : Bool} {b : Bool} {Q : D → Prop} {X : Exn → Prop}  : sp_ltrue [.bool a, .bool b] Q X = (Q (.bool (decide (a = b)))) := by
  simp only [eq_iff_iff]
  constructor
  · rintro ⟨a', b', e, h⟩
    simp only [List.cons.injEq, PyData.int.injEq, PyData.bool.injEq, skyD_eq, intsD_eq, pairsD_eq, pairD_eq, and_true, true_and] at e
    obtain ⟨rfl, rfl⟩ := e
    exact h
  · exact fun h => ⟨a, b, rfl, h⟩
theorem r_ltrue {T : Fn → Spec}  {ds : List D} {Q : D → Prop} {X : Exn → Prop} (h : sp_ltrue ds Q X) : ds.length = 2 ∧ runs T 2 b_law_true ds Q X := by
  obtain ⟨a, b, rfl, hQ⟩ := h
  refine ⟨rfl, ?_⟩
  try simp (maxSteps := 2000000) (disch := first | assumption | omega) only [runs, start, wpSs, wpS, wpE, wpEs, wpB, wpO, wpC, wpI, getS, setS, blank, blank1, List.map_cons, List.map_nil, List.length_cons, List.length_nil, List.cons_append, List.nil_append, List.replicate, Nat.sub_self, asBool_b, asInt_i, asList_l, asTup_t, must_s, cop_lt, cop_le, cop_gt, cop_ge, bop_add, bop_sub, bop_mod, bop_fdiv, bop_mul, ixOp_t0, ixOp_t1, ixOp_l, bsem_lenl, bsem_lent, gcv_u, gcv_d, isiD_i, isiD_b, isTok_i, isTok_b, isTok_n, isTok_t, isTok_l, isTok_s, and_true, true_and, if_true, if_false, Bool.false_eq_true, Bool.true_eq_false, Bool.not_true, Bool.not_false, Bool.not_not, noList_i, noList_b, noList_n, noList_t, plain_n, plain_c, lenlim, bindT_1, bindT_2, Nat.reduceAdd, Nat.reduceSub, isNon_n, isNon_i, isNon_b, isNon_t, isNon_l, isNon_s, ite_self, not_true_eq_false, not_false_eq_true, implies_true, false_and, and_false, decide_true, decide_false, decide_not, ixOp_s0, ixOp_s1, ixOp_p, ixOp_p0, ixOp_p1, ixOp_i, bsem_lenp, bsem_leni, bindT_p, isTok_sky, isTok_ps, isTok_is, isTok_p, noList_p, asList_p, asList_il, cop_eqi, cop_nei, bsem_max2, bsem_min2, ge0, c_is_int_i, toNat_nat, rangeD_len, eq_self, cop_eqil, cop_neil, cop_eqps, cop_neps, cop_eqp, cop_nep, Bool.and_true, Bool.true_and, big1, big2, cop_eqi0, cop_nei0, cop_eqp0, cop_nep0, bop_addps, bop_addis, bsem_maxl, bsem_minl, mtTy_index, msem_index, c_lpick2, c_lpick3, b_law_true, b_law_true_0]
  have e1 : isiD (.bool a) .bool = true := rfl
  have e2 : cop .eq (.bool a) (.bool b) = some (.bool (decide (a = b))) := by cases a <;> cases b <;> rfl
  try simp (maxSteps := 2000000) (disch := first | assumption | omega) only [runs, start, wpSs, wpS, wpE, wpEs, wpB, wpO, wpC, wpI, getS, setS, blank, blank1, List.map_cons, List.map_nil, List.length_cons, List.length_nil, List.cons_append, List.nil_append, List.replicate, Nat.sub_self, asBool_b, asInt_i, asList_l, asTup_t, must_s, cop_lt, cop_le, cop_gt, cop_ge, bop_add, bop_sub, bop_mod, bop_fdiv, bop_mul, ixOp_t0, ixOp_t1, ixOp_l, bsem_lenl, bsem_lent, gcv_u, gcv_d, isiD_i, isiD_b, isTok_i, isTok_b, isTok_n, isTok_t, isTok_l, isTok_s, and_true, true_and, if_true, if_false, Bool.false_eq_true, Bool.true_eq_false, Bool.not_true, Bool.not_false, Bool.not_not, noList_i, noList_b, noList_n, noList_t, plain_n, plain_c, lenlim, bindT_1, bindT_2, Nat.reduceAdd, Nat.reduceSub, isNon_n, isNon_i, isNon_b, isNon_t, isNon_l, isNon_s, ite_self, not_true_eq_false, not_false_eq_true, implies_true, false_and, and_false, decide_true, decide_false, decide_not, ixOp_s0, ixOp_s1, ixOp_p, ixOp_p0, ixOp_p1, ixOp_i, bsem_lenp, bsem_leni, bindT_p, isTok_sky, isTok_ps, isTok_is, isTok_p, noList_p, asList_p, asList_il, cop_eqi, cop_nei, bsem_max2, bsem_min2, ge0, c_is_int_i, toNat_nat, rangeD_len, eq_self, cop_eqil, cop_neil, cop_eqps, cop_neps, cop_eqp, cop_nep, Bool.and_true, Bool.true_and, big1, big2, cop_eqi0, cop_nei0, cop_eqp0, cop_nep0, bop_addps, bop_addis, bsem_maxl, bsem_minl, mtTy_index, msem_index, c_lpick2, c_lpick3, e1, e2]
  exact hQ
def sp_body_period : Spec := fun ds Q X => ∃ (u : Int) (bs : List (Int × Int)) (b : Int), ds = [skyD u bs, .int b] ∧ (Sky u bs) ∧ (0 ≤ b) ∧ (b < bs.length) ∧ (Q (.int (rnd u (bd bs b).2)))
theorem c_body_period {u : Int} {bs : List (Int × Int)} {b : Int} {Q : D → Prop} {X : Exn → Prop} (h0 : Sky u bs) (h1 : 0 ≤ b) (h2 : b < bs.length) : sp_body_period [skyD u bs, .int b] Q X = (Q (.int (rnd u (bd bs b).2))) := by
  simp only [eq_iff_iff]
  constructor
  · rintro ⟨u', bs', b', e, _, _, _, h⟩
    simp only [List.cons.injEq, PyData.int.injEq, PyData.bool.injEq, skyD_eq, intsD_eq, pairsD_eq, pairD_eq, and_true, true_and] at e
    obtain ⟨⟨rfl, rfl⟩, rfl⟩ := e
    exact h
  · exact fun h => ⟨u, bs, b, rfl, h0, h1, h2, h⟩
theorem r_body_period {T : Fn → Spec} (t_check_sky : T .check_sky = sp_check_sky) (t_check_body : T .check_body = sp_check_body) (t_round_of : T .round_of = sp_round_of) {ds : List D} {Q : D → Prop} {X : Exn → Prop} (h : sp_body_period ds Q X) : ds.length = 2 ∧ runs T 2 b_body_period ds Q X := by
  obtain ⟨u, bs, b, rfl, hs, h1, h2, hQ⟩ := h
  refine ⟨rfl, ?_⟩
  have hu := hs.pos
  have hi := hs.hi
  obtain ⟨_, _, a0, a1⟩ := hs.at h1 h2
  try simp (maxSteps := 2000000) (disch := first | assumption | omega) only [runs, start, wpSs, wpS, wpE, wpEs, wpB, wpO, wpC, wpI, getS, setS, blank, blank1, List.map_cons, List.map_nil, List.length_cons, List.length_nil, List.cons_append, List.nil_append, List.replicate, Nat.sub_self, asBool_b, asInt_i, asList_l, asTup_t, must_s, cop_lt, cop_le, cop_gt, cop_ge, bop_add, bop_sub, bop_mod, bop_fdiv, bop_mul, ixOp_t0, ixOp_t1, ixOp_l, bsem_lenl, bsem_lent, gcv_u, gcv_d, isiD_i, isiD_b, isTok_i, isTok_b, isTok_n, isTok_t, isTok_l, isTok_s, and_true, true_and, if_true, if_false, Bool.false_eq_true, Bool.true_eq_false, Bool.not_true, Bool.not_false, Bool.not_not, noList_i, noList_b, noList_n, noList_t, plain_n, plain_c, lenlim, bindT_1, bindT_2, Nat.reduceAdd, Nat.reduceSub, isNon_n, isNon_i, isNon_b, isNon_t, isNon_l, isNon_s, ite_self, not_true_eq_false, not_false_eq_true, implies_true, false_and, and_false, decide_true, decide_false, decide_not, ixOp_s0, ixOp_s1, ixOp_p, ixOp_p0, ixOp_p1, ixOp_i, bsem_lenp, bsem_leni, bindT_p, isTok_sky, isTok_ps, isTok_is, isTok_p, noList_p, asList_p, asList_il, cop_eqi, cop_nei, bsem_max2, bsem_min2, ge0, c_is_int_i, toNat_nat, rangeD_len, eq_self, cop_eqil, cop_neil, cop_eqps, cop_neps, cop_eqp, cop_nep, Bool.and_true, Bool.true_and, big1, big2, cop_eqi0, cop_nei0, cop_eqp0, cop_nep0, bop_addps, bop_addis, bsem_maxl, bsem_minl, mtTy_index, msem_index, c_lpick2, c_lpick3, t_check_sky, c_check_sky, t_check_body, c_check_body, t_round_of, c_round_of, b_body_period, b_body_period_0, b_body_period_1, b_body_period_2]
  exact hQ
def prd (u : Int) (bs : List (Int × Int)) : Int := per u (bs.map fun b => b.2)
theorem prd_pos {u : Int} {bs : List (Int × Int)} (h : Sky u bs) : 0 < prd u bs := per_pos h.pos
theorem prd_le {u : Int} {bs : List (Int × Int)} (h : Sky u bs) : prd u bs ≤ u := per_le h.pos
def sp_period_of : Spec := fun ds Q X => ∃ (u : Int) (bs : List (Int × Int)), ds = [skyD u bs] ∧ (Sky u bs) ∧ (Q (.int (prd u bs)))
theorem c_period_of {u : Int} {bs : List (Int × Int)} {Q : D → Prop} {X : Exn → Prop} (h0 : Sky u bs) : sp_period_of [skyD u bs] Q X = (Q (.int (prd u bs))) := by
  simp only [eq_iff_iff]
  constructor
  · rintro ⟨u', bs', e, _, h⟩
    simp only [List.cons.injEq, PyData.int.injEq, PyData.bool.injEq, skyD_eq, intsD_eq, pairsD_eq, pairD_eq, and_true, true_and] at e
    obtain ⟨rfl, rfl⟩ := e
    exact h
  · exact fun h => ⟨u, bs, rfl, h0, h⟩
theorem r_period_of {T : Fn → Spec} (t_joint : T .joint = sp_joint) (t_round_of : T .round_of = sp_round_of) {ds : List D} {Q : D → Prop} {X : Exn → Prop} (h : sp_period_of ds Q X) : ds.length = 1 ∧ runs T 4 b_period_of ds Q X := by
  obtain ⟨u, bs, rfl, hs, hQ⟩ := h
  refine ⟨rfl, ?_⟩
  have hu := hs.pos
  have hi := hs.hi
  try simp (maxSteps := 2000000) (disch := first | assumption | omega) only [runs, start, wpSs, wpS, wpE, wpEs, wpB, wpO, wpC, wpI, getS, setS, blank, blank1, List.map_cons, List.map_nil, List.length_cons, List.length_nil, List.cons_append, List.nil_append, List.replicate, Nat.sub_self, asBool_b, asInt_i, asList_l, asTup_t, must_s, cop_lt, cop_le, cop_gt, cop_ge, bop_add, bop_sub, bop_mod, bop_fdiv, bop_mul, ixOp_t0, ixOp_t1, ixOp_l, bsem_lenl, bsem_lent, gcv_u, gcv_d, isiD_i, isiD_b, isTok_i, isTok_b, isTok_n, isTok_t, isTok_l, isTok_s, and_true, true_and, if_true, if_false, Bool.false_eq_true, Bool.true_eq_false, Bool.not_true, Bool.not_false, Bool.not_not, noList_i, noList_b, noList_n, noList_t, plain_n, plain_c, lenlim, bindT_1, bindT_2, Nat.reduceAdd, Nat.reduceSub, isNon_n, isNon_i, isNon_b, isNon_t, isNon_l, isNon_s, ite_self, not_true_eq_false, not_false_eq_true, implies_true, false_and, and_false, decide_true, decide_false, decide_not, ixOp_s0, ixOp_s1, ixOp_p, ixOp_p0, ixOp_p1, ixOp_i, bsem_lenp, bsem_leni, bindT_p, isTok_sky, isTok_ps, isTok_is, isTok_p, noList_p, asList_p, asList_il, cop_eqi, cop_nei, bsem_max2, bsem_min2, ge0, c_is_int_i, toNat_nat, rangeD_len, eq_self, cop_eqil, cop_neil, cop_eqps, cop_neps, cop_eqp, cop_nep, Bool.and_true, Bool.true_and, big1, big2, cop_eqi0, cop_nei0, cop_eqp0, cop_nep0, bop_addps, bop_addis, bsem_maxl, bsem_minl, mtTy_index, msem_index, c_lpick2, c_lpick3, t_joint, c_joint, t_round_of, c_round_of, b_period_of, b_period_of_0, b_period_of_1]
  refine for_map (e := pairD) (I := fun i G => ∃ (s1 s2 : Sl), G = [.d (skyD u bs), .d (.int (perF u 1 ((bs.map fun b => b.2).take i))), s1, s2]) ⟨_, _, rfl⟩ (fun i hi G hG k hk => ?_) (fun G hG => ?_)
  · obtain ⟨s1, s2, rfl⟩ := hG
    replace hk := fun s1 s2 => hk _ ⟨s1, s2, rfl⟩
    obtain ⟨_, _, a0, a1⟩ := hs.ok bs[i] (List.getElem_mem hi)
    have p0 := per_pos (rs := (bs.map fun b => b.2).take i) hu
    have p1 := per_le (rs := (bs.map fun b => b.2).take i) hu
    unfold per at p0 p1
    have r0 := rnd_pos (r := bs[i].2) hu
    have e : (bs.map fun b => b.2).take (i + 1) = (bs.map fun b => b.2).take i ++ [bs[i].2] := by
      rw [List.take_succ_eq_append_getElem (by simp; exact hi)]
      simp
    rw [e, perF_snoc] at hk
    try simp (maxSteps := 2000000) (disch := first | assumption | omega) only [runs, start, wpSs, wpS, wpE, wpEs, wpB, wpO, wpC, wpI, getS, setS, blank, blank1, List.map_cons, List.map_nil, List.length_cons, List.length_nil, List.cons_append, List.nil_append, List.replicate, Nat.sub_self, asBool_b, asInt_i, asList_l, asTup_t, must_s, cop_lt, cop_le, cop_gt, cop_ge, bop_add, bop_sub, bop_mod, bop_fdiv, bop_mul, ixOp_t0, ixOp_t1, ixOp_l, bsem_lenl, bsem_lent, gcv_u, gcv_d, isiD_i, isiD_b, isTok_i, isTok_b, isTok_n, isTok_t, isTok_l, isTok_s, and_true, true_and, if_true, if_false, Bool.false_eq_true, Bool.true_eq_false, Bool.not_true, Bool.not_false, Bool.not_not, noList_i, noList_b, noList_n, noList_t, plain_n, plain_c, lenlim, bindT_1, bindT_2, Nat.reduceAdd, Nat.reduceSub, isNon_n, isNon_i, isNon_b, isNon_t, isNon_l, isNon_s, ite_self, not_true_eq_false, not_false_eq_true, implies_true, false_and, and_false, decide_true, decide_false, decide_not, ixOp_s0, ixOp_s1, ixOp_p, ixOp_p0, ixOp_p1, ixOp_i, bsem_lenp, bsem_leni, bindT_p, isTok_sky, isTok_ps, isTok_is, isTok_p, noList_p, asList_p, asList_il, cop_eqi, cop_nei, bsem_max2, bsem_min2, ge0, c_is_int_i, toNat_nat, rangeD_len, eq_self, cop_eqil, cop_neil, cop_eqps, cop_neps, cop_eqp, cop_nep, Bool.and_true, Bool.true_and, big1, big2, cop_eqi0, cop_nei0, cop_eqp0, cop_nep0, bop_addps, bop_addis, bsem_maxl, bsem_minl, mtTy_index, msem_index, c_lpick2, c_lpick3, t_joint, c_joint, t_round_of, c_round_of, b_period_of_1l_0]
    exact hk _ _
  · obtain ⟨s1, s2, rfl⟩ := hG
    try simp (maxSteps := 2000000) (disch := first | assumption | omega) only [runs, start, wpSs, wpS, wpE, wpEs, wpB, wpO, wpC, wpI, getS, setS, blank, blank1, List.map_cons, List.map_nil, List.length_cons, List.length_nil, List.cons_append, List.nil_append, List.replicate, Nat.sub_self, asBool_b, asInt_i, asList_l, asTup_t, must_s, cop_lt, cop_le, cop_gt, cop_ge, bop_add, bop_sub, bop_mod, bop_fdiv, bop_mul, ixOp_t0, ixOp_t1, ixOp_l, bsem_lenl, bsem_lent, gcv_u, gcv_d, isiD_i, isiD_b, isTok_i, isTok_b, isTok_n, isTok_t, isTok_l, isTok_s, and_true, true_and, if_true, if_false, Bool.false_eq_true, Bool.true_eq_false, Bool.not_true, Bool.not_false, Bool.not_not, noList_i, noList_b, noList_n, noList_t, plain_n, plain_c, lenlim, bindT_1, bindT_2, Nat.reduceAdd, Nat.reduceSub, isNon_n, isNon_i, isNon_b, isNon_t, isNon_l, isNon_s, ite_self, not_true_eq_false, not_false_eq_true, implies_true, false_and, and_false, decide_true, decide_false, decide_not, ixOp_s0, ixOp_s1, ixOp_p, ixOp_p0, ixOp_p1, ixOp_i, bsem_lenp, bsem_leni, bindT_p, isTok_sky, isTok_ps, isTok_is, isTok_p, noList_p, asList_p, asList_il, cop_eqi, cop_nei, bsem_max2, bsem_min2, ge0, c_is_int_i, toNat_nat, rangeD_len, eq_self, cop_eqil, cop_neil, cop_eqps, cop_neps, cop_eqp, cop_nep, Bool.and_true, Bool.true_and, big1, big2, cop_eqi0, cop_nei0, cop_eqp0, cop_nep0, bop_addps, bop_addis, bsem_maxl, bsem_minl, mtTy_index, msem_index, c_lpick2, c_lpick3, t_joint, c_joint, t_round_of, c_round_of, b_period_of_2]
    have e : (bs.map fun b => b.2).take bs.length = bs.map fun b => b.2 := List.take_of_length_le (by simp)
    rw [e]
    exact hQ
def sp_period : Spec := fun ds Q X => ∃ (u : Int) (bs : List (Int × Int)), ds = [skyD u bs] ∧ (Sky u bs) ∧ (Q (.int (prd u bs)))
theorem c_period {u : Int} {bs : List (Int × Int)} {Q : D → Prop} {X : Exn → Prop} (h0 : Sky u bs) : sp_period [skyD u bs] Q X = (Q (.int (prd u bs))) := by
  simp only [eq_iff_iff]
  constructor
  · rintro ⟨u', bs', e, _, h⟩
    simp only [List.cons.injEq, PyData.int.injEq, PyData.bool.injEq, skyD_eq, intsD_eq, pairsD_eq, pairD_eq, and_true, true_and] at e
    obtain ⟨rfl, rfl⟩ := e
    exact h
  · exact fun h => ⟨u, bs, rfl, h0, h⟩
theorem r_period {T : Fn → Spec} (t_check_sky : T .check_sky = sp_check_sky) (t_period_of : T .period_of = sp_period_of) {ds : List D} {Q : D → Prop} {X : Exn → Prop} (h : sp_period ds Q X) : ds.length = 1 ∧ runs T 1 b_period ds Q X := by
  obtain ⟨u, bs, rfl, hs, hQ⟩ := h
  refine ⟨rfl, ?_⟩
  try simp (maxSteps := 2000000) (disch := first | assumption | omega) only [runs, start, wpSs, wpS, wpE, wpEs, wpB, wpO, wpC, wpI, getS, setS, blank, blank1, List.map_cons, List.map_nil, List.length_cons, List.length_nil, List.cons_append, List.nil_append, List.replicate, Nat.sub_self, asBool_b, asInt_i, asList_l, asTup_t, must_s, cop_lt, cop_le, cop_gt, cop_ge, bop_add, bop_sub, bop_mod, bop_fdiv, bop_mul, ixOp_t0, ixOp_t1, ixOp_l, bsem_lenl, bsem_lent, gcv_u, gcv_d, isiD_i, isiD_b, isTok_i, isTok_b, isTok_n, isTok_t, isTok_l, isTok_s, and_true, true_and, if_true, if_false, Bool.false_eq_true, Bool.true_eq_false, Bool.not_true, Bool.not_false, Bool.not_not, noList_i, noList_b, noList_n, noList_t, plain_n, plain_c, lenlim, bindT_1, bindT_2, Nat.reduceAdd, Nat.reduceSub, isNon_n, isNon_i, isNon_b, isNon_t, isNon_l, isNon_s, ite_self, not_true_eq_false, not_false_eq_true, implies_true, false_and, and_false, decide_true, decide_false, decide_not, ixOp_s0, ixOp_s1, ixOp_p, ixOp_p0, ixOp_p1, ixOp_i, bsem_lenp, bsem_leni, bindT_p, isTok_sky, isTok_ps, isTok_is, isTok_p, noList_p, asList_p, asList_il, cop_eqi, cop_nei, bsem_max2, bsem_min2, ge0, c_is_int_i, toNat_nat, rangeD_len, eq_self, cop_eqil, cop_neil, cop_eqps, cop_neps, cop_eqp, cop_nep, Bool.and_true, Bool.true_and, big1, big2, cop_eqi0, cop_nei0, cop_eqp0, cop_nep0, bop_addps, bop_addis, bsem_maxl, bsem_minl, mtTy_index, msem_index, c_lpick2, c_lpick3, t_check_sky, c_check_sky, t_period_of, c_period_of, b_period, b_period_0, b_period_1]
  exact hQ
def mstep (u : Int) (bs : List (Int × Int)) (b c : Int) : Int := Int.gcd u ((bd bs c).2 - (bd bs b).2)
def sp_meeting_units : Spec := fun ds Q X => ∃ (u : Int) (bs : List (Int × Int)) (b : Int) (c : Int), ds = [skyD u bs, .int b, .int c] ∧ (Sky u bs) ∧ (0 ≤ b) ∧ (b < bs.length) ∧ (0 ≤ c) ∧ (c < bs.length) ∧ (Q (pairD (((bd bs c).1 - (bd bs b).1) % mstep u bs b c, mstep u bs b c)))
theorem c_meeting_units {u : Int} {bs : List (Int × Int)} {b : Int} {c : Int} {Q : D → Prop} {X : Exn → Prop} (h0 : Sky u bs) (h1 : 0 ≤ b) (h2 : b < bs.length) (h3 : 0 ≤ c) (h4 : c < bs.length) : sp_meeting_units [skyD u bs, .int b, .int c] Q X = (Q (pairD (((bd bs c).1 - (bd bs b).1) % mstep u bs b c, mstep u bs b c))) := by
  simp only [eq_iff_iff]
  constructor
  · rintro ⟨u', bs', b', c', e, _, _, _, _, _, h⟩
    simp only [List.cons.injEq, PyData.int.injEq, PyData.bool.injEq, skyD_eq, intsD_eq, pairsD_eq, pairD_eq, and_true, true_and] at e
    obtain ⟨⟨rfl, rfl⟩, rfl, rfl⟩ := e
    exact h
  · exact fun h => ⟨u, bs, b, c, rfl, h0, h1, h2, h3, h4, h⟩
theorem r_meeting_units {T : Fn → Spec} (t_check_sky : T .check_sky = sp_check_sky) (t_check_body : T .check_body = sp_check_body) (t_common : T .common = sp_common) {ds : List D} {Q : D → Prop} {X : Exn → Prop} (h : sp_meeting_units ds Q X) : ds.length = 3 ∧ runs T 4 b_meeting_units ds Q X := by
  obtain ⟨u, bs, b, c, rfl, hs, h1, h2, h3, h4, hQ⟩ := h
  refine ⟨rfl, ?_⟩
  have hu := hs.pos
  have hi := hs.hi
  have m0 : 0 ≤ ((bd bs c).2 - (bd bs b).2) % u := Int.emod_nonneg _ (by omega)
  have g0 := gcd_pos (r := (bd bs c).2 - (bd bs b).2) hu
  have e : Int.gcd u (((bd bs c).2 - (bd bs b).2) % u) = Int.gcd u ((bd bs c).2 - (bd bs b).2) := gcd_mod
  try simp (maxSteps := 2000000) (disch := first | assumption | omega) only [runs, start, wpSs, wpS, wpE, wpEs, wpB, wpO, wpC, wpI, getS, setS, blank, blank1, List.map_cons, List.map_nil, List.length_cons, List.length_nil, List.cons_append, List.nil_append, List.replicate, Nat.sub_self, asBool_b, asInt_i, asList_l, asTup_t, must_s, cop_lt, cop_le, cop_gt, cop_ge, bop_add, bop_sub, bop_mod, bop_fdiv, bop_mul, ixOp_t0, ixOp_t1, ixOp_l, bsem_lenl, bsem_lent, gcv_u, gcv_d, isiD_i, isiD_b, isTok_i, isTok_b, isTok_n, isTok_t, isTok_l, isTok_s, and_true, true_and, if_true, if_false, Bool.false_eq_true, Bool.true_eq_false, Bool.not_true, Bool.not_false, Bool.not_not, noList_i, noList_b, noList_n, noList_t, plain_n, plain_c, lenlim, bindT_1, bindT_2, Nat.reduceAdd, Nat.reduceSub, isNon_n, isNon_i, isNon_b, isNon_t, isNon_l, isNon_s, ite_self, not_true_eq_false, not_false_eq_true, implies_true, false_and, and_false, decide_true, decide_false, decide_not, ixOp_s0, ixOp_s1, ixOp_p, ixOp_p0, ixOp_p1, ixOp_i, bsem_lenp, bsem_leni, bindT_p, isTok_sky, isTok_ps, isTok_is, isTok_p, noList_p, asList_p, asList_il, cop_eqi, cop_nei, bsem_max2, bsem_min2, ge0, c_is_int_i, toNat_nat, rangeD_len, eq_self, cop_eqil, cop_neil, cop_eqps, cop_neps, cop_eqp, cop_nep, Bool.and_true, Bool.true_and, big1, big2, cop_eqi0, cop_nei0, cop_eqp0, cop_nep0, bop_addps, bop_addis, bsem_maxl, bsem_minl, mtTy_index, msem_index, c_lpick2, c_lpick3, t_check_sky, c_check_sky, t_check_body, c_check_body, t_common, c_common, b_meeting_units, b_meeting_units_0, b_meeting_units_1, b_meeting_units_2, b_meeting_units_3, b_meeting_units_4, e]
  exact hQ
def everAt (u : Int) (bs : List (Int × Int)) (b : Int) (x : D) : D := match x with
  | .int i => if 0 ≤ i ∧ i < u then optD ((rngl 0 (rnd u (bd bs b).2).toNat).find? fun d => decide (plc u bs b d = i)) else .none
  | _ => .none
def sp_ever_at : Spec := fun ds Q X => ∃ (u : Int) (bs : List (Int × Int)) (b : Int) (x : D), ds = [skyD u bs, .int b, x] ∧ (Sky u bs) ∧ (0 ≤ b) ∧ (b < bs.length) ∧ (isTok x = false) ∧ (Q (everAt u bs b x))
theorem c_ever_at {u : Int} {bs : List (Int × Int)} {b : Int} {x : D} {Q : D → Prop} {X : Exn → Prop} (h0 : Sky u bs) (h1 : 0 ≤ b) (h2 : b < bs.length) (h3 : isTok x = false) : sp_ever_at [skyD u bs, .int b, x] Q X = (Q (everAt u bs b x)) := by
  simp only [eq_iff_iff]
  constructor
  · rintro ⟨u', bs', b', x', e, _, _, _, _, h⟩
    simp only [List.cons.injEq, PyData.int.injEq, PyData.bool.injEq, skyD_eq, intsD_eq, pairsD_eq, pairD_eq, and_true, true_and] at e
    obtain ⟨⟨rfl, rfl⟩, rfl, rfl⟩ := e
    exact h
  · exact fun h => ⟨u, bs, b, x, rfl, h0, h1, h2, h3, h⟩
theorem r_ever_at {T : Fn → Spec} (t_check_sky : T .check_sky = sp_check_sky) (t_check_body : T .check_body = sp_check_body) (t_is_int : T .is_int = sp_is_int) (t_round_of : T .round_of = sp_round_of) {ds : List D} {Q : D → Prop} {X : Exn → Prop} (h : sp_ever_at ds Q X) : ds.length = 3 ∧ runs T 6 b_ever_at ds Q X := by
  obtain ⟨u, bs, b, x, rfl, hs, h1, h2, h3, hQ⟩ := h
  refine ⟨rfl, ?_⟩
  have hu := hs.pos
  have hi := hs.hi
  obtain ⟨_, _, a0, a1⟩ := hs.at h1 h2
  try simp (maxSteps := 2000000) (disch := first | assumption | omega) only [runs, start, wpSs, wpS, wpE, wpEs, wpB, wpO, wpC, wpI, getS, setS, blank, blank1, List.map_cons, List.map_nil, List.length_cons, List.length_nil, List.cons_append, List.nil_append, List.replicate, Nat.sub_self, asBool_b, asInt_i, asList_l, asTup_t, must_s, cop_lt, cop_le, cop_gt, cop_ge, bop_add, bop_sub, bop_mod, bop_fdiv, bop_mul, ixOp_t0, ixOp_t1, ixOp_l, bsem_lenl, bsem_lent, gcv_u, gcv_d, isiD_i, isiD_b, isTok_i, isTok_b, isTok_n, isTok_t, isTok_l, isTok_s, and_true, true_and, if_true, if_false, Bool.false_eq_true, Bool.true_eq_false, Bool.not_true, Bool.not_false, Bool.not_not, noList_i, noList_b, noList_n, noList_t, plain_n, plain_c, lenlim, bindT_1, bindT_2, Nat.reduceAdd, Nat.reduceSub, isNon_n, isNon_i, isNon_b, isNon_t, isNon_l, isNon_s, ite_self, not_true_eq_false, not_false_eq_true, implies_true, false_and, and_false, decide_true, decide_false, decide_not, ixOp_s0, ixOp_s1, ixOp_p, ixOp_p0, ixOp_p1, ixOp_i, bsem_lenp, bsem_leni, bindT_p, isTok_sky, isTok_ps, isTok_is, isTok_p, noList_p, asList_p, asList_il, cop_eqi, cop_nei, bsem_max2, bsem_min2, ge0, c_is_int_i, toNat_nat, rangeD_len, eq_self, cop_eqil, cop_neil, cop_eqps, cop_neps, cop_eqp, cop_nep, Bool.and_true, Bool.true_and, big1, big2, cop_eqi0, cop_nei0, cop_eqp0, cop_nep0, bop_addps, bop_addis, bsem_maxl, bsem_minl, mtTy_index, msem_index, c_lpick2, c_lpick3, t_check_sky, c_check_sky, t_check_body, c_check_body, t_is_int, c_is_int, t_round_of, c_round_of, b_ever_at, b_ever_at_0, b_ever_at_1, b_ever_at_2]
  cases e : isInt x 0 (u - 1) with
  | false =>
    try simp (maxSteps := 2000000) (disch := first | assumption | omega) only [runs, start, wpSs, wpS, wpE, wpEs, wpB, wpO, wpC, wpI, getS, setS, blank, blank1, List.map_cons, List.map_nil, List.length_cons, List.length_nil, List.cons_append, List.nil_append, List.replicate, Nat.sub_self, asBool_b, asInt_i, asList_l, asTup_t, must_s, cop_lt, cop_le, cop_gt, cop_ge, bop_add, bop_sub, bop_mod, bop_fdiv, bop_mul, ixOp_t0, ixOp_t1, ixOp_l, bsem_lenl, bsem_lent, gcv_u, gcv_d, isiD_i, isiD_b, isTok_i, isTok_b, isTok_n, isTok_t, isTok_l, isTok_s, and_true, true_and, if_true, if_false, Bool.false_eq_true, Bool.true_eq_false, Bool.not_true, Bool.not_false, Bool.not_not, noList_i, noList_b, noList_n, noList_t, plain_n, plain_c, lenlim, bindT_1, bindT_2, Nat.reduceAdd, Nat.reduceSub, isNon_n, isNon_i, isNon_b, isNon_t, isNon_l, isNon_s, ite_self, not_true_eq_false, not_false_eq_true, implies_true, false_and, and_false, decide_true, decide_false, decide_not, ixOp_s0, ixOp_s1, ixOp_p, ixOp_p0, ixOp_p1, ixOp_i, bsem_lenp, bsem_leni, bindT_p, isTok_sky, isTok_ps, isTok_is, isTok_p, noList_p, asList_p, asList_il, cop_eqi, cop_nei, bsem_max2, bsem_min2, ge0, c_is_int_i, toNat_nat, rangeD_len, eq_self, cop_eqil, cop_neil, cop_eqps, cop_neps, cop_eqp, cop_nep, Bool.and_true, Bool.true_and, big1, big2, cop_eqi0, cop_nei0, cop_eqp0, cop_nep0, bop_addps, bop_addis, bsem_maxl, bsem_minl, mtTy_index, msem_index, c_lpick2, c_lpick3, t_check_sky, c_check_sky, t_check_body, c_check_body, t_is_int, c_is_int, t_round_of, c_round_of]
    have e2 : everAt u bs b x = .none := by
      unfold everAt
      split
      · rename_i i
        rw [if_neg]
        rintro ⟨i0, i1⟩
        have := isInt_iff.mpr ⟨i, rfl, i0, show i ≤ u - 1 by omega⟩
        rw [e] at this
        cases this
      · rfl
    rw [e2] at hQ
    exact hQ
  | true =>
    obtain ⟨i, rfl, i0, i1⟩ := isInt_iff.mp e
    have e2 : everAt u bs b (.int i) = optD ((rngl 0 (rnd u (bd bs b).2).toNat).find? fun d => decide (plc u bs b d = i)) := by
      simp only [everAt]
      rw [if_pos ⟨i0, by omega⟩]
    rw [e2] at hQ
    have n0 := rnd_pos (r := (bd bs b).2) hu
    have n1 := rnd_le (r := (bd bs b).2) hu
    try simp (maxSteps := 2000000) (disch := first | assumption | omega) only [runs, start, wpSs, wpS, wpE, wpEs, wpB, wpO, wpC, wpI, getS, setS, blank, blank1, List.map_cons, List.map_nil, List.length_cons, List.length_nil, List.cons_append, List.nil_append, List.replicate, Nat.sub_self, asBool_b, asInt_i, asList_l, asTup_t, must_s, cop_lt, cop_le, cop_gt, cop_ge, bop_add, bop_sub, bop_mod, bop_fdiv, bop_mul, ixOp_t0, ixOp_t1, ixOp_l, bsem_lenl, bsem_lent, gcv_u, gcv_d, isiD_i, isiD_b, isTok_i, isTok_b, isTok_n, isTok_t, isTok_l, isTok_s, and_true, true_and, if_true, if_false, Bool.false_eq_true, Bool.true_eq_false, Bool.not_true, Bool.not_false, Bool.not_not, noList_i, noList_b, noList_n, noList_t, plain_n, plain_c, lenlim, bindT_1, bindT_2, Nat.reduceAdd, Nat.reduceSub, isNon_n, isNon_i, isNon_b, isNon_t, isNon_l, isNon_s, ite_self, not_true_eq_false, not_false_eq_true, implies_true, false_and, and_false, decide_true, decide_false, decide_not, ixOp_s0, ixOp_s1, ixOp_p, ixOp_p0, ixOp_p1, ixOp_i, bsem_lenp, bsem_leni, bindT_p, isTok_sky, isTok_ps, isTok_is, isTok_p, noList_p, asList_p, asList_il, cop_eqi, cop_nei, bsem_max2, bsem_min2, ge0, c_is_int_i, toNat_nat, rangeD_len, eq_self, cop_eqil, cop_neil, cop_eqps, cop_neps, cop_eqp, cop_nep, Bool.and_true, Bool.true_and, big1, big2, cop_eqi0, cop_nei0, cop_eqp0, cop_nep0, bop_addps, bop_addis, bsem_maxl, bsem_minl, mtTy_index, msem_index, c_lpick2, c_lpick3, t_check_sky, c_check_sky, t_check_body, c_check_body, t_is_int, c_is_int, t_round_of, c_round_of, b_ever_at_3, b_ever_at_4]
    refine for_find (p := fun d => decide (plc u bs b d = i)) (R := fun d => Q (.int d)) (I := fun G => ∃ (s : Sl), G = [.d (skyD u bs), .d (.int b), .d (.int i), .d (.int (bd bs b).1), .d (.int (bd bs b).2), s]) ⟨_, rfl⟩ (fun d d0 d1 G hG k k1 k2 => ?_) (fun d hf => ?_) (fun G hG hf => ?_)
    · obtain ⟨s, rfl⟩ := hG
      replace k2 := fun h s => k2 h _ ⟨s, rfl⟩
      try simp (maxSteps := 2000000) (disch := first | assumption | omega) only [runs, start, wpSs, wpS, wpE, wpEs, wpB, wpO, wpC, wpI, getS, setS, blank, blank1, List.map_cons, List.map_nil, List.length_cons, List.length_nil, List.cons_append, List.nil_append, List.replicate, Nat.sub_self, asBool_b, asInt_i, asList_l, asTup_t, must_s, cop_lt, cop_le, cop_gt, cop_ge, bop_add, bop_sub, bop_mod, bop_fdiv, bop_mul, ixOp_t0, ixOp_t1, ixOp_l, bsem_lenl, bsem_lent, gcv_u, gcv_d, isiD_i, isiD_b, isTok_i, isTok_b, isTok_n, isTok_t, isTok_l, isTok_s, and_true, true_and, if_true, if_false, Bool.false_eq_true, Bool.true_eq_false, Bool.not_true, Bool.not_false, Bool.not_not, noList_i, noList_b, noList_n, noList_t, plain_n, plain_c, lenlim, bindT_1, bindT_2, Nat.reduceAdd, Nat.reduceSub, isNon_n, isNon_i, isNon_b, isNon_t, isNon_l, isNon_s, ite_self, not_true_eq_false, not_false_eq_true, implies_true, false_and, and_false, decide_true, decide_false, decide_not, ixOp_s0, ixOp_s1, ixOp_p, ixOp_p0, ixOp_p1, ixOp_i, bsem_lenp, bsem_leni, bindT_p, isTok_sky, isTok_ps, isTok_is, isTok_p, noList_p, asList_p, asList_il, cop_eqi, cop_nei, bsem_max2, bsem_min2, ge0, c_is_int_i, toNat_nat, rangeD_len, eq_self, cop_eqil, cop_neil, cop_eqps, cop_neps, cop_eqp, cop_nep, Bool.and_true, Bool.true_and, big1, big2, cop_eqi0, cop_nei0, cop_eqp0, cop_nep0, bop_addps, bop_addis, bsem_maxl, bsem_minl, mtTy_index, msem_index, c_lpick2, c_lpick3, t_check_sky, c_check_sky, t_check_body, c_check_body, t_is_int, c_is_int, t_round_of, c_round_of, b_ever_at_4l_0]
      by_cases hc : ((bd bs b).1 + d * (bd bs b).2) % u = i
      · try simp (maxSteps := 2000000) (disch := first | assumption | omega) only [runs, start, wpSs, wpS, wpE, wpEs, wpB, wpO, wpC, wpI, getS, setS, blank, blank1, List.map_cons, List.map_nil, List.length_cons, List.length_nil, List.cons_append, List.nil_append, List.replicate, Nat.sub_self, asBool_b, asInt_i, asList_l, asTup_t, must_s, cop_lt, cop_le, cop_gt, cop_ge, bop_add, bop_sub, bop_mod, bop_fdiv, bop_mul, ixOp_t0, ixOp_t1, ixOp_l, bsem_lenl, bsem_lent, gcv_u, gcv_d, isiD_i, isiD_b, isTok_i, isTok_b, isTok_n, isTok_t, isTok_l, isTok_s, and_true, true_and, if_true, if_false, Bool.false_eq_true, Bool.true_eq_false, Bool.not_true, Bool.not_false, Bool.not_not, noList_i, noList_b, noList_n, noList_t, plain_n, plain_c, lenlim, bindT_1, bindT_2, Nat.reduceAdd, Nat.reduceSub, isNon_n, isNon_i, isNon_b, isNon_t, isNon_l, isNon_s, ite_self, not_true_eq_false, not_false_eq_true, implies_true, false_and, and_false, decide_true, decide_false, decide_not, ixOp_s0, ixOp_s1, ixOp_p, ixOp_p0, ixOp_p1, ixOp_i, bsem_lenp, bsem_leni, bindT_p, isTok_sky, isTok_ps, isTok_is, isTok_p, noList_p, asList_p, asList_il, cop_eqi, cop_nei, bsem_max2, bsem_min2, ge0, c_is_int_i, toNat_nat, rangeD_len, eq_self, cop_eqil, cop_neil, cop_eqps, cop_neps, cop_eqp, cop_nep, Bool.and_true, Bool.true_and, big1, big2, cop_eqi0, cop_nei0, cop_eqp0, cop_nep0, bop_addps, bop_addis, bsem_maxl, bsem_minl, mtTy_index, msem_index, c_lpick2, c_lpick3, t_check_sky, c_check_sky, t_check_body, c_check_body, t_is_int, c_is_int, t_round_of, c_round_of, hc]
        exact k1 (decide_eq_true hc)
      · try simp (maxSteps := 2000000) (disch := first | assumption | omega) only [runs, start, wpSs, wpS, wpE, wpEs, wpB, wpO, wpC, wpI, getS, setS, blank, blank1, List.map_cons, List.map_nil, List.length_cons, List.length_nil, List.cons_append, List.nil_append, List.replicate, Nat.sub_self, asBool_b, asInt_i, asList_l, asTup_t, must_s, cop_lt, cop_le, cop_gt, cop_ge, bop_add, bop_sub, bop_mod, bop_fdiv, bop_mul, ixOp_t0, ixOp_t1, ixOp_l, bsem_lenl, bsem_lent, gcv_u, gcv_d, isiD_i, isiD_b, isTok_i, isTok_b, isTok_n, isTok_t, isTok_l, isTok_s, and_true, true_and, if_true, if_false, Bool.false_eq_true, Bool.true_eq_false, Bool.not_true, Bool.not_false, Bool.not_not, noList_i, noList_b, noList_n, noList_t, plain_n, plain_c, lenlim, bindT_1, bindT_2, Nat.reduceAdd, Nat.reduceSub, isNon_n, isNon_i, isNon_b, isNon_t, isNon_l, isNon_s, ite_self, not_true_eq_false, not_false_eq_true, implies_true, false_and, and_false, decide_true, decide_false, decide_not, ixOp_s0, ixOp_s1, ixOp_p, ixOp_p0, ixOp_p1, ixOp_i, bsem_lenp, bsem_leni, bindT_p, isTok_sky, isTok_ps, isTok_is, isTok_p, noList_p, asList_p, asList_il, cop_eqi, cop_nei, bsem_max2, bsem_min2, ge0, c_is_int_i, toNat_nat, rangeD_len, eq_self, cop_eqil, cop_neil, cop_eqps, cop_neps, cop_eqp, cop_nep, Bool.and_true, Bool.true_and, big1, big2, cop_eqi0, cop_nei0, cop_eqp0, cop_nep0, bop_addps, bop_addis, bsem_maxl, bsem_minl, mtTy_index, msem_index, c_lpick2, c_lpick3, t_check_sky, c_check_sky, t_check_body, c_check_body, t_is_int, c_is_int, t_round_of, c_round_of, hc]
        exact k2 (decide_eq_false hc) _
    · rw [hf] at hQ
      exact hQ
    · obtain ⟨s, rfl⟩ := hG
      rw [hf] at hQ
      try simp (maxSteps := 2000000) (disch := first | assumption | omega) only [runs, start, wpSs, wpS, wpE, wpEs, wpB, wpO, wpC, wpI, getS, setS, blank, blank1, List.map_cons, List.map_nil, List.length_cons, List.length_nil, List.cons_append, List.nil_append, List.replicate, Nat.sub_self, asBool_b, asInt_i, asList_l, asTup_t, must_s, cop_lt, cop_le, cop_gt, cop_ge, bop_add, bop_sub, bop_mod, bop_fdiv, bop_mul, ixOp_t0, ixOp_t1, ixOp_l, bsem_lenl, bsem_lent, gcv_u, gcv_d, isiD_i, isiD_b, isTok_i, isTok_b, isTok_n, isTok_t, isTok_l, isTok_s, and_true, true_and, if_true, if_false, Bool.false_eq_true, Bool.true_eq_false, Bool.not_true, Bool.not_false, Bool.not_not, noList_i, noList_b, noList_n, noList_t, plain_n, plain_c, lenlim, bindT_1, bindT_2, Nat.reduceAdd, Nat.reduceSub, isNon_n, isNon_i, isNon_b, isNon_t, isNon_l, isNon_s, ite_self, not_true_eq_false, not_false_eq_true, implies_true, false_and, and_false, decide_true, decide_false, decide_not, ixOp_s0, ixOp_s1, ixOp_p, ixOp_p0, ixOp_p1, ixOp_i, bsem_lenp, bsem_leni, bindT_p, isTok_sky, isTok_ps, isTok_is, isTok_p, noList_p, asList_p, asList_il, cop_eqi, cop_nei, bsem_max2, bsem_min2, ge0, c_is_int_i, toNat_nat, rangeD_len, eq_self, cop_eqil, cop_neil, cop_eqps, cop_neps, cop_eqp, cop_nep, Bool.and_true, Bool.true_and, big1, big2, cop_eqi0, cop_nei0, cop_eqp0, cop_nep0, bop_addps, bop_addis, bsem_maxl, bsem_minl, mtTy_index, msem_index, c_lpick2, c_lpick3, t_check_sky, c_check_sky, t_check_body, c_check_body, t_is_int, c_is_int, t_round_of, c_round_of, b_ever_at_5]
      exact hQ
end Sk
set_option linter.all false
set_option maxRecDepth 10000
namespace Sk
open PySem
theorem nth_ot {u : Int} {bs : List (Int × Int)} {b c n i : Int} (hf : ¬ (bd bs b).2 - (bd bs c).2 ≤ 0) (h0 : 0 ≤ i) (h1 : i < n) (h2 : n ≤ 100) : nth (otDays u bs b c n) i = otDay u bs b c i := by
  have : i.toNat < (min n 100).toNat := by omega
  unfold nth otDays
  rw [if_neg hf, List.getD_eq_getElem?_getD, List.getElem?_map, List.getElem?_range this]
  simp only [Option.map_some, Option.getD_some]
  congr 1
  omega
theorem ot_len {u : Int} {bs : List (Int × Int)} {b c n : Int} (hf : ¬ (bd bs b).2 - (bd bs c).2 ≤ 0) (h2 : 0 ≤ n) : ((otDays u bs b c n).length : Int) = min n 100 := by
  unfold otDays
  rw [if_neg hf, List.length_map, List.length_range]
  omega
/-- the least day at which f days reach w -/
theorem ceil_spec {w f : Int} (hf : 0 < f) : w ≤ -(-w / f) * f ∧ (-(-w / f) - 1) * f < w := by
  have h1 := Int.ediv_mul_le (-w) (show f ≠ 0 by omega)
  have h2 := Int.lt_ediv_add_one_mul_self (-w) hf
  constructor
  · rw [Int.neg_mul]; omega
  · have : (-(-w / f) - 1) * f = -((-w / f + 1) * f) := by rw [← Int.neg_mul]; congr 1; omega
    rw [this]; omega
theorem overt_eq {u : Int} {bs : List (Int × Int)} {b c d : Int} : overt u bs b c d = ((bd bs b).1 - (bd bs c).1 + d * ((bd bs b).2 - (bd bs c).2)) / u - ((bd bs b).1 - (bd bs c).1) / u := by
  unfold overt way
  rw [Int.mul_sub]
  congr 1
  · congr 1
    omega
  · congr 1
    simp
theorem ot_good {u : Int} {bs : List (Int × Int)} {b c t : Int} (hs : Sky u bs) (b0 : 0 ≤ b) (b1 : b < bs.length) (c0 : 0 ≤ c) (c1 : c < bs.length) (t0 : 0 ≤ t) (t1 : t < 100) (hf : ¬ (bd bs b).2 - (bd bs c).2 ≤ 0) :
    1 ≤ otDay u bs b c t ∧ otDay u bs b c t ≤ 1000000 ∧ t + 1 ≤ overt u bs b c (otDay u bs b c t) ∧ overt u bs b c (otDay u bs b c t - 1) ≤ t ∧ ((bd bs b).1 - (bd bs c).1 + otDay u bs b c t * ((bd bs b).2 - (bd bs c).2)) % u < (bd bs b).2 - (bd bs c).2 := by
  have hu := hs.pos
  have hi := hs.hi
  have ab := hs.at b0 b1
  have ac := hs.at c0 c1
  rw [overt_eq, overt_eq]
  unfold otDay
  generalize hg : (bd bs b).1 - (bd bs c).1 = g at *
  generalize hw : (bd bs b).2 - (bd bs c).2 = f at *
  have g1 := Int.ediv_mul_le g (show u ≠ 0 by omega)
  have g2 := Int.lt_ediv_add_one_mul_self g hu
  have q1 : -1 ≤ g / u := (Int.le_ediv_iff_mul_le hu).mpr (by omega)
  have q2 : g / u < 1 := Int.ediv_lt_of_lt_mul hu (by omega)
  have f0 : 0 < f := by omega
  generalize hW : (g / u + 1 + t) * u - g = W
  have W0 : 0 < W := by
    have : (g / u + 1) * u ≤ (g / u + 1 + t) * u := Int.mul_le_mul_of_nonneg_right (by omega) (by omega)
    omega
  have W1 : W ≤ 20000 := by
    have : (g / u + 1 + t) * u ≤ 101 * u := Int.mul_le_mul_of_nonneg_right (by omega) (by omega)
    omega
  obtain ⟨p1, p2⟩ := ceil_spec (w := W) f0
  generalize -(-W / f) = d at *
  have d1 : 1 ≤ d := by
    refine Int.not_lt.mp fun h => ?_
    have : d * f ≤ 0 * f := Int.mul_le_mul_of_nonneg_right (by omega) (by omega)
    omega
  have d2 : d ≤ 1000000 := by
    have : (d - 1) * 1 ≤ (d - 1) * f := Int.mul_le_mul_of_nonneg_left (by omega) (by omega)
    omega
  refine ⟨d1, d2, ?_, ?_, ?_⟩
  · have : g / u + 1 + t ≤ (g + d * f) / u := (Int.le_ediv_iff_mul_le hu).mpr (by omega)
    omega
  · have : (g + (d - 1) * f) / u < g / u + 1 + t := Int.ediv_lt_of_lt_mul hu (by omega)
    omega
  · have e : (d - 1) * f = d * f - f := by rw [Int.sub_mul]; omega
    have e2 : g + d * f = (d * f - W) + (g / u + 1 + t) * u := by omega
    rw [e2, Int.add_mul_emod_self_right, Int.emod_eq_of_lt (by omega) (by omega)]
    omega
theorem ot_mono {u : Int} {bs : List (Int × Int)} {b c s t : Int} (hu : 0 < u) (h : s ≤ t) (hf : ¬ (bd bs b).2 - (bd bs c).2 ≤ 0) : otDay u bs b c s ≤ otDay u bs b c t := by
  unfold otDay
  have h1 : (((bd bs b).1 - (bd bs c).1) / u + 1 + s) * u ≤ (((bd bs b).1 - (bd bs c).1) / u + 1 + t) * u := Int.mul_le_mul_of_nonneg_right (by omega) (by omega)
  have h2 := Int.ediv_le_ediv (show 0 < (bd bs b).2 - (bd bs c).2 by omega) (show -((((bd bs b).1 - (bd bs c).1) / u + 1 + t) * u - ((bd bs b).1 - (bd bs c).1)) ≤ -((((bd bs b).1 - (bd bs c).1) / u + 1 + s) * u - ((bd bs b).1 - (bd bs c).1)) by omega)
  omega
theorem bsem_srtI {l : List Int} : bsem .sorted [intsD l] = some (intsD (isort l)) := by
  simp only [bsem, intsD, ints?_map]
theorem isort_same {l : List Int} (h : l.Pairwise (· ≤ ·)) : isort l = l := isort_uniq (List.Perm.refl l) h
theorem isortP_same {l : List (Int × Int)} (h : l.Pairwise (fun p q => leP p q = true)) : isortP l = l := isortP_uniq (List.Perm.refl l) h
theorem fold1 {a : Int} : PyData.list [.int a] = intsD [a] := rfl
theorem fold2 {a b : Int} : PyData.list [.int a, .int b] = intsD [a, b] := rfl
theorem arc_same {u x : Int} {ss : List Int} (hu : 0 < u) (hn : ss ≠ []) (h : ∀ s ∈ ss, s = x) : arcBy u ss = 0 := by
  have h1 := (arc_bounds (u := u) hu hn).1
  have h2 := arc_le_any (u := u) (y := x) hn hu
  have h3 : far u ss x ≤ 0 := far_le hn fun s hs => by rw [h s hs]; simp
  omega
theorem mem_rowP {u d i : Int} {bs : List (Int × Int)} {p : Int × Int} (i0 : 0 ≤ i) : p ∈ rowP u bs d i ↔ p.1 = i ∧ i < p.2 ∧ p.2 < bs.length ∧ plc u bs p.2 d = plc u bs i d := by
  unfold rowP
  rw [List.mem_map]
  constructor
  · rintro ⟨j, hj, rfl⟩
    rw [List.mem_filter, decide_eq_true_eq] at hj
    obtain ⟨h1, h2⟩ := hj
    have := (mem_rngl (lo := i + 1)).mp h1
    exact ⟨rfl, by show i < j; omega, by show j < _; omega, h2⟩
  · rintro ⟨h1, h2, h3, h4⟩
    refine ⟨p.2, List.mem_filter.mpr ⟨(mem_rngl (lo := i + 1)).mpr (by omega), decide_eq_true h4⟩, ?_⟩
    rw [← h1]
theorem mem_sameP {u d : Int} {bs : List (Int × Int)} {p : Int × Int} {m : Nat} : p ∈ sameP u bs d m ↔ 0 ≤ p.1 ∧ p.1 < m ∧ p.1 < p.2 ∧ p.2 < bs.length ∧ plc u bs p.2 d = plc u bs p.1 d := by
  unfold sameP
  rw [List.mem_flatten]
  constructor
  · rintro ⟨l, hl, hp⟩
    obtain ⟨i, hi, rfl⟩ := List.mem_map.mp hl
    have := List.mem_range.mp hi
    obtain ⟨h1, h2, h3, h4⟩ := (mem_rowP (by omega)).mp hp
    rw [h1]
    exact ⟨by omega, by omega, h2, h3, h4⟩
  · rintro ⟨h0, h1, h2, h3, h4⟩
    refine ⟨_, List.mem_map.mpr ⟨p.1.toNat, List.mem_range.mpr (by omega), rfl⟩, ?_⟩
    have e : (p.1.toNat : Int) = p.1 := by omega
    rw [e]
    exact (mem_rowP h0).mpr ⟨rfl, h2, h3, h4⟩
theorem idx_spec {l : List Int} {y : Int} (h : y ∈ l) : 0 ≤ idx l y ∧ idx l y < l.length ∧ nth l (idx l y) = y := by
  unfold idx
  cases e : l.findIdx? fun z => z == y with
  | none =>
    rw [List.findIdx?_eq_none_iff] at e
    have := e y h
    simp at this
  | some j =>
    obtain ⟨hj, h2, _⟩ := List.findIdx?_eq_some_iff_getElem.mp e
    simp only [Option.getD_some]
    refine ⟨by omega, by omega, ?_⟩
    unfold nth
    rw [show ((j : Int)).toNat = j by omega, List.getD_eq_getElem?_getD, List.getElem?_eq_getElem hj]
    simpa using h2
theorem nth_ways {bs : List (Int × Int)} {i d : Int} (h0 : 0 ≤ i) (h1 : i < bs.length) : nth (ways bs d) i = way bs i d := by
  have : i.toNat < bs.length := by omega
  unfold nth ways
  rw [List.getD_eq_getElem?_getD, List.getElem?_map, List.getElem?_range this]
  simp only [Option.map_some, Option.getD_some]
  congr 1
  omega
theorem nth_plcs {u : Int} {bs : List (Int × Int)} {i d : Int} (h0 : 0 ≤ i) (h1 : i < bs.length) : nth (plcs u bs d) i = plc u bs i d := by
  have : i.toNat < bs.length := by omega
  unfold nth plcs
  rw [List.getD_eq_getElem?_getD, List.getElem?_map, List.getElem?_range this]
  simp only [Option.map_some, Option.getD_some]
  congr 1
  omega
end Sk
set_option linter.all false
namespace Sk
open PySem
/-! so that simp reads a text from its head, and leaves what comes after alone: what comes after stands in a type -/
inductive Tag {α : Type} (a : α) : Type where
  | mk
def mustF {Q : D → Prop} (o : Option D) (_ : Tag Q) : Prop := must o Q
def boolF {Q : Bool → Prop} (d : D) (_ : Tag Q) : Prop := asBool Q d
def intF {Q : Int → Prop} (d : D) (_ : Tag Q) : Prop := asInt Q d
def listF {Q : List D → Prop} (d : D) (_ : Tag Q) : Prop := asList Q d
def tupF {Q : List D → Prop} (d : D) (_ : Tag Q) : Prop := asTup Q d
def atV {Q : D → Prop} (s : Sl) (_ : Tag Q) : Prop := match s with
  | .d x => Q x
  | .own xs => Q (.list xs)
  | .no => False
def atO {Q : List D → Prop} (s : Sl) (_ : Tag Q) : Prop := match s with
  | .own xs => Q xs
  | _ => False
def cnd {a b : Prop} (t : Bool) (_ : Tag (a, b)) : Prop := match t with
  | true => a
  | false => b
def bindF {K : Ev → Prop} (ts : List Nat) (x : D) (G : Ev) (_ : Tag K) : Prop := bindT ts x G K
def forF {f : D → Ev → (Ev → Prop) → Prop} {K : Ev → Prop} (xs : List D) (G : Ev) (_ : Tag (f, K)) : Prop := wpFor f xs G K
def lcF {f : D → (Option D → Prop) → Prop} {Q : List D → Prop} (xs acc : List D) (_ : Tag (f, Q)) : Prop := wpLc f xs acc Q
def ssF {K : Ends} (T : Fn → Spec) (b : Ss) (G : Ev) (_ : Tag K) : Prop := wpSs T b G K
def callF {Q : D → Prop} {X : Exn → Prop} (S : Spec) (ds : List D) (_ : Tag (Q, X)) : Prop := S ds Q X
theorem mustF_s {Q : D → Prop} {d : D} {w : Tag Q} : mustF (some d) w = Q d := propext Iff.rfl
theorem boolF_b {Q : Bool → Prop} {b : Bool} {w : Tag Q} : boolF (.bool b) w = Q b := propext Iff.rfl
theorem intF_i {Q : Int → Prop} {b : Int} {w : Tag Q} : intF (.int b) w = Q b := propext Iff.rfl
theorem listF_l {Q : List D → Prop} {b : List D} {w : Tag Q} : listF (.list b) w = Q b := propext Iff.rfl
theorem listF_p {Q : List D → Prop} {b : List (Int × Int)} {w : Tag Q} : listF (pairsD b) w = Q (b.map pairD) := propext Iff.rfl
theorem listF_i {Q : List D → Prop} {b : List Int} {w : Tag Q} : listF (intsD b) w = Q (b.map .int) := propext Iff.rfl
theorem tupF_t {Q : List D → Prop} {b : List D} {w : Tag Q} : tupF (.tuple b) w = Q b := propext Iff.rfl
theorem atV_d {x : D} {Q : D → Prop} {w : Tag Q} : atV (.d x) w = Q x := propext Iff.rfl
theorem atV_o {x : List D} {Q : D → Prop} {w : Tag Q} : atV (.own x) w = Q (.list x) := propext Iff.rfl
theorem atO_o {x : List D} {Q : List D → Prop} {w : Tag Q} : atO (.own x) w = Q x := propext Iff.rfl
theorem cnd_t {a b : Prop} {w : Tag (a, b)} : cnd true w = a := propext Iff.rfl
theorem cnd_f {a b : Prop} {w : Tag (a, b)} : cnd false w = b := propext Iff.rfl
theorem cnd_ite {c : Bool} {a b : Prop} {w : Tag (a, b)} : cnd c w = if c = true then a else b := by cases c <;> simp [cnd]
theorem bindF_1 {i : Nat} {x : D} {G : Ev} {K : Ev → Prop} {w : Tag K} : bindF [i] x G w = K (setS G i (.d x)) := propext Iff.rfl
theorem bindF_2 {i j : Nat} {x y : D} {G : Ev} {K : Ev → Prop} {w : Tag K} : bindF [i, j] (.tuple [x, y]) G w = K (setS (setS G i (.d x)) j (.d y)) := propext Iff.rfl
theorem bindF_p {i j : Nat} {p : Int × Int} {G : Ev} {K : Ev → Prop} {w : Tag K} : bindF [i, j] (pairD p) G w = K (setS (setS G i (.d (.int p.1))) j (.d (.int p.2))) := propext Iff.rfl
section
variable {T : Fn → Spec} {G : Ev} {Q : D → Prop} {X : Exn → Prop} {K : Ends}
theorem e_var {i : Nat} : wpE T (.var i) G Q X = atV (getS G i) (.mk : Tag Q) := by
  simp only [wpE]
  cases getS G i <;> rfl
theorem e_ci {i : Int} : wpE T (.ci i) G Q X = Q (.int i) := by
  simp only [wpE]
  try rfl
theorem e_cs {i : Str} : wpE T (.cs i) G Q X = Q (.str i) := by
  simp only [wpE]
  try rfl
theorem e_cb {i : Bool} : wpE T (.cb i) G Q X = Q (.bool i) := by
  simp only [wpE]
  try rfl
theorem e_cn : wpE T .cn G Q X = Q .none := by
  simp only [wpE]
  try rfl
theorem e_gc {g : Gc} : wpE T (.gc g) G Q X = Q (gcv g) := by
  simp only [wpE]
  try rfl
theorem e_bin {op : Bop} {a b : E} : wpE T (.bin op a b) G Q X = wpE T a G (fun x => wpE T b G (fun y => mustF (bop op x y) (.mk : Tag Q)) X) X := by
  simp only [wpE]
  try rfl
theorem e_neg {a : E} : wpE T (.neg a) G Q X = wpE T a G (fun z => intF z (.mk : Tag (fun i => Q (.int (-i))))) X := by
  simp only [wpE]
  try rfl
theorem e_inot {a : E} : wpE T (.inot a) G Q X = wpE T a G (fun z => boolF z (.mk : Tag (fun i => Q (.bool (!i))))) X := by
  simp only [wpE]
  try rfl
theorem e_cmp {op : Cop} {a b : E} : wpE T (.cmp op a b) G Q X = wpE T a G (fun x => wpE T b G (fun y => mustF (cop op x y) (.mk : Tag Q)) X) X := by
  simp only [wpE]
  try rfl
theorem e_chain {o p : Cop} {a b c : E} : wpE T (.chain o p a b c) G Q X = wpE T a G (fun x => wpE T b G (fun y => mustF (cop o x y) (.mk : Tag (fun z => boolF z (.mk : Tag (fun t => cnd t (.mk : Tag (wpE T c G (fun z => mustF (cop p y z) (.mk : Tag Q)) X, Q (.bool false)))))))) X) X := by
  simp only [wpE, mustF, boolF, cnd_ite]
  try rfl
theorem e_isN {a : E} : wpE T (.isN a) G Q X = wpE T a G (fun x => Q (.bool (isNon x))) X := by
  simp only [wpE]
  try rfl
theorem e_notN {a : E} : wpE T (.notN a) G Q X = wpE T a G (fun x => Q (.bool (!isNon x))) X := by
  simp only [wpE]
  try rfl
theorem e_isB {v : Bool} {a : E} : wpE T (.isB v a) G Q X = wpE T a G (fun z => boolF z (.mk : Tag (fun b => Q (.bool (decide (b = v)))))) X := by
  simp only [wpE]
  try rfl
theorem e_notB {v : Bool} {a : E} : wpE T (.notB v a) G Q X = wpE T a G (fun z => boolF z (.mk : Tag (fun b => Q (.bool (!decide (b = v)))))) X := by
  simp only [wpE]
  try rfl
theorem e_bool {an : Bool} {es : Es} : wpE T (.bool an es) G Q X = wpB T an es G Q X := by
  simp only [wpE]
  try rfl
theorem e_ife {c a b : E} : wpE T (.ife c a b) G Q X = wpE T c G (fun z => boolF z (.mk : Tag (fun t => cnd t (.mk : Tag (wpE T a G Q X, wpE T b G Q X))))) X := by
  simp only [wpE, mustF, boolF, cnd_ite]
  try rfl
theorem e_ix {a i : E} : wpE T (.ix a i) G Q X = wpE T a G (fun x => wpE T i G (fun y => mustF (ixOp x y) (.mk : Tag Q)) X) X := by
  simp only [wpE]
  try rfl
theorem e_slc {a : E} {lo hi : O} : wpE T (.slc a lo hi) G Q X = wpE T a G (fun x => wpO T lo G (fun l => wpO T hi G (fun h => mustF (slOp x l h) (.mk : Tag Q)) X) X) X := by
  simp only [wpE]
  try rfl
theorem e_tup {es : Es} : wpE T (.tup es) G Q X = wpEs T es G (fun ds => ds.length ≤ lim ∧ plain ds = true ∧ Q (.tuple ds)) X := by
  simp only [wpE]
  try rfl
theorem e_lst {es : Es} : wpE T (.lst es) G Q X = wpEs T es G (fun ds => ds.length ≤ lim ∧ plain ds = true ∧ Q (.list ds)) X := by
  simp only [wpE]
  try rfl
theorem e_call {f : Fn} {es : Es} : wpE T (.call f es) G Q X = wpEs T es G (fun ds => callF (T f) ds (.mk : Tag (Q, X))) X := by
  simp only [wpE]
  try rfl
theorem e_bi {b : BI} {es : Es} : wpE T (.bi b es) G Q X = wpEs T es G (fun ds => mustF (bsem b ds) (.mk : Tag Q)) X := by
  simp only [wpE]
  try rfl
theorem e_mth {m : Mt} {o : E} {es : Es} : wpE T (.mth m o es) G Q X = wpE T o G (fun x => mtTy m x = true ∧ wpEs T es G (fun ds => mustF (msem m x ds) (.mk : Tag Q)) X) X := by
  simp only [wpE]
  try rfl
theorem e_lc {ts : List Nat} {it : It} {c : O} {e : E} : wpE T (.lc ts it c e) G Q X = wpI T it G (fun xs => xs.length ≤ lim ∧
      lcF xs [] (.mk : Tag ((fun (x : D) (k : Option D → Prop) => bindF ts x G (.mk : Tag fun G2 => wpC T c G2 (fun t => if t = true then wpE T e G2 (fun y => isTok y = false ∧ k (some y)) (fun _ => False) else k none) (fun _ => False))), (fun (ys : List D) => Q (.list ys))))) X := by
  simp only [wpE]
  try rfl
theorem e_isi {a : E} {t : Ty} : wpE T (.isi a t) G Q X = wpE T a G (fun x => isTok x = false ∧ Q (.bool (isiD x t))) X := by
  simp only [wpE]
  try rfl
theorem e_srtSet {a : E} : wpE T (.srtSet a) G Q X = wpE T a G (fun z => listF z (.mk : Tag (fun xs => xs.length ≤ 4000 ∧ mustF ((ints? xs).map fun ns => intsD (isort (dedup ns))) (.mk : Tag Q)))) X := by
  simp only [wpE]
  try rfl
theorem e_lenSet {a : E} : wpE T (.lenSet a) G Q X = wpE T a G (fun z => listF z (.mk : Tag (fun xs => xs.length ≤ 4000 ∧ mustF ((ints? xs).map fun ns => .int ((dedup ns).length : Nat)) (.mk : Tag Q)))) X := by
  simp only [wpE]
  try rfl
theorem e_lstRg {a b : E} {c : O} : wpE T (.lstRg (.some a) (.some b) c) G Q X = wpE T a G (fun z => intF z (.mk : Tag (fun l => wpE T b G (fun z => intF z (.mk : Tag (fun h => (-big ≤ l ∧ l ≤ big ∧ -big ≤ h ∧ h - l ≤ 100000) ∧ Q (.list (rangeD l (h - l).toNat))))) X))) X := by
  simp only [wpE, wpO]
  try rfl
theorem e_lstRg3 {a b c : E} : wpE T (.lstRg3 a b c) G Q X = wpE T a G (fun z => intF z (.mk : Tag (fun l => wpE T b G (fun z => intF z (.mk : Tag (fun h => wpE T c G (fun z => intF z (.mk : Tag (fun s => (0 ≤ l ∧ l ≤ 1000 ∧ 0 ≤ h ∧ h ≤ 1000 ∧ 0 < s ∧ s ≤ 1000) ∧ Q (.list (rangeS l s (rgN l h s)))))) X))) X))) X := by
  simp only [wpE]
  try rfl
theorem es_nil {Q : List D → Prop} : wpEs T .nil G Q X = Q [] := by
  simp only [wpEs]
  try rfl
theorem es_cons {e : E} {r : Es} {Q : List D → Prop} : wpEs T (.cons e r) G Q X = wpE T e G (fun x => wpEs T r G (fun xs => Q (x :: xs)) X) X := by
  simp only [wpEs]
  try rfl
theorem eb_one {an : Bool} {e : E} : wpB T an (.cons e .nil) G Q X = wpE T e G (fun z => boolF z (.mk : Tag (fun t => Q (.bool t)))) X := by
  simp only [wpB]
  try rfl
theorem eb_and {e e2 : E} {r : Es} : wpB T true (.cons e (.cons e2 r)) G Q X = wpE T e G (fun z => boolF z (.mk : Tag (fun t => cnd t (.mk : Tag (wpB T true (.cons e2 r) G Q X, Q (.bool t)))))) X := by
  simp only [wpB, boolF, cnd_ite]
  try rfl
theorem eb_or {e e2 : E} {r : Es} : wpB T false (.cons e (.cons e2 r)) G Q X = wpE T e G (fun z => boolF z (.mk : Tag (fun t => cnd t (.mk : Tag (Q (.bool t), wpB T false (.cons e2 r) G Q X))))) X := by
  have : ∀ (t : Bool) (a b : Prop), (if t = false then a else b) = cnd t (.mk : Tag (b, a)) := by intro t a b; cases t <;> simp [cnd]
  simp only [wpB, boolF, this]
  try rfl
theorem eo_none {Q : Option Int → Prop} : wpO T .none G Q X = Q none := by
  simp only [wpO]
  try rfl
theorem eo_some {e : E} {Q : Option Int → Prop} : wpO T (.some e) G Q X = wpE T e G (fun z => intF z (.mk : Tag (fun i => Q (some i)))) X := by
  simp only [wpO]
  try rfl
theorem ec_none {Q : Bool → Prop} : wpC T .none G Q X = Q true := by
  simp only [wpC]
  try rfl
theorem ec_some {e : E} {Q : Bool → Prop} : wpC T (.some e) G Q X = wpE T e G (fun z => boolF z (.mk : Tag (Q))) X := by
  simp only [wpC]
  try rfl
theorem ei_list {e : E} {Q : List D → Prop} : wpI T (.list e) G Q X = wpE T e G (fun z => listF z (.mk : Tag (Q))) X := by
  simp only [wpI]
  try rfl
theorem ei_tup {e : E} {Q : List D → Prop} : wpI T (.tup e) G Q X = wpE T e G (fun z => tupF z (.mk : Tag (Q))) X := by
  simp only [wpI]
  try rfl
theorem ei_rg1 {a : E} {Q : List D → Prop} : wpI T (.rg1 a) G Q X = wpE T a G (fun z => intF z (.mk : Tag (fun n => -big ≤ n ∧ n ≤ big ∧ Q (rangeD 0 n.toNat)))) X := by
  simp only [wpI]
  try rfl
theorem ei_rg2 {a b : E} {Q : List D → Prop} : wpI T (.rg2 a b) G Q X = wpE T a G (fun z => intF z (.mk : Tag (fun l => wpE T b G (fun z => intF z (.mk : Tag (fun n => (-big ≤ l ∧ l ≤ big ∧ -big ≤ n ∧ n ≤ big) ∧ Q (rangeD l (n - l).toNat)))) X))) X := by
  simp only [wpI]
  try rfl
theorem ei_rg3 {a b c : E} {Q : List D → Prop} : wpI T (.rg3 a b c) G Q X = wpE T a G (fun z => intF z (.mk : Tag (fun l => wpE T b G (fun z => intF z (.mk : Tag (fun n => wpE T c G (fun z => intF z (.mk : Tag (fun s => s = -1 ∧ (-big ≤ l ∧ l ≤ big ∧ -big ≤ n ∧ n ≤ big) ∧ Q (rangeDown l (l - n).toNat)))) X))) X))) X := by
  simp only [wpI]
  try rfl
theorem ei_zip {a b : E} {Q : List D → Prop} : wpI T (.zip a b) G Q X = wpE T a G (fun z => listF z (.mk : Tag (fun xs => wpE T b G (fun z => listF z (.mk : Tag (fun ys => Q ((xs.zip ys).map fun p => .tuple [p.1, p.2])))) X))) X := by
  simp only [wpI]
  try rfl
theorem s_asgt {i : Nat} {e : E} : wpS T (.asg true i e) G K = wpE T e G (fun x => noList x = true ∧ K.nx (setS G i (.d x))) K.ex := by
  simp only [wpS]
  try rfl
theorem s_asg {i : Nat} {e : E} : wpS T (.asg false i e) G K = wpE T e (blank G) (fun x => K.nx (setS G i (.d x))) K.ex := by
  simp only [wpS]
  try rfl
theorem s_own {i : Nat} {e : E} : wpS T (.own i e) G K = wpE T e (blank G) (fun z => listF z (.mk : Tag (fun xs => K.nx (setS G i (.own xs))))) K.ex := by
  simp only [wpS]
  try rfl
theorem s_asgT {ts : List Nat} {e : E} : wpS T (.asgT ts e) G K = wpE T e (blank G) (fun x => bindF ts x G (.mk : Tag K.nx)) K.ex := by
  simp only [wpS]
  try rfl
theorem s_par {i j : Nat} {a b : E} : wpS T (.par i j a b) G K = wpE T a (blank G) (fun x => wpE T b (blank G) (fun y => K.nx (setS (setS G i (.d x)) j (.d y))) K.ex) K.ex := by
  simp only [wpS]
  try rfl
theorem s_expr {e : E} : wpS T (.expr e) G K = wpE T e G (fun _ => K.nx G) K.ex := by
  simp only [wpS]
  try rfl
theorem s_app {i : Nat} {e : E} : wpS T (.app i e) G K = atO (getS G i) (.mk : Tag fun (xs : List D) => wpE T e G (fun x => noList x = true ∧ xs.length < lim ∧ K.nx (setS G i (.own (xs ++ [x])))) K.ex) := by
  simp only [wpS]
  cases getS G i <;> rfl
theorem s_setix {i : Nat} {k e : E} : wpS T (.setix i k e) G K = atO (getS G i) (.mk : Tag fun (xs : List D) => wpE T e G (fun x => noList x = true ∧ wpE T k G (fun z => intF z (.mk : Tag (fun (n : Int) => match ixD xs.length n with
      | some j => K.nx (setS G i (.own (xs.set j x)))
      | none => False))) K.ex) K.ex) := by
  simp only [wpS]
  cases getS G i <;> rfl
theorem s_augix {i : Nat} {k e : E} : wpS T (.augix i k e) G K = atO (getS G i) (.mk : Tag fun (xs : List D) => wpE T k G (fun z => intF z (.mk : Tag (fun (n : Int) => match atD xs n, ixD xs.length n with
      | some (.int o), some j => wpE T e G (fun z => intF z (.mk : Tag (fun v => K.nx (setS G i (.own (xs.set j (.int (o + v)))))))) K.ex
      | _, _ => False))) K.ex) := by
  simp only [wpS]
  cases getS G i <;> rfl
theorem s_iadd {i : Nat} {e : E} : wpS T (.iadd i e) G K = atO (getS G i) (.mk : Tag fun (xs : List D) => wpE T e (blank G) (fun z => listF z (.mk : Tag (fun ys => xs.length + ys.length ≤ lim ∧ K.nx (setS G i (.own (xs ++ ys)))))) K.ex) := by
  simp only [wpS]
  cases getS G i <;> rfl
theorem s_rem {i : Nat} {e : E} : wpS T (.rem i e) G K = atO (getS G i) (.mk : Tag fun (xs : List D) => wpE T e G (fun z => intF z (.mk : Tag (fun (k : Int) => match ints? xs with
      | some ns => k ∈ ns ∧ K.nx (setS G i (.own ((ns.erase k).map .int)))
      | none => False))) K.ex) := by
  simp only [wpS]
  cases getS G i <;> rfl
theorem s_ret {e : E} : wpS T (.ret e) G K = wpE T e G K.rt K.ex := by
  simp only [wpS]
  try rfl
theorem s_ifs {c : E} {a b : Ss} : wpS T (.ifs c a b) G K = wpE T c G (fun z => boolF z (.mk : Tag (fun t => cnd t (.mk : Tag (ssF T a G (.mk : Tag K), ssF T b G (.mk : Tag K)))))) K.ex := by
  simp only [wpS, boolF, ssF, cnd_ite]
  try rfl
theorem s_fors {ts : List Nat} {it : It} {b : Ss} : wpS T (.fors ts it b) G K = wpI T it (blank G) (fun xs => forF xs G (.mk : Tag ((fun (x : D) (G1 : Ev) (nx : Ev → Prop) => bindF ts x G1 (.mk : Tag fun G2 => ssF T b G2 (.mk : Tag { K with nx := nx, ct := nx, bk := K.nx }))), K.nx))) K.ex := by
  simp only [wpS]
  try rfl
theorem s_whil {c : E} {b : Ss} : wpS T (.whil c b) G K = ∃ W : Nat → Ev → Prop, (∃ m, W m G) ∧ ∀ m G1, W m G1 → wpE T c G1 (fun z => boolF z (.mk : Tag (fun t => if t = true then
      wpSs T b G1 { K with nx := fun G2 => ∃ m', m' < m ∧ W m' G2, ct := fun G2 => ∃ m', m' < m ∧ W m' G2, bk := K.nx } else K.nx G1))) K.ex := by
  simp only [wpS]
  try rfl
theorem s_raise {x : Exn} : wpS T (.raise x) G K = K.ex x := by
  simp only [wpS]
  try rfl
theorem s_shut {i : Nat} : wpS T (.shut i) G K = atO (getS G i) (.mk : Tag fun (xs : List D) => K.nx (setS G i (.d (.list xs)))) := by
  simp only [wpS]
  cases getS G i <;> rfl
theorem ss_nil : wpSs T .nil G K = K.nx G := by
  simp only [wpSs]
  try rfl
theorem ss_cons {s : S} {r : Ss} : wpSs T (.cons s r) G K = wpS T s G { K with nx := fun G' => ssF T r G' (.mk : Tag K) } := by
  simp only [wpSs]
  try rfl
theorem sf_nil {w : Tag K} : ssF T .nil G w = K.nx G := ss_nil
theorem sf_cons {s : S} {r : Ss} {w : Tag K} : ssF T (.cons s r) G w = wpS T s G { K with nx := fun G' => ssF T r G' (.mk : Tag K) } := ss_cons
end
end Sk
set_option linter.all false
set_option maxRecDepth 10000
namespace Sk
open PySem
theorem d_check_sky {u : Int} {bs : List (Int × Int)} {Q : D → Prop} {X : Exn → Prop} {wq : Tag (Q, X)} (h0 : Sky u bs) : callF sp_check_sky [skyD u bs] wq = (Q (.none)) := c_check_sky h0
theorem d_check_body {u : Int} {bs : List (Int × Int)} {b : Int} {Q : D → Prop} {X : Exn → Prop} {wq : Tag (Q, X)} (h0 : Sky u bs) (h1 : 0 ≤ b) (h2 : b < bs.length) : callF sp_check_body [skyD u bs, .int b] wq = (Q (.none)) := c_check_body h0 h1 h2
theorem d_check_day {d : Int} {Q : D → Prop} {X : Exn → Prop} {wq : Tag (Q, X)} (h0 : 0 ≤ d) (h1 : d ≤ 1000000) : callF sp_check_day [.int d] wq = (Q (.none)) := c_check_day h0 h1
theorem d_place_of {u : Int} {bs : List (Int × Int)} {b : Int} {d : Int} {Q : D → Prop} {X : Exn → Prop} {wq : Tag (Q, X)} (h0 : Sky u bs) (h1 : 0 ≤ b) (h2 : b < bs.length) (h3 : -1000 ≤ d) (h4 : d ≤ 10000000) : callF sp_place_of [skyD u bs, .int b, .int d] wq = (Q (.int (plc u bs b d))) := c_place_of h0 h1 h2 h3 h4
theorem d_place {u : Int} {bs : List (Int × Int)} {b : Int} {d : Int} {Q : D → Prop} {X : Exn → Prop} {wq : Tag (Q, X)} (h0 : Sky u bs) (h1 : 0 ≤ b) (h2 : b < bs.length) (h3 : 0 ≤ d) (h4 : d ≤ 1000000) : callF sp_place [skyD u bs, .int b, .int d] wq = (Q (.int (plc u bs b d))) := c_place h0 h1 h2 h3 h4
theorem d_places {u : Int} {bs : List (Int × Int)} {d : Int} {Q : D → Prop} {X : Exn → Prop} {wq : Tag (Q, X)} (h0 : Sky u bs) (h1 : 0 ≤ d) (h2 : d ≤ 1000000) : callF sp_places [skyD u bs, .int d] wq = (Q (intsD (plcs u bs d))) := c_places h0 h1 h2
theorem d_ahead {u : Int} {bs : List (Int × Int)} {b : Int} {c : Int} {d : Int} {Q : D → Prop} {X : Exn → Prop} {wq : Tag (Q, X)} (h0 : Sky u bs) (h1 : 0 ≤ b) (h2 : b < bs.length) (h3 : 0 ≤ c) (h4 : c < bs.length) (h5 : 0 ≤ d) (h6 : d ≤ 1000000) : callF sp_ahead [skyD u bs, .int b, .int c, .int d] wq = (Q (.int ((plc u bs c d - plc u bs b d) % u))) := c_ahead h0 h1 h2 h3 h4 h5 h6
theorem d_distance {u : Int} {bs : List (Int × Int)} {b : Int} {c : Int} {d : Int} {Q : D → Prop} {X : Exn → Prop} {wq : Tag (Q, X)} (h0 : Sky u bs) (h1 : 0 ≤ b) (h2 : b < bs.length) (h3 : 0 ≤ c) (h4 : c < bs.length) (h5 : 0 ≤ d) (h6 : d ≤ 1000000) : callF sp_distance [skyD u bs, .int b, .int c, .int d] wq = (Q (.int (min ((plc u bs c d - plc u bs b d) % u) (u - (plc u bs c d - plc u bs b d) % u)))) := c_distance h0 h1 h2 h3 h4 h5 h6
theorem d_lat {u : Int} {bs : List (Int × Int)} {b : Int} {d : Int} {Q : D → Prop} {X : Exn → Prop} {wq : Tag (Q, X)} (h0 : Sky u bs) (h1 : 0 ≤ b) (h2 : b < bs.length) (h3 : -1000 ≤ d) (h4 : d ≤ 10000000) : callF sp_lat [skyD u bs, .int b, .int d] wq = (Q (.int (plc u bs b d))) := c_lat h0 h1 h2 h3 h4
theorem d_ldraw {lm : Int} {Q : D → Prop} {X : Exn → Prop} {wq : Tag (Q, X)} (h0 : 0 < lm) (h1 : lm ≤ 1000000000) : callF sp_ldraw [.dict [], .int lm] wq = (∀ r, 0 ≤ r → r < lm → Q (.int r)) := c_ldraw h0 h1
theorem d_lpick {l : List Int} {Q : D → Prop} {X : Exn → Prop} {wq : Tag (Q, X)} (h0 : 0 < l.length) (h1 : l.length ≤ 1000000) : callF sp_lpick [.dict [], intsD l] wq = (∀ r, r ∈ l → Q (.int r)) := c_lpick h0 h1
theorem d_lsky {m : Int} {n : Int} {Q : D → Prop} {X : Exn → Prop} {wq : Tag (Q, X)} (h0 : 2 ≤ m) (h1 : m ≤ 120) (h2 : 1 ≤ n) (h3 : n ≤ 4) : callF sp_lsky [.dict [], .int m, .int n] wq = (∀ u bs, Sky u bs → u ≤ m → bs.length ≤ n → Q (skyD u bs)) := c_lsky h0 h1 h2 h3
theorem d_way_of {u : Int} {bs : List (Int × Int)} {b : Int} {d : Int} {Q : D → Prop} {X : Exn → Prop} {wq : Tag (Q, X)} (h0 : Sky u bs) (h1 : 0 ≤ b) (h2 : b < bs.length) (h3 : -1000 ≤ d) (h4 : d ≤ 10000000) : callF sp_way_of [skyD u bs, .int b, .int d] wq = (Q (.int (way bs b d))) := c_way_of h0 h1 h2 h3 h4
theorem d_rounds {u : Int} {bs : List (Int × Int)} {b : Int} {d : Int} {Q : D → Prop} {X : Exn → Prop} {wq : Tag (Q, X)} (h0 : Sky u bs) (h1 : 0 ≤ b) (h2 : b < bs.length) (h3 : 0 ≤ d) (h4 : d ≤ 1000000) : callF sp_rounds [skyD u bs, .int b, .int d] wq = (Q (.int (way bs b d / u))) := c_rounds h0 h1 h2 h3 h4
theorem d_laps_of {u : Int} {bs : List (Int × Int)} {b : Int} {c : Int} {d : Int} {Q : D → Prop} {X : Exn → Prop} {wq : Tag (Q, X)} (h0 : Sky u bs) (h1 : 0 ≤ b) (h2 : b < bs.length) (h3 : 0 ≤ c) (h4 : c < bs.length) (h5 : 0 ≤ d) (h6 : d ≤ 1000000) : callF sp_laps_of [skyD u bs, .int b, .int c, .int d] wq = (Q (.int ((way bs b d - way bs c d) / u))) := c_laps_of h0 h1 h2 h3 h4 h5 h6
theorem d_laps {u : Int} {bs : List (Int × Int)} {b : Int} {c : Int} {d : Int} {Q : D → Prop} {X : Exn → Prop} {wq : Tag (Q, X)} (h0 : Sky u bs) (h1 : 0 ≤ b) (h2 : b < bs.length) (h3 : 0 ≤ c) (h4 : c < bs.length) (h5 : 0 ≤ d) (h6 : d ≤ 1000000) : callF sp_laps [skyD u bs, .int b, .int c, .int d] wq = (Q (.int ((way bs b d - way bs c d) / u))) := c_laps h0 h1 h2 h3 h4 h5 h6
theorem d_overtakings {u : Int} {bs : List (Int × Int)} {b : Int} {c : Int} {d : Int} {Q : D → Prop} {X : Exn → Prop} {wq : Tag (Q, X)} (h0 : Sky u bs) (h1 : 0 ≤ b) (h2 : b < bs.length) (h3 : 0 ≤ c) (h4 : c < bs.length) (h5 : 0 ≤ d) (h6 : d ≤ 1000000) : callF sp_overtakings [skyD u bs, .int b, .int c, .int d] wq = (Q (.int (overt u bs b c d))) := c_overtakings h0 h1 h2 h3 h4 h5 h6
theorem d_overtaking_days {u : Int} {bs : List (Int × Int)} {b : Int} {c : Int} {n : Int} {Q : D → Prop} {X : Exn → Prop} {wq : Tag (Q, X)} (h0 : Sky u bs) (h1 : 0 ≤ b) (h2 : b < bs.length) (h3 : 0 ≤ c) (h4 : c < bs.length) (h5 : 0 ≤ n) (h6 : n ≤ 1000000) : callF sp_overtaking_days [skyD u bs, .int b, .int c, .int n] wq = (Q (intsD (otDays u bs b c n))) := c_overtaking_days h0 h1 h2 h3 h4 h5 h6
theorem d_leader {u : Int} {bs : List (Int × Int)} {d : Int} {Q : D → Prop} {X : Exn → Prop} {wq : Tag (Q, X)} (h0 : Sky u bs) (h1 : 0 ≤ d) (h2 : d ≤ 1000000) : callF sp_leader [skyD u bs, .int d] wq = (Q (.int (idx (ways bs d) (lmax (ways bs d))))) := c_leader h0 h1 h2
theorem d_same_place {u : Int} {bs : List (Int × Int)} {d : Int} {Q : D → Prop} {X : Exn → Prop} {wq : Tag (Q, X)} (h0 : Sky u bs) (h1 : 0 ≤ d) (h2 : d ≤ 1000000) : callF sp_same_place [skyD u bs, .int d] wq = (Q (pairsD (sameP u bs d bs.length))) := c_same_place h0 h1 h2
theorem d_check_some {u : Int} {bs : List (Int × Int)} {l : List Int} {Q : D → Prop} {X : Exn → Prop} {wq : Tag (Q, X)} (h0 : Sky u bs) (h1 : Sel bs l) : callF sp_check_some [skyD u bs, intsD l] wq = (Q (.none)) := c_check_some h0 h1
theorem d_arc_of {u : Int} {bs : List (Int × Int)} {l : List Int} {d : Int} {Q : D → Prop} {X : Exn → Prop} {wq : Tag (Q, X)} (h0 : Sky u bs) (h1 : Sel bs l) (h2 : -1000 ≤ d) (h3 : d ≤ 10000000) : callF sp_arc_of [skyD u bs, intsD l, .int d] wq = (Q (.int (arcBy u (spots u bs l d)))) := c_arc_of h0 h1 h2 h3
theorem d_arc {u : Int} {bs : List (Int × Int)} {l : List Int} {d : Int} {Q : D → Prop} {X : Exn → Prop} {wq : Tag (Q, X)} (h0 : Sky u bs) (h1 : Sel bs l) (h2 : 0 ≤ d) (h3 : d ≤ 1000000) : callF sp_arc [skyD u bs, intsD l, .int d] wq = (Q (.int (arcBy u (spots u bs l d)))) := c_arc h0 h1 h2 h3
theorem d_arc_starts {u : Int} {bs : List (Int × Int)} {l : List Int} {d : Int} {Q : D → Prop} {X : Exn → Prop} {wq : Tag (Q, X)} (h0 : Sky u bs) (h1 : Sel bs l) (h2 : 0 ≤ d) (h3 : d ≤ 1000000) : callF sp_arc_starts [skyD u bs, intsD l, .int d] wq = (Q (intsD (arcStarts u bs l d))) := c_arc_starts h0 h1 h2 h3
theorem d_order {u : Int} {bs : List (Int × Int)} {d : Int} {Q : D → Prop} {X : Exn → Prop} {wq : Tag (Q, X)} (h0 : Sky u bs) (h1 : 0 ≤ d) (h2 : d ≤ 1000000) : callF sp_order [skyD u bs, .int d] wq = (Q (intsD (ordr u bs d))) := c_order h0 h1 h2
theorem d_bodies_at {u : Int} {bs : List (Int × Int)} {x : D} {d : Int} {Q : D → Prop} {X : Exn → Prop} {wq : Tag (Q, X)} (h0 : Sky u bs) (h1 : isTok x = false) (h2 : 0 ≤ d) (h3 : d ≤ 1000000) : callF sp_bodies_at [skyD u bs, x, .int d] wq = (Q (intsD (bodiesAt u bs x d))) := c_bodies_at h0 h1 h2 h3
theorem d_larc {u : Int} {bs : List (Int × Int)} {l : List Int} {d : Int} {Q : D → Prop} {X : Exn → Prop} {wq : Tag (Q, X)} (h0 : Sky u bs) (h1 : Sel bs l) (h2 : -1000 ≤ d) (h3 : d ≤ 10000000) : callF sp_larc [skyD u bs, intsD l, .int d] wq = (Q (.int (arcBy u (spots u bs l d)))) := c_larc h0 h1 h2 h3
theorem d_lsome {u : Int} {bs : List (Int × Int)} {Q : D → Prop} {X : Exn → Prop} {wq : Tag (Q, X)} (h0 : Sky u bs) : callF sp_lsome [.dict [], skyD u bs] wq = (∀ l, Sel bs l → Q (intsD l)) := c_lsome h0
theorem d_check_bound {u : Int} {bs : List (Int × Int)} {b : Int} {Q : D → Prop} {X : Exn → Prop} {wq : Tag (Q, X)} (h0 : Sky u bs) (h1 : 0 ≤ b) (h2 : b < u) : callF sp_check_bound [skyD u bs, .int b] wq = (Q (.none)) := c_check_bound h0 h1 h2
theorem d_common {a : Int} {b : Int} {Q : D → Prop} {X : Exn → Prop} {wq : Tag (Q, X)} (h0 : 0 ≤ a) (h1 : 0 ≤ b) : callF sp_common [.int a, .int b] wq = (Q (.int (Int.gcd a b))) := c_common h0 h1
theorem d_joint {a : Int} {b : Int} {Q : D → Prop} {X : Exn → Prop} {wq : Tag (Q, X)} (h0 : 0 < a) (h1 : 0 < b) (h2 : a ≤ 1000000) : callF sp_joint [.int a, .int b] wq = (Q (.int (jnt a b))) := c_joint h0 h1 h2
theorem d_round_of {u : Int} {r : Int} {Q : D → Prop} {X : Exn → Prop} {wq : Tag (Q, X)} (h0 : 0 < u) (h1 : u ≤ 1000) (h2 : 0 ≤ r) : callF sp_round_of [.int u, .int r] wq = (Q (.int (rnd u r))) := c_round_of h0 h1 h2
theorem d_relative_of {u : Int} {bs : List (Int × Int)} {l : List Int} {Q : D → Prop} {X : Exn → Prop} {wq : Tag (Q, X)} (h0 : Sky u bs) (h1 : Sel bs l) : callF sp_relative_of [skyD u bs, intsD l] wq = (Q (.int (rel u bs l))) := c_relative_of h0 h1
theorem d_relative_period {u : Int} {bs : List (Int × Int)} {l : List Int} {Q : D → Prop} {X : Exn → Prop} {wq : Tag (Q, X)} (h0 : Sky u bs) (h1 : Sel bs l) : callF sp_relative_period [skyD u bs, intsD l] wq = (Q (.int (rel u bs l))) := c_relative_period h0 h1
theorem d_check_all {u : Int} {bs : List (Int × Int)} {l : List Int} {b : Int} {Q : D → Prop} {X : Exn → Prop} {wq : Tag (Q, X)} (h0 : Sky u bs) (h1 : Sel bs l) (h2 : 0 ≤ b) (h3 : b < u) : callF sp_check_all [skyD u bs, intsD l, .int b] wq = (Q (.none)) := c_check_all h0 h1 h2 h3
theorem d_days_of {u : Int} {bs : List (Int × Int)} {l : List Int} {b : Int} {Q : D → Prop} {X : Exn → Prop} {wq : Tag (Q, X)} (h0 : Sky u bs) (h1 : Sel bs l) : callF sp_days_of [skyD u bs, intsD l, .int b] wq = (Q (intsD (gdays u bs l b))) := c_days_of h0 h1
theorem d_together {u : Int} {bs : List (Int × Int)} {l : List Int} {b : Int} {d : Int} {Q : D → Prop} {X : Exn → Prop} {wq : Tag (Q, X)} (h0 : Sky u bs) (h1 : Sel bs l) (h2 : 0 ≤ b) (h3 : b < u) (h4 : 0 ≤ d) (h5 : d ≤ 1000000) : callF sp_together [skyD u bs, intsD l, .int b, .int d] wq = (Q (.bool (decide (arcAt u bs l d ≤ b)))) := c_together h0 h1 h2 h3 h4 h5
theorem d_days {u : Int} {bs : List (Int × Int)} {l : List Int} {b : Int} {Q : D → Prop} {X : Exn → Prop} {wq : Tag (Q, X)} (h0 : Sky u bs) (h1 : Sel bs l) (h2 : 0 ≤ b) (h3 : b < u) : callF sp_days [skyD u bs, intsD l, .int b] wq = (Q (intsD (gdays u bs l b))) := c_days h0 h1 h2 h3
theorem d_first_day {u : Int} {bs : List (Int × Int)} {l : List Int} {b : Int} {d : Int} {Q : D → Prop} {X : Exn → Prop} {wq : Tag (Q, X)} (h0 : Sky u bs) (h1 : Sel bs l) (h2 : 0 ≤ b) (h3 : b < u) (h4 : 0 ≤ d) (h5 : d ≤ 1000000) : callF sp_first_day [skyD u bs, intsD l, .int b, .int d] wq = (Q (optD (firstOf u bs l b d))) := c_first_day h0 h1 h2 h3 h4 h5
theorem d_last_day {u : Int} {bs : List (Int × Int)} {l : List Int} {b : Int} {d : Int} {Q : D → Prop} {X : Exn → Prop} {wq : Tag (Q, X)} (h0 : Sky u bs) (h1 : Sel bs l) (h2 : 0 ≤ b) (h3 : b < u) (h4 : 0 ≤ d) (h5 : d ≤ 1000000) : callF sp_last_day [skyD u bs, intsD l, .int b, .int d] wq = (Q (optD (lastOf u bs l b d))) := c_last_day h0 h1 h2 h3 h4 h5
theorem d_count_before {u : Int} {bs : List (Int × Int)} {l : List Int} {b : Int} {d : Int} {Q : D → Prop} {X : Exn → Prop} {wq : Tag (Q, X)} (h0 : Sky u bs) (h1 : Sel bs l) (h2 : 0 ≤ b) (h3 : b < u) (h4 : 0 ≤ d) (h5 : d ≤ 1000000) : callF sp_count_before [skyD u bs, intsD l, .int b, .int d] wq = (Q (.int (cntB u bs l b d))) := c_count_before h0 h1 h2 h3 h4 h5
theorem d_day_at {u : Int} {bs : List (Int × Int)} {l : List Int} {b : Int} {r : Int} {Q : D → Prop} {X : Exn → Prop} {wq : Tag (Q, X)} (h0 : Sky u bs) (h1 : Sel bs l) (h2 : 0 ≤ b) (h3 : b < u) (h4 : 0 ≤ r) (h5 : r ≤ 1000000) : callF sp_day_at [skyD u bs, intsD l, .int b, .int r] wq = (Q (if gdays u bs l b = [] then .none else .int (dayAt u bs l b r))) := c_day_at h0 h1 h2 h3 h4 h5
theorem d_least_bound {u : Int} {bs : List (Int × Int)} {l : List Int} {Q : D → Prop} {X : Exn → Prop} {wq : Tag (Q, X)} (h0 : Sky u bs) (h1 : Sel bs l) : callF sp_least_bound [skyD u bs, intsD l] wq = (Q (.int (lmin (arcs u bs l)))) := c_least_bound h0 h1
theorem d_arc_counts {u : Int} {bs : List (Int × Int)} {l : List Int} {Q : D → Prop} {X : Exn → Prop} {wq : Tag (Q, X)} (h0 : Sky u bs) (h1 : Sel bs l) : callF sp_arc_counts [skyD u bs, intsD l] wq = (Q (pairsD (cnts (arcs u bs l)))) := c_arc_counts h0 h1
theorem d_lrelative {u : Int} {bs : List (Int × Int)} {l : List Int} {Q : D → Prop} {X : Exn → Prop} {wq : Tag (Q, X)} (h0 : Sky u bs) (h1 : Sel bs l) : callF sp_lrelative [skyD u bs, intsD l] wq = (Q (.int (rel u bs l))) := c_lrelative h0 h1
theorem d_ltrue {a : Bool} {b : Bool} {Q : D → Prop} {X : Exn → Prop} {wq : Tag (Q, X)}  : callF sp_ltrue [.bool a, .bool b] wq = (Q (.bool (decide (a = b)))) := c_ltrue 
theorem d_body_period {u : Int} {bs : List (Int × Int)} {b : Int} {Q : D → Prop} {X : Exn → Prop} {wq : Tag (Q, X)} (h0 : Sky u bs) (h1 : 0 ≤ b) (h2 : b < bs.length) : callF sp_body_period [skyD u bs, .int b] wq = (Q (.int (rnd u (bd bs b).2))) := c_body_period h0 h1 h2
theorem d_period_of {u : Int} {bs : List (Int × Int)} {Q : D → Prop} {X : Exn → Prop} {wq : Tag (Q, X)} (h0 : Sky u bs) : callF sp_period_of [skyD u bs] wq = (Q (.int (prd u bs))) := c_period_of h0
theorem d_period {u : Int} {bs : List (Int × Int)} {Q : D → Prop} {X : Exn → Prop} {wq : Tag (Q, X)} (h0 : Sky u bs) : callF sp_period [skyD u bs] wq = (Q (.int (prd u bs))) := c_period h0
theorem d_meeting_units {u : Int} {bs : List (Int × Int)} {b : Int} {c : Int} {Q : D → Prop} {X : Exn → Prop} {wq : Tag (Q, X)} (h0 : Sky u bs) (h1 : 0 ≤ b) (h2 : b < bs.length) (h3 : 0 ≤ c) (h4 : c < bs.length) : callF sp_meeting_units [skyD u bs, .int b, .int c] wq = (Q (pairD (((bd bs c).1 - (bd bs b).1) % mstep u bs b c, mstep u bs b c))) := c_meeting_units h0 h1 h2 h3 h4
theorem d_ever_at {u : Int} {bs : List (Int × Int)} {b : Int} {x : D} {Q : D → Prop} {X : Exn → Prop} {wq : Tag (Q, X)} (h0 : Sky u bs) (h1 : 0 ≤ b) (h2 : b < bs.length) (h3 : isTok x = false) : callF sp_ever_at [skyD u bs, .int b, x] wq = (Q (everAt u bs b x)) := c_ever_at h0 h1 h2 h3
theorem d_is_int {v : D} {lo hi : Int} {Q : D → Prop} {X : Exn → Prop} {w : Tag (Q, X)} (hv : isTok v = false) : callF sp_is_int [v, .int lo, .int hi] w = Q (.bool (isInt v lo hi)) := c_is_int hv
theorem d_is_int_i {v lo hi : Int} {Q : D → Prop} {X : Exn → Prop} {w : Tag (Q, X)} : callF sp_is_int [.int v, .int lo, .int hi] w = Q (.bool (isInt (.int v) lo hi)) := c_is_int rfl
theorem d_is_body {u : Int} {v : D} {Q : D → Prop} {X : Exn → Prop} {w : Tag (Q, X)} (hv : okD 5 v = true) : callF sp_is_body [.int u, v] w = Q (.bool (isBody u v)) := c_is_body hv
theorem d_is_sky {v : D} {Q : D → Prop} {X : Exn → Prop} {w : Tag (Q, X)} (hv : okD 6 v = true) : callF sp_is_sky [v] w = Q (.bool (isSky v)) := c_is_sky hv
theorem d_lpick2 {a b : Int} {Q : D → Prop} {X : Exn → Prop} {w : Tag (Q, X)} : callF sp_lpick [.dict [], .list [.int a, .int b]] w = ∀ r, r ∈ [a, b] → Q (.int r) := c_lpick2
theorem d_lpick3 {a b c : Int} {Q : D → Prop} {X : Exn → Prop} {w : Tag (Q, X)} : callF sp_lpick [.dict [], .list [.int a, .int b, .int c]] w = ∀ r, r ∈ [a, b, c] → Q (.int r) := c_lpick3
theorem d_lpickL {l : List Int} {Q : D → Prop} {X : Exn → Prop} {w : Tag (Q, X)} (h : 0 < l.length) (h2 : l.length ≤ 1000000) : callF sp_lpick [.dict [], .list (l.map .int)] w = ∀ r, r ∈ l → Q (.int r) := c_lpickL h h2
theorem foldI {l : List Int} : PyData.list (l.map PyData.int) = intsD l := rfl
theorem foldP {l : List (Int × Int)} : PyData.list (l.map pairD) = pairsD l := rfl
theorem cop_ne00 : cop .ne (.list []) (.list []) = some (.bool false) := rfl
theorem cop_eq00 : cop .eq (.list []) (.list []) = some (.bool true) := rfl
end Sk
set_option linter.all false
set_option maxRecDepth 10000
namespace Sk
open PySem
/-! days that come again -/
theorem rngl_add {lo : Int} {n m : Nat} : rngl lo (n + m) = rngl lo n ++ rngl (lo + n) m := by
  unfold rngl
  rw [List.range_add, List.map_append, List.map_map]
  congr 1
  refine List.map_congr_left fun j _ => ?_
  simp only [Function.comp]
  omega
theorem rngl_shift {lo k : Int} {n : Nat} : rngl (lo + k) n = (rngl lo n).map fun x => x + k := by
  unfold rngl
  rw [List.map_map]
  refine List.map_congr_left fun j _ => ?_
  simp only [Function.comp]
  omega
theorem per_mul {α : Type} {p : Int → α} {R : Int} (hp : ∀ d, p (d + R) = p d) : ∀ (k : Nat) (d : Int), p (d + k * R) = p d
  | 0, d => by simp
  | k + 1, d => by
    have : d + ((k + 1 : Nat) : Int) * R = (d + k * R) + R := by
      have : ((k + 1 : Nat) : Int) * R = k * R + R := by rw [Int.natCast_add, Int.add_mul]; simp
      omega
    rw [this, hp, per_mul hp k]
theorem per_mod {α : Type} {p : Int → α} {R : Int} (hp : ∀ d, p (d + R) = p d) (hR : 0 < R) {d : Int} (h : 0 ≤ d) : p (d % R) = p d := by
  have h1 := Int.emod_add_mul_ediv d R
  have h2 : 0 ≤ d / R := Int.ediv_nonneg h (by omega)
  obtain ⟨k, hk⟩ := Int.eq_ofNat_of_zero_le h2
  have h3 := per_mul hp k (d % R)
  rw [← h3]
  congr 1
  rw [hk] at h1
  rw [Int.mul_comm]
  exact h1
/-- the days of one period -/
def gd (p : Int → Bool) (R : Int) : List Int := (rngl 0 R.toNat).filter p
theorem mem_gd {p : Int → Bool} {R x : Int} : x ∈ gd p R ↔ (0 ≤ x ∧ x < R) ∧ p x = true := by
  unfold gd
  rw [List.mem_filter, mem_rngl]
  have : (0 ≤ x ∧ x < 0 + (R.toNat : Int)) ↔ (0 ≤ x ∧ x < R) := by omega
  rw [this]
theorem gd_sorted {p : Int → Bool} {R : Int} : (gd p R).Pairwise (· < ·) := rngl_sorted.filter _
theorem cnt_mul {p : Int → Bool} {R : Int} (hp : ∀ d, p (d + R) = p d) (hR : 0 ≤ R) : ∀ (k m : Nat), ((rngl 0 (k * R.toNat + m)).filter p).length = k * (gd p R).length + ((rngl 0 m).filter p).length
  | 0, m => by simp
  | k + 1, m => by
    have e : (k + 1) * R.toNat + m = R.toNat + (k * R.toNat + m) := by rw [Nat.add_mul]; omega
    rw [e, rngl_add, List.filter_append, List.length_append]
    have e2 : rngl ((0 : Int) + (R.toNat : Int)) (k * R.toNat + m) = (rngl 0 (k * R.toNat + m)).map fun x => x + R := by
      have : (0 : Int) + (R.toNat : Int) = 0 + R := by omega
      rw [this, rngl_shift]
    have e3 : ∀ L : List Int, ((L.map fun x => x + R).filter p).length = (L.filter p).length := fun L => by
      have : (p ∘ fun x => x + R) = p := by funext x; exact hp x
      rw [List.filter_map, List.length_map, this]
    rw [e2, e3, cnt_mul hp hR k m, Nat.add_mul, Nat.one_mul]
    unfold gd
    omega
theorem lt_filter {p : Int → Bool} {R m : Int} (h0 : 0 ≤ m) (h1 : m ≤ R) : (gd p R).filter (fun x => decide (x < m)) = (rngl 0 m.toNat).filter p := by
  unfold gd
  have e : R.toNat = m.toNat + (R - m).toNat := by omega
  rw [e, rngl_add, List.filter_append, List.filter_append]
  have e1 : ((rngl 0 m.toNat).filter p).filter (fun x => decide (x < m)) = (rngl 0 m.toNat).filter p := by
    rw [List.filter_eq_self]
    intro x hx
    have := mem_rngl.mp (List.mem_filter.mp hx).1
    simp only [decide_eq_true_eq]
    omega
  have e2 : ((rngl (0 + (m.toNat : Int)) (R - m).toNat).filter p).filter (fun x => decide (x < m)) = [] := by
    rw [List.filter_eq_nil_iff]
    intro x hx
    have := mem_rngl.mp (List.mem_filter.mp hx).1
    simp only [decide_eq_true_eq]
    omega
  rw [e1, e2, List.append_nil]
/-- counting by periods -/
theorem cnt_eq {p : Int → Bool} {R d : Int} (hp : ∀ d, p (d + R) = p d) (hR : 0 < R) (hd : 0 ≤ d) : (((rngl 0 d.toNat).filter p).length : Int) = d / R * ((gd p R).length : Int) + (((gd p R).filter fun x => decide (x < d % R)).length : Int) := by
  have h0 := Int.emod_nonneg d (show R ≠ 0 by omega)
  have h1 := Int.emod_lt_of_pos d hR
  have h2 : 0 ≤ d / R := Int.ediv_nonneg hd (by omega)
  have h3 := Int.emod_add_mul_ediv d R
  rw [lt_filter h0 (by omega)]
  obtain ⟨k, hk⟩ := Int.eq_ofNat_of_zero_le h2
  have e : d.toNat = k * R.toNat + (d % R).toNat := by
    have : ((k * R.toNat + (d % R).toNat : Nat) : Int) = d := by
      rw [Int.natCast_add, Int.natCast_mul, ← hk]
      rw [show ((R.toNat : Nat) : Int) = R by omega, show (((d % R).toNat : Nat) : Int) = d % R by omega, Int.mul_comm]
      omega
    omega
  rw [e, cnt_mul hp (by omega), hk]
  simp
theorem filter_lt_nth {l : List Int} (h : l.Pairwise (· < ·)) {j : Int} (h0 : 0 ≤ j) (h1 : j < l.length) : ((l.filter fun x => decide (x < nth l j)).length : Int) = j := by
  have hj : j.toNat < l.length := by omega
  have en : nth l j = l[j.toNat] := by
    unfold nth
    rw [List.getD_eq_getElem?_getD, List.getElem?_eq_getElem hj]
    rfl
  rw [en]
  have e : l = l.take j.toNat ++ l.drop j.toNat := (List.take_append_drop _ _).symm
  have hp := List.pairwise_iff_getElem.mp h
  have e1 : (l.take j.toNat).filter (fun x => decide (x < l[j.toNat])) = l.take j.toNat := by
    rw [List.filter_eq_self]
    intro x hx
    obtain ⟨i, hi, rfl⟩ := List.mem_iff_getElem.mp hx
    rw [List.length_take] at hi
    rw [List.getElem_take]
    exact decide_eq_true (hp i j.toNat (by omega) hj (by omega))
  have e2 : (l.drop j.toNat).filter (fun x => decide (x < l[j.toNat])) = [] := by
    rw [List.filter_eq_nil_iff]
    intro x hx
    obtain ⟨i, hi, rfl⟩ := List.mem_iff_getElem.mp hx
    rw [List.length_drop] at hi
    rw [List.getElem_drop, decide_eq_true_eq]
    by_cases hz : i = 0
    · subst hz
      simp
    · have := hp j.toNat (j.toNat + i) hj (by omega) (by omega)
      omega
  conv => lhs; rw [show l.filter (fun x => decide (x < l[j.toNat])) = (l.take j.toNat ++ l.drop j.toNat).filter (fun x => decide (x < l[j.toNat])) by rw [← e]]
  rw [List.filter_append, e1, e2, List.append_nil, List.length_take]
  omega
theorem dnl_rev {d : Int} {n : Nat} : dnl (d - 1) n = (rngl (d - n) n).reverse := by
  unfold dnl rngl
  rw [← List.map_reverse]
  refine List.ext_getElem (by simp) fun i h1 h2 => ?_
  simp at h1 h2
  simp [List.getElem_reverse]
  omega

/-! arcs come again -/
theorem arc_shift {u c : Int} {ss : List Int} : arcBy u (ss.map fun s => (s + c) % u) = arcBy u ss := by
  unfold arcBy far
  simp only [List.map_map]
  congr 1
  refine List.map_congr_left fun x _ => ?_
  simp only [Function.comp]
  congr 1
  refine List.map_congr_left fun s _ => ?_
  simp only [Function.comp]
  rw [← Int.sub_emod]
  congr 1
  omega
theorem plc_add {u d e b : Int} {bs : List (Int × Int)} : plc u bs b (d + e) = (plc u bs b d + e * (bd bs b).2) % u := by
  unfold plc
  rw [Int.emod_add_emod, Int.add_mul]
  congr 1
  omega
theorem spots_rel {u d : Int} {bs : List (Int × Int)} {l : List Int} (hs : Sky u bs) : spots u bs l (d + rel u bs l) = (spots u bs l d).map fun s => (s + rel u bs l * (bd bs (nth l 0)).2) % u := by
  have hu := hs.pos
  unfold spots
  rw [List.map_map]
  refine List.map_congr_left fun b hb => ?_
  simp only [Function.comp]
  rw [plc_add]
  have h := per_self (u := u) (rs := rts u bs l) hu _ (List.mem_map.mpr ⟨b, hb, rfl⟩)
  have h2 : u ∣ rel u bs l * ((bd bs b).2 - (bd bs (nth l 0)).2) := dvd_mod.mp h
  have h3 : (rel u bs l * (bd bs b).2) % u = (rel u bs l * (bd bs (nth l 0)).2) % u := by
    rw [Int.mul_sub] at h2
    exact Int.emod_eq_emod_iff_emod_sub_eq_zero.mpr (Int.dvd_iff_emod_eq_zero.mp h2)
  rw [Int.add_emod, h3, ← Int.add_emod]
theorem arc_per {u : Int} {bs : List (Int × Int)} {l : List Int} (hs : Sky u bs) (d : Int) : arcAt u bs l (d + rel u bs l) = arcAt u bs l d := by
  unfold arcAt
  rw [spots_rel hs, arc_shift]
theorem gdays_gd {u b : Int} {bs : List (Int × Int)} {l : List Int} : gdays u bs l b = gd (fun d => decide (arcAt u bs l d ≤ b)) (rel u bs l) := rfl
theorem arcb_per {u b : Int} {bs : List (Int × Int)} {l : List Int} (hs : Sky u bs) (d : Int) : (fun d => decide (arcAt u bs l d ≤ b)) (d + rel u bs l) = (fun d => decide (arcAt u bs l d ≤ b)) d := by
  simp only [arc_per hs]
theorem nth_map_rngl {f : Int → Int} {n : Nat} {i : Int} (h0 : 0 ≤ i) (h1 : i < n) : nth ((rngl 0 n).map f) i = f i := by
  have : i.toNat < n := by omega
  unfold nth rngl
  rw [List.map_map, List.getD_eq_getElem?_getD, List.getElem?_map, List.getElem?_range this]
  simp only [Option.map_some, Option.getD_some, Function.comp]
  congr 1
  omega
theorem nth_arcs {u d : Int} {bs : List (Int × Int)} {l : List Int} (hs : Sky u bs) (h : 0 ≤ d) : nth (arcs u bs l) (d % rel u bs l) = arcAt u bs l d := by
  have r0 := rel_pos (l := l) hs
  have h0 := Int.emod_nonneg d (show rel u bs l ≠ 0 by omega)
  have h1 := Int.emod_lt_of_pos d r0
  unfold arcs
  rw [nth_map_rngl h0 (by omega)]
  exact per_mod (fun d => arc_per hs d) r0 h
theorem cntB_eq {u b d : Int} {bs : List (Int × Int)} {l : List Int} (hs : Sky u bs) (h : 0 ≤ d) : cntB u bs l b d = (((rngl 0 d.toNat).filter fun d => decide (arcAt u bs l d ≤ b)).length : Int) := by
  unfold cntB
  rw [cnt_eq (fun d => arcb_per hs d) (rel_pos hs) h]
  rfl
theorem nth_gd {p : Int → Bool} {R j : Int} (h0 : 0 ≤ j) (h1 : j < (gd p R).length) : (0 ≤ nth (gd p R) j ∧ nth (gd p R) j < R) ∧ p (nth (gd p R) j) = true := mem_gd.mp (nth_mem h0 h1)
/-- the day of a rank -/
theorem dayAt_spec {u b r : Int} {bs : List (Int × Int)} {l : List Int} (hs : Sky u bs) (hg : gdays u bs l b ≠ []) (h : 0 ≤ r) : 0 ≤ dayAt u bs l b r ∧ arcAt u bs l (dayAt u bs l b r) ≤ b ∧ cntB u bs l b (dayAt u bs l b r) = r ∧ dayAt u bs l b r % rel u bs l = nth (gdays u bs l b) (r % ((gdays u bs l b).length : Int)) ∧ dayAt u bs l b r ≤ r * rel u bs l + rel u bs l := by
  have r0 := rel_pos (l := l) hs
  have n0 : (0 : Int) < (gdays u bs l b).length := by have := List.length_pos_iff.mpr hg; omega
  have m0 := Int.emod_nonneg r (show ((gdays u bs l b).length : Int) ≠ 0 by omega)
  have m1 := Int.emod_lt_of_pos r n0
  have q0 : 0 ≤ r / ((gdays u bs l b).length : Int) := Int.ediv_nonneg h (by omega)
  have q1 : r / ((gdays u bs l b).length : Int) ≤ r := Int.ediv_le_self _ h
  obtain ⟨⟨a0, a1⟩, a2⟩ := nth_gd (p := fun d => decide (arcAt u bs l d ≤ b)) (R := rel u bs l) m0 m1
  rw [← gdays_gd] at a0 a1 a2
  have e1 : dayAt u bs l b r % rel u bs l = nth (gdays u bs l b) (r % ((gdays u bs l b).length : Int)) := by
    unfold dayAt
    rw [Int.add_comm, Int.add_mul_emod_self_right, Int.emod_eq_of_lt a0 a1]
  have e2 : dayAt u bs l b r / rel u bs l = r / ((gdays u bs l b).length : Int) := by
    unfold dayAt
    rw [Int.add_comm, Int.add_mul_ediv_right _ _ (by omega), Int.ediv_eq_zero_of_lt a0 a1]
    omega
  have p0 : 0 ≤ r / ((gdays u bs l b).length : Int) * rel u bs l := Int.mul_nonneg q0 (by omega)
  have p1 : r / ((gdays u bs l b).length : Int) * rel u bs l ≤ r * rel u bs l := Int.mul_le_mul_of_nonneg_right q1 (by omega)
  have d0 : 0 ≤ dayAt u bs l b r := by
    unfold dayAt
    omega
  refine ⟨d0, ?_, ?_, e1, ?_⟩
  · have := per_mod (fun d => arc_per (l := l) hs d) r0 d0
    rw [e1] at this
    rw [← this]
    exact of_decide_eq_true a2
  · unfold cntB
    rw [e1, e2, filter_lt_nth (l := gdays u bs l b) gd_sorted m0 m1]
    exact Int.ediv_mul_add_emod _ _
  · unfold dayAt
    omega
theorem cop_neoD {a b : Option Int} : cop .ne (optD a) (optD b) = some (.bool (!decide (a = b))) := by
  cases a <;> cases b
  · rfl
  · rfl
  · rfl
  · rename_i x y
    show cop .ne (.int x) (.int y) = _
    rw [cop_nei]
    simp
theorem cop_eqoD {a b : Option Int} : cop .eq (optD a) (optD b) = some (.bool (decide (a = b))) := by
  cases a <;> cases b
  · rfl
  · rfl
  · rfl
  · rename_i x y
    show cop .eq (.int x) (.int y) = _
    rw [cop_eqi]
    simp
/-- the first of a list or None -/
theorem hdD {l : List Int} (h : l ≠ []) : PyData.int (nth l 0) = optD l.head? := by
  cases l with
  | nil => exact absurd rfl h
  | cons x r => rfl
theorem bool_eq {a b : Bool} : cop .eq (.bool a) (.bool b) = some (.bool (decide (a = b))) := by cases a <;> cases b <;> rfl
end Sk
set_option linter.all false
set_option maxRecDepth 10000
namespace Sk
open PySem
/-! counts -/
theorem sum_ind {S : List Int} {y : Int} (hS : S.Nodup) : (S.map fun x => if x = y then (1 : Int) else 0).sum = if y ∈ S then 1 else 0 := by
  induction S with
  | nil => simp
  | cons x r ih =>
    have h := List.nodup_cons.mp hS
    rw [List.map_cons, List.sum_cons, ih h.2]
    by_cases e : x = y
    · subst e
      simp [h.1]
    · have : ¬ y = x := fun z => e z.symm
      simp [e, this]
theorem sum_cnt {S : List Int} (hS : S.Nodup) : ∀ l : List Int, (S.map fun x => (l.count x : Int)).sum = ((l.filter fun y => decide (y ∈ S)).length : Int)
  | [] => by
    induction S with
    | nil => simp
    | cons x r ih => simpa using ih (List.nodup_cons.mp hS).2
  | y :: l => by
    have e : ∀ R : List Int, (R.map fun x => ((y :: l).count x : Int)).sum = (R.map fun x => (l.count x : Int)).sum + (R.map fun x => if x = y then (1 : Int) else 0).sum := by
      intro R
      induction R with
      | nil => simp
      | cons x r ih =>
        rw [List.map_cons, List.sum_cons, ih, List.map_cons, List.sum_cons, List.map_cons, List.sum_cons, List.count_cons]
        by_cases h : x = y
        · subst h
          simp
          omega
        · have : ¬ y = x := fun z => h z.symm
          simp [h, this]
          omega
    rw [e, sum_cnt hS l, sum_ind hS, List.filter_cons]
    by_cases h : y ∈ S <;> simp [h]
theorem fnd_nodup {l : List Int} : (fnd l).Nodup := lt_nodup fnd_sorted
theorem cnts_sum {l : List Int} {q : Int → Bool} : (((cnts l).filter fun p => q p.1).map fun p => p.2).sum = ((l.filter q).length : Int) := by
  have e : ((cnts l).filter fun p => q p.1).map (fun p => p.2) = ((fnd l).filter q).map fun x => (l.count x : Int) := by
    unfold cnts
    rw [List.filter_map, List.map_map]
    rfl
  rw [e, sum_cnt (fnd_nodup.filter _)]
  congr 2
  refine List.filter_congr fun y hy => ?_
  have : y ∈ (fnd l).filter q ↔ q y = true := by
    rw [List.mem_filter, mem_fnd]
    exact ⟨fun h => h.2, fun h => ⟨hy, h⟩⟩
  cases e : q y <;> simp [this, e]
theorem cnts_all {l : List Int} : ((cnts l).map fun p => p.2).sum = (l.length : Int) := by
  have := cnts_sum (l := l) (q := fun _ => true)
  rw [List.filter_eq_self.mpr (fun _ _ => rfl), List.filter_eq_self.mpr (fun _ _ => rfl)] at this
  exact this
theorem cnts_sorted {l : List Int} : isortP (cnts l) = cnts l := by
  refine isortP_same ?_
  unfold cnts
  rw [List.pairwise_map]
  exact fnd_sorted.imp fun h => leP_iff.mpr (.inl h)
theorem fnd_head {l : List Int} (h : l ≠ []) : (fnd l).head? = some (lmin l) := by
  obtain ⟨x, r, e⟩ := List.exists_cons_of_ne_nil (fnd_ne h)
  rw [e]
  have hp : (x :: r).Pairwise (· < ·) := e ▸ fnd_sorted
  have : lmin l = x := by
    refine lmin_uniq (mem_fnd.mp (by rw [e]; simp)) fun y hy => ?_
    have hy2 : y ∈ x :: r := e ▸ mem_fnd.mpr hy
    rcases List.mem_cons.mp hy2 with h1 | h1
    · omega
    · have := List.rel_of_pairwise_cons hp h1
      omega
  rw [this]
  rfl
theorem cnts_head {l : List Int} (h : l ≠ []) : (bd (cnts l) 0).1 = lmin l ∧ (0 : Int) < (cnts l).length := by
  have h1 := fnd_head h
  unfold cnts bd
  cases e : fnd l with
  | nil => exact absurd e (fnd_ne h)
  | cons x r =>
    rw [e] at h1
    simp at h1
    simp [h1]
/-! more of arcs -/
theorem arc_mono {u : Int} {ss tt : List Int} (hu : 0 < u) (hn : ss ≠ []) (h : ∀ s ∈ ss, s ∈ tt) : arcBy u ss ≤ arcBy u tt := by
  have ht : tt ≠ [] := by
    obtain ⟨x, r, rfl⟩ := List.exists_cons_of_ne_nil hn
    exact List.ne_nil_of_mem (h x (by simp))
  obtain ⟨y, hy, e⟩ := arc_at (u := u) ht
  rw [e]
  exact Int.le_trans (arc_le_any (y := y) hn hu) (far_le hn fun s hs => far_ge (h s hs))
theorem arc_one {u x : Int} (hu : 0 < u) : arcBy u [x] = 0 := arc_same (x := x) hu (by simp) (by simp)
theorem neg_mod {u g : Int} (h0 : 0 ≤ g) (h1 : g < u) : (0 - g) % u = if g = 0 then 0 else u - g := by
  split
  · subst_vars
    simp
  · rw [mod_down (by omega) (by omega) (by omega)]
    omega
theorem arc_two {u x y : Int} (hu : 0 < u) : arcBy u [x, y] = min ((y - x) % u) (u - (y - x) % u) := by
  have e : arcBy u [x, y] = min (max ((x - x) % u) ((y - x) % u)) (max ((x - y) % u) ((y - y) % u)) := rfl
  rw [e, Int.sub_self, Int.sub_self]
  have g0 : 0 ≤ (y - x) % u := Int.emod_nonneg _ (by omega)
  have g1 : (y - x) % u < u := Int.emod_lt_of_pos _ hu
  have z : (0 : Int) % u = 0 := by simp
  have e2 : (x - y) % u = (0 - (y - x) % u) % u := by
    rw [Int.sub_emod_emod]
    congr 1
    omega
  rw [z, e2, neg_mod g0 g1]
  split <;> omega
theorem sum_spc : ∀ {p z : Int} {l : List Int}, l.getLast? = some z → (spc p l).sum = z - p
  | p, z, [], h => by simp at h
  | p, z, [x], h => by
    simp at h
    simp [spc, h]
  | p, z, x :: y :: r, h => by
    have h2 : (y :: r).getLast? = some z := by simpa using h
    have := sum_spc (p := x) h2
    simp only [spc, List.sum_cons] at this ⊢
    omega
theorem sum_le {m : Int} : ∀ {l : List Int}, (∀ x ∈ l, x ≤ m) → l.sum ≤ l.length * m
  | [], _ => by simp
  | x :: r, h => by
    have h1 := h x (by simp)
    have h2 := sum_le (l := r) fun y hy => h y (by simp [hy])
    rw [List.sum_cons, List.length_cons, Int.natCast_add, Int.add_mul]
    simp
    omega
theorem arc_mean {u : Int} {ss : List Int} (hn : ss ≠ []) (hu : 0 < u) (hb : ∀ y ∈ ss, 0 ≤ y ∧ y < u) : arcBy u ss * ss.length ≤ u * (ss.length - 1) := by
  obtain ⟨z, hz⟩ : ∃ z, (fnd ss).getLast? = some z := by
    cases e : (fnd ss).getLast? with
    | some z => exact ⟨z, rfl⟩
    | none => exact absurd (List.getLast?_eq_none_iff.mp e) (fnd_ne hn)
  rw [← arc_spc hn hu hb hz]
  have h1 := sum_spc (p := z - u) hz
  have hne : spc (z - u) (fnd ss) ≠ [] := by
    intro e
    have := congrArg List.length e
    rw [spc_len] at this
    exact fnd_ne hn (List.length_eq_zero_iff.mp this)
  obtain ⟨m, g⟩ := lmax_spec _ hne
  have h2 := sum_le g
  rw [spc_len] at h2
  have h3 := slen (l := ss)
  have h4 : 0 ≤ lmax (spc (z - u) (fnd ss)) := by
    refine Int.not_lt.mp fun h => ?_
    have : ((fnd ss).length : Int) * lmax (spc (z - u) (fnd ss)) ≤ 0 := Int.mul_nonpos_of_nonneg_of_nonpos (by omega) (by omega)
    omega
  have h5 : ((fnd ss).length : Int) * lmax (spc (z - u) (fnd ss)) ≤ (ss.length : Int) * lmax (spc (z - u) (fnd ss)) := Int.mul_le_mul_of_nonneg_right (by omega) h4
  rw [Int.sub_mul, Int.mul_sub, Int.mul_one, Int.mul_comm (lmax _)]
  omega
theorem cop_notinI {x : Int} {l : List Int} : cop .notin (.int x) (intsD l) = some (.bool (!decide (x ∈ l))) := by
  have o : (l.map PyData.int).all (okD 5) = true := by
    simp only [List.all_eq_true, List.mem_map]
    rintro x ⟨q, _, rfl⟩
    rfl
  have o2 : okD 5 (.int x) = true := rfl
  have e : (l.map PyData.int).any (fun z => PyData.eqv z (.int x)) = decide (x ∈ l) := by
    rw [List.any_map]
    induction l with
    | nil => rfl
    | cons y r ih =>
      have ih := ih (by
        simp only [List.all_eq_true, List.mem_map]
        rintro x ⟨q, _, rfl⟩
        rfl)
      rw [List.any_cons, ih]
      have : (((fun z => PyData.eqv z (PyData.int x)) ∘ PyData.int) y) = decide (y = x) := by
        simp only [Function.comp, PyData.eqv]
        by_cases h : y = x <;> simp [h]
      rw [this]
      by_cases h : y = x
      · simp [h]
      · have : ¬ x = y := fun z => h z.symm
        simp [h, this]
  simp only [cop, intsD, o, o2, Bool.and_true, if_true, e]
theorem cop_innI {x : Int} {l : List Int} : cop .inn (.int x) (intsD l) = some (.bool (decide (x ∈ l))) := by
  have h : cop .notin (.int x) (intsD l) = (cop .inn (.int x) (intsD l)).map fun d => match d with | .bool b => .bool (!b) | d => d := by
    simp only [cop, intsD]
    split <;> rfl
  rw [cop_notinI] at h
  have o : (l.map PyData.int).all (okD 5) = true := by
    simp only [List.all_eq_true, List.mem_map]
    rintro x ⟨q, _, rfl⟩
    rfl
  have o2 : okD 5 (.int x) = true := rfl
  simp only [cop, intsD, o, o2, Bool.and_true, if_true, Option.map_some, Option.some.injEq, PyData.bool.injEq] at h ⊢
  cases e : (l.map PyData.int).any (fun z => PyData.eqv z (.int x)) <;> simp [e] at h <;> simp [h]
theorem bsem_sumI {l : List Int} : bsem .sum [intsD l] = some (.int l.sum) := by
  simp only [bsem, intsD, ints?_map, Option.map_some]
theorem rel_one {u x : Int} {bs : List (Int × Int)} (hs : Sky u bs) : rel u bs [x] = 1 := by
  have hu := hs.pos
  have h0 := rel_pos (l := [x]) hs
  have h1 : rel u bs [x] ≤ 1 := per_least hu (by omega) fun r hr => by
    simp only [rts, List.map_cons, List.map_nil, List.mem_singleton] at hr
    have : nth [x] 0 = x := rfl
    rw [this, Int.sub_self] at hr
    rw [hr]
    simp
  omega
theorem Sel.one {bs : List (Int × Int)} {x : Int} (h0 : 0 ≤ x) (h1 : x < bs.length) : Sel bs [x] := ⟨by simp, fun y hy => by simp at hy; omega, by simp⟩
theorem Sel.two {bs : List (Int × Int)} {x y : Int} (h0 : 0 ≤ x) (h1 : x < bs.length) (h2 : 0 ≤ y) (h3 : y < bs.length) (h : x ≠ y) : Sel bs [x, y] := ⟨by simp, fun z hy => by simp at hy; omega, by simp; exact h⟩
end Sk
set_option linter.all false
set_option maxRecDepth 10000
set_option maxHeartbeats 1000000
namespace Sk
open PySem
/-! waits -/
/-- waits_of(sky, some, bound); slots: sky some bound good a b -/
def b_waits_of_2 : Ss := .cons (.ret (.lc [4, 5] (.zip (.var 3) (.bin .add (.slc (.var 3) (.some (.ci 1)) .none) (.lst (.cons (.bin .add (.ix (.var 3) (.ci 0)) (.call .relative_of (.cons (.var 0) (.cons (.var 1) (.nil))))) (.nil))))) .none (.bin .sub (.var 5) (.var 4)))) .nil
def b_waits_of_1 : Ss := .cons (.ifs (.cmp .eq (.var 3) (.lst .nil)) (.cons (.ret (.lst .nil)) <| .nil) .nil) b_waits_of_2
def b_waits_of_0 : Ss := .cons (.asg false 3 (.call .days_of (.cons (.var 0) (.cons (.var 1) (.cons (.var 2) (.nil)))))) b_waits_of_1
def b_waits_of : Ss := b_waits_of_0
/-- waits(sky, some, bound); slots: sky some bound -/
def b_waits_1 : Ss := .cons (.ret (.call .waits_of (.cons (.var 0) (.cons (.var 1) (.cons (.var 2) (.nil)))))) .nil
def b_waits_0 : Ss := .cons (.expr (.call .check_all (.cons (.var 0) (.cons (.var 1) (.cons (.var 2) (.nil)))))) b_waits_1
def b_waits : Ss := b_waits_0
/-- kinds_of_waits(sky, some, bound); slots: sky some bound found one -/
def b_kinds_of_waits_2 : Ss := .cons (.ret (.lc [4] (.list (.srtSet (.var 3))) .none (.tup (.cons (.var 4) (.cons (.mth .count (.var 3) (.cons (.var 4) (.nil))) (.nil)))))) .nil
def b_kinds_of_waits_1 : Ss := .cons (.asg false 3 (.call .waits_of (.cons (.var 0) (.cons (.var 1) (.cons (.var 2) (.nil)))))) b_kinds_of_waits_2
def b_kinds_of_waits_0 : Ss := .cons (.expr (.call .check_all (.cons (.var 0) (.cons (.var 1) (.cons (.var 2) (.nil)))))) b_kinds_of_waits_1
def b_kinds_of_waits : Ss := b_kinds_of_waits_0
/-- longest_wait(sky, some, bound); slots: sky some bound found -/
def b_longest_wait_3 : Ss := .cons (.ret (.bi .max (.cons (.var 3) (.nil)))) .nil
def b_longest_wait_2 : Ss := .cons (.ifs (.cmp .eq (.var 3) (.lst .nil)) (.cons (.raise .non) <| .nil) .nil) b_longest_wait_3
def b_longest_wait_1 : Ss := .cons (.asg false 3 (.call .waits_of (.cons (.var 0) (.cons (.var 1) (.cons (.var 2) (.nil)))))) b_longest_wait_2
def b_longest_wait_0 : Ss := .cons (.expr (.call .check_all (.cons (.var 0) (.cons (.var 1) (.cons (.var 2) (.nil)))))) b_longest_wait_1
def b_longest_wait : Ss := b_longest_wait_0
/-- longest_after(sky, some, bound); slots: sky some bound found -/
def b_longest_after_3 : Ss := .cons (.ret (.ix (.call .days_of (.cons (.var 0) (.cons (.var 1) (.cons (.var 2) (.nil))))) (.mth .index (.var 3) (.cons (.bi .max (.cons (.var 3) (.nil))) (.nil))))) .nil
def b_longest_after_2 : Ss := .cons (.ifs (.cmp .eq (.var 3) (.lst .nil)) (.cons (.raise .non) <| .nil) .nil) b_longest_after_3
def b_longest_after_1 : Ss := .cons (.asg false 3 (.call .waits_of (.cons (.var 0) (.cons (.var 1) (.cons (.var 2) (.nil)))))) b_longest_after_2
def b_longest_after_0 : Ss := .cons (.expr (.call .check_all (.cons (.var 0) (.cons (.var 1) (.cons (.var 2) (.nil)))))) b_longest_after_1
def b_longest_after : Ss := b_longest_after_0
/-- mean_wait(sky, some, bound); slots: sky some bound good whole many one other -/
def b_mean_wait_5l_0 : Ss := .cons (.par 6 7 (.var 7) (.bin .mod (.var 6) (.var 7))) .nil
def b_mean_wait_6 : Ss := .cons (.ret (.tup (.cons (.bin .fdiv (.var 4) (.var 6)) (.cons (.bin .fdiv (.var 5) (.var 6)) (.nil))))) .nil
def b_mean_wait_5 : Ss := .cons (.whil (.cmp .ne (.var 7) (.ci 0)) b_mean_wait_5l_0) b_mean_wait_6
def b_mean_wait_4 : Ss := .cons (.par 6 7 (.var 4) (.var 5)) b_mean_wait_5
def b_mean_wait_3 : Ss := .cons (.par 4 5 (.call .relative_of (.cons (.var 0) (.cons (.var 1) (.nil)))) (.bi .len (.cons (.var 3) (.nil)))) b_mean_wait_4
def b_mean_wait_2 : Ss := .cons (.ifs (.cmp .eq (.var 3) (.lst .nil)) (.cons (.raise .non) <| .nil) .nil) b_mean_wait_3
def b_mean_wait_1 : Ss := .cons (.asg false 3 (.call .days_of (.cons (.var 0) (.cons (.var 1) (.cons (.var 2) (.nil)))))) b_mean_wait_2
def b_mean_wait_0 : Ss := .cons (.expr (.call .check_all (.cons (.var 0) (.cons (.var 1) (.cons (.var 2) (.nil)))))) b_mean_wait_1
def b_mean_wait : Ss := b_mean_wait_0
/-- rows_of_days(sky, some, bound); slots: sky some bound found day -/
def b_rows_of_days_2l_0 : Ss := .cons (.ifs (.bool true (.cons (.cmp .ne (.var 3) (.lst .nil)) (.cons (.cmp .eq (.ix (.ix (.var 3) (.neg (.ci 1))) (.ci 1)) (.bin .sub (.var 4) (.ci 1))) (.nil)))) (.cons (.setix 3 (.neg (.ci 1)) (.tup (.cons (.ix (.ix (.var 3) (.neg (.ci 1))) (.ci 0)) (.cons (.var 4) (.nil))))) <| .nil) (.cons (.app 3 (.tup (.cons (.var 4) (.cons (.var 4) (.nil))))) <| .nil)) .nil
def b_rows_of_days_4 : Ss := .cons (.ret (.var 3)) .nil
def b_rows_of_days_3 : Ss := .cons (.shut 3) b_rows_of_days_4
def b_rows_of_days_2 : Ss := .cons (.fors [4] (.list (.call .days_of (.cons (.var 0) (.cons (.var 1) (.cons (.var 2) (.nil)))))) b_rows_of_days_2l_0) b_rows_of_days_3
def b_rows_of_days_1 : Ss := .cons (.own 3 (.lst .nil)) b_rows_of_days_2
def b_rows_of_days_0 : Ss := .cons (.expr (.call .check_all (.cons (.var 0) (.cons (.var 1) (.cons (.var 2) (.nil)))))) b_rows_of_days_1
def b_rows_of_days : Ss := b_rows_of_days_0
def wts (R : Int) : List Int → List Int
  | [] => []
  | x :: r => spc x (r ++ [x + R])
theorem wts_len {R : Int} : ∀ {l : List Int}, (wts R l).length = l.length
  | [] => rfl
  | x :: r => by simp [wts, spc_len]
theorem zip_wts : ∀ (x : Int) (r : List Int) (y : Int), ((x :: r).zip (r ++ [y])).map (fun p => p.2 - p.1) = spc x (r ++ [y])
  | x, [], y => rfl
  | x, z :: r, y => by
    have := zip_wts z r y
    simp only [List.cons_append, List.zip_cons_cons, List.map_cons, spc]
    rw [this]
def waitsL (u : Int) (bs : List (Int × Int)) (l : List Int) (b : Int) : List Int := wts (rel u bs l) (gdays u bs l b)
theorem waits_len {u b : Int} {bs : List (Int × Int)} {l : List Int} : (waitsL u bs l b).length = (gdays u bs l b).length := wts_len
theorem waits_nil {u b : Int} {bs : List (Int × Int)} {l : List Int} : waitsL u bs l b = [] ↔ gdays u bs l b = [] := by
  rw [← List.length_eq_zero_iff, waits_len, List.length_eq_zero_iff]
def sp_waits_of : Spec := fun ds Q X => ∃ (u : Int) (bs : List (Int × Int)) (l : List Int) (b : Int), ds = [skyD u bs, intsD l, .int b] ∧ (Sky u bs) ∧ (Sel bs l) ∧ (Q (intsD (waitsL u bs l b)))
theorem c_waits_of {u : Int} {bs : List (Int × Int)} {l : List Int} {b : Int} {Q : D → Prop} {X : Exn → Prop} (h0 : Sky u bs) (h1 : Sel bs l) : sp_waits_of [skyD u bs, intsD l, .int b] Q X = (Q (intsD (waitsL u bs l b))) := by
  simp only [eq_iff_iff]
  constructor
  · rintro ⟨u', bs', l', b', e, _, _, h⟩
    simp only [List.cons.injEq, PyData.int.injEq, PyData.bool.injEq, skyD_eq, intsD_eq, pairsD_eq, pairD_eq, and_true, true_and] at e
    obtain ⟨⟨rfl, rfl⟩, rfl, rfl⟩ := e
    exact h
  · exact fun h => ⟨u, bs, l, b, rfl, h0, h1, h⟩
theorem d_waits_of {u : Int} {bs : List (Int × Int)} {l : List Int} {b : Int} {Q : D → Prop} {X : Exn → Prop} {wq : Tag (Q, X)} (h0 : Sky u bs) (h1 : Sel bs l) : callF sp_waits_of [skyD u bs, intsD l, .int b] wq = (Q (intsD (waitsL u bs l b))) := c_waits_of h0 h1
theorem r_waits_of {T : Fn → Spec} (t_days_of : T .days_of = sp_days_of) (t_relative_of : T .relative_of = sp_relative_of) {ds : List D} {Q : D → Prop} {X : Exn → Prop} (h : sp_waits_of ds Q X) : ds.length = 3 ∧ runs T 6 b_waits_of ds Q X := by
  obtain ⟨u, bs, l, b, rfl, hs, h1, hQ⟩ := h
  refine ⟨rfl, ?_⟩
  have gl := gdays_len (l := l) (b := b) hs
  have hi := hs.hi
  try simp (maxSteps := 2000000) (disch := first | assumption | omega) only [↓e_var, ↓e_ci, ↓e_cs, ↓e_cb, ↓e_cn, ↓e_gc, ↓e_bin, ↓e_neg, ↓e_inot, ↓e_cmp, ↓e_chain, ↓e_isN, ↓e_notN, ↓e_isB, ↓e_notB, ↓e_bool, ↓e_ife, ↓e_ix, ↓e_slc, ↓e_tup, ↓e_lst, ↓e_call, ↓e_bi, ↓e_mth, ↓e_lc, ↓e_isi, ↓e_srtSet, ↓e_lenSet, ↓e_lstRg, ↓e_lstRg3, ↓es_nil, ↓es_cons, ↓eb_one, ↓eb_and, ↓eb_or, ↓eo_none, ↓eo_some, ↓ec_none, ↓ec_some, ↓ei_list, ↓ei_tup, ↓ei_rg1, ↓ei_rg2, ↓ei_rg3, ↓ei_zip, ↓s_asgt, ↓s_asg, ↓s_own, ↓s_asgT, ↓s_par, ↓s_expr, ↓s_app, ↓s_setix, ↓s_augix, ↓s_iadd, ↓s_rem, ↓s_ret, ↓s_ifs, ↓s_fors, ↓s_whil, ↓s_raise, ↓s_shut, ↓ss_nil, ↓ss_cons, ↓sf_nil, ↓sf_cons, ↓mustF_s, mustF_s, ↓boolF_b, boolF_b, ↓intF_i, intF_i, ↓listF_l, listF_l, ↓listF_p, listF_p, ↓listF_i, listF_i, ↓tupF_t, tupF_t, ↓atV_d, atV_d, ↓atV_o, atV_o, ↓atO_o, atO_o, ↓cnd_t, cnd_t, ↓cnd_f, cnd_f, ↓bindF_1, bindF_1, ↓bindF_2, bindF_2, ↓bindF_p, bindF_p, ↓runs, runs, start, getS, setS, blank, blank1, List.map_cons, List.map_nil, List.length_cons, List.length_nil, List.cons_append, List.nil_append, List.replicate, Nat.sub_self, cop_lt, cop_le, cop_gt, cop_ge, bop_add, bop_sub, bop_mod, bop_fdiv, bop_mul, ixOp_t0, ixOp_t1, ixOp_l, bsem_lenl, bsem_lent, gcv_u, gcv_d, isiD_i, isiD_b, isTok_i, isTok_b, isTok_n, isTok_t, isTok_l, isTok_s, and_true, true_and, Bool.false_eq_true, Bool.true_eq_false, Bool.not_true, Bool.not_false, Bool.not_not, noList_i, noList_b, noList_n, noList_t, plain_n, plain_c, lenlim, Nat.reduceAdd, Nat.reduceSub, isNon_n, isNon_i, isNon_b, isNon_t, isNon_l, isNon_s, ite_self, not_true_eq_false, not_false_eq_true, implies_true, false_and, and_false, decide_true, decide_false, decide_not, ixOp_s0, ixOp_s1, ixOp_p, ixOp_p0, ixOp_p1, ixOp_i, bsem_lenp, bsem_leni, isTok_sky, isTok_ps, isTok_is, isTok_p, noList_p, cop_eqi, cop_nei, bsem_max2, bsem_min2, ge0, d_is_int_i, toNat_nat, rangeD_len, eq_self, cop_eqil, cop_neil, cop_eqps, cop_neps, cop_eqp, cop_nep, Bool.and_true, Bool.true_and, big1, big2, cop_eqi0, cop_nei0, cop_eqp0, cop_nep0, bop_addps, bop_addis, bsem_maxl, bsem_minl, mtTy_index, msem_index, d_lpick2, d_lpick3, t_days_of, d_days_of, t_relative_of, d_relative_of, ↓reduceIte, foldI, foldP, cop_ne00, cop_eq00, Int.reduceSub, Int.reduceNeg, Int.reduceAdd, Int.reduceMul, Int.reduceToNat, b_waits_of, b_waits_of_0, b_waits_of_1]
  unfold waitsL at hQ
  by_cases hz : gdays u bs l b = []
  · rw [hz] at hQ
    try simp (maxSteps := 2000000) (disch := first | assumption | omega) only [↓e_var, ↓e_ci, ↓e_cs, ↓e_cb, ↓e_cn, ↓e_gc, ↓e_bin, ↓e_neg, ↓e_inot, ↓e_cmp, ↓e_chain, ↓e_isN, ↓e_notN, ↓e_isB, ↓e_notB, ↓e_bool, ↓e_ife, ↓e_ix, ↓e_slc, ↓e_tup, ↓e_lst, ↓e_call, ↓e_bi, ↓e_mth, ↓e_lc, ↓e_isi, ↓e_srtSet, ↓e_lenSet, ↓e_lstRg, ↓e_lstRg3, ↓es_nil, ↓es_cons, ↓eb_one, ↓eb_and, ↓eb_or, ↓eo_none, ↓eo_some, ↓ec_none, ↓ec_some, ↓ei_list, ↓ei_tup, ↓ei_rg1, ↓ei_rg2, ↓ei_rg3, ↓ei_zip, ↓s_asgt, ↓s_asg, ↓s_own, ↓s_asgT, ↓s_par, ↓s_expr, ↓s_app, ↓s_setix, ↓s_augix, ↓s_iadd, ↓s_rem, ↓s_ret, ↓s_ifs, ↓s_fors, ↓s_whil, ↓s_raise, ↓s_shut, ↓ss_nil, ↓ss_cons, ↓sf_nil, ↓sf_cons, ↓mustF_s, mustF_s, ↓boolF_b, boolF_b, ↓intF_i, intF_i, ↓listF_l, listF_l, ↓listF_p, listF_p, ↓listF_i, listF_i, ↓tupF_t, tupF_t, ↓atV_d, atV_d, ↓atV_o, atV_o, ↓atO_o, atO_o, ↓cnd_t, cnd_t, ↓cnd_f, cnd_f, ↓bindF_1, bindF_1, ↓bindF_2, bindF_2, ↓bindF_p, bindF_p, ↓runs, runs, start, getS, setS, blank, blank1, List.map_cons, List.map_nil, List.length_cons, List.length_nil, List.cons_append, List.nil_append, List.replicate, Nat.sub_self, cop_lt, cop_le, cop_gt, cop_ge, bop_add, bop_sub, bop_mod, bop_fdiv, bop_mul, ixOp_t0, ixOp_t1, ixOp_l, bsem_lenl, bsem_lent, gcv_u, gcv_d, isiD_i, isiD_b, isTok_i, isTok_b, isTok_n, isTok_t, isTok_l, isTok_s, and_true, true_and, Bool.false_eq_true, Bool.true_eq_false, Bool.not_true, Bool.not_false, Bool.not_not, noList_i, noList_b, noList_n, noList_t, plain_n, plain_c, lenlim, Nat.reduceAdd, Nat.reduceSub, isNon_n, isNon_i, isNon_b, isNon_t, isNon_l, isNon_s, ite_self, not_true_eq_false, not_false_eq_true, implies_true, false_and, and_false, decide_true, decide_false, decide_not, ixOp_s0, ixOp_s1, ixOp_p, ixOp_p0, ixOp_p1, ixOp_i, bsem_lenp, bsem_leni, isTok_sky, isTok_ps, isTok_is, isTok_p, noList_p, cop_eqi, cop_nei, bsem_max2, bsem_min2, ge0, d_is_int_i, toNat_nat, rangeD_len, eq_self, cop_eqil, cop_neil, cop_eqps, cop_neps, cop_eqp, cop_nep, Bool.and_true, Bool.true_and, big1, big2, cop_eqi0, cop_nei0, cop_eqp0, cop_nep0, bop_addps, bop_addis, bsem_maxl, bsem_minl, mtTy_index, msem_index, d_lpick2, d_lpick3, t_days_of, d_days_of, t_relative_of, d_relative_of, ↓reduceIte, foldI, foldP, cop_ne00, cop_eq00, Int.reduceSub, Int.reduceNeg, Int.reduceAdd, Int.reduceMul, Int.reduceToNat, hz]
    exact hQ
  · generalize gdays u bs l b = g at *
    obtain ⟨x, r, rfl⟩ := List.exists_cons_of_ne_nil hz
    have l0 : (0 : Int) < (x :: r).length := by simp
    have n0 : nth (x :: r) 0 = x := rfl
    have rl : r.length ≤ 1000 := by simp at gl; omega
    have l1 : r.length + [x + rel u bs l].length ≤ 100000 := by simp; omega
    try simp (maxSteps := 2000000) (disch := first | assumption | omega) only [↓e_var, ↓e_ci, ↓e_cs, ↓e_cb, ↓e_cn, ↓e_gc, ↓e_bin, ↓e_neg, ↓e_inot, ↓e_cmp, ↓e_chain, ↓e_isN, ↓e_notN, ↓e_isB, ↓e_notB, ↓e_bool, ↓e_ife, ↓e_ix, ↓e_slc, ↓e_tup, ↓e_lst, ↓e_call, ↓e_bi, ↓e_mth, ↓e_lc, ↓e_isi, ↓e_srtSet, ↓e_lenSet, ↓e_lstRg, ↓e_lstRg3, ↓es_nil, ↓es_cons, ↓eb_one, ↓eb_and, ↓eb_or, ↓eo_none, ↓eo_some, ↓ec_none, ↓ec_some, ↓ei_list, ↓ei_tup, ↓ei_rg1, ↓ei_rg2, ↓ei_rg3, ↓ei_zip, ↓s_asgt, ↓s_asg, ↓s_own, ↓s_asgT, ↓s_par, ↓s_expr, ↓s_app, ↓s_setix, ↓s_augix, ↓s_iadd, ↓s_rem, ↓s_ret, ↓s_ifs, ↓s_fors, ↓s_whil, ↓s_raise, ↓s_shut, ↓ss_nil, ↓ss_cons, ↓sf_nil, ↓sf_cons, ↓mustF_s, mustF_s, ↓boolF_b, boolF_b, ↓intF_i, intF_i, ↓listF_l, listF_l, ↓listF_p, listF_p, ↓listF_i, listF_i, ↓tupF_t, tupF_t, ↓atV_d, atV_d, ↓atV_o, atV_o, ↓atO_o, atO_o, ↓cnd_t, cnd_t, ↓cnd_f, cnd_f, ↓bindF_1, bindF_1, ↓bindF_2, bindF_2, ↓bindF_p, bindF_p, ↓runs, runs, start, getS, setS, blank, blank1, List.map_cons, List.map_nil, List.length_cons, List.length_nil, List.cons_append, List.nil_append, List.replicate, Nat.sub_self, cop_lt, cop_le, cop_gt, cop_ge, bop_add, bop_sub, bop_mod, bop_fdiv, bop_mul, ixOp_t0, ixOp_t1, ixOp_l, bsem_lenl, bsem_lent, gcv_u, gcv_d, isiD_i, isiD_b, isTok_i, isTok_b, isTok_n, isTok_t, isTok_l, isTok_s, and_true, true_and, Bool.false_eq_true, Bool.true_eq_false, Bool.not_true, Bool.not_false, Bool.not_not, noList_i, noList_b, noList_n, noList_t, plain_n, plain_c, lenlim, Nat.reduceAdd, Nat.reduceSub, isNon_n, isNon_i, isNon_b, isNon_t, isNon_l, isNon_s, ite_self, not_true_eq_false, not_false_eq_true, implies_true, false_and, and_false, decide_true, decide_false, decide_not, ixOp_s0, ixOp_s1, ixOp_p, ixOp_p0, ixOp_p1, ixOp_i, bsem_lenp, bsem_leni, isTok_sky, isTok_ps, isTok_is, isTok_p, noList_p, cop_eqi, cop_nei, bsem_max2, bsem_min2, ge0, d_is_int_i, toNat_nat, rangeD_len, eq_self, cop_eqil, cop_neil, cop_eqps, cop_neps, cop_eqp, cop_nep, Bool.and_true, Bool.true_and, big1, big2, cop_eqi0, cop_nei0, cop_eqp0, cop_nep0, bop_addps, bop_addis, bsem_maxl, bsem_minl, mtTy_index, msem_index, d_lpick2, d_lpick3, t_days_of, d_days_of, t_relative_of, d_relative_of, ↓reduceIte, foldI, foldP, cop_ne00, cop_eq00, Int.reduceSub, Int.reduceNeg, Int.reduceAdd, Int.reduceMul, Int.reduceToNat, hz, b_waits_of_2, slOp_tail, n0, List.drop_one, List.tail_cons, fold1, bop_addis]
    have ez : (List.map (fun p => PyData.tuple [p.1, p.2]) ((PyData.int x :: List.map PyData.int r).zip (List.map PyData.int (r ++ [x + rel u bs l])))) = ((x :: r).zip (r ++ [x + rel u bs l])).map pairD := zip_pairs (l := x :: r) (m := r ++ [x + rel u bs l])
    rw [ez]
    refine ⟨by rw [List.length_map, List.length_zip]; simp; unfold lim; omega, ?_⟩
    refine wpLc_mapM (i := pairD) (g := fun p => .int (p.2 - p.1)) (fun p hp k hk => ?_) ?_
    · try simp (maxSteps := 2000000) (disch := first | assumption | omega) only [↓e_var, ↓e_ci, ↓e_cs, ↓e_cb, ↓e_cn, ↓e_gc, ↓e_bin, ↓e_neg, ↓e_inot, ↓e_cmp, ↓e_chain, ↓e_isN, ↓e_notN, ↓e_isB, ↓e_notB, ↓e_bool, ↓e_ife, ↓e_ix, ↓e_slc, ↓e_tup, ↓e_lst, ↓e_call, ↓e_bi, ↓e_mth, ↓e_lc, ↓e_isi, ↓e_srtSet, ↓e_lenSet, ↓e_lstRg, ↓e_lstRg3, ↓es_nil, ↓es_cons, ↓eb_one, ↓eb_and, ↓eb_or, ↓eo_none, ↓eo_some, ↓ec_none, ↓ec_some, ↓ei_list, ↓ei_tup, ↓ei_rg1, ↓ei_rg2, ↓ei_rg3, ↓ei_zip, ↓s_asgt, ↓s_asg, ↓s_own, ↓s_asgT, ↓s_par, ↓s_expr, ↓s_app, ↓s_setix, ↓s_augix, ↓s_iadd, ↓s_rem, ↓s_ret, ↓s_ifs, ↓s_fors, ↓s_whil, ↓s_raise, ↓s_shut, ↓ss_nil, ↓ss_cons, ↓sf_nil, ↓sf_cons, ↓mustF_s, mustF_s, ↓boolF_b, boolF_b, ↓intF_i, intF_i, ↓listF_l, listF_l, ↓listF_p, listF_p, ↓listF_i, listF_i, ↓tupF_t, tupF_t, ↓atV_d, atV_d, ↓atV_o, atV_o, ↓atO_o, atO_o, ↓cnd_t, cnd_t, ↓cnd_f, cnd_f, ↓bindF_1, bindF_1, ↓bindF_2, bindF_2, ↓bindF_p, bindF_p, ↓runs, runs, start, getS, setS, blank, blank1, List.map_cons, List.map_nil, List.length_cons, List.length_nil, List.cons_append, List.nil_append, List.replicate, Nat.sub_self, cop_lt, cop_le, cop_gt, cop_ge, bop_add, bop_sub, bop_mod, bop_fdiv, bop_mul, ixOp_t0, ixOp_t1, ixOp_l, bsem_lenl, bsem_lent, gcv_u, gcv_d, isiD_i, isiD_b, isTok_i, isTok_b, isTok_n, isTok_t, isTok_l, isTok_s, and_true, true_and, Bool.false_eq_true, Bool.true_eq_false, Bool.not_true, Bool.not_false, Bool.not_not, noList_i, noList_b, noList_n, noList_t, plain_n, plain_c, lenlim, Nat.reduceAdd, Nat.reduceSub, isNon_n, isNon_i, isNon_b, isNon_t, isNon_l, isNon_s, ite_self, not_true_eq_false, not_false_eq_true, implies_true, false_and, and_false, decide_true, decide_false, decide_not, ixOp_s0, ixOp_s1, ixOp_p, ixOp_p0, ixOp_p1, ixOp_i, bsem_lenp, bsem_leni, isTok_sky, isTok_ps, isTok_is, isTok_p, noList_p, cop_eqi, cop_nei, bsem_max2, bsem_min2, ge0, d_is_int_i, toNat_nat, rangeD_len, eq_self, cop_eqil, cop_neil, cop_eqps, cop_neps, cop_eqp, cop_nep, Bool.and_true, Bool.true_and, big1, big2, cop_eqi0, cop_nei0, cop_eqp0, cop_nep0, bop_addps, bop_addis, bsem_maxl, bsem_minl, mtTy_index, msem_index, d_lpick2, d_lpick3, t_days_of, d_days_of, t_relative_of, d_relative_of, ↓reduceIte, foldI, foldP, cop_ne00, cop_eq00, Int.reduceSub, Int.reduceNeg, Int.reduceAdd, Int.reduceMul, Int.reduceToNat]
      exact hk
    have e5 : ((x :: r).zip (r ++ [x + rel u bs l])).map (fun p => PyData.int (p.2 - p.1)) = (spc x (r ++ [x + rel u bs l])).map .int := by
      rw [← zip_wts, List.map_map]
      rfl
    rw [e5]
    exact hQ
def sp_waits : Spec := fun ds Q X => ∃ (u : Int) (bs : List (Int × Int)) (l : List Int) (b : Int), ds = [skyD u bs, intsD l, .int b] ∧ (Sky u bs) ∧ (Sel bs l) ∧ (0 ≤ b) ∧ (b < u) ∧ (Q (intsD (waitsL u bs l b)))
theorem c_waits {u : Int} {bs : List (Int × Int)} {l : List Int} {b : Int} {Q : D → Prop} {X : Exn → Prop} (h0 : Sky u bs) (h1 : Sel bs l) (h2 : 0 ≤ b) (h3 : b < u) : sp_waits [skyD u bs, intsD l, .int b] Q X = (Q (intsD (waitsL u bs l b))) := by
  simp only [eq_iff_iff]
  constructor
  · rintro ⟨u', bs', l', b', e, _, _, _, _, h⟩
    simp only [List.cons.injEq, PyData.int.injEq, PyData.bool.injEq, skyD_eq, intsD_eq, pairsD_eq, pairD_eq, and_true, true_and] at e
    obtain ⟨⟨rfl, rfl⟩, rfl, rfl⟩ := e
    exact h
  · exact fun h => ⟨u, bs, l, b, rfl, h0, h1, h2, h3, h⟩
theorem d_waits {u : Int} {bs : List (Int × Int)} {l : List Int} {b : Int} {Q : D → Prop} {X : Exn → Prop} {wq : Tag (Q, X)} (h0 : Sky u bs) (h1 : Sel bs l) (h2 : 0 ≤ b) (h3 : b < u) : callF sp_waits [skyD u bs, intsD l, .int b] wq = (Q (intsD (waitsL u bs l b))) := c_waits h0 h1 h2 h3
theorem r_waits {T : Fn → Spec} (t_check_all : T .check_all = sp_check_all) (t_waits_of : T .waits_of = sp_waits_of) {ds : List D} {Q : D → Prop} {X : Exn → Prop} (h : sp_waits ds Q X) : ds.length = 3 ∧ runs T 3 b_waits ds Q X := by
  obtain ⟨u, bs, l, b, rfl, hs, h1, h2, h3, hQ⟩ := h
  refine ⟨rfl, ?_⟩
  try simp (maxSteps := 2000000) (disch := first | assumption | omega) only [↓e_var, ↓e_ci, ↓e_cs, ↓e_cb, ↓e_cn, ↓e_gc, ↓e_bin, ↓e_neg, ↓e_inot, ↓e_cmp, ↓e_chain, ↓e_isN, ↓e_notN, ↓e_isB, ↓e_notB, ↓e_bool, ↓e_ife, ↓e_ix, ↓e_slc, ↓e_tup, ↓e_lst, ↓e_call, ↓e_bi, ↓e_mth, ↓e_lc, ↓e_isi, ↓e_srtSet, ↓e_lenSet, ↓e_lstRg, ↓e_lstRg3, ↓es_nil, ↓es_cons, ↓eb_one, ↓eb_and, ↓eb_or, ↓eo_none, ↓eo_some, ↓ec_none, ↓ec_some, ↓ei_list, ↓ei_tup, ↓ei_rg1, ↓ei_rg2, ↓ei_rg3, ↓ei_zip, ↓s_asgt, ↓s_asg, ↓s_own, ↓s_asgT, ↓s_par, ↓s_expr, ↓s_app, ↓s_setix, ↓s_augix, ↓s_iadd, ↓s_rem, ↓s_ret, ↓s_ifs, ↓s_fors, ↓s_whil, ↓s_raise, ↓s_shut, ↓ss_nil, ↓ss_cons, ↓sf_nil, ↓sf_cons, ↓mustF_s, mustF_s, ↓boolF_b, boolF_b, ↓intF_i, intF_i, ↓listF_l, listF_l, ↓listF_p, listF_p, ↓listF_i, listF_i, ↓tupF_t, tupF_t, ↓atV_d, atV_d, ↓atV_o, atV_o, ↓atO_o, atO_o, ↓cnd_t, cnd_t, ↓cnd_f, cnd_f, ↓bindF_1, bindF_1, ↓bindF_2, bindF_2, ↓bindF_p, bindF_p, ↓runs, runs, start, getS, setS, blank, blank1, List.map_cons, List.map_nil, List.length_cons, List.length_nil, List.cons_append, List.nil_append, List.replicate, Nat.sub_self, cop_lt, cop_le, cop_gt, cop_ge, bop_add, bop_sub, bop_mod, bop_fdiv, bop_mul, ixOp_t0, ixOp_t1, ixOp_l, bsem_lenl, bsem_lent, gcv_u, gcv_d, isiD_i, isiD_b, isTok_i, isTok_b, isTok_n, isTok_t, isTok_l, isTok_s, and_true, true_and, Bool.false_eq_true, Bool.true_eq_false, Bool.not_true, Bool.not_false, Bool.not_not, noList_i, noList_b, noList_n, noList_t, plain_n, plain_c, lenlim, Nat.reduceAdd, Nat.reduceSub, isNon_n, isNon_i, isNon_b, isNon_t, isNon_l, isNon_s, ite_self, not_true_eq_false, not_false_eq_true, implies_true, false_and, and_false, decide_true, decide_false, decide_not, ixOp_s0, ixOp_s1, ixOp_p, ixOp_p0, ixOp_p1, ixOp_i, bsem_lenp, bsem_leni, isTok_sky, isTok_ps, isTok_is, isTok_p, noList_p, cop_eqi, cop_nei, bsem_max2, bsem_min2, ge0, d_is_int_i, toNat_nat, rangeD_len, eq_self, cop_eqil, cop_neil, cop_eqps, cop_neps, cop_eqp, cop_nep, Bool.and_true, Bool.true_and, big1, big2, cop_eqi0, cop_nei0, cop_eqp0, cop_nep0, bop_addps, bop_addis, bsem_maxl, bsem_minl, mtTy_index, msem_index, d_lpick2, d_lpick3, t_check_all, d_check_all, t_waits_of, d_waits_of, ↓reduceIte, foldI, foldP, cop_ne00, cop_eq00, Int.reduceSub, Int.reduceNeg, Int.reduceAdd, Int.reduceMul, Int.reduceToNat, b_waits, b_waits_0, b_waits_1]
  exact hQ
theorem waitsL_le {u b : Int} {bs : List (Int × Int)} {l : List Int} (hs : Sky u bs) : (waitsL u bs l b).length ≤ 120 := by
  have := gdays_len (l := l) (b := b) hs
  have := hs.hi
  rw [waits_len]
  omega
def sp_kinds_of_waits : Spec := fun ds Q X => ∃ (u : Int) (bs : List (Int × Int)) (l : List Int) (b : Int), ds = [skyD u bs, intsD l, .int b] ∧ (Sky u bs) ∧ (Sel bs l) ∧ (0 ≤ b) ∧ (b < u) ∧ (Q (pairsD (cnts (waitsL u bs l b))))
theorem c_kinds_of_waits {u : Int} {bs : List (Int × Int)} {l : List Int} {b : Int} {Q : D → Prop} {X : Exn → Prop} (h0 : Sky u bs) (h1 : Sel bs l) (h2 : 0 ≤ b) (h3 : b < u) : sp_kinds_of_waits [skyD u bs, intsD l, .int b] Q X = (Q (pairsD (cnts (waitsL u bs l b)))) := by
  simp only [eq_iff_iff]
  constructor
  · rintro ⟨u', bs', l', b', e, _, _, _, _, h⟩
    simp only [List.cons.injEq, PyData.int.injEq, PyData.bool.injEq, skyD_eq, intsD_eq, pairsD_eq, pairD_eq, and_true, true_and] at e
    obtain ⟨⟨rfl, rfl⟩, rfl, rfl⟩ := e
    exact h
  · exact fun h => ⟨u, bs, l, b, rfl, h0, h1, h2, h3, h⟩
theorem d_kinds_of_waits {u : Int} {bs : List (Int × Int)} {l : List Int} {b : Int} {Q : D → Prop} {X : Exn → Prop} {wq : Tag (Q, X)} (h0 : Sky u bs) (h1 : Sel bs l) (h2 : 0 ≤ b) (h3 : b < u) : callF sp_kinds_of_waits [skyD u bs, intsD l, .int b] wq = (Q (pairsD (cnts (waitsL u bs l b)))) := c_kinds_of_waits h0 h1 h2 h3
theorem r_kinds_of_waits {T : Fn → Spec} (t_check_all : T .check_all = sp_check_all) (t_waits_of : T .waits_of = sp_waits_of) {ds : List D} {Q : D → Prop} {X : Exn → Prop} (h : sp_kinds_of_waits ds Q X) : ds.length = 3 ∧ runs T 5 b_kinds_of_waits ds Q X := by
  obtain ⟨u, bs, l, b, rfl, hs, h1, h2, h3, hQ⟩ := h
  refine ⟨rfl, ?_⟩
  have hl := waitsL_le (l := l) (b := b) hs
  have hl2 := slen (l := waitsL u bs l b)
  try simp (maxSteps := 2000000) (disch := first | assumption | omega) only [↓e_var, ↓e_ci, ↓e_cs, ↓e_cb, ↓e_cn, ↓e_gc, ↓e_bin, ↓e_neg, ↓e_inot, ↓e_cmp, ↓e_chain, ↓e_isN, ↓e_notN, ↓e_isB, ↓e_notB, ↓e_bool, ↓e_ife, ↓e_ix, ↓e_slc, ↓e_tup, ↓e_lst, ↓e_call, ↓e_bi, ↓e_mth, ↓e_lc, ↓e_isi, ↓e_srtSet, ↓e_lenSet, ↓e_lstRg, ↓e_lstRg3, ↓es_nil, ↓es_cons, ↓eb_one, ↓eb_and, ↓eb_or, ↓eo_none, ↓eo_some, ↓ec_none, ↓ec_some, ↓ei_list, ↓ei_tup, ↓ei_rg1, ↓ei_rg2, ↓ei_rg3, ↓ei_zip, ↓s_asgt, ↓s_asg, ↓s_own, ↓s_asgT, ↓s_par, ↓s_expr, ↓s_app, ↓s_setix, ↓s_augix, ↓s_iadd, ↓s_rem, ↓s_ret, ↓s_ifs, ↓s_fors, ↓s_whil, ↓s_raise, ↓s_shut, ↓ss_nil, ↓ss_cons, ↓sf_nil, ↓sf_cons, ↓mustF_s, mustF_s, ↓boolF_b, boolF_b, ↓intF_i, intF_i, ↓listF_l, listF_l, ↓listF_p, listF_p, ↓listF_i, listF_i, ↓tupF_t, tupF_t, ↓atV_d, atV_d, ↓atV_o, atV_o, ↓atO_o, atO_o, ↓cnd_t, cnd_t, ↓cnd_f, cnd_f, ↓bindF_1, bindF_1, ↓bindF_2, bindF_2, ↓bindF_p, bindF_p, ↓runs, runs, start, getS, setS, blank, blank1, List.map_cons, List.map_nil, List.length_cons, List.length_nil, List.cons_append, List.nil_append, List.replicate, Nat.sub_self, cop_lt, cop_le, cop_gt, cop_ge, bop_add, bop_sub, bop_mod, bop_fdiv, bop_mul, ixOp_t0, ixOp_t1, ixOp_l, bsem_lenl, bsem_lent, gcv_u, gcv_d, isiD_i, isiD_b, isTok_i, isTok_b, isTok_n, isTok_t, isTok_l, isTok_s, and_true, true_and, Bool.false_eq_true, Bool.true_eq_false, Bool.not_true, Bool.not_false, Bool.not_not, noList_i, noList_b, noList_n, noList_t, plain_n, plain_c, lenlim, Nat.reduceAdd, Nat.reduceSub, isNon_n, isNon_i, isNon_b, isNon_t, isNon_l, isNon_s, ite_self, not_true_eq_false, not_false_eq_true, implies_true, false_and, and_false, decide_true, decide_false, decide_not, ixOp_s0, ixOp_s1, ixOp_p, ixOp_p0, ixOp_p1, ixOp_i, bsem_lenp, bsem_leni, isTok_sky, isTok_ps, isTok_is, isTok_p, noList_p, cop_eqi, cop_nei, bsem_max2, bsem_min2, ge0, d_is_int_i, toNat_nat, rangeD_len, eq_self, cop_eqil, cop_neil, cop_eqps, cop_neps, cop_eqp, cop_nep, Bool.and_true, Bool.true_and, big1, big2, cop_eqi0, cop_nei0, cop_eqp0, cop_nep0, bop_addps, bop_addis, bsem_maxl, bsem_minl, mtTy_index, msem_index, d_lpick2, d_lpick3, t_check_all, d_check_all, t_waits_of, d_waits_of, ↓reduceIte, foldI, foldP, cop_ne00, cop_eq00, Int.reduceSub, Int.reduceNeg, Int.reduceAdd, Int.reduceMul, Int.reduceToNat, b_kinds_of_waits, b_kinds_of_waits_0, b_kinds_of_waits_1]
  generalize waitsL u bs l b = W at *
  try simp (maxSteps := 2000000) (disch := first | assumption | omega) only [↓e_var, ↓e_ci, ↓e_cs, ↓e_cb, ↓e_cn, ↓e_gc, ↓e_bin, ↓e_neg, ↓e_inot, ↓e_cmp, ↓e_chain, ↓e_isN, ↓e_notN, ↓e_isB, ↓e_notB, ↓e_bool, ↓e_ife, ↓e_ix, ↓e_slc, ↓e_tup, ↓e_lst, ↓e_call, ↓e_bi, ↓e_mth, ↓e_lc, ↓e_isi, ↓e_srtSet, ↓e_lenSet, ↓e_lstRg, ↓e_lstRg3, ↓es_nil, ↓es_cons, ↓eb_one, ↓eb_and, ↓eb_or, ↓eo_none, ↓eo_some, ↓ec_none, ↓ec_some, ↓ei_list, ↓ei_tup, ↓ei_rg1, ↓ei_rg2, ↓ei_rg3, ↓ei_zip, ↓s_asgt, ↓s_asg, ↓s_own, ↓s_asgT, ↓s_par, ↓s_expr, ↓s_app, ↓s_setix, ↓s_augix, ↓s_iadd, ↓s_rem, ↓s_ret, ↓s_ifs, ↓s_fors, ↓s_whil, ↓s_raise, ↓s_shut, ↓ss_nil, ↓ss_cons, ↓sf_nil, ↓sf_cons, ↓mustF_s, mustF_s, ↓boolF_b, boolF_b, ↓intF_i, intF_i, ↓listF_l, listF_l, ↓listF_p, listF_p, ↓listF_i, listF_i, ↓tupF_t, tupF_t, ↓atV_d, atV_d, ↓atV_o, atV_o, ↓atO_o, atO_o, ↓cnd_t, cnd_t, ↓cnd_f, cnd_f, ↓bindF_1, bindF_1, ↓bindF_2, bindF_2, ↓bindF_p, bindF_p, ↓runs, runs, start, getS, setS, blank, blank1, List.map_cons, List.map_nil, List.length_cons, List.length_nil, List.cons_append, List.nil_append, List.replicate, Nat.sub_self, cop_lt, cop_le, cop_gt, cop_ge, bop_add, bop_sub, bop_mod, bop_fdiv, bop_mul, ixOp_t0, ixOp_t1, ixOp_l, bsem_lenl, bsem_lent, gcv_u, gcv_d, isiD_i, isiD_b, isTok_i, isTok_b, isTok_n, isTok_t, isTok_l, isTok_s, and_true, true_and, Bool.false_eq_true, Bool.true_eq_false, Bool.not_true, Bool.not_false, Bool.not_not, noList_i, noList_b, noList_n, noList_t, plain_n, plain_c, lenlim, Nat.reduceAdd, Nat.reduceSub, isNon_n, isNon_i, isNon_b, isNon_t, isNon_l, isNon_s, ite_self, not_true_eq_false, not_false_eq_true, implies_true, false_and, and_false, decide_true, decide_false, decide_not, ixOp_s0, ixOp_s1, ixOp_p, ixOp_p0, ixOp_p1, ixOp_i, bsem_lenp, bsem_leni, isTok_sky, isTok_ps, isTok_is, isTok_p, noList_p, cop_eqi, cop_nei, bsem_max2, bsem_min2, ge0, d_is_int_i, toNat_nat, rangeD_len, eq_self, cop_eqil, cop_neil, cop_eqps, cop_neps, cop_eqp, cop_nep, Bool.and_true, Bool.true_and, big1, big2, cop_eqi0, cop_nei0, cop_eqp0, cop_nep0, bop_addps, bop_addis, bsem_maxl, bsem_minl, mtTy_index, msem_index, d_lpick2, d_lpick3, t_check_all, d_check_all, t_waits_of, d_waits_of, ↓reduceIte, foldI, foldP, cop_ne00, cop_eq00, Int.reduceSub, Int.reduceNeg, Int.reduceAdd, Int.reduceMul, Int.reduceToNat, b_kinds_of_waits_2]
  refine ⟨by rw [List.length_map]; omega, ?_⟩
  rw [ints?_map]
  show mustF (some (intsD (fnd W))) _
  try simp (maxSteps := 2000000) (disch := first | assumption | omega) only [↓e_var, ↓e_ci, ↓e_cs, ↓e_cb, ↓e_cn, ↓e_gc, ↓e_bin, ↓e_neg, ↓e_inot, ↓e_cmp, ↓e_chain, ↓e_isN, ↓e_notN, ↓e_isB, ↓e_notB, ↓e_bool, ↓e_ife, ↓e_ix, ↓e_slc, ↓e_tup, ↓e_lst, ↓e_call, ↓e_bi, ↓e_mth, ↓e_lc, ↓e_isi, ↓e_srtSet, ↓e_lenSet, ↓e_lstRg, ↓e_lstRg3, ↓es_nil, ↓es_cons, ↓eb_one, ↓eb_and, ↓eb_or, ↓eo_none, ↓eo_some, ↓ec_none, ↓ec_some, ↓ei_list, ↓ei_tup, ↓ei_rg1, ↓ei_rg2, ↓ei_rg3, ↓ei_zip, ↓s_asgt, ↓s_asg, ↓s_own, ↓s_asgT, ↓s_par, ↓s_expr, ↓s_app, ↓s_setix, ↓s_augix, ↓s_iadd, ↓s_rem, ↓s_ret, ↓s_ifs, ↓s_fors, ↓s_whil, ↓s_raise, ↓s_shut, ↓ss_nil, ↓ss_cons, ↓sf_nil, ↓sf_cons, ↓mustF_s, mustF_s, ↓boolF_b, boolF_b, ↓intF_i, intF_i, ↓listF_l, listF_l, ↓listF_p, listF_p, ↓listF_i, listF_i, ↓tupF_t, tupF_t, ↓atV_d, atV_d, ↓atV_o, atV_o, ↓atO_o, atO_o, ↓cnd_t, cnd_t, ↓cnd_f, cnd_f, ↓bindF_1, bindF_1, ↓bindF_2, bindF_2, ↓bindF_p, bindF_p, ↓runs, runs, start, getS, setS, blank, blank1, List.map_cons, List.map_nil, List.length_cons, List.length_nil, List.cons_append, List.nil_append, List.replicate, Nat.sub_self, cop_lt, cop_le, cop_gt, cop_ge, bop_add, bop_sub, bop_mod, bop_fdiv, bop_mul, ixOp_t0, ixOp_t1, ixOp_l, bsem_lenl, bsem_lent, gcv_u, gcv_d, isiD_i, isiD_b, isTok_i, isTok_b, isTok_n, isTok_t, isTok_l, isTok_s, and_true, true_and, Bool.false_eq_true, Bool.true_eq_false, Bool.not_true, Bool.not_false, Bool.not_not, noList_i, noList_b, noList_n, noList_t, plain_n, plain_c, lenlim, Nat.reduceAdd, Nat.reduceSub, isNon_n, isNon_i, isNon_b, isNon_t, isNon_l, isNon_s, ite_self, not_true_eq_false, not_false_eq_true, implies_true, false_and, and_false, decide_true, decide_false, decide_not, ixOp_s0, ixOp_s1, ixOp_p, ixOp_p0, ixOp_p1, ixOp_i, bsem_lenp, bsem_leni, isTok_sky, isTok_ps, isTok_is, isTok_p, noList_p, cop_eqi, cop_nei, bsem_max2, bsem_min2, ge0, d_is_int_i, toNat_nat, rangeD_len, eq_self, cop_eqil, cop_neil, cop_eqps, cop_neps, cop_eqp, cop_nep, Bool.and_true, Bool.true_and, big1, big2, cop_eqi0, cop_nei0, cop_eqp0, cop_nep0, bop_addps, bop_addis, bsem_maxl, bsem_minl, mtTy_index, msem_index, d_lpick2, d_lpick3, t_check_all, d_check_all, t_waits_of, d_waits_of, ↓reduceIte, foldI, foldP, cop_ne00, cop_eq00, Int.reduceSub, Int.reduceNeg, Int.reduceAdd, Int.reduceMul, Int.reduceToNat]
  refine ⟨by rw [List.length_map]; unfold lim; omega, ?_⟩
  refine wpLc_mapM (i := PyData.int) (g := fun x => .tuple [.int x, .int (W.count x : Nat)]) (fun x hx k hk => ?_) ?_
  · try simp (maxSteps := 2000000) (disch := first | assumption | omega) only [↓e_var, ↓e_ci, ↓e_cs, ↓e_cb, ↓e_cn, ↓e_gc, ↓e_bin, ↓e_neg, ↓e_inot, ↓e_cmp, ↓e_chain, ↓e_isN, ↓e_notN, ↓e_isB, ↓e_notB, ↓e_bool, ↓e_ife, ↓e_ix, ↓e_slc, ↓e_tup, ↓e_lst, ↓e_call, ↓e_bi, ↓e_mth, ↓e_lc, ↓e_isi, ↓e_srtSet, ↓e_lenSet, ↓e_lstRg, ↓e_lstRg3, ↓es_nil, ↓es_cons, ↓eb_one, ↓eb_and, ↓eb_or, ↓eo_none, ↓eo_some, ↓ec_none, ↓ec_some, ↓ei_list, ↓ei_tup, ↓ei_rg1, ↓ei_rg2, ↓ei_rg3, ↓ei_zip, ↓s_asgt, ↓s_asg, ↓s_own, ↓s_asgT, ↓s_par, ↓s_expr, ↓s_app, ↓s_setix, ↓s_augix, ↓s_iadd, ↓s_rem, ↓s_ret, ↓s_ifs, ↓s_fors, ↓s_whil, ↓s_raise, ↓s_shut, ↓ss_nil, ↓ss_cons, ↓sf_nil, ↓sf_cons, ↓mustF_s, mustF_s, ↓boolF_b, boolF_b, ↓intF_i, intF_i, ↓listF_l, listF_l, ↓listF_p, listF_p, ↓listF_i, listF_i, ↓tupF_t, tupF_t, ↓atV_d, atV_d, ↓atV_o, atV_o, ↓atO_o, atO_o, ↓cnd_t, cnd_t, ↓cnd_f, cnd_f, ↓bindF_1, bindF_1, ↓bindF_2, bindF_2, ↓bindF_p, bindF_p, ↓runs, runs, start, getS, setS, blank, blank1, List.map_cons, List.map_nil, List.length_cons, List.length_nil, List.cons_append, List.nil_append, List.replicate, Nat.sub_self, cop_lt, cop_le, cop_gt, cop_ge, bop_add, bop_sub, bop_mod, bop_fdiv, bop_mul, ixOp_t0, ixOp_t1, ixOp_l, bsem_lenl, bsem_lent, gcv_u, gcv_d, isiD_i, isiD_b, isTok_i, isTok_b, isTok_n, isTok_t, isTok_l, isTok_s, and_true, true_and, Bool.false_eq_true, Bool.true_eq_false, Bool.not_true, Bool.not_false, Bool.not_not, noList_i, noList_b, noList_n, noList_t, plain_n, plain_c, lenlim, Nat.reduceAdd, Nat.reduceSub, isNon_n, isNon_i, isNon_b, isNon_t, isNon_l, isNon_s, ite_self, not_true_eq_false, not_false_eq_true, implies_true, false_and, and_false, decide_true, decide_false, decide_not, ixOp_s0, ixOp_s1, ixOp_p, ixOp_p0, ixOp_p1, ixOp_i, bsem_lenp, bsem_leni, isTok_sky, isTok_ps, isTok_is, isTok_p, noList_p, cop_eqi, cop_nei, bsem_max2, bsem_min2, ge0, d_is_int_i, toNat_nat, rangeD_len, eq_self, cop_eqil, cop_neil, cop_eqps, cop_neps, cop_eqp, cop_nep, Bool.and_true, Bool.true_and, big1, big2, cop_eqi0, cop_nei0, cop_eqp0, cop_nep0, bop_addps, bop_addis, bsem_maxl, bsem_minl, mtTy_index, msem_index, d_lpick2, d_lpick3, t_check_all, d_check_all, t_waits_of, d_waits_of, ↓reduceIte, foldI, foldP, cop_ne00, cop_eq00, Int.reduceSub, Int.reduceNeg, Int.reduceAdd, Int.reduceMul, Int.reduceToNat, mtTy_count, msem_count]
    exact hk
  · rw [map_cnts]
    exact hQ
def sp_longest_wait : Spec := fun ds Q X => ∃ (u : Int) (bs : List (Int × Int)) (l : List Int) (b : Int), ds = [skyD u bs, intsD l, .int b] ∧ (Sky u bs) ∧ (Sel bs l) ∧ (0 ≤ b) ∧ (b < u) ∧ (if waitsL u bs l b = [] then X .non else Q (.int (lmax (waitsL u bs l b))))
theorem c_longest_wait {u : Int} {bs : List (Int × Int)} {l : List Int} {b : Int} {Q : D → Prop} {X : Exn → Prop} (h0 : Sky u bs) (h1 : Sel bs l) (h2 : 0 ≤ b) (h3 : b < u) : sp_longest_wait [skyD u bs, intsD l, .int b] Q X = (if waitsL u bs l b = [] then X .non else Q (.int (lmax (waitsL u bs l b)))) := by
  simp only [eq_iff_iff]
  constructor
  · rintro ⟨u', bs', l', b', e, _, _, _, _, h⟩
    simp only [List.cons.injEq, PyData.int.injEq, PyData.bool.injEq, skyD_eq, intsD_eq, pairsD_eq, pairD_eq, and_true, true_and] at e
    obtain ⟨⟨rfl, rfl⟩, rfl, rfl⟩ := e
    exact h
  · exact fun h => ⟨u, bs, l, b, rfl, h0, h1, h2, h3, h⟩
theorem d_longest_wait {u : Int} {bs : List (Int × Int)} {l : List Int} {b : Int} {Q : D → Prop} {X : Exn → Prop} {wq : Tag (Q, X)} (h0 : Sky u bs) (h1 : Sel bs l) (h2 : 0 ≤ b) (h3 : b < u) : callF sp_longest_wait [skyD u bs, intsD l, .int b] wq = (if waitsL u bs l b = [] then X .non else Q (.int (lmax (waitsL u bs l b)))) := c_longest_wait h0 h1 h2 h3
theorem r_longest_wait {T : Fn → Spec} (t_check_all : T .check_all = sp_check_all) (t_waits_of : T .waits_of = sp_waits_of) {ds : List D} {Q : D → Prop} {X : Exn → Prop} (h : sp_longest_wait ds Q X) : ds.length = 3 ∧ runs T 4 b_longest_wait ds Q X := by
  obtain ⟨u, bs, l, b, rfl, hs, h1, h2, h3, hQ⟩ := h
  refine ⟨rfl, ?_⟩
  try simp (maxSteps := 2000000) (disch := first | assumption | omega) only [↓e_var, ↓e_ci, ↓e_cs, ↓e_cb, ↓e_cn, ↓e_gc, ↓e_bin, ↓e_neg, ↓e_inot, ↓e_cmp, ↓e_chain, ↓e_isN, ↓e_notN, ↓e_isB, ↓e_notB, ↓e_bool, ↓e_ife, ↓e_ix, ↓e_slc, ↓e_tup, ↓e_lst, ↓e_call, ↓e_bi, ↓e_mth, ↓e_lc, ↓e_isi, ↓e_srtSet, ↓e_lenSet, ↓e_lstRg, ↓e_lstRg3, ↓es_nil, ↓es_cons, ↓eb_one, ↓eb_and, ↓eb_or, ↓eo_none, ↓eo_some, ↓ec_none, ↓ec_some, ↓ei_list, ↓ei_tup, ↓ei_rg1, ↓ei_rg2, ↓ei_rg3, ↓ei_zip, ↓s_asgt, ↓s_asg, ↓s_own, ↓s_asgT, ↓s_par, ↓s_expr, ↓s_app, ↓s_setix, ↓s_augix, ↓s_iadd, ↓s_rem, ↓s_ret, ↓s_ifs, ↓s_fors, ↓s_whil, ↓s_raise, ↓s_shut, ↓ss_nil, ↓ss_cons, ↓sf_nil, ↓sf_cons, ↓mustF_s, mustF_s, ↓boolF_b, boolF_b, ↓intF_i, intF_i, ↓listF_l, listF_l, ↓listF_p, listF_p, ↓listF_i, listF_i, ↓tupF_t, tupF_t, ↓atV_d, atV_d, ↓atV_o, atV_o, ↓atO_o, atO_o, ↓cnd_t, cnd_t, ↓cnd_f, cnd_f, ↓bindF_1, bindF_1, ↓bindF_2, bindF_2, ↓bindF_p, bindF_p, ↓runs, runs, start, getS, setS, blank, blank1, List.map_cons, List.map_nil, List.length_cons, List.length_nil, List.cons_append, List.nil_append, List.replicate, Nat.sub_self, cop_lt, cop_le, cop_gt, cop_ge, bop_add, bop_sub, bop_mod, bop_fdiv, bop_mul, ixOp_t0, ixOp_t1, ixOp_l, bsem_lenl, bsem_lent, gcv_u, gcv_d, isiD_i, isiD_b, isTok_i, isTok_b, isTok_n, isTok_t, isTok_l, isTok_s, and_true, true_and, Bool.false_eq_true, Bool.true_eq_false, Bool.not_true, Bool.not_false, Bool.not_not, noList_i, noList_b, noList_n, noList_t, plain_n, plain_c, lenlim, Nat.reduceAdd, Nat.reduceSub, isNon_n, isNon_i, isNon_b, isNon_t, isNon_l, isNon_s, ite_self, not_true_eq_false, not_false_eq_true, implies_true, false_and, and_false, decide_true, decide_false, decide_not, ixOp_s0, ixOp_s1, ixOp_p, ixOp_p0, ixOp_p1, ixOp_i, bsem_lenp, bsem_leni, isTok_sky, isTok_ps, isTok_is, isTok_p, noList_p, cop_eqi, cop_nei, bsem_max2, bsem_min2, ge0, d_is_int_i, toNat_nat, rangeD_len, eq_self, cop_eqil, cop_neil, cop_eqps, cop_neps, cop_eqp, cop_nep, Bool.and_true, Bool.true_and, big1, big2, cop_eqi0, cop_nei0, cop_eqp0, cop_nep0, bop_addps, bop_addis, bsem_maxl, bsem_minl, mtTy_index, msem_index, d_lpick2, d_lpick3, t_check_all, d_check_all, t_waits_of, d_waits_of, ↓reduceIte, foldI, foldP, cop_ne00, cop_eq00, Int.reduceSub, Int.reduceNeg, Int.reduceAdd, Int.reduceMul, Int.reduceToNat, b_longest_wait, b_longest_wait_0, b_longest_wait_1]
  generalize waitsL u bs l b = W at *
  by_cases hz : W = []
  · rw [if_pos hz] at hQ
    try simp (maxSteps := 2000000) (disch := first | assumption | omega) only [↓e_var, ↓e_ci, ↓e_cs, ↓e_cb, ↓e_cn, ↓e_gc, ↓e_bin, ↓e_neg, ↓e_inot, ↓e_cmp, ↓e_chain, ↓e_isN, ↓e_notN, ↓e_isB, ↓e_notB, ↓e_bool, ↓e_ife, ↓e_ix, ↓e_slc, ↓e_tup, ↓e_lst, ↓e_call, ↓e_bi, ↓e_mth, ↓e_lc, ↓e_isi, ↓e_srtSet, ↓e_lenSet, ↓e_lstRg, ↓e_lstRg3, ↓es_nil, ↓es_cons, ↓eb_one, ↓eb_and, ↓eb_or, ↓eo_none, ↓eo_some, ↓ec_none, ↓ec_some, ↓ei_list, ↓ei_tup, ↓ei_rg1, ↓ei_rg2, ↓ei_rg3, ↓ei_zip, ↓s_asgt, ↓s_asg, ↓s_own, ↓s_asgT, ↓s_par, ↓s_expr, ↓s_app, ↓s_setix, ↓s_augix, ↓s_iadd, ↓s_rem, ↓s_ret, ↓s_ifs, ↓s_fors, ↓s_whil, ↓s_raise, ↓s_shut, ↓ss_nil, ↓ss_cons, ↓sf_nil, ↓sf_cons, ↓mustF_s, mustF_s, ↓boolF_b, boolF_b, ↓intF_i, intF_i, ↓listF_l, listF_l, ↓listF_p, listF_p, ↓listF_i, listF_i, ↓tupF_t, tupF_t, ↓atV_d, atV_d, ↓atV_o, atV_o, ↓atO_o, atO_o, ↓cnd_t, cnd_t, ↓cnd_f, cnd_f, ↓bindF_1, bindF_1, ↓bindF_2, bindF_2, ↓bindF_p, bindF_p, ↓runs, runs, start, getS, setS, blank, blank1, List.map_cons, List.map_nil, List.length_cons, List.length_nil, List.cons_append, List.nil_append, List.replicate, Nat.sub_self, cop_lt, cop_le, cop_gt, cop_ge, bop_add, bop_sub, bop_mod, bop_fdiv, bop_mul, ixOp_t0, ixOp_t1, ixOp_l, bsem_lenl, bsem_lent, gcv_u, gcv_d, isiD_i, isiD_b, isTok_i, isTok_b, isTok_n, isTok_t, isTok_l, isTok_s, and_true, true_and, Bool.false_eq_true, Bool.true_eq_false, Bool.not_true, Bool.not_false, Bool.not_not, noList_i, noList_b, noList_n, noList_t, plain_n, plain_c, lenlim, Nat.reduceAdd, Nat.reduceSub, isNon_n, isNon_i, isNon_b, isNon_t, isNon_l, isNon_s, ite_self, not_true_eq_false, not_false_eq_true, implies_true, false_and, and_false, decide_true, decide_false, decide_not, ixOp_s0, ixOp_s1, ixOp_p, ixOp_p0, ixOp_p1, ixOp_i, bsem_lenp, bsem_leni, isTok_sky, isTok_ps, isTok_is, isTok_p, noList_p, cop_eqi, cop_nei, bsem_max2, bsem_min2, ge0, d_is_int_i, toNat_nat, rangeD_len, eq_self, cop_eqil, cop_neil, cop_eqps, cop_neps, cop_eqp, cop_nep, Bool.and_true, Bool.true_and, big1, big2, cop_eqi0, cop_nei0, cop_eqp0, cop_nep0, bop_addps, bop_addis, bsem_maxl, bsem_minl, mtTy_index, msem_index, d_lpick2, d_lpick3, t_check_all, d_check_all, t_waits_of, d_waits_of, ↓reduceIte, foldI, foldP, cop_ne00, cop_eq00, Int.reduceSub, Int.reduceNeg, Int.reduceAdd, Int.reduceMul, Int.reduceToNat, b_longest_wait_2, hz]
    exact hQ
  · rw [if_neg hz] at hQ
    have l0 : 0 < W.length := List.length_pos_iff.mpr hz
    try simp (maxSteps := 2000000) (disch := first | assumption | omega) only [↓e_var, ↓e_ci, ↓e_cs, ↓e_cb, ↓e_cn, ↓e_gc, ↓e_bin, ↓e_neg, ↓e_inot, ↓e_cmp, ↓e_chain, ↓e_isN, ↓e_notN, ↓e_isB, ↓e_notB, ↓e_bool, ↓e_ife, ↓e_ix, ↓e_slc, ↓e_tup, ↓e_lst, ↓e_call, ↓e_bi, ↓e_mth, ↓e_lc, ↓e_isi, ↓e_srtSet, ↓e_lenSet, ↓e_lstRg, ↓e_lstRg3, ↓es_nil, ↓es_cons, ↓eb_one, ↓eb_and, ↓eb_or, ↓eo_none, ↓eo_some, ↓ec_none, ↓ec_some, ↓ei_list, ↓ei_tup, ↓ei_rg1, ↓ei_rg2, ↓ei_rg3, ↓ei_zip, ↓s_asgt, ↓s_asg, ↓s_own, ↓s_asgT, ↓s_par, ↓s_expr, ↓s_app, ↓s_setix, ↓s_augix, ↓s_iadd, ↓s_rem, ↓s_ret, ↓s_ifs, ↓s_fors, ↓s_whil, ↓s_raise, ↓s_shut, ↓ss_nil, ↓ss_cons, ↓sf_nil, ↓sf_cons, ↓mustF_s, mustF_s, ↓boolF_b, boolF_b, ↓intF_i, intF_i, ↓listF_l, listF_l, ↓listF_p, listF_p, ↓listF_i, listF_i, ↓tupF_t, tupF_t, ↓atV_d, atV_d, ↓atV_o, atV_o, ↓atO_o, atO_o, ↓cnd_t, cnd_t, ↓cnd_f, cnd_f, ↓bindF_1, bindF_1, ↓bindF_2, bindF_2, ↓bindF_p, bindF_p, ↓runs, runs, start, getS, setS, blank, blank1, List.map_cons, List.map_nil, List.length_cons, List.length_nil, List.cons_append, List.nil_append, List.replicate, Nat.sub_self, cop_lt, cop_le, cop_gt, cop_ge, bop_add, bop_sub, bop_mod, bop_fdiv, bop_mul, ixOp_t0, ixOp_t1, ixOp_l, bsem_lenl, bsem_lent, gcv_u, gcv_d, isiD_i, isiD_b, isTok_i, isTok_b, isTok_n, isTok_t, isTok_l, isTok_s, and_true, true_and, Bool.false_eq_true, Bool.true_eq_false, Bool.not_true, Bool.not_false, Bool.not_not, noList_i, noList_b, noList_n, noList_t, plain_n, plain_c, lenlim, Nat.reduceAdd, Nat.reduceSub, isNon_n, isNon_i, isNon_b, isNon_t, isNon_l, isNon_s, ite_self, not_true_eq_false, not_false_eq_true, implies_true, false_and, and_false, decide_true, decide_false, decide_not, ixOp_s0, ixOp_s1, ixOp_p, ixOp_p0, ixOp_p1, ixOp_i, bsem_lenp, bsem_leni, isTok_sky, isTok_ps, isTok_is, isTok_p, noList_p, cop_eqi, cop_nei, bsem_max2, bsem_min2, ge0, d_is_int_i, toNat_nat, rangeD_len, eq_self, cop_eqil, cop_neil, cop_eqps, cop_neps, cop_eqp, cop_nep, Bool.and_true, Bool.true_and, big1, big2, cop_eqi0, cop_nei0, cop_eqp0, cop_nep0, bop_addps, bop_addis, bsem_maxl, bsem_minl, mtTy_index, msem_index, d_lpick2, d_lpick3, t_check_all, d_check_all, t_waits_of, d_waits_of, ↓reduceIte, foldI, foldP, cop_ne00, cop_eq00, Int.reduceSub, Int.reduceNeg, Int.reduceAdd, Int.reduceMul, Int.reduceToNat, b_longest_wait_2, hz, b_longest_wait_3]
    exact hQ
def sp_longest_after : Spec := fun ds Q X => ∃ (u : Int) (bs : List (Int × Int)) (l : List Int) (b : Int), ds = [skyD u bs, intsD l, .int b] ∧ (Sky u bs) ∧ (Sel bs l) ∧ (0 ≤ b) ∧ (b < u) ∧ (if waitsL u bs l b = [] then X .non else Q (.int (nth (gdays u bs l b) (idx (waitsL u bs l b) (lmax (waitsL u bs l b))))))
theorem c_longest_after {u : Int} {bs : List (Int × Int)} {l : List Int} {b : Int} {Q : D → Prop} {X : Exn → Prop} (h0 : Sky u bs) (h1 : Sel bs l) (h2 : 0 ≤ b) (h3 : b < u) : sp_longest_after [skyD u bs, intsD l, .int b] Q X = (if waitsL u bs l b = [] then X .non else Q (.int (nth (gdays u bs l b) (idx (waitsL u bs l b) (lmax (waitsL u bs l b)))))) := by
  simp only [eq_iff_iff]
  constructor
  · rintro ⟨u', bs', l', b', e, _, _, _, _, h⟩
    simp only [List.cons.injEq, PyData.int.injEq, PyData.bool.injEq, skyD_eq, intsD_eq, pairsD_eq, pairD_eq, and_true, true_and] at e
    obtain ⟨⟨rfl, rfl⟩, rfl, rfl⟩ := e
    exact h
  · exact fun h => ⟨u, bs, l, b, rfl, h0, h1, h2, h3, h⟩
theorem d_longest_after {u : Int} {bs : List (Int × Int)} {l : List Int} {b : Int} {Q : D → Prop} {X : Exn → Prop} {wq : Tag (Q, X)} (h0 : Sky u bs) (h1 : Sel bs l) (h2 : 0 ≤ b) (h3 : b < u) : callF sp_longest_after [skyD u bs, intsD l, .int b] wq = (if waitsL u bs l b = [] then X .non else Q (.int (nth (gdays u bs l b) (idx (waitsL u bs l b) (lmax (waitsL u bs l b)))))) := c_longest_after h0 h1 h2 h3
theorem r_longest_after {T : Fn → Spec} (t_check_all : T .check_all = sp_check_all) (t_waits_of : T .waits_of = sp_waits_of) (t_days_of : T .days_of = sp_days_of) {ds : List D} {Q : D → Prop} {X : Exn → Prop} (h : sp_longest_after ds Q X) : ds.length = 3 ∧ runs T 4 b_longest_after ds Q X := by
  obtain ⟨u, bs, l, b, rfl, hs, h1, h2, h3, hQ⟩ := h
  refine ⟨rfl, ?_⟩
  have wl := waits_len (u := u) (bs := bs) (l := l) (b := b)
  try simp (maxSteps := 2000000) (disch := first | assumption | omega) only [↓e_var, ↓e_ci, ↓e_cs, ↓e_cb, ↓e_cn, ↓e_gc, ↓e_bin, ↓e_neg, ↓e_inot, ↓e_cmp, ↓e_chain, ↓e_isN, ↓e_notN, ↓e_isB, ↓e_notB, ↓e_bool, ↓e_ife, ↓e_ix, ↓e_slc, ↓e_tup, ↓e_lst, ↓e_call, ↓e_bi, ↓e_mth, ↓e_lc, ↓e_isi, ↓e_srtSet, ↓e_lenSet, ↓e_lstRg, ↓e_lstRg3, ↓es_nil, ↓es_cons, ↓eb_one, ↓eb_and, ↓eb_or, ↓eo_none, ↓eo_some, ↓ec_none, ↓ec_some, ↓ei_list, ↓ei_tup, ↓ei_rg1, ↓ei_rg2, ↓ei_rg3, ↓ei_zip, ↓s_asgt, ↓s_asg, ↓s_own, ↓s_asgT, ↓s_par, ↓s_expr, ↓s_app, ↓s_setix, ↓s_augix, ↓s_iadd, ↓s_rem, ↓s_ret, ↓s_ifs, ↓s_fors, ↓s_whil, ↓s_raise, ↓s_shut, ↓ss_nil, ↓ss_cons, ↓sf_nil, ↓sf_cons, ↓mustF_s, mustF_s, ↓boolF_b, boolF_b, ↓intF_i, intF_i, ↓listF_l, listF_l, ↓listF_p, listF_p, ↓listF_i, listF_i, ↓tupF_t, tupF_t, ↓atV_d, atV_d, ↓atV_o, atV_o, ↓atO_o, atO_o, ↓cnd_t, cnd_t, ↓cnd_f, cnd_f, ↓bindF_1, bindF_1, ↓bindF_2, bindF_2, ↓bindF_p, bindF_p, ↓runs, runs, start, getS, setS, blank, blank1, List.map_cons, List.map_nil, List.length_cons, List.length_nil, List.cons_append, List.nil_append, List.replicate, Nat.sub_self, cop_lt, cop_le, cop_gt, cop_ge, bop_add, bop_sub, bop_mod, bop_fdiv, bop_mul, ixOp_t0, ixOp_t1, ixOp_l, bsem_lenl, bsem_lent, gcv_u, gcv_d, isiD_i, isiD_b, isTok_i, isTok_b, isTok_n, isTok_t, isTok_l, isTok_s, and_true, true_and, Bool.false_eq_true, Bool.true_eq_false, Bool.not_true, Bool.not_false, Bool.not_not, noList_i, noList_b, noList_n, noList_t, plain_n, plain_c, lenlim, Nat.reduceAdd, Nat.reduceSub, isNon_n, isNon_i, isNon_b, isNon_t, isNon_l, isNon_s, ite_self, not_true_eq_false, not_false_eq_true, implies_true, false_and, and_false, decide_true, decide_false, decide_not, ixOp_s0, ixOp_s1, ixOp_p, ixOp_p0, ixOp_p1, ixOp_i, bsem_lenp, bsem_leni, isTok_sky, isTok_ps, isTok_is, isTok_p, noList_p, cop_eqi, cop_nei, bsem_max2, bsem_min2, ge0, d_is_int_i, toNat_nat, rangeD_len, eq_self, cop_eqil, cop_neil, cop_eqps, cop_neps, cop_eqp, cop_nep, Bool.and_true, Bool.true_and, big1, big2, cop_eqi0, cop_nei0, cop_eqp0, cop_nep0, bop_addps, bop_addis, bsem_maxl, bsem_minl, mtTy_index, msem_index, d_lpick2, d_lpick3, t_check_all, d_check_all, t_waits_of, d_waits_of, t_days_of, d_days_of, ↓reduceIte, foldI, foldP, cop_ne00, cop_eq00, Int.reduceSub, Int.reduceNeg, Int.reduceAdd, Int.reduceMul, Int.reduceToNat, b_longest_after, b_longest_after_0, b_longest_after_1]
  generalize waitsL u bs l b = W at *
  generalize hG : gdays u bs l b = G at *
  by_cases hz : W = []
  · rw [if_pos hz] at hQ
    try simp (maxSteps := 2000000) (disch := first | assumption | omega) only [↓e_var, ↓e_ci, ↓e_cs, ↓e_cb, ↓e_cn, ↓e_gc, ↓e_bin, ↓e_neg, ↓e_inot, ↓e_cmp, ↓e_chain, ↓e_isN, ↓e_notN, ↓e_isB, ↓e_notB, ↓e_bool, ↓e_ife, ↓e_ix, ↓e_slc, ↓e_tup, ↓e_lst, ↓e_call, ↓e_bi, ↓e_mth, ↓e_lc, ↓e_isi, ↓e_srtSet, ↓e_lenSet, ↓e_lstRg, ↓e_lstRg3, ↓es_nil, ↓es_cons, ↓eb_one, ↓eb_and, ↓eb_or, ↓eo_none, ↓eo_some, ↓ec_none, ↓ec_some, ↓ei_list, ↓ei_tup, ↓ei_rg1, ↓ei_rg2, ↓ei_rg3, ↓ei_zip, ↓s_asgt, ↓s_asg, ↓s_own, ↓s_asgT, ↓s_par, ↓s_expr, ↓s_app, ↓s_setix, ↓s_augix, ↓s_iadd, ↓s_rem, ↓s_ret, ↓s_ifs, ↓s_fors, ↓s_whil, ↓s_raise, ↓s_shut, ↓ss_nil, ↓ss_cons, ↓sf_nil, ↓sf_cons, ↓mustF_s, mustF_s, ↓boolF_b, boolF_b, ↓intF_i, intF_i, ↓listF_l, listF_l, ↓listF_p, listF_p, ↓listF_i, listF_i, ↓tupF_t, tupF_t, ↓atV_d, atV_d, ↓atV_o, atV_o, ↓atO_o, atO_o, ↓cnd_t, cnd_t, ↓cnd_f, cnd_f, ↓bindF_1, bindF_1, ↓bindF_2, bindF_2, ↓bindF_p, bindF_p, ↓runs, runs, start, getS, setS, blank, blank1, List.map_cons, List.map_nil, List.length_cons, List.length_nil, List.cons_append, List.nil_append, List.replicate, Nat.sub_self, cop_lt, cop_le, cop_gt, cop_ge, bop_add, bop_sub, bop_mod, bop_fdiv, bop_mul, ixOp_t0, ixOp_t1, ixOp_l, bsem_lenl, bsem_lent, gcv_u, gcv_d, isiD_i, isiD_b, isTok_i, isTok_b, isTok_n, isTok_t, isTok_l, isTok_s, and_true, true_and, Bool.false_eq_true, Bool.true_eq_false, Bool.not_true, Bool.not_false, Bool.not_not, noList_i, noList_b, noList_n, noList_t, plain_n, plain_c, lenlim, Nat.reduceAdd, Nat.reduceSub, isNon_n, isNon_i, isNon_b, isNon_t, isNon_l, isNon_s, ite_self, not_true_eq_false, not_false_eq_true, implies_true, false_and, and_false, decide_true, decide_false, decide_not, ixOp_s0, ixOp_s1, ixOp_p, ixOp_p0, ixOp_p1, ixOp_i, bsem_lenp, bsem_leni, isTok_sky, isTok_ps, isTok_is, isTok_p, noList_p, cop_eqi, cop_nei, bsem_max2, bsem_min2, ge0, d_is_int_i, toNat_nat, rangeD_len, eq_self, cop_eqil, cop_neil, cop_eqps, cop_neps, cop_eqp, cop_nep, Bool.and_true, Bool.true_and, big1, big2, cop_eqi0, cop_nei0, cop_eqp0, cop_nep0, bop_addps, bop_addis, bsem_maxl, bsem_minl, mtTy_index, msem_index, d_lpick2, d_lpick3, t_check_all, d_check_all, t_waits_of, d_waits_of, t_days_of, d_days_of, ↓reduceIte, foldI, foldP, cop_ne00, cop_eq00, Int.reduceSub, Int.reduceNeg, Int.reduceAdd, Int.reduceMul, Int.reduceToNat, b_longest_after_2, hz]
    exact hQ
  · rw [if_neg hz] at hQ
    have l0 : 0 < W.length := List.length_pos_iff.mpr hz
    have lm := lmax_in l0
    obtain ⟨i0, i1, _⟩ := idx_spec lm
    try simp (maxSteps := 2000000) (disch := first | assumption | omega) only [↓e_var, ↓e_ci, ↓e_cs, ↓e_cb, ↓e_cn, ↓e_gc, ↓e_bin, ↓e_neg, ↓e_inot, ↓e_cmp, ↓e_chain, ↓e_isN, ↓e_notN, ↓e_isB, ↓e_notB, ↓e_bool, ↓e_ife, ↓e_ix, ↓e_slc, ↓e_tup, ↓e_lst, ↓e_call, ↓e_bi, ↓e_mth, ↓e_lc, ↓e_isi, ↓e_srtSet, ↓e_lenSet, ↓e_lstRg, ↓e_lstRg3, ↓es_nil, ↓es_cons, ↓eb_one, ↓eb_and, ↓eb_or, ↓eo_none, ↓eo_some, ↓ec_none, ↓ec_some, ↓ei_list, ↓ei_tup, ↓ei_rg1, ↓ei_rg2, ↓ei_rg3, ↓ei_zip, ↓s_asgt, ↓s_asg, ↓s_own, ↓s_asgT, ↓s_par, ↓s_expr, ↓s_app, ↓s_setix, ↓s_augix, ↓s_iadd, ↓s_rem, ↓s_ret, ↓s_ifs, ↓s_fors, ↓s_whil, ↓s_raise, ↓s_shut, ↓ss_nil, ↓ss_cons, ↓sf_nil, ↓sf_cons, ↓mustF_s, mustF_s, ↓boolF_b, boolF_b, ↓intF_i, intF_i, ↓listF_l, listF_l, ↓listF_p, listF_p, ↓listF_i, listF_i, ↓tupF_t, tupF_t, ↓atV_d, atV_d, ↓atV_o, atV_o, ↓atO_o, atO_o, ↓cnd_t, cnd_t, ↓cnd_f, cnd_f, ↓bindF_1, bindF_1, ↓bindF_2, bindF_2, ↓bindF_p, bindF_p, ↓runs, runs, start, getS, setS, blank, blank1, List.map_cons, List.map_nil, List.length_cons, List.length_nil, List.cons_append, List.nil_append, List.replicate, Nat.sub_self, cop_lt, cop_le, cop_gt, cop_ge, bop_add, bop_sub, bop_mod, bop_fdiv, bop_mul, ixOp_t0, ixOp_t1, ixOp_l, bsem_lenl, bsem_lent, gcv_u, gcv_d, isiD_i, isiD_b, isTok_i, isTok_b, isTok_n, isTok_t, isTok_l, isTok_s, and_true, true_and, Bool.false_eq_true, Bool.true_eq_false, Bool.not_true, Bool.not_false, Bool.not_not, noList_i, noList_b, noList_n, noList_t, plain_n, plain_c, lenlim, Nat.reduceAdd, Nat.reduceSub, isNon_n, isNon_i, isNon_b, isNon_t, isNon_l, isNon_s, ite_self, not_true_eq_false, not_false_eq_true, implies_true, false_and, and_false, decide_true, decide_false, decide_not, ixOp_s0, ixOp_s1, ixOp_p, ixOp_p0, ixOp_p1, ixOp_i, bsem_lenp, bsem_leni, isTok_sky, isTok_ps, isTok_is, isTok_p, noList_p, cop_eqi, cop_nei, bsem_max2, bsem_min2, ge0, d_is_int_i, toNat_nat, rangeD_len, eq_self, cop_eqil, cop_neil, cop_eqps, cop_neps, cop_eqp, cop_nep, Bool.and_true, Bool.true_and, big1, big2, cop_eqi0, cop_nei0, cop_eqp0, cop_nep0, bop_addps, bop_addis, bsem_maxl, bsem_minl, mtTy_index, msem_index, d_lpick2, d_lpick3, t_check_all, d_check_all, t_waits_of, d_waits_of, t_days_of, d_days_of, ↓reduceIte, foldI, foldP, cop_ne00, cop_eq00, Int.reduceSub, Int.reduceNeg, Int.reduceAdd, Int.reduceMul, Int.reduceToNat, b_longest_after_2, hz, b_longest_after_3, hG]
    exact hQ
def meanW (R : Int) (n : Nat) : Int × Int := (R / (Int.gcd R n : Int), (n : Int) / (Int.gcd R n : Int))
def sp_mean_wait : Spec := fun ds Q X => ∃ (u : Int) (bs : List (Int × Int)) (l : List Int) (b : Int), ds = [skyD u bs, intsD l, .int b] ∧ (Sky u bs) ∧ (Sel bs l) ∧ (0 ≤ b) ∧ (b < u) ∧ (if gdays u bs l b = [] then X .non else Q (pairD (meanW (rel u bs l) (gdays u bs l b).length)))
theorem c_mean_wait {u : Int} {bs : List (Int × Int)} {l : List Int} {b : Int} {Q : D → Prop} {X : Exn → Prop} (h0 : Sky u bs) (h1 : Sel bs l) (h2 : 0 ≤ b) (h3 : b < u) : sp_mean_wait [skyD u bs, intsD l, .int b] Q X = (if gdays u bs l b = [] then X .non else Q (pairD (meanW (rel u bs l) (gdays u bs l b).length))) := by
  simp only [eq_iff_iff]
  constructor
  · rintro ⟨u', bs', l', b', e, _, _, _, _, h⟩
    simp only [List.cons.injEq, PyData.int.injEq, PyData.bool.injEq, skyD_eq, intsD_eq, pairsD_eq, pairD_eq, and_true, true_and] at e
    obtain ⟨⟨rfl, rfl⟩, rfl, rfl⟩ := e
    exact h
  · exact fun h => ⟨u, bs, l, b, rfl, h0, h1, h2, h3, h⟩
theorem d_mean_wait {u : Int} {bs : List (Int × Int)} {l : List Int} {b : Int} {Q : D → Prop} {X : Exn → Prop} {wq : Tag (Q, X)} (h0 : Sky u bs) (h1 : Sel bs l) (h2 : 0 ≤ b) (h3 : b < u) : callF sp_mean_wait [skyD u bs, intsD l, .int b] wq = (if gdays u bs l b = [] then X .non else Q (pairD (meanW (rel u bs l) (gdays u bs l b).length))) := c_mean_wait h0 h1 h2 h3
theorem r_mean_wait {T : Fn → Spec} (t_check_all : T .check_all = sp_check_all) (t_days_of : T .days_of = sp_days_of) (t_relative_of : T .relative_of = sp_relative_of) {ds : List D} {Q : D → Prop} {X : Exn → Prop} (h : sp_mean_wait ds Q X) : ds.length = 3 ∧ runs T 8 b_mean_wait ds Q X := by
  obtain ⟨u, bs, l, b, rfl, hs, h1, h2, h3, hQ⟩ := h
  refine ⟨rfl, ?_⟩
  have gl := gdays_len (l := l) (b := b) hs
  have r0 := rel_pos (l := l) hs
  have r1 := rel_le (l := l) hs
  have hi := hs.hi
  try simp (maxSteps := 2000000) (disch := first | assumption | omega) only [↓e_var, ↓e_ci, ↓e_cs, ↓e_cb, ↓e_cn, ↓e_gc, ↓e_bin, ↓e_neg, ↓e_inot, ↓e_cmp, ↓e_chain, ↓e_isN, ↓e_notN, ↓e_isB, ↓e_notB, ↓e_bool, ↓e_ife, ↓e_ix, ↓e_slc, ↓e_tup, ↓e_lst, ↓e_call, ↓e_bi, ↓e_mth, ↓e_lc, ↓e_isi, ↓e_srtSet, ↓e_lenSet, ↓e_lstRg, ↓e_lstRg3, ↓es_nil, ↓es_cons, ↓eb_one, ↓eb_and, ↓eb_or, ↓eo_none, ↓eo_some, ↓ec_none, ↓ec_some, ↓ei_list, ↓ei_tup, ↓ei_rg1, ↓ei_rg2, ↓ei_rg3, ↓ei_zip, ↓s_asgt, ↓s_asg, ↓s_own, ↓s_asgT, ↓s_par, ↓s_expr, ↓s_app, ↓s_setix, ↓s_augix, ↓s_iadd, ↓s_rem, ↓s_ret, ↓s_ifs, ↓s_fors, ↓s_whil, ↓s_raise, ↓s_shut, ↓ss_nil, ↓ss_cons, ↓sf_nil, ↓sf_cons, ↓mustF_s, mustF_s, ↓boolF_b, boolF_b, ↓intF_i, intF_i, ↓listF_l, listF_l, ↓listF_p, listF_p, ↓listF_i, listF_i, ↓tupF_t, tupF_t, ↓atV_d, atV_d, ↓atV_o, atV_o, ↓atO_o, atO_o, ↓cnd_t, cnd_t, ↓cnd_f, cnd_f, ↓bindF_1, bindF_1, ↓bindF_2, bindF_2, ↓bindF_p, bindF_p, ↓runs, runs, start, getS, setS, blank, blank1, List.map_cons, List.map_nil, List.length_cons, List.length_nil, List.cons_append, List.nil_append, List.replicate, Nat.sub_self, cop_lt, cop_le, cop_gt, cop_ge, bop_add, bop_sub, bop_mod, bop_fdiv, bop_mul, ixOp_t0, ixOp_t1, ixOp_l, bsem_lenl, bsem_lent, gcv_u, gcv_d, isiD_i, isiD_b, isTok_i, isTok_b, isTok_n, isTok_t, isTok_l, isTok_s, and_true, true_and, Bool.false_eq_true, Bool.true_eq_false, Bool.not_true, Bool.not_false, Bool.not_not, noList_i, noList_b, noList_n, noList_t, plain_n, plain_c, lenlim, Nat.reduceAdd, Nat.reduceSub, isNon_n, isNon_i, isNon_b, isNon_t, isNon_l, isNon_s, ite_self, not_true_eq_false, not_false_eq_true, implies_true, false_and, and_false, decide_true, decide_false, decide_not, ixOp_s0, ixOp_s1, ixOp_p, ixOp_p0, ixOp_p1, ixOp_i, bsem_lenp, bsem_leni, isTok_sky, isTok_ps, isTok_is, isTok_p, noList_p, cop_eqi, cop_nei, bsem_max2, bsem_min2, ge0, d_is_int_i, toNat_nat, rangeD_len, eq_self, cop_eqil, cop_neil, cop_eqps, cop_neps, cop_eqp, cop_nep, Bool.and_true, Bool.true_and, big1, big2, cop_eqi0, cop_nei0, cop_eqp0, cop_nep0, bop_addps, bop_addis, bsem_maxl, bsem_minl, mtTy_index, msem_index, d_lpick2, d_lpick3, t_check_all, d_check_all, t_days_of, d_days_of, t_relative_of, d_relative_of, ↓reduceIte, foldI, foldP, cop_ne00, cop_eq00, Int.reduceSub, Int.reduceNeg, Int.reduceAdd, Int.reduceMul, Int.reduceToNat, b_mean_wait, b_mean_wait_0, b_mean_wait_1]
  generalize hR : rel u bs l = R at *
  generalize gdays u bs l b = G at *
  by_cases hz : G = []
  · rw [if_pos hz] at hQ
    try simp (maxSteps := 2000000) (disch := first | assumption | omega) only [↓e_var, ↓e_ci, ↓e_cs, ↓e_cb, ↓e_cn, ↓e_gc, ↓e_bin, ↓e_neg, ↓e_inot, ↓e_cmp, ↓e_chain, ↓e_isN, ↓e_notN, ↓e_isB, ↓e_notB, ↓e_bool, ↓e_ife, ↓e_ix, ↓e_slc, ↓e_tup, ↓e_lst, ↓e_call, ↓e_bi, ↓e_mth, ↓e_lc, ↓e_isi, ↓e_srtSet, ↓e_lenSet, ↓e_lstRg, ↓e_lstRg3, ↓es_nil, ↓es_cons, ↓eb_one, ↓eb_and, ↓eb_or, ↓eo_none, ↓eo_some, ↓ec_none, ↓ec_some, ↓ei_list, ↓ei_tup, ↓ei_rg1, ↓ei_rg2, ↓ei_rg3, ↓ei_zip, ↓s_asgt, ↓s_asg, ↓s_own, ↓s_asgT, ↓s_par, ↓s_expr, ↓s_app, ↓s_setix, ↓s_augix, ↓s_iadd, ↓s_rem, ↓s_ret, ↓s_ifs, ↓s_fors, ↓s_whil, ↓s_raise, ↓s_shut, ↓ss_nil, ↓ss_cons, ↓sf_nil, ↓sf_cons, ↓mustF_s, mustF_s, ↓boolF_b, boolF_b, ↓intF_i, intF_i, ↓listF_l, listF_l, ↓listF_p, listF_p, ↓listF_i, listF_i, ↓tupF_t, tupF_t, ↓atV_d, atV_d, ↓atV_o, atV_o, ↓atO_o, atO_o, ↓cnd_t, cnd_t, ↓cnd_f, cnd_f, ↓bindF_1, bindF_1, ↓bindF_2, bindF_2, ↓bindF_p, bindF_p, ↓runs, runs, start, getS, setS, blank, blank1, List.map_cons, List.map_nil, List.length_cons, List.length_nil, List.cons_append, List.nil_append, List.replicate, Nat.sub_self, cop_lt, cop_le, cop_gt, cop_ge, bop_add, bop_sub, bop_mod, bop_fdiv, bop_mul, ixOp_t0, ixOp_t1, ixOp_l, bsem_lenl, bsem_lent, gcv_u, gcv_d, isiD_i, isiD_b, isTok_i, isTok_b, isTok_n, isTok_t, isTok_l, isTok_s, and_true, true_and, Bool.false_eq_true, Bool.true_eq_false, Bool.not_true, Bool.not_false, Bool.not_not, noList_i, noList_b, noList_n, noList_t, plain_n, plain_c, lenlim, Nat.reduceAdd, Nat.reduceSub, isNon_n, isNon_i, isNon_b, isNon_t, isNon_l, isNon_s, ite_self, not_true_eq_false, not_false_eq_true, implies_true, false_and, and_false, decide_true, decide_false, decide_not, ixOp_s0, ixOp_s1, ixOp_p, ixOp_p0, ixOp_p1, ixOp_i, bsem_lenp, bsem_leni, isTok_sky, isTok_ps, isTok_is, isTok_p, noList_p, cop_eqi, cop_nei, bsem_max2, bsem_min2, ge0, d_is_int_i, toNat_nat, rangeD_len, eq_self, cop_eqil, cop_neil, cop_eqps, cop_neps, cop_eqp, cop_nep, Bool.and_true, Bool.true_and, big1, big2, cop_eqi0, cop_nei0, cop_eqp0, cop_nep0, bop_addps, bop_addis, bsem_maxl, bsem_minl, mtTy_index, msem_index, d_lpick2, d_lpick3, t_check_all, d_check_all, t_days_of, d_days_of, t_relative_of, d_relative_of, ↓reduceIte, foldI, foldP, cop_ne00, cop_eq00, Int.reduceSub, Int.reduceNeg, Int.reduceAdd, Int.reduceMul, Int.reduceToNat, b_mean_wait_2, hz]
    exact hQ
  · rw [if_neg hz] at hQ
    try simp (maxSteps := 2000000) (disch := first | assumption | omega) only [↓e_var, ↓e_ci, ↓e_cs, ↓e_cb, ↓e_cn, ↓e_gc, ↓e_bin, ↓e_neg, ↓e_inot, ↓e_cmp, ↓e_chain, ↓e_isN, ↓e_notN, ↓e_isB, ↓e_notB, ↓e_bool, ↓e_ife, ↓e_ix, ↓e_slc, ↓e_tup, ↓e_lst, ↓e_call, ↓e_bi, ↓e_mth, ↓e_lc, ↓e_isi, ↓e_srtSet, ↓e_lenSet, ↓e_lstRg, ↓e_lstRg3, ↓es_nil, ↓es_cons, ↓eb_one, ↓eb_and, ↓eb_or, ↓eo_none, ↓eo_some, ↓ec_none, ↓ec_some, ↓ei_list, ↓ei_tup, ↓ei_rg1, ↓ei_rg2, ↓ei_rg3, ↓ei_zip, ↓s_asgt, ↓s_asg, ↓s_own, ↓s_asgT, ↓s_par, ↓s_expr, ↓s_app, ↓s_setix, ↓s_augix, ↓s_iadd, ↓s_rem, ↓s_ret, ↓s_ifs, ↓s_fors, ↓s_whil, ↓s_raise, ↓s_shut, ↓ss_nil, ↓ss_cons, ↓sf_nil, ↓sf_cons, ↓mustF_s, mustF_s, ↓boolF_b, boolF_b, ↓intF_i, intF_i, ↓listF_l, listF_l, ↓listF_p, listF_p, ↓listF_i, listF_i, ↓tupF_t, tupF_t, ↓atV_d, atV_d, ↓atV_o, atV_o, ↓atO_o, atO_o, ↓cnd_t, cnd_t, ↓cnd_f, cnd_f, ↓bindF_1, bindF_1, ↓bindF_2, bindF_2, ↓bindF_p, bindF_p, ↓runs, runs, start, getS, setS, blank, blank1, List.map_cons, List.map_nil, List.length_cons, List.length_nil, List.cons_append, List.nil_append, List.replicate, Nat.sub_self, cop_lt, cop_le, cop_gt, cop_ge, bop_add, bop_sub, bop_mod, bop_fdiv, bop_mul, ixOp_t0, ixOp_t1, ixOp_l, bsem_lenl, bsem_lent, gcv_u, gcv_d, isiD_i, isiD_b, isTok_i, isTok_b, isTok_n, isTok_t, isTok_l, isTok_s, and_true, true_and, Bool.false_eq_true, Bool.true_eq_false, Bool.not_true, Bool.not_false, Bool.not_not, noList_i, noList_b, noList_n, noList_t, plain_n, plain_c, lenlim, Nat.reduceAdd, Nat.reduceSub, isNon_n, isNon_i, isNon_b, isNon_t, isNon_l, isNon_s, ite_self, not_true_eq_false, not_false_eq_true, implies_true, false_and, and_false, decide_true, decide_false, decide_not, ixOp_s0, ixOp_s1, ixOp_p, ixOp_p0, ixOp_p1, ixOp_i, bsem_lenp, bsem_leni, isTok_sky, isTok_ps, isTok_is, isTok_p, noList_p, cop_eqi, cop_nei, bsem_max2, bsem_min2, ge0, d_is_int_i, toNat_nat, rangeD_len, eq_self, cop_eqil, cop_neil, cop_eqps, cop_neps, cop_eqp, cop_nep, Bool.and_true, Bool.true_and, big1, big2, cop_eqi0, cop_nei0, cop_eqp0, cop_nep0, bop_addps, bop_addis, bsem_maxl, bsem_minl, mtTy_index, msem_index, d_lpick2, d_lpick3, t_check_all, d_check_all, t_days_of, d_days_of, t_relative_of, d_relative_of, ↓reduceIte, foldI, foldP, cop_ne00, cop_eq00, Int.reduceSub, Int.reduceNeg, Int.reduceAdd, Int.reduceMul, Int.reduceToNat, b_mean_wait_2, hz, b_mean_wait_3, hR, b_mean_wait_4, b_mean_wait_5]
    refine ⟨fun m E => ∃ x y : Int, E = [.d (skyD u bs), .d (intsD l), .d (.int b), .d (intsD G), .d (.int R), .d (.int G.length), .d (.int x), .d (.int y)] ∧ 0 ≤ x ∧ 0 ≤ y ∧ y.toNat = m ∧ Int.gcd x y = Int.gcd R G.length, ⟨_, _, _, rfl, by omega, by omega, rfl, rfl⟩, fun m E hE => ?_⟩
    obtain ⟨x, y, rfl, x0, y0, hm, hg⟩ := hE
    by_cases hy : y = 0
    · subst hy
      have gp := gcd_pos (r := (G.length : Int)) r0
      have gle := gcd_le (b := (G.length : Int)) r0
      have ex : x = (Int.gcd R G.length : Int) := by rw [← hg, gcd_zero x0]
      subst ex
      try simp (maxSteps := 2000000) (disch := first | assumption | omega) only [↓e_var, ↓e_ci, ↓e_cs, ↓e_cb, ↓e_cn, ↓e_gc, ↓e_bin, ↓e_neg, ↓e_inot, ↓e_cmp, ↓e_chain, ↓e_isN, ↓e_notN, ↓e_isB, ↓e_notB, ↓e_bool, ↓e_ife, ↓e_ix, ↓e_slc, ↓e_tup, ↓e_lst, ↓e_call, ↓e_bi, ↓e_mth, ↓e_lc, ↓e_isi, ↓e_srtSet, ↓e_lenSet, ↓e_lstRg, ↓e_lstRg3, ↓es_nil, ↓es_cons, ↓eb_one, ↓eb_and, ↓eb_or, ↓eo_none, ↓eo_some, ↓ec_none, ↓ec_some, ↓ei_list, ↓ei_tup, ↓ei_rg1, ↓ei_rg2, ↓ei_rg3, ↓ei_zip, ↓s_asgt, ↓s_asg, ↓s_own, ↓s_asgT, ↓s_par, ↓s_expr, ↓s_app, ↓s_setix, ↓s_augix, ↓s_iadd, ↓s_rem, ↓s_ret, ↓s_ifs, ↓s_fors, ↓s_whil, ↓s_raise, ↓s_shut, ↓ss_nil, ↓ss_cons, ↓sf_nil, ↓sf_cons, ↓mustF_s, mustF_s, ↓boolF_b, boolF_b, ↓intF_i, intF_i, ↓listF_l, listF_l, ↓listF_p, listF_p, ↓listF_i, listF_i, ↓tupF_t, tupF_t, ↓atV_d, atV_d, ↓atV_o, atV_o, ↓atO_o, atO_o, ↓cnd_t, cnd_t, ↓cnd_f, cnd_f, ↓bindF_1, bindF_1, ↓bindF_2, bindF_2, ↓bindF_p, bindF_p, ↓runs, runs, start, getS, setS, blank, blank1, List.map_cons, List.map_nil, List.length_cons, List.length_nil, List.cons_append, List.nil_append, List.replicate, Nat.sub_self, cop_lt, cop_le, cop_gt, cop_ge, bop_add, bop_sub, bop_mod, bop_fdiv, bop_mul, ixOp_t0, ixOp_t1, ixOp_l, bsem_lenl, bsem_lent, gcv_u, gcv_d, isiD_i, isiD_b, isTok_i, isTok_b, isTok_n, isTok_t, isTok_l, isTok_s, and_true, true_and, Bool.false_eq_true, Bool.true_eq_false, Bool.not_true, Bool.not_false, Bool.not_not, noList_i, noList_b, noList_n, noList_t, plain_n, plain_c, lenlim, Nat.reduceAdd, Nat.reduceSub, isNon_n, isNon_i, isNon_b, isNon_t, isNon_l, isNon_s, ite_self, not_true_eq_false, not_false_eq_true, implies_true, false_and, and_false, decide_true, decide_false, decide_not, ixOp_s0, ixOp_s1, ixOp_p, ixOp_p0, ixOp_p1, ixOp_i, bsem_lenp, bsem_leni, isTok_sky, isTok_ps, isTok_is, isTok_p, noList_p, cop_eqi, cop_nei, bsem_max2, bsem_min2, ge0, d_is_int_i, toNat_nat, rangeD_len, eq_self, cop_eqil, cop_neil, cop_eqps, cop_neps, cop_eqp, cop_nep, Bool.and_true, Bool.true_and, big1, big2, cop_eqi0, cop_nei0, cop_eqp0, cop_nep0, bop_addps, bop_addis, bsem_maxl, bsem_minl, mtTy_index, msem_index, d_lpick2, d_lpick3, t_check_all, d_check_all, t_days_of, d_days_of, t_relative_of, d_relative_of, ↓reduceIte, foldI, foldP, cop_ne00, cop_eq00, Int.reduceSub, Int.reduceNeg, Int.reduceAdd, Int.reduceMul, Int.reduceToNat, b_mean_wait_6]
      exact hQ
    · have y1 : 0 < y := by omega
      try simp (maxSteps := 2000000) (disch := first | assumption | omega) only [↓e_var, ↓e_ci, ↓e_cs, ↓e_cb, ↓e_cn, ↓e_gc, ↓e_bin, ↓e_neg, ↓e_inot, ↓e_cmp, ↓e_chain, ↓e_isN, ↓e_notN, ↓e_isB, ↓e_notB, ↓e_bool, ↓e_ife, ↓e_ix, ↓e_slc, ↓e_tup, ↓e_lst, ↓e_call, ↓e_bi, ↓e_mth, ↓e_lc, ↓e_isi, ↓e_srtSet, ↓e_lenSet, ↓e_lstRg, ↓e_lstRg3, ↓es_nil, ↓es_cons, ↓eb_one, ↓eb_and, ↓eb_or, ↓eo_none, ↓eo_some, ↓ec_none, ↓ec_some, ↓ei_list, ↓ei_tup, ↓ei_rg1, ↓ei_rg2, ↓ei_rg3, ↓ei_zip, ↓s_asgt, ↓s_asg, ↓s_own, ↓s_asgT, ↓s_par, ↓s_expr, ↓s_app, ↓s_setix, ↓s_augix, ↓s_iadd, ↓s_rem, ↓s_ret, ↓s_ifs, ↓s_fors, ↓s_whil, ↓s_raise, ↓s_shut, ↓ss_nil, ↓ss_cons, ↓sf_nil, ↓sf_cons, ↓mustF_s, mustF_s, ↓boolF_b, boolF_b, ↓intF_i, intF_i, ↓listF_l, listF_l, ↓listF_p, listF_p, ↓listF_i, listF_i, ↓tupF_t, tupF_t, ↓atV_d, atV_d, ↓atV_o, atV_o, ↓atO_o, atO_o, ↓cnd_t, cnd_t, ↓cnd_f, cnd_f, ↓bindF_1, bindF_1, ↓bindF_2, bindF_2, ↓bindF_p, bindF_p, ↓runs, runs, start, getS, setS, blank, blank1, List.map_cons, List.map_nil, List.length_cons, List.length_nil, List.cons_append, List.nil_append, List.replicate, Nat.sub_self, cop_lt, cop_le, cop_gt, cop_ge, bop_add, bop_sub, bop_mod, bop_fdiv, bop_mul, ixOp_t0, ixOp_t1, ixOp_l, bsem_lenl, bsem_lent, gcv_u, gcv_d, isiD_i, isiD_b, isTok_i, isTok_b, isTok_n, isTok_t, isTok_l, isTok_s, and_true, true_and, Bool.false_eq_true, Bool.true_eq_false, Bool.not_true, Bool.not_false, Bool.not_not, noList_i, noList_b, noList_n, noList_t, plain_n, plain_c, lenlim, Nat.reduceAdd, Nat.reduceSub, isNon_n, isNon_i, isNon_b, isNon_t, isNon_l, isNon_s, ite_self, not_true_eq_false, not_false_eq_true, implies_true, false_and, and_false, decide_true, decide_false, decide_not, ixOp_s0, ixOp_s1, ixOp_p, ixOp_p0, ixOp_p1, ixOp_i, bsem_lenp, bsem_leni, isTok_sky, isTok_ps, isTok_is, isTok_p, noList_p, cop_eqi, cop_nei, bsem_max2, bsem_min2, ge0, d_is_int_i, toNat_nat, rangeD_len, eq_self, cop_eqil, cop_neil, cop_eqps, cop_neps, cop_eqp, cop_nep, Bool.and_true, Bool.true_and, big1, big2, cop_eqi0, cop_nei0, cop_eqp0, cop_nep0, bop_addps, bop_addis, bsem_maxl, bsem_minl, mtTy_index, msem_index, d_lpick2, d_lpick3, t_check_all, d_check_all, t_days_of, d_days_of, t_relative_of, d_relative_of, ↓reduceIte, foldI, foldP, cop_ne00, cop_eq00, Int.reduceSub, Int.reduceNeg, Int.reduceAdd, Int.reduceMul, Int.reduceToNat, hy, b_mean_wait_5l_0]
      have q0 := Int.emod_nonneg x hy
      have q1 := Int.emod_lt_of_pos x y1
      exact ⟨_, by omega, y, x % y, rfl, y0, q0, rfl, (gcd_step x0 y1).trans hg⟩
/-- rows of neighbouring days -/
def rstep (acc : List (Int × Int)) (d : Int) : List (Int × Int) := match acc.getLast? with
  | some z => if z.2 = d - 1 then acc.dropLast ++ [(z.1, d)] else acc ++ [(d, d)]
  | none => [(d, d)]
def rowsF (l : List Int) : List (Int × Int) := l.foldl rstep []
theorem rstep_len {acc : List (Int × Int)} {d : Int} : (rstep acc d).length ≤ acc.length + 1 := by
  unfold rstep
  split
  · split
    · simp
    · simp
  · simp
theorem rowsF_snoc {l : List Int} {d : Int} : rowsF (l ++ [d]) = rstep (rowsF l) d := by simp [rowsF]
theorem rowsF_len : ∀ (n : Nat) (l : List Int), l.length = n → (rowsF l).length ≤ n
  | 0, l, h => by
    have : l = [] := List.length_eq_zero_iff.mp h
    subst this
    simp [rowsF]
  | n + 1, l, h => by
    have hn : l ≠ [] := fun e => by subst e; simp at h
    have e := List.dropLast_concat_getLast hn
    rw [← e, rowsF_snoc]
    have h1 := rowsF_len n l.dropLast (by simp [h])
    have h2 := rstep_len (acc := rowsF l.dropLast) (d := l.getLast hn)
    omega
def sp_rows_of_days : Spec := fun ds Q X => ∃ (u : Int) (bs : List (Int × Int)) (l : List Int) (b : Int), ds = [skyD u bs, intsD l, .int b] ∧ (Sky u bs) ∧ (Sel bs l) ∧ (0 ≤ b) ∧ (b < u) ∧ (Q (pairsD (rowsF (gdays u bs l b))))
theorem c_rows_of_days {u : Int} {bs : List (Int × Int)} {l : List Int} {b : Int} {Q : D → Prop} {X : Exn → Prop} (h0 : Sky u bs) (h1 : Sel bs l) (h2 : 0 ≤ b) (h3 : b < u) : sp_rows_of_days [skyD u bs, intsD l, .int b] Q X = (Q (pairsD (rowsF (gdays u bs l b)))) := by
  simp only [eq_iff_iff]
  constructor
  · rintro ⟨u', bs', l', b', e, _, _, _, _, h⟩
    simp only [List.cons.injEq, PyData.int.injEq, PyData.bool.injEq, skyD_eq, intsD_eq, pairsD_eq, pairD_eq, and_true, true_and] at e
    obtain ⟨⟨rfl, rfl⟩, rfl, rfl⟩ := e
    exact h
  · exact fun h => ⟨u, bs, l, b, rfl, h0, h1, h2, h3, h⟩
theorem d_rows_of_days {u : Int} {bs : List (Int × Int)} {l : List Int} {b : Int} {Q : D → Prop} {X : Exn → Prop} {wq : Tag (Q, X)} (h0 : Sky u bs) (h1 : Sel bs l) (h2 : 0 ≤ b) (h3 : b < u) : callF sp_rows_of_days [skyD u bs, intsD l, .int b] wq = (Q (pairsD (rowsF (gdays u bs l b)))) := c_rows_of_days h0 h1 h2 h3
theorem r_rows_of_days {T : Fn → Spec} (t_check_all : T .check_all = sp_check_all) (t_days_of : T .days_of = sp_days_of) {ds : List D} {Q : D → Prop} {X : Exn → Prop} (h : sp_rows_of_days ds Q X) : ds.length = 3 ∧ runs T 5 b_rows_of_days ds Q X := by
  obtain ⟨u, bs, l, b, rfl, hs, h1, h2, h3, hQ⟩ := h
  refine ⟨rfl, ?_⟩
  have gl := gdays_len (l := l) (b := b) hs
  have hi := hs.hi
  try simp (maxSteps := 2000000) (disch := first | assumption | omega) only [↓e_var, ↓e_ci, ↓e_cs, ↓e_cb, ↓e_cn, ↓e_gc, ↓e_bin, ↓e_neg, ↓e_inot, ↓e_cmp, ↓e_chain, ↓e_isN, ↓e_notN, ↓e_isB, ↓e_notB, ↓e_bool, ↓e_ife, ↓e_ix, ↓e_slc, ↓e_tup, ↓e_lst, ↓e_call, ↓e_bi, ↓e_mth, ↓e_lc, ↓e_isi, ↓e_srtSet, ↓e_lenSet, ↓e_lstRg, ↓e_lstRg3, ↓es_nil, ↓es_cons, ↓eb_one, ↓eb_and, ↓eb_or, ↓eo_none, ↓eo_some, ↓ec_none, ↓ec_some, ↓ei_list, ↓ei_tup, ↓ei_rg1, ↓ei_rg2, ↓ei_rg3, ↓ei_zip, ↓s_asgt, ↓s_asg, ↓s_own, ↓s_asgT, ↓s_par, ↓s_expr, ↓s_app, ↓s_setix, ↓s_augix, ↓s_iadd, ↓s_rem, ↓s_ret, ↓s_ifs, ↓s_fors, ↓s_whil, ↓s_raise, ↓s_shut, ↓ss_nil, ↓ss_cons, ↓sf_nil, ↓sf_cons, ↓mustF_s, mustF_s, ↓boolF_b, boolF_b, ↓intF_i, intF_i, ↓listF_l, listF_l, ↓listF_p, listF_p, ↓listF_i, listF_i, ↓tupF_t, tupF_t, ↓atV_d, atV_d, ↓atV_o, atV_o, ↓atO_o, atO_o, ↓cnd_t, cnd_t, ↓cnd_f, cnd_f, ↓bindF_1, bindF_1, ↓bindF_2, bindF_2, ↓bindF_p, bindF_p, ↓runs, runs, start, getS, setS, blank, blank1, List.map_cons, List.map_nil, List.length_cons, List.length_nil, List.cons_append, List.nil_append, List.replicate, Nat.sub_self, cop_lt, cop_le, cop_gt, cop_ge, bop_add, bop_sub, bop_mod, bop_fdiv, bop_mul, ixOp_t0, ixOp_t1, ixOp_l, bsem_lenl, bsem_lent, gcv_u, gcv_d, isiD_i, isiD_b, isTok_i, isTok_b, isTok_n, isTok_t, isTok_l, isTok_s, and_true, true_and, Bool.false_eq_true, Bool.true_eq_false, Bool.not_true, Bool.not_false, Bool.not_not, noList_i, noList_b, noList_n, noList_t, plain_n, plain_c, lenlim, Nat.reduceAdd, Nat.reduceSub, isNon_n, isNon_i, isNon_b, isNon_t, isNon_l, isNon_s, ite_self, not_true_eq_false, not_false_eq_true, implies_true, false_and, and_false, decide_true, decide_false, decide_not, ixOp_s0, ixOp_s1, ixOp_p, ixOp_p0, ixOp_p1, ixOp_i, bsem_lenp, bsem_leni, isTok_sky, isTok_ps, isTok_is, isTok_p, noList_p, cop_eqi, cop_nei, bsem_max2, bsem_min2, ge0, d_is_int_i, toNat_nat, rangeD_len, eq_self, cop_eqil, cop_neil, cop_eqps, cop_neps, cop_eqp, cop_nep, Bool.and_true, Bool.true_and, big1, big2, cop_eqi0, cop_nei0, cop_eqp0, cop_nep0, bop_addps, bop_addis, bsem_maxl, bsem_minl, mtTy_index, msem_index, d_lpick2, d_lpick3, t_check_all, d_check_all, t_days_of, d_days_of, ↓reduceIte, foldI, foldP, cop_ne00, cop_eq00, Int.reduceSub, Int.reduceNeg, Int.reduceAdd, Int.reduceMul, Int.reduceToNat, b_rows_of_days, b_rows_of_days_0, b_rows_of_days_1, b_rows_of_days_2]
  generalize gdays u bs l b = g at *
  refine for_map (e := PyData.int) (I := fun i G => ∃ (s1 : Sl), G = [.d (skyD u bs), .d (intsD l), .d (.int b), .own ((rowsF (g.take i)).map pairD), s1]) ⟨_, rfl⟩ (fun i hi G hG k hk => ?_) (fun G hG => ?_)
  · obtain ⟨s1, rfl⟩ := hG
    replace hk := fun s1 => hk _ ⟨s1, rfl⟩
    have rl := rowsF_len _ (g.take i) rfl
    rw [List.length_take] at rl
    rw [List.take_succ_eq_append_getElem hi, rowsF_snoc] at hk
    generalize rowsF (g.take i) = acc at *
    generalize g[i] = d at *
    unfold rstep at hk
    by_cases hz : acc = []
    · subst hz
      try simp (maxSteps := 2000000) (disch := first | assumption | omega) only [↓e_var, ↓e_ci, ↓e_cs, ↓e_cb, ↓e_cn, ↓e_gc, ↓e_bin, ↓e_neg, ↓e_inot, ↓e_cmp, ↓e_chain, ↓e_isN, ↓e_notN, ↓e_isB, ↓e_notB, ↓e_bool, ↓e_ife, ↓e_ix, ↓e_slc, ↓e_tup, ↓e_lst, ↓e_call, ↓e_bi, ↓e_mth, ↓e_lc, ↓e_isi, ↓e_srtSet, ↓e_lenSet, ↓e_lstRg, ↓e_lstRg3, ↓es_nil, ↓es_cons, ↓eb_one, ↓eb_and, ↓eb_or, ↓eo_none, ↓eo_some, ↓ec_none, ↓ec_some, ↓ei_list, ↓ei_tup, ↓ei_rg1, ↓ei_rg2, ↓ei_rg3, ↓ei_zip, ↓s_asgt, ↓s_asg, ↓s_own, ↓s_asgT, ↓s_par, ↓s_expr, ↓s_app, ↓s_setix, ↓s_augix, ↓s_iadd, ↓s_rem, ↓s_ret, ↓s_ifs, ↓s_fors, ↓s_whil, ↓s_raise, ↓s_shut, ↓ss_nil, ↓ss_cons, ↓sf_nil, ↓sf_cons, ↓mustF_s, mustF_s, ↓boolF_b, boolF_b, ↓intF_i, intF_i, ↓listF_l, listF_l, ↓listF_p, listF_p, ↓listF_i, listF_i, ↓tupF_t, tupF_t, ↓atV_d, atV_d, ↓atV_o, atV_o, ↓atO_o, atO_o, ↓cnd_t, cnd_t, ↓cnd_f, cnd_f, ↓bindF_1, bindF_1, ↓bindF_2, bindF_2, ↓bindF_p, bindF_p, ↓runs, runs, start, getS, setS, blank, blank1, List.map_cons, List.map_nil, List.length_cons, List.length_nil, List.cons_append, List.nil_append, List.replicate, Nat.sub_self, cop_lt, cop_le, cop_gt, cop_ge, bop_add, bop_sub, bop_mod, bop_fdiv, bop_mul, ixOp_t0, ixOp_t1, ixOp_l, bsem_lenl, bsem_lent, gcv_u, gcv_d, isiD_i, isiD_b, isTok_i, isTok_b, isTok_n, isTok_t, isTok_l, isTok_s, and_true, true_and, Bool.false_eq_true, Bool.true_eq_false, Bool.not_true, Bool.not_false, Bool.not_not, noList_i, noList_b, noList_n, noList_t, plain_n, plain_c, lenlim, Nat.reduceAdd, Nat.reduceSub, isNon_n, isNon_i, isNon_b, isNon_t, isNon_l, isNon_s, ite_self, not_true_eq_false, not_false_eq_true, implies_true, false_and, and_false, decide_true, decide_false, decide_not, ixOp_s0, ixOp_s1, ixOp_p, ixOp_p0, ixOp_p1, ixOp_i, bsem_lenp, bsem_leni, isTok_sky, isTok_ps, isTok_is, isTok_p, noList_p, cop_eqi, cop_nei, bsem_max2, bsem_min2, ge0, d_is_int_i, toNat_nat, rangeD_len, eq_self, cop_eqil, cop_neil, cop_eqps, cop_neps, cop_eqp, cop_nep, Bool.and_true, Bool.true_and, big1, big2, cop_eqi0, cop_nei0, cop_eqp0, cop_nep0, bop_addps, bop_addis, bsem_maxl, bsem_minl, mtTy_index, msem_index, d_lpick2, d_lpick3, t_check_all, d_check_all, t_days_of, d_days_of, ↓reduceIte, foldI, foldP, cop_ne00, cop_eq00, Int.reduceSub, Int.reduceNeg, Int.reduceAdd, Int.reduceMul, Int.reduceToNat, b_rows_of_days_2l_0]
      exact ⟨by unfold lim; omega, hk _⟩
    · obtain ⟨z, hzl⟩ : ∃ z, acc.getLast? = some z := by
        cases e : acc.getLast? with
        | some z => exact ⟨z, rfl⟩
        | none => exact absurd (List.getLast?_eq_none_iff.mp e) hz
      rw [hzl] at hk
      have hx : ixOp (pairsD acc) (.int (-1)) = some (pairD z) := by
        refine atD_last ?_
        rw [List.getLast?_map, hzl]
        rfl
      have al : 0 < acc.length := List.length_pos_iff.mpr hz
      try simp (maxSteps := 2000000) (disch := first | assumption | omega) only [↓e_var, ↓e_ci, ↓e_cs, ↓e_cb, ↓e_cn, ↓e_gc, ↓e_bin, ↓e_neg, ↓e_inot, ↓e_cmp, ↓e_chain, ↓e_isN, ↓e_notN, ↓e_isB, ↓e_notB, ↓e_bool, ↓e_ife, ↓e_ix, ↓e_slc, ↓e_tup, ↓e_lst, ↓e_call, ↓e_bi, ↓e_mth, ↓e_lc, ↓e_isi, ↓e_srtSet, ↓e_lenSet, ↓e_lstRg, ↓e_lstRg3, ↓es_nil, ↓es_cons, ↓eb_one, ↓eb_and, ↓eb_or, ↓eo_none, ↓eo_some, ↓ec_none, ↓ec_some, ↓ei_list, ↓ei_tup, ↓ei_rg1, ↓ei_rg2, ↓ei_rg3, ↓ei_zip, ↓s_asgt, ↓s_asg, ↓s_own, ↓s_asgT, ↓s_par, ↓s_expr, ↓s_app, ↓s_setix, ↓s_augix, ↓s_iadd, ↓s_rem, ↓s_ret, ↓s_ifs, ↓s_fors, ↓s_whil, ↓s_raise, ↓s_shut, ↓ss_nil, ↓ss_cons, ↓sf_nil, ↓sf_cons, ↓mustF_s, mustF_s, ↓boolF_b, boolF_b, ↓intF_i, intF_i, ↓listF_l, listF_l, ↓listF_p, listF_p, ↓listF_i, listF_i, ↓tupF_t, tupF_t, ↓atV_d, atV_d, ↓atV_o, atV_o, ↓atO_o, atO_o, ↓cnd_t, cnd_t, ↓cnd_f, cnd_f, ↓bindF_1, bindF_1, ↓bindF_2, bindF_2, ↓bindF_p, bindF_p, ↓runs, runs, start, getS, setS, blank, blank1, List.map_cons, List.map_nil, List.length_cons, List.length_nil, List.cons_append, List.nil_append, List.replicate, Nat.sub_self, cop_lt, cop_le, cop_gt, cop_ge, bop_add, bop_sub, bop_mod, bop_fdiv, bop_mul, ixOp_t0, ixOp_t1, ixOp_l, bsem_lenl, bsem_lent, gcv_u, gcv_d, isiD_i, isiD_b, isTok_i, isTok_b, isTok_n, isTok_t, isTok_l, isTok_s, and_true, true_and, Bool.false_eq_true, Bool.true_eq_false, Bool.not_true, Bool.not_false, Bool.not_not, noList_i, noList_b, noList_n, noList_t, plain_n, plain_c, lenlim, Nat.reduceAdd, Nat.reduceSub, isNon_n, isNon_i, isNon_b, isNon_t, isNon_l, isNon_s, ite_self, not_true_eq_false, not_false_eq_true, implies_true, false_and, and_false, decide_true, decide_false, decide_not, ixOp_s0, ixOp_s1, ixOp_p, ixOp_p0, ixOp_p1, ixOp_i, bsem_lenp, bsem_leni, isTok_sky, isTok_ps, isTok_is, isTok_p, noList_p, cop_eqi, cop_nei, bsem_max2, bsem_min2, ge0, d_is_int_i, toNat_nat, rangeD_len, eq_self, cop_eqil, cop_neil, cop_eqps, cop_neps, cop_eqp, cop_nep, Bool.and_true, Bool.true_and, big1, big2, cop_eqi0, cop_nei0, cop_eqp0, cop_nep0, bop_addps, bop_addis, bsem_maxl, bsem_minl, mtTy_index, msem_index, d_lpick2, d_lpick3, t_check_all, d_check_all, t_days_of, d_days_of, ↓reduceIte, foldI, foldP, cop_ne00, cop_eq00, Int.reduceSub, Int.reduceNeg, Int.reduceAdd, Int.reduceMul, Int.reduceToNat, b_rows_of_days_2l_0, hz, hx]
      by_cases hc : z.2 = d - 1
      · have hk2 := hk
        simp only [hc, if_true] at hk2
        have ei : ixD (acc.map pairD).length (-1) = some (acc.length - 1) := by
          unfold ixD
          rw [if_neg (by omega), List.length_map, if_pos (by omega)]
          congr 1
          omega
        have es : (acc.map pairD).set (acc.length - 1) (pairD (z.1, d)) = (acc.dropLast ++ [(z.1, d)]).map pairD := by
          obtain ⟨A, rfl⟩ : ∃ A, acc = A ++ [z] := by
            refine ⟨acc.dropLast, ?_⟩
            have := List.dropLast_concat_getLast hz
            rw [List.getLast?_eq_some_getLast hz] at hzl
            cases hzl
            exact this.symm
          simp
        have eq2 : PyData.tuple [.int z.1, .int d] = pairD (z.1, d) := rfl
        try simp (maxSteps := 2000000) (disch := first | assumption | omega) only [↓e_var, ↓e_ci, ↓e_cs, ↓e_cb, ↓e_cn, ↓e_gc, ↓e_bin, ↓e_neg, ↓e_inot, ↓e_cmp, ↓e_chain, ↓e_isN, ↓e_notN, ↓e_isB, ↓e_notB, ↓e_bool, ↓e_ife, ↓e_ix, ↓e_slc, ↓e_tup, ↓e_lst, ↓e_call, ↓e_bi, ↓e_mth, ↓e_lc, ↓e_isi, ↓e_srtSet, ↓e_lenSet, ↓e_lstRg, ↓e_lstRg3, ↓es_nil, ↓es_cons, ↓eb_one, ↓eb_and, ↓eb_or, ↓eo_none, ↓eo_some, ↓ec_none, ↓ec_some, ↓ei_list, ↓ei_tup, ↓ei_rg1, ↓ei_rg2, ↓ei_rg3, ↓ei_zip, ↓s_asgt, ↓s_asg, ↓s_own, ↓s_asgT, ↓s_par, ↓s_expr, ↓s_app, ↓s_setix, ↓s_augix, ↓s_iadd, ↓s_rem, ↓s_ret, ↓s_ifs, ↓s_fors, ↓s_whil, ↓s_raise, ↓s_shut, ↓ss_nil, ↓ss_cons, ↓sf_nil, ↓sf_cons, ↓mustF_s, mustF_s, ↓boolF_b, boolF_b, ↓intF_i, intF_i, ↓listF_l, listF_l, ↓listF_p, listF_p, ↓listF_i, listF_i, ↓tupF_t, tupF_t, ↓atV_d, atV_d, ↓atV_o, atV_o, ↓atO_o, atO_o, ↓cnd_t, cnd_t, ↓cnd_f, cnd_f, ↓bindF_1, bindF_1, ↓bindF_2, bindF_2, ↓bindF_p, bindF_p, ↓runs, runs, start, getS, setS, blank, blank1, List.map_cons, List.map_nil, List.length_cons, List.length_nil, List.cons_append, List.nil_append, List.replicate, Nat.sub_self, cop_lt, cop_le, cop_gt, cop_ge, bop_add, bop_sub, bop_mod, bop_fdiv, bop_mul, ixOp_t0, ixOp_t1, ixOp_l, bsem_lenl, bsem_lent, gcv_u, gcv_d, isiD_i, isiD_b, isTok_i, isTok_b, isTok_n, isTok_t, isTok_l, isTok_s, and_true, true_and, Bool.false_eq_true, Bool.true_eq_false, Bool.not_true, Bool.not_false, Bool.not_not, noList_i, noList_b, noList_n, noList_t, plain_n, plain_c, lenlim, Nat.reduceAdd, Nat.reduceSub, isNon_n, isNon_i, isNon_b, isNon_t, isNon_l, isNon_s, ite_self, not_true_eq_false, not_false_eq_true, implies_true, false_and, and_false, decide_true, decide_false, decide_not, ixOp_s0, ixOp_s1, ixOp_p, ixOp_p0, ixOp_p1, ixOp_i, bsem_lenp, bsem_leni, isTok_sky, isTok_ps, isTok_is, isTok_p, noList_p, cop_eqi, cop_nei, bsem_max2, bsem_min2, ge0, d_is_int_i, toNat_nat, rangeD_len, eq_self, cop_eqil, cop_neil, cop_eqps, cop_neps, cop_eqp, cop_nep, Bool.and_true, Bool.true_and, big1, big2, cop_eqi0, cop_nei0, cop_eqp0, cop_nep0, bop_addps, bop_addis, bsem_maxl, bsem_minl, mtTy_index, msem_index, d_lpick2, d_lpick3, t_check_all, d_check_all, t_days_of, d_days_of, ↓reduceIte, foldI, foldP, cop_ne00, cop_eq00, Int.reduceSub, Int.reduceNeg, Int.reduceAdd, Int.reduceMul, Int.reduceToNat, hc, hx, ei, eq2]
        rw [es]
        exact hk2 _
      · have hk2 := hk
        simp only [hc, if_false] at hk2
        try simp (maxSteps := 2000000) (disch := first | assumption | omega) only [↓e_var, ↓e_ci, ↓e_cs, ↓e_cb, ↓e_cn, ↓e_gc, ↓e_bin, ↓e_neg, ↓e_inot, ↓e_cmp, ↓e_chain, ↓e_isN, ↓e_notN, ↓e_isB, ↓e_notB, ↓e_bool, ↓e_ife, ↓e_ix, ↓e_slc, ↓e_tup, ↓e_lst, ↓e_call, ↓e_bi, ↓e_mth, ↓e_lc, ↓e_isi, ↓e_srtSet, ↓e_lenSet, ↓e_lstRg, ↓e_lstRg3, ↓es_nil, ↓es_cons, ↓eb_one, ↓eb_and, ↓eb_or, ↓eo_none, ↓eo_some, ↓ec_none, ↓ec_some, ↓ei_list, ↓ei_tup, ↓ei_rg1, ↓ei_rg2, ↓ei_rg3, ↓ei_zip, ↓s_asgt, ↓s_asg, ↓s_own, ↓s_asgT, ↓s_par, ↓s_expr, ↓s_app, ↓s_setix, ↓s_augix, ↓s_iadd, ↓s_rem, ↓s_ret, ↓s_ifs, ↓s_fors, ↓s_whil, ↓s_raise, ↓s_shut, ↓ss_nil, ↓ss_cons, ↓sf_nil, ↓sf_cons, ↓mustF_s, mustF_s, ↓boolF_b, boolF_b, ↓intF_i, intF_i, ↓listF_l, listF_l, ↓listF_p, listF_p, ↓listF_i, listF_i, ↓tupF_t, tupF_t, ↓atV_d, atV_d, ↓atV_o, atV_o, ↓atO_o, atO_o, ↓cnd_t, cnd_t, ↓cnd_f, cnd_f, ↓bindF_1, bindF_1, ↓bindF_2, bindF_2, ↓bindF_p, bindF_p, ↓runs, runs, start, getS, setS, blank, blank1, List.map_cons, List.map_nil, List.length_cons, List.length_nil, List.cons_append, List.nil_append, List.replicate, Nat.sub_self, cop_lt, cop_le, cop_gt, cop_ge, bop_add, bop_sub, bop_mod, bop_fdiv, bop_mul, ixOp_t0, ixOp_t1, ixOp_l, bsem_lenl, bsem_lent, gcv_u, gcv_d, isiD_i, isiD_b, isTok_i, isTok_b, isTok_n, isTok_t, isTok_l, isTok_s, and_true, true_and, Bool.false_eq_true, Bool.true_eq_false, Bool.not_true, Bool.not_false, Bool.not_not, noList_i, noList_b, noList_n, noList_t, plain_n, plain_c, lenlim, Nat.reduceAdd, Nat.reduceSub, isNon_n, isNon_i, isNon_b, isNon_t, isNon_l, isNon_s, ite_self, not_true_eq_false, not_false_eq_true, implies_true, false_and, and_false, decide_true, decide_false, decide_not, ixOp_s0, ixOp_s1, ixOp_p, ixOp_p0, ixOp_p1, ixOp_i, bsem_lenp, bsem_leni, isTok_sky, isTok_ps, isTok_is, isTok_p, noList_p, cop_eqi, cop_nei, bsem_max2, bsem_min2, ge0, d_is_int_i, toNat_nat, rangeD_len, eq_self, cop_eqil, cop_neil, cop_eqps, cop_neps, cop_eqp, cop_nep, Bool.and_true, Bool.true_and, big1, big2, cop_eqi0, cop_nei0, cop_eqp0, cop_nep0, bop_addps, bop_addis, bsem_maxl, bsem_minl, mtTy_index, msem_index, d_lpick2, d_lpick3, t_check_all, d_check_all, t_days_of, d_days_of, ↓reduceIte, foldI, foldP, cop_ne00, cop_eq00, Int.reduceSub, Int.reduceNeg, Int.reduceAdd, Int.reduceMul, Int.reduceToNat, hc]
        refine ⟨by rw [List.length_map]; unfold lim; omega, ?_⟩
        rw [List.map_append] at hk2
        exact hk2 _
  · obtain ⟨s1, rfl⟩ := hG
    rw [List.take_length]
    try simp (maxSteps := 2000000) (disch := first | assumption | omega) only [↓e_var, ↓e_ci, ↓e_cs, ↓e_cb, ↓e_cn, ↓e_gc, ↓e_bin, ↓e_neg, ↓e_inot, ↓e_cmp, ↓e_chain, ↓e_isN, ↓e_notN, ↓e_isB, ↓e_notB, ↓e_bool, ↓e_ife, ↓e_ix, ↓e_slc, ↓e_tup, ↓e_lst, ↓e_call, ↓e_bi, ↓e_mth, ↓e_lc, ↓e_isi, ↓e_srtSet, ↓e_lenSet, ↓e_lstRg, ↓e_lstRg3, ↓es_nil, ↓es_cons, ↓eb_one, ↓eb_and, ↓eb_or, ↓eo_none, ↓eo_some, ↓ec_none, ↓ec_some, ↓ei_list, ↓ei_tup, ↓ei_rg1, ↓ei_rg2, ↓ei_rg3, ↓ei_zip, ↓s_asgt, ↓s_asg, ↓s_own, ↓s_asgT, ↓s_par, ↓s_expr, ↓s_app, ↓s_setix, ↓s_augix, ↓s_iadd, ↓s_rem, ↓s_ret, ↓s_ifs, ↓s_fors, ↓s_whil, ↓s_raise, ↓s_shut, ↓ss_nil, ↓ss_cons, ↓sf_nil, ↓sf_cons, ↓mustF_s, mustF_s, ↓boolF_b, boolF_b, ↓intF_i, intF_i, ↓listF_l, listF_l, ↓listF_p, listF_p, ↓listF_i, listF_i, ↓tupF_t, tupF_t, ↓atV_d, atV_d, ↓atV_o, atV_o, ↓atO_o, atO_o, ↓cnd_t, cnd_t, ↓cnd_f, cnd_f, ↓bindF_1, bindF_1, ↓bindF_2, bindF_2, ↓bindF_p, bindF_p, ↓runs, runs, start, getS, setS, blank, blank1, List.map_cons, List.map_nil, List.length_cons, List.length_nil, List.cons_append, List.nil_append, List.replicate, Nat.sub_self, cop_lt, cop_le, cop_gt, cop_ge, bop_add, bop_sub, bop_mod, bop_fdiv, bop_mul, ixOp_t0, ixOp_t1, ixOp_l, bsem_lenl, bsem_lent, gcv_u, gcv_d, isiD_i, isiD_b, isTok_i, isTok_b, isTok_n, isTok_t, isTok_l, isTok_s, and_true, true_and, Bool.false_eq_true, Bool.true_eq_false, Bool.not_true, Bool.not_false, Bool.not_not, noList_i, noList_b, noList_n, noList_t, plain_n, plain_c, lenlim, Nat.reduceAdd, Nat.reduceSub, isNon_n, isNon_i, isNon_b, isNon_t, isNon_l, isNon_s, ite_self, not_true_eq_false, not_false_eq_true, implies_true, false_and, and_false, decide_true, decide_false, decide_not, ixOp_s0, ixOp_s1, ixOp_p, ixOp_p0, ixOp_p1, ixOp_i, bsem_lenp, bsem_leni, isTok_sky, isTok_ps, isTok_is, isTok_p, noList_p, cop_eqi, cop_nei, bsem_max2, bsem_min2, ge0, d_is_int_i, toNat_nat, rangeD_len, eq_self, cop_eqil, cop_neil, cop_eqps, cop_neps, cop_eqp, cop_nep, Bool.and_true, Bool.true_and, big1, big2, cop_eqi0, cop_nei0, cop_eqp0, cop_nep0, bop_addps, bop_addis, bsem_maxl, bsem_minl, mtTy_index, msem_index, d_lpick2, d_lpick3, t_check_all, d_check_all, t_days_of, d_days_of, ↓reduceIte, foldI, foldP, cop_ne00, cop_eq00, Int.reduceSub, Int.reduceNeg, Int.reduceAdd, Int.reduceMul, Int.reduceToNat, b_rows_of_days_3, b_rows_of_days_4]
    exact hQ
end Sk
set_option linter.all false
set_option maxRecDepth 10000
namespace Sk
open PySem
/-! waits: what comes between -/
theorem spc_get : ∀ (q : Int) (l : List Int) (i : Nat) (h : i < l.length), (spc q l)[i]'(by rw [spc_len]; exact h) = l[i] - (q :: l)[i]'(by simp; omega)
  | q, x :: r, 0, _ => rfl
  | q, x :: r, i + 1, h => by
    have := spc_get x r i (by simpa using h)
    simpa [spc] using this
theorem lt_get {l : List Int} (h : l.Pairwise (· < ·)) {i j : Nat} (hi : i < l.length) (hj : j < l.length) : l[i] < l[j] ↔ i < j := by
  have hp := List.pairwise_iff_getElem.mp h
  constructor
  · intro hl
    refine Nat.not_le.mp fun hc => ?_
    by_cases e : j = i
    · subst e
      omega
    · have := hp j i hj hi (by omega)
      omega
  · exact fun hl => hp i j hi hj hl
theorem wait_spec {p : Int → Bool} {R : Int} (hp : ∀ d, p (d + R) = p d) (hR : 0 < R) {i : Nat} (hi : i < (gd p R).length) : 0 < (wts R (gd p R))[i]'(by rw [wts_len]; exact hi) ∧ p ((gd p R)[i] + (wts R (gd p R))[i]'(by rw [wts_len]; exact hi)) = true ∧ ∀ e, (gd p R)[i] < e → e < (gd p R)[i] + (wts R (gd p R))[i]'(by rw [wts_len]; exact hi) → p e = false := by
  have hs := gd_sorted (p := p) (R := R)
  have hm : ∀ x, x ∈ gd p R ↔ (0 ≤ x ∧ x < R) ∧ p x = true := fun x => mem_gd
  generalize gd p R = g at *
  obtain ⟨x, r, rfl⟩ : ∃ x r, g = x :: r := List.exists_cons_of_ne_nil (fun e => by subst e; simp at hi)
  have hx := (hm x).mp (by simp)
  have ha := (hm _).mp (List.getElem_mem hi)
  have hw : (wts R (x :: r))[i]'(by rw [wts_len]; exact hi) = (r ++ [x + R])[i]'(by simp at hi ⊢; omega) - (x :: r)[i] := by
    have h1 := spc_get x (r ++ [x + R]) i (by simp at hi ⊢; omega)
    have h2 : (x :: (r ++ [x + R]))[i]'(by simp at hi ⊢; omega) = (x :: r)[i] := by
      have : x :: (r ++ [x + R]) = (x :: r) ++ [x + R] := rfl
      simp only [this]
      exact List.getElem_append_left hi
    rw [h2] at h1
    exact h1
  rw [hw]
  have hno : ∀ e, 0 ≤ e → e < R → p e = true → ∃ j, ∃ h : j < (x :: r).length, (x :: r)[j] = e := fun e e0 e1 e2 => by
    obtain ⟨j, hj, h⟩ := List.mem_iff_getElem.mp ((hm e).mpr ⟨⟨e0, e1⟩, e2⟩)
    exact ⟨j, hj, h⟩
  have hmin : ∀ j (h : j < (x :: r).length), x ≤ (x :: r)[j] := fun j h => by
    by_cases e : j = 0
    · subst e
      exact Int.le_refl _
    · have := (lt_get hs (i := 0) (j := j) (by simp) h).mpr (by omega)
      simp at this
      omega
  by_cases hc : i < r.length
  · have e1 : (r ++ [x + R])[i]'(by simp; omega) = r[i] := List.getElem_append_left hc
    have e2 : (x :: r)[i + 1]'(by simp; omega) = r[i] := rfl
    have hb := (hm r[i]).mp (by simp)
    have hlt := (lt_get hs (i := i) (j := i + 1) hi (by simp; omega)).mpr (by omega)
    rw [e2] at hlt
    rw [e1]
    refine ⟨by omega, ?_, fun e h1 h2 => ?_⟩
    · rw [show (x :: r)[i] + (r[i] - (x :: r)[i]) = r[i] by omega]
      exact hb.2
    · refine Bool.eq_false_iff.mpr fun h3 => ?_
      obtain ⟨j, hj, rfl⟩ := hno e (by omega) (by omega) h3
      have g1 := (lt_get hs hi hj).mp h1
      have g2 : (x :: r)[j] < (x :: r)[i + 1]'(by simp; omega) := by rw [e2]; omega
      have g3 := (lt_get hs hj (by simp; omega)).mp g2
      omega
  · have hi2 : i = r.length := by simp at hi; omega
    have e1 : (r ++ [x + R])[i]'(by simp; omega) = x + R := by
      subst hi2
      simp
    rw [e1]
    refine ⟨by omega, ?_, fun e h1 h2 => ?_⟩
    · rw [show (x :: r)[i] + (x + R - (x :: r)[i]) = x + R by omega, hp]
      exact hx.2
    · refine Bool.eq_false_iff.mpr fun h3 => ?_
      by_cases he : e < R
      · obtain ⟨j, hj, rfl⟩ := hno e (by omega) he h3
        have g1 := (lt_get hs hi hj).mp h1
        simp at hj
        omega
      · have h4 : p (e - R) = true := by
          have := hp (e - R)
          rw [show e - R + R = e by omega] at this
          rw [← this]
          exact h3
        obtain ⟨j, hj, h5⟩ := hno (e - R) (by omega) (by omega) h4
        have := hmin j hj
        omega
theorem wts_sum {R : Int} {l : List Int} (h : l ≠ []) : (wts R l).sum = R := by
  obtain ⟨x, r, rfl⟩ := List.exists_cons_of_ne_nil h
  show (spc x (r ++ [x + R])).sum = R
  rw [sum_spc (z := x + R) (by simp)]
  omega
theorem wts_mem {p : Int → Bool} {R w : Int} (hp : ∀ d, p (d + R) = p d) (hR : 0 < R) (h : w ∈ wts R (gd p R)) : ∃ a, (0 ≤ a ∧ a < R) ∧ p a = true ∧ 0 < w ∧ p (a + w) = true ∧ ∀ e, a < e → e < a + w → p e = false := by
  obtain ⟨i, hi, rfl⟩ := List.mem_iff_getElem.mp h
  rw [wts_len] at hi
  obtain ⟨h1, h2, h3⟩ := wait_spec hp hR hi
  have ha := mem_gd.mp (List.getElem_mem hi)
  exact ⟨_, ha.1, ha.2, h1, h2, h3⟩
theorem sum_ge {l : List Int} (h : ∀ x ∈ l, 0 ≤ x) : ∀ x ∈ l, x ≤ l.sum := by
  induction l with
  | nil => intro x hx; cases hx
  | cons y r ih =>
    intro x hx
    have h1 := h y (by simp)
    have h2 : ∀ z ∈ r, 0 ≤ z := fun z hz => h z (by simp [hz])
    have h3 : 0 ≤ r.sum := by
      clear ih hx
      induction r with
      | nil => simp
      | cons z r ih2 =>
        have a := h2 z (by simp)
        have b := ih2 (fun x hx => by
          rcases List.mem_cons.mp hx with h | h
          · subst h; exact h1
          · exact h2 x (by simp [h])) fun w hw => h2 w (by simp [hw])
        rw [List.sum_cons]
        omega
    rw [List.sum_cons]
    rcases List.mem_cons.mp hx with h4 | h4
    · omega
    · have := ih h2 x h4
      omega
theorem wts_le {p : Int → Bool} {R w : Int} (hp : ∀ d, p (d + R) = p d) (hR : 0 < R) (h : w ∈ wts R (gd p R)) : w ≤ R := by
  have hn : gd p R ≠ [] := fun e => by rw [e] at h; cases h
  have := sum_ge (l := wts R (gd p R)) (fun x hx => by
    obtain ⟨_, _, _, h1, _⟩ := wts_mem hp hR hx
    omega) w h
  rw [wts_sum hn] at this
  exact this
/-- the longest wait comes to a good day from anywhere -/
theorem cover {p : Int → Bool} {R d : Int} (hp : ∀ d, p (d + R) = p d) (hR : 0 < R) (hn : gd p R ≠ []) (h0 : 0 ≤ d) (h1 : d < R) : ∃ e, d < e ∧ e ≤ d + lmax (wts R (gd p R)) ∧ p e = true := by
  have hwn : wts R (gd p R) ≠ [] := fun e => hn (List.length_eq_zero_iff.mp (by rw [← wts_len (R := R), e]; rfl))
  obtain ⟨_, gm⟩ := lmax_spec _ hwn
  by_cases hc : ∃ a ∈ gd p R, a ≤ d
  · -- the last good day not after d
    have hl : (gd p R).filter (fun x => decide (x ≤ d)) ≠ [] := by
      obtain ⟨a, ha, hle⟩ := hc
      exact List.ne_nil_of_mem (List.mem_filter.mpr ⟨ha, decide_eq_true hle⟩)
    obtain ⟨m1, m2⟩ := lmax_spec _ hl
    generalize lmax ((gd p R).filter fun x => decide (x ≤ d)) = a at *
    obtain ⟨ma, mb⟩ := List.mem_filter.mp m1
    have hle : a ≤ d := of_decide_eq_true mb
    obtain ⟨i, hi, rfl⟩ := List.mem_iff_getElem.mp ma
    obtain ⟨w1, w2, w3⟩ := wait_spec hp hR hi
    have hw := gm _ (List.getElem_mem (l := wts R (gd p R)) (by rw [wts_len]; exact hi))
    refine ⟨(gd p R)[i] + (wts R (gd p R))[i]'(by rw [wts_len]; exact hi), ?_, by omega, w2⟩
    refine Int.not_le.mp fun hb => ?_
    have ha := mem_gd.mp (List.getElem_mem hi)
    have := m2 _ (List.mem_filter.mpr ⟨mem_gd.mpr ⟨⟨by omega, by omega⟩, w2⟩, decide_eq_true hb⟩)
    omega
  · obtain ⟨x, r, e⟩ := List.exists_cons_of_ne_nil hn
    have hx : x ∈ gd p R := by rw [e]; simp
    have hx2 := mem_gd.mp hx
    have hd : d < x := Int.not_le.mp fun h => hc ⟨x, hx, h⟩
    refine ⟨x, hd, ?_, hx2.2⟩
    have hlen : 0 < (gd p R).length := List.length_pos_iff.mpr hn
    have hlast : (gd p R).length - 1 < (gd p R).length := by omega
    obtain ⟨w1, w2, w3⟩ := wait_spec hp hR hlast
    have hw := gm _ (List.getElem_mem (l := wts R (gd p R)) (by rw [wts_len]; exact hlast))
    have ha := mem_gd.mp (List.getElem_mem hlast)
    have hb : R ≤ (gd p R)[(gd p R).length - 1] + (wts R (gd p R))[(gd p R).length - 1]'(by rw [wts_len]; exact hlast) := by
      refine Int.not_lt.mp fun hlt => ?_
      obtain ⟨j, hj, h⟩ := List.mem_iff_getElem.mp (mem_gd.mpr ⟨⟨by omega, hlt⟩, w2⟩)
      have g1 : (gd p R)[(gd p R).length - 1] < (gd p R)[j] := by rw [h]; omega
      have := (lt_get gd_sorted hlast hj).mp g1
      omega
    have hq : p ((gd p R)[(gd p R).length - 1] + (wts R (gd p R))[(gd p R).length - 1]'(by rw [wts_len]; exact hlast) - R) = true := by
      have := hp ((gd p R)[(gd p R).length - 1] + (wts R (gd p R))[(gd p R).length - 1]'(by rw [wts_len]; exact hlast) - R)
      rw [Int.sub_add_cancel] at this
      rw [← this]
      exact w2
    generalize (gd p R)[(gd p R).length - 1] = A at *
    generalize (wts R (gd p R))[(gd p R).length - 1]'(by rw [wts_len]; exact hlast) = W at *
    have hxm : x ≤ A + W - R := by
      refine Int.not_lt.mp fun hlt => ?_
      have hm := (mem_gd (p := p) (R := R)).mpr ⟨⟨show 0 ≤ A + W - R by omega, by omega⟩, hq⟩
      rw [e] at hm
      rcases List.mem_cons.mp hm with h | h
      · omega
      · have := List.rel_of_pairwise_cons (e ▸ gd_sorted (p := p) (R := R)) h
        omega
    omega
/-- a later bound has no longer waits -/
theorem longer {p q : Int → Bool} {R : Int} (hp : ∀ d, p (d + R) = p d) (hq : ∀ d, q (d + R) = q d) (hR : 0 < R) (hpq : ∀ d, p d = true → q d = true) (hn : gd p R ≠ []) : lmax (wts R (gd q R)) ≤ lmax (wts R (gd p R)) := by
  have hqn : gd q R ≠ [] := by
    obtain ⟨x, r, e⟩ := List.exists_cons_of_ne_nil hn
    have hx := mem_gd.mp (show x ∈ gd p R by rw [e]; simp)
    exact List.ne_nil_of_mem (mem_gd.mpr ⟨hx.1, hpq _ hx.2⟩)
  have hwn : wts R (gd q R) ≠ [] := fun e => hqn (List.length_eq_zero_iff.mp (by rw [← wts_len (R := R), e]; rfl))
  obtain ⟨m, _⟩ := lmax_spec _ hwn
  obtain ⟨a, ⟨a0, a1⟩, _, w0, _, hb⟩ := wts_mem hq hR m
  obtain ⟨e, e0, e1, e2⟩ := cover hp hR hn a0 a1
  refine Int.not_lt.mp fun hlt => ?_
  have := hb e e0 (by omega)
  rw [hpq e e2] at this
  cases this
theorem find_rngl {p : Int → Bool} {d e : Int} {n : Nat} (h0 : d ≤ e) (h1 : e < d + n) (h2 : p e = true) (h3 : ∀ x, d ≤ x → x < e → p x = false) : (rngl d n).find? p = some e := by
  rw [List.find?_eq_some_iff_append]
  refine ⟨h2, rngl d (e - d).toNat, rngl (e + 1) (n - ((e - d).toNat + 1)), ?_, fun a ha => ?_⟩
  · have e1 : n = (e - d).toNat + (1 + (n - ((e - d).toNat + 1))) := by omega
    conv => lhs; rw [e1]
    rw [rngl_add, rngl_add]
    have e2 : d + ((e - d).toNat : Int) = e := by omega
    rw [e2]
    have e3 : rngl e 1 = [e] := by simp [rngl]
    rw [e3]
    rfl
  · have := mem_rngl.mp ha
    simp [h3 a (by omega) (by omega)]

/-! two bodies: at most three unlike waits -/
theorem least_of {P : Int → Prop} {n : Int} (hn : 0 < n) (h : P n) : ∃ m, 0 < m ∧ P m ∧ ∀ k, 0 < k → k < m → ¬ P k := by
  have key : ∀ (t : Nat) (n : Int), n.toNat ≤ t → 0 < n → P n → ∃ m, 0 < m ∧ P m ∧ ∀ k, 0 < k → k < m → ¬ P k := by
    intro t
    induction t with
    | zero =>
      intro n h1 h2
      omega
    | succ t ih =>
      intro n h1 h2 h3
      by_cases hc : ∃ k, 0 < k ∧ k < n ∧ P k
      · obtain ⟨k, k0, k1, k2⟩ := hc
        exact ih k (by omega) k0 k2
      · exact ⟨n, h2, h3, fun k k0 k1 k2 => hc ⟨k, k0, k1, k2⟩⟩
  exact key n.toNat n (by omega) hn h
theorem gap3 {u L r N : Int} (hu : 0 < u) (hL0 : 0 < L) (hL : L ≤ u) (hN : 0 < N) (hd : u ∣ N * r) : ∃ P Q : Int, 0 < P ∧ 0 < Q ∧ ∀ c a w : Int, (c + a * r) % u < L → (c + (a + w) * r) % u < L → 0 < w → (∀ e, a < e → e < a + w → ¬ (c + e * r) % u < L) → w = P ∨ w = Q ∨ w = P + Q := by
  obtain ⟨kN, hkN⟩ := hd
  let F : Int → Prop := fun d => ∃ σ k, 0 ≤ σ ∧ σ < L ∧ d * r = σ + u * k
  let B : Int → Prop := fun d => ∃ σ k, 0 ≤ σ ∧ σ < L ∧ d * r = -σ + u * k
  obtain ⟨P, hP0, ⟨α, kα, α0, α1, hα⟩, hPm⟩ := least_of (P := F) hN ⟨0, kN, by omega, hL0, by omega⟩
  obtain ⟨Q, hQ0, ⟨β, kβ, β0, β1, hβ⟩, hQm⟩ := least_of (P := B) hN ⟨0, kN, by omega, hL0, by omega⟩
  refine ⟨P, Q, hP0, hQ0, fun c a w ha hw w0 hb => ?_⟩
  have good : ∀ e x k : Int, 0 ≤ x → x < L → c + e * r = x + u * k → (c + e * r) % u < L := fun e x k x0 x1 h => by
    rw [h, Int.add_mul_emod_self_left, Int.emod_eq_of_lt x0 (by omega)]
    exact x1
  have hx := Int.emod_add_mul_ediv (c + a * r) u
  have x0 := Int.emod_nonneg (c + a * r) (show u ≠ 0 by omega)
  have hy := Int.emod_add_mul_ediv (c + (a + w) * r) u
  have y0 := Int.emod_nonneg (c + (a + w) * r) (show u ≠ 0 by omega)
  generalize (c + a * r) % u = x at *
  generalize (c + (a + w) * r) % u = y at *
  generalize (c + a * r) / u = kx at *
  generalize (c + (a + w) * r) / u = ky at *
  have ew : w * r = y - x + u * (ky - kx) := by
    have : (a + w) * r = a * r + w * r := Int.add_mul a w r
    rw [Int.mul_sub]
    omega
  -- a good day at a shift
  have reach : ∀ s : Int, 0 < s → ∀ σ k : Int, s * r = σ + u * k → 0 ≤ x + σ → x + σ < L → w ≤ s := fun s s0 σ k hs h1 h2 => by
    refine Int.not_lt.mp fun hlt => hb (a + s) (by omega) (by omega) ?_
    refine good (a + s) (x + σ) (kx + k) h1 h2 ?_
    rw [Int.add_mul, Int.mul_add]
    omega
  have fwd : x ≤ y → P ≤ w := fun h => Int.not_lt.mp fun hlt => hPm w w0 hlt ⟨y - x, ky - kx, by omega, by omega, ew⟩
  have bwd : y ≤ x → Q ≤ w := fun h => Int.not_lt.mp fun hlt => hQm w w0 hlt ⟨x - y, ky - kx, by omega, by omega, by omega⟩
  -- from a way forward to one backward, and back
  have dP : P < w → 0 ≤ α - (y - x) → α - (y - x) < L → Q ≤ w - P := fun h1 h2 h3 => Int.not_lt.mp fun hlt => hQm (w - P) (by omega) hlt ⟨α - (y - x), ky - kx - kα, h2, h3, by
    rw [Int.sub_mul, Int.mul_sub u (ky - kx)]
    omega⟩
  have dQ : Q < w → 0 ≤ β + (y - x) → β + (y - x) < L → P ≤ w - Q := fun h1 h2 h3 => Int.not_lt.mp fun hlt => hPm (w - Q) (by omega) hlt ⟨β + (y - x), ky - kx - kβ, h2, h3, by
    rw [Int.sub_mul, Int.mul_sub u (ky - kx)]
    omega⟩
  have uniq : ∀ s σ k τ l : Int, s * r = σ + u * k → s * r = τ + u * l → -u < σ - τ → σ - τ < u → σ = τ := fun s σ k τ l h1 h2 h3 h4 => by
    have h5 : σ - τ = u * (l - k) := by rw [Int.mul_sub]; omega
    have h6 : l - k = 0 := by
      by_cases c1 : 1 ≤ l - k
      · have : u * 1 ≤ u * (l - k) := Int.mul_le_mul_of_nonneg_left c1 (by omega)
        omega
      · by_cases c2 : l - k ≤ -1
        · have : u * (l - k) ≤ u * (-1) := Int.mul_le_mul_of_nonneg_left c2 (by omega)
          omega
        · omega
    rw [h6] at h5
    omega
  by_cases hα0 : α = 0
  · -- back after P days
    have h1 : w ≤ P := reach P hP0 α kα hα (by omega) (by omega)
    by_cases hc : x ≤ y
    · have := fwd hc
      exact .inl (by omega)
    · have hne : w ≠ P := fun e => by
        subst e
        have := uniq w α kα (y - x) (ky - kx) hα ew (by omega) (by omega)
        omega
      exact absurd ⟨x - y, kα - (ky - kx), by omega, by omega, by rw [Int.sub_mul, Int.mul_sub u kα]; omega⟩ (hPm (P - w) (by omega) (by omega))
  · by_cases hβ0 : β = 0
    · have h1 : w ≤ Q := reach Q hQ0 (-β) kβ hβ (by omega) (by omega)
      by_cases hc : y ≤ x
      · have := bwd hc
        exact .inr (.inl (by omega))
      · have hne : w ≠ Q := fun e => by
          subst e
          have := uniq w (-β) kβ (y - x) (ky - kx) hβ ew (by omega) (by omega)
          omega
        exact absurd ⟨y - x, kβ - (ky - kx), by omega, by omega, by rw [Int.sub_mul, Int.mul_sub u kβ]; omega⟩ (hQm (Q - w) (by omega) (by omega))
    · have sum : L ≤ α + β := by
        refine Int.not_lt.mp fun hlt => ?_
        by_cases c1 : P < Q
        · exact hQm (Q - P) (by omega) (by omega) ⟨α + β, kβ - kα, by omega, hlt, by rw [Int.sub_mul, Int.mul_sub]; omega⟩
        · by_cases c2 : Q < P
          · exact hPm (P - Q) (by omega) (by omega) ⟨α + β, kα - kβ, by omega, hlt, by rw [Int.sub_mul, Int.mul_sub]; omega⟩
          · have e : P = Q := by omega
            subst e
            have := uniq P α kα (-β) kβ hα hβ (by omega) (by omega)
            omega
      by_cases c1 : x + α < L
      · have h1 : w ≤ P := reach P hP0 α kα hα (by omega) c1
        by_cases hc : x ≤ y
        · have := fwd hc
          exact .inl (by omega)
        · have h2 := bwd (by omega)
          have hne : w ≠ Q := fun e => by
            subst e
            have := uniq w (-β) kβ (y - x) (ky - kx) hβ ew (by omega) (by omega)
            omega
          have := dQ (by omega) (by omega) (by omega)
          omega
      · by_cases c2 : β ≤ x
        · have h1 : w ≤ Q := reach Q hQ0 (-β) kβ hβ (by omega) (by omega)
          by_cases hc : y ≤ x
          · have := bwd hc
            exact .inr (.inl (by omega))
          · have h2 := fwd (by omega)
            have hne : w ≠ P := fun e => by
              subst e
              have := uniq w α kα (y - x) (ky - kx) hα ew (by omega) (by omega)
              omega
            have := dP (by omega) (by omega) (by omega)
            omega
        · have h1 : w ≤ P + Q := reach (P + Q) (by omega) (α - β) (kα + kβ) (by rw [Int.add_mul, Int.mul_add]; omega) (by omega) (by omega)
          by_cases hc : x ≤ y
          · have h2 := fwd hc
            have hne : w ≠ P := fun e => by
              subst e
              have := uniq w α kα (y - x) (ky - kx) hα ew (by omega) (by omega)
              omega
            have := dP (by omega) (by omega) (by omega)
            exact .inr (.inr (by omega))
          · have h2 := bwd (by omega)
            have hne : w ≠ Q := fun e => by
              subst e
              have := uniq w (-β) kβ (y - x) (ky - kx) hβ ew (by omega) (by omega)
              omega
            have := dQ (by omega) (by omega) (by omega)
            exact .inr (.inr (by omega))
theorem three_kinds {P Q : Int} {l : List Int} (hP : 0 < P) (hQ : 0 < Q) (hs : l.Pairwise (· < ·)) (h : ∀ w ∈ l, w = P ∨ w = Q ∨ w = P + Q) : l.length ≤ 3 ∧ (l.length = 3 → nth l 2 = nth l 0 + nth l 1) := by
  match l, hs, h with
  | [], _, _ => simp
  | [_], _, _ => simp
  | [_, _], _, _ => simp
  | [a, b, c], hs, h =>
    refine ⟨by simp, fun _ => ?_⟩
    simp at hs
    have h1 := h a (by simp)
    have h2 := h b (by simp)
    have h3 := h c (by simp)
    show c = a + b
    omega
  | a :: b :: c :: d :: r, hs, h =>
    simp only [List.pairwise_cons, List.mem_cons, forall_eq_or_imp] at hs
    have h1 := h a (by simp)
    have h2 := h b (by simp)
    have h3 := h c (by simp)
    have h4 := h d (by simp)
    omega
end Sk
set_option linter.all false
set_option maxRecDepth 10000
namespace Sk
open PySem
/-! two bodies -/
def dif (u : Int) (bs : List (Int × Int)) (x y d : Int) : Int := ((bd bs y).1 - (bd bs x).1 + d * ((bd bs y).2 - (bd bs x).2)) % u
theorem dif_plc {u x y d : Int} {bs : List (Int × Int)} : (plc u bs y d - plc u bs x d) % u = dif u bs x y d := by
  unfold plc dif
  rw [← Int.sub_emod, Int.mul_sub]
  congr 1
  omega
theorem arc_dif {u x y d : Int} {bs : List (Int × Int)} (hu : 0 < u) : arcAt u bs [x, y] d = min (dif u bs x y d) (u - dif u bs x y d) := by
  unfold arcAt
  have : spots u bs [x, y] d = [plc u bs x d, plc u bs y d] := rfl
  rw [this, arc_two hu, dif_plc]
theorem rel_two {u x y : Int} {bs : List (Int × Int)} (hs : Sky u bs) : rel u bs [x, y] = rnd u ((bd bs y).2 - (bd bs x).2) := by
  have hu := hs.pos
  have n0 : nth [x, y] 0 = x := rfl
  have key : ∀ d, rel u bs [x, y] ∣ d ↔ rnd u ((bd bs y).2 - (bd bs x).2) ∣ d := fun d => by
    rw [rnd_dvd hu]
    unfold rel rts
    rw [per_dvd hu, n0]
    simp only [List.map_cons, List.map_nil, List.forall_mem_cons, List.not_mem_nil, false_implies, implies_true, and_true]
    rw [dvd_mod, dvd_mod, Int.sub_self, Int.mul_zero]
    simp
  have h1 := rel_pos (l := [x, y]) hs
  have h2 := rnd_pos (r := (bd bs y).2 - (bd bs x).2) hu
  have h3 := Int.le_of_dvd h2 ((key _).mpr (Int.dvd_refl _))
  have h4 := Int.le_of_dvd h1 ((key _).mp (Int.dvd_refl _))
  omega
theorem near_iff {u b δ : Int} (h0 : 0 ≤ δ) (h1 : δ < u) (hb : 0 ≤ b) (hL : 2 * b + 1 ≤ u) : min δ (u - δ) ≤ b ↔ (δ + b) % u < 2 * b + 1 := by
  by_cases h : δ + b < u
  · rw [Int.emod_eq_of_lt (by omega) h]
    omega
  · have e : (δ + b) % u = δ + b - u := by
      rw [← Int.sub_emod_right]
      exact Int.emod_eq_of_lt (by omega) (by omega)
    rw [e]
    omega
theorem two_kinds {u b x y : Int} {bs : List (Int × Int)} (hs : Sky u bs) (hb : 0 ≤ b) : ∃ P Q : Int, 0 < P ∧ 0 < Q ∧ ∀ w ∈ waitsL u bs [x, y] b, w = P ∨ w = Q ∨ w = P + Q := by
  have hu := hs.pos
  have r0 := rel_pos (l := [x, y]) hs
  have d0 : ∀ d, 0 ≤ dif u bs x y d := fun d => Int.emod_nonneg _ (by omega)
  have d1 : ∀ d, dif u bs x y d < u := fun d => Int.emod_lt_of_pos _ hu
  by_cases hL : 2 * b + 1 ≤ u
  · have hN : u ∣ rel u bs [x, y] * ((bd bs y).2 - (bd bs x).2) := by
      rw [rel_two hs]
      exact (rnd_dvd hu).mp (Int.dvd_refl _)
    obtain ⟨P, Q, hP, hQ, h⟩ := gap3 (L := 2 * b + 1) hu (by omega) hL r0 hN
    refine ⟨P, Q, hP, hQ, fun w hw => ?_⟩
    obtain ⟨a, _, h1, w0, h2, h3⟩ := wts_mem (p := fun d => decide (arcAt u bs [x, y] d ≤ b)) (fun d => arcb_per hs d) r0 hw
    have conv : ∀ d, (arcAt u bs [x, y] d ≤ b) ↔ ((bd bs y).1 - (bd bs x).1 + b + d * ((bd bs y).2 - (bd bs x).2)) % u < 2 * b + 1 := fun d => by
      rw [arc_dif hu, near_iff (d0 d) (d1 d) hb hL]
      unfold dif
      rw [Int.emod_add_emod]
      have : (bd bs y).1 - (bd bs x).1 + d * ((bd bs y).2 - (bd bs x).2) + b = (bd bs y).1 - (bd bs x).1 + b + d * ((bd bs y).2 - (bd bs x).2) := by omega
      rw [this]
    refine h ((bd bs y).1 - (bd bs x).1 + b) a w ((conv a).mp (of_decide_eq_true h1)) ((conv (a + w)).mp (of_decide_eq_true h2)) w0 fun e e0 e1 he => ?_
    have := of_decide_eq_false (h3 e e0 e1)
    exact this ((conv e).mpr he)
  · refine ⟨1, 1, by omega, by omega, fun w hw => ?_⟩
    obtain ⟨a, _, h1, w0, h2, h3⟩ := wts_mem (p := fun d => decide (arcAt u bs [x, y] d ≤ b)) (fun d => arcb_per hs d) r0 hw
    refine .inl ?_
    by_cases hc : 1 < w
    · have := of_decide_eq_false (h3 (a + 1) (by omega) (by omega))
      rw [arc_dif hu] at this
      have q0 := d0 (a + 1)
      have q1 := d1 (a + 1)
      omega
    · omega
/-- how far apart two bodies can be -/
theorem count_mod {u m r0 : Int} (hm : 0 < m) (hd : m ∣ u) (hu : 0 < u) : (((rngl 0 u.toNat).filter fun r => decide (m ∣ r - r0)).length : Int) = u / m := by
  have hp : ∀ d, (fun r => decide (m ∣ r - r0)) (d + m) = (fun r => decide (m ∣ r - r0)) d := fun d => by
    simp only [decide_eq_decide]
    have : d + m - r0 = (d - r0) + m := by omega
    rw [this]
    refine ⟨fun h => ?_, fun h => Int.dvd_add h (Int.dvd_refl m)⟩
    have := Int.dvd_sub h (Int.dvd_refl m)
    rw [show d - r0 + m - m = d - r0 by omega] at this
    exact this
  rw [cnt_eq hp hm (by omega), Int.dvd_iff_emod_eq_zero.mp hd]
  have e1 : (gd (fun r => decide (m ∣ r - r0)) m).filter (fun x => decide (x < 0)) = [] := by
    rw [List.filter_eq_nil_iff]
    intro x hx
    have := (mem_gd.mp hx).1
    simp only [decide_eq_true_eq]
    omega
  have e2 : gd (fun r => decide (m ∣ r - r0)) m = [r0 % m] := by
    have b0 := Int.emod_nonneg r0 (show m ≠ 0 by omega)
    have b1 := Int.emod_lt_of_pos r0 hm
    refine sorted_uniq (perm_of_nodup (lt_nodup gd_sorted) (by simp) fun x => ?_) (lt_le gd_sorted) (by simp)
    rw [mem_gd, decide_eq_true_eq, List.mem_singleton, Int.dvd_iff_emod_eq_zero, ← Int.emod_eq_emod_iff_emod_sub_eq_zero]
    constructor
    · rintro ⟨⟨x0, x1⟩, e⟩
      rw [← e, Int.emod_eq_of_lt x0 x1]
    · rintro rfl
      exact ⟨⟨b0, b1⟩, Int.emod_emod _ _⟩
  rw [e1, e2]
  simp
theorem onto : ∀ (n : Nat) (L M : List Int), L.length = n → L.Nodup → (∀ x ∈ L, x ∈ M) → M.length ≤ L.length → ∀ x ∈ M, x ∈ L
  | 0, L, M, hn, _, _, hl => by
    intro x hx
    have : M = [] := List.length_eq_zero_iff.mp (by omega)
    rw [this] at hx
    cases hx
  | n + 1, L, M, hn, hd, hs, hl => by
    intro x hx
    obtain ⟨y, r, rfl⟩ := List.exists_cons_of_ne_nil (show L ≠ [] from fun e => by subst e; simp at hn)
    by_cases hxy : x = y
    · simp [hxy]
    · have hy : y ∈ M := hs y (by simp)
      have hd2 := List.nodup_cons.mp hd
      have h1 := onto n r (M.erase y) (by simpa using hn) hd2.2 (fun z hz => by
        have hzy : z ≠ y := fun e => hd2.1 (e ▸ hz)
        exact (List.mem_erase_of_ne hzy).mpr (hs z (by simp [hz]))) (by
        rw [List.length_erase_of_mem hy]
        simp at hl
        omega)
      exact List.mem_cons_of_mem _ (h1 x ((List.mem_erase_of_ne hxy).mpr hx))
theorem dif_mod {u x y d : Int} {bs : List (Int × Int)} : (mstep u bs x y) ∣ dif u bs x y d - ((bd bs y).1 - (bd bs x).1) := by
  have h1 : mstep u bs x y ∣ u := Int.gcd_dvd_left _ _
  have h2 : mstep u bs x y ∣ (bd bs y).2 - (bd bs x).2 := Int.gcd_dvd_right _ _
  have h3 := Int.emod_add_mul_ediv ((bd bs y).1 - (bd bs x).1 + d * ((bd bs y).2 - (bd bs x).2)) u
  have e : dif u bs x y d - ((bd bs y).1 - (bd bs x).1) = d * ((bd bs y).2 - (bd bs x).2) - u * (((bd bs y).1 - (bd bs x).1 + d * ((bd bs y).2 - (bd bs x).2)) / u) := by
    unfold dif
    omega
  rw [e]
  exact Int.dvd_sub (Int.dvd_mul_of_dvd_right h2) (Int.dvd_mul_of_dvd_left h1)
theorem dif_onto {u x y z : Int} {bs : List (Int × Int)} (hs : Sky u bs) (z0 : 0 ≤ z) (z1 : z < u) (h : mstep u bs x y ∣ z - ((bd bs y).1 - (bd bs x).1)) : ∃ d, 0 ≤ d ∧ d < rel u bs [x, y] ∧ dif u bs x y d = z := by
  have hu := hs.pos
  have r0 := rel_pos (l := [x, y]) hs
  have g0 : 0 < mstep u bs x y := gcd_pos hu
  have hd : mstep u bs x y ∣ u := Int.gcd_dvd_left _ _
  have hc := count_mod (r0 := (bd bs y).1 - (bd bs x).1) g0 hd hu
  have hl : ((rngl 0 (rel u bs [x, y]).toNat).map (dif u bs x y)).length = (rel u bs [x, y]).toNat := by simp
  have hr : rel u bs [x, y] = u / mstep u bs x y := rel_two hs
  have nd : ((rngl 0 (rel u bs [x, y]).toNat).map (dif u bs x y)).Nodup := by
    rw [List.Nodup, List.pairwise_map]
    refine List.Pairwise.imp_of_mem ?_ rngl_sorted
    intro a b ha hb hab he
    have ha2 := mem_rngl.mp ha
    have hb2 := mem_rngl.mp hb
    unfold dif at he
    rw [Int.emod_eq_emod_iff_emod_sub_eq_zero, ← Int.dvd_iff_emod_eq_zero] at he
    have e : (bd bs y).1 - (bd bs x).1 + a * ((bd bs y).2 - (bd bs x).2) - ((bd bs y).1 - (bd bs x).1 + b * ((bd bs y).2 - (bd bs x).2)) = -((b - a) * ((bd bs y).2 - (bd bs x).2)) := by
      rw [Int.sub_mul]
      omega
    rw [e, Int.dvd_neg, ← rnd_dvd hu, ← rel_two hs] at he
    have := Int.le_of_dvd (by omega) he
    omega
  have := onto _ _ ((rngl 0 u.toNat).filter fun r => decide (mstep u bs x y ∣ r - ((bd bs y).1 - (bd bs x).1))) rfl nd (fun w hw => by
    obtain ⟨d, _, rfl⟩ := List.mem_map.mp hw
    refine List.mem_filter.mpr ⟨mem_rngl.mpr ?_, decide_eq_true dif_mod⟩
    have q0 : 0 ≤ dif u bs x y d := Int.emod_nonneg _ (by omega)
    have q1 : dif u bs x y d < u := Int.emod_lt_of_pos _ hu
    omega) (by rw [hl]; omega) z (List.mem_filter.mpr ⟨mem_rngl.mpr (by omega), decide_eq_true h⟩)
  obtain ⟨d, hd, e⟩ := List.mem_map.mp this
  have := mem_rngl.mp hd
  exact ⟨d, by omega, by omega, e⟩
theorem mem_arcs {u a : Int} {bs : List (Int × Int)} {l : List Int} : a ∈ arcs u bs l ↔ ∃ d, 0 ≤ d ∧ d < rel u bs l ∧ arcAt u bs l d = a := by
  unfold arcs
  rw [List.mem_map]
  constructor
  · rintro ⟨d, hd, e⟩
    have := mem_rngl.mp hd
    exact ⟨d, by omega, by omega, e⟩
  · rintro ⟨d, h0, h1, e⟩
    exact ⟨d, mem_rngl.mpr (by omega), e⟩
theorem least_two {u x y : Int} {bs : List (Int × Int)} (hs : Sky u bs) : lmin (arcs u bs [x, y]) = min (((bd bs y).1 - (bd bs x).1) % mstep u bs x y) (mstep u bs x y - ((bd bs y).1 - (bd bs x).1) % mstep u bs x y) := by
  have hu := hs.pos
  have g0 : 0 < mstep u bs x y := gcd_pos hu
  obtain ⟨m, hm⟩ : mstep u bs x y ∣ u := Int.gcd_dvd_left _ _
  have hdm := fun d => dif_mod (u := u) (bs := bs) (x := x) (y := y) (d := d)
  have hon := fun z => dif_onto (u := u) (bs := bs) (x := x) (y := y) (z := z) hs
  generalize (bd bs y).1 - (bd bs x).1 = c at *
  generalize mstep u bs x y = g at *
  have c0 := Int.emod_nonneg c (show g ≠ 0 by omega)
  have c1 := Int.emod_lt_of_pos c g0
  have hc := Int.emod_add_mul_ediv c g
  generalize c % g = rest at *
  generalize c / g = kc at *
  have m0 : 1 ≤ m := by
    refine Int.not_lt.mp fun h => ?_
    have : g * m ≤ 0 := Int.mul_nonpos_of_nonneg_of_nonpos (by omega) (by omega)
    omega
  have gu : g * 1 ≤ g * m := Int.mul_le_mul_of_nonneg_left m0 (by omega)
  refine lmin_uniq (mem_arcs.mpr ?_) fun a ha => ?_
  · by_cases hle : rest ≤ g - rest
    · obtain ⟨d, h0, h1, e⟩ := hon rest c0 (by omega) ⟨-kc, by rw [Int.mul_neg]; omega⟩
      refine ⟨d, h0, h1, ?_⟩
      rw [arc_dif hu, e]
      omega
    · obtain ⟨d, h0, h1, e⟩ := hon (u - (g - rest)) (by omega) (by omega) ⟨m - 1 - kc, by rw [Int.mul_sub, Int.mul_sub]; omega⟩
      refine ⟨d, h0, h1, ?_⟩
      rw [arc_dif hu, e]
      omega
  · obtain ⟨d, h0, h1, e⟩ := mem_arcs.mp ha
    rw [arc_dif hu] at e
    have q0 : 0 ≤ dif u bs x y d := Int.emod_nonneg _ (by omega)
    have q1 : dif u bs x y d < u := Int.emod_lt_of_pos _ hu
    obtain ⟨k, hk⟩ := hdm d
    generalize dif u bs x y d = δ at *
    have e1 : δ = rest + g * (k + kc) := by rw [Int.mul_add]; omega
    have k0 : 0 ≤ k + kc := by
      refine Int.not_lt.mp fun h => ?_
      have : g * (k + kc) ≤ g * (-1) := Int.mul_le_mul_of_nonneg_left (by omega) (by omega)
      omega
    have k1 : k + kc < m := by
      refine Int.not_le.mp fun h => ?_
      have : g * m ≤ g * (k + kc) := Int.mul_le_mul_of_nonneg_left h (by omega)
      omega
    have k2 : 0 ≤ g * (k + kc) := Int.mul_nonneg (by omega) k0
    have k3 : g * (k + kc) ≤ g * (m - 1) := Int.mul_le_mul_of_nonneg_left (by omega) (by omega)
    rw [Int.mul_sub] at k3
    omega
/-! sums of kinds -/
theorem sum_mul {S : List Int} (hS : S.Nodup) : ∀ l : List Int, (∀ x ∈ l, x ∈ S) → (S.map fun x => x * (l.count x : Int)).sum = l.sum
  | [], _ => by
    clear hS
    induction S with
    | nil => simp
    | cons x r ih => simpa using ih
  | y :: l, h => by
    have e : ∀ R : List Int, R.Nodup → (R.map fun x => x * ((y :: l).count x : Int)).sum = (R.map fun x => x * (l.count x : Int)).sum + if y ∈ R then y else 0 := by
      intro R hR
      induction R with
      | nil => simp
      | cons x r ih =>
        have h2 := List.nodup_cons.mp hR
        rw [List.map_cons, List.sum_cons, ih h2.2, List.map_cons, List.sum_cons, List.count_cons]
        by_cases hxy : y = x
        · subst hxy
          simp [h2.1, Int.mul_add]
          omega
        · simp [hxy]
          omega
    rw [e S hS, sum_mul hS l (fun x hx => h x (by simp [hx])), if_pos (h y (by simp)), List.sum_cons]
    omega
theorem cnts_mul {l : List Int} : ((cnts l).map fun p => p.1 * p.2).sum = l.sum := by
  unfold cnts
  rw [List.map_map]
  exact sum_mul fnd_nodup l fun x hx => mem_fnd.mpr hx
theorem cnts_len {l : List Int} : (cnts l).length = (fnd l).length := by simp [cnts]
theorem cnts_nil {l : List Int} : cnts l = [] ↔ l = [] := by
  rw [← List.length_eq_zero_iff, cnts_len, List.length_eq_zero_iff]
  constructor
  · intro h
    by_cases hl : l = []
    · exact hl
    · exact absurd h (fnd_ne hl)
  · rintro rfl
    rfl
theorem bd_cnts {l : List Int} {i : Int} (h0 : 0 ≤ i) (h1 : i < (fnd l).length) : (bd (cnts l) i).1 = nth (fnd l) i := by
  have : i.toNat < (fnd l).length := by omega
  unfold bd cnts nth
  rw [List.getD_eq_getElem?_getD, List.getElem?_map, List.getElem?_eq_getElem this, List.getD_eq_getElem?_getD, List.getElem?_eq_getElem this]
  rfl
theorem cnts_last {l : List Int} (h : l ≠ []) : ∃ z, ixOp (pairsD (cnts l)) (.int (-1)) = some (pairD z) ∧ z.1 = lmax l := by
  obtain ⟨y, hy⟩ : ∃ y, (fnd l).getLast? = some y := by
    cases e : (fnd l).getLast? with
    | some z => exact ⟨z, rfl⟩
    | none => exact absurd (List.getLast?_eq_none_iff.mp e) (fnd_ne h)
  refine ⟨(y, (l.count y : Int)), ?_, ?_⟩
  · refine atD_last ?_
    unfold cnts
    rw [List.getLast?_map, List.getLast?_map, hy]
    rfl
  · refine (lmax_uniq (mem_fnd.mp (List.mem_of_getLast? hy)) fun z hz => ?_).symm
    exact getLast_ge fnd_sorted hy (mem_fnd.mpr hz)
theorem sum_low {m : Int} : ∀ {l : List Int}, (∀ x ∈ l, m ≤ x) → l.length * m ≤ l.sum
  | [], _ => by simp
  | x :: r, h => by
    have h1 := h x (by simp)
    have h2 := sum_low (l := r) fun y hy => h y (by simp [hy])
    rw [List.sum_cons, List.length_cons, Int.natCast_add, Int.add_mul]
    simp
    omega
theorem mean_spec {R : Int} {l : List Int} (hl : l ≠ []) (hs : l.sum = R) (hR : 0 < R) : (meanW R l.length).1 * l.length = R * (meanW R l.length).2 ∧ lmin l * (meanW R l.length).2 ≤ (meanW R l.length).1 ∧ (meanW R l.length).1 ≤ lmax l * (meanW R l.length).2 ∧ 0 ≤ (meanW R l.length).1 ∧ (meanW R l.length).1 ≤ R ∧ 0 ≤ (meanW R l.length).2 := by
  have g0 := gcd_pos (r := (l.length : Int)) hR
  have e1 : R / (Int.gcd R l.length : Int) * (Int.gcd R l.length : Int) = R := Int.ediv_mul_cancel (Int.gcd_dvd_left _ _)
  have e2 : (l.length : Int) / (Int.gcd R l.length : Int) * (Int.gcd R l.length : Int) = l.length := Int.ediv_mul_cancel (Int.gcd_dvd_right _ _)
  have q1 : 0 ≤ R / (Int.gcd R l.length : Int) := Int.ediv_nonneg (by omega) (by omega)
  have q2 : R / (Int.gcd R l.length : Int) ≤ R := Int.ediv_le_self _ (by omega)
  have q3 : 0 ≤ (l.length : Int) / (Int.gcd R l.length : Int) := Int.ediv_nonneg (by omega) (by omega)
  have s1 := sum_low (lmin_spec l hl).2
  have s2 := sum_le (lmax_spec l hl).2
  unfold meanW
  generalize (Int.gcd R l.length : Int) = g at *
  generalize R / g = top at *
  generalize (l.length : Int) / g = un at *
  rw [hs] at s1 s2
  simp only
  rw [← e2] at s1 s2 ⊢
  rw [← e1] at s1 s2
  have c1 : un * g * lmin l = (lmin l * un) * g := by rw [Int.mul_comm, ← Int.mul_assoc]
  have c2 : un * g * lmax l = (lmax l * un) * g := by rw [Int.mul_comm, ← Int.mul_assoc]
  rw [c1] at s1
  rw [c2] at s2
  refine ⟨?_, Int.le_of_mul_le_mul_right s1 g0, Int.le_of_mul_le_mul_right s2 g0, q1, q2, q3⟩
  rw [← e1, Int.mul_comm un g, ← Int.mul_assoc]
/-- all days in a row -/
theorem rows_all : ∀ n : Nat, rowsF (rngl 0 (n + 1)) = [(0, (n : Int))]
  | 0 => rfl
  | n + 1 => by
    have e : rngl 0 (n + 1 + 1) = rngl 0 (n + 1) ++ [((n + 1 : Nat) : Int)] := by
      simp [rngl, List.range_succ]
    rw [e, rowsF_snoc, rows_all n]
    have : (n : Int) = ((n + 1 : Nat) : Int) - 1 := by omega
    simp [rstep]
theorem foldR {lo : Int} {n : Nat} : PyData.list (rangeD lo n) = intsD (rngl lo n) := by
  unfold intsD
  rw [rangeD_eq]
theorem optD_s {i : Int} : optD (some i) = .int i := rfl
theorem optD_n : optD none = .none := rfl
theorem gdays_none {u b : Int} {bs : List (Int × Int)} {l : List Int} : gdays u bs l b = [] ↔ ∀ d, 0 ≤ d → d < rel u bs l → b < arcAt u bs l d := by
  unfold gdays
  rw [List.filter_eq_nil_iff]
  constructor
  · intro h d d0 d1
    have := h d (mem_rngl.mpr (by omega))
    simp only [decide_eq_true_eq] at this
    omega
  · intro h d hd
    have h2 := mem_rngl.mp hd
    have := h d (by omega) (by omega)
    simp only [decide_eq_true_eq]
    omega
theorem least_none {u b : Int} {bs : List (Int × Int)} {l : List Int} (hs : Sky u bs) : gdays u bs l b = [] ↔ b < lmin (arcs u bs l) := by
  have r0 := rel_pos (l := l) hs
  have an : arcs u bs l ≠ [] := List.length_pos_iff.mp (by rw [arcs_len]; omega)
  obtain ⟨m, g⟩ := lmin_spec _ an
  rw [gdays_none]
  constructor
  · intro h
    obtain ⟨d, d0, d1, e⟩ := mem_arcs.mp m
    rw [← e]
    exact h d d0 d1
  · intro h d d0 d1
    have := g _ (mem_arcs.mpr ⟨d, d0, d1, rfl⟩)
    omega
/-- the wait after the day of the same number -/
theorem first_after {u b : Int} {bs : List (Int × Int)} {l : List Int} {i : Int} (hs : Sky u bs) (h0 : 0 ≤ i) (h1 : i < (gdays u bs l b).length) : firstOf u bs l b (nth (gdays u bs l b) i) = some (nth (gdays u bs l b) i) ∧ firstOf u bs l b (nth (gdays u bs l b) i + 1) = some (nth (gdays u bs l b) i + nth (waitsL u bs l b) i) ∧ (0 ≤ nth (gdays u bs l b) i ∧ nth (gdays u bs l b) i < rel u bs l) ∧ 0 < nth (waitsL u bs l b) i ∧ nth (waitsL u bs l b) i ≤ rel u bs l := by
  have r0 := rel_pos (l := l) hs
  have hi : i.toNat < (gd (fun d => decide (arcAt u bs l d ≤ b)) (rel u bs l)).length := by
    rw [← gdays_gd]
    omega
  have hw : i.toNat < (wts (rel u bs l) (gd (fun d => decide (arcAt u bs l d ≤ b)) (rel u bs l))).length := by rw [wts_len]; exact hi
  obtain ⟨w1, w2, w3⟩ := wait_spec (p := fun d => decide (arcAt u bs l d ≤ b)) (fun d => arcb_per hs d) r0 hi
  have ha := mem_gd.mp (List.getElem_mem hi)
  have hle := wts_le (p := fun d => decide (arcAt u bs l d ≤ b)) (fun d => arcb_per hs d) r0 (List.getElem_mem hw)
  have eg : nth (gdays u bs l b) i = (gd (fun d => decide (arcAt u bs l d ≤ b)) (rel u bs l))[i.toNat] := by
    unfold nth
    rw [gdays_gd, List.getD_eq_getElem?_getD, List.getElem?_eq_getElem hi]
    rfl
  have ew : nth (waitsL u bs l b) i = (wts (rel u bs l) (gd (fun d => decide (arcAt u bs l d ≤ b)) (rel u bs l)))[i.toNat] := by
    unfold nth waitsL
    rw [gdays_gd, List.getD_eq_getElem?_getD, List.getElem?_eq_getElem hw]
    rfl
  rw [eg, ew]
  generalize (gd (fun d => decide (arcAt u bs l d ≤ b)) (rel u bs l))[i.toNat] = a at *
  generalize (wts (rel u bs l) (gd (fun d => decide (arcAt u bs l d ≤ b)) (rel u bs l)))[i.toNat] = w at *
  refine ⟨find_rngl (by omega) (by omega) ha.2 (fun x x0 x1 => by omega), find_rngl (by omega) (by omega) w2 (fun x x0 x1 => w3 x (by omega) x1), ha.1, w1, hle⟩
end Sk
set_option linter.all false
set_option maxRecDepth 10000
set_option maxHeartbeats 4000000
namespace Sk
open PySem
namespace K02
/-- law(script); slots: script draws sky units count body told good day some one other rest step gaps unit days_here -/
def b_law_2l_2 : Ss := .cons (.ifs (.cmp .ne (.var 6) (.ix (.var 7) (.ci 0))) (.cons (.ret (.cb false)) <| .nil) .nil) .nil
def b_law_2l_1 : Ss := .cons (.asg false 7 (.lc [8] (.rg2 (.ci 1) (.bin .add (.var 3) (.ci 1))) (.some (.cmp .eq (.bin .mod (.bin .mul (.var 8) (.ix (.ix (.ix (.var 2) (.ci 1)) (.var 5)) (.ci 1))) (.var 3)) (.ci 0))) (.var 8))) b_law_2l_2
def b_law_2l_0 : Ss := .cons (.asg false 6 (.call .body_period (.cons (.var 2) (.cons (.var 5) (.nil))))) b_law_2l_1
def b_law_16 : Ss := .cons (.ret (.cmp .eq (.call .places (.cons (.var 2) (.cons (.bin .add (.var 8) (.call .period (.cons (.var 2) (.nil)))) (.nil)))) (.call .places (.cons (.var 2) (.cons (.var 8) (.nil)))))) .nil
def b_law_15 : Ss := .cons (.ifs (.bool true (.cons (.cmp .ne (.var 10) (.var 11)) (.cons (.cmp .ne (.bi .len (.cons (.var 14) (.nil))) (.call .relative_period (.cons (.var 2) (.cons (.lst (.cons (.var 10) (.cons (.var 11) (.nil)))) (.nil))))) (.nil)))) (.cons (.ret (.cb false)) <| .nil) .nil) b_law_16
def b_law_14 : Ss := .cons (.asg false 8 (.call .ldraw (.cons (.var 1) (.cons (.ci 1000) (.nil))))) b_law_15
def b_law_13 : Ss := .cons (.ifs (.bool false (.cons (.cmp .ne (.call .ever_at (.cons (.var 2) (.cons (.var 10) (.cons (.var 15) (.nil))))) (.ife (.cmp .ne (.var 16) (.lst .nil)) (.ix (.var 16) (.ci 0)) (.cn))) (.cons (.notN (.call .ever_at (.cons (.var 2) (.cons (.var 10) (.cons (.cn) (.nil)))))) (.nil)))) (.cons (.ret (.cb false)) <| .nil) .nil) b_law_14
def b_law_12 : Ss := .cons (.asg false 16 (.lc [8] (.rg1 (.var 3)) (.some (.cmp .eq (.call .lat (.cons (.var 2) (.cons (.var 10) (.cons (.var 8) (.nil))))) (.var 15))) (.var 8))) b_law_13
def b_law_11 : Ss := .cons (.asg false 15 (.call .ldraw (.cons (.var 1) (.cons (.var 3) (.nil))))) b_law_12
def b_law_10 : Ss := .cons (.ifs (.bool false (.cons (.cmp .ne (.var 14) (.lstRg3 (.var 12) (.var 3) (.var 13))) (.cons (.inot (.chain .le .lt (.ci 0) (.var 12) (.var 13))) (.nil)))) (.cons (.ret (.cb false)) <| .nil) .nil) b_law_11
def b_law_9 : Ss := .cons (.asg false 14 (.srtSet (.lc [8] (.rg1 (.var 3)) .none (.bin .mod (.bin .sub (.call .lat (.cons (.var 2) (.cons (.var 11) (.cons (.var 8) (.nil))))) (.call .lat (.cons (.var 2) (.cons (.var 10) (.cons (.var 8) (.nil)))))) (.var 3))))) b_law_10
def b_law_8 : Ss := .cons (.asgT [12, 13] (.call .meeting_units (.cons (.var 2) (.cons (.var 10) (.cons (.var 11) (.nil)))))) b_law_9
def b_law_7 : Ss := .cons (.asgT [10, 11] (.tup (.cons (.call .ldraw (.cons (.var 1) (.cons (.var 4) (.nil)))) (.cons (.call .ldraw (.cons (.var 1) (.cons (.var 4) (.nil)))) (.nil))))) b_law_8
def b_law_6 : Ss := .cons (.ifs (.bool false (.cons (.cmp .ne (.call .relative_period (.cons (.var 2) (.cons (.var 9) (.nil)))) (.call .lrelative (.cons (.var 2) (.cons (.var 9) (.nil))))) (.cons (.cmp .ne (.bin .mod (.call .period (.cons (.var 2) (.nil))) (.call .relative_period (.cons (.var 2) (.cons (.var 9) (.nil))))) (.ci 0)) (.nil)))) (.cons (.ret (.cb false)) <| .nil) .nil) b_law_7
def b_law_5 : Ss := .cons (.asg false 9 (.call .lsome (.cons (.var 1) (.cons (.var 2) (.nil))))) b_law_6
def b_law_4 : Ss := .cons (.ifs (.bool false (.cons (.cmp .ne (.call .period (.cons (.var 2) (.nil))) (.ix (.var 7) (.ci 0))) (.cons (.cmp .ne (.bin .mod (.var 3) (.call .period (.cons (.var 2) (.nil)))) (.ci 0)) (.nil)))) (.cons (.ret (.cb false)) <| .nil) .nil) b_law_5
def b_law_3 : Ss := .cons (.asg false 7 (.lc [8] (.rg2 (.ci 1) (.bin .add (.var 3) (.ci 1))) (.some (.cmp .eq (.lc [5] (.rg1 (.var 4)) (.some (.cmp .ne (.bin .mod (.bin .mul (.var 8) (.ix (.ix (.ix (.var 2) (.ci 1)) (.var 5)) (.ci 1))) (.var 3)) (.ci 0))) (.var 5)) (.lst .nil))) (.var 8))) b_law_4
def b_law_2 : Ss := .cons (.fors [5] (.rg1 (.var 4)) b_law_2l_0) b_law_3
def b_law_1 : Ss := .cons (.asgT [3, 4] (.tup (.cons (.ix (.var 2) (.ci 0)) (.cons (.bi .len (.cons (.ix (.var 2) (.ci 1)) (.nil))) (.nil))))) b_law_2
def b_law_0 : Ss := .cons (.asg false 2 (.call .lsky (.cons (.var 1) (.cons (.ci 120) (.cons (.ci 4) (.nil)))))) b_law_1
def b_law : Ss := b_law_0
theorem first_div {p : Int → Bool} {R u : Int} (hR : 0 < R) (hu : R ≤ u) (h : ∀ d, p d = true ↔ R ∣ d) : nth ((rngl 1 u.toNat).filter p) 0 = R ∧ (0 : Int) < ((rngl 1 u.toNat).filter p).length := by
  have hf : (rngl 1 u.toNat).find? p = some R := find_rngl (by omega) (by omega) ((h R).mpr (Int.dvd_refl R)) fun x x0 x1 => by
    refine Bool.eq_false_iff.mpr fun hx => ?_
    have := Int.le_of_dvd (by omega) ((h x).mp hx)
    omega
  rw [← List.head?_filter] at hf
  cases e : (rngl 1 u.toNat).filter p with
  | nil => rw [e] at hf; cases hf
  | cons x r =>
    rw [e] at hf
    simp at hf
    subst hf
    exact ⟨rfl, by simp⟩
theorem find_more {p : Int → Bool} {R : Int} {n : Nat} (hp : ∀ d, p (d + R) = p d) (hR : 0 < R) (hn : R ≤ n) : (rngl 0 n).find? p = (rngl 0 R.toNat).find? p := by
  have e : n = R.toNat + (n - R.toNat) := by omega
  conv => lhs; rw [e]
  rw [rngl_add, List.find?_append]
  cases hf : (rngl 0 R.toNat).find? p with
  | some x => rfl
  | none =>
    simp only [Option.none_or]
    rw [List.find?_eq_none] at hf ⊢
    intro x hx hpx
    have h1 := mem_rngl.mp hx
    have h2 := per_mod hp hR (show 0 ≤ x by omega)
    refine hf (x % R) (mem_rngl.mpr ⟨Int.emod_nonneg _ (by omega), ?_⟩) (by rw [h2]; exact hpx)
    have := Int.emod_lt_of_pos x hR
    omega
theorem plc_per {u b : Int} {bs : List (Int × Int)} (hs : Sky u bs) (d : Int) : plc u bs b (d + rnd u (bd bs b).2) = plc u bs b d := by
  have h : u ∣ rnd u (bd bs b).2 * (bd bs b).2 := (rnd_dvd hs.pos).mp (Int.dvd_refl _)
  rw [plc_add, Int.add_emod, Int.dvd_iff_emod_eq_zero.mp h]
  simp
  exact Int.emod_eq_of_lt (plc_b hs).1 (plc_b hs).2
theorem foldRS {l s : Int} {n : Nat} : PyData.list (rangeS l s n) = intsD ((List.range n).map fun (i : Nat) => l + i * s) := by
  unfold intsD rangeS
  rw [List.map_map]
  rfl
theorem gaps_eq {u x y : Int} {bs : List (Int × Int)} (hs : Sky u bs) : fnd ((rngl 0 u.toNat).map (dif u bs x y)) = (List.range (rgN (((bd bs y).1 - (bd bs x).1) % mstep u bs x y) u (mstep u bs x y))).map fun (i : Nat) => ((bd bs y).1 - (bd bs x).1) % mstep u bs x y + i * mstep u bs x y := by
  have hu := hs.pos
  have g0 : 0 < mstep u bs x y := gcd_pos hu
  have r1 := rel_le (l := [x, y]) hs
  refine sortSet_uniq ?_ fun z => ?_
  · rw [List.pairwise_map]
    refine List.pairwise_lt_range.imp fun {a b} h => ?_
    have : (a : Int) * mstep u bs x y < (b : Int) * mstep u bs x y := Int.mul_lt_mul_of_pos_right (by omega) g0
    omega
  · have hdm := fun d => dif_mod (u := u) (bs := bs) (x := x) (y := y) (d := d)
    have hon := fun z => dif_onto (u := u) (bs := bs) (x := x) (y := y) (z := z) hs
    generalize (bd bs y).1 - (bd bs x).1 = c at *
    generalize mstep u bs x y = g at *
    have c0 := Int.emod_nonneg c (show g ≠ 0 by omega)
    have c1 := Int.emod_lt_of_pos c g0
    have hc := Int.emod_add_mul_ediv c g
    rw [List.mem_map, List.mem_map]
    constructor
    · rintro ⟨i, hi, rfl⟩
      have hi2 := List.mem_range.mp hi
      unfold rgN at hi2
      split at hi2
      · rename_i hlt
        have hle : (i : Int) ≤ (u - c % g - 1) / g := by omega
        have h3 := (Int.le_ediv_iff_mul_le g0).mp hle
        have h4 : 0 ≤ (i : Int) * g := Int.mul_nonneg (by omega) (by omega)
        obtain ⟨d, d0, d1, e⟩ := hon (c % g + i * g) (by omega) (by omega) ⟨i - c / g, by rw [Int.mul_sub, Int.mul_comm g i]; omega⟩
        exact ⟨d, mem_rngl.mpr (by omega), e⟩
      · omega
    · rintro ⟨d, _, rfl⟩
      have q0 : 0 ≤ dif u bs x y d := Int.emod_nonneg _ (by omega)
      have q1 : dif u bs x y d < u := Int.emod_lt_of_pos _ hu
      obtain ⟨k, hk⟩ := hdm d
      generalize dif u bs x y d = δ at *
      have e1 : δ = c % g + g * (k + c / g) := by rw [Int.mul_add]; omega
      have k0 : 0 ≤ k + c / g := by
        refine Int.not_lt.mp fun h => ?_
        have : g * (k + c / g) ≤ g * (-1) := Int.mul_le_mul_of_nonneg_left (by omega) (by omega)
        omega
      have k2 : 0 ≤ g * (k + c / g) := Int.mul_nonneg (by omega) k0
      refine ⟨(k + c / g).toNat, List.mem_range.mpr ?_, ?_⟩
      · unfold rgN
        rw [if_pos (by omega)]
        have : k + c / g ≤ (u - c % g - 1) / g := (Int.le_ediv_iff_mul_le g0).mpr (by rw [Int.mul_comm]; omega)
        omega
      · rw [show (((k + c / g).toNat : Nat) : Int) = k + c / g by omega, Int.mul_comm]
        omega
theorem gaps_len {u g c : Int} (g0 : 0 < g) (hu : 0 < u) (hd : g ∣ u) (c0 : 0 ≤ c) (c1 : c < g) : (rgN c u g : Int) = u / g := by
  obtain ⟨m, rfl⟩ := hd
  have m1 : 1 ≤ m := by
    refine Int.not_lt.mp fun h => ?_
    have : g * m ≤ 0 := Int.mul_nonpos_of_nonneg_of_nonpos (by omega) (by omega)
    omega
  have gm : g * 1 ≤ g * m := Int.mul_le_mul_of_nonneg_left m1 (by omega)
  rw [Int.mul_ediv_cancel_left _ (by omega)]
  unfold rgN
  rw [if_pos (by omega)]
  have h1 : m - 1 ≤ (g * m - c - 1) / g := (Int.le_ediv_iff_mul_le g0).mpr (by rw [Int.sub_mul, Int.mul_comm m]; omega)
  have h2 : (g * m - c - 1) / g < m := Int.ediv_lt_of_lt_mul g0 (by rw [Int.mul_comm m]; omega)
  omega
theorem law {T : Fn → Spec} (t_body_period : T .body_period = sp_body_period) (t_ever_at : T .ever_at = sp_ever_at) (t_lat : T .lat = sp_lat) (t_ldraw : T .ldraw = sp_ldraw) (t_lrelative : T .lrelative = sp_lrelative) (t_lsky : T .lsky = sp_lsky) (t_lsome : T .lsome = sp_lsome) (t_meeting_units : T .meeting_units = sp_meeting_units) (t_period : T .period = sp_period) (t_places : T .places = sp_places) (t_relative_period : T .relative_period = sp_relative_period) :
    wpSs T b_law (.no :: .d (.dict []) :: List.replicate (17 - 2) .no) { nx := fun _ => False, rt := fun d => d = .bool true, bk := fun _ => False, ct := fun _ => False, ex := fun _ => False } := by
  try simp (maxSteps := 2000000) (disch := first | assumption | omega) only [↓e_var, ↓e_ci, ↓e_cs, ↓e_cb, ↓e_cn, ↓e_gc, ↓e_bin, ↓e_neg, ↓e_inot, ↓e_cmp, ↓e_chain, ↓e_isN, ↓e_notN, ↓e_isB, ↓e_notB, ↓e_bool, ↓e_ife, ↓e_ix, ↓e_slc, ↓e_tup, ↓e_lst, ↓e_call, ↓e_bi, ↓e_mth, ↓e_lc, ↓e_isi, ↓e_srtSet, ↓e_lenSet, ↓e_lstRg, ↓e_lstRg3, ↓es_nil, ↓es_cons, ↓eb_one, ↓eb_and, ↓eb_or, ↓eo_none, ↓eo_some, ↓ec_none, ↓ec_some, ↓ei_list, ↓ei_tup, ↓ei_rg1, ↓ei_rg2, ↓ei_rg3, ↓ei_zip, ↓s_asgt, ↓s_asg, ↓s_own, ↓s_asgT, ↓s_par, ↓s_expr, ↓s_app, ↓s_setix, ↓s_augix, ↓s_iadd, ↓s_rem, ↓s_ret, ↓s_ifs, ↓s_fors, ↓s_whil, ↓s_raise, ↓s_shut, ↓ss_nil, ↓ss_cons, ↓sf_nil, ↓sf_cons, ↓mustF_s, mustF_s, ↓boolF_b, boolF_b, ↓intF_i, intF_i, ↓listF_l, listF_l, ↓listF_p, listF_p, ↓listF_i, listF_i, ↓tupF_t, tupF_t, ↓atV_d, atV_d, ↓atV_o, atV_o, ↓atO_o, atO_o, ↓cnd_t, cnd_t, ↓cnd_f, cnd_f, ↓bindF_1, bindF_1, ↓bindF_2, bindF_2, ↓bindF_p, bindF_p, ↓runs, runs, start, getS, setS, blank, blank1, List.map_cons, List.map_nil, List.length_cons, List.length_nil, List.cons_append, List.nil_append, List.replicate, Nat.sub_self, cop_lt, cop_le, cop_gt, cop_ge, bop_add, bop_sub, bop_mod, bop_fdiv, bop_mul, ixOp_t0, ixOp_t1, ixOp_l, bsem_lenl, bsem_lent, gcv_u, gcv_d, isiD_i, isiD_b, isTok_i, isTok_b, isTok_n, isTok_t, isTok_l, isTok_s, and_true, true_and, Bool.false_eq_true, Bool.true_eq_false, Bool.not_true, Bool.not_false, Bool.not_not, noList_i, noList_b, noList_n, noList_t, plain_n, plain_c, lenlim, Nat.reduceAdd, Nat.reduceSub, isNon_n, isNon_i, isNon_b, isNon_t, isNon_l, isNon_s, ite_self, not_true_eq_false, not_false_eq_true, implies_true, false_and, and_false, decide_true, decide_false, decide_not, ixOp_s0, ixOp_s1, ixOp_p, ixOp_p0, ixOp_p1, ixOp_i, bsem_lenp, bsem_leni, isTok_sky, isTok_ps, isTok_is, isTok_p, noList_p, cop_eqi, cop_nei, bsem_max2, bsem_min2, ge0, d_is_int_i, toNat_nat, rangeD_len, eq_self, cop_eqil, cop_neil, cop_eqps, cop_neps, cop_eqp, cop_nep, Bool.and_true, Bool.true_and, big1, big2, cop_eqi0, cop_nei0, cop_eqp0, cop_nep0, bop_addps, bop_addis, bsem_maxl, bsem_minl, mtTy_index, msem_index, d_lpick2, d_lpick3, t_body_period, d_body_period, t_ever_at, d_ever_at, t_lat, d_lat, t_ldraw, d_ldraw, t_lrelative, d_lrelative, t_lsky, d_lsky, t_lsome, d_lsome, t_meeting_units, d_meeting_units, t_period, d_period, t_places, d_places, t_relative_period, d_relative_period, ↓reduceIte, foldI, foldP, cop_ne00, cop_eq00, Int.reduceSub, Int.reduceNeg, Int.reduceAdd, Int.reduceMul, Int.reduceToNat, b_law, b_law_0]
  intro u bs hs _ _
  have hu := hs.pos
  have hi := hs.hi
  have hlo := hs.lo
  have hn := hs.n4
  have h4 := hs.l4
  have hl1 := hs.n1
  have p0 := prd_pos hs
  have p1 := prd_le hs
  have e1 : (u + 1 - 1).toNat = u.toNat := by omega
  try simp (maxSteps := 2000000) (disch := first | assumption | omega) only [↓e_var, ↓e_ci, ↓e_cs, ↓e_cb, ↓e_cn, ↓e_gc, ↓e_bin, ↓e_neg, ↓e_inot, ↓e_cmp, ↓e_chain, ↓e_isN, ↓e_notN, ↓e_isB, ↓e_notB, ↓e_bool, ↓e_ife, ↓e_ix, ↓e_slc, ↓e_tup, ↓e_lst, ↓e_call, ↓e_bi, ↓e_mth, ↓e_lc, ↓e_isi, ↓e_srtSet, ↓e_lenSet, ↓e_lstRg, ↓e_lstRg3, ↓es_nil, ↓es_cons, ↓eb_one, ↓eb_and, ↓eb_or, ↓eo_none, ↓eo_some, ↓ec_none, ↓ec_some, ↓ei_list, ↓ei_tup, ↓ei_rg1, ↓ei_rg2, ↓ei_rg3, ↓ei_zip, ↓s_asgt, ↓s_asg, ↓s_own, ↓s_asgT, ↓s_par, ↓s_expr, ↓s_app, ↓s_setix, ↓s_augix, ↓s_iadd, ↓s_rem, ↓s_ret, ↓s_ifs, ↓s_fors, ↓s_whil, ↓s_raise, ↓s_shut, ↓ss_nil, ↓ss_cons, ↓sf_nil, ↓sf_cons, ↓mustF_s, mustF_s, ↓boolF_b, boolF_b, ↓intF_i, intF_i, ↓listF_l, listF_l, ↓listF_p, listF_p, ↓listF_i, listF_i, ↓tupF_t, tupF_t, ↓atV_d, atV_d, ↓atV_o, atV_o, ↓atO_o, atO_o, ↓cnd_t, cnd_t, ↓cnd_f, cnd_f, ↓bindF_1, bindF_1, ↓bindF_2, bindF_2, ↓bindF_p, bindF_p, ↓runs, runs, start, getS, setS, blank, blank1, List.map_cons, List.map_nil, List.length_cons, List.length_nil, List.cons_append, List.nil_append, List.replicate, Nat.sub_self, cop_lt, cop_le, cop_gt, cop_ge, bop_add, bop_sub, bop_mod, bop_fdiv, bop_mul, ixOp_t0, ixOp_t1, ixOp_l, bsem_lenl, bsem_lent, gcv_u, gcv_d, isiD_i, isiD_b, isTok_i, isTok_b, isTok_n, isTok_t, isTok_l, isTok_s, and_true, true_and, Bool.false_eq_true, Bool.true_eq_false, Bool.not_true, Bool.not_false, Bool.not_not, noList_i, noList_b, noList_n, noList_t, plain_n, plain_c, lenlim, Nat.reduceAdd, Nat.reduceSub, isNon_n, isNon_i, isNon_b, isNon_t, isNon_l, isNon_s, ite_self, not_true_eq_false, not_false_eq_true, implies_true, false_and, and_false, decide_true, decide_false, decide_not, ixOp_s0, ixOp_s1, ixOp_p, ixOp_p0, ixOp_p1, ixOp_i, bsem_lenp, bsem_leni, isTok_sky, isTok_ps, isTok_is, isTok_p, noList_p, cop_eqi, cop_nei, bsem_max2, bsem_min2, ge0, d_is_int_i, toNat_nat, rangeD_len, eq_self, cop_eqil, cop_neil, cop_eqps, cop_neps, cop_eqp, cop_nep, Bool.and_true, Bool.true_and, big1, big2, cop_eqi0, cop_nei0, cop_eqp0, cop_nep0, bop_addps, bop_addis, bsem_maxl, bsem_minl, mtTy_index, msem_index, d_lpick2, d_lpick3, t_body_period, d_body_period, t_ever_at, d_ever_at, t_lat, d_lat, t_ldraw, d_ldraw, t_lrelative, d_lrelative, t_lsky, d_lsky, t_lsome, d_lsome, t_meeting_units, d_meeting_units, t_period, d_period, t_places, d_places, t_relative_period, d_relative_period, ↓reduceIte, foldI, foldP, cop_ne00, cop_eq00, Int.reduceSub, Int.reduceNeg, Int.reduceAdd, Int.reduceMul, Int.reduceToNat, b_law_1, b_law_2]
  refine for_rg (I := fun i G => ∃ (s5 s6 s7 s8 : Sl), G = [.no, .d (.dict []), .d (skyD u bs), .d (.int u), .d (.int bs.length), s5, s6, s7, s8, .no, .no, .no, .no, .no, .no, .no, .no]) ⟨_, _, _, _, rfl⟩ (fun i hi G hG k hk => ?_) (fun G hG => ?_)
  · obtain ⟨s5, s6, s7, s8, rfl⟩ := hG
    replace hk := fun s5 s6 s7 s8 => hk _ ⟨s5, s6, s7, s8, rfl⟩
    have i0 : 0 ≤ (i : Int) := by omega
    have i1 : (i : Int) < bs.length := by omega
    try simp (maxSteps := 2000000) (disch := first | assumption | omega) only [↓e_var, ↓e_ci, ↓e_cs, ↓e_cb, ↓e_cn, ↓e_gc, ↓e_bin, ↓e_neg, ↓e_inot, ↓e_cmp, ↓e_chain, ↓e_isN, ↓e_notN, ↓e_isB, ↓e_notB, ↓e_bool, ↓e_ife, ↓e_ix, ↓e_slc, ↓e_tup, ↓e_lst, ↓e_call, ↓e_bi, ↓e_mth, ↓e_lc, ↓e_isi, ↓e_srtSet, ↓e_lenSet, ↓e_lstRg, ↓e_lstRg3, ↓es_nil, ↓es_cons, ↓eb_one, ↓eb_and, ↓eb_or, ↓eo_none, ↓eo_some, ↓ec_none, ↓ec_some, ↓ei_list, ↓ei_tup, ↓ei_rg1, ↓ei_rg2, ↓ei_rg3, ↓ei_zip, ↓s_asgt, ↓s_asg, ↓s_own, ↓s_asgT, ↓s_par, ↓s_expr, ↓s_app, ↓s_setix, ↓s_augix, ↓s_iadd, ↓s_rem, ↓s_ret, ↓s_ifs, ↓s_fors, ↓s_whil, ↓s_raise, ↓s_shut, ↓ss_nil, ↓ss_cons, ↓sf_nil, ↓sf_cons, ↓mustF_s, mustF_s, ↓boolF_b, boolF_b, ↓intF_i, intF_i, ↓listF_l, listF_l, ↓listF_p, listF_p, ↓listF_i, listF_i, ↓tupF_t, tupF_t, ↓atV_d, atV_d, ↓atV_o, atV_o, ↓atO_o, atO_o, ↓cnd_t, cnd_t, ↓cnd_f, cnd_f, ↓bindF_1, bindF_1, ↓bindF_2, bindF_2, ↓bindF_p, bindF_p, ↓runs, runs, start, getS, setS, blank, blank1, List.map_cons, List.map_nil, List.length_cons, List.length_nil, List.cons_append, List.nil_append, List.replicate, Nat.sub_self, cop_lt, cop_le, cop_gt, cop_ge, bop_add, bop_sub, bop_mod, bop_fdiv, bop_mul, ixOp_t0, ixOp_t1, ixOp_l, bsem_lenl, bsem_lent, gcv_u, gcv_d, isiD_i, isiD_b, isTok_i, isTok_b, isTok_n, isTok_t, isTok_l, isTok_s, and_true, true_and, Bool.false_eq_true, Bool.true_eq_false, Bool.not_true, Bool.not_false, Bool.not_not, noList_i, noList_b, noList_n, noList_t, plain_n, plain_c, lenlim, Nat.reduceAdd, Nat.reduceSub, isNon_n, isNon_i, isNon_b, isNon_t, isNon_l, isNon_s, ite_self, not_true_eq_false, not_false_eq_true, implies_true, false_and, and_false, decide_true, decide_false, decide_not, ixOp_s0, ixOp_s1, ixOp_p, ixOp_p0, ixOp_p1, ixOp_i, bsem_lenp, bsem_leni, isTok_sky, isTok_ps, isTok_is, isTok_p, noList_p, cop_eqi, cop_nei, bsem_max2, bsem_min2, ge0, d_is_int_i, toNat_nat, rangeD_len, eq_self, cop_eqil, cop_neil, cop_eqps, cop_neps, cop_eqp, cop_nep, Bool.and_true, Bool.true_and, big1, big2, cop_eqi0, cop_nei0, cop_eqp0, cop_nep0, bop_addps, bop_addis, bsem_maxl, bsem_minl, mtTy_index, msem_index, d_lpick2, d_lpick3, t_body_period, d_body_period, t_ever_at, d_ever_at, t_lat, d_lat, t_ldraw, d_ldraw, t_lrelative, d_lrelative, t_lsky, d_lsky, t_lsome, d_lsome, t_meeting_units, d_meeting_units, t_period, d_period, t_places, d_places, t_relative_period, d_relative_period, ↓reduceIte, foldI, foldP, cop_ne00, cop_eq00, Int.reduceSub, Int.reduceNeg, Int.reduceAdd, Int.reduceMul, Int.reduceToNat, b_law_2l_0, b_law_2l_1, e1]
    refine lc_rgf (p := fun d => decide (d * (bd bs i).2 % u = 0)) (g := PyData.int) (fun j j0 j1 k hk => ?_) ?_
    · try simp (maxSteps := 2000000) (disch := first | assumption | omega) only [↓e_var, ↓e_ci, ↓e_cs, ↓e_cb, ↓e_cn, ↓e_gc, ↓e_bin, ↓e_neg, ↓e_inot, ↓e_cmp, ↓e_chain, ↓e_isN, ↓e_notN, ↓e_isB, ↓e_notB, ↓e_bool, ↓e_ife, ↓e_ix, ↓e_slc, ↓e_tup, ↓e_lst, ↓e_call, ↓e_bi, ↓e_mth, ↓e_lc, ↓e_isi, ↓e_srtSet, ↓e_lenSet, ↓e_lstRg, ↓e_lstRg3, ↓es_nil, ↓es_cons, ↓eb_one, ↓eb_and, ↓eb_or, ↓eo_none, ↓eo_some, ↓ec_none, ↓ec_some, ↓ei_list, ↓ei_tup, ↓ei_rg1, ↓ei_rg2, ↓ei_rg3, ↓ei_zip, ↓s_asgt, ↓s_asg, ↓s_own, ↓s_asgT, ↓s_par, ↓s_expr, ↓s_app, ↓s_setix, ↓s_augix, ↓s_iadd, ↓s_rem, ↓s_ret, ↓s_ifs, ↓s_fors, ↓s_whil, ↓s_raise, ↓s_shut, ↓ss_nil, ↓ss_cons, ↓sf_nil, ↓sf_cons, ↓mustF_s, mustF_s, ↓boolF_b, boolF_b, ↓intF_i, intF_i, ↓listF_l, listF_l, ↓listF_p, listF_p, ↓listF_i, listF_i, ↓tupF_t, tupF_t, ↓atV_d, atV_d, ↓atV_o, atV_o, ↓atO_o, atO_o, ↓cnd_t, cnd_t, ↓cnd_f, cnd_f, ↓bindF_1, bindF_1, ↓bindF_2, bindF_2, ↓bindF_p, bindF_p, ↓runs, runs, start, getS, setS, blank, blank1, List.map_cons, List.map_nil, List.length_cons, List.length_nil, List.cons_append, List.nil_append, List.replicate, Nat.sub_self, cop_lt, cop_le, cop_gt, cop_ge, bop_add, bop_sub, bop_mod, bop_fdiv, bop_mul, ixOp_t0, ixOp_t1, ixOp_l, bsem_lenl, bsem_lent, gcv_u, gcv_d, isiD_i, isiD_b, isTok_i, isTok_b, isTok_n, isTok_t, isTok_l, isTok_s, and_true, true_and, Bool.false_eq_true, Bool.true_eq_false, Bool.not_true, Bool.not_false, Bool.not_not, noList_i, noList_b, noList_n, noList_t, plain_n, plain_c, lenlim, Nat.reduceAdd, Nat.reduceSub, isNon_n, isNon_i, isNon_b, isNon_t, isNon_l, isNon_s, ite_self, not_true_eq_false, not_false_eq_true, implies_true, false_and, and_false, decide_true, decide_false, decide_not, ixOp_s0, ixOp_s1, ixOp_p, ixOp_p0, ixOp_p1, ixOp_i, bsem_lenp, bsem_leni, isTok_sky, isTok_ps, isTok_is, isTok_p, noList_p, cop_eqi, cop_nei, bsem_max2, bsem_min2, ge0, d_is_int_i, toNat_nat, rangeD_len, eq_self, cop_eqil, cop_neil, cop_eqps, cop_neps, cop_eqp, cop_nep, Bool.and_true, Bool.true_and, big1, big2, cop_eqi0, cop_nei0, cop_eqp0, cop_nep0, bop_addps, bop_addis, bsem_maxl, bsem_minl, mtTy_index, msem_index, d_lpick2, d_lpick3, t_body_period, d_body_period, t_ever_at, d_ever_at, t_lat, d_lat, t_ldraw, d_ldraw, t_lrelative, d_lrelative, t_lsky, d_lsky, t_lsome, d_lsome, t_meeting_units, d_meeting_units, t_period, d_period, t_places, d_places, t_relative_period, d_relative_period, ↓reduceIte, foldI, foldP, cop_ne00, cop_eq00, Int.reduceSub, Int.reduceNeg, Int.reduceAdd, Int.reduceMul, Int.reduceToNat]
      exact ite_k hk
    obtain ⟨f1, f2⟩ := first_div (p := fun d => decide (d * (bd bs i).2 % u = 0)) (rnd_pos (r := (bd bs i).2) hu) (rnd_le hu) fun d => by
      rw [rnd_dvd hu, decide_eq_true_eq, Int.dvd_iff_emod_eq_zero]
    try simp (maxSteps := 2000000) (disch := first | assumption | omega) only [↓e_var, ↓e_ci, ↓e_cs, ↓e_cb, ↓e_cn, ↓e_gc, ↓e_bin, ↓e_neg, ↓e_inot, ↓e_cmp, ↓e_chain, ↓e_isN, ↓e_notN, ↓e_isB, ↓e_notB, ↓e_bool, ↓e_ife, ↓e_ix, ↓e_slc, ↓e_tup, ↓e_lst, ↓e_call, ↓e_bi, ↓e_mth, ↓e_lc, ↓e_isi, ↓e_srtSet, ↓e_lenSet, ↓e_lstRg, ↓e_lstRg3, ↓es_nil, ↓es_cons, ↓eb_one, ↓eb_and, ↓eb_or, ↓eo_none, ↓eo_some, ↓ec_none, ↓ec_some, ↓ei_list, ↓ei_tup, ↓ei_rg1, ↓ei_rg2, ↓ei_rg3, ↓ei_zip, ↓s_asgt, ↓s_asg, ↓s_own, ↓s_asgT, ↓s_par, ↓s_expr, ↓s_app, ↓s_setix, ↓s_augix, ↓s_iadd, ↓s_rem, ↓s_ret, ↓s_ifs, ↓s_fors, ↓s_whil, ↓s_raise, ↓s_shut, ↓ss_nil, ↓ss_cons, ↓sf_nil, ↓sf_cons, ↓mustF_s, mustF_s, ↓boolF_b, boolF_b, ↓intF_i, intF_i, ↓listF_l, listF_l, ↓listF_p, listF_p, ↓listF_i, listF_i, ↓tupF_t, tupF_t, ↓atV_d, atV_d, ↓atV_o, atV_o, ↓atO_o, atO_o, ↓cnd_t, cnd_t, ↓cnd_f, cnd_f, ↓bindF_1, bindF_1, ↓bindF_2, bindF_2, ↓bindF_p, bindF_p, ↓runs, runs, start, getS, setS, blank, blank1, List.map_cons, List.map_nil, List.length_cons, List.length_nil, List.cons_append, List.nil_append, List.replicate, Nat.sub_self, cop_lt, cop_le, cop_gt, cop_ge, bop_add, bop_sub, bop_mod, bop_fdiv, bop_mul, ixOp_t0, ixOp_t1, ixOp_l, bsem_lenl, bsem_lent, gcv_u, gcv_d, isiD_i, isiD_b, isTok_i, isTok_b, isTok_n, isTok_t, isTok_l, isTok_s, and_true, true_and, Bool.false_eq_true, Bool.true_eq_false, Bool.not_true, Bool.not_false, Bool.not_not, noList_i, noList_b, noList_n, noList_t, plain_n, plain_c, lenlim, Nat.reduceAdd, Nat.reduceSub, isNon_n, isNon_i, isNon_b, isNon_t, isNon_l, isNon_s, ite_self, not_true_eq_false, not_false_eq_true, implies_true, false_and, and_false, decide_true, decide_false, decide_not, ixOp_s0, ixOp_s1, ixOp_p, ixOp_p0, ixOp_p1, ixOp_i, bsem_lenp, bsem_leni, isTok_sky, isTok_ps, isTok_is, isTok_p, noList_p, cop_eqi, cop_nei, bsem_max2, bsem_min2, ge0, d_is_int_i, toNat_nat, rangeD_len, eq_self, cop_eqil, cop_neil, cop_eqps, cop_neps, cop_eqp, cop_nep, Bool.and_true, Bool.true_and, big1, big2, cop_eqi0, cop_nei0, cop_eqp0, cop_nep0, bop_addps, bop_addis, bsem_maxl, bsem_minl, mtTy_index, msem_index, d_lpick2, d_lpick3, t_body_period, d_body_period, t_ever_at, d_ever_at, t_lat, d_lat, t_ldraw, d_ldraw, t_lrelative, d_lrelative, t_lsky, d_lsky, t_lsome, d_lsome, t_meeting_units, d_meeting_units, t_period, d_period, t_places, d_places, t_relative_period, d_relative_period, ↓reduceIte, foldI, foldP, cop_ne00, cop_eq00, Int.reduceSub, Int.reduceNeg, Int.reduceAdd, Int.reduceMul, Int.reduceToNat]
    generalize (rngl 1 u.toNat).filter (fun d => decide (d * (bd bs i).2 % u = 0)) = L at *
    try simp (maxSteps := 2000000) (disch := first | assumption | omega) only [↓e_var, ↓e_ci, ↓e_cs, ↓e_cb, ↓e_cn, ↓e_gc, ↓e_bin, ↓e_neg, ↓e_inot, ↓e_cmp, ↓e_chain, ↓e_isN, ↓e_notN, ↓e_isB, ↓e_notB, ↓e_bool, ↓e_ife, ↓e_ix, ↓e_slc, ↓e_tup, ↓e_lst, ↓e_call, ↓e_bi, ↓e_mth, ↓e_lc, ↓e_isi, ↓e_srtSet, ↓e_lenSet, ↓e_lstRg, ↓e_lstRg3, ↓es_nil, ↓es_cons, ↓eb_one, ↓eb_and, ↓eb_or, ↓eo_none, ↓eo_some, ↓ec_none, ↓ec_some, ↓ei_list, ↓ei_tup, ↓ei_rg1, ↓ei_rg2, ↓ei_rg3, ↓ei_zip, ↓s_asgt, ↓s_asg, ↓s_own, ↓s_asgT, ↓s_par, ↓s_expr, ↓s_app, ↓s_setix, ↓s_augix, ↓s_iadd, ↓s_rem, ↓s_ret, ↓s_ifs, ↓s_fors, ↓s_whil, ↓s_raise, ↓s_shut, ↓ss_nil, ↓ss_cons, ↓sf_nil, ↓sf_cons, ↓mustF_s, mustF_s, ↓boolF_b, boolF_b, ↓intF_i, intF_i, ↓listF_l, listF_l, ↓listF_p, listF_p, ↓listF_i, listF_i, ↓tupF_t, tupF_t, ↓atV_d, atV_d, ↓atV_o, atV_o, ↓atO_o, atO_o, ↓cnd_t, cnd_t, ↓cnd_f, cnd_f, ↓bindF_1, bindF_1, ↓bindF_2, bindF_2, ↓bindF_p, bindF_p, ↓runs, runs, start, getS, setS, blank, blank1, List.map_cons, List.map_nil, List.length_cons, List.length_nil, List.cons_append, List.nil_append, List.replicate, Nat.sub_self, cop_lt, cop_le, cop_gt, cop_ge, bop_add, bop_sub, bop_mod, bop_fdiv, bop_mul, ixOp_t0, ixOp_t1, ixOp_l, bsem_lenl, bsem_lent, gcv_u, gcv_d, isiD_i, isiD_b, isTok_i, isTok_b, isTok_n, isTok_t, isTok_l, isTok_s, and_true, true_and, Bool.false_eq_true, Bool.true_eq_false, Bool.not_true, Bool.not_false, Bool.not_not, noList_i, noList_b, noList_n, noList_t, plain_n, plain_c, lenlim, Nat.reduceAdd, Nat.reduceSub, isNon_n, isNon_i, isNon_b, isNon_t, isNon_l, isNon_s, ite_self, not_true_eq_false, not_false_eq_true, implies_true, false_and, and_false, decide_true, decide_false, decide_not, ixOp_s0, ixOp_s1, ixOp_p, ixOp_p0, ixOp_p1, ixOp_i, bsem_lenp, bsem_leni, isTok_sky, isTok_ps, isTok_is, isTok_p, noList_p, cop_eqi, cop_nei, bsem_max2, bsem_min2, ge0, d_is_int_i, toNat_nat, rangeD_len, eq_self, cop_eqil, cop_neil, cop_eqps, cop_neps, cop_eqp, cop_nep, Bool.and_true, Bool.true_and, big1, big2, cop_eqi0, cop_nei0, cop_eqp0, cop_nep0, bop_addps, bop_addis, bsem_maxl, bsem_minl, mtTy_index, msem_index, d_lpick2, d_lpick3, t_body_period, d_body_period, t_ever_at, d_ever_at, t_lat, d_lat, t_ldraw, d_ldraw, t_lrelative, d_lrelative, t_lsky, d_lsky, t_lsome, d_lsome, t_meeting_units, d_meeting_units, t_period, d_period, t_places, d_places, t_relative_period, d_relative_period, ↓reduceIte, foldI, foldP, cop_ne00, cop_eq00, Int.reduceSub, Int.reduceNeg, Int.reduceAdd, Int.reduceMul, Int.reduceToNat, b_law_2l_2, f1]
    exact hk _ _ _ _
  obtain ⟨s5, s6, s7, s8, rfl⟩ := hG
  try simp (maxSteps := 2000000) (disch := first | assumption | omega) only [↓e_var, ↓e_ci, ↓e_cs, ↓e_cb, ↓e_cn, ↓e_gc, ↓e_bin, ↓e_neg, ↓e_inot, ↓e_cmp, ↓e_chain, ↓e_isN, ↓e_notN, ↓e_isB, ↓e_notB, ↓e_bool, ↓e_ife, ↓e_ix, ↓e_slc, ↓e_tup, ↓e_lst, ↓e_call, ↓e_bi, ↓e_mth, ↓e_lc, ↓e_isi, ↓e_srtSet, ↓e_lenSet, ↓e_lstRg, ↓e_lstRg3, ↓es_nil, ↓es_cons, ↓eb_one, ↓eb_and, ↓eb_or, ↓eo_none, ↓eo_some, ↓ec_none, ↓ec_some, ↓ei_list, ↓ei_tup, ↓ei_rg1, ↓ei_rg2, ↓ei_rg3, ↓ei_zip, ↓s_asgt, ↓s_asg, ↓s_own, ↓s_asgT, ↓s_par, ↓s_expr, ↓s_app, ↓s_setix, ↓s_augix, ↓s_iadd, ↓s_rem, ↓s_ret, ↓s_ifs, ↓s_fors, ↓s_whil, ↓s_raise, ↓s_shut, ↓ss_nil, ↓ss_cons, ↓sf_nil, ↓sf_cons, ↓mustF_s, mustF_s, ↓boolF_b, boolF_b, ↓intF_i, intF_i, ↓listF_l, listF_l, ↓listF_p, listF_p, ↓listF_i, listF_i, ↓tupF_t, tupF_t, ↓atV_d, atV_d, ↓atV_o, atV_o, ↓atO_o, atO_o, ↓cnd_t, cnd_t, ↓cnd_f, cnd_f, ↓bindF_1, bindF_1, ↓bindF_2, bindF_2, ↓bindF_p, bindF_p, ↓runs, runs, start, getS, setS, blank, blank1, List.map_cons, List.map_nil, List.length_cons, List.length_nil, List.cons_append, List.nil_append, List.replicate, Nat.sub_self, cop_lt, cop_le, cop_gt, cop_ge, bop_add, bop_sub, bop_mod, bop_fdiv, bop_mul, ixOp_t0, ixOp_t1, ixOp_l, bsem_lenl, bsem_lent, gcv_u, gcv_d, isiD_i, isiD_b, isTok_i, isTok_b, isTok_n, isTok_t, isTok_l, isTok_s, and_true, true_and, Bool.false_eq_true, Bool.true_eq_false, Bool.not_true, Bool.not_false, Bool.not_not, noList_i, noList_b, noList_n, noList_t, plain_n, plain_c, lenlim, Nat.reduceAdd, Nat.reduceSub, isNon_n, isNon_i, isNon_b, isNon_t, isNon_l, isNon_s, ite_self, not_true_eq_false, not_false_eq_true, implies_true, false_and, and_false, decide_true, decide_false, decide_not, ixOp_s0, ixOp_s1, ixOp_p, ixOp_p0, ixOp_p1, ixOp_i, bsem_lenp, bsem_leni, isTok_sky, isTok_ps, isTok_is, isTok_p, noList_p, cop_eqi, cop_nei, bsem_max2, bsem_min2, ge0, d_is_int_i, toNat_nat, rangeD_len, eq_self, cop_eqil, cop_neil, cop_eqps, cop_neps, cop_eqp, cop_nep, Bool.and_true, Bool.true_and, big1, big2, cop_eqi0, cop_nei0, cop_eqp0, cop_nep0, bop_addps, bop_addis, bsem_maxl, bsem_minl, mtTy_index, msem_index, d_lpick2, d_lpick3, t_body_period, d_body_period, t_ever_at, d_ever_at, t_lat, d_lat, t_ldraw, d_ldraw, t_lrelative, d_lrelative, t_lsky, d_lsky, t_lsome, d_lsome, t_meeting_units, d_meeting_units, t_period, d_period, t_places, d_places, t_relative_period, d_relative_period, ↓reduceIte, foldI, foldP, cop_ne00, cop_eq00, Int.reduceSub, Int.reduceNeg, Int.reduceAdd, Int.reduceMul, Int.reduceToNat, b_law_3, e1]
  refine lc_rgf (p := fun d => decide ((rngl 0 bs.length).filter (fun b => !decide (d * (bd bs b).2 % u = 0)) = [])) (g := PyData.int) (fun j j0 j1 k hk => ?_) ?_
  · try simp (maxSteps := 2000000) (disch := first | assumption | omega) only [↓e_var, ↓e_ci, ↓e_cs, ↓e_cb, ↓e_cn, ↓e_gc, ↓e_bin, ↓e_neg, ↓e_inot, ↓e_cmp, ↓e_chain, ↓e_isN, ↓e_notN, ↓e_isB, ↓e_notB, ↓e_bool, ↓e_ife, ↓e_ix, ↓e_slc, ↓e_tup, ↓e_lst, ↓e_call, ↓e_bi, ↓e_mth, ↓e_lc, ↓e_isi, ↓e_srtSet, ↓e_lenSet, ↓e_lstRg, ↓e_lstRg3, ↓es_nil, ↓es_cons, ↓eb_one, ↓eb_and, ↓eb_or, ↓eo_none, ↓eo_some, ↓ec_none, ↓ec_some, ↓ei_list, ↓ei_tup, ↓ei_rg1, ↓ei_rg2, ↓ei_rg3, ↓ei_zip, ↓s_asgt, ↓s_asg, ↓s_own, ↓s_asgT, ↓s_par, ↓s_expr, ↓s_app, ↓s_setix, ↓s_augix, ↓s_iadd, ↓s_rem, ↓s_ret, ↓s_ifs, ↓s_fors, ↓s_whil, ↓s_raise, ↓s_shut, ↓ss_nil, ↓ss_cons, ↓sf_nil, ↓sf_cons, ↓mustF_s, mustF_s, ↓boolF_b, boolF_b, ↓intF_i, intF_i, ↓listF_l, listF_l, ↓listF_p, listF_p, ↓listF_i, listF_i, ↓tupF_t, tupF_t, ↓atV_d, atV_d, ↓atV_o, atV_o, ↓atO_o, atO_o, ↓cnd_t, cnd_t, ↓cnd_f, cnd_f, ↓bindF_1, bindF_1, ↓bindF_2, bindF_2, ↓bindF_p, bindF_p, ↓runs, runs, start, getS, setS, blank, blank1, List.map_cons, List.map_nil, List.length_cons, List.length_nil, List.cons_append, List.nil_append, List.replicate, Nat.sub_self, cop_lt, cop_le, cop_gt, cop_ge, bop_add, bop_sub, bop_mod, bop_fdiv, bop_mul, ixOp_t0, ixOp_t1, ixOp_l, bsem_lenl, bsem_lent, gcv_u, gcv_d, isiD_i, isiD_b, isTok_i, isTok_b, isTok_n, isTok_t, isTok_l, isTok_s, and_true, true_and, Bool.false_eq_true, Bool.true_eq_false, Bool.not_true, Bool.not_false, Bool.not_not, noList_i, noList_b, noList_n, noList_t, plain_n, plain_c, lenlim, Nat.reduceAdd, Nat.reduceSub, isNon_n, isNon_i, isNon_b, isNon_t, isNon_l, isNon_s, ite_self, not_true_eq_false, not_false_eq_true, implies_true, false_and, and_false, decide_true, decide_false, decide_not, ixOp_s0, ixOp_s1, ixOp_p, ixOp_p0, ixOp_p1, ixOp_i, bsem_lenp, bsem_leni, isTok_sky, isTok_ps, isTok_is, isTok_p, noList_p, cop_eqi, cop_nei, bsem_max2, bsem_min2, ge0, d_is_int_i, toNat_nat, rangeD_len, eq_self, cop_eqil, cop_neil, cop_eqps, cop_neps, cop_eqp, cop_nep, Bool.and_true, Bool.true_and, big1, big2, cop_eqi0, cop_nei0, cop_eqp0, cop_nep0, bop_addps, bop_addis, bsem_maxl, bsem_minl, mtTy_index, msem_index, d_lpick2, d_lpick3, t_body_period, d_body_period, t_ever_at, d_ever_at, t_lat, d_lat, t_ldraw, d_ldraw, t_lrelative, d_lrelative, t_lsky, d_lsky, t_lsome, d_lsome, t_meeting_units, d_meeting_units, t_period, d_period, t_places, d_places, t_relative_period, d_relative_period, ↓reduceIte, foldI, foldP, cop_ne00, cop_eq00, Int.reduceSub, Int.reduceNeg, Int.reduceAdd, Int.reduceMul, Int.reduceToNat]
    refine lc_rgf (p := fun b => !decide (j * (bd bs b).2 % u = 0)) (g := PyData.int) (fun b b0 b1 k hk => ?_) ?_
    · try simp (maxSteps := 2000000) (disch := first | assumption | omega) only [↓e_var, ↓e_ci, ↓e_cs, ↓e_cb, ↓e_cn, ↓e_gc, ↓e_bin, ↓e_neg, ↓e_inot, ↓e_cmp, ↓e_chain, ↓e_isN, ↓e_notN, ↓e_isB, ↓e_notB, ↓e_bool, ↓e_ife, ↓e_ix, ↓e_slc, ↓e_tup, ↓e_lst, ↓e_call, ↓e_bi, ↓e_mth, ↓e_lc, ↓e_isi, ↓e_srtSet, ↓e_lenSet, ↓e_lstRg, ↓e_lstRg3, ↓es_nil, ↓es_cons, ↓eb_one, ↓eb_and, ↓eb_or, ↓eo_none, ↓eo_some, ↓ec_none, ↓ec_some, ↓ei_list, ↓ei_tup, ↓ei_rg1, ↓ei_rg2, ↓ei_rg3, ↓ei_zip, ↓s_asgt, ↓s_asg, ↓s_own, ↓s_asgT, ↓s_par, ↓s_expr, ↓s_app, ↓s_setix, ↓s_augix, ↓s_iadd, ↓s_rem, ↓s_ret, ↓s_ifs, ↓s_fors, ↓s_whil, ↓s_raise, ↓s_shut, ↓ss_nil, ↓ss_cons, ↓sf_nil, ↓sf_cons, ↓mustF_s, mustF_s, ↓boolF_b, boolF_b, ↓intF_i, intF_i, ↓listF_l, listF_l, ↓listF_p, listF_p, ↓listF_i, listF_i, ↓tupF_t, tupF_t, ↓atV_d, atV_d, ↓atV_o, atV_o, ↓atO_o, atO_o, ↓cnd_t, cnd_t, ↓cnd_f, cnd_f, ↓bindF_1, bindF_1, ↓bindF_2, bindF_2, ↓bindF_p, bindF_p, ↓runs, runs, start, getS, setS, blank, blank1, List.map_cons, List.map_nil, List.length_cons, List.length_nil, List.cons_append, List.nil_append, List.replicate, Nat.sub_self, cop_lt, cop_le, cop_gt, cop_ge, bop_add, bop_sub, bop_mod, bop_fdiv, bop_mul, ixOp_t0, ixOp_t1, ixOp_l, bsem_lenl, bsem_lent, gcv_u, gcv_d, isiD_i, isiD_b, isTok_i, isTok_b, isTok_n, isTok_t, isTok_l, isTok_s, and_true, true_and, Bool.false_eq_true, Bool.true_eq_false, Bool.not_true, Bool.not_false, Bool.not_not, noList_i, noList_b, noList_n, noList_t, plain_n, plain_c, lenlim, Nat.reduceAdd, Nat.reduceSub, isNon_n, isNon_i, isNon_b, isNon_t, isNon_l, isNon_s, ite_self, not_true_eq_false, not_false_eq_true, implies_true, false_and, and_false, decide_true, decide_false, decide_not, ixOp_s0, ixOp_s1, ixOp_p, ixOp_p0, ixOp_p1, ixOp_i, bsem_lenp, bsem_leni, isTok_sky, isTok_ps, isTok_is, isTok_p, noList_p, cop_eqi, cop_nei, bsem_max2, bsem_min2, ge0, d_is_int_i, toNat_nat, rangeD_len, eq_self, cop_eqil, cop_neil, cop_eqps, cop_neps, cop_eqp, cop_nep, Bool.and_true, Bool.true_and, big1, big2, cop_eqi0, cop_nei0, cop_eqp0, cop_nep0, bop_addps, bop_addis, bsem_maxl, bsem_minl, mtTy_index, msem_index, d_lpick2, d_lpick3, t_body_period, d_body_period, t_ever_at, d_ever_at, t_lat, d_lat, t_ldraw, d_ldraw, t_lrelative, d_lrelative, t_lsky, d_lsky, t_lsome, d_lsome, t_meeting_units, d_meeting_units, t_period, d_period, t_places, d_places, t_relative_period, d_relative_period, ↓reduceIte, foldI, foldP, cop_ne00, cop_eq00, Int.reduceSub, Int.reduceNeg, Int.reduceAdd, Int.reduceMul, Int.reduceToNat]
      exact ite_k hk
    try simp (maxSteps := 2000000) (disch := first | assumption | omega) only [↓e_var, ↓e_ci, ↓e_cs, ↓e_cb, ↓e_cn, ↓e_gc, ↓e_bin, ↓e_neg, ↓e_inot, ↓e_cmp, ↓e_chain, ↓e_isN, ↓e_notN, ↓e_isB, ↓e_notB, ↓e_bool, ↓e_ife, ↓e_ix, ↓e_slc, ↓e_tup, ↓e_lst, ↓e_call, ↓e_bi, ↓e_mth, ↓e_lc, ↓e_isi, ↓e_srtSet, ↓e_lenSet, ↓e_lstRg, ↓e_lstRg3, ↓es_nil, ↓es_cons, ↓eb_one, ↓eb_and, ↓eb_or, ↓eo_none, ↓eo_some, ↓ec_none, ↓ec_some, ↓ei_list, ↓ei_tup, ↓ei_rg1, ↓ei_rg2, ↓ei_rg3, ↓ei_zip, ↓s_asgt, ↓s_asg, ↓s_own, ↓s_asgT, ↓s_par, ↓s_expr, ↓s_app, ↓s_setix, ↓s_augix, ↓s_iadd, ↓s_rem, ↓s_ret, ↓s_ifs, ↓s_fors, ↓s_whil, ↓s_raise, ↓s_shut, ↓ss_nil, ↓ss_cons, ↓sf_nil, ↓sf_cons, ↓mustF_s, mustF_s, ↓boolF_b, boolF_b, ↓intF_i, intF_i, ↓listF_l, listF_l, ↓listF_p, listF_p, ↓listF_i, listF_i, ↓tupF_t, tupF_t, ↓atV_d, atV_d, ↓atV_o, atV_o, ↓atO_o, atO_o, ↓cnd_t, cnd_t, ↓cnd_f, cnd_f, ↓bindF_1, bindF_1, ↓bindF_2, bindF_2, ↓bindF_p, bindF_p, ↓runs, runs, start, getS, setS, blank, blank1, List.map_cons, List.map_nil, List.length_cons, List.length_nil, List.cons_append, List.nil_append, List.replicate, Nat.sub_self, cop_lt, cop_le, cop_gt, cop_ge, bop_add, bop_sub, bop_mod, bop_fdiv, bop_mul, ixOp_t0, ixOp_t1, ixOp_l, bsem_lenl, bsem_lent, gcv_u, gcv_d, isiD_i, isiD_b, isTok_i, isTok_b, isTok_n, isTok_t, isTok_l, isTok_s, and_true, true_and, Bool.false_eq_true, Bool.true_eq_false, Bool.not_true, Bool.not_false, Bool.not_not, noList_i, noList_b, noList_n, noList_t, plain_n, plain_c, lenlim, Nat.reduceAdd, Nat.reduceSub, isNon_n, isNon_i, isNon_b, isNon_t, isNon_l, isNon_s, ite_self, not_true_eq_false, not_false_eq_true, implies_true, false_and, and_false, decide_true, decide_false, decide_not, ixOp_s0, ixOp_s1, ixOp_p, ixOp_p0, ixOp_p1, ixOp_i, bsem_lenp, bsem_leni, isTok_sky, isTok_ps, isTok_is, isTok_p, noList_p, cop_eqi, cop_nei, bsem_max2, bsem_min2, ge0, d_is_int_i, toNat_nat, rangeD_len, eq_self, cop_eqil, cop_neil, cop_eqps, cop_neps, cop_eqp, cop_nep, Bool.and_true, Bool.true_and, big1, big2, cop_eqi0, cop_nei0, cop_eqp0, cop_nep0, bop_addps, bop_addis, bsem_maxl, bsem_minl, mtTy_index, msem_index, d_lpick2, d_lpick3, t_body_period, d_body_period, t_ever_at, d_ever_at, t_lat, d_lat, t_ldraw, d_ldraw, t_lrelative, d_lrelative, t_lsky, d_lsky, t_lsome, d_lsome, t_meeting_units, d_meeting_units, t_period, d_period, t_places, d_places, t_relative_period, d_relative_period, ↓reduceIte, foldI, foldP, cop_ne00, cop_eq00, Int.reduceSub, Int.reduceNeg, Int.reduceAdd, Int.reduceMul, Int.reduceToNat]
    exact ite_k hk
  obtain ⟨f1, f2⟩ := first_div (p := fun d => decide ((rngl 0 bs.length).filter (fun b => !decide (d * (bd bs b).2 % u = 0)) = [])) p0 p1 fun d => by
    unfold prd
    rw [per_dvd hu, decide_eq_true_eq, List.filter_eq_nil_iff]
    constructor
    · intro h r hr
      obtain ⟨b, hb, rfl⟩ := List.mem_map.mp hr
      obtain ⟨i, hi, rfl⟩ := List.mem_iff_getElem.mp hb
      have := h (i : Int) (mem_rngl.mpr ⟨by omega, by omega⟩)
      have e : bd bs (i : Int) = bs[i] := by
        unfold bd
        rw [List.getD_eq_getElem?_getD, show ((i : Int)).toNat = i by omega, List.getElem?_eq_getElem hi]
        rfl
      rw [e] at this
      rw [Int.dvd_iff_emod_eq_zero]
      simpa using this
    · intro h b hb
      have h1 := mem_rngl.mp hb
      have := Int.dvd_iff_emod_eq_zero.mp (h _ (List.mem_map.mpr ⟨_, bd_mem (i := b) (by omega) (by omega), rfl⟩))
      simp [this]
  try simp (maxSteps := 2000000) (disch := first | assumption | omega) only [↓e_var, ↓e_ci, ↓e_cs, ↓e_cb, ↓e_cn, ↓e_gc, ↓e_bin, ↓e_neg, ↓e_inot, ↓e_cmp, ↓e_chain, ↓e_isN, ↓e_notN, ↓e_isB, ↓e_notB, ↓e_bool, ↓e_ife, ↓e_ix, ↓e_slc, ↓e_tup, ↓e_lst, ↓e_call, ↓e_bi, ↓e_mth, ↓e_lc, ↓e_isi, ↓e_srtSet, ↓e_lenSet, ↓e_lstRg, ↓e_lstRg3, ↓es_nil, ↓es_cons, ↓eb_one, ↓eb_and, ↓eb_or, ↓eo_none, ↓eo_some, ↓ec_none, ↓ec_some, ↓ei_list, ↓ei_tup, ↓ei_rg1, ↓ei_rg2, ↓ei_rg3, ↓ei_zip, ↓s_asgt, ↓s_asg, ↓s_own, ↓s_asgT, ↓s_par, ↓s_expr, ↓s_app, ↓s_setix, ↓s_augix, ↓s_iadd, ↓s_rem, ↓s_ret, ↓s_ifs, ↓s_fors, ↓s_whil, ↓s_raise, ↓s_shut, ↓ss_nil, ↓ss_cons, ↓sf_nil, ↓sf_cons, ↓mustF_s, mustF_s, ↓boolF_b, boolF_b, ↓intF_i, intF_i, ↓listF_l, listF_l, ↓listF_p, listF_p, ↓listF_i, listF_i, ↓tupF_t, tupF_t, ↓atV_d, atV_d, ↓atV_o, atV_o, ↓atO_o, atO_o, ↓cnd_t, cnd_t, ↓cnd_f, cnd_f, ↓bindF_1, bindF_1, ↓bindF_2, bindF_2, ↓bindF_p, bindF_p, ↓runs, runs, start, getS, setS, blank, blank1, List.map_cons, List.map_nil, List.length_cons, List.length_nil, List.cons_append, List.nil_append, List.replicate, Nat.sub_self, cop_lt, cop_le, cop_gt, cop_ge, bop_add, bop_sub, bop_mod, bop_fdiv, bop_mul, ixOp_t0, ixOp_t1, ixOp_l, bsem_lenl, bsem_lent, gcv_u, gcv_d, isiD_i, isiD_b, isTok_i, isTok_b, isTok_n, isTok_t, isTok_l, isTok_s, and_true, true_and, Bool.false_eq_true, Bool.true_eq_false, Bool.not_true, Bool.not_false, Bool.not_not, noList_i, noList_b, noList_n, noList_t, plain_n, plain_c, lenlim, Nat.reduceAdd, Nat.reduceSub, isNon_n, isNon_i, isNon_b, isNon_t, isNon_l, isNon_s, ite_self, not_true_eq_false, not_false_eq_true, implies_true, false_and, and_false, decide_true, decide_false, decide_not, ixOp_s0, ixOp_s1, ixOp_p, ixOp_p0, ixOp_p1, ixOp_i, bsem_lenp, bsem_leni, isTok_sky, isTok_ps, isTok_is, isTok_p, noList_p, cop_eqi, cop_nei, bsem_max2, bsem_min2, ge0, d_is_int_i, toNat_nat, rangeD_len, eq_self, cop_eqil, cop_neil, cop_eqps, cop_neps, cop_eqp, cop_nep, Bool.and_true, Bool.true_and, big1, big2, cop_eqi0, cop_nei0, cop_eqp0, cop_nep0, bop_addps, bop_addis, bsem_maxl, bsem_minl, mtTy_index, msem_index, d_lpick2, d_lpick3, t_body_period, d_body_period, t_ever_at, d_ever_at, t_lat, d_lat, t_ldraw, d_ldraw, t_lrelative, d_lrelative, t_lsky, d_lsky, t_lsome, d_lsome, t_meeting_units, d_meeting_units, t_period, d_period, t_places, d_places, t_relative_period, d_relative_period, ↓reduceIte, foldI, foldP, cop_ne00, cop_eq00, Int.reduceSub, Int.reduceNeg, Int.reduceAdd, Int.reduceMul, Int.reduceToNat]
  generalize (rngl 1 u.toNat).filter (fun d => decide ((rngl 0 bs.length).filter (fun b => !decide (d * (bd bs b).2 % u = 0)) = [])) = L at *
  have pu : u % prd u bs = 0 := Int.dvd_iff_emod_eq_zero.mp (per_units hu)
  try simp (maxSteps := 2000000) (disch := first | assumption | omega) only [↓e_var, ↓e_ci, ↓e_cs, ↓e_cb, ↓e_cn, ↓e_gc, ↓e_bin, ↓e_neg, ↓e_inot, ↓e_cmp, ↓e_chain, ↓e_isN, ↓e_notN, ↓e_isB, ↓e_notB, ↓e_bool, ↓e_ife, ↓e_ix, ↓e_slc, ↓e_tup, ↓e_lst, ↓e_call, ↓e_bi, ↓e_mth, ↓e_lc, ↓e_isi, ↓e_srtSet, ↓e_lenSet, ↓e_lstRg, ↓e_lstRg3, ↓es_nil, ↓es_cons, ↓eb_one, ↓eb_and, ↓eb_or, ↓eo_none, ↓eo_some, ↓ec_none, ↓ec_some, ↓ei_list, ↓ei_tup, ↓ei_rg1, ↓ei_rg2, ↓ei_rg3, ↓ei_zip, ↓s_asgt, ↓s_asg, ↓s_own, ↓s_asgT, ↓s_par, ↓s_expr, ↓s_app, ↓s_setix, ↓s_augix, ↓s_iadd, ↓s_rem, ↓s_ret, ↓s_ifs, ↓s_fors, ↓s_whil, ↓s_raise, ↓s_shut, ↓ss_nil, ↓ss_cons, ↓sf_nil, ↓sf_cons, ↓mustF_s, mustF_s, ↓boolF_b, boolF_b, ↓intF_i, intF_i, ↓listF_l, listF_l, ↓listF_p, listF_p, ↓listF_i, listF_i, ↓tupF_t, tupF_t, ↓atV_d, atV_d, ↓atV_o, atV_o, ↓atO_o, atO_o, ↓cnd_t, cnd_t, ↓cnd_f, cnd_f, ↓bindF_1, bindF_1, ↓bindF_2, bindF_2, ↓bindF_p, bindF_p, ↓runs, runs, start, getS, setS, blank, blank1, List.map_cons, List.map_nil, List.length_cons, List.length_nil, List.cons_append, List.nil_append, List.replicate, Nat.sub_self, cop_lt, cop_le, cop_gt, cop_ge, bop_add, bop_sub, bop_mod, bop_fdiv, bop_mul, ixOp_t0, ixOp_t1, ixOp_l, bsem_lenl, bsem_lent, gcv_u, gcv_d, isiD_i, isiD_b, isTok_i, isTok_b, isTok_n, isTok_t, isTok_l, isTok_s, and_true, true_and, Bool.false_eq_true, Bool.true_eq_false, Bool.not_true, Bool.not_false, Bool.not_not, noList_i, noList_b, noList_n, noList_t, plain_n, plain_c, lenlim, Nat.reduceAdd, Nat.reduceSub, isNon_n, isNon_i, isNon_b, isNon_t, isNon_l, isNon_s, ite_self, not_true_eq_false, not_false_eq_true, implies_true, false_and, and_false, decide_true, decide_false, decide_not, ixOp_s0, ixOp_s1, ixOp_p, ixOp_p0, ixOp_p1, ixOp_i, bsem_lenp, bsem_leni, isTok_sky, isTok_ps, isTok_is, isTok_p, noList_p, cop_eqi, cop_nei, bsem_max2, bsem_min2, ge0, d_is_int_i, toNat_nat, rangeD_len, eq_self, cop_eqil, cop_neil, cop_eqps, cop_neps, cop_eqp, cop_nep, Bool.and_true, Bool.true_and, big1, big2, cop_eqi0, cop_nei0, cop_eqp0, cop_nep0, bop_addps, bop_addis, bsem_maxl, bsem_minl, mtTy_index, msem_index, d_lpick2, d_lpick3, t_body_period, d_body_period, t_ever_at, d_ever_at, t_lat, d_lat, t_ldraw, d_ldraw, t_lrelative, d_lrelative, t_lsky, d_lsky, t_lsome, d_lsome, t_meeting_units, d_meeting_units, t_period, d_period, t_places, d_places, t_relative_period, d_relative_period, ↓reduceIte, foldI, foldP, cop_ne00, cop_eq00, Int.reduceSub, Int.reduceNeg, Int.reduceAdd, Int.reduceMul, Int.reduceToNat, b_law_4, f1, pu, b_law_5]
  intro l hl
  have r0 := rel_pos (l := l) hs
  have r1 := rel_le (l := l) hs
  have pr : prd u bs % rel u bs l = 0 := by
    refine Int.dvd_iff_emod_eq_zero.mp ((per_dvd hu).mpr fun r hr => ?_)
    obtain ⟨b, hb, rfl⟩ := List.mem_map.mp hr
    rw [dvd_mod, Int.mul_sub]
    have pv : ∀ x : Int, 0 ≤ x → x < bs.length → u ∣ prd u bs * (bd bs x).2 := fun x x0 x1 => per_self hu _ (List.mem_map.mpr ⟨_, bd_mem x0 x1, rfl⟩)
    have h1 := hl.ok b hb
    have h2 := hl.first
    exact Int.dvd_sub (pv _ h1.1 h1.2) (pv _ h2.1 h2.2)
  try simp (maxSteps := 2000000) (disch := first | assumption | omega) only [↓e_var, ↓e_ci, ↓e_cs, ↓e_cb, ↓e_cn, ↓e_gc, ↓e_bin, ↓e_neg, ↓e_inot, ↓e_cmp, ↓e_chain, ↓e_isN, ↓e_notN, ↓e_isB, ↓e_notB, ↓e_bool, ↓e_ife, ↓e_ix, ↓e_slc, ↓e_tup, ↓e_lst, ↓e_call, ↓e_bi, ↓e_mth, ↓e_lc, ↓e_isi, ↓e_srtSet, ↓e_lenSet, ↓e_lstRg, ↓e_lstRg3, ↓es_nil, ↓es_cons, ↓eb_one, ↓eb_and, ↓eb_or, ↓eo_none, ↓eo_some, ↓ec_none, ↓ec_some, ↓ei_list, ↓ei_tup, ↓ei_rg1, ↓ei_rg2, ↓ei_rg3, ↓ei_zip, ↓s_asgt, ↓s_asg, ↓s_own, ↓s_asgT, ↓s_par, ↓s_expr, ↓s_app, ↓s_setix, ↓s_augix, ↓s_iadd, ↓s_rem, ↓s_ret, ↓s_ifs, ↓s_fors, ↓s_whil, ↓s_raise, ↓s_shut, ↓ss_nil, ↓ss_cons, ↓sf_nil, ↓sf_cons, ↓mustF_s, mustF_s, ↓boolF_b, boolF_b, ↓intF_i, intF_i, ↓listF_l, listF_l, ↓listF_p, listF_p, ↓listF_i, listF_i, ↓tupF_t, tupF_t, ↓atV_d, atV_d, ↓atV_o, atV_o, ↓atO_o, atO_o, ↓cnd_t, cnd_t, ↓cnd_f, cnd_f, ↓bindF_1, bindF_1, ↓bindF_2, bindF_2, ↓bindF_p, bindF_p, ↓runs, runs, start, getS, setS, blank, blank1, List.map_cons, List.map_nil, List.length_cons, List.length_nil, List.cons_append, List.nil_append, List.replicate, Nat.sub_self, cop_lt, cop_le, cop_gt, cop_ge, bop_add, bop_sub, bop_mod, bop_fdiv, bop_mul, ixOp_t0, ixOp_t1, ixOp_l, bsem_lenl, bsem_lent, gcv_u, gcv_d, isiD_i, isiD_b, isTok_i, isTok_b, isTok_n, isTok_t, isTok_l, isTok_s, and_true, true_and, Bool.false_eq_true, Bool.true_eq_false, Bool.not_true, Bool.not_false, Bool.not_not, noList_i, noList_b, noList_n, noList_t, plain_n, plain_c, lenlim, Nat.reduceAdd, Nat.reduceSub, isNon_n, isNon_i, isNon_b, isNon_t, isNon_l, isNon_s, ite_self, not_true_eq_false, not_false_eq_true, implies_true, false_and, and_false, decide_true, decide_false, decide_not, ixOp_s0, ixOp_s1, ixOp_p, ixOp_p0, ixOp_p1, ixOp_i, bsem_lenp, bsem_leni, isTok_sky, isTok_ps, isTok_is, isTok_p, noList_p, cop_eqi, cop_nei, bsem_max2, bsem_min2, ge0, d_is_int_i, toNat_nat, rangeD_len, eq_self, cop_eqil, cop_neil, cop_eqps, cop_neps, cop_eqp, cop_nep, Bool.and_true, Bool.true_and, big1, big2, cop_eqi0, cop_nei0, cop_eqp0, cop_nep0, bop_addps, bop_addis, bsem_maxl, bsem_minl, mtTy_index, msem_index, d_lpick2, d_lpick3, t_body_period, d_body_period, t_ever_at, d_ever_at, t_lat, d_lat, t_ldraw, d_ldraw, t_lrelative, d_lrelative, t_lsky, d_lsky, t_lsome, d_lsome, t_meeting_units, d_meeting_units, t_period, d_period, t_places, d_places, t_relative_period, d_relative_period, ↓reduceIte, foldI, foldP, cop_ne00, cop_eq00, Int.reduceSub, Int.reduceNeg, Int.reduceAdd, Int.reduceMul, Int.reduceToNat, b_law_6, pr, b_law_7]
  intro x x0 x1
  try simp (maxSteps := 2000000) (disch := first | assumption | omega) only [↓e_var, ↓e_ci, ↓e_cs, ↓e_cb, ↓e_cn, ↓e_gc, ↓e_bin, ↓e_neg, ↓e_inot, ↓e_cmp, ↓e_chain, ↓e_isN, ↓e_notN, ↓e_isB, ↓e_notB, ↓e_bool, ↓e_ife, ↓e_ix, ↓e_slc, ↓e_tup, ↓e_lst, ↓e_call, ↓e_bi, ↓e_mth, ↓e_lc, ↓e_isi, ↓e_srtSet, ↓e_lenSet, ↓e_lstRg, ↓e_lstRg3, ↓es_nil, ↓es_cons, ↓eb_one, ↓eb_and, ↓eb_or, ↓eo_none, ↓eo_some, ↓ec_none, ↓ec_some, ↓ei_list, ↓ei_tup, ↓ei_rg1, ↓ei_rg2, ↓ei_rg3, ↓ei_zip, ↓s_asgt, ↓s_asg, ↓s_own, ↓s_asgT, ↓s_par, ↓s_expr, ↓s_app, ↓s_setix, ↓s_augix, ↓s_iadd, ↓s_rem, ↓s_ret, ↓s_ifs, ↓s_fors, ↓s_whil, ↓s_raise, ↓s_shut, ↓ss_nil, ↓ss_cons, ↓sf_nil, ↓sf_cons, ↓mustF_s, mustF_s, ↓boolF_b, boolF_b, ↓intF_i, intF_i, ↓listF_l, listF_l, ↓listF_p, listF_p, ↓listF_i, listF_i, ↓tupF_t, tupF_t, ↓atV_d, atV_d, ↓atV_o, atV_o, ↓atO_o, atO_o, ↓cnd_t, cnd_t, ↓cnd_f, cnd_f, ↓bindF_1, bindF_1, ↓bindF_2, bindF_2, ↓bindF_p, bindF_p, ↓runs, runs, start, getS, setS, blank, blank1, List.map_cons, List.map_nil, List.length_cons, List.length_nil, List.cons_append, List.nil_append, List.replicate, Nat.sub_self, cop_lt, cop_le, cop_gt, cop_ge, bop_add, bop_sub, bop_mod, bop_fdiv, bop_mul, ixOp_t0, ixOp_t1, ixOp_l, bsem_lenl, bsem_lent, gcv_u, gcv_d, isiD_i, isiD_b, isTok_i, isTok_b, isTok_n, isTok_t, isTok_l, isTok_s, and_true, true_and, Bool.false_eq_true, Bool.true_eq_false, Bool.not_true, Bool.not_false, Bool.not_not, noList_i, noList_b, noList_n, noList_t, plain_n, plain_c, lenlim, Nat.reduceAdd, Nat.reduceSub, isNon_n, isNon_i, isNon_b, isNon_t, isNon_l, isNon_s, ite_self, not_true_eq_false, not_false_eq_true, implies_true, false_and, and_false, decide_true, decide_false, decide_not, ixOp_s0, ixOp_s1, ixOp_p, ixOp_p0, ixOp_p1, ixOp_i, bsem_lenp, bsem_leni, isTok_sky, isTok_ps, isTok_is, isTok_p, noList_p, cop_eqi, cop_nei, bsem_max2, bsem_min2, ge0, d_is_int_i, toNat_nat, rangeD_len, eq_self, cop_eqil, cop_neil, cop_eqps, cop_neps, cop_eqp, cop_nep, Bool.and_true, Bool.true_and, big1, big2, cop_eqi0, cop_nei0, cop_eqp0, cop_nep0, bop_addps, bop_addis, bsem_maxl, bsem_minl, mtTy_index, msem_index, d_lpick2, d_lpick3, t_body_period, d_body_period, t_ever_at, d_ever_at, t_lat, d_lat, t_ldraw, d_ldraw, t_lrelative, d_lrelative, t_lsky, d_lsky, t_lsome, d_lsome, t_meeting_units, d_meeting_units, t_period, d_period, t_places, d_places, t_relative_period, d_relative_period, ↓reduceIte, foldI, foldP, cop_ne00, cop_eq00, Int.reduceSub, Int.reduceNeg, Int.reduceAdd, Int.reduceMul, Int.reduceToNat]
  intro y y0 y1
  have g0 : 0 < mstep u bs x y := gcd_pos hu
  have g1 : mstep u bs x y ≤ u := gcd_le hu
  have gd : mstep u bs x y ∣ u := Int.gcd_dvd_left _ _
  try simp (maxSteps := 2000000) (disch := first | assumption | omega) only [↓e_var, ↓e_ci, ↓e_cs, ↓e_cb, ↓e_cn, ↓e_gc, ↓e_bin, ↓e_neg, ↓e_inot, ↓e_cmp, ↓e_chain, ↓e_isN, ↓e_notN, ↓e_isB, ↓e_notB, ↓e_bool, ↓e_ife, ↓e_ix, ↓e_slc, ↓e_tup, ↓e_lst, ↓e_call, ↓e_bi, ↓e_mth, ↓e_lc, ↓e_isi, ↓e_srtSet, ↓e_lenSet, ↓e_lstRg, ↓e_lstRg3, ↓es_nil, ↓es_cons, ↓eb_one, ↓eb_and, ↓eb_or, ↓eo_none, ↓eo_some, ↓ec_none, ↓ec_some, ↓ei_list, ↓ei_tup, ↓ei_rg1, ↓ei_rg2, ↓ei_rg3, ↓ei_zip, ↓s_asgt, ↓s_asg, ↓s_own, ↓s_asgT, ↓s_par, ↓s_expr, ↓s_app, ↓s_setix, ↓s_augix, ↓s_iadd, ↓s_rem, ↓s_ret, ↓s_ifs, ↓s_fors, ↓s_whil, ↓s_raise, ↓s_shut, ↓ss_nil, ↓ss_cons, ↓sf_nil, ↓sf_cons, ↓mustF_s, mustF_s, ↓boolF_b, boolF_b, ↓intF_i, intF_i, ↓listF_l, listF_l, ↓listF_p, listF_p, ↓listF_i, listF_i, ↓tupF_t, tupF_t, ↓atV_d, atV_d, ↓atV_o, atV_o, ↓atO_o, atO_o, ↓cnd_t, cnd_t, ↓cnd_f, cnd_f, ↓bindF_1, bindF_1, ↓bindF_2, bindF_2, ↓bindF_p, bindF_p, ↓runs, runs, start, getS, setS, blank, blank1, List.map_cons, List.map_nil, List.length_cons, List.length_nil, List.cons_append, List.nil_append, List.replicate, Nat.sub_self, cop_lt, cop_le, cop_gt, cop_ge, bop_add, bop_sub, bop_mod, bop_fdiv, bop_mul, ixOp_t0, ixOp_t1, ixOp_l, bsem_lenl, bsem_lent, gcv_u, gcv_d, isiD_i, isiD_b, isTok_i, isTok_b, isTok_n, isTok_t, isTok_l, isTok_s, and_true, true_and, Bool.false_eq_true, Bool.true_eq_false, Bool.not_true, Bool.not_false, Bool.not_not, noList_i, noList_b, noList_n, noList_t, plain_n, plain_c, lenlim, Nat.reduceAdd, Nat.reduceSub, isNon_n, isNon_i, isNon_b, isNon_t, isNon_l, isNon_s, ite_self, not_true_eq_false, not_false_eq_true, implies_true, false_and, and_false, decide_true, decide_false, decide_not, ixOp_s0, ixOp_s1, ixOp_p, ixOp_p0, ixOp_p1, ixOp_i, bsem_lenp, bsem_leni, isTok_sky, isTok_ps, isTok_is, isTok_p, noList_p, cop_eqi, cop_nei, bsem_max2, bsem_min2, ge0, d_is_int_i, toNat_nat, rangeD_len, eq_self, cop_eqil, cop_neil, cop_eqps, cop_neps, cop_eqp, cop_nep, Bool.and_true, Bool.true_and, big1, big2, cop_eqi0, cop_nei0, cop_eqp0, cop_nep0, bop_addps, bop_addis, bsem_maxl, bsem_minl, mtTy_index, msem_index, d_lpick2, d_lpick3, t_body_period, d_body_period, t_ever_at, d_ever_at, t_lat, d_lat, t_ldraw, d_ldraw, t_lrelative, d_lrelative, t_lsky, d_lsky, t_lsome, d_lsome, t_meeting_units, d_meeting_units, t_period, d_period, t_places, d_places, t_relative_period, d_relative_period, ↓reduceIte, foldI, foldP, cop_ne00, cop_eq00, Int.reduceSub, Int.reduceNeg, Int.reduceAdd, Int.reduceMul, Int.reduceToNat, b_law_8, b_law_9]
  refine lc_rgm (lo := 0) (g := dif u bs x y) (fun j j0 j1 k hk => ?_) ?_
  · have e := dif_plc (u := u) (bs := bs) (x := x) (y := y) (d := j)
    try simp (maxSteps := 2000000) (disch := first | assumption | omega) only [↓e_var, ↓e_ci, ↓e_cs, ↓e_cb, ↓e_cn, ↓e_gc, ↓e_bin, ↓e_neg, ↓e_inot, ↓e_cmp, ↓e_chain, ↓e_isN, ↓e_notN, ↓e_isB, ↓e_notB, ↓e_bool, ↓e_ife, ↓e_ix, ↓e_slc, ↓e_tup, ↓e_lst, ↓e_call, ↓e_bi, ↓e_mth, ↓e_lc, ↓e_isi, ↓e_srtSet, ↓e_lenSet, ↓e_lstRg, ↓e_lstRg3, ↓es_nil, ↓es_cons, ↓eb_one, ↓eb_and, ↓eb_or, ↓eo_none, ↓eo_some, ↓ec_none, ↓ec_some, ↓ei_list, ↓ei_tup, ↓ei_rg1, ↓ei_rg2, ↓ei_rg3, ↓ei_zip, ↓s_asgt, ↓s_asg, ↓s_own, ↓s_asgT, ↓s_par, ↓s_expr, ↓s_app, ↓s_setix, ↓s_augix, ↓s_iadd, ↓s_rem, ↓s_ret, ↓s_ifs, ↓s_fors, ↓s_whil, ↓s_raise, ↓s_shut, ↓ss_nil, ↓ss_cons, ↓sf_nil, ↓sf_cons, ↓mustF_s, mustF_s, ↓boolF_b, boolF_b, ↓intF_i, intF_i, ↓listF_l, listF_l, ↓listF_p, listF_p, ↓listF_i, listF_i, ↓tupF_t, tupF_t, ↓atV_d, atV_d, ↓atV_o, atV_o, ↓atO_o, atO_o, ↓cnd_t, cnd_t, ↓cnd_f, cnd_f, ↓bindF_1, bindF_1, ↓bindF_2, bindF_2, ↓bindF_p, bindF_p, ↓runs, runs, start, getS, setS, blank, blank1, List.map_cons, List.map_nil, List.length_cons, List.length_nil, List.cons_append, List.nil_append, List.replicate, Nat.sub_self, cop_lt, cop_le, cop_gt, cop_ge, bop_add, bop_sub, bop_mod, bop_fdiv, bop_mul, ixOp_t0, ixOp_t1, ixOp_l, bsem_lenl, bsem_lent, gcv_u, gcv_d, isiD_i, isiD_b, isTok_i, isTok_b, isTok_n, isTok_t, isTok_l, isTok_s, and_true, true_and, Bool.false_eq_true, Bool.true_eq_false, Bool.not_true, Bool.not_false, Bool.not_not, noList_i, noList_b, noList_n, noList_t, plain_n, plain_c, lenlim, Nat.reduceAdd, Nat.reduceSub, isNon_n, isNon_i, isNon_b, isNon_t, isNon_l, isNon_s, ite_self, not_true_eq_false, not_false_eq_true, implies_true, false_and, and_false, decide_true, decide_false, decide_not, ixOp_s0, ixOp_s1, ixOp_p, ixOp_p0, ixOp_p1, ixOp_i, bsem_lenp, bsem_leni, isTok_sky, isTok_ps, isTok_is, isTok_p, noList_p, cop_eqi, cop_nei, bsem_max2, bsem_min2, ge0, d_is_int_i, toNat_nat, rangeD_len, eq_self, cop_eqil, cop_neil, cop_eqps, cop_neps, cop_eqp, cop_nep, Bool.and_true, Bool.true_and, big1, big2, cop_eqi0, cop_nei0, cop_eqp0, cop_nep0, bop_addps, bop_addis, bsem_maxl, bsem_minl, mtTy_index, msem_index, d_lpick2, d_lpick3, t_body_period, d_body_period, t_ever_at, d_ever_at, t_lat, d_lat, t_ldraw, d_ldraw, t_lrelative, d_lrelative, t_lsky, d_lsky, t_lsome, d_lsome, t_meeting_units, d_meeting_units, t_period, d_period, t_places, d_places, t_relative_period, d_relative_period, ↓reduceIte, foldI, foldP, cop_ne00, cop_eq00, Int.reduceSub, Int.reduceNeg, Int.reduceAdd, Int.reduceMul, Int.reduceToNat, e]
    exact hk
  have ge := gaps_eq (x := x) (y := y) hs
  try simp (maxSteps := 2000000) (disch := first | assumption | omega) only [↓e_var, ↓e_ci, ↓e_cs, ↓e_cb, ↓e_cn, ↓e_gc, ↓e_bin, ↓e_neg, ↓e_inot, ↓e_cmp, ↓e_chain, ↓e_isN, ↓e_notN, ↓e_isB, ↓e_notB, ↓e_bool, ↓e_ife, ↓e_ix, ↓e_slc, ↓e_tup, ↓e_lst, ↓e_call, ↓e_bi, ↓e_mth, ↓e_lc, ↓e_isi, ↓e_srtSet, ↓e_lenSet, ↓e_lstRg, ↓e_lstRg3, ↓es_nil, ↓es_cons, ↓eb_one, ↓eb_and, ↓eb_or, ↓eo_none, ↓eo_some, ↓ec_none, ↓ec_some, ↓ei_list, ↓ei_tup, ↓ei_rg1, ↓ei_rg2, ↓ei_rg3, ↓ei_zip, ↓s_asgt, ↓s_asg, ↓s_own, ↓s_asgT, ↓s_par, ↓s_expr, ↓s_app, ↓s_setix, ↓s_augix, ↓s_iadd, ↓s_rem, ↓s_ret, ↓s_ifs, ↓s_fors, ↓s_whil, ↓s_raise, ↓s_shut, ↓ss_nil, ↓ss_cons, ↓sf_nil, ↓sf_cons, ↓mustF_s, mustF_s, ↓boolF_b, boolF_b, ↓intF_i, intF_i, ↓listF_l, listF_l, ↓listF_p, listF_p, ↓listF_i, listF_i, ↓tupF_t, tupF_t, ↓atV_d, atV_d, ↓atV_o, atV_o, ↓atO_o, atO_o, ↓cnd_t, cnd_t, ↓cnd_f, cnd_f, ↓bindF_1, bindF_1, ↓bindF_2, bindF_2, ↓bindF_p, bindF_p, ↓runs, runs, start, getS, setS, blank, blank1, List.map_cons, List.map_nil, List.length_cons, List.length_nil, List.cons_append, List.nil_append, List.replicate, Nat.sub_self, cop_lt, cop_le, cop_gt, cop_ge, bop_add, bop_sub, bop_mod, bop_fdiv, bop_mul, ixOp_t0, ixOp_t1, ixOp_l, bsem_lenl, bsem_lent, gcv_u, gcv_d, isiD_i, isiD_b, isTok_i, isTok_b, isTok_n, isTok_t, isTok_l, isTok_s, and_true, true_and, Bool.false_eq_true, Bool.true_eq_false, Bool.not_true, Bool.not_false, Bool.not_not, noList_i, noList_b, noList_n, noList_t, plain_n, plain_c, lenlim, Nat.reduceAdd, Nat.reduceSub, isNon_n, isNon_i, isNon_b, isNon_t, isNon_l, isNon_s, ite_self, not_true_eq_false, not_false_eq_true, implies_true, false_and, and_false, decide_true, decide_false, decide_not, ixOp_s0, ixOp_s1, ixOp_p, ixOp_p0, ixOp_p1, ixOp_i, bsem_lenp, bsem_leni, isTok_sky, isTok_ps, isTok_is, isTok_p, noList_p, cop_eqi, cop_nei, bsem_max2, bsem_min2, ge0, d_is_int_i, toNat_nat, rangeD_len, eq_self, cop_eqil, cop_neil, cop_eqps, cop_neps, cop_eqp, cop_nep, Bool.and_true, Bool.true_and, big1, big2, cop_eqi0, cop_nei0, cop_eqp0, cop_nep0, bop_addps, bop_addis, bsem_maxl, bsem_minl, mtTy_index, msem_index, d_lpick2, d_lpick3, t_body_period, d_body_period, t_ever_at, d_ever_at, t_lat, d_lat, t_ldraw, d_ldraw, t_lrelative, d_lrelative, t_lsky, d_lsky, t_lsome, d_lsome, t_meeting_units, d_meeting_units, t_period, d_period, t_places, d_places, t_relative_period, d_relative_period, ↓reduceIte, foldI, foldP, cop_ne00, cop_eq00, Int.reduceSub, Int.reduceNeg, Int.reduceAdd, Int.reduceMul, Int.reduceToNat]
  refine ⟨by rw [List.length_map, List.length_map, rngl_len]; omega, ?_⟩
  rw [ints?_map]
  try simp (maxSteps := 2000000) (disch := first | assumption | omega) only [↓e_var, ↓e_ci, ↓e_cs, ↓e_cb, ↓e_cn, ↓e_gc, ↓e_bin, ↓e_neg, ↓e_inot, ↓e_cmp, ↓e_chain, ↓e_isN, ↓e_notN, ↓e_isB, ↓e_notB, ↓e_bool, ↓e_ife, ↓e_ix, ↓e_slc, ↓e_tup, ↓e_lst, ↓e_call, ↓e_bi, ↓e_mth, ↓e_lc, ↓e_isi, ↓e_srtSet, ↓e_lenSet, ↓e_lstRg, ↓e_lstRg3, ↓es_nil, ↓es_cons, ↓eb_one, ↓eb_and, ↓eb_or, ↓eo_none, ↓eo_some, ↓ec_none, ↓ec_some, ↓ei_list, ↓ei_tup, ↓ei_rg1, ↓ei_rg2, ↓ei_rg3, ↓ei_zip, ↓s_asgt, ↓s_asg, ↓s_own, ↓s_asgT, ↓s_par, ↓s_expr, ↓s_app, ↓s_setix, ↓s_augix, ↓s_iadd, ↓s_rem, ↓s_ret, ↓s_ifs, ↓s_fors, ↓s_whil, ↓s_raise, ↓s_shut, ↓ss_nil, ↓ss_cons, ↓sf_nil, ↓sf_cons, ↓mustF_s, mustF_s, ↓boolF_b, boolF_b, ↓intF_i, intF_i, ↓listF_l, listF_l, ↓listF_p, listF_p, ↓listF_i, listF_i, ↓tupF_t, tupF_t, ↓atV_d, atV_d, ↓atV_o, atV_o, ↓atO_o, atO_o, ↓cnd_t, cnd_t, ↓cnd_f, cnd_f, ↓bindF_1, bindF_1, ↓bindF_2, bindF_2, ↓bindF_p, bindF_p, ↓runs, runs, start, getS, setS, blank, blank1, List.map_cons, List.map_nil, List.length_cons, List.length_nil, List.cons_append, List.nil_append, List.replicate, Nat.sub_self, cop_lt, cop_le, cop_gt, cop_ge, bop_add, bop_sub, bop_mod, bop_fdiv, bop_mul, ixOp_t0, ixOp_t1, ixOp_l, bsem_lenl, bsem_lent, gcv_u, gcv_d, isiD_i, isiD_b, isTok_i, isTok_b, isTok_n, isTok_t, isTok_l, isTok_s, and_true, true_and, Bool.false_eq_true, Bool.true_eq_false, Bool.not_true, Bool.not_false, Bool.not_not, noList_i, noList_b, noList_n, noList_t, plain_n, plain_c, lenlim, Nat.reduceAdd, Nat.reduceSub, isNon_n, isNon_i, isNon_b, isNon_t, isNon_l, isNon_s, ite_self, not_true_eq_false, not_false_eq_true, implies_true, false_and, and_false, decide_true, decide_false, decide_not, ixOp_s0, ixOp_s1, ixOp_p, ixOp_p0, ixOp_p1, ixOp_i, bsem_lenp, bsem_leni, isTok_sky, isTok_ps, isTok_is, isTok_p, noList_p, cop_eqi, cop_nei, bsem_max2, bsem_min2, ge0, d_is_int_i, toNat_nat, rangeD_len, eq_self, cop_eqil, cop_neil, cop_eqps, cop_neps, cop_eqp, cop_nep, Bool.and_true, Bool.true_and, big1, big2, cop_eqi0, cop_nei0, cop_eqp0, cop_nep0, bop_addps, bop_addis, bsem_maxl, bsem_minl, mtTy_index, msem_index, d_lpick2, d_lpick3, t_body_period, d_body_period, t_ever_at, d_ever_at, t_lat, d_lat, t_ldraw, d_ldraw, t_lrelative, d_lrelative, t_lsky, d_lsky, t_lsome, d_lsome, t_meeting_units, d_meeting_units, t_period, d_period, t_places, d_places, t_relative_period, d_relative_period, ↓reduceIte, foldI, foldP, cop_ne00, cop_eq00, Int.reduceSub, Int.reduceNeg, Int.reduceAdd, Int.reduceMul, Int.reduceToNat, Option.map_some]
  have ef : intsD (isort (dedup ((rngl 0 u.toNat).map (dif u bs x y)))) = intsD (fnd ((rngl 0 u.toNat).map (dif u bs x y))) := rfl
  rw [ef, ge]
  have c0 : 0 ≤ ((bd bs y).1 - (bd bs x).1) % mstep u bs x y := Int.emod_nonneg _ (by omega)
  have c1 : ((bd bs y).1 - (bd bs x).1) % mstep u bs x y < mstep u bs x y := Int.emod_lt_of_pos _ g0
  have gl := gaps_len g0 hu gd c0 c1
  generalize hrest : ((bd bs y).1 - (bd bs x).1) % mstep u bs x y = rest at *
  generalize hg : mstep u bs x y = g at *
  have d1 : decide (0 ≤ rest) = true := decide_eq_true c0
  have d2 : decide (rest < g) = true := decide_eq_true c1
  try simp (maxSteps := 2000000) (disch := first | assumption | omega) only [↓e_var, ↓e_ci, ↓e_cs, ↓e_cb, ↓e_cn, ↓e_gc, ↓e_bin, ↓e_neg, ↓e_inot, ↓e_cmp, ↓e_chain, ↓e_isN, ↓e_notN, ↓e_isB, ↓e_notB, ↓e_bool, ↓e_ife, ↓e_ix, ↓e_slc, ↓e_tup, ↓e_lst, ↓e_call, ↓e_bi, ↓e_mth, ↓e_lc, ↓e_isi, ↓e_srtSet, ↓e_lenSet, ↓e_lstRg, ↓e_lstRg3, ↓es_nil, ↓es_cons, ↓eb_one, ↓eb_and, ↓eb_or, ↓eo_none, ↓eo_some, ↓ec_none, ↓ec_some, ↓ei_list, ↓ei_tup, ↓ei_rg1, ↓ei_rg2, ↓ei_rg3, ↓ei_zip, ↓s_asgt, ↓s_asg, ↓s_own, ↓s_asgT, ↓s_par, ↓s_expr, ↓s_app, ↓s_setix, ↓s_augix, ↓s_iadd, ↓s_rem, ↓s_ret, ↓s_ifs, ↓s_fors, ↓s_whil, ↓s_raise, ↓s_shut, ↓ss_nil, ↓ss_cons, ↓sf_nil, ↓sf_cons, ↓mustF_s, mustF_s, ↓boolF_b, boolF_b, ↓intF_i, intF_i, ↓listF_l, listF_l, ↓listF_p, listF_p, ↓listF_i, listF_i, ↓tupF_t, tupF_t, ↓atV_d, atV_d, ↓atV_o, atV_o, ↓atO_o, atO_o, ↓cnd_t, cnd_t, ↓cnd_f, cnd_f, ↓bindF_1, bindF_1, ↓bindF_2, bindF_2, ↓bindF_p, bindF_p, ↓runs, runs, start, getS, setS, blank, blank1, List.map_cons, List.map_nil, List.length_cons, List.length_nil, List.cons_append, List.nil_append, List.replicate, Nat.sub_self, cop_lt, cop_le, cop_gt, cop_ge, bop_add, bop_sub, bop_mod, bop_fdiv, bop_mul, ixOp_t0, ixOp_t1, ixOp_l, bsem_lenl, bsem_lent, gcv_u, gcv_d, isiD_i, isiD_b, isTok_i, isTok_b, isTok_n, isTok_t, isTok_l, isTok_s, and_true, true_and, Bool.false_eq_true, Bool.true_eq_false, Bool.not_true, Bool.not_false, Bool.not_not, noList_i, noList_b, noList_n, noList_t, plain_n, plain_c, lenlim, Nat.reduceAdd, Nat.reduceSub, isNon_n, isNon_i, isNon_b, isNon_t, isNon_l, isNon_s, ite_self, not_true_eq_false, not_false_eq_true, implies_true, false_and, and_false, decide_true, decide_false, decide_not, ixOp_s0, ixOp_s1, ixOp_p, ixOp_p0, ixOp_p1, ixOp_i, bsem_lenp, bsem_leni, isTok_sky, isTok_ps, isTok_is, isTok_p, noList_p, cop_eqi, cop_nei, bsem_max2, bsem_min2, ge0, d_is_int_i, toNat_nat, rangeD_len, eq_self, cop_eqil, cop_neil, cop_eqps, cop_neps, cop_eqp, cop_nep, Bool.and_true, Bool.true_and, big1, big2, cop_eqi0, cop_nei0, cop_eqp0, cop_nep0, bop_addps, bop_addis, bsem_maxl, bsem_minl, mtTy_index, msem_index, d_lpick2, d_lpick3, t_body_period, d_body_period, t_ever_at, d_ever_at, t_lat, d_lat, t_ldraw, d_ldraw, t_lrelative, d_lrelative, t_lsky, d_lsky, t_lsome, d_lsome, t_meeting_units, d_meeting_units, t_period, d_period, t_places, d_places, t_relative_period, d_relative_period, ↓reduceIte, foldI, foldP, cop_ne00, cop_eq00, Int.reduceSub, Int.reduceNeg, Int.reduceAdd, Int.reduceMul, Int.reduceToNat, b_law_10, foldRS, d1, d2]
  refine ⟨by omega, ?_⟩
  try simp (maxSteps := 2000000) (disch := first | assumption | omega) only [↓e_var, ↓e_ci, ↓e_cs, ↓e_cb, ↓e_cn, ↓e_gc, ↓e_bin, ↓e_neg, ↓e_inot, ↓e_cmp, ↓e_chain, ↓e_isN, ↓e_notN, ↓e_isB, ↓e_notB, ↓e_bool, ↓e_ife, ↓e_ix, ↓e_slc, ↓e_tup, ↓e_lst, ↓e_call, ↓e_bi, ↓e_mth, ↓e_lc, ↓e_isi, ↓e_srtSet, ↓e_lenSet, ↓e_lstRg, ↓e_lstRg3, ↓es_nil, ↓es_cons, ↓eb_one, ↓eb_and, ↓eb_or, ↓eo_none, ↓eo_some, ↓ec_none, ↓ec_some, ↓ei_list, ↓ei_tup, ↓ei_rg1, ↓ei_rg2, ↓ei_rg3, ↓ei_zip, ↓s_asgt, ↓s_asg, ↓s_own, ↓s_asgT, ↓s_par, ↓s_expr, ↓s_app, ↓s_setix, ↓s_augix, ↓s_iadd, ↓s_rem, ↓s_ret, ↓s_ifs, ↓s_fors, ↓s_whil, ↓s_raise, ↓s_shut, ↓ss_nil, ↓ss_cons, ↓sf_nil, ↓sf_cons, ↓mustF_s, mustF_s, ↓boolF_b, boolF_b, ↓intF_i, intF_i, ↓listF_l, listF_l, ↓listF_p, listF_p, ↓listF_i, listF_i, ↓tupF_t, tupF_t, ↓atV_d, atV_d, ↓atV_o, atV_o, ↓atO_o, atO_o, ↓cnd_t, cnd_t, ↓cnd_f, cnd_f, ↓bindF_1, bindF_1, ↓bindF_2, bindF_2, ↓bindF_p, bindF_p, ↓runs, runs, start, getS, setS, blank, blank1, List.map_cons, List.map_nil, List.length_cons, List.length_nil, List.cons_append, List.nil_append, List.replicate, Nat.sub_self, cop_lt, cop_le, cop_gt, cop_ge, bop_add, bop_sub, bop_mod, bop_fdiv, bop_mul, ixOp_t0, ixOp_t1, ixOp_l, bsem_lenl, bsem_lent, gcv_u, gcv_d, isiD_i, isiD_b, isTok_i, isTok_b, isTok_n, isTok_t, isTok_l, isTok_s, and_true, true_and, Bool.false_eq_true, Bool.true_eq_false, Bool.not_true, Bool.not_false, Bool.not_not, noList_i, noList_b, noList_n, noList_t, plain_n, plain_c, lenlim, Nat.reduceAdd, Nat.reduceSub, isNon_n, isNon_i, isNon_b, isNon_t, isNon_l, isNon_s, ite_self, not_true_eq_false, not_false_eq_true, implies_true, false_and, and_false, decide_true, decide_false, decide_not, ixOp_s0, ixOp_s1, ixOp_p, ixOp_p0, ixOp_p1, ixOp_i, bsem_lenp, bsem_leni, isTok_sky, isTok_ps, isTok_is, isTok_p, noList_p, cop_eqi, cop_nei, bsem_max2, bsem_min2, ge0, d_is_int_i, toNat_nat, rangeD_len, eq_self, cop_eqil, cop_neil, cop_eqps, cop_neps, cop_eqp, cop_nep, Bool.and_true, Bool.true_and, big1, big2, cop_eqi0, cop_nei0, cop_eqp0, cop_nep0, bop_addps, bop_addis, bsem_maxl, bsem_minl, mtTy_index, msem_index, d_lpick2, d_lpick3, t_body_period, d_body_period, t_ever_at, d_ever_at, t_lat, d_lat, t_ldraw, d_ldraw, t_lrelative, d_lrelative, t_lsky, d_lsky, t_lsome, d_lsome, t_meeting_units, d_meeting_units, t_period, d_period, t_places, d_places, t_relative_period, d_relative_period, ↓reduceIte, foldI, foldP, cop_ne00, cop_eq00, Int.reduceSub, Int.reduceNeg, Int.reduceAdd, Int.reduceMul, Int.reduceToNat, b_law_11]
  intro unit u0 u1
  try simp (maxSteps := 2000000) (disch := first | assumption | omega) only [↓e_var, ↓e_ci, ↓e_cs, ↓e_cb, ↓e_cn, ↓e_gc, ↓e_bin, ↓e_neg, ↓e_inot, ↓e_cmp, ↓e_chain, ↓e_isN, ↓e_notN, ↓e_isB, ↓e_notB, ↓e_bool, ↓e_ife, ↓e_ix, ↓e_slc, ↓e_tup, ↓e_lst, ↓e_call, ↓e_bi, ↓e_mth, ↓e_lc, ↓e_isi, ↓e_srtSet, ↓e_lenSet, ↓e_lstRg, ↓e_lstRg3, ↓es_nil, ↓es_cons, ↓eb_one, ↓eb_and, ↓eb_or, ↓eo_none, ↓eo_some, ↓ec_none, ↓ec_some, ↓ei_list, ↓ei_tup, ↓ei_rg1, ↓ei_rg2, ↓ei_rg3, ↓ei_zip, ↓s_asgt, ↓s_asg, ↓s_own, ↓s_asgT, ↓s_par, ↓s_expr, ↓s_app, ↓s_setix, ↓s_augix, ↓s_iadd, ↓s_rem, ↓s_ret, ↓s_ifs, ↓s_fors, ↓s_whil, ↓s_raise, ↓s_shut, ↓ss_nil, ↓ss_cons, ↓sf_nil, ↓sf_cons, ↓mustF_s, mustF_s, ↓boolF_b, boolF_b, ↓intF_i, intF_i, ↓listF_l, listF_l, ↓listF_p, listF_p, ↓listF_i, listF_i, ↓tupF_t, tupF_t, ↓atV_d, atV_d, ↓atV_o, atV_o, ↓atO_o, atO_o, ↓cnd_t, cnd_t, ↓cnd_f, cnd_f, ↓bindF_1, bindF_1, ↓bindF_2, bindF_2, ↓bindF_p, bindF_p, ↓runs, runs, start, getS, setS, blank, blank1, List.map_cons, List.map_nil, List.length_cons, List.length_nil, List.cons_append, List.nil_append, List.replicate, Nat.sub_self, cop_lt, cop_le, cop_gt, cop_ge, bop_add, bop_sub, bop_mod, bop_fdiv, bop_mul, ixOp_t0, ixOp_t1, ixOp_l, bsem_lenl, bsem_lent, gcv_u, gcv_d, isiD_i, isiD_b, isTok_i, isTok_b, isTok_n, isTok_t, isTok_l, isTok_s, and_true, true_and, Bool.false_eq_true, Bool.true_eq_false, Bool.not_true, Bool.not_false, Bool.not_not, noList_i, noList_b, noList_n, noList_t, plain_n, plain_c, lenlim, Nat.reduceAdd, Nat.reduceSub, isNon_n, isNon_i, isNon_b, isNon_t, isNon_l, isNon_s, ite_self, not_true_eq_false, not_false_eq_true, implies_true, false_and, and_false, decide_true, decide_false, decide_not, ixOp_s0, ixOp_s1, ixOp_p, ixOp_p0, ixOp_p1, ixOp_i, bsem_lenp, bsem_leni, isTok_sky, isTok_ps, isTok_is, isTok_p, noList_p, cop_eqi, cop_nei, bsem_max2, bsem_min2, ge0, d_is_int_i, toNat_nat, rangeD_len, eq_self, cop_eqil, cop_neil, cop_eqps, cop_neps, cop_eqp, cop_nep, Bool.and_true, Bool.true_and, big1, big2, cop_eqi0, cop_nei0, cop_eqp0, cop_nep0, bop_addps, bop_addis, bsem_maxl, bsem_minl, mtTy_index, msem_index, d_lpick2, d_lpick3, t_body_period, d_body_period, t_ever_at, d_ever_at, t_lat, d_lat, t_ldraw, d_ldraw, t_lrelative, d_lrelative, t_lsky, d_lsky, t_lsome, d_lsome, t_meeting_units, d_meeting_units, t_period, d_period, t_places, d_places, t_relative_period, d_relative_period, ↓reduceIte, foldI, foldP, cop_ne00, cop_eq00, Int.reduceSub, Int.reduceNeg, Int.reduceAdd, Int.reduceMul, Int.reduceToNat, b_law_12]
  refine lc_rgf (p := fun d => decide (plc u bs x d = unit)) (g := PyData.int) (fun j j0 j1 k hk => ?_) ?_
  · try simp (maxSteps := 2000000) (disch := first | assumption | omega) only [↓e_var, ↓e_ci, ↓e_cs, ↓e_cb, ↓e_cn, ↓e_gc, ↓e_bin, ↓e_neg, ↓e_inot, ↓e_cmp, ↓e_chain, ↓e_isN, ↓e_notN, ↓e_isB, ↓e_notB, ↓e_bool, ↓e_ife, ↓e_ix, ↓e_slc, ↓e_tup, ↓e_lst, ↓e_call, ↓e_bi, ↓e_mth, ↓e_lc, ↓e_isi, ↓e_srtSet, ↓e_lenSet, ↓e_lstRg, ↓e_lstRg3, ↓es_nil, ↓es_cons, ↓eb_one, ↓eb_and, ↓eb_or, ↓eo_none, ↓eo_some, ↓ec_none, ↓ec_some, ↓ei_list, ↓ei_tup, ↓ei_rg1, ↓ei_rg2, ↓ei_rg3, ↓ei_zip, ↓s_asgt, ↓s_asg, ↓s_own, ↓s_asgT, ↓s_par, ↓s_expr, ↓s_app, ↓s_setix, ↓s_augix, ↓s_iadd, ↓s_rem, ↓s_ret, ↓s_ifs, ↓s_fors, ↓s_whil, ↓s_raise, ↓s_shut, ↓ss_nil, ↓ss_cons, ↓sf_nil, ↓sf_cons, ↓mustF_s, mustF_s, ↓boolF_b, boolF_b, ↓intF_i, intF_i, ↓listF_l, listF_l, ↓listF_p, listF_p, ↓listF_i, listF_i, ↓tupF_t, tupF_t, ↓atV_d, atV_d, ↓atV_o, atV_o, ↓atO_o, atO_o, ↓cnd_t, cnd_t, ↓cnd_f, cnd_f, ↓bindF_1, bindF_1, ↓bindF_2, bindF_2, ↓bindF_p, bindF_p, ↓runs, runs, start, getS, setS, blank, blank1, List.map_cons, List.map_nil, List.length_cons, List.length_nil, List.cons_append, List.nil_append, List.replicate, Nat.sub_self, cop_lt, cop_le, cop_gt, cop_ge, bop_add, bop_sub, bop_mod, bop_fdiv, bop_mul, ixOp_t0, ixOp_t1, ixOp_l, bsem_lenl, bsem_lent, gcv_u, gcv_d, isiD_i, isiD_b, isTok_i, isTok_b, isTok_n, isTok_t, isTok_l, isTok_s, and_true, true_and, Bool.false_eq_true, Bool.true_eq_false, Bool.not_true, Bool.not_false, Bool.not_not, noList_i, noList_b, noList_n, noList_t, plain_n, plain_c, lenlim, Nat.reduceAdd, Nat.reduceSub, isNon_n, isNon_i, isNon_b, isNon_t, isNon_l, isNon_s, ite_self, not_true_eq_false, not_false_eq_true, implies_true, false_and, and_false, decide_true, decide_false, decide_not, ixOp_s0, ixOp_s1, ixOp_p, ixOp_p0, ixOp_p1, ixOp_i, bsem_lenp, bsem_leni, isTok_sky, isTok_ps, isTok_is, isTok_p, noList_p, cop_eqi, cop_nei, bsem_max2, bsem_min2, ge0, d_is_int_i, toNat_nat, rangeD_len, eq_self, cop_eqil, cop_neil, cop_eqps, cop_neps, cop_eqp, cop_nep, Bool.and_true, Bool.true_and, big1, big2, cop_eqi0, cop_nei0, cop_eqp0, cop_nep0, bop_addps, bop_addis, bsem_maxl, bsem_minl, mtTy_index, msem_index, d_lpick2, d_lpick3, t_body_period, d_body_period, t_ever_at, d_ever_at, t_lat, d_lat, t_ldraw, d_ldraw, t_lrelative, d_lrelative, t_lsky, d_lsky, t_lsome, d_lsome, t_meeting_units, d_meeting_units, t_period, d_period, t_places, d_places, t_relative_period, d_relative_period, ↓reduceIte, foldI, foldP, cop_ne00, cop_eq00, Int.reduceSub, Int.reduceNeg, Int.reduceAdd, Int.reduceMul, Int.reduceToNat]
    exact ite_k hk
  obtain ⟨_, _, a0, a1⟩ := hs.at x0 x1
  have n0 := rnd_pos (r := (bd bs x).2) hu
  have n1 := rnd_le (r := (bd bs x).2) hu
  have ev : everAt u bs x (.int unit) = optD ((rngl 0 u.toNat).filter fun d => decide (plc u bs x d = unit)).head? := by
    simp only [everAt]
    rw [if_pos ⟨u0, u1⟩, List.head?_filter]
    congr 1
    exact (find_more (p := fun d => decide (plc u bs x d = unit)) (fun d => by simp only [plc_per hs]) n0 (by omega)).symm
  have en : everAt u bs x .none = .none := rfl
  have ti : isTok (PyData.int unit) = false := rfl
  have tn : isTok PyData.none = false := rfl
  try simp (maxSteps := 2000000) (disch := first | assumption | omega) only [↓e_var, ↓e_ci, ↓e_cs, ↓e_cb, ↓e_cn, ↓e_gc, ↓e_bin, ↓e_neg, ↓e_inot, ↓e_cmp, ↓e_chain, ↓e_isN, ↓e_notN, ↓e_isB, ↓e_notB, ↓e_bool, ↓e_ife, ↓e_ix, ↓e_slc, ↓e_tup, ↓e_lst, ↓e_call, ↓e_bi, ↓e_mth, ↓e_lc, ↓e_isi, ↓e_srtSet, ↓e_lenSet, ↓e_lstRg, ↓e_lstRg3, ↓es_nil, ↓es_cons, ↓eb_one, ↓eb_and, ↓eb_or, ↓eo_none, ↓eo_some, ↓ec_none, ↓ec_some, ↓ei_list, ↓ei_tup, ↓ei_rg1, ↓ei_rg2, ↓ei_rg3, ↓ei_zip, ↓s_asgt, ↓s_asg, ↓s_own, ↓s_asgT, ↓s_par, ↓s_expr, ↓s_app, ↓s_setix, ↓s_augix, ↓s_iadd, ↓s_rem, ↓s_ret, ↓s_ifs, ↓s_fors, ↓s_whil, ↓s_raise, ↓s_shut, ↓ss_nil, ↓ss_cons, ↓sf_nil, ↓sf_cons, ↓mustF_s, mustF_s, ↓boolF_b, boolF_b, ↓intF_i, intF_i, ↓listF_l, listF_l, ↓listF_p, listF_p, ↓listF_i, listF_i, ↓tupF_t, tupF_t, ↓atV_d, atV_d, ↓atV_o, atV_o, ↓atO_o, atO_o, ↓cnd_t, cnd_t, ↓cnd_f, cnd_f, ↓bindF_1, bindF_1, ↓bindF_2, bindF_2, ↓bindF_p, bindF_p, ↓runs, runs, start, getS, setS, blank, blank1, List.map_cons, List.map_nil, List.length_cons, List.length_nil, List.cons_append, List.nil_append, List.replicate, Nat.sub_self, cop_lt, cop_le, cop_gt, cop_ge, bop_add, bop_sub, bop_mod, bop_fdiv, bop_mul, ixOp_t0, ixOp_t1, ixOp_l, bsem_lenl, bsem_lent, gcv_u, gcv_d, isiD_i, isiD_b, isTok_i, isTok_b, isTok_n, isTok_t, isTok_l, isTok_s, and_true, true_and, Bool.false_eq_true, Bool.true_eq_false, Bool.not_true, Bool.not_false, Bool.not_not, noList_i, noList_b, noList_n, noList_t, plain_n, plain_c, lenlim, Nat.reduceAdd, Nat.reduceSub, isNon_n, isNon_i, isNon_b, isNon_t, isNon_l, isNon_s, ite_self, not_true_eq_false, not_false_eq_true, implies_true, false_and, and_false, decide_true, decide_false, decide_not, ixOp_s0, ixOp_s1, ixOp_p, ixOp_p0, ixOp_p1, ixOp_i, bsem_lenp, bsem_leni, isTok_sky, isTok_ps, isTok_is, isTok_p, noList_p, cop_eqi, cop_nei, bsem_max2, bsem_min2, ge0, d_is_int_i, toNat_nat, rangeD_len, eq_self, cop_eqil, cop_neil, cop_eqps, cop_neps, cop_eqp, cop_nep, Bool.and_true, Bool.true_and, big1, big2, cop_eqi0, cop_nei0, cop_eqp0, cop_nep0, bop_addps, bop_addis, bsem_maxl, bsem_minl, mtTy_index, msem_index, d_lpick2, d_lpick3, t_body_period, d_body_period, t_ever_at, d_ever_at, t_lat, d_lat, t_ldraw, d_ldraw, t_lrelative, d_lrelative, t_lsky, d_lsky, t_lsome, d_lsome, t_meeting_units, d_meeting_units, t_period, d_period, t_places, d_places, t_relative_period, d_relative_period, ↓reduceIte, foldI, foldP, cop_ne00, cop_eq00, Int.reduceSub, Int.reduceNeg, Int.reduceAdd, Int.reduceMul, Int.reduceToNat]
  generalize (rngl 0 u.toNat).filter (fun d => decide (plc u bs x d = unit)) = M at *
  have fin : ∀ s16 : Sl, ssF T b_law_14 [.no, .d (.dict []), .d (skyD u bs), .d (.int u), .d (.int bs.length), s5, s6, .d (intsD L), s8, .d (intsD l), .d (.int x), .d (.int y), .d (.int rest), .d (.int g), .d (intsD ((List.range (rgN rest u g)).map fun (i : Nat) => rest + i * g)), .d (.int unit), s16] (.mk : Tag { nx := fun _ => False, rt := fun d => d = .bool true, bk := fun _ => False, ct := fun _ => False, ex := fun _ => False }) := by
    intro s16
    try simp (maxSteps := 2000000) (disch := first | assumption | omega) only [↓e_var, ↓e_ci, ↓e_cs, ↓e_cb, ↓e_cn, ↓e_gc, ↓e_bin, ↓e_neg, ↓e_inot, ↓e_cmp, ↓e_chain, ↓e_isN, ↓e_notN, ↓e_isB, ↓e_notB, ↓e_bool, ↓e_ife, ↓e_ix, ↓e_slc, ↓e_tup, ↓e_lst, ↓e_call, ↓e_bi, ↓e_mth, ↓e_lc, ↓e_isi, ↓e_srtSet, ↓e_lenSet, ↓e_lstRg, ↓e_lstRg3, ↓es_nil, ↓es_cons, ↓eb_one, ↓eb_and, ↓eb_or, ↓eo_none, ↓eo_some, ↓ec_none, ↓ec_some, ↓ei_list, ↓ei_tup, ↓ei_rg1, ↓ei_rg2, ↓ei_rg3, ↓ei_zip, ↓s_asgt, ↓s_asg, ↓s_own, ↓s_asgT, ↓s_par, ↓s_expr, ↓s_app, ↓s_setix, ↓s_augix, ↓s_iadd, ↓s_rem, ↓s_ret, ↓s_ifs, ↓s_fors, ↓s_whil, ↓s_raise, ↓s_shut, ↓ss_nil, ↓ss_cons, ↓sf_nil, ↓sf_cons, ↓mustF_s, mustF_s, ↓boolF_b, boolF_b, ↓intF_i, intF_i, ↓listF_l, listF_l, ↓listF_p, listF_p, ↓listF_i, listF_i, ↓tupF_t, tupF_t, ↓atV_d, atV_d, ↓atV_o, atV_o, ↓atO_o, atO_o, ↓cnd_t, cnd_t, ↓cnd_f, cnd_f, ↓bindF_1, bindF_1, ↓bindF_2, bindF_2, ↓bindF_p, bindF_p, ↓runs, runs, start, getS, setS, blank, blank1, List.map_cons, List.map_nil, List.length_cons, List.length_nil, List.cons_append, List.nil_append, List.replicate, Nat.sub_self, cop_lt, cop_le, cop_gt, cop_ge, bop_add, bop_sub, bop_mod, bop_fdiv, bop_mul, ixOp_t0, ixOp_t1, ixOp_l, bsem_lenl, bsem_lent, gcv_u, gcv_d, isiD_i, isiD_b, isTok_i, isTok_b, isTok_n, isTok_t, isTok_l, isTok_s, and_true, true_and, Bool.false_eq_true, Bool.true_eq_false, Bool.not_true, Bool.not_false, Bool.not_not, noList_i, noList_b, noList_n, noList_t, plain_n, plain_c, lenlim, Nat.reduceAdd, Nat.reduceSub, isNon_n, isNon_i, isNon_b, isNon_t, isNon_l, isNon_s, ite_self, not_true_eq_false, not_false_eq_true, implies_true, false_and, and_false, decide_true, decide_false, decide_not, ixOp_s0, ixOp_s1, ixOp_p, ixOp_p0, ixOp_p1, ixOp_i, bsem_lenp, bsem_leni, isTok_sky, isTok_ps, isTok_is, isTok_p, noList_p, cop_eqi, cop_nei, bsem_max2, bsem_min2, ge0, d_is_int_i, toNat_nat, rangeD_len, eq_self, cop_eqil, cop_neil, cop_eqps, cop_neps, cop_eqp, cop_nep, Bool.and_true, Bool.true_and, big1, big2, cop_eqi0, cop_nei0, cop_eqp0, cop_nep0, bop_addps, bop_addis, bsem_maxl, bsem_minl, mtTy_index, msem_index, d_lpick2, d_lpick3, t_body_period, d_body_period, t_ever_at, d_ever_at, t_lat, d_lat, t_ldraw, d_ldraw, t_lrelative, d_lrelative, t_lsky, d_lsky, t_lsome, d_lsome, t_meeting_units, d_meeting_units, t_period, d_period, t_places, d_places, t_relative_period, d_relative_period, ↓reduceIte, foldI, foldP, cop_ne00, cop_eq00, Int.reduceSub, Int.reduceNeg, Int.reduceAdd, Int.reduceMul, Int.reduceToNat, b_law_14]
    intro day d0 d1
    have pe : plcs u bs (day + prd u bs) = plcs u bs day := by
      unfold plcs
      refine List.map_congr_left fun i hi => ?_
      have hi2 := List.mem_range.mp hi
      have h : u ∣ prd u bs * (bd bs i).2 := per_self hu _ (List.mem_map.mpr ⟨_, bd_mem (by omega) (by omega), rfl⟩)
      rw [plc_add, Int.add_emod, Int.dvd_iff_emod_eq_zero.mp h]
      simp
      exact Int.emod_eq_of_lt (plc_b hs).1 (plc_b hs).2
    by_cases hxy : x = y
    · try simp (maxSteps := 2000000) (disch := first | assumption | omega) only [↓e_var, ↓e_ci, ↓e_cs, ↓e_cb, ↓e_cn, ↓e_gc, ↓e_bin, ↓e_neg, ↓e_inot, ↓e_cmp, ↓e_chain, ↓e_isN, ↓e_notN, ↓e_isB, ↓e_notB, ↓e_bool, ↓e_ife, ↓e_ix, ↓e_slc, ↓e_tup, ↓e_lst, ↓e_call, ↓e_bi, ↓e_mth, ↓e_lc, ↓e_isi, ↓e_srtSet, ↓e_lenSet, ↓e_lstRg, ↓e_lstRg3, ↓es_nil, ↓es_cons, ↓eb_one, ↓eb_and, ↓eb_or, ↓eo_none, ↓eo_some, ↓ec_none, ↓ec_some, ↓ei_list, ↓ei_tup, ↓ei_rg1, ↓ei_rg2, ↓ei_rg3, ↓ei_zip, ↓s_asgt, ↓s_asg, ↓s_own, ↓s_asgT, ↓s_par, ↓s_expr, ↓s_app, ↓s_setix, ↓s_augix, ↓s_iadd, ↓s_rem, ↓s_ret, ↓s_ifs, ↓s_fors, ↓s_whil, ↓s_raise, ↓s_shut, ↓ss_nil, ↓ss_cons, ↓sf_nil, ↓sf_cons, ↓mustF_s, mustF_s, ↓boolF_b, boolF_b, ↓intF_i, intF_i, ↓listF_l, listF_l, ↓listF_p, listF_p, ↓listF_i, listF_i, ↓tupF_t, tupF_t, ↓atV_d, atV_d, ↓atV_o, atV_o, ↓atO_o, atO_o, ↓cnd_t, cnd_t, ↓cnd_f, cnd_f, ↓bindF_1, bindF_1, ↓bindF_2, bindF_2, ↓bindF_p, bindF_p, ↓runs, runs, start, getS, setS, blank, blank1, List.map_cons, List.map_nil, List.length_cons, List.length_nil, List.cons_append, List.nil_append, List.replicate, Nat.sub_self, cop_lt, cop_le, cop_gt, cop_ge, bop_add, bop_sub, bop_mod, bop_fdiv, bop_mul, ixOp_t0, ixOp_t1, ixOp_l, bsem_lenl, bsem_lent, gcv_u, gcv_d, isiD_i, isiD_b, isTok_i, isTok_b, isTok_n, isTok_t, isTok_l, isTok_s, and_true, true_and, Bool.false_eq_true, Bool.true_eq_false, Bool.not_true, Bool.not_false, Bool.not_not, noList_i, noList_b, noList_n, noList_t, plain_n, plain_c, lenlim, Nat.reduceAdd, Nat.reduceSub, isNon_n, isNon_i, isNon_b, isNon_t, isNon_l, isNon_s, ite_self, not_true_eq_false, not_false_eq_true, implies_true, false_and, and_false, decide_true, decide_false, decide_not, ixOp_s0, ixOp_s1, ixOp_p, ixOp_p0, ixOp_p1, ixOp_i, bsem_lenp, bsem_leni, isTok_sky, isTok_ps, isTok_is, isTok_p, noList_p, cop_eqi, cop_nei, bsem_max2, bsem_min2, ge0, d_is_int_i, toNat_nat, rangeD_len, eq_self, cop_eqil, cop_neil, cop_eqps, cop_neps, cop_eqp, cop_nep, Bool.and_true, Bool.true_and, big1, big2, cop_eqi0, cop_nei0, cop_eqp0, cop_nep0, bop_addps, bop_addis, bsem_maxl, bsem_minl, mtTy_index, msem_index, d_lpick2, d_lpick3, t_body_period, d_body_period, t_ever_at, d_ever_at, t_lat, d_lat, t_ldraw, d_ldraw, t_lrelative, d_lrelative, t_lsky, d_lsky, t_lsome, d_lsome, t_meeting_units, d_meeting_units, t_period, d_period, t_places, d_places, t_relative_period, d_relative_period, ↓reduceIte, foldI, foldP, cop_ne00, cop_eq00, Int.reduceSub, Int.reduceNeg, Int.reduceAdd, Int.reduceMul, Int.reduceToNat, b_law_15, hxy, b_law_16, pe]
    · have sl := Sel.two x0 x1 y0 y1 hxy
      have rt : (rgN rest u g : Int) = rel u bs [x, y] := by
        rw [rel_two hs, gl, ← hg]
        rfl
      try simp (maxSteps := 2000000) (disch := first | assumption | omega) only [↓e_var, ↓e_ci, ↓e_cs, ↓e_cb, ↓e_cn, ↓e_gc, ↓e_bin, ↓e_neg, ↓e_inot, ↓e_cmp, ↓e_chain, ↓e_isN, ↓e_notN, ↓e_isB, ↓e_notB, ↓e_bool, ↓e_ife, ↓e_ix, ↓e_slc, ↓e_tup, ↓e_lst, ↓e_call, ↓e_bi, ↓e_mth, ↓e_lc, ↓e_isi, ↓e_srtSet, ↓e_lenSet, ↓e_lstRg, ↓e_lstRg3, ↓es_nil, ↓es_cons, ↓eb_one, ↓eb_and, ↓eb_or, ↓eo_none, ↓eo_some, ↓ec_none, ↓ec_some, ↓ei_list, ↓ei_tup, ↓ei_rg1, ↓ei_rg2, ↓ei_rg3, ↓ei_zip, ↓s_asgt, ↓s_asg, ↓s_own, ↓s_asgT, ↓s_par, ↓s_expr, ↓s_app, ↓s_setix, ↓s_augix, ↓s_iadd, ↓s_rem, ↓s_ret, ↓s_ifs, ↓s_fors, ↓s_whil, ↓s_raise, ↓s_shut, ↓ss_nil, ↓ss_cons, ↓sf_nil, ↓sf_cons, ↓mustF_s, mustF_s, ↓boolF_b, boolF_b, ↓intF_i, intF_i, ↓listF_l, listF_l, ↓listF_p, listF_p, ↓listF_i, listF_i, ↓tupF_t, tupF_t, ↓atV_d, atV_d, ↓atV_o, atV_o, ↓atO_o, atO_o, ↓cnd_t, cnd_t, ↓cnd_f, cnd_f, ↓bindF_1, bindF_1, ↓bindF_2, bindF_2, ↓bindF_p, bindF_p, ↓runs, runs, start, getS, setS, blank, blank1, List.map_cons, List.map_nil, List.length_cons, List.length_nil, List.cons_append, List.nil_append, List.replicate, Nat.sub_self, cop_lt, cop_le, cop_gt, cop_ge, bop_add, bop_sub, bop_mod, bop_fdiv, bop_mul, ixOp_t0, ixOp_t1, ixOp_l, bsem_lenl, bsem_lent, gcv_u, gcv_d, isiD_i, isiD_b, isTok_i, isTok_b, isTok_n, isTok_t, isTok_l, isTok_s, and_true, true_and, Bool.false_eq_true, Bool.true_eq_false, Bool.not_true, Bool.not_false, Bool.not_not, noList_i, noList_b, noList_n, noList_t, plain_n, plain_c, lenlim, Nat.reduceAdd, Nat.reduceSub, isNon_n, isNon_i, isNon_b, isNon_t, isNon_l, isNon_s, ite_self, not_true_eq_false, not_false_eq_true, implies_true, false_and, and_false, decide_true, decide_false, decide_not, ixOp_s0, ixOp_s1, ixOp_p, ixOp_p0, ixOp_p1, ixOp_i, bsem_lenp, bsem_leni, isTok_sky, isTok_ps, isTok_is, isTok_p, noList_p, cop_eqi, cop_nei, bsem_max2, bsem_min2, ge0, d_is_int_i, toNat_nat, rangeD_len, eq_self, cop_eqil, cop_neil, cop_eqps, cop_neps, cop_eqp, cop_nep, Bool.and_true, Bool.true_and, big1, big2, cop_eqi0, cop_nei0, cop_eqp0, cop_nep0, bop_addps, bop_addis, bsem_maxl, bsem_minl, mtTy_index, msem_index, d_lpick2, d_lpick3, t_body_period, d_body_period, t_ever_at, d_ever_at, t_lat, d_lat, t_ldraw, d_ldraw, t_lrelative, d_lrelative, t_lsky, d_lsky, t_lsome, d_lsome, t_meeting_units, d_meeting_units, t_period, d_period, t_places, d_places, t_relative_period, d_relative_period, ↓reduceIte, foldI, foldP, cop_ne00, cop_eq00, Int.reduceSub, Int.reduceNeg, Int.reduceAdd, Int.reduceMul, Int.reduceToNat, b_law_15, hxy, fold2, List.length_map, List.length_range, rt, b_law_16, pe]
  by_cases hM : M = []
  · have e12 : (PyData.none : D) = optD none := rfl
    try simp (maxSteps := 2000000) (disch := first | assumption | omega) only [↓e_var, ↓e_ci, ↓e_cs, ↓e_cb, ↓e_cn, ↓e_gc, ↓e_bin, ↓e_neg, ↓e_inot, ↓e_cmp, ↓e_chain, ↓e_isN, ↓e_notN, ↓e_isB, ↓e_notB, ↓e_bool, ↓e_ife, ↓e_ix, ↓e_slc, ↓e_tup, ↓e_lst, ↓e_call, ↓e_bi, ↓e_mth, ↓e_lc, ↓e_isi, ↓e_srtSet, ↓e_lenSet, ↓e_lstRg, ↓e_lstRg3, ↓es_nil, ↓es_cons, ↓eb_one, ↓eb_and, ↓eb_or, ↓eo_none, ↓eo_some, ↓ec_none, ↓ec_some, ↓ei_list, ↓ei_tup, ↓ei_rg1, ↓ei_rg2, ↓ei_rg3, ↓ei_zip, ↓s_asgt, ↓s_asg, ↓s_own, ↓s_asgT, ↓s_par, ↓s_expr, ↓s_app, ↓s_setix, ↓s_augix, ↓s_iadd, ↓s_rem, ↓s_ret, ↓s_ifs, ↓s_fors, ↓s_whil, ↓s_raise, ↓s_shut, ↓ss_nil, ↓ss_cons, ↓sf_nil, ↓sf_cons, ↓mustF_s, mustF_s, ↓boolF_b, boolF_b, ↓intF_i, intF_i, ↓listF_l, listF_l, ↓listF_p, listF_p, ↓listF_i, listF_i, ↓tupF_t, tupF_t, ↓atV_d, atV_d, ↓atV_o, atV_o, ↓atO_o, atO_o, ↓cnd_t, cnd_t, ↓cnd_f, cnd_f, ↓bindF_1, bindF_1, ↓bindF_2, bindF_2, ↓bindF_p, bindF_p, ↓runs, runs, start, getS, setS, blank, blank1, List.map_cons, List.map_nil, List.length_cons, List.length_nil, List.cons_append, List.nil_append, List.replicate, Nat.sub_self, cop_lt, cop_le, cop_gt, cop_ge, bop_add, bop_sub, bop_mod, bop_fdiv, bop_mul, ixOp_t0, ixOp_t1, ixOp_l, bsem_lenl, bsem_lent, gcv_u, gcv_d, isiD_i, isiD_b, isTok_i, isTok_b, isTok_n, isTok_t, isTok_l, isTok_s, and_true, true_and, Bool.false_eq_true, Bool.true_eq_false, Bool.not_true, Bool.not_false, Bool.not_not, noList_i, noList_b, noList_n, noList_t, plain_n, plain_c, lenlim, Nat.reduceAdd, Nat.reduceSub, isNon_n, isNon_i, isNon_b, isNon_t, isNon_l, isNon_s, ite_self, not_true_eq_false, not_false_eq_true, implies_true, false_and, and_false, decide_true, decide_false, decide_not, ixOp_s0, ixOp_s1, ixOp_p, ixOp_p0, ixOp_p1, ixOp_i, bsem_lenp, bsem_leni, isTok_sky, isTok_ps, isTok_is, isTok_p, noList_p, cop_eqi, cop_nei, bsem_max2, bsem_min2, ge0, d_is_int_i, toNat_nat, rangeD_len, eq_self, cop_eqil, cop_neil, cop_eqps, cop_neps, cop_eqp, cop_nep, Bool.and_true, Bool.true_and, big1, big2, cop_eqi0, cop_nei0, cop_eqp0, cop_nep0, bop_addps, bop_addis, bsem_maxl, bsem_minl, mtTy_index, msem_index, d_lpick2, d_lpick3, t_body_period, d_body_period, t_ever_at, d_ever_at, t_lat, d_lat, t_ldraw, d_ldraw, t_lrelative, d_lrelative, t_lsky, d_lsky, t_lsome, d_lsome, t_meeting_units, d_meeting_units, t_period, d_period, t_places, d_places, t_relative_period, d_relative_period, ↓reduceIte, foldI, foldP, cop_ne00, cop_eq00, Int.reduceSub, Int.reduceNeg, Int.reduceAdd, Int.reduceMul, Int.reduceToNat, b_law_13, ev, hM, List.head?_nil, en]
    rw [optD_n]
    have cn : cop .ne PyData.none PyData.none = some (.bool false) := rfl
    try simp (maxSteps := 2000000) (disch := first | assumption | omega) only [↓e_var, ↓e_ci, ↓e_cs, ↓e_cb, ↓e_cn, ↓e_gc, ↓e_bin, ↓e_neg, ↓e_inot, ↓e_cmp, ↓e_chain, ↓e_isN, ↓e_notN, ↓e_isB, ↓e_notB, ↓e_bool, ↓e_ife, ↓e_ix, ↓e_slc, ↓e_tup, ↓e_lst, ↓e_call, ↓e_bi, ↓e_mth, ↓e_lc, ↓e_isi, ↓e_srtSet, ↓e_lenSet, ↓e_lstRg, ↓e_lstRg3, ↓es_nil, ↓es_cons, ↓eb_one, ↓eb_and, ↓eb_or, ↓eo_none, ↓eo_some, ↓ec_none, ↓ec_some, ↓ei_list, ↓ei_tup, ↓ei_rg1, ↓ei_rg2, ↓ei_rg3, ↓ei_zip, ↓s_asgt, ↓s_asg, ↓s_own, ↓s_asgT, ↓s_par, ↓s_expr, ↓s_app, ↓s_setix, ↓s_augix, ↓s_iadd, ↓s_rem, ↓s_ret, ↓s_ifs, ↓s_fors, ↓s_whil, ↓s_raise, ↓s_shut, ↓ss_nil, ↓ss_cons, ↓sf_nil, ↓sf_cons, ↓mustF_s, mustF_s, ↓boolF_b, boolF_b, ↓intF_i, intF_i, ↓listF_l, listF_l, ↓listF_p, listF_p, ↓listF_i, listF_i, ↓tupF_t, tupF_t, ↓atV_d, atV_d, ↓atV_o, atV_o, ↓atO_o, atO_o, ↓cnd_t, cnd_t, ↓cnd_f, cnd_f, ↓bindF_1, bindF_1, ↓bindF_2, bindF_2, ↓bindF_p, bindF_p, ↓runs, runs, start, getS, setS, blank, blank1, List.map_cons, List.map_nil, List.length_cons, List.length_nil, List.cons_append, List.nil_append, List.replicate, Nat.sub_self, cop_lt, cop_le, cop_gt, cop_ge, bop_add, bop_sub, bop_mod, bop_fdiv, bop_mul, ixOp_t0, ixOp_t1, ixOp_l, bsem_lenl, bsem_lent, gcv_u, gcv_d, isiD_i, isiD_b, isTok_i, isTok_b, isTok_n, isTok_t, isTok_l, isTok_s, and_true, true_and, Bool.false_eq_true, Bool.true_eq_false, Bool.not_true, Bool.not_false, Bool.not_not, noList_i, noList_b, noList_n, noList_t, plain_n, plain_c, lenlim, Nat.reduceAdd, Nat.reduceSub, isNon_n, isNon_i, isNon_b, isNon_t, isNon_l, isNon_s, ite_self, not_true_eq_false, not_false_eq_true, implies_true, false_and, and_false, decide_true, decide_false, decide_not, ixOp_s0, ixOp_s1, ixOp_p, ixOp_p0, ixOp_p1, ixOp_i, bsem_lenp, bsem_leni, isTok_sky, isTok_ps, isTok_is, isTok_p, noList_p, cop_eqi, cop_nei, bsem_max2, bsem_min2, ge0, d_is_int_i, toNat_nat, rangeD_len, eq_self, cop_eqil, cop_neil, cop_eqps, cop_neps, cop_eqp, cop_nep, Bool.and_true, Bool.true_and, big1, big2, cop_eqi0, cop_nei0, cop_eqp0, cop_nep0, bop_addps, bop_addis, bsem_maxl, bsem_minl, mtTy_index, msem_index, d_lpick2, d_lpick3, t_body_period, d_body_period, t_ever_at, d_ever_at, t_lat, d_lat, t_ldraw, d_ldraw, t_lrelative, d_lrelative, t_lsky, d_lsky, t_lsome, d_lsome, t_meeting_units, d_meeting_units, t_period, d_period, t_places, d_places, t_relative_period, d_relative_period, ↓reduceIte, foldI, foldP, cop_ne00, cop_eq00, Int.reduceSub, Int.reduceNeg, Int.reduceAdd, Int.reduceMul, Int.reduceToNat, cn, en]
    exact fin _
  · have ll0 : (0 : Int) < M.length := by have := List.length_pos_iff.mpr hM; omega
    have hD := hdD hM
    try simp (maxSteps := 2000000) (disch := first | assumption | omega) only [↓e_var, ↓e_ci, ↓e_cs, ↓e_cb, ↓e_cn, ↓e_gc, ↓e_bin, ↓e_neg, ↓e_inot, ↓e_cmp, ↓e_chain, ↓e_isN, ↓e_notN, ↓e_isB, ↓e_notB, ↓e_bool, ↓e_ife, ↓e_ix, ↓e_slc, ↓e_tup, ↓e_lst, ↓e_call, ↓e_bi, ↓e_mth, ↓e_lc, ↓e_isi, ↓e_srtSet, ↓e_lenSet, ↓e_lstRg, ↓e_lstRg3, ↓es_nil, ↓es_cons, ↓eb_one, ↓eb_and, ↓eb_or, ↓eo_none, ↓eo_some, ↓ec_none, ↓ec_some, ↓ei_list, ↓ei_tup, ↓ei_rg1, ↓ei_rg2, ↓ei_rg3, ↓ei_zip, ↓s_asgt, ↓s_asg, ↓s_own, ↓s_asgT, ↓s_par, ↓s_expr, ↓s_app, ↓s_setix, ↓s_augix, ↓s_iadd, ↓s_rem, ↓s_ret, ↓s_ifs, ↓s_fors, ↓s_whil, ↓s_raise, ↓s_shut, ↓ss_nil, ↓ss_cons, ↓sf_nil, ↓sf_cons, ↓mustF_s, mustF_s, ↓boolF_b, boolF_b, ↓intF_i, intF_i, ↓listF_l, listF_l, ↓listF_p, listF_p, ↓listF_i, listF_i, ↓tupF_t, tupF_t, ↓atV_d, atV_d, ↓atV_o, atV_o, ↓atO_o, atO_o, ↓cnd_t, cnd_t, ↓cnd_f, cnd_f, ↓bindF_1, bindF_1, ↓bindF_2, bindF_2, ↓bindF_p, bindF_p, ↓runs, runs, start, getS, setS, blank, blank1, List.map_cons, List.map_nil, List.length_cons, List.length_nil, List.cons_append, List.nil_append, List.replicate, Nat.sub_self, cop_lt, cop_le, cop_gt, cop_ge, bop_add, bop_sub, bop_mod, bop_fdiv, bop_mul, ixOp_t0, ixOp_t1, ixOp_l, bsem_lenl, bsem_lent, gcv_u, gcv_d, isiD_i, isiD_b, isTok_i, isTok_b, isTok_n, isTok_t, isTok_l, isTok_s, and_true, true_and, Bool.false_eq_true, Bool.true_eq_false, Bool.not_true, Bool.not_false, Bool.not_not, noList_i, noList_b, noList_n, noList_t, plain_n, plain_c, lenlim, Nat.reduceAdd, Nat.reduceSub, isNon_n, isNon_i, isNon_b, isNon_t, isNon_l, isNon_s, ite_self, not_true_eq_false, not_false_eq_true, implies_true, false_and, and_false, decide_true, decide_false, decide_not, ixOp_s0, ixOp_s1, ixOp_p, ixOp_p0, ixOp_p1, ixOp_i, bsem_lenp, bsem_leni, isTok_sky, isTok_ps, isTok_is, isTok_p, noList_p, cop_eqi, cop_nei, bsem_max2, bsem_min2, ge0, d_is_int_i, toNat_nat, rangeD_len, eq_self, cop_eqil, cop_neil, cop_eqps, cop_neps, cop_eqp, cop_nep, Bool.and_true, Bool.true_and, big1, big2, cop_eqi0, cop_nei0, cop_eqp0, cop_nep0, bop_addps, bop_addis, bsem_maxl, bsem_minl, mtTy_index, msem_index, d_lpick2, d_lpick3, t_body_period, d_body_period, t_ever_at, d_ever_at, t_lat, d_lat, t_ldraw, d_ldraw, t_lrelative, d_lrelative, t_lsky, d_lsky, t_lsome, d_lsome, t_meeting_units, d_meeting_units, t_period, d_period, t_places, d_places, t_relative_period, d_relative_period, ↓reduceIte, foldI, foldP, cop_ne00, cop_eq00, Int.reduceSub, Int.reduceNeg, Int.reduceAdd, Int.reduceMul, Int.reduceToNat, b_law_13, ev, hM]
    rw [hD]
    try simp (maxSteps := 2000000) (disch := first | assumption | omega) only [↓e_var, ↓e_ci, ↓e_cs, ↓e_cb, ↓e_cn, ↓e_gc, ↓e_bin, ↓e_neg, ↓e_inot, ↓e_cmp, ↓e_chain, ↓e_isN, ↓e_notN, ↓e_isB, ↓e_notB, ↓e_bool, ↓e_ife, ↓e_ix, ↓e_slc, ↓e_tup, ↓e_lst, ↓e_call, ↓e_bi, ↓e_mth, ↓e_lc, ↓e_isi, ↓e_srtSet, ↓e_lenSet, ↓e_lstRg, ↓e_lstRg3, ↓es_nil, ↓es_cons, ↓eb_one, ↓eb_and, ↓eb_or, ↓eo_none, ↓eo_some, ↓ec_none, ↓ec_some, ↓ei_list, ↓ei_tup, ↓ei_rg1, ↓ei_rg2, ↓ei_rg3, ↓ei_zip, ↓s_asgt, ↓s_asg, ↓s_own, ↓s_asgT, ↓s_par, ↓s_expr, ↓s_app, ↓s_setix, ↓s_augix, ↓s_iadd, ↓s_rem, ↓s_ret, ↓s_ifs, ↓s_fors, ↓s_whil, ↓s_raise, ↓s_shut, ↓ss_nil, ↓ss_cons, ↓sf_nil, ↓sf_cons, ↓mustF_s, mustF_s, ↓boolF_b, boolF_b, ↓intF_i, intF_i, ↓listF_l, listF_l, ↓listF_p, listF_p, ↓listF_i, listF_i, ↓tupF_t, tupF_t, ↓atV_d, atV_d, ↓atV_o, atV_o, ↓atO_o, atO_o, ↓cnd_t, cnd_t, ↓cnd_f, cnd_f, ↓bindF_1, bindF_1, ↓bindF_2, bindF_2, ↓bindF_p, bindF_p, ↓runs, runs, start, getS, setS, blank, blank1, List.map_cons, List.map_nil, List.length_cons, List.length_nil, List.cons_append, List.nil_append, List.replicate, Nat.sub_self, cop_lt, cop_le, cop_gt, cop_ge, bop_add, bop_sub, bop_mod, bop_fdiv, bop_mul, ixOp_t0, ixOp_t1, ixOp_l, bsem_lenl, bsem_lent, gcv_u, gcv_d, isiD_i, isiD_b, isTok_i, isTok_b, isTok_n, isTok_t, isTok_l, isTok_s, and_true, true_and, Bool.false_eq_true, Bool.true_eq_false, Bool.not_true, Bool.not_false, Bool.not_not, noList_i, noList_b, noList_n, noList_t, plain_n, plain_c, lenlim, Nat.reduceAdd, Nat.reduceSub, isNon_n, isNon_i, isNon_b, isNon_t, isNon_l, isNon_s, ite_self, not_true_eq_false, not_false_eq_true, implies_true, false_and, and_false, decide_true, decide_false, decide_not, ixOp_s0, ixOp_s1, ixOp_p, ixOp_p0, ixOp_p1, ixOp_i, bsem_lenp, bsem_leni, isTok_sky, isTok_ps, isTok_is, isTok_p, noList_p, cop_eqi, cop_nei, bsem_max2, bsem_min2, ge0, d_is_int_i, toNat_nat, rangeD_len, eq_self, cop_eqil, cop_neil, cop_eqps, cop_neps, cop_eqp, cop_nep, Bool.and_true, Bool.true_and, big1, big2, cop_eqi0, cop_nei0, cop_eqp0, cop_nep0, bop_addps, bop_addis, bsem_maxl, bsem_minl, mtTy_index, msem_index, d_lpick2, d_lpick3, t_body_period, d_body_period, t_ever_at, d_ever_at, t_lat, d_lat, t_ldraw, d_ldraw, t_lrelative, d_lrelative, t_lsky, d_lsky, t_lsome, d_lsome, t_meeting_units, d_meeting_units, t_period, d_period, t_places, d_places, t_relative_period, d_relative_period, ↓reduceIte, foldI, foldP, cop_ne00, cop_eq00, Int.reduceSub, Int.reduceNeg, Int.reduceAdd, Int.reduceMul, Int.reduceToNat, cop_neoD, en]
    exact fin _
end K02
end Sk
set_option maxRecDepth 100000
set_option maxHeartbeats 4000000
namespace Sk
namespace K02
open PySem L2
def topS (i : Nat) : Stmt := PySem.Challenge.pw_skycycles_k02_whole_periods.main.body.getD i (.Pass ⟨0, 0, 0, 0⟩)
def lnm : Nat → Str
  | _ => "law"
abbrev s_is_int : Stmt := topS 7
def n_is_int : List Str := ["value", "low", "high"]
theorem sc_is_int : FnScope n_is_int ["value", "low", "high"] (defScope s_is_int) := ⟨rfl, rfl, rfl, by decide +kernel, rfl, by decide +kernel, by decide +kernel⟩
theorem ch_is_int : chSs ⟨n_is_int, lnm, [], [], ["bool", "int", "isinstance"], []⟩ b_is_int (defScope s_is_int) (defBody s_is_int) = true := by decide +kernel
abbrev s_is_body : Stmt := topS 8
def n_is_body : List Str := ["units", "value"]
theorem sc_is_body : FnScope n_is_body ["units", "value"] (defScope s_is_body) := ⟨rfl, rfl, rfl, by decide +kernel, rfl, by decide +kernel, by decide +kernel⟩
theorem ch_is_body : chSs ⟨n_is_body, lnm, [.is_int], [], ["isinstance", "len", "tuple"], []⟩ b_is_body (defScope s_is_body) (defBody s_is_body) = true := by decide +kernel
abbrev s_is_sky : Stmt := topS 9
def n_is_sky : List Str := ["value", "one"]
theorem sc_is_sky : FnScope n_is_sky ["value"] (defScope s_is_sky) := ⟨rfl, rfl, rfl, by decide +kernel, rfl, by decide +kernel, by decide +kernel⟩
theorem ch_is_sky : chSs ⟨n_is_sky, lnm, [.is_body, .is_int], [.units], ["all", "isinstance", "len", "list", "tuple"], []⟩ b_is_sky (defScope s_is_sky) (defBody s_is_sky) = true := by decide +kernel
abbrev s_check_sky : Stmt := topS 10
def n_check_sky : List Str := ["value"]
theorem sc_check_sky : FnScope n_check_sky ["value"] (defScope s_check_sky) := ⟨rfl, rfl, rfl, by decide +kernel, rfl, by decide +kernel, by decide +kernel⟩
theorem ch_check_sky : chSs ⟨n_check_sky, lnm, [.is_sky], [], [], [.sky]⟩ b_check_sky (defScope s_check_sky) (defBody s_check_sky) = true := by decide +kernel
abbrev s_check_body : Stmt := topS 11
def n_check_body : List Str := ["sky", "value"]
theorem sc_check_body : FnScope n_check_body ["sky", "value"] (defScope s_check_body) := ⟨rfl, rfl, rfl, by decide +kernel, rfl, by decide +kernel, by decide +kernel⟩
theorem ch_check_body : chSs ⟨n_check_body, lnm, [.is_int], [], ["len"], [.bodies]⟩ b_check_body (defScope s_check_body) (defBody s_check_body) = true := by decide +kernel
abbrev s_check_some : Stmt := topS 12
def n_check_some : List Str := ["sky", "value", "one"]
theorem sc_check_some : FnScope n_check_some ["sky", "value"] (defScope s_check_some) := ⟨rfl, rfl, rfl, by decide +kernel, rfl, by decide +kernel, by decide +kernel⟩
theorem ch_check_some : chSs ⟨n_check_some, lnm, [.is_int], [], ["all", "isinstance", "len", "list", "set"], [.bodies]⟩ b_check_some (defScope s_check_some) (defBody s_check_some) = true := by decide +kernel
abbrev s_check_day : Stmt := topS 13
def n_check_day : List Str := ["value"]
theorem sc_check_day : FnScope n_check_day ["value"] (defScope s_check_day) := ⟨rfl, rfl, rfl, by decide +kernel, rfl, by decide +kernel, by decide +kernel⟩
theorem ch_check_day : chSs ⟨n_check_day, lnm, [.is_int], [.day], [], [.day]⟩ b_check_day (defScope s_check_day) (defBody s_check_day) = true := by decide +kernel
abbrev s_common : Stmt := topS 15
def n_common : List Str := ["one", "other"]
theorem sc_common : FnScope n_common ["one", "other"] (defScope s_common) := ⟨rfl, rfl, rfl, by decide +kernel, rfl, by decide +kernel, by decide +kernel⟩
theorem ch_common : chSs ⟨n_common, lnm, [], [], [], []⟩ b_common (defScope s_common) (defBody s_common) = true := by decide +kernel
abbrev s_joint : Stmt := topS 16
def n_joint : List Str := ["one", "other"]
theorem sc_joint : FnScope n_joint ["one", "other"] (defScope s_joint) := ⟨rfl, rfl, rfl, by decide +kernel, rfl, by decide +kernel, by decide +kernel⟩
theorem ch_joint : chSs ⟨n_joint, lnm, [.common], [], [], []⟩ b_joint (defScope s_joint) (defBody s_joint) = true := by decide +kernel
abbrev s_round_of : Stmt := topS 17
def n_round_of : List Str := ["units", "rate"]
theorem sc_round_of : FnScope n_round_of ["units", "rate"] (defScope s_round_of) := ⟨rfl, rfl, rfl, by decide +kernel, rfl, by decide +kernel, by decide +kernel⟩
theorem ch_round_of : chSs ⟨n_round_of, lnm, [.common], [], [], []⟩ b_round_of (defScope s_round_of) (defBody s_round_of) = true := by decide +kernel
abbrev s_body_period : Stmt := topS 18
def n_body_period : List Str := ["sky", "body"]
theorem sc_body_period : FnScope n_body_period ["sky", "body"] (defScope s_body_period) := ⟨rfl, rfl, rfl, by decide +kernel, rfl, by decide +kernel, by decide +kernel⟩
theorem ch_body_period : chSs ⟨n_body_period, lnm, [.check_body, .check_sky, .round_of], [], [], []⟩ b_body_period (defScope s_body_period) (defBody s_body_period) = true := by decide +kernel
abbrev s_period_of : Stmt := topS 19
def n_period_of : List Str := ["sky", "found", "start", "rate"]
theorem sc_period_of : FnScope n_period_of ["sky"] (defScope s_period_of) := ⟨rfl, rfl, rfl, by decide +kernel, rfl, by decide +kernel, by decide +kernel⟩
theorem ch_period_of : chSs ⟨n_period_of, lnm, [.joint, .round_of], [], [], []⟩ b_period_of (defScope s_period_of) (defBody s_period_of) = true := by decide +kernel
abbrev s_period : Stmt := topS 20
def n_period : List Str := ["sky"]
theorem sc_period : FnScope n_period ["sky"] (defScope s_period) := ⟨rfl, rfl, rfl, by decide +kernel, rfl, by decide +kernel, by decide +kernel⟩
theorem ch_period : chSs ⟨n_period, lnm, [.check_sky, .period_of], [], [], []⟩ b_period (defScope s_period) (defBody s_period) = true := by decide +kernel
abbrev s_relative_of : Stmt := topS 21
def n_relative_of : List Str := ["sky", "some", "found", "first", "body"]
theorem sc_relative_of : FnScope n_relative_of ["sky", "some"] (defScope s_relative_of) := ⟨rfl, rfl, rfl, by decide +kernel, rfl, by decide +kernel, by decide +kernel⟩
theorem ch_relative_of : chSs ⟨n_relative_of, lnm, [.joint, .round_of], [], [], []⟩ b_relative_of (defScope s_relative_of) (defBody s_relative_of) = true := by decide +kernel
abbrev s_relative_period : Stmt := topS 22
def n_relative_period : List Str := ["sky", "some"]
theorem sc_relative_period : FnScope n_relative_period ["sky", "some"] (defScope s_relative_period) := ⟨rfl, rfl, rfl, by decide +kernel, rfl, by decide +kernel, by decide +kernel⟩
theorem ch_relative_period : chSs ⟨n_relative_period, lnm, [.check_sky, .check_some, .relative_of], [], [], []⟩ b_relative_period (defScope s_relative_period) (defBody s_relative_period) = true := by decide +kernel
abbrev s_meeting_units : Stmt := topS 23
def n_meeting_units : List Str := ["sky", "one", "other", "step"]
theorem sc_meeting_units : FnScope n_meeting_units ["sky", "one", "other"] (defScope s_meeting_units) := ⟨rfl, rfl, rfl, by decide +kernel, rfl, by decide +kernel, by decide +kernel⟩
theorem ch_meeting_units : chSs ⟨n_meeting_units, lnm, [.check_body, .check_sky, .common], [], [], []⟩ b_meeting_units (defScope s_meeting_units) (defBody s_meeting_units) = true := by decide +kernel
abbrev s_ever_at : Stmt := topS 24
def n_ever_at : List Str := ["sky", "body", "unit", "start", "rate", "day"]
theorem sc_ever_at : FnScope n_ever_at ["sky", "body", "unit"] (defScope s_ever_at) := ⟨rfl, rfl, rfl, by decide +kernel, rfl, by decide +kernel, by decide +kernel⟩
theorem ch_ever_at : chSs ⟨n_ever_at, lnm, [.check_body, .check_sky, .is_int, .round_of], [], ["range"], []⟩ b_ever_at (defScope s_ever_at) (defBody s_ever_at) = true := by decide +kernel
abbrev s_place_of : Stmt := topS 26
def n_place_of : List Str := ["sky", "body", "day", "start", "rate"]
theorem sc_place_of : FnScope n_place_of ["sky", "body", "day"] (defScope s_place_of) := ⟨rfl, rfl, rfl, by decide +kernel, rfl, by decide +kernel, by decide +kernel⟩
theorem ch_place_of : chSs ⟨n_place_of, lnm, [], [], [], []⟩ b_place_of (defScope s_place_of) (defBody s_place_of) = true := by decide +kernel
abbrev s_places : Stmt := topS 27
def n_places : List Str := ["sky", "day", "body"]
theorem sc_places : FnScope n_places ["sky", "day"] (defScope s_places) := ⟨rfl, rfl, rfl, by decide +kernel, rfl, by decide +kernel, by decide +kernel⟩
theorem ch_places : chSs ⟨n_places, lnm, [.check_day, .check_sky, .place_of], [], ["len", "range"], []⟩ b_places (defScope s_places) (defBody s_places) = true := by decide +kernel
abbrev s_law_start : Stmt := topS 29
def n_law_start : List Str := ["script"]
theorem sc_law_start : FnScope n_law_start ["script"] (defScope s_law_start) := ⟨rfl, rfl, rfl, by decide +kernel, rfl, by decide +kernel, by decide +kernel⟩
abbrev s_law_draw : Stmt := topS 30
def n_law_draw : List Str := ["draws", "limit", "numbers", "at", "cell", "mixed"]
theorem sc_law_draw : FnScope n_law_draw ["draws", "limit"] (defScope s_law_draw) := ⟨rfl, rfl, rfl, by decide +kernel, rfl, by decide +kernel, by decide +kernel⟩
abbrev s_law_pick : Stmt := topS 31
def n_law_pick : List Str := ["draws", "choices"]
theorem sc_law_pick : FnScope n_law_pick ["draws", "choices"] (defScope s_law_pick) := ⟨rfl, rfl, rfl, by decide +kernel, rfl, by decide +kernel, by decide +kernel⟩
theorem ch_law_pick : chSs ⟨n_law_pick, lnm, [.ldraw], [], ["len"], []⟩ b_law_pick (defScope s_law_pick) (defBody s_law_pick) = true := by decide +kernel
abbrev s_law_sky : Stmt := topS 32
def n_law_sky : List Str := ["draws", "most", "many", "units", "bodies", "k"]
theorem sc_law_sky : FnScope n_law_sky ["draws", "most", "many"] (defScope s_law_sky) := ⟨rfl, rfl, rfl, by decide +kernel, rfl, by decide +kernel, by decide +kernel⟩
theorem ch_law_sky : chSs ⟨n_law_sky, lnm, [.ldraw], [], ["range"], []⟩ b_law_sky (defScope s_law_sky) (defBody s_law_sky) = true := by decide +kernel
abbrev s_law_some : Stmt := topS 33
def n_law_some : List Str := ["draws", "sky", "left", "found", "k"]
theorem sc_law_some : FnScope n_law_some ["draws", "sky"] (defScope s_law_some) := ⟨rfl, rfl, rfl, by decide +kernel, rfl, by decide +kernel, by decide +kernel⟩
theorem ch_law_some : chSs ⟨n_law_some, lnm, [.ldraw, .lpick], [], ["len", "list", "range"], []⟩ b_law_some (defScope s_law_some) (defBody s_law_some) = true := by decide +kernel
abbrev s_law_at : Stmt := topS 34
def n_law_at : List Str := ["sky", "body", "day"]
theorem sc_law_at : FnScope n_law_at ["sky", "body", "day"] (defScope s_law_at) := ⟨rfl, rfl, rfl, by decide +kernel, rfl, by decide +kernel, by decide +kernel⟩
theorem ch_law_at : chSs ⟨n_law_at, lnm, [], [], [], []⟩ b_law_at (defScope s_law_at) (defBody s_law_at) = true := by decide +kernel
abbrev s_law_relative : Stmt := topS 35
def n_law_relative : List Str := ["sky", "some", "gaps", "body", "day", "gap"]
theorem sc_law_relative : FnScope n_law_relative ["sky", "some"] (defScope s_law_relative) := ⟨rfl, rfl, rfl, by decide +kernel, rfl, by decide +kernel, by decide +kernel⟩
theorem ch_law_relative : chSs ⟨n_law_relative, lnm, [], [], [], []⟩ b_law_relative (defScope s_law_relative) (defBody s_law_relative) = true := by decide +kernel
abbrev s_law : Stmt := topS 36
def n_law : List Str := ["script", "draws", "sky", "units", "count", "body", "told", "good", "day", "some", "one", "other", "rest", "step", "gaps", "unit", "days_here"]
theorem sc_law : FnScope n_law ["script"] (defScope s_law) := ⟨rfl, rfl, rfl, by decide +kernel, rfl, by decide +kernel, by decide +kernel⟩
theorem ch_law : chSs ⟨n_law, lnm, [.body_period, .ever_at, .lat, .ldraw, .lrelative, .lsky, .lsome, .meeting_units, .period, .places, .relative_period], [], ["len", "list", "range", "set", "sorted"], []⟩ b_law (defScope s_law) ((defBody s_law).drop 1) = true := by decide +kernel
def T : Fn → Spec
  | .ldraw => sp_ldraw
  | .is_int => sp_is_int
  | .is_body => sp_is_body
  | .is_sky => sp_is_sky
  | .check_sky => sp_check_sky
  | .check_body => sp_check_body
  | .check_some => sp_check_some
  | .check_day => sp_check_day
  | .common => sp_common
  | .joint => sp_joint
  | .round_of => sp_round_of
  | .body_period => sp_body_period
  | .period_of => sp_period_of
  | .period => sp_period
  | .relative_of => sp_relative_of
  | .relative_period => sp_relative_period
  | .meeting_units => sp_meeting_units
  | .ever_at => sp_ever_at
  | .place_of => sp_place_of
  | .places => sp_places
  | .lpick => sp_lpick
  | .lsky => sp_lsky
  | .lsome => sp_lsome
  | .lat => sp_lat
  | .lrelative => sp_lrelative
  | _ => fun _ _ _ => False
section
variable {P : Program} {w : World} {K : PySem.W.Frag} {mg : Str → Option Value} {base : Heap}
theorem all_nil {α : Type} [BEq α] {p : α → Prop} : ∀ x, ([] : List α).contains x = true → p x := fun x h => by simp at h
theorem all_cons {α : Type} [BEq α] [LawfulBEq α] {p : α → Prop} {a : α} {l : List α} (ha : p a) (hl : ∀ x, l.contains x = true → p x) : ∀ x, (a :: l).contains x = true → p x := fun x h => by
  simp only [List.contains_cons, Bool.or_eq_true, beq_iff_eq] at h
  rcases h with h | h
  · rw [h]; exact ha
  · exact hl x h
theorem draw_rd {f : Addr} (hl : mg "len" = none) (cdv : Value) (A : Around) (outer : List Env) (s : Shared) (H : Hp) (E : XK) : ∃ t, PSs (cxOf (L2.CX P w) P w K mg base drawN "_law_draw" (defScope s_law_draw) f cdv A outer s H E) (defBody s_law_draw) t ∧ DrawRd t := by
  refine ⟨_, pss_cons (ps_set (i := 2) sc_law_draw.nd rfl (.inl rfl) (pe_ix ix_list (pv 0) pe_int (fun _ _ => rfl)))
   (pss_cons (ps_asg (pe_op op_add (pe_ix ix_list (pv 0) pe_int (fun _ _ => rfl)) pe_int) (pg_sub (pv 0) pe_int set_list))
   (pss_cons (ps_set (i := 3) sc_law_draw.nd rfl (.inl rfl) (pe_op op_mod (pe_ix ix_list (pv 0) pe_int (fun _ _ => rfl)) (pe_callB call_len_seq (by rfl) hl PySem.boot_len (pa_cons (pv 2) pa_nil))))
   (pss_cons (ps_set (i := 4) sc_law_draw.nd rfl (.inl rfl) (pe_ix ix_list (pv 2) (pv 3) (fun _ _ => rfl)))
   (pss_cons (ps_if (pt_cmpR op_ge (pv 4) pe_int (nomark _)) (pss_cons (ps_asg (pe_op op_fdiv (pv 4) (pv 1)) (pg_sub (pv 2) (pv 3) set_list)) (pss_one (ps_ret (pe_op op_mod (pv 4) (pv 1))))) pss_nil)
   (pss_cons (ps_set (i := 5) sc_law_draw.nd rfl (.inl rfl) (pe_op op_mod (pe_op op_add (pv 4) (pe_op op_mul pe_int (pe_ix ix_list (pv 0) pe_int (fun _ _ => rfl)))) pe_int))
   (pss_cons (ps_set (i := 5) sc_law_draw.nd rfl (.inl rfl) (pe_op op_mod (pe_op op_pow (pv 5) pe_int) pe_int))
   (pss_one (ps_ret (pe_op op_mod (pe_op op_fdiv (pe_op op_mod (pe_op op_add (pe_op op_mul (pe_op op_fdiv (pv 5) pe_int) pe_int) (pv 5)) pe_int) pe_int) (pv 1)))))))))), ?_⟩
  intro a n c lm nums H Q nx han ha hn hne hlen l0 l1 hq
  have hm : (nums.length : Int) ≠ 0 := by
    have := List.length_pos_iff.mpr hne
    omega
  have hp : 0 < nums.length := List.length_pos_iff.mpr hne
  have k0 : 0 ≤ (c + 1) % (nums.length : Int) := Int.emod_nonneg _ hm
  have k1 : (c + 1) % (nums.length : Int) < nums.length := Int.emod_lt_of_pos _ (by omega)
  refine ⟨.ref a, rfl, a, _, 0, .ref n, rfl, rfl, SqL.of ha, rfl, ?_⟩
  refine ⟨.ref a, rfl, a, _, 1, .int c, rfl, rfl, SqL.of ha, rfl, c, 1, rfl, rfl, ?_⟩
  refine ⟨.ref a, rfl, a, _, 1, 1, rfl, rfl, ha, rfl, ?_⟩
  have ha2 : (upd H a (.lst ([V.ref n, V.int c].set 1 (.int (c + 1))))) a = some (.lst [V.ref n, V.int (c + 1)]) := upd_same
  have hn2 : (upd H a (.lst ([V.ref n, V.int c].set 1 (.int (c + 1))))) n = some (.lst (nums.map V.int)) := by rw [upd_ne (Ne.symm han)]; exact hn
  have ho2 : ∀ b, b ≠ a → b ≠ n → (upd H a (.lst ([V.ref n, V.int c].set 1 (.int (c + 1))))) b = H b := fun b hb _ => upd_ne hb
  generalize (upd H a (.lst ([V.ref n, V.int c].set 1 (.int (c + 1))))) = H2 at *
  refine ⟨.ref a, rfl, a, _, 1, .int (c + 1), rfl, rfl, SqL.of ha2, rfl, .ref n, rfl, n, _, rfl, .inl (SqL.of hn2), c + 1, ((nums.map V.int).length : Int), rfl, rfl, ?_, ?_⟩
  · rw [List.length_map]; omega
  rw [List.length_map]
  have hc : ((c + 1) % (nums.length : Int)).toNat < nums.length := by omega
  have hat : atI (nums.map V.int) ((c + 1) % (nums.length : Int)) = some (.int nums[((c + 1) % (nums.length : Int)).toNat]) := by
    unfold atI ixN
    rw [List.length_map, if_pos k0, if_pos k1]
    simp only [Option.bind_some]
    rw [List.getElem?_map, List.getElem?_eq_getElem hc]
    rfl
  refine ⟨.ref n, rfl, .int ((c + 1) % (nums.length : Int)), rfl, n, _, ((c + 1) % (nums.length : Int)), .int nums[((c + 1) % (nums.length : Int)).toNat], rfl, rfl, SqL.of hn2, hat, ?_⟩
  refine ⟨_, rfl, (nums[((c + 1) % (nums.length : Int)).toNat]), 1000000000000000000, rfl, rfl, _, rfl, ite2 (fun e => ?_) (fun e => ?_)⟩
  · have hix : ixN (nums.map V.int).length ((c + 1) % (nums.length : Int)) = some ((c + 1) % (nums.length : Int)).toNat := by
      unfold ixN
      rw [List.length_map, if_pos k0, if_pos k1]
    refine ⟨_, rfl, _, rfl, (nums[((c + 1) % (nums.length : Int)).toNat]), lm, rfl, rfl, ⟨l0, by omega⟩, .ref n, rfl, .int ((c + 1) % (nums.length : Int)), rfl, n, _, ((c + 1) % (nums.length : Int)), ((c + 1) % (nums.length : Int)).toNat, rfl, rfl, hn2, hix, ?_⟩
    refine ⟨_, rfl, _, rfl, (nums[((c + 1) % (nums.length : Int)).toNat]), lm, rfl, rfl, l0, ?_⟩
    refine hq _ (c + 1) (nums.set ((c + 1) % (nums.length : Int)).toNat ((nums[((c + 1) % (nums.length : Int)).toNat]) / lm)) (Int.emod_nonneg _ (by omega)) (Int.emod_lt_of_pos _ l0) (fun z => ?_) (by rw [List.length_set]; exact hlen) _ (fun b hb hb2 => ?_) ?_ ?_
    · have := congrArg List.length z
      rw [List.length_set] at this
      simp at this
      exact hne this
    · rw [upd_ne hb2]; exact ho2 b hb hb2
    · rw [upd_ne han]; exact ha2
    · rw [upd_same, List.map_set]
  · refine ⟨_, rfl, .ref a, rfl, a, _, 1, .int (c + 1), rfl, rfl, SqL.of ha2, rfl, 104729, c + 1, rfl, rfl, .inl (by decide), (nums[((c + 1) % (nums.length : Int)).toNat]), _, rfl, rfl, _, 4294967291, rfl, rfl, show (0 : Int) < 4294967291 by decide, ?_⟩
    have m0 : 0 ≤ (((nums[((c + 1) % (nums.length : Int)).toNat]) + 104729 * (c + 1)) % 4294967291) := Int.emod_nonneg _ (by decide)
    have m1 : (((nums[((c + 1) % (nums.length : Int)).toNat]) + 104729 * (c + 1)) % 4294967291) < 4294967291 := Int.emod_lt_of_pos _ (by decide)
    refine ⟨_, rfl, (((nums[((c + 1) % (nums.length : Int)).toNat]) + 104729 * (c + 1)) % 4294967291), 5, rfl, rfl, ⟨by decide, by decide, by omega⟩, _, 4294967279, rfl, rfl, show (0 : Int) < 4294967279 by decide, ?_⟩
    refine ⟨_, rfl, ((((nums[((c + 1) % (nums.length : Int)).toNat]) + 104729 * (c + 1)) % 4294967291) ^ (5 : Int).toNat % 4294967279), 64, rfl, rfl, ⟨by decide, by decide⟩, ((((nums[((c + 1) % (nums.length : Int)).toNat]) + 104729 * (c + 1)) % 4294967291) ^ (5 : Int).toNat % 4294967279) / 64, 69621, rfl, rfl, .inr (by decide), _, rfl, ((((nums[((c + 1) % (nums.length : Int)).toNat]) + 104729 * (c + 1)) % 4294967291) ^ (5 : Int).toNat % 4294967279) / 64 * 69621, ((((nums[((c + 1) % (nums.length : Int)).toNat]) + 104729 * (c + 1)) % 4294967291) ^ (5 : Int).toNat % 4294967279), rfl, rfl, _, 4294967231, rfl, rfl, show (0 : Int) < 4294967231 by decide, _, 8, rfl, rfl, ⟨by decide, by decide⟩, _, rfl, _, lm, rfl, rfl, l0, ?_⟩
    exact hq _ (c + 1) nums (Int.emod_nonneg _ (by omega)) (Int.emod_lt_of_pos _ l0) hne hlen _ ho2 ha2 hn2
theorem dp_ints {H : Hp} : ∀ ns : List Int, DpAll K H (ns.map V.int) (ns.map PyData.int)
  | [] => .nil
  | n :: r => .cons (.int n) (dp_ints r)
theorem same_upd {H : Hp} {p : Addr} {o : HO} (h : H p = none) : Same H (upd H p o) := fun b x e => by
  rw [upd_ne (ne_of_none e h)]
  exact e
theorem ok_start {f : Addr} {fd : FuncData} {k : Nat} (Fn : Fun K "_law_start" "_law_start" s_law_start f fd) (hl : mg "list" = none) : FnOk P w K mg base (L2.CX P w) (k + 1) f fd ["script"] (spStart K) := by
  refine Fn.okX sc_law_start (fun vs H Q E h => ?_) (fun cdv A outer s H vs Q E hr h => ?_)
  · obtain ⟨a, ns, rfl, _⟩ := h
    rfl
  · obtain ⟨a, ns, rfl, hS, hlen, q⟩ := h
    refine ⟨_, pss_one (ps_ret (pe_lst (pa_cons (pe_ifExp (pt_cmpR (op_neD hr.units) (pv 0) (pe_lst pa_nil) (nomark _)) (pe_callTy call_list_of (by rfl) hl PyProof.Rows.boot_list (pa_cons (pv 0) pa_nil)) (pe_lst (pa_cons pe_int pa_nil))) (pa_cons pe_int pa_nil)))), ?_⟩
    show ∃ x, _
    refine ⟨.ref a, rfl, ?_⟩
    refine ⟨by decide, fun z hz => ?_⟩
    have s1 : Same H (upd H z (.lst [])) := same_upd hz
    have h1 : SqL K (upd H z (.lst [])) a (ns.map V.int) := s1.seq hS
    have hne0 : ∀ {b : Addr}, (upd H z (.lst [])) b = none → H b = none ∧ b ≠ z := fun {b} hb => by
      have : b ≠ z := fun e => by rw [e, upd_same] at hb; cases hb
      rw [upd_ne this] at hb
      exact ⟨hb, this⟩
    refine ⟨intsD ns, PyData.list [], .lst h1 (dp_ints ns), .lst (SqL.of upd_same) .nil, okD_shaped (n := 1) (by omega) okD_is, rfl, _, rfl, ite2 (fun e => ?_) (fun e => ?_)⟩
    · have e1 : ns ≠ [] := fun z => by subst z; simp [PyData.eqv, PyData.eqvAll, intsD] at e
      refine ⟨.ref a, rfl, a, _, rfl, .inl h1, fun l hl => ?_⟩
      obtain ⟨l1, l2⟩ := hne0 hl
      refine ⟨show 2 ≤ sizeLine by decide, fun p hp => ?_⟩
      have hpl : p ≠ l := fun e => by rw [e, upd_same] at hp; cases hp
      rw [upd_ne hpl] at hp
      obtain ⟨p1, p2⟩ := hne0 hp
      refine q p l ns _ p1 l1 hpl upd_same ?_ e1 (by omega)
      rw [upd_ne (Ne.symm hpl), upd_same]
    · refine ⟨by decide, fun l hl => ?_⟩
      obtain ⟨l1, l2⟩ := hne0 hl
      refine ⟨show 2 ≤ sizeLine by decide, fun p hp => ?_⟩
      have hpl : p ≠ l := fun e => by rw [e, upd_same] at hp; cases hp
      rw [upd_ne hpl] at hp
      obtain ⟨p1, p2⟩ := hne0 hp
      refine q p l [0] _ p1 l1 hpl upd_same ?_ (by simp) (by simp)
      rw [upd_ne (Ne.symm hpl), upd_same]
      rfl
theorem cx_no {H : Hp} {s s' : Shared} {e : Value} (h : L2.CX P w [] H s (fun _ _ _ => False) e s') : False := by
  obtain ⟨_, _, _, _, _, _, _, _, _, _, _, _, h⟩ := h
  exact h
end
theorem all_mk {l : PySem.W.OpenLaw} {w : World} {K : PySem.W.Frag} {h : Heap} {mg : Str → Option Value} {fa : Addr} (X : K.In h) (G : h.Ns mainGlobals mg) (hfa : mg "law" = some (.ref fa))
    {f_is_int : Addr} {od_is_int an_is_int : Option Addr} {sl_is_int : Array (Option Value)} {oc_is_int kV_is_int dc_is_int pm_is_int cd_is_int ct_is_int : Value}
    {f_is_body : Addr} {od_is_body an_is_body : Option Addr} {sl_is_body : Array (Option Value)} {oc_is_body kV_is_body dc_is_body pm_is_body cd_is_body ct_is_body : Value}
    {f_is_sky : Addr} {od_is_sky an_is_sky : Option Addr} {sl_is_sky : Array (Option Value)} {oc_is_sky kV_is_sky dc_is_sky pm_is_sky cd_is_sky ct_is_sky : Value}
    {f_check_sky : Addr} {od_check_sky an_check_sky : Option Addr} {sl_check_sky : Array (Option Value)} {oc_check_sky kV_check_sky dc_check_sky pm_check_sky cd_check_sky ct_check_sky : Value}
    {f_check_body : Addr} {od_check_body an_check_body : Option Addr} {sl_check_body : Array (Option Value)} {oc_check_body kV_check_body dc_check_body pm_check_body cd_check_body ct_check_body : Value}
    {f_check_some : Addr} {od_check_some an_check_some : Option Addr} {sl_check_some : Array (Option Value)} {oc_check_some kV_check_some dc_check_some pm_check_some cd_check_some ct_check_some : Value}
    {f_check_day : Addr} {od_check_day an_check_day : Option Addr} {sl_check_day : Array (Option Value)} {oc_check_day kV_check_day dc_check_day pm_check_day cd_check_day ct_check_day : Value}
    {f_common : Addr} {od_common an_common : Option Addr} {sl_common : Array (Option Value)} {oc_common kV_common dc_common pm_common cd_common ct_common : Value}
    {f_joint : Addr} {od_joint an_joint : Option Addr} {sl_joint : Array (Option Value)} {oc_joint kV_joint dc_joint pm_joint cd_joint ct_joint : Value}
    {f_round_of : Addr} {od_round_of an_round_of : Option Addr} {sl_round_of : Array (Option Value)} {oc_round_of kV_round_of dc_round_of pm_round_of cd_round_of ct_round_of : Value}
    {f_body_period : Addr} {od_body_period an_body_period : Option Addr} {sl_body_period : Array (Option Value)} {oc_body_period kV_body_period dc_body_period pm_body_period cd_body_period ct_body_period : Value}
    {f_period_of : Addr} {od_period_of an_period_of : Option Addr} {sl_period_of : Array (Option Value)} {oc_period_of kV_period_of dc_period_of pm_period_of cd_period_of ct_period_of : Value}
    {f_period : Addr} {od_period an_period : Option Addr} {sl_period : Array (Option Value)} {oc_period kV_period dc_period pm_period cd_period ct_period : Value}
    {f_relative_of : Addr} {od_relative_of an_relative_of : Option Addr} {sl_relative_of : Array (Option Value)} {oc_relative_of kV_relative_of dc_relative_of pm_relative_of cd_relative_of ct_relative_of : Value}
    {f_relative_period : Addr} {od_relative_period an_relative_period : Option Addr} {sl_relative_period : Array (Option Value)} {oc_relative_period kV_relative_period dc_relative_period pm_relative_period cd_relative_period ct_relative_period : Value}
    {f_meeting_units : Addr} {od_meeting_units an_meeting_units : Option Addr} {sl_meeting_units : Array (Option Value)} {oc_meeting_units kV_meeting_units dc_meeting_units pm_meeting_units cd_meeting_units ct_meeting_units : Value}
    {f_ever_at : Addr} {od_ever_at an_ever_at : Option Addr} {sl_ever_at : Array (Option Value)} {oc_ever_at kV_ever_at dc_ever_at pm_ever_at cd_ever_at ct_ever_at : Value}
    {f_place_of : Addr} {od_place_of an_place_of : Option Addr} {sl_place_of : Array (Option Value)} {oc_place_of kV_place_of dc_place_of pm_place_of cd_place_of ct_place_of : Value}
    {f_places : Addr} {od_places an_places : Option Addr} {sl_places : Array (Option Value)} {oc_places kV_places dc_places pm_places cd_places ct_places : Value}
    {f_law_start : Addr} {od_law_start an_law_start : Option Addr} {sl_law_start : Array (Option Value)} {oc_law_start kV_law_start dc_law_start pm_law_start cd_law_start ct_law_start : Value}
    {f_law_draw : Addr} {od_law_draw an_law_draw : Option Addr} {sl_law_draw : Array (Option Value)} {oc_law_draw kV_law_draw dc_law_draw pm_law_draw cd_law_draw ct_law_draw : Value}
    {f_law_pick : Addr} {od_law_pick an_law_pick : Option Addr} {sl_law_pick : Array (Option Value)} {oc_law_pick kV_law_pick dc_law_pick pm_law_pick cd_law_pick ct_law_pick : Value}
    {f_law_sky : Addr} {od_law_sky an_law_sky : Option Addr} {sl_law_sky : Array (Option Value)} {oc_law_sky kV_law_sky dc_law_sky pm_law_sky cd_law_sky ct_law_sky : Value}
    {f_law_some : Addr} {od_law_some an_law_some : Option Addr} {sl_law_some : Array (Option Value)} {oc_law_some kV_law_some dc_law_some pm_law_some cd_law_some ct_law_some : Value}
    {f_law_at : Addr} {od_law_at an_law_at : Option Addr} {sl_law_at : Array (Option Value)} {oc_law_at kV_law_at dc_law_at pm_law_at cd_law_at ct_law_at : Value}
    {f_law_relative : Addr} {od_law_relative an_law_relative : Option Addr} {sl_law_relative : Array (Option Value)} {oc_law_relative kV_law_relative dc_law_relative pm_law_relative cd_law_relative ct_law_relative : Value}
    {f_law : Addr} {od_law an_law : Option Addr} {sl_law : Array (Option Value)} {oc_law kV_law dc_law pm_law cd_law ct_law : Value}
    {C_bodies : Addr}
    {C_day : Addr}
    {C_sky : Addr}
    {t_day : Tok}
    {t_units : Tok}
    (a_is_int : PySem.W.nsIn K mainGlobals "is_int" = some (some (.ref f_is_int)))
    (l_is_int : K.lookup f_is_int = some ⟨oc_is_int, od_is_int, .func (PySem.W.fnOf "is_int" "is_int" (defArgs s_is_int) (defBody s_is_int) (defScope s_is_int) .none kV_is_int dc_is_int pm_is_int an_is_int cd_is_int ct_is_int), sl_is_int⟩)
    (c_is_int : PySem.W.codeIn K cd_is_int "is_int" = true)
    (k_is_int : PySem.W.keepIn K (.ref f_is_int) = true)
    (a_is_body : PySem.W.nsIn K mainGlobals "is_body" = some (some (.ref f_is_body)))
    (l_is_body : K.lookup f_is_body = some ⟨oc_is_body, od_is_body, .func (PySem.W.fnOf "is_body" "is_body" (defArgs s_is_body) (defBody s_is_body) (defScope s_is_body) .none kV_is_body dc_is_body pm_is_body an_is_body cd_is_body ct_is_body), sl_is_body⟩)
    (c_is_body : PySem.W.codeIn K cd_is_body "is_body" = true)
    (k_is_body : PySem.W.keepIn K (.ref f_is_body) = true)
    (a_is_sky : PySem.W.nsIn K mainGlobals "is_sky" = some (some (.ref f_is_sky)))
    (l_is_sky : K.lookup f_is_sky = some ⟨oc_is_sky, od_is_sky, .func (PySem.W.fnOf "is_sky" "is_sky" (defArgs s_is_sky) (defBody s_is_sky) (defScope s_is_sky) .none kV_is_sky dc_is_sky pm_is_sky an_is_sky cd_is_sky ct_is_sky), sl_is_sky⟩)
    (c_is_sky : PySem.W.codeIn K cd_is_sky "is_sky" = true)
    (k_is_sky : PySem.W.keepIn K (.ref f_is_sky) = true)
    (a_check_sky : PySem.W.nsIn K mainGlobals "check_sky" = some (some (.ref f_check_sky)))
    (l_check_sky : K.lookup f_check_sky = some ⟨oc_check_sky, od_check_sky, .func (PySem.W.fnOf "check_sky" "check_sky" (defArgs s_check_sky) (defBody s_check_sky) (defScope s_check_sky) .none kV_check_sky dc_check_sky pm_check_sky an_check_sky cd_check_sky ct_check_sky), sl_check_sky⟩)
    (c_check_sky : PySem.W.codeIn K cd_check_sky "check_sky" = true)
    (k_check_sky : PySem.W.keepIn K (.ref f_check_sky) = true)
    (a_check_body : PySem.W.nsIn K mainGlobals "check_body" = some (some (.ref f_check_body)))
    (l_check_body : K.lookup f_check_body = some ⟨oc_check_body, od_check_body, .func (PySem.W.fnOf "check_body" "check_body" (defArgs s_check_body) (defBody s_check_body) (defScope s_check_body) .none kV_check_body dc_check_body pm_check_body an_check_body cd_check_body ct_check_body), sl_check_body⟩)
    (c_check_body : PySem.W.codeIn K cd_check_body "check_body" = true)
    (k_check_body : PySem.W.keepIn K (.ref f_check_body) = true)
    (a_check_some : PySem.W.nsIn K mainGlobals "check_some" = some (some (.ref f_check_some)))
    (l_check_some : K.lookup f_check_some = some ⟨oc_check_some, od_check_some, .func (PySem.W.fnOf "check_some" "check_some" (defArgs s_check_some) (defBody s_check_some) (defScope s_check_some) .none kV_check_some dc_check_some pm_check_some an_check_some cd_check_some ct_check_some), sl_check_some⟩)
    (c_check_some : PySem.W.codeIn K cd_check_some "check_some" = true)
    (k_check_some : PySem.W.keepIn K (.ref f_check_some) = true)
    (a_check_day : PySem.W.nsIn K mainGlobals "check_day" = some (some (.ref f_check_day)))
    (l_check_day : K.lookup f_check_day = some ⟨oc_check_day, od_check_day, .func (PySem.W.fnOf "check_day" "check_day" (defArgs s_check_day) (defBody s_check_day) (defScope s_check_day) .none kV_check_day dc_check_day pm_check_day an_check_day cd_check_day ct_check_day), sl_check_day⟩)
    (c_check_day : PySem.W.codeIn K cd_check_day "check_day" = true)
    (k_check_day : PySem.W.keepIn K (.ref f_check_day) = true)
    (a_common : PySem.W.nsIn K mainGlobals "common" = some (some (.ref f_common)))
    (l_common : K.lookup f_common = some ⟨oc_common, od_common, .func (PySem.W.fnOf "common" "common" (defArgs s_common) (defBody s_common) (defScope s_common) .none kV_common dc_common pm_common an_common cd_common ct_common), sl_common⟩)
    (c_common : PySem.W.codeIn K cd_common "common" = true)
    (k_common : PySem.W.keepIn K (.ref f_common) = true)
    (a_joint : PySem.W.nsIn K mainGlobals "joint" = some (some (.ref f_joint)))
    (l_joint : K.lookup f_joint = some ⟨oc_joint, od_joint, .func (PySem.W.fnOf "joint" "joint" (defArgs s_joint) (defBody s_joint) (defScope s_joint) .none kV_joint dc_joint pm_joint an_joint cd_joint ct_joint), sl_joint⟩)
    (c_joint : PySem.W.codeIn K cd_joint "joint" = true)
    (k_joint : PySem.W.keepIn K (.ref f_joint) = true)
    (a_round_of : PySem.W.nsIn K mainGlobals "round_of" = some (some (.ref f_round_of)))
    (l_round_of : K.lookup f_round_of = some ⟨oc_round_of, od_round_of, .func (PySem.W.fnOf "round_of" "round_of" (defArgs s_round_of) (defBody s_round_of) (defScope s_round_of) .none kV_round_of dc_round_of pm_round_of an_round_of cd_round_of ct_round_of), sl_round_of⟩)
    (c_round_of : PySem.W.codeIn K cd_round_of "round_of" = true)
    (k_round_of : PySem.W.keepIn K (.ref f_round_of) = true)
    (a_body_period : PySem.W.nsIn K mainGlobals "body_period" = some (some (.ref f_body_period)))
    (l_body_period : K.lookup f_body_period = some ⟨oc_body_period, od_body_period, .func (PySem.W.fnOf "body_period" "body_period" (defArgs s_body_period) (defBody s_body_period) (defScope s_body_period) .none kV_body_period dc_body_period pm_body_period an_body_period cd_body_period ct_body_period), sl_body_period⟩)
    (c_body_period : PySem.W.codeIn K cd_body_period "body_period" = true)
    (k_body_period : PySem.W.keepIn K (.ref f_body_period) = true)
    (a_period_of : PySem.W.nsIn K mainGlobals "period_of" = some (some (.ref f_period_of)))
    (l_period_of : K.lookup f_period_of = some ⟨oc_period_of, od_period_of, .func (PySem.W.fnOf "period_of" "period_of" (defArgs s_period_of) (defBody s_period_of) (defScope s_period_of) .none kV_period_of dc_period_of pm_period_of an_period_of cd_period_of ct_period_of), sl_period_of⟩)
    (c_period_of : PySem.W.codeIn K cd_period_of "period_of" = true)
    (k_period_of : PySem.W.keepIn K (.ref f_period_of) = true)
    (a_period : PySem.W.nsIn K mainGlobals "period" = some (some (.ref f_period)))
    (l_period : K.lookup f_period = some ⟨oc_period, od_period, .func (PySem.W.fnOf "period" "period" (defArgs s_period) (defBody s_period) (defScope s_period) .none kV_period dc_period pm_period an_period cd_period ct_period), sl_period⟩)
    (c_period : PySem.W.codeIn K cd_period "period" = true)
    (k_period : PySem.W.keepIn K (.ref f_period) = true)
    (a_relative_of : PySem.W.nsIn K mainGlobals "relative_of" = some (some (.ref f_relative_of)))
    (l_relative_of : K.lookup f_relative_of = some ⟨oc_relative_of, od_relative_of, .func (PySem.W.fnOf "relative_of" "relative_of" (defArgs s_relative_of) (defBody s_relative_of) (defScope s_relative_of) .none kV_relative_of dc_relative_of pm_relative_of an_relative_of cd_relative_of ct_relative_of), sl_relative_of⟩)
    (c_relative_of : PySem.W.codeIn K cd_relative_of "relative_of" = true)
    (k_relative_of : PySem.W.keepIn K (.ref f_relative_of) = true)
    (a_relative_period : PySem.W.nsIn K mainGlobals "relative_period" = some (some (.ref f_relative_period)))
    (l_relative_period : K.lookup f_relative_period = some ⟨oc_relative_period, od_relative_period, .func (PySem.W.fnOf "relative_period" "relative_period" (defArgs s_relative_period) (defBody s_relative_period) (defScope s_relative_period) .none kV_relative_period dc_relative_period pm_relative_period an_relative_period cd_relative_period ct_relative_period), sl_relative_period⟩)
    (c_relative_period : PySem.W.codeIn K cd_relative_period "relative_period" = true)
    (k_relative_period : PySem.W.keepIn K (.ref f_relative_period) = true)
    (a_meeting_units : PySem.W.nsIn K mainGlobals "meeting_units" = some (some (.ref f_meeting_units)))
    (l_meeting_units : K.lookup f_meeting_units = some ⟨oc_meeting_units, od_meeting_units, .func (PySem.W.fnOf "meeting_units" "meeting_units" (defArgs s_meeting_units) (defBody s_meeting_units) (defScope s_meeting_units) .none kV_meeting_units dc_meeting_units pm_meeting_units an_meeting_units cd_meeting_units ct_meeting_units), sl_meeting_units⟩)
    (c_meeting_units : PySem.W.codeIn K cd_meeting_units "meeting_units" = true)
    (k_meeting_units : PySem.W.keepIn K (.ref f_meeting_units) = true)
    (a_ever_at : PySem.W.nsIn K mainGlobals "ever_at" = some (some (.ref f_ever_at)))
    (l_ever_at : K.lookup f_ever_at = some ⟨oc_ever_at, od_ever_at, .func (PySem.W.fnOf "ever_at" "ever_at" (defArgs s_ever_at) (defBody s_ever_at) (defScope s_ever_at) .none kV_ever_at dc_ever_at pm_ever_at an_ever_at cd_ever_at ct_ever_at), sl_ever_at⟩)
    (c_ever_at : PySem.W.codeIn K cd_ever_at "ever_at" = true)
    (k_ever_at : PySem.W.keepIn K (.ref f_ever_at) = true)
    (a_place_of : PySem.W.nsIn K mainGlobals "place_of" = some (some (.ref f_place_of)))
    (l_place_of : K.lookup f_place_of = some ⟨oc_place_of, od_place_of, .func (PySem.W.fnOf "place_of" "place_of" (defArgs s_place_of) (defBody s_place_of) (defScope s_place_of) .none kV_place_of dc_place_of pm_place_of an_place_of cd_place_of ct_place_of), sl_place_of⟩)
    (c_place_of : PySem.W.codeIn K cd_place_of "place_of" = true)
    (k_place_of : PySem.W.keepIn K (.ref f_place_of) = true)
    (a_places : PySem.W.nsIn K mainGlobals "places" = some (some (.ref f_places)))
    (l_places : K.lookup f_places = some ⟨oc_places, od_places, .func (PySem.W.fnOf "places" "places" (defArgs s_places) (defBody s_places) (defScope s_places) .none kV_places dc_places pm_places an_places cd_places ct_places), sl_places⟩)
    (c_places : PySem.W.codeIn K cd_places "places" = true)
    (k_places : PySem.W.keepIn K (.ref f_places) = true)
    (a_law_start : PySem.W.nsIn K mainGlobals "_law_start" = some (some (.ref f_law_start)))
    (l_law_start : K.lookup f_law_start = some ⟨oc_law_start, od_law_start, .func (PySem.W.fnOf "_law_start" "_law_start" (defArgs s_law_start) (defBody s_law_start) (defScope s_law_start) .none kV_law_start dc_law_start pm_law_start an_law_start cd_law_start ct_law_start), sl_law_start⟩)
    (c_law_start : PySem.W.codeIn K cd_law_start "_law_start" = true)
    (k_law_start : PySem.W.keepIn K (.ref f_law_start) = true)
    (a_law_draw : PySem.W.nsIn K mainGlobals "_law_draw" = some (some (.ref f_law_draw)))
    (l_law_draw : K.lookup f_law_draw = some ⟨oc_law_draw, od_law_draw, .func (PySem.W.fnOf "_law_draw" "_law_draw" (defArgs s_law_draw) (defBody s_law_draw) (defScope s_law_draw) .none kV_law_draw dc_law_draw pm_law_draw an_law_draw cd_law_draw ct_law_draw), sl_law_draw⟩)
    (c_law_draw : PySem.W.codeIn K cd_law_draw "_law_draw" = true)
    (k_law_draw : PySem.W.keepIn K (.ref f_law_draw) = true)
    (a_law_pick : PySem.W.nsIn K mainGlobals "_law_pick" = some (some (.ref f_law_pick)))
    (l_law_pick : K.lookup f_law_pick = some ⟨oc_law_pick, od_law_pick, .func (PySem.W.fnOf "_law_pick" "_law_pick" (defArgs s_law_pick) (defBody s_law_pick) (defScope s_law_pick) .none kV_law_pick dc_law_pick pm_law_pick an_law_pick cd_law_pick ct_law_pick), sl_law_pick⟩)
    (c_law_pick : PySem.W.codeIn K cd_law_pick "_law_pick" = true)
    (k_law_pick : PySem.W.keepIn K (.ref f_law_pick) = true)
    (a_law_sky : PySem.W.nsIn K mainGlobals "_law_sky" = some (some (.ref f_law_sky)))
    (l_law_sky : K.lookup f_law_sky = some ⟨oc_law_sky, od_law_sky, .func (PySem.W.fnOf "_law_sky" "_law_sky" (defArgs s_law_sky) (defBody s_law_sky) (defScope s_law_sky) .none kV_law_sky dc_law_sky pm_law_sky an_law_sky cd_law_sky ct_law_sky), sl_law_sky⟩)
    (c_law_sky : PySem.W.codeIn K cd_law_sky "_law_sky" = true)
    (k_law_sky : PySem.W.keepIn K (.ref f_law_sky) = true)
    (a_law_some : PySem.W.nsIn K mainGlobals "_law_some" = some (some (.ref f_law_some)))
    (l_law_some : K.lookup f_law_some = some ⟨oc_law_some, od_law_some, .func (PySem.W.fnOf "_law_some" "_law_some" (defArgs s_law_some) (defBody s_law_some) (defScope s_law_some) .none kV_law_some dc_law_some pm_law_some an_law_some cd_law_some ct_law_some), sl_law_some⟩)
    (c_law_some : PySem.W.codeIn K cd_law_some "_law_some" = true)
    (k_law_some : PySem.W.keepIn K (.ref f_law_some) = true)
    (a_law_at : PySem.W.nsIn K mainGlobals "_law_at" = some (some (.ref f_law_at)))
    (l_law_at : K.lookup f_law_at = some ⟨oc_law_at, od_law_at, .func (PySem.W.fnOf "_law_at" "_law_at" (defArgs s_law_at) (defBody s_law_at) (defScope s_law_at) .none kV_law_at dc_law_at pm_law_at an_law_at cd_law_at ct_law_at), sl_law_at⟩)
    (c_law_at : PySem.W.codeIn K cd_law_at "_law_at" = true)
    (k_law_at : PySem.W.keepIn K (.ref f_law_at) = true)
    (a_law_relative : PySem.W.nsIn K mainGlobals "_law_relative" = some (some (.ref f_law_relative)))
    (l_law_relative : K.lookup f_law_relative = some ⟨oc_law_relative, od_law_relative, .func (PySem.W.fnOf "_law_relative" "_law_relative" (defArgs s_law_relative) (defBody s_law_relative) (defScope s_law_relative) .none kV_law_relative dc_law_relative pm_law_relative an_law_relative cd_law_relative ct_law_relative), sl_law_relative⟩)
    (c_law_relative : PySem.W.codeIn K cd_law_relative "_law_relative" = true)
    (k_law_relative : PySem.W.keepIn K (.ref f_law_relative) = true)
    (a_law : PySem.W.nsIn K mainGlobals "law" = some (some (.ref f_law)))
    (l_law : K.lookup f_law = some ⟨oc_law, od_law, .func (PySem.W.fnOf "law" "law" (defArgs s_law) (defBody s_law) (defScope s_law) .none kV_law dc_law pm_law an_law cd_law ct_law), sl_law⟩)
    (c_law : PySem.W.codeIn K cd_law "law" = true)
    (k_law : PySem.W.keepIn K (.ref f_law) = true)
    (z_all : PySem.W.nsIn K mainGlobals "all" = some none)
    (z_bool : PySem.W.nsIn K mainGlobals "bool" = some none)
    (z_int : PySem.W.nsIn K mainGlobals "int" = some none)
    (z_isinstance : PySem.W.nsIn K mainGlobals "isinstance" = some none)
    (z_len : PySem.W.nsIn K mainGlobals "len" = some none)
    (z_list : PySem.W.nsIn K mainGlobals "list" = some none)
    (z_range : PySem.W.nsIn K mainGlobals "range" = some none)
    (z_set : PySem.W.nsIn K mainGlobals "set" = some none)
    (z_sorted : PySem.W.nsIn K mainGlobals "sorted" = some none)
    (z_tuple : PySem.W.nsIn K mainGlobals "tuple" = some none)
    (g_day : PySem.W.nsIn K mainGlobals "MOST_DAY" = some (some (.int 1000000 t_day)))
    (g_units : PySem.W.nsIn K mainGlobals "MOST_UNITS" = some (some (.int 120 t_units)))
    (ea_bodies : PySem.W.nsIn K mainGlobals "BadBodies" = some (some (.ref C_bodies)))
    (ex_bodies : PySem.W.excIn K C_bodies [.type "ValueError", .type "Exception", .type "BaseException", .type "object"] "ValueError.__new__" = true)
    (ek_bodies : PySem.W.keepIn K (.ref C_bodies) = true)
    (es_bodies : PySem.W.subIn K (.ref C_bodies) (.type "BaseException") = some true)
    (et_bodies : PySem.W.typeIn K (.ref C_bodies) = some (.type "type"))
    (ea_day : PySem.W.nsIn K mainGlobals "BadDay" = some (some (.ref C_day)))
    (ex_day : PySem.W.excIn K C_day [.type "ValueError", .type "Exception", .type "BaseException", .type "object"] "ValueError.__new__" = true)
    (ek_day : PySem.W.keepIn K (.ref C_day) = true)
    (es_day : PySem.W.subIn K (.ref C_day) (.type "BaseException") = some true)
    (et_day : PySem.W.typeIn K (.ref C_day) = some (.type "type"))
    (ea_sky : PySem.W.nsIn K mainGlobals "BadSky" = some (some (.ref C_sky)))
    (ex_sky : PySem.W.excIn K C_sky [.type "ValueError", .type "Exception", .type "BaseException", .type "object"] "ValueError.__new__" = true)
    (ek_sky : PySem.W.keepIn K (.ref C_sky) = true)
    (es_sky : PySem.W.subIn K (.ref C_sky) (.type "BaseException") = some true)
    (et_sky : PySem.W.typeIn K (.ref C_sky) = some (.type "type"))
    : ∃ fd : FuncData, (∀ (s : Shared) (v : Value), BindsTo s fd ⟨[v], []⟩ [("script", v)]) ∧ ∀ base : Heap, K.In base → base.Ns mainGlobals mg → FnOk l.prog w K mg base (L2.CX l.prog w) 6 fa fd ["script"] (spLaw K) := by
  have e := hfa.symm.trans (PySem.W.mg_of X G a_law)
  cases e
  have F_is_int := fun_mk (st := s_is_int) l_is_int c_is_int k_is_int
  have b_is_int' := F_is_int.binds (ps := ["value", "low", "high"]) fun _ _ _ _ _ _ us hl => match us, hl with | [_, _, _], _ => rfl
  have m_is_int := PySem.W.mg_of X G a_is_int
  have F_is_body := fun_mk (st := s_is_body) l_is_body c_is_body k_is_body
  have b_is_body' := F_is_body.binds (ps := ["units", "value"]) fun _ _ _ _ _ _ us hl => match us, hl with | [_, _], _ => rfl
  have m_is_body := PySem.W.mg_of X G a_is_body
  have F_is_sky := fun_mk (st := s_is_sky) l_is_sky c_is_sky k_is_sky
  have b_is_sky' := F_is_sky.binds (ps := ["value"]) fun _ _ _ _ _ _ us hl => match us, hl with | [_], _ => rfl
  have m_is_sky := PySem.W.mg_of X G a_is_sky
  have F_check_sky := fun_mk (st := s_check_sky) l_check_sky c_check_sky k_check_sky
  have b_check_sky' := F_check_sky.binds (ps := ["value"]) fun _ _ _ _ _ _ us hl => match us, hl with | [_], _ => rfl
  have m_check_sky := PySem.W.mg_of X G a_check_sky
  have F_check_body := fun_mk (st := s_check_body) l_check_body c_check_body k_check_body
  have b_check_body' := F_check_body.binds (ps := ["sky", "value"]) fun _ _ _ _ _ _ us hl => match us, hl with | [_, _], _ => rfl
  have m_check_body := PySem.W.mg_of X G a_check_body
  have F_check_some := fun_mk (st := s_check_some) l_check_some c_check_some k_check_some
  have b_check_some' := F_check_some.binds (ps := ["sky", "value"]) fun _ _ _ _ _ _ us hl => match us, hl with | [_, _], _ => rfl
  have m_check_some := PySem.W.mg_of X G a_check_some
  have F_check_day := fun_mk (st := s_check_day) l_check_day c_check_day k_check_day
  have b_check_day' := F_check_day.binds (ps := ["value"]) fun _ _ _ _ _ _ us hl => match us, hl with | [_], _ => rfl
  have m_check_day := PySem.W.mg_of X G a_check_day
  have F_common := fun_mk (st := s_common) l_common c_common k_common
  have b_common' := F_common.binds (ps := ["one", "other"]) fun _ _ _ _ _ _ us hl => match us, hl with | [_, _], _ => rfl
  have m_common := PySem.W.mg_of X G a_common
  have F_joint := fun_mk (st := s_joint) l_joint c_joint k_joint
  have b_joint' := F_joint.binds (ps := ["one", "other"]) fun _ _ _ _ _ _ us hl => match us, hl with | [_, _], _ => rfl
  have m_joint := PySem.W.mg_of X G a_joint
  have F_round_of := fun_mk (st := s_round_of) l_round_of c_round_of k_round_of
  have b_round_of' := F_round_of.binds (ps := ["units", "rate"]) fun _ _ _ _ _ _ us hl => match us, hl with | [_, _], _ => rfl
  have m_round_of := PySem.W.mg_of X G a_round_of
  have F_body_period := fun_mk (st := s_body_period) l_body_period c_body_period k_body_period
  have b_body_period' := F_body_period.binds (ps := ["sky", "body"]) fun _ _ _ _ _ _ us hl => match us, hl with | [_, _], _ => rfl
  have m_body_period := PySem.W.mg_of X G a_body_period
  have F_period_of := fun_mk (st := s_period_of) l_period_of c_period_of k_period_of
  have b_period_of' := F_period_of.binds (ps := ["sky"]) fun _ _ _ _ _ _ us hl => match us, hl with | [_], _ => rfl
  have m_period_of := PySem.W.mg_of X G a_period_of
  have F_period := fun_mk (st := s_period) l_period c_period k_period
  have b_period' := F_period.binds (ps := ["sky"]) fun _ _ _ _ _ _ us hl => match us, hl with | [_], _ => rfl
  have m_period := PySem.W.mg_of X G a_period
  have F_relative_of := fun_mk (st := s_relative_of) l_relative_of c_relative_of k_relative_of
  have b_relative_of' := F_relative_of.binds (ps := ["sky", "some"]) fun _ _ _ _ _ _ us hl => match us, hl with | [_, _], _ => rfl
  have m_relative_of := PySem.W.mg_of X G a_relative_of
  have F_relative_period := fun_mk (st := s_relative_period) l_relative_period c_relative_period k_relative_period
  have b_relative_period' := F_relative_period.binds (ps := ["sky", "some"]) fun _ _ _ _ _ _ us hl => match us, hl with | [_, _], _ => rfl
  have m_relative_period := PySem.W.mg_of X G a_relative_period
  have F_meeting_units := fun_mk (st := s_meeting_units) l_meeting_units c_meeting_units k_meeting_units
  have b_meeting_units' := F_meeting_units.binds (ps := ["sky", "one", "other"]) fun _ _ _ _ _ _ us hl => match us, hl with | [_, _, _], _ => rfl
  have m_meeting_units := PySem.W.mg_of X G a_meeting_units
  have F_ever_at := fun_mk (st := s_ever_at) l_ever_at c_ever_at k_ever_at
  have b_ever_at' := F_ever_at.binds (ps := ["sky", "body", "unit"]) fun _ _ _ _ _ _ us hl => match us, hl with | [_, _, _], _ => rfl
  have m_ever_at := PySem.W.mg_of X G a_ever_at
  have F_place_of := fun_mk (st := s_place_of) l_place_of c_place_of k_place_of
  have b_place_of' := F_place_of.binds (ps := ["sky", "body", "day"]) fun _ _ _ _ _ _ us hl => match us, hl with | [_, _, _], _ => rfl
  have m_place_of := PySem.W.mg_of X G a_place_of
  have F_places := fun_mk (st := s_places) l_places c_places k_places
  have b_places' := F_places.binds (ps := ["sky", "day"]) fun _ _ _ _ _ _ us hl => match us, hl with | [_, _], _ => rfl
  have m_places := PySem.W.mg_of X G a_places
  have F_law_start := fun_mk (st := s_law_start) l_law_start c_law_start k_law_start
  have b_law_start' := F_law_start.binds (ps := ["script"]) fun _ _ _ _ _ _ us hl => match us, hl with | [_], _ => rfl
  have m_law_start := PySem.W.mg_of X G a_law_start
  have F_law_draw := fun_mk (st := s_law_draw) l_law_draw c_law_draw k_law_draw
  have b_law_draw' := F_law_draw.binds (ps := ["draws", "limit"]) fun _ _ _ _ _ _ us hl => match us, hl with | [_, _], _ => rfl
  have m_law_draw := PySem.W.mg_of X G a_law_draw
  have F_law_pick := fun_mk (st := s_law_pick) l_law_pick c_law_pick k_law_pick
  have b_law_pick' := F_law_pick.binds (ps := ["draws", "choices"]) fun _ _ _ _ _ _ us hl => match us, hl with | [_, _], _ => rfl
  have m_law_pick := PySem.W.mg_of X G a_law_pick
  have F_law_sky := fun_mk (st := s_law_sky) l_law_sky c_law_sky k_law_sky
  have b_law_sky' := F_law_sky.binds (ps := ["draws", "most", "many"]) fun _ _ _ _ _ _ us hl => match us, hl with | [_, _, _], _ => rfl
  have m_law_sky := PySem.W.mg_of X G a_law_sky
  have F_law_some := fun_mk (st := s_law_some) l_law_some c_law_some k_law_some
  have b_law_some' := F_law_some.binds (ps := ["draws", "sky"]) fun _ _ _ _ _ _ us hl => match us, hl with | [_, _], _ => rfl
  have m_law_some := PySem.W.mg_of X G a_law_some
  have F_law_at := fun_mk (st := s_law_at) l_law_at c_law_at k_law_at
  have b_law_at' := F_law_at.binds (ps := ["sky", "body", "day"]) fun _ _ _ _ _ _ us hl => match us, hl with | [_, _, _], _ => rfl
  have m_law_at := PySem.W.mg_of X G a_law_at
  have F_law_relative := fun_mk (st := s_law_relative) l_law_relative c_law_relative k_law_relative
  have b_law_relative' := F_law_relative.binds (ps := ["sky", "some"]) fun _ _ _ _ _ _ us hl => match us, hl with | [_, _], _ => rfl
  have m_law_relative := PySem.W.mg_of X G a_law_relative
  have F_law := fun_mk (st := s_law) l_law c_law k_law
  have y_all := PySem.W.mg_none_of X G z_all
  have y_bool := PySem.W.mg_none_of X G z_bool
  have y_int := PySem.W.mg_none_of X G z_int
  have y_isinstance := PySem.W.mg_none_of X G z_isinstance
  have y_len := PySem.W.mg_none_of X G z_len
  have y_list := PySem.W.mg_none_of X G z_list
  have y_range := PySem.W.mg_none_of X G z_range
  have y_set := PySem.W.mg_none_of X G z_set
  have y_sorted := PySem.W.mg_none_of X G z_sorted
  have y_tuple := PySem.W.mg_none_of X G z_tuple
  have q_day : ∃ u, mg "MOST_DAY" = some u ∧ RelV (gcV .day) u := ⟨_, PySem.W.mg_of X G g_day, _, rfl⟩
  have q_units : ∃ u, mg "MOST_UNITS" = some u ∧ RelV (gcV .units) u := ⟨_, PySem.W.mg_of X G g_units, _, rfl⟩
  let cl : Exn → Value := fun x => match x with | .bodies => .ref C_bodies | .day => .ref C_day | .sky => .ref C_sky | _ => .none
  have x_bodies : ExG K mg "BadBodies" (cl .bodies) := ⟨C_bodies, rfl, PySem.W.mg_of X G ea_bodies, ex_bodies, ek_bodies, es_bodies, et_bodies⟩
  have x_day : ExG K mg "BadDay" (cl .day) := ⟨C_day, rfl, PySem.W.mg_of X G ea_day, ex_day, ek_day, es_day, et_day⟩
  have x_sky : ExG K mg "BadSky" (cl .sky) := ⟨C_sky, rfl, PySem.W.mg_of X G ea_sky, ex_sky, ek_sky, es_sky, et_sky⟩
  refine ⟨PySem.W.fnOf "law" "law" (defArgs s_law) (defBody s_law) (defScope s_law) .none kV_law dc_law pm_law an_law cd_law ct_law, fun s v => .of_eq rfl, fun base _ _ => ?_⟩
  have g_law_draw : FnGood l.prog w K mg base cl 1 "_law_draw" sp_ldraw := draw_good F_law_draw m_law_draw b_law_draw' sc_law_draw (fun cdv A outer s H E => draw_rd y_len cdv A outer s H E)
  have g_is_int : FnGood l.prog w K mg base cl 1 "is_int" sp_is_int := fn_good F_is_int m_is_int b_is_int' sc_is_int (⟨sc_is_int.nd, all_cons (y_bool) (all_cons (y_int) (all_cons (y_isinstance) (all_nil))), all_nil, all_nil, all_nil⟩ : Tp l.prog w K mg base T cl 0 ⟨n_is_int, lnm, [], [], ["bool", "int", "isinstance"], []⟩) rfl ch_is_int (by decide) (fun ds Q X h => by first | exact r_is_int  h | exact r_is_int h)
  have g_common : FnGood l.prog w K mg base cl 1 "common" sp_common := fn_good F_common m_common b_common' sc_common (⟨sc_common.nd, all_nil, all_nil, all_nil, all_nil⟩ : Tp l.prog w K mg base T cl 0 ⟨n_common, lnm, [], [], [], []⟩) rfl ch_common (by decide) (fun ds Q X h => by first | exact r_common  h | exact r_common h)
  have g_place_of : FnGood l.prog w K mg base cl 1 "place_of" sp_place_of := fn_good F_place_of m_place_of b_place_of' sc_place_of (⟨sc_place_of.nd, all_nil, all_nil, all_nil, all_nil⟩ : Tp l.prog w K mg base T cl 0 ⟨n_place_of, lnm, [], [], [], []⟩) rfl ch_place_of (by decide) (fun ds Q X h => by first | exact r_place_of  h | exact r_place_of h)
  have g_law_at : FnGood l.prog w K mg base cl 1 "_law_at" sp_lat := fn_good F_law_at m_law_at b_law_at' sc_law_at (⟨sc_law_at.nd, all_nil, all_nil, all_nil, all_nil⟩ : Tp l.prog w K mg base T cl 0 ⟨n_law_at, lnm, [], [], [], []⟩) rfl ch_law_at (by decide) (fun ds Q X h => by first | exact r_lat  h | exact r_lat h)
  have g_law_relative : FnGood l.prog w K mg base cl 1 "_law_relative" sp_lrelative := fn_good F_law_relative m_law_relative b_law_relative' sc_law_relative (⟨sc_law_relative.nd, all_nil, all_nil, all_nil, all_nil⟩ : Tp l.prog w K mg base T cl 0 ⟨n_law_relative, lnm, [], [], [], []⟩) rfl ch_law_relative (by decide) (fun ds Q X h => by first | exact r_lrelative  h | exact r_lrelative h)
  have g_is_body : FnGood l.prog w K mg base cl 2 "is_body" sp_is_body := fn_good F_is_body m_is_body b_is_body' sc_is_body (⟨sc_is_body.nd, all_cons (y_isinstance) (all_cons (y_len) (all_cons (y_tuple) (all_nil))), all_nil, all_cons (g_is_int.mono (by decide)) (all_nil), all_nil⟩ : Tp l.prog w K mg base T cl 1 ⟨n_is_body, lnm, [.is_int], [], ["isinstance", "len", "tuple"], []⟩) rfl ch_is_body (by decide) (fun ds Q X h => by first | exact r_is_body rfl h | exact r_is_body h)
  have g_check_body : FnGood l.prog w K mg base cl 2 "check_body" sp_check_body := fn_good F_check_body m_check_body b_check_body' sc_check_body (⟨sc_check_body.nd, all_cons (y_len) (all_nil), all_nil, all_cons (g_is_int.mono (by decide)) (all_nil), all_cons (x_bodies) (all_nil)⟩ : Tp l.prog w K mg base T cl 1 ⟨n_check_body, lnm, [.is_int], [], ["len"], [.bodies]⟩) rfl ch_check_body (by decide) (fun ds Q X h => by first | exact r_check_body rfl h | exact r_check_body h)
  have g_check_some : FnGood l.prog w K mg base cl 2 "check_some" sp_check_some := fn_good F_check_some m_check_some b_check_some' sc_check_some (⟨sc_check_some.nd, all_cons (y_all) (all_cons (y_isinstance) (all_cons (y_len) (all_cons (y_list) (all_cons (y_set) (all_nil))))), all_nil, all_cons (g_is_int.mono (by decide)) (all_nil), all_cons (x_bodies) (all_nil)⟩ : Tp l.prog w K mg base T cl 1 ⟨n_check_some, lnm, [.is_int], [], ["all", "isinstance", "len", "list", "set"], [.bodies]⟩) rfl ch_check_some (by decide) (fun ds Q X h => by first | exact r_check_some rfl h | exact r_check_some h)
  have g_check_day : FnGood l.prog w K mg base cl 2 "check_day" sp_check_day := fn_good F_check_day m_check_day b_check_day' sc_check_day (⟨sc_check_day.nd, all_nil, all_cons (q_day) (all_nil), all_cons (g_is_int.mono (by decide)) (all_nil), all_cons (x_day) (all_nil)⟩ : Tp l.prog w K mg base T cl 1 ⟨n_check_day, lnm, [.is_int], [.day], [], [.day]⟩) rfl ch_check_day (by decide) (fun ds Q X h => by first | exact r_check_day rfl h | exact r_check_day h)
  have g_joint : FnGood l.prog w K mg base cl 2 "joint" sp_joint := fn_good F_joint m_joint b_joint' sc_joint (⟨sc_joint.nd, all_nil, all_nil, all_cons (g_common.mono (by decide)) (all_nil), all_nil⟩ : Tp l.prog w K mg base T cl 1 ⟨n_joint, lnm, [.common], [], [], []⟩) rfl ch_joint (by decide) (fun ds Q X h => by first | exact r_joint rfl h | exact r_joint h)
  have g_round_of : FnGood l.prog w K mg base cl 2 "round_of" sp_round_of := fn_good F_round_of m_round_of b_round_of' sc_round_of (⟨sc_round_of.nd, all_nil, all_nil, all_cons (g_common.mono (by decide)) (all_nil), all_nil⟩ : Tp l.prog w K mg base T cl 1 ⟨n_round_of, lnm, [.common], [], [], []⟩) rfl ch_round_of (by decide) (fun ds Q X h => by first | exact r_round_of rfl h | exact r_round_of h)
  have g_law_pick : FnGood l.prog w K mg base cl 2 "_law_pick" sp_lpick := fn_good F_law_pick m_law_pick b_law_pick' sc_law_pick (⟨sc_law_pick.nd, all_cons (y_len) (all_nil), all_nil, all_cons (g_law_draw.mono (by decide)) (all_nil), all_nil⟩ : Tp l.prog w K mg base T cl 1 ⟨n_law_pick, lnm, [.ldraw], [], ["len"], []⟩) rfl ch_law_pick (by decide) (fun ds Q X h => by first | exact r_lpick rfl h | exact r_lpick h)
  have g_law_sky : FnGood l.prog w K mg base cl 2 "_law_sky" sp_lsky := fn_good F_law_sky m_law_sky b_law_sky' sc_law_sky (⟨sc_law_sky.nd, all_cons (y_range) (all_nil), all_nil, all_cons (g_law_draw.mono (by decide)) (all_nil), all_nil⟩ : Tp l.prog w K mg base T cl 1 ⟨n_law_sky, lnm, [.ldraw], [], ["range"], []⟩) rfl ch_law_sky (by decide) (fun ds Q X h => by first | exact r_lsky rfl h | exact r_lsky h)
  have g_is_sky : FnGood l.prog w K mg base cl 3 "is_sky" sp_is_sky := fn_good F_is_sky m_is_sky b_is_sky' sc_is_sky (⟨sc_is_sky.nd, all_cons (y_all) (all_cons (y_isinstance) (all_cons (y_len) (all_cons (y_list) (all_cons (y_tuple) (all_nil))))), all_cons (q_units) (all_nil), all_cons (g_is_body.mono (by decide)) (all_cons (g_is_int.mono (by decide)) (all_nil)), all_nil⟩ : Tp l.prog w K mg base T cl 2 ⟨n_is_sky, lnm, [.is_body, .is_int], [.units], ["all", "isinstance", "len", "list", "tuple"], []⟩) rfl ch_is_sky (by decide) (fun ds Q X h => by first | exact r_is_sky rfl rfl h | exact r_is_sky h)
  have g_period_of : FnGood l.prog w K mg base cl 3 "period_of" sp_period_of := fn_good F_period_of m_period_of b_period_of' sc_period_of (⟨sc_period_of.nd, all_nil, all_nil, all_cons (g_joint.mono (by decide)) (all_cons (g_round_of.mono (by decide)) (all_nil)), all_nil⟩ : Tp l.prog w K mg base T cl 2 ⟨n_period_of, lnm, [.joint, .round_of], [], [], []⟩) rfl ch_period_of (by decide) (fun ds Q X h => by first | exact r_period_of rfl rfl h | exact r_period_of h)
  have g_relative_of : FnGood l.prog w K mg base cl 3 "relative_of" sp_relative_of := fn_good F_relative_of m_relative_of b_relative_of' sc_relative_of (⟨sc_relative_of.nd, all_nil, all_nil, all_cons (g_joint.mono (by decide)) (all_cons (g_round_of.mono (by decide)) (all_nil)), all_nil⟩ : Tp l.prog w K mg base T cl 2 ⟨n_relative_of, lnm, [.joint, .round_of], [], [], []⟩) rfl ch_relative_of (by decide) (fun ds Q X h => by first | exact r_relative_of rfl rfl h | exact r_relative_of h)
  have g_law_some : FnGood l.prog w K mg base cl 3 "_law_some" sp_lsome := fn_good F_law_some m_law_some b_law_some' sc_law_some (⟨sc_law_some.nd, all_cons (y_len) (all_cons (y_list) (all_cons (y_range) (all_nil))), all_nil, all_cons (g_law_draw.mono (by decide)) (all_cons (g_law_pick.mono (by decide)) (all_nil)), all_nil⟩ : Tp l.prog w K mg base T cl 2 ⟨n_law_some, lnm, [.ldraw, .lpick], [], ["len", "list", "range"], []⟩) rfl ch_law_some (by decide) (fun ds Q X h => by first | exact r_lsome rfl rfl h | exact r_lsome h)
  have g_check_sky : FnGood l.prog w K mg base cl 4 "check_sky" sp_check_sky := fn_good F_check_sky m_check_sky b_check_sky' sc_check_sky (⟨sc_check_sky.nd, all_nil, all_nil, all_cons (g_is_sky.mono (by decide)) (all_nil), all_cons (x_sky) (all_nil)⟩ : Tp l.prog w K mg base T cl 3 ⟨n_check_sky, lnm, [.is_sky], [], [], [.sky]⟩) rfl ch_check_sky (by decide) (fun ds Q X h => by first | exact r_check_sky rfl h | exact r_check_sky h)
  have g_body_period : FnGood l.prog w K mg base cl 5 "body_period" sp_body_period := fn_good F_body_period m_body_period b_body_period' sc_body_period (⟨sc_body_period.nd, all_nil, all_nil, all_cons (g_check_body.mono (by decide)) (all_cons (g_check_sky.mono (by decide)) (all_cons (g_round_of.mono (by decide)) (all_nil))), all_nil⟩ : Tp l.prog w K mg base T cl 4 ⟨n_body_period, lnm, [.check_body, .check_sky, .round_of], [], [], []⟩) rfl ch_body_period (by decide) (fun ds Q X h => by first | exact r_body_period rfl rfl rfl h | exact r_body_period h)
  have g_period : FnGood l.prog w K mg base cl 5 "period" sp_period := fn_good F_period m_period b_period' sc_period (⟨sc_period.nd, all_nil, all_nil, all_cons (g_check_sky.mono (by decide)) (all_cons (g_period_of.mono (by decide)) (all_nil)), all_nil⟩ : Tp l.prog w K mg base T cl 4 ⟨n_period, lnm, [.check_sky, .period_of], [], [], []⟩) rfl ch_period (by decide) (fun ds Q X h => by first | exact r_period rfl rfl h | exact r_period h)
  have g_relative_period : FnGood l.prog w K mg base cl 5 "relative_period" sp_relative_period := fn_good F_relative_period m_relative_period b_relative_period' sc_relative_period (⟨sc_relative_period.nd, all_nil, all_nil, all_cons (g_check_sky.mono (by decide)) (all_cons (g_check_some.mono (by decide)) (all_cons (g_relative_of.mono (by decide)) (all_nil))), all_nil⟩ : Tp l.prog w K mg base T cl 4 ⟨n_relative_period, lnm, [.check_sky, .check_some, .relative_of], [], [], []⟩) rfl ch_relative_period (by decide) (fun ds Q X h => by first | exact r_relative_period rfl rfl rfl h | exact r_relative_period h)
  have g_meeting_units : FnGood l.prog w K mg base cl 5 "meeting_units" sp_meeting_units := fn_good F_meeting_units m_meeting_units b_meeting_units' sc_meeting_units (⟨sc_meeting_units.nd, all_nil, all_nil, all_cons (g_check_body.mono (by decide)) (all_cons (g_check_sky.mono (by decide)) (all_cons (g_common.mono (by decide)) (all_nil))), all_nil⟩ : Tp l.prog w K mg base T cl 4 ⟨n_meeting_units, lnm, [.check_body, .check_sky, .common], [], [], []⟩) rfl ch_meeting_units (by decide) (fun ds Q X h => by first | exact r_meeting_units rfl rfl rfl h | exact r_meeting_units h)
  have g_ever_at : FnGood l.prog w K mg base cl 5 "ever_at" sp_ever_at := fn_good F_ever_at m_ever_at b_ever_at' sc_ever_at (⟨sc_ever_at.nd, all_cons (y_range) (all_nil), all_nil, all_cons (g_check_body.mono (by decide)) (all_cons (g_check_sky.mono (by decide)) (all_cons (g_is_int.mono (by decide)) (all_cons (g_round_of.mono (by decide)) (all_nil)))), all_nil⟩ : Tp l.prog w K mg base T cl 4 ⟨n_ever_at, lnm, [.check_body, .check_sky, .is_int, .round_of], [], ["range"], []⟩) rfl ch_ever_at (by decide) (fun ds Q X h => by first | exact r_ever_at rfl rfl rfl rfl h | exact r_ever_at h)
  have g_places : FnGood l.prog w K mg base cl 5 "places" sp_places := fn_good F_places m_places b_places' sc_places (⟨sc_places.nd, all_cons (y_len) (all_cons (y_range) (all_nil)), all_nil, all_cons (g_check_day.mono (by decide)) (all_cons (g_check_sky.mono (by decide)) (all_cons (g_place_of.mono (by decide)) (all_nil))), all_nil⟩ : Tp l.prog w K mg base T cl 4 ⟨n_places, lnm, [.check_day, .check_sky, .place_of], [], ["len", "range"], []⟩) rfl ch_places (by decide) (fun ds Q X h => by first | exact r_places rfl rfl rfl h | exact r_places h)
  have o_start : FnOk l.prog w K mg base (L2.CX l.prog w) 5 _ _ ["script"] (spStart K) := (ok_start F_law_start y_list : FnOk l.prog w K mg base (L2.CX l.prog w) (4 + 1) _ _ ["script"] (spStart K))
  refine law_ok (k := 5) F_law sc_law (⟨sc_law.nd, all_cons (y_len) (all_cons (y_list) (all_cons (y_range) (all_cons (y_set) (all_cons (y_sorted) (all_nil))))), all_nil, all_cons (g_body_period.mono (by decide)) (all_cons (g_ever_at.mono (by decide)) (all_cons (g_law_at.mono (by decide)) (all_cons (g_law_draw.mono (by decide)) (all_cons (g_law_relative.mono (by decide)) (all_cons (g_law_sky.mono (by decide)) (all_cons (g_law_some.mono (by decide)) (all_cons (g_meeting_units.mono (by decide)) (all_cons (g_period.mono (by decide)) (all_cons (g_places.mono (by decide)) (all_cons (g_relative_period.mono (by decide)) (all_nil))))))))))), all_nil⟩ : Tp l.prog w K mg base T cl 5 ⟨n_law, lnm, [.body_period, .ever_at, .lat, .ldraw, .lrelative, .lsky, .lsome, .meeting_units, .period, .places, .relative_period], [], ["len", "list", "range", "set", "sorted"], []⟩) rfl ⟨_, rfl⟩ rfl ch_law (fun cdv A outer s H E hr => ⟨_, ps_set (i := 1) sc_law.nd rfl (by first | exact .inl rfl | exact .inr rfl) (pe_callS o_start hr (by rfl) m_law_start k_law_start b_law_start' (fun σ => passAt (takes_of rfl rfl rfl rfl) σ) (pa_cons (pv 0) pa_nil))⟩) ?_
  exact law rfl rfl rfl rfl rfl rfl rfl rfl rfl rfl rfl
end K02
end Sk
open PySem PySem.W PyProof.Rows
set_option maxHeartbeats 0 in
theorem PySem.Challenge.cw_skycycles_k02_whole_periods_holds : PySem.Challenge.rw_skycycles_k02_whole_periods.Holds := by
  w_on; o_law; k_head; (case hw => w_witness2)
  k_fill
  refine L2.walk_of (l := PySem.Challenge.rw_skycycles_k02_whole_periods) (n := 63) (k := 6) (x := "script") (CX := fun w => L2.CX PySem.Challenge.rw_skycycles_k02_whole_periods.prog w) (sp := fun w => Sk.spLaw _) rfl (by decide) rfl ⟨rfl, by decide, by decide⟩ (fun w h Y => PySem.W.kIn_of Y) ?F (fun _ _ a ns hl _ hS => ⟨a, ns, rfl, hS, hl, fun _ => rfl⟩) (fun _ _ _ _ _ h => Sk.K02.cx_no h)
  case F =>
    intro w mg fa h KX G hmg
    refine' Sk.K02.all_mk KX G hmg ?a_is_int ?l_is_int ?c_is_int ?k_is_int ?a_is_body ?l_is_body ?c_is_body ?k_is_body ?a_is_sky ?l_is_sky ?c_is_sky ?k_is_sky ?a_check_sky ?l_check_sky ?c_check_sky ?k_check_sky ?a_check_body ?l_check_body ?c_check_body ?k_check_body ?a_check_some ?l_check_some ?c_check_some ?k_check_some ?a_check_day ?l_check_day ?c_check_day ?k_check_day ?a_common ?l_common ?c_common ?k_common ?a_joint ?l_joint ?c_joint ?k_joint ?a_round_of ?l_round_of ?c_round_of ?k_round_of ?a_body_period ?l_body_period ?c_body_period ?k_body_period ?a_period_of ?l_period_of ?c_period_of ?k_period_of ?a_period ?l_period ?c_period ?k_period ?a_relative_of ?l_relative_of ?c_relative_of ?k_relative_of ?a_relative_period ?l_relative_period ?c_relative_period ?k_relative_period ?a_meeting_units ?l_meeting_units ?c_meeting_units ?k_meeting_units ?a_ever_at ?l_ever_at ?c_ever_at ?k_ever_at ?a_place_of ?l_place_of ?c_place_of ?k_place_of ?a_places ?l_places ?c_places ?k_places ?a_law_start ?l_law_start ?c_law_start ?k_law_start ?a_law_draw ?l_law_draw ?c_law_draw ?k_law_draw ?a_law_pick ?l_law_pick ?c_law_pick ?k_law_pick ?a_law_sky ?l_law_sky ?c_law_sky ?k_law_sky ?a_law_some ?l_law_some ?c_law_some ?k_law_some ?a_law_at ?l_law_at ?c_law_at ?k_law_at ?a_law_relative ?l_law_relative ?c_law_relative ?k_law_relative ?a_law ?l_law ?c_law ?k_law ?z_all ?z_bool ?z_int ?z_isinstance ?z_len ?z_list ?z_range ?z_set ?z_sorted ?z_tuple ?g_day ?g_units ?ea_bodies ?ex_bodies ?ek_bodies ?es_bodies ?et_bodies ?ea_day ?ex_day ?ek_day ?es_day ?et_day ?ea_sky ?ex_sky ?ek_sky ?es_sky ?et_sky
    (case a_is_int => k_is)
    (case l_is_int => k_is)
    (case c_is_int => k_is)
    (case k_is_int => k_is)
    (case a_is_body => k_is)
    (case l_is_body => k_is)
    (case c_is_body => k_is)
    (case k_is_body => k_is)
    (case a_is_sky => k_is)
    (case l_is_sky => k_is)
    (case c_is_sky => k_is)
    (case k_is_sky => k_is)
    (case a_check_sky => k_is)
    (case l_check_sky => k_is)
    (case c_check_sky => k_is)
    (case k_check_sky => k_is)
    (case a_check_body => k_is)
    (case l_check_body => k_is)
    (case c_check_body => k_is)
    (case k_check_body => k_is)
    (case a_check_some => k_is)
    (case l_check_some => k_is)
    (case c_check_some => k_is)
    (case k_check_some => k_is)
    (case a_check_day => k_is)
    (case l_check_day => k_is)
    (case c_check_day => k_is)
    (case k_check_day => k_is)
    (case a_common => k_is)
    (case l_common => k_is)
    (case c_common => k_is)
    (case k_common => k_is)
    (case a_joint => k_is)
    (case l_joint => k_is)
    (case c_joint => k_is)
    (case k_joint => k_is)
    (case a_round_of => k_is)
    (case l_round_of => k_is)
    (case c_round_of => k_is)
    (case k_round_of => k_is)
    (case a_body_period => k_is)
    (case l_body_period => k_is)
    (case c_body_period => k_is)
    (case k_body_period => k_is)
    (case a_period_of => k_is)
    (case l_period_of => k_is)
    (case c_period_of => k_is)
    (case k_period_of => k_is)
    (case a_period => k_is)
    (case l_period => k_is)
    (case c_period => k_is)
    (case k_period => k_is)
    (case a_relative_of => k_is)
    (case l_relative_of => k_is)
    (case c_relative_of => k_is)
    (case k_relative_of => k_is)
    (case a_relative_period => k_is)
    (case l_relative_period => k_is)
    (case c_relative_period => k_is)
    (case k_relative_period => k_is)
    (case a_meeting_units => k_is)
    (case l_meeting_units => k_is)
    (case c_meeting_units => k_is)
    (case k_meeting_units => k_is)
    (case a_ever_at => k_is)
    (case l_ever_at => k_is)
    (case c_ever_at => k_is)
    (case k_ever_at => k_is)
    (case a_place_of => k_is)
    (case l_place_of => k_is)
    (case c_place_of => k_is)
    (case k_place_of => k_is)
    (case a_places => k_is)
    (case l_places => k_is)
    (case c_places => k_is)
    (case k_places => k_is)
    (case a_law_start => k_is)
    (case l_law_start => k_is)
    (case c_law_start => k_is)
    (case k_law_start => k_is)
    (case a_law_draw => k_is)
    (case l_law_draw => k_is)
    (case c_law_draw => k_is)
    (case k_law_draw => k_is)
    (case a_law_pick => k_is)
    (case l_law_pick => k_is)
    (case c_law_pick => k_is)
    (case k_law_pick => k_is)
    (case a_law_sky => k_is)
    (case l_law_sky => k_is)
    (case c_law_sky => k_is)
    (case k_law_sky => k_is)
    (case a_law_some => k_is)
    (case l_law_some => k_is)
    (case c_law_some => k_is)
    (case k_law_some => k_is)
    (case a_law_at => k_is)
    (case l_law_at => k_is)
    (case c_law_at => k_is)
    (case k_law_at => k_is)
    (case a_law_relative => k_is)
    (case l_law_relative => k_is)
    (case c_law_relative => k_is)
    (case k_law_relative => k_is)
    (case a_law => k_is)
    (case l_law => k_is)
    (case c_law => k_is)
    (case k_law => k_is)
    (case z_all => k_is)
    (case z_bool => k_is)
    (case z_int => k_is)
    (case z_isinstance => k_is)
    (case z_len => k_is)
    (case z_list => k_is)
    (case z_range => k_is)
    (case z_set => k_is)
    (case z_sorted => k_is)
    (case z_tuple => k_is)
    (case g_day => k_is)
    (case g_units => k_is)
    (case ea_bodies => k_is)
    (case ex_bodies => k_exc)
    (case ek_bodies => k_is)
    (case es_bodies => k_is)
    (case et_bodies => k_is)
    (case ea_day => k_is)
    (case ex_day => k_exc)
    (case ek_day => k_is)
    (case es_day => k_is)
    (case et_day => k_is)
    (case ea_sky => k_is)
    (case ex_sky => k_exc)
    (case ek_sky => k_is)
    (case es_sky => k_is)
    (case et_sky => k_is)
