import PyProof.Rows.All
import Wide.All
import OpenK.AllK
import Wide.FinOn
import HandS.ForMost
import HandS.Defaults
import HandS.Exc
import HandS.ExcOwn
import HandS.ExcInit
import HandS.FStr
import HandS.FStrTup
import HandS.ClsMeth
import HandS.TryOnly
import HandS.IsInst
import HandS.TupAny
import HandS.DictComp
import HandS.NoneIn
import HandS.WideBits
import HandS.CallSlots
import HandS.Iter
import HandS.Slots
import KE.GoesMore
import KE.KUnpackStar
import PyProof.StrOps2
import HandS.RaiseMore
import PyProof.DictUpdate
import HandS.Small
import KE.IntTextLaws
import KE.KIntText
import PyProof.StrLawsTight
import PyProof.StrLawsChain
import PySem.Challenge.RW_manyworth_k25_parts_counted_and_written
set_option Elab.async false
set_option linter.all false
set_option maxRecDepth 100000
set_option maxHeartbeats 4000000
/-! MwX0: rules for exceptions that have an __init__ of their own: {t} with numbers in an f-string, B.__init__(self, ..) of an own class. -/
namespace PySem
open PySem.Spec PyProof.Rows
def fmtCostI (l : List Int) : Nat := l.length * 1923
theorem fmt_piledI : ∀ l : List Int, (∀ i ∈ l, i.natAbs.log2 < 1920) → piled (l.map fun i => (Str.ofString (toString i))) ≤ fmtCostI l
  | [], _ => Nat.zero_le _
  | i :: l, h => by
    have h1 := int_text_len_1921 (h i List.mem_cons_self)
    have h2 := fmt_piledI l fun z hz => h z (List.mem_cons_of_mem _ hz)
    rw [List.map_cons, piled_cons]
    unfold fmtCostI at *
    rw [List.length_cons, Nat.add_mul]
    omega
end PySem
namespace L2
open PySem PySem.Spec PyProof.Rows
section
variable {X : Cx}
theorem repr_allI {prog : Program} {w : World} : ∀ {l : List Int} {its : List Value}, Vals (l.map V.int) its → (∀ i ∈ l, i.natAbs.log2 < 1920) → ReprAll prog w its (l.map fun i => (Str.ofString (toString i)))
  | [], _, r, _ => by
    cases r
    exact .nil
  | y :: l, _, r, h => by
    cases r with
    | cons r1 r2 =>
      obtain ⟨t, rfl⟩ := r1
      exact .cons (ReprIs.int t (h y List.mem_cons_self)) (repr_allI r2 fun z hz => h z (List.mem_cons_of_mem _ hz))
/-- {t}, t a number or a tuple of numbers: some text -/
def tFmtI (K : PySem.W.Frag) (te : TE) : TE := fun σ H Q => te σ H fun x H1 => ((∃ i : Int, x = .int i ∧ i.natAbs.log2 < 1920) ∨ ∃ (a : Addr) (l : List Int), x = .ref a ∧ SqT K H1 a (l.map V.int) ∧ l.length ≤ 100 ∧ ∀ i ∈ l, i.natAbs.log2 < 1920) ∧ ∀ m : Str, m.length ≤ 1000000 → Q (.str m) H1
theorem pe_fmtI {e : Expr} {te : TE} {pos : Pos} {k : Nat} (hr : Room k X.A) (he : PE X e te) : PE X (.FormattedValue e (-1) none pos) (tFmtI X.K te) := by
  refine ⟨fun pins s σ H Q I h => ?_⟩
  refine wpAny_FormattedValue_plain (thn (he.run pins s σ H _ I h) fun v s1 hv => ?_)
  obtain ⟨x, H1, I1, r1, hx, q⟩ := hv
  rcases hx with ⟨i, rfl, hz⟩ | ⟨a, l, rfl, ht, hl, hz⟩
  · obtain ⟨t, rfl⟩ := r1
    exact wpAny_formatField_int hz ⟨.str (toString i), H1, I1.tok _, ⟨_, rfl⟩, q _ (by have := int_text_len_1921 hz; omega)⟩
  · cases r1
    obtain ⟨its, rv, ⟨o, ho, hcl, n, hd⟩, _⟩ := I1.tuple ht
    have hp := fmt_piledI l hz
    have htx := fmt_text (l.map fun i => (Str.ofString (toString i)))
    have hu := hr.units
    have hc : fmtCostI l ≤ 192300 := by unfold fmtCostI; omega
    have hs : sizeLine = 16777216 := sizeLine_eq
    exact fmt_tuple (ts := l.map fun i => (Str.ofString (toString i))) (by omega) ho hcl hd (repr_allI rv hz) (by omega) fun m u tk hm => ⟨.str m, H1, I1.tok _, ⟨u, rfl⟩, q m (by omega)⟩
/-- what an own class must have for B.__init__(self, ..) -/
structure OexB (K : PySem.W.Frag) (C : Addr) (mc : Value) : Prop where
  rd : ClX.CRead K C mc
  at_ : PySem.W.findCls K (.ref C) mc "__init__" = some (.val (.builtin "ValueError.__init__"))
theorem pe_ownInit {C : Addr} {mc : Value} {e : Expr} {es : List Expr} {ta : TA} {x : Str} {p1 p2 pos : Pos} {pl : Sem Bool} (B : OexB X.K C mc) (hg : Gl X x) (hm : X.mg x = some (.ref C)) (hdb : (x == ("__debug__" : Str)) = false) (ha : PA X (e :: es) ta)
    (hc : eval (.Call (.Attribute (.Name x p1) "__init__" p2) (e :: es) [] pos) X.env = (do
      let ov ← eval (.Name x p1) X.env
      standAt p2.atName
      let (f, first) ← holding [ov] (getMethod ov "__init__" pl)
      callWith pos f first (backTo pos (starEach (e :: es) X.env)) (backToKw pos (keywordEach [] X.env))))
    (he : starEach (e :: es) X.env = (false, eval e X.env) :: starEach es X.env := by rfl) (hpl : (backTo pos (starEach es X.env)).any (·.1) = false := by rfl) :
    PE X (.Call (.Attribute (.Name x p1) "__init__" p2) (e :: es) [] pos) (tVeI X.K ta) := by
  refine ⟨fun pins s σ H Q I h => ?_⟩
  refine PySem.W.methodCall_KW (pl := pl) (ld_glob I hg hm ?_ hdb) hc
  refine PySem.W.method_cls I.kIn B.rd.ga ?_
  refine PySem.W.cls_value I.kIn B.rd.rd B.at_ rfl ?_
  show wpAny _ _ (callWith pos (Value.builtin "ValueError.__init__") [] (backTo pos (starEach (e :: es) X.env)) []) _ _ _
  refine PyProof.Rows.callWith_method1 (thn (ha.run pos pins _ σ H _ (I.tok _) h) fun us s1 ⟨vs, H1, I1, r1, a, C, ws, ev, hl, T, ea, q⟩ => ?_) he hpl
  subst ev
  cases r1 with
  | @cons _ u0 _ ur ra rw' =>
    obtain rfl : u0 = Value.ref a := ra
    have hlen : ur.length ≤ sizeLine := by
      rw [← Paired.length rw', sizeLine_eq]
      omega
    exact oinit_ok T I1 ea hlen fun s' J => ⟨.non, H1, J, rfl, q⟩
end
end L2
/-! Mw, part A: data, the store, the core language and its evaluator. Plain Lean: no heap, no program. -/
namespace Mw
open PySem

/-- a key of a dict -/
abbrev DK := Sum Int (List Nat)
/-- data. lst, dct: lists and dicts that are never changed; ref: a place of the store; scr: the script -/
inductive D where
  | non | bl (b : Bool) | int (i : Int) | str (s : List Nat)
  | tup (ds : List D) | lst (ds : List D) | dct (kvs : List (DK × D))
  | scr (ns : List Int) | ref (n : Nat) | ty (n : String)
/-- what stands at a place of the store -/
inductive MO where
  | lst (ds : List D) | dct (kvs : List (DK × D)) | ins (C : String) (fs : List (String × D))
abbrev Store := List MO
/-- an exception: its class, its fields -/
structure Ex where
  cls : String
  fs : List (String × D)
/-- what an expression gives -/
inductive R (α : Type) where
  | ok (a : α) (S : Store) | exc (e : Ex) (S : Store) | bad
def R.bind {α β : Type} : R α → (α → Store → R β) → R β
  | .ok a S, f => f a S
  | .exc e S, _ => .exc e S
  | .bad, _ => .bad
/-- a comprehension lets no exception out (here) -/
def R.nox {α : Type} : R α → R α
  | .exc _ _ => .bad
  | r => r
abbrev LEnv := List (Option D)
/-- what a statement gives -/
inductive RS where
  | nx (l : LEnv) (S : Store) | rt (d : D) (S : Store) | bk (l : LEnv) (S : Store) | ct (l : LEnv) (S : Store) | exc (e : Ex) (l : LEnv) (S : Store) | bad
abbrev CF := String → List D → Store → R D
/-- calls by names; a method's def by class and name; how often a while may turn -/
structure Cfg where
  cf : CF
  mt : String → String → Option String
  nw : CF
  fuel : Nat
  xf : String → Option (Option String)
  sb : String → String → Option Bool

/-- built-in functions, methods of built-in types -/
inductive BF where
  | len | int | min | max | abs | all | sum | list | tuple | str | dict | sorted
  deriving DecidableEq
inductive MF where
  | append | pop | get | join | update | extend | find | index | split | startswith | dpop
  deriving DecidableEq
mutual
inductive Xp where
  | nop
  | var (i : Nat)
  | con (d : D)
  | glb (x : String) (d : D)
  | tup (es : Xps)
  | lst (m : Bool) (es : Xps)
  | dic (m : Bool) (ks : List DK) (es : Xps)
  | bin (m : Bool) (op : Operator) (a b : Xp)
  | neg (a : Xp)
  | cmp (op : CmpOp) (a b : Xp)
  | chn (op op' : CmpOp) (a b c : Xp)
  | and (es : Xps)
  | or (es : Xps)
  | not (a : Xp)
  | ite (c a b : Xp)
  | idx (a b : Xp)
  | slc (m : Bool) (a lo hi : Xp)
  | call (f : String) (dfl : List D) (es : Xps)
  | blt (f : BF) (m : Bool) (es : Xps)
  | isi (a : Xp) (ts : List String)
  | mtd (f : MF) (o : Xp) (es : Xps)
  | umt (f : String) (o : Xp) (es : Xps)
  | mk (C : String) (es : Xps)
  | fld (o : Xp) (f : String)
  | lc (m : Bool) (tg : List Nat) (tt : Bool) (it elt cnd : Xp)
  | dc (m : Bool) (tg : List Nat) (tt : Bool) (it k v : Xp)
  | seq (a : Xp)
  | rng1 (b : Xp)
  | rng (a b : Xp)
  | enu (a : Xp)
inductive Xps where
  | nil
  | cons (e : Xp) (es : Xps)
end
mutual
inductive Sm where
  | asg (i : Nat) (e : Xp)
  | unp (is : List Nat) (e : Xp)
  | star (i j : Nat) (e : Xp)
  | sset (o i v : Xp)
  | fset (o : Xp) (f : String) (v : Xp)
  | aug (i : Nat) (op : Operator) (e : Xp)
  | faug (o : Xp) (f : String) (op : Operator) (e : Xp)
  | exp (e : Xp)
  | ret (e : Xp)
  | ite (c : Xp) (a b : Sms)
  | fr (tg : List Nat) (tt : Bool) (it : Xp) (body : Sms)
  | whl (c : Xp) (body : Sms)
  | pass | brk | cnt
  | rse (C : String) (es : Xps)
  | rsX (C : String) (es : Xps)
  | tr (C : String) (body suite : Sms)
inductive Sms where
  | nil
  | cons (s : Sm) (ss : Sms)
end

/-! ### operations on data -/
mutual
/-- == of data -/
def deq : D → D → Bool
  | .non, .non => true
  | .bl a, .bl b => a == b
  | .bl a, .int j => (if a then 1 else 0) == j
  | .int i, .bl b => i == (if b then 1 else 0)
  | .int i, .int j => i == j
  | .str x, .str y => x == y
  | .lst xs, .lst ys => deqs xs ys
  | .tup xs, .tup ys => deqs xs ys
  | _, _ => false
def deqs : List D → List D → Bool
  | [], [] => true
  | x :: xs, y :: ys => deq x y && deqs xs ys
  | _, _ => false
end
def strOkL (s : List Nat) : Bool := PyData.strOk ⟨s.toArray⟩
mutual
/-- may be compared; so many within one another at most -/
def eqOk : Nat → D → Bool
  | _, .non => true
  | _, .bl _ => true
  | _, .int _ => true
  | _, .str s => strOkL s
  | n + 1, .lst xs => eqOks n xs
  | n + 1, .tup xs => eqOks n xs
  | _, _ => false
def eqOks : Nat → List D → Bool
  | _, [] => true
  | n, x :: xs => eqOk n x && eqOks n xs
end
def flatD : D → Bool
  | .non => true
  | .bl _ => true
  | .int _ => true
  | .str _ => true
  | _ => false
/-- two flat data that == compares at once -/
def scalD : D → D → Bool
  | .non, .non => true | .non, .int _ => true | .int _, .non => true | .non, .bl _ => true | .bl _, .non => true | .non, .str _ => true | .str _, .non => true
  | .int _, .int _ => true | .bl _, .bl _ => true | .str _, .str _ => true | .int _, .str _ => true | .str _, .int _ => true | .bl _, .str _ => true | .str _, .bl _ => true
  | _, _ => false
/-- the items of a list or tuple -/
def seqOf (S : Store) : D → Option (List D)
  | .tup ds => some ds
  | .lst ds => some ds
  | .scr ns => some (ns.map D.int)
  | .ref n => match S[n]? with
    | some (.lst ds) => some ds
    | _ => none
  | _ => none
/-- the items of a list -/
def lstOf (S : Store) : D → Option (List D)
  | .lst ds => some ds
  | .ref n => match S[n]? with
    | some (.lst ds) => some ds
    | _ => none
  | _ => none
/-- the items of a tuple -/
def tupOf : D → Option (List D)
  | .tup ds => some ds
  | _ => none
/-- == (a list, a tuple may be compared with an empty one whatever it holds) -/
def eqR (S : Store) (x y : D) : Option Bool := if scalD x y || (eqOk 60 x && eqOk 60 y) then some (deq x y) else
  match lstOf S x, lstOf S y with
  | some a, some b => if a.isEmpty || b.isEmpty then some (a.isEmpty && b.isEmpty) else none
  | _, _ => match tupOf x, tupOf y with
    | some a, some b => if a.isEmpty || b.isEmpty then some (a.isEmpty && b.isEmpty) else none
    | _, _ => none
def dctOf (S : Store) : D → Option (List (DK × D))
  | .dct kvs => some kvs
  | .ref n => match S[n]? with
    | some (.dct kvs) => some kvs
    | _ => none
  | _ => none
def keyOf : D → Option DK
  | .int i => some (.inl i)
  | .str s => some (.inr s)
  | _ => none
def dGet (kvs : List (DK × D)) (k : DK) : Option D := (kvs.find? fun kv => decide (kv.1 = k)).map (·.2)
def dPut (kvs : List (DK × D)) (k : DK) (v : D) : List (DK × D) :=
  if (kvs.any fun kv => decide (kv.1 = k)) = true then kvs.map (fun kv => if kv.1 = k then (kv.1, v) else kv) else kvs ++ [(k, v)]
def dMerge (kvs more : List (DK × D)) : List (DK × D) := more.foldl (fun acc kv => dPut acc kv.1 kv.2) kvs
def mkL (m : Bool) (ds : List D) (S : Store) : R D := if m then .ok (.ref S.length) (S ++ [.lst ds]) else .ok (.lst ds) S
def mkD (m : Bool) (kvs : List (DK × D)) (S : Store) : R D := if m then .ok (.ref S.length) (S ++ [.dct kvs]) else .ok (.dct kvs) S
def cut {α : Type} (xs : List α) (lo hi : Option Int) : List α := (xs.drop (HT.sIx xs.length 0 lo)).take (HT.sIx xs.length xs.length hi - HT.sIx xs.length 0 lo)
def mulOk (i j : Int) : Bool := decide (((-(2 ^ 64) < i ∧ i < 2 ^ 64) ∨ (-(2 ^ 64) < j ∧ j < 2 ^ 64)) ∨ (i.natAbs.log2 < 60000000 ∧ j.natAbs.log2 < 60000000))
def sizeOk (n : Nat) : Bool := decide (n ≤ sizeLine)

def binR (m : Bool) (op : Operator) (x y : D) (S : Store) : R D :=
  match op with
  | .Add => match x, y with
    | .int i, .int j => .ok (.int (i + j)) S
    | .str a, .str b => if sizeOk (a.length + b.length) then .ok (.str (a ++ b)) S else .bad
    | .tup a, .tup b => if sizeOk (a.length + b.length) then .ok (.tup (a ++ b)) S else .bad
    | _, _ => match lstOf S x, lstOf S y with
      | some a, some b => if sizeOk (a.length + b.length) then mkL m (a ++ b) S else .bad
      | _, _ => .bad
  | .Sub => match x, y with
    | .int i, .int j => .ok (.int (i - j)) S
    | _, _ => .bad
  | .Mult => match x, y with
    | .int i, .int j => if mulOk i j then .ok (.int (i * j)) S else .bad
    | .str a, .int n => if decide (0 ≤ n ∧ n ≤ 1000 ∧ a.length ≤ 1000) then .ok (.str (List.replicate n.toNat a).flatten) S else .bad
    | .lst a, .int n => if decide (0 ≤ n ∧ n ≤ 1000 ∧ a.length ≤ 1000) then mkL m (List.replicate n.toNat a).flatten S else .bad
    | _, _ => .bad
  | .FloorDiv => match x, y with
    | .int i, .int j => if decide (0 < j ∧ j < 1073741824) then .ok (.int (i / j)) S else .bad
    | _, _ => .bad
  | .Mod => match x, y with
    | .int i, .int j => if decide (0 < j) then .ok (.int (i % j)) S else .bad
    | _, _ => .bad
  | .Pow => match x, y with
    | .int i, .int j => if decide (0 ≤ j ∧ j ≤ 1000000 ∧ i.natAbs < 2 ^ 64) then .ok (.int (i ^ j.toNat)) S else .bad
    | _, _ => .bad
  | _ => .bad
def inR (S : Store) (x y : D) : Option Bool :=
  match y with
  | .str z => match x with
    | .str [c] => some (decide (c ∈ z))
    | _ => none
  | _ => match dctOf S y with
    | some kvs => (keyOf x).map fun k => (dGet kvs k).isSome
    | none => match seqOf S y with
      | some ds => if flatD x && ds.all flatD then some (ds.any fun z => deq z x) else none
      | none => none
def cmpR (op : CmpOp) (x y : D) (S : Store) : R D :=
  let tell : Option Bool → R D := fun o => match o with
    | some b => .ok (.bl b) S
    | none => .bad
  match op with
  | .Eq => tell (eqR S x y)
  | .NotEq => tell ((eqR S x y).map (!·))
  | .Lt => match x, y with
    | .int i, .int j => .ok (.bl (decide (i < j))) S
    | .str i, .str j => .ok (.bl (decide (i < j))) S
    | _, _ => .bad
  | .LtE => match x, y with
    | .int i, .int j => .ok (.bl (decide (i ≤ j))) S
    | .str i, .str j => .ok (.bl (!decide (j < i))) S
    | _, _ => .bad
  | .Gt => match x, y with
    | .int i, .int j => .ok (.bl (decide (j < i))) S
    | _, _ => .bad
  | .GtE => match x, y with
    | .int i, .int j => .ok (.bl (decide (j ≤ i))) S
    | _, _ => .bad
  | .Is => match y with
    | .non => .ok (.bl (match x with | .non => true | _ => false)) S
    | _ => .bad
  | .IsNot => match y with
    | .non => .ok (.bl (match x with | .non => false | _ => true)) S
    | _ => .bad
  | .In => tell (inR S x y)
  | .NotIn => tell ((inR S x y).map (!·))
def idxR (x y : D) (S : Store) : R D :=
  match x with
  | .str s => match y with
    | .int i => if sizeOk s.length then (match L2.atI s i with | some c => .ok (.str [c]) S | none => .bad) else .bad
    | _ => .bad
  | _ => match dctOf S x with
    | some kvs => match (keyOf y).bind (dGet kvs) with
      | some v => .ok v S
      | none => .bad
    | none => match seqOf S x, y with
      | some ds, .int i => (match L2.atI ds i with | some v => .ok v S | none => .bad)
      | _, _ => .bad
def slcR (m : Bool) (x : D) (l h : Option Int) (S : Store) : R D :=
  match x with
    | .str s => if sizeOk s.length then .ok (.str (cut s l h)) S else .bad
    | .tup ds => .ok (.tup (cut ds l h)) S
    | _ => match lstOf S x with
      | some ds => mkL m (cut ds l h) S
      | none => .bad
/-- a datum's type -/
def tyName (S : Store) : D → Option String
  | .non => some "NoneType"
  | .bl _ => some "bool"
  | .int _ => some "int"
  | .str _ => some "str"
  | .tup _ => some "tuple"
  | .lst _ => some "list"
  | .dct _ => some "dict"
  | .scr _ => some "list"
  | .ref n => match S[n]? with
    | some (.lst _) => some "list"
    | some (.dct _) => some "dict"
    | _ => none
  | .ty _ => none
/-- bool stands below int -/
def below (T t : String) : Bool := T == t || (T == "bool" && t == "int")
def isiR (x : D) (ts : List String) (S : Store) : R D :=
  match ts with
  | [t] => match tyName S x with
    | some T => .ok (.bl (below T t)) S
    | none => .bad
  | [t, u] => match tyName S x with
    | some T => .ok (.bl (below T t || below T u)) S
    | none => .bad
  | _ => .bad
def allInts : List D → Option (List Int)
  | [] => some []
  | .int i :: r => (allInts r).map (i :: ·)
  | _ :: _ => none
def allBools : List D → Option (List Bool)
  | [] => some []
  | .bl b :: r => (allBools r).map (b :: ·)
  | _ :: _ => none
def allStrs : List D → Option (List (List Nat))
  | [] => some []
  | .str s :: r => (allStrs r).map (s :: ·)
  | _ :: _ => none
/-- the texts joined -/
def joinL (a : List Nat) : List (List Nat) → List Nat
  | [] => []
  | [y] => y
  | y :: z :: r => y ++ (a ++ joinL a (z :: r))
def bltR (f : BF) (m : Bool) (xs : List D) (S : Store) : R D :=
  match f, xs with
  | .len, [.str s] => if sizeOk s.length then .ok (.int s.length) S else .bad
  | .len, [x] => match seqOf S x with
    | some ds => .ok (.int ds.length) S
    | none => .bad
  | .int, [.int i] => .ok (.int i) S
  | .int, [.bl b] => .ok (.int (if b then 1 else 0)) S
  | .int, [.str s] => if decide (s.length ≤ 640) then (match PySem.intText? ⟨s.toArray⟩ with
    | some n => .ok (.int n) S
    | none => .bad) else .bad
  | .min, [.int i, .int j] => .ok (.int (if j < i then j else i)) S
  | .max, [.int i, .int j] => .ok (.int (if j > i then j else i)) S
  | .abs, [.int i] => .ok (.int (if i < 0 then -i else i)) S
  | .all, [x] => match (seqOf S x).bind allBools with
    | some bs => match x with
      | .tup _ => .bad
      | _ => .ok (.bl (bs.all id)) S
    | none => .bad
  | .sum, [x] => match (seqOf S x).bind allInts with
    | some ns => match x with
      | .tup _ => .bad
      | _ => .ok (.int ns.sum) S
    | none => .bad
  | .list, [x] => match seqOf S x with
    | some ds => mkL m ds S
    | none => .bad
  | .tuple, [x] => match seqOf S x with
    | some ds => .ok (.tup ds) S
    | none => .bad
  | .str, [.int i] => if decide (i.natAbs.log2 < 1920) then .ok (.str (toString i : Str).cps.toList) S else .bad
  | .str, [.str s] => .ok (.str s) S
  | .dict, [x] => match dctOf S x with
    | some kvs => mkD m kvs S
    | none => .bad
  | _, _ => .bad
def mtdR (f : MF) (o : D) (xs : List D) (S : Store) : R D :=
  match f with
  | .append => match o, xs with
    | .ref n, [x] => match S[n]? with
      | some (.lst ds) => if decide (ds.length < sizeLine) then .ok .non (S.set n (.lst (ds ++ [x]))) else .bad
      | _ => .bad
    | _, _ => .bad
  | .pop => match o, xs with
    | .ref n, [] => match S[n]? with
      | some (.lst ds) => match ds[ds.length - 1]? with
        | some y => .ok y (S.set n (.lst ds.dropLast))
        | none => .bad
      | _ => .bad
    | .ref n, [.int i] => if decide (i = 0) then (match S[n]? with
      | some (.lst (y :: ds)) => .ok y (S.set n (.lst ds))
      | _ => .bad) else .bad
    | _, _ => .bad
  | .extend => match o, xs with
    | .ref n, [x] => match S[n]?, lstOf S x with
      | some (.lst ds), some zs => if decide (ds.length + zs.length ≤ sizeLine) then .ok .non (S.set n (.lst (ds ++ zs))) else .bad
      | _, _ => .bad
    | _, _ => .bad
  | .dpop => match o, xs with
    | .ref n, [k, d] => match S[n]?, keyOf k with
      | some (.dct kvs), some k => .ok ((dGet kvs k).getD d) (S.set n (.dct (kvs.filter fun kv => decide (kv.1 ≠ k))))
      | _, _ => .bad
    | _, _ => .bad
  | .split => match o, xs with
    | .str a, [.str b] => if decide (b ≠ [] ∧ a.length ≤ 1000000) then .ok (.lst ((Txt.split ⟨a.toArray⟩ ⟨b.toArray⟩).map fun z => .str z.cps.toList)) S else .bad
    | _, _ => .bad
  | .startswith => match o, xs with
    | .str a, [.str b] => .ok (.bl (Txt.startswith ⟨a.toArray⟩ ⟨b.toArray⟩)) S
    | _, _ => .bad
  | .get => match dctOf S o, xs with
    | some kvs, [k] => match keyOf k with
      | some k => .ok ((dGet kvs k).getD .non) S
      | none => .bad
    | some kvs, [k, d] => match keyOf k with
      | some k => .ok ((dGet kvs k).getD d) S
      | none => .bad
    | _, _ => .bad
  | .join => match o, xs with
    | .str a, [x] => match (seqOf S x).bind allStrs with
      | some ys => if decide ((ys.map List.length).sum + ys.length * a.length ≤ 16777216) then .ok (.str (joinL a ys)) S else .bad
      | none => .bad
    | _, _ => .bad
  | .update => match o, xs with
    | .ref n, [.dct more] => match S[n]? with
      | some (.dct kvs) => if decide (kvs.length + more.length < 1000) then .ok .non (S.set n (.dct (dMerge kvs more))) else .bad
      | _ => .bad
    | _, _ => .bad
  | .index => match lstOf S o, xs with
    | some ds, [y] => if flatD y && ds.all flatD then (match ds.findIdx? (fun z => deq z y) with
      | some j => .ok (.int (j : Nat)) S
      | none => .bad) else .bad
    | _, _ => .bad
  | _ => .bad
/-- what a method is asked of -/
def mtdPre (f : MF) (o : D) (S : Store) : Bool :=
  match f with
  | .append => (lstOf S o).isSome
  | .pop => (lstOf S o).isSome
  | .extend => (lstOf S o).isSome
  | .index => (lstOf S o).isSome
  | .get => (dctOf S o).isSome
  | .update => (dctOf S o).isSome
  | .join => match o with
    | .str _ => true
    | _ => false
  | .find => match o with
    | .str _ => true
    | _ => false
  | .dpop => (dctOf S o).isSome
  | .split => match o with
    | .str _ => true
    | _ => false
  | .startswith => match o with
    | .str _ => true
    | _ => false
def fGet (fs : List (String × D)) (f : String) : Option D := fs.lookup f
/-- in its place, or at the end -/
def fPut (f : String) (v : D) : List (String × D) → List (String × D)
  | [] => [(f, v)]
  | (g, u) :: r => if g = f then (g, v) :: r else (g, u) :: fPut f v r
/-- an object's class -/
def clsOf (S : Store) (o : D) : Option String :=
  match o with
  | .ref n => match S[n]? with
    | some (.ins C _) => some C
    | _ => none
  | _ => none
def fldR (o : D) (f : String) (S : Store) : R D :=
  match o with
  | .ref n => match S[n]? with
    | some (.ins _ fs) => match fGet fs f with
      | some d => .ok d S
      | none => .bad
    | _ => .bad
  | _ => .bad
/-- a target takes a datum -/
def setAll : List Nat → List D → LEnv → Option LEnv
  | [], [], l => some l
  | i :: is, d :: ds, l => setAll is ds (l.set i (some d))
  | _, _, _ => none
def bindT (tg : List Nat) (tt : Bool) (d : D) (l : LEnv) : Option LEnv :=
  if tt then (match d with
    | .tup ds => setAll tg ds l
    | _ => none)
  else setAll tg [d] l
/-- what a loop walks (lists of the store aside) -/
def itemsOf : D → Option (List D)
  | .tup ds => some ds
  | .lst ds => some ds
  | .scr ns => some (ns.map D.int)
  | .str s => some (s.map fun c => D.str [c])
  | _ => none
def wipeL (l : LEnv) : List Nat → LEnv
  | [] => l
  | v :: vs => (wipeL l vs).set v none
def lcLoop (c : LEnv → Store → R Bool) (f : LEnv → Store → R D) (tg : List Nat) (tt : Bool) (l : LEnv) : List D → List D → Store → R (List D)
  | [], acc, S => .ok acc S
  | d :: ds, acc, S => match bindT tg tt d l with
    | none => .bad
    | some l1 => (c l1 S).bind fun b S1 =>
      if b then (f l1 S1).bind fun y S2 => if decide (acc.length < sizeLine) then lcLoop c f tg tt l ds (acc ++ [y]) S2 else .bad
      else lcLoop c f tg tt l ds acc S1
def dcLoop (k : LEnv → Store → R DK) (f : LEnv → Store → R D) (tg : List Nat) (tt : Bool) (l : LEnv) : List D → List (DK × D) → Store → R (List (DK × D))
  | [], acc, S => .ok acc S
  | d :: ds, acc, S => match bindT tg tt d l with
    | none => .bad
    | some l1 => (k l1 S).bind fun k1 S1 => (f l1 S1).bind fun y S2 => if decide (acc.length < sizeLine) then dcLoop k f tg tt l ds (dPut acc k1 y) S2 else .bad
def rngL (a b : Int) : List D := (List.range (b - a).toNat).map fun (i : Nat) => D.int (a + i)
def enuL (ds : List D) : List D := (ds.zipIdx 0).map fun p => D.tup [.int (p.2 : Nat), p.1]
/-- the def that o's class has for the name f -/
def umtQ (g : Cfg) (f : String) (o : D) (S : Store) : Option String :=
  match o with
  | .ref n => match S[n]? with
    | some (.ins C fs) => match fGet fs f with
      | none => g.mt C f
      | some _ => none
    | _ => none
  | _ => none

/-- a new object: its __init__ q runs -/
def mkR (cf : CF) (q C : String) (xs : List D) (S : Store) : R D := (cf q (.ref S.length :: xs) (S ++ [.ins C []])).bind fun d S1 => match d with
  | .non => .ok (.ref S.length) S1
  | _ => .bad
def Xp.isNop : Xp → Bool
  | .nop => true
  | _ => false
def asI (d : D) (S : Store) : R (Option Int) := match d with
  | .int i => .ok (some i) S
  | _ => .bad
def asB (d : D) (S : Store) : R Bool := match d with
  | .bl b => .ok b S
  | _ => .bad
def itemsR (d : D) (S : Store) : R (List D) := match itemsOf d with
  | some ds => .ok ds S
  | none => .bad
def keyR (d : D) (S : Store) : R DK := match keyOf d with
  | some k => .ok k S
  | none => .bad
/-! ### the evaluator -/
mutual
def ev (g : Cfg) : Xp → LEnv → Store → R D
  | .nop, _, _ => .bad
  | .var i, l, S => match l[i]? with
    | some (some d) => .ok d S
    | _ => .bad
  | .con d, _, S => .ok d S
  | .glb _ d, _, S => .ok d S
  | .tup es, l, S => (evs g es l S).bind fun ds S1 => if sizeOk ds.length then .ok (.tup ds) S1 else .bad
  | .lst m es, l, S => (evs g es l S).bind fun ds S1 => if sizeOk ds.length then mkL m ds S1 else .bad
  | .dic m ks es, l, S => (evs g es l S).nox.bind fun ds S1 => if decide (ds.length = ks.length ∧ ks.length ≤ 15) then mkD m (dMerge [] (ks.zip ds)) S1 else .bad
  | .bin m op a b, l, S => (ev g a l S).bind fun x S1 => (ev g b l S1).bind fun y S2 => binR m op x y S2
  | .neg a, l, S => (ev g a l S).bind fun x S1 => match x with
    | .int i => .ok (.int (-i)) S1
    | _ => .bad
  | .cmp op a b, l, S => (ev g a l S).bind fun x S1 => (ev g b l S1).bind fun y S2 => cmpR op x y S2
  | .chn op op' a b c, l, S => (ev g a l S).bind fun x S1 => (ev g b l S1).bind fun y S2 => ((cmpR op x y S2).bind asB).bind fun z S3 =>
    if z then (ev g c l S3).bind fun w S4 => cmpR op' y w S4 else .ok (.bl false) S3
  | .and es, l, S => evAnd g es l S
  | .or es, l, S => evOr g es l S
  | .not a, l, S => ((ev g a l S).bind asB).bind fun b S1 => .ok (.bl (!b)) S1
  | .ite c a b, l, S => ((ev g c l S).bind asB).bind fun k S1 => if k then ev g a l S1 else ev g b l S1
  | .idx a b, l, S => (ev g a l S).bind fun x S1 => (ev g b l S1).bind fun y S2 => idxR x y S2
  | .slc m a lo hi, l, S => (ev g a l S).bind fun x S1 => (if lo.isNop then .ok none S1 else (ev g lo l S1).bind asI).bind fun y S2 => (if hi.isNop then .ok none S2 else (ev g hi l S2).bind asI).bind fun z S3 => slcR m x y z S3
  | .call f dfl es, l, S => (evs g es l S).bind fun ds S1 => g.cf f (ds ++ dfl) S1
  | .blt f m es, l, S => (evs g es l S).bind fun ds S1 => bltR f m ds S1
  | .isi a ts, l, S => (ev g a l S).bind fun x S1 => isiR x ts S1
  | .mtd f o es, l, S => (ev g o l S).bind fun x S1 => if mtdPre f x S1 then (evs g es l S1).bind fun ds S2 => mtdR f x ds S2 else .bad
  | .umt f o es, l, S => (ev g o l S).bind fun x S1 => match umtQ g f x S1 with
    | some q => (evs g es l S1).bind fun ds S2 => g.cf q (x :: ds) S2
    | none => .bad
  | .mk C es, l, S => (evs g es l S).bind fun ds S1 => g.nw C ds S1
  | .fld o f, l, S => (ev g o l S).bind fun x S1 => fldR x f S1
  | .lc m tg tt it elt cnd, l, S => ((ev g it l S).bind itemsR).bind fun ds S1 =>
    (lcLoop (fun l1 S2 => ((ev g cnd l1 S2).bind asB).nox) (fun l1 S2 => (ev g elt l1 S2).nox) tg tt (wipeL l tg) ds [] S1).bind fun ys S2 => mkL m ys S2
  | .dc m tg tt it k v, l, S => ((ev g it l S).bind itemsR).bind fun ds S1 =>
    (dcLoop (fun l1 S2 => ((ev g k l1 S2).bind keyR).nox) (fun l1 S2 => (ev g v l1 S2).nox) tg tt (wipeL l tg) ds [] S1).bind fun ys S2 => mkD m ys S2
  | .seq a, l, S => ev g a l S
  | .rng1 b, l, S => (ev g b l S).bind fun y S2 => match y with
    | .int j => if decide (-(2 ^ 62) ≤ j ∧ j < 2 ^ 62) then .ok (.lst (rngL 0 j)) S2 else .bad
    | _ => .bad
  | .rng a b, l, S => (ev g a l S).bind fun x S1 => (ev g b l S1).bind fun y S2 => match x, y with
    | .int i, .int j => if decide (-(2 ^ 62) ≤ i ∧ i < 2 ^ 62 ∧ -(2 ^ 62) ≤ j ∧ j < 2 ^ 62) then .ok (.lst (rngL i j)) S2 else .bad
    | _, _ => .bad
  | .enu a, l, S => (ev g a l S).bind fun x S1 => match x with
    | .lst ds => .ok (.lst (enuL ds)) S1
    | .tup ds => .ok (.lst (enuL ds)) S1
    | _ => .bad
def evs (g : Cfg) : Xps → LEnv → Store → R (List D)
  | .nil, _, S => .ok [] S
  | .cons e es, l, S => (ev g e l S).bind fun x S1 => (evs g es l S1).bind fun xs S2 => .ok (x :: xs) S2
def evAnd (g : Cfg) : Xps → LEnv → Store → R D
  | .nil, _, _ => .bad
  | .cons e .nil, l, S => ev g e l S
  | .cons e (.cons f fs), l, S => ((ev g e l S).bind asB).bind fun b S1 => if b then evAnd g (.cons f fs) l S1 else .ok (.bl false) S1
def evOr (g : Cfg) : Xps → LEnv → Store → R D
  | .nil, _, _ => .bad
  | .cons e .nil, l, S => ev g e l S
  | .cons e (.cons f fs), l, S => ((ev g e l S).bind asB).bind fun b S1 => if b then .ok (.bl true) S1 else evOr g (.cons f fs) l S1
end

/-! ### statements -/
def RS.seq : RS → (LEnv → Store → RS) → RS
  | .nx l S, f => f l S
  | r, _ => r
/-- an expression's answer within a statement -/
def R.then {α : Type} (l : LEnv) : R α → (α → Store → RS) → RS
  | .ok a S, f => f a S
  | .exc e S, _ => .exc e l S
  | .bad, _ => .bad
def forLoop (body : LEnv → Store → RS) (tg : List Nat) (tt : Bool) : List D → LEnv → Store → RS
  | [], l, S => .nx l S
  | d :: ds, l, S => match bindT tg tt d l with
    | none => .bad
    | some l1 => match body l1 S with
      | .nx l2 S2 => forLoop body tg tt ds l2 S2
      | .ct l2 S2 => forLoop body tg tt ds l2 S2
      | .bk l2 S2 => .nx l2 S2
      | r => r
def whlLoop (c : LEnv → Store → R Bool) (body : LEnv → Store → RS) : Nat → LEnv → Store → RS
  | 0, _, _ => .bad
  | n + 1, l, S => (c l S).then l fun b S1 => if b then (match body l S1 with
      | .nx l2 S2 => whlLoop c body n l2 S2
      | .ct l2 S2 => whlLoop c body n l2 S2
      | .bk l2 S2 => .nx l2 S2
      | r => r) else .nx l S1
def ssetR (o i v : D) (S : Store) : R Unit :=
  match o with
  | .ref n => match S[n]? with
    | some (.lst ds) => match i with
      | .int k => match L2.ixN ds.length k with
        | some j => .ok () (S.set n (.lst (ds.set j v)))
        | none => .bad
      | _ => .bad
    | some (.dct kvs) => match keyOf i with
      | some k => if decide (kvs.length < 1000) then .ok () (S.set n (.dct (dPut kvs k v))) else .bad
      | none => .bad
    | _ => .bad
  | _ => .bad
def fsetR (o : D) (f : String) (v : D) (S : Store) : R Unit :=
  match o with
  | .ref n => match S[n]? with
    | some (.ins C fs) => if decide (fs.length < 100) then .ok () (S.set n (.ins C (fPut f v fs))) else .bad
    | _ => .bad
  | _ => .bad
def augR (op : Operator) (x y : D) : Option D :=
  match op, x, y with
  | .Add, .int i, .int j => some (.int (i + j))
  | .Sub, .int i, .int j => some (.int (i - j))
  | _, _, _ => none
/-- what an exception's own field may be: a number, numbers in a tuple -/
def xOk : D → Bool
  | .int i => decide (i.natAbs.log2 < 1920)
  | .tup ds => decide (ds.length ≤ 100) && match allInts ds with
    | some is => is.all fun i => decide (i.natAbs.log2 < 1920)
    | none => false
  | _ => false
/-- an exception is made and raised: without a field, or with one -/
def newX (k : Option (Option String)) (C : String) (ds : List D) (l : LEnv) (S : Store) : RS := match k, ds with
  | some none, _ => .exc ⟨C, []⟩ l S
  | some (some f), [d] => if xOk d then .exc ⟨C, [(f, d)]⟩ l S else .bad
  | _, _ => .bad
mutual
def ex (g : Cfg) : Sm → LEnv → Store → RS
  | .asg i e, l, S => (ev g e l S).then l fun d S1 => .nx (l.set i (some d)) S1
  | .unp is e, l, S => (ev g e l S).then l fun d S1 => match seqOf S1 d with
    | some ds => match setAll is ds l with
      | some l1 => .nx l1 S1
      | none => .bad
    | none => .bad
  | .star i j e, l, S => (ev g e l S).then l fun d S1 => match d with
    | .tup (x :: ds) => if decide (ds.length < 16000) then .nx ((l.set i (some x)).set j (some (.lst ds))) S1 else .bad
    | .lst (x :: ds) => if decide (ds.length < 16000) then .nx ((l.set i (some x)).set j (some (.lst ds))) S1 else .bad
    | _ => .bad
  | .sset o i v, l, S => (ev g v l S).then l fun z S1 => (ev g o l S1).then l fun x S2 => (ev g i l S2).then l fun y S3 => (ssetR x y z S3).then l fun _ S4 => .nx l S4
  | .fset o f v, l, S => (ev g v l S).then l fun z S1 => (ev g o l S1).then l fun x S2 => (fsetR x f z S2).then l fun _ S3 => .nx l S3
  | .aug i op e, l, S => match l[i]? with
    | some (some x) => (ev g e l S).then l fun y S1 => match augR op x y with
      | some z => .nx (l.set i (some z)) S1
      | none => .bad
    | _ => .bad
  | .faug o f op e, l, S => (ev g o l S).then l fun x S1 => (fldR x f S1).then l fun u S2 => (ev g e l S2).then l fun y S3 => match augR op u y with
      | some z => if clsOf S3 x = clsOf S1 x then (fsetR x f z S3).then l fun _ S4 => .nx l S4 else .bad
      | none => .bad
  | .exp e, l, S => (ev g e l S).then l fun _ S1 => .nx l S1
  | .ret e, l, S => (ev g e l S).then l fun d S1 => .rt d S1
  | .ite c a b, l, S => ((ev g c l S).bind asB).then l fun k S1 => if k then exs g a l S1 else exs g b l S1
  | .fr tg tt it body, l, S => ((ev g it l S).bind itemsR).then l fun ds S1 => forLoop (fun l1 S2 => exs g body l1 S2) tg tt ds l S1
  | .whl c body, l, S => whlLoop (fun l1 S2 => (ev g c l1 S2).bind asB) (fun l1 S2 => exs g body l1 S2) g.fuel l S
  | .pass, l, S => .nx l S
  | .brk, l, S => .bk l S
  | .cnt, l, S => .ct l S
  | .rse _ _, _, _ => .bad
  | .rsX C es, l, S => (evs g es l S).then l fun ds S1 => newX (g.xf C) C ds l S1
  | .tr C body suite, l, S => match exs g body l S with
    | .exc e l1 S1 => match g.sb e.cls C with
      | some true => exs g suite l1 S1
      | some false => .exc e l1 S1
      | none => .bad
    | r => r
def exs (g : Cfg) : Sms → LEnv → Store → RS
  | .nil, l, S => .nx l S
  | .cons s ss, l, S => (ex g s l S).seq fun l1 S1 => exs g ss l1 S1
end
/-- a def: how many arguments, how many names, its body -/
structure Fn where
  ar : Nat
  n : Nat
  body : Sms
/-- a body's answer as a call's -/
def RS.out : RS → R D
  | .nx _ S => .ok .non S
  | .rt d S => .ok d S
  | .exc e _ S => .exc e S
  | _ => .bad
def run (g : Cfg) (f : Fn) (xs : List D) (S : Store) : R D :=
  if xs.length = f.ar ∧ f.ar ≤ f.n then (exs g f.body (xs.map some ++ List.replicate (f.n - f.ar) none) S).out else .bad
end Mw
/-! Mw, part B: how data lie in the abstract heap; what an evaluator's answer asks. -/
namespace Mw
open PySem PySem.Spec PyProof.Rows L2
abbrev nm (x : String) : Str := Str.ofString x
def tx (s : List Nat) : Str := ⟨s.toArray⟩
def kx : DK → Key
  | .inl i => .inl i
  | .inr s => .inr (tx s)
theorem tx_inj {a b : List Nat} (h : tx a = tx b) : a = b := by
  have := congrArg (fun z : Str => z.cps.toList) h
  simpa [tx] using this
theorem kx_inj {a b : DK} (h : kx a = kx b) : a = b := by
  cases a <;> cases b <;> simp [kx] at h
  · subst h; rfl
  · rw [tx_inj h]
theorem tx_len (s : List Nat) : (tx s).length = s.length := by simp [tx, Str.length]
theorem tx_app (a b : List Nat) : tx (a ++ b) = tx a ++ tx b := by
  show _ = Str.append _ _
  simp [tx, Str.append]
theorem nm_inj {a b : String} (h : nm a = nm b) : a = b := by
  unfold nm at h
  rw [Str.ofString_eq_toList, Str.ofString_eq_toList] at h
  have h1 : a.toList.map Char.toNat = b.toList.map Char.toNat := by simpa using h
  have inj : ∀ c d : Char, c.toNat = d.toNat → c = d := fun c d e => Char.ext (UInt32.toNat_inj.mp e)
  have h2 : a.toList = b.toList := (List.map_inj_right inj).mp h1
  exact String.toList_inj.mp h2

/-- what stands still (fz); what a comprehension is at (pv); the store's places (ro) -/
structure Wd where
  fz : Hp
  pv : Hp
  ro : List Addr
structure Wd.le0 (W W' : Wd) : Prop where
  fz : Same W.fz W'.fz
  ro : ∃ more, W'.ro = W.ro ++ more
structure Wd.le (W W' : Wd) : Prop extends Wd.le0 W W' where
  pv : W'.pv = W.pv
theorem Wd.le0.refl (W : Wd) : W.le0 W := ⟨Same.refl _, [], by simp⟩
theorem Wd.le0.trans {A B C : Wd} (h : A.le0 B) (k : B.le0 C) : A.le0 C := by
  obtain ⟨m, e⟩ := h.ro
  obtain ⟨n, f⟩ := k.ro
  exact ⟨h.fz.trans k.fz, m ++ n, by rw [f, e, List.append_assoc]⟩
theorem Wd.le.refl (W : Wd) : W.le W := ⟨.refl W, rfl⟩
theorem Wd.le.trans {A B C : Wd} (h : A.le B) (k : B.le C) : A.le C := ⟨h.tole0.trans k.tole0, k.pv.trans h.pv⟩
theorem Wd.le0.get {W W' : Wd} (h : W.le0 W') {n : Nat} {a : Addr} (e : W.ro[n]? = some a) : W'.ro[n]? = some a := by
  obtain ⟨m, e'⟩ := h.ro
  rw [e', List.getElem?_append_left (List.getElem?_eq_some_iff.mp e).1]
  exact e
theorem sqt_mono {K : PySem.W.Frag} {H H' : Hp} {a : Addr} {xs : List V} (e : Same H H') (h : SqT K H a xs) : SqT K H' a xs := by
  rcases h with (h | ⟨o, h⟩) | h
  · exact .inl (.inl (e _ _ h))
  · exact .inl (.inr ⟨o, e _ _ h⟩)
  · exact .inr h
theorem rd_mono {H H' : Hp} {a : Addr} {o : HO} (e : Same H H') (h : Rd H a o) : Rd H' a o := by
  rcases h with h | ⟨u, h⟩
  · exact .inl (e _ _ h)
  · exact .inr ⟨u, e _ _ h⟩
mutual
inductive Vi (K : PySem.W.Frag) (W : Wd) : D → V → Prop
  | non : Vi K W .non .non
  | bl (b : Bool) : Vi K W (.bl b) (.bl b)
  | int (i : Int) : Vi K W (.int i) (.int i)
  | str (s : List Nat) : Vi K W (.str s) (.str (tx s))
  | tup {a : Addr} {vs : List V} {ds : List D} : SqT K W.fz a vs → Vis K W ds vs → Vi K W (.tup ds) (.ref a)
  | lst {a : Addr} {vs : List V} {ds : List D} : W.fz a = some (.lst vs) → Vis K W ds vs → Vi K W (.lst ds) (.ref a)
  | dct {a : Addr} {ws : List (Key × V)} {kvs : List (DK × D)} : W.fz a = some (.dK ws) → Vik K W kvs ws → Vi K W (.dct kvs) (.ref a)
  | scr {a : Addr} {ns : List Int} : SqL K W.fz a (ns.map V.int) → Vi K W (.scr ns) (.ref a)
  | ref {n : Nat} {a : Addr} : W.ro[n]? = some a → Vi K W (.ref n) (.ref a)
  | ty (n : String) : Vi K W (.ty n) (.ty n)
inductive Vis (K : PySem.W.Frag) (W : Wd) : List D → List V → Prop
  | nil : Vis K W [] []
  | cons {d : D} {v : V} {ds : List D} {vs : List V} : Vi K W d v → Vis K W ds vs → Vis K W (d :: ds) (v :: vs)
inductive Vik (K : PySem.W.Frag) (W : Wd) : List (DK × D) → List (Key × V) → Prop
  | nil : Vik K W [] []
  | cons {k : DK} {d : D} {v : V} {ds : List (DK × D)} {vs : List (Key × V)} : Vi K W d v → Vik K W ds vs → Vik K W ((k, d) :: ds) ((kx k, v) :: vs)
end
section
variable {K : PySem.W.Frag} {W W' : Wd}
mutual
theorem Vi.mono (h : W.le0 W') : ∀ {d : D} {v : V}, Vi K W d v → Vi K W' d v
  | _, _, .non => .non
  | _, _, .bl b => .bl b
  | _, _, .int i => .int i
  | _, _, .str s => .str s
  | _, _, .tup a b => .tup (sqt_mono h.fz a) (Vis.mono h b)
  | _, _, .lst a b => .lst (h.fz _ _ a) (Vis.mono h b)
  | _, _, .dct a b => .dct (h.fz _ _ a) (Vik.mono h b)
  | _, _, .scr a => .scr (h.fz.seq a)
  | _, _, .ref a => .ref (h.get a)
  | _, _, .ty n => .ty n
theorem Vis.mono (h : W.le0 W') : ∀ {d : List D} {v : List V}, Vis K W d v → Vis K W' d v
  | _, _, .nil => .nil
  | _, _, .cons a b => .cons (Vi.mono h a) (Vis.mono h b)
theorem Vik.mono (h : W.le0 W') : ∀ {d : List (DK × D)} {v : List (Key × V)}, Vik K W d v → Vik K W' d v
  | _, _, .nil => .nil
  | _, _, .cons a b => .cons (Vi.mono h a) (Vik.mono h b)
end
theorem Vis.length : ∀ {d : List D} {v : List V}, Vis K W d v → d.length = v.length
  | _, _, .nil => rfl
  | _, _, .cons _ b => congrArg Nat.succ (Vis.length b)
theorem Vis.get : ∀ {ds : List D} {vs : List V} {i : Nat} {d : D}, Vis K W ds vs → ds[i]? = some d → ∃ v, vs[i]? = some v ∧ Vi K W d v
  | _, _, _, _, .nil, e => by simp at e
  | _, _, 0, _, .cons a _, e => by simp at e; subst e; exact ⟨_, rfl, a⟩
  | _, _, i + 1, _, .cons _ b, e => by
    obtain ⟨v, h1, h2⟩ := Vis.get (i := i) b (by simpa using e)
    exact ⟨v, by simpa using h1, h2⟩
theorem Vis.app : ∀ {ds es : List D} {vs us : List V}, Vis K W ds vs → Vis K W es us → Vis K W (ds ++ es) (vs ++ us)
  | _, _, _, _, .nil, s => s
  | _, _, _, _, .cons a b, s => .cons a (Vis.app b s)
theorem Vis.drop : ∀ (n : Nat) {ds : List D} {vs : List V}, Vis K W ds vs → Vis K W (ds.drop n) (vs.drop n)
  | 0, _, _, h => h
  | _ + 1, _, _, .nil => .nil
  | n + 1, _, _, .cons _ b => Vis.drop n b
theorem Vis.take : ∀ (n : Nat) {ds : List D} {vs : List V}, Vis K W ds vs → Vis K W (ds.take n) (vs.take n)
  | 0, _, _, _ => .nil
  | _ + 1, _, _, .nil => .nil
  | n + 1, _, _, .cons a b => .cons a (Vis.take n b)
theorem Vis.set : ∀ (i : Nat) {d : D} {v : V} {ds : List D} {vs : List V}, Vi K W d v → Vis K W ds vs → Vis K W (ds.set i d) (vs.set i v)
  | _, _, _, _, _, _, .nil => .nil
  | 0, _, _, _, _, h, .cons _ b => .cons h b
  | i + 1, _, _, _, _, h, .cons a b => .cons a (Vis.set i h b)
theorem Vis.cut {ds : List D} {vs : List V} (lo hi : Option Int) (h : Vis K W ds vs) : Vis K W (cut ds lo hi) (cutV vs lo hi) := by
  unfold Mw.cut cutV
  rw [← h.length]
  exact (h.drop _).take _
theorem Vis.ints : ∀ {ns : List Int}, Vis K W (ns.map D.int) (ns.map V.int)
  | [] => .nil
  | _ :: _ => .cons (.int _) Vis.ints
theorem Vis.dropLast : ∀ {ds : List D} {vs : List V}, Vis K W ds vs → Vis K W ds.dropLast vs.dropLast
  | _, _, .nil => .nil
  | _, _, .cons a .nil => .nil
  | _, _, .cons a (.cons b c) => .cons a (Vis.dropLast (.cons b c))
theorem Vis.one {d : D} {v : V} (h : Vi K W d v) : Vis K W [d] [v] := .cons h .nil

/-- fields -/
inductive Vf (K : PySem.W.Frag) (W : Wd) : List (String × D) → List (Str × V) → Prop
  | nil : Vf K W [] []
  | cons {f : String} {d : D} {v : V} {ds : List (String × D)} {vs : List (Str × V)} : Vi K W d v → Vf K W ds vs → Vf K W ((f, d) :: ds) ((nm f, v) :: vs)
theorem Vf.mono (h : W.le0 W') : ∀ {d : List (String × D)} {v : List (Str × V)}, Vf K W d v → Vf K W' d v
  | _, _, .nil => .nil
  | _, _, .cons a b => .cons (a.mono h) (Vf.mono h b)
theorem Vf.length : ∀ {d : List (String × D)} {v : List (Str × V)}, Vf K W d v → d.length = v.length
  | _, _, .nil => rfl
  | _, _, .cons _ b => congrArg Nat.succ (Vf.length b)
theorem Vf.get : ∀ {ds : List (String × D)} {vs : List (Str × V)} {f : String}, Vf K W ds vs → (∀ d, fGet ds f = some d → ∃ v, vs.lookup (nm f) = some v ∧ Vi K W d v) ∧ (fGet ds f = none → vs.lookup (nm f) = none)
  | _, _, f, .nil => ⟨fun d e => by simp [fGet] at e, fun _ => rfl⟩
  | _, _, f, .cons (f := g) (d := d) (v := v) (ds := ds) (vs := vs) a b => by
    have ih := Vf.get (f := f) b
    by_cases h : f = g
    · subst h
      refine ⟨fun d e => ?_, fun e => ?_⟩
      · simp [fGet] at e
        subst e
        exact ⟨v, by simp, a⟩
      · simp [fGet] at e
    · have h1 : (f == g) = false := by simpa using h
      have h2 : (nm f == nm g) = false := by
        have : nm f ≠ nm g := fun e => h (nm_inj e)
        simpa using this
      refine ⟨fun d e => ?_, fun e => ?_⟩
      · have e' : fGet ds f = some d := by simpa [fGet, List.lookup_cons, h1] using e
        obtain ⟨v, q1, q2⟩ := ih.1 d e'
        exact ⟨v, by rw [List.lookup_cons, h2]; exact q1, q2⟩
      · have e' : fGet ds f = none := by simpa [fGet, List.lookup_cons, h1] using e
        rw [List.lookup_cons, h2]
        exact ih.2 e'
theorem Vf.put {f : String} {d : D} {v : V} (hv : Vi K W d v) : ∀ {ds : List (String × D)} {vs : List (Str × V)}, Vf K W ds vs → Vf K W (fPut f d ds) (putF (nm f) v vs)
  | _, _, .nil => by
    unfold fPut putF
    exact .cons hv .nil
  | _, _, .cons (f := g) a b => by
    unfold fPut putF
    by_cases h : g = f
    · subst h
      rw [if_pos rfl, if_pos rfl]
      exact .cons hv b
    · rw [if_neg h, if_neg (fun e => h (nm_inj e))]
      exact .cons a (Vf.put hv b)

/-- an object of the store -/
inductive Mi (K : PySem.W.Frag) (ca : String → Option Addr) (W : Wd) : MO → HO → Prop
  | lst {ds : List D} {vs : List V} : Vis K W ds vs → Mi K ca W (.lst ds) (.lst vs)
  | dct {kvs : List (DK × D)} {ws : List (Key × V)} : Vik K W kvs ws → Mi K ca W (.dct kvs) (.dK ws)
  | ins {C : String} {A dx : Addr} {fs : List (String × D)} {gs : List (Str × V)} : ca C = some A → Vf K W fs gs → Mi K ca W (.ins C fs) (.ins A dx gs)
theorem Mi.mono {ca : String → Option Addr} (h : W.le0 W') {o : MO} {u : HO} : Mi K ca W o u → Mi K ca W' o u
  | .lst a => .lst (a.mono h)
  | .dct a => .dct (a.mono h)
  | .ins a b => .ins a (b.mono h)
/-- the abstract heap bears the store -/
structure Rl (K : PySem.W.Frag) (ca : String → Option Addr) (W : Wd) (S : Store) (H : Hp) : Prop where
  fz : Same W.fz H
  pv : Same W.pv H
  ap : ∀ a o, W.pv a = some o → W.fz a = none
  len : W.ro.length = S.length
  nd : W.ro.Nodup
  got : ∀ (n : Nat) (a : Addr) (o : MO), W.ro[n]? = some a → S[n]? = some o → ∃ u, H a = some u ∧ Mi K ca W o u
  off : ∀ a ∈ W.ro, W.fz a = none ∧ W.pv a = none
/-- slots -/
def Sl (K : PySem.W.Frag) (W : Wd) (l : LEnv) (σ : L2.St) : Prop := l.length = σ.length ∧ ∀ (i : Nat) (d : D), l[i]? = some (some d) → ∃ v, σ[i]? = some (some v) ∧ Vi K W d v
theorem Sl.mono (h : W.le0 W') {l : LEnv} {σ : L2.St} (s : Sl K W l σ) : Sl K W' l σ := ⟨s.1, fun i d e => let ⟨v, a, b⟩ := s.2 i d e; ⟨v, a, b.mono h⟩⟩
theorem Sl.set {l : LEnv} {σ : L2.St} (s : Sl K W l σ) (i : Nat) {d : D} {v : V} (h : Vi K W d v) : Sl K W (l.set i (some d)) (σ.set i (some v)) := by
  refine ⟨by simp [s.1], fun j e he => ?_⟩
  by_cases hij : i = j
  · subst hij
    by_cases hl : i < l.length
    · rw [List.getElem?_set_self hl] at he
      cases he
      exact ⟨v, by rw [List.getElem?_set_self (by rw [← s.1]; exact hl)], h⟩
    · rw [List.getElem?_eq_none (by simpa using hl)] at he
      cases he
  · rw [List.getElem?_set_ne hij] at he
    obtain ⟨u, a, b⟩ := s.2 j e he
    exact ⟨u, by rw [List.getElem?_set_ne hij]; exact a, b⟩
theorem Sl.drop1 {l : LEnv} {σ : L2.St} (s : Sl K W l σ) (i : Nat) : Sl K W (l.set i none) (σ.set i none) := by
  refine ⟨by simp [s.1], fun j e he => ?_⟩
  by_cases hij : i = j
  · subst hij
    by_cases hl : i < l.length
    · rw [List.getElem?_set_self hl] at he; cases he
    · rw [List.getElem?_eq_none (by simpa using hl)] at he
      cases he
  · rw [List.getElem?_set_ne hij] at he
    obtain ⟨u, a, b⟩ := s.2 j e he
    exact ⟨u, by rw [List.getElem?_set_ne hij]; exact a, b⟩
theorem Sl.wipe {l : LEnv} {σ : L2.St} (s : Sl K W l σ) : ∀ own : List Nat, Sl K W (wipeL l own) (L2.wipe σ own)
  | [] => s
  | v :: vs => (Sl.wipe s vs).drop1 v
end

section
variable (K : PySem.W.Frag) (ca : String → Option Addr)
/-- an exception as it lies -/
def Xi (W : Wd) (e : Ex) (cls : Value) (dx : Option Addr) (H : Hp) : Prop :=
  ∃ A, PySem.W.nsIn K mainGlobals (nm e.cls) = some (some (.ref A)) ∧ cls = .ref A ∧ ((e.fs = [] ∧ dx = none) ∨ ∃ dd gs, dx = some dd ∧ H dd = some (.xd gs) ∧ Vf K W e.fs gs)
/-- what an answer asks -/
def Po {α β : Type} (W : Wd) (E : XK) (rel : Wd → α → β → Prop) (Q : β → Hp → Prop) : R α → Prop
  | .ok a S => ∀ W' b H', W.le W' → Rl K ca W' S H' → rel W' a b → Q b H'
  | .exc e S => ∀ W' cls dx H', W.le W' → Rl K ca W' S H' → Xi K W' e cls dx H' → E cls dx H'
  | .bad => False
def PoS (W : Wd) (E : L2.St → XK) (F : Ends) : RS → Prop
  | .nx l S => ∀ W' σ H', W.le W' → Rl K ca W' S H' → Sl K W' l σ → F.nx σ H'
  | .bk l S => ∀ W' σ H', W.le W' → Rl K ca W' S H' → Sl K W' l σ → F.bk σ H'
  | .ct l S => ∀ W' σ H', W.le W' → Rl K ca W' S H' → Sl K W' l σ → F.ct σ H'
  | .rt d S => ∀ W' v H', W.le W' → Rl K ca W' S H' → Vi K W' d v → F.rt v H'
  | .exc e l S => ∀ W' σ cls dx H', W.le W' → Rl K ca W' S H' → Sl K W' l σ → Xi K W' e cls dx H' → E σ cls dx H'
  | .bad => False
def Te (E : L2.St → XK) (f : LEnv → Store → R D) : TE := fun σ H Q => ∃ W l S, Sl K W l σ ∧ Rl K ca W S H ∧ Po K ca W (E σ) (Vi K) Q (f l S)
def Ta (E : L2.St → XK) (f : LEnv → Store → R (List D)) : TA := fun σ H Q => ∃ W l S, Sl K W l σ ∧ Rl K ca W S H ∧ Po K ca W (E σ) (Vis K) Q (f l S)
def Tt (E : L2.St → XK) (f : LEnv → Store → R Bool) : TT := fun σ H Q => ∃ W l S, Sl K W l σ ∧ Rl K ca W S H ∧ Po K ca W (E σ) (fun _ (a b : Bool) => b = a) Q (f l S)
def Ts (E : L2.St → XK) (f : LEnv → Store → RS) : TS := fun F σ H => ∃ W l S, Sl K W l σ ∧ Rl K ca W S H ∧ PoS K ca W E F (f l S)
end
section
variable {K : PySem.W.Frag} {ca : String → Option Addr} {α β γ δ : Type} {W W' : Wd} {E : XK} {rel : Wd → α → β → Prop} {Q : β → Hp → Prop}
theorem Po.mono {r : R α} (h : W.le W') (p : Po K ca W E rel Q r) : Po K ca W' E rel Q r := by
  cases r with
  | ok a S => exact fun W2 b H' h2 => p W2 b H' (h.trans h2)
  | exc e S => exact fun W2 c d H' h2 => p W2 c d H' (h.trans h2)
  | bad => exact p
/-- the first of two -/
theorem Po.bind {rel' : Wd → γ → δ → Prop} {Q' : δ → Hp → Prop} {r : R γ} {f : γ → Store → R α} (p : Po K ca W E rel Q (r.bind f))
    (k : ∀ a S W' b H', W.le W' → Rl K ca W' S H' → rel' W' a b → Po K ca W' E rel Q (f a S) → Q' b H') : Po K ca W E rel' Q' r := by
  cases r with
  | ok a S => exact fun W' b H' h rl rb => k a S W' b H' h rl rb (Po.mono h p)
  | exc e S => exact p
  | bad => exact p
end
section
variable {K : PySem.W.Frag} {ca : String → Option Addr} {α β : Type} {W W' : Wd} {E : L2.St → XK} {F : Ends}
theorem PoS.mono {r : RS} (h : W.le W') (p : PoS K ca W E F r) : PoS K ca W' E F r := by
  cases r with
  | nx l S => exact fun W2 b H' h2 => p W2 b H' (h.trans h2)
  | bk l S => exact fun W2 b H' h2 => p W2 b H' (h.trans h2)
  | ct l S => exact fun W2 b H' h2 => p W2 b H' (h.trans h2)
  | rt l S => exact fun W2 b H' h2 => p W2 b H' (h.trans h2)
  | exc e l S => exact fun W2 s c d H' h2 => p W2 s c d H' (h.trans h2)
  | bad => exact p
theorem PoS.then {rel : Wd → α → β → Prop} {Q : β → Hp → Prop} {l : LEnv} {σ : L2.St} {r : R α} {f : α → Store → RS} (s : Sl K W l σ) (p : PoS K ca W E F (r.then l f))
    (k : ∀ a S W' b H', W.le W' → Rl K ca W' S H' → rel W' a b → PoS K ca W' E F (f a S) → Q b H') : Po K ca W (E σ) rel Q r := by
  cases r with
  | ok a S => exact fun W' b H' h rl rb => k a S W' b H' h rl rb (PoS.mono h p)
  | exc e S => exact fun W' c d H' h rl x => p W' σ c d H' h rl (s.mono h.tole0) x
  | bad => exact p
end
theorem PE.imp {X : Cx} {e : Expr} {t t' : TE} (h : PE X e t) (k : ∀ σ H Q, t' σ H Q → t σ H Q) : PE X e t' := ⟨fun pins s σ H Q I w => h.run pins s σ H Q I (k _ _ _ w)⟩
theorem PT.imp {X : Cx} {e : Expr} {t t' : TT} (h : PT X e t) (k : ∀ σ H Q, t' σ H Q → t σ H Q) : PT X e t' := ⟨fun pins s σ H Q I w => h.run pins s σ H Q I (k _ _ _ w)⟩
theorem PA.imp {X : Cx} {e : List Expr} {t t' : TA} (h : PA X e t) (k : ∀ σ H Q, t' σ H Q → t σ H Q) : PA X e t' := ⟨fun pos pins s σ H Q I w => h.run pos pins s σ H Q I (k _ _ _ w)⟩
theorem PS.imp {X : Cx} {e : Stmt} {t t' : TS} (h : PS X e t) (k : ∀ D σ H, t' D σ H → t D σ H) : PS X e t' := ⟨fun pins s σ H Q I w => h.run pins s σ H Q I (k _ _ _ w)⟩
theorem PSs.imp {X : Cx} {e : List Stmt} {t t' : TS} (h : PSs X e t) (k : ∀ D σ H, t' D σ H → t D σ H) : PSs X e t' := ⟨fun pins s σ H Q I w => h.run pins s σ H Q I (k _ _ _ w)⟩

/-! ### the store changes -/
section
variable {K : PySem.W.Frag} {ca : String → Option Addr} {W : Wd} {S : Store} {H : Hp}
/-- something new that stands still -/
theorem Rl.freeze (r : Rl K ca W S H) {p : Addr} (hp : H p = none) (o : HO) : W.le { W with fz := upd W.fz p o } ∧ Rl K ca { W with fz := upd W.fz p o } S (upd H p o) := by
  have n1 : W.fz p = none := r.fz.free hp
  have n2 : W.pv p = none := r.pv.free hp
  have n3 : p ∉ W.ro := fun hm => by
    obtain ⟨n, hn⟩ := List.getElem?_of_mem hm
    have hl : n < S.length := by rw [← r.len]; exact (List.getElem?_eq_some_iff.mp hn).1
    obtain ⟨u, hu, _⟩ := r.got n p S[n] hn (List.getElem?_eq_getElem hl)
    rw [hp] at hu; cases hu
  have le : W.le { W with fz := upd W.fz p o } := ⟨⟨fun b u e => by
    show upd W.fz p o b = some u
    rw [upd_ne (ne_of_none e n1)]; exact e, [], by simp⟩, rfl⟩
  refine ⟨le, fun b u e => ?_, fun b u e => ?_, fun b u e => ?_, r.len, r.nd, fun n a q e1 e2 => ?_, fun a ha => ?_⟩
  · have e' : upd W.fz p o b = some u := e
    by_cases hb : b = p
    · subst hb; rw [upd_same] at e' ⊢; exact e'
    · rw [upd_ne hb] at e' ⊢; exact r.fz _ _ e'
  · rw [upd_ne (ne_of_none e n2)]; exact r.pv _ _ e
  · show upd W.fz p o b = none
    rw [upd_ne (ne_of_none e n2)]; exact r.ap _ _ e
  · obtain ⟨u, h1, h2⟩ := r.got n a q e1 e2
    exact ⟨u, by rw [upd_ne (ne_of_none h1 hp)]; exact h1, h2.mono le.tole0⟩
  · obtain ⟨h1, h2⟩ := r.off a ha
    refine ⟨?_, h2⟩
    show upd W.fz p o a = none
    rw [upd_ne (fun e => by subst e; exact n3 ha)]; exact h1
/-- something new of the store -/
theorem Rl.alloc (r : Rl K ca W S H) {p : Addr} (hp : H p = none) {m : MO} {o : HO} (h : Mi K ca W m o) : W.le { W with ro := W.ro ++ [p] } ∧ Rl K ca { W with ro := W.ro ++ [p] } (S ++ [m]) (upd H p o) := by
  have n1 : W.fz p = none := r.fz.free hp
  have n2 : W.pv p = none := r.pv.free hp
  have n3 : p ∉ W.ro := fun hm => by
    obtain ⟨n, hn⟩ := List.getElem?_of_mem hm
    have hl : n < S.length := by rw [← r.len]; exact (List.getElem?_eq_some_iff.mp hn).1
    obtain ⟨u, hu, _⟩ := r.got n p S[n] hn (List.getElem?_eq_getElem hl)
    rw [hp] at hu; cases hu
  have le : W.le { W with ro := W.ro ++ [p] } := ⟨⟨Same.refl _, [p], rfl⟩, rfl⟩
  refine ⟨le, fun b u e => ?_, fun b u e => ?_, r.ap, by simp [r.len], ?_, fun n a q e1 e2 => ?_, fun a ha => ?_⟩
  · rw [upd_ne (ne_of_none e n1)]; exact r.fz _ _ e
  · rw [upd_ne (ne_of_none e n2)]; exact r.pv _ _ e
  · show (W.ro ++ [p]).Nodup
    rw [List.nodup_append]
    exact ⟨r.nd, by simp, fun a ha b hb => by simp at hb; subst hb; exact fun e => n3 (e ▸ ha)⟩
  · have e1' : (W.ro ++ [p])[n]? = some a := e1
    by_cases hn : n < W.ro.length
    · rw [List.getElem?_append_left hn] at e1'
      rw [List.getElem?_append_left (by rw [← r.len]; exact hn)] at e2
      obtain ⟨u, h1, h2⟩ := r.got n a q e1' e2
      exact ⟨u, by rw [upd_ne (ne_of_none h1 hp)]; exact h1, h2.mono le.tole0⟩
    · have hn' : n = W.ro.length := by
        have := (List.getElem?_eq_some_iff.mp e1').1
        simp at this; omega
      subst hn'
      simp at e1'
      subst e1'
      rw [r.len] at e2
      simp at e2
      subst e2
      exact ⟨o, upd_same, h.mono le.tole0⟩
  · have ha' : a ∈ W.ro ++ [p] := ha
    rcases List.mem_append.mp ha' with q | q
    · exact r.off a q
    · simp at q; subst q; exact ⟨n1, n2⟩
/-- an object of the store is changed -/
theorem Rl.write (r : Rl K ca W S H) {n : Nat} {a : Addr} (hn : W.ro[n]? = some a) {m : MO} {o : HO} (h : Mi K ca W m o) : Rl K ca W (S.set n m) (upd H a o) := by
  have hm : a ∈ W.ro := List.mem_of_getElem? hn
  obtain ⟨f1, f2⟩ := r.off a hm
  refine ⟨fun b u e => ?_, fun b u e => ?_, r.ap, by simp [r.len], r.nd, fun k b q e1 e2 => ?_, r.off⟩
  · rw [upd_ne (ne_of_none e f1)]; exact r.fz _ _ e
  · rw [upd_ne (ne_of_none e f2)]; exact r.pv _ _ e
  · by_cases hk : n = k
    · subst hk
      rw [hn] at e1; cases e1
      have hl : n < S.length := by rw [← r.len]; exact (List.getElem?_eq_some_iff.mp hn).1
      rw [List.getElem?_set_self hl] at e2
      cases e2
      exact ⟨o, upd_same, h⟩
    · rw [List.getElem?_set_ne hk] at e2
      obtain ⟨u, h1, h2⟩ := r.got k b q e1 e2
      refine ⟨u, ?_, h2⟩
      rw [upd_ne ?_]
      · exact h1
      · intro e
        subst e
        have i1 := (List.getElem?_eq_some_iff.mp hn)
        have i2 := (List.getElem?_eq_some_iff.mp e1)
        obtain ⟨l1, g1⟩ := i1
        obtain ⟨l2, g2⟩ := i2
        exact hk ((List.getElem_inj r.nd).mp (g1.trans g2.symm))
end
/-- a list, as it's told (of the store, or still) -/
theorem Po.mkL {K : PySem.W.Frag} {ca : String → Option Addr} {W : Wd} {S : Store} {H : Hp} {E : XK} {Q : VK} {m : Bool} {ds : List D} {vs : List V} (r : Rl K ca W S H) (h : Vis K W ds vs) (p : Po K ca W E (Vi K) Q (mkL m ds S)) : ∀ a, H a = none → Q (.ref a) (upd H a (.lst vs)) := fun a ha => by
  cases m with
  | true =>
    obtain ⟨le, r'⟩ := r.alloc ha (.lst h)
    refine p _ _ _ le r' (.ref ?_)
    show (W.ro ++ [a])[S.length]? = some a
    rw [← r.len]; simp
  | false =>
    obtain ⟨le, r'⟩ := r.freeze ha (.lst vs)
    exact p _ _ _ le r' (.lst (upd_same) (h.mono le.tole0))
theorem Po.mkD {K : PySem.W.Frag} {ca : String → Option Addr} {W : Wd} {S : Store} {H : Hp} {E : XK} {Q : VK} {m : Bool} {ds : List (DK × D)} {vs : List (Key × V)} (r : Rl K ca W S H) (h : Vik K W ds vs) (p : Po K ca W E (Vi K) Q (mkD m ds S)) : ∀ a, H a = none → Q (.ref a) (upd H a (.dK vs)) := fun a ha => by
  cases m with
  | true =>
    obtain ⟨le, r'⟩ := r.alloc ha (.dct h)
    refine p _ _ _ le r' (.ref ?_)
    show (W.ro ++ [a])[S.length]? = some a
    rw [← r.len]; simp
  | false =>
    obtain ⟨le, r'⟩ := r.freeze ha (.dK vs)
    exact p _ _ _ le r' (.dct (upd_same) (h.mono le.tole0))

/-! ### a list that a comprehension is at -/
section
variable {K : PySem.W.Frag} {ca : String → Option Addr} {W : Wd} {S : Store} {H : Hp}
/-- another private part, where it's borne too -/
def Wd.wp (W : Wd) (pv : Hp) : Wd := { W with pv := pv }
theorem Wd.wp_wp (W : Wd) (p q : Hp) : (W.wp p).wp q = W.wp q := rfl
theorem Wd.wp_self (W : Wd) : W.wp W.pv = W := rfl
theorem Wd.le0_wp (W : Wd) (p : Hp) : W.le0 (W.wp p) := ⟨Same.refl _, [], by simp [Wd.wp]⟩
theorem Wd.wp_le0 (W : Wd) (p : Hp) : (W.wp p).le0 W := ⟨Same.refl _, [], by simp [Wd.wp]⟩
theorem Wd.le.of_wp {W W' : Wd} {p : Hp} (h : (W.wp p).le W') : W.le (W'.wp W.pv) := ⟨⟨h.fz, h.ro⟩, rfl⟩
/-- something new of its own -/
theorem Rl.hold (r : Rl K ca W S H) {p : Addr} (hp : H p = none) (o : HO) : Rl K ca (W.wp (upd W.pv p o)) S (upd H p o) := by
  have n1 : W.fz p = none := r.fz.free hp
  have n2 : W.pv p = none := r.pv.free hp
  have n3 : p ∉ W.ro := fun hm => by
    obtain ⟨n, hn⟩ := List.getElem?_of_mem hm
    have hl : n < S.length := by rw [← r.len]; exact (List.getElem?_eq_some_iff.mp hn).1
    obtain ⟨u, hu, _⟩ := r.got n p S[n] hn (List.getElem?_eq_getElem hl)
    rw [hp] at hu; cases hu
  refine ⟨fun b u e => ?_, fun b u e => ?_, fun b u e => ?_, r.len, r.nd, fun n a q e1 e2 => ?_, fun a ha => ?_⟩
  · rw [upd_ne (ne_of_none e n1)]; exact r.fz _ _ e
  · have e' : upd W.pv p o b = some u := e
    by_cases hb : b = p
    · subst hb; rw [upd_same] at e' ⊢; exact e'
    · rw [upd_ne hb] at e' ⊢; exact r.pv _ _ e'
  · have e' : upd W.pv p o b = some u := e
    by_cases hb : b = p
    · subst hb; exact n1
    · rw [upd_ne hb] at e'; exact r.ap _ _ e'
  · obtain ⟨u, h1, h2⟩ := r.got n a q e1 e2
    exact ⟨u, by rw [upd_ne (ne_of_none h1 hp)]; exact h1, h2.mono (W.le0_wp _)⟩
  · obtain ⟨h1, h2⟩ := r.off a ha
    refine ⟨h1, ?_⟩
    show upd W.pv p o a = none
    rw [upd_ne (fun e => by subst e; exact n3 ha)]; exact h2
/-- it's changed -/
theorem Rl.rehold {pv : Hp} {p : Addr} {o o' : HO} (r : Rl K ca (W.wp (upd pv p o)) S H) : Rl K ca (W.wp (upd pv p o')) S (upd H p o') := by
  have n1 : W.fz p = none := r.ap p o upd_same
  have n3 : p ∉ W.ro := fun hm => by
    have := (r.off p hm).2
    have e : upd pv p o p = none := this
    rw [upd_same] at e; cases e
  refine ⟨fun b u e => ?_, fun b u e => ?_, fun b u e => ?_, r.len, r.nd, fun n a q e1 e2 => ?_, fun a ha => ?_⟩
  · rw [upd_ne (ne_of_none e n1)]; exact r.fz _ _ e
  · have e' : upd pv p o' b = some u := e
    by_cases hb : b = p
    · subst hb; rw [upd_same] at e' ⊢; exact e'
    · rw [upd_ne hb] at e' ⊢
      exact r.pv _ _ (show upd pv p o b = some u by rw [upd_ne hb]; exact e')
  · have e' : upd pv p o' b = some u := e
    by_cases hb : b = p
    · subst hb; exact n1
    · rw [upd_ne hb] at e'
      exact r.ap _ u (show upd pv p o b = some u by rw [upd_ne hb]; exact e')
  · obtain ⟨u, h1, h2⟩ := r.got n a q e1 e2
    have ha : a ∈ W.ro := List.mem_of_getElem? (show W.ro[n]? = some a from e1)
    exact ⟨u, by rw [upd_ne (fun e => by subst e; exact n3 ha)]; exact h1, h2.mono ((Wd.wp_le0 W _).trans (W.le0_wp _))⟩
  · obtain ⟨h1, h2⟩ := r.off a ha
    refine ⟨h1, ?_⟩
    have h2' : upd pv p o a = none := h2
    have hne : a ≠ p := fun e => by subst e; exact n3 ha
    show upd pv p o' a = none
    rw [upd_ne hne] at h2' ⊢; exact h2'
/-- it's let go, as something that stands still -/
theorem Rl.publish {pv : Hp} {p : Addr} {o : HO} (hp : pv p = none) (r : Rl K ca (W.wp (upd pv p o)) S H) : (W.wp pv).le { (W.wp pv) with fz := upd W.fz p o } ∧ Rl K ca { (W.wp pv) with fz := upd W.fz p o } S H := by
  have n1 : W.fz p = none := r.ap p o upd_same
  have n3 : p ∉ W.ro := fun hm => by
    have e : upd pv p o p = none := (r.off p hm).2
    rw [upd_same] at e; cases e
  have le : (W.wp pv).le { (W.wp pv) with fz := upd W.fz p o } := ⟨⟨fun b u e => by
    show upd W.fz p o b = some u
    rw [upd_ne (ne_of_none e n1)]; exact e, [], by simp⟩, rfl⟩
  refine ⟨le, fun b u e => ?_, fun b u e => ?_, fun b u e => ?_, r.len, r.nd, fun n a q e1 e2 => ?_, fun a ha => ?_⟩
  · have e' : upd W.fz p o b = some u := e
    by_cases hb : b = p
    · subst hb; rw [upd_same] at e'; rw [← e']; exact r.pv _ _ upd_same
    · rw [upd_ne hb] at e'; exact r.fz _ _ e'
  · have e' : pv b = some u := e
    exact r.pv _ _ (show upd pv p o b = some u by rw [upd_ne (ne_of_none e' hp)]; exact e')
  · have e' : pv b = some u := e
    show upd W.fz p o b = none
    rw [upd_ne (ne_of_none e' hp)]
    exact r.ap _ u (show upd pv p o b = some u by rw [upd_ne (ne_of_none e' hp)]; exact e')
  · obtain ⟨u, h1, h2⟩ := r.got n a q e1 e2
    exact ⟨u, h1, h2.mono ((Wd.wp_le0 W _).trans ((W.le0_wp pv).trans le.tole0))⟩
  · obtain ⟨h1, h2⟩ := r.off a ha
    have hne : a ≠ p := fun e => by subst e; exact n3 ha
    refine ⟨?_, ?_⟩
    · show upd W.fz p o a = none
      rw [upd_ne hne]; exact h1
    · have h2' : upd pv p o a = none := h2
      rw [upd_ne hne] at h2'; exact h2'
/-- .. as something of the store -/
theorem Rl.settle {pv : Hp} {p : Addr} {o : HO} {m : MO} (hp : pv p = none) (r : Rl K ca (W.wp (upd pv p o)) S H) (h : Mi K ca W m o) : (W.wp pv).le { (W.wp pv) with ro := W.ro ++ [p] } ∧ Rl K ca { (W.wp pv) with ro := W.ro ++ [p] } (S ++ [m]) H := by
  have n1 : W.fz p = none := r.ap p o upd_same
  have n3 : p ∉ W.ro := fun hm => by
    have e : upd pv p o p = none := (r.off p hm).2
    rw [upd_same] at e; cases e
  have le : (W.wp pv).le { (W.wp pv) with ro := W.ro ++ [p] } := ⟨⟨Same.refl _, [p], rfl⟩, rfl⟩
  refine ⟨le, r.fz, fun b u e => ?_, fun b u e => ?_, by simp [← r.len, Wd.wp], ?_, fun n a q e1 e2 => ?_, fun a ha => ?_⟩
  · have e' : pv b = some u := e
    exact r.pv _ _ (show upd pv p o b = some u by rw [upd_ne (ne_of_none e' hp)]; exact e')
  · have e' : pv b = some u := e
    exact r.ap _ u (show upd pv p o b = some u by rw [upd_ne (ne_of_none e' hp)]; exact e')
  · show (W.ro ++ [p]).Nodup
    rw [List.nodup_append]
    exact ⟨r.nd, by simp, fun a ha b hb => by simp at hb; subst hb; exact fun e => n3 (e ▸ ha)⟩
  · have e1' : (W.ro ++ [p])[n]? = some a := e1
    have rl : W.ro.length = S.length := r.len
    by_cases hn : n < W.ro.length
    · rw [List.getElem?_append_left hn] at e1'
      rw [List.getElem?_append_left (by rw [← rl]; exact hn)] at e2
      obtain ⟨u, h1, h2⟩ := r.got n a q e1' e2
      exact ⟨u, h1, h2.mono ((Wd.wp_le0 W _).trans ((W.le0_wp pv).trans le.tole0))⟩
    · have hn' : n = W.ro.length := by
        have := (List.getElem?_eq_some_iff.mp e1').1
        simp at this; omega
      subst hn'
      simp at e1'
      subst e1'
      rw [rl] at e2
      simp at e2
      subst e2
      exact ⟨o, r.pv _ _ upd_same, h.mono ((W.le0_wp pv).trans le.tole0)⟩
  · have ha' : a ∈ W.ro ++ [p] := ha
    rcases List.mem_append.mp ha' with q | q
    · obtain ⟨h1, h2⟩ := r.off a q
      have hne : a ≠ p := fun e => by subst e; exact n3 q
      have h2' : upd pv p o a = none := h2
      rw [upd_ne hne] at h2'
      exact ⟨h1, h2'⟩
    · simp at q; subst q; exact ⟨n1, hp⟩
end
section
variable {K : PySem.W.Frag} {ca : String → Option Addr} {α β γ δ : Type} {W : Wd} {E E' : XK} {rel : Wd → α → β → Prop} {Q : β → Hp → Prop}
/-- the first of two, within a comprehension -/
theorem Po.bindP {pv : Hp} {rel' : Wd → γ → δ → Prop} {Q' : δ → Hp → Prop} {r : R γ} {f : γ → Store → R α} (p : Po K ca W E rel Q (r.nox.bind f))
    (k : ∀ a S W' b H', (W.wp pv).le W' → Rl K ca W' S H' → rel' W' a b → Po K ca (W'.wp W.pv) E rel Q (f a S) → Q' b H') : Po K ca (W.wp pv) E' rel' Q' r := by
  cases r with
  | ok a S => exact fun W' b H' h rl rb => k a S W' b H' h rl rb (Po.mono h.of_wp p)
  | exc e S => exact p.elim
  | bad => exact p
end
theorem Po.finL {K : PySem.W.Frag} {ca : String → Option Addr} {W : Wd} {S : Store} {H : Hp} {E : XK} {Q : VK} {m : Bool} {ds : List D} {vs : List V} {p : Addr} (hp : W.pv p = none) (r : Rl K ca (W.wp (upd W.pv p (.lst vs))) S H) (h : Vis K W ds vs) (q : Po K ca W E (Vi K) Q (Mw.mkL m ds S)) : Q (.ref p) H := by
  cases m with
  | true =>
    obtain ⟨le, r'⟩ := r.settle hp (.lst h)
    refine q _ _ _ le r' (.ref ?_)
    show (W.ro ++ [p])[S.length]? = some p
    have rl : W.ro.length = S.length := r.len
    rw [← rl]; simp
  | false =>
    obtain ⟨le, r'⟩ := r.publish hp
    exact q _ _ _ le r' (.lst (upd_same) (h.mono le.tole0))
theorem Po.finD {K : PySem.W.Frag} {ca : String → Option Addr} {W : Wd} {S : Store} {H : Hp} {E : XK} {Q : VK} {m : Bool} {ds : List (DK × D)} {vs : List (Key × V)} {p : Addr} (hp : W.pv p = none) (r : Rl K ca (W.wp (upd W.pv p (.dK vs))) S H) (h : Vik K W ds vs) (q : Po K ca W E (Vi K) Q (Mw.mkD m ds S)) : Q (.ref p) H := by
  cases m with
  | true =>
    obtain ⟨le, r'⟩ := r.settle hp (.dct h)
    refine q _ _ _ le r' (.ref ?_)
    show (W.ro ++ [p])[S.length]? = some p
    have rl : W.ro.length = S.length := r.len
    rw [← rl]; simp
  | false =>
    obtain ⟨le, r'⟩ := r.publish hp
    exact q _ _ _ le r' (.dct (upd_same) (h.mono le.tole0))
end Mw
/-! Mw, part R: rules over HandS that it lacks: enumerate over a tuple, a starred target, methods told by the object's class, objects made. -/
namespace Mw
open PySem PySem.Spec PyProof.Rows L2
open AutoSeq1 (wpAny_loadPart')
/-! ### enumerate(tuple) -/
theorem meets_enumT (l : Addr) (items : Array Value) :
    Meets (Builtin.«enumerate.__new__» ⟨[.type "enumerate", .ref l], []⟩) (fun _ R s => s.heap.IsTuple l items ∧
      R (.ok (.ret (.ref (s.heap.push { cls := .type "tuple_iterator", data := .fields #[.ref l, .int 0 0] }).objs.size)))
        { s with heap := (s.heap.push { cls := .type "tuple_iterator", data := .fields #[.ref l, .int 0 0] }).push { cls := .type "enumerate", data := .fields #[.none, .bool false, .ref s.heap.objs.size, rawInt 0, .none, .none] } }) :=
  .of_wp fun prog w A R s h => by
    obtain ⟨hp, g, d, tk, os⟩ := s; obtain ⟨hT, h⟩ := h
    have hsub := sub_enumerate
    have hL : Heap.IsTuple (Shared.heap ⟨hp, g, d, tk, os⟩) l items := hT
    wp_walk
    refine wpAny_stack_any fun st => wpAny_pure ?_
    split
    · rename_i c _ _ _ _ _
      cases (c == Value.type "enumerate")
      · wp_walk using wpAny_pyIter_tuple hL
        exact ⟨_, rfl, h⟩
      · wp_walk using wpAny_pyIter_tuple hL
        exact ⟨_, rfl, h⟩
    · wp_walk using wpAny_pyIter_tuple hL
      exact ⟨_, rfl, h⟩
section
variable {prog : Program} {w : World} {A : Around} {E : Value → Shared → Prop} {s : Shared}
theorem call_enumT {l : Addr} {items : Array Value} {Q : Value → Shared → Prop} (hT : s.heap.IsTuple l items)
    (h : ∀ h', IsEnum h' (s.heap.objs.size + 1) s.heap.objs.size 0 .none → h'.IsTupleIter s.heap.objs.size l 0 → h'.objs.size = s.heap.objs.size + 2 →
      (∀ b o, s.heap.get? b = some o → h'.get? b = some o) → Q (.ref (s.heap.objs.size + 1)) { s with heap := h' }) :
    wpAny (model prog w) A (call (.type "enumerate") [.ref l]) Q E s := by
  refine callType_new F.called_enumerate (by decide) (F.typeCall_enumerate_1 _) (F.newCall_enumerate_1 _) (fun obj => F.args_object_init_2 obj _) F.entry_enumerate_new
    (meets_enumT l items) ⟨hT, ?_⟩
  have hz : (s.heap.push { cls := .type "tuple_iterator", data := .fields #[.ref l, .int 0 0] }).objs.size = s.heap.objs.size + 1 := Heap.size_push ..
  show _ ∧ _
  rw [hz]
  have he : IsEnum ((s.heap.push { cls := .type "tuple_iterator", data := .fields #[.ref l, .int 0 0] }).push
      { cls := .type "enumerate", data := .fields #[.none, .bool false, .ref s.heap.objs.size, rawInt 0, .none, .none] }) (s.heap.objs.size + 1) s.heap.objs.size 0 .none := by
    have := Heap.get?_push_size (s.heap.push { cls := .type "tuple_iterator", data := .fields #[.ref l, .int 0 0] }) (o := { cls := .type "enumerate", data := .fields #[.none, .bool false, .ref s.heap.objs.size, rawInt 0, .none, .none] }) rfl
    rw [hz] at this; exact this
  refine ⟨⟨_, he, rfl⟩, h _ he ⟨_, Heap.get?_push_of_some _ (Heap.get?_push_size _ rfl), rfl, rfl⟩ (by rw [Heap.size_push, hz]) fun b o x => Heap.get?_push_of_some _ (Heap.get?_push_of_some _ x)⟩
end
/-- the tuple at a, each item in a new pair -/
def IteT (K : PySem.W.Frag) (a : Addr) : It :=
  ⟨fun i H => ∃ (xs : List V) (x : V), SqT K H a xs ∧ xs[i]? = some x, fun i H v H' => ∃ T x, v = .ref T ∧ H T = none ∧ H' = upd H T (.tup [.int (i : Nat), x]) ∧ ∀ xs, SqT K H a xs → xs[i]? = some x, fun i H => ∃ xs : List V, SqT K H a xs ∧ xs.length ≤ i⟩
theorem turn_enumT {P : Program} {w : World} {K : PySem.W.Frag} {elts : List Expr} {kk : Nat} {tpos : Pos} (a e it : Addr) :
    Turn P w K (.Tuple elts kk tpos) (IteT K a) [e, it] e (fun i h => (∃ old, IsEnum h e it ((i : Nat) : Int) old) ∧ h.IsTupleIter it a i ∧ e ≠ it) where
  mem := by simp
  obj := fun i h st b hb => by
    obtain ⟨⟨old, he⟩, ⟨o, ho, hc, hd⟩, _⟩ := st
    have e' : b = e ∨ b = it := by simpa using hb
    rcases e' with z | z
    · rw [z]; exact ⟨_, he, fun v q => nomatch q⟩
    · rw [z]; exact ⟨o, ho, fun v q => by rw [hd] at q; cases q⟩
  keep := fun i h h' st k => let ⟨⟨old, he⟩, hi, hne⟩ := st; ⟨⟨old, k e (by simp) _ he⟩, hi.at fun o q => k it (by simp) o q, hne⟩
  item := by
    intro X hP hw hK hc i pins s σ H E I hf st hg
    subst hP hw hK
    obtain ⟨⟨old, he⟩, hit, hne⟩ := st
    obtain ⟨xs, x, hq, hx⟩ := hg
    obtain ⟨its, rv, p, hz⟩ := I.tuple hq
    obtain ⟨u, hu, ru⟩ := rv.get hx
    have hel : e < s.heap.objs.size := Heap.lt_size he
    have hil : it < s.heap.objs.size := by obtain ⟨_, q, _⟩ := hit; exact Heap.lt_size q
    have hai : a ≠ it := fun z => by
      subst z
      obtain ⟨o1, e1, c1, _⟩ := hit
      obtain ⟨o2, e2, c2, _⟩ := p
      rw [e1] at e2
      cases e2
      rw [c1] at c2
      injection c2 with z
      exact absurd z (by decide)
    have hae : e ∉ [it, a] := fun z => by
      have z' : e = it ∨ e = a := by simpa using z
      rcases z' with z' | z'
      · exact hne z'
      · subst z'
        obtain ⟨o2, e2, c2, _⟩ := p
        rw [show s.heap.get? e = _ from he] at e2
        cases e2
        injection c2 with z
        exact absurd z (by decide)
    have hlt : i < its.toArray.size := by
      have := (List.getElem?_eq_some_iff.mp hu).1
      simpa using this
    refine wpAny_pyNext_enum_itemD (Draws.tuple (A := X.A.in1) (I.ok.hd hc) it a hai its.toArray) he ⟨hit, p⟩ hlt hne hae fun x' h' tk hP ho hst hT hsz hk => ?_
    have ex : x' = u := by
      have hP' : its.toArray[i]? = some x' := hP
      have hu' : its.toArray[i]? = some u := by simpa using hu
      rw [hu'] at hP'; cases hP'; rfl
    subst ex
    refine ⟨_, rfl, wpAny_letOwnedTupleGo_enum (s := { s with heap := h', toks := tk + 1 }) ho fun h'' he' sb => ?_⟩
    have hT2 : h''.get? s.heap.objs.size = some { cls := .type "tuple", data := .seq #[.int i tk, x'] } := (sb.2 _ (Nat.ne_of_gt hel)).trans hT
    have new : ObjOk X.prog X.w (upd H s.heap.objs.size (.tup [.int (i : Nat), x])) h'' s.heap.objs.size (.tup [.int (i : Nat), x]) :=
      ⟨by show 2 ≤ sizeLine; decide, [.int i tk, x'], .cons ⟨_, rfl⟩ (.cons ru .nil), ⟨_, hT2, rfl, _, rfl⟩⟩
    have I1 : Inv X pins σ (upd H s.heap.objs.size (.tup [.int (i : Nat), x])) { s with heap := h'', toks := tk + 1 } :=
      I.turnedNew (ch := [e, it]) (fun b ob hb q => (sb.2 b (fun z => hb (by simp [z]))).trans (hk b ob (fun z => hb (by simp [z])) (fun z => hb (by simp [z])) q)) hf (Nat.le_refl _) new
    refine ⟨.ref s.heap.objs.size, _, I1, rfl, ⟨_, x, rfl, I.hok.fresh (Nat.le_refl _), rfl, fun ys hy => by rw [I.tuple_inj hy hq]; exact hx⟩, ⟨⟨x', ?_⟩, hst.1.at fun o q => (sb.2 it (Ne.symm hne)).trans q, hne⟩, fun b hb => ?_⟩
    · have e1 : ((i + 1 : Nat) : Int) = (i : Int) + 1 := by omega
      rw [e1]; exact he'
    · have hb' : b < s.heap.objs.size := by
        have e' : b = e ∨ b = it := by simpa using hb
        rcases e' with z | z
        · rw [z]; exact hel
        · rw [z]; exact hil
      rw [upd_ne (Nat.ne_of_lt hb')]
      exact (hf b hb).1
  done := by
    intro X hP hw hK hc i pins s σ H E I hf st hg
    subst hP hw hK
    obtain ⟨⟨old, he⟩, hit, hne⟩ := st
    obtain ⟨xs, hq, hx⟩ := hg
    obtain ⟨its, rv, p, hz⟩ := I.tuple hq
    obtain ⟨f0, f1, f2, f3, f4, f5⟩ := hf it (by simp)
    have hai : a ≠ it := fun z => by
      subst z
      obtain ⟨o1, e1, c1, _⟩ := hit
      obtain ⟨o2, e2, c2, _⟩ := p
      rw [e1] at e2
      cases e2
      rw [c1] at c2
      injection c2 with z
      exact absurd z (by decide)
    have hl := rv.length
    -- the place is the end, or beyond it
    have D : Draws X.prog X.w X.A.in1 it [it, a] i (fun _ _ => True) (fun j h => j = i ∧ h.IsTupleIter it a i ∧ h.IsTuple a its.toArray) :=
      ⟨fun _ _ st => let ⟨o, ho, _⟩ := st.2.1; ⟨o, ho⟩, fun _ _ _ st hk => ⟨st.1, st.2.1.at fun o e => hk it (by simp) o e, st.2.2.at fun o e => hk a (by simp) o e⟩,
        fun j s Q E hi st hQ => absurd st.1 (Nat.ne_of_lt hi), fun s Q E st hE => wpAny_nextOf_tuple_end (A := X.A.in1) (I.ok.hd hc) st.2.1 st.2.2 (by simp; omega) hE⟩
    exact wpAny_pyNext_enum_endD D he ⟨rfl, hit, p⟩ fun h' eb => ⟨rfl, I.turned (t' := s.toks) (fun b o hb q => eb b o hb q) f0 f1 f3 f4 f5⟩
  self := fun A i s Q E st h => let ⟨⟨_, he⟩, _⟩ := st; wpAny_pyIter_enum he h
def iEnumA (K : PySem.W.Frag) (ta : TA) : TI := fun σ H R => ta σ H fun vs H1 => ∃ a xs, vs = [.ref a] ∧ ((SqL K H1 a xs ∧ R (Ite K a) H1) ∨ (SqT K H1 a xs ∧ R (IteT K a) H1))
theorem pi_enumA {X : Cx} {e : Expr} {ta : TA} {p pos tpos : Pos} {elts : List Expr} {kk : Nat} (hg : Gl X "enumerate") (hm : X.mg "enumerate" = none) (ha : PA X [e] ta) (hs : starEach [e] X.env = [(false, eval e X.env)] := by rfl) :
    PI X (.Tuple elts kk tpos) (.Call (.Name "enumerate" p) [e] [] pos) (iEnumA X.K ta) := by
  refine ⟨fun pins s σ H R I h => ?_⟩
  refine Call_ (ld_blt I hg hm boot_enumerate (PyProof.Rows.callWith_type1 (thn (ha.run pos pins s σ H _ I h) fun us s1 ⟨vs, H1, I1, r1, q1⟩ => ?_) hs rfl))
  obtain ⟨a, xs, ex, q⟩ := q1
  subst ex
  have fp : ∀ b ∈ [s1.heap.objs.size + 1, s1.heap.objs.size], FpOk X pins H1 b := fun b hb => by
    have e' : b = s1.heap.objs.size + 1 ∨ b = s1.heap.objs.size := by simpa using hb
    have hle : s1.heap.objs.size ≤ b := by
      rcases e' with z | z
      · rw [z]; exact Nat.le_add_right _ _
      · rw [z]; exact Nat.le_refl _
    exact I1.fpOk hle (I1.hok.fresh hle)
  cases r1 with
  | cons r rr =>
    cases rr
    cases r
    rcases q with ⟨hq, q⟩ | ⟨hq, q⟩
    · obtain ⟨its, rv, p', hz⟩ := I1.list hq
      refine call_enumerate_list p'.isList fun h' he hit hsz hk => wpAny_pyIter_enum he ?_
      have I2 : Inv X pins σ H1 { s1 with heap := h' } := I1.kept (t' := s1.toks) hk
      exact ⟨s1.heap.objs.size + 1, [s1.heap.objs.size + 1, s1.heap.objs.size], _, _, H1, rfl, I2, turn_enum a (s1.heap.objs.size + 1) s1.heap.objs.size, ⟨⟨.none, he⟩, hit, Nat.succ_ne_self _⟩, fp, q⟩
    · obtain ⟨its, rv, p', hz⟩ := I1.tuple hq
      refine call_enumT p' fun h' he hit hsz hk => wpAny_pyIter_enum he ?_
      have I2 : Inv X pins σ H1 { s1 with heap := h' } := I1.kept (t' := s1.toks) hk
      exact ⟨s1.heap.objs.size + 1, [s1.heap.objs.size + 1, s1.heap.objs.size], _, _, H1, rfl, I2, turn_enumT a (s1.heap.objs.size + 1) s1.heap.objs.size, ⟨⟨.none, he⟩, hit, Nat.succ_ne_self _⟩, fp, q⟩
/-! ### x, *y = a tuple or list -/
theorem HOk.laidS {P : Program} {w : World} {H : Hp} {h h' : Heap} {a L : Addr} {o : HO} (x : HOk P w H h) (hL : H L = none) (k : ∀ b u, b ≠ L → h.get? b = some u → h'.get? b = some u) (hn : H a = none) (new : ObjOk P w (upd H a o) h' a o) : HOk P w (upd H a o) h' := fun b u e => by
  by_cases hb : b = a
  · subst hb
    rw [upd_same] at e; cases e
    exact new
  · rw [upd_ne hb] at e
    refine (x b u e).stay (fun c v hc q => k c v ?_ q) (fun c q => by rw [upd_ne (ne_of_none q hn)]; exact q) fun c xs q => by rw [upd_ne (ne_of_none q hn)]; exact q
    rcases hc with z | z
    · rw [z]; exact fun y => by rw [y, hL] at e; cases e
    · exact fun y => by rw [y, hL] at z; cases z
theorem inv_star {X : Cx} {pins : List (Addr × Obj)} {σ : L2.St} {H : Hp} {s : Shared} (I : Inv X pins σ H s) {m : Str → Option Value} (Fm : Fr X.base X.env.locals s.heap m) {h' : Heap} {tk : Nat} {D : Addr} {its : List Value} {vs : List V} (F : Fr X.base X.env.locals h' m)
    (N : News X.base X.env.locals h' ((D, PySem.W.listOf its.toArray 0) :: allNews X.base s.heap X.env.locals)) (lt : ∀ p ∈ allNews X.base s.heap X.env.locals, p.1 < D) (rv : Vals vs its) (hz : vs.length ≤ sizeLine) :
    H D = none ∧ Inv X pins σ (upd H D (.lst vs)) { s with heap := h', toks := tk } := by
  have hD := N _ List.mem_cons_self
  obtain ⟨d1, d2, d3⟩ := hD
  have fresh : s.heap.get? D = none := by
    cases q : s.heap.get? D with
    | none => rfl
    | some o => exact absurd (lt _ (mem_allNews d2 d3 q)) (Nat.lt_irrefl _)
  have hn : H D = none := I.hok.gone fresh
  have keep : ∀ b o, b ≠ X.env.locals → s.heap.get? b = some o → h'.get? b = some o := fun b o hb e => by
    cases q : X.base.get? b with
    | some u =>
      have := I.bk b u q
      rw [e] at this; cases this
      exact F.keep b _ q
    | none => exact (N (b, o) (List.mem_cons_of_mem _ (mem_allNews hb q e))).1
  have new : ObjOk X.prog X.w (upd H D (.lst vs)) h' D (.lst vs) := ⟨hz, its, 0, rv, d1⟩
  refine ⟨hn, ?_⟩
  refine I.step (g' := s.gens) (d' := s.drawn) (ch := []) (fun _ z => nomatch z) (fun b o hL _ _ e _ => keep b o hL e) (fun b o hL _ _ e _ => ⟨o.slots, keep b o hL e⟩) (fun b o _ e n => ?_) (fun b o _ e => ?_) (fun b xs e => ?_) (fun b o u e => ?_) (fun b ps e => ⟨#[], ?_⟩) (fun m' hm => ?_)
    (HOk.laidS I.hok I.free keep hn new) I.bare
  · rw [upd_ne (fun z => by rw [z, fresh] at e; cases e)]; exact n
  · by_cases hb : b = X.env.locals
    · obtain ⟨o', _, _, ho', _⟩ := F.ns
      exact ⟨o', by rw [hb]; exact ho'⟩
    · exact ⟨o, keep b o hb e⟩
  · rw [upd_ne (ne_of_none e hn)]; exact e
  · rw [upd_ne (ne_of_none e hn)]; exact e
  · rw [upd_ne (ne_of_none e hn), e]; simp
  · rw [SlX.ns_only hm Fm.ns]
    exact F.ns
def gStar (K : PySem.W.Frag) (i j : Nat) : TG := fun v σ H Q => ∃ a w vs, v = .ref a ∧ (SqL K H a (w :: vs) ∨ SqT K H a (w :: vs)) ∧ vs.length < 16000 ∧ ∀ D, H D = none → Q ((σ.set i (some w)).set j (some (.ref D))) (upd H D (.lst vs))
theorem pg_star {X : Cx} {i j : Nat} {x y : Str} {p1 p2 p3 p4 : Pos} {k : Nat} (hc : X.calm = true) (hx : PG X (.Name x p1) (gName i)) (hy : PG X (.Name y p2) (gName j)) : PG X (.Tuple [.Name x p1, .Starred (.Name y p2) p3] k p4) (gStar X.K i j) := by
  refine ⟨fun pins s σ H v u Q I r ⟨a, w, vs, ev, hq, hl, q⟩ => ?_⟩
  subst ev
  cases (show u = Value.ref a from r)
  obtain ⟨m, fr⟩ := I.fr
  have fin : ∀ (uw : Value) (us : List Value), RelV w uw → Vals vs us → ∀ D h' tk, Fr X.base X.env.locals h' m → News X.base X.env.locals h' ((D, PySem.W.listOf us.toArray 0) :: allNews X.base s.heap X.env.locals) → (∀ p ∈ allNews X.base s.heap X.env.locals, p.1 < D) →
      wpAny (model X.prog X.w) X.A (assignInOrder ((assignEach [.Name x p1, .Starred (.Name y p2) p3] X.env).map (·.2)) ([uw] ++ [.ref D] ++ [])) (fun _ s' => ∃ σ' H', Inv X pins σ' H' s' ∧ Q σ' H') X.xe { s with heap := h', toks := tk } := fun uw us rw' rv D h' tk F' N' lt => by
    obtain ⟨hn, I1⟩ := inv_star (tk := tk) I fr F' N' lt rv (by rw [sizeLine_eq]; omega)
    show wpAny _ _ (assignInOrder [assign (.Name x p1) X.env, assign (.Name y p2) X.env] [uw, .ref D]) _ _ _
    refine assignInOrder_cons (thn (hx.run pins _ σ _ w uw (fun σ' H' => σ' = σ.set i (some w) ∧ H' = upd H D (.lst vs)) I1 rw' ⟨rfl, rfl⟩) fun _ s2 ⟨σ2, H2, I2, e1, e2⟩ => ?_)
    subst e1 e2
    refine assignInOrder_cons (thn (hy.run pins s2 _ _ (.ref D) (.ref D) (fun σ' H' => σ' = (σ.set i (some w)).set j (some (.ref D)) ∧ H' = upd H D (.lst vs)) I2 rfl ⟨rfl, rfl⟩) fun _ s3 ⟨σ3, H3, I3, e1, e2⟩ => ?_)
    subst e1 e2
    exact assignInOrder_nil ⟨_, _, I3, q D hn⟩
  rcases hq with hq | hq
  · obtain ⟨its, rv, p, hz⟩ := I.list hq
    have hlen := rv.length
    cases rv with
    | @cons _ uw _ us r1 r2 =>
      have h2 : us.length = vs.length := r2.length.symm
      exact PySem.W.kun_assignL (first := [uw]) (mids := us) (lasts := []) (n := 2) (i := 1) fr news_all p.isList (I.ok.hd hc) rfl rfl (by decide) (by simp) (by simp; omega) rfl (by simp) (by simp) (fin uw us r1 r2)
  · obtain ⟨its, rv, p, hz⟩ := I.tuple hq
    cases rv with
    | @cons _ uw _ us r1 r2 =>
      have h2 : us.length = vs.length := r2.length.symm
      exact PySem.W.kun_assignT (first := [uw]) (mids := us) (lasts := []) (n := 2) (i := 1) fr news_all p (I.ok.hd hc) rfl rfl (by decide) (by simp) (by simp; omega) rfl (by simp) (by simp) (fin uw us r1 r2)
end Mw
/-! Mw, part C: the operators by values. -/
namespace Mw
open PySem PySem.Spec PyProof.Rows L2

section
variable {K : PySem.W.Frag} {ca : String → Option Addr} {W : Wd} {S : Store} {H : Hp}
theorem Rl.lst_at (r : Rl K ca W S H) {d : D} {v : V} (h : Vi K W d v) {ds : List D} (e : lstOf S d = some ds) : ∃ a vs, v = .ref a ∧ H a = some (.lst vs) ∧ Vis K W ds vs := by
  cases h with
  | lst a b => cases e; exact ⟨_, _, rfl, r.fz _ _ a, b⟩
  | @ref n a e1 =>
    dsimp only [lstOf] at e
    split at e
    · cases e
      rename_i heq
      obtain ⟨u, h1, h2⟩ := r.got _ _ _ e1 heq
      cases h2 with
      | lst h2 => exact ⟨_, _, rfl, h1, h2⟩
    · cases e
  | _ => cases e
theorem Rl.seq_at (r : Rl K ca W S H) {d : D} {v : V} (h : Vi K W d v) {ds : List D} (e : seqOf S d = some ds) :
    ∃ a vs, v = .ref a ∧ Vis K W ds vs ∧ ((SqL K H a vs ∧ ∀ es, d ≠ .tup es) ∨ (SqT K H a vs ∧ d = .tup ds)) := by
  cases h with
  | tup a b => cases e; exact ⟨_, _, rfl, b, .inr ⟨sqt_mono r.fz a, rfl⟩⟩
  | lst a b => cases e; exact ⟨_, _, rfl, b, .inl ⟨.of (r.fz _ _ a), fun _ z => by cases z⟩⟩
  | scr a => cases e; exact ⟨_, _, rfl, Vis.ints, .inl ⟨r.fz.seq a, fun _ z => by cases z⟩⟩
  | @ref n a e1 =>
    dsimp only [seqOf] at e
    split at e
    · cases e
      rename_i heq
      obtain ⟨u, h1, h2⟩ := r.got _ _ _ e1 heq
      cases h2 with
      | lst h2 => exact ⟨_, _, rfl, h2, .inl ⟨.of h1, fun _ z => by cases z⟩⟩
    · cases e
  | _ => cases e
theorem Rl.seq_any (r : Rl K ca W S H) {d : D} {v : V} (h : Vi K W d v) {ds : List D} (e : seqOf S d = some ds) : ∃ a vs, v = .ref a ∧ Vis K W ds vs ∧ (SqL K H a vs ∨ SqT K H a vs) := by
  obtain ⟨a, vs, e1, e2, q⟩ := r.seq_at h e
  exact ⟨a, vs, e1, e2, q.elim (fun z => .inl z.1) fun z => .inr z.1⟩
theorem Rl.dct_at (r : Rl K ca W S H) {d : D} {v : V} (h : Vi K W d v) {ds : List (DK × D)} (e : dctOf S d = some ds) : ∃ a vs, v = .ref a ∧ H a = some (.dK vs) ∧ Vik K W ds vs := by
  cases h with
  | dct a b => cases e; exact ⟨_, _, rfl, r.fz _ _ a, b⟩
  | @ref n a e1 =>
    dsimp only [dctOf] at e
    split at e
    · cases e
      rename_i heq
      obtain ⟨u, h1, h2⟩ := r.got _ _ _ e1 heq
      cases h2 with
      | dct h2 => exact ⟨_, _, rfl, h1, h2⟩
    · cases e
  | _ => cases e
theorem key_at {d : D} {v : V} (h : Vi K W d v) {k : DK} (e : keyOf d = some k) : v = kV (kx k) := by
  cases h with
  | int i => cases e; rfl
  | str s => cases e; rfl
  | _ => cases e
theorem Vik.get {k : DK} : ∀ {ds : List (DK × D)} {vs : List (Key × V)}, Vik K W ds vs → (∀ d, dGet ds k = some d → ∃ v, valV vs (kx k) = some v ∧ Vi K W d v) ∧ (dGet ds k = none → valV vs (kx k) = none)
  | _, _, .nil => ⟨fun d e => by simp [dGet] at e, fun _ => rfl⟩
  | _, _, .cons (k := g) (d := d) (v := v) (ds := ds) (vs := vs) a b => by
    have ih := Vik.get (k := k) b
    by_cases h : g = k
    · subst h
      rw [valV_pos rfl]
      refine ⟨fun e q => ?_, fun q => ?_⟩
      · simp [dGet] at q; subst q; exact ⟨v, rfl, a⟩
      · simp [dGet] at q
    · rw [valV_neg (fun e => h (kx_inj e))]
      refine ⟨fun e q => ih.1 e (by simpa [dGet, List.find?_cons, h] using q), fun q => ih.2 (by simpa [dGet, List.find?_cons, h] using q)⟩
theorem Vik.any {k : DK} : ∀ {ds : List (DK × D)} {vs : List (Key × V)}, Vik K W ds vs → (ds.any fun kv => decide (kv.1 = k)) = (vs.any fun kv => decide (kv.1 = kx k))
  | _, _, .nil => rfl
  | _, _, .cons (k := g) a b => by
    rw [List.any_cons, List.any_cons, Vik.any b]
    congr 1
    by_cases h : g = k
    · subst h; simp
    · rw [decide_eq_false h, decide_eq_false (fun e => h (kx_inj e))]
theorem Vik.app : ∀ {ds es : List (DK × D)} {vs us : List (Key × V)}, Vik K W ds vs → Vik K W es us → Vik K W (ds ++ es) (vs ++ us)
  | _, _, _, _, .nil, s => s
  | _, _, _, _, .cons a b, s => .cons a (Vik.app b s)
theorem Vik.swap {k : DK} {d : D} {v : V} (h : Vi K W d v) : ∀ {ds : List (DK × D)} {vs : List (Key × V)}, Vik K W ds vs → Vik K W (ds.map (fun kv => if kv.1 = k then (kv.1, d) else kv)) (vs.map (fun kv => if kv.1 = kx k then (kv.1, v) else kv))
  | _, _, .nil => .nil
  | _, _, .cons (k := g) a b => by
    rw [List.map_cons, List.map_cons]
    by_cases e : g = k
    · rw [if_pos e, if_pos (by rw [e])]
      exact .cons h (Vik.swap h b)
    · rw [if_neg e, if_neg (fun z => e (kx_inj z))]
      exact .cons a (Vik.swap h b)
theorem Vik.put {k : DK} {d : D} {v : V} (h : Vi K W d v) {ds : List (DK × D)} {vs : List (Key × V)} (r : Vik K W ds vs) : Vik K W (dPut ds k d) (putK vs (kx k) v) := by
  unfold dPut putK
  rw [r.any]
  split
  · exact r.swap h
  · exact r.app (.cons h .nil)
theorem Vik.length : ∀ {d : List (DK × D)} {v : List (Key × V)}, Vik K W d v → d.length = v.length
  | _, _, .nil => rfl
  | _, _, .cons _ b => congrArg Nat.succ (Vik.length b)
theorem Vik.merge : ∀ {ms : List (DK × D)} {us : List (Key × V)} {ds : List (DK × D)} {vs : List (Key × V)}, Vik K W ms us → Vik K W ds vs → Vik K W (dMerge ds ms) (mergeK vs us)
  | _, _, _, _, .nil, r => r
  | _, _, _, _, .cons a b, r => by
    unfold dMerge mergeK
    rw [List.foldl_cons, List.foldl_cons]
    exact Vik.merge b (r.put a)
theorem Vik.zip : ∀ {ks : List DK} {ds : List D} {vs : List V}, Vis K W ds vs → Vik K W (ks.zip ds) ((ks.map kx).zip vs)
  | [], _, _, _ => .nil
  | _ :: _, _, _, .nil => .nil
  | _ :: _, _, _, .cons a b => .cons a (Vik.zip b)
theorem atI_map {α β : Type} {xs : List α} {ys : List β} (hl : xs.length = ys.length) {i : Int} {x : α} (h : atI xs i = some x) : ∃ j : Nat, xs[j]? = some x ∧ atI ys i = ys[j]? := by
  unfold atI at h ⊢
  rw [← hl]
  cases e : ixN xs.length i with
  | none => rw [e] at h; cases h
  | some j => rw [e] at h; exact ⟨j, h, rfl⟩
theorem Vis.at {ds : List D} {vs : List V} (h : Vis K W ds vs) {i : Int} {d : D} (e : atI ds i = some d) : ∃ v, atI vs i = some v ∧ Vi K W d v := by
  obtain ⟨j, h1, h2⟩ := atI_map h.length e
  obtain ⟨v, h3, h4⟩ := h.get h1
  exact ⟨v, h2.trans h3, h4⟩
theorem Vi.of_flat {d : D} {v : V} (h : Vi K W d v) (f : flatD d = true) : flatV v = true := by
  cases h <;> first | rfl | cases f
theorem eqV_of {d e : D} {v u : V} (h : Vi K W d v) (k : Vi K W e u) (f : flatD d = true) (g : flatD e = true) : eqV v u = deq d e := by
  cases h <;> cases k <;> first | rfl | (simp [flatD] at f; done) | (simp [flatD] at g; done) | skip
  rename_i s t
  show (tx s == tx t) = deq (.str s) (.str t)
  unfold deq
  by_cases z : s = t
  · subst z; simp
  · have z' : tx s ≠ tx t := fun q => z (tx_inj q)
    rw [beq_eq_false_iff_ne.mpr z, beq_eq_false_iff_ne.mpr z']
theorem Vis.inV {x : D} {vx : V} (hx : Vi K W x vx) (fx : flatD x = true) : ∀ {ds : List D} {vs : List V}, Vis K W ds vs → ds.all flatD = true → vs.all flatV = true ∧ L2.inV vx vs = (ds.any fun z => deq z x)
  | _, _, .nil, _ => ⟨rfl, rfl⟩
  | _, _, .cons a b, f => by
    rw [List.all_cons, Bool.and_eq_true] at f
    obtain ⟨h1, h2⟩ := Vis.inV hx fx b f.2
    refine ⟨?_, ?_⟩
    · rw [List.all_cons, a.of_flat f.1, h1]; rfl
    · unfold L2.inV at h2 ⊢
      rw [List.any_cons, List.any_cons, h2, eqV_of a hx f.1 fx]

/-! ### == -/
mutual
def pyD : D → PyData
  | .non => .none
  | .bl b => .bool b
  | .int i => .int i
  | .str s => .str (tx s)
  | .lst ds => .list (pyDs ds)
  | .tup ds => .tuple (pyDs ds)
  | _ => .none
def pyDs : List D → List PyData
  | [] => []
  | d :: ds => pyD d :: pyDs ds
end
mutual
theorem dp_of (r : Rl K ca W S H) : ∀ (n : Nat) (d : D) (v : V), eqOk n d = true → Vi K W d v → Dp K H v (pyD d)
  | _, .non, _, _, h => by cases h; exact .non
  | _, .bl b, _, _, h => by cases h; exact .bl b
  | _, .int i, _, _, h => by cases h; exact .int i
  | _, .str s, _, _, h => by cases h; exact .str _
  | n + 1, .lst ds, _, e, h => by
    cases h with
    | lst a b => exact .lst (.of (r.fz _ _ a)) (dps_of r n ds _ (by simpa [eqOk] using e) b)
  | n + 1, .tup ds, _, e, h => by
    cases h with
    | tup a b => exact .tup (sqt_mono r.fz a) (dps_of r n ds _ (by simpa [eqOk] using e) b)
  | 0, .lst ds, _, e, h => by simp [eqOk] at e
  | 0, .tup ds, _, e, h => by simp [eqOk] at e
  | _, .dct _, _, e, h => by simp [eqOk] at e
  | _, .scr _, _, e, h => by simp [eqOk] at e
  | _, .ref _, _, e, h => by simp [eqOk] at e
  | _, .ty _, _, e, h => by simp [eqOk] at e
theorem dps_of (r : Rl K ca W S H) : ∀ (n : Nat) (ds : List D) (vs : List V), eqOks n ds = true → Vis K W ds vs → DpAll K H vs (pyDs ds)
  | _, [], _, _, h => by cases h; exact .nil
  | n, d :: ds, _, e, h => by
    cases h with
    | cons a b =>
      rw [eqOks, Bool.and_eq_true] at e
      exact .cons (dp_of r n d _ e.1 a) (dps_of r n ds _ e.2 b)
end
mutual
theorem lay_of : ∀ (n : Nat) (d : D), eqOk n d = true → (pyD d).canLay0 = true ∧ (pyD d).depth ≤ n
  | _, .non, _ => ⟨by simp [pyD, PyData.canLay0], by simp [pyD, PyData.depth]⟩
  | _, .bl b, _ => ⟨by simp [pyD, PyData.canLay0], by simp [pyD, PyData.depth]⟩
  | _, .int i, _ => ⟨by simp [pyD, PyData.canLay0], by simp [pyD, PyData.depth]⟩
  | _, .str s, h => ⟨by simpa [pyD, PyData.canLay0, eqOk, strOkL, tx] using h, by simp [pyD, PyData.depth]⟩
  | n + 1, .lst ds, h => by
    obtain ⟨a, b⟩ := lays_of n ds (by simpa [eqOk] using h)
    exact ⟨by simpa [pyD, PyData.canLay0] using a, by simpa [pyD, PyData.depth] using b⟩
  | n + 1, .tup ds, h => by
    obtain ⟨a, b⟩ := lays_of n ds (by simpa [eqOk] using h)
    exact ⟨by simpa [pyD, PyData.canLay0] using a, by simpa [pyD, PyData.depth] using b⟩
  | 0, .lst ds, e => by simp [eqOk] at e
  | 0, .tup ds, e => by simp [eqOk] at e
  | _, .dct _, e => by simp [eqOk] at e
  | _, .scr _, e => by simp [eqOk] at e
  | _, .ref _, e => by simp [eqOk] at e
  | _, .ty _, e => by simp [eqOk] at e
theorem lays_of : ∀ (n : Nat) (ds : List D), eqOks n ds = true → PyData.canLayAll0 (pyDs ds) = true ∧ PyData.depthAll (pyDs ds) ≤ n
  | _, [], _ => ⟨by simp [pyDs, PyData.canLayAll0], by simp [pyDs, PyData.depthAll]⟩
  | n, d :: ds, h => by
    rw [eqOks, Bool.and_eq_true] at h
    obtain ⟨a1, b1⟩ := lay_of n d h.1
    obtain ⟨a2, b2⟩ := lays_of n ds h.2
    exact ⟨by simp [pyDs, PyData.canLayAll0, a1, a2], by simp [pyDs, PyData.depthAll]; omega⟩
end
theorem shaped_of {n : Nat} (hn : n ≤ 64) {d : D} (h : eqOk n d = true) : SeqAt.shaped (pyD d) = true := by
  obtain ⟨a, b⟩ := lay_of n d h
  unfold SeqAt.shaped
  rw [a, decide_eq_true (by omega)]
  rfl
theorem tx_beq (s t : List Nat) : (tx s == tx t) = (s == t) := by
  by_cases z : s = t
  · subst z; simp
  · have z' : tx s ≠ tx t := fun q => z (tx_inj q)
    rw [beq_eq_false_iff_ne.mpr z, beq_eq_false_iff_ne.mpr z']
mutual
theorem eqv_of : ∀ (n m : Nat) (d e : D), eqOk n d = true → eqOk m e = true → PyData.eqv (pyD d) (pyD e) = deq d e
  | n, m, d, e, h, k => by
    cases d <;> cases e <;> first
      | (simp [pyD, PyData.eqv, deq]; done)
      | (simp [eqOk] at h; done)
      | (simp [eqOk] at k; done)
      | (simp only [pyD, PyData.eqv, deq, tx_beq]; done)
      | skip
    · rename_i xs ys
      simp only [pyD, PyData.eqv, deq]
      cases n with
      | zero => simp [eqOk] at h
      | succ n => cases m with
        | zero => simp [eqOk] at k
        | succ m => exact eqvs_of n m xs ys (by simpa [eqOk] using h) (by simpa [eqOk] using k)
    · rename_i xs ys
      simp only [pyD, PyData.eqv, deq]
      cases n with
      | zero => simp [eqOk] at h
      | succ n => cases m with
        | zero => simp [eqOk] at k
        | succ m => exact eqvs_of n m xs ys (by simpa [eqOk] using h) (by simpa [eqOk] using k)
theorem eqvs_of : ∀ (n m : Nat) (ds es : List D), eqOks n ds = true → eqOks m es = true → PyData.eqvAll (pyDs ds) (pyDs es) = deqs ds es
  | _, _, [], [], _, _ => by simp [pyDs, PyData.eqvAll, deqs]
  | _, _, [], _ :: _, _, _ => by simp [pyDs, PyData.eqvAll, deqs]
  | _, _, _ :: _, [], _, _ => by simp [pyDs, PyData.eqvAll, deqs]
  | n, m, d :: ds, e :: es, h, k => by
    rw [eqOks, Bool.and_eq_true] at h k
    simp only [pyDs, PyData.eqvAll, deqs]
    rw [eqv_of n m d e h.1 k.1, eqvs_of n m ds es h.2 k.2]
end
end

theorem Vis.rep {K : PySem.W.Frag} {W : Wd} {ds : List D} {vs : List V} (h : Vis K W ds vs) : ∀ n : Nat, Vis K W (List.replicate n ds).flatten (List.replicate n vs).flatten
  | 0 => .nil
  | n + 1 => by
    rw [List.replicate_succ, List.replicate_succ, List.flatten_cons, List.flatten_cons]
    exact h.app (Vis.rep h n)
/-- what an operator's answer asks, by values -/
def rD (K : PySem.W.Frag) (ca : String → Option Addr) (f : D → D → Store → R D) : R2 := fun x y H Q =>
  ∃ W S d e E, Vi K W d x ∧ Vi K W e y ∧ Rl K ca W S H ∧ Po K ca W E (Vi K) Q (f d e S)
section
variable {X : Cx} {ca : String → Option Addr}
theorem op_binD (m : Bool) (op : Operator) : OpR X (binaryOp op) (rD X.K ca (binR m op)) := by
  intro pins s σ H x y v u Q I rx ry h
  obtain ⟨W, S, d, e, E, hd, he, r, p⟩ := h
  have fin : ∀ {d : D} {v : V}, Po X.K ca W E (Vi X.K) Q (.ok d S) → Vi X.K W d v → Q v H := fun p q => p W _ H (.refl W) r q
  cases op with
  | Add =>
    unfold binR at p
    dsimp only at p
    split at p
    · cases hd; cases he
      exact op_add pins s σ H _ _ v u Q I rx ry ⟨_, _, rfl, rfl, fin p (.int _)⟩
    · cases hd; cases he
      split at p
      · rename_i hz
        refine op_add_str pins s σ H _ _ v u Q I rx ry ⟨_, _, rfl, rfl, ?_, ?_⟩
        · rw [tx_len, tx_len]; exact of_decide_eq_true hz
        · rw [← tx_app]; exact fin p (.str _)
      · exact p.elim
    · rename_i a b
      split at p
      · rename_i hz
        have hz' : a.length + b.length ≤ sizeLine := of_decide_eq_true hz
        cases hd with
        | tup a1 b1 =>
          cases he with
          | tup a2 b2 =>
            refine op_catA pins s σ H _ _ v u Q I rx ry ⟨_, _, _, _, rfl, rfl, sqt_mono r.fz a1, sqt_mono r.fz a2, by rw [← b1.length, ← b2.length]; exact hz', fun z => ?_, fun z1 z2 => ?_, fun z1 z2 q hq => ?_⟩
            · subst z
              cases b1
              exact fin p (.tup a2 b2)
            · subst z2
              cases b2
              rw [List.append_nil] at p
              exact fin p (.tup a1 b1)
            · obtain ⟨le, r'⟩ := r.freeze hq (.tup _)
              exact p _ _ _ le r' (.tup (.of upd_same) ((b1.mono le.tole0).app (b2.mono le.tole0)))
      · exact p.elim
    · split at p
      · rename_i a b h1 h2
        split at p
        · rename_i hz
          have hz' : a.length + b.length ≤ sizeLine := of_decide_eq_true hz
          obtain ⟨a1, vs1, rfl, q1, w1⟩ := r.lst_at hd h1
          obtain ⟨a2, vs2, rfl, q2, w2⟩ := r.lst_at he h2
          exact op_cat pins s σ H _ _ v u Q I rx ry ⟨_, _, _, _, rfl, rfl, q1, q2, by rw [← w1.length, ← w2.length]; exact hz', Po.mkL r (w1.app w2) p⟩
        · exact p.elim
      · exact p.elim
  | Sub =>
    unfold binR at p
    dsimp only at p
    split at p
    · cases hd; cases he
      exact op_sub pins s σ H _ _ v u Q I rx ry ⟨_, _, rfl, rfl, fin p (.int _)⟩
    · exact p.elim
  | Mult =>
    unfold binR at p
    dsimp only at p
    split at p
    · cases hd; cases he
      split at p
      · rename_i hz
        have hz' := of_decide_eq_true hz
        rcases hz' with hz' | ⟨z1, z2⟩
        · exact op_mul pins s σ H _ _ v u Q I rx ry ⟨_, _, rfl, rfl, hz', fin p (.int _)⟩
        · exact op_mulX pins s σ H _ _ v u Q I rx ry ⟨_, _, rfl, rfl, mulx_ok Nat.lt_log2_self Nat.lt_log2_self (by omega), fin p (.int _)⟩
      · exact p.elim
    · cases hd; cases he
      split at p
      · rename_i a n hz
        obtain ⟨h0, h1, h2⟩ := of_decide_eq_true hz
        obtain ⟨t1, rfl⟩ := rx
        obtain ⟨t2, rfl⟩ := ry
        have small : a.length * n.toNat ≤ 1000000 := Nat.le_trans (Nat.mul_le_mul h2 (show n.toNat ≤ 1000 by omega)) (by decide)
        have e1 : (tx a).length = a.length := tx_len a
        refine PySem.P.mul_str ?_ (fun c1 c2 => ?_) (fun c1 c2 => ?_) ?_
        · rw [decide_eq_false (by omega), decide_eq_false (by omega)]; rfl
        · rw [e1]
          have : (2 ^ 63 - 1 : Int) / n ≥ (2 ^ 63 - 1) / 1000 := by
            have hn : 1 ≤ n := by omega
            have := Int.ediv_le_ediv (a := (2 ^ 63 - 1) - n * ((2 ^ 63 - 1) / 1000)) (b := (2 ^ 63 - 1)) (c := n) (by omega) (by omega)
            have k2 : ((2 ^ 63 - 1) / 1000) * n ≤ 2 ^ 63 - 1 := by omega
            exact (Int.le_ediv_iff_mul_le (by omega)).mpr k2
          omega
        · rw [e1]
          unfold Builtin.Str.tooLong
          rw [decide_eq_false]
          rw [sizeLine_eq]; omega
        · have key : ∀ k : Nat, ((List.replicate k (tx a).cps).foldl (· ++ ·) #[] : Array Nat) = (List.replicate k a).flatten.toArray := by
            intro k
            have gen : ∀ (k : Nat) (acc : Array Nat), (List.replicate k (tx a).cps).foldl (· ++ ·) acc = acc ++ (List.replicate k a).flatten.toArray := by
              intro k
              induction k with
              | zero => intro acc; simp
              | succ k ih => intro acc; rw [List.replicate_succ, List.foldl_cons, ih, List.replicate_succ, List.flatten_cons]; simp [tx]
            rw [gen]; simp
          have big : ((List.replicate n.toNat a).flatten).length ≤ sizeLine := by
            rw [List.length_flatten]
            simp
            rw [sizeLine_eq, Nat.mul_comm]; omega
          split
          · rename_i c
            have hn0 : n.toNat = 0 := by omega
            rw [hn0] at p
            refine ⟨by decide, .str Str.empty, H, I.tok _, ⟨_, rfl⟩, ?_⟩
            exact fin (v := V.str (tx [])) p (.str [])
          · split
            · rename_i c1 c2
              have e2 : (List.replicate n.toNat a).flatten = a := by
                rw [Bool.or_eq_true] at c2
                rcases c2 with c2 | c2
                · have : n = 1 := by simpa using c2
                  subst this; simp
                · have : a = [] := by
                    rw [e1] at c2
                    simpa using c2
                  subst this; simp
              rw [e2] at p
              exact ⟨.str (tx a), H, I, ⟨_, rfl⟩, fin p (.str a)⟩
            · rw [key]
              refine ⟨?_, .str (tx (List.replicate n.toNat a).flatten), H, I.tok _, ⟨_, rfl⟩, fin p (.str _)⟩
              first | exact big | (simp [Str.length]; simpa using big)
      · exact p.elim
    · rename_i a n
      cases hd with
      | @lst ad vs _ q1 q2 =>
        cases he
        split at p
        · rename_i hz
          obtain ⟨h0, h1, h2⟩ := of_decide_eq_true hz
          have small : vs.length * n.toNat ≤ sizeLine := by
            rw [← q2.length, sizeLine_eq]
            exact Nat.le_trans (Nat.mul_le_mul h2 (show n.toNat ≤ 1000 by omega)) (by decide)
          exact op_rep pins s σ H _ _ v u Q I rx ry ⟨_, n, vs, rfl, rfl, r.fz _ _ q1, by omega, by omega, small, fun p' hp => Po.mkL r (q2.rep n.toNat) p p' hp⟩
        · exact p.elim
    · exact p.elim
  | FloorDiv =>
    unfold binR at p
    dsimp only at p
    split at p
    · cases hd; cases he
      split at p
      · rename_i hz
        have hz' := of_decide_eq_true hz
        exact op_fdiv pins s σ H _ _ v u Q I rx ry ⟨_, _, rfl, rfl, hz', fin p (.int _)⟩
      · exact p.elim
    · exact p.elim
  | Mod =>
    unfold binR at p
    dsimp only at p
    split at p
    · cases hd; cases he
      split at p
      · rename_i hz
        have hz' := of_decide_eq_true hz
        exact op_mod pins s σ H _ _ v u Q I rx ry ⟨_, _, rfl, rfl, hz', fin p (.int _)⟩
      · exact p.elim
    · exact p.elim
  | Pow =>
    unfold binR at p
    dsimp only at p
    split at p
    · cases hd; cases he
      split at p
      · rename_i hz
        have hz' := of_decide_eq_true hz
        exact op_pow pins s σ H _ _ v u Q I rx ry ⟨_, _, rfl, rfl, hz', fin p (.int _)⟩
      · exact p.elim
    · exact p.elim
  | _ => exact p.elim
end
end Mw
/-! Mw, part D: comparisons, items, slices, built-in functions and methods by values. -/
namespace Mw
open PySem PySem.Spec PyProof.Rows L2

theorem eqR_cases {S : Store} {x y : D} {b : Bool} (h : eqR S x y = some b) : (b = deq x y ∧ (scalD x y = true ∨ (eqOk 60 x = true ∧ eqOk 60 y = true))) ∨ (∃ as bs, lstOf S x = some as ∧ lstOf S y = some bs ∧ (as.isEmpty || bs.isEmpty) = true ∧ b = (as.isEmpty && bs.isEmpty)) ∨
    ∃ as bs, x = .tup as ∧ y = .tup bs ∧ (as.isEmpty || bs.isEmpty) = true ∧ b = (as.isEmpty && bs.isEmpty) := by
  unfold eqR at h
  split at h
  · rename_i c
    cases h
    rw [Bool.or_eq_true, Bool.and_eq_true] at c
    exact .inl ⟨rfl, c⟩
  · split at h
    · rename_i as bs h1 h2
      split at h
      · rename_i c
        cases h
        exact .inr (.inl ⟨as, bs, h1, h2, c, rfl⟩)
      · cases h
    · split at h
      · rename_i as bs h1 h2
        split at h
        · rename_i c
          cases h
          refine .inr (.inr ⟨as, bs, ?_, ?_, c, rfl⟩)
          · cases x <;> simp [tupOf] at h1; rw [h1]
          · cases y <;> simp [tupOf] at h2; rw [h2]
        · cases h
      · cases h
theorem scal_of {K : PySem.W.Frag} {W : Wd} {d e : D} {v u : V} (h : Vi K W d v) (k : Vi K W e u) (c : scalD d e = true) : scal v u = true ∧ decide (v = u) = deq d e := by
  cases h <;> cases k <;> first
    | (simp [scalD] at c; done)
    | (refine ⟨rfl, ?_⟩; simp [deq]; done)
    | skip
  · refine ⟨rfl, ?_⟩
    rw [dec_bl]; rfl
  · refine ⟨rfl, ?_⟩
    rw [dec_int]; rfl
  · rename_i s t
    refine ⟨rfl, ?_⟩
    rw [dec_str, tx_beq]; rfl
theorem lt_tx (s t : List Nat) : decide ((tx s).cps.toList < (tx t).cps.toList) = decide (s < t) := decide_eq_decide.mpr (by simp [tx])
section
variable {X : Cx} {ca : String → Option Addr}
theorem op_eqE (hu : X.A.units + 64 < cLine) : OpR X (compareOp .Eq) (fun x y H Q => ∃ a b xs ys, x = .ref a ∧ y = .ref b ∧ SqL X.K H a xs ∧ SqL X.K H b ys ∧ (xs.isEmpty || ys.isEmpty) = true ∧ Q (.bl (xs.isEmpty && ys.isEmpty)) H) := by
  intro pins s σ H x y v u Q I rx ry ⟨a, b, xs, ys, ex, ey, h1, h2, h3, q⟩
  subst ex ey
  cases (show v = Value.ref a from rx)
  cases (show u = Value.ref b from ry)
  obtain ⟨i1, r1, p1, z1⟩ := I.list h1
  obtain ⟨i2, r2, p2, z2⟩ := I.list h2
  have e1 : xs.isEmpty = i1.isEmpty := by have := r1.length; cases xs <;> cases i1 <;> simp at this ⊢
  have e2 : ys.isEmpty = i2.isEmpty := by have := r2.length; cases ys <;> cases i2 <;> simp at this ⊢
  rw [e1, e2] at q
  rw [e1, e2] at h3
  cases i1 with
  | nil =>
    cases i2 with
    | nil => exact SeqAt.RcAt.lists (e := fun _ => true) p1.isList p2.isList rfl (by omega) (fun j h1 _ => absurd h1 (by simp)) _ _ _ _ ⟨.bl true, H, I, rfl, q⟩
    | cons z zs => exact SeqAt.RcAt.lists_lengths p1.isList p2.isList (by simp) (by omega) _ _ _ _ ⟨.bl false, H, I, rfl, q⟩
  | cons w ws =>
    cases i2 with
    | nil => exact SeqAt.RcAt.lists_lengths p1.isList p2.isList (by simp) (by omega) _ _ _ _ ⟨.bl false, H, I, rfl, q⟩
    | cons z zs => simp at h3
theorem op_neE (hu : X.A.units + 64 < cLine) : OpR X (compareOp .NotEq) (fun x y H Q => ∃ a b xs ys, x = .ref a ∧ y = .ref b ∧ SqL X.K H a xs ∧ SqL X.K H b ys ∧ (xs.isEmpty || ys.isEmpty) = true ∧ Q (.bl (!(xs.isEmpty && ys.isEmpty))) H) := by
  intro pins s σ H x y v u Q I rx ry ⟨a, b, xs, ys, ex, ey, h1, h2, h3, q⟩
  subst ex ey
  cases (show v = Value.ref a from rx)
  cases (show u = Value.ref b from ry)
  obtain ⟨i1, r1, p1, z1⟩ := I.list h1
  obtain ⟨i2, r2, p2, z2⟩ := I.list h2
  have e1 : xs.isEmpty = i1.isEmpty := by have := r1.length; cases xs <;> cases i1 <;> simp at this ⊢
  have e2 : ys.isEmpty = i2.isEmpty := by have := r2.length; cases ys <;> cases i2 <;> simp at this ⊢
  rw [e1, e2] at q
  rw [e1, e2] at h3
  cases i1 with
  | nil =>
    cases i2 with
    | nil => exact SeqAt.RcNeAt.lists (e := fun _ => true) p1.isList p2.isList rfl (by omega) (fun j h1 _ => absurd h1 (by simp)) _ _ _ _ ⟨.bl false, H, I, rfl, q⟩
    | cons z zs => exact SeqAt.RcNeAt.lists_lengths p1.isList p2.isList (by simp) (by omega) _ _ _ _ ⟨.bl true, H, I, rfl, q⟩
  | cons w ws =>
    cases i2 with
    | nil => exact SeqAt.RcNeAt.lists_lengths p1.isList p2.isList (by simp) (by omega) _ _ _ _ ⟨.bl true, H, I, rfl, q⟩
    | cons z zs => simp at h3
theorem all_range0 {n : Nat} (h : n = 0) (e : Nat → Bool) : (List.range n).all e = true := by subst h; rfl
theorem op_eqT (hu : X.A.units + 64 < cLine) : OpR X (compareOp .Eq) (fun x y H Q => ∃ a b xs ys, x = .ref a ∧ y = .ref b ∧ SqT X.K H a xs ∧ SqT X.K H b ys ∧ (xs.isEmpty || ys.isEmpty) = true ∧ Q (.bl (xs.isEmpty && ys.isEmpty)) H) := by
  intro pins s σ H x y v u Q I rx ry ⟨a, b, xs, ys, ex, ey, h1, h2, h3, q⟩
  subst ex ey
  cases (show v = Value.ref a from rx)
  cases (show u = Value.ref b from ry)
  obtain ⟨i1, r1, p1, z1⟩ := I.tuple h1
  obtain ⟨i2, r2, p2, z2⟩ := I.tuple h2
  have e1 : xs.isEmpty = i1.isEmpty := by have := r1.length; cases xs <;> cases i1 <;> simp at this ⊢
  have e2 : ys.isEmpty = i2.isEmpty := by have := r2.length; cases ys <;> cases i2 <;> simp at this ⊢
  rw [e1, e2] at q h3
  have hz : min i1.toArray.size i2.toArray.size = 0 := by cases i1 <;> cases i2 <;> simp at h3 ⊢
  refine SeqAt.RcAt.tuples (e := fun _ => true) p1 p2 (by omega) (fun j h1 h2 => absurd (Nat.lt_min.mpr ⟨h1, h2⟩) (by rw [hz]; exact Nat.not_lt_zero _)) _ _ _ _ ⟨.bl (i1.isEmpty && i2.isEmpty), H, I, ?_, q⟩
  show _ = Value.bool _
  rw [all_range0 hz]
  cases i1 <;> cases i2 <;> simp at h3 ⊢
theorem op_neT (hu : X.A.units + 64 < cLine) : OpR X (compareOp .NotEq) (fun x y H Q => ∃ a b xs ys, x = .ref a ∧ y = .ref b ∧ SqT X.K H a xs ∧ SqT X.K H b ys ∧ (xs.isEmpty || ys.isEmpty) = true ∧ Q (.bl (!(xs.isEmpty && ys.isEmpty))) H) := by
  intro pins s σ H x y v u Q I rx ry ⟨a, b, xs, ys, ex, ey, h1, h2, h3, q⟩
  subst ex ey
  cases (show v = Value.ref a from rx)
  cases (show u = Value.ref b from ry)
  obtain ⟨i1, r1, p1, z1⟩ := I.tuple h1
  obtain ⟨i2, r2, p2, z2⟩ := I.tuple h2
  have e1 : xs.isEmpty = i1.isEmpty := by have := r1.length; cases xs <;> cases i1 <;> simp at this ⊢
  have e2 : ys.isEmpty = i2.isEmpty := by have := r2.length; cases ys <;> cases i2 <;> simp at this ⊢
  rw [e1, e2] at q h3
  have hz : min i1.toArray.size i2.toArray.size = 0 := by cases i1 <;> cases i2 <;> simp at h3 ⊢
  refine SeqAt.RcNeAt.tuples (e := fun _ => true) p1 p2 (by omega) (fun j h1 h2 => absurd (Nat.lt_min.mpr ⟨h1, h2⟩) (by rw [hz]; exact Nat.not_lt_zero _)) _ _ _ _ ⟨.bl (!(i1.isEmpty && i2.isEmpty)), H, I, ?_, q⟩
  show _ = Value.bool _
  rw [all_range0 hz]
  cases i1 <;> cases i2 <;> simp at h3 ⊢
theorem Vis.isEmpty {K : PySem.W.Frag} {W : Wd} {ds : List D} {vs : List V} (h : Vis K W ds vs) : ds.isEmpty = vs.isEmpty := by cases h <;> rfl
theorem op_cmpD (hu : X.A.units + 64 < cLine) (hu1 : X.A.units + 1 < cLine) (op : CmpOp) : OpR X (compareOp op) (rD X.K ca (cmpR op)) := by
  intro pins s σ H x y v u Q I rx ry h
  obtain ⟨W, S, d, e, E, hd, he, r, p⟩ := h
  have fin : ∀ {d : D} {v : V}, Po X.K ca W E (Vi X.K) Q (.ok d S) → Vi X.K W d v → Q v H := fun p q => p W _ H (.refl W) r q
  cases op with
  | Eq =>
    unfold cmpR at p
    dsimp only at p
    split at p
    · rename_i b hb
      rcases eqR_cases hb with ⟨rfl, c⟩ | ⟨as, bs, l1, l2, l3, rfl⟩ | ⟨as, bs, rfl, rfl, l3, rfl⟩
      rotate_left
      rotate_left
      · cases hd with
        | tup g1 k1 =>
          cases he with
          | tup g2 k2 =>
            rw [k1.isEmpty, k2.isEmpty] at l3 p
            exact op_eqT hu pins s σ H _ _ v u Q I rx ry ⟨_, _, _, _, rfl, rfl, sqt_mono r.fz g1, sqt_mono r.fz g2, l3, fin p (.bl _)⟩
      rotate_left
      · obtain ⟨a1, vs1, rfl, g1, k1⟩ := r.lst_at hd l1
        obtain ⟨a2, vs2, rfl, g2, k2⟩ := r.lst_at he l2
        rw [k1.isEmpty, k2.isEmpty] at l3 p
        exact op_eqE hu pins s σ H _ _ v u Q I rx ry ⟨a1, a2, vs1, vs2, rfl, rfl, .of g1, .of g2, l3, fin p (.bl _)⟩
      rcases c with c | ⟨c1, c2⟩
      · obtain ⟨s1, s2⟩ := scal_of hd he c
        exact op_eq pins s σ H _ _ v u Q I rx ry ⟨s1, by rw [s2]; exact fin p (.bl _)⟩
      · exact op_eqD hu pins s σ H _ _ v u Q I rx ry ⟨_, _, dp_of r _ _ _ c1 hd, dp_of r _ _ _ c2 he, shaped_of (by decide) c1, shaped_of (by decide) c2, by rw [eqv_of _ _ _ _ c1 c2]; exact fin p (.bl _)⟩
    · exact p.elim
  | NotEq =>
    unfold cmpR at p
    dsimp only at p
    split at p
    · rename_i b hb
      obtain ⟨b', hb', rfl⟩ := Option.map_eq_some_iff.mp hb
      rcases eqR_cases hb' with ⟨rfl, c⟩ | ⟨as, bs, l1, l2, l3, rfl⟩ | ⟨as, bs, rfl, rfl, l3, rfl⟩
      rotate_left
      rotate_left
      · cases hd with
        | tup g1 k1 =>
          cases he with
          | tup g2 k2 =>
            rw [k1.isEmpty, k2.isEmpty] at l3 p
            exact op_neT hu pins s σ H _ _ v u Q I rx ry ⟨_, _, _, _, rfl, rfl, sqt_mono r.fz g1, sqt_mono r.fz g2, l3, fin p (.bl _)⟩
      rotate_left
      · obtain ⟨a1, vs1, rfl, g1, k1⟩ := r.lst_at hd l1
        obtain ⟨a2, vs2, rfl, g2, k2⟩ := r.lst_at he l2
        rw [k1.isEmpty, k2.isEmpty] at l3 p
        exact op_neE hu pins s σ H _ _ v u Q I rx ry ⟨a1, a2, vs1, vs2, rfl, rfl, .of g1, .of g2, l3, fin p (.bl _)⟩
      rcases c with c | ⟨c1, c2⟩
      · obtain ⟨s1, s2⟩ := scal_of hd he c
        exact op_ne pins s σ H _ _ v u Q I rx ry ⟨s1, by rw [s2]; exact fin p (.bl _)⟩
      · exact op_neD hu pins s σ H _ _ v u Q I rx ry ⟨_, _, dp_of r _ _ _ c1 hd, dp_of r _ _ _ c2 he, shaped_of (by decide) c1, shaped_of (by decide) c2, by rw [eqv_of _ _ _ _ c1 c2]; exact fin p (.bl _)⟩
    · exact p.elim
  | Lt =>
    unfold cmpR at p
    dsimp only at p
    split at p
    · cases hd; cases he
      exact op_lt pins s σ H _ _ v u Q I rx ry ⟨_, _, rfl, rfl, fin p (.bl _)⟩
    · cases hd; cases he
      exact op_lt_str pins s σ H _ _ v u Q I rx ry ⟨_, _, rfl, rfl, by rw [lt_tx]; exact fin p (.bl _)⟩
    · exact p.elim
  | LtE =>
    unfold cmpR at p
    dsimp only at p
    split at p
    · cases hd; cases he
      exact op_le pins s σ H _ _ v u Q I rx ry ⟨_, _, rfl, rfl, fin p (.bl _)⟩
    · cases hd; cases he
      exact op_le_str pins s σ H _ _ v u Q I rx ry ⟨_, _, rfl, rfl, by rw [lt_tx]; exact fin p (.bl _)⟩
    · exact p.elim
  | Gt =>
    unfold cmpR at p
    dsimp only at p
    split at p
    · cases hd; cases he
      exact op_gt pins s σ H _ _ v u Q I rx ry ⟨_, _, rfl, rfl, fin p (.bl _)⟩
    · exact p.elim
  | GtE =>
    unfold cmpR at p
    dsimp only at p
    split at p
    · cases hd; cases he
      exact op_ge pins s σ H _ _ v u Q I rx ry ⟨_, _, rfl, rfl, fin p (.bl _)⟩
    · exact p.elim
  | Is =>
    unfold cmpR at p
    dsimp only at p
    split at p
    · cases he
      refine op_isN pins s σ H _ _ v u Q I rx ry ⟨rfl, ?_⟩
      cases hd <;> exact fin p (.bl _)
    · exact p.elim
  | IsNot =>
    unfold cmpR at p
    dsimp only at p
    split at p
    · cases he
      refine op_notN pins s σ H _ _ v u Q I rx ry ⟨rfl, ?_⟩
      cases hd <;> exact fin p (.bl _)
    · exact p.elim
  | In =>
    unfold cmpR at p
    dsimp only at p
    split at p
    · rename_i b hb
      unfold inR at hb
      split at hb
      · split at hb
        · cases hb
          cases hd; cases he
          refine op_in_sign pins s σ H _ _ v u Q I rx ry ⟨_, _, rfl, rfl, ?_⟩
          exact fin p (.bl _)
        · cases hb
      · split at hb
        · rename_i kvs hk
          obtain ⟨k, hk1, rfl⟩ := Option.map_eq_some_iff.mp hb
          obtain ⟨a, ws, rfl, h1, h2⟩ := r.dct_at he hk
          have e1 := key_at hd hk1
          subst e1
          have q : (valV ws (kx k)).isSome = (dGet kvs k).isSome := by
            obtain ⟨q1, q2⟩ := h2.get (k := k)
            cases z : dGet kvs k with
            | none => rw [q2 z]; rfl
            | some d => obtain ⟨v, z1, _⟩ := q1 d z; rw [z1]; rfl
          obtain rfl : u = Value.ref a := ry
          refine d_in hu1 I (DGet.k (k := kx k) h1) rx fun s3 I3 => ⟨.bl _, H, I3, rfl, ?_⟩
          rw [q]
          exact fin p (.bl _)
        · split at hb
          · rename_i ds hds
            split at hb
            · rename_i c
              cases hb
              rw [Bool.and_eq_true] at c
              obtain ⟨a, vs, rfl, w1, w2⟩ := r.seq_any he hds
              obtain ⟨c1, c2⟩ := w1.inV hd c.1 c.2
              refine op_in_seq pins s σ H _ _ v u Q I rx ry ⟨a, vs, rfl, w2, hd.of_flat c.1, c1, ?_⟩
              rw [if_neg Bool.false_ne_true, c2]
              exact fin p (.bl _)
            · cases hb
          · cases hb
    · exact p.elim
  | NotIn =>
    unfold cmpR at p
    dsimp only at p
    split at p
    · rename_i b hb
      obtain ⟨b', hb2, rfl⟩ := Option.map_eq_some_iff.mp hb
      clear hb
      unfold inR at hb2
      split at hb2
      · split at hb2
        · cases hb2
          cases hd; cases he
          refine op_notIn_sign pins s σ H _ _ v u Q I rx ry ⟨_, _, rfl, rfl, ?_⟩
          exact fin p (.bl _)
        · cases hb2
      · split at hb2
        · rename_i kvs hk
          obtain ⟨k, hk1, rfl⟩ := Option.map_eq_some_iff.mp hb2
          obtain ⟨a, ws, rfl, h1, h2⟩ := r.dct_at he hk
          have e1 := key_at hd hk1
          subst e1
          have q : (valV ws (kx k)).isSome = (dGet kvs k).isSome := by
            obtain ⟨q1, q2⟩ := h2.get (k := k)
            cases z : dGet kvs k with
            | none => rw [q2 z]; rfl
            | some d => obtain ⟨v, z1, _⟩ := q1 d z; rw [z1]; rfl
          obtain rfl : u = Value.ref a := ry
          refine d_notIn hu1 I (DGet.k (k := kx k) h1) rx fun s3 I3 => ⟨.bl _, H, I3, rfl, ?_⟩
          rw [q]
          exact fin p (.bl _)
        · split at hb2
          · rename_i ds hds
            split at hb2
            · rename_i c
              cases hb2
              rw [Bool.and_eq_true] at c
              obtain ⟨a, vs, rfl, w1, w2⟩ := r.seq_any he hds
              obtain ⟨c1, c2⟩ := w1.inV hd c.1 c.2
              refine op_notIn_seq pins s σ H _ _ v u Q I rx ry ⟨a, vs, rfl, w2, hd.of_flat c.1, c1, ?_⟩
              rw [if_pos rfl, c2]
              exact fin p (.bl _)
            · cases hb2
          · cases hb2
    · exact p.elim
/-- o[i] -/
theorem ix_D (hu1 : X.A.units + 1 < cLine) : IxR X (rD X.K ca idxR) := by
  intro value slice pins s σ H x y v u Q I rx ry h hs
  obtain ⟨W, S, d, e, E, hd, he, r, p⟩ := h
  have fin : ∀ {d : D} {v : V}, Po X.K ca W E (Vi X.K) Q (.ok d S) → Vi X.K W d v → Q v H := fun p q => p W _ H (.refl W) r q
  unfold idxR at p
  split at p
  · split at p
    · split at p
      · rename_i hz
        have hz' := of_decide_eq_true hz
        split at p
        · rename_i c hc
          cases hd; cases he
          refine ix_str value slice pins s σ H _ _ v u Q I rx ry ⟨_, _, c, rfl, rfl, by rw [tx_len]; exact hz', by simpa [tx] using hc, ?_⟩ hs
          exact fin (v := V.str (tx [c])) p (.str [c])
        · exact p.elim
      · exact p.elim
    · exact p.elim
  · split at p
    · rename_i kvs hk
      split at p
      · rename_i w hw
        obtain ⟨k, hk1, hk2⟩ := Option.bind_eq_some_iff.mp hw
        obtain ⟨a, ws, rfl, h1, h2⟩ := r.dct_at hd hk
        have e1 := key_at he hk1
        subst e1
        obtain ⟨vv, q1, q2⟩ := (h2.get (k := k)).1 w hk2
        obtain rfl : v = Value.ref a := rx
        have g : DGet H a (kV (kx k)) (some vv) := by rw [← q1]; exact DGet.k (k := kx k) h1
        exact tail_any (dict_typeIs I g) PySem.F.slot_dict_getitem.lookup (d_getItem hu1 I g ry fun w' s3 I3 rw' => ⟨vv, H, I3, rw', fin p q2⟩) hs
      · exact p.elim
    · split at p
      · rename_i ds i hds
        split at p
        · rename_i w hw
          cases he
          obtain ⟨a, vs, rfl, w1, w2⟩ := r.seq_any hd hds
          obtain ⟨vv, q1, q2⟩ := w1.at hw
          rcases w2 with w2 | w2
          · exact ix_list value slice pins s σ H _ _ v u Q I rx ry ⟨_, _, _, vv, rfl, rfl, w2, q1, fin p q2⟩ hs
          · exact ix_tup value slice pins s σ H _ _ v u Q I rx ry ⟨_, _, _, vv, rfl, rfl, w2, q1, fin p q2⟩ hs
        · exact p.elim
      · exact p.elim
/-- o[lo:hi] -/
def rSD (K : PySem.W.Frag) (ca : String → Option Addr) (f : D → Option Int → Option Int → Store → R D) : V → Option Int → Option Int → Hp → VK → Prop := fun x lo hi H Q =>
  ∃ W S d E, Vi K W d x ∧ Rl K ca W S H ∧ Po K ca W E (Vi K) Q (f d lo hi S)
theorem sl_D (m : Bool) : SlR X (rSD X.K ca (slcR m)) := by
  intro pins s σ H x v vl vu lo hi sl Q I rx hs pl pu h
  obtain ⟨W, S, d, E, hd, r, p⟩ := h
  have fin : ∀ {d : D} {v : V}, Po X.K ca W E (Vi X.K) Q (.ok d S) → Vi X.K W d v → Q v H := fun p q => p W _ H (.refl W) r q
  unfold slcR at p
  split at p
  · rename_i z
    split at p
    · rename_i hz
      have hz' := of_decide_eq_true hz
      cases hd
      refine sl_str pins s σ H _ v vl vu lo hi sl Q I rx hs pl pu ⟨_, rfl, by rw [tx_len]; exact hz', ?_⟩
      have e : cutS (tx z) lo hi = tx (cut z lo hi) := by unfold cutS; rw [tx_len]; simp [tx, Mw.cut]
      rw [e]
      exact fin p (.str _)
    · exact p.elim
  · cases hd with
    | tup a b =>
      refine sl_tupA pins s σ H _ v vl vu lo hi sl Q I rx hs pl pu ⟨_, _, rfl, sqt_mono r.fz a, fun w => ?_, fun _ q hq => ?_⟩
      · rename_i ds aa vs
        have e : cut ds lo hi = ds := by
          unfold Mw.cut
          rw [b.length, w.1, w.2, List.drop_zero, Nat.sub_zero, ← b.length, List.take_length]
        rw [e] at p
        exact fin p (.tup a b)
      · obtain ⟨le, r'⟩ := r.freeze hq (.tup _)
        exact p _ _ _ le r' (.tup (.of upd_same) ((b.mono le.tole0).cut lo hi))
  · split at p
    · rename_i ds hds
      obtain ⟨a, vs, rfl, q1, w1⟩ := r.lst_at hd hds
      exact sl_list pins s σ H _ v vl vu lo hi sl Q I rx hs pl pu ⟨_, _, rfl, .of q1, Po.mkL r (w1.cut lo hi) p⟩
    · exact p.elim
end
end Mw
/-! Mw, part E: built-in functions, methods by values. -/
namespace Mw
open PySem PySem.Spec PyProof.Rows L2

def rC (K : PySem.W.Frag) (ca : String → Option Addr) (f : List D → Store → R D) : List V → Hp → VK → Prop := fun xs H Q =>
  ∃ W S ds E, Vis K W ds xs ∧ Rl K ca W S H ∧ Po K ca W E (Vi K) Q (f ds S)
def rM (K : PySem.W.Frag) (ca : String → Option Addr) (f : D → List D → Store → R D) : V → List V → Hp → VK → Prop := fun x xs H Q =>
  ∃ W S d ds E, Vi K W d x ∧ Vis K W ds xs ∧ Rl K ca W S H ∧ Po K ca W E (Vi K) Q (f d ds S)
theorem vis1 {K : PySem.W.Frag} {W : Wd} {d : D} {vs : List V} (h : Vis K W [d] vs) : ∃ v, vs = [v] ∧ Vi K W d v := by
  cases h with
  | cons a b => cases b; exact ⟨_, rfl, a⟩
theorem vis2 {K : PySem.W.Frag} {W : Wd} {d e : D} {vs : List V} (h : Vis K W [d, e] vs) : ∃ v u, vs = [v, u] ∧ Vi K W d v ∧ Vi K W e u := by
  cases h with
  | cons a b =>
    obtain ⟨u, rfl, c⟩ := vis1 b
    exact ⟨_, _, rfl, a, c⟩
theorem vis0 {K : PySem.W.Frag} {W : Wd} {vs : List V} (h : Vis K W [] vs) : vs = [] := by cases h; rfl
theorem allInts_at {K : PySem.W.Frag} {W : Wd} : ∀ {ds : List D} {vs : List V} {ns : List Int}, Vis K W ds vs → allInts ds = some ns → vs = ns.map V.int
  | _, _, _, .nil, e => by cases e; rfl
  | _, _, _, .cons a b, e => by
    cases a <;> first | (simp [allInts] at e; done) | skip
    simp only [allInts] at e
    obtain ⟨r, h1, rfl⟩ := Option.map_eq_some_iff.mp e
    rw [allInts_at b h1]; rfl
theorem allBools_at {K : PySem.W.Frag} {W : Wd} : ∀ {ds : List D} {vs : List V} {ns : List Bool}, Vis K W ds vs → allBools ds = some ns → vs = ns.map V.bl
  | _, _, _, .nil, e => by cases e; rfl
  | _, _, _, .cons a b, e => by
    cases a <;> first | (simp [allBools] at e; done) | skip
    simp only [allBools] at e
    obtain ⟨r, h1, rfl⟩ := Option.map_eq_some_iff.mp e
    rw [allBools_at b h1]; rfl
theorem allStrs_at {K : PySem.W.Frag} {W : Wd} : ∀ {ds : List D} {vs : List V} {ns : List (List Nat)}, Vis K W ds vs → allStrs ds = some ns → vs = (ns.map tx).map V.str
  | _, _, _, .nil, e => by cases e; rfl
  | _, _, _, .cons a b, e => by
    cases a <;> first | (simp [allStrs] at e; done) | skip
    simp only [allStrs] at e
    obtain ⟨r, h1, rfl⟩ := Option.map_eq_some_iff.mp e
    rw [allStrs_at b h1]; rfl

def tyNames : List String := ["NoneType", "bool", "int", "str", "tuple", "list", "dict"]
def tgNames : List String := ["bool", "int", "str", "tuple", "list", "dict"]
theorem kit_all : (tyNames.all fun T => tgNames.all fun t => decide (kitB T t = some (below T t))) = true := by decide +kernel
theorem kit_at {K : PySem.W.Frag} {T t : String} (h1 : T ∈ tyNames) (h2 : t ∈ tgNames) : PySem.W.kitOne K (.type T) (.type t) = some (below T t) :=
  kit_ty (of_decide_eq_true (List.all_eq_true.mp (List.all_eq_true.mp kit_all T h1) t h2))
theorem tyX_at {K : PySem.W.Frag} {ca : String → Option Addr} {W : Wd} {S : Store} {H : Hp} (r : Rl K ca W S H) {d : D} {v : V} (h : Vi K W d v) {T : String} (e : tyName S d = some T) : TyX K H v (.type T) ∧ T ∈ tyNames := by
  cases h with
  | non => cases e; exact ⟨.base .non, by decide⟩
  | bl b => cases e; exact ⟨.base (.bl b), by decide⟩
  | int b => cases e; exact ⟨.base (.int b), by decide⟩
  | str b => cases e; exact ⟨.base (.str _), by decide⟩
  | tup a b =>
    cases e
    refine ⟨?_, by decide⟩
    rcases sqt_mono r.fz a with (q | ⟨o, q⟩) | ⟨o, its, n, q1, q2, _⟩
    · exact .base (.tup q)
    · exact .fTuple q
    · exact .kTuple q1 q2
  | lst a b => cases e; exact ⟨.base (.lst (r.fz _ _ a)), by decide⟩
  | dct a b => cases e; exact ⟨.base (.dK (r.fz _ _ a)), by decide⟩
  | scr a =>
    cases e
    refine ⟨?_, by decide⟩
    rcases r.fz.seq a with (q | ⟨o, q⟩) | ⟨o, its, n, q1, q2, _⟩
    · exact .base (.lst q)
    · exact .base (.frz q)
    · exact .kList q1 q2
  | @ref n a e1 =>
    dsimp only [tyName] at e
    split at e
    · cases e
      rename_i heq
      obtain ⟨u, h1, h2⟩ := r.got _ _ _ e1 heq
      cases h2 with
      | lst h2 => exact ⟨.base (.lst h1), by decide⟩
    · cases e
      rename_i heq
      obtain ⟨u, h1, h2⟩ := r.got _ _ _ e1 heq
      cases h2 with
      | dct h2 => exact ⟨.base (.dK h1), by decide⟩
    · cases e
  | ty n => cases e

section
variable {X : Cx} {ca : String → Option Addr}
/-- isinstance(x, t), isinstance(x, (t, u)) -/
theorem isi1_D {t : String} (ht : t ∈ tgNames) : CallR X (.builtin "isinstance") (fun xs H Q => ∃ x, xs = [x, .ty t] ∧ ∃ W S d E, Vi X.K W d x ∧ Rl X.K ca W S H ∧ Po X.K ca W E (Vi X.K) Q (isiR d [t] S)) := by
  intro pins s σ H xs us Q I rv h
  obtain ⟨x, rfl, W, S, d, E, hd, r, p⟩ := h
  unfold isiR at p
  dsimp only at p
  split at p
  · rename_i T hT
    obtain ⟨q1, q2⟩ := tyX_at r hd hT
    exact call_isi pins s σ H _ us Q I rv ⟨x, .ty t, _, _, _, rfl, .ty t, q1, kit_at q2 ht, p W _ H (.refl W) r (.bl _)⟩
  · exact p.elim
theorem isi2_D {t u : String} (ht : t ∈ tgNames) (hu : u ∈ tgNames) : CallR X (.builtin "isinstance") (fun xs H Q => ∃ x tp, xs = [x, .ref tp] ∧ H tp = some (.tup [.ty t, .ty u]) ∧ ∃ W S d E, Vi X.K W d x ∧ Rl X.K ca W S H ∧ Po X.K ca W E (Vi X.K) Q (isiR d [t, u] S)) := by
  intro pins s σ H xs us Q I rv h
  obtain ⟨x, tp, rfl, hp, W, S, d, E, hd, r, p⟩ := h
  unfold isiR at p
  dsimp only at p
  split at p
  · rename_i T hT
    obtain ⟨q1, q2⟩ := tyX_at r hd hT
    refine call_isiT pins s σ H _ us Q I rv ⟨x, tp, _, _, [.type t, .type u], _, rfl, hp, .cons (.ty t) (.cons (.ty u) .nil), q1, ?_, p W _ H (.refl W) r (.bl _)⟩
    refine kitAny_cons (kit_at q2 ht) (fun e => ?_) (fun e => by rw [e]; rfl)
    rw [e, Bool.false_or]
    exact kitAny_cons (kit_at q2 hu) (fun e2 => by rw [e2]; rfl) (fun e2 => e2)
  · exact p.elim

theorem len_D (m : Bool) : CallR X (.builtin "len") (rC X.K ca (bltR .len m)) := by
  intro pins s σ H xs us Q I rv h
  obtain ⟨W, S, ds, E, hd, r, p⟩ := h
  have fin : ∀ {d : D} {v : V}, Po X.K ca W E (Vi X.K) Q (.ok d S) → Vi X.K W d v → Q v H := fun p q => p W _ H (.refl W) r q
  unfold bltR at p
  split at p <;> first | exact p.elim | (rename_i e _; cases e; done) | (rename_i e; cases e; done) | skip
  · split at p
    · rename_i hz
      have hz' := of_decide_eq_true hz
      obtain ⟨v, rfl, hv⟩ := vis1 hd
      cases hv
      refine call_len_str pins s σ H _ us Q I rv ⟨_, rfl, by rw [tx_len]; exact hz', ?_⟩
      rw [tx_len]
      exact fin p (.int _)
    · exact p.elim
  · split at p
    · rename_i es hes
      obtain ⟨v, rfl, hv⟩ := vis1 hd
      obtain ⟨a, vs, rfl, w1, w2⟩ := r.seq_any hv hes
      refine call_len_seq pins s σ H _ us Q I rv ⟨_, _, rfl, w2, ?_⟩
      rw [← w1.length]
      exact fin p (.int _)
    · exact p.elim
theorem int_D (m : Bool) : CallR X (.type "int") (rC X.K ca (bltR .int m)) := by
  intro pins s σ H xs us Q I rv h
  obtain ⟨W, S, ds, E, hd, r, p⟩ := h
  have fin : ∀ {d : D} {v : V}, Po X.K ca W E (Vi X.K) Q (.ok d S) → Vi X.K W d v → Q v H := fun p q => p W _ H (.refl W) r q
  unfold bltR at p
  split at p <;> first | exact p.elim | (rename_i e _; cases e; done) | (rename_i e; cases e; done) | skip
  · obtain ⟨v, rfl, hv⟩ := vis1 hd
    cases hv
    exact call_int1 pins s σ H _ us Q I rv (.inl ⟨_, rfl, fin p (.int _)⟩)
  · obtain ⟨v, rfl, hv⟩ := vis1 hd
    cases hv
    exact call_int1 pins s σ H _ us Q I rv (.inr ⟨_, rfl, fin p (.int _)⟩)
  · split at p
    · rename_i hz
      have hz' := of_decide_eq_true hz
      split at p
      · rename_i n hn
        obtain ⟨v, rfl, hv⟩ := vis1 hd
        cases hv
        exact call_int_str pins s σ H _ us Q I rv ⟨_, n, rfl, hn, by rw [tx_len]; exact hz', fin p (.int _)⟩
      · exact p.elim
    · exact p.elim
theorem min_D (m : Bool) (hc : X.calm = true) : CallR X (.builtin "min") (rC X.K ca (bltR .min m)) := by
  intro pins s σ H xs us Q I rv h
  obtain ⟨W, S, ds, E, hd, r, p⟩ := h
  have fin : ∀ {d : D} {v : V}, Po X.K ca W E (Vi X.K) Q (.ok d S) → Vi X.K W d v → Q v H := fun p q => p W _ H (.refl W) r q
  unfold bltR at p
  split at p <;> first | exact p.elim | (rename_i e _; cases e; done) | (rename_i e; cases e; done) | skip
  · obtain ⟨v, u, rfl, hv, hu⟩ := vis2 hd
    cases hv; cases hu
    exact call_min2 hc pins s σ H _ us Q I rv ⟨_, _, rfl, fin p (.int _)⟩
theorem max_D (m : Bool) (hc : X.calm = true) : CallR X (.builtin "max") (rC X.K ca (bltR .max m)) := by
  intro pins s σ H xs us Q I rv h
  obtain ⟨W, S, ds, E, hd, r, p⟩ := h
  have fin : ∀ {d : D} {v : V}, Po X.K ca W E (Vi X.K) Q (.ok d S) → Vi X.K W d v → Q v H := fun p q => p W _ H (.refl W) r q
  unfold bltR at p
  split at p <;> first | exact p.elim | (rename_i e _; cases e; done) | (rename_i e; cases e; done) | skip
  · obtain ⟨v, u, rfl, hv, hu⟩ := vis2 hd
    cases hv; cases hu
    exact call_max2 hc pins s σ H _ us Q I rv ⟨_, _, rfl, fin p (.int _)⟩
theorem abs_D (m : Bool) : CallR X (.builtin "abs") (rC X.K ca (bltR .abs m)) := by
  intro pins s σ H xs us Q I rv h
  obtain ⟨W, S, ds, E, hd, r, p⟩ := h
  have fin : ∀ {d : D} {v : V}, Po X.K ca W E (Vi X.K) Q (.ok d S) → Vi X.K W d v → Q v H := fun p q => p W _ H (.refl W) r q
  unfold bltR at p
  split at p <;> first | exact p.elim | (rename_i e _; cases e; done) | (rename_i e; cases e; done) | skip
  · obtain ⟨v, rfl, hv⟩ := vis1 hd
    cases hv
    exact call_abs pins s σ H _ us Q I rv ⟨_, rfl, fin p (.int _)⟩
theorem all_D (m : Bool) (hc : X.calm = true) : CallR X (.builtin "all") (rC X.K ca (bltR .all m)) := by
  intro pins s σ H xs us Q I rv h
  obtain ⟨W, S, ds, E, hd, r, p⟩ := h
  have fin : ∀ {d : D} {v : V}, Po X.K ca W E (Vi X.K) Q (.ok d S) → Vi X.K W d v → Q v H := fun p q => p W _ H (.refl W) r q
  unfold bltR at p
  split at p <;> first | exact p.elim | (rename_i e _; cases e; done) | (rename_i e; cases e; done) | skip
  · split at p
    · rename_i bs hbs
      obtain ⟨es, h1, h2⟩ := Option.bind_eq_some_iff.mp hbs
      obtain ⟨v, rfl, hv⟩ := vis1 hd
      split at p
      · exact p.elim
      · rename_i hnt
        obtain ⟨a, vs, rfl, w1, w2⟩ := r.seq_at hv h1
        have e := allBools_at w1 h2
        subst e
        rcases w2 with ⟨w2, _⟩ | ⟨_, z⟩
        · exact cr_all hc pins s σ H _ us Q I rv ⟨_, _, rfl, w2, fin p (.bl _)⟩
        · exact absurd z (hnt _)
    · exact p.elim
theorem sum_D (m : Bool) (hc : X.calm = true) : CallR X (.builtin "sum") (rC X.K ca (bltR .sum m)) := by
  intro pins s σ H xs us Q I rv h
  obtain ⟨W, S, ds, E, hd, r, p⟩ := h
  have fin : ∀ {d : D} {v : V}, Po X.K ca W E (Vi X.K) Q (.ok d S) → Vi X.K W d v → Q v H := fun p q => p W _ H (.refl W) r q
  unfold bltR at p
  split at p <;> first | exact p.elim | (rename_i e _; cases e; done) | (rename_i e; cases e; done) | skip
  · split at p
    · rename_i bs hbs
      obtain ⟨es, h1, h2⟩ := Option.bind_eq_some_iff.mp hbs
      obtain ⟨v, rfl, hv⟩ := vis1 hd
      split at p
      · exact p.elim
      · rename_i hnt
        obtain ⟨a, vs, rfl, w1, w2⟩ := r.seq_at hv h1
        have e := allInts_at w1 h2
        subst e
        rcases w2 with ⟨w2, _⟩ | ⟨_, z⟩
        · exact cr_sum hc pins s σ H _ us Q I rv ⟨_, _, rfl, w2, fin p (.int _)⟩
        · exact absurd z (hnt _)
    · exact p.elim
theorem list_D (m : Bool) : CallR X (.type "list") (rC X.K ca (bltR .list m)) := by
  intro pins s σ H xs us Q I rv h
  obtain ⟨W, S, ds, E, hd, r, p⟩ := h
  unfold bltR at p
  split at p <;> first | exact p.elim | (rename_i e _; cases e; done) | (rename_i e; cases e; done) | skip
  · split at p
    · rename_i es hes
      obtain ⟨v, rfl, hv⟩ := vis1 hd
      obtain ⟨a, vs, rfl, w1, w2⟩ := r.seq_any hv hes
      exact call_list_of pins s σ H _ us Q I rv ⟨_, _, rfl, w2, Po.mkL r w1 p⟩
    · exact p.elim
theorem tuple_D (m : Bool) : CallR X (.type "tuple") (rC X.K ca (bltR .tuple m)) := by
  intro pins s σ H xs us Q I rv h
  obtain ⟨W, S, ds, E, hd, r, p⟩ := h
  have fin : ∀ {d : D} {v : V}, Po X.K ca W E (Vi X.K) Q (.ok d S) → Vi X.K W d v → Q v H := fun p q => p W _ H (.refl W) r q
  unfold bltR at p
  split at p <;> first | exact p.elim | (rename_i e _; cases e; done) | (rename_i e; cases e; done) | skip
  · split at p
    · rename_i es hes
      obtain ⟨v, rfl, hv⟩ := vis1 hd
      obtain ⟨a, vs, rfl, w1, w2⟩ := r.seq_at hv hes
      rcases w2 with ⟨w2, _⟩ | ⟨w2, z⟩
      · refine call_tuple_of pins s σ H _ us Q I rv ⟨_, _, rfl, .inl ⟨w2, fun q hq => ?_⟩⟩
        obtain ⟨le, r'⟩ := r.freeze hq (.tup vs)
        exact p _ _ _ le r' (.tup (.of upd_same) (w1.mono le.tole0))
      · subst z
        exact call_tuple_of pins s σ H _ us Q I rv ⟨_, _, rfl, .inr ⟨w2, fin p hv⟩⟩
    · exact p.elim
theorem str_D (m : Bool) : CallR X (.type "str") (rC X.K ca (bltR .str m)) := by
  intro pins s σ H xs us Q I rv h
  obtain ⟨W, S, ds, E, hd, r, p⟩ := h
  have fin : ∀ {d : D} {v : V}, Po X.K ca W E (Vi X.K) Q (.ok d S) → Vi X.K W d v → Q v H := fun p q => p W _ H (.refl W) r q
  unfold bltR at p
  split at p <;> first | exact p.elim | (rename_i e _; cases e; done) | (rename_i e; cases e; done) | skip
  · split at p
    · rename_i hz
      have hz' := of_decide_eq_true hz
      obtain ⟨v, rfl, hv⟩ := vis1 hd
      cases hv
      rename_i i _
      refine call_str_int pins s σ H _ us Q I rv ⟨_, rfl, hz', ?_⟩
      have e : (toString i : Str) = tx (toString i : Str).cps.toList := by simp [tx]
      rw [e]
      exact fin p (.str _)
    · exact p.elim
  · obtain ⟨v, rfl, hv⟩ := vis1 hd
    cases hv
    exact SkE.call_str_str pins s σ H _ us Q I rv ⟨_, rfl, fin p (.str _)⟩
theorem dict_D (m : Bool) : CallR X (.type "dict") (rC X.K ca (bltR .dict m)) := by
  intro pins s σ H xs us Q I rv h
  obtain ⟨W, S, ds, E, hd, r, p⟩ := h
  unfold bltR at p
  split at p <;> first | exact p.elim | (rename_i e _; cases e; done) | (rename_i e; cases e; done) | skip
  · split at p
    · rename_i kvs hk
      obtain ⟨v, rfl, hv⟩ := vis1 hd
      obtain ⟨a, ws, rfl, h1, h2⟩ := r.dct_at hv hk
      cases rv with
      | cons r1 r2 =>
        cases r2
        rename_i u
        cases (show u = Value.ref a from r1)
        exact d_copyOf I (.inl h1) fun p' s' hp I' => ⟨.ref p', _, I', rfl, Po.mkD r h2 p p' hp⟩
    · exact p.elim

/-! ### methods -/
theorem append_D : MtM X "list.append" (rM X.K ca (mtdR .append)) := by
  intro pins s σ H x xs v us Q I rx rv h
  obtain ⟨W, S, d, ds, E, hd, hs, r, p⟩ := h
  unfold mtdR at p
  dsimp only at p
  split at p
  · rename_i n y
    split at p
    · rename_i es hes
      split at p
      · rename_i hz
        have hz' := of_decide_eq_true hz
        obtain ⟨w, rfl, hw⟩ := vis1 hs
        cases hd with
        | @ref n a e1 =>
          obtain ⟨u, h1, h2⟩ := r.got _ _ _ e1 hes
          cases h2 with
          | lst h2 => exact mt_append pins s σ H _ _ v us Q I rx rv ⟨_, _, _, rfl, rfl, h1, by rw [← h2.length]; exact hz', p W _ _ (.refl W) (r.write e1 (.lst (h2.app (.one hw)))) .non⟩
      · exact p.elim
    · exact p.elim
  · exact p.elim
theorem pop_D : MtM X "list.pop" (rM X.K ca (mtdR .pop)) := by
  intro pins s σ H x xs v us Q I rx rv h
  obtain ⟨W, S, d, ds, E, hd, hs, r, p⟩ := h
  unfold mtdR at p
  dsimp only at p
  split at p
  · rename_i n
    split at p
    · rename_i es hes
      split at p
      · rename_i y hy
        have e0 := vis0 hs
        subst e0
        cases hd with
        | @ref n a e1 =>
          obtain ⟨u, h1, h2⟩ := r.got _ _ _ e1 hes
          cases h2 with
          | @lst _ vs h2 =>
            obtain ⟨w, q1, q2⟩ := h2.get hy
            rw [h2.length] at q1
            exact mt_pop pins s σ H _ _ v us Q I rx rv ⟨_, _, w, rfl, rfl, h1, q1, p W _ _ (.refl W) (r.write e1 (.lst h2.dropLast)) q2⟩
      · exact p.elim
    · exact p.elim
  · rename_i n i
    split at p
    · rename_i hi
      have hi' := of_decide_eq_true hi
      subst hi'
      split at p
      · rename_i y es hes
        obtain ⟨w0, rfl, hw0⟩ := vis1 hs
        cases hw0
        cases hd with
        | @ref n a e1 =>
          obtain ⟨u, h1, h2⟩ := r.got _ _ _ e1 hes
          cases h2 with
          | @lst _ vs h2 =>
            cases h2 with
            | @cons _ w _ vs q1 q2 =>
              refine mt_popAt pins s σ H _ _ v us Q I rx rv ⟨_, _, 0, 0, w, rfl, rfl, h1, by omega, by omega, by simp [seqIndex?], rfl, p W _ _ (.refl W) (r.write e1 (.lst q2)) q1⟩
      · exact p.elim
    · exact p.elim
  · exact p.elim
theorem extend_D : MtM X "list.extend" (rM X.K ca (mtdR .extend)) := by
  intro pins s σ H x xs v us Q I rx rv h
  obtain ⟨W, S, d, ds, E, hd, hs, r, p⟩ := h
  unfold mtdR at p
  dsimp only at p
  split at p
  · rename_i n y
    split at p
    · rename_i es zs hes hzs
      split at p
      · rename_i hz
        have hz' := of_decide_eq_true hz
        obtain ⟨w, rfl, hw⟩ := vis1 hs
        obtain ⟨b, us', rfl, k1, k2⟩ := r.lst_at hw hzs
        cases hd with
        | @ref n a e1 =>
          obtain ⟨u, h1, h2⟩ := r.got _ _ _ e1 hes
          cases h2 with
          | lst h2 => exact mt_extend pins s σ H _ _ v us Q I rx rv ⟨_, _, _, _, rfl, rfl, h1, k1, by rw [← h2.length, ← k2.length]; exact hz', p W _ _ (.refl W) (r.write e1 (.lst (h2.app k2))) .non⟩
      · exact p.elim
    · exact p.elim
  · exact p.elim
theorem Vik.dropKey {K : PySem.W.Frag} {W : Wd} (k : DK) : ∀ {ds : List (DK × D)} {vs : List (Key × V)}, Vik K W ds vs → Vik K W (ds.filter fun kv => decide (kv.1 ≠ k)) (dropK vs (kx k))
  | _, _, .nil => .nil
  | _, _, .cons (k := k') a b => by
    have e : (kx k' = kx k) ↔ k' = k := ⟨fun h => kx_inj h, fun h => by rw [h]⟩
    unfold dropK
    by_cases h : k' = k
    · have h2 : kx k' = kx k := by rw [h]
      rw [List.filter_cons_of_neg (by simp [h]), List.filter_cons_of_neg (by simp [h2])]
      exact Vik.dropKey k b
    · have h2 : ¬ kx k' = kx k := fun z => h (e.mp z)
      rw [List.filter_cons_of_pos (by simp [h]), List.filter_cons_of_pos (by simp [h2])]
      exact .cons a (Vik.dropKey k b)
theorem dpop_D : MtM X "dict.pop" (rM X.K ca (mtdR .dpop)) := by
  intro pins s σ H x xs v us Q I rx rv h
  obtain ⟨W, S, d, ds, E, hd, hs, r, p⟩ := h
  unfold mtdR at p
  dsimp only at p
  split at p
  · rename_i n kd dd
    split at p
    · rename_i kvs k hS hk
      obtain ⟨w, w2, rfl, hw, hw2⟩ := vis2 hs
      cases hd with
      | @ref n a e1 =>
        obtain ⟨u, h1, h2⟩ := r.got _ _ _ e1 hS
        cases h2 with
        | @dct _ ws h2 =>
          have e := key_at hw hk
          subst e
          cases (show v = Value.ref a from rx)
          cases rv with
          | cons r1 r2 =>
            cases r2 with
            | cons r3 r4 =>
              cases r4
              obtain ⟨q1, q2⟩ := h2.get (k := k)
              cases z : dGet kvs k with
              | some d =>
                obtain ⟨v, z1, z2⟩ := q1 d z
                refine d_pop I h1 r1 z1 (.inr ⟨_, rfl⟩) fun w' s' I' rw' => ⟨_, _, I', rw', ?_⟩
                rw [z] at p
                exact p W _ _ (.refl W) (r.write e1 (.dct (h2.dropKey k))) z2
              | none =>
                refine d_popD I h1 r1 (q2 z) fun s' I' => ⟨_, _, I', r3, ?_⟩
                rw [z] at p
                have ek : (kvs.filter fun kv => decide (kv.1 ≠ k)) = kvs := by
                  rw [List.filter_eq_self]
                  intro kv hkv
                  have : ¬ kv.1 = k := fun e => by
                    unfold dGet at z
                    rw [Option.map_eq_none_iff, List.find?_eq_none] at z
                    exact z kv hkv (decide_eq_true e)
                  exact decide_eq_true this
                rw [ek] at p
                have eS : S.set n (.dct kvs) = S := by
                  apply List.ext_getElem?
                  intro i
                  by_cases hi : n = i
                  · subst hi
                    rw [List.getElem?_set_self (List.getElem?_eq_some_iff.mp hS).1, hS]
                  · rw [List.getElem?_set_ne hi]
                rw [eS] at p
                exact p W _ _ (.refl W) r hw2
    · exact p.elim
  · exact p.elim
theorem vis_strs {K : PySem.W.Frag} {W : Wd} : ∀ zs : List Str, Vis K W (zs.map fun z => D.str z.cps.toList) (zs.map V.str)
  | [] => .nil
  | z :: zs => by
    have e : z = tx z.cps.toList := by simp [tx]
    refine .cons ?_ (vis_strs zs)
    conv => rhs; rw [e]
    exact .str _
theorem split_D : MtR X "str.split" (rM X.K ca (mtdR .split)) := by
  intro pins s σ H x xs v us Q I rx rv h
  obtain ⟨W, S, d, ds, E, hd, hs, r, p⟩ := h
  unfold mtdR at p
  dsimp only at p
  split at p
  · rename_i a b
    split at p
    · rename_i hz
      obtain ⟨hb, hz'⟩ := of_decide_eq_true hz
      obtain ⟨w, rfl, hw⟩ := vis1 hs
      cases hd
      cases hw
      refine mt_split pins s σ H _ _ v us Q I rx rv ⟨_, _, rfl, rfl, ?_, ?_, fun q hq => ?_⟩
      · rw [tx_len]
        cases b with
        | nil => exact absurd rfl hb
        | cons _ _ => rfl
      · rw [tx_len, sizeLine_eq]; omega
      · obtain ⟨le, r'⟩ := r.freeze hq (.lst ((Txt.split (tx a) (tx b)).map V.str))
        exact p _ _ _ le r' (.lst upd_same (vis_strs _))
    · exact p.elim
  · exact p.elim
theorem startswith_D : MtR X "str.startswith" (rM X.K ca (mtdR .startswith)) := by
  intro pins s σ H x xs v us Q I rx rv h
  obtain ⟨W, S, d, ds, E, hd, hs, r, p⟩ := h
  have fin : ∀ {d : D} {v : V}, Po X.K ca W E (Vi X.K) Q (.ok d S) → Vi X.K W d v → Q v H := fun p q => p W _ H (.refl W) r q
  unfold mtdR at p
  dsimp only at p
  split at p
  · rename_i a b
    obtain ⟨w, rfl, hw⟩ := vis1 hs
    cases hd
    cases hw
    exact mt_startswith pins s σ H _ _ v us Q I rx rv ⟨_, _, rfl, rfl, fin p (.bl _)⟩
  · exact p.elim
theorem join_tx0 (a : List Nat) : ∀ ys : List (List Nat), Str.join (tx a) (ys.map tx) = tx (joinL a ys)
  | [] => rfl
  | [y] => rfl
  | y :: z :: r => by
    show tx y ++ tx a ++ Str.join (tx a) ((z :: r).map tx) = tx (y ++ (a ++ joinL a (z :: r)))
    rw [join_tx0 a (z :: r), ← tx_app, ← tx_app, List.append_assoc]
theorem join_tx (a : List Nat) (ys : List (List Nat)) : Txt.join (tx a) (ys.map tx) = tx (joinL a ys) :=
  (StrLaws.glued_eq_join _ _).trans (join_tx0 a ys)
theorem vis_find {K : PySem.W.Frag} {W : Wd} {y : D} {u : V} (hy : Vi K W y u) (fy : flatD y = true) : ∀ {ds : List D} {vs : List V} {j : Nat}, Vis K W ds vs → ds.all flatD = true → ds.findIdx? (fun z => deq z y) = some j → vs.all flatV = true ∧ ∃ z, vs[j]? = some z ∧ eqV z u = true ∧ ∀ m z', m < j → vs[m]? = some z' → eqV z' u = false
  | _, _, j, .nil, _, h => by simp at h
  | d :: ds, v :: vs, j, .cons a b, f, h => by
    rw [List.all_cons, Bool.and_eq_true] at f
    have hv : vs.all flatV = true := (Vis.inV hy fy b f.2).1
    have e := eqV_of a hy f.1 fy
    rw [List.findIdx?_cons] at h
    split at h
    · rename_i hd
      cases h
      exact ⟨by rw [List.all_cons, a.of_flat f.1, hv]; rfl, v, rfl, by rw [e, hd], fun m z' hm _ => absurd hm (Nat.not_lt_zero _)⟩
    · rename_i hd
      cases hj : ds.findIdx? (fun z => deq z y) with
      | none => rw [hj] at h; cases h
      | some k =>
        rw [hj] at h
        cases h
        obtain ⟨_, z, q1, q2, q3⟩ := vis_find hy fy b f.2 hj
        refine ⟨by rw [List.all_cons, a.of_flat f.1, hv]; rfl, z, by simpa using q1, q2, fun m z' hm hz => ?_⟩
        cases m with
        | zero =>
          have : v = z' := by simpa using hz
          subst this
          rw [e]
          simpa using hd
        | succ m => exact q3 m z' (by have h' : m + 1 < k + 1 := hm; omega) (by simpa using hz)
theorem index_D : MtR X "list.index" (rM X.K ca (mtdR .index)) := by
  intro pins s σ H x xs v us Q I rx rv h
  obtain ⟨W, S, d, ds, E, hd, hs, r, p⟩ := h
  have fin : ∀ {d : D} {v : V}, Po X.K ca W E (Vi X.K) Q (.ok d S) → Vi X.K W d v → Q v H := fun p q => p W _ H (.refl W) r q
  unfold mtdR at p
  dsimp only at p
  split at p
  · rename_i es y hes
    split at p
    · rename_i hf
      rw [Bool.and_eq_true] at hf
      split at p
      · rename_i j hj
        obtain ⟨w, rfl, hw⟩ := vis1 hs
        obtain ⟨ad, vs, rfl, w1, w2⟩ := r.lst_at hd hes
        obtain ⟨q0, z, q1, q2, q3⟩ := vis_find hw hf.1 w2 hf.2 hj
        exact mt_index pins s σ H _ _ v us Q I rx rv ⟨ad, vs, w, j, z, rfl, rfl, .of w1, hw.of_flat hf.1, q0, q1, q2, q3, fin p (.int _)⟩
      · exact p.elim
    · exact p.elim
  · exact p.elim
theorem join_D : MtR X "str.join" (rM X.K ca (mtdR .join)) := by
  intro pins s σ H x xs v us Q I rx rv h
  obtain ⟨W, S, d, ds, E, hd, hs, r, p⟩ := h
  have fin : ∀ {d : D} {v : V}, Po X.K ca W E (Vi X.K) Q (.ok d S) → Vi X.K W d v → Q v H := fun p q => p W _ H (.refl W) r q
  unfold mtdR at p
  dsimp only at p
  split at p
  · rename_i a y
    split at p
    · rename_i ys hys
      split at p
      · rename_i hz
        have hz' := of_decide_eq_true hz
        obtain ⟨es, h1, h2⟩ := Option.bind_eq_some_iff.mp hys
        obtain ⟨w, rfl, hw⟩ := vis1 hs
        obtain ⟨ad, vs, rfl, w1, w2⟩ := r.seq_any hw h1
        have e := allStrs_at w1 h2
        subst e
        cases hd
        refine mt_join pins s σ H _ _ v us Q I rx rv ⟨_, _, ys.map tx, rfl, rfl, w2, ?_, ?_⟩
        · rw [tx_len, List.map_map, List.length_map]
          have : (ys.map ((fun z : Str => z.length) ∘ tx)) = ys.map List.length := List.map_congr_left fun z _ => tx_len z
          rw [this]
          exact hz'
        · rw [join_tx]
          exact fin p (.str _)
      · exact p.elim
    · exact p.elim
  · exact p.elim
theorem dget_D (hu : X.A.units + 1 < cLine) : MtM X "dict.get" (rM X.K ca (mtdR .get)) := by
  intro pins s σ H x xs v us Q I rx rv h
  obtain ⟨W, S, d, ds, E, hd, hs, r, p⟩ := h
  unfold mtdR at p
  dsimp only at p
  split at p
  · rename_i kvs k hk
    split at p
    · rename_i k' hk'
      obtain ⟨w, rfl, hw⟩ := vis1 hs
      obtain ⟨a, ws, rfl, h1, h2⟩ := r.dct_at hd hk
      have e := key_at hw hk'
      subst e
      cases (show v = Value.ref a from rx)
      cases rv with
      | cons r1 r2 =>
        cases r2
        refine d_get1 hu I (DGet.k (k := kx k') h1) r1 fun w' s' I' rw' => ⟨_, H, I', rw', p W _ _ (.refl W) r ?_⟩
        obtain ⟨q1, q2⟩ := h2.get (k := k')
        cases z : dGet kvs k' with
        | none => rw [q2 z]; exact .non
        | some d => obtain ⟨v, z1, z2⟩ := q1 d z; rw [z1]; exact z2
    · exact p.elim
  · rename_i kvs k dd hk
    split at p
    · rename_i k' hk'
      obtain ⟨w, w2, rfl, hw, hw2⟩ := vis2 hs
      obtain ⟨a, ws, rfl, h1, h2⟩ := r.dct_at hd hk
      have e := key_at hw hk'
      subst e
      cases (show v = Value.ref a from rx)
      cases rv with
      | cons r1 r2 =>
        cases r2 with
        | cons r3 r4 =>
          cases r4
          refine d_get2 hu I (DGet.k (k := kx k') h1) r1 r3 fun w' s' I' rw' => ⟨_, H, I', rw', p W _ _ (.refl W) r ?_⟩
          obtain ⟨q1, q2⟩ := h2.get (k := k')
          cases z : dGet kvs k' with
          | none => rw [q2 z]; exact hw2
          | some d => obtain ⟨v, z1, z2⟩ := q1 d z; rw [z1]; exact z2
    · exact p.elim
  · exact p.elim
theorem dupd_D : MtM X "dict.update" (rM X.K ca (mtdR .update)) := by
  intro pins s σ H x xs v us Q I rx rv h
  obtain ⟨W, S, d, ds, E, hd, hs, r, p⟩ := h
  unfold mtdR at p
  dsimp only at p
  split at p
  · rename_i n more
    split at p
    · rename_i kvs hS
      split at p
      · rename_i hz
        have hz' := of_decide_eq_true hz
        obtain ⟨w, rfl, hw⟩ := vis1 hs
        cases hd with
        | @ref n a e1 =>
          obtain ⟨u, h1, h2⟩ := r.got _ _ _ e1 hS
          cases h2 with
          | @dct _ ws h2 =>
            cases hw with
            | @dct b ws2 _ g1 g2 =>
              cases (show v = Value.ref a from rx)
              cases rv with
              | cons r1 r2 =>
                cases r2
                rename_i ub
                cases (show ub = Value.ref b from r1)
                have hb : H b = some (.dK ws2) := r.fz _ _ g1
                have hab : a ≠ b := fun e => by
                  subst e
                  have := (r.off a (List.mem_of_getElem? e1)).1
                  rw [g1] at this; cases this
                obtain ⟨z1, d1, vs1, k1, dd1⟩ := dk_of I.hok h1
                obtain ⟨z2, d2, vs2, k2, dd2⟩ := dk_of I.hok hb
                have hl1 : ws.length = vs1.length := k1.length
                have hl2 : ws2.length = vs2.length := k2.length
                have hm1 := h2.length
                have hm2 := g2.length
                refine call_meetsIn PySem.F.slot_dict_update dd1.typeIs PySem.F.entry_dict_update (PySem.F.args_dict_update_2 _ _) (meets_dict_update (mixKind X.prog X.w) a b hab d2) ⟨vs1, vs2, dd1, dd2, by rw [sizeLine_eq]; omega, fun h' m1 m2 sb => ?_⟩
                have he : ∃ q, h'.get? a = some q := let ⟨q, _, _, hq, _⟩ := m1; ⟨q, hq⟩
                have hle : (mergeK ws ws2).length ≤ sizeLine := by
                  have := length_mergeK ws2 ws
                  rw [sizeLine_eq]; omega
                refine ⟨.non, _, d_write I (by rw [h1]; exact True.intro) sb he (dk_new hle d1 (k2.merge k1) m1), rfl, p W _ _ (.refl W) (r.write e1 (.dct (g2.merge h2))) .non⟩
      · exact p.elim
    · exact p.elim
  · exact p.elim
end
end Mw
/-! Mw, part F: the checker of expressions, and that what it lets by does what the evaluator tells. -/
namespace Mw
open PySem PySem.Spec PyProof.Rows L2

/-! ### the checker -/
mutual
def eqC : D → D → Bool
  | .non, .non => true
  | .bl a, .bl b => a == b
  | .int a, .int b => a == b
  | .str a, .str b => a == b
  | .ty a, .ty b => a == b
  | .tup a, .tup b => eqCs a b
  | _, _ => false
def eqCs : List D → List D → Bool
  | [], [] => true
  | a :: r, b :: q => eqC a b && eqCs r q
  | _, _ => false
end
mutual
theorem eqC_eq : ∀ {a b : D}, eqC a b = true → a = b
  | .non, b, h => by cases b <;> first | rfl | (simp [eqC] at h)
  | .bl _, b, h => by cases b <;> first | (simp [eqC] at h; subst h; rfl) | (simp [eqC] at h)
  | .int _, b, h => by cases b <;> first | (simp [eqC] at h; subst h; rfl) | (simp [eqC] at h)
  | .str _, b, h => by cases b <;> first | (simp [eqC] at h; subst h; rfl) | (simp [eqC] at h)
  | .ty _, b, h => by cases b <;> first | (simp [eqC] at h; subst h; rfl) | (simp [eqC] at h)
  | .tup xs, b, h => by
    cases b <;> first | (simp [eqC] at h; done) | skip
    rename_i ys
    have e : xs = ys := eqCs_eq (by simpa [eqC] using h)
    rw [e]
  | .lst _, b, h => by simp [eqC] at h
  | .dct _, b, h => by simp [eqC] at h
  | .scr _, b, h => by simp [eqC] at h
  | .ref _, b, h => by simp [eqC] at h
theorem eqCs_eq : ∀ {a b : List D}, eqCs a b = true → a = b
  | [], b, h => by cases b <;> first | rfl | (simp [eqCs] at h)
  | x :: xs, b, h => by
    cases b with
    | nil => simp [eqCs] at h
    | cons y ys =>
      rw [eqCs, Bool.and_eq_true] at h
      rw [eqC_eq h.1, eqCs_eq h.2]
end
/-- where one stands: the names by slot, the scope's names, a comprehension's own scope -/
structure Sc where
  N : List Str
  names : List (Str × NameKind)
  blk : Option (List (Str × NameKind))
/-- what the module's top has: defs that may be called (with the defaults that fill up), constants, built-in names that are still such; classes' methods and fields -/
structure Tb where
  cals : List (String × List D)
  gls : List (String × D)
  blts : List String
  fls : List String
  mts : List String
  mks : List String
  xcs : List (String × Option String)
  hds : List String
def visB (c : Sc) (x : Str) : Bool := match c.names.lookup x with
  | some .local => true
  | some .cell => true
  | some .free => true
  | _ => false
def glB (c : Sc) (x : Str) : Bool := (c.names.lookup x == some .globalImplicit) && !(x == ("__debug__" : Str)) && !(x == ("__name__" : Str))
def slotB (c : Sc) (i : Nat) (x : Str) : Bool := (c.N[i]? == some x) && visB c x && !(x == ("__debug__" : Str)) && !(x == ("__classdict__" : Str))
def storeB (c : Sc) (i : Nat) (x : Str) : Bool := (c.N[i]? == some x) && (match c.names.lookup x with
  | some .local => true
  | some .cell => (match c.blk with | none => true | some l => l.lookup x == some .cell)
  | _ => false)
def baseOk : Expr → Bool
  | .Call (.Name _ _) [] [] _ => false
  | _ => true
def plainIxB : Expr → Bool
  | .Slice _ _ _ _ => false
  | _ => true
def noSet : Expr → Bool
  | .Set _ _ _ => false
  | _ => true
def conB : D → Const → Bool
  | .non, .none => true
  | .bl a, .bool b => a == b
  | .int a, .int b => a == b
  | .str a, .str b => tx a == b
  | _, _ => false
def keysB : List DK → List (Option Expr) → Bool
  | [], [] => true
  | .inl i :: ks, some (.Constant (.int j) _ _) :: es => i == j && keysB ks es
  | .inr i :: ks, some (.Constant (.str j) _ _) :: es => tx i == j && keysB ks es
  | _, _ => false
def BF.name : BF → String
  | .len => "len" | .int => "int" | .min => "min" | .max => "max" | .abs => "abs" | .all => "all" | .sum => "sum" | .list => "list" | .tuple => "tuple" | .str => "str" | .dict => "dict" | .sorted => "sorted"
def BF.done : BF → Bool
  | .sorted => false
  | _ => true
def MF.name : MF → String
  | .append => "append" | .pop => "pop" | .get => "get" | .join => "join" | .update => "update" | .extend => "extend" | .find => "find" | .index => "index" | .split => "split" | .startswith => "startswith" | .dpop => "pop"
def MF.done : MF → Bool
  | .append => true | .pop => true | .join => true | .get => true | .update => true | .index => true | .extend => true | .split => true | .startswith => true | .dpop => true
  | _ => false
def relN (own around : List (Str × NameKind)) : List (Str × NameKind) := own.map fun (n, k) => if (k == .free && around.lookup n == some .cell) then (n, .cell) else (n, k)
def inner (c : Sc) (scope : Scope) : Sc := ⟨c.N, relN scope.names c.names, some scope.names⟩
/-- the names of a target -/
def tgN : List Expr → Option (List Str)
  | [] => some []
  | .Name x _ :: r => (tgN r).map (x :: ·)
  | _ :: _ => none
def tgB (c : Sc) : List Nat → List Expr → Bool
  | [], [] => true
  | i :: is, .Name x _ :: r => storeB c i x && tgB c is r
  | _, _ => false
/-- a target: a name, or a tuple of names -/
def chkT (c : Sc) (tg : List Nat) (tt : Bool) (e : Expr) : Bool :=
  if tt then (match e with
    | .Tuple es _ _ => tgB c tg es
    | _ => false)
  else tgB c tg [e]
def tgL (tt : Bool) (e : Expr) : List Str := if tt then (match e with
    | .Tuple es _ _ => (tgN es).getD []
    | _ => [])
  else (tgN [e]).getD []
mutual
def chkE (T : Tb) (c : Sc) : Xp → Expr → Bool
  | .var i, .Name x _ => slotB c i x
  | .con d, .Constant k _ _ => conB d k
  | .glb x d, .Name y _ => (y == nm x) && glB c y && T.gls.any fun q => q.1 == x && eqC q.2 d
  | .tup es, .Tuple fs _ _ => chkEs T c es fs
  | .lst _ es, .List fs _ => chkEs T c es fs
  | .dic _ ks es, .Dict keys vals _ => keysB ks keys && chkEs T c es vals && decide (keys.length = vals.length ∧ keys.length ≤ 15)
  | .bin _ op a b, .BinOp x op' y _ => op == op' && chkE T c a x && chkE T c b y
  | .neg a, .UnaryOp .USub x _ => chkE T c a x
  | .cmp op a b, .Compare x [op'] [y] _ => op == op' && noSet y && chkE T c a x && chkE T c b y
  | .chn op1 op2 a b d, .Compare x [o1, o2] [y, z] _ => op1 == o1 && op2 == o2 && chkE T c a x && chkE T c b y && chkE T c d z && noSet y && noSet z
  | .and es, .BoolOp .And fs _ => chkEs T c es fs
  | .or es, .BoolOp .Or fs _ => chkEs T c es fs
  | .not a, .UnaryOp .Not x _ => chkE T c a x
  | .ite q a b, .IfExp x y z _ => chkE T c q x && chkE T c a y && chkE T c b z
  | .idx a b, .Subscript x y _ => plainIxB y && chkE T c a x && chkE T c b y
  | .slc _ a lo hi, .Subscript x (.Slice l h none _) _ => chkE T c a x && (match l with
      | none => lo.isNop
      | some e => !lo.isNop && chkE T c lo e) && (match h with
      | none => hi.isNop
      | some e => !hi.isNop && chkE T c hi e)
  | .call f dfl es, .Call (.Name x _) args [] _ => (x == nm f) && glB c x && chkEs T c es args && T.cals.any fun q => q.1 == f && eqCs q.2 dfl
  | .blt f _ es, .Call (.Name x _) args [] _ => (x == nm f.name) && glB c x && !args.isEmpty && chkEs T c es args && f.done && T.blts.contains f.name
  | .isi a ts, .Call (.Name x _) [e, t] [] _ => (x == nm "isinstance") && glB c x && T.blts.contains "isinstance" && chkE T c a e && (match ts, t with
      | [u], .Name y _ => (y == nm u) && glB c y && tgNames.contains u && T.blts.contains u
      | [u, w], .Tuple [.Name y _, .Name z _] _ _ => (y == nm u) && glB c y && tgNames.contains u && T.blts.contains u && (z == nm w) && glB c z && tgNames.contains w && T.blts.contains w
      | _, _ => false)
  | .mtd f o es, .Call (.Attribute x n apos) args [] pos => f.done && (n == nm f.name) && baseOk x && (apos.endLine == pos.line) && decide (args.length < 29) && chkE T c o x && chkEs T c es args
  | .fld o f, .Attribute x a _ => (a == nm f) && baseOk x && T.fls.contains f && chkE T c o x
  | .umt f o es, .Call (.Attribute x n apos) args [] pos => (n == nm f) && baseOk x && (apos.endLine == pos.line) && decide (args.length < 29) && T.mts.contains f && chkE T c o x && chkEs T c es args
  | .mk C es, .Call (.Name x _) args [] _ => (x == nm C) && glB c x && T.mks.contains C && chkEs T c es args
  | .dc _ tg tt it k v, .DictComp ke ve [⟨et, ei, [], 0⟩] scope _ => chkI T c it ei tt && noSet ei && blkC c.N ⟨.function, c.names, false, false, []⟩ scope ((tgL tt et).zip tg) && chkT (inner c scope) tg tt et && decide ((tgL tt et).length = tg.length) && chkE T (inner c scope) k ke && chkE T (inner c scope) v ve
  | .lc _ tg tt it elt cnd, .ListComp e [⟨et, ei, ifs, 0⟩] scope _ => chkI T c it ei tt && noSet ei && blkC c.N ⟨.function, c.names, false, false, []⟩ scope ((tgL tt et).zip tg) && chkT (inner c scope) tg tt et && decide ((tgL tt et).length = tg.length) && chkE T (inner c scope) elt e && (match ifs with
      | [] => (match cnd with | .con (.bl true) => true | _ => false)
      | [q] => chkE T (inner c scope) cnd q
      | _ => false)
  | _, _ => false
/-- what a loop walks -/
def chkI (T : Tb) (c : Sc) : Xp → Expr → Bool → Bool
  | .seq a, e, _ => chkE T c a e
  | .rng1 b, .Call (.Name x _) [e] [] _, _ => (x == nm "range") && glB c x && T.blts.contains "range" && chkE T c b e
  | .rng a b, .Call (.Name x _) [d, e] [] _, _ => (x == nm "range") && glB c x && T.blts.contains "range" && chkE T c a d && chkE T c b e
  | .enu a, .Call (.Name x _) [e] [] _, tt => tt && (x == nm "enumerate") && glB c x && T.blts.contains "enumerate" && chkE T c a e
  | _, _, _ => false
def chkEs (T : Tb) (c : Sc) : Xps → List Expr → Bool
  | .nil, [] => true
  | .cons e es, f :: fs => chkE T c e f && chkEs T c es fs
  | _, _ => false
end
end Mw
/-! Mw, part G: what the checker lets by does what the evaluator tells (expressions). -/
namespace Mw
open PySem PySem.Spec PyProof.Rows L2

/-- a def that may be called: its promise is the evaluator's answer -/
def CalOk (g : Cfg) (ca : String → Option Addr) (CX : CXT) (X : Cx) (f : String) (dfl : List D) : Prop :=
  ∃ (k : Nat) (fa : Addr) (fd : FuncData) (ps : List Str) (sp : Sp) (dvs : List V) (ds : List Value),
    FnOk X.prog X.w X.K X.mg X.base CX k fa fd ps sp ∧ Room k X.A ∧ X.mg (nm f) = some (.ref fa) ∧ PySem.W.keepIn X.K (.ref fa) = true ∧ Binds X.K fd ps ds ∧ Vals dvs ds ∧
    (∀ W, Vis X.K W dfl dvs) ∧ ∀ vs H Q E, (∃ W S xs, Vis X.K W xs vs ∧ Rl X.K ca W S H ∧ Po X.K ca W E (Vi X.K) Q (g.cf f xs S)) → sp vs H Q E
/-- a method's def -/
def MetOk (g : Cfg) (ca : String → Option Addr) (CX : CXT) (X : Cx) (q : String) (h : Addr) : Prop :=
  ∃ (k : Nat) (fd : FuncData) (ps : List Str) (sp : Sp), FnOk X.prog X.w X.K X.mg X.base CX k h fd ps sp ∧ Room k X.A ∧ Binds X.K fd ps [] ∧
    ∀ vs H Q E, (∃ W S xs, Vis X.K W xs vs ∧ Rl X.K ca W S H ∧ Po X.K ca W E (Vi X.K) Q (g.cf q xs S)) → sp vs H Q E
/-- a class that may be made -/
def MkOk (g : Cfg) (ca : String → Option Addr) (CX : CXT) (X : Cx) (C : String) : Prop :=
  ∃ (A h : Addr) (k : Nat) (fd : FuncData) (ps : List Str) (sp : Sp) (cf : CF) (q : String), ca C = some A ∧ X.mg (nm C) = some (.ref A) ∧ L2.Mk X.K A h ∧ FnOk X.prog X.w X.K X.mg X.base CX k h fd ps sp ∧ Room (k + 1) X.A ∧ Binds X.K fd ps [] ∧
    (∀ xs S, g.nw C xs S = mkR cf q C xs S) ∧ ∀ vs H Q E, (∃ W S xs, Vis X.K W xs vs ∧ Rl X.K ca W S H ∧ Po X.K ca W E (Vi X.K) Q (cf q xs S)) → sp vs H Q E
structure Ctx (T : Tb) (g : Cfg) (ca : String → Option Addr) (CX : CXT) (E : L2.St → XK) (c : Sc) (X : Cx) : Prop where
  N : X.N = c.N
  nm : X.env.scope.names = c.names
  kd : X.env.scope.kind = .function
  calm : X.calm = true
  nd : c.N.Nodup
  fn : match c.blk with
    | none => ∀ x, X.fn x = true
    | some l => ∀ x, X.fn x = (l.lookup x == some .cell)
  un : X.A.units + 64 < cLine
  cal : ∀ q ∈ T.cals, CalOk g ca CX X q.1 q.2
  gls : ∀ q ∈ T.gls, ∃ u v, X.mg (Mw.nm q.1) = some u ∧ RelV v u ∧ ∀ W, Vi X.K W q.2 v
  blt : ∀ x ∈ T.blts, X.mg (Mw.nm x) = none
  cls : ∀ C A, ca C = some A → Cls X.K A ∧ (∀ f ∈ T.fls, NoAttr X.K A (Mw.nm f)) ∧ ∀ m ∈ T.mts, ∀ q, g.mt C m = some q → ∃ h, Meth X.K A (Mw.nm m) h ∧ MetOk g ca CX X q h
  mks : ∀ C ∈ T.mks, MkOk g ca CX X C
  pas : ∀ σ, PassesAt CX X σ (E σ)
  pas0 : ∀ (X' : Cx) σ, X'.prog = X.prog → X'.w = X.w → PassesAt CX X' σ E0
section
variable {T : Tb} {g : Cfg} {ca : String → Option Addr} {CX : CXT} {E : L2.St → XK} {c : Sc} {X : Cx}
theorem Ctx.gl (C : Ctx T g ca CX E c X) {x : Str} (h : glB c x = true) : Gl X x ∧ (x == ("__debug__" : Str)) = false ∧ x ≠ "__name__" := by
  unfold glB at h
  simp only [Bool.and_eq_true, Bool.not_eq_true'] at h
  obtain ⟨⟨h1, h2⟩, h3⟩ := h
  refine ⟨?_, h2, fun e => by rw [e] at h3; simp at h3⟩
  show X.env.scope.names.lookup x = some .globalImplicit
  rw [C.nm]
  exact eq_of_beq h1
theorem Ctx.vis (C : Ctx T g ca CX E c X) {x : Str} (h : visB c x = true) : L2.Vis X.env.scope x := by
  unfold visB at h
  unfold L2.Vis
  rw [C.nm]
  split at h
  · exact .inl (by assumption)
  · exact .inr (.inl (by assumption))
  · exact .inr (.inr (by assumption))
  · cases h
theorem Ctx.store (C : Ctx T g ca CX E c X) {i : Nat} {x : Str} (h : storeB c i x = true) : X.N[i]? = some x ∧ Loc X.env.scope x ∧ (X.fn x = true ∨ X.env.scope.names.lookup x = some .local) := by
  unfold storeB at h
  rw [Bool.and_eq_true] at h
  obtain ⟨h1, h2⟩ := h
  refine ⟨by rw [C.N]; exact eq_of_beq h1, ?_, ?_⟩
  · unfold L2.Loc
    rw [C.nm]
    split at h2
    · exact .inl (by assumption)
    · exact .inr (by assumption)
    · cases h2
  · rw [C.nm]
    split at h2
    · exact .inr (by assumption)
    · have q := C.fn
      split at h2
      · rename_i e
        rw [e] at q
        exact .inl (q x)
      · rename_i l e
        rw [e] at q
        exact .inl ((q x).trans h2)
    · cases h2
theorem Ctx.blk (C : Ctx T g ca CX E c X) (scope : Scope) (hk : scope.kind = .function) (s : Shared) (H : Hp) (C' : Addr) (cl : List (Str × Addr)) (fp : List Addr) :
    Ctx T g ca CX (fun _ => E0) (inner c scope) (X.blk s H scope (compEnvC scope cl C' X.env) fp) := by
  refine ⟨C.N, ?_, hk, C.calm, C.nd, fun x => rfl, C.un, C.cal, C.gls, C.blt, C.cls, C.mks, fun σ => C.pas0 _ σ rfl rfl, C.pas0⟩
  show (relabel scope X.env).names = relN scope.names c.names
  unfold relabel relN
  refine List.map_congr_left fun y _ => ?_
  obtain ⟨n, k⟩ := y
  have e1 : X.env.kindOf n = c.names.lookup n := by show X.env.scope.names.lookup n = _; rw [C.nm]
  simp only [C.kd, e1]
  by_cases hk : k = .free <;> simp [hk]
end
theorem base_ok {o : Expr} (h : baseOk o = true) (a : Str) (env : Env) (wh : Sem Value) : attributeBase o a env wh = wh := by
  cases o <;> first | rfl | skip
  rename_i f args kws pos
  cases f <;> first | rfl | skip
  cases args <;> cases kws <;> first | rfl | (simp [baseOk] at h)
theorem plain_ok {b : Expr} (h : plainIxB b = true) : PlainIx b := by
  intro o i
  cases b <;> first | rfl | (simp [plainIxB] at h)
theorem noset_ok {b : Expr} (h : noSet b = true) (op : CmpOp) : behindInMarks op b = false := by
  cases b <;> first | rfl | (simp [noSet] at h)
theorem noset_for {b : Expr} (h : noSet b = true) (env : Env) (x : Value) : foldedSetIterable b env x = pure x := by
  cases b <;> first | rfl | (simp [noSet] at h)
theorem noStar {T : Tb} {c : Sc} {p : Xp} {e : Expr} {pos : Pos} : chkE T c p (.Starred e pos) = false := by
  cases p <;> rfl
theorem star_cons {T : Tb} {c : Sc} {p : Xp} {e : Expr} {es : List Expr} {env : Env} (h : chkE T c p e = true) : starEach (e :: es) env = (false, eval e env) :: starEach es env := by
  cases e <;> first | rfl | (rw [noStar] at h; cases h)
theorem star_all {T : Tb} {c : Sc} {env : Env} {pos : Pos} : ∀ {ps : Xps} {es : List Expr}, chkEs T c ps es = true → (backTo pos (starEach es env)).any (·.1) = false ∧ (backTo pos (starEach es env)).all (fun x => !x.1) = true
  | .nil, [], _ => ⟨rfl, rfl⟩
  | .nil, _ :: _, h => by simp [chkEs] at h
  | .cons _ _, [], h => by simp [chkEs] at h
  | .cons p ps, e :: es, h => by
    rw [chkEs, Bool.and_eq_true] at h
    obtain ⟨h1, h2⟩ := star_all (env := env) (pos := pos) h.2
    rw [star_cons h.1]
    unfold backTo at h1 h2 ⊢
    rw [List.map_cons, List.any_cons, List.all_cons, h1, h2]
    exact ⟨rfl, rfl⟩

section
variable {T : Tb} {g : Cfg} {ca : String → Option Addr} {CX : CXT} {E : L2.St → XK} {c : Sc} {X : Cx}
/-- what is known of an iterator over the data ds -/
def ItR (K : PySem.W.Frag) (ca : String → Option Addr) (W : Wd) (ds : List D) (J : It) : Prop :=
  ∀ (W2 : Wd) (S : Store) (H : Hp) (i : Nat), W.le0 W2 → Rl K ca W2 S H → (i < ds.length → J.go i H) ∧ (ds.length ≤ i → J.stop i H) ∧
    ∀ x H', i < ds.length → J.yld i H x H' → ∃ W3 d, W2.le W3 ∧ Rl K ca W3 S H' ∧ ds[i]? = some d ∧ Vi K W3 d x
theorem ItR.mono {K : PySem.W.Frag} {W W' : Wd} {ds : List D} {J : It} (h : ItR K ca W ds J) (q : W.le0 W') : ItR K ca W' ds J := fun W2 S H i e => h W2 S H i (q.trans e)
def evI (g : Cfg) (p : Xp) (l : LEnv) (S : Store) : R (List D) := (ev g p l S).bind itemsR
def Ti (K : PySem.W.Frag) (ca : String → Option Addr) (E : L2.St → XK) (f : LEnv → Store → R (List D)) : TI := fun σ H R => ∃ W l S, Sl K W l σ ∧ Rl K ca W S H ∧ Po K ca W (E σ) (fun W ds J => ItR K ca W ds J) R (f l S)
theorem PI.imp {tg e : Expr} {t t' : TI} (h : PI X tg e t) (k : ∀ σ H R, t' σ H R → t σ H R) : PI X tg e t' := ⟨fun pins s σ H Q I w => h.run pins s σ H Q I (k _ _ _ w)⟩
/-- a list, a tuple, a text that is walked -/
def IterOk (K : PySem.W.Frag) (x : V) (H : Hp) (R : It → Hp → Prop) : Prop :=
  (∃ a xs, x = .ref a ∧ SqL K H a xs ∧ R (Itl K a) H) ∨ (∃ a xs, x = .ref a ∧ SqT K H a xs ∧ R (Itt K a) H) ∨ ∃ z, x = .str z ∧ R (Its z) H
theorem pi_any {tg l : Expr} {tl : TE} (hl : PE X l tl) : PI X tg l (fun σ H R => tl σ H fun x H1 => IterOk X.K x H1 R) := by
  refine ⟨fun pins s σ H R I h => ?_⟩
  refine thn (hl.run pins s σ H _ I h) fun v s1 ⟨x, H1, I1, r1, q1⟩ => ?_
  rcases q1 with ⟨a, xs, e, hq, q⟩ | ⟨a, xs, e, hq, q⟩ | ⟨z, e, q⟩
  · subst e
    cases r1
    obtain ⟨its, rv, p, hz⟩ := I1.list hq
    refine wpAny_pyIter_list p.isList ?_
    refine ⟨s1.heap.objs.size, [s1.heap.objs.size], _, _, H1, rfl, I1.kept (t' := s1.toks) fun b o e => Heap.get?_push_of_some _ e, turn_list a _, ⟨_, Heap.get?_push_size _ rfl, rfl, rfl⟩, fun b hb => ?_, q⟩
    have e : b = s1.heap.objs.size := by simpa using hb
    subst e
    exact I1.fpOk (Nat.le_refl _) (I1.hok.fresh (Nat.le_refl _))
  · subst e
    cases r1
    obtain ⟨its, rv, p, hz⟩ := I1.tuple hq
    refine wpAny_pyIter_tuple (show s1.heap.IsTuple a its.toArray from p) ?_
    refine ⟨s1.heap.objs.size, [s1.heap.objs.size], _, _, H1, rfl, I1.kept (t' := s1.toks) fun b o e => Heap.get?_push_of_some _ e, turn_tuple a _, ⟨_, Heap.get?_push_size _ rfl, rfl, rfl⟩, fun b hb => ?_, q⟩
    have e : b = s1.heap.objs.size := by simpa using hb
    subst e
    exact I1.fpOk (Nat.le_refl _) (I1.hok.fresh (Nat.le_refl _))
  · subst e
    obtain ⟨t, rfl⟩ := r1
    cases ha : z.cps.all (· < 128)
    · exact wpAny_pyIter_wide ha (pi_one (tk := s1.toks) I1 _ (turn_str _ z t "str_iterator" (.inr rfl)) ⟨_, Heap.get?_push_size _ rfl, rfl, rfl⟩ q)
    · exact wpAny_pyIter_ascii ha (pi_one (tk := s1.toks) I1 _ (turn_str _ z t "str_ascii_iterator" (.inl rfl)) ⟨_, Heap.get?_push_size _ rfl, rfl, rfl⟩ q)
theorem itr_list {K : PySem.W.Frag} {W : Wd} {a : Addr} {ds : List D} {vs : List V} (hs : SqL K W.fz a vs) (h : Mw.Vis K W ds vs) : ItR K ca W ds (Itl K a) := by
  intro W2 S H i e r
  have q : SqL K H a vs := r.fz.seq (e.fz.seq hs)
  refine ⟨fun hi => ?_, fun hi => ⟨vs, q, by rw [← h.length]; exact hi⟩, fun x H' hi y => ?_⟩
  · have hi' : i < vs.length := by rw [← h.length]; exact hi
    exact ⟨vs, vs[i], q, List.getElem?_eq_getElem hi'⟩
  · obtain ⟨rfl, y⟩ := y
    have y' := y vs q
    obtain ⟨v, h1, h2⟩ := (h.mono e).get (List.getElem?_eq_getElem hi)
    rw [y'] at h1
    cases h1
    exact ⟨W2, ds[i], .refl _, r, List.getElem?_eq_getElem hi, h2⟩
theorem itr_tup {K : PySem.W.Frag} {W : Wd} {a : Addr} {ds : List D} {vs : List V} (hs : SqT K W.fz a vs) (h : Mw.Vis K W ds vs) : ItR K ca W ds (Itt K a) := by
  intro W2 S H i e r
  have q : SqT K H a vs := sqt_mono r.fz (sqt_mono e.fz hs)
  refine ⟨fun hi => ?_, fun hi => ⟨vs, q, by rw [← h.length]; exact hi⟩, fun x H' hi y => ?_⟩
  · have hi' : i < vs.length := by rw [← h.length]; exact hi
    exact ⟨vs, vs[i], q, List.getElem?_eq_getElem hi'⟩
  · obtain ⟨rfl, y⟩ := y
    have y' := y vs q
    obtain ⟨v, h1, h2⟩ := (h.mono e).get (List.getElem?_eq_getElem hi)
    rw [y'] at h1
    cases h1
    exact ⟨W2, ds[i], .refl _, r, List.getElem?_eq_getElem hi, h2⟩

theorem itr_str {K : PySem.W.Frag} {W : Wd} (z : List Nat) : ItR K ca W (z.map fun c => D.str [c]) (Its (tx z)) := by
  intro W2 S H i e r
  refine ⟨fun hi => ?_, fun hi => ?_, fun x H' hi y => ?_⟩
  · show i < (tx z).cps.size
    simpa [tx] using hi
  · show (tx z).cps.size ≤ i
    simpa [tx] using hi
  · obtain ⟨rfl, q, h1, rfl⟩ := y
    have h2 : z[i]? = some q := by simpa [tx] using h1
    refine ⟨W2, .str [q], .refl _, r, by rw [List.getElem?_map, h2]; rfl, .str [q]⟩
theorem itr_rng {K : PySem.W.Frag} {W : Wd} (a b : Int) : ItR K ca W (rngL a b) (Itr a (b - a).toNat) := by
  intro W2 S H i e r
  have hl : (rngL a b).length = (b - a).toNat := by simp [rngL]
  refine ⟨fun hi => by rw [hl] at hi; exact hi, fun hi => by rw [hl] at hi; exact hi, fun x H' hi y => ?_⟩
  obtain ⟨rfl, rfl⟩ := y
  rw [hl] at hi
  refine ⟨W2, .int (a + i), .refl _, r, ?_, .int _⟩
  unfold rngL
  rw [List.getElem?_map, List.getElem?_range hi]
  rfl
theorem iter_of {W : Wd} {S : Store} {H : Hp} {E' : XK} {R : It → Hp → Prop} {d : D} {v : V} (r : Rl X.K ca W S H) (h : Vi X.K W d v) (p : Po X.K ca W E' (fun W ds J => ItR X.K ca W ds J) R (itemsR d S)) : IterOk X.K v H R := by
  cases h with
  | tup a b => exact .inr (.inl ⟨_, _, rfl, sqt_mono r.fz a, p W _ H (.refl W) r (itr_tup a b)⟩)
  | lst a b => exact .inl ⟨_, _, rfl, .of (r.fz _ _ a), p W _ H (.refl W) r (itr_list (.of a) b)⟩
  | scr a => exact .inl ⟨_, _, rfl, r.fz.seq a, p W _ H (.refl W) r (itr_list a Vis.ints)⟩
  | str z => exact .inr (.inr ⟨_, rfl, p W _ H (.refl W) r (itr_str z)⟩)
  | _ => exact p.elim

/-! ### tests -/
def evB (g : Cfg) (p : Xp) (l : LEnv) (S : Store) : R Bool := (ev g p l S).bind asB
theorem tt_of {p : Xp} {e : Expr} (h : PE X e (Te X.K ca E (ev g p))) (he : ∀ whole, isTrue e X.env whole = (do let v ← whole; standAt e.pos; holding [v] (truthy v))) : PT X e (Tt X.K ca E (evB g p)) := by
  refine PT.imp (pt_val h he) fun σ H Q ⟨W, l, S, s, r, q⟩ => ⟨W, l, S, s, r, q.bind fun d S1 W' v H' le r' hv q' => ?_⟩
  cases hv with
  | bl b => exact ⟨b, rfl, q' W' b H' (.refl _) r' rfl⟩
  | _ => exact q'.elim
/-! ### expressions -/
section
variable {a b d : Xp} {x y z : Expr} {pos : Pos}
theorem s_var (C : Ctx T g ca CX E c X) {i : Nat} {x : Str} (h : slotB c i x = true) : PE X (.Name x pos) (Te X.K ca E (ev g (.var i))) := by
  unfold slotB at h
  simp only [Bool.and_eq_true, Bool.not_eq_true'] at h
  obtain ⟨⟨⟨h1, h2⟩, h3⟩, h4⟩ := h
  refine PE.imp (pe_var (i := i) (by rw [C.N]; exact eq_of_beq h1) (C.vis h2) h3 h4) fun σ H Q ⟨W, l, S, s, r, q⟩ => ?_
  rw [ev] at q
  split at q
  · rename_i d hd
    obtain ⟨v, h5, h6⟩ := s.2 _ _ hd
    exact ⟨v, h5, q W v H (.refl _) r h6⟩
  · exact q.elim
theorem s_con {d : D} {k : Const} {j : Nat} (h : conB d k = true) : PE X (.Constant k j pos) (Te X.K ca E (ev g (.con d))) := by
  have go : ∀ {v : V}, (∀ W, Vi X.K W d v) → PE X (.Constant k j pos) (tC v) → PE X (.Constant k j pos) (Te X.K ca E (ev g (.con d))) := fun {v} hv h => PE.imp h fun σ H Q ⟨W, l, S, s, r, q⟩ => by
    rw [ev] at q
    exact q W v H (.refl _) r (hv W)
  cases d <;> cases k <;> first
    | exact Bool.noConfusion (show false = true from h)
    | skip
  · exact go (fun W => .non) pe_non
  · exact go (fun W => .bl _) (by have e := eq_of_beq (show (_ == _) = true from h); subst e; exact pe_bl)
  · exact go (fun W => .int _) (by have e := eq_of_beq (show (_ == _) = true from h); subst e; exact pe_int)
  · exact go (fun W => .str _) (by have e := eq_of_beq (show (_ == _) = true from h); subst e; exact pe_str)
theorem s_glb (C : Ctx T g ca CX E c X) {x : String} {d : D} {y : Str} (h1 : (y == nm x) = true) (h2 : glB c y = true) (h3 : (T.gls.any fun q => q.1 == x && eqC q.2 d) = true) : PE X (.Name y pos) (Te X.K ca E (ev g (.glb x d))) := by
  have e := eq_of_beq h1
  subst e
  obtain ⟨q, hq, h4⟩ := List.any_eq_true.mp h3
  rw [Bool.and_eq_true] at h4
  have e1 := eq_of_beq h4.1
  have e2 := eqC_eq h4.2
  subst e1 e2
  obtain ⟨u, v, k1, k2, k3⟩ := C.gls q hq
  obtain ⟨g1, g2, _⟩ := C.gl h2
  refine PE.imp (pe_glob g1 k1 k2 g2) fun σ H Q ⟨W, l, S, s, r, p⟩ => ?_
  rw [ev] at p
  exact p W v H (.refl _) r (k3 W)
theorem s_tup {es : Xps} {fs : List Expr} {k : Nat} (h : PA X fs (Ta X.K ca E (evs g es))) : PE X (.Tuple fs k pos) (Te X.K ca E (ev g (.tup es))) := by
  refine PE.imp (pe_tup h) fun σ H Q ⟨W, l, S, s, r, q⟩ => ⟨W, l, S, s, r, ?_⟩
  rw [ev] at q
  refine q.bind fun ds S1 W' vs H' le r' hv q' => ?_
  split at q'
  · rename_i hz
    have hz' := of_decide_eq_true hz
    refine ⟨by rw [← hv.length]; exact hz', fun p hp => ?_⟩
    obtain ⟨le2, r2⟩ := r'.freeze hp (.tup vs)
    exact q' _ _ _ le2 r2 (.tup (.of upd_same) (hv.mono le2.tole0))
  · exact q'.elim
theorem s_lst {m : Bool} {es : Xps} {fs : List Expr} (h : PA X fs (Ta X.K ca E (evs g es))) : PE X (.List fs pos) (Te X.K ca E (ev g (.lst m es))) := by
  refine PE.imp (pe_lst h) fun σ H Q ⟨W, l, S, s, r, q⟩ => ⟨W, l, S, s, r, ?_⟩
  rw [ev] at q
  refine q.bind fun ds S1 W' vs H' le r' hv q' => ?_
  split at q'
  · rename_i hz
    have hz' := of_decide_eq_true hz
    exact ⟨by rw [← hv.length]; exact hz', Po.mkL r' hv q'⟩
  · exact q'.elim
theorem s_bin {m : Bool} {op : Operator} (h1 : PE X x (Te X.K ca E (ev g a))) (h2 : PE X y (Te X.K ca E (ev g b))) : PE X (.BinOp x op y pos) (Te X.K ca E (ev g (.bin m op a b))) := by
  refine PE.imp (pe_op (op_binD (ca := ca) m op) h1 h2) fun σ H Q ⟨W, l, S, s, r, q⟩ => ⟨W, l, S, s, r, ?_⟩
  rw [ev] at q
  refine q.bind fun d S1 W1 v H1 le1 r1 hv q1 => ⟨W1, l, S1, s.mono le1.tole0, r1, q1.bind fun e S2 W2 u H2 le2 r2 hu q2 => ?_⟩
  exact ⟨W2, S2, d, e, E σ, hv.mono le2.tole0, hu, r2, q2⟩
theorem s_neg (h1 : PE X x (Te X.K ca E (ev g a))) : PE X (.UnaryOp .USub x pos) (Te X.K ca E (ev g (.neg a))) := by
  refine PE.imp (pe_un un_neg h1) fun σ H Q ⟨W, l, S, s, r, q⟩ => ⟨W, l, S, s, r, ?_⟩
  rw [ev] at q
  refine q.bind fun d S1 W1 v H1 le1 r1 hv q1 => ?_
  cases hv with
  | int i => exact ⟨i, rfl, q1 _ _ _ (.refl _) r1 (.int _)⟩
  | _ => exact q1.elim
theorem Ctx.un1 (C : Ctx T g ca CX E c X) : X.A.units + 1 < cLine := by have := C.un; omega
theorem s_cmp (C : Ctx T g ca CX E c X) {op : CmpOp} (hn : noSet y = true) (h1 : PE X x (Te X.K ca E (ev g a))) (h2 : PE X y (Te X.K ca E (ev g b))) : PE X (.Compare x [op] [y] pos) (Te X.K ca E (ev g (.cmp op a b))) := by
  refine PE.imp (pe_cmpR (op_cmpD (ca := ca) C.un C.un1 op) h1 h2 (noset_ok hn op)) fun σ H Q ⟨W, l, S, s, r, q⟩ => ⟨W, l, S, s, r, ?_⟩
  rw [ev] at q
  refine q.bind fun d S1 W1 v H1 le1 r1 hv q1 => ⟨W1, l, S1, s.mono le1.tole0, r1, q1.bind fun e S2 W2 u H2 le2 r2 hu q2 => ?_⟩
  exact ⟨W2, S2, d, e, E σ, hv.mono le2.tole0, hu, r2, q2⟩
theorem bind_assoc' {α β γ : Type} (r : R α) (f : α → Store → R β) (h : β → Store → R γ) : (r.bind f).bind h = r.bind fun a S => (f a S).bind h := by cases r <;> rfl
theorem po_test {K : PySem.W.Frag} {W : Wd} {E' : XK} {Q : Bool → Hp → Prop} {r : R D} (p : Po K ca W E' (fun _ (a b : Bool) => b = a) Q (r.bind asB)) : Po K ca W E' (Vi K) (fun x H' => ∃ k, x = .bl k ∧ Q k H') r := by
  refine p.bind fun d S1 W' v H' le r' hv q' => ?_
  cases hv with
  | bl b => exact ⟨b, rfl, q' W' b H' (.refl _) r' rfl⟩
  | _ => exact q'.elim
theorem t_cmp (C : Ctx T g ca CX E c X) {op : CmpOp} (hn : noSet y = true) (h1 : PE X x (Te X.K ca E (ev g a))) (h2 : PE X y (Te X.K ca E (ev g b))) : PT X (.Compare x [op] [y] pos) (Tt X.K ca E (evB g (.cmp op a b))) := by
  refine PT.imp (pt_cmpR (op_cmpD (ca := ca) C.un C.un1 op) h1 h2 (noset_ok hn op)) fun σ H Q ⟨W, l, S, s, r, q⟩ => ⟨W, l, S, s, r, ?_⟩
  unfold evB at q
  rw [ev, bind_assoc'] at q
  refine q.bind fun d S1 W1 v H1 le1 r1 hv q1 => ⟨W1, l, S1, s.mono le1.tole0, r1, ?_⟩
  rw [bind_assoc'] at q1
  refine q1.bind fun e S2 W2 u H2 le2 r2 hu q2 => ?_
  exact ⟨W2, S2, d, e, E σ, hv.mono le2.tole0, hu, r2, po_test q2⟩
theorem last2 (hn : noSet y = true) (hn' : noSet z = true) {op op' : CmpOp} : lastMarks [op, op'] [y, z] = false := by
  show lastMarks [op'] [z] = false
  exact noset_ok hn' op'
theorem chn_core {K : PySem.W.Frag} {op op' : CmpOp} {W : Wd} {l : LEnv} {S : Store} {σ : L2.St} {H : Hp} {Q : VK} (s : Sl K W l σ) (r : Rl K ca W S H) (q : Po K ca W (E σ) (Vi K) Q (ev g (.chn op op' a b d) l S)) :
    tChain (rD K ca (cmpR op)) (rD K ca (cmpR op')) (Te K ca E (ev g a)) (Te K ca E (ev g b)) (Te K ca E (ev g d)) σ H Q := by
  refine ⟨W, l, S, s, r, ?_⟩
  rw [ev] at q
  refine q.bind fun x S1 W1 v H1 le1 r1 hv q1 => ⟨W1, l, S1, s.mono le1.tole0, r1, q1.bind fun y S2 W2 u H2 le2 r2 hu q2 => ?_⟩
  have s2 := s.mono (le1.trans le2).tole0
  refine ⟨W2, S2, x, y, E σ, hv.mono le2.tole0, hu, r2, ?_⟩
  rw [bind_assoc'] at q2
  refine q2.bind fun z S3 W3 w H3 le3 r3 hw q3 => ?_
  cases hw with
  | bl k =>
    have q3' : Po K ca W3 (E σ) (Vi K) Q (if k then (ev g d l S3).bind fun w S4 => cmpR op' y w S4 else .ok (.bl false) S3) := q3
    refine ⟨k, rfl, ?_⟩
    cases k with
    | true =>
      rw [if_pos rfl] at q3' ⊢
      refine ⟨W3, l, S3, s2.mono le3.tole0, r3, q3'.bind fun w S4 W4 w' H4 le4 r4 hw4 q4 => ?_⟩
      exact ⟨W4, S4, y, w, E σ, (hu.mono le3.tole0).mono le4.tole0, hw4, r4, q4⟩
    | false =>
      rw [if_neg Bool.false_ne_true] at q3' ⊢
      exact q3' W3 _ H3 (.refl _) r3 (.bl _)
  | _ => exact q3.elim
theorem s_chn (C : Ctx T g ca CX E c X) {op op' : CmpOp} (hn : noSet y = true) (hn' : noSet z = true) (h1 : PE X x (Te X.K ca E (ev g a))) (h2 : PE X y (Te X.K ca E (ev g b))) (h3 : PE X z (Te X.K ca E (ev g d))) :
    PE X (.Compare x [op, op'] [y, z] pos) (Te X.K ca E (ev g (.chn op op' a b d))) :=
  PE.imp (pe_chain (op_cmpD (ca := ca) C.un C.un1 op) (op_cmpD (ca := ca) C.un C.un1 op') h1 h2 h3 (hm := last2 hn hn')) fun σ H Q ⟨W, l, S, s, r, q⟩ => chn_core s r q
theorem t_chn (C : Ctx T g ca CX E c X) {op op' : CmpOp} (hn : noSet y = true) (hn' : noSet z = true) (h1 : PE X x (Te X.K ca E (ev g a))) (h2 : PE X y (Te X.K ca E (ev g b))) (h3 : PE X z (Te X.K ca E (ev g d))) :
    PT X (.Compare x [op, op'] [y, z] pos) (Tt X.K ca E (evB g (.chn op op' a b d))) :=
  PT.imp (pt_chain (op_cmpD (ca := ca) C.un C.un1 op) (op_cmpD (ca := ca) C.un C.un1 op') h1 h2 h3 (hm := last2 hn hn')) fun σ H Q ⟨W, l, S, s, r, q⟩ => chn_core s r (po_test q)
theorem s_not (h1 : PE X x (Te X.K ca E (ev g a))) : PE X (.UnaryOp .Not x pos) (Te X.K ca E (ev g (.not a))) := by
  refine PE.imp (pe_not h1) fun σ H Q ⟨W, l, S, s, r, q⟩ => ⟨W, l, S, s, r, ?_⟩
  rw [ev, bind_assoc'] at q
  refine q.bind fun d S1 W1 v H1 le1 r1 hv q1 => ?_
  cases hv with
  | bl i => exact ⟨i, rfl, q1 _ _ _ (.refl _) r1 (.bl _)⟩
  | _ => exact q1.elim
theorem t_not (h1 : PT X x (Tt X.K ca E (evB g a))) : PT X (.UnaryOp .Not x pos) (Tt X.K ca E (evB g (.not a))) := by
  refine PT.imp (pt_not h1) fun σ H Q ⟨W, l, S, s, r, q⟩ => ⟨W, l, S, s, r, ?_⟩
  unfold evB at q
  rw [ev, bind_assoc'] at q
  refine q.bind fun b S1 W1 b' H1 le1 r1 e q1 => ?_
  subst e
  exact q1 W1 _ H1 (.refl _) r1 rfl
theorem s_ite {q1 : Xp} (h1 : PT X x (Tt X.K ca E (evB g q1))) (h2 : PE X y (Te X.K ca E (ev g a))) (h3 : PE X z (Te X.K ca E (ev g b))) : PE X (.IfExp x y z pos) (Te X.K ca E (ev g (.ite q1 a b))) := by
  refine PE.imp (pe_ifExp h1 h2 h3) fun σ H Q ⟨W, l, S, s, r, q⟩ => ⟨W, l, S, s, r, ?_⟩
  rw [ev] at q
  refine q.bind fun k S1 W1 k' H1 le1 r1 e q1 => ?_
  subst e
  cases k' with
  | true => rw [if_pos rfl] at q1 ⊢; exact ⟨W1, l, S1, s.mono le1.tole0, r1, q1⟩
  | false => rw [if_neg Bool.false_ne_true] at q1 ⊢; exact ⟨W1, l, S1, s.mono le1.tole0, r1, q1⟩
theorem s_idx (C : Ctx T g ca CX E c X) (hn : plainIxB y = true) (h1 : PE X x (Te X.K ca E (ev g a))) (h2 : PE X y (Te X.K ca E (ev g b))) : PE X (.Subscript x y pos) (Te X.K ca E (ev g (.idx a b))) := by
  refine PE.imp (pe_ix (ix_D (ca := ca) C.un1) h1 h2 (plain_ok hn)) fun σ H Q ⟨W, l, S, s, r, q⟩ => ⟨W, l, S, s, r, ?_⟩
  rw [ev] at q
  refine q.bind fun d S1 W1 v H1 le1 r1 hv q1 => ⟨W1, l, S1, s.mono le1.tole0, r1, q1.bind fun e S2 W2 u H2 le2 r2 hu q2 => ?_⟩
  exact ⟨W2, S2, d, e, E σ, hv.mono le2.tole0, hu, r2, q2⟩
/-- a part of a slice -/
def To (K : PySem.W.Frag) (ca : String → Option Addr) (E : L2.St → XK) (f : LEnv → Store → R (Option Int)) : TO := fun σ H Q => ∃ W l S, Sl K W l σ ∧ Rl K ca W S H ∧ Po K ca W (E σ) (fun _ (i j : Option Int) => j = i) Q (f l S)
def evO (g : Cfg) (p : Xp) (l : LEnv) (S : Store) : R (Option Int) := if p.isNop then .ok none S else (ev g p l S).bind asI
theorem o_none (h : a.isNop = true) : PO X none (To X.K ca E (evO g a)) := by
  have k : PO X none tNoPart := po_none
  refine ⟨fun pins s σ H Q I ⟨W, l, S, sl, r, q⟩ => k.run pins s σ H Q I ?_⟩
  unfold evO at q
  rw [if_pos h] at q
  exact q W none H (.refl _) r rfl
theorem o_some (h : (!a.isNop) = true) (h1 : PE X x (Te X.K ca E (ev g a))) : PO X (some x) (To X.K ca E (evO g a)) := by
  have k : PO X (some x) (tPart (Te X.K ca E (ev g a))) := po_some h1
  refine ⟨fun pins s σ H Q I ⟨W, l, S, sl, r, q⟩ => k.run pins s σ H Q I ⟨W, l, S, sl, r, ?_⟩⟩
  unfold evO at q
  rw [if_neg (by simpa using h)] at q
  refine q.bind fun d S1 W' v H' le r' hv q' => ?_
  cases hv with
  | int i => exact ⟨i, rfl, q' W' _ H' (.refl _) r' rfl⟩
  | _ => exact q'.elim
theorem s_slc {m : Bool} {lo hi : Xp} {l h : Option Expr} {p2 : Pos} (h1 : PE X x (Te X.K ca E (ev g a))) (h2 : PO X l (To X.K ca E (evO g lo))) (h3 : PO X h (To X.K ca E (evO g hi))) :
    PE X (.Subscript x (.Slice l h none p2) pos) (Te X.K ca E (ev g (.slc m a lo hi))) := by
  refine PE.imp (pe_slice (sl_D (ca := ca) m) h1 h2 h3) fun σ H Q ⟨W, l, S, s, r, q⟩ => ?_
  rw [ev] at q
  refine ⟨W, l, S, s, r, q.bind fun d S1 W1 v H1 le1 r1 hv q1 => ⟨W1, l, S1, s.mono le1.tole0, r1, q1.bind fun i S2 W2 i' H2 le2 r2 e2 q2 => ⟨W2, l, S2, (s.mono le1.tole0).mono le2.tole0, r2, q2.bind fun j S3 W3 j' H3 le3 r3 e3 q3 => ?_⟩⟩⟩
  subst e2 e3
  exact ⟨W3, S3, d, E σ, (hv.mono le2.tole0).mono le3.tole0, r3, q3⟩
theorem pos_call (C : Ctx T g ca CX E c X) {f : String} {dfl : List D} (h : (T.cals.any fun q => q.1 == f && eqCs q.2 dfl) = true) : CalOk g ca CX X f dfl := by
  obtain ⟨q, hq, h4⟩ := List.any_eq_true.mp h
  rw [Bool.and_eq_true] at h4
  have e1 := eq_of_beq h4.1
  have e2 := eqCs_eq h4.2
  subst e1 e2
  exact C.cal q hq
theorem s_call (C : Ctx T g ca CX E c X) {f : String} {dfl : List D} {es : Xps} {fs : List Expr} {y : Str} {p : Pos} (h1 : (y == nm f) = true) (h2 : glB c y = true) (h3 : (T.cals.any fun q => q.1 == f && eqCs q.2 dfl) = true) (hc : chkEs T c es fs = true)
    (ha : PA X fs (Ta X.K ca E (evs g es))) : PE X (.Call (.Name y p) fs [] pos) (Te X.K ca E (ev g (.call f dfl es))) := by
  have e := eq_of_beq h1
  subst e
  obtain ⟨g1, g2, _⟩ := C.gl h2
  obtain ⟨k, fa, fd, ps, sp, dvs, ds, F, hr, hm, hk, hb, hd, hv, hsp⟩ := pos_call C h3
  cases fs with
  | nil =>
    refine PE.imp (t := tCallSD sp dvs E tNil) ⟨fun pins s σ H Q I h => ?_⟩ fun σ H Q ⟨W, l, S, s, r, q⟩ => ?_
    · refine wpAny_Call_Name_kw (ld_glob I g1 hm ?_ g2)
      exact PySem.W.callWith_K0 I.kIn hk (run_fnSD (us := []) F hr hb hd (C.pas σ) I .nil h)
    · cases es with
      | nil =>
        rw [ev, evs] at q
        exact hsp _ _ _ _ ⟨W, S, _, (Vis.nil (K := X.K) (W := W)).app (hv W), r, q⟩
      | cons _ _ => exact Bool.noConfusion (show false = true from hc)
  | cons y ys =>
    cases es with
    | nil => exact Bool.noConfusion (show false = true from hc)
    | cons b bs =>
      have hc' := hc
      rw [chkEs, Bool.and_eq_true] at hc'
      refine PE.imp (pe_callSD F hr g1 hm hk hb hd C.pas ha g2 (star_cons hc'.1) (star_all hc'.2).1) fun σ H Q ⟨W, l, S, s, r, q⟩ => ⟨W, l, S, s, r, ?_⟩
      rw [ev] at q
      refine q.bind fun xs S1 W1 vs H1 le1 r1 hvs q1 => hsp _ _ _ _ ⟨W1, S1, _, hvs.app (hv W1), r1, q1⟩
theorem s_blt (C : Ctx T g ca CX E c X) {f : BF} {m : Bool} {es : Xps} {fs : List Expr} {y : Str} {p : Pos} (h1 : (y == nm f.name) = true) (h2 : glB c y = true) (h3 : T.blts.contains f.name = true) (hne : fs ≠ []) (hc : chkEs T c es fs = true) (hd : f.done = true)
    (ha : PA X fs (Ta X.K ca E (evs g es))) : PE X (.Call (.Name y p) fs [] pos) (Te X.K ca E (ev g (.blt f m es))) := by
  have e := eq_of_beq h1
  subst e
  obtain ⟨g1, g2, g3⟩ := C.gl h2
  have hm := C.blt _ (by simpa using h3)
  cases fs with
  | nil => exact absurd rfl hne
  | cons z zs =>
    cases es with
    | nil => exact Bool.noConfusion (show false = true from hc)
    | cons b bs =>
      have hc' := hc
      rw [chkEs, Bool.and_eq_true] at hc'
      have k1 := star_cons (env := X.env) (es := zs) hc'.1
      have k2 := (star_all (env := X.env) (pos := pos) hc'.2).1
      have fin : PE X (.Call (.Name (nm f.name) p) (z :: zs) [] pos) (tCB (rC X.K ca (bltR f m)) (Ta X.K ca E (evs g (.cons b bs)))) := by
        cases f <;> first | (exact Bool.noConfusion (show false = true from hd)) | skip
        · exact pe_callB (len_D m) g1 hm (by decide +kernel) ha g3 g2 (he := k1) (hpl := k2)
        · exact pe_callTy (int_D m) g1 hm (by decide +kernel) ha g3 g2 (he := k1) (hpl := k2)
        · exact pe_callB (min_D m C.calm) g1 hm (by decide +kernel) ha g3 g2 (he := k1) (hpl := k2)
        · exact pe_callB (max_D m C.calm) g1 hm (by decide +kernel) ha g3 g2 (he := k1) (hpl := k2)
        · exact pe_callB (abs_D m) g1 hm (by decide +kernel) ha g3 g2 (he := k1) (hpl := k2)
        · exact pe_callB (all_D m C.calm) g1 hm (by decide +kernel) ha g3 g2 (he := k1) (hpl := k2)
        · exact pe_callB (sum_D m C.calm) g1 hm (by decide +kernel) ha g3 g2 (he := k1) (hpl := k2)
        · exact pe_callTy (list_D m) g1 hm (by decide +kernel) ha g3 g2 (he := k1) (hpl := k2)
        · exact pe_callTy (tuple_D m) g1 hm (by decide +kernel) ha g3 g2 (he := k1) (hpl := k2)
        · exact pe_callTy (str_D m) g1 hm (by decide +kernel) ha g3 g2 (he := k1) (hpl := k2)
        · exact pe_callTy (dict_D m) g1 hm (by decide +kernel) ha g3 g2 (he := k1) (hpl := k2)
      refine PE.imp fin fun σ H Q ⟨W, l, S, s, r, q⟩ => ⟨W, l, S, s, r, ?_⟩
      rw [ev] at q
      refine q.bind fun xs S1 W1 vs H1 le1 r1 hvs q1 => ⟨W1, S1, xs, E σ, hvs, r1, q1⟩
end
end
end Mw
/-! Mw, part H: expressions, the rest; all of them. -/
namespace Mw
open PySem PySem.Spec PyProof.Rows L2
section
variable {T : Tb} {g : Cfg} {ca : String → Option Addr} {CX : CXT} {E : L2.St → XK} {c : Sc} {X : Cx} {a b d : Xp} {x y z : Expr} {pos : Pos}

theorem s_isi1 (C : Ctx T g ca CX E c X) {u : String} {f w : Str} {p p2 : Pos} (h1 : (f == nm "isinstance") = true) (h2 : glB c f = true) (h3 : T.blts.contains "isinstance" = true) (hc : chkE T c a x = true) (h : PE X x (Te X.K ca E (ev g a)))
    (k1 : (w == nm u) = true) (k2 : glB c w = true) (k3 : tgNames.contains u = true) (k4 : T.blts.contains u = true) : PE X (.Call (.Name f p) [x, .Name w p2] [] pos) (Te X.K ca E (ev g (.isi a [u]))) := by
  have e := eq_of_beq h1
  subst e
  have e := eq_of_beq k1
  subst e
  obtain ⟨g1, g2, g3⟩ := C.gl h2
  obtain ⟨g4, g5, g6⟩ := C.gl k2
  have hm := C.blt _ (by simpa using h3)
  have hm2 := C.blt _ (by simpa using k4)
  have hu : u ∈ tgNames := by simpa using k3
  have bt : bootBuiltins (nm u) = some (.type u) := by
    have all : (tgNames.all fun t => decide (bootBuiltins (nm t) = some (.type t))) = true := by decide +kernel
    exact of_decide_eq_true (List.all_eq_true.mp all u hu)
  refine PE.imp (pe_callB (isi1_D (ca := ca) hu) g1 hm (by decide +kernel) (pa_cons h (pa_cons (pe_bltn (v := .ty u) g4 hm2 bt rfl g6 g5) pa_nil) (star_cons hc)) g3 g2 (he := star_cons hc)) fun σ H Q ⟨W, l, S, s, r, q⟩ => ⟨W, l, S, s, r, ?_⟩
  rw [ev] at q
  exact q.bind fun d S1 W1 v H1 le1 r1 hv q1 => ⟨v, rfl, W1, S1, d, E σ, hv, r1, q1⟩
theorem s_isi2 (C : Ctx T g ca CX E c X) {u u' : String} {f w w' : Str} {k : Nat} {p p2 p3 p4 : Pos} (h1 : (f == nm "isinstance") = true) (h2 : glB c f = true) (h3 : T.blts.contains "isinstance" = true) (hc : chkE T c a x = true) (h : PE X x (Te X.K ca E (ev g a)))
    (k1 : (w == nm u) = true) (k2 : glB c w = true) (k3 : tgNames.contains u = true) (k4 : T.blts.contains u = true) (j1 : (w' == nm u') = true) (j2 : glB c w' = true) (j3 : tgNames.contains u' = true) (j4 : T.blts.contains u' = true) :
    PE X (.Call (.Name f p) [x, .Tuple [.Name w p2, .Name w' p3] k p4] [] pos) (Te X.K ca E (ev g (.isi a [u, u']))) := by
  have e := eq_of_beq h1
  subst e
  have e := eq_of_beq k1
  subst e
  have e := eq_of_beq j1
  subst e
  obtain ⟨g1, g2, g3⟩ := C.gl h2
  obtain ⟨g4, g5, g6⟩ := C.gl k2
  obtain ⟨g7, g8, g9⟩ := C.gl j2
  have hm := C.blt _ (by simpa using h3)
  have hm2 := C.blt _ (by simpa using k4)
  have hm3 := C.blt _ (by simpa using j4)
  have hu : u ∈ tgNames := by simpa using k3
  have hu' : u' ∈ tgNames := by simpa using j3
  have all : (tgNames.all fun t => decide (bootBuiltins (nm t) = some (.type t))) = true := by decide +kernel
  have bt : bootBuiltins (nm u) = some (.type u) := of_decide_eq_true (List.all_eq_true.mp all u hu)
  have bt' : bootBuiltins (nm u') = some (.type u') := of_decide_eq_true (List.all_eq_true.mp all u' hu')
  refine PE.imp (pe_callB (isi2_D (ca := ca) hu hu') g1 hm (by decide +kernel) (pa_cons h (pa_cons (pe_tup (pa_cons (pe_bltn (v := .ty u) g4 hm2 bt rfl g6 g5) (pa_cons (pe_bltn (v := .ty u') g7 hm3 bt' rfl g9 g8) pa_nil))) pa_nil) (star_cons hc)) g3 g2 (he := star_cons hc)) fun σ H Q ⟨W, l, S, s, r, q⟩ => ⟨W, l, S, s, r, ?_⟩
  rw [ev] at q
  refine q.bind fun d S1 W1 v H1 le1 r1 hv q1 => ⟨by show 2 ≤ sizeLine; decide, fun tp htp => ?_⟩
  obtain ⟨le2, r2⟩ := r1.freeze htp (.tup [.ty u, .ty u'])
  exact ⟨v, tp, rfl, upd_same, _, S1, d, E σ, hv.mono le2.tole0, r2, q1.mono le2⟩

/-! ### and, or -/
theorem and_step {K : PySem.W.Frag} {e f : Xp} {fs : Xps} {σ : L2.St} {H : Hp} {Q : VK} {W : Wd} {l : LEnv} {S : Store} (s : Sl K W l σ) (r : Rl K ca W S H) (q : Po K ca W (E σ) (Vi K) Q (evAnd g (.cons e (.cons f fs)) l S)) :
    tAndV (Te K ca E (ev g e)) (Te K ca E (evAnd g (.cons f fs))) σ H Q := by
  refine ⟨W, l, S, s, r, ?_⟩
  rw [evAnd, bind_assoc'] at q
  refine q.bind fun d S1 W1 v H1 le1 r1 hv q1 => ?_
  cases hv with
  | bl k =>
    have q1' : Po K ca W1 (E σ) (Vi K) Q (if k then evAnd g (.cons f fs) l S1 else .ok (.bl false) S1) := q1
    refine ⟨k, rfl, ?_⟩
    cases k with
    | true => rw [if_pos rfl] at q1' ⊢; exact ⟨W1, l, S1, s.mono le1.tole0, r1, q1'⟩
    | false => rw [if_neg Bool.false_ne_true] at q1' ⊢; exact q1' W1 _ H1 (.refl _) r1 (.bl _)
  | _ => exact q1.elim
theorem or_step {K : PySem.W.Frag} {e f : Xp} {fs : Xps} {σ : L2.St} {H : Hp} {Q : VK} {W : Wd} {l : LEnv} {S : Store} (s : Sl K W l σ) (r : Rl K ca W S H) (q : Po K ca W (E σ) (Vi K) Q (evOr g (.cons e (.cons f fs)) l S)) :
    tOrV (Te K ca E (ev g e)) (Te K ca E (evOr g (.cons f fs))) σ H Q := by
  refine ⟨W, l, S, s, r, ?_⟩
  rw [evOr, bind_assoc'] at q
  refine q.bind fun d S1 W1 v H1 le1 r1 hv q1 => ?_
  cases hv with
  | bl k =>
    have q1' : Po K ca W1 (E σ) (Vi K) Q (if k then .ok (.bl true) S1 else evOr g (.cons f fs) l S1) := q1
    refine ⟨k, rfl, ?_⟩
    cases k with
    | true => rw [if_pos rfl] at q1' ⊢; exact q1' W1 _ H1 (.refl _) r1 (.bl _)
    | false => rw [if_neg Bool.false_ne_true] at q1' ⊢; exact ⟨W1, l, S1, s.mono le1.tole0, r1, q1'⟩
  | _ => exact q1.elim
/-- the same as tests -/
theorem andT_step {K : PySem.W.Frag} {e f : Xp} {fs : Xps} {σ : L2.St} {H : Hp} {Q : Bool → Hp → Prop} {W : Wd} {l : LEnv} {S : Store} (s : Sl K W l σ) (r : Rl K ca W S H) (q : Po K ca W (E σ) (fun _ (a b : Bool) => b = a) Q ((evAnd g (.cons e (.cons f fs)) l S).bind asB)) :
    tAnd (Tt K ca E (evB g e)) (Tt K ca E (fun l S => (evAnd g (.cons f fs) l S).bind asB)) σ H Q := by
  refine ⟨W, l, S, s, r, ?_⟩
  rw [evAnd, bind_assoc'] at q
  refine q.bind fun k S1 W1 k' H1 le1 r1 e q1 => ?_
  subst e
  cases k' with
  | true => rw [if_pos rfl] at q1 ⊢; exact ⟨W1, l, S1, s.mono le1.tole0, r1, q1⟩
  | false => rw [if_neg Bool.false_ne_true] at q1 ⊢; exact q1 W1 _ H1 (.refl _) r1 rfl
theorem orT_step {K : PySem.W.Frag} {e f : Xp} {fs : Xps} {σ : L2.St} {H : Hp} {Q : Bool → Hp → Prop} {W : Wd} {l : LEnv} {S : Store} (s : Sl K W l σ) (r : Rl K ca W S H) (q : Po K ca W (E σ) (fun _ (a b : Bool) => b = a) Q ((evOr g (.cons e (.cons f fs)) l S).bind asB)) :
    tOr (Tt K ca E (evB g e)) (Tt K ca E (fun l S => (evOr g (.cons f fs) l S).bind asB)) σ H Q := by
  refine ⟨W, l, S, s, r, ?_⟩
  rw [evOr, bind_assoc'] at q
  refine q.bind fun k S1 W1 k' H1 le1 r1 e q1 => ?_
  subst e
  cases k' with
  | true => rw [if_pos rfl] at q1 ⊢; exact q1 W1 _ H1 (.refl _) r1 rfl
  | false => rw [if_neg Bool.false_ne_true] at q1 ⊢; exact ⟨W1, l, S1, s.mono le1.tole0, r1, q1⟩
/-- a list of expressions, each by itself -/
inductive AllE (X : Cx) (K : PySem.W.Frag) (ca : String → Option Addr) (E : L2.St → XK) (g : Cfg) : Xps → List Expr → Prop
  | nil : AllE X K ca E g .nil []
  | cons {e : Xp} {f : Expr} {es : Xps} {fs : List Expr} : PE X f (Te K ca E (ev g e)) → PT X f (Tt K ca E (evB g e)) → AllE X K ca E g es fs → AllE X K ca E g (.cons e es) (f :: fs)
theorem s_and : ∀ {es : Xps} {fs : List Expr}, AllE X X.K ca E g es fs → PE X (.BoolOp .And fs pos) (Te X.K ca E (evAnd g es))
  | _, _, .nil => ⟨fun _ _ _ _ _ _ ⟨W, l, S, s, r, q⟩ => by rw [evAnd] at q; exact q.elim⟩
  | _, _, .cons h _ .nil => PE.imp (pe_one h) fun σ H Q ⟨W, l, S, s, r, q⟩ => ⟨W, l, S, s, r, by rw [evAnd] at q; exact q⟩
  | _, _, .cons h _ (.cons k k' m) => PE.imp (pe_and h (s_and (.cons k k' m))) fun σ H Q ⟨W, l, S, s, r, q⟩ => and_step s r q
theorem s_or : ∀ {es : Xps} {fs : List Expr}, AllE X X.K ca E g es fs → PE X (.BoolOp .Or fs pos) (Te X.K ca E (evOr g es))
  | _, _, .nil => ⟨fun _ _ _ _ _ _ ⟨W, l, S, s, r, q⟩ => by rw [evOr] at q; exact q.elim⟩
  | _, _, .cons h _ .nil => PE.imp (pe_one h) fun σ H Q ⟨W, l, S, s, r, q⟩ => ⟨W, l, S, s, r, by rw [evOr] at q; exact q⟩
  | _, _, .cons h _ (.cons k k' m) => PE.imp (pe_or h (s_or (.cons k k' m))) fun σ H Q ⟨W, l, S, s, r, q⟩ => or_step s r q
theorem PW.imp {X : Cx} {e : Expr} {t t' : TT} (h : PW X e t) (k : ∀ σ H Q, t' σ H Q → t σ H Q) : PW X e t' := ⟨fun wh pins s σ H Q I w => h.run wh pins s σ H Q I (k _ _ _ w)⟩
theorem t_and : ∀ {es : Xps} {fs : List Expr}, AllE X X.K ca E g es fs → PW X (.BoolOp .And fs pos) (Tt X.K ca E (fun l S => (evAnd g es l S).bind asB))
  | _, _, .nil => ⟨fun _ _ _ _ _ _ _ ⟨W, l, S, s, r, q⟩ => by dsimp only at q; rw [evAnd] at q; exact q.elim⟩
  | _, _, .cons _ h .nil => PW.imp (pw_and1 h) fun σ H Q ⟨W, l, S, s, r, q⟩ => ⟨W, l, S, s, r, by dsimp only at q; rw [evAnd] at q; exact q⟩
  | _, _, .cons _ h (.cons k k' m) => PW.imp (pw_and h (t_and (.cons k k' m))) fun σ H Q ⟨W, l, S, s, r, q⟩ => andT_step s r q
theorem t_or : ∀ {es : Xps} {fs : List Expr}, AllE X X.K ca E g es fs → PW X (.BoolOp .Or fs pos) (Tt X.K ca E (fun l S => (evOr g es l S).bind asB))
  | _, _, .nil => ⟨fun _ _ _ _ _ _ _ ⟨W, l, S, s, r, q⟩ => by dsimp only at q; rw [evOr] at q; exact q.elim⟩
  | _, _, .cons _ h .nil => PW.imp (pw_or1 h) fun σ H Q ⟨W, l, S, s, r, q⟩ => ⟨W, l, S, s, r, by dsimp only at q; rw [evOr] at q; exact q⟩
  | _, _, .cons _ h (.cons k k' m) => PW.imp (pw_or h (t_or (.cons k k' m))) fun σ H Q ⟨W, l, S, s, r, q⟩ => orT_step s r q
theorem a_all : ∀ {es : Xps} {fs : List Expr}, AllE X X.K ca E g es fs → chkEs T c es fs = true → PA X fs (Ta X.K ca E (evs g es))
  | _, _, .nil, _ => PA.imp pa_nil fun σ H Q ⟨W, l, S, s, r, q⟩ => by rw [evs] at q; exact q W _ H (.refl _) r .nil
  | _, _, .cons h _ m, hc => by
    have hc' := hc
    rw [chkEs, Bool.and_eq_true] at hc'
    refine PA.imp (pa_cons h (a_all m hc'.2) (star_cons hc'.1)) fun σ H Q ⟨W, l, S, s, r, q⟩ => ⟨W, l, S, s, r, ?_⟩
    rw [evs] at q
    refine q.bind fun d S1 W1 v H1 le1 r1 hv q1 => ⟨W1, l, S1, s.mono le1.tole0, r1, q1.bind fun xs S2 W2 vs H2 le2 r2 hvs q2 => ?_⟩
    exact q2 W2 _ H2 (.refl _) r2 (.cons (hv.mono le2.tole0) hvs)

/-! ### methods of built-in types -/
theorem s_mtd (C : Ctx T g ca CX E c X) {f : MF} {es : Xps} {fs : List Expr} {n : Str} {apos : Pos} (hd : f.done = true) (h1 : (n == nm f.name) = true) (h2 : baseOk x = true) (h3 : (apos.endLine == pos.line) = true) (h4 : fs.length < 29) (hc : chkEs T c es fs = true)
    (ho : PE X x (Te X.K ca E (ev g a))) (ha : PA X fs (Ta X.K ca E (evs g es))) : PE X (.Call (.Attribute x n apos) fs [] pos) (Te X.K ca E (ev g (.mtd f a es))) := by
  have e := eq_of_beq h1
  subst e
  have hb : ∀ m : Str, attributeBase x m X.env (eval x X.env) = eval x X.env := fun m => base_ok h2 m _ _
  have fin : ∀ {Tn id : String} {mr : V → List V → Hp → VK → Prop}, PlainAttrs Tn → Slot Tn (nm f.name) id → typeOf (.builtin id) = pure (.type "method_descriptor") → MtR X id (rM X.K ca (mtdR f)) →
      (∀ {W : Wd} {S : Store} {H : Hp} {d : D} {v : V}, Rl X.K ca W S H → Vi X.K W d v → mtdPre f d S = true → tyV X.K Tn v H) → PE X (.Call (.Attribute x (nm f.name) apos) fs [] pos) (Te X.K ca E (ev g (.mtd f a es))) := by
    intro Tn id mr pa slot ty hm hty
    cases fs with
    | nil =>
      cases es with
      | cons _ _ => exact Bool.noConfusion (show false = true from hc)
      | nil =>
        refine PE.imp (pe_bm0 pa slot ty hm ho (hb _) h3) fun σ H Q ⟨W, l, S, s, r, q⟩ => ⟨W, l, S, s, r, ?_⟩
        rw [ev] at q
        refine q.bind fun d S1 W1 v H1 le1 r1 hv q1 => ?_
        split at q1
        · rename_i hp
          rw [evs] at q1
          exact ⟨hty r1 hv hp, W1, S1, d, [], E σ, hv, .nil, r1, q1⟩
        · exact q1.elim
    | cons z zs =>
      cases es with
      | nil => exact Bool.noConfusion (show false = true from hc)
      | cons e es =>
        have hc' := hc
        rw [chkEs, Bool.and_eq_true] at hc'
        have few : ((backTo pos (starEach (z :: zs) X.env)).all (fun x => !x.1) && (backToKw pos (keywordEach [] X.env)).all (fun x => x.1.isSome)
          && decide ((z :: zs).length + ([] : List Keyword).length + (if ([] : List Keyword).isEmpty then 0 else 1) < 30)) = true := by
          rw [(star_all (env := X.env) (pos := pos) hc).2, decide_eq_true (by simp at h4 ⊢; omega)]
          rfl
        refine PE.imp (pe_bm pa slot ty hm ho ha (hb _) few h3 (star_cons hc'.1) (star_all hc'.2).1) fun σ H Q ⟨W, l, S, s, r, q⟩ => ⟨W, l, S, s, r, ?_⟩
        rw [ev] at q
        refine q.bind fun d S1 W1 v H1 le1 r1 hv q1 => ?_
        split at q1
        · rename_i hp
          refine ⟨hty r1 hv hp, W1, l, S1, s.mono le1.tole0, r1, q1.bind fun xs S2 W2 vs H2 le2 r2 hvs q2 => ?_⟩
          exact ⟨W2, S2, d, xs, E σ, hv.mono le2.tole0, hvs, r2, q2⟩
        · exact q1.elim
  have isL : ∀ {W : Wd} {S : Store} {H : Hp} {d : D} {v : V}, Rl X.K ca W S H → Vi X.K W d v → (lstOf S d).isSome = true → tyV X.K "list" v H := fun {W S H d v} r h hp => by
    obtain ⟨ds, hds⟩ := Option.isSome_iff_exists.mp hp
    obtain ⟨a, vs, rfl, q1, _⟩ := r.lst_at h hds
    exact .inl ⟨rfl, _, .of q1⟩
  have isD : ∀ {W : Wd} {S : Store} {H : Hp} {d : D} {v : V}, Rl X.K ca W S H → Vi X.K W d v → (dctOf S d).isSome = true → tyV X.K "dict" v H := fun {W S H d v} r h hp => by
    obtain ⟨ds, hds⟩ := Option.isSome_iff_exists.mp hp
    obtain ⟨a, vs, rfl, q1, _⟩ := r.dct_at h hds
    exact .inr (.inr (.inl ⟨rfl, .inl ⟨_, q1⟩⟩))
  have isS : ∀ {W : Wd} {S : Store} {H : Hp} {d : D} {v : V}, Rl X.K ca W S H → Vi X.K W d v → (match d with | .str _ => true | _ => false) = true → tyV X.K "str" v H := fun {W S H d v} r h hp => by
    cases h <;> first | rfl | (exact Bool.noConfusion (show false = true from hp))
  cases f <;> first | (exact Bool.noConfusion (show false = true from hd)) | skip
  · exact fin (mr := fun _ _ _ _ => True) PySem.F.plainAttrs_list PySem.F.slot_list_append PySem.F.type_list_append append_D isL
  · exact fin (mr := fun _ _ _ _ => True) PySem.F.plainAttrs_list PySem.F.slot_list_pop PySem.F.type_list_pop pop_D isL
  · exact fin (mr := fun _ _ _ _ => True) PySem.F.plainAttrs_dict PySem.F.slot_dict_get PySem.F.type_dict_get (dget_D C.un1) isD
  · exact fin (mr := fun _ _ _ _ => True) PySem.F.plainAttrs_str PySem.F.slot_str_join PySem.F.type_str_join join_D isS
  · exact fin (mr := fun _ _ _ _ => True) PySem.F.plainAttrs_dict PySem.F.slot_dict_update PySem.F.type_dict_update dupd_D isD
  · exact fin (mr := fun _ _ _ _ => True) PySem.F.plainAttrs_list PySem.F.slot_list_extend PySem.F.type_list_extend extend_D isL
  · exact fin (mr := fun _ _ _ _ => True) PySem.F.plainAttrs_list PySem.F.slot_list_index PySem.F.type_list_index index_D isL
  · exact fin (mr := fun _ _ _ _ => True) PySem.F.plainAttrs_str PySem.F.slot_str_split PySem.F.type_str_split split_D isS
  · exact fin (mr := fun _ _ _ _ => True) PySem.F.plainAttrs_str PySem.F.slot_str_startswith PySem.F.type_str_startswith startswith_D isS
  · exact fin (mr := fun _ _ _ _ => True) PySem.F.plainAttrs_dict PySem.F.slot_dict_pop PySem.F.type_dict_pop dpop_D isD
/-! ### fields, methods, objects made -/
theorem s_fld (C : Ctx T g ca CX E c X) {f : String} {n : Str} (h1 : (n == nm f) = true) (h2 : baseOk x = true) (h3 : T.fls.contains f = true) (h : PE X x (Te X.K ca E (ev g a))) : PE X (.Attribute x n pos) (Te X.K ca E (ev g (.fld a f))) := by
  have e := eq_of_beq h1
  subst e
  refine PE.imp (pe_fld h (base_ok h2 _ _ _)) fun σ H Q ⟨W, l, S, s, r, q⟩ => ⟨W, l, S, s, r, ?_⟩
  rw [ev] at q
  refine q.bind fun d S1 W1 v H1 le1 r1 hv q1 => ?_
  unfold fldR at q1
  split at q1
  · split at q1
    · rename_i hS
      split at q1
      · rename_i d hd
        cases hv with
        | ref hn =>
          obtain ⟨u, e1, e2⟩ := r1.got _ _ _ hn hS
          cases e2 with
          | ins hA hf =>
            obtain ⟨w, k1, k2⟩ := (hf.get (f := f)).1 d hd
            obtain ⟨c1, c2, _⟩ := C.cls _ _ hA
            exact ⟨_, _, _, _, w, rfl, e1, c1, c2 f (by simpa using h3), k1, q1 W1 w H1 (.refl _) r1 k2⟩
      · exact q1.elim
    · exact q1.elim
  · exact q1.elim
theorem met_eq (C : Ctx T g ca CX E c X) {n : Str} {fs : List Expr} {apos : Pos} (h2 : baseOk x = true) (h3 : (apos.endLine == pos.line) = true) (h4 : fs.length < 29) (h5 : (backTo pos (starEach fs X.env)).all (fun x => !x.1) = true) :
    eval (.Call (.Attribute x n apos) fs [] pos) X.env = (do
      let ov ← eval x X.env
      standAt apos.atName
      let (f, first) ← holding [ov] (getMethod ov n (do return (← importBound x X.env).getD true))
      callWith pos f first (backTo pos (starEach fs X.env)) (backToKw pos (keywordEach [] X.env))) := by
  rw [arm_eval_Call, base_ok h2]
  have hform : methodCallForm (fs.length + ([] : List Keyword).length) (backTo pos (starEach fs X.env)) (backToKw pos (keywordEach [] X.env)) = true := by
    unfold methodCallForm
    rw [h5]
    show (true && true && decide (fs.length + 0 + 0 < 30)) = true
    rw [decide_eq_true (by omega)]; rfl
  have hpos : methodCallPos true x X.env apos pos = pure pos := by unfold methodCallPos; simp [h3]
  unfold methodCall
  rw [hform, hpos]
  simp only [calleeOf, if_true, pure_bind, bind_assoc]
theorem s_umt (C : Ctx T g ca CX E c X) {f : String} {n : Str} {es : Xps} {fs : List Expr} {apos : Pos} (h1 : (n == nm f) = true) (h2 : baseOk x = true) (h3 : (apos.endLine == pos.line) = true) (h4 : fs.length < 29) (h5 : T.mts.contains f = true) (hc : chkEs T c es fs = true)
    (h : PE X x (Te X.K ca E (ev g a))) (ha : PA X fs (Ta X.K ca E (evs g es))) : PE X (.Call (.Attribute x n apos) fs [] pos) (Te X.K ca E (ev g (.umt f a es))) := by
  have e := eq_of_beq h1
  subst e
  have he := met_eq (n := nm f) C h2 h3 h4 (star_all (env := X.env) (pos := pos) hc).2
  refine ⟨fun pins s σ H Q I ⟨W, l, S, sl, r, q⟩ => ?_⟩
  rw [ev] at q
  refine PySem.W.methodCall_KW (thn (h.run pins s σ H (fun v H1 => ∃ W1 d S1, Sl X.K W1 l σ ∧ Rl X.K ca W1 S1 H1 ∧ Vi X.K W1 d v ∧ Po X.K ca W1 (E σ) (Vi X.K) Q (match umtQ g f d S1 with
    | some q => (evs g es l S1).bind fun ds S2 => g.cf q (d :: ds) S2
    | none => .bad)) I ⟨W, l, S, sl, r, ?_⟩) fun u s1 ⟨v, H1, I1, rv, W1, d, S1, sl1, r1, hv, q1⟩ => ?_) he
  · exact q.bind fun d S1 W1 v H1 le1 r1 hv q1 => ⟨W1, d, S1, sl.mono le1.tole0, r1, hv, q1⟩
  · split at q1
    · rename_i qn hq
      unfold umtQ at hq
      split at hq
      · rename_i n
        split at hq
        · rename_i Cn fs0 hS
          split at hq
          · rename_i hf0
            cases hv with
            | @ref _ ad hn =>
              obtain ⟨w, e1, e2⟩ := r1.got _ _ _ hn hS
              cases e2 with
              | ins hA hf =>
                obtain ⟨c1, _, c3⟩ := C.cls _ _ hA
                obtain ⟨hd, m1, k, fd, ps, sp, F, hr, hb, hsp⟩ := c3 f (by simpa using h5) qn hq
                cases (show u = Value.ref ad from rv)
                refine getmeth_ok I1 e1 c1 m1 ((hf.get (f := f)).2 hf0) ?_
                have fin : ∀ {us : List Value} {vs : List V} {s2 : Shared} {H2 : Hp} {W2 : Wd} {S2 : Store} {xs : List Mw.D}, Inv X pins σ H2 s2 → Vals vs us → W1.le W2 → Rl X.K ca W2 S2 H2 → Vis X.K W2 xs vs → Po X.K ca W2 (E σ) (Vi X.K) Q (g.cf qn (.ref n :: xs) S2) →
                    wpAny (model X.prog X.w) X.A (call (.ref hd) (.ref ad :: us)) (EP X pins σ Q) X.xe s2 := fun {us vs s2 H2 W2 S2 xs} I2 rvs le2 r2 hvs q2 =>
                  run_fnSD (us := .ref ad :: us) (vs := .ref ad :: vs) (dvs := []) (ds := []) F hr hb .nil (C.pas σ) I2 (.cons rfl rvs) (hsp _ _ _ _ ⟨W2, S2, .ref n :: xs, by rw [List.append_nil]; exact .cons (.ref (le2.tole0.get hn)) hvs, r2, q2⟩)
                cases fs with
                | nil =>
                  cases es with
                  | cons _ _ => exact Bool.noConfusion (show false = true from hc)
                  | nil =>
                    rw [evs] at q1
                    exact PySem.W.callWith_K0 (first := [.ref ad]) I1.kIn m1.kp (fin I1 .nil (.refl _) r1 .nil q1)
                | cons z zs =>
                  cases es with
                  | nil => exact Bool.noConfusion (show false = true from hc)
                  | cons e es =>
                    have hc' := hc
                    rw [chkEs, Bool.and_eq_true] at hc'
                    refine PySem.W.callWith_K (first := [.ref ad]) (h₀ := X.base) I.ok.mod.kin m1.kp (thn (ha.run pos pins s1 σ H1 (fun vs H2 => ∃ W2 xs S2, W1.le W2 ∧ Rl X.K ca W2 S2 H2 ∧ Vis X.K W2 xs vs ∧ Po X.K ca W2 (E σ) (Vi X.K) Q (g.cf qn (.ref n :: xs) S2)) I1 ⟨W1, l, S1, sl1, r1, ?_⟩) fun us s2 ⟨vs, H2, I2, rvs, W2, xs, S2, le2, r2, hvs, q2⟩ => ⟨I2.kIn, ?_⟩) (star_cons hc'.1) (star_all hc'.2).1
                    · exact q1.bind fun xs S2 W2 vs H2 le2 r2 hvs q2 => ⟨W2, xs, S2, le2, r2, hvs, q2⟩
                    · exact fin I2 rvs le2 r2 hvs q2
          · cases hq
        · cases hq
      · cases hq
    · exact q1.elim
/-- an untracked thing more -/
theorem Rl.more {K : PySem.W.Frag} {W : Wd} {S : Store} {H : Hp} (r : Rl K ca W S H) {p : Addr} (hp : H p = none) (o : HO) : Rl K ca W S (upd H p o) := by
  have n1 : W.fz p = none := r.fz.free hp
  have n2 : W.pv p = none := r.pv.free hp
  refine ⟨fun b u e => ?_, fun b u e => ?_, r.ap, r.len, r.nd, fun n a q e1 e2 => ?_, r.off⟩
  · rw [upd_ne (ne_of_none e n1)]; exact r.fz _ _ e
  · rw [upd_ne (ne_of_none e n2)]; exact r.pv _ _ e
  · obtain ⟨u, h1, h2⟩ := r.got n a q e1 e2
    exact ⟨u, by rw [upd_ne (ne_of_none h1 hp)]; exact h1, h2⟩
theorem run_makeAt {pins : List (Addr × Obj)} {σ : L2.St} {H : Hp} {s : Shared} {Q : VK} {us : List Value} {vs : List V} {A h : Addr} {k : Nat} {fd : FuncData} {ps : List Str} {sp : Sp} {E0' : XK} (M : L2.Mk X.K A h) (F : FnOk X.prog X.w X.K X.mg X.base CX k h fd ps sp) (hr : Room (k + 1) X.A) (hb : Binds X.K fd ps [])
    (hx : PassesAt CX X σ E0') (I : Inv X pins σ H s) (r : Vals vs us)
    (hq : ∀ x dx, H x = none → H dx = none → dx ≠ x → sp (.ref x :: vs) (upd (upd H dx (.own x)) x (.ins A dx [])) (fun v H2 => v = .non ∧ Q (.ref x) H2) E0') :
    wpAny (model X.prog X.w) X.A (call (.ref A) us) (EP X pins σ Q) X.xe s := by
  have hq := hq (s.heap.objs.size + 1) s.heap.objs.size (I.hok.fresh (Nat.le_succ _)) (I.hok.fresh (Nat.le_refl _)) (Nat.ne_of_lt (Nat.lt_succ_self _))
  have I2 := Inv.made (C := A) I
  have r2 : Vals (V.ref (s.heap.objs.size + 1) :: vs) (Value.ref (s.heap.objs.size + 1) :: us) := .cons rfl r
  have hl : ((Value.ref (s.heap.objs.size + 1) :: us) ++ []).length = ps.length := by
    have e := r2.length
    rw [F.len _ _ _ _ hq] at e
    rw [List.append_nil]
    exact e.symm
  have hbb := hb _ (Value.ref (s.heap.objs.size + 1) :: us) I2.kIn hl
  rw [List.append_nil] at hbb
  refine wpAny_call (make_map (f := h) I.kIn M.makes M.init (beq_iff_eq.mp M.fn) (codeAny_mono (F.run _ X.stack _ _ ⟨Value.ref (s.heap.objs.size + 1) :: us, []⟩ (Value.ref (s.heap.objs.size + 1) :: us) _ _ E0' (hr.make A us [])
    (I2.env0.make A us []) hbb r2 hq) fun r s' hq' => ?_))
  cases r with
  | error e => exact hx pins _ _ e s' I2 hq'
  | ok fl =>
    cases fl with
    | ret u =>
      obtain ⟨v, H', I3, rv, ev, q3⟩ := I2.after hq'
      subst ev
      exact ⟨rv, ⟨V.ref (s.heap.objs.size + 1), H', I3, rfl, q3⟩⟩
    | next => exact False.elim hq'
    | brk => exact False.elim hq'
    | cont => exact False.elim hq'
theorem s_mk (C : Ctx T g ca CX E c X) {K' : String} {es : Xps} {fs : List Expr} {y : Str} {p : Pos} (h1 : (y == nm K') = true) (h2 : glB c y = true) (h3 : T.mks.contains K' = true) (hc : chkEs T c es fs = true)
    (ha : PA X fs (Ta X.K ca E (evs g es))) : PE X (.Call (.Name y p) fs [] pos) (Te X.K ca E (ev g (.mk K' es))) := by
  have e := eq_of_beq h1
  subst e
  obtain ⟨g1, g2, _⟩ := C.gl h2
  obtain ⟨A, h, k, fd, ps, sp, cf, qn, hA, hm, M, F, hr, hb, heq, hsp⟩ := C.mks K' (by simpa using h3)
  have fin : ∀ {pins : List (Addr × Obj)} {σ : L2.St} {Q : VK} {us : List Value} {vs : List V} {s2 : Shared} {H2 : Hp} {W2 : Wd} {S2 : Store} {xs : List Mw.D}, Inv X pins σ H2 s2 → Vals vs us → Rl X.K ca W2 S2 H2 → Vis X.K W2 xs vs → Po X.K ca W2 (E σ) (Vi X.K) Q (g.nw K' xs S2) →
      wpAny (model X.prog X.w) X.A (call (.ref A) us) (EP X pins σ Q) X.xe s2 := fun {pins σ Q us vs s2 H2 W2 S2 xs} I2 rvs r2 hvs q2 => by
    refine run_makeAt M F hr hb (C.pas σ) I2 rvs fun x dx h1 h2 h3 => hsp _ _ _ _ ?_
    have ra := r2.more h2 (.own x)
    have hx : upd H2 dx (.own x) x = none := by rw [upd_ne (Ne.symm h3)]; exact h1
    obtain ⟨le3, r3⟩ := ra.alloc hx (m := .ins K' []) (o := .ins A dx []) (.ins hA .nil)
    refine ⟨_, S2 ++ [.ins K' []], .ref S2.length :: xs, .cons (.ref ?_) (hvs.mono le3.tole0), r3, ?_⟩
    · show (W2.ro ++ [x])[S2.length]? = some x
      rw [← r2.len]; simp
    · rw [heq] at q2
      unfold mkR at q2
      refine (q2.mono le3).bind fun d S4 W4 v H4 le4 r4 hv q4 => ?_
      cases hv with
      | non =>
        refine ⟨rfl, q4 W4 _ H4 (.refl _) r4 (.ref (le4.tole0.get ?_))⟩
        show (W2.ro ++ [x])[S2.length]? = some x
        rw [← r2.len]; simp
      | _ => exact q4.elim
  cases fs with
  | nil =>
    cases es with
    | cons _ _ => exact Bool.noConfusion (show false = true from hc)
    | nil =>
      refine ⟨fun pins s σ H Q I ⟨W, l, S, sl, r, q⟩ => wpAny_Call_Name_kw (ld_glob I g1 hm ?_ g2)⟩
      rw [ev, evs] at q
      exact PySem.W.callWith_K0 I.kIn M.kp (fin I .nil r .nil q)
  | cons z zs =>
    cases es with
    | nil => exact Bool.noConfusion (show false = true from hc)
    | cons b bs =>
      have hc' := hc
      rw [chkEs, Bool.and_eq_true] at hc'
      refine ⟨fun pins s σ H Q I ⟨W, l, S, sl, r, q⟩ => wpAny_Call_Name_kw (ld_glob I g1 hm ?_ g2)⟩
      rw [ev] at q
      refine PySem.W.callWith_K (h₀ := X.base) I.ok.mod.kin M.kp (thn (ha.run pos pins _ σ H (fun vs H2 => ∃ W2 xs S2, Rl X.K ca W2 S2 H2 ∧ Vis X.K W2 xs vs ∧ Po X.K ca W2 (E σ) (Vi X.K) Q (g.nw K' xs S2)) (I.tok _) ⟨W, l, S, sl, r, ?_⟩) fun us s2 ⟨vs, H2, I2, rvs, W2, xs, S2, r2, hvs, q2⟩ => ⟨I2.kIn, ?_⟩) (star_cons hc'.1) (star_all hc'.2).1
      · exact q.bind fun xs S2 W2 vs H2 le2 r2 hvs q2 => ⟨W2, xs, S2, r2, hvs, q2⟩
      · exact fin I2 rvs r2 hvs q2
end
end Mw
/-! Mw, part I: targets, comprehensions; all expressions. -/
namespace Mw
open PySem PySem.Spec PyProof.Rows L2
/-- slots set, one after another -/
def setV : List Nat → List V → L2.St → L2.St
  | i :: is, v :: vs, σ => setV is vs (σ.set i (some v))
  | _, _, σ => σ
theorem wipe_set1 (i : Nat) (x : Option V) : ∀ (is : List Nat) (σ : L2.St), (L2.wipe (σ.set i x) is).set i none = (L2.wipe σ is).set i none
  | [], σ => by show (σ.set i x).set i none = σ.set i none; rw [List.set_set]
  | v :: vs, σ => by
    show ((L2.wipe (σ.set i x) vs).set v none).set i none = ((L2.wipe σ vs).set v none).set i none
    by_cases h : v = i
    · subst h
      rw [List.set_set, List.set_set, wipe_set1]
    · rw [List.set_comm _ _ h, List.set_comm _ _ h, wipe_set1]
theorem wipe_setV : ∀ (is : List Nat) (vs : List V) (σ : L2.St), vs.length = is.length → L2.wipe (setV is vs σ) is = L2.wipe σ is
  | [], _, σ, _ => by cases ‹List V› <;> rfl
  | i :: is, [], σ, h => by simp at h
  | i :: is, v :: vs, σ, h => by
    show (L2.wipe (setV is vs (σ.set i (some v))) is).set i none = (L2.wipe σ is).set i none
    rw [wipe_setV is vs _ (by simpa using h), wipe_set1]
theorem Sl.setAll {K : PySem.W.Frag} {W : Wd} : ∀ {is : List Nat} {ds : List D} {vs : List V} {l l1 : LEnv} {σ : L2.St}, Sl K W l σ → Vis K W ds vs → setAll is ds l = some l1 → Sl K W l1 (setV is vs σ) ∧ vs.length = is.length
  | [], [], vs, l, l1, σ, s, h, e => by cases h; cases e; exact ⟨s, rfl⟩
  | [], _ :: _, vs, l, l1, σ, s, h, e => by simp [Mw.setAll] at e
  | _ :: _, [], vs, l, l1, σ, s, h, e => by simp [Mw.setAll] at e
  | i :: is, d :: ds, _, l, l1, σ, s, .cons a b, e => by
    obtain ⟨h1, h2⟩ := Sl.setAll (s.set i a) b (show Mw.setAll is ds (l.set i (some d)) = some l1 from e)
    exact ⟨h1, congrArg Nat.succ h2⟩
/-- a target -/
def Tg (K : PySem.W.Frag) (ca : String → Option Addr) (tg : List Nat) (tt : Bool) : TG := fun v σ H Q => ∃ W l S d l1, Sl K W l σ ∧ Rl K ca W S H ∧ Vi K W d v ∧ bindT tg tt d l = some l1 ∧ ∀ σ', Sl K W l1 σ' → L2.wipe σ' tg = L2.wipe σ tg → Q σ' H
section
variable {T : Tb} {g : Cfg} {ca : String → Option Addr} {CX : CXT} {E : L2.St → XK} {c : Sc} {X : Cx} {a b d : Xp} {x y z : Expr} {pos : Pos}
theorem pgs_names (C : Ctx T g ca CX E c X) : ∀ {is : List Nat} {es : List Expr}, tgB c is es = true → PGs X es (fun vs σ H Q => vs.length = is.length ∧ Q (setV is vs σ) H) ∧ (assignEach es X.env).length = es.length ∧ (assignEach es X.env).findIdx? (·.1) = none ∧ es.length = is.length
  | [], [], _ => ⟨⟨fun pins s σ H vs us Q I r h => by
      obtain ⟨e, h⟩ := h
      have : vs = [] := List.length_eq_zero_iff.mp e
      subst this
      exact pgs_nil.run pins s σ H [] us Q I r ⟨rfl, h⟩⟩, rfl, rfl, rfl⟩
  | [], _ :: _, h => by simp [tgB] at h
  | _ :: _, [], h => by simp [tgB] at h
  | i :: is, e :: es, h => by
    cases e <;> first | (exact Bool.noConfusion (show false = true from h)) | skip
    rename_i x p
    rw [tgB, Bool.and_eq_true] at h
    obtain ⟨k1, k2, k3⟩ := C.store h.1
    obtain ⟨m1, m2, m3, m4⟩ := pgs_names C h.2
    have t := pgs_cons (pg_name (i := i) (pos := p) (by rw [C.N]; exact C.nd) k1 k2 k3) m1
    refine ⟨⟨fun pins s σ H vs us Q I r h => t.run pins s σ H vs us Q I r ?_⟩, ?_, ?_, congrArg Nat.succ m4⟩
    · obtain ⟨e, h⟩ := h
      cases vs with
      | nil => simp at e
      | cons v vs => exact ⟨v, vs, rfl, by simpa using e, h⟩
    · show (assignEach es X.env).length + 1 = _
      rw [m2]; rfl
    · show List.findIdx? (·.1) ((false, assign (.Name x p) X.env) :: assignEach es X.env) = none
      rw [List.findIdx?_cons, m3]
      rfl
theorem s_tgt (C : Ctx T g ca CX E c X) {tg : List Nat} {tt : Bool} {e : Expr} (h : chkT c tg tt e = true) : PG X e (Tg X.K ca tg tt) := by
  unfold chkT at h
  cases tt with
  | true =>
    rw [if_pos rfl] at h
    cases e <;> first | (exact Bool.noConfusion (show false = true from h)) | skip
    rename_i es k p
    obtain ⟨m1, m2, m3, m4⟩ := pgs_names C h
    refine ⟨fun pins s σ H v u Q I r ⟨W, l, S, d, l1, hs, hr, hd, hb, q⟩ => (pg_tup (n := es.length) C.calm m1 m2 m3).run pins s σ H v u Q I r ?_⟩
    unfold bindT at hb
    rw [if_pos rfl] at hb
    cases hd with
    | tup h1 h2 =>
      obtain ⟨h3, h4⟩ := hs.setAll h2 hb
      exact ⟨_, _, rfl, sqt_mono hr.fz h1, by rw [h4, m4], h4, q _ h3 (wipe_setV _ _ _ h4)⟩
    | _ => cases hb
  | false =>
    rw [if_neg Bool.false_ne_true] at h
    cases tg with
    | nil => exact Bool.noConfusion (show false = true from h)
    | cons i is =>
      cases is with
      | cons _ _ => cases e <;> (simp [tgB] at h)
      | nil =>
        cases e <;> first | (exact Bool.noConfusion (show false = true from h)) | skip
        rename_i x p
        rw [tgB, Bool.and_eq_true] at h
        obtain ⟨k1, k2, k3⟩ := C.store h.1
        refine ⟨fun pins s σ H v u Q I r ⟨W, l, S, d, l1, hs, hr, hd, hb, q⟩ => (pg_name (i := i) (pos := p) (by rw [C.N]; exact C.nd) k1 k2 k3).run pins s σ H v u Q I r ?_⟩
        unfold bindT at hb
        rw [if_neg Bool.false_ne_true] at hb
        obtain ⟨h3, h4⟩ := hs.setAll (.one hd) hb
        exact q _ h3 (wipe_setV [i] [v] _ h4)

theorem tgl_zip {tg : List Nat} {ns : List Str} (h : ns.length = tg.length) : (ns.zip tg).map (·.2) = tg := by
  rw [← List.unzip_snd, List.unzip_zip h]
theorem lc_sem (_C : Ctx T g ca CX E c X) {m : Bool} {tg : List Nat} {tt : Bool} {it elt cnd : Xp} {own : List (Str × Nat)} (hl : own.map (·.2) = tg) {σ : L2.St} {H : Hp} {Q : VK} (w : Te X.K ca E (ev g (.lc m tg tt it elt cnd)) σ H Q) :
    tLc (Ti X.K ca E (evI g it)) (Tg X.K ca tg tt) (Tt X.K ca (fun _ => E0) (evB g cnd)) (Te X.K ca (fun _ => E0) (ev g elt)) (own.map (·.2)) σ H Q := by
  obtain ⟨W, l, S, s, r, q⟩ := w
  refine ⟨W, l, S, s, r, ?_⟩
  rw [ev] at q
  rw [hl]
  refine q.bind fun ds S1 W1 J H1 le1 r1 hJ q1 => fun D hD => ?_
  have hp1 : W1.pv D = none := r1.pv.free hD
  refine ⟨fun i mm H => mm = ds.length - i ∧ i ≤ ds.length ∧ ∃ (W2 : Wd) (S2 : Store) (acc : List Mw.D) (vacc : List V), W1.le W2 ∧ Rl X.K ca (W2.wp (upd W1.pv D (.lst vacc))) S2 H ∧ Vis X.K W2 acc vacc ∧
    Po X.K ca W2 (E σ) (Vi X.K) Q ((lcLoop (fun l1 S2 => ((ev g cnd l1 S2).bind asB).nox) (fun l1 S2 => (ev g elt l1 S2).nox) tg tt (wipeL l tg) (ds.drop i) acc S2).bind fun ys S2 => mkL m ys S2),
    ⟨_, rfl, Nat.zero_le _, W1, S1, [], [], .refl _, r1.hold hD _, .nil, q1⟩, ?_⟩
  rintro i mm H2 ⟨rfl, hi2, W2, S2, acc, vacc, le2, r2, hacc, q2⟩
  have hpv : W2.pv = W1.pv := le2.pv
  have l0 : W1.le0 (W2.wp (upd W1.pv D (.lst vacc))) := le2.tole0.trans (W2.le0_wp _)
  obtain ⟨j1, j2, j3⟩ := hJ _ S2 H2 i l0 r2
  by_cases hlt : i < ds.length
  · refine .inr ⟨j1 hlt, fun H' => _, fun H' h => ⟨ds.length - (i + 1), by omega, h⟩, fun x H' yl => ?_⟩
    obtain ⟨W3, d, le3, r3, hd, hv⟩ := j3 x H' hlt yl
    have ed : ds.drop i = d :: ds.drop (i + 1) := by
      rw [List.drop_eq_getElem_cons hlt]
      rw [List.getElem?_eq_getElem hlt] at hd
      cases hd; rfl
    rw [ed, lcLoop] at q2
    have h3 : W3.pv = upd W1.pv D (.lst vacc) := le3.pv
    obtain ⟨f3, p3, o3⟩ := W3
    dsimp only at h3
    subst h3
    have le23 : W2.le ⟨f3, W2.pv, o3⟩ := le3.of_wp
    cases hb : bindT tg tt d (wipeL l tg) with
    | none => rw [hb] at q2; exact q2.elim
    | some l1 =>
      rw [hb] at q2
      dsimp only at q2
      have s3 : Sl X.K ⟨f3, upd W1.pv D (.lst vacc), o3⟩ (wipeL l tg) (L2.wipe σ tg) := ((((s.mono le1.tole0).mono le2.tole0).mono (W2.le0_wp _)).mono le3.tole0).wipe tg
      refine ⟨_, wipeL l tg, S2, d, l1, s3, r3, hv, hb, fun σ' hs' hw => ⟨?_, ?_⟩⟩
      · rw [hw]
        have ww : ∀ (vs : List Nat) (σ : L2.St), L2.wipe (L2.wipe σ vs) vs = L2.wipe σ vs := by
          intro vs
          induction vs with
          | nil => intro σ; rfl
          | cons v vs ih =>
            intro σ
            show (L2.wipe ((L2.wipe σ vs).set v none) vs).set v none = (L2.wipe σ vs).set v none
            rw [wipe_set1, ih]
        exact ww tg σ
      · rw [bind_assoc'] at q2
        have hs3 : Sl X.K ⟨f3, upd W1.pv D (.lst vacc), o3⟩ l1 σ' := hs'
        refine ⟨_, l1, S2, hs3, r3, (q2.mono le23).bindP fun b S3 W4 b' H4 le4 r4 e4 q4 => ?_⟩
        subst e4
        have h4 : W4.pv = upd W1.pv D (.lst vacc) := le4.pv
        obtain ⟨f4, p4, o4⟩ := W4
        dsimp only at h4
        subst h4
        have le34 : W2.le ⟨f4, W2.pv, o4⟩ := le23.trans ⟨⟨le4.fz, le4.ro⟩, rfl⟩
        cases b' with
        | false =>
          rw [if_neg Bool.false_ne_true] at q4 ⊢
          refine ⟨rfl, hlt, ⟨f4, W1.pv, o4⟩, S3, acc, vacc, le2.trans (by rw [← hpv]; exact le34), r4, hacc.mono (by exact ⟨le34.fz, le34.ro⟩), ?_⟩
          rw [← hpv]; exact q4
        | true =>
          rw [if_pos rfl] at q4 ⊢
          rw [bind_assoc'] at q4
          have hs4 : Sl X.K ⟨f4, upd W1.pv D (.lst vacc), o4⟩ l1 σ' := hs3.mono le4.tole0
          refine ⟨_, l1, S3, hs4, r4, Po.bindP (W := ⟨f4, W2.pv, o4⟩) q4 fun y S4 W5 vy H5 le5 r5 hvy q5 => ?_⟩
          have h5 : W5.pv = upd W1.pv D (.lst vacc) := le5.pv
          obtain ⟨f5, p5, o5⟩ := W5
          dsimp only at h5
          subst h5
          have le45 : W2.le ⟨f5, W2.pv, o5⟩ := le34.trans ⟨⟨le5.fz, le5.ro⟩, rfl⟩
          have a0 : Vis X.K ⟨f5, W1.pv, o5⟩ acc vacc := hacc.mono (W' := ⟨f5, W1.pv, o5⟩) ⟨le45.fz, le45.ro⟩
          split at q5
          · rename_i hz
            have hz' := of_decide_eq_true hz
            refine ⟨vacc, r5.pv _ _ upd_same, by rw [← hacc.length]; exact hz', rfl, hlt, ⟨f5, W1.pv, o5⟩, S4, acc ++ [y], vacc ++ [vy], le2.trans (by rw [← hpv]; exact le45), Rl.rehold (W := ⟨f5, W1.pv, o5⟩) r5, a0.app (.one (Vi.mono (W := ⟨f5, upd W1.pv D (.lst vacc), o5⟩) (W' := ⟨f5, W1.pv, o5⟩) ⟨Same.refl f5, [], by simp⟩ hvy)), ?_⟩
            rw [← hpv]; exact q5
          · exact q5.elim
  · have e : i = ds.length := by omega
    subst e
    refine .inl ⟨j2 (Nat.le_refl _), ?_⟩
    rw [List.drop_length, lcLoop] at q2
    rw [← hpv] at r2 hp1
    exact Po.finL hp1 r2 hacc q2

theorem lc_blk (C : Ctx T g ca CX E c X) {tg : List Nat} {tt : Bool} {et : Expr} {scope : Scope} (ok : blkC c.N ⟨.function, c.names, false, false, []⟩ scope ((tgL tt et).zip tg) = true) : BlkOk X.N X.env.scope scope ((tgL tt et).zip tg) := by
  have q := blkOk_by ok
  refine ⟨q.kind, q.uniq, by rw [C.N]; exact q.ix, fun y hy e => ?_, by rw [C.N]; exact q.own⟩
  have z := q.free y hy e
  rw [C.nm]
  exact z
theorem s_lc (C : Ctx T g ca CX E c X) {m : Bool} {tg : List Nat} {tt : Bool} {it elt cnd : Xp} {et ei ee : Expr} {ifs : List Expr} {scope : Scope}
    (hi : PI X et ei (Ti X.K ca E (evI g it))) (hs : noSet ei = true) (ok : blkC c.N ⟨.function, c.names, false, false, []⟩ scope ((tgL tt et).zip tg) = true) (hk : scope.kind = .function) (ht : chkT (inner c scope) tg tt et = true) (hl : (tgL tt et).length = tg.length)
    (he : ∀ s H C' cl fp, PE (X.blk s H scope (compEnvC scope cl C' X.env) fp) ee (Te X.K ca (fun _ => E0) (ev g elt))) (hc : ∀ s H C' cl fp, PTs (X.blk s H scope (compEnvC scope cl C' X.env) fp) ifs (Tt X.K ca (fun _ => E0) (evB g cnd))) :
    PE X (.ListComp ee [⟨et, ei, ifs, 0⟩] scope pos) (Te X.K ca E (ev g (.lc m tg tt it elt cnd))) :=
  PE.imp (pe_lc (own := (tgL tt et).zip tg) (g := Tg X.K ca tg tt) (tt := Tt X.K ca (fun _ => E0) (evB g cnd)) (te := Te X.K ca (fun _ => E0) (ev g elt)) C.calm (by rw [C.N]; exact C.nd) hi (lc_blk C ok) (fun s H C' cl fp => s_tgt (C.blk scope hk s H C' cl fp) ht) hc he (noset_for hs X.env)) fun σ H Q w => lc_sem C (tgl_zip hl) w

/-! ### what is walked -/
theorem i_seq {tg : Expr} (h : PE X x (Te X.K ca E (ev g a))) : PI X tg x (Ti X.K ca E (evI g (.seq a))) := by
  refine PI.imp (pi_any h) fun σ H R ⟨W, l, S, s, r, q⟩ => ⟨W, l, S, s, r, ?_⟩
  unfold evI at q
  rw [ev] at q
  exact q.bind fun d S1 W1 v H1 le1 r1 hv q1 => iter_of r1 hv q1
theorem i_rng1 (C : Ctx T g ca CX E c X) {tg : Expr} {w : Str} {p : Pos} (h1 : (w == nm "range") = true) (h2 : glB c w = true) (h3 : T.blts.contains "range" = true) (hc : chkE T c b x = true) (h : PE X x (Te X.K ca E (ev g b))) :
    PI X tg (.Call (.Name w p) [x] [] pos) (Ti X.K ca E (evI g (.rng1 b))) := by
  have e := eq_of_beq h1
  subst e
  obtain ⟨g1, g2, g3⟩ := C.gl h2
  have hm := C.blt _ (by simpa using h3)
  refine PI.imp (pi_range1 g1 hm (pa_cons h pa_nil (star_cons hc)) (star_cons hc)) fun σ H R ⟨W, l, S, s, r, q⟩ => ⟨W, l, S, s, r, ?_⟩
  unfold evI at q
  rw [ev, bind_assoc'] at q
  refine q.bind fun d S1 W1 v H1 le1 r1 hv q1 => ?_
  cases hv with
  | int j =>
    dsimp only at q1
    split at q1
    · rename_i hz
      have hz' := of_decide_eq_true hz
      refine ⟨j, rfl, hz'.1, hz'.2, ?_⟩
      have := q1 W1 (Itr 0 (j - 0).toNat) H1 (.refl _) r1 (itr_rng 0 j)
      rw [Int.sub_zero] at this
      exact this
    · exact q1.elim
  | _ => exact q1.elim
theorem i_rng (C : Ctx T g ca CX E c X) {tg : Expr} {w : Str} {p : Pos} (h1 : (w == nm "range") = true) (h2 : glB c w = true) (h3 : T.blts.contains "range" = true) (hc : chkE T c a x = true) (hc' : chkE T c b y = true) (h : PE X x (Te X.K ca E (ev g a))) (h' : PE X y (Te X.K ca E (ev g b))) :
    PI X tg (.Call (.Name w p) [x, y] [] pos) (Ti X.K ca E (evI g (.rng a b))) := by
  have e := eq_of_beq h1
  subst e
  obtain ⟨g1, g2, g3⟩ := C.gl h2
  have hm := C.blt _ (by simpa using h3)
  refine PI.imp (pi_range2 g1 hm (pa_cons h (pa_cons h' pa_nil (star_cons hc')) (star_cons hc)) (by rw [star_cons hc, star_cons hc']; rfl) (star_cons hc')) fun σ H R ⟨W, l, S, s, r, q⟩ => ⟨W, l, S, s, r, ?_⟩
  unfold evI at q
  rw [ev, bind_assoc'] at q
  refine q.bind fun d S1 W1 v H1 le1 r1 hv q1 => ⟨W1, l, S1, s.mono le1.tole0, r1, ?_⟩
  rw [bind_assoc'] at q1
  refine q1.bind fun e S2 W2 u H2 le2 r2 hu q2 => ?_
  cases hv with
  | int i =>
    cases hu with
    | int j =>
      dsimp only at q2
      split at q2
      · rename_i hz
        have hz' := of_decide_eq_true hz
        exact ⟨i, j, rfl, hz', q2 W2 _ H2 (.refl _) r2 (itr_rng i j)⟩
      · exact q2.elim
    | _ => exact q2.elim
  | _ => exact q2.elim

/-! ### dicts -/
def trsOf (K : PySem.W.Frag) (ca : String → Option Addr) (E : L2.St → XK) (g : Cfg) : List DK → Xps → List (TE × TE)
  | k :: ks, .cons e es => (tC (kV (kx k)), Te K ca E (ev g e)) :: trsOf K ca E g ks es
  | _, _ => []
theorem pps_of : ∀ {ks : List DK} {es : Xps} {keys : List (Option Expr)} {vals : List Expr}, AllE X X.K ca E g es vals → keysB ks keys = true → keys.length = vals.length → PPs X pos keys vals (trsOf X.K ca E g ks es)
  | [], es, [], [], h, _, _ => by cases h; exact pps_nil
  | [], _, [], _ :: _, _, _, hl => by simp at hl
  | [], _, _ :: _, _, _, hk, _ => Bool.noConfusion (show false = true from hk)
  | k :: _, _, [], _, _, hk, _ => by cases k <;> exact Bool.noConfusion (show false = true from hk)
  | _ :: _, _, _ :: _, [], _, _, hl => by simp at hl
  | k :: ks, _, key :: keys, v :: vals, .cons h1 _ h3, hk, hl => by
    cases k with
    | inl i =>
      cases key with
      | none => exact Bool.noConfusion (show false = true from hk)
      | some key =>
        cases key <;> first | (exact Bool.noConfusion (show false = true from hk)) | skip
        rename_i cn _ _
        cases cn <;> first | (exact Bool.noConfusion (show false = true from hk)) | skip
        rw [keysB, Bool.and_eq_true] at hk
        have e := eq_of_beq hk.1
        subst e
        exact pps_cons pe_int h1 (pps_of h3 hk.2 (by simpa using hl))
    | inr i =>
      cases key with
      | none => exact Bool.noConfusion (show false = true from hk)
      | some key =>
        cases key <;> first | (exact Bool.noConfusion (show false = true from hk)) | skip
        rename_i cn _ _
        cases cn <;> first | (exact Bool.noConfusion (show false = true from hk)) | skip
        rw [keysB, Bool.and_eq_true] at hk
        have e := eq_of_beq hk.1
        subst e
        exact pps_cons pe_str h1 (pps_of h3 hk.2 (by simpa using hl))
def Xps.len : Xps → Nat
  | .nil => 0
  | .cons _ es => es.len + 1
theorem pairs_sem {K : PySem.W.Frag} : ∀ {ks : List DK} {es : Xps} {W : Wd} {l : LEnv} {S : Store} {σ : L2.St} {H : Hp} {Q : List (V × V) → Hp → Prop}, es.len = ks.length → Sl K W l σ → Rl K ca W S H → Po K ca W (E σ) (Mw.Vis K) (fun vs H' => vs.length = ks.length ∧ Q ((ks.map fun k => kV (kx k)).zip vs) H') (evs g es l S) → tPairs (trsOf K ca E g ks es) σ H Q
  | [], .nil, W, l, S, σ, H, Q, _, s, r, q => by
    rw [evs] at q
    exact (q W [] H (.refl _) r .nil).2
  | _ :: _, .nil, W, l, S, σ, H, Q, hn, s, r, q => by simp [Xps.len] at hn
  | [], .cons e es, W, l, S, σ, H, Q, hn, s, r, q => by simp [Xps.len] at hn
  | k :: ks, .cons e es, W, l, S, σ, H, Q, hn, s, r, q => by
    rw [evs] at q
    refine ⟨W, l, S, s, r, q.bind fun d S1 W1 v H1 le1 r1 hv q1 => ?_⟩
    refine pairs_sem (by simpa [Xps.len] using hn) (s.mono le1.tole0) r1 (q1.bind fun xs S2 W2 vs H2 le2 r2 hvs q2 => ?_)
    obtain ⟨z1, z2⟩ := q2 W2 _ H2 (.refl _) r2 (.cons (hv.mono le2.tole0) hvs)
    exact ⟨by simpa using z1, z2⟩
theorem keysB_len : ∀ {ks : List DK} {es : List (Option Expr)}, keysB ks es = true → ks.length = es.length
  | [], [], _ => rfl
  | [], _ :: _, h => Bool.noConfusion (show false = true from h)
  | k :: _, [], h => by cases k <;> exact Bool.noConfusion (show false = true from h)
  | k :: ks, key :: keys, h => by
    cases k with
    | inl i =>
      cases key with
      | none => exact Bool.noConfusion (show false = true from h)
      | some key =>
        cases key <;> first | (exact Bool.noConfusion (show false = true from h)) | skip
        rename_i cn _ _
        cases cn <;> first | (exact Bool.noConfusion (show false = true from h)) | skip
        rw [keysB, Bool.and_eq_true] at h
        exact congrArg Nat.succ (keysB_len h.2)
    | inr i =>
      cases key with
      | none => exact Bool.noConfusion (show false = true from h)
      | some key =>
        cases key <;> first | (exact Bool.noConfusion (show false = true from h)) | skip
        rename_i cn _ _
        cases cn <;> first | (exact Bool.noConfusion (show false = true from h)) | skip
        rw [keysB, Bool.and_eq_true] at h
        exact congrArg Nat.succ (keysB_len h.2)
theorem keysB_some : ∀ {ks : List DK} {es : List (Option Expr)}, keysB ks es = true → es.all (·.isSome) = true
  | [], [], _ => rfl
  | [], _ :: _, h => Bool.noConfusion (show false = true from h)
  | k :: _, [], h => by cases k <;> exact Bool.noConfusion (show false = true from h)
  | k :: ks, key :: keys, h => by
    cases key with
    | none => cases k <;> exact Bool.noConfusion (show false = true from h)
    | some key =>
      have h' : keysB ks keys = true := by
        cases k <;> (cases key <;> first | (exact Bool.noConfusion (show false = true from h)) | skip) <;> (rename_i cn _ _; cases cn <;> first | (exact Bool.noConfusion (show false = true from h)) | (rw [keysB, Bool.and_eq_true] at h; exact h.2))
      rw [List.all_cons, keysB_some h']
      rfl
theorem allE_len : ∀ {es : Xps} {vals : List Expr}, AllE X X.K ca E g es vals → es.len = vals.length
  | _, _, .nil => rfl
  | _, _, .cons _ _ m => congrArg Nat.succ (allE_len m)
theorem zip_kv : ∀ (ks : List DK) (vs : List V), (ks.map fun k => kV (kx k)).zip vs = ((ks.map kx).zip vs).map fun kv => (kV kv.1, kv.2)
  | [], _ => rfl
  | _ :: _, [] => rfl
  | k :: ks, v :: vs => by
    simp only [List.map_cons, List.zip_cons_cons, List.map]
    rw [← zip_kv ks vs]
theorem s_dic (C : Ctx T g ca CX E c X) {m : Bool} {ks : List DK} {es : Xps} {keys : List (Option Expr)} {vals : List Expr} (ha : AllE X X.K ca E g es vals) (hk : keysB ks keys = true) (hl : keys.length = vals.length) (h15 : keys.length ≤ 15) : PE X (.Dict keys vals pos) (Te X.K ca E (ev g (.dic m ks es))) := by
  by_cases h0 : keys = []
  · subst h0
    cases vals with
    | cons _ _ => simp at hl
    | nil =>
      cases ha
      cases ks with
      | cons k _ => cases k <;> exact Bool.noConfusion (show false = true from hk)
      | nil =>
        refine PE.imp pe_dnewK fun σ H Q ⟨W, l, S, s, r, q⟩ => fun p hp => ?_
        rw [ev, evs] at q
        exact Po.mkD r .nil q p hp
  · refine PE.imp (pe_disp (pps_of ha hk hl) (keysB_some hk) hl h0 h15) fun σ H Q ⟨W, l, S, s, r, q⟩ => fun p hp => ?_
    rw [ev] at q
    have hp1 : W.pv p = none := r.pv.free hp
    refine pairs_sem (by rw [allE_len ha, ← hl, keysB_len hk]) (s.mono (W.le0_wp (upd W.pv p (.dK [])))) (r.hold hp (.dK [])) (q.bindP fun ds S1 W3 vs H3 le3 r3 hvs q3 => ?_)
    split at q3
    · rename_i hz
      obtain ⟨z1, z2⟩ := of_decide_eq_true hz
      have h3 : W3.pv = upd W.pv p (.dK []) := le3.pv
      obtain ⟨f3, p3, o3⟩ := W3
      dsimp only at h3
      subst h3
      have hlen : vs.length = ks.length := by rw [← hvs.length]; exact z1
      refine ⟨hlen, r3.pv _ _ upd_same, (ks.map kx).zip vs, zip_kv _ _, by rw [List.length_zip]; simp; omega, ?_⟩
      have hv : Vik X.K ⟨f3, W.pv, o3⟩ (dMerge [] (ks.zip ds)) (mergeK [] ((ks.map kx).zip vs)) := Vik.merge (Vik.zip (hvs.mono (W' := ⟨f3, W.pv, o3⟩) ⟨Same.refl f3, [], by simp⟩)) .nil
      exact Po.finD (W := ⟨f3, W.pv, o3⟩) hp1 (Rl.rehold (W := ⟨f3, W.pv, o3⟩) r3) hv q3
    · exact q3.elim
theorem dc_sem (_C : Ctx T g ca CX E c X) {m : Bool} {tg : List Nat} {tt : Bool} {it kx' elt : Xp} {own : List (Str × Nat)} (hl : own.map (·.2) = tg) {σ : L2.St} {H : Hp} {Q : VK} (w : Te X.K ca E (ev g (.dc m tg tt it kx' elt)) σ H Q) :
    tDc (Ti X.K ca E (evI g it)) (Tg X.K ca tg tt) tYes (Te X.K ca (fun _ => E0) (ev g kx')) (Te X.K ca (fun _ => E0) (ev g elt)) (own.map (·.2)) σ H Q := by
  obtain ⟨W, l, S, s, r, q⟩ := w
  refine ⟨W, l, S, s, r, ?_⟩
  rw [ev] at q
  rw [hl]
  refine q.bind fun ds S1 W1 J H1 le1 r1 hJ q1 => fun D hD => ?_
  have hp1 : W1.pv D = none := r1.pv.free hD
  refine ⟨fun i mm H => mm = ds.length - i ∧ i ≤ ds.length ∧ ∃ (W2 : Wd) (S2 : Store) (acc : List (DK × Mw.D)) (vacc : List (Key × V)), W1.le W2 ∧ Rl X.K ca (W2.wp (upd W1.pv D (.dK vacc))) S2 H ∧ Vik X.K W2 acc vacc ∧
    Po X.K ca W2 (E σ) (Vi X.K) Q ((dcLoop (fun l1 S2 => ((ev g kx' l1 S2).bind keyR).nox) (fun l1 S2 => (ev g elt l1 S2).nox) tg tt (wipeL l tg) (ds.drop i) acc S2).bind fun ys S2 => mkD m ys S2),
    ⟨_, rfl, Nat.zero_le _, W1, S1, [], [], .refl _, r1.hold hD _, .nil, q1⟩, ?_⟩
  rintro i mm H2 ⟨rfl, hi2, W2, S2, acc, vacc, le2, r2, hacc, q2⟩
  have hpv : W2.pv = W1.pv := le2.pv
  have l0 : W1.le0 (W2.wp (upd W1.pv D (.dK vacc))) := le2.tole0.trans (W2.le0_wp _)
  obtain ⟨j1, j2, j3⟩ := hJ _ S2 H2 i l0 r2
  by_cases hlt : i < ds.length
  · refine .inr ⟨j1 hlt, fun H' => _, fun H' h => ⟨ds.length - (i + 1), by omega, h⟩, fun x H' yl => ?_⟩
    obtain ⟨W3, d, le3, r3, hd, hv⟩ := j3 x H' hlt yl
    have ed : ds.drop i = d :: ds.drop (i + 1) := by
      rw [List.drop_eq_getElem_cons hlt]
      rw [List.getElem?_eq_getElem hlt] at hd
      cases hd; rfl
    rw [ed, dcLoop] at q2
    have h3 : W3.pv = upd W1.pv D (.dK vacc) := le3.pv
    obtain ⟨f3, p3, o3⟩ := W3
    dsimp only at h3
    subst h3
    have le23 : W2.le ⟨f3, W2.pv, o3⟩ := le3.of_wp
    cases hb : bindT tg tt d (wipeL l tg) with
    | none => rw [hb] at q2; exact q2.elim
    | some l1 =>
      rw [hb] at q2
      dsimp only at q2
      have s3 : Sl X.K ⟨f3, upd W1.pv D (.dK vacc), o3⟩ (wipeL l tg) (L2.wipe σ tg) := ((((s.mono le1.tole0).mono le2.tole0).mono (W2.le0_wp _)).mono le3.tole0).wipe tg
      refine ⟨_, wipeL l tg, S2, d, l1, s3, r3, hv, hb, fun σ' hs' hw => ⟨?_, ?_⟩⟩
      · rw [hw]
        have ww : ∀ (vs : List Nat) (σ : L2.St), L2.wipe (L2.wipe σ vs) vs = L2.wipe σ vs := by
          intro vs
          induction vs with
          | nil => intro σ; rfl
          | cons v vs ih =>
            intro σ
            show (L2.wipe ((L2.wipe σ vs).set v none) vs).set v none = (L2.wipe σ vs).set v none
            rw [wipe_set1, ih]
        exact ww tg σ
      · unfold tYes
        dsimp only
        rw [if_pos rfl]
        rw [bind_assoc'] at q2
        have hs3 : Sl X.K ⟨f3, upd W1.pv D (.dK vacc), o3⟩ l1 σ' := hs'
        have q2' : Po X.K ca ⟨f3, W2.pv, o3⟩ (E σ) (Vi X.K) Q ((ev g kx' l1 S2).nox.bind fun dk S3 => (keyR dk S3).bind fun k1 S3 => ((ev g elt l1 S3).nox.bind fun y S2 => if decide (acc.length < sizeLine) then dcLoop (fun l1 S2 => ((ev g kx' l1 S2).bind keyR).nox) (fun l1 S2 => (ev g elt l1 S2).nox) tg tt (wipeL l tg) (ds.drop (i + 1)) (dPut acc k1 y) S2 else .bad).bind fun ys S2 => mkD m ys S2) := by
          have q0 := q2.mono le23
          cases hz : ev g kx' l1 S2 with
          | ok dk S3 =>
            rw [hz] at q0
            cases hk : keyOf dk with
            | none =>
              have : ((R.ok dk S3).bind keyR).nox = .bad := by show (keyR dk S3).nox = _; unfold keyR; rw [hk]; rfl
              rw [this] at q0
              exact q0.elim
            | some k =>
              have e1 : ((R.ok dk S3).bind keyR).nox = .ok k S3 := by show (keyR dk S3).nox = _; unfold keyR; rw [hk]; rfl
              rw [e1] at q0
              have e2 : keyR dk S3 = .ok k S3 := by unfold keyR; rw [hk]
              show Po X.K ca _ _ _ _ ((keyR dk S3).bind _)
              rw [e2]
              exact q0
          | exc e S3 => rw [hz] at q0; exact q0.elim
          | bad => rw [hz] at q0; exact q0.elim
        refine ⟨_, l1, S2, hs3, r3, q2'.bindP fun dk S3 W4 b' H4 le4 r4 hdk q4 => ?_⟩
        have h4 : W4.pv = upd W1.pv D (.dK vacc) := le4.pv
        obtain ⟨f4, p4, o4⟩ := W4
        dsimp only at h4
        subst h4
        have le34 : W2.le ⟨f4, W2.pv, o4⟩ := le23.trans ⟨⟨le4.fz, le4.ro⟩, rfl⟩
        unfold keyR at q4
        cases hk : keyOf dk with
        | none => rw [hk] at q4; exact q4.elim
        | some k =>
          rw [hk] at q4
          have ekey := key_at hdk hk
          have q4 : Po X.K ca ⟨f4, W2.pv, o4⟩ (E σ) (Vi X.K) Q (((ev g elt l1 S3).nox.bind fun y S2 => if decide (acc.length < sizeLine) then dcLoop (fun l1 S2 => ((ev g kx' l1 S2).bind keyR).nox) (fun l1 S2 => (ev g elt l1 S2).nox) tg tt (wipeL l tg) (ds.drop (i + 1)) (dPut acc k y) S2 else .bad).bind fun ys S2 => mkD m ys S2) := q4
          rw [bind_assoc'] at q4
          have hs4 : Sl X.K ⟨f4, upd W1.pv D (.dK vacc), o4⟩ l1 σ' := hs3.mono le4.tole0
          refine ⟨_, l1, S3, hs4, r4, Po.bindP (W := ⟨f4, W2.pv, o4⟩) q4 fun y S4 W5 vy H5 le5 r5 hvy q5 => ?_⟩
          have h5 : W5.pv = upd W1.pv D (.dK vacc) := le5.pv
          obtain ⟨f5, p5, o5⟩ := W5
          dsimp only at h5
          subst h5
          have le45 : W2.le ⟨f5, W2.pv, o5⟩ := le34.trans ⟨⟨le5.fz, le5.ro⟩, rfl⟩
          have a0 : Vik X.K ⟨f5, W1.pv, o5⟩ acc vacc := hacc.mono (W' := ⟨f5, W1.pv, o5⟩) ⟨le45.fz, le45.ro⟩
          split at q5
          · rename_i hz
            have hz' := of_decide_eq_true hz
            refine ⟨vacc, _, ekey, r5.pv _ _ upd_same, by rw [← hacc.length]; exact hz', rfl, hlt, ⟨f5, W1.pv, o5⟩, S4, dPut acc k y, putK vacc (kx k) vy, le2.trans (by rw [← hpv]; exact le45), Rl.rehold (W := ⟨f5, W1.pv, o5⟩) r5, a0.put (Vi.mono (W := ⟨f5, upd W1.pv D (.dK vacc), o5⟩) (W' := ⟨f5, W1.pv, o5⟩) ⟨Same.refl f5, [], by simp⟩ hvy), ?_⟩
            rw [← hpv]; exact q5
          · exact q5.elim
  · have e : i = ds.length := by omega
    subst e
    refine .inl ⟨j2 (Nat.le_refl _), ?_⟩
    rw [List.drop_length, dcLoop] at q2
    rw [← hpv] at r2 hp1
    exact Po.finD hp1 r2 hacc q2
theorem s_dc (C : Ctx T g ca CX E c X) {m : Bool} {tg : List Nat} {tt : Bool} {it kx' elt : Xp} {et ei ke ve : Expr} {scope : Scope}
    (hi : PI X et ei (Ti X.K ca E (evI g it))) (hs : noSet ei = true) (ok : blkC c.N ⟨.function, c.names, false, false, []⟩ scope ((tgL tt et).zip tg) = true) (hk : scope.kind = .function) (ht : chkT (inner c scope) tg tt et = true) (hl : (tgL tt et).length = tg.length)
    (hkk : ∀ s H C' cl fp, PE (X.blk s H scope (compEnvC scope cl C' X.env) fp) ke (Te X.K ca (fun _ => E0) (ev g kx'))) (he : ∀ s H C' cl fp, PE (X.blk s H scope (compEnvC scope cl C' X.env) fp) ve (Te X.K ca (fun _ => E0) (ev g elt))) :
    PE X (.DictComp ke ve [⟨et, ei, [], 0⟩] scope pos) (Te X.K ca E (ev g (.dc m tg tt it kx' elt))) :=
  PE.imp (pe_dc (own := (tgL tt et).zip tg) (g := Tg X.K ca tg tt) (tt := tYes) (tk := Te X.K ca (fun _ => E0) (ev g kx')) (tv := Te X.K ca (fun _ => E0) (ev g elt)) C.calm (by rw [C.N]; exact C.nd) hi (lc_blk C ok) (fun s H C' cl fp => s_tgt (C.blk scope hk s H C' cl fp) ht) (fun _ _ _ _ _ => pts_nil) hkk he (noset_for hs X.env)) fun σ H Q w => dc_sem C (tgl_zip hl) w
/-! ### enumerate -/
theorem enu_get (ds : List Mw.D) (i : Nat) : (enuL ds)[i]? = ds[i]?.map fun d => D.tup [.int (i : Nat), d] := by
  unfold enuL
  rw [List.getElem?_map, List.getElem?_zipIdx]
  cases ds[i]? <;> simp
theorem enu_len (ds : List Mw.D) : (enuL ds).length = ds.length := by simp [enuL]
theorem itr_enu {K : PySem.W.Frag} {W : Wd} {ds : List Mw.D} {vs : List V} {J : It} (h : Mw.Vis K W ds vs) (ok : ∀ (W2 : Wd) (S : Store) (H : Hp) (i : Nat), W.le0 W2 → Rl K ca W2 S H → (i < vs.length → J.go i H) ∧ (vs.length ≤ i → J.stop i H) ∧ ∀ x H', i < vs.length → J.yld i H x H' → ∃ T y, x = .ref T ∧ H T = none ∧ H' = upd H T (.tup [.int (i : Nat), y]) ∧ vs[i]? = some y) : ItR K ca W (enuL ds) J := by
  intro W2 S H i le r
  obtain ⟨o1, o2, o3⟩ := ok W2 S H i le r
  rw [enu_len, h.length]
  refine ⟨o1, o2, fun x H' hi y => ?_⟩
  obtain ⟨T, z, rfl, hT, rfl, hy⟩ := o3 x H' hi y
  have hi' : i < ds.length := by rw [h.length]; exact hi
  obtain ⟨v', e1, e2⟩ := h.get (List.getElem?_eq_getElem hi')
  rw [hy] at e1
  cases e1
  obtain ⟨le3, r3⟩ := r.freeze hT (.tup [.int (i : Nat), z])
  refine ⟨_, .tup [.int (i : Nat), ds[i]], le3, r3, ?_, .tup (.of upd_same) (.cons (.int _) (.one ((e2.mono le).mono le3.tole0)))⟩
  rw [enu_get, List.getElem?_eq_getElem hi']
  rfl
theorem i_enu (C : Ctx T g ca CX E c X) {elts : List Expr} {kk : Nat} {tpos : Pos} {w : Str} {p : Pos} (h1 : (w == nm "enumerate") = true) (h2 : glB c w = true) (h3 : T.blts.contains "enumerate" = true) (hc : chkE T c a x = true) (h : PE X x (Te X.K ca E (ev g a))) :
    PI X (.Tuple elts kk tpos) (.Call (.Name w p) [x] [] pos) (Ti X.K ca E (evI g (.enu a))) := by
  have e := eq_of_beq h1
  subst e
  obtain ⟨g1, g2, g3⟩ := C.gl h2
  have hm := C.blt _ (by simpa using h3)
  refine PI.imp (pi_enumA g1 hm (pa_cons h pa_nil (star_cons hc)) (star_cons hc)) fun σ H R ⟨W, l, S, s, r, q⟩ => ⟨W, l, S, s, r, ?_⟩
  unfold evI at q
  rw [ev, bind_assoc'] at q
  refine q.bind fun d S1 W1 v H1 le1 r1 hv q1 => ?_
  cases hv with
  | @lst ad vs ds hs hvs =>
    refine ⟨ad, vs, rfl, .inl ⟨.of (r1.fz _ _ hs), q1 W1 _ H1 (.refl _) r1 (itr_enu hvs fun W2 S H i le r => ?_)⟩⟩
    have hq : SqL X.K H ad vs := .of (r.fz _ _ (le.fz _ _ hs))
    refine ⟨fun hi => ⟨vs, vs[i], hq, List.getElem?_eq_getElem hi⟩, fun hi => ⟨vs, hq, hi⟩, fun x H' hi y => ?_⟩
    obtain ⟨T, z, e1, e2, e3, e4⟩ := y
    exact ⟨T, z, e1, e2, e3, e4 vs hq⟩
  | @tup ad vs ds hs hvs =>
    refine ⟨ad, vs, rfl, .inr ⟨sqt_mono r1.fz hs, q1 W1 _ H1 (.refl _) r1 (itr_enu hvs fun W2 S H i le r => ?_)⟩⟩
    have hq : SqT X.K H ad vs := sqt_mono r.fz (sqt_mono le.fz hs)
    refine ⟨fun hi => ⟨vs, vs[i], hq, List.getElem?_eq_getElem hi⟩, fun hi => ⟨vs, hq, hi⟩, fun x H' hi y => ?_⟩
    obtain ⟨T, z, e1, e2, e3, e4⟩ := y
    exact ⟨T, z, e1, e2, e3, e4 vs hq⟩
  | _ => exact q1.elim

/-! ### ALL EXPRESSIONS -/
/-- the shapes whose test is not their value's truth -/
def plainT : Expr → Bool
  | .UnaryOp .Not _ _ => false
  | .BoolOp _ _ _ => false
  | .IfExp _ _ _ _ => false
  | .Compare _ _ _ _ => false
  | _ => true
theorem plain_test {e : Expr} (h : plainT e = true) (env : Env) : ∀ whole, isTrue e env whole = (do let v ← whole; standAt e.pos; holding [v] (truthy v)) := by
  intro wh
  cases e <;> first | rfl | (exact Bool.noConfusion (show false = true from h)) | skip
  rename_i op x p
  cases op <;> first | rfl | (exact Bool.noConfusion (show false = true from h))
theorem both {p : Xp} {e : Expr} (q : PE X e (Te X.K ca E (ev g p))) (h : plainT e = true) : PE X e (Te X.K ca E (ev g p)) ∧ PT X e (Tt X.K ca E (evB g p)) := ⟨q, tt_of q (plain_test h _)⟩
theorem t_ite {q1 : Xp} (h1 : PT X x (Tt X.K ca E (evB g q1))) (h2 : PT X y (Tt X.K ca E (evB g a))) (h3 : PT X z (Tt X.K ca E (evB g b))) : PT X (.IfExp x y z pos) (Tt X.K ca E (evB g (.ite q1 a b))) := by
  refine ⟨fun pins s σ H Q I ⟨W, l, S, sl, r, q⟩ => ?_⟩
  rw [arm_isTrue_IfExp]
  unfold evB at q
  rw [ev, bind_assoc'] at q
  refine wpAny_bind (thn (h1.run pins s σ H _ I ⟨W, l, S, sl, r, q.bind (Q' := fun kb H1 => if kb = true then Tt X.K ca E (evB g a) σ H1 Q else Tt X.K ca E (evB g b) σ H1 Q) fun k S1 W1 k' H1 le1 r1 e q1 => ?_⟩) fun d s1 ⟨H1, I1, q1⟩ => ?_)
  · subst e
    cases k' with
    | true => rw [if_pos rfl] at q1 ⊢; exact ⟨W1, l, S1, sl.mono le1.tole0, r1, q1⟩
    | false => rw [if_neg Bool.false_ne_true] at q1 ⊢; exact ⟨W1, l, S1, sl.mono le1.tole0, r1, q1⟩
  · cases d with
    | true => exact h2.run pins s1 σ H1 Q I1 q1
    | false => exact h3.run pins s1 σ H1 Q I1 q1
mutual
theorem sndE : ∀ (p : Xp) (e : Expr) {E : L2.St → XK} {c : Sc} {X : Cx}, Ctx T g ca CX E c X → chkE T c p e = true → PE X e (Te X.K ca E (ev g p)) ∧ PT X e (Tt X.K ca E (evB g p))
  | .nop, e, E, c, X, C, h => by cases e <;> exact Bool.noConfusion (show false = true from h)
  | .var i, e, E, c, X, C, h => by
    cases e <;> first | (exact Bool.noConfusion (show false = true from h)) | skip
    exact both (s_var C h) rfl
  | .con d, e, E, c, X, C, h => by
    cases e <;> first | (exact Bool.noConfusion (show false = true from h)) | skip
    exact both (s_con h) rfl
  | .glb x d, e, E, c, X, C, h => by
    cases e <;> first | (exact Bool.noConfusion (show false = true from h)) | skip
    rw [chkE, Bool.and_eq_true, Bool.and_eq_true] at h
    exact both (s_glb C h.1.1 h.1.2 h.2) rfl
  | .tup es, e, E, c, X, C, h => by
    cases e <;> first | (exact Bool.noConfusion (show false = true from h)) | skip
    rw [chkE] at h
    exact both (s_tup (a_all (sndEs es _ C h) h)) rfl
  | .lst m es, e, E, c, X, C, h => by
    cases e <;> first | (exact Bool.noConfusion (show false = true from h)) | skip
    rw [chkE] at h
    exact both (s_lst (a_all (sndEs es _ C h) h)) rfl
  | .dic m ks es, e, E, c, X, C, h => by
    cases e <;> first | (exact Bool.noConfusion (show false = true from h)) | skip
    rw [chkE, Bool.and_eq_true, Bool.and_eq_true] at h
    obtain ⟨⟨h1, h2⟩, h3⟩ := h
    obtain ⟨h4, h5⟩ := of_decide_eq_true h3
    exact both (s_dic C (sndEs es _ C h2) h1 h4 h5) rfl
  | .bin m op a b, e, E, c, X, C, h => by
    cases e <;> first | (exact Bool.noConfusion (show false = true from h)) | skip
    rw [chkE, Bool.and_eq_true, Bool.and_eq_true] at h
    have e := eq_of_beq h.1.1
    subst e
    exact both (s_bin (sndE a _ C h.1.2).1 (sndE b _ C h.2).1) rfl
  | .neg a, e, E, c, X, C, h => by
    cases e <;> first | (exact Bool.noConfusion (show false = true from h)) | skip
    rename_i op x p
    cases op <;> first | (exact Bool.noConfusion (show false = true from h)) | skip
    rw [chkE] at h
    exact both (s_neg (sndE a _ C h).1) rfl
  | .cmp op a b, e, E, c, X, C, h => by
    cases e <;> first | (exact Bool.noConfusion (show false = true from h)) | skip
    rename_i x ops ys p
    match ops, ys, h with
    | [], _, h => exact Bool.noConfusion (show false = true from h)
    | _ :: _ :: _, _, h => exact Bool.noConfusion (show false = true from h)
    | [_], [], h => exact Bool.noConfusion (show false = true from h)
    | [_], _ :: _ :: _, h => exact Bool.noConfusion (show false = true from h)
    | [op'], [y], h =>
      rw [chkE, Bool.and_eq_true, Bool.and_eq_true, Bool.and_eq_true] at h
      have e := eq_of_beq h.1.1.1
      subst e
      have h1 := (sndE a _ C h.1.2).1
      have h2 := (sndE b _ C h.2).1
      exact ⟨s_cmp C h.1.1.2 h1 h2, t_cmp C h.1.1.2 h1 h2⟩
  | .chn op op' a b d, e, E, c, X, C, h => by
    cases e <;> first | (exact Bool.noConfusion (show false = true from h)) | skip
    rename_i x ops ys p
    match ops, ys, h with
    | [], _, h => exact Bool.noConfusion (show false = true from h)
    | [_], _, h => exact Bool.noConfusion (show false = true from h)
    | _ :: _ :: _ :: _, _, h => exact Bool.noConfusion (show false = true from h)
    | [_, _], [], h => exact Bool.noConfusion (show false = true from h)
    | [_, _], [_], h => exact Bool.noConfusion (show false = true from h)
    | [_, _], _ :: _ :: _ :: _, h => exact Bool.noConfusion (show false = true from h)
    | [o1, o2], [y, z], h =>
      simp only [chkE, Bool.and_eq_true] at h
      obtain ⟨⟨⟨⟨⟨⟨e1, e2⟩, k1⟩, k2⟩, k3⟩, n1⟩, n2⟩ := h
      have e1 := eq_of_beq e1
      have e2 := eq_of_beq e2
      subst e1 e2
      have h1 := (sndE a _ C k1).1
      have h2 := (sndE b _ C k2).1
      have h3 := (sndE d _ C k3).1
      exact ⟨s_chn C n1 n2 h1 h2 h3, t_chn C n1 n2 h1 h2 h3⟩
  | .and es, e, E, c, X, C, h => by
    cases e <;> first | (exact Bool.noConfusion (show false = true from h)) | skip
    rename_i op fs p
    cases op <;> first | (exact Bool.noConfusion (show false = true from h)) | skip
    rw [chkE] at h
    have q := sndEs es _ C h
    exact ⟨PE.imp (s_and q) fun σ H Q ⟨W, l, S, s, r, q⟩ => ⟨W, l, S, s, r, by rw [ev] at q; exact q⟩, PT.imp (t_and q).pt fun σ H Q ⟨W, l, S, s, r, q⟩ => ⟨W, l, S, s, r, by unfold evB at q; rw [ev] at q; exact q⟩⟩
  | .or es, e, E, c, X, C, h => by
    cases e <;> first | (exact Bool.noConfusion (show false = true from h)) | skip
    rename_i op fs p
    cases op <;> first | (exact Bool.noConfusion (show false = true from h)) | skip
    rw [chkE] at h
    have q := sndEs es _ C h
    exact ⟨PE.imp (s_or q) fun σ H Q ⟨W, l, S, s, r, q⟩ => ⟨W, l, S, s, r, by rw [ev] at q; exact q⟩, PT.imp (t_or q).pt fun σ H Q ⟨W, l, S, s, r, q⟩ => ⟨W, l, S, s, r, by unfold evB at q; rw [ev] at q; exact q⟩⟩
  | .not a, e, E, c, X, C, h => by
    cases e <;> first | (exact Bool.noConfusion (show false = true from h)) | skip
    rename_i op x p
    cases op <;> first | (exact Bool.noConfusion (show false = true from h)) | skip
    rw [chkE] at h
    have q := sndE a _ C h
    exact ⟨s_not q.1, t_not q.2⟩
  | .ite q a b, e, E, c, X, C, h => by
    cases e <;> first | (exact Bool.noConfusion (show false = true from h)) | skip
    rw [chkE, Bool.and_eq_true, Bool.and_eq_true] at h
    have h1 := sndE q _ C h.1.1
    have h2 := sndE a _ C h.1.2
    have h3 := sndE b _ C h.2
    exact ⟨s_ite h1.2 h2.1 h3.1, t_ite h1.2 h2.2 h3.2⟩
  | .idx a b, e, E, c, X, C, h => by
    cases e <;> first | (exact Bool.noConfusion (show false = true from h)) | skip
    rw [chkE, Bool.and_eq_true, Bool.and_eq_true] at h
    exact both (s_idx C h.1.1 (sndE a _ C h.1.2).1 (sndE b _ C h.2).1) rfl
  | .slc m a lo hi, e, E, c, X, C, h => by
    cases e <;> first | (exact Bool.noConfusion (show false = true from h)) | skip
    rename_i x y p
    cases y <;> first | (exact Bool.noConfusion (show false = true from h)) | skip
    rename_i l hh st p2
    cases st <;> first | (exact Bool.noConfusion (show false = true from h)) | skip
    unfold chkE at h
    rw [Bool.and_eq_true, Bool.and_eq_true] at h
    obtain ⟨⟨h1, h2⟩, h3⟩ := h
    refine both (s_slc (sndE a _ C h1).1 ?_ ?_) rfl
    · cases l with
      | none => exact o_none h2
      | some e => rw [Bool.and_eq_true] at h2; exact o_some h2.1 (sndE lo _ C h2.2).1
    · cases hh with
      | none => exact o_none h3
      | some e => rw [Bool.and_eq_true] at h3; exact o_some h3.1 (sndE hi _ C h3.2).1
  | .call f dfl es, e, E, c, X, C, h => by
    cases e <;> first | (exact Bool.noConfusion (show false = true from h)) | skip
    rename_i fn args kws p
    cases fn <;> first | (exact Bool.noConfusion (show false = true from h)) | skip
    cases kws <;> first | (exact Bool.noConfusion (show false = true from h)) | skip
    simp only [chkE, Bool.and_eq_true] at h
    obtain ⟨⟨⟨h1, h2⟩, h3⟩, h4⟩ := h
    exact both (s_call C h1 h2 h4 h3 (a_all (sndEs es _ C h3) h3)) rfl
  | .blt f m es, e, E, c, X, C, h => by
    cases e <;> first | (exact Bool.noConfusion (show false = true from h)) | skip
    rename_i fn args kws p
    cases fn <;> first | (exact Bool.noConfusion (show false = true from h)) | skip
    cases kws <;> first | (exact Bool.noConfusion (show false = true from h)) | skip
    simp only [chkE, Bool.and_eq_true] at h
    obtain ⟨⟨⟨⟨⟨h1, h2⟩, h3⟩, h4⟩, h5⟩, h6⟩ := h
    exact both (s_blt C h1 h2 h6 (by intro e; subst e; exact Bool.noConfusion (show false = true from h3)) h4 h5 (a_all (sndEs es _ C h4) h4)) rfl
  | .isi a ts, e, E, c, X, C, h => by
    cases e <;> first | (exact Bool.noConfusion (show false = true from h)) | skip
    rename_i fn args kws p
    cases fn <;> first | (exact Bool.noConfusion (show false = true from h)) | skip
    rename_i f p1
    match args, kws, h with
    | [], _, h => exact Bool.noConfusion (show false = true from h)
    | [_], _, h => exact Bool.noConfusion (show false = true from h)
    | _ :: _ :: _ :: _, _, h => exact Bool.noConfusion (show false = true from h)
    | [_, _], _ :: _, h => exact Bool.noConfusion (show false = true from h)
    | [x, t], [], h =>
      unfold chkE at h
      simp only [Bool.and_eq_true] at h
      obtain ⟨⟨⟨⟨h1, h2⟩, h3⟩, h4⟩, h5⟩ := h
      have hx := (sndE a _ C h4).1
      split at h5
      · simp only [Bool.and_eq_true] at h5
        obtain ⟨⟨⟨k1, k2⟩, k3⟩, k4⟩ := h5
        exact both (s_isi1 C h1 h2 h3 h4 hx k1 k2 k3 k4) rfl
      · simp only [Bool.and_eq_true] at h5
        obtain ⟨⟨⟨⟨⟨⟨⟨k1, k2⟩, k3⟩, k4⟩, j1⟩, j2⟩, j3⟩, j4⟩ := h5
        exact both (s_isi2 C h1 h2 h3 h4 hx k1 k2 k3 k4 j1 j2 j3 j4) rfl
      · exact Bool.noConfusion h5
  | .mtd f o es, e, E, c, X, C, h => by
    cases e <;> first | (exact Bool.noConfusion (show false = true from h)) | skip
    rename_i fn args kws p
    cases fn <;> first | (exact Bool.noConfusion (show false = true from h)) | skip
    cases kws <;> first | (exact Bool.noConfusion (show false = true from h)) | skip
    simp only [chkE, Bool.and_eq_true] at h
    obtain ⟨⟨⟨⟨⟨⟨h1, h2⟩, h3⟩, h4⟩, h5⟩, h6⟩, h7⟩ := h
    exact both (s_mtd C h1 h2 h3 h4 (of_decide_eq_true h5) h7 (sndE o _ C h6).1 (a_all (sndEs es _ C h7) h7)) rfl
  | .umt f o es, e, E, c, X, C, h => by
    cases e <;> first | (exact Bool.noConfusion (show false = true from h)) | skip
    rename_i fn args kws p
    cases fn <;> first | (exact Bool.noConfusion (show false = true from h)) | skip
    cases kws <;> first | (exact Bool.noConfusion (show false = true from h)) | skip
    simp only [chkE, Bool.and_eq_true] at h
    obtain ⟨⟨⟨⟨⟨⟨h1, h2⟩, h3⟩, h4⟩, h5⟩, h6⟩, h7⟩ := h
    exact both (s_umt C h1 h2 h3 (of_decide_eq_true h4) h5 h7 (sndE o _ C h6).1 (a_all (sndEs es _ C h7) h7)) rfl
  | .mk K' es, e, E, c, X, C, h => by
    cases e <;> first | (exact Bool.noConfusion (show false = true from h)) | skip
    rename_i fn args kws p
    cases fn <;> first | (exact Bool.noConfusion (show false = true from h)) | skip
    cases kws <;> first | (exact Bool.noConfusion (show false = true from h)) | skip
    simp only [chkE, Bool.and_eq_true] at h
    obtain ⟨⟨⟨h1, h2⟩, h3⟩, h4⟩ := h
    exact both (s_mk C h1 h2 h3 h4 (a_all (sndEs es _ C h4) h4)) rfl
  | .fld o f, e, E, c, X, C, h => by
    cases e <;> first | (exact Bool.noConfusion (show false = true from h)) | skip
    simp only [chkE, Bool.and_eq_true] at h
    obtain ⟨⟨⟨h1, h2⟩, h3⟩, h4⟩ := h
    exact both (s_fld C h1 h2 h3 (sndE o _ C h4).1) rfl
  | .lc m tg tt it elt cnd, e, E, c, X, C, h => by
    cases e <;> first | (exact Bool.noConfusion (show false = true from h)) | skip
    rename_i ee gens scope p
    match gens, h with
    | [], h => exact Bool.noConfusion (show false = true from h)
    | ⟨_, _, _, as⟩ :: _ :: _, h =>
      match as, h with
      | .ofNat 0, h => exact Bool.noConfusion (show false = true from h)
      | .ofNat (n + 1), h => exact Bool.noConfusion (show false = true from h)
      | .negSucc n, h => exact Bool.noConfusion (show false = true from h)
    | [⟨et, ei, ifs, as⟩], h =>
      have has : as = 0 := by
        match as, h with
        | .ofNat 0, h => rfl
        | .ofNat (n + 1), h => exact Bool.noConfusion (show false = true from h)
        | .negSucc n, h => exact Bool.noConfusion (show false = true from h)
      subst has
      unfold chkE at h
      simp only [Bool.and_eq_true] at h
      obtain ⟨⟨⟨⟨⟨⟨h1, h2⟩, h3⟩, h4⟩, h5⟩, h6⟩, h7⟩ := h
      have hk : scope.kind = .function := (blkOk_by h3).kind
      refine both (s_lc C (sndI it ei et tt C h1 h4) h2 h3 hk h4 (of_decide_eq_true h5) (fun s H C' cl fp => (sndE elt _ (C.blk scope hk s H C' cl fp) h6).1) (fun s H C' cl fp => ?_)) rfl
      split at h7
      · split at h7
        · refine ⟨fun pins s σ H Q I w => pts_nil.run pins s σ H Q I ?_⟩
          obtain ⟨W, l, S, s, r, q⟩ := w
          unfold evB at q
          rw [ev] at q
          exact q W true H (.refl _) r rfl
        · exact Bool.noConfusion h7
      · exact pts_one (sndE cnd _ (C.blk scope hk s H C' cl fp) h7).2
      · exact Bool.noConfusion h7
  | .dc m tg tt it k v, e, E, c, X, C, h => by
    cases e <;> first | (exact Bool.noConfusion (show false = true from h)) | skip
    rename_i ke ve gens scope p
    match gens, h with
    | [], h => exact Bool.noConfusion (show false = true from h)
    | ⟨_, _, ifs, as⟩ :: _ :: _, h =>
      cases ifs with
      | nil => match as, h with
        | .ofNat 0, h => exact Bool.noConfusion (show false = true from h)
        | .ofNat (n + 1), h => exact Bool.noConfusion (show false = true from h)
        | .negSucc n, h => exact Bool.noConfusion (show false = true from h)
      | cons _ _ => exact Bool.noConfusion (show false = true from h)
    | [⟨et, ei, ifs, as⟩], h =>
      cases ifs with
      | cons _ _ => exact Bool.noConfusion (show false = true from h)
      | nil =>
        have has : as = 0 := by
          match as, h with
          | .ofNat 0, h => rfl
          | .ofNat (n + 1), h => exact Bool.noConfusion (show false = true from h)
          | .negSucc n, h => exact Bool.noConfusion (show false = true from h)
        subst has
        unfold chkE at h
        simp only [Bool.and_eq_true] at h
        obtain ⟨⟨⟨⟨⟨⟨h1, h2⟩, h3⟩, h4⟩, h5⟩, h6⟩, h7⟩ := h
        have hk : scope.kind = .function := (blkOk_by h3).kind
        exact both (s_dc C (sndI it ei et tt C h1 h4) h2 h3 hk h4 (of_decide_eq_true h5) (fun s H C' cl fp => (sndE k _ (C.blk scope hk s H C' cl fp) h6).1) (fun s H C' cl fp => (sndE v _ (C.blk scope hk s H C' cl fp) h7).1)) rfl
  | .seq a, e, E, c, X, C, h => by cases e <;> exact Bool.noConfusion (show false = true from h)
  | .rng1 a, e, E, c, X, C, h => by cases e <;> exact Bool.noConfusion (show false = true from h)
  | .rng a b, e, E, c, X, C, h => by cases e <;> exact Bool.noConfusion (show false = true from h)
  | .enu a, e, E, c, X, C, h => by cases e <;> exact Bool.noConfusion (show false = true from h)
theorem sndEs : ∀ (ps : Xps) (es : List Expr) {E : L2.St → XK} {c : Sc} {X : Cx}, Ctx T g ca CX E c X → chkEs T c ps es = true → AllE X X.K ca E g ps es
  | .nil, [], E, c, X, C, h => .nil
  | .nil, _ :: _, E, c, X, C, h => Bool.noConfusion (show false = true from h)
  | .cons _ _, [], E, c, X, C, h => Bool.noConfusion (show false = true from h)
  | .cons p ps, e :: es, E, c, X, C, h => by
    rw [chkEs, Bool.and_eq_true] at h
    have q := sndE p e C h.1
    exact .cons q.1 q.2 (sndEs ps es C h.2)
theorem sndI : ∀ (p : Xp) (e et : Expr) (tt : Bool) {E : L2.St → XK} {c : Sc} {X : Cx} {c' : Sc} {tg : List Nat}, Ctx T g ca CX E c X → chkI T c p e tt = true → chkT c' tg tt et = true → PI X et e (Ti X.K ca E (evI g p))
  | .seq a, e, et, tt, E, c, X, c', tg, C, h, h' => i_seq (sndE a e C (by rw [chkI] at h; exact h)).1
  | .rng1 b, e, et, tt, E, c, X, c', tg, C, h, h' => by
    cases e <;> first | (exact Bool.noConfusion (show false = true from h)) | skip
    rename_i fn args kws p
    cases fn <;> first | (exact Bool.noConfusion (show false = true from h)) | skip
    match args, kws, h with
    | [], _, h => exact Bool.noConfusion (show false = true from h)
    | _ :: _ :: _, _, h => exact Bool.noConfusion (show false = true from h)
    | [_], _ :: _, h => exact Bool.noConfusion (show false = true from h)
    | [x], [], h =>
      rw [chkI] at h
      simp only [Bool.and_eq_true] at h
      obtain ⟨⟨⟨h1, h2⟩, h3⟩, h4⟩ := h
      exact i_rng1 C h1 h2 h3 h4 (sndE b _ C h4).1
  | .rng a b, e, et, tt, E, c, X, c', tg, C, h, h' => by
    cases e <;> first | (exact Bool.noConfusion (show false = true from h)) | skip
    rename_i fn args kws p
    cases fn <;> first | (exact Bool.noConfusion (show false = true from h)) | skip
    match args, kws, h with
    | [], _, h => exact Bool.noConfusion (show false = true from h)
    | [_], _, h => exact Bool.noConfusion (show false = true from h)
    | _ :: _ :: _ :: _, _, h => exact Bool.noConfusion (show false = true from h)
    | [_, _], _ :: _, h => exact Bool.noConfusion (show false = true from h)
    | [x, y], [], h =>
      rw [chkI] at h
      simp only [Bool.and_eq_true] at h
      obtain ⟨⟨⟨⟨h1, h2⟩, h3⟩, h4⟩, h5⟩ := h
      exact i_rng C h1 h2 h3 h4 h5 (sndE a _ C h4).1 (sndE b _ C h5).1
  | .nop, e, et, tt, E, c, X, c', tg, C, h, h' => Bool.noConfusion (show false = true from h)
  | .var _, e, et, tt, E, c, X, c', tg, C, h, h' => Bool.noConfusion (show false = true from h)
  | .con _, e, et, tt, E, c, X, c', tg, C, h, h' => Bool.noConfusion (show false = true from h)
  | .glb _ _, e, et, tt, E, c, X, c', tg, C, h, h' => Bool.noConfusion (show false = true from h)
  | .tup _, e, et, tt, E, c, X, c', tg, C, h, h' => Bool.noConfusion (show false = true from h)
  | .lst _ _, e, et, tt, E, c, X, c', tg, C, h, h' => Bool.noConfusion (show false = true from h)
  | .dic _ _ _, e, et, tt, E, c, X, c', tg, C, h, h' => Bool.noConfusion (show false = true from h)
  | .bin _ _ _ _, e, et, tt, E, c, X, c', tg, C, h, h' => Bool.noConfusion (show false = true from h)
  | .neg _, e, et, tt, E, c, X, c', tg, C, h, h' => Bool.noConfusion (show false = true from h)
  | .cmp _ _ _, e, et, tt, E, c, X, c', tg, C, h, h' => Bool.noConfusion (show false = true from h)
  | .chn _ _ _ _ _, e, et, tt, E, c, X, c', tg, C, h, h' => Bool.noConfusion (show false = true from h)
  | .and _, e, et, tt, E, c, X, c', tg, C, h, h' => Bool.noConfusion (show false = true from h)
  | .or _, e, et, tt, E, c, X, c', tg, C, h, h' => Bool.noConfusion (show false = true from h)
  | .not _, e, et, tt, E, c, X, c', tg, C, h, h' => Bool.noConfusion (show false = true from h)
  | .ite _ _ _, e, et, tt, E, c, X, c', tg, C, h, h' => Bool.noConfusion (show false = true from h)
  | .idx _ _, e, et, tt, E, c, X, c', tg, C, h, h' => Bool.noConfusion (show false = true from h)
  | .slc _ _ _ _, e, et, tt, E, c, X, c', tg, C, h, h' => Bool.noConfusion (show false = true from h)
  | .call _ _ _, e, et, tt, E, c, X, c', tg, C, h, h' => Bool.noConfusion (show false = true from h)
  | .blt _ _ _, e, et, tt, E, c, X, c', tg, C, h, h' => Bool.noConfusion (show false = true from h)
  | .isi _ _, e, et, tt, E, c, X, c', tg, C, h, h' => Bool.noConfusion (show false = true from h)
  | .mtd _ _ _, e, et, tt, E, c, X, c', tg, C, h, h' => Bool.noConfusion (show false = true from h)
  | .umt _ _ _, e, et, tt, E, c, X, c', tg, C, h, h' => Bool.noConfusion (show false = true from h)
  | .fld _ _, e, et, tt, E, c, X, c', tg, C, h, h' => Bool.noConfusion (show false = true from h)
  | .lc _ _ _ _ _ _, e, et, tt, E, c, X, c', tg, C, h, h' => Bool.noConfusion (show false = true from h)
  | .dc _ _ _ _ _ _, e, et, tt, E, c, X, c', tg, C, h, h' => Bool.noConfusion (show false = true from h)
  | .mk _ _, e, et, tt, E, c, X, c', tg, C, h, h' => Bool.noConfusion (show false = true from h)
  | .enu a, e, et, tt, E, c, X, c', tg, C, h, h' => by
    cases e <;> first | (exact Bool.noConfusion (show false = true from h)) | skip
    rename_i fn args kws p
    cases fn <;> first | (exact Bool.noConfusion (show false = true from h)) | skip
    match args, kws, h with
    | [], _, h => exact Bool.noConfusion (show false = true from h)
    | _ :: _ :: _, _, h => exact Bool.noConfusion (show false = true from h)
    | [_], _ :: _, h => exact Bool.noConfusion (show false = true from h)
    | [x], [], h =>
      rw [chkI] at h
      simp only [Bool.and_eq_true] at h
      obtain ⟨⟨⟨⟨h0, h1⟩, h2⟩, h3⟩, h4⟩ := h
      subst h0
      unfold chkT at h'
      rw [if_pos rfl] at h'
      cases et <;> first | (exact Bool.noConfusion (show false = true from h')) | skip
      exact i_enu C h1 h2 h3 h4 (sndE a _ C h4).1
end
end
end Mw
/-! Mw, part J: statements. -/
namespace Mw
open PySem PySem.Spec PyProof.Rows L2
/-- what an exception's own field may hold -/
def XV (K : PySem.W.Frag) (H : Hp) (v : V) : Prop := (∃ i : Int, v = .int i ∧ i.natAbs.log2 < 1920) ∨ ∃ (a : Addr) (l : List Int), v = .ref a ∧ SqT K H a (l.map V.int) ∧ l.length ≤ 100 ∧ ∀ i ∈ l, i.natAbs.log2 < 1920
/-- what the __init__ of such a class keeps -/
def spXi (K : PySem.W.Frag) (A : Addr) (f : String) : Sp := fun vs H Q _ => ∃ (a : Addr) (v : V), vs = [.ref a, v] ∧ H a = some (exo a A none) ∧ XV K H v ∧ ∀ dx, H dx = none → dx ≠ a → Q .non (upd (upd H dx (exd dx [(Mw.nm f, v)])) a (exo a A (some dx)))
/-- what the top has of a class of exceptions: without an __init__ of its own, or with one that sets one field -/
def XcOk (CX : CXT) (X : Cx) (C : String) : Option String → Prop
  | none => ∃ (A : Addr) (bmB : List Value) (B newId initId : String), ExcBaseFacts B newId initId bmB ∧ PySem.W.excIn X.K A bmB newId = true ∧ X.mg (Mw.nm C) = some (.ref A) ∧ PySem.W.nsIn X.K mainGlobals (Mw.nm C) = some (some (.ref A)) ∧ PySem.W.keepIn X.K (.ref A) = true ∧ Raises X (.ref A)
  | some f => ∃ (A fI : Addr) (k : Nat) (fd : FuncData) (ps : List Str), PySem.W.nsIn X.K mainGlobals (Mw.nm C) = some (some (.ref A)) ∧ X.mg (Mw.nm C) = some (.ref A) ∧ OexC X.K A ∧ PySem.W.findIn X.K (.ref A) "__init__" = some (some (.ref fI)) ∧ PySem.W.typeIn X.K (.ref fI) = some (.type "function") ∧
    FnOk X.prog X.w X.K X.mg X.base CX k fI fd ps (spXi X.K A f) ∧ Room (k + 1) X.A ∧ Binds X.K fd ps []
structure CtxS (T : Tb) (g : Cfg) (ca : String → Option Addr) (CX : CXT) (E : L2.St → XK) (c : Sc) (X : Cx) : Prop extends Ctx T g ca CX E c X where
  own : PassesOwn (model X.prog X.w) X.A X.env X.xe
  top : c.blk = none
  cx : CX = L2.CX X.prog X.w
  tk : Takes X (fun cls d σ H => E σ cls d H)
  stk : X.stack = X.env :: X.outer
  frm : X.env.frame = some X.env.locals
  xcs : ∀ q ∈ T.xcs, g.xf q.1 = some q.2 ∧ XcOk CX X q.1 q.2
  hds : ∀ C ∈ T.hds, ∃ A, X.mg (Mw.nm C) = some (.ref A) ∧ PySem.W.nsIn X.K mainGlobals (Mw.nm C) = some (some (.ref A))
  sb : ∀ C C' b, g.sb C C' = some b → ∃ A A', PySem.W.nsIn X.K mainGlobals (Mw.nm C) = some (some (.ref A)) ∧ PySem.W.nsIn X.K mainGlobals (Mw.nm C') = some (some (.ref A')) ∧ PySem.W.exmOne X.K (.ref A) (.ref A') = some b

/-! ### the checker of statements -/
def isComp : Expr → Bool
  | .ListComp _ _ _ _ => true
  | .SetComp _ _ _ _ => true
  | .DictComp _ _ _ _ _ => true
  | _ => false
/-- name = [..]: is the new list bound at once? -/
def swB (c : Sc) (y : Str) (py pos : Pos) (scope : Scope) : Bool := (c.names.lookup y == some .local) && (py.line == pos.line) && !(scope.names.any fun (n, k) => n == y && (k == .local || k == .cell))
def asgOk (c : Sc) (y : Str) (py : Pos) : Expr → Bool
  | .ListComp _ _ _ _ => true
  | .SetComp _ _ _ _ => false
  | .DictComp _ _ _ _ _ => false
  | _ => true
def isTupE : Expr → Bool
  | .Tuple _ _ _ => true
  | _ => false
def isStar : Expr → Bool
  | .Starred _ _ => true
  | _ => false
def loc1 (c : Sc) (x : Str) : Bool := c.names.lookup x == some .local
def isRetN : Sms → Bool
  | .cons (.ret (.con .non)) .nil => true
  | _ => false
theorem isRetN_eq {s : Sms} (h : isRetN s = true) : s = .cons (.ret (.con .non)) .nil := by
  unfold isRetN at h
  split at h
  · rfl
  · cases h
/-- except x: return None -/
def hdlB : List PySem.ExceptHandler → Option Str
  | [.ExceptHandler (some (.Name x _)) none [.Return (some (.Constant .none _ _)) _] _] => some x
  | _ => none
mutual
def chkS (T : Tb) (c : Sc) : Sm → Stmt → Bool
  | .asg i e, .Assign [.Name x p] v _ => storeB c i x && asgOk c x p v && chkE T c e v
  | .unp is (.tup es), .Assign [.Tuple ts k p] (.Tuple vs k2 p2) _ => (tgB c is ts && vs.all (foldedForSure 8) && chkEs T c es vs) || (match is, ts, vs with
      | [i, j], [.Name x px, .Name y py], [a, b] => storeB c i x && storeB c j y && loc1 c x && loc1 c y && (i != j) && !(x == y) && (py.line == px.line) && !isStar a && !isStar b && !(foldedForSure 8 a && foldedForSure 8 b) && !(constantsAlone 8 a && constantsAlone 8 b) && chkEs T c es vs
      | _, _, _ => false)
  | .unp is e, .Assign [.Tuple ts k p] v _ => tgB c is ts && !isTupE v && chkE T c e v
  | .sset o i v, .Assign [.Subscript x y _] z _ => plainIxB y && chkE T c o x && chkE T c i y && chkE T c v z
  | .fset o f v, .Assign [.Attribute x n _] z _ => (n == nm f) && T.fls.contains f && chkE T c o x && chkE T c v z
  | .faug o f op v, .AugAssign (.Attribute x n _) op' z _ => (n == nm f) && T.fls.contains f && op == op' && chkE T c o x && chkE T c v z
  | .star i j e, .Assign [.Tuple [.Name x _, .Starred (.Name y _) _] _ _] v _ => storeB c i x && storeB c j y && !isTupE v && chkE T c e v
  | .aug i op e, .AugAssign (.Name x _) op' v _ => storeB c i x && op == op' && chkE T c e v
  | .exp e, .Expr v _ => !isComp v && chkE T c e v
  | .ret e, .Return (some v) _ => chkE T c e v
  | .ret (.con .non), .Return none _ => true
  | .ite q a b, .If t x y _ => chkE T c q t && chkSs T c a x && chkSs T c b y
  | .fr tg tt it body, .For t i b [] _ => noSet i && chkI T c it i tt && chkT c tg tt t && chkSs T c body b
  | .whl q body, .While t b [] _ => chkE T c q t && chkSs T c body b
  | .pass, .Pass _ => true
  | .brk, .Break _ => true
  | .cnt, .Continue _ => true
  | .rse _ _, _ => true
  | .rsX k es, .Raise (some (.Call (.Name x _) args [] _)) none _ => (x == nm k) && glB c x && (match T.xcs.lookup k, es, args with
      | some none, .nil, [.Constant (.str _) _ _] => true
      | some (some _), .cons e .nil, [a] => chkE T c e a
      | _, _, _ => false)
  | .tr k body suite, .Try b hs [] [] _ => isRetN suite && (match hdlB hs with
      | some x => (x == nm k) && glB c x && T.hds.contains k && chkSs T c body b
      | none => false)
  | _, _ => false
def chkSs (T : Tb) (c : Sc) : Sms → List Stmt → Bool
  | .nil, [] => true
  | .cons s ss, t :: ts => chkS T c s t && chkSs T c ss ts
  | _, _ => false
end

section
variable {T : Tb} {g : Cfg} {ca : String → Option Addr} {CX : CXT} {E : L2.St → XK} {c : Sc} {X : Cx} {a b d : Xp} {x y z : Expr} {pos : Pos}
theorem sw_plain {e : Expr} (h : isComp e = false) (t : Option Expr) (l : Nat) (env : Env) : swapsWith e t l env = pure false := by
  cases e <;> first | rfl | (exact Bool.noConfusion (show true = false from h))
theorem sw_other {e o i : Expr} {p : Pos} (l : Nat) (env : Env) : swapsWith e (some (.Subscript o i p)) l env = pure false := by
  cases e <;> rfl
theorem ss_other {e o i : Expr} {p : Pos} (env : Env) : swappedStores [.Subscript o i p] e env = pure none := by
  cases e <;> rfl
theorem ss_tup {e : Expr} {ts : List Expr} {k : Nat} {p : Pos} (h : isTupE e = false) (env : Env) : swappedStores [.Tuple ts k p] e env = pure none := by
  cases e <;> first | rfl | (exact Bool.noConfusion (show true = false from h))
theorem sw_tup {e : Expr} {ts : List Expr} {k : Nat} {p : Pos} (l : Nat) (env : Env) : swapsWith e (some (.Tuple ts k p)) l env = pure false := by
  cases e <;> rfl
theorem Ctx.bk (C : Ctx T g ca CX E c X) : X.env.blockKind = .function := by
  unfold Env.blockKind
  rw [C.kd]
  rfl
theorem sw_lc (C : Ctx T g ca CX E c X) {elt : Expr} {gs : List Comprehension} {scope : Scope} {pos py : Pos} {y : Str} {l : Nat} : swapsWith (.ListComp elt gs scope pos) (some (.Name y py)) l X.env = pure (swB c y py pos scope) := by
  have ky : X.env.kindOf y = c.names.lookup y := by show X.env.scope.names.lookup y = _; rw [C.nm]
  unfold swapsWith swB
  simp only [C.bk, ky, Expr.pos]
  rfl

/-! ### readings -/
theorem st_seq {p : Sm} {ps : Sms} {st : Stmt} {sts : List Stmt} (h1 : PS X st (Ts X.K ca E (ex g p))) (h2 : PSs X sts (Ts X.K ca E (exs g ps))) : PSs X (st :: sts) (Ts X.K ca E (exs g (.cons p ps))) := by
  refine PSs.imp (pss_cons h1 h2) fun F σ H ⟨W, l, S, s, r, q⟩ => ⟨W, l, S, s, r, ?_⟩
  rw [exs] at q
  cases h : ex g p l S with
  | nx l1 S1 => rw [h] at q; exact fun W' σ' H' le r' s' => ⟨W', l1, S1, s', r', PoS.mono le q⟩
  | rt d S1 => rw [h] at q; exact q
  | bk l1 S1 => rw [h] at q; exact q
  | ct l1 S1 => rw [h] at q; exact q
  | exc e l1 S1 => rw [h] at q; exact q
  | bad => rw [h] at q; exact q
theorem st_asg (C : Ctx T g ca CX E c X) {i : Nat} {w : Str} {p : Pos} (h1 : storeB c i w = true) (h2 : asgOk c w p x = true) (h3 : chkE T c a x = true) : PS X (.Assign [.Name w p] x pos) (Ts X.K ca E (ex g (.asg i a))) := by
  obtain ⟨k1, k2, k3⟩ := C.store h1
  have fin : ∀ {F : Ends} {σ : L2.St} {H : Hp}, Ts X.K ca E (ex g (.asg i a)) F σ H → Te X.K ca E (ev g a) σ H (fun v H1 => gName i v σ H1 F.nx) := fun {F σ H} ⟨W, l, S, s, r, q⟩ => by
    refine ⟨W, l, S, s, r, ?_⟩
    rw [ex] at q
    exact PoS.then s q fun d S1 W1 v H1 le1 r1 hv q1 => q1 W1 _ H1 (.refl _) r1 ((s.mono le1.tole0).set i hv)
  have plain : swapsWith x (some (.Name w p)) pos.line X.env = pure false → PS X (.Assign [.Name w p] x pos) (Ts X.K ca E (ex g (.asg i a))) := fun hs =>
    PS.imp (ps_set (by rw [C.N]; exact C.nd) k1 k2 (sndE a x C h3).1 hs k3) fun F σ H w => fin w
  by_cases hc : isComp x = false
  · exact plain (sw_plain hc _ _ _)
  · cases x <;> first | (exact (hc rfl).elim) | (exact Bool.noConfusion (show false = true from h2)) | skip
    rename_i ee gens scope lp
    by_cases hb : swB c w p lp scope = true
    · cases a <;> first | (exact Bool.noConfusion (show false = true from h3)) | skip
      rename_i m tg tt it elt cnd
      match gens, h3 with
      | [], h => exact Bool.noConfusion (show false = true from h)
      | ⟨_, _, _, as⟩ :: _ :: _, h =>
        match as, h with
        | .ofNat 0, h => exact Bool.noConfusion (show false = true from h)
        | .ofNat (n + 1), h => exact Bool.noConfusion (show false = true from h)
        | .negSucc n, h => exact Bool.noConfusion (show false = true from h)
      | [⟨et, ei, ifs, as⟩], h =>
        have has : as = 0 := by
          match as, h with
          | .ofNat 0, h => rfl
          | .ofNat (n + 1), h => exact Bool.noConfusion (show false = true from h)
          | .negSucc n, h => exact Bool.noConfusion (show false = true from h)
        subst has
        unfold chkE at h
        simp only [Bool.and_eq_true] at h
        obtain ⟨⟨⟨⟨⟨⟨g1, g2⟩, g3⟩, g4⟩, g5⟩, g6⟩, g7⟩ := h
        have hk : scope.kind = .function := (blkOk_by g3).kind
        have hl := of_decide_eq_true g5
        have hb' := hb
        unfold swB at hb'
        simp only [Bool.and_eq_true] at hb'
        have hloc : X.env.scope.names.lookup w = some .local := by rw [C.nm]; exact eq_of_beq hb'.1.1
        refine PS.imp (ps_setLc (own := (tgL tt et).zip tg) (g := Tg X.K ca tg tt) (tt := Tt X.K ca (fun _ => E0) (evB g cnd)) (te := Te X.K ca (fun _ => E0) (ev g elt)) C.calm (by rw [C.N]; exact C.nd) k1 hloc (by rw [sw_lc C, hb]) (sndI it ei et tt C g1 g4) (lc_blk C g3) (fun s H C' cl fp => s_tgt (C.blk scope hk s H C' cl fp) g4) (fun s H C' cl fp => ?_) (fun s H C' cl fp => (sndE elt _ (C.blk scope hk s H C' cl fp) g6).1) (noset_for g2 X.env)) fun F σ H w => lc_sem C (tgl_zip hl) (fin w)
        split at g7
        · split at g7
          · refine ⟨fun pins s σ H Q I w => pts_nil.run pins s σ H Q I ?_⟩
            obtain ⟨W, l, S, s, r, q⟩ := w
            unfold evB at q
            rw [ev] at q
            exact q W true H (.refl _) r rfl
          · exact Bool.noConfusion g7
        · exact pts_one (sndE cnd _ (C.blk scope hk s H C' cl fp) g7).2
        · exact Bool.noConfusion g7
    · exact plain (by rw [sw_lc C, eq_false_of_ne_true hb])
theorem st_exp (h : PE X x (Te X.K ca E (ev g a))) (hc : isComp x = false) : PS X (.Expr x pos) (Ts X.K ca E (ex g (.exp a))) := by
  refine PS.imp (ps_expr h (sw_plain hc _ _ _)) fun F σ H ⟨W, l, S, s, r, q⟩ => ⟨W, l, S, s, r, ?_⟩
  rw [ex] at q
  exact PoS.then s q fun d S1 W1 v H1 le1 r1 hv q1 => q1 W1 σ H1 (.refl _) r1 (s.mono le1.tole0)
theorem st_ret (h : PE X x (Te X.K ca E (ev g a))) : PS X (.Return (some x) pos) (Ts X.K ca E (ex g (.ret a))) := by
  refine PS.imp (ps_ret h) fun F σ H ⟨W, l, S, s, r, q⟩ => ⟨W, l, S, s, r, ?_⟩
  rw [ex] at q
  exact PoS.then s q fun d S1 W1 v H1 le1 r1 hv q1 => q1 W1 v H1 (.refl _) r1 hv
theorem st_retN : PS X (.Return none pos) (Ts X.K ca E (ex g (.ret (.con .non)))) := by
  refine PS.imp ps_retN fun F σ H ⟨W, l, S, s, r, q⟩ => ?_
  rw [ex, ev] at q
  exact q W .non H (.refl _) r .non
theorem st_ite {a b : Sms} {q1 : Xp} {xs ys : List Stmt} (h1 : PT X x (Tt X.K ca E (evB g q1))) (h2 : PSs X xs (Ts X.K ca E (exs g a))) (h3 : PSs X ys (Ts X.K ca E (exs g b))) : PS X (.If x xs ys pos) (Ts X.K ca E (ex g (.ite q1 a b))) := by
  refine PS.imp (ps_if h1 h2 h3) fun F σ H ⟨W, l, S, s, r, q⟩ => ⟨W, l, S, s, r, ?_⟩
  rw [ex] at q
  refine PoS.then s q fun k S1 W1 k' H1 le1 r1 e q1 => ?_
  subst e
  cases k' with
  | true => rw [if_pos rfl] at q1 ⊢; exact ⟨W1, l, S1, s.mono le1.tole0, r1, q1⟩
  | false => rw [if_neg Bool.false_ne_true] at q1 ⊢; exact ⟨W1, l, S1, s.mono le1.tole0, r1, q1⟩
theorem st_fr (C : CtxS T g ca CX E c X) {tg : List Nat} {tt : Bool} {it : Xp} {body : Sms} {et ei : Expr} {xs : List Stmt} (hi : PI X et ei (Ti X.K ca E (evI g it))) (hs : noSet ei = true) (ht : chkT c tg tt et = true) (hb : PSs X xs (Ts X.K ca E (exs g body))) :
    PS X (.For et ei xs [] pos) (Ts X.K ca E (ex g (.fr tg tt it body))) := by
  refine PS.imp (ps_for C.own C.calm hi (s_tgt C.toCtx ht) hb (noset_for hs X.env)) fun F σ H ⟨W, l, S, s, r, q⟩ => ⟨W, l, S, s, r, ?_⟩
  rw [ex] at q
  refine PoS.then s q fun ds S1 W1 J H1 le1 r1 hJ q1 => ?_
  refine ⟨fun i m σ H => m = ds.length - i ∧ i ≤ ds.length ∧ ∃ (W2 : Wd) (l2 : LEnv) (S2 : Store), W1.le W2 ∧ Sl X.K W2 l2 σ ∧ Rl X.K ca W2 S2 H ∧ PoS X.K ca W2 E F (forLoop (fun l1 S2 => exs g body l1 S2) tg tt (ds.drop i) l2 S2),
    ⟨_, rfl, Nat.zero_le _, W1, l, S1, .refl _, s.mono le1.tole0, r1, q1⟩, ?_⟩
  rintro i m σ2 H2 ⟨rfl, hi2, W2, l2, S2, le2, s2, r2, q2⟩
  obtain ⟨j1, j2, j3⟩ := hJ W2 S2 H2 i le2.tole0 r2
  by_cases hlt : i < ds.length
  · refine .inr ⟨j1 hlt, fun σ' H' => ∃ (W2 : Wd) (l2 : LEnv) (S2 : Store), W1.le W2 ∧ Sl X.K W2 l2 σ' ∧ Rl X.K ca W2 S2 H' ∧ PoS X.K ca W2 E F (forLoop (fun l1 S2 => exs g body l1 S2) tg tt (ds.drop (i + 1)) l2 S2), fun σ' H' h => ⟨ds.length - (i + 1), by omega, rfl, hlt, h⟩, fun x H' yl => ?_⟩
    obtain ⟨W3, d, le3, r3, hd, hv⟩ := j3 x H' hlt yl
    have ed : ds.drop i = d :: ds.drop (i + 1) := by
      rw [List.drop_eq_getElem_cons hlt]
      rw [List.getElem?_eq_getElem hlt] at hd
      cases hd; rfl
    rw [ed, forLoop] at q2
    cases hbt : bindT tg tt d l2 with
    | none => rw [hbt] at q2; exact q2.elim
    | some l3 =>
      rw [hbt] at q2
      dsimp only at q2
      refine ⟨W3, l2, S2, d, l3, s2.mono le3.tole0, r3, hv, hbt, fun σ' hs' hw => ⟨W3, l3, S2, hs', r3, ?_⟩⟩
      have q3 := PoS.mono le3 q2
      cases hx : exs g body l3 S2 with
      | nx l4 S4 => rw [hx] at q3; exact fun W4 σ4 H4 le4 r4 s4 => ⟨W4, l4, S4, le2.trans (le3.trans le4), s4, r4, PoS.mono le4 q3⟩
      | ct l4 S4 => rw [hx] at q3; exact fun W4 σ4 H4 le4 r4 s4 => ⟨W4, l4, S4, le2.trans (le3.trans le4), s4, r4, PoS.mono le4 q3⟩
      | bk l4 S4 => rw [hx] at q3; exact q3
      | rt d S4 => rw [hx] at q3; exact q3
      | exc e l4 S4 => rw [hx] at q3; exact q3
      | bad => rw [hx] at q3; exact q3
  · have e : i = ds.length := by omega
    subst e
    refine .inl ⟨j2 (Nat.le_refl _), ?_⟩
    rw [List.drop_length, forLoop] at q2
    exact q2 W2 σ2 H2 (.refl _) r2 s2
theorem st_whl (C : CtxS T g ca CX E c X) {q1 : Xp} {body : Sms} {xs : List Stmt} (h1 : PT X x (Tt X.K ca E (evB g q1))) (hb : PSs X xs (Ts X.K ca E (exs g body))) : PS X (.While x xs [] pos) (Ts X.K ca E (ex g (.whl q1 body))) := by
  refine PS.imp (ps_while C.own h1 hb) fun F σ H ⟨W, l, S, s, r, q⟩ => ?_
  rw [ex] at q
  refine ⟨fun m σ H => ∃ (W : Wd) (l : LEnv) (S : Store), Sl X.K W l σ ∧ Rl X.K ca W S H ∧ PoS X.K ca W E F (whlLoop (fun l1 S2 => (ev g q1 l1 S2).bind asB) (fun l1 S2 => exs g body l1 S2) m l S), ⟨_, W, l, S, s, r, q⟩, ?_⟩
  rintro m σ2 H2 ⟨W2, l2, S2, s2, r2, q2⟩
  cases m with
  | zero => exact q2.elim
  | succ n =>
    rw [whlLoop] at q2
    refine ⟨W2, l2, S2, s2, r2, PoS.then s2 q2 fun k S3 W3 k' H3 le3 r3 e q3 => ?_⟩
    subst e
    cases k' with
    | false =>
      rw [if_neg Bool.false_ne_true] at q3 ⊢
      exact q3 W3 σ2 H3 (.refl _) r3 (s2.mono le3.tole0)
    | true =>
      rw [if_pos rfl] at q3 ⊢
      refine ⟨fun σ' H' => ∃ (W : Wd) (l : LEnv) (S : Store), Sl X.K W l σ' ∧ Rl X.K ca W S H' ∧ PoS X.K ca W E F (whlLoop (fun l1 S2 => (ev g q1 l1 S2).bind asB) (fun l1 S2 => exs g body l1 S2) n l S), fun σ' H' h => ⟨n, Nat.lt_succ_self _, h⟩, W3, l2, S3, s2.mono le3.tole0, r3, ?_⟩
      cases hx : exs g body l2 S3 with
      | nx l4 S4 => rw [hx] at q3; exact fun W4 σ4 H4 le4 r4 s4 => ⟨W4, l4, S4, s4, r4, PoS.mono le4 q3⟩
      | ct l4 S4 => rw [hx] at q3; exact fun W4 σ4 H4 le4 r4 s4 => ⟨W4, l4, S4, s4, r4, PoS.mono le4 q3⟩
      | bk l4 S4 => rw [hx] at q3; exact q3
      | rt d S4 => rw [hx] at q3; exact q3
      | exc e l4 S4 => rw [hx] at q3; exact q3
      | bad => rw [hx] at q3; exact q3
/-- name op= e -/
theorem ip_D {op : Operator} : PIp X op (fun v u H Q => ∃ W dx dy z, Vi X.K W dx v ∧ Vi X.K W dy u ∧ augR op dx dy = some z ∧ ∀ w, Vi X.K W z w → Q w H) := by
  intro pins s σ H x y v u Q I r1 r2 ⟨W, dx, dy, z, h1, h2, h3, q⟩
  unfold augR at h3
  split at h3 <;> first | (cases h3; done) | skip
  · cases h1; cases h2
    cases h3
    exact ip_add pins s σ H _ _ v u Q I r1 r2 ⟨_, _, rfl, rfl, q _ (.int _)⟩
  · cases h1; cases h2
    cases h3
    exact ip_sub pins s σ H _ _ v u Q I r1 r2 ⟨_, _, rfl, rfl, q _ (.int _)⟩
theorem st_aug (C : Ctx T g ca CX E c X) {i : Nat} {w : Str} {op : Operator} {p : Pos} (h1 : storeB c i w = true) (h : PE X x (Te X.K ca E (ev g a))) : PS X (.AugAssign (.Name w p) op x pos) (Ts X.K ca E (ex g (.aug i op a))) := by
  obtain ⟨k1, k2, k3⟩ := C.store h1
  refine PS.imp (ps_aug (by rw [C.N]; exact C.nd) k1 k2 h ip_D k3) fun F σ H ⟨W, l, S, s, r, q⟩ => ?_
  rw [ex] at q
  split at q
  · rename_i dx hl
    obtain ⟨vx, e1, e2⟩ := s.2 i dx hl
    refine ⟨vx, e1, W, l, S, s, r, PoS.then s q fun dy S1 W1 vy H1 le1 r1 hv q1 => ?_⟩
    split at q1
    · rename_i z hz
      exact ⟨W1, dx, dy, z, e2.mono le1.tole0, hv, hz, fun w hw => q1 W1 _ H1 (.refl _) r1 ((s.mono le1.tole0).set i hw)⟩
    · exact q1.elim
  · exact q.elim
/-- o[i] = v, by values -/
theorem set_D (hu : X.A.units + 1 < cLine) : PSet X (fun o i v H Q => ∃ (W : Wd) (S : Store) (dx dy dz : D) (E' : XK), Vi X.K W dx o ∧ Vi X.K W dy i ∧ Vi X.K W dz v ∧ Rl X.K ca W S H ∧ Po X.K ca W E' (fun _ (_ : Unit) (_ : Unit) => True) (fun _ H' => Q H') (ssetR dx dy dz S)) := by
  intro pins s σ H o i v ov iv u Q I ro ri rv ⟨W, S, dx, dy, dz, E', hx, hy, hz, r, q⟩
  unfold ssetR at q
  split at q
  · rename_i n
    cases hx with
    | ref hn =>
      split at q
      · rename_i ds hS
        obtain ⟨w, e1, e2⟩ := r.got _ _ _ hn hS
        cases e2 with
        | lst hvs =>
          split at q
          · rename_i k
            split at q
            · rename_i j hj
              cases hy with
              | int _ =>
                exact set_list pins s σ H _ _ v ov iv u Q I ro ri rv ⟨_, _, k, j, rfl, rfl, e1, by rw [← hvs.length]; exact hj, q W () _ (.refl _) (r.write hn (.lst (hvs.set j hz))) trivial⟩
            · exact q.elim
          · exact q.elim
      · rename_i kvs hS
        obtain ⟨w, e1, e2⟩ := r.got _ _ _ hn hS
        cases e2 with
        | dct hvs =>
          split at q
          · rename_i k hk
            split at q
            · rename_i hsz
              have hsz' := of_decide_eq_true hsz
              have e := key_at hy hk
              subst e
              refine set_dict hu pins s σ H _ _ v ov iv u Q I ro ri rv ⟨_, _, rfl, DPut.k e1 ?_, q W () _ (.refl _) (r.write hn (.dct (hvs.put hz))) trivial⟩
              rw [← hvs.length, sizeLine_eq]
              omega
            · exact q.elim
          · exact q.elim
      · exact q.elim
  · exact q.elim
theorem st_sset (C : Ctx T g ca CX E c X) {o i v : Xp} (hn : plainIxB y = true) (h1 : PE X x (Te X.K ca E (ev g o))) (h2 : PE X y (Te X.K ca E (ev g i))) (h3 : PE X z (Te X.K ca E (ev g v))) {p : Pos} : PS X (.Assign [.Subscript x y p] z pos) (Ts X.K ca E (ex g (.sset o i v))) := by
  refine PS.imp (ps_asg h3 (pg_sub h1 h2 (set_D (ca := ca) C.un1) (by intro v; cases y <;> first | rfl | (exact Bool.noConfusion (show false = true from hn)))) (sw_other (e := z) (o := x) (i := y) (p := p) pos.line X.env) (ss_other _)) fun F σ H ⟨W, l, S, s, r, q⟩ => ⟨W, l, S, s, r, ?_⟩
  rw [ex] at q
  refine PoS.then s q fun dz S1 W1 vz H1 le1 r1 hz q1 => ?_
  have s1 := s.mono le1.tole0
  refine ⟨W1, l, S1, s1, r1, PoS.then s1 q1 fun dx S2 W2 vx H2 le2 r2 hx q2 => ?_⟩
  have s2 := s1.mono le2.tole0
  refine ⟨W2, l, S2, s2, r2, PoS.then s2 q2 fun dy S3 W3 vy H3 le3 r3 hy q3 => ?_⟩
  have s3 := s2.mono le3.tole0
  exact ⟨W3, S3, dx, dy, dz, E σ, hx.mono le3.tole0, hy, (hz.mono le2.tole0).mono le3.tole0, r3, PoS.then s3 q3 fun u S4 W4 u' H4 le4 r4 _ q4 => q4 W4 σ H4 (.refl _) r4 (s3.mono le4.tole0)⟩
theorem sw_att {e o : Expr} {n : Str} {p : Pos} (l : Nat) (env : Env) : swapsWith e (some (.Attribute o n p)) l env = pure false := by
  cases e <;> rfl
theorem st_fset (C : Ctx T g ca CX E c X) {o v : Xp} {f : String} {n : Str} (hn : (n == nm f) = true) (hf : T.fls.contains f = true) (h1 : PE X x (Te X.K ca E (ev g o))) (h3 : PE X z (Te X.K ca E (ev g v))) {p : Pos} : PS X (.Assign [.Attribute x n p] z pos) (Ts X.K ca E (ex g (.fset o f v))) := by
  have e := eq_of_beq hn
  subst e
  refine PS.imp (ps_fld h1 h3 (sw_att _ _)) fun F σ H ⟨W, l, S, s, r, q⟩ => ⟨W, l, S, s, r, ?_⟩
  rw [ex] at q
  refine PoS.then s q fun dz S1 W1 vz H1 le1 r1 hz q1 => ?_
  have s1 := s.mono le1.tole0
  refine ⟨W1, l, S1, s1, r1, PoS.then s1 q1 fun dx S2 W2 vx H2 le2 r2 hx q2 => ?_⟩
  have s2 := s1.mono le2.tole0
  unfold fsetR at q2
  split at q2
  · split at q2
    · rename_i hS
      split at q2
      · rename_i hlen
        have hlen' := of_decide_eq_true hlen
        cases hx with
        | ref hn =>
          obtain ⟨u, e1, e2⟩ := r2.got _ _ _ hn hS
          cases e2 with
          | ins hA hfs =>
            obtain ⟨c1, c2, _⟩ := C.cls _ _ hA
            refine ⟨_, _, _, _, rfl, e1, c1, c2 f (by simpa using hf), by rw [← hfs.length]; omega, ?_⟩
            exact q2 W2 σ _ (.refl _) (r2.write hn (.ins hA (hfs.put (hz.mono le2.tole0)))) s2
      · exact q2.elim
    · exact q2.elim
  · exact q2.elim
theorem st_faug (C : Ctx T g ca CX E c X) {o v : Xp} {f : String} {n : Str} {op : Operator} (hn : (n == nm f) = true) (hf : T.fls.contains f = true) (h1 : PE X x (Te X.K ca E (ev g o))) (h3 : PE X z (Te X.K ca E (ev g v))) {p : Pos} : PS X (.AugAssign (.Attribute x n p) op z pos) (Ts X.K ca E (ex g (.faug o f op v))) := by
  have e := eq_of_beq hn
  subst e
  refine PS.imp (ps_fldaug h1 h3 (show InOp X op _ from ip_D)) fun F σ H ⟨W, l, S, s, r, q⟩ => ⟨W, l, S, s, r, ?_⟩
  rw [ex] at q
  refine PoS.then s q fun dx S1 W1 vx H1 le1 r1 hx q1 => ?_
  have s1 := s.mono le1.tole0
  unfold fldR at q1
  split at q1
  · rename_i n0
    split at q1
    · rename_i Cn fs0 hS
      split at q1
      · rename_i du hd
        cases hx with
        | ref hn =>
          obtain ⟨u, e1, e2⟩ := r1.got _ _ _ hn hS
          cases e2 with
          | ins hA hfs =>
            obtain ⟨c1, c2, _⟩ := C.cls _ _ hA
            obtain ⟨w, k1, k2⟩ := (hfs.get (f := f)).1 du hd
            have q1' : PoS X.K ca W1 E F ((ev g v l S1).then l fun y S3 => match augR op du y with
              | some z => if clsOf S3 (.ref n0) = clsOf S1 (.ref n0) then (fsetR (.ref n0) f z S3).then l fun _ S4 => .nx l S4 else .bad
              | none => .bad) := q1
            refine ⟨_, _, _, _, w, rfl, e1, c1, c2 f (by simpa using hf), k1, W1, l, S1, s1, r1, PoS.then s1 q1' fun dy S3 W3 vy H3 le3 r3 hy q3 => ?_⟩
            have s3 := s1.mono le3.tole0
            split at q3
            · rename_i dz hz
              refine ⟨W3, du, dy, dz, k2.mono le3.tole0, hy, hz, fun vz hvz => ?_⟩
              split at q3
              rotate_left
              · exact q3.elim
              rename_i hcls
              unfold clsOf at hcls
              dsimp only at hcls
              rw [hS] at hcls
              unfold fsetR at q3
              dsimp only at q3
              split at q3
              · rename_i C3 fs3 hS3
                rw [hS3] at hcls
                cases hcls
                split at q3
                · rename_i hlen
                  have hlen' := of_decide_eq_true hlen
                  have hn3 := le3.tole0.get hn
                  obtain ⟨u3, e3, e4⟩ := r3.got _ _ _ hn3 hS3
                  cases e4 with
                  | @ins _ A3 dx3 _ gs3 hA3 hfs3 =>
                    rw [hA] at hA3
                    cases hA3
                    exact ⟨_, _, e3, by rw [← hfs3.length]; omega, q3 W3 σ _ (.refl _) (r3.write hn3 (.ins hA (hfs3.put hvz))) s3⟩
                · exact q3.elim
              · exact q3.elim
            · exact q3.elim
      · exact q1.elim
    · exact q1.elim
  · exact q1.elim
/-! ### unpacking -/
theorem st_star (C : Ctx T g ca CX E c X) {i j : Nat} {w w' : Str} {p1 p2 p3 p4 : Pos} {k : Nat} (h1 : storeB c i w = true) (h2 : storeB c j w' = true) (h3 : isTupE x = false) (h : PE X x (Te X.K ca E (ev g a))) : PS X (.Assign [.Tuple [.Name w p1, .Starred (.Name w' p2) p3] k p4] x pos) (Ts X.K ca E (ex g (.star i j a))) := by
  obtain ⟨k1, k2, k3⟩ := C.store h1
  obtain ⟨l1, l2, l3⟩ := C.store h2
  have hN : X.N.Nodup := by rw [C.N]; exact C.nd
  refine PS.imp (ps_asg h (pg_star C.calm (pg_name hN k1 k2 k3) (pg_name hN l1 l2 l3)) (by cases x <;> rfl) (by cases x <;> first | rfl | (exact Bool.noConfusion (show true = false from h3)))) fun F σ H ⟨W, l, S, s, r, q⟩ => ⟨W, l, S, s, r, ?_⟩
  rw [ex] at q
  refine PoS.then s q fun d S1 W1 v H1 le1 r1 hv q1 => ?_
  have s1 := s.mono le1.tole0
  have fin : ∀ {ds : List D} {d0 : D} {vs : List V} {A : Addr}, (if decide (ds.length < 16000) then RS.nx ((l.set i (some d0)).set j (some (.lst ds))) S1 else .bad) = (if decide (ds.length < 16000) then RS.nx ((l.set i (some d0)).set j (some (.lst ds))) S1 else .bad) → PoS X.K ca W1 E F (if decide (ds.length < 16000) then RS.nx ((l.set i (some d0)).set j (some (.lst ds))) S1 else .bad) →
      Mw.Vis X.K W1 (d0 :: ds) vs → (SqL X.K H1 A vs ∨ SqT X.K H1 A vs) → gStar X.K i j (.ref A) σ H1 F.nx := fun {ds d0 vs A} _ q2 hvs hs => by
    split at q2
    · rename_i hz
      have hz' := of_decide_eq_true hz
      cases hvs with
      | @cons _ v0 _ vs0 b1 b2 =>
        refine ⟨A, v0, vs0, rfl, hs, by rw [← b2.length]; exact hz', fun D hD => ?_⟩
        obtain ⟨le3, r3⟩ := r1.freeze hD (.lst vs0)
        exact q2 _ _ _ le3 r3 (((s1.mono le3.tole0).set i (b1.mono le3.tole0)).set j (.lst upd_same (b2.mono le3.tole0)))
    · exact q2.elim
  split at q1
  · cases hv with
    | tup g1 g2 => exact fin rfl q1 g2 (.inr (sqt_mono r1.fz g1))
  · cases hv with
    | lst g1 g2 => exact fin rfl q1 g2 (.inl (.of (r1.fz _ _ g1)))
  · exact q1.elim
theorem pg_seq (C : Ctx T g ca CX E c X) {is : List Nat} {es : List Expr} {k : Nat} {p : Pos} (h : tgB c is es = true) : PG X (.Tuple es k p) (fun v σ H Q => ∃ W l S d ds l1, Sl X.K W l σ ∧ Rl X.K ca W S H ∧ Vi X.K W d v ∧ seqOf S d = some ds ∧ setAll is ds l = some l1 ∧ ∀ σ', Sl X.K W l1 σ' → Q σ' H) := by
  obtain ⟨m1, m2, m3, m4⟩ := pgs_names C h
  refine ⟨fun pins s σ H v u Q I r ⟨W, l, S, d, ds, l1, hs, hr, hd, hq, hb, q⟩ => ?_⟩
  have tup : ∀ {A : Addr} {vs : List V}, SqT X.K H A vs → v = .ref A → Vis X.K W ds vs → wpAny (model X.prog X.w) X.A (assign (.Tuple es k p) X.env u) (fun _ s' => ∃ σ' H', Inv X pins σ' H' s' ∧ Q σ' H') X.xe s := fun {A vs} h1 e h2 => by
    obtain ⟨h3, h4⟩ := hs.setAll h2 hb
    exact (pg_tup (n := es.length) C.calm m1 m2 m3).run pins s σ H v u Q I r ⟨_, _, e, h1, by rw [h4, m4], h4, q _ h3⟩
  have unl : ∀ {A : Addr} {vs : List V}, SqL X.K H A vs → v = .ref A → Vis X.K W ds vs → wpAny (model X.prog X.w) X.A (assign (.Tuple es k p) X.env u) (fun _ s' => ∃ σ' H', Inv X pins σ' H' s' ∧ Q σ' H') X.xe s := fun {A vs} h1 e h2 => by
    obtain ⟨h3, h4⟩ := hs.setAll h2 hb
    exact (pg_unl (n := es.length) C.calm m1 m2 m3).run pins s σ H v u Q I r ⟨_, _, e, h1, by rw [h4, m4], h4, q _ h3⟩
  unfold seqOf at hq
  cases hd with
  | tup h1 h2 => cases hq; exact tup (sqt_mono hr.fz h1) rfl h2
  | lst h1 h2 => cases hq; exact unl (.inl (.inl (hr.fz _ _ h1))) rfl h2
  | scr h1 => cases hq; exact unl (hr.fz.seq h1) rfl Vis.ints
  | ref hn =>
    dsimp only at hq
    split at hq
    · rename_i hS
      cases hq
      obtain ⟨w, e1, e2⟩ := hr.got _ _ _ hn hS
      cases e2 with
      | lst hvs => exact unl (.inl (.inl e1)) rfl hvs
    · cases hq
  | _ => cases hq
theorem st_unp (C : Ctx T g ca CX E c X) {is : List Nat} {ts : List Expr} {k : Nat} {p : Pos} (h1 : tgB c is ts = true) (h2 : isTupE x = false) (h : PE X x (Te X.K ca E (ev g a))) : PS X (.Assign [.Tuple ts k p] x pos) (Ts X.K ca E (ex g (.unp is a))) := by
  refine PS.imp (ps_asg h (pg_seq (ca := ca) C h1) (sw_tup (e := x) (ts := ts) (k := k) (p := p) pos.line X.env) (ss_tup h2 _)) fun F σ H ⟨W, l, S, s, r, q⟩ => ⟨W, l, S, s, r, ?_⟩
  rw [ex] at q
  refine PoS.then s q fun d S1 W1 v H1 le1 r1 hv q1 => ?_
  split at q1
  · rename_i ds hds
    split at q1
    · rename_i l1 hl1
      exact ⟨W1, l, S1, d, ds, l1, s.mono le1.tole0, r1, hv, hds, hl1, fun σ' s' => q1 W1 σ' H1 (.refl _) r1 s'⟩
    · exact q1.elim
  · exact q1.elim
theorem ss_fold {ts vs : List Expr} {k k2 : Nat} {p p2 : Pos} (h : vs.all (foldedForSure 8) = true) (env : Env) : swappedStores [.Tuple ts k p] (.Tuple vs k2 p2) env = pure none := by
  unfold swappedStores
  simp only [h]
  split
  · rfl
  · split
    · rfl
    · split
      · rfl
      · rfl
theorem st_unpS (C : Ctx T g ca CX E c X) {is : List Nat} {ts : List Expr} {k : Nat} {p : Pos} (h1 : tgB c is ts = true) (h2 : swappedStores [.Tuple ts k p] x X.env = pure none) (h : PE X x (Te X.K ca E (ev g a))) : PS X (.Assign [.Tuple ts k p] x pos) (Ts X.K ca E (ex g (.unp is a))) := by
  refine PS.imp (ps_asg h (pg_seq (ca := ca) C h1) (sw_tup (e := x) (ts := ts) (k := k) (p := p) pos.line X.env) h2) fun F σ H ⟨W, l, S, s, r, q⟩ => ⟨W, l, S, s, r, ?_⟩
  rw [ex] at q
  refine PoS.then s q fun d S1 W1 v H1 le1 r1 hv q1 => ?_
  split at q1
  · rename_i ds hds
    split at q1
    · rename_i l1 hl1
      exact ⟨W1, l, S1, d, ds, l1, s.mono le1.tole0, r1, hv, hds, hl1, fun σ' s' => q1 W1 σ' H1 (.refl _) r1 s'⟩
    · exact q1.elim
  · exact q1.elim
theorem star_no {e : Expr} (h : (!isStar e) = true) : (match (generalizing := false) e with | .Starred .. => true | _ => false) = false := by
  cases e <;> first | rfl | (exact Bool.noConfusion (show false = true from h))
theorem ss_two (C : Ctx T g ca CX E c X) {w w' : Str} {px py : Pos} {k k2 : Nat} {pt pt2 : Pos} (h1 : loc1 c w = true) (h2 : loc1 c w' = true) (h3 : (!(w == w')) = true) (h4 : (py.line == px.line) = true) (h5 : (!isStar x) = true) (h6 : (!isStar y) = true)
    (h7 : (!(foldedForSure 8 x && foldedForSure 8 y)) = true) (h8 : (!(constantsAlone 8 x && constantsAlone 8 y)) = true) : swappedStores [.Tuple [.Name w px, .Name w' py] k pt] (.Tuple [x, y] k2 pt2) X.env = pure (some [w, w']) := by
  have k1 : X.env.kindOf w = some .local := by show X.env.scope.names.lookup w = _; rw [C.nm]; exact eq_of_beq h1
  have k2 : X.env.kindOf w' = some .local := by show X.env.scope.names.lookup w' = _; rw [C.nm]; exact eq_of_beq h2
  have e1 := star_no h5
  have e2 := star_no h6
  have hne : w' ≠ w := fun e => by subst e; simp at h3
  have hbe : (w' == w) = false := by simpa using hne
  simp only [Bool.not_eq_true'] at h7 h8
  unfold swappedStores
  simp [C.bk, e1, e2, k1, k2, eq_of_beq h4, h7, h8, List.eraseDups, List.eraseDupsBy, List.eraseDupsBy.loop, hbe, Expr.pos, List.filterMap_cons]
  clear e1 e2
  rintro (h | h)
  · cases x <;> first | (cases h; done) | (exact Bool.noConfusion (show false = true from h5))
  · cases y <;> first | (cases h; done) | (exact Bool.noConfusion (show false = true from h6))
theorem st_par2 (C : Ctx T g ca CX E c X) {i j : Nat} {w w' : Str} {es : Xps} {px py : Pos} {k k2 : Nat} {pt pt2 : Pos} (i1 : storeB c i w = true) (i2 : storeB c j w' = true) (hij : (i != j) = true) (h1 : loc1 c w = true) (h2 : loc1 c w' = true) (h3 : (!(w == w')) = true) (h4 : (py.line == px.line) = true) (h5 : (!isStar x) = true) (h6 : (!isStar y) = true)
    (h7 : (!(foldedForSure 8 x && foldedForSure 8 y)) = true) (h8 : (!(constantsAlone 8 x && constantsAlone 8 y)) = true) (h : PA X [x, y] (Ta X.K ca E (evs g es))) : PS X (.Assign [.Tuple [.Name w px, .Name w' py] k pt] (.Tuple [x, y] k2 pt2) pos) (Ts X.K ca E (ex g (.unp [i, j] (.tup es)))) := by
  obtain ⟨k1, _, _⟩ := C.store i1
  obtain ⟨l1, _, _⟩ := C.store i2
  refine PS.imp (ps_par C.calm (by rw [C.N]; exact C.nd) k1 l1 (by simpa using hij) (by rw [C.nm]; exact eq_of_beq h1) (by rw [C.nm]; exact eq_of_beq h2) h (ss_two C h1 h2 h3 h4 h5 h6 h7 h8) (sw_tup (e := .Tuple [x, y] k2 pt2) (ts := [.Name w px, .Name w' py]) (k := k) (p := pt) pos.line X.env)) fun F σ H ⟨W, l, S, s, r, q⟩ => ⟨W, l, S, s, r, ?_⟩
  rw [ex, ev] at q
  refine PoS.then s (show PoS X.K ca W E F ((evs g es l S).then l fun ds S1 => if sizeOk ds.length then (match setAll [i, j] ds l with | some l1 => .nx l1 S1 | none => .bad) else .bad) from ?_) fun ds S1 W1 vs H1 le1 r1 hv q1 => ?_
  · cases he : evs g es l S with
    | ok ds S1 =>
      rw [he] at q
      show PoS X.K ca W E F (if sizeOk ds.length then (match setAll [i, j] ds l with | some l1 => .nx l1 S1 | none => .bad) else .bad)
      have q' : PoS X.K ca W E F (R.then l (if sizeOk ds.length then R.ok (D.tup ds) S1 else R.bad) fun d S1 => match seqOf S1 d with
        | some ds => match setAll [i, j] ds l with
          | some l1 => .nx l1 S1
          | none => .bad
        | none => .bad) := q
      split at q'
      · rename_i hz
        rw [if_pos hz]
        exact q'
      · exact q'.elim
    | exc e S1 => rw [he] at q; exact q
    | bad => rw [he] at q; exact q
  · split at q1
    · split at q1
      · rename_i l2 hl2
        obtain ⟨z1, z2⟩ := (s.mono le1.tole0).setAll hv hl2
        match vs, z2 with
        | [v1, v2], _ => exact ⟨v1, v2, rfl, q1 W1 _ H1 (.refl _) r1 z1⟩
      · exact q1.elim
    · exact q1.elim

/-! ### ALL STATEMENTS -/
theorem xv_of {K : PySem.W.Frag} {W : Wd} {H : Hp} {d : D} {v : V} (e : Same W.fz H) (h : Vi K W d v) (ok : xOk d = true) : XV K H v := by
  cases d with
  | int i =>
    cases h
    exact .inl ⟨i, rfl, by simpa [xOk] using ok⟩
  | tup ds =>
    cases h with
    | @tup a vs _ q r =>
      unfold xOk at ok
      rw [Bool.and_eq_true] at ok
      obtain ⟨h1, h2⟩ := ok
      cases hd : allInts ds with
      | none => rw [hd] at h2; cases h2
      | some is =>
        rw [hd] at h2
        have key : ∀ {ds : List D} {is : List Int} {vs : List V}, allInts ds = some is → Vis K W ds vs → vs = is.map V.int ∧ ds.length = is.length := by
          intro ds
          induction ds with
          | nil => intro is vs e r; cases e; cases r; exact ⟨rfl, rfl⟩
          | cons d ds ih =>
            intro is vs e r
            cases r with
            | cons r1 r2 =>
              cases d <;> first | (cases e; done) | skip
              rename_i i
              unfold allInts at e
              cases h' : allInts ds with
              | none => rw [h'] at e; cases e
              | some js =>
                rw [h'] at e
                cases e
                cases r1
                obtain ⟨e1, e2⟩ := ih h' r2
                exact ⟨by rw [e1]; rfl, by simp [e2]⟩
        obtain ⟨e1, e2⟩ := key hd r
        subst e1
        exact .inr ⟨a, is, rfl, sqt_mono e q, by rw [← e2]; exact of_decide_eq_true h1, fun i hi => by simpa using List.all_eq_true.mp h2 i hi⟩
  | _ => cases ok
theorem lk_mem {β : Type} {k : String} {v : β} : ∀ {l : List (String × β)}, l.lookup k = some v → (k, v) ∈ l
  | [], h => by cases h
  | (k', v') :: l, h => by
    rw [List.lookup_cons] at h
    split at h
    · rename_i e
      cases h
      have e' : k = k' := by simpa using e
      rw [e']
      exact List.mem_cons_self
    · exact List.mem_cons_of_mem _ (lk_mem h)
theorem st_rs0 (C : CtxS T g ca CX E c X) {k : String} {w m : Str} {j : Nat} {p p2 p3 : Pos} (h1 : (w == Mw.nm k) = true) (h2 : glB c w = true) (h3 : T.xcs.lookup k = some none) : PS X (.Raise (some (.Call (.Name w p) [.Constant (.str m) j p2] [] p3)) none pos) (Ts X.K ca E (ex g (.rsX k .nil))) := by
  have e := eq_of_beq h1
  subst e
  obtain ⟨g1, g2, g3⟩ := C.toCtx.gl h2
  obtain ⟨q1, A, bmB, B, nI, iI, F, q, gC, hns, kC, r⟩ := C.xcs (k, none) (lk_mem h3)
  refine PS.imp (ps_raise C.calm C.tk (pmk_own F q gC kC r g1 g2)) fun F σ H ⟨W, l, S, s, r, q⟩ => ?_
  rw [ex, evs] at q
  have q1' : g.xf k = some none := q1
  have q' : PoS X.K ca W E F (RS.exc ⟨k, []⟩ l S) := by
    have e : R.then l (R.ok ([] : List D) S) (fun ds S1 => newX (g.xf k) k ds l S1) = RS.exc ⟨k, []⟩ l S := by
      rw [q1']
      rfl
    rw [← e]
    exact q
  exact q' W σ _ none H (.refl _) r s ⟨A, hns, rfl, .inl ⟨rfl, rfl⟩⟩
theorem st_rs1 (C : CtxS T g ca CX E c X) {k f : String} {w : Str} {e : Xp} {z : Expr} {p p3 : Pos} (h1 : (w == Mw.nm k) = true) (h2 : glB c w = true) (h3 : T.xcs.lookup k = some (some f)) (h4 : chkE T c e z = true) : PS X (.Raise (some (.Call (.Name w p) [z] [] p3)) none pos) (Ts X.K ca E (ex g (.rsX k (.cons e .nil)))) := by
  have e' := eq_of_beq h1
  subst e'
  obtain ⟨g1, g2, g3⟩ := C.toCtx.gl h2
  obtain ⟨q1, A, fI, n, fd, ps, hns, gC, T', iC, tI, F1, hr, hb⟩ := C.xcs (k, some f) (lk_mem h3)
  have hes : chkEs T c (.cons e .nil) [z] = true := by rw [chkEs, h4]; rfl
  have ha : PA X [z] (Ta X.K ca E (evs g (.cons e .nil))) := a_all (sndEs _ _ C.toCtx hes) hes
  refine PS.imp (ps_raise C.calm C.tk (pmk_oex T' iC tI F1 hr hb .nil (fun pins σ H s u s' I x => C.pas0 X σ rfl rfl pins H s u s' I x) g1 gC ha g2 (star_cons h4) (star_all (T := T) (c := c) (ps := .nil) rfl).1)) fun F σ H ⟨W, l, S, s, r, q⟩ => ?_
  rw [ex] at q
  refine ⟨W, l, S, s, r, ?_⟩
  refine PoS.then s q fun ds S1 W1 vs H1 le1 r1 hvs q1' => ?_
  have q1'' : g.xf k = some (some f) := q1
  rw [q1''] at q1'
  cases hvs with
  | nil => exact (show False from q1').elim
  | cons hv hvs' =>
    cases hvs' with
    | cons _ _ => exact (show False from q1').elim
    | nil =>
      rename_i d v
      have q2 : PoS X.K ca W1 E F (if xOk d then RS.exc ⟨k, [(f, d)]⟩ l S1 else RS.bad) := q1'
      split at q2
      · rename_i ok
        refine ⟨by simp, fun a na => ⟨a, v, rfl, upd_same, ?_, fun dx ndx hne => ⟨rfl, dx, [(Mw.nm f, v)], upd_same, ?_, ?_, ?_⟩⟩⟩
        · have e1 : Same W1.fz (upd H1 a (exo a A none)) := fun b o hb => by
            rw [upd_ne (ne_of_none (r1.fz _ _ hb) na)]
            exact r1.fz _ _ hb
          exact xv_of e1 hv ok
        · rw [upd_ne hne, upd_same]
        · rw [upd_ne hne] at ndx
          exact ndx
        · rw [upd_ne hne] at ndx
          have eH : upd (del (upd (upd (upd H1 a (exo a A none)) dx (exd dx [(Mw.nm f, v)])) a (exo a A (some dx))) a) dx (.xd [(Mw.nm f, v)]) = upd H1 dx (.xd [(Mw.nm f, v)]) := by
            funext b
            by_cases hb : b = dx
            · subst hb; rw [upd_same, upd_same]
            · rw [upd_ne hb, upd_ne hb]
              by_cases hb2 : b = a
              · subst hb2; rw [del_same, na]
              · rw [del_ne hb2, upd_ne hb2, upd_ne hb, upd_ne hb2]
          rw [eH]
          obtain ⟨le2, r2⟩ := r1.freeze ndx (.xd [(Mw.nm f, v)])
          exact q2 _ σ _ (some dx) _ le2 r2 ((s.mono le1.tole0).mono le2.tole0) ⟨A, hns, rfl, .inr ⟨dx, _, rfl, upd_same, .cons (hv.mono le2.tole0) .nil⟩⟩
      · exact (show False from q2).elim
theorem st_tr (C : CtxS T g ca CX E c X) {k : String} {w : Str} {body : Sms} {b : List Stmt} {np p1 p2 p3 : Pos} {j : Nat} (h1 : (w == Mw.nm k) = true) (h2 : glB c w = true) (h3 : T.hds.contains k = true) (hbody : ∀ (E' : L2.St → XK) (X' : Cx), CtxS T g ca CX E' c X' → PSs X' b (Ts X'.K ca E' (exs g body))) :
    PS X (.Try b [.ExceptHandler (some (.Name w np)) none [.Return (some (.Constant .none j p1)) p2] p3] [] [] pos) (Ts X.K ca E (ex g (.tr k body (.cons (.ret (.con .non)) .nil)))) := by
  have e := eq_of_beq h1
  subst e
  obtain ⟨g1, g2, g3⟩ := C.toCtx.gl h2
  obtain ⟨A, gA, nA⟩ := C.hds k (by simpa using h3)
  refine PS.imp (ps_try_only (c := .ref A) (tb := fun W => Ts X.K ca (fun σ cls d H => W cls d σ H) (exs g body)) (ts := fun _ _ _ => tRet (tC .non)) (Wout := fun cls d σ H => E σ cls d H) C.stk C.frm ⟨g1, g2, .inl gA⟩ C.tk
    (fun W pn xe tk own => ?_) (fun a oe cls d pn _ _ => pss_one (ps_ret pe_non))) fun F σ H ⟨W, l, S, s, r, q⟩ => ⟨W, l, S, s, r, ?_⟩
  · have C' : CtxS T g ca CX (fun σ cls d H => W cls d σ H) c (X.tr pn xe) := by
      refine ⟨⟨C.N, C.nm, C.kd, C.calm, C.nd, C.fn, C.un, C.cal, C.gls, C.blt, C.cls, C.mks, fun σ => ?_, C.pas0⟩, own, C.top, C.cx, tk, C.stk, C.frm, C.xcs, C.hds, C.sb⟩
      have := passAt (X := X.tr pn xe) tk σ
      rw [C.cx]
      exact this
    exact hbody _ _ C'
  · rw [ex] at q
    cases hb : exs g body l S with
    | exc e l1 S1 =>
      rw [hb] at q
      dsimp only at q
      intro W' σ' cls dx H' le r' s' x
      cases hs : g.sb e.cls k with
      | none => rw [hs] at q; exact (show False from q).elim
      | some b =>
        rw [hs] at q
        obtain ⟨A1, A2, e1, e2, e3⟩ := C.sb _ _ _ hs
        obtain ⟨A3, x1, x2, x3⟩ := x
        rw [e1] at x1
        rw [nA] at e2
        cases x1
        cases e2
        refine ⟨b, by rw [x2]; exact e3, fun hb' => ?_, fun hb' => ?_⟩
        · subst hb'
          intro a _
          rw [exs, ex, ev] at q
          exact q W' .non H' le r' .non
        · subst hb'
          exact q W' σ' cls dx H' le r' s' ⟨A1, e1, x2, x3⟩
    | nx l1 S1 => rw [hb] at q; exact q
    | rt d S1 => rw [hb] at q; exact q
    | bk l1 S1 => rw [hb] at q; exact q
    | ct l1 S1 => rw [hb] at q; exact q
    | bad => rw [hb] at q; exact q
mutual
theorem sndS : ∀ (p : Sm) (st : Stmt) (E : L2.St → XK) (X : Cx), CtxS T g ca CX E c X → chkS T c p st = true → PS X st (Ts X.K ca E (ex g p))
  | .asg i e, st, E, X, C, h => by
    cases st <;> first | (exact Bool.noConfusion (show false = true from h)) | skip
    rename_i ts v pos
    match ts, h with
    | [], h => exact Bool.noConfusion (show false = true from h)
    | t :: _ :: _, h => cases t <;> exact Bool.noConfusion (show false = true from h)
    | [t], h =>
      cases t <;> first | (exact Bool.noConfusion (show false = true from h)) | skip
      simp only [chkS, Bool.and_eq_true] at h
      exact st_asg C.toCtx h.1.1 h.1.2 h.2
  | .unp is e, st, E, X, C, h => by
    cases st <;> first | (cases e <;> exact Bool.noConfusion (show false = true from h)) | skip
    rename_i ts v pos
    match ts, h with
    | [], h => cases e <;> exact Bool.noConfusion (show false = true from h)
    | t :: _ :: _, h => cases e <;> cases t <;> exact Bool.noConfusion (show false = true from h)
    | [t], h =>
      cases t <;> first | (cases e <;> exact Bool.noConfusion (show false = true from h)) | skip
      rename_i es k p
      by_cases hv : isTupE v = false
      · have h' : (tgB c is es && !isTupE v && chkE T c e v) = true := by
          cases v <;> first | (exact Bool.noConfusion (show true = false from hv)) | (cases e <;> exact h)
        simp only [Bool.and_eq_true] at h'
        exact st_unp C.toCtx h'.1.1 hv (sndE _ _ C.toCtx h'.2).1
      · cases v <;> first | (exact (hv rfl).elim) | skip
        rename_i vs k2 p2
        cases e <;> first | (have h' : (tgB c is es && false && _) = true := h; simp at h'; done) | skip
        rename_i xs
        unfold chkS at h
        rw [Bool.or_eq_true] at h
        rcases h with h | h
        · simp only [Bool.and_eq_true] at h
          exact st_unpS C.toCtx h.1.1 (ss_fold h.1.2 _) (sndE (.tup xs) _ C.toCtx (by unfold chkE; exact h.2)).1
        split at h
        · simp only [Bool.and_eq_true] at h
          obtain ⟨⟨⟨⟨⟨⟨⟨⟨⟨⟨⟨h1, h2⟩, h3⟩, h4⟩, h5⟩, h6⟩, h7⟩, h8⟩, h9⟩, h10⟩, h11⟩, h12⟩ := h
          exact st_par2 C.toCtx h1 h2 h5 h3 h4 h6 h7 h8 h9 h10 h11 (a_all (sndEs _ _ C.toCtx h12) h12)
        · exact Bool.noConfusion h
  | .star i j e, st, E, X, C, h => by
    cases st <;> first | (exact Bool.noConfusion (show false = true from h)) | skip
    rename_i ts v pos
    match ts, h with
    | [], h => exact Bool.noConfusion (show false = true from h)
    | t :: _ :: _, h =>
      cases t <;> first | (exact Bool.noConfusion (show false = true from h)) | skip
      rename_i es _ _
      match es, h with
      | [], h => exact Bool.noConfusion (show false = true from h)
      | [e1], h => cases e1 <;> exact Bool.noConfusion (show false = true from h)
      | e1 :: e2 :: [], h =>
        cases e1 <;> first | (exact Bool.noConfusion (show false = true from h)) | skip
        cases e2 <;> first | (exact Bool.noConfusion (show false = true from h)) | skip
        rename_i e3 _
        cases e3 <;> exact Bool.noConfusion (show false = true from h)
      | e1 :: e2 :: _ :: _, h =>
        cases e1 <;> first | (exact Bool.noConfusion (show false = true from h)) | skip
        cases e2 <;> first | (exact Bool.noConfusion (show false = true from h)) | skip
        rename_i e3 _
        cases e3 <;> exact Bool.noConfusion (show false = true from h)
    | [t], h =>
      cases t <;> first | (exact Bool.noConfusion (show false = true from h)) | skip
      rename_i es _ _
      match es, h with
      | [], h => exact Bool.noConfusion (show false = true from h)
      | [e1], h => cases e1 <;> exact Bool.noConfusion (show false = true from h)
      | e1 :: e2 :: _ :: _, h =>
        cases e1 <;> first | (exact Bool.noConfusion (show false = true from h)) | skip
        cases e2 <;> first | (exact Bool.noConfusion (show false = true from h)) | skip
        rename_i e3 _
        cases e3 <;> exact Bool.noConfusion (show false = true from h)
      | [e1, e2], h =>
        cases e1 <;> first | (exact Bool.noConfusion (show false = true from h)) | skip
        cases e2 <;> first | (exact Bool.noConfusion (show false = true from h)) | skip
        rename_i e3 _
        cases e3 <;> first | (exact Bool.noConfusion (show false = true from h)) | skip
        simp only [chkS, Bool.and_eq_true, Bool.not_eq_true'] at h
        obtain ⟨⟨⟨h1, h2⟩, h3⟩, h4⟩ := h
        exact st_star C.toCtx h1 h2 h3 (sndE _ _ C.toCtx h4).1
  | .sset o i v, st, E, X, C, h => by
    cases st <;> first | (exact Bool.noConfusion (show false = true from h)) | skip
    rename_i ts v pos
    match ts, h with
    | [], h => exact Bool.noConfusion (show false = true from h)
    | t :: _ :: _, h => cases t <;> exact Bool.noConfusion (show false = true from h)
    | [t], h =>
      cases t <;> first | (exact Bool.noConfusion (show false = true from h)) | skip
      simp only [chkS, Bool.and_eq_true] at h
      obtain ⟨⟨⟨h1, h2⟩, h3⟩, h4⟩ := h
      exact st_sset C.toCtx h1 (sndE _ _ C.toCtx h2).1 (sndE _ _ C.toCtx h3).1 (sndE _ _ C.toCtx h4).1
  | .fset o f v, st, E, X, C, h => by
    cases st <;> first | (exact Bool.noConfusion (show false = true from h)) | skip
    rename_i ts v pos
    match ts, h with
    | [], h => exact Bool.noConfusion (show false = true from h)
    | t :: _ :: _, h => cases t <;> exact Bool.noConfusion (show false = true from h)
    | [t], h =>
      cases t <;> first | (exact Bool.noConfusion (show false = true from h)) | skip
      simp only [chkS, Bool.and_eq_true] at h
      obtain ⟨⟨⟨h1, h2⟩, h3⟩, h4⟩ := h
      exact st_fset C.toCtx h1 h2 (sndE _ _ C.toCtx h3).1 (sndE _ _ C.toCtx h4).1
  | .faug o f op v, st, E, X, C, h => by
    cases st <;> first | (exact Bool.noConfusion (show false = true from h)) | skip
    rename_i t op' v pos
    cases t <;> first | (exact Bool.noConfusion (show false = true from h)) | skip
    simp only [chkS, Bool.and_eq_true] at h
    obtain ⟨⟨⟨⟨h1, h2⟩, h3⟩, h4⟩, h5⟩ := h
    have e := eq_of_beq h3
    subst e
    exact st_faug C.toCtx h1 h2 (sndE _ _ C.toCtx h4).1 (sndE _ _ C.toCtx h5).1
  | .aug i op e, st, E, X, C, h => by
    cases st <;> first | (exact Bool.noConfusion (show false = true from h)) | skip
    rename_i t op' v pos
    cases t <;> first | (exact Bool.noConfusion (show false = true from h)) | skip
    simp only [chkS, Bool.and_eq_true] at h
    obtain ⟨⟨h1, h2⟩, h3⟩ := h
    have e := eq_of_beq h2
    subst e
    exact st_aug C.toCtx h1 (sndE _ _ C.toCtx h3).1
  | .exp e, st, E, X, C, h => by
    cases st <;> first | (exact Bool.noConfusion (show false = true from h)) | skip
    simp only [chkS, Bool.and_eq_true, Bool.not_eq_true'] at h
    exact st_exp (sndE _ _ C.toCtx h.2).1 h.1
  | .ret e, st, E, X, C, h => by
    cases st <;> first | (exact Bool.noConfusion (show false = true from h)) | skip
    rename_i v pos
    cases v with
    | some v => exact st_ret (sndE _ _ C.toCtx (by simpa only [chkS] using h)).1
    | none =>
      cases e <;> first | (exact Bool.noConfusion (show false = true from h)) | skip
      rename_i d
      cases d <;> first | (exact Bool.noConfusion (show false = true from h)) | skip
      exact st_retN
  | .ite q a b, st, E, X, C, h => by
    cases st <;> first | (exact Bool.noConfusion (show false = true from h)) | skip
    simp only [chkS, Bool.and_eq_true] at h
    exact st_ite (sndE _ _ C.toCtx h.1.1).2 (sndSs a _ _ _ C h.1.2) (sndSs b _ _ _ C h.2)
  | .fr tg tt it body, st, E, X, C, h => by
    cases st <;> first | (exact Bool.noConfusion (show false = true from h)) | skip
    rename_i t i b o pos
    cases o with
    | cons _ _ => exact Bool.noConfusion (show false = true from h)
    | nil =>
      simp only [chkS, Bool.and_eq_true] at h
      obtain ⟨⟨⟨h1, h2⟩, h3⟩, h4⟩ := h
      exact st_fr C (sndI _ _ _ _ C.toCtx h2 h3) h1 h3 (sndSs body _ _ _ C h4)
  | .whl q body, st, E, X, C, h => by
    cases st <;> first | (exact Bool.noConfusion (show false = true from h)) | skip
    rename_i t b o pos
    cases o with
    | cons _ _ => exact Bool.noConfusion (show false = true from h)
    | nil =>
      simp only [chkS, Bool.and_eq_true] at h
      exact st_whl C (sndE _ _ C.toCtx h.1).2 (sndSs body _ _ _ C h.2)
  | .pass, st, E, X, C, h => by
    cases st <;> first | (exact Bool.noConfusion (show false = true from h)) | skip
    exact PS.imp ps_pass fun F σ H ⟨W, l, S, s, r, q⟩ => by
      rw [ex] at q
      exact q W σ H (.refl _) r s
  | .brk, st, E, X, C, h => by
    cases st <;> first | (exact Bool.noConfusion (show false = true from h)) | skip
    exact PS.imp ps_break fun F σ H ⟨W, l, S, s, r, q⟩ => by
      rw [ex] at q
      exact q W σ H (.refl _) r s
  | .cnt, st, E, X, C, h => by
    cases st <;> first | (exact Bool.noConfusion (show false = true from h)) | skip
    exact PS.imp ps_continue fun F σ H ⟨W, l, S, s, r, q⟩ => by
      rw [ex] at q
      exact q W σ H (.refl _) r s
  | .rse k es, st, E, X, C, h => PS.imp ps_never fun F σ H ⟨W, l, S, s, r, q⟩ => by
    rw [ex] at q
    exact q
  | .rsX k es, st, E, X, C, h => by
    cases st <;> first | (exact Bool.noConfusion (show false = true from h)) | skip
    rename_i e1 e2 pos
    cases e1 with
    | none => exact Bool.noConfusion (show false = true from h)
    | some e1 =>
      cases e1 <;> first | (exact Bool.noConfusion (show false = true from h)) | skip
      rename_i fn args kws p3
      cases fn <;> first | (exact Bool.noConfusion (show false = true from h)) | skip
      rename_i x p
      cases kws with
      | cons _ _ => exact Bool.noConfusion (show false = true from h)
      | nil =>
        cases e2 with
        | some _ => exact Bool.noConfusion (show false = true from h)
        | none =>
          unfold chkS at h
          rw [Bool.and_eq_true, Bool.and_eq_true] at h
          obtain ⟨⟨h1, h2⟩, h3⟩ := h
          split at h3
          · exact st_rs0 C h1 h2 (by assumption)
          · exact st_rs1 C h1 h2 (by assumption) h3
          · exact Bool.noConfusion h3
  | .tr k body suite, st, E, X, C, h => by
    cases st <;> first | (exact Bool.noConfusion (show false = true from h)) | skip
    rename_i b hs oe fb pos
    cases oe with
    | cons _ _ => exact Bool.noConfusion (show false = true from h)
    | nil =>
      cases fb with
      | cons _ _ => exact Bool.noConfusion (show false = true from h)
      | nil =>
        rw [chkS, Bool.and_eq_true] at h
        obtain ⟨h0, h⟩ := h
        have e := isRetN_eq h0
        subst e
        cases hh : hdlB hs with
        | none => rw [hh] at h; cases h
        | some x =>
          rw [hh] at h
          simp only [Bool.and_eq_true] at h
          obtain ⟨⟨⟨h1, h2⟩, h3⟩, h4⟩ := h
          unfold hdlB at hh
          split at hh
          · cases hh
            exact st_tr C h1 h2 h3 fun E' X' C' => sndSs body _ E' X' C' h4
          · cases hh
theorem sndSs : ∀ (p : Sms) (st : List Stmt) (E : L2.St → XK) (X : Cx), CtxS T g ca CX E c X → chkSs T c p st = true → PSs X st (Ts X.K ca E (exs g p))
  | .nil, [], E, X, C, h => PSs.imp pss_nil fun F σ H ⟨W, l, S, s, r, q⟩ => by
    rw [exs] at q
    exact q W σ H (.refl _) r s
  | .nil, _ :: _, E, X, C, h => Bool.noConfusion (show false = true from h)
  | .cons _ _, [], E, X, C, h => Bool.noConfusion (show false = true from h)
  | .cons p ps, e :: es, E, X, C, h => by
    rw [chkSs, Bool.and_eq_true] at h
    exact st_seq (sndS p e E X C h.1) (sndSs ps es E X C h.2)
end
end
end Mw
/-! Mw, part K: defs. -/
namespace Mw
open PySem PySem.Spec PyProof.Rows L2
/-- a program of the core: its defs, which def a class has for a method's name -/
structure Pg where
  fns : List (String × Fn)
  mts : List (String × List (String × String))
  fuel : Nat
  xcs : List (String × Option String)
  xsb : List ((String × String) × Bool)
def Pg.mt (P : Pg) (C m : String) : Option String := (P.mts.lookup C).bind fun l => l.lookup m
def Pg.xf (P : Pg) (C : String) : Option (Option String) := P.xcs.lookup C
def Pg.sb (P : Pg) (C C' : String) : Option Bool := (P.xsb.find? fun q => decide (q.1 = (C, C'))).map (·.2)
/-- so many calls within one another -/
def cfn (P : Pg) : Nat → CF
  | 0, _, _, _ => .bad
  | n + 1, f, xs, S => match P.fns.lookup f with
    | none => .bad
    | some d => run ⟨cfn P n, P.mt, fun C xs S => match P.mt C "__init__" with
      | some q => mkR (fun f xs S => match n with
        | 0 => .bad
        | m + 1 => cfn P m f xs S) q C xs S
      | none => .bad, P.fuel, P.xf, P.sb⟩ d xs S
/-- one fewer -/
def cfp (P : Pg) (n : Nat) : CF := fun f xs S => match n with
  | 0 => .bad
  | m + 1 => cfn P m f xs S
def Pg.nw (P : Pg) (n : Nat) : CF := fun C xs S => match P.mt C "__init__" with
  | some q => mkR (cfp P n) q C xs S
  | none => .bad
def Pg.cfg (P : Pg) (n : Nat) : Cfg := ⟨cfn P n, P.mt, P.nw n, P.fuel, P.xf, P.sb⟩
theorem cfn_zero (P : Pg) (f : String) (xs : List D) (S : Store) : cfn P 0 f xs S = .bad := by rw [cfn]
theorem cfn_succ (P : Pg) (n : Nat) (f : String) (xs : List D) (S : Store) : cfn P (n + 1) f xs S = match P.fns.lookup f with
    | none => .bad
    | some d => run (P.cfg n) d xs S := by
  rw [cfn]
  rfl
def spOf (K : PySem.W.Frag) (ca : String → Option Addr) (cf : CF) (f : String) (ar : Nat) : Sp := fun vs H Q E => vs.length = ar ∧ ∃ W S xs, Vis K W xs vs ∧ Rl K ca W S H ∧ Po K ca W E (Vi K) Q (cf f xs S)
/-- a def as it stands behind the top -/
structure Ent where
  f : Addr
  fd : FuncData
  ps : List Str
/-- a def's text is what the core has -/
structure FnIs (K : PySem.W.Frag) (T : Tb) (P : Pg) (key : String) (e : Ent) : Prop where
  ex : ∃ (x qual : Str) (params : Arguments) (body : List Stmt) (scope : Scope) (dvs : List V) (d : Fn) (N : List Str), P.fns.lookup key = some d ∧ FunD K x qual params body scope dvs [] e.f e.fd ∧ FnScope N e.ps scope ∧ e.ps.length = d.ar ∧ N.length = d.n ∧
    chkSs T ⟨N, scope.names, none⟩ d.body body = true
/-- what the top has of a class of exceptions -/
def XcTop (Pr : Program) (w : World) (K : PySem.W.Frag) (mg : Str → Option Value) (base : Heap) (C : String) : Option String → Prop
  | none => ∃ (A : Addr) (bmB : List Value) (B newId initId : String), ExcBaseFacts B newId initId bmB ∧ PySem.W.excIn K A bmB newId = true ∧ mg (nm C) = some (.ref A) ∧ PySem.W.nsIn K mainGlobals (nm C) = some (some (.ref A)) ∧ PySem.W.keepIn K (.ref A) = true ∧ PySem.W.subIn K (.ref A) (.type "BaseException") = some true ∧ PySem.W.typeIn K (.ref A) = some (.type "type")
  | some f => ∃ (A fI : Addr) (fd : FuncData) (ps : List Str), PySem.W.nsIn K mainGlobals (nm C) = some (some (.ref A)) ∧ mg (nm C) = some (.ref A) ∧ OexC K A ∧ PySem.W.findIn K (.ref A) "__init__" = some (some (.ref fI)) ∧ PySem.W.typeIn K (.ref fI) = some (.type "function") ∧
    FnOk Pr w K mg base (L2.CX Pr w) 1 fI fd ps (spXi K A f) ∧ Binds K fd ps []
/-- what is known of the top -/
structure Top (Pr : Program) (w : World) (K : PySem.W.Frag) (mg : Str → Option Value) (base : Heap) (ca : String → Option Addr) (T : Tb) (P : Pg) (tab : String → Option Ent) : Prop where
  fn : ∀ key e, tab key = some e → FnIs K T P key e
  cal : ∀ q ∈ T.cals, ∃ e, tab q.1 = some e ∧ mg (nm q.1) = some (.ref e.f) ∧ PySem.W.keepIn K (.ref e.f) = true ∧ ∃ dvs ds, Binds K e.fd e.ps ds ∧ Vals dvs ds ∧ ∀ W, Vis K W q.2 dvs
  gls : ∀ q ∈ T.gls, ∃ u v, mg (nm q.1) = some u ∧ RelV v u ∧ ∀ W, Vi K W q.2 v
  blt : ∀ x ∈ T.blts, mg (nm x) = none
  cls : ∀ C A, ca C = some A → Cls K A ∧ (∀ f ∈ T.fls, NoAttr K A (nm f)) ∧ ∀ m ∈ T.mts, ∀ q, P.mt C m = some q → ∃ e, tab q = some e ∧ Meth K A (nm m) e.f ∧ Binds K e.fd e.ps []
  mks : ∀ C ∈ T.mks, ∃ (A : Addr) (q : String) (e : Ent), ca C = some A ∧ mg (nm C) = some (.ref A) ∧ P.mt C "__init__" = some q ∧ tab q = some e ∧ L2.Mk K A e.f ∧ Binds K e.fd e.ps []
  xcs : ∀ q ∈ T.xcs, P.xf q.1 = some q.2 ∧ XcTop Pr w K mg base q.1 q.2
  hds : ∀ C ∈ T.hds, ∃ A, mg (nm C) = some (.ref A) ∧ PySem.W.nsIn K mainGlobals (nm C) = some (some (.ref A))
  sb : ∀ C C' b, P.sb C C' = some b → ∃ A A', PySem.W.nsIn K mainGlobals (nm C) = some (some (.ref A)) ∧ PySem.W.nsIn K mainGlobals (nm C') = some (some (.ref A')) ∧ PySem.W.exmOne K (.ref A) (.ref A') = some b
theorem sl_start {K : PySem.W.Frag} {W : Wd} {xs : List D} {vs : List V} (h : Vis K W xs vs) (N : List Str) (m : Nat) (e : N.length - vs.length = m) : Sl K W (xs.map some ++ List.replicate m none) (L2.start N vs) := by
  unfold L2.start
  rw [e]
  refine ⟨by simp [h.length], fun i d hi => ?_⟩
  by_cases hl : i < xs.length
  · rw [List.getElem?_append_left (by simpa using hl), List.getElem?_map] at hi
    cases hx : xs[i]? with
    | none => rw [hx] at hi; cases hi
    | some d' =>
      rw [hx] at hi
      cases hi
      obtain ⟨v, h1, h2⟩ := h.get hx
      exact ⟨v, by rw [List.getElem?_append_left (by simpa [← h.length] using hl), List.getElem?_map, h1]; rfl, h2⟩
  · rw [List.getElem?_append_right (by simpa using hl), List.getElem?_replicate] at hi
    split at hi <;> cases hi
theorem pos_out {K : PySem.W.Frag} {ca : String → Option Addr} {W : Wd} {E : XK} {Q : VK} {r : RS} (p : Po K ca W E (Vi K) Q r.out) : PoS K ca W (fun _ => E) { nx := fun _ H' => Q .non H', rt := Q } r := by
  cases r with
  | nx l S => exact fun W' σ H' le r _ => p W' _ H' le r .non
  | rt d S => exact p
  | exc e l S => exact fun W' σ c d H' le r _ x => p W' c d H' le r x
  | bk l S => exact (show False from p).elim
  | ct l S => exact (show False from p).elim
  | bad => exact p
section
variable {Pr : Program} {w : World} {K : PySem.W.Frag} {mg : Str → Option Value} {base : Heap} {ca : String → Option Addr} {T : Tb} {P : Pg} {tab : String → Option Ent}
theorem Top.len (t : Top Pr w K mg base ca T P tab) (n : Nat) (key : String) (e : Ent) (he : tab key = some e) {W : Wd} {S : Store} {xs : List D} {vs : List V} {E : XK} {Q : VK} (a : Vis K W xs vs) (p : Po K ca W E (Vi K) Q (cfn P n key xs S)) : vs.length = e.ps.length := by
  cases n with
  | zero => rw [cfn_zero] at p; exact (show False from p).elim
  | succ n =>
    obtain ⟨x, qual, params, body, scope, dvs, d, N, hd, F, S, h1, h2, hc⟩ := (t.fn key e he).ex
    rw [cfn_succ, hd] at p
    dsimp only at p
    rw [run] at p
    split at p
    · rename_i hh
      rw [← a.length, hh.1, h1]
    · exact p.elim
theorem no_sp {f : String} {ar : Nat} {cf : CF} (h : ∀ xs S, cf f xs S = .bad) : ∀ vs H Q E, ¬ spOf K ca cf f ar vs H Q E := fun vs H Q E ⟨_, W, S, xs, _, _, p⟩ => by rw [h] at p; exact p
theorem fn_no {k : Nat} {e : Ent} {sp : Sp} (no : ∀ vs H Q E, ¬ sp vs H Q E) : FnOk Pr w K mg base (L2.CX Pr w) k e.f e.fd e.ps sp := ⟨fun vs H Q E h => absurd h (no vs H Q E), fun A outer s H args us vs Q E _ _ _ _ h => absurd h (no vs H Q E)⟩
theorem Top.ok (t : Top Pr w K mg base ca T P tab) : ∀ (n : Nat) (key : String) (e : Ent), tab key = some e → FnOk Pr w K mg base (L2.CX Pr w) (n + 2) e.f e.fd e.ps (spOf K ca (cfn P n) key e.ps.length)
  | 0, key, e, _ => fn_no (no_sp fun xs S => cfn_zero P key xs S)
  | n + 1, key, e, he => by
    obtain ⟨x, qual, params, body, scope, dvs, d, N, hd, F, S, h1, h2, hc⟩ := (t.fn key e he).ex
    refine F.ok S (fun vs H Q E h => h.1) (fun cdv A outer s H vs Q E hr h => ?_)
    obtain ⟨hl, W, St, xs, hv, r, p⟩ := h
    have low : ∀ q e', tab q = some e' → FnOk Pr w K mg base (L2.CX Pr w) (n + 1) e'.f e'.fd e'.ps (spOf K ca (cfp P n) q e'.ps.length) := fun q e' h' => by
      cases n with
      | zero => exact fn_no (no_sp fun _ _ => rfl)
      | succ m => exact t.ok m q e' h'
    have lowlen : ∀ q e', tab q = some e' → ∀ {W : Wd} {S : Store} {xs : List D} {vs : List V} {E : XK} {Q : VK}, Vis K W xs vs → Po K ca W E (Vi K) Q (cfp P n q xs S) → vs.length = e'.ps.length := fun q e' h' {W S xs vs E Q} a p => by
      cases n with
      | zero => exact (show False from p).elim
      | succ m => exact t.len m q e' h' a p
    have tk : Takes (cxOf (L2.CX Pr w) Pr w K mg base N qual scope e.f cdv A outer s H E) (fun cls d _ H => E cls d H) := takes_of rfl rfl rfl rfl
    have C : CtxS T (P.cfg n) ca (L2.CX Pr w) (fun _ => E) ⟨N, scope.names, none⟩ (cxOf (L2.CX Pr w) Pr w K mg base N qual scope e.f cdv A outer s H E) := by
      refine ⟨⟨rfl, rfl, S.kind, rfl, S.nd, fun _ => rfl, ?_, fun q hq => ?_, t.gls, t.blt, fun Cn A hA => ?_, fun Cn hC => ?_, fun σ => passAt tk σ, fun X' σ h1 h2 pins H s e s' I x => ?_⟩, PassesOwn.leaving, rfl, rfl, tk, rfl, rfl, fun q hq => ?_, t.hds, t.sb⟩
      · have := hr.un
        show (A.deeper (envOfC qual scope s.heap.objs.size e.f cdv)).units + 64 < cLine
        omega
      · obtain ⟨e', k1, k2, k3, dvs', ds, k4, k5, k6⟩ := t.cal q hq
        exact ⟨n + 2, e'.f, e'.fd, e'.ps, spOf K ca (cfn P n) q.1 e'.ps.length, dvs', ds, t.ok n q.1 e' k1, hr, k2, k3, k4, k5, k6, fun vs H Q E ⟨W, S, xs, a, b, c⟩ => ⟨t.len _ _ _ k1 a c, W, S, xs, a, b, c⟩⟩
      · obtain ⟨c1, c2, c3⟩ := t.cls Cn A hA
        refine ⟨c1, c2, fun m hm q hq => ?_⟩
        obtain ⟨e', k1, k2, k3⟩ := c3 m hm q hq
        exact ⟨e'.f, k2, n + 2, e'.fd, e'.ps, spOf K ca (cfn P n) q e'.ps.length, t.ok n q e' k1, hr, k3, fun vs H Q E ⟨W, S, xs, a, b, c⟩ => ⟨t.len _ _ _ k1 a c, W, S, xs, a, b, c⟩⟩
      · obtain ⟨A', q, e', k1, k2, k3, k4, k5, k6⟩ := t.mks Cn hC
        refine ⟨A', e'.f, n + 1, e'.fd, e'.ps, spOf K ca (cfp P n) q e'.ps.length, cfp P n, q, k1, k2, k5, low q e' k4, hr, k6, fun xs S => ?_, fun vs H Q E ⟨W, S, xs, a, b, c⟩ => ⟨lowlen q e' k4 a c, W, S, xs, a, b, c⟩⟩
        show P.nw n Cn xs S = _
        unfold Pg.nw
        rw [k3]
      · obtain ⟨_, _, _, _, _, _, _, _, _, _, _, _, f⟩ := x
        exact f.elim
      · obtain ⟨q1, q2⟩ := t.xcs q hq
        refine ⟨q1, ?_⟩
        obtain ⟨C, o⟩ := q
        cases o with
        | none =>
          obtain ⟨A', bmB, B, nI, iI, k1, k2, k3, k4, k5, k6, k7⟩ := q2
          exact ⟨A', bmB, B, nI, iI, k1, k2, k3, k4, k5, raises_own k6 k7⟩
        | some f =>
          obtain ⟨A', fI, fd', ps', k1, k2, k3, k4, k5, k6, k7⟩ := q2
          exact ⟨A', fI, 1, fd', ps', k1, k2, k3, k4, k5, k6, hr.mono (by omega), k7⟩
    refine ⟨_, sndSs d.body body _ _ C hc, W, xs.map some ++ List.replicate (d.n - d.ar) none, St, sl_start hv N _ (by rw [hl, h1, h2]), r, ?_⟩
    have p' : Po K ca W E (Vi K) Q (cfn P (n + 1) key xs St) := p
    rw [cfn_succ, hd] at p'
    dsimp only at p'
    rw [run] at p'
    split at p'
    · exact pos_out p'
    · exact p'.elim
end
end Mw
/-! MwX1: the __init__ of an exception's class that sets one field. -/
namespace Mw
open PySem PySem.Spec PyProof.Rows L2
theorem met_eq0 {X : Cx} {x : Expr} {pos : Pos} {n : Str} {fs : List Expr} {apos : Pos} (h2 : baseOk x = true) (h3 : (apos.endLine == pos.line) = true) (h4 : fs.length < 29) (h5 : (backTo pos (starEach fs X.env)).all (fun x => !x.1) = true) :
    eval (.Call (.Attribute x n apos) fs [] pos) X.env = (do
      let ov ← eval x X.env
      standAt apos.atName
      let (f, first) ← holding [ov] (getMethod ov n (do return (← importBound x X.env).getD true))
      callWith pos f first (backTo pos (starEach fs X.env)) (backToKw pos (keywordEach [] X.env))) := by
  rw [arm_eval_Call, base_ok h2]
  have hform : methodCallForm (fs.length + ([] : List Keyword).length) (backTo pos (starEach fs X.env)) (backToKw pos (keywordEach [] X.env)) = true := by
    unfold methodCallForm
    rw [h5]
    show (true && true && decide (fs.length + 0 + 0 < 30)) = true
    rw [decide_eq_true (by omega)]; rfl
  have hpos : methodCallPos true x X.env apos pos = pure pos := by unfold methodCallPos; simp [h3]
  unfold methodCall
  rw [hform, hpos]
  simp only [calleeOf, if_true, pure_bind, bind_assoc]
theorem xi_ok {Pr : Program} {w : World} {K : PySem.W.Frag} {mg : Str → Option Value} {base : Heap} {x qual : Str} {params : Arguments} {body : List Stmt} {scope : Scope} {fI A B : Addr} {fd : FuncData} {f : String} {wB pre : Str} {mc : Value} {j : Nat} {p1 p2 p3 p4 p5 p6 p7 p8 p9 p10 p11 p12 p13 : Pos}
    (F : FunD K x qual params body scope [] [] fI fd) (S : FnScope [nm "self", nm f] [nm "self", nm f] scope) (hself : scope.names.lookup (nm "self") = some .local) (hf : scope.names.lookup (nm f) = some .local) (hB : scope.names.lookup wB = some .globalImplicit)
    (d1 : (nm f == ("__debug__" : Str)) = false) (d2 : (nm f == ("__classdict__" : Str)) = false) (d3 : (wB == ("__debug__" : Str)) = false) (hpre : pre.length ≤ 1000)
    (OB : OexB K B mc) (gB : mg wB = some (.ref B)) (O : OexC K A) (no : PySem.W.findIn K (.ref A) (nm f) = some none) (hp : (p2.endLine == p8.line) = true)
    (e : body = [.Expr (.Call (.Attribute (.Name wB p1) "__init__" p2) [.Name (nm "self") p3, .JoinedStr [.Constant (.str pre) j p4, .FormattedValue (.Name (nm f) p5) (-1) none p6] p7] [] p8) p9, .Assign [.Attribute (.Name (nm "self") p10) (nm f) p11] (.Name (nm f) p12) p13]) :
    FnOk Pr w K mg base (L2.CX Pr w) 1 fI fd [nm "self", nm f] (spXi K A f) := by
  subst e
  refine F.ok S (fun vs H Q E h => by obtain ⟨a, v, rfl, _⟩ := h; rfl) (fun cdv A' outer s H vs Q E hr h => ?_)
  refine ⟨_, pss_cons (ps_expr (pe_ownInit OB hB gB d3 (pa_cons (pv 0 rfl (.inl hself) (by decide) (by decide)) (pa_cons (pe_joined (.cons pe_str (.cons (pe_fmtI hr (pv 1 rfl (.inl hf) d1 d2)) .nil))) pa_nil)) (met_eq0 rfl hp (by simp) rfl)))
    (pss_one (ps_ost (pv 0 rfl (.inl hself) (by decide) (by decide)) (pv 1 rfl (.inl hf) d1 d2))), ?_⟩
  obtain ⟨a, v, rfl, ha, hv, hq⟩ := h
  have z0 : (Str.empty ++ pre).length ≤ sizeLine := by
    have e : (Str.empty ++ pre).length = Str.empty.length + pre.length := strLen_append _ _
    have e0 : Str.empty.length = 0 := rfl
    rw [e, e0, sizeLine_eq]
    omega
  have z1 : ∀ m : Str, m.length ≤ 1000000 → ((Str.empty ++ pre) ++ m).length ≤ sizeLine := fun m hm => by
    have e : ((Str.empty ++ pre) ++ m).length = (Str.empty ++ pre).length + m.length := strLen_append _ _
    have e' : (Str.empty ++ pre).length = Str.empty.length + pre.length := strLen_append _ _
    have e0 : Str.empty.length = 0 := rfl
    rw [e, e', e0, sizeLine_eq]
    omega
  exact ⟨_, rfl, pre, rfl, z0, _, rfl, hv, fun m hm => ⟨m, rfl, z1 m hm, a, A, _, rfl, by simp, O, ha, _, rfl, _, rfl, a, A, rfl, O, no, .inl ⟨ha, fun dx n ne => hq dx n ne⟩⟩⟩
/-- a class above a class, as an except clause asks it -/
theorem exm_gen {K : PySem.W.Frag} {S S' : Addr} {b : Bool} (h1 : PySem.W.subIn K (.ref S') (.type "BaseException") = some true) (h2 : PySem.W.isClsIn K S' = true) (h3 : PySem.W.typeIn K (.ref S') = some (.type "type")) (h4 : PySem.W.subIn K (.ref S) (.ref S') = some b) :
    PySem.W.exmOne K (.ref S) (.ref S') = some b := by
  have e1 : (PySem.W.subIn K (.ref S') (.type "BaseException") == some true) = true := by rw [h1] <;> rfl
  have e2 : ((PySem.W.clsIn K S').isSome && PySem.W.typeIn K (.ref S') == some (.type "type")) = true := by
    have h2' : (PySem.W.clsIn K S').isSome = true := h2
    rw [h2', h3] <;> rfl
  unfold PySem.W.exmOne
  rw [if_pos e1]
  show (if ((PySem.W.clsIn K S').isSome && PySem.W.typeIn K (.ref S') == some (.type "type")) = true then PySem.W.subIn K (.ref S) (.ref S') else none) = some b
  rw [if_pos e2]
  exact h4
theorem oex_mk {K : PySem.W.Frag} {C : Addr} {nm : Str} {q : Str} {N : Addr} {bs bm : List Value} {sn : List Str} {sub : _} {ab : _} {col : _} {dd : _} {k0 k1 k2 k3 k5 : _} (l : K.lookup C = some (excClassObj nm q C N bs bm true sn sub ab col dd k0 k1 k2 k3 k5 "ValueError.__new__")) (hbm : PySem.HandSPX.refsVE bm = true)
    (sa : PySem.W.findIn K (.ref C) "__setattr__" = some (some (.builtin "object.__setattr__"))) (exC : PySem.W.subIn K (.ref C) (.type "BaseException") = some true) (tyC : PySem.W.typeIn K (.ref C) = some (.type "type")) (kC : PySem.W.keepIn K (.ref C) = true) : OexC K C :=
  ⟨⟨nm, q, N, bs, bm, sn, sub, ab, col, dd, k0, k1, k2, k3, k5, l, hbm⟩, sa, exC, tyC, kC⟩
end Mw
namespace G21
open PySem Mw
abbrev g_LETTERS : D := (D.str [97, 98, 99, 100, 101, 102, 103, 104, 105, 106, 107, 108, 109, 110, 111, 112, 113, 114, 115, 116, 117, 118, 119, 120, 121, 122])
abbrev g_MANY : D := (D.int 100)
abbrev g_MOST_DEEDS : D := (D.int 3)
abbrev g_MOST_DEEP : D := (D.int 6)
abbrev g_MOST_FIRST : D := (D.int 9)
abbrev g_MOST_NAME : D := (D.int 6)
abbrev g_MOST_NUMBER : D := (D.int 1000000000000)
abbrev g_MOST_PARTS : D := (D.int 24)
abbrev g_MOST_PLACES : D := (D.int 2)
abbrev g_MOST_SIGNS : D := (D.int 200)
abbrev g_NAMED : D := (D.tup [(D.str [115, 101, 116]), (D.str [116, 114, 121])])
abbrev g_PAIRED : D := (D.tup [(D.str [116, 111]), (D.str [111, 114]), (D.str [97, 110, 100]), (D.str [112, 108, 117, 115]), (D.str [108, 101, 115, 115]), (D.str [116, 105, 109, 101, 115]), (D.str [106, 111, 105, 110]), (D.str [98, 101, 108, 111, 119]), (D.str [115, 97, 109, 101]), (D.str [117, 110, 108, 105, 107, 101]), (D.str [101, 118, 101, 114, 121]), (D.str [116, 104, 101, 110]), (D.str [119, 104, 105, 108, 101]), (D.str [115, 99, 97, 110])])
abbrev g_PLAIN : D := (D.tup [(D.str [110, 111, 110, 101]), (D.str [112, 111, 115])])
abbrev g_QUOTE : D := (D.str [34])
abbrev g_SINGLE : D := (D.tup [(D.str [110, 111, 116]), (D.str [97, 103, 97, 105, 110]), (D.str [115, 97, 121]), (D.str [108, 111, 110, 103]), (D.str [116, 97, 98]), (D.str [102, 105, 110, 100]), (D.str [109, 97, 110, 121]), (D.str [109, 97, 116, 99, 104])])
/-- part low high -/
def b_is_number : Sms := (.cons (.ret (.and (.cons (.isi (.var 0) ["int"]) (.cons (.not (.isi (.var 0) ["bool"])) (.cons (.chn .LtE .LtE (.var 1) (.var 0) (.var 2)) .nil))))) .nil)
def f_is_number : Fn := ⟨3, 3, b_is_number⟩
def n_is_number : List Str := [nm "part", nm "low", nm "high"]
/-- part sign -/
def b_is_text : Sms := (.cons (.ite (.or (.cons (.not (.isi (.var 0) ["str"])) (.cons (.cmp .Gt (.blt .len false (.cons (.var 0) .nil)) (.glb "MOST_SIGNS" g_MOST_SIGNS)) .nil)))
    (.cons (.ret (.con (D.bl false))) .nil)
    .nil) (.cons (.ret (.blt .all false (.cons (.lc false [1] false (.seq (.var 0)) (.and (.cons (.chn .LtE .LtE (.con (D.str [32])) (.var 1) (.con (D.str [126]))) (.cons (.cmp .NotEq (.var 1) (.glb "QUOTE" g_QUOTE)) .nil))) (.con (D.bl true))) .nil))) .nil))
def f_is_text : Fn := ⟨1, 2, b_is_text⟩
def n_is_text : List Str := [nm "part", nm "sign"]
/-- part -/
def b_is_worth : Sms := (.cons (.ret (.or (.cons (.call "is_number" [] (.cons (.var 0) (.cons (.bin false .Sub (.con (D.int 0)) (.glb "MOST_NUMBER" g_MOST_NUMBER)) (.cons (.glb "MOST_NUMBER" g_MOST_NUMBER) .nil)))) (.cons (.call "is_text" [] (.cons (.var 0) .nil)) .nil)))) .nil)
def f_is_worth : Fn := ⟨1, 1, b_is_worth⟩
def n_is_worth : List Str := [nm "part"]
/-- part -/
def b_is_cell : Sms := (.cons (.ret (.and (.cons (.isi (.var 0) ["str"]) (.cons (.cmp .Eq (.blt .len false (.cons (.var 0) .nil)) (.con (D.int 1))) (.cons (.cmp .In (.var 0) (.glb "LETTERS" g_LETTERS)) .nil))))) .nil)
def f_is_cell : Fn := ⟨1, 1, b_is_cell⟩
def n_is_cell : List Str := [nm "part"]
/-- part letter -/
def b_is_name : Sms := (.cons (.ite (.or (.cons (.not (.isi (.var 0) ["str"])) (.cons (.not (.chn .LtE .LtE (.con (D.int 1)) (.blt .len false (.cons (.var 0) .nil)) (.glb "MOST_NAME" g_MOST_NAME))) .nil)))
    (.cons (.ret (.con (D.bl false))) .nil)
    .nil) (.cons (.ret (.blt .all false (.cons (.lc false [1] false (.seq (.var 0)) (.cmp .In (.var 1) (.glb "LETTERS" g_LETTERS)) (.con (D.bl true))) .nil))) .nil))
def f_is_name : Fn := ⟨1, 2, b_is_name⟩
def n_is_name : List Str := [nm "part", nm "letter"]
/-- part word -/
def b_inner_parts : Sms := (.cons (.asg 1 (.idx (.var 0) (.con (D.int 0)))) (.cons (.ite (.or (.cons (.cmp .In (.var 1) (.glb "PLAIN" g_PLAIN)) (.cons (.cmp .In (.var 1) (.tup (.cons (.con (D.str [105, 115])) (.cons (.con (D.str [97, 116])) .nil)))) .nil)))
    (.cons (.ret (.lst false .nil)) .nil)
    .nil) (.cons (.ite (.or (.cons (.cmp .In (.var 1) (.glb "NAMED" g_NAMED)) (.cons (.cmp .In (.var 1) (.tup (.cons (.con (D.str [109, 111, 115, 116])) (.cons (.con (D.str [99, 97, 108, 108])) .nil)))) .nil)))
    (.cons (.ret (.blt .list false (.cons (.slc false (.var 0) (.con (D.int 2)) .nop) .nil))) .nil)
    .nil) (.cons (.ret (.blt .list false (.cons (.slc false (.var 0) (.con (D.int 1)) .nop) .nil))) .nil))))
def f_inner_parts : Fn := ⟨1, 2, b_inner_parts⟩
def n_inner_parts : List Str := [nm "part", nm "word"]
/-- part deeds word rest counts one -/
def b_is_form : Sms := (.cons (.ite (.or (.cons (.not (.isi (.var 0) ["tuple"])) (.cons (.cmp .Eq (.var 0) (.tup .nil)) (.cons (.not (.isi (.idx (.var 0) (.con (D.int 0))) ["str"])) .nil))))
    (.cons (.ret (.con (D.bl false))) .nil)
    .nil) (.cons (.star 2 3 (.var 0)) (.cons (.ite (.cmp .Eq (.var 2) (.con (D.str [105, 115])))
    (.cons (.ret (.and (.cons (.cmp .Eq (.blt .len false (.cons (.var 3) .nil)) (.con (D.int 1))) (.cons (.call "is_worth" [] (.cons (.idx (.var 3) (.con (D.int 0))) .nil)) .nil)))) .nil)
    .nil) (.cons (.ite (.cmp .Eq (.var 2) (.con (D.str [97, 116])))
    (.cons (.ret (.and (.cons (.cmp .Eq (.blt .len false (.cons (.var 3) .nil)) (.con (D.int 1))) (.cons (.call "is_cell" [] (.cons (.idx (.var 3) (.con (D.int 0))) .nil)) .nil)))) .nil)
    .nil) (.cons (.ite (.cmp .In (.var 2) (.glb "NAMED" g_NAMED))
    (.cons (.ret (.and (.cons (.cmp .Eq (.blt .len false (.cons (.var 3) .nil)) (.con (D.int 2))) (.cons (.call "is_cell" [] (.cons (.idx (.var 3) (.con (D.int 0))) .nil)) .nil)))) .nil)
    .nil) (.cons (.ite (.cmp .Eq (.var 2) (.con (D.str [109, 111, 115, 116])))
    (.cons (.ret (.and (.cons (.cmp .Eq (.blt .len false (.cons (.var 3) .nil)) (.con (D.int 2))) (.cons (.call "is_number" [] (.cons (.idx (.var 3) (.con (D.int 0))) (.cons (.con (D.int 0)) (.cons (.glb "MOST_FIRST" g_MOST_FIRST) .nil)))) .nil)))) .nil)
    .nil) (.cons (.ite (.cmp .Eq (.var 2) (.con (D.str [99, 97, 108, 108])))
    (.cons (.ret (.and (.cons (.cmp .NotEq (.var 3) (.lst false .nil)) (.cons (.call "is_name" [] (.cons (.idx (.var 3) (.con (D.int 0))) .nil)) (.cons (.cmp .Eq (.mtd .get (.var 1) (.cons (.idx (.var 3) (.con (D.int 0))) (.cons (.neg (.con (D.int 1))) .nil))) (.bin false .Sub (.blt .len false (.cons (.var 3) .nil)) (.con (D.int 1)))) .nil))))) .nil)
    .nil) (.cons (.asg 4 (.dic true [.inr [105, 102]] (.cons (.con (D.int 3)) .nil))) (.cons (.exp (.mtd .update (.var 4) (.cons (.dc false [5] false (.seq (.glb "PLAIN" g_PLAIN)) (.var 5) (.con (D.int 0))) .nil))) (.cons (.exp (.mtd .update (.var 4) (.cons (.dc false [5] false (.seq (.glb "SINGLE" g_SINGLE)) (.var 5) (.con (D.int 1))) .nil))) (.cons (.exp (.mtd .update (.var 4) (.cons (.dc false [5] false (.seq (.glb "PAIRED" g_PAIRED)) (.var 5) (.con (D.int 2))) .nil))) (.cons (.ret (.cmp .Eq (.mtd .get (.var 4) (.cons (.var 2) (.cons (.neg (.con (D.int 1))) .nil))) (.blt .len false (.cons (.var 3) .nil)))) .nil))))))))))))
def f_is_form : Fn := ⟨2, 6, b_is_form⟩
def n_is_form : List Str := [nm "part", nm "deeds", nm "word", nm "rest", nm "counts", nm "one"]
/-- part deeds path met number inner -/
def b_need_part : Sms := (.cons (.exp (.mtd .append (.var 3) (.cons (.con (D.bl true)) .nil))) (.cons (.ite (.or (.cons (.not (.call "is_form" [] (.cons (.var 0) (.cons (.var 1) .nil)))) (.cons (.cmp .Gt (.blt .len false (.cons (.var 2) .nil)) (.glb "MOST_DEEP" g_MOST_DEEP)) (.cons (.cmp .Gt (.blt .len false (.cons (.var 3) .nil)) (.glb "MOST_PARTS" g_MOST_PARTS)) .nil))))
    (.cons (.rsX "BadProgram" (.cons (.var 2) .nil)) .nil)
    .nil) (.cons (.fr [4, 5] true (.enu (.call "inner_parts" [] (.cons (.var 0) .nil)))
    (.cons (.exp (.call "need_part" [] (.cons (.var 5) (.cons (.var 1) (.cons (.bin false .Add (.var 2) (.tup (.cons (.var 4) .nil))) (.cons (.var 3) .nil)))))) .nil)) .nil)))
def f_need_part : Fn := ⟨4, 6, b_need_part⟩
def n_need_part : List Str := [nm "part", nm "deeds", nm "path", nm "met", nm "number", nm "inner"]
/-- deed known cells cell -/
def b_is_head : Sms := (.cons (.ite (.or (.cons (.not (.isi (.var 0) ["tuple"])) (.cons (.cmp .NotEq (.blt .len false (.cons (.var 0) .nil)) (.con (D.int 3))) (.cons (.not (.call "is_name" [] (.cons (.idx (.var 0) (.con (D.int 0))) .nil))) (.cons (.cmp .In (.idx (.var 0) (.con (D.int 0))) (.var 1)) .nil)))))
    (.cons (.ret (.con (D.bl false))) .nil)
    .nil) (.cons (.asg 2 (.idx (.var 0) (.con (D.int 1)))) (.cons (.ite (.or (.cons (.not (.isi (.var 2) ["tuple"])) (.cons (.cmp .Gt (.blt .len false (.cons (.var 2) .nil)) (.glb "MOST_PLACES" g_MOST_PLACES)) (.cons (.not (.blt .all false (.cons (.lc false [3] false (.seq (.var 2)) (.call "is_cell" [] (.cons (.var 3) .nil)) (.con (D.bl true))) .nil))) .nil))))
    (.cons (.ret (.con (D.bl false))) .nil)
    .nil) (.cons (.ret (.or (.cons (.cmp .Lt (.blt .len false (.cons (.var 2) .nil)) (.con (D.int 2))) (.cons (.cmp .NotEq (.idx (.var 2) (.con (D.int 0))) (.idx (.var 2) (.con (D.int 1)))) .nil)))) .nil))))
def f_is_head : Fn := ⟨2, 4, b_is_head⟩
def n_is_head : List Str := [nm "deed", nm "known", nm "cells", nm "cell"]
/-- program known number deed -/
def b_need_program : Sms := (.cons (.ite (.or (.cons (.not (.isi (.var 0) ["tuple"])) (.cons (.cmp .NotEq (.blt .len false (.cons (.var 0) .nil)) (.con (D.int 2))) (.cons (.not (.isi (.idx (.var 0) (.con (D.int 1))) ["tuple"])) .nil))))
    (.cons (.rsX "BadProgram" (.cons (.tup .nil) .nil)) .nil)
    .nil) (.cons (.asg 1 (.dic true [] .nil)) (.cons (.fr [2, 3] true (.enu (.idx (.var 0) (.con (D.int 1))))
    (.cons (.ite (.or (.cons (.cmp .Eq (.var 2) (.glb "MOST_DEEDS" g_MOST_DEEDS)) (.cons (.not (.call "is_head" [] (.cons (.var 3) (.cons (.var 1) .nil)))) .nil)))
    (.cons (.rsX "BadProgram" (.cons (.tup (.cons (.bin false .Add (.var 2) (.con (D.int 1))) .nil)) .nil)) .nil)
    .nil) (.cons (.sset (.var 1) (.idx (.var 3) (.con (D.int 0))) (.blt .len false (.cons (.idx (.var 3) (.con (D.int 1))) .nil))) .nil))) (.cons (.exp (.call "need_part" [] (.cons (.idx (.var 0) (.con (D.int 0))) (.cons (.var 1) (.cons (.tup (.cons (.con (D.int 0)) .nil)) (.cons (.lst true .nil) .nil)))))) (.cons (.fr [2, 3] true (.enu (.idx (.var 0) (.con (D.int 1))))
    (.cons (.exp (.call "need_part" [] (.cons (.idx (.var 3) (.con (D.int 2))) (.cons (.var 1) (.cons (.tup (.cons (.bin false .Add (.var 2) (.con (D.int 1))) .nil)) (.cons (.lst true .nil) .nil)))))) .nil)) (.cons (.ret (.var 1)) .nil))))))
def f_need_program : Fn := ⟨1, 4, b_need_program⟩
def n_need_program : List Str := [nm "program", nm "known", nm "number", nm "deed"]
/-- one other most -/
def b_both : Sms := (.cons (.asg 2 (.ite (.or (.cons (.cmp .Is (.idx (.var 0) (.con (D.int 1))) (.con D.non)) (.cons (.cmp .Is (.idx (.var 1) (.con (D.int 1))) (.con D.non)) .nil))) (.con D.non) (.bin false .Mult (.idx (.var 0) (.con (D.int 1))) (.idx (.var 1) (.con (D.int 1)))))) (.cons (.ite (.or (.cons (.cmp .Eq (.idx (.var 0) (.con (D.int 1))) (.con (D.int 0))) (.cons (.cmp .Eq (.idx (.var 1) (.con (D.int 1))) (.con (D.int 0))) .nil)))
    (.cons (.asg 2 (.con (D.int 0))) .nil)
    .nil) (.cons (.ret (.tup (.cons (.blt .min false (.cons (.glb "MANY" g_MANY) (.cons (.bin false .Mult (.idx (.var 0) (.con (D.int 0))) (.idx (.var 1) (.con (D.int 0)))) .nil))) (.cons (.var 2) .nil)))) .nil)))
def f_both : Fn := ⟨2, 3, b_both⟩
def n_both : List Str := [nm "one", nm "other", nm "most"]
/-- one other -/
def b_either : Sms := (.cons (.ret (.tup (.cons (.blt .min false (.cons (.glb "MANY" g_MANY) (.cons (.bin false .Add (.idx (.var 0) (.con (D.int 0))) (.idx (.var 1) (.con (D.int 0)))) .nil))) (.cons (.ite (.or (.cons (.cmp .Is (.idx (.var 0) (.con (D.int 1))) (.con D.non)) (.cons (.cmp .Is (.idx (.var 1) (.con (D.int 1))) (.con D.non)) .nil))) (.con D.non) (.bin false .Add (.idx (.var 0) (.con (D.int 1))) (.idx (.var 1) (.con (D.int 1))))) .nil)))) .nil)
def f_either : Fn := ⟨2, 2, b_either⟩
def n_either : List Str := [nm "one", nm "other"]
/-- one other -/
def b_one_of : Sms := (.cons (.ret (.tup (.cons (.blt .min false (.cons (.idx (.var 0) (.con (D.int 0))) (.cons (.idx (.var 1) (.con (D.int 0))) .nil))) (.cons (.ite (.or (.cons (.cmp .Is (.idx (.var 0) (.con (D.int 1))) (.con D.non)) (.cons (.cmp .Is (.idx (.var 1) (.con (D.int 1))) (.con D.non)) .nil))) (.con D.non) (.blt .max false (.cons (.idx (.var 0) (.con (D.int 1))) (.cons (.idx (.var 1) (.con (D.int 1))) .nil)))) .nil)))) .nil)
def f_one_of : Fn := ⟨2, 2, b_one_of⟩
def n_one_of : List Str := [nm "one", nm "other"]
/-- self program deed -/
def b_Bounds_d___init__ : Sms := (.cons (.fset (.var 0) "deeds" (.dc false [2] false (.seq (.idx (.var 1) (.con (D.int 1)))) (.idx (.var 2) (.con (D.int 0))) (.idx (.var 2) (.con (D.int 2))))) (.cons (.fset (.var 0) "looked_at" (.lst true .nil)) .nil))
def f_Bounds_d___init__ : Fn := ⟨2, 3, b_Bounds_d___init__⟩
def n_Bounds_d___init__ : List Str := [nm "self", nm "program", nm "deed"]
/-- self part word some inner -/
def b_Bounds_d_of : Sms := (.cons (.asg 2 (.idx (.var 1) (.con (D.int 0)))) (.cons (.asg 3 (.lc false [4] false (.seq (.call "inner_parts" [] (.cons (.var 1) .nil))) (.umt "of" (.var 0) (.cons (.var 4) .nil)) (.con (D.bl true)))) (.cons (.ite (.cmp .In (.var 2) (.tup (.cons (.con (D.str [105, 115])) (.cons (.con (D.str [97, 116])) (.cons (.con (D.str [110, 111, 110, 101])) (.cons (.con (D.str [112, 111, 115])) .nil))))))
    (.cons (.ret (.tup (.cons (.blt .int false (.cons (.cmp .Eq (.var 2) (.con (D.str [105, 115]))) .nil)) (.cons (.blt .int false (.cons (.cmp .NotEq (.var 2) (.con (D.str [110, 111, 110, 101]))) .nil)) .nil)))) .nil)
    .nil) (.cons (.ite (.cmp .In (.var 2) (.tup (.cons (.con (D.str [112, 108, 117, 115])) (.cons (.con (D.str [108, 101, 115, 115])) (.cons (.con (D.str [116, 105, 109, 101, 115])) (.cons (.con (D.str [106, 111, 105, 110])) (.cons (.con (D.str [97, 110, 100])) (.cons (.con (D.str [115, 99, 97, 110])) .nil))))))))
    (.cons (.ret (.call "both" [] (.cons (.idx (.var 3) (.con (D.int 0))) (.cons (.idx (.var 3) (.con (D.int 1))) .nil)))) .nil)
    .nil) (.cons (.ite (.cmp .In (.var 2) (.tup (.cons (.con (D.str [98, 101, 108, 111, 119])) (.cons (.con (D.str [115, 97, 109, 101])) (.cons (.con (D.str [117, 110, 108, 105, 107, 101])) .nil)))))
    (.cons (.ret (.tup (.cons (.con (D.int 0)) (.cons (.idx (.call "both" [] (.cons (.idx (.var 3) (.con (D.int 0))) (.cons (.idx (.var 3) (.con (D.int 1))) .nil))) (.con (D.int 1))) .nil)))) .nil)
    .nil) (.cons (.ite (.cmp .In (.var 2) (.tup (.cons (.con (D.str [108, 111, 110, 103])) (.cons (.con (D.str [115, 97, 121])) (.cons (.con (D.str [115, 101, 116])) (.cons (.con (D.str [116, 114, 121])) .nil))))))
    (.cons (.ret (.idx (.var 3) (.con (D.int 0)))) .nil)
    .nil) (.cons (.ite (.cmp .In (.var 2) (.tup (.cons (.con (D.str [116, 97, 98])) (.cons (.con (D.str [109, 97, 110, 121])) (.cons (.con (D.str [109, 97, 116, 99, 104])) .nil)))))
    (.cons (.ret (.tup (.cons (.con (D.int 0)) (.cons (.idx (.idx (.var 3) (.con (D.int 0))) (.con (D.int 1))) .nil)))) .nil)
    .nil) (.cons (.ite (.cmp .Eq (.var 2) (.con (D.str [102, 105, 110, 100])))
    (.cons (.ret (.tup (.cons (.con (D.int 0)) (.cons (.ite (.cmp .Eq (.idx (.idx (.var 3) (.con (D.int 0))) (.con (D.int 1))) (.con (D.int 0))) (.con (D.int 0)) (.con D.non)) .nil)))) .nil)
    .nil) (.cons (.ite (.cmp .Eq (.var 2) (.con (D.str [99, 97, 108, 108])))
    (.cons (.ret (.umt "of_call" (.var 0) (.cons (.idx (.var 1) (.con (D.int 1))) (.cons (.var 3) .nil)))) .nil)
    .nil) (.cons (.ret (.umt "of_others" (.var 0) (.cons (.var 1) (.cons (.var 3) .nil)))) .nil))))))))))
def f_Bounds_d_of : Fn := ⟨2, 5, b_Bounds_d_of⟩
def n_Bounds_d_of : List Str := [nm "self", nm "part", nm "word", nm "some", nm "inner"]
/-- self part some word -/
def b_Bounds_d_of_others : Sms := (.cons (.asg 3 (.idx (.var 1) (.con (D.int 0)))) (.cons (.ite (.cmp .Eq (.var 3) (.con (D.str [111, 114])))
    (.cons (.ret (.call "either" [] (.cons (.idx (.var 2) (.con (D.int 0))) (.cons (.idx (.var 2) (.con (D.int 1))) .nil)))) .nil)
    .nil) (.cons (.ite (.cmp .Eq (.var 3) (.con (D.str [116, 104, 101, 110])))
    (.cons (.ret (.idx (.var 2) (.con (D.int 1)))) .nil)
    .nil) (.cons (.ite (.cmp .In (.var 3) (.tup (.cons (.con (D.str [101, 118, 101, 114, 121])) (.cons (.con (D.str [119, 104, 105, 108, 101])) .nil))))
    (.cons (.ret (.tup (.cons (.con (D.int 0)) (.cons (.con (D.int 0)) .nil)))) .nil)
    .nil) (.cons (.ite (.cmp .Eq (.var 3) (.con (D.str [109, 111, 115, 116])))
    (.cons (.ret (.tup (.cons (.blt .min false (.cons (.idx (.var 1) (.con (D.int 1))) (.cons (.idx (.idx (.var 2) (.con (D.int 0))) (.con (D.int 0))) .nil))) (.cons (.ite (.cmp .Is (.idx (.idx (.var 2) (.con (D.int 0))) (.con (D.int 1))) (.con D.non)) (.idx (.var 1) (.con (D.int 1))) (.blt .min false (.cons (.idx (.var 1) (.con (D.int 1))) (.cons (.idx (.idx (.var 2) (.con (D.int 0))) (.con (D.int 1))) .nil)))) .nil)))) .nil)
    .nil) (.cons (.ite (.cmp .Eq (.var 3) (.con (D.str [110, 111, 116])))
    (.cons (.ret (.tup (.cons (.blt .int false (.cons (.cmp .Eq (.idx (.idx (.var 2) (.con (D.int 0))) (.con (D.int 1))) (.con (D.int 0))) .nil)) (.cons (.blt .int false (.cons (.cmp .Eq (.idx (.idx (.var 2) (.con (D.int 0))) (.con (D.int 0))) (.con (D.int 0))) .nil)) .nil)))) .nil)
    .nil) (.cons (.ite (.cmp .Eq (.var 3) (.con (D.str [105, 102])))
    (.cons (.ite (.cmp .Gt (.idx (.idx (.var 2) (.con (D.int 0))) (.con (D.int 0))) (.con (D.int 0)))
    (.cons (.ret (.idx (.var 2) (.con (D.int 1)))) .nil)
    .nil) (.cons (.ret (.ite (.cmp .Eq (.idx (.idx (.var 2) (.con (D.int 0))) (.con (D.int 1))) (.con (D.int 0))) (.idx (.var 2) (.con (D.int 2))) (.call "one_of" [] (.cons (.idx (.var 2) (.con (D.int 1))) (.cons (.idx (.var 2) (.con (D.int 2))) .nil))))) .nil))
    .nil) (.cons (.ite (.cmp .Eq (.var 3) (.con (D.str [97, 103, 97, 105, 110])))
    (.cons (.ret (.tup (.cons (.bin false .Mult (.glb "MANY" g_MANY) (.blt .int false (.cons (.cmp .Gt (.idx (.idx (.var 2) (.con (D.int 0))) (.con (D.int 0))) (.con (D.int 0))) .nil))) (.cons (.ite (.cmp .NotEq (.idx (.idx (.var 2) (.con (D.int 0))) (.con (D.int 1))) (.con (D.int 0))) (.con D.non) (.con (D.int 0))) .nil)))) .nil)
    .nil) (.cons (.ret (.umt "of_numbers" (.var 0) (.cons (.var 1) (.cons (.var 2) .nil)))) .nil)))))))))
def f_Bounds_d_of_others : Fn := ⟨3, 4, b_Bounds_d_of_others⟩
def n_Bounds_d_of_others : List Str := [nm "self", nm "part", nm "some", nm "word"]
/-- self part some one other many -/
def b_Bounds_d_of_numbers : Sms := (.cons (.unp [3, 4] (.call "inner_parts" [] (.cons (.var 1) .nil))) (.cons (.ite (.or (.cons (.cmp .Eq (.idx (.idx (.var 2) (.con (D.int 0))) (.con (D.int 1))) (.con (D.int 0))) (.cons (.cmp .Eq (.idx (.idx (.var 2) (.con (D.int 1))) (.con (D.int 1))) (.con (D.int 0))) .nil)))
    (.cons (.ret (.tup (.cons (.con (D.int 0)) (.cons (.con (D.int 0)) .nil)))) .nil)
    .nil) (.cons (.ite (.and (.cons (.cmp .Eq (.idx (.var 3) (.con (D.int 0))) (.con (D.str [105, 115]))) (.cons (.cmp .Eq (.idx (.var 4) (.con (D.int 0))) (.con (D.str [105, 115]))) (.cons (.not (.isi (.idx (.var 3) (.con (D.int 1))) ["str"])) (.cons (.not (.isi (.idx (.var 4) (.con (D.int 1))) ["str"])) .nil)))))
    (.cons (.asg 5 (.blt .max false (.cons (.con (D.int 0)) (.cons (.bin false .Add (.bin false .Sub (.idx (.var 4) (.con (D.int 1))) (.idx (.var 3) (.con (D.int 1)))) (.con (D.int 1))) .nil)))) (.cons (.ret (.tup (.cons (.blt .min false (.cons (.glb "MANY" g_MANY) (.cons (.var 5) .nil))) (.cons (.var 5) .nil)))) .nil))
    .nil) (.cons (.ret (.tup (.cons (.con (D.int 0)) (.cons (.con D.non) .nil)))) .nil))))
def f_Bounds_d_of_numbers : Fn := ⟨3, 6, b_Bounds_d_of_numbers⟩
def n_Bounds_d_of_numbers : List Str := [nm "self", nm "part", nm "some", nm "one", nm "other", nm "many"]
/-- self name some found one -/
def b_Bounds_d_of_call : Sms := (.cons (.asg 3 (.tup (.cons (.con (D.int 0)) (.cons (.con D.non) .nil)))) (.cons (.ite (.cmp .NotIn (.var 1) (.fld (.var 0) "looked_at"))
    (.cons (.exp (.mtd .append (.fld (.var 0) "looked_at") (.cons (.var 1) .nil))) (.cons (.asg 3 (.umt "of" (.var 0) (.cons (.idx (.fld (.var 0) "deeds") (.var 1)) .nil))) (.cons (.exp (.mtd .pop (.fld (.var 0) "looked_at") .nil)) .nil)))
    .nil) (.cons (.fr [4] false (.seq (.var 2))
    (.cons (.asg 3 (.call "both" [] (.cons (.var 3) (.cons (.var 4) .nil)))) .nil)) (.cons (.ret (.var 3)) .nil))))
def f_Bounds_d_of_call : Fn := ⟨3, 5, b_Bounds_d_of_call⟩
def n_Bounds_d_of_call : List Str := [nm "self", nm "name", nm "some", nm "found", nm "one"]
/-- program -/
def b_bounds : Sms := (.cons (.exp (.call "need_program" [] (.cons (.var 0) .nil))) (.cons (.ret (.umt "of" (.mk "Bounds" (.cons (.var 0) .nil)) (.cons (.idx (.var 0) (.con (D.int 0))) .nil))) .nil))
def f_bounds : Fn := ⟨1, 1, b_bounds⟩
def n_bounds : List Str := [nm "program"]
/-- _law_script _law_mixed _law_cell -/
def b__law_row : Sms := (.cons (.asg 1 (.con (D.int 7))) (.cons (.fr [2] false (.seq (.var 0))
    (.cons (.asg 1 (.bin false .Mod (.bin false .Add (.bin false .Add (.bin false .Mult (.var 1) (.con (D.int 48271))) (.var 2)) (.con (D.int 11))) (.con (D.int 2147483647)))) .nil)) (.cons (.ret (.lst true (.cons (.var 0) (.cons (.con (D.int 0)) (.cons (.con (D.int 0)) (.cons (.var 1) .nil)))))) .nil)))
def f__law_row : Fn := ⟨1, 3, b__law_row⟩
def n__law_row : List Str := [nm "_law_script", nm "_law_mixed", nm "_law_cell"]
/-- _law_row_here _law_many _law_found _law_cell -/
def b__law_taken : Sms := (.cons (.ite (.cmp .Gt (.idx (.var 0) (.con (D.int 2))) (.con (D.int 0)))
    (.cons (.asg 2 (.bin false .Mod (.idx (.var 0) (.con (D.int 2))) (.var 1))) (.cons (.sset (.var 0) (.con (D.int 2)) (.bin false .FloorDiv (.idx (.var 0) (.con (D.int 2))) (.var 1))) (.cons (.ret (.var 2)) .nil)))
    .nil) (.cons (.ite (.cmp .Lt (.idx (.var 0) (.con (D.int 1))) (.blt .len false (.cons (.idx (.var 0) (.con (D.int 0))) .nil)))
    (.cons (.asg 3 (.idx (.idx (.var 0) (.con (D.int 0))) (.idx (.var 0) (.con (D.int 1))))) (.cons (.sset (.var 0) (.con (D.int 1)) (.bin false .Add (.idx (.var 0) (.con (D.int 1))) (.con (D.int 1)))) (.cons (.ite (.cmp .GtE (.var 3) (.bin false .Pow (.con (D.int 10)) (.con (D.int 18))))
    (.cons (.sset (.var 0) (.con (D.int 2)) (.bin false .FloorDiv (.var 3) (.var 1))) .nil)
    .nil) (.cons (.ret (.bin false .Mod (.var 3) (.var 1))) .nil))))
    .nil) (.cons (.sset (.var 0) (.con (D.int 3)) (.bin false .Mod (.bin false .Add (.bin false .Mult (.idx (.var 0) (.con (D.int 3))) (.con (D.int 48271))) (.con (D.int 12345))) (.con (D.int 2147483647)))) (.cons (.ret (.bin false .Mod (.bin false .FloorDiv (.idx (.var 0) (.con (D.int 3))) (.con (D.int 1009))) (.var 1))) .nil))))
def f__law_taken : Fn := ⟨2, 4, b__law_taken⟩
def n__law_taken : List Str := [nm "_law_row_here", nm "_law_many", nm "_law_found", nm "_law_cell"]
/-- _law_row_here _law_wished _law_k -/
def b__law_text : Sms := (.cons (.ret (.mtd .join (.con (D.str [])) (.cons (.lc false [2] false (.rng1 (.call "_law_taken" [] (.cons (.var 0) (.cons (.bin false .Add (.var 1) (.con (D.int 1))) .nil)))) (.idx (.con (D.str [97, 97, 98, 98, 32, 51, 99])) (.call "_law_taken" [] (.cons (.var 0) (.cons (.con (D.int 7)) .nil)))) (.con (D.bl true))) .nil))) .nil)
def f__law_text : Fn := ⟨2, 3, b__law_text⟩
def n__law_text : List Str := [nm "_law_row_here", nm "_law_wished", nm "_law_k"]
/-- _law_row_here _law_way -/
def b__law_number : Sms := (.cons (.asg 1 (.call "_law_taken" [] (.cons (.var 0) (.cons (.con (D.int 12)) .nil)))) (.cons (.ret (.ite (.cmp .Eq (.var 1) (.con (D.int 0))) (.bin false .Sub (.bin false .Pow (.con (D.int 10)) (.con (D.int 12))) (.call "_law_taken" [] (.cons (.var 0) (.cons (.con (D.int 9)) .nil)))) (.ite (.cmp .Lt (.var 1) (.con (D.int 5))) (.bin false .Sub (.call "_law_taken" [] (.cons (.var 0) (.cons (.con (D.int 9)) .nil))) (.con (D.int 3))) (.call "_law_taken" [] (.cons (.var 0) (.cons (.con (D.int 5)) .nil)))))) .nil))
def f__law_number : Fn := ⟨1, 2, b__law_number⟩
def n__law_number : List Str := [nm "_law_row_here", nm "_law_way"]
/-- _law_row_here _law_kind _law_deep _law_left _law_names _law_name _law_words _law_numbers _law_texts _law_word _law_codes _law_worth _law_some _law_head _law_many _law_found _law_code _law_other -/
def b__law_part : Sms := (.cons (.sset (.var 3) (.con (D.int 0)) (.bin false .Sub (.idx (.var 3) (.con (D.int 0))) (.con (D.int 1)))) (.cons (.asg 1 (.ite (.cmp .Gt (.call "_law_taken" [] (.cons (.var 0) (.cons (.con (D.int 12)) .nil))) (.con (D.int 0))) (.var 1) (.bin false .Sub (.con (D.int 1)) (.var 1)))) (.cons (.asg 5 (.idx (.idx (.lst false (.cons (.con (D.str [97, 98])) (.cons (.con (D.str [120, 121])) .nil))) (.var 1)) (.call "_law_taken" [] (.cons (.var 0) (.cons (.con (D.int 2)) .nil))))) (.cons (.asg 6 (.lst false (.cons (.tup (.cons (.con (D.str [111, 114])) (.cons (.con (D.str [107, 107])) .nil))) (.cons (.tup (.cons (.con (D.str [97, 110, 100])) (.cons (.con (D.str [97, 107])) .nil))) (.cons (.tup (.cons (.con (D.str [97, 110, 100])) (.cons (.con (D.str [97, 107])) .nil))) (.cons (.tup (.cons (.con (D.str [116, 104, 101, 110])) (.cons (.con (D.str [97, 107])) .nil))) (.cons (.tup (.cons (.con (D.str [101, 118, 101, 114, 121])) (.cons (.con (D.str [97, 107])) .nil))) (.cons (.tup (.cons (.con (D.str [119, 104, 105, 108, 101])) (.cons (.con (D.str [97, 107])) .nil))) .nil)))))))) (.cons (.asg 6 (.bin false .Add (.var 6) (.lst false (.cons (.tup (.cons (.con (D.str [115, 99, 97, 110])) (.cons (.con (D.str [116, 107])) .nil))) (.cons (.tup (.cons (.con (D.str [115, 97, 121])) (.cons (.con (D.str [107])) .nil))) (.cons (.tup (.cons (.con (D.str [115, 101, 116])) (.cons (.con (D.str [107])) .nil))) (.cons (.tup (.cons (.con (D.str [116, 114, 121])) (.cons (.con (D.str [107])) .nil))) (.cons (.tup (.cons (.con (D.str [109, 111, 115, 116])) (.cons (.con (D.str [107])) .nil))) (.cons (.tup (.cons (.con (D.str [97, 103, 97, 105, 110])) (.cons (.con (D.str [107])) .nil))) .nil))))))))) (.cons (.asg 6 (.bin false .Add (.var 6) (.lst false (.cons (.tup (.cons (.con (D.str [115, 97, 109, 101])) (.cons (.con (D.str [107, 107])) .nil))) (.cons (.tup (.cons (.con (D.str [117, 110, 108, 105, 107, 101])) (.cons (.con (D.str [107, 107])) .nil))) (.cons (.tup (.cons (.con (D.str [99, 97, 108, 108])) (.cons (.con (D.str [])) .nil))) (.cons (.tup (.cons (.con (D.str [110, 111, 116])) (.cons (.con (D.str [97])) .nil))) (.cons (.tup (.cons (.con (D.str [105, 102])) (.cons (.con (D.str [97, 107, 107])) .nil))) .nil)))))))) (.cons (.asg 7 (.lst false (.cons (.tup (.cons (.con (D.str [116, 111])) (.cons (.con (D.str [110, 110])) .nil))) (.cons (.tup (.cons (.con (D.str [116, 111])) (.cons (.con (D.str [110, 110])) .nil))) (.cons (.tup (.cons (.con (D.str [112, 108, 117, 115])) (.cons (.con (D.str [110, 110])) .nil))) (.cons (.tup (.cons (.con (D.str [108, 101, 115, 115])) (.cons (.con (D.str [110, 110])) .nil))) (.cons (.tup (.cons (.con (D.str [116, 105, 109, 101, 115])) (.cons (.con (D.str [110, 110])) .nil))) (.cons (.tup (.cons (.con (D.str [98, 101, 108, 111, 119])) (.cons (.con (D.str [110, 110])) .nil))) .nil)))))))) (.cons (.asg 8 (.lst false (.cons (.tup (.cons (.con (D.str [106, 111, 105, 110])) (.cons (.con (D.str [116, 116])) .nil))) (.cons (.tup (.cons (.con (D.str [106, 111, 105, 110])) (.cons (.con (D.str [116, 116])) .nil))) (.cons (.tup (.cons (.con (D.str [116, 97, 98])) (.cons (.con (D.str [110])) .nil))) (.cons (.tup (.cons (.con (D.str [116, 97, 98])) (.cons (.con (D.str [110])) .nil))) (.cons (.tup (.cons (.con (D.str [116, 97, 98])) (.cons (.con (D.str [110])) .nil))) (.cons (.tup (.cons (.con (D.str [111, 114])) (.cons (.con (D.str [107, 107])) .nil))) (.cons (.tup (.cons (.con (D.str [111, 114])) (.cons (.con (D.str [107, 107])) .nil))) .nil))))))))) (.cons (.asg 6 (.bin false .Add (.var 6) (.idx (.lst false (.cons (.bin false .Add (.var 7) (.lst false (.cons (.tup (.cons (.con (D.str [108, 111, 110, 103])) (.cons (.con (D.str [116])) .nil))) (.cons (.tup (.cons (.con (D.str [102, 105, 110, 100])) (.cons (.con (D.str [116])) .nil))) (.cons (.tup (.cons (.con (D.str [109, 97, 110, 121])) (.cons (.con (D.str [116])) .nil))) (.cons (.tup (.cons (.con (D.str [109, 97, 116, 99, 104])) (.cons (.con (D.str [116])) .nil))) .nil)))))) (.cons (.var 8) .nil))) (.var 1)))) (.cons (.unp [9, 10] (.idx (.var 6) (.call "_law_taken" [] (.cons (.var 0) (.cons (.blt .len false (.cons (.var 6) .nil)) .nil))))) (.cons (.ite (.or (.cons (.cmp .Lt (.var 2) (.con (D.int 2))) (.cons (.cmp .Lt (.idx (.var 3) (.con (D.int 0))) (.con (D.int 2))) (.cons (.cmp .Eq (.call "_law_taken" [] (.cons (.var 0) (.cons (.con (D.int 9)) .nil))) (.con (D.int 0))) (.cons (.and (.cons (.cmp .Eq (.var 9) (.con (D.str [99, 97, 108, 108]))) (.cons (.cmp .Eq (.bin false .Mult (.idx (.var 3) (.con (D.int 1))) (.blt .len false (.cons (.var 4) .nil))) (.con (D.int 0))) .nil))) .nil)))))
    (.cons (.asg 11 (.ite (.cmp .Eq (.var 1) (.con (D.int 1))) (.call "_law_text" [] (.cons (.var 0) (.cons (.con (D.int 5)) .nil))) (.call "_law_number" [] (.cons (.var 0) .nil)))) (.cons (.asg 12 (.lst false (.cons (.tup (.cons (.con (D.str [110, 111, 110, 101])) .nil)) (.cons (.tup (.cons (.con (D.str [97, 116])) (.cons (.var 5) .nil))) (.cons (.tup (.cons (.con (D.str [97, 116])) (.cons (.var 5) .nil))) (.cons (.tup (.cons (.con (D.str [105, 115])) (.cons (.var 11) .nil))) (.cons (.tup (.cons (.con (D.str [105, 115])) (.cons (.var 11) .nil))) (.cons (.tup (.cons (.con (D.str [112, 111, 115])) .nil)) .nil)))))))) (.cons (.ret (.idx (.var 12) (.call "_law_taken" [] (.cons (.var 0) (.cons (.bin false .Sub (.con (D.int 6)) (.var 1)) .nil))))) .nil)))
    .nil) (.cons (.asg 13 (.tup .nil)) (.cons (.ite (.cmp .Eq (.var 9) (.con (D.str [99, 97, 108, 108])))
    (.cons (.sset (.var 3) (.con (D.int 1)) (.bin false .Sub (.idx (.var 3) (.con (D.int 1))) (.con (D.int 1)))) (.cons (.unp [5, 14] (.idx (.var 4) (.call "_law_taken" [] (.cons (.var 0) (.cons (.blt .len false (.cons (.var 4) .nil)) .nil))))) (.cons (.unp [13, 10] (.tup (.cons (.tup (.cons (.var 5) .nil)) (.cons (.bin false .Mult (.con (D.str [110])) (.var 14)) .nil)))) .nil)))
    .nil) (.cons (.ite (.cmp .In (.var 9) (.tup (.cons (.con (D.str [115, 101, 116])) (.cons (.con (D.str [116, 114, 121])) (.cons (.con (D.str [109, 111, 115, 116])) .nil)))))
    (.cons (.asg 13 (.tup (.cons (.ite (.cmp .Eq (.var 9) (.con (D.str [109, 111, 115, 116]))) (.call "_law_taken" [] (.cons (.var 0) (.cons (.con (D.int 4)) .nil))) (.var 5)) .nil))) .nil)
    .nil) (.cons (.asg 15 (.bin false .Add (.tup (.cons (.var 9) .nil)) (.var 13))) (.cons (.fr [16] false (.seq (.var 10))
    (.cons (.asg 17 (.mtd .get (.dic false [.inr [110], .inr [116], .inr [107]] (.cons (.con (D.int 0)) (.cons (.con (D.int 1)) (.cons (.var 1) .nil)))) (.cons (.var 16) (.cons (.call "_law_taken" [] (.cons (.var 0) (.cons (.con (D.int 2)) .nil))) .nil)))) (.cons (.asg 15 (.bin false .Add (.var 15) (.tup (.cons (.call "_law_part" [] (.cons (.var 0) (.cons (.var 17) (.cons (.bin false .Sub (.var 2) (.con (D.int 1))) (.cons (.var 3) (.cons (.var 4) .nil)))))) .nil)))) .nil))) (.cons (.ret (.var 15)) .nil)))))))))))))))))
def f__law_part : Fn := ⟨5, 18, b__law_part⟩
def n__law_part : List Str := [nm "_law_row_here", nm "_law_kind", nm "_law_deep", nm "_law_left", nm "_law_names", nm "_law_name", nm "_law_words", nm "_law_numbers", nm "_law_texts", nm "_law_word", nm "_law_codes", nm "_law_worth", nm "_law_some", nm "_law_head", nm "_law_many", nm "_law_found", nm "_law_code", nm "_law_other"]
/-- _law_row_here _law_many _law_calls _law_names _law_left _law_part_here _law_deeds _law_name _law_count _law_inner -/
def b__law_program : Sms := (.cons (.asg 3 (.slc false (.lst false (.cons (.tup (.cons (.con (D.str [102])) (.cons (.call "_law_taken" [] (.cons (.var 0) (.cons (.con (D.int 3)) .nil))) .nil))) (.cons (.tup (.cons (.con (D.str [115, 117, 98])) (.cons (.call "_law_taken" [] (.cons (.var 0) (.cons (.con (D.int 3)) .nil))) .nil))) (.cons (.tup (.cons (.con (D.str [103])) (.cons (.con (D.int 0)) .nil))) .nil)))) .nop (.call "_law_taken" [] (.cons (.var 0) (.cons (.con (D.int 4)) .nil))))) (.cons (.asg 4 (.lst true (.cons (.var 1) (.cons (.var 2) .nil)))) (.cons (.asg 5 (.call "_law_part" [] (.cons (.var 0) (.cons (.bin false .FloorDiv (.call "_law_taken" [] (.cons (.var 0) (.cons (.con (D.int 3)) .nil))) (.con (D.int 2))) (.cons (.bin false .Add (.con (D.int 2)) (.call "_law_taken" [] (.cons (.var 0) (.cons (.con (D.int 4)) .nil)))) (.cons (.var 4) (.cons (.var 3) .nil))))))) (.cons (.asg 6 (.lst true .nil)) (.cons (.fr [7, 8] true (.seq (.var 3))
    (.cons (.sset (.var 4) (.con (D.int 0)) (.blt .min false (.cons (.var 1) (.cons (.con (D.int 7)) .nil)))) (.cons (.asg 9 (.call "_law_part" [] (.cons (.var 0) (.cons (.con (D.int 0)) (.cons (.bin false .Add (.con (D.int 1)) (.call "_law_taken" [] (.cons (.var 0) (.cons (.con (D.int 3)) .nil)))) (.cons (.var 4) (.cons (.var 3) .nil))))))) (.cons (.exp (.mtd .append (.var 6) (.cons (.tup (.cons (.var 7) (.cons (.slc false (.idx (.lst false (.cons (.tup (.cons (.con (D.str [97])) (.cons (.con (D.str [99])) .nil))) (.cons (.tup (.cons (.con (D.str [98])) (.cons (.con (D.str [97])) .nil))) .nil))) (.bin false .Mod (.blt .len false (.cons (.var 6) .nil)) (.con (D.int 2)))) .nop (.var 8)) (.cons (.var 9) .nil)))) .nil))) .nil)))) (.cons (.ret (.tup (.cons (.var 5) (.cons (.blt .tuple false (.cons (.var 6) .nil)) .nil)))) .nil))))))
def f__law_program : Fn := ⟨3, 10, b__law_program⟩
def n__law_program : List Str := [nm "_law_row_here", nm "_law_many", nm "_law_calls", nm "_law_names", nm "_law_left", nm "_law_part_here", nm "_law_deeds", nm "_law_name", nm "_law_count", nm "_law_inner"]
/-- _law_row_here _law_deep _law_left _law_some _law_words _law_word _law_many _law_k -/
def b__law_bound_part : Sms := (.cons (.sset (.var 2) (.con (D.int 0)) (.bin false .Sub (.idx (.var 2) (.con (D.int 0))) (.con (D.int 1)))) (.cons (.ite (.or (.cons (.cmp .Eq (.var 1) (.con (D.int 1))) (.cons (.cmp .Lt (.idx (.var 2) (.con (D.int 0))) (.con (D.int 2))) .nil)))
    (.cons (.asg 3 (.lst false (.cons (.tup (.cons (.con (D.str [105, 115])) (.cons (.call "_law_taken" [] (.cons (.var 0) (.cons (.con (D.int 150)) .nil))) .nil))) (.cons (.tup (.cons (.con (D.str [110, 111, 110, 101])) .nil)) (.cons (.tup (.cons (.con (D.str [105, 115])) (.cons (.con (D.str [98])) .nil))) (.cons (.tup (.cons (.con (D.str [97, 116])) (.cons (.con (D.str [97])) .nil))) (.cons (.tup (.cons (.con (D.str [105, 115])) (.cons (.bin false .Sub (.call "_law_taken" [] (.cons (.var 0) (.cons (.con (D.int 4)) .nil))) (.con (D.int 9))) .nil))) .nil))))))) (.cons (.ret (.idx (.var 3) (.call "_law_taken" [] (.cons (.var 0) (.cons (.con (D.int 5)) .nil))))) .nil))
    .nil) (.cons (.asg 4 (.lst false (.cons (.con (D.str [116, 111])) (.cons (.con (D.str [111, 114])) (.cons (.con (D.str [97, 110, 100])) (.cons (.con (D.str [112, 108, 117, 115])) (.cons (.con (D.str [110, 111, 116])) (.cons (.con (D.str [97, 103, 97, 105, 110])) (.cons (.con (D.str [109, 111, 115, 116])) (.cons (.con (D.str [105, 102])) (.cons (.con (D.str [98, 101, 108, 111, 119])) (.cons (.con (D.str [102, 105, 110, 100])) (.cons (.con (D.str [115, 97, 121])) (.cons (.con (D.str [115, 99, 97, 110])) (.cons (.con (D.str [116, 111])) (.cons (.con (D.str [111, 114])) .nil)))))))))))))))) (.cons (.asg 5 (.idx (.var 4) (.call "_law_taken" [] (.cons (.var 0) (.cons (.con (D.int 14)) .nil))))) (.cons (.asg 6 (.ite (.cmp .In (.var 5) (.tup (.cons (.con (D.str [110, 111, 116])) (.cons (.con (D.str [97, 103, 97, 105, 110])) (.cons (.con (D.str [109, 111, 115, 116])) (.cons (.con (D.str [102, 105, 110, 100])) (.cons (.con (D.str [115, 97, 121])) .nil))))))) (.con (D.int 1)) (.ite (.cmp .Eq (.var 5) (.con (D.str [105, 102]))) (.con (D.int 3)) (.con (D.int 2))))) (.cons (.asg 3 (.blt .tuple false (.cons (.lc false [7] false (.rng1 (.var 6)) (.call "_law_bound_part" [] (.cons (.var 0) (.cons (.bin false .Sub (.var 1) (.con (D.int 1))) (.cons (.var 2) .nil)))) (.con (D.bl true))) .nil))) (.cons (.ret (.ite (.cmp .Eq (.var 5) (.con (D.str [109, 111, 115, 116]))) (.bin false .Add (.tup (.cons (.var 5) (.cons (.call "_law_taken" [] (.cons (.var 0) (.cons (.con (D.int 10)) .nil))) .nil))) (.var 3)) (.bin false .Add (.tup (.cons (.var 5) .nil)) (.var 3)))) .nil)))))))
def f__law_bound_part : Fn := ⟨3, 8, b__law_bound_part⟩
def n__law_bound_part : List Str := [nm "_law_row_here", nm "_law_deep", nm "_law_left", nm "_law_some", nm "_law_words", nm "_law_word", nm "_law_many", nm "_law_k"]
/-- _law_part_here _law_one -/
def b__law_within : Sms := (.cons (.ret (.lc false [1] false (.seq (.slc false (.var 0) (.con (D.int 1)) .nop)) (.var 1) (.isi (.var 1) ["tuple"]))) .nil)
def f__law_within : Fn := ⟨1, 2, b__law_within⟩
def n__law_within : List Str := [nm "_law_part_here", nm "_law_one"]
/-- _law_program_here _law_part_here _law_deed _law_many _law_left _law_one _law_deep _law_inner -/
def b__law_fault_free : Sms := (.cons (.fr [1] false (.seq (.bin false .Add (.lst false (.cons (.idx (.var 0) (.con (D.int 0))) .nil)) (.lc false [2] false (.seq (.idx (.var 0) (.con (D.int 1)))) (.idx (.var 2) (.con (D.int 2))) (.con (D.bl true)))))
    (.cons (.unp [3, 4] (.tup (.cons (.con (D.int 0)) (.cons (.lst true (.cons (.tup (.cons (.var 1) (.cons (.con (D.int 1)) .nil))) .nil)) .nil)))) (.cons (.whl (.cmp .NotEq (.var 4) (.lst false .nil))
    (.cons (.unp [5, 6] (.mtd .pop (.var 4) .nil)) (.cons (.asg 3 (.bin false .Add (.var 3) (.con (D.int 1)))) (.cons (.ite (.cmp .Gt (.var 6) (.con (D.int 6)))
    (.cons (.ret (.con (D.bl false))) .nil)
    .nil) (.cons (.asg 4 (.bin true .Add (.var 4) (.lc false [7] false (.seq (.call "_law_within" [] (.cons (.var 5) .nil))) (.tup (.cons (.var 7) (.cons (.bin false .Add (.var 6) (.con (D.int 1))) .nil))) (.con (D.bl true))))) .nil))))) (.cons (.ite (.cmp .Gt (.var 3) (.con (D.int 24)))
    (.cons (.ret (.con (D.bl false))) .nil)
    .nil) .nil)))) (.cons (.ret (.con (D.bl true))) .nil))
def f__law_fault_free : Fn := ⟨1, 8, b__law_fault_free⟩
def n__law_fault_free : List Str := [nm "_law_program_here", nm "_law_part_here", nm "_law_deed", nm "_law_many", nm "_law_left", nm "_law_one", nm "_law_deep", nm "_law_inner"]
/-- _law_found _law_due _law_k _law_same_kind -/
def b__law_alike : Sms := (.cons (.ite (.isi (.var 1) ["tuple", "list"])
    (.cons (.ite (.or (.cons (.cmp .NotEq (.isi (.var 0) ["tuple"]) (.isi (.var 1) ["tuple"])) (.cons (.not (.isi (.var 0) ["tuple", "list"])) .nil)))
    (.cons (.ret (.con (D.bl false))) .nil)
    .nil) (.cons (.ite (.cmp .NotEq (.blt .len false (.cons (.var 0) .nil)) (.blt .len false (.cons (.var 1) .nil)))
    (.cons (.ret (.con (D.bl false))) .nil)
    .nil) (.cons (.ret (.cmp .Eq (.lc false [2] false (.rng1 (.blt .len false (.cons (.var 1) .nil))) (.var 2) (.not (.call "_law_alike" [] (.cons (.idx (.var 0) (.var 2)) (.cons (.idx (.var 1) (.var 2)) .nil))))) (.lst false .nil))) .nil)))
    .nil) (.cons (.ite (.or (.cons (.cmp .Is (.var 1) (.con D.non)) (.cons (.cmp .Is (.var 0) (.con D.non)) .nil)))
    (.cons (.ret (.and (.cons (.cmp .Is (.var 1) (.con D.non)) (.cons (.cmp .Is (.var 0) (.con D.non)) .nil)))) .nil)
    .nil) (.cons (.asg 3 (.cmp .Eq (.isi (.var 1) ["str"]) (.isi (.var 0) ["str"]))) (.cons (.ret (.and (.cons (.var 3) (.cons (.cmp .Eq (.isi (.var 1) ["bool"]) (.isi (.var 0) ["bool"])) (.cons (.cmp .Eq (.var 0) (.var 1)) .nil))))) .nil))))
def f__law_alike : Fn := ⟨2, 4, b__law_alike⟩
def n__law_alike : List Str := [nm "_law_found", nm "_law_due", nm "_law_k", nm "_law_same_kind"]
/-- _law_one _law_other -/
def b__law_times : Sms := (.cons (.ite (.or (.cons (.cmp .Eq (.idx (.var 0) (.con (D.int 1))) (.con (D.int 0))) (.cons (.cmp .Eq (.idx (.var 1) (.con (D.int 1))) (.con (D.int 0))) .nil)))
    (.cons (.ret (.tup (.cons (.con (D.int 0)) (.cons (.con (D.int 0)) .nil)))) .nil)
    .nil) (.cons (.ret (.tup (.cons (.blt .min false (.cons (.con (D.int 100)) (.cons (.bin false .Mult (.idx (.var 0) (.con (D.int 0))) (.idx (.var 1) (.con (D.int 0)))) .nil))) (.cons (.ite (.or (.cons (.cmp .Is (.idx (.var 0) (.con (D.int 1))) (.con D.non)) (.cons (.cmp .Is (.idx (.var 1) (.con (D.int 1))) (.con D.non)) .nil))) (.con D.non) (.bin false .Mult (.idx (.var 0) (.con (D.int 1))) (.idx (.var 1) (.con (D.int 1))))) .nil)))) .nil))
def f__law_times : Fn := ⟨2, 2, b__law_times⟩
def n__law_times : List Str := [nm "_law_one", nm "_law_other"]
/-- _law_program_here _law_part_here _law_some _law_around _law_found _law_inner _law_deed _law_one -/
def b__law_bound_call : Sms := (.cons (.asg 4 (.tup (.cons (.con (D.int 0)) (.cons (.con D.non) .nil)))) (.cons (.ite (.cmp .NotIn (.idx (.var 1) (.con (D.int 1))) (.var 3))
    (.cons (.asg 5 (.idx (.lc false [6] false (.seq (.idx (.var 0) (.con (D.int 1)))) (.idx (.var 6) (.con (D.int 2))) (.cmp .Eq (.idx (.var 6) (.con (D.int 0))) (.idx (.var 1) (.con (D.int 1))))) (.con (D.int 0)))) (.cons (.asg 4 (.call "_law_bound" [] (.cons (.var 0) (.cons (.var 5) (.cons (.bin false .Add (.var 3) (.lst false (.cons (.idx (.var 1) (.con (D.int 1))) .nil))) .nil))))) .nil))
    .nil) (.cons (.fr [7] false (.seq (.var 2))
    (.cons (.asg 4 (.call "_law_times" [] (.cons (.var 4) (.cons (.var 7) .nil)))) .nil)) (.cons (.ret (.var 4)) .nil))))
def f__law_bound_call : Fn := ⟨4, 8, b__law_bound_call⟩
def n__law_bound_call : List Str := [nm "_law_program_here", nm "_law_part_here", nm "_law_some", nm "_law_around", nm "_law_found", nm "_law_inner", nm "_law_deed", nm "_law_one"]
/-- _law_part_here _law_some _law_word _law_e _law_is_any _law_one _law_other _law_many -/
def b__law_bound_more : Sms := (.cons (.unp [2, 3] (.tup (.cons (.idx (.var 0) (.con (D.int 0))) (.cons (.idx (.var 1) (.con (D.int 0))) .nil)))) (.cons (.ite (.cmp .Eq (.var 2) (.con (D.str [102, 105, 110, 100])))
    (.cons (.ret (.tup (.cons (.con (D.int 0)) (.cons (.ite (.cmp .Eq (.idx (.var 3) (.con (D.int 1))) (.con (D.int 0))) (.con (D.int 0)) (.con D.non)) .nil)))) .nil)
    .nil) (.cons (.ite (.cmp .Eq (.var 2) (.con (D.str [109, 111, 115, 116])))
    (.cons (.ret (.tup (.cons (.blt .min false (.cons (.idx (.var 0) (.con (D.int 1))) (.cons (.idx (.var 3) (.con (D.int 0))) .nil))) (.cons (.ite (.cmp .Is (.idx (.var 3) (.con (D.int 1))) (.con D.non)) (.idx (.var 0) (.con (D.int 1))) (.blt .min false (.cons (.idx (.var 0) (.con (D.int 1))) (.cons (.idx (.var 3) (.con (D.int 1))) .nil)))) .nil)))) .nil)
    .nil) (.cons (.ite (.cmp .Eq (.var 2) (.con (D.str [110, 111, 116])))
    (.cons (.ret (.tup (.cons (.blt .int false (.cons (.cmp .Eq (.idx (.var 3) (.con (D.int 1))) (.con (D.int 0))) .nil)) (.cons (.blt .int false (.cons (.cmp .Eq (.idx (.var 3) (.con (D.int 0))) (.con (D.int 0))) .nil)) .nil)))) .nil)
    .nil) (.cons (.ite (.cmp .Eq (.var 2) (.con (D.str [97, 103, 97, 105, 110])))
    (.cons (.ret (.tup (.cons (.bin false .Mult (.con (D.int 100)) (.blt .int false (.cons (.cmp .Gt (.idx (.var 3) (.con (D.int 0))) (.con (D.int 0))) .nil))) (.cons (.ite (.cmp .Eq (.idx (.var 3) (.con (D.int 1))) (.con (D.int 0))) (.con (D.int 0)) (.con D.non)) .nil)))) .nil)
    .nil) (.cons (.ite (.cmp .Eq (.var 2) (.con (D.str [105, 102])))
    (.cons (.ite (.or (.cons (.cmp .Gt (.idx (.var 3) (.con (D.int 0))) (.con (D.int 0))) (.cons (.cmp .Eq (.idx (.var 3) (.con (D.int 1))) (.con (D.int 0))) .nil)))
    (.cons (.ret (.ite (.cmp .Gt (.idx (.var 3) (.con (D.int 0))) (.con (D.int 0))) (.idx (.var 1) (.con (D.int 1))) (.idx (.var 1) (.con (D.int 2))))) .nil)
    .nil) (.cons (.asg 4 (.or (.cons (.cmp .Is (.idx (.idx (.var 1) (.con (D.int 1))) (.con (D.int 1))) (.con D.non)) (.cons (.cmp .Is (.idx (.idx (.var 1) (.con (D.int 2))) (.con (D.int 1))) (.con D.non)) .nil)))) (.cons (.ret (.tup (.cons (.blt .min false (.cons (.idx (.idx (.var 1) (.con (D.int 1))) (.con (D.int 0))) (.cons (.idx (.idx (.var 1) (.con (D.int 2))) (.con (D.int 0))) .nil))) (.cons (.ite (.var 4) (.con D.non) (.blt .max false (.cons (.idx (.idx (.var 1) (.con (D.int 1))) (.con (D.int 1))) (.cons (.idx (.idx (.var 1) (.con (D.int 2))) (.con (D.int 1))) .nil)))) .nil)))) .nil)))
    .nil) (.cons (.ite (.or (.cons (.cmp .Eq (.idx (.var 3) (.con (D.int 1))) (.con (D.int 0))) (.cons (.cmp .Eq (.idx (.idx (.var 1) (.con (D.int 1))) (.con (D.int 1))) (.con (D.int 0))) .nil)))
    (.cons (.ret (.tup (.cons (.con (D.int 0)) (.cons (.con (D.int 0)) .nil)))) .nil)
    .nil) (.cons (.unp [5, 6] (.slc false (.var 0) (.con (D.int 1)) .nop)) (.cons (.ite (.or (.cons (.cmp .NotEq (.idx (.var 5) (.con (D.int 0))) (.con (D.str [105, 115]))) (.cons (.cmp .NotEq (.idx (.var 6) (.con (D.int 0))) (.con (D.str [105, 115]))) (.cons (.isi (.idx (.var 5) (.con (D.int 1))) ["str"]) (.cons (.isi (.idx (.var 6) (.con (D.int 1))) ["str"]) .nil)))))
    (.cons (.ret (.tup (.cons (.con (D.int 0)) (.cons (.con D.non) .nil)))) .nil)
    .nil) (.cons (.asg 7 (.blt .max false (.cons (.con (D.int 0)) (.cons (.bin false .Add (.bin false .Sub (.idx (.var 6) (.con (D.int 1))) (.idx (.var 5) (.con (D.int 1)))) (.con (D.int 1))) .nil)))) (.cons (.ret (.tup (.cons (.blt .min false (.cons (.con (D.int 100)) (.cons (.var 7) .nil))) (.cons (.var 7) .nil)))) .nil)))))))))))
def f__law_bound_more : Fn := ⟨2, 8, b__law_bound_more⟩
def n__law_bound_more : List Str := [nm "_law_part_here", nm "_law_some", nm "_law_word", nm "_law_e", nm "_law_is_any", nm "_law_one", nm "_law_other", nm "_law_many"]
/-- _law_program_here _law_part_here _law_around _law_word _law_some _law_one _law_e _law_f -/
def b__law_bound : Sms := (.cons (.asg 3 (.idx (.var 1) (.con (D.int 0)))) (.cons (.asg 4 (.lc false [5] false (.seq (.call "_law_within" [] (.cons (.var 1) .nil))) (.call "_law_bound" [] (.cons (.var 0) (.cons (.var 5) (.cons (.var 2) .nil)))) (.con (D.bl true)))) (.cons (.ite (.and (.cons (.cmp .Eq (.var 4) (.lst false .nil)) (.cons (.cmp .NotEq (.var 3) (.con (D.str [99, 97, 108, 108]))) .nil)))
    (.cons (.ret (.mtd .get (.dic false [.inr [105, 115], .inr [110, 111, 110, 101]] (.cons (.tup (.cons (.con (D.int 1)) (.cons (.con (D.int 1)) .nil))) (.cons (.tup (.cons (.con (D.int 0)) (.cons (.con (D.int 0)) .nil))) .nil))) (.cons (.var 3) (.cons (.tup (.cons (.con (D.int 0)) (.cons (.con (D.int 1)) .nil))) .nil)))) .nil)
    .nil) (.cons (.ite (.cmp .Eq (.var 3) (.con (D.str [99, 97, 108, 108])))
    (.cons (.ret (.call "_law_bound_call" [] (.cons (.var 0) (.cons (.var 1) (.cons (.var 4) (.cons (.var 2) .nil)))))) .nil)
    .nil) (.cons (.unp [6, 7] (.tup (.cons (.idx (.var 4) (.con (D.int 0))) (.cons (.idx (.var 4) (.neg (.con (D.int 1)))) .nil)))) (.cons (.ite (.cmp .In (.var 3) (.tup (.cons (.con (D.str [112, 108, 117, 115])) (.cons (.con (D.str [108, 101, 115, 115])) (.cons (.con (D.str [116, 105, 109, 101, 115])) (.cons (.con (D.str [106, 111, 105, 110])) (.cons (.con (D.str [97, 110, 100])) (.cons (.con (D.str [115, 99, 97, 110])) .nil))))))))
    (.cons (.ret (.call "_law_times" [] (.cons (.var 6) (.cons (.var 7) .nil)))) .nil)
    .nil) (.cons (.ite (.cmp .In (.var 3) (.tup (.cons (.con (D.str [98, 101, 108, 111, 119])) (.cons (.con (D.str [115, 97, 109, 101])) (.cons (.con (D.str [117, 110, 108, 105, 107, 101])) .nil)))))
    (.cons (.ret (.tup (.cons (.con (D.int 0)) (.cons (.idx (.call "_law_times" [] (.cons (.var 6) (.cons (.var 7) .nil))) (.con (D.int 1))) .nil)))) .nil)
    .nil) (.cons (.ite (.cmp .In (.var 3) (.tup (.cons (.con (D.str [108, 111, 110, 103])) (.cons (.con (D.str [115, 97, 121])) (.cons (.con (D.str [115, 101, 116])) (.cons (.con (D.str [116, 114, 121])) (.cons (.con (D.str [116, 97, 98])) (.cons (.con (D.str [109, 97, 110, 121])) (.cons (.con (D.str [109, 97, 116, 99, 104])) .nil)))))))))
    (.cons (.ret (.tup (.cons (.ite (.cmp .In (.var 3) (.tup (.cons (.con (D.str [108, 111, 110, 103])) (.cons (.con (D.str [115, 97, 121])) (.cons (.con (D.str [115, 101, 116])) (.cons (.con (D.str [116, 114, 121])) .nil)))))) (.idx (.var 6) (.con (D.int 0))) (.con (D.int 0))) (.cons (.idx (.var 6) (.con (D.int 1))) .nil)))) .nil)
    .nil) (.cons (.ite (.cmp .Eq (.var 3) (.con (D.str [111, 114])))
    (.cons (.ret (.tup (.cons (.blt .min false (.cons (.con (D.int 100)) (.cons (.bin false .Add (.idx (.var 6) (.con (D.int 0))) (.idx (.var 7) (.con (D.int 0)))) .nil))) (.cons (.ite (.or (.cons (.cmp .Is (.idx (.var 6) (.con (D.int 1))) (.con D.non)) (.cons (.cmp .Is (.idx (.var 7) (.con (D.int 1))) (.con D.non)) .nil))) (.con D.non) (.bin false .Add (.idx (.var 6) (.con (D.int 1))) (.idx (.var 7) (.con (D.int 1))))) .nil)))) .nil)
    .nil) (.cons (.ite (.cmp .In (.var 3) (.tup (.cons (.con (D.str [116, 104, 101, 110])) (.cons (.con (D.str [101, 118, 101, 114, 121])) (.cons (.con (D.str [119, 104, 105, 108, 101])) .nil)))))
    (.cons (.ret (.ite (.cmp .Eq (.var 3) (.con (D.str [116, 104, 101, 110]))) (.var 7) (.tup (.cons (.con (D.int 0)) (.cons (.con (D.int 0)) .nil))))) .nil)
    .nil) (.cons (.ret (.call "_law_bound_more" [] (.cons (.var 1) (.cons (.var 4) .nil)))) .nil)))))))))))
def f__law_bound : Fn := ⟨3, 8, b__law_bound⟩
def n__law_bound : List Str := [nm "_law_program_here", nm "_law_part_here", nm "_law_around", nm "_law_word", nm "_law_some", nm "_law_one", nm "_law_e", nm "_law_f"]
/-- _law_script _law_row_here _law_turn _law_program_here _law_again _law_part_here _law_last _law_twice -/
def b_law : Sms := (.cons (.asg 1 (.call "_law_row" [] (.cons (.var 0) .nil))) (.cons (.fr [2] false (.rng1 (.con (D.int 4)))
    (.cons (.asg 3 (.call "_law_program" [] (.cons (.var 1) (.cons (.bin false .Add (.con (D.int 6)) (.call "_law_taken" [] (.cons (.var 1) (.cons (.con (D.int 16)) .nil)))) (.cons (.con (D.int 6)) .nil))))) (.cons (.ite (.cmp .Eq (.call "_law_taken" [] (.cons (.var 1) (.cons (.con (D.int 2)) .nil))) (.con (D.int 0)))
    (.cons (.asg 3 (.tup (.cons (.call "_law_bound_part" [] (.cons (.var 1) (.cons (.con (D.int 4)) (.cons (.lst true (.cons (.con (D.int 16)) .nil)) .nil)))) (.cons (.tup .nil) .nil)))) .nil)
    .nil) (.cons (.ite (.call "_law_fault_free" [] (.cons (.var 3) .nil))
    (.cons (.fr [4] false (.rng1 (.con (D.int 2)))
    (.cons (.ite (.not (.call "_law_alike" [] (.cons (.call "bounds" [] (.cons (.var 3) .nil)) (.cons (.call "_law_bound" [] (.cons (.var 3) (.cons (.idx (.var 3) (.con (D.int 0))) (.cons (.lst false .nil) .nil)))) .nil))))
    (.cons (.ret (.con (D.bl false))) .nil)
    .nil) .nil)) .nil)
    .nil) .nil)))) (.cons (.asg 5 (.tup (.cons (.con (D.str [116, 111])) (.cons (.tup (.cons (.con (D.str [105, 115])) (.cons (.call "_law_taken" [] (.cons (.var 1) (.cons (.con (D.int 9)) .nil))) .nil))) (.cons (.tup (.cons (.con (D.str [105, 115])) (.cons (.bin false .Add (.con (D.int 95)) (.call "_law_taken" [] (.cons (.var 1) (.cons (.con (D.int 40)) .nil)))) .nil))) .nil))))) (.cons (.asg 6 (.tup (.cons (.con (D.str [104])) (.cons (.tup .nil) (.cons (.tup (.cons (.con (D.str [105, 115])) (.cons (.call "_law_taken" [] (.cons (.var 1) (.cons (.con (D.int 9)) .nil))) .nil))) .nil))))) (.cons (.asg 7 (.tup (.cons (.tup (.cons (.con (D.str [103])) (.cons (.tup .nil) (.cons (.tup (.cons (.con (D.str [111, 114])) (.cons (.tup (.cons (.con (D.str [99, 97, 108, 108])) (.cons (.con (D.str [104])) .nil))) (.cons (.tup (.cons (.con (D.str [99, 97, 108, 108])) (.cons (.con (D.str [103])) .nil))) .nil)))) .nil)))) (.cons (.var 6) (.cons (.tup (.cons (.con (D.str [102])) (.cons (.tup .nil) (.cons (.tup (.cons (.con (D.str [99, 97, 108, 108])) (.cons (.con (D.str [103])) .nil))) .nil)))) .nil))))) (.cons (.fr [3] false (.seq (.lst false (.cons (.tup (.cons (.var 5) (.cons (.tup .nil) .nil))) (.cons (.tup (.cons (.tup (.cons (.con (D.str [99, 97, 108, 108])) (.cons (.con (D.str [102])) .nil))) (.cons (.var 7) .nil))) .nil))))
    (.cons (.ite (.not (.call "_law_alike" [] (.cons (.call "bounds" [] (.cons (.var 3) .nil)) (.cons (.call "_law_bound" [] (.cons (.var 3) (.cons (.idx (.var 3) (.con (D.int 0))) (.cons (.lst false .nil) .nil)))) .nil))))
    (.cons (.ret (.con (D.bl false))) .nil)
    .nil) .nil)) (.cons (.ret (.con (D.bl true))) .nil)))))))
def f_law : Fn := ⟨1, 8, b_law⟩
def n_law : List Str := [nm "_law_script", nm "_law_row_here", nm "_law_turn", nm "_law_program_here", nm "_law_again", nm "_law_part_here", nm "_law_last", nm "_law_twice"]
def fns : List (String × Fn) := [("is_number", f_is_number), ("is_text", f_is_text), ("is_worth", f_is_worth), ("is_cell", f_is_cell), ("is_name", f_is_name), ("inner_parts", f_inner_parts), ("is_form", f_is_form), ("need_part", f_need_part), ("is_head", f_is_head), ("need_program", f_need_program), ("both", f_both), ("either", f_either), ("one_of", f_one_of), ("Bounds.__init__", f_Bounds_d___init__), ("Bounds.of", f_Bounds_d_of), ("Bounds.of_others", f_Bounds_d_of_others), ("Bounds.of_numbers", f_Bounds_d_of_numbers), ("Bounds.of_call", f_Bounds_d_of_call), ("bounds", f_bounds), ("_law_row", f__law_row), ("_law_taken", f__law_taken), ("_law_text", f__law_text), ("_law_number", f__law_number), ("_law_part", f__law_part), ("_law_program", f__law_program), ("_law_bound_part", f__law_bound_part), ("_law_within", f__law_within), ("_law_fault_free", f__law_fault_free), ("_law_alike", f__law_alike), ("_law_times", f__law_times), ("_law_bound_call", f__law_bound_call), ("_law_bound_more", f__law_bound_more), ("_law_bound", f__law_bound), ("law", f_law)]
def mts : List (String × List (String × String)) := [("Bounds", [("__init__", "Bounds.__init__"), ("of", "Bounds.of"), ("of_others", "Bounds.of_others"), ("of_numbers", "Bounds.of_numbers"), ("of_call", "Bounds.of_call")])]
def xcs : List (String × Option String) := [("BadProgram", some "path")]
def xsb : List ((String × String) × Bool) := []
def pg : Pg := ⟨fns, mts, 100000, xcs, xsb⟩
def tb : Tb := ⟨[("_law_alike", []), ("_law_bound", []), ("_law_bound_call", []), ("_law_bound_more", []), ("_law_bound_part", []), ("_law_fault_free", []), ("_law_number", []), ("_law_part", []), ("_law_program", []), ("_law_row", []), ("_law_taken", []), ("_law_text", []), ("_law_times", []), ("_law_within", []), ("both", []), ("bounds", []), ("either", []), ("inner_parts", []), ("is_cell", []), ("is_form", []), ("is_head", []), ("is_name", []), ("is_number", []), ("is_text", []), ("is_worth", []), ("need_part", []), ("need_program", []), ("one_of", [])], [("LETTERS", g_LETTERS), ("MANY", g_MANY), ("MOST_DEEDS", g_MOST_DEEDS), ("MOST_DEEP", g_MOST_DEEP), ("MOST_FIRST", g_MOST_FIRST), ("MOST_NAME", g_MOST_NAME), ("MOST_NUMBER", g_MOST_NUMBER), ("MOST_PARTS", g_MOST_PARTS), ("MOST_PLACES", g_MOST_PLACES), ("MOST_SIGNS", g_MOST_SIGNS), ("NAMED", g_NAMED), ("PAIRED", g_PAIRED), ("PLAIN", g_PLAIN), ("QUOTE", g_QUOTE), ("SINGLE", g_SINGLE)], ["all", "bool", "enumerate", "int", "isinstance", "len", "list", "max", "min", "range", "str", "tuple"], ["deeds", "looked_at"], ["of", "of_call", "of_numbers", "of_others"], ["Bounds"], xcs, []⟩
end G21
/-! Q1: what an evaluator's answer holds; rules for simp. -/
namespace Mw
/-- an answer with Q, or an exception with E -/
def R.sat {α : Type} (r : R α) (Q : α → Store → Prop) (E : Ex → Store → Prop := fun _ _ => False) : Prop := match r with
  | .ok a S => Q a S
  | .exc e S => E e S
  | .bad => False
structure En where
  nx : LEnv → Store → Prop := fun _ _ => False
  rt : D → Store → Prop := fun _ _ => False
  bk : LEnv → Store → Prop := fun _ _ => False
  ct : LEnv → Store → Prop := fun _ _ => False
  ex : Ex → LEnv → Store → Prop := fun _ _ _ => False
def RS.sat (r : RS) (F : En) : Prop := match r with
  | .nx l S => F.nx l S
  | .rt d S => F.rt d S
  | .bk l S => F.bk l S
  | .ct l S => F.ct l S
  | .exc e l S => F.ex e l S
  | .bad => False
def tellR (o : Option Bool) (S : Store) : R D := match o with
  | some b => .ok (.bl b) S
  | none => .bad
section
variable {α β : Type} {Q : α → Store → Prop} {E : Ex → Store → Prop} {F : En} {S : Store} {l : LEnv}
@[simp] theorem sat_ok {a : α} : (R.ok a S).sat Q E = Q a S := rfl
@[simp] theorem sat_exc {e : Ex} : (R.exc e S : R α).sat Q E = E e S := rfl
@[simp] theorem sat_bad : (R.bad : R α).sat Q E = False := rfl
@[simp] theorem sat_bind {r : R β} {f : β → Store → R α} : (r.bind f).sat Q E = r.sat (fun a S => (f a S).sat Q E) E := by cases r <;> rfl
@[simp] theorem sat_nox {r : R α} : r.nox.sat Q E = r.sat Q := by cases r <;> rfl
@[simp] theorem sat_then {r : R β} {f : β → Store → RS} : (r.then l f).sat F = r.sat (fun a S => (f a S).sat F) (fun e S => F.ex e l S) := by cases r <;> rfl
@[simp] theorem sat_seq {r : RS} {f : LEnv → Store → RS} : (r.seq f).sat F = r.sat { F with nx := fun l S => (f l S).sat F } := by cases r <;> rfl
@[simp] theorem sat_out {r : RS} {Q : D → Store → Prop} : r.out.sat Q E = r.sat { nx := fun _ S => Q .non S, rt := Q, ex := fun e _ S => E e S } := by cases r <;> rfl
@[simp] theorem sat_nx : (RS.nx l S).sat F = F.nx l S := rfl
@[simp] theorem sat_rt {d : D} : (RS.rt d S).sat F = F.rt d S := rfl
@[simp] theorem sat_bk : (RS.bk l S).sat F = F.bk l S := rfl
@[simp] theorem sat_ct : (RS.ct l S).sat F = F.ct l S := rfl
@[simp] theorem sat_exs {e : Ex} : (RS.exc e l S).sat F = F.ex e l S := rfl
@[simp] theorem sat_bads : RS.bad.sat F = False := rfl
@[simp] theorem sat_ite {c : Prop} [Decidable c] {a b : RS} : (if c then a else b).sat F = if c then a.sat F else b.sat F := by split <;> rfl
@[simp] theorem satR_ite {c : Prop} [Decidable c] {a b : R α} : (if c then a else b).sat Q E = if c then a.sat Q E else b.sat Q E := by split <;> rfl
theorem R.sat.mono {r : R α} {Q' : α → Store → Prop} (h : r.sat Q) (k : ∀ a S, Q a S → Q' a S) : r.sat Q' E := by
  cases r with
  | ok a S => exact k _ _ h
  | exc _ _ => exact (show False from h).elim
  | bad => exact h
theorem R.sat.monoE {r : R α} {Q' : α → Store → Prop} {E' : Ex → Store → Prop} (h : r.sat Q E) (k : ∀ a S, Q a S → Q' a S) (kE : ∀ e S, E e S → E' e S) : r.sat Q' E' := by
  cases r with
  | ok a S => exact k _ _ h
  | exc _ _ => exact kE _ _ h
  | bad => exact h
theorem RS.sat.mono {r : RS} {F F' : En} (h : r.sat F) (k1 : ∀ l S, F.nx l S → F'.nx l S) (k2 : ∀ d S, F.rt d S → F'.rt d S) (k3 : ∀ l S, F.bk l S → F'.bk l S) (k4 : ∀ l S, F.ct l S → F'.ct l S) (k5 : ∀ e l S, F.ex e l S → F'.ex e l S := by exact fun _ _ _ h => h) : r.sat F' := by
  cases r with
  | nx l S => exact k1 _ _ h
  | rt l S => exact k2 _ _ h
  | bk l S => exact k3 _ _ h
  | ct l S => exact k4 _ _ h
  | exc e l S => exact k5 _ _ _ h
  | bad => exact h
theorem R.eq_of_sat {r : R α} {a : α} (h : r.sat fun b S' => b = a ∧ S' = S) : r = .ok a S := by
  cases r with
  | ok b S' => obtain ⟨rfl, rfl⟩ := h; rfl
  | exc _ _ => exact (show False from h).elim
  | bad => exact (show False from h).elim
@[simp] theorem bind_ok {a : β} {f : β → Store → R α} : (R.ok a S).bind f = f a S := rfl
@[simp] theorem nox_ok {a : α} : (R.ok a S).nox = .ok a S := rfl
@[simp] theorem then_ok {a : β} {f : β → Store → RS} : (R.ok a S).then l f = f a S := rfl
@[simp] theorem seq_nx {f : LEnv → Store → RS} : (RS.nx l S).seq f = f l S := rfl
@[simp] theorem seq_rt {d : D} {f : LEnv → Store → RS} : (RS.rt d S).seq f = .rt d S := rfl
@[simp] theorem out_rt {d : D} : (RS.rt d S).out = .ok d S := rfl
@[simp] theorem out_nx : (RS.nx l S).out = .ok .non S := rfl
@[simp] theorem asB_bl {b : Bool} : asB (.bl b) S = .ok b S := rfl
@[simp] theorem asI_int {i : Int} : asI (.int i) S = .ok (some i) S := rfl
@[simp] theorem tell_some {b : Bool} : tellR (some b) S = .ok (.bl b) S := rfl
@[simp] theorem cmp_Eq {x y : D} : cmpR .Eq x y S = tellR (eqR S x y) S := rfl
@[simp] theorem cmp_Ne {x y : D} : cmpR .NotEq x y S = tellR ((eqR S x y).map (!·)) S := rfl
@[simp] theorem cmp_In {x y : D} : cmpR .In x y S = tellR (inR S x y) S := rfl
@[simp] theorem cmp_NotIn {x y : D} : cmpR .NotIn x y S = tellR ((inR S x y).map (!·)) S := rfl
@[simp] theorem cmp_Lt_i {i j : Int} : cmpR .Lt (.int i) (.int j) S = .ok (.bl (decide (i < j))) S := rfl
@[simp] theorem cmp_Le_i {i j : Int} : cmpR .LtE (.int i) (.int j) S = .ok (.bl (decide (i ≤ j))) S := rfl
@[simp] theorem cmp_Gt_i {i j : Int} : cmpR .Gt (.int i) (.int j) S = .ok (.bl (decide (j < i))) S := rfl
@[simp] theorem cmp_Ge_i {i j : Int} : cmpR .GtE (.int i) (.int j) S = .ok (.bl (decide (j ≤ i))) S := rfl
@[simp] theorem cmp_Lt_s {i j : List Nat} : cmpR .Lt (.str i) (.str j) S = .ok (.bl (decide (i < j))) S := rfl
@[simp] theorem cmp_Le_s {i j : List Nat} : cmpR .LtE (.str i) (.str j) S = .ok (.bl (!decide (j < i))) S := rfl
@[simp] theorem cmp_Is {x : D} : cmpR .Is x .non S = .ok (.bl (match x with | .non => true | _ => false)) S := rfl
@[simp] theorem cmp_IsNot {x : D} : cmpR .IsNot x .non S = .ok (.bl (match x with | .non => false | _ => true)) S := rfl
@[simp] theorem eq_ii {i j : Int} : eqR S (.int i) (.int j) = some (decide (i = j)) := by simp [eqR, scalD, deq]; rfl
@[simp] theorem eq_ss {i j : List Nat} : eqR S (.str i) (.str j) = some (decide (i = j)) := by
  have e : (i == j) = decide (i = j) := by rw [Bool.eq_iff_iff]; simp
  simp [eqR, scalD, deq, e]
@[simp] theorem eq_bb {i j : Bool} : eqR S (.bl i) (.bl j) = some (decide (i = j)) := by simp [eqR, scalD, deq]; rfl
@[simp] theorem eq_in {i : Int} : eqR S (.int i) .non = some false := by simp [eqR, scalD, deq]
@[simp] theorem eq_ni {i : Int} : eqR S .non (.int i) = some false := by simp [eqR, scalD, deq]
@[simp] theorem eq_nn : eqR S .non .non = some true := by simp [eqR, scalD, deq]
@[simp] theorem eq_sn {i : List Nat} : eqR S (.str i) .non = some false := by simp [eqR, scalD, deq]
@[simp] theorem eq_ns {i : List Nat} : eqR S .non (.str i) = some false := by simp [eqR, scalD, deq]
@[simp] theorem eq_is {i : Int} {j : List Nat} : eqR S (.int i) (.str j) = some false := by simp [eqR, scalD, deq]
@[simp] theorem eq_si {i : Int} {j : List Nat} : eqR S (.str j) (.int i) = some false := by simp [eqR, scalD, deq]
@[simp] theorem in_tup {x : D} {ds : List D} : inR S x (.tup ds) = if flatD x && ds.all flatD then some (ds.any fun z => deq z x) else none := by
  simp [inR, dctOf, seqOf]
@[simp] theorem in_lst {x : D} {ds : List D} : inR S x (.lst ds) = if flatD x && ds.all flatD then some (ds.any fun z => deq z x) else none := by
  simp [inR, dctOf, seqOf]
@[simp] theorem in_str {c : Nat} {z : List Nat} : inR S (.str [c]) (.str z) = some (decide (c ∈ z)) := rfl
@[simp] theorem isi_1 {x : D} {t : String} : isiR x [t] S = match tyName S x with
  | some T => .ok (.bl (below T t)) S
  | none => .bad := rfl
@[simp] theorem isi_2 {x : D} {t u : String} : isiR x [t, u] S = match tyName S x with
  | some T => .ok (.bl (below T t || below T u)) S
  | none => .bad := rfl
@[simp] theorem ty_int {i : Int} : tyName S (.int i) = some "int" := rfl
@[simp] theorem ty_str {i : List Nat} : tyName S (.str i) = some "str" := rfl
@[simp] theorem ty_bl {i : Bool} : tyName S (.bl i) = some "bool" := rfl
@[simp] theorem ty_tup {i : List D} : tyName S (.tup i) = some "tuple" := rfl
@[simp] theorem ty_lst {i : List D} : tyName S (.lst i) = some "list" := rfl
@[simp] theorem ty_non : tyName S .non = some "NoneType" := rfl
@[simp] theorem add_i {m : Bool} {i j : Int} : binR m .Add (.int i) (.int j) S = .ok (.int (i + j)) S := rfl
@[simp] theorem add_s {m : Bool} {a b : List Nat} : binR m .Add (.str a) (.str b) S = if sizeOk (a.length + b.length) then .ok (.str (a ++ b)) S else .bad := rfl
@[simp] theorem add_t {m : Bool} {a b : List D} : binR m .Add (.tup a) (.tup b) S = if sizeOk (a.length + b.length) then .ok (.tup (a ++ b)) S else .bad := rfl
@[simp] theorem add_l {m : Bool} {a b : List D} : binR m .Add (.lst a) (.lst b) S = if sizeOk (a.length + b.length) then mkL m (a ++ b) S else .bad := rfl
@[simp] theorem sub_i {m : Bool} {i j : Int} : binR m .Sub (.int i) (.int j) S = .ok (.int (i - j)) S := rfl
@[simp] theorem mul_i {m : Bool} {i j : Int} : binR m .Mult (.int i) (.int j) S = if mulOk i j then .ok (.int (i * j)) S else .bad := rfl
@[simp] theorem mul_s {m : Bool} {a : List Nat} {n : Int} : binR m .Mult (.str a) (.int n) S = if decide (0 ≤ n ∧ n ≤ 1000 ∧ a.length ≤ 1000) then .ok (.str (List.replicate n.toNat a).flatten) S else .bad := rfl
@[simp] theorem div_i {m : Bool} {i j : Int} : binR m .FloorDiv (.int i) (.int j) S = if decide (0 < j ∧ j < 1073741824) then .ok (.int (i / j)) S else .bad := rfl
@[simp] theorem mod_i {m : Bool} {i j : Int} : binR m .Mod (.int i) (.int j) S = if decide (0 < j) then .ok (.int (i % j)) S else .bad := rfl
@[simp] theorem pow_i {m : Bool} {i j : Int} : binR m .Pow (.int i) (.int j) S = if decide (0 ≤ j ∧ j ≤ 1000000 ∧ i.natAbs < 2 ^ 64) then .ok (.int (i ^ j.toNat)) S else .bad := rfl
@[simp] theorem idx_t {ds : List D} {i : Int} : idxR (.tup ds) (.int i) S = match L2.atI ds i with
  | some v => .ok v S
  | none => .bad := rfl
@[simp] theorem idx_l {ds : List D} {i : Int} : idxR (.lst ds) (.int i) S = match L2.atI ds i with
  | some v => .ok v S
  | none => .bad := rfl
@[simp] theorem idx_s {s : List Nat} {i : Int} : idxR (.str s) (.int i) S = if sizeOk s.length then (match L2.atI s i with | some c => .ok (.str [c]) S | none => .bad) else .bad := rfl
@[simp] theorem deq_ss {i j : List Nat} : deq (.str i) (.str j) = decide (i = j) := by
  have e : (i == j) = decide (i = j) := by rw [Bool.eq_iff_iff]; simp
  simp [deq, e]
@[simp] theorem deq_ii {i j : Int} : deq (.int i) (.int j) = decide (i = j) := by simp [deq]; rfl
@[simp] theorem eq_t0 {d : D} {ds : List D} : eqR S (.tup (d :: ds)) (.tup []) = some false := by
  unfold eqR
  split
  · rfl
  · rfl
@[simp] theorem eq_l0 {d : D} {ds : List D} : eqR S (.lst (d :: ds)) (.lst []) = some false := by
  unfold eqR
  split
  · rfl
  · rfl
@[simp] theorem eq_l00 : eqR S (.lst []) (.lst []) = some true := by
  unfold eqR
  split
  · rfl
  · rfl
@[simp] theorem at0 {γ : Type} {a : γ} {l : List γ} : L2.atI (a :: l) 0 = some a := by simp [L2.atI, L2.ixN]
@[simp] theorem at1 {γ : Type} {a b : γ} {l : List γ} : L2.atI (a :: b :: l) 1 = some b := by
  have e : L2.ixN (a :: b :: l).length 1 = some 1 := by
    unfold L2.ixN
    simp
    omega
  unfold L2.atI
  rw [e]
  rfl
@[simp] theorem len_s {m : Bool} {s : List Nat} : bltR .len m [.str s] S = if sizeOk s.length then .ok (.int s.length) S else .bad := rfl
@[simp] theorem len_t {m : Bool} {s : List D} : bltR .len m [.tup s] S = .ok (.int s.length) S := rfl
@[simp] theorem len_l {m : Bool} {s : List D} : bltR .len m [.lst s] S = .ok (.int s.length) S := rfl
@[simp] theorem all_l {m : Bool} {s : List D} : bltR .all m [.lst s] S = match allBools s with
  | some bs => .ok (.bl (bs.all id)) S
  | none => .bad := by
  cases h : allBools s <;> simp [bltR, seqOf, h]
@[simp] theorem mkL_f {ds : List D} : mkL false ds S = .ok (.lst ds) S := rfl
@[simp] theorem mkL_t {ds : List D} : mkL true ds S = .ok (.ref S.length) (S ++ [.lst ds]) := rfl
@[simp] theorem mkD_f {ds : List (DK × D)} : mkD false ds S = .ok (.dct ds) S := rfl
@[simp] theorem mkD_t {ds : List (DK × D)} : mkD true ds S = .ok (.ref S.length) (S ++ [.dct ds]) := rfl
@[simp] theorem items_t {ds : List D} : itemsR (.tup ds) S = .ok ds S := rfl
@[simp] theorem items_l {ds : List D} : itemsR (.lst ds) S = .ok ds S := rfl
@[simp] theorem items_s {z : List Nat} : itemsR (.str z) S = .ok (z.map fun c => D.str [c]) S := rfl
@[simp] theorem items_scr {z : List Int} : itemsR (.scr z) S = .ok (z.map D.int) S := rfl
theorem sizeOk_of {n : Nat} (h : n ≤ 1000000) : sizeOk n = true := by
  unfold sizeOk
  rw [PySem.sizeLine_eq]
  exact decide_eq_true (by omega)
/-- a comprehension over things that each give one answer -/
theorem lc_map {c : LEnv → Store → R Bool} {f : LEnv → Store → R D} {tg : List Nat} {tt : Bool} {l : LEnv} {S : Store} (G : D → D) : ∀ {ds acc : List D}, acc.length + ds.length ≤ 1000000 → (∀ d ∈ ds, ∃ l1, bindT tg tt d l = some l1 ∧ c l1 S = .ok true S ∧ f l1 S = .ok (G d) S) → lcLoop c f tg tt l ds acc S = .ok (acc ++ ds.map G) S
  | [], acc, _, _ => by rw [lcLoop]; simp
  | d :: ds, acc, hl, h => by
    obtain ⟨l1, h1, h2, h3⟩ := h d List.mem_cons_self
    rw [lcLoop, h1]
    dsimp only
    rw [h2, bind_ok, if_pos rfl, h3, bind_ok]
    have hz : acc.length < PySem.sizeLine := by
      rw [PySem.sizeLine_eq]
      simp at hl
      omega
    rw [if_pos (decide_eq_true hz), lc_map G (by simp at hl ⊢; omega) fun d hd => h d (List.mem_cons_of_mem _ hd)]
    simp
end
end Mw
theorem Mw.cfg_cf (P : Mw.Pg) (n : Nat) : (P.cfg n).cf = Mw.cfn P n := rfl
namespace Q
open Mw
structure HasF (P : Pg) : Prop where
  is_number : P.fns.lookup "is_number" = some G21.f_is_number
  is_text : P.fns.lookup "is_text" = some G21.f_is_text
  is_worth : P.fns.lookup "is_worth" = some G21.f_is_worth
  is_cell : P.fns.lookup "is_cell" = some G21.f_is_cell
  is_name : P.fns.lookup "is_name" = some G21.f_is_name
variable {P : Pg}
local macro_rules | `(tactic| walk_at "mw") => `(tactic| simp [Mw.run, Mw.exs, Mw.ex, Mw.ev, Mw.evs, Mw.evAnd, Mw.evOr, Mw.Xp.isNop, Mw.sat_out, Mw.sat_seq, Mw.sat_then, Mw.sat_bind, Mw.sat_nox, Mw.sat_ok, Mw.sat_bad, Mw.sat_exc, Mw.sat_bads, Mw.sat_exs, Mw.sat_rt, Mw.sat_nx, Mw.sat_bk, Mw.sat_ct, Mw.satR_ite, Mw.sat_ite, Mw.bind_ok, Mw.nox_ok, Mw.then_ok, Mw.seq_nx, Mw.seq_rt, Mw.out_rt, Mw.out_nx, Mw.asB_bl, Mw.asI_int, Mw.tell_some, Mw.cmp_Eq, Mw.cmp_Ne, Mw.cmp_In, Mw.cmp_NotIn, Mw.cmp_Lt_i, Mw.cmp_Le_i, Mw.cmp_Gt_i, Mw.cmp_Ge_i, Mw.cmp_Lt_s, Mw.cmp_Le_s, Mw.cmp_Is, Mw.cmp_IsNot, Mw.eq_ii, Mw.eq_ss, Mw.eq_bb, Mw.eq_in, Mw.eq_ni, Mw.eq_nn, Mw.eq_sn, Mw.eq_ns, Mw.eq_is, Mw.eq_si, Mw.in_tup, Mw.in_lst, Mw.in_str, Mw.isi_1, Mw.isi_2, Mw.ty_int, Mw.ty_str, Mw.ty_bl, Mw.ty_tup, Mw.ty_lst, Mw.ty_non, Mw.below, Mw.add_i, Mw.add_s, Mw.add_t, Mw.add_l, Mw.sub_i, Mw.mul_i, Mw.mul_s, Mw.div_i, Mw.mod_i, Mw.pow_i, Mw.idx_t, Mw.idx_l, Mw.idx_s, Mw.len_s, Mw.len_t, Mw.len_l, Mw.all_l, Mw.mkL_f, Mw.mkL_t, Mw.mkD_f, Mw.mkD_t, Mw.items_t, Mw.items_l, Mw.items_s, Mw.items_scr, Mw.flatD, Mw.deq_ss, Mw.deq_ii, Mw.eq_t0, Mw.eq_l0, Mw.eq_l00, Mw.at0, Mw.at1, Mw.wipeL, Mw.bindT, Mw.setAll, Mw.cfg_cf])
local macro_rules | `(tactic| walk_at "mw*") => `(tactic| simp [Mw.run, Mw.exs, Mw.ex, Mw.ev, Mw.evs, Mw.evAnd, Mw.evOr, Mw.Xp.isNop, Mw.sat_out, Mw.sat_seq, Mw.sat_then, Mw.sat_bind, Mw.sat_nox, Mw.sat_ok, Mw.sat_bad, Mw.sat_exc, Mw.sat_bads, Mw.sat_exs, Mw.sat_rt, Mw.sat_nx, Mw.sat_bk, Mw.sat_ct, Mw.satR_ite, Mw.sat_ite, Mw.bind_ok, Mw.nox_ok, Mw.then_ok, Mw.seq_nx, Mw.seq_rt, Mw.out_rt, Mw.out_nx, Mw.asB_bl, Mw.asI_int, Mw.tell_some, Mw.cmp_Eq, Mw.cmp_Ne, Mw.cmp_In, Mw.cmp_NotIn, Mw.cmp_Lt_i, Mw.cmp_Le_i, Mw.cmp_Gt_i, Mw.cmp_Ge_i, Mw.cmp_Lt_s, Mw.cmp_Le_s, Mw.cmp_Is, Mw.cmp_IsNot, Mw.eq_ii, Mw.eq_ss, Mw.eq_bb, Mw.eq_in, Mw.eq_ni, Mw.eq_nn, Mw.eq_sn, Mw.eq_ns, Mw.eq_is, Mw.eq_si, Mw.in_tup, Mw.in_lst, Mw.in_str, Mw.isi_1, Mw.isi_2, Mw.ty_int, Mw.ty_str, Mw.ty_bl, Mw.ty_tup, Mw.ty_lst, Mw.ty_non, Mw.below, Mw.add_i, Mw.add_s, Mw.add_t, Mw.add_l, Mw.sub_i, Mw.mul_i, Mw.mul_s, Mw.div_i, Mw.mod_i, Mw.pow_i, Mw.idx_t, Mw.idx_l, Mw.idx_s, Mw.len_s, Mw.len_t, Mw.len_l, Mw.all_l, Mw.mkL_f, Mw.mkL_t, Mw.mkD_f, Mw.mkD_t, Mw.items_t, Mw.items_l, Mw.items_s, Mw.items_scr, Mw.flatD, Mw.deq_ss, Mw.deq_ii, Mw.eq_t0, Mw.eq_l0, Mw.eq_l00, Mw.at0, Mw.at1, Mw.wipeL, Mw.bindT, Mw.setAll, Mw.cfg_cf, *])
theorem is_number_ok (h : HasF P) (n : Nat) (S : Store) (i lo hi : Int) : cfn P (n + 1) "is_number" [.int i, .int lo, .int hi] S = .ok (.bl (decide (lo ≤ i ∧ i ≤ hi))) S := by
  rw [cfn_succ, h.is_number]
  apply R.eq_of_sat
  unfold G21.f_is_number G21.b_is_number
  walk_at "mw"
  split <;> omega
theorem is_number_str (h : HasF P) (n : Nat) (S : Store) (s : List Nat) (lo hi : Int) : cfn P (n + 1) "is_number" [.str s, .int lo, .int hi] S = .ok (.bl false) S := by
  rw [cfn_succ, h.is_number]
  apply R.eq_of_sat
  unfold G21.f_is_number G21.b_is_number
  walk_at "mw"
theorem is_cell_ok (h : HasF P) (n : Nat) (S : Store) (c : Nat) (hc : 97 ≤ c ∧ c ≤ 122) : cfn P (n + 1) "is_cell" [.str [c]] S = .ok (.bl true) S := by
  rw [cfn_succ, h.is_cell]
  apply R.eq_of_sat
  unfold G21.f_is_cell G21.b_is_cell
  have hz : sizeOk 1 = true := sizeOk_of (by omega)
  walk_at "mw"
  exact ⟨hz, by omega⟩
theorem allBools_true {α : Type} (xs : List α) : allBools (xs.map fun _ => D.bl true) = some (xs.map fun _ => true) := by
  induction xs with
  | nil => rfl
  | cons x xs ih => simp [allBools, ih]
theorem all_true {α : Type} (xs : List α) : (xs.map fun _ => true).all id = true := by simp
theorem is_text_ok (h : HasF P) (n : Nat) (S : Store) (s : List Nat) (hl : s.length ≤ 200) (hs : ∀ c ∈ s, 32 ≤ c ∧ c ≤ 126 ∧ c ≠ 34) : cfn P (n + 1) "is_text" [.str s] S = .ok (.bl true) S := by
  rw [cfn_succ, h.is_text]
  apply R.eq_of_sat
  unfold G21.f_is_text G21.b_is_text
  have hz : sizeOk s.length = true := sizeOk_of (by omega)
  walk_at "mw"
  refine ⟨hz, by omega, ?_⟩
  rw [lc_map (fun _ => .bl true) (by simp; omega) (fun d hd => ?_)]
  · rw [sat_ok, List.nil_append, allBools_true]
    exact ⟨by simp, rfl⟩
  · obtain ⟨c, hc, rfl⟩ := List.mem_map.mp hd
    obtain ⟨h1, h2, h3⟩ := hs c hc
    refine ⟨_, rfl, rfl, ?_⟩
    apply R.eq_of_sat
    walk_at "mw"
    refine ⟨?_, ?_, h3⟩ <;> (rw [List.cons_le_cons_iff]; simp; omega)
theorem is_name_ok (h : HasF P) (n : Nat) (S : Store) (s : List Nat) (hl : 1 ≤ s.length ∧ s.length ≤ 6) (hs : ∀ c ∈ s, 97 ≤ c ∧ c ≤ 122) : cfn P (n + 1) "is_name" [.str s] S = .ok (.bl true) S := by
  rw [cfn_succ, h.is_name]
  apply R.eq_of_sat
  unfold G21.f_is_name G21.b_is_name
  have hz : sizeOk s.length = true := sizeOk_of (by omega)
  walk_at "mw"
  refine ⟨hz, by omega, by omega, ?_⟩
  rw [lc_map (fun _ => .bl true) (by simp; omega) (fun d hd => ?_)]
  · rw [sat_ok, List.nil_append, allBools_true]
    exact ⟨by simp, rfl⟩
  · obtain ⟨c, hc, rfl⟩ := List.mem_map.mp hd
    have h1 := hs c hc
    refine ⟨_, rfl, rfl, ?_⟩
    apply R.eq_of_sat
    walk_at "mw"
    omega
/-! ### parts -/
inductive W where
  | w_none | w_pos | w_is | w_at | w_not | w_again | w_say | w_long | w_tab | w_find | w_many | w_match | w_every | w_then | w_while | w_scan | w_to | w_or | w_and | w_plus | w_less | w_times | w_join | w_below | w_same | w_unlike | w_set | w_try | w_most | w_call | w_if
  deriving DecidableEq
def W.s : W → List Nat
  | .w_none => [110, 111, 110, 101]
  | .w_pos => [112, 111, 115]
  | .w_is => [105, 115]
  | .w_at => [97, 116]
  | .w_not => [110, 111, 116]
  | .w_again => [97, 103, 97, 105, 110]
  | .w_say => [115, 97, 121]
  | .w_long => [108, 111, 110, 103]
  | .w_tab => [116, 97, 98]
  | .w_find => [102, 105, 110, 100]
  | .w_many => [109, 97, 110, 121]
  | .w_match => [109, 97, 116, 99, 104]
  | .w_every => [101, 118, 101, 114, 121]
  | .w_then => [116, 104, 101, 110]
  | .w_while => [119, 104, 105, 108, 101]
  | .w_scan => [115, 99, 97, 110]
  | .w_to => [116, 111]
  | .w_or => [111, 114]
  | .w_and => [97, 110, 100]
  | .w_plus => [112, 108, 117, 115]
  | .w_less => [108, 101, 115, 115]
  | .w_times => [116, 105, 109, 101, 115]
  | .w_join => [106, 111, 105, 110]
  | .w_below => [98, 101, 108, 111, 119]
  | .w_same => [115, 97, 109, 101]
  | .w_unlike => [117, 110, 108, 105, 107, 101]
  | .w_set => [115, 101, 116]
  | .w_try => [116, 114, 121]
  | .w_most => [109, 111, 115, 116]
  | .w_call => [99, 97, 108, 108]
  | .w_if => [105, 102]
/-- how many parts within, of the words without a head -/
def W.ni : W → Nat
  | .w_none => 0
  | .w_pos => 0
  | .w_not => 1
  | .w_again => 1
  | .w_say => 1
  | .w_long => 1
  | .w_tab => 1
  | .w_find => 1
  | .w_many => 1
  | .w_match => 1
  | .w_every => 2
  | .w_then => 2
  | .w_while => 2
  | .w_scan => 2
  | .w_to => 2
  | .w_or => 2
  | .w_and => 2
  | .w_plus => 2
  | .w_less => 2
  | .w_times => 2
  | .w_join => 2
  | .w_below => 2
  | .w_same => 2
  | .w_unlike => 2
  | .w_if => 3
  | _ => 0

inductive Pt where
  | mk (w : W) (hd : List D) (inner : List Pt)
mutual
def Pt.d : Pt → D
  | .mk w hd inner => .tup (.str w.s :: (hd ++ Pt.ds inner))
def Pt.ds : List Pt → List D
  | [] => []
  | p :: ps => p.d :: Pt.ds ps
end
theorem ds_len : ∀ ps : List Pt, (Pt.ds ps).length = ps.length
  | [] => rfl
  | _ :: ps => congrArg Nat.succ (ds_len ps)
def isTx (s : List Nat) : Prop := s.length ≤ 200 ∧ ∀ c ∈ s, 32 ≤ c ∧ c ≤ 126 ∧ c ≠ 34
def isNm (s : List Nat) : Prop := (1 ≤ s.length ∧ s.length ≤ 6) ∧ ∀ c ∈ s, 97 ≤ c ∧ c ≤ 122
def isWo (d : D) : Prop := (∃ s, d = .str s ∧ isTx s) ∨ ∃ i : Int, d = .int i ∧ -1000000000000 ≤ i ∧ i ≤ 1000000000000
/-- a part's own row stands well: its head, how many parts within -/
def hdOk (kvs : List (DK × D)) (w : W) (hd : List D) (k : Nat) : Prop :=
  match w with
  | .w_is => k = 0 ∧ ∃ x, hd = [x] ∧ isWo x
  | .w_at => k = 0 ∧ ∃ c : Nat, hd = [.str [c]] ∧ 97 ≤ c ∧ c ≤ 122
  | .w_set => k = 1 ∧ ∃ c : Nat, hd = [.str [c]] ∧ 97 ≤ c ∧ c ≤ 122
  | .w_try => k = 1 ∧ ∃ c : Nat, hd = [.str [c]] ∧ 97 ≤ c ∧ c ≤ 122
  | .w_most => k = 1 ∧ ∃ i : Int, hd = [.int i] ∧ 0 ≤ i ∧ i ≤ 9
  | .w_call => ∃ s, hd = [.str s] ∧ isNm s ∧ dGet kvs (.inr s) = some (.int k)
  | w => hd = [] ∧ k = w.ni
theorem is_worth_ok (h : HasF P) (n : Nat) (S : Store) (d : D) (hw : isWo d) : cfn P (n + 2) "is_worth" [d] S = .ok (.bl true) S := by
  rw [cfn_succ, h.is_worth]
  apply R.eq_of_sat
  unfold G21.f_is_worth G21.b_is_worth
  rcases hw with ⟨s, rfl, h1, h2⟩ | ⟨i, rfl, h1, h2⟩
  · walk_at "mw"
    show (R.sat (cfn P (n + 1) _ _ _) _)
    rw [is_number_str h]
    walk_at "mw"
    show (R.sat (cfn P (n + 1) _ _ _) _)
    rw [is_text_ok h n _ s h1 h2]
    exact ⟨rfl, rfl⟩
  · walk_at "mw"
    show (R.sat (cfn P (n + 1) _ _ _) _)
    rw [is_number_ok h]
    walk_at "mw"
    omega
theorem get_last {o : MO} {S : Store} : (S ++ [o])[S.length]? = some o := by simp
theorem set_last {o o' : MO} {S : Store} : (S ++ [o]).set S.length o' = S ++ [o'] := by simp
theorem upd_last {S : Store} {kvs more : List (DK × D)} : mtdR .update (.ref S.length) [.dct more] (S ++ [.dct kvs]) = if decide (kvs.length + more.length < 1000) then .ok .non (S ++ [.dct (dMerge kvs more)]) else .bad := by
  simp [mtdR]
theorem get2_last {S : Store} {kvs : List (DK × D)} {k : List Nat} {d : D} : mtdR .get (.ref S.length) [.str k, d] (S ++ [.dct kvs]) = .ok ((dGet kvs (.inr k)).getD d) (S ++ [.dct kvs]) := by
  simp [mtdR, dctOf, keyOf]
theorem pre_upd {S : Store} {kvs : List (DK × D)} : mtdPre .update (.ref S.length) (S ++ [.dct kvs]) = true := by simp [mtdPre, dctOf]
theorem pre_get {S : Store} {kvs : List (DK × D)} : mtdPre .get (.ref S.length) (S ++ [.dct kvs]) = true := by simp [mtdPre, dctOf]
/-- a dict made of texts that all get one thing -/
def cd (v : D) (ks : List D) : List (DK × D) := ks.foldl (fun acc d => match d with
  | .str s => dPut acc (.inr s) v
  | _ => acc) []
theorem dPut_len (kvs : List (DK × D)) (k : DK) (v : D) : (dPut kvs k v).length ≤ kvs.length + 1 := by
  unfold dPut
  split <;> simp
theorem dc_const {k : LEnv → Store → R DK} {f : LEnv → Store → R D} {tg : List Nat} {tt : Bool} {l : LEnv} {S : Store} (v : D) : ∀ {ds : List D} {acc : List (DK × D)}, acc.length + ds.length ≤ 1000000 →
    (∀ d ∈ ds, ∃ s l1, d = .str s ∧ bindT tg tt d l = some l1 ∧ k l1 S = .ok (.inr s) S ∧ f l1 S = .ok v S) → dcLoop k f tg tt l ds acc S = .ok (ds.foldl (fun acc d => match d with
  | .str s => dPut acc (.inr s) v
  | _ => acc) acc) S
  | [], acc, _, _ => by rw [dcLoop]; rfl
  | d :: ds, acc, hl, h => by
    obtain ⟨s, l1, rfl, h1, h2, h3⟩ := h d List.mem_cons_self
    have hp := dPut_len acc (.inr s) v
    rw [dcLoop, h1]
    dsimp only
    rw [h2, bind_ok, h3, bind_ok]
    have hz : acc.length < PySem.sizeLine := by
      rw [PySem.sizeLine_eq]
      simp at hl
      omega
    rw [if_pos (decide_eq_true hz), dc_const v (by simp at hl; omega) fun d hd => h d (List.mem_cons_of_mem _ hd)]
    rfl
def tabF : List (DK × D) := dMerge (dMerge (dMerge [(.inr [105, 102], .int 3)] (cd (.int 0) [.str W.w_none.s, .str W.w_pos.s])) (cd (.int 1) ([W.w_not, .w_again, .w_say, .w_long, .w_tab, .w_find, .w_many, .w_match].map fun w => .str w.s)))
  (cd (.int 2) ([W.w_to, .w_or, .w_and, .w_plus, .w_less, .w_times, .w_join, .w_below, .w_same, .w_unlike, .w_every, .w_then, .w_while, .w_scan].map fun w => .str w.s))
/-- the part behind the last question -/
def tailF : Sms := match G21.b_is_form with
  | .cons _ (.cons _ (.cons _ (.cons _ (.cons _ (.cons _ (.cons _ t)))))) => t
  | _ => .nil
theorem dc_str {S : Store} {a b c d e : Option D} {v : D} {ds : List D} (hl : ds.length ≤ 1000) (h : ∀ d ∈ ds, ∃ s, d = .str s) :
    dcLoop (fun l1 S2 => ((match l1[5]? with
      | some (some d) => R.ok d S2
      | x => R.bad).bind keyR).nox) (fun l1 S2 => R.ok v S2) [5] false [a, b, c, d, e, none] ds [] S = .ok (cd v ds) S := by
  rw [dc_const v (by simp; omega) fun d hd => ?_]
  · rfl
  · obtain ⟨s, rfl⟩ := h d hd
    exact ⟨s, _, rfl, rfl, rfl, rfl⟩
theorem b_is_form_eq : G21.b_is_form = (match G21.b_is_form with
  | .cons a (.cons b (.cons c (.cons d (.cons e (.cons f (.cons g _)))))) => .cons a (.cons b (.cons c (.cons d (.cons e (.cons f (.cons g tailF))))))
  | x => x) := rfl
theorem tailF_ok (g : Cfg) (S : Store) (p q : D) (w : List Nat) (rest : List D) (k : Int) (hk : dGet tabF (.inr w) = some (.int k)) :
    (exs g tailF [some p, some q, some (.str w), some (.lst rest), none, none] S).sat { rt := fun d S' => d = .bl (decide (k = rest.length)) ∧ ∃ more, S' = S ++ more } := by
  unfold tailF G21.b_is_form
  dsimp only
  walk_at "mw"
  refine ⟨pre_upd, ?_⟩
  erw [dc_str (by decide) (by simp)]
  rw [sat_ok, upd_last, if_pos (by decide), sat_ok]
  refine ⟨pre_upd, ?_⟩
  erw [dc_str (by decide) (by simp)]
  rw [sat_ok, upd_last, if_pos (by decide), sat_ok]
  refine ⟨pre_upd, ?_⟩
  erw [dc_str (by decide) (by simp)]
  rw [sat_ok, upd_last, if_pos (by decide), sat_ok]
  refine ⟨pre_get, ?_⟩
  rw [get2_last]
  have e : dGet tabF (.inr w) = some (.int k) := hk
  unfold tabF at e
  rw [sat_ok]
  show R.sat (tellR (eqR _ ((dGet _ (.inr w)).getD _) _) _) _
  have e' : (dGet (dMerge (dMerge (dMerge (dMerge [] [(Sum.inr [105, 102], D.int 3)]) (cd (D.int 0) [D.str [110, 111, 110, 101], D.str [112, 111, 115]]))
        (cd (D.int 1) [D.str [110, 111, 116], D.str [97, 103, 97, 105, 110], D.str [115, 97, 121], D.str [108, 111, 110, 103], D.str [116, 97, 98], D.str [102, 105, 110, 100], D.str [109, 97, 110, 121], D.str [109, 97, 116, 99, 104]]))
        (cd (D.int 2) [D.str [116, 111], D.str [111, 114], D.str [97, 110, 100], D.str [112, 108, 117, 115], D.str [108, 101, 115, 115], D.str [116, 105, 109, 101, 115], D.str [106, 111, 105, 110], D.str [98, 101, 108, 111, 119], D.str [115, 97, 109, 101], D.str [117, 110, 108, 105, 107, 101], D.str [101, 118, 101, 114, 121], D.str [116, 104, 101, 110], D.str [119, 104, 105, 108, 101], D.str [115, 99, 97, 110]])) (.inr w)) = some (.int k) := e
  rw [e']
  show R.sat (tellR (eqR _ (.int k) _) _) _
  rw [eq_ii, tell_some, sat_ok]
  exact ⟨rfl, _, rfl⟩
def W.plain : W → Bool
  | .w_is => false | .w_at => false | .w_set => false | .w_try => false | .w_most => false | .w_call => false
  | _ => true
theorem tab_ok : ∀ w : W, w.plain = true → dGet tabF (.inr w.s) = some (.int w.ni) := by
  intro w hw
  cases w <;> first | rfl | (exact Bool.noConfusion (show false = true from hw))
theorem plain_ne : ∀ w : W, w.plain = true → w.s ≠ [105, 115] ∧ w.s ≠ [97, 116] ∧ ([115, 101, 116] = w.s → False) ∧ ([116, 114, 121] = w.s → False) ∧ w.s ≠ [109, 111, 115, 116] ∧ w.s ≠ [99, 97, 108, 108] := by
  intro w hw
  cases w <;> first | (exact Bool.noConfusion (show false = true from hw)) | decide
theorem hdOk_plain {kvs : List (DK × D)} {w : W} {hd : List D} {k : Nat} (h : hdOk kvs w hd k) (hw : w.plain = true) : hd = [] ∧ k = w.ni := by
  cases w <;> first | (exact Bool.noConfusion (show false = true from hw)) | exact h
/-- a word's own row -/
theorem is_form_ok (h : HasF P) (hf : P.fns.lookup "is_form" = some G21.f_is_form) (n : Nat) (S : Store) (q : D) (kvs : List (DK × D)) (hq : dctOf S q = some kvs) (w : W) (hd : List D) (ps : List Pt) (ok : hdOk kvs w hd ps.length) (hl : ps.length ≤ 100) :
    (cfn P (n + 3) "is_form" [(Pt.mk w hd ps).d, q] S).sat fun d S' => d = .bl true ∧ ∃ more, S' = S ++ more := by
  rw [cfn_succ, hf]
  have hz := ds_len ps
  have s0 : sizeOk 0 = true := sizeOk_of (by omega)
  have s1 : sizeOk 1 = true := sizeOk_of (by omega)
  by_cases hp : w.plain = true
  · obtain ⟨rfl, h0⟩ := hdOk_plain ok hp
    obtain ⟨n1, n2, n3, n4, n5, n6⟩ := plain_ne w hp
    have q2 := fun p => tailF_ok (P.cfg (n + 2)) S p q w.s (Pt.ds ps) _ (tab_ok w hp)
    have h16 : ps.length < 16000 := by omega
    unfold G21.f_is_form
    rw [b_is_form_eq]
    unfold G21.b_is_form Pt.d
    dsimp only
    clear ok hq hf h hl
    walk_at "mw*"
    refine ⟨by omega, ?_⟩
    rw [if_neg (fun z => Or.elim z n3 n4)]
    refine (q2 _).mono (fun _ _ h => h) (fun d S' z => ?_) (fun _ _ h => h) (fun _ _ h => h)
    obtain ⟨z1, z2⟩ := z
    exact ⟨by rw [z1, hz, h0]; simp, z2⟩
  cases w <;> unfold hdOk at ok <;> dsimp only at ok
  case w_is =>
    obtain ⟨h0, x, rfl, hx⟩ := ok
    obtain rfl := List.length_eq_zero_iff.mp h0
    have q1 := is_worth_ok h n S x hx
    unfold G21.f_is_form G21.b_is_form Pt.d Pt.ds W.s
    walk_at "mw"
    rw [q1]
    exact ⟨s0, rfl, [], by simp⟩
  case w_at =>
    obtain ⟨h0, c, rfl, hx⟩ := ok
    obtain rfl := List.length_eq_zero_iff.mp h0
    have q1 := is_cell_ok h (n + 1) S c hx
    unfold G21.f_is_form G21.b_is_form Pt.d Pt.ds W.s
    walk_at "mw"
    rw [q1]
    exact ⟨s0, rfl, [], by simp⟩
  case w_set =>
    obtain ⟨h0, c, rfl, hx⟩ := ok
    obtain ⟨p, rfl⟩ := List.length_eq_one_iff.mp h0
    have q1 := is_cell_ok h (n + 1) S c hx
    unfold G21.f_is_form G21.b_is_form Pt.d Pt.ds Pt.ds W.s
    walk_at "mw"
    rw [q1]
    exact ⟨s0, rfl, [], by simp⟩
  case w_try =>
    obtain ⟨h0, c, rfl, hx⟩ := ok
    obtain ⟨p, rfl⟩ := List.length_eq_one_iff.mp h0
    have q1 := is_cell_ok h (n + 1) S c hx
    unfold G21.f_is_form G21.b_is_form Pt.d Pt.ds Pt.ds W.s
    walk_at "mw"
    rw [q1]
    exact ⟨s0, rfl, [], by simp⟩
  case w_most =>
    obtain ⟨h0, c, rfl, hx⟩ := ok
    obtain ⟨p, rfl⟩ := List.length_eq_one_iff.mp h0
    have q1 := is_number_ok h (n + 1) S c 0 9
    unfold G21.f_is_form G21.b_is_form Pt.d Pt.ds Pt.ds W.s
    walk_at "mw"
    erw [q1]
    exact ⟨s0, by rw [decide_eq_true hx], [], by simp⟩
  case w_call =>
    obtain ⟨z, rfl, hz1, hz2⟩ := ok
    have q1 := is_name_ok h (n + 1) S z hz1.1 hz1.2
    have h16 : ps.length + 1 < 16000 := by omega
    have hpre : mtdPre .get q S = true := by unfold mtdPre; rw [hq]; rfl
    have hg : mtdR .get q [.str z, .int (-1)] S = .ok (.int ps.length) S := by
      unfold mtdR
      dsimp only
      rw [hq]
      show R.ok ((dGet kvs (.inr z)).getD _) S = _
      rw [hz2]
      rfl
    unfold G21.f_is_form G21.b_is_form Pt.d W.s
    walk_at "mw"
    rw [hz]
    refine ⟨s0, h16, s0, ?_⟩
    rw [q1, sat_ok, asB_bl, sat_ok]
    refine ⟨rfl, hpre, ?_⟩
    rw [hg, sat_ok, eq_ii, tell_some, sat_ok]
    exact ⟨by simp, [], by simp⟩
  all_goals exact absurd rfl hp
end Q
/-! Q2: the parts within, a whole program looked through. -/
namespace Q
open Mw
variable {P : Pg}
theorem cut1 {α : Type} {a : α} {l : List α} : cut (a :: l) (some 1) none = l := by
  unfold cut HT.sIx
  simp
theorem cut2 {α : Type} {a b : α} {l : List α} : cut (a :: b :: l) (some 2) none = l := by
  unfold cut HT.sIx
  simp
theorem slc_t {m : Bool} {ds : List D} {i j : Option Int} {S : Store} : slcR m (.tup ds) i j S = .ok (.tup (cut ds i j)) S := rfl
theorem list_t {ds : List D} {S : Store} : bltR .list false [.tup ds] S = .ok (.lst ds) S := rfl
local macro_rules | `(tactic| walk_at "mw") => `(tactic| simp [Mw.run, Mw.exs, Mw.ex, Mw.ev, Mw.evs, Mw.evAnd, Mw.evOr, Mw.Xp.isNop, Mw.sat_out, Mw.sat_seq, Mw.sat_then, Mw.sat_bind, Mw.sat_nox, Mw.sat_ok, Mw.sat_bad, Mw.sat_rt, Mw.sat_nx, Mw.sat_bk, Mw.sat_ct, Mw.satR_ite, Mw.sat_ite, Mw.bind_ok, Mw.nox_ok, Mw.then_ok, Mw.seq_nx, Mw.seq_rt, Mw.out_rt, Mw.out_nx, Mw.asB_bl, Mw.asI_int, Mw.tell_some, Mw.cmp_Eq, Mw.cmp_Ne, Mw.cmp_In, Mw.cmp_NotIn, Mw.cmp_Lt_i, Mw.cmp_Le_i, Mw.cmp_Gt_i, Mw.cmp_Ge_i, Mw.cmp_Lt_s, Mw.cmp_Le_s, Mw.cmp_Is, Mw.cmp_IsNot, Mw.eq_ii, Mw.eq_ss, Mw.eq_bb, Mw.eq_in, Mw.eq_ni, Mw.eq_nn, Mw.eq_sn, Mw.eq_ns, Mw.eq_is, Mw.eq_si, Mw.in_tup, Mw.in_lst, Mw.in_str, Mw.isi_1, Mw.isi_2, Mw.ty_int, Mw.ty_str, Mw.ty_bl, Mw.ty_tup, Mw.ty_lst, Mw.ty_non, Mw.below, Mw.add_i, Mw.add_s, Mw.add_t, Mw.add_l, Mw.sub_i, Mw.mul_i, Mw.mul_s, Mw.div_i, Mw.mod_i, Mw.pow_i, Mw.idx_t, Mw.idx_l, Mw.idx_s, Mw.len_s, Mw.len_t, Mw.len_l, Mw.all_l, Mw.mkL_f, Mw.mkL_t, Mw.mkD_f, Mw.mkD_t, Mw.items_t, Mw.items_l, Mw.items_s, Mw.items_scr, Mw.flatD, Mw.deq_ss, Mw.deq_ii, Mw.eq_t0, Mw.eq_l0, Mw.eq_l00, Mw.at0, Mw.at1, Mw.wipeL, Mw.bindT, Mw.setAll, Mw.cfg_cf, Q.slc_t, Q.list_t, Q.cut1, Q.cut2])
local macro_rules | `(tactic| walk_at "mw*") => `(tactic| simp [Mw.run, Mw.exs, Mw.ex, Mw.ev, Mw.evs, Mw.evAnd, Mw.evOr, Mw.Xp.isNop, Mw.sat_out, Mw.sat_seq, Mw.sat_then, Mw.sat_bind, Mw.sat_nox, Mw.sat_ok, Mw.sat_bad, Mw.sat_rt, Mw.sat_nx, Mw.sat_bk, Mw.sat_ct, Mw.satR_ite, Mw.sat_ite, Mw.bind_ok, Mw.nox_ok, Mw.then_ok, Mw.seq_nx, Mw.seq_rt, Mw.out_rt, Mw.out_nx, Mw.asB_bl, Mw.asI_int, Mw.tell_some, Mw.cmp_Eq, Mw.cmp_Ne, Mw.cmp_In, Mw.cmp_NotIn, Mw.cmp_Lt_i, Mw.cmp_Le_i, Mw.cmp_Gt_i, Mw.cmp_Ge_i, Mw.cmp_Lt_s, Mw.cmp_Le_s, Mw.cmp_Is, Mw.cmp_IsNot, Mw.eq_ii, Mw.eq_ss, Mw.eq_bb, Mw.eq_in, Mw.eq_ni, Mw.eq_nn, Mw.eq_sn, Mw.eq_ns, Mw.eq_is, Mw.eq_si, Mw.in_tup, Mw.in_lst, Mw.in_str, Mw.isi_1, Mw.isi_2, Mw.ty_int, Mw.ty_str, Mw.ty_bl, Mw.ty_tup, Mw.ty_lst, Mw.ty_non, Mw.below, Mw.add_i, Mw.add_s, Mw.add_t, Mw.add_l, Mw.sub_i, Mw.mul_i, Mw.mul_s, Mw.div_i, Mw.mod_i, Mw.pow_i, Mw.idx_t, Mw.idx_l, Mw.idx_s, Mw.len_s, Mw.len_t, Mw.len_l, Mw.all_l, Mw.mkL_f, Mw.mkL_t, Mw.mkD_f, Mw.mkD_t, Mw.items_t, Mw.items_l, Mw.items_s, Mw.items_scr, Mw.flatD, Mw.deq_ss, Mw.deq_ii, Mw.eq_t0, Mw.eq_l0, Mw.eq_l00, Mw.at0, Mw.at1, Mw.wipeL, Mw.bindT, Mw.setAll, Mw.cfg_cf, Q.slc_t, Q.list_t, Q.cut1, Q.cut2, *])

/-- where the parts within begin -/
def W.two : W → Bool
  | .w_set => true | .w_try => true | .w_most => true | .w_call => true
  | _ => false
theorem inner_parts_ok (hf : P.fns.lookup "inner_parts" = some G21.f_inner_parts) (n : Nat) (S : Store) (kvs : List (DK × D)) (w : W) (hd : List D) (ps : List Pt) (ok : hdOk kvs w hd ps.length) :
    cfn P (n + 1) "inner_parts" [(Pt.mk w hd ps).d] S = .ok (.lst (Pt.ds ps)) S := by
  rw [cfn_succ, hf]
  apply R.eq_of_sat
  unfold G21.f_inner_parts G21.b_inner_parts
  have s2 : sizeOk 2 = true := sizeOk_of (by omega)
  by_cases hp : w.plain = true
  · obtain ⟨rfl, h0⟩ := hdOk_plain ok hp
    obtain ⟨n1, n2, n3, n4, n5, n6⟩ := plain_ne w hp
    unfold Pt.d
    walk_at "mw*"
    split
    · rename_i hw
      have : w.ni = 0 := by
        rcases hw with hw | hw <;> (cases w <;> first | rfl | (exact absurd hw (by decide)))
      rw [this] at h0
      obtain rfl := List.length_eq_zero_iff.mp h0
      exact ⟨sizeOk_of (by omega), rfl⟩
    · rw [if_neg (fun z => z.elim (fun y => n1 y.symm) fun y => n2 y.symm), if_neg (fun z => z.elim n3 n4)]
      exact fun z => (z.elim (fun y => n5 y.symm) fun y => n6 y.symm).elim
  cases w <;> unfold hdOk at ok <;> dsimp only at ok
  case w_is =>
    obtain ⟨h0, x, rfl, hx⟩ := ok
    obtain rfl := List.length_eq_zero_iff.mp h0
    unfold Pt.d Pt.ds W.s
    walk_at "mw*"
    exact sizeOk_of (by omega)
  case w_at =>
    obtain ⟨h0, x, rfl, hx⟩ := ok
    obtain rfl := List.length_eq_zero_iff.mp h0
    unfold Pt.d Pt.ds W.s
    walk_at "mw*"
    exact sizeOk_of (by omega)
  case w_call =>
    obtain ⟨z, rfl, hz⟩ := ok
    unfold Pt.d W.s
    walk_at "mw*"
  case w_set =>
    obtain ⟨h0, x, rfl, hx⟩ := ok
    unfold Pt.d W.s
    walk_at "mw*"
  case w_try =>
    obtain ⟨h0, x, rfl, hx⟩ := ok
    unfold Pt.d W.s
    walk_at "mw*"
  case w_most =>
    obtain ⟨h0, x, rfl, hx⟩ := ok
    unfold Pt.d W.s
    walk_at "mw*"
  all_goals exact absurd rfl hp
end Q
/-! Ru: the evaluator's equations as rules for simp; rules for the store. -/
namespace Mw
open PySem
@[simp] theorem ev_0 {g : Cfg} {z1 : _} {z2 : _} : ev g .nop z1 z2 = (.bad) := by (rw [ev]; try rfl)
@[simp] theorem ev_1 {g : Cfg} {i : _} {l : _} {S : _} : ev g (.var i) l S = (match l[i]? with
    | some (some d) => .ok d S
    | _ => .bad) := by (rw [ev]; try rfl)
@[simp] theorem ev_2 {g : Cfg} {d : _} {z3 : _} {S : _} : ev g (.con d) z3 S = (.ok d S) := by (rw [ev]; try rfl)
@[simp] theorem ev_3 {g : Cfg} {z4 : _} {d : _} {z5 : _} {S : _} : ev g (.glb z4 d) z5 S = (.ok d S) := by (rw [ev]; try rfl)
@[simp] theorem ev_4 {g : Cfg} {es : _} {l : _} {S : _} : ev g (.tup es) l S = ((evs g es l S).bind fun ds S1 => if sizeOk ds.length then .ok (.tup ds) S1 else .bad) := by (rw [ev]; try rfl)
@[simp] theorem ev_5 {g : Cfg} {m : _} {es : _} {l : _} {S : _} : ev g (.lst m es) l S = ((evs g es l S).bind fun ds S1 => if sizeOk ds.length then mkL m ds S1 else .bad) := by (rw [ev]; try rfl)
@[simp] theorem ev_6 {g : Cfg} {m : _} {ks : _} {es : _} {l : _} {S : _} : ev g (.dic m ks es) l S = ((evs g es l S).nox.bind fun ds S1 => if decide (ds.length = ks.length ∧ ks.length ≤ 15) then mkD m (dMerge [] (ks.zip ds)) S1 else .bad) := by (rw [ev]; try rfl)
@[simp] theorem ev_7 {g : Cfg} {m : _} {op : _} {a : _} {b : _} {l : _} {S : _} : ev g (.bin m op a b) l S = ((ev g a l S).bind fun x S1 => (ev g b l S1).bind fun y S2 => binR m op x y S2) := by (rw [ev]; try rfl)
@[simp] theorem ev_8 {g : Cfg} {a : _} {l : _} {S : _} : ev g (.neg a) l S = ((ev g a l S).bind fun x S1 => match x with
    | .int i => .ok (.int (-i)) S1
    | _ => .bad) := by (rw [ev]; try rfl)
@[simp] theorem ev_9 {g : Cfg} {op : _} {a : _} {b : _} {l : _} {S : _} : ev g (.cmp op a b) l S = ((ev g a l S).bind fun x S1 => (ev g b l S1).bind fun y S2 => cmpR op x y S2) := by (rw [ev]; try rfl)
@[simp] theorem ev_10 {g : Cfg} {op : _} {op' : _} {a : _} {b : _} {c : _} {l : _} {S : _} : ev g (.chn op op' a b c) l S = ((ev g a l S).bind fun x S1 => (ev g b l S1).bind fun y S2 => ((cmpR op x y S2).bind asB).bind fun z S3 =>
    if z then (ev g c l S3).bind fun w S4 => cmpR op' y w S4 else .ok (.bl false) S3) := by (rw [ev]; try rfl)
@[simp] theorem ev_11 {g : Cfg} {es : _} {l : _} {S : _} : ev g (.and es) l S = (evAnd g es l S) := by (rw [ev]; try rfl)
@[simp] theorem ev_12 {g : Cfg} {es : _} {l : _} {S : _} : ev g (.or es) l S = (evOr g es l S) := by (rw [ev]; try rfl)
@[simp] theorem ev_13 {g : Cfg} {a : _} {l : _} {S : _} : ev g (.not a) l S = (((ev g a l S).bind asB).bind fun b S1 => .ok (.bl (!b)) S1) := by (rw [ev]; try rfl)
@[simp] theorem ev_14 {g : Cfg} {c : _} {a : _} {b : _} {l : _} {S : _} : ev g (.ite c a b) l S = (((ev g c l S).bind asB).bind fun k S1 => if k then ev g a l S1 else ev g b l S1) := by (rw [ev]; try rfl)
@[simp] theorem ev_15 {g : Cfg} {a : _} {b : _} {l : _} {S : _} : ev g (.idx a b) l S = ((ev g a l S).bind fun x S1 => (ev g b l S1).bind fun y S2 => idxR x y S2) := by (rw [ev]; try rfl)
@[simp] theorem ev_16 {g : Cfg} {m : _} {a : _} {lo : _} {hi : _} {l : _} {S : _} : ev g (.slc m a lo hi) l S = ((ev g a l S).bind fun x S1 => (if lo.isNop then .ok none S1 else (ev g lo l S1).bind asI).bind fun y S2 => (if hi.isNop then .ok none S2 else (ev g hi l S2).bind asI).bind fun z S3 => slcR m x y z S3) := by (rw [ev]; try rfl)
@[simp] theorem ev_17 {g : Cfg} {f : _} {dfl : _} {es : _} {l : _} {S : _} : ev g (.call f dfl es) l S = ((evs g es l S).bind fun ds S1 => g.cf f (ds ++ dfl) S1) := by (rw [ev]; try rfl)
@[simp] theorem ev_18 {g : Cfg} {f : _} {m : _} {es : _} {l : _} {S : _} : ev g (.blt f m es) l S = ((evs g es l S).bind fun ds S1 => bltR f m ds S1) := by (rw [ev]; try rfl)
@[simp] theorem ev_19 {g : Cfg} {a : _} {ts : _} {l : _} {S : _} : ev g (.isi a ts) l S = ((ev g a l S).bind fun x S1 => isiR x ts S1) := by (rw [ev]; try rfl)
@[simp] theorem ev_20 {g : Cfg} {f : _} {o : _} {es : _} {l : _} {S : _} : ev g (.mtd f o es) l S = ((ev g o l S).bind fun x S1 => if mtdPre f x S1 then (evs g es l S1).bind fun ds S2 => mtdR f x ds S2 else .bad) := by (rw [ev]; try rfl)
@[simp] theorem ev_21 {g : Cfg} {f : _} {o : _} {es : _} {l : _} {S : _} : ev g (.umt f o es) l S = ((ev g o l S).bind fun x S1 => match umtQ g f x S1 with
    | some q => (evs g es l S1).bind fun ds S2 => g.cf q (x :: ds) S2
    | none => .bad) := by (rw [ev]; try rfl)
@[simp] theorem ev_22 {g : Cfg} {C : _} {es : _} {l : _} {S : _} : ev g (.mk C es) l S = ((evs g es l S).bind fun ds S1 => g.nw C ds S1) := by (rw [ev]; try rfl)
@[simp] theorem ev_23 {g : Cfg} {o : _} {f : _} {l : _} {S : _} : ev g (.fld o f) l S = ((ev g o l S).bind fun x S1 => fldR x f S1) := by (rw [ev]; try rfl)
@[simp] theorem ev_24 {g : Cfg} {m : _} {tg : _} {tt : _} {it : _} {elt : _} {cnd : _} {l : _} {S : _} : ev g (.lc m tg tt it elt cnd) l S = (((ev g it l S).bind itemsR).bind fun ds S1 =>
    (lcLoop (fun l1 S2 => ((ev g cnd l1 S2).bind asB).nox) (fun l1 S2 => (ev g elt l1 S2).nox) tg tt (wipeL l tg) ds [] S1).bind fun ys S2 => mkL m ys S2) := by (rw [ev]; try rfl)
@[simp] theorem ev_25 {g : Cfg} {m : _} {tg : _} {tt : _} {it : _} {k : _} {v : _} {l : _} {S : _} : ev g (.dc m tg tt it k v) l S = (((ev g it l S).bind itemsR).bind fun ds S1 =>
    (dcLoop (fun l1 S2 => ((ev g k l1 S2).bind keyR).nox) (fun l1 S2 => (ev g v l1 S2).nox) tg tt (wipeL l tg) ds [] S1).bind fun ys S2 => mkD m ys S2) := by (rw [ev]; try rfl)
@[simp] theorem ev_26 {g : Cfg} {a : _} {l : _} {S : _} : ev g (.seq a) l S = (ev g a l S) := by (rw [ev]; try rfl)
@[simp] theorem ev_27 {g : Cfg} {b : _} {l : _} {S : _} : ev g (.rng1 b) l S = ((ev g b l S).bind fun y S2 => match y with
    | .int j => if decide (-(2 ^ 62) ≤ j ∧ j < 2 ^ 62) then .ok (.lst (rngL 0 j)) S2 else .bad
    | _ => .bad) := by (rw [ev]; try rfl)
@[simp] theorem ev_28 {g : Cfg} {a : _} {b : _} {l : _} {S : _} : ev g (.rng a b) l S = ((ev g a l S).bind fun x S1 => (ev g b l S1).bind fun y S2 => match x, y with
    | .int i, .int j => if decide (-(2 ^ 62) ≤ i ∧ i < 2 ^ 62 ∧ -(2 ^ 62) ≤ j ∧ j < 2 ^ 62) then .ok (.lst (rngL i j)) S2 else .bad
    | _, _ => .bad) := by (rw [ev]; try rfl)
@[simp] theorem ev_29 {g : Cfg} {a : _} {l : _} {S : _} : ev g (.enu a) l S = ((ev g a l S).bind fun x S1 => match x with
    | .lst ds => .ok (.lst (enuL ds)) S1
    | .tup ds => .ok (.lst (enuL ds)) S1
    | _ => .bad) := by (rw [ev]; try rfl)
@[simp] theorem evs_0 {g : Cfg} {z6 : _} {S : _} : evs g .nil z6 S = (.ok [] S) := by (rw [evs]; try rfl)
@[simp] theorem evs_1 {g : Cfg} {e : _} {es : _} {l : _} {S : _} : evs g (.cons e es) l S = ((ev g e l S).bind fun x S1 => (evs g es l S1).bind fun xs S2 => .ok (x :: xs) S2) := by (rw [evs]; try rfl)
@[simp] theorem evAnd_0 {g : Cfg} {z7 : _} {z8 : _} : evAnd g .nil z7 z8 = (.bad) := by (rw [evAnd]; try rfl)
@[simp] theorem evAnd_1 {g : Cfg} {e : _} {l : _} {S : _} : evAnd g (.cons e .nil) l S = (ev g e l S) := by (rw [evAnd]; try rfl)
@[simp] theorem evAnd_2 {g : Cfg} {e : _} {f : _} {fs : _} {l : _} {S : _} : evAnd g (.cons e (.cons f fs)) l S = (((ev g e l S).bind asB).bind fun b S1 => if b then evAnd g (.cons f fs) l S1 else .ok (.bl false) S1) := by (rw [evAnd]; try rfl)
@[simp] theorem evOr_0 {g : Cfg} {z9 : _} {z10 : _} : evOr g .nil z9 z10 = (.bad) := by (rw [evOr]; try rfl)
@[simp] theorem evOr_1 {g : Cfg} {e : _} {l : _} {S : _} : evOr g (.cons e .nil) l S = (ev g e l S) := by (rw [evOr]; try rfl)
@[simp] theorem evOr_2 {g : Cfg} {e : _} {f : _} {fs : _} {l : _} {S : _} : evOr g (.cons e (.cons f fs)) l S = (((ev g e l S).bind asB).bind fun b S1 => if b then .ok (.bl true) S1 else evOr g (.cons f fs) l S1) := by (rw [evOr]; try rfl)
@[simp] theorem ex_0 {g : Cfg} {i : _} {e : _} {l : _} {S : _} : ex g (.asg i e) l S = ((ev g e l S).then l fun d S1 => .nx (l.set i (some d)) S1) := by (rw [ex]; try rfl)
@[simp] theorem ex_1 {g : Cfg} {is : _} {e : _} {l : _} {S : _} : ex g (.unp is e) l S = ((ev g e l S).then l fun d S1 => match seqOf S1 d with
    | some ds => match setAll is ds l with
      | some l1 => .nx l1 S1
      | none => .bad
    | none => .bad) := by (rw [ex]; try rfl)
@[simp] theorem ex_2 {g : Cfg} {i : _} {j : _} {e : _} {l : _} {S : _} : ex g (.star i j e) l S = ((ev g e l S).then l fun d S1 => match d with
    | .tup (x :: ds) => if decide (ds.length < 16000) then .nx ((l.set i (some x)).set j (some (.lst ds))) S1 else .bad
    | .lst (x :: ds) => if decide (ds.length < 16000) then .nx ((l.set i (some x)).set j (some (.lst ds))) S1 else .bad
    | _ => .bad) := by (rw [ex]; try rfl)
@[simp] theorem ex_3 {g : Cfg} {o : _} {i : _} {v : _} {l : _} {S : _} : ex g (.sset o i v) l S = ((ev g v l S).then l fun z S1 => (ev g o l S1).then l fun x S2 => (ev g i l S2).then l fun y S3 => (ssetR x y z S3).then l fun _ S4 => .nx l S4) := by (rw [ex]; try rfl)
@[simp] theorem ex_4 {g : Cfg} {o : _} {f : _} {v : _} {l : _} {S : _} : ex g (.fset o f v) l S = ((ev g v l S).then l fun z S1 => (ev g o l S1).then l fun x S2 => (fsetR x f z S2).then l fun _ S3 => .nx l S3) := by (rw [ex]; try rfl)
@[simp] theorem ex_5 {g : Cfg} {i : _} {op : _} {e : _} {l : _} {S : _} : ex g (.aug i op e) l S = (match l[i]? with
    | some (some x) => (ev g e l S).then l fun y S1 => match augR op x y with
      | some z => .nx (l.set i (some z)) S1
      | none => .bad
    | _ => .bad) := by (rw [ex]; try rfl)
@[simp] theorem ex_6 {g : Cfg} {o : _} {f : _} {op : _} {e : _} {l : _} {S : _} : ex g (.faug o f op e) l S = ((ev g o l S).then l fun x S1 => (fldR x f S1).then l fun u S2 => (ev g e l S2).then l fun y S3 => match augR op u y with
      | some z => if clsOf S3 x = clsOf S1 x then (fsetR x f z S3).then l fun _ S4 => .nx l S4 else .bad
      | none => .bad) := by (rw [ex]; try rfl)
@[simp] theorem ex_7 {g : Cfg} {e : _} {l : _} {S : _} : ex g (.exp e) l S = ((ev g e l S).then l fun _ S1 => .nx l S1) := by (rw [ex]; try rfl)
@[simp] theorem ex_8 {g : Cfg} {e : _} {l : _} {S : _} : ex g (.ret e) l S = ((ev g e l S).then l fun d S1 => .rt d S1) := by (rw [ex]; try rfl)
@[simp] theorem ex_9 {g : Cfg} {c : _} {a : _} {b : _} {l : _} {S : _} : ex g (.ite c a b) l S = (((ev g c l S).bind asB).then l fun k S1 => if k then exs g a l S1 else exs g b l S1) := by (rw [ex]; try rfl)
@[simp] theorem ex_10 {g : Cfg} {tg : _} {tt : _} {it : _} {body : _} {l : _} {S : _} : ex g (.fr tg tt it body) l S = (((ev g it l S).bind itemsR).then l fun ds S1 => forLoop (fun l1 S2 => exs g body l1 S2) tg tt ds l S1) := by (rw [ex]; try rfl)
@[simp] theorem ex_11 {g : Cfg} {c : _} {body : _} {l : _} {S : _} : ex g (.whl c body) l S = (whlLoop (fun l1 S2 => (ev g c l1 S2).bind asB) (fun l1 S2 => exs g body l1 S2) g.fuel l S) := by (rw [ex]; try rfl)
@[simp] theorem ex_12 {g : Cfg} {l : _} {S : _} : ex g .pass l S = (.nx l S) := by (rw [ex]; try rfl)
@[simp] theorem ex_13 {g : Cfg} {l : _} {S : _} : ex g .brk l S = (.bk l S) := by (rw [ex]; try rfl)
@[simp] theorem ex_14 {g : Cfg} {l : _} {S : _} : ex g .cnt l S = (.ct l S) := by (rw [ex]; try rfl)
@[simp] theorem ex_15 {g : Cfg} {z11 : _} {z12 : _} {z13 : _} {z14 : _} : ex g (.rse z11 z12) z13 z14 = (.bad) := by (rw [ex]; try rfl)
@[simp] theorem ex_16 {g : Cfg} {C : _} {es : _} {l : _} {S : _} : ex g (.rsX C es) l S = ((evs g es l S).then l fun ds S1 => newX (g.xf C) C ds l S1) := by (rw [ex]; try rfl)
@[simp] theorem ex_17 {g : Cfg} {C : _} {body : _} {suite : _} {l : _} {S : _} : ex g (.tr C body suite) l S = (match exs g body l S with
    | .exc e l1 S1 => match g.sb e.cls C with
      | some true => exs g suite l1 S1
      | some false => .exc e l1 S1
      | none => .bad
    | r => r) := by (rw [ex]; try rfl)
@[simp] theorem exs_0 {g : Cfg} {l : _} {S : _} : exs g .nil l S = (.nx l S) := by (rw [exs]; try rfl)
theorem exs_1 {g : Cfg} {s : _} {ss : _} {l : _} {S : _} : exs g (.cons s ss) l S = ((ex g s l S).seq fun l1 S1 => exs g ss l1 S1) := by (rw [exs]; try rfl)
/-- one statement -/
theorem st {g : Cfg} {s : Sm} {ss : Sms} {l : LEnv} {S : Store} {F : En} (h : (ex g s l S).sat { F with nx := fun l1 S1 => (exs g ss l1 S1).sat F }) : (exs g (.cons s ss) l S).sat F := by rw [exs_1, sat_seq]; exact h
@[simp] theorem newX_0 {C : String} {ds : List D} {l : LEnv} {S : Store} : newX (some none) C ds l S = .exc ⟨C, []⟩ l S := rfl
@[simp] theorem newX_1 {C f : String} {d : D} {l : LEnv} {S : Store} : newX (some (some f)) C [d] l S = if xOk d then .exc ⟨C, [(f, d)]⟩ l S else .bad := rfl
@[simp] theorem cfg_xf (P : Pg) (n : Nat) : (P.cfg n).xf = P.xf := rfl
@[simp] theorem cfg_sb (P : Pg) (n : Nat) : (P.cfg n).sb = P.sb := rfl
theorem st_if {g : Cfg} {c : Xp} {a b : Sms} {l : LEnv} {S : Store} {F : En} (h : (ev g c l S).sat (fun d S1 => ∃ k, d = .bl k ∧ if k then (exs g a l S1).sat F else (exs g b l S1).sat F) (fun e S1 => F.ex e l S1)) : (ex g (.ite c a b) l S).sat F := by
  simp
  refine h.monoE ?_ (fun _ _ h => h)
  rintro _ S1 ⟨k, rfl, hk⟩
  simpa using hk
theorem at_lt {α : Type} {ds : List α} {i : Int} (h0 : 0 ≤ i) (h1 : i < ds.length) : ∃ d, L2.atI ds i = some d ∧ d ∈ ds ∧ ds[i.toNat]? = some d := by
  have hi : i.toNat < ds.length := by omega
  refine ⟨ds[i.toNat], ?_, List.getElem_mem hi, List.getElem?_eq_getElem hi⟩
  unfold L2.atI L2.ixN
  rw [if_pos h0, if_pos h1]
  simp
theorem atI_nat {α : Type} {ds : List α} {i : Nat} : L2.atI ds (i : Int) = ds[i]? := by
  unfold L2.atI L2.ixN
  rw [if_pos (by omega)]
  split
  · simp
  · rw [List.getElem?_eq_none (by omega)]; rfl
@[simp] theorem at2 {γ : Type} {a b c : γ} {l : List γ} : L2.atI (a :: b :: c :: l) 2 = some c := atI_nat (i := 2)
@[simp] theorem at3 {γ : Type} {a b c d : γ} {l : List γ} : L2.atI (a :: b :: c :: d :: l) 3 = some d := atI_nat (i := 3)
theorem ixN_nat {n k : Nat} (h : k < n) : L2.ixN n (k : Int) = some k := by
  unfold L2.ixN
  rw [if_pos (by omega), if_pos (by omega)]
  simp
@[simp] theorem ix40 : L2.ixN 4 0 = some 0 := rfl
@[simp] theorem ix41 : L2.ixN 4 1 = some 1 := rfl
@[simp] theorem ix42 : L2.ixN 4 2 = some 2 := rfl
@[simp] theorem ix43 : L2.ixN 4 3 = some 3 := rfl
@[simp] theorem ix20 : L2.ixN 2 0 = some 0 := rfl
@[simp] theorem ix21 : L2.ixN 2 1 = some 1 := rfl
@[simp] theorem ix10 : L2.ixN 1 0 = some 0 := rfl
section
variable {S : Store} {r : Nat} {ds : List D} {kvs : List (DK × D)}
theorem idx_ref {i : Int} (h : S[r]? = some (.lst ds)) : idxR (.ref r) (.int i) S = match L2.atI ds i with
  | some v => .ok v S
  | none => .bad := by (simp [idxR, dctOf, seqOf, h]; try rfl)
theorem sset_ref {k : Int} {v : D} (h : S[r]? = some (.lst ds)) : ssetR (.ref r) (.int k) v S = match L2.ixN ds.length k with
  | some j => .ok () (S.set r (.lst (ds.set j v)))
  | none => .bad := by (simp [ssetR, h]; try rfl)
theorem dset_ref {k : DK} {kd v : D} (h : S[r]? = some (.dct kvs)) (hk : keyOf kd = some k) (hl : kvs.length < 1000) : ssetR (.ref r) kd v S = .ok () (S.set r (.dct (dPut kvs k v))) := by simp [ssetR, h, hk, hl]
theorem get_dct {k : DK} {kd d : D} (hk : keyOf kd = some k) : mtdR .get (.dct kvs) [kd, d] S = .ok ((dGet kvs k).getD d) S := by simp [mtdR, dctOf, hk]
theorem get_dct1 {k : DK} {kd : D} (hk : keyOf kd = some k) : mtdR .get (.dct kvs) [kd] S = .ok ((dGet kvs k).getD .non) S := by simp [mtdR, dctOf, hk]
@[simp] theorem pre_get_dct : mtdPre .get (.dct kvs) S = true := rfl
@[simp] theorem pre_join {s : List Nat} : mtdPre .join (.str s) S = true := rfl
@[simp] theorem key_str {s : List Nat} : keyOf (.str s) = some (.inr s) := rfl
@[simp] theorem key_int {i : Int} : keyOf (.int i) = some (.inl i) := rfl
@[simp] theorem int_i {m : Bool} {i : Int} : bltR .int m [.int i] S = .ok (.int i) S := rfl
@[simp] theorem int_b {m : Bool} {b : Bool} : bltR .int m [.bl b] S = .ok (.int (if b then 1 else 0)) S := rfl
@[simp] theorem min_i {m : Bool} {i j : Int} : bltR .min m [.int i, .int j] S = .ok (.int (min i j)) S := by
  have : (if j < i then j else i) = min i j := by rw [Int.min_def]; split <;> split <;> omega
  simp [bltR, this]
@[simp] theorem max_i {m : Bool} {i j : Int} : bltR .max m [.int i, .int j] S = .ok (.int (max i j)) S := by
  have : (if j > i then j else i) = max i j := by rw [Int.max_def]; split <;> split <;> omega
  simp [bltR, this]
@[simp] theorem list_l {m : Bool} : bltR .list m [.lst ds] S = mkL m ds S := rfl
@[simp] theorem list_t {m : Bool} : bltR .list m [.tup ds] S = mkL m ds S := rfl
@[simp] theorem tuple_l {m : Bool} : bltR .tuple m [.lst ds] S = .ok (.tup ds) S := rfl
theorem tuple_r {m : Bool} (h : S[r]? = some (.lst ds)) : bltR .tuple m [.ref r] S = .ok (.tup ds) S := by simp [bltR, seqOf, h]
@[simp] theorem tupOfS : seqOf S (.tup ds) = some ds := rfl
@[simp] theorem lstOfS : seqOf S (.lst ds) = some ds := rfl
theorem refOfS (h : S[r]? = some (.lst ds)) : seqOf S (.ref r) = some ds := by simp [seqOf, h]
@[simp] theorem slc_tup {m : Bool} {i j : Option Int} : slcR m (.tup ds) i j S = .ok (.tup (cut ds i j)) S := rfl
@[simp] theorem slc_lst {m : Bool} {i j : Option Int} : slcR m (.lst ds) i j S = mkL m (cut ds i j) S := rfl
@[simp] theorem eq_lst0 {a b : D} {as bs : List D} : eqR S (.lst (a :: as)) (.lst []) = some false := eq_l0
theorem eq_lstE : eqR S (.lst ds) (.lst []) = some ds.isEmpty := by cases ds <;> simp
theorem eq_refE (h : S[r]? = some (.lst ds)) : eqR S (.ref r) (.lst []) = some ds.isEmpty := by
  simp [eqR, scalD, eqOk, lstOf, h]
end
@[simp] theorem len_scr {m : Bool} {ns : List Int} {S : Store} : bltR .len m [.scr ns] S = .ok (.int ns.length) S := by simp [bltR, seqOf]
@[simp] theorem wipe0 {l : LEnv} : wipeL l [] = l := rfl
@[simp] theorem wipe1 {l : LEnv} {v : Nat} {vs : List Nat} : wipeL l (v :: vs) = (wipeL l vs).set v none := rfl
@[simp] theorem flat_s {s : List Nat} : flatD (.str s) = true := rfl
@[simp] theorem flat_i {s : Int} : flatD (.int s) = true := rfl
@[simp] theorem flat_b {s : Bool} : flatD (.bl s) = true := rfl
@[simp] theorem flat_n : flatD .non = true := rfl
@[simp] theorem isNop_nop : Xp.nop.isNop = true := rfl
@[simp] theorem isNop_var {x0 : _} : (Xp.var x0).isNop = false := rfl
@[simp] theorem isNop_con {x0 : _} : (Xp.con x0).isNop = false := rfl
@[simp] theorem isNop_glb {x0 : _} {x1 : _} : (Xp.glb x0 x1).isNop = false := rfl
@[simp] theorem isNop_tup {x0 : _} : (Xp.tup x0).isNop = false := rfl
@[simp] theorem isNop_lst {x0 : _} {x1 : _} : (Xp.lst x0 x1).isNop = false := rfl
@[simp] theorem isNop_dic {x0 : _} {x1 : _} {x2 : _} : (Xp.dic x0 x1 x2).isNop = false := rfl
@[simp] theorem isNop_bin {x0 : _} {x1 : _} {x2 : _} {x3 : _} : (Xp.bin x0 x1 x2 x3).isNop = false := rfl
@[simp] theorem isNop_neg {x0 : _} : (Xp.neg x0).isNop = false := rfl
@[simp] theorem isNop_cmp {x0 : _} {x1 : _} {x2 : _} : (Xp.cmp x0 x1 x2).isNop = false := rfl
@[simp] theorem isNop_chn {x0 : _} {x1 : _} {x2 : _} {x3 : _} {x4 : _} : (Xp.chn x0 x1 x2 x3 x4).isNop = false := rfl
@[simp] theorem isNop_and {x0 : _} : (Xp.and x0).isNop = false := rfl
@[simp] theorem isNop_or {x0 : _} : (Xp.or x0).isNop = false := rfl
@[simp] theorem isNop_not {x0 : _} : (Xp.not x0).isNop = false := rfl
@[simp] theorem isNop_ite {x0 : _} {x1 : _} {x2 : _} : (Xp.ite x0 x1 x2).isNop = false := rfl
@[simp] theorem isNop_idx {x0 : _} {x1 : _} : (Xp.idx x0 x1).isNop = false := rfl
@[simp] theorem isNop_slc {x0 : _} {x1 : _} {x2 : _} {x3 : _} : (Xp.slc x0 x1 x2 x3).isNop = false := rfl
@[simp] theorem isNop_call {x0 : _} {x1 : _} {x2 : _} : (Xp.call x0 x1 x2).isNop = false := rfl
@[simp] theorem isNop_blt {x0 : _} {x1 : _} {x2 : _} : (Xp.blt x0 x1 x2).isNop = false := rfl
@[simp] theorem isNop_isi {x0 : _} {x1 : _} : (Xp.isi x0 x1).isNop = false := rfl
@[simp] theorem isNop_mtd {x0 : _} {x1 : _} {x2 : _} : (Xp.mtd x0 x1 x2).isNop = false := rfl
@[simp] theorem isNop_umt {x0 : _} {x1 : _} {x2 : _} : (Xp.umt x0 x1 x2).isNop = false := rfl
@[simp] theorem isNop_mk {x0 : _} {x1 : _} : (Xp.mk x0 x1).isNop = false := rfl
@[simp] theorem isNop_fld {x0 : _} {x1 : _} : (Xp.fld x0 x1).isNop = false := rfl
@[simp] theorem isNop_lc {x0 : _} {x1 : _} {x2 : _} {x3 : _} {x4 : _} {x5 : _} : (Xp.lc x0 x1 x2 x3 x4 x5).isNop = false := rfl
@[simp] theorem isNop_dc {x0 : _} {x1 : _} {x2 : _} {x3 : _} {x4 : _} {x5 : _} : (Xp.dc x0 x1 x2 x3 x4 x5).isNop = false := rfl
@[simp] theorem isNop_seq {x0 : _} : (Xp.seq x0).isNop = false := rfl
@[simp] theorem isNop_rng1 {x0 : _} : (Xp.rng1 x0).isNop = false := rfl
@[simp] theorem isNop_rng {x0 : _} {x1 : _} : (Xp.rng x0 x1).isNop = false := rfl
@[simp] theorem isNop_enu {x0 : _} : (Xp.enu x0).isNop = false := rfl
@[simp] theorem sizeOk_eq {n : Nat} : sizeOk n = decide (n ≤ 16777216) := by unfold sizeOk; rw [PySem.sizeLine_eq]
@[simp] theorem cfg_cf' (P : Pg) (n : Nat) : (P.cfg n).cf = cfn P n := rfl
/-- all but some places are as they were -/
def Fr (ms : List Nat) (S S' : Store) : Prop := S.length ≤ S'.length ∧ ∀ j, j < S.length → j ∉ ms → S'[j]? = S[j]?
theorem Fr.refl (ms : List Nat) (S : Store) : Fr ms S S := ⟨Nat.le_refl _, fun _ _ _ => rfl⟩
theorem Fr.trans {ms : List Nat} {A B C : Store} (h : Fr ms A B) (k : Fr ms B C) : Fr ms A C := ⟨Nat.le_trans h.1 k.1, fun j hj hm => (k.2 j (Nat.lt_of_lt_of_le hj h.1) hm).trans (h.2 j hj hm)⟩
theorem Fr.more (ms : List Nat) (S : Store) (more : List MO) : Fr ms S (S ++ more) := ⟨by simp, fun j hj _ => by rw [List.getElem?_append_left hj]⟩
theorem Fr.set {ms : List Nat} {S : Store} {m : Nat} (h : m ∈ ms) (o : MO) : Fr ms S (S.set m o) := ⟨by simp, fun j _ hm => by rw [List.getElem?_set_ne (by intro e; subst e; exact hm h)]⟩
theorem Fr.sub {ms ns : List Nat} {S S' : Store} (h : Fr ms S S') (k : ∀ m ∈ ms, m ∈ ns ∨ S.length ≤ m) : Fr ns S S' := ⟨h.1, fun j hj hm => h.2 j hj fun e => (k j e).elim hm fun z => by omega⟩
theorem Fr.get {ms : List Nat} {S S' : Store} (h : Fr ms S S') {j : Nat} {o : MO} (e : S[j]? = some o) (hm : j ∉ ms) : S'[j]? = some o := (h.2 j (List.getElem?_eq_some_iff.mp e).1 hm).trans e
theorem Fr.setNew {ms : List Nat} {S S' : Store} (h : Fr ms S S') {m : Nat} (hm : S.length ≤ m) (o : MO) : Fr ms S (S'.set m o) := ⟨by simpa using h.1, fun j hj k => by rw [List.getElem?_set_ne (by omega)]; exact h.2 j hj k⟩
theorem Fr.tr {ms ns : List Nat} {A B C : Store} (h : Fr ms A B) (k : Fr ns B C) (e : ∀ m ∈ ns, m ∈ ms ∨ A.length ≤ m) : Fr ms A C := ⟨Nat.le_trans h.1 k.1, fun j hj hm => (k.2 j (Nat.lt_of_lt_of_le hj h.1) fun z => (e j z).elim hm (by omega)).trans (h.2 j hj hm)⟩
/-- something new at the end is forgotten -/
theorem Fr.drop {ms : List Nat} {S S' : Store} {o : MO} (h : Fr (S.length :: ms) (S ++ [o]) S') : Fr ms S S' := ⟨by have := h.1; simp at this; omega, fun j hj hm => by
  rw [h.2 j (by simp; omega) (by simp; exact ⟨by omega, hm⟩), List.getElem?_append_left hj]⟩
/-- a comprehension by its turns -/
theorem lc_sat {c : LEnv → Store → R Bool} {f : LEnv → Store → R D} {tg : List Nat} {tt : Bool} {l : LEnv} {ds : List D} {Q : List D → Store → Prop} {E : Ex → Store → Prop} (I : Nat → List D → Store → Prop) (hl : ds.length ≤ 1000000)
    (hs : ∀ i d acc S, ds[i]? = some d → I i acc S → ∃ l1, bindT tg tt d l = some l1 ∧ (c l1 S).sat (fun b S1 => if b then (f l1 S1).sat (fun y S2 => I (i + 1) (acc ++ [y]) S2) E else I (i + 1) acc S1) E)
    (he : ∀ acc S, I ds.length acc S → Q acc S) : ∀ (n i : Nat) (acc : List D) (S : Store), i + n = ds.length → acc.length ≤ i → I i acc S → (lcLoop c f tg tt l (ds.drop i) acc S).sat Q E
  | 0, i, acc, S, hn, _, h => by
    rw [List.drop_eq_nil_of_le (by omega), lcLoop]
    have e : i = ds.length := by omega
    subst e
    exact he acc S h
  | n + 1, i, acc, S, hn, ha, h => by
    have hi : i < ds.length := by omega
    rw [List.drop_eq_getElem_cons hi, lcLoop]
    obtain ⟨l1, h1, h2⟩ := hs i ds[i] acc S (List.getElem?_eq_getElem hi) h
    rw [h1]
    dsimp only
    rw [sat_bind]
    refine h2.monoE (fun b S1 hb => ?_) (fun _ _ h => h)
    cases b with
    | true =>
      rw [if_pos rfl] at hb ⊢
      rw [sat_bind]
      refine hb.monoE (fun y S2 hy => ?_) (fun _ _ h => h)
      rw [if_pos (decide_eq_true (by rw [PySem.sizeLine_eq]; omega))]
      exact lc_sat I hl hs he n (i + 1) (acc ++ [y]) S2 (by omega) (by simp; omega) hy
    | false =>
      rw [if_neg Bool.false_ne_true] at hb ⊢
      exact lc_sat I hl hs he n (i + 1) acc S1 (by omega) (by omega) hb
theorem lc_sat0 {c : LEnv → Store → R Bool} {f : LEnv → Store → R D} {tg : List Nat} {tt : Bool} {l : LEnv} {ds : List D} {S : Store} {Q : List D → Store → Prop} {E : Ex → Store → Prop} (I : Nat → List D → Store → Prop) (hl : ds.length ≤ 1000000) (h0 : I 0 [] S)
    (hs : ∀ i d acc S, ds[i]? = some d → I i acc S → ∃ l1, bindT tg tt d l = some l1 ∧ (c l1 S).sat (fun b S1 => if b then (f l1 S1).sat (fun y S2 => I (i + 1) (acc ++ [y]) S2) E else I (i + 1) acc S1) E)
    (he : ∀ acc S, I ds.length acc S → Q acc S) : (lcLoop c f tg tt l ds [] S).sat Q E := lc_sat I hl hs he ds.length 0 [] S (by omega) (Nat.le_refl _) h0
theorem rng_get {a b : Int} {i : Nat} {d : D} (h : (rngL a b)[i]? = some d) : d = .int (a + i) ∧ a + i < b := by
  unfold rngL at h
  rw [List.getElem?_map] at h
  cases hr : (List.range (b - a).toNat)[i]? with
  | none => rw [hr] at h; cases h
  | some j =>
    rw [hr] at h
    have hl : i < (b - a).toNat := by simpa using (List.getElem?_eq_some_iff.mp hr).1
    rw [List.getElem?_range hl] at hr
    cases hr
    exact ⟨(Option.some.inj h).symm, by omega⟩
@[simp] theorem rng_len {a b : Int} : (rngL a b).length = (b - a).toNat := by simp [rngL]
theorem allStrs_map : ∀ (ss : List (List Nat)), allStrs (ss.map D.str) = some ss
  | [] => rfl
  | s :: ss => by simp [allStrs, allStrs_map ss]
theorem join_l {S : Store} {a : List Nat} {ss : List (List Nat)} (h : (ss.map List.length).sum + ss.length * a.length ≤ 16777216) : mtdR .join (.str a) [.lst (ss.map D.str)] S = .ok (.str (joinL a ss)) S := by
  simp [mtdR, allStrs_map, h]
theorem join_nil : ∀ ss : List (List Nat), joinL [] ss = ss.flatten
  | [] => rfl
  | [y] => by simp [joinL]
  | y :: z :: r => by rw [joinL, join_nil (z :: r)]; simp
theorem whl_step {c : LEnv → Store → R Bool} {body : LEnv → Store → RS} {n : Nat} {l : LEnv} {S : Store} {F : En} (h : (c l S).sat (fun b S1 => if b then (body l S1).sat { nx := fun l S => (whlLoop c body n l S).sat F, ct := fun l S => (whlLoop c body n l S).sat F, bk := F.nx, rt := F.rt, ex := F.ex } else F.nx l S1) (fun e S => F.ex e l S)) : (whlLoop c body (n + 1) l S).sat F := by
  rw [whlLoop, sat_then]
  refine h.monoE (fun b S1 hb => ?_) (fun _ _ h => h)
  cases b with
  | false => rw [if_neg Bool.false_ne_true] at hb ⊢; exact hb
  | true =>
    rw [if_pos rfl] at hb ⊢
    cases hh : body l S1 with
    | nx l S => rw [hh] at hb; exact hb
    | ct l S => rw [hh] at hb; exact hb
    | bk l S => rw [hh] at hb; exact hb
    | rt l S => rw [hh] at hb; exact hb
    | exc e l S => rw [hh] at hb; exact hb
    | bad => rw [hh] at hb; exact hb
end Mw
/-! Q3: a whole program looked through. -/
namespace Q
open Mw
variable {P : Pg}
local macro_rules | `(tactic| walk_at "mw") => `(tactic| simp [Mw.run, Mw.exs, Mw.ex, Mw.ev, Mw.evs, Mw.evAnd, Mw.evOr, Mw.Xp.isNop, Mw.sat_out, Mw.sat_seq, Mw.sat_then, Mw.sat_bind, Mw.sat_nox, Mw.sat_ok, Mw.sat_bad, Mw.sat_rt, Mw.sat_nx, Mw.sat_bk, Mw.sat_ct, Mw.satR_ite, Mw.sat_ite, Mw.bind_ok, Mw.nox_ok, Mw.then_ok, Mw.seq_nx, Mw.seq_rt, Mw.out_rt, Mw.out_nx, Mw.asB_bl, Mw.asI_int, Mw.tell_some, Mw.cmp_Eq, Mw.cmp_Ne, Mw.cmp_In, Mw.cmp_NotIn, Mw.cmp_Lt_i, Mw.cmp_Le_i, Mw.cmp_Gt_i, Mw.cmp_Ge_i, Mw.cmp_Lt_s, Mw.cmp_Le_s, Mw.cmp_Is, Mw.cmp_IsNot, Mw.eq_ii, Mw.eq_ss, Mw.eq_bb, Mw.eq_in, Mw.eq_ni, Mw.eq_nn, Mw.eq_sn, Mw.eq_ns, Mw.eq_is, Mw.eq_si, Mw.in_tup, Mw.in_lst, Mw.in_str, Mw.isi_1, Mw.isi_2, Mw.ty_int, Mw.ty_str, Mw.ty_bl, Mw.ty_tup, Mw.ty_lst, Mw.ty_non, Mw.below, Mw.add_i, Mw.add_s, Mw.add_t, Mw.add_l, Mw.sub_i, Mw.mul_i, Mw.mul_s, Mw.div_i, Mw.mod_i, Mw.pow_i, Mw.idx_t, Mw.idx_l, Mw.idx_s, Mw.len_s, Mw.len_t, Mw.len_l, Mw.all_l, Mw.mkL_f, Mw.mkL_t, Mw.mkD_f, Mw.mkD_t, Mw.items_t, Mw.items_l, Mw.items_s, Mw.items_scr, Mw.flatD, Mw.deq_ss, Mw.deq_ii, Mw.eq_t0, Mw.eq_l0, Mw.eq_l00, Mw.at0, Mw.at1, Mw.wipeL, Mw.bindT, Mw.setAll, Mw.cfg_cf, Q.slc_t, Q.list_t, Q.cut1, Q.cut2])
local macro_rules | `(tactic| walk_at "mw*") => `(tactic| simp [Mw.run, Mw.exs, Mw.ex, Mw.ev, Mw.evs, Mw.evAnd, Mw.evOr, Mw.Xp.isNop, Mw.sat_out, Mw.sat_seq, Mw.sat_then, Mw.sat_bind, Mw.sat_nox, Mw.sat_ok, Mw.sat_bad, Mw.sat_rt, Mw.sat_nx, Mw.sat_bk, Mw.sat_ct, Mw.satR_ite, Mw.sat_ite, Mw.bind_ok, Mw.nox_ok, Mw.then_ok, Mw.seq_nx, Mw.seq_rt, Mw.out_rt, Mw.out_nx, Mw.asB_bl, Mw.asI_int, Mw.tell_some, Mw.cmp_Eq, Mw.cmp_Ne, Mw.cmp_In, Mw.cmp_NotIn, Mw.cmp_Lt_i, Mw.cmp_Le_i, Mw.cmp_Gt_i, Mw.cmp_Ge_i, Mw.cmp_Lt_s, Mw.cmp_Le_s, Mw.cmp_Is, Mw.cmp_IsNot, Mw.eq_ii, Mw.eq_ss, Mw.eq_bb, Mw.eq_in, Mw.eq_ni, Mw.eq_nn, Mw.eq_sn, Mw.eq_ns, Mw.eq_is, Mw.eq_si, Mw.in_tup, Mw.in_lst, Mw.in_str, Mw.isi_1, Mw.isi_2, Mw.ty_int, Mw.ty_str, Mw.ty_bl, Mw.ty_tup, Mw.ty_lst, Mw.ty_non, Mw.below, Mw.add_i, Mw.add_s, Mw.add_t, Mw.add_l, Mw.sub_i, Mw.mul_i, Mw.mul_s, Mw.div_i, Mw.mod_i, Mw.pow_i, Mw.idx_t, Mw.idx_l, Mw.idx_s, Mw.len_s, Mw.len_t, Mw.len_l, Mw.all_l, Mw.mkL_f, Mw.mkL_t, Mw.mkD_f, Mw.mkD_t, Mw.items_t, Mw.items_l, Mw.items_s, Mw.items_scr, Mw.flatD, Mw.deq_ss, Mw.deq_ii, Mw.eq_t0, Mw.eq_l0, Mw.eq_l00, Mw.at0, Mw.at1, Mw.wipeL, Mw.bindT, Mw.setAll, Mw.cfg_cf, Q.slc_t, Q.list_t, Q.cut1, Q.cut2, *])

mutual
def Pt.depth : Pt → Nat
  | .mk _ _ ps => Pt.depths ps + 1
def Pt.depths : List Pt → Nat
  | [] => 0
  | p :: ps => max p.depth (Pt.depths ps)
end
mutual
def Pt.size : Pt → Nat
  | .mk _ _ ps => Pt.sizes ps + 1
def Pt.sizes : List Pt → Nat
  | [] => 0
  | p :: ps => p.size + Pt.sizes ps
end
mutual
def Pt.ok (kvs : List (DK × D)) : Pt → Prop
  | .mk w hd ps => hdOk kvs w hd ps.length ∧ Pt.oks kvs ps
def Pt.oks (kvs : List (DK × D)) : List Pt → Prop
  | [] => True
  | p :: ps => p.ok kvs ∧ Pt.oks kvs ps
end
theorem oks_mem {kvs : List (DK × D)} : ∀ {ps : List Pt}, Pt.oks kvs ps → ∀ p ∈ ps, p.ok kvs
  | [], _, p, h => by cases h
  | q :: ps, h, p, hp => by
    rcases List.mem_cons.mp hp with e | hp
    · rw [e]; exact h.1
    · exact oks_mem h.2 p hp
theorem depths_mem : ∀ {ps : List Pt} {n : Nat}, Pt.depths ps ≤ n → ∀ p ∈ ps, p.depth ≤ n
  | [], _, _, p, h => by cases h
  | q :: ps, n, h, p, hp => by
    unfold Pt.depths at h
    rcases List.mem_cons.mp hp with e | hp
    · rw [e]; omega
    · exact depths_mem (by omega) p hp
theorem sizes_take : ∀ (ps : List Pt) (i : Nat) (p : Pt), ps[i]? = some p → Pt.sizes (ps.take (i + 1)) = Pt.sizes (ps.take i) + p.size ∧ Pt.sizes (ps.take (i + 1)) ≤ Pt.sizes ps
  | [], i, p, h => by simp at h
  | q :: ps, 0, p, h => by
    simp at h
    subst h
    simp [Pt.sizes]
  | q :: ps, i + 1, p, h => by
    obtain ⟨h1, h2⟩ := sizes_take ps i p (by simpa using h)
    simp only [List.take_succ_cons, Pt.sizes]
    omega
theorem size_pos : ∀ p : Pt, 1 ≤ p.size
  | .mk _ _ _ => by simp [Pt.size]
theorem len_sizes : ∀ ps : List Pt, ps.length ≤ Pt.sizes ps
  | [] => Nat.le_refl _
  | p :: ps => by
    have := len_sizes ps
    have := size_pos p
    simp only [List.length_cons, Pt.sizes]
    omega
theorem ds_get : ∀ (ps : List Pt) (i : Nat), (Pt.ds ps)[i]? = ps[i]?.map Pt.d
  | [], i => by simp [Pt.ds]
  | p :: ps, 0 => by simp [Pt.ds]
  | p :: ps, i + 1 => by simp [Pt.ds, ds_get ps i]
/-- a loop by its turns -/
theorem for_sat {body : LEnv → Store → RS} {tg : List Nat} {tt : Bool} {F : En} {ds : List D} (I : Nat → LEnv → Store → Prop) (hs : ∀ i d l S, ds[i]? = some d → I i l S → ∃ l1, bindT tg tt d l = some l1 ∧ (body l1 S).sat { nx := I (i + 1), ct := I (i + 1), bk := F.nx, rt := F.rt, ex := F.ex })
    (he : ∀ l S, I ds.length l S → F.nx l S) : ∀ (n i : Nat) (l : LEnv) (S : Store), i + n = ds.length → I i l S → (forLoop body tg tt (ds.drop i) l S).sat F
  | 0, i, l, S, hn, h => by
    rw [List.drop_eq_nil_of_le (by omega), forLoop]
    have e : i = ds.length := by omega
    subst e
    exact he l S h
  | n + 1, i, l, S, hn, h => by
    have hi : i < ds.length := by omega
    rw [List.drop_eq_getElem_cons hi, forLoop]
    obtain ⟨l1, h1, h2⟩ := hs i ds[i] l S (List.getElem?_eq_getElem hi) h
    rw [h1]
    dsimp only
    cases hb : body l1 S with
    | nx l2 S2 => rw [hb] at h2; exact for_sat I hs he n (i + 1) l2 S2 (by omega) h2
    | ct l2 S2 => rw [hb] at h2; exact for_sat I hs he n (i + 1) l2 S2 (by omega) h2
    | bk l2 S2 => rw [hb] at h2; exact h2
    | rt d S2 => rw [hb] at h2; exact h2
    | exc e l2 S2 => rw [hb] at h2; exact h2
    | bad => rw [hb] at h2; exact h2.elim
theorem for_sat0 {body : LEnv → Store → RS} {tg : List Nat} {tt : Bool} {F : En} {ds : List D} {l : LEnv} {S : Store} (I : Nat → LEnv → Store → Prop) (h0 : I 0 l S) (hs : ∀ i d l S, ds[i]? = some d → I i l S → ∃ l1, bindT tg tt d l = some l1 ∧ (body l1 S).sat { nx := I (i + 1), ct := I (i + 1), bk := F.nx, rt := F.rt, ex := F.ex })
    (he : ∀ l S, I ds.length l S → F.nx l S) : (forLoop body tg tt ds l S).sat F := for_sat I hs he ds.length 0 l S (by omega) h0
/-- all else but the place m is as it was -/
def Frm (m : Nat) (S S' : Store) : Prop := S.length ≤ S'.length ∧ ∀ j, j < S.length → j ≠ m → S'[j]? = S[j]?
theorem Frm.refl (m : Nat) (S : Store) : Frm m S S := ⟨Nat.le_refl _, fun _ _ _ => rfl⟩
theorem Frm.trans {m : Nat} {A B C : Store} (h : Frm m A B) (k : Frm m B C) : Frm m A C := ⟨Nat.le_trans h.1 k.1, fun j hj hm => (k.2 j (Nat.lt_of_lt_of_le hj h.1) hm).trans (h.2 j hj hm)⟩
theorem Frm.more (m : Nat) (S : Store) (more : List MO) : Frm m S (S ++ more) := ⟨by simp, fun j hj _ => by rw [List.getElem?_append_left hj]⟩
theorem Frm.set (m : Nat) (S : Store) (o : MO) : Frm m S (S.set m o) := ⟨by simp, fun j _ hm => by rw [List.getElem?_set_ne (Ne.symm hm)]⟩
def metOf (S : Store) (m k : Nat) : Prop := ∃ ds, S[m]? = some (.lst ds) ∧ ds.length = k
theorem app_ok {S : Store} {m : Nat} {ds : List D} {x : D} (hm : S[m]? = some (.lst ds)) (hl : ds.length ≤ 100000) : mtdR .append (.ref m) [x] S = .ok .non (S.set m (.lst (ds ++ [x]))) := by
  unfold mtdR
  dsimp only
  rw [hm]
  dsimp only
  rw [if_pos (decide_eq_true (by rw [PySem.sizeLine_eq]; omega))]
theorem pre_app {S : Store} {m : Nat} {ds : List D} (hm : S[m]? = some (.lst ds)) : mtdPre .append (.ref m) S = true := by simp [mtdPre, lstOf, hm]
theorem len_ref {S : Store} {m : Nat} {ds : List D} {b : Bool} (hm : S[m]? = some (.lst ds)) : bltR .len b [.ref m] S = .ok (.int ds.length) S := by simp [bltR, seqOf, hm]
theorem lt_of_get {S : Store} {m : Nat} {o : MO} (h : S[m]? = some o) : m < S.length := (List.getElem?_eq_some_iff.mp h).1
theorem need_part_ok (h : HasF P) (hf : P.fns.lookup "is_form" = some G21.f_is_form) (hi : P.fns.lookup "inner_parts" = some G21.f_inner_parts) (hn : P.fns.lookup "need_part" = some G21.f_need_part) :
    ∀ (n : Nat) (S : Store) (kvs : List (DK × D)) (kq m k : Nat) (path : List D) (p : Pt), p.depth ≤ n → p.ok kvs → S[kq]? = some (.dct kvs) → kq ≠ m → metOf S m k → k + p.size ≤ 24 → path.length + p.depth ≤ 7 →
      (cfn P (n + 4) "need_part" [p.d, .ref kq, .tup path, .ref m] S).sat fun d S' => d = .non ∧ Frm m S S' ∧ metOf S' m (k + p.size)
  | 0, S, kvs, kq, m, k, path, .mk w hd ps, hd0, _, _, _, _, _, _ => by simp [Pt.depth] at hd0
  | n + 1, S, kvs, kq, m, k, path, .mk w hd ps, hdep, hok, hq, hne, ⟨ms, hm, hk⟩, hsz, hpath => by
    rw [cfn_succ, hn]
    unfold G21.f_need_part G21.b_need_part
    have hlm := lt_of_get hm
    have hlq := lt_of_get hq
    simp only [Pt.depth, Pt.size] at hdep hsz hpath
    have hlen := len_sizes ps
    simp [Mw.run]
    refine st ?_
    simp [pre_app hm, app_ok hm (show ms.length ≤ 100000 by omega)]
    have hq1 : dctOf (S.set m (.lst (ms ++ [.bl true]))) (.ref kq) = some kvs := by
      unfold dctOf
      dsimp only
      rw [List.getElem?_set_ne (Ne.symm hne), hq]
    refine st (st_if ?_)
    rw [ev_12, evOr_2, ev_13]
    have e1 : ∀ S', ev (P.cfg (n + 4)) (.call "is_form" [] (.cons (.var 0) (.cons (.var 1) .nil))) [some (Pt.mk w hd ps).d, some (.ref kq), some (.tup path), some (.ref m), none, none] S' = cfn P (n + 4) "is_form" [(Pt.mk w hd ps).d, .ref kq] S' := fun S' => by simp
    rw [e1]
    simp only [sat_bind]
    refine R.sat.mono (is_form_ok h hf (n + 1) _ _ kvs hq1 w hd ps hok.1 (by omega)) ?_
    rintro a S2 ⟨rfl, more, rfl⟩
    have hm2 : (S.set m (.lst (ms ++ [.bl true])) ++ more)[m]? = some (.lst (ms ++ [.bl true])) := by
      rw [List.getElem?_append_left (by simpa using hlm), List.getElem?_set_self hlm]
    have fr2 : Frm m S (S.set m (.lst (ms ++ [.bl true])) ++ more) := (Frm.set m S _).trans (Frm.more m _ _)
    have hq2 : (S.set m (.lst (ms ++ [.bl true])) ++ more)[kq]? = some (.dct kvs) := (fr2.2 kq hlq hne).trans hq
    generalize S.set m (.lst (ms ++ [.bl true])) ++ more = S2 at hm2 fr2 hq2
    have hpl : ¬ (6 : Int) < path.length := by omega
    have hml : ¬ (24 : Int) < ((ms ++ [D.bl true]).length : Nat) := by simp; omega
    simp [len_ref hm2, hpl]
    simp at hml
    refine .inl ⟨by omega, ?_⟩
    refine st ?_
    simp
    rw [inner_parts_ok hi (n + 3) S2 kvs w hd ps hok.1, sat_ok]
    try simp
    refine for_sat0 (fun i l S' => l[0]? = some (some (Pt.mk w hd ps).d) ∧ l[1]? = some (some (.ref kq)) ∧ l[2]? = some (some (.tup path)) ∧ l[3]? = some (some (.ref m)) ∧ l.length = 6 ∧ Frm m S2 S' ∧ metOf S' m (k + 1 + Pt.sizes (ps.take i))) ?_ ?_ ?_
    · exact ⟨rfl, rfl, rfl, rfl, rfl, Frm.refl _ _, _, hm2, by simp [Pt.sizes, hk]⟩
    · rintro i d l S' hd' ⟨l0, l1, l2, l3, l6, fr, mt⟩
      rw [enu_get, ds_get] at hd'
      cases hp : ps[i]? with
      | none => rw [hp] at hd'; simp at hd'
      | some p =>
        rw [hp] at hd'
        simp at hd'
        subst hd'
        refine ⟨_, rfl, ?_⟩
        have hmem := List.mem_of_getElem? hp
        obtain ⟨z1, z2⟩ := sizes_take ps i p hp
        have ih := need_part_ok h hf hi hn n S' kvs kq m (k + 1 + Pt.sizes (ps.take i)) (path ++ [.int i]) p (depths_mem (by omega) p hmem) (oks_mem hok.2 p hmem) ((fr.2 kq (lt_of_get hq2) hne).trans hq2) hne mt (by omega)
          (by have := depths_mem (Nat.le_refl _) p hmem; simp; omega)
        match l, l6 with
        | [a0, a1, a2, a3, a4, a5], _ =>
          simp at l0 l1 l2 l3
          subst l0 l1 l2 l3
          have sz : sizeOk 1 = true := sizeOk_of (by omega)
          have sz2 : sizeOk (path.length + 1) = true := sizeOk_of (by omega)
          walk_at "mw"
          refine ⟨by omega, ih.mono ?_⟩
          rintro a S3 ⟨rfl, fr3, mt3⟩
          refine ⟨fr.trans fr3, ?_⟩
          obtain ⟨ds, w1, w2⟩ := mt3
          exact ⟨ds, w1, by omega⟩
    · rintro l S' ⟨l0, l1, l2, l3, l6, fr, mt⟩
      refine ⟨fr2.trans fr, ?_⟩
      have e : (enuL (Pt.ds ps)).length = ps.length := by rw [enu_len, ds_len]
      rw [e, List.take_length] at mt
      simp only [Pt.size]
      obtain ⟨ds, w1, w2⟩ := mt
      exact ⟨ds, w1, by omega⟩
end Q
/-! Q4: a program's deeds. -/
namespace Q
open Mw
variable {P : Pg}
structure Dd where
  name : List Nat
  cells : List Nat
  body : Pt
def Dd.d (x : Dd) : D := .tup [.str x.name, .tup (x.cells.map fun c => .str [c]), x.body.d]
def Dd.ok (x : Dd) : Prop := isNm x.name ∧ x.cells.length ≤ 2 ∧ x.cells.Nodup ∧ ∀ c ∈ x.cells, 97 ≤ c ∧ c ≤ 122
theorem is_head_ok (h : HasF P) (hh : P.fns.lookup "is_head" = some G21.f_is_head) (n : Nat) (S : Store) (kvs : List (DK × D)) (kq : Nat) (x : Dd) (ok : x.ok) (hq : S[kq]? = some (.dct kvs)) (hnew : dGet kvs (.inr x.name) = none) :
    cfn P (n + 2) "is_head" [x.d, .ref kq] S = .ok (.bl true) S := by
  obtain ⟨o1, o2, o3, o4⟩ := ok
  rw [cfn_succ, hh]
  apply R.eq_of_sat
  have q1 := is_name_ok h n S x.name o1.1 o1.2
  have q2 : inR S (.str x.name) (.ref kq) = some false := by
    unfold inR
    try simp [dctOf, hq, keyOf, hnew]
  unfold G21.f_is_head G21.b_is_head Dd.d
  try simp [Mw.run]
  refine st ?_
  try simp [below, q1, q2]
  refine st ?_
  try simp
  refine st ?_
  try simp [below]
  first | rw [if_neg (by omega)] | rw [if_pos (by omega)]
  rw [lc_map (fun _ => .bl true) (by simp; omega) (fun d hd => ?_)]
  · rw [sat_ok, List.nil_append, allBools_true]
    dsimp only
    rw [all_true, sat_ok, asB_bl, sat_ok]
    try rw [if_pos rfl]
    have hcs : x.cells = [] ∨ (∃ a, x.cells = [a]) ∨ ∃ a b, x.cells = [a, b] ∧ a ≠ b := by
      match hc : x.cells, o2, o3 with
      | [], _, _ => exact .inl rfl
      | [a], _, _ => exact .inr (.inl ⟨a, rfl⟩)
      | _ :: _ :: _ :: _, h2, _ => simp at h2
      | [a, b], _, h3 => exact .inr (.inr ⟨a, b, rfl, by intro e; subst e; simp at h3⟩)
    rcases hcs with e | ⟨a, e⟩ | ⟨a, b, e, hne⟩
    · rw [e]
      refine st ?_
      simp
    · rw [e]
      refine st ?_
      simp
    · rw [e]
      refine st ?_
      simp
      exact hne
  · obtain ⟨c, hc, rfl⟩ := List.mem_map.mp hd
    refine ⟨_, rfl, rfl, ?_⟩
    apply R.eq_of_sat
    try simp
    rw [is_cell_ok h n S c (o4 c hc)]
    exact ⟨rfl, rfl⟩
end Q
/-! Q5: need_program. -/
namespace Q
open Mw
variable {P : Pg}
/-- a whole program -/
structure Pr where
  main : Pt
  deeds : List Dd
def Pr.d (x : Pr) : D := .tup [x.main.d, .tup (x.deeds.map Dd.d)]
/-- how many cells each deed takes -/
def kvsOf (ds : List Dd) : List (DK × D) := ds.map fun x => (.inr x.name, .int x.cells.length)
def ptOk (kvs : List (DK × D)) (p : Pt) : Prop := p.ok kvs ∧ p.depth ≤ 6 ∧ p.size ≤ 24
structure Pr.ok (x : Pr) : Prop where
  main : ptOk (kvsOf x.deeds) x.main
  few : x.deeds.length ≤ 3
  nd : (x.deeds.map Dd.name).Nodup
  deed : ∀ y ∈ x.deeds, y.ok ∧ ptOk (kvsOf x.deeds) y.body
theorem dGet_none {kvs : List (DK × D)} {k : DK} (h : ∀ kv ∈ kvs, kv.1 ≠ k) : dGet kvs k = none := by
  unfold dGet
  rw [List.find?_eq_none.mpr]
  · rfl
  · intro x hx
    simpa using h x hx
theorem dPut_new {kvs : List (DK × D)} {k : DK} {v : D} (h : ∀ kv ∈ kvs, kv.1 ≠ k) : dPut kvs k v = kvs ++ [(k, v)] := by
  unfold dPut
  rw [if_neg]
  simp only [List.any_eq_true, not_exists, not_and, decide_eq_true_eq]
  exact h
structure HasN (P : Pg) : Prop extends HasF P where
  is_form : P.fns.lookup "is_form" = some G21.f_is_form
  inner_parts : P.fns.lookup "inner_parts" = some G21.f_inner_parts
  need_part : P.fns.lookup "need_part" = some G21.f_need_part
  is_head : P.fns.lookup "is_head" = some G21.f_is_head
  need_program : P.fns.lookup "need_program" = some G21.f_need_program
theorem kvs_new {ds : List Dd} (h : (ds.map Dd.name).Nodup) {i : Nat} {x : Dd} (hi : ds[i]? = some x) : ∀ kv ∈ kvsOf (ds.take i), kv.1 ≠ .inr x.name := by
  intro kv hk
  unfold kvsOf at hk
  obtain ⟨y, hy, rfl⟩ := List.mem_map.mp hk
  intro e
  have e' : y.name = x.name := by simpa using e
  obtain ⟨j, hj⟩ := List.getElem?_of_mem hy
  rw [List.getElem?_take] at hj
  split at hj
  · rename_i hlt
    have h1 : (ds.map Dd.name)[j]? = some x.name := by rw [List.getElem?_map, hj]; simp [e']
    have h2 : (ds.map Dd.name)[i]? = some x.name := by rw [List.getElem?_map, hi]; rfl
    obtain ⟨l1, g1⟩ := List.getElem?_eq_some_iff.mp h1
    obtain ⟨l2, g2⟩ := List.getElem?_eq_some_iff.mp h2
    have := (List.getElem_inj h).mp (g1.trans g2.symm)
    omega
  · cases hj
theorem need_program_ok (h : HasN P) (n : Nat) (S : Store) (x : Pr) (ok : x.ok) :
    (cfn P (n + 12) "need_program" [x.d] S).sat fun d S' => d = .ref S.length ∧ S'[S.length]? = some (.dct (kvsOf x.deeds)) ∧ Fr [] S S' := by
  rw [cfn_succ, h.need_program]
  have hl : x.deeds.length ≤ 3 := ok.few
  unfold G21.f_need_program G21.b_need_program Pr.d
  simp [Mw.run]
  refine st ?_
  simp
  refine st ?_
  simp [dMerge]
  refine st ?_
  simp
  refine for_sat0 (fun i l S' => l[0]? = some (some x.d) ∧ l[1]? = some (some (.ref S.length)) ∧ l.length = 4 ∧ Fr [] S S' ∧ S'[S.length]? = some (.dct (kvsOf (x.deeds.take i)))) ?_ ?_ ?_
  · exact ⟨rfl, rfl, rfl, Fr.more _ _ _, by simp [kvsOf]⟩
  · rintro i d l S' hd' ⟨l0, l1, l4, fr, hk⟩
    rw [enu_get, List.getElem?_map] at hd'
    cases hp : x.deeds[i]? with
    | none => rw [hp] at hd'; simp at hd'
    | some y =>
      rw [hp] at hd'
      simp at hd'
      subst hd'
      have hi : i < x.deeds.length := (List.getElem?_eq_some_iff.mp hp).1
      have hy := List.mem_of_getElem? hp
      refine ⟨_, rfl, ?_⟩
      match l, l4 with
      | [a0, a1, a2, a3], _ =>
        simp at l0 l1
        subst l0 l1
        have q1 := is_head_ok h.toHasF h.is_head (n + 9) S' _ S.length y (ok.deed y hy).1 hk (dGet_none (kvs_new ok.nd hp))
        refine st ?_
        simp
        rw [if_neg (by omega)]
        rw [show (n + 9 + 2) = n + 11 from rfl] at q1
        rw [q1]
        simp
        refine st ?_
        simp [Dd.d]
        rw [dset_ref hk rfl (by simp [kvsOf]; omega)]
        simp
        refine ⟨fr.setNew (Nat.le_refl _) _, ?_⟩
        rw [List.getElem?_set_self (by have := (List.getElem?_eq_some_iff.mp hk).1; omega), dPut_new (kvs_new ok.nd hp), List.take_add_one, hp]
        simp [kvsOf]
  · rintro l S' ⟨l0, l1, l4, fr, hk⟩
    have e : (enuL (x.deeds.map Dd.d)).length = x.deeds.length := by rw [enu_len]; simp
    rw [e, List.take_length] at hk
    match l, l4 with
    | [a0, a1, a2, a3], _ =>
      simp at l0 l1
      subst l0 l1
      have lk : S.length < S'.length := (List.getElem?_eq_some_iff.mp hk).1
      refine st ?_
      simp [Pr.d]
      have q2 := need_part_ok h.toHasF h.is_form h.inner_parts h.need_part (n + 7) (S' ++ [.lst []]) (kvsOf x.deeds) S.length S'.length 0 [.int 0] x.main (by have := ok.main.2.1; omega) ok.main.1 (by rw [List.getElem?_append_left lk]; exact hk) (by omega) ⟨[], by simp, rfl⟩ (by have := ok.main.2.2; omega) (by have := ok.main.2.1; simp; omega)
      refine R.sat.mono q2 ?_
      rintro _ S2 ⟨rfl, fr2, _⟩
      have fr3 : Fr [] S S2 := fr.tr (ns := []) (B := S') ⟨by have := fr2.1; simp at this; omega, fun j hj _ => by rw [fr2.2 j (by simp; omega) (by omega), List.getElem?_append_left hj]⟩ (by simp)
      have hk2 : S2[S.length]? = some (.dct (kvsOf x.deeds)) := by rw [fr2.2 S.length (by simp; omega) (by omega), List.getElem?_append_left lk]; exact hk
      refine st ?_
      simp
      refine for_sat0 (fun i l S' => l[0]? = some (some x.d) ∧ l[1]? = some (some (.ref S.length)) ∧ l.length = 4 ∧ Fr [] S S' ∧ S'[S.length]? = some (.dct (kvsOf x.deeds))) ?_ ?_ ?_
      · exact ⟨rfl, rfl, rfl, fr3, hk2⟩
      · rintro i d l S' hd' ⟨l0, l1, l4, fr, hk⟩
        rw [enu_get, List.getElem?_map] at hd'
        cases hp : x.deeds[i]? with
        | none => rw [hp] at hd'; simp at hd'
        | some y =>
          rw [hp] at hd'
          simp at hd'
          subst hd'
          have hi : i < x.deeds.length := (List.getElem?_eq_some_iff.mp hp).1
          have hy := List.mem_of_getElem? hp
          refine ⟨_, rfl, ?_⟩
          match l, l4 with
          | [a0, a1, a2, a3], _ =>
            simp at l0 l1
            subst l0 l1
            have lk : S.length < S'.length := (List.getElem?_eq_some_iff.mp hk).1
            have oy := (ok.deed y hy).2
            refine st ?_
            simp [Dd.d]
            have q2 := need_part_ok h.toHasF h.is_form h.inner_parts h.need_part (n + 7) (S' ++ [.lst []]) (kvsOf x.deeds) S.length S'.length 0 [.int (i + 1)] y.body (by have := oy.2.1; omega) oy.1 (by rw [List.getElem?_append_left lk]; exact hk) (by omega) ⟨[], by simp, rfl⟩ (by have := oy.2.2; omega) (by have := oy.2.1; simp; omega)
            refine R.sat.mono q2 ?_
            rintro _ S2 ⟨rfl, fr2, _⟩
            refine ⟨fr.tr (ns := []) (B := S') ⟨by have := fr2.1; simp at this; omega, fun j hj _ => by rw [fr2.2 j (by simp; omega) (by omega), List.getElem?_append_left hj]⟩ (by simp), ?_⟩
            rw [fr2.2 S.length (by simp; omega) (by omega), List.getElem?_append_left lk]; exact hk
      · rintro l S' ⟨l0, l1, l4, fr, hk⟩
        match l, l4 with
        | [a0, a1, a2, a3], _ =>
          simp at l0 l1
          subst l0 l1
          dsimp only
          refine st ?_
          simp
          exact ⟨hk, fr⟩
end Q
/-! Q6: what is drawn: rows, numbers, texts. -/
namespace Q
open Mw
variable {P : Pg}
structure HasD (P : Pg) : Prop where
  row : P.fns.lookup "_law_row" = some G21.f__law_row
  taken : P.fns.lookup "_law_taken" = some G21.f__law_taken
  text : P.fns.lookup "_law_text" = some G21.f__law_text
  number : P.fns.lookup "_law_number" = some G21.f__law_number
  part : P.fns.lookup "_law_part" = some G21.f__law_part
  program : P.fns.lookup "_law_program" = some G21.f__law_program
/-- the row of the script stands at r -/
def Row (S : Store) (r : Nat) : Prop := ∃ (ns : List Int) (i l m : Int), S[r]? = some (.lst [.scr ns, .int i, .int l, .int m]) ∧ 0 ≤ i ∧ 0 ≤ l ∧ 0 ≤ m ∧ m < 2147483647
theorem Row.mono {S S' : Store} {r : Nat} {ms : List Nat} (h : Row S r) (f : Fr ms S S') (hm : r ∉ ms) : Row S' r := by
  obtain ⟨ns, i, l, m, hs, e⟩ := h
  exact ⟨ns, i, l, m, f.get hs hm, e⟩
theorem row_set {S : Store} {r : Nat} {o : MO} {ns : List Int} {i l m : Int} (hs : S[r]? = some o) (hi : 0 ≤ i) (hl : 0 ≤ l) (h0 : 0 ≤ m) (h1 : m < 2147483647) : Row (S.set r (.lst [.scr ns, .int i, .int l, .int m])) r :=
  ⟨ns, i, l, m, by rw [List.getElem?_set_self (List.getElem?_eq_some_iff.mp hs).1], hi, hl, h0, h1⟩
theorem set_get {S : Store} {r : Nat} {o o' : MO} (hs : S[r]? = some o) : (S.set r o')[r]? = some o' := List.getElem?_set_self (List.getElem?_eq_some_iff.mp hs).1
theorem mulOk_l {i j : Int} (h : -1000000000000000 < i ∧ i < 1000000000000000) : mulOk i j = true := decide_eq_true (.inl (.inl (by constructor <;> omega)))
theorem mulOk_r {i j : Int} (h : -1000000000000000 < j ∧ j < 1000000000000000) : mulOk i j = true := decide_eq_true (.inl (.inr (by constructor <;> omega)))
theorem row_ok (h : HasD P) (n : Nat) (S : Store) (ns : List Int) : (cfn P (n + 1) "_law_row" [.scr ns] S).sat fun d S' => d = .ref S.length ∧ Row S' S.length ∧ Fr [] S S' := by
  rw [cfn_succ, h.row]
  unfold G21.f__law_row G21.b__law_row
  simp [Mw.run]
  refine st ?_
  simp
  refine st ?_
  simp
  refine for_sat0 (fun i l S' => ∃ m : Int, l[0]? = some (some (.scr ns)) ∧ l[1]? = some (some (.int m)) ∧ l.length = 3 ∧ 0 ≤ m ∧ m < 2147483647 ∧ S' = S) ?_ ?_ ?_
  · exact ⟨7, rfl, rfl, rfl, by omega, by omega, rfl⟩
  · rintro i d l S' hd ⟨m, l0, l1, l3, h0, h1, rfl⟩
    rw [List.getElem?_map] at hd
    cases hn : ns[i]? with
    | none => rw [hn] at hd; cases hd
    | some c =>
      rw [hn] at hd
      simp at hd
      subst hd
      refine ⟨_, rfl, ?_⟩
      match l, l3 with
      | [a0, a1, a2], _ =>
        simp at l0 l1
        subst l0 l1
        refine st ?_
        simp
        rw [mulOk_r (by omega)]
        simp
        omega
  · rintro l S' ⟨m, l0, l1, l3, h0, h1, rfl⟩
    match l, l3 with
    | [a0, a1, a2], _ =>
      simp at l0 l1
      subst l0 l1
      dsimp only
      refine st ?_
      simp
      exact ⟨⟨ns, 0, 0, m, by simp, by omega, by omega, h0, h1⟩, Fr.more _ _ _⟩
/-- a number drawn -/
def PTk (r : Nat) (lo hi : Int) (S : Store) (d : D) (S' : Store) : Prop := ∃ j : Int, d = .int j ∧ lo ≤ j ∧ j < hi ∧ Row S' r ∧ Fr [r] S S'
theorem taken_ok (h : HasD P) (n : Nat) (S : Store) (r : Nat) (k : Int) (hr : Row S r) (h0 : 0 < k) (h1 : k < 1073741824) : (cfn P (n + 1) "_law_taken" [.ref r, .int k] S).sat (PTk r 0 k S) := by
  rw [cfn_succ, h.taken]
  obtain ⟨ns, i, l, m, hs, hi, hl, hm0, hm1⟩ := hr
  unfold G21.f__law_taken G21.b__law_taken
  simp [Mw.run]
  refine st ?_
  simp [idx_ref hs]
  split
  · refine st ?_
    simp [idx_ref hs, h0, h1]
    refine st ?_
    simp [idx_ref hs, sset_ref hs, h0, h1]
    refine st ?_
    simp
    exact ⟨_, rfl, Int.emod_nonneg _ (by omega), Int.emod_lt_of_pos _ h0, row_set hs hi (Int.ediv_nonneg hl (by omega)) hm0 hm1, Fr.set (by simp) _⟩
  · refine st ?_
    simp [idx_ref hs]
    split
    · rename_i hlt
      obtain ⟨c, hc, _, hc'⟩ := at_lt (ds := ns.map D.int) hi (by simpa using hlt)
      rw [List.getElem?_map] at hc'
      cases hn : ns[i.toNat]? with
      | none => rw [hn] at hc'; cases hc'
      | some z =>
        rw [hn] at hc'
        simp at hc'
        subst hc'
        have hx : idxR (.scr ns) (.int i) S = .ok (.int z) S := by
          have : L2.atI (ns.map D.int) i = some (.int z) := hc
          simp [idxR, dctOf, seqOf, this]
        refine st ?_
        simp [idx_ref hs, hx]
        refine st ?_
        simp [idx_ref hs, sset_ref hs]
        have hs1 := set_get (o' := .lst [.scr ns, .int (i + 1), .int l, .int m]) hs
        have fr1 : Fr [r] S (S.set r (.lst [.scr ns, .int (i + 1), .int l, .int m])) := Fr.set (by simp) _
        refine st ?_
        simp
        split
        · refine st ?_
          simp [h0, h1, sset_ref hs1]
          refine st ?_
          simp [h0]
          exact ⟨_, rfl, Int.emod_nonneg _ (by omega), Int.emod_lt_of_pos _ h0, row_set hs (by omega) (Int.ediv_nonneg (by omega) (by omega)) hm0 hm1, Fr.set (by simp) _⟩
        · refine st ?_
          simp [h0]
          exact ⟨_, rfl, Int.emod_nonneg _ (by omega), Int.emod_lt_of_pos _ h0, row_set hs (by omega) hl hm0 hm1, Fr.set (by simp) _⟩
    · refine st ?_
      simp [idx_ref hs]
      rw [mulOk_r (by omega)]
      simp [sset_ref hs]
      have hs1 := fun z => set_get (o' := .lst [.scr ns, .int i, .int l, .int z]) hs
      refine st ?_
      simp [idx_ref (hs1 _), h0]
      exact ⟨_, rfl, Int.emod_nonneg _ (by omega), Int.emod_lt_of_pos _ h0, row_set hs hi hl (by omega) (by omega), Fr.set (by simp) _⟩
/-- a text drawn -/
def isDt (s : List Nat) : Prop := s.length ≤ 200 ∧ ∀ c ∈ s, c = 97 ∨ c = 98 ∨ c = 32 ∨ c = 51 ∨ c = 99
theorem sum1 : ∀ s : List Nat, ((s.map fun c => [c]).map List.length).sum = s.length
  | [] => rfl
  | c :: s => by simp only [List.map_cons, List.sum_cons, sum1 s, List.length_cons, List.length_nil]; omega
theorem flat1 : ∀ s : List Nat, (s.map fun c => [c]).flatten = s
  | [] => rfl
  | c :: s => by simp [flat1 s]
def PTx (r : Nat) (k : Int) (S : Store) (d : D) (S' : Store) : Prop := ∃ s, d = .str s ∧ (s.length : Int) ≤ k ∧ isDt s ∧ Row S' r ∧ Fr [r] S S'
theorem text_ok (h : HasD P) (n : Nat) (S : Store) (r : Nat) (k : Int) (hr : Row S r) (h0 : 0 ≤ k) (h1 : k ≤ 200) : (cfn P (n + 2) "_law_text" [.ref r, .int k] S).sat (PTx r k S) := by
  rw [cfn_succ, h.text]
  unfold G21.f__law_text G21.b__law_text
  simp [Mw.run]
  refine st ?_
  simp
  refine R.sat.mono (taken_ok h n S r (k + 1) hr (by omega) (by omega)) ?_
  rintro _ S1 ⟨j, rfl, j0, j1, hr1, fr1⟩
  simp
  refine ⟨by constructor <;> omega, ?_⟩
  refine lc_sat0 (fun i acc S' => ∃ s : List Nat, acc = (s.map fun c => [c]).map D.str ∧ s.length = i ∧ (∀ c ∈ s, c = 97 ∨ c = 98 ∨ c = 32 ∨ c = 51 ∨ c = 99) ∧ Row S' r ∧ Fr [r] S S') (by simp; omega) ?_ ?_ ?_
  · exact ⟨[], rfl, rfl, by simp, hr1, fr1⟩
  · rintro i d acc S' hd ⟨s, rfl, hl, hs, hr2, fr2⟩
    obtain ⟨rfl, hlt⟩ := rng_get hd
    refine ⟨_, rfl, ?_⟩
    simp
    refine R.sat.mono (taken_ok h n S' r 7 hr2 (by omega) (by omega)) ?_
    rintro _ S2 ⟨c, rfl, c0, c1, hr3, fr3⟩
    simp
    obtain ⟨z, hz, hm, _⟩ := at_lt (ds := [97, 97, 98, 98, 32, 51, 99]) c0 (by simpa using c1)
    rw [hz]
    simp
    refine ⟨s ++ [z], by simp, by simp [hl], fun c hc => ?_, hr3, fr2.trans fr3⟩
    rcases List.mem_append.mp hc with hc | hc
    · exact hs c hc
    · simp at hc hm
      subst hc
      omega
  · rintro acc S' ⟨s, rfl, hl, hs, hr2, fr2⟩
    simp at hl
    try dsimp only
    rw [join_l (by rw [sum1]; simp; omega), join_nil, flat1]
    simp
    exact ⟨_, rfl, by omega, ⟨by omega, hs⟩, hr2, fr2⟩
theorem number_ok (h : HasD P) (n : Nat) (S : Store) (r : Nat) (hr : Row S r) : (cfn P (n + 2) "_law_number" [.ref r] S).sat (PTk r (-3) 1000000000001 S) := by
  rw [cfn_succ, h.number]
  unfold G21.f__law_number G21.b__law_number
  simp [Mw.run]
  refine st ?_
  simp
  refine R.sat.mono (taken_ok h n S r 12 hr (by omega) (by omega)) ?_
  rintro _ S1 ⟨w, rfl, w0, w1, hr1, fr1⟩
  refine st ?_
  simp
  split
  · refine R.sat.mono (taken_ok h n S1 r 9 hr1 (by omega) (by omega)) ?_
    rintro _ S2 ⟨j, rfl, j0, j1, hr2, fr2⟩
    simp
    exact ⟨_, rfl, by omega, by omega, hr2, fr1.trans fr2⟩
  · split
    · refine R.sat.mono (taken_ok h n S1 r 9 hr1 (by omega) (by omega)) ?_
      rintro _ S2 ⟨j, rfl, j0, j1, hr2, fr2⟩
      simp
      exact ⟨_, rfl, by omega, by omega, hr2, fr1.trans fr2⟩
    · refine R.sat.mono (taken_ok h n S1 r 5 hr1 (by omega) (by omega)) ?_
      rintro _ S2 ⟨j, rfl, j0, j1, hr2, fr2⟩
      exact ⟨_, rfl, by omega, by omega, hr2, fr1.trans fr2⟩
end Q
/-! Q7: parts that are drawn. -/
namespace Mw
def dropS : Nat → Sms → Sms
  | 0, s => s
  | n + 1, .cons _ s => dropS n s
  | _ + 1, .nil => .nil
end Mw
namespace Q
open Mw
variable {P : Pg}
def NmOk (kvs : List (DK × D)) (names : List D) : Prop := names.length ≤ 3 ∧ ∀ d ∈ names, ∃ (s : List Nat) (c : Nat), d = .tup [.str s, .int c] ∧ isNm s ∧ c ≤ 2 ∧ dGet kvs (.inr s) = some (.int c)
def Lef (S : Store) (q : Nat) : Prop := ∃ a b : Int, S[q]? = some (.lst [.int a, .int b])
theorem Lef.mono {S S' : Store} {r : Nat} {ms : List Nat} (h : Lef S r) (f : Fr ms S S') (hm : r ∉ ms) : Lef S' r := by
  obtain ⟨a, b, hs⟩ := h
  exact ⟨a, b, f.get hs hm⟩
abbrev bP : Sms := G21.b__law_part
/-- a part drawn -/
def PPt (kvs : List (DK × D)) (m r q : Nat) (S : Store) (d : D) (S' : Store) : Prop := ∃ p : Pt, d = p.d ∧ p.ok kvs ∧ p.depth ≤ m ∧ Row S' r ∧ Lef S' q ∧ Fr [r, q] S S'
abbrev drawn (kvs : List (DK × D)) (m r q : Nat) (S : Store) : En := { rt := PPt kvs m r q S }
def wcs : Int → List (W × List Nat)
  | 0 => [(.w_or, [107, 107]), (.w_and, [97, 107]), (.w_and, [97, 107]), (.w_then, [97, 107]), (.w_every, [97, 107]), (.w_while, [97, 107]), (.w_scan, [116, 107]), (.w_say, [107]), (.w_set, [107]), (.w_try, [107]), (.w_most, [107]), (.w_again, [107]),
     (.w_same, [107, 107]), (.w_unlike, [107, 107]), (.w_call, []), (.w_not, [97]), (.w_if, [97, 107, 107]), (.w_to, [110, 110]), (.w_to, [110, 110]), (.w_plus, [110, 110]), (.w_less, [110, 110]), (.w_times, [110, 110]), (.w_below, [110, 110]), (.w_long, [116]), (.w_find, [116]), (.w_many, [116]), (.w_match, [116])]
  | _ => [(.w_or, [107, 107]), (.w_and, [97, 107]), (.w_and, [97, 107]), (.w_then, [97, 107]), (.w_every, [97, 107]), (.w_while, [97, 107]), (.w_scan, [116, 107]), (.w_say, [107]), (.w_set, [107]), (.w_try, [107]), (.w_most, [107]), (.w_again, [107]),
     (.w_same, [107, 107]), (.w_unlike, [107, 107]), (.w_call, []), (.w_not, [97]), (.w_if, [97, 107, 107]), (.w_join, [116, 116]), (.w_join, [116, 116]), (.w_tab, [110]), (.w_tab, [110]), (.w_tab, [110]), (.w_or, [107, 107]), (.w_or, [107, 107])]
def wcsD (kd : Int) : List D := (wcs kd).map fun x => .tup [.str x.1.s, .str x.2]
def good (x : W × List Nat) : Bool := match x.1 with
  | .w_call => true
  | .w_set => x.2.length == 1
  | .w_try => x.2.length == 1
  | .w_most => x.2.length == 1
  | w => w.plain && x.2.length == w.ni
theorem wcs_good (kd : Int) : ∀ x ∈ wcs kd, good x = true := by
  unfold wcs
  split <;> decide
theorem words_step {g : Cfg} {kd : Int} (hk : kd = 0 ∨ kd = 1) {a0 a2 a3 a4 a5 : Option D} {S : Store} {F : En} (h : ∀ a7 a8, (exs g (dropS 9 bP) [a0, some (.int kd), a2, a3, a4, a5, some (.lst (wcsD kd)), a7, a8, none, none, none, none, none, none, none, none, none] S).sat F) :
    (exs g (dropS 3 bP) [a0, some (.int kd), a2, a3, a4, a5, none, none, none, none, none, none, none, none, none, none, none, none] S).sat F := by
  have s2 : sizeOk 2 = true := sizeOk_of (by omega)
  have sn : ∀ n, n ≤ 1000 → sizeOk n = true := fun n h => sizeOk_of (by omega)
  unfold bP G21.b__law_part at h ⊢
  simp only [dropS] at h ⊢
  refine st ?_
  try simp [sn]
  refine st ?_
  try simp [sn]
  refine st ?_
  try simp [sn]
  refine st ?_
  try simp [sn]
  refine st ?_
  try simp [sn]
  refine st ?_
  rcases hk with rfl | rfl
  · simp [sn]
    exact h _ _
  · simp [sn]
    exact h _ _
theorem get_kd {c : Nat} {kd j : Int} (hk : kd = 0 ∨ kd = 1) (hj : j = 0 ∨ j = 1) : ∃ z : Int, (z = 0 ∨ z = 1) ∧ (dGet (dMerge [] [(Sum.inr [110], D.int 0), (.inr [116], .int 1), (.inr [107], .int kd)]) (.inr [c])).getD (.int j) = .int z := by
  have e : dMerge [] [(Sum.inr [110], D.int 0), (.inr [116], .int 1), (.inr [107], .int kd)] = [(Sum.inr [110], D.int 0), (.inr [116], .int 1), (.inr [107], .int kd)] := by
    try simp [dMerge, dPut]
  rw [e]
  simp only [dGet, List.find?_cons]
  by_cases h1 : c = 110
  · subst h1; exact ⟨0, .inl rfl, by simp⟩
  by_cases h2 : c = 116
  · subst h2; exact ⟨1, .inr rfl, by simp⟩
  by_cases h3 : c = 107
  · subst h3; exact ⟨kd, hk, by simp⟩
  · refine ⟨j, hj, ?_⟩
    try simp [Ne.symm h1, Ne.symm h2, Ne.symm h3]
theorem ds_app (ps : List Pt) (p : Pt) : Pt.ds (ps ++ [p]) = Pt.ds ps ++ [p.d] := by
  induction ps with
  | nil => rfl
  | cons q ps ih => simp [Pt.ds, ih]
theorem oks_app {kvs : List (DK × D)} {ps : List Pt} {p : Pt} (h : Pt.oks kvs ps) (k : p.ok kvs) : Pt.oks kvs (ps ++ [p]) := by
  induction ps with
  | nil => exact ⟨k, trivial⟩
  | cons q ps ih => exact ⟨h.1, ih h.2⟩
theorem depths_app {n : Nat} {ps : List Pt} {p : Pt} (h : Pt.depths ps ≤ n) (k : p.depth ≤ n) : Pt.depths (ps ++ [p]) ≤ n := by
  induction ps with
  | nil => simp [Pt.depths]; omega
  | cons q ps ih =>
    simp only [Pt.depths, List.cons_append] at h ⊢
    have := ih (by omega)
    omega
/-- the parts within are drawn -/
theorem part_loop (h : HasD P) (kvs : List (DK × D)) (names : List D) (m n r q : Nat) (S0 S : Store) (kd deep : Int) (hk : kd = 0 ∨ kd = 1) (w : W) (hd : List D) (codes : List Nat) (hh : hdOk kvs w hd codes.length) (hc : codes.length ≤ 3)
    (ih : ∀ (S : Store) (kind : Int), kind = 0 ∨ kind = 1 → Row S r → Lef S q → (cfn P (n + 1) "_law_part" [.ref r, .int kind, .int (deep - 1), .ref q, .lst names] S).sat (PPt kvs m r q S))
    (hr : Row S r) (hl : Lef S q) (hq : r ≠ q) (fr : Fr [r, q] S0 S) (a5 a6 a7 a8 a11 a12 a14 : Option D) :
    (exs (P.cfg (n + 1)) (dropS 14 bP) [some (.ref r), some (.int kd), some (.int deep), some (.ref q), some (.lst names), a5, a6, a7, a8, some (.str w.s), some (.str codes), a11, a12, some (.tup hd), a14, none, none, none] S).sat (drawn kvs (m + 1) r q S0) := by
  have sn : ∀ n, n ≤ 1000 → sizeOk n = true := fun n h => sizeOk_of (by omega)
  have hhd : hd.length ≤ 1 := by
    cases w <;> unfold hdOk at hh <;> dsimp only at hh <;> first | (obtain ⟨_, x, rfl, _⟩ := hh; simp) | (obtain ⟨rfl, _⟩ := hh; simp) | (obtain ⟨_, rfl, _⟩ := hh; simp)
  unfold bP G21.b__law_part
  simp only [dropS]
  refine st ?_
  try simp [sn]
  refine ⟨by omega, ?_⟩
  refine st ?_
  try simp
  refine for_sat0 (fun i l S' => ∃ ps : List Pt, l = [some (.ref r), some (.int kd), some (.int deep), some (.ref q), some (.lst names), a5, a6, a7, a8, some (.str w.s), some (.str codes), a11, a12, some (.tup hd), a14, some (.tup (.str w.s :: (hd ++ Pt.ds ps))), l[16]?.getD none, l[17]?.getD none] ∧ ps.length = i ∧ Pt.oks kvs ps ∧ Pt.depths ps ≤ m ∧ Row S' r ∧ Lef S' q ∧ Fr [r, q] S0 S') ?_ ?_ ?_
  · exact ⟨[], by simp [Pt.ds], rfl, trivial, Nat.zero_le _, hr, hl, fr⟩
  · rintro i d l S1 hd' ⟨ps, hl', hi, ok, dp, hr1, hl1, fr1⟩
    rw [List.getElem?_map] at hd'
    cases hcd : codes[i]? with
    | none => rw [hcd] at hd'; cases hd'
    | some c =>
      rw [hcd] at hd'
      simp at hd'
      subst hd'
      have hilt : i < codes.length := (List.getElem?_eq_some_iff.mp hcd).1
      generalize l[16]?.getD none = a16 at hl'
      generalize l[17]?.getD none = a17 at hl'
      subst hl'
      refine ⟨_, rfl, ?_⟩
      refine st ?_
      try simp
      refine R.sat.mono (taken_ok h n S1 r 2 hr1 (by omega) (by omega)) ?_
      rintro _ S2 ⟨j, rfl, j0, j1, hr2, fr2⟩
      try simp
      rw [get_dct rfl]
      obtain ⟨z, hz, ez⟩ := get_kd (c := c) hk (j := j) (by omega)
      rw [ez]
      try simp
      refine st ?_
      try simp
      refine R.sat.mono (ih S2 z hz hr2 (hl1.mono fr2 (by simp; exact Ne.symm hq))) ?_
      rintro _ S3 ⟨p, rfl, pk, pd, hr3, hl3, fr3⟩
      try simp [sn]
      refine ⟨?_, ps ++ [p], ?_, by simp [hi], oks_app ok pk, depths_app dp pd, hr3, hl3, (fr1.trans (fr2.sub (by simp))).trans fr3⟩
      · rw [ds_len]; omega
      · rw [ds_app]
  · rintro l S1 ⟨ps, hl', hi, ok, dp, hr1, hl1, fr1⟩
    generalize l[16]?.getD none = a16 at hl'
    generalize l[17]?.getD none = a17 at hl'
    subst hl'
    dsimp only
    refine st ?_
    try simp
    simp at hi
    exact ⟨.mk w hd ps, rfl, ⟨by rw [hi]; exact hh, ok⟩, by simp only [Pt.depth]; omega, hr1, hl1, fr1⟩
end Q
/-! Q8: parts that are drawn, whole. -/
namespace Q
open Mw
variable {P : Pg}
def condP : Xp := match dropS 10 bP with
  | .cons (.ite c _ _) _ => c
  | _ => .nop
def leafP : Sms := match dropS 10 bP with
  | .cons (.ite _ a _) _ => a
  | _ => .nil
theorem bP10 : dropS 10 bP = .cons (.ite condP leafP .nil) (dropS 11 bP) := rfl
/-- whether it has parts within -/
def PCd (deep : Int) (names : List D) (w : W) (r q : Nat) (S : Store) (d : D) (S' : Store) : Prop := ∃ k, d = .bl k ∧ (k = false → 2 ≤ deep ∧ (w = .w_call → names ≠ [])) ∧ Row S' r ∧ Lef S' q ∧ Fr [r, q] S S'
theorem cond_ok (h : HasD P) (n r q : Nat) (S : Store) (deep : Int) (names : List D) (hn : names.length ≤ 3) (w : W) (a1 a5 a6 a7 a8 a10 a11 a12 a13 a14 a15 a16 a17 : Option D) (hr : Row S r) (hl : Lef S q) (hq : r ≠ q) :
    (ev (P.cfg (n + 1)) condP [some (.ref r), a1, some (.int deep), some (.ref q), some (.lst names), a5, a6, a7, a8, some (.str w.s), a10, a11, a12, a13, a14, a15, a16, a17] S).sat (PCd deep names w r q S) := by
  obtain ⟨a, b, hs⟩ := hl
  unfold condP bP G21.b__law_part
  simp only [dropS]
  try simp
  split
  · try simp
    exact ⟨true, rfl, by simp, hr, ⟨a, b, hs⟩, Fr.refl _ _⟩
  · rename_i hdeep
    try simp [idx_ref hs]
    split
    · try simp
      exact ⟨true, rfl, by simp, hr, ⟨a, b, hs⟩, Fr.refl _ _⟩
    · refine R.sat.mono (taken_ok h n S r 9 hr (by omega) (by omega)) ?_
      rintro _ S2 ⟨j, rfl, j0, j1, hr2, fr2⟩
      have fr2' : Fr [r, q] S S2 := fr2.sub (by simp)
      have hs2 := fr2.get hs (by simp; exact Ne.symm hq)
      try simp
      split
      · try simp
        exact ⟨true, rfl, by simp, hr2, ⟨a, b, hs2⟩, fr2'⟩
      · try simp
        split
        · rename_i hw
          try simp [idx_ref hs2]
          rw [mulOk_r (by omega)]
          try simp
          refine ⟨_, rfl, fun h2 => ⟨by omega, fun hw' e => ?_⟩, hr2, ⟨a, b, hs2⟩, fr2'⟩
          subst e
          simp at h2
        · rename_i hw
          try simp
          refine ⟨false, rfl, fun _ => ⟨by omega, fun e => ?_⟩, hr2, ⟨a, b, hs2⟩, fr2'⟩
          subst e
          exact absurd rfl hw
theorem leaf_ok (h : HasD P) (kvs : List (DK × D)) (m n r q : Nat) (S0 S : Store) (kd : Int) (hk : kd = 0 ∨ kd = 1) (nmc : Nat) (hc : 97 ≤ nmc ∧ nmc ≤ 122) (a2 a4 a6 a7 a8 a9 a10 a13 a14 a15 a16 a17 : Option D) (hr : Row S r) (hl : Lef S q) (hq : r ≠ q) (fr : Fr [r, q] S0 S) (hm : 1 ≤ m) :
    (exs (P.cfg (n + 2)) leafP [some (.ref r), some (.int kd), a2, some (.ref q), a4, some (.str [nmc]), a6, a7, a8, a9, a10, none, none, a13, a14, a15, a16, a17] S).sat (drawn kvs m r q S0) := by
  have sn : ∀ n, n ≤ 1000 → sizeOk n = true := fun n h => sizeOk_of (by omega)
  have fin : ∀ (wd : D) (S : Store), isWo wd → Row S r → Lef S q → Fr [r, q] S0 S → (exs (P.cfg (n + 2)) (dropS 1 leafP) [some (.ref r), some (.int kd), a2, some (.ref q), a4, some (.str [nmc]), a6, a7, a8, a9, a10, some wd, none, a13, a14, a15, a16, a17] S).sat (drawn kvs m r q S0) := by
    intro wd S hwd hr hl fr
    unfold leafP bP G21.b__law_part
    simp only [dropS]
    refine st ?_
    try simp [sn]
    refine st ?_
    try simp
    refine R.sat.mono (taken_ok h (n + 1) S r (6 - kd) hr (by omega) (by omega)) ?_
    rintro _ S2 ⟨j, rfl, j0, j1, hr2, fr2⟩
    try simp
    let ps : List Pt := [.mk .w_none [] [], .mk .w_at [.str [nmc]] [], .mk .w_at [.str [nmc]] [], .mk .w_is [wd] [], .mk .w_is [wd] [], .mk .w_pos [] []]
    obtain ⟨z, hz, hm', _⟩ := at_lt (ds := ps.map Pt.d) j0 (by simp [ps]; omega)
    have hz' : L2.atI [D.tup [.str [110, 111, 110, 101]], D.tup [.str [97, 116], .str [nmc]], D.tup [.str [97, 116], .str [nmc]], D.tup [.str [105, 115], wd], D.tup [.str [105, 115], wd], D.tup [.str [112, 111, 115]]] j = some z := hz
    rw [hz']
    try simp
    obtain ⟨p, hp, rfl⟩ := List.mem_map.mp hm'
    refine ⟨p, rfl, ?_, ?_, hr2, hl.mono fr2 (by simp; exact Ne.symm hq), fr.trans (fr2.sub (by simp))⟩
    · simp only [ps, List.mem_cons, List.not_mem_nil, or_false] at hp
      rcases hp with rfl | rfl | rfl | rfl | rfl | rfl
      · exact ⟨⟨rfl, rfl⟩, trivial⟩
      · exact ⟨⟨rfl, nmc, rfl, hc⟩, trivial⟩
      · exact ⟨⟨rfl, nmc, rfl, hc⟩, trivial⟩
      · exact ⟨⟨rfl, wd, rfl, hwd⟩, trivial⟩
      · exact ⟨⟨rfl, wd, rfl, hwd⟩, trivial⟩
      · exact ⟨⟨rfl, rfl⟩, trivial⟩
    · simp only [ps, List.mem_cons, List.not_mem_nil, or_false] at hp
      rcases hp with rfl | rfl | rfl | rfl | rfl | rfl <;> simp [Pt.depth, Pt.depths] <;> omega
  unfold leafP bP G21.b__law_part at fin ⊢
  simp only [dropS] at fin ⊢
  refine st ?_
  rcases hk with rfl | rfl
  · try simp
    refine R.sat.mono (number_ok h n S r hr) ?_
    rintro _ S2 ⟨j, rfl, j0, j1, hr2, fr2⟩
    exact fin _ _ (.inr ⟨j, rfl, by omega, by omega⟩) hr2 (hl.mono fr2 (by simp; exact Ne.symm hq)) (fr.trans (fr2.sub (by simp)))
  · try simp
    refine R.sat.mono (text_ok h n S r 5 hr (by omega) (by omega)) ?_
    rintro _ S2 ⟨s, rfl, _, hs, hr2, fr2⟩
    exact fin _ _ (.inl ⟨s, rfl, hs.1, fun c hc => by have := hs.2 c hc; omega⟩) hr2 (hl.mono fr2 (by simp; exact Ne.symm hq)) (fr.trans (fr2.sub (by simp)))
/-- behind the word -/
theorem part_tail (h : HasD P) (kvs : List (DK × D)) (names : List D) (hn : NmOk kvs names) (m n r q : Nat) (S0 S : Store) (kd deep : Int) (hk : kd = 0 ∨ kd = 1) (w : W) (codes : List Nat) (hg : good (w, codes) = true) (hc : codes.length ≤ 3) (nmc : Nat) (hcc : 97 ≤ nmc ∧ nmc ≤ 122)
    (ih : 2 ≤ deep → ∀ (S : Store) (kind : Int), kind = 0 ∨ kind = 1 → Row S r → Lef S q → (cfn P (n + 2) "_law_part" [.ref r, .int kind, .int (deep - 1), .ref q, .lst names] S).sat (PPt kvs m r q S))
    (hr : Row S r) (hl : Lef S q) (hq : r ≠ q) (fr : Fr [r, q] S0 S) (a6 a7 a8 : Option D) :
    (exs (P.cfg (n + 2)) (dropS 10 bP) [some (.ref r), some (.int kd), some (.int deep), some (.ref q), some (.lst names), some (.str [nmc]), a6, a7, a8, some (.str w.s), some (.str codes), none, none, none, none, none, none, none] S).sat (drawn kvs (m + 1) r q S0) := by
  have sn : ∀ n, n ≤ 1000 → sizeOk n = true := fun n h => sizeOk_of (by omega)
  rw [bP10]
  refine st (st_if ?_)
  refine R.sat.mono (cond_ok h (n + 1) r q S deep names hn.1 w _ _ _ _ _ _ _ _ _ _ _ _ _ hr hl hq) ?_
  rintro _ S1 ⟨k, rfl, hk1, hr1, hl1, fr1⟩
  refine ⟨k, rfl, ?_⟩
  cases k with
  | true =>
    rw [if_pos rfl]
    have := leaf_ok h kvs (m + 1) n r q S0 S1 kd hk nmc hcc (some (.int deep)) (some (.lst names)) a6 a7 a8 (some (.str w.s)) (some (.str codes)) none none none none none hr1 hl1 hq (fr.trans fr1) (by omega)
    exact RS.sat.mono this (fun _ _ h => h.elim) (fun _ _ h => h) (fun _ _ h => h) (fun _ _ h => h)
  | false =>
    rw [if_neg Bool.false_ne_true]
    obtain ⟨hdeep, hcall⟩ := hk1 rfl
    have ih := ih hdeep
    have fr1 := fr.trans fr1
    have fin : ∀ (S : Store) (hd : List D) (codes : List Nat) (a5 a14 : Option D), hdOk kvs w hd codes.length → codes.length ≤ 3 → Row S r → Lef S q → Fr [r, q] S0 S → (exs (P.cfg (n + 2)) (dropS 14 bP) [some (.ref r), some (.int kd), some (.int deep), some (.ref q), some (.lst names), a5, a6, a7, a8, some (.str w.s), some (.str codes), none, none, some (.tup hd), a14, none, none, none] S).sat (drawn kvs (m + 1) r q S0) :=
      fun S hd codes a5 a14 h1 h2 h3 h4 h5 => part_loop h kvs names m (n + 1) r q S0 S kd deep hk w hd codes h1 h2 ih h3 h4 hq h5 _ _ _ _ _ _ _
    try simp
    unfold bP G21.b__law_part at fin ⊢
    simp only [dropS] at fin ⊢
    refine st ?_
    try simp [sn]
    have hpl : ∀ w : W, w ≠ .w_call → w ≠ .w_set → w ≠ .w_try → w ≠ .w_most → good (w, codes) = true → w.s ≠ [99, 97, 108, 108] ∧ ([115, 101, 116] = w.s → False) ∧ ([116, 114, 121] = w.s → False) ∧ ([109, 111, 115, 116] = w.s → False) ∧ hdOk kvs w [] codes.length := by
      intro w h1 h2 h3 h4 hg
      cases w <;> first | contradiction | (simp [good, W.plain, W.ni] at hg; done) | (refine ⟨by decide, by decide, by decide, by decide, ?_⟩; unfold hdOk; simp [good, W.plain, W.ni] at hg ⊢; exact hg)
    by_cases c1 : w = .w_call
    · subst c1
      have hne := hcall rfl
      have hlen : 0 < names.length := List.length_pos_iff.mpr hne
      obtain ⟨a, b, hs⟩ := hl1
      refine st ?_
      try simp [W.s]
      refine st ?_
      try simp [idx_ref hs, sset_ref hs]
      have hs1 := set_get (o' := .lst [.int a, .int (b - 1)]) hs
      have fr2 : Fr [r, q] S1 (S1.set q (.lst [.int a, .int (b - 1)])) := Fr.set (by simp) _
      have hr2 : Row (S1.set q (.lst [.int a, .int (b - 1)])) r := hr1.mono (ms := [q]) (Fr.set (by simp) _) (by simp; exact hq)
      refine st ?_
      try simp
      refine R.sat.mono (taken_ok h (n + 1) _ r names.length hr2 (by omega) (by have := hn.1; omega)) ?_
      rintro _ S2 ⟨j, rfl, j0, j1, hr3, fr3⟩
      obtain ⟨z, hz, hmz, _⟩ := at_lt (ds := names) j0 j1
      obtain ⟨s, c, rfl, hs1, hc1, hgk⟩ := hn.2 z hmz
      try simp [hz]
      refine st ?_
      have c0 : (0 : Int) ≤ c := by omega
      have c1000 : (c : Int) ≤ 1000 := by omega
      try simp [sn, c0, c1000]
      refine st ?_
      try simp
      have el : (List.replicate c 110).length = c := by simp
      refine fin S2 [.str s] _ _ _ ⟨s, rfl, hs1, by rw [el]; exact hgk⟩ (by rw [el]; omega) hr3 ?_ ((fr1.trans fr2).trans (fr3.sub (by simp)))
      exact ⟨a, b - 1, fr3.get (set_get (o' := .lst [.int a, .int (b - 1)]) hs) (by simp; exact Ne.symm hq)⟩
    by_cases c2 : w = .w_set
    · subst c2
      have hg' : codes.length = 1 := by simpa [good] using hg
      refine st ?_
      try simp [W.s]
      refine st ?_
      try simp
      refine st ?_
      try simp [sn]
      exact fin S1 [.str [nmc]] codes _ _ ⟨hg', nmc, rfl, hcc⟩ hc hr1 hl1 fr1
    by_cases c3 : w = .w_try
    · subst c3
      have hg' : codes.length = 1 := by simpa [good] using hg
      refine st ?_
      try simp [W.s]
      refine st ?_
      try simp
      refine st ?_
      try simp [sn]
      exact fin S1 [.str [nmc]] codes _ _ ⟨hg', nmc, rfl, hcc⟩ hc hr1 hl1 fr1
    by_cases c4 : w = .w_most
    · subst c4
      have hg' : codes.length = 1 := by simpa [good] using hg
      refine st ?_
      try simp [W.s]
      refine st ?_
      try simp
      refine st ?_
      try simp
      refine R.sat.mono (taken_ok h (n + 1) S1 r 4 hr1 (by omega) (by omega)) ?_
      rintro _ S2 ⟨j, rfl, j0, j1, hr3, fr3⟩
      try simp [sn]
      exact fin S2 [.int j] codes _ _ ⟨hg', j, rfl, by omega, by omega⟩ hc hr3 (hl1.mono fr3 (by simp; exact Ne.symm hq)) (fr1.trans (fr3.sub (by simp)))
    · obtain ⟨e1, e2, e3, e4, e5⟩ := hpl w c1 c2 c3 c4 hg
      refine st ?_
      try simp [e1]
      refine st ?_
      try simp
      rw [if_neg (fun z => Or.elim z e2 (fun z => Or.elim z e3 e4))]
      exact fin S1 [] codes _ _ e5 hc hr1 hl1 fr1
theorem part_step (h : HasD P) (kvs : List (DK × D)) (names : List D) (hn : NmOk kvs names) (r q : Nat) (hq : r ≠ q) (m n : Nat) (S : Store) (kind deep : Int) (hd : deep ≤ m + 1) (hk : kind = 0 ∨ kind = 1) (hr : Row S r) (hl : Lef S q)
    (ih : 2 ≤ deep → ∀ (S : Store) (kind : Int), kind = 0 ∨ kind = 1 → Row S r → Lef S q → (cfn P (n + 2) "_law_part" [.ref r, .int kind, .int (deep - 1), .ref q, .lst names] S).sat (PPt kvs m r q S)) :
    (cfn P (n + 3) "_law_part" [.ref r, .int kind, .int deep, .ref q, .lst names] S).sat (PPt kvs (m + 1) r q S) := by
  rw [cfn_succ, h.part]
  obtain ⟨a, b, hs⟩ := hl
  have hs1 := set_get (o' := .lst [.int (a - 1), .int b]) hs
  have fr1 : Fr [r, q] S (S.set q (.lst [.int (a - 1), .int b])) := Fr.set (by simp) _
  have hr1 : Row (S.set q (.lst [.int (a - 1), .int b])) r := hr.mono (ms := [q]) (Fr.set (by simp) _) (by simp; exact hq)
  have sn : ∀ n, n ≤ 1000 → sizeOk n = true := fun n h => sizeOk_of (by omega)
  have two : ∀ (S1 : Store) (kd : Int), (kd = 0 ∨ kd = 1) → Row S1 r → Lef S1 q → Fr [r, q] S S1 → (exs (P.cfg (n + 2)) (dropS 2 bP) [some (.ref r), some (.int kd), some (.int deep), some (.ref q), some (.lst names), none, none, none, none, none, none, none, none, none, none, none, none, none] S1).sat (drawn kvs (m + 1) r q S) := by
    intro S1 kd hk hr hl fr
    have three : ∀ (S1 : Store) (c : Nat), 97 ≤ c ∧ c ≤ 122 → Row S1 r → Lef S1 q → Fr [r, q] S S1 → (exs (P.cfg (n + 2)) (dropS 3 bP) [some (.ref r), some (.int kd), some (.int deep), some (.ref q), some (.lst names), some (.str [c]), none, none, none, none, none, none, none, none, none, none, none, none] S1).sat (drawn kvs (m + 1) r q S) := by
      intro S1 c hc hr hl fr
      refine words_step hk fun a7 a8 => ?_
      have nine : dropS 9 bP = .cons (.unp [9, 10] (.idx (.var 6) (.call "_law_taken" [] (.cons (.var 0) (.cons (.blt .len false (.cons (.var 6) .nil)) .nil))))) (dropS 10 bP) := rfl
      rw [nine]
      refine st ?_
      try simp
      have hlen : ((wcsD kd).length : Int) < 1000 ∧ 0 < (wcsD kd).length := by rcases hk with rfl | rfl <;> decide
      refine R.sat.mono (taken_ok h (n + 1) S1 r (wcsD kd).length hr (by omega) (by omega)) ?_
      rintro _ S2 ⟨j, rfl, j0, j1, hr2, fr2⟩
      obtain ⟨z, hz, hmz, _⟩ := at_lt (ds := wcsD kd) j0 j1
      obtain ⟨⟨w, codes⟩, hw, rfl⟩ := List.mem_map.mp hmz
      have hg := wcs_good kd _ hw
      have hcl : ∀ x ∈ wcs kd, x.2.length ≤ 3 := by rcases hk with rfl | rfl <;> decide
      try simp [hz]
      exact part_tail h kvs names hn m n r q S S2 kd deep hk w codes hg (hcl _ hw) c hc ih hr2 (hl.mono fr2 (by simp; exact Ne.symm hq)) hq (fr.trans (fr2.sub (by simp))) _ _ _
    unfold bP G21.b__law_part at three ⊢
    simp only [dropS] at three ⊢
    refine st ?_
    rcases hk with rfl | rfl
    · simp [sn]
      refine R.sat.mono (taken_ok h (n + 1) S1 r 2 hr (by omega) (by omega)) ?_
      rintro _ S2 ⟨j, rfl, j0, j1, hr2, fr2⟩
      obtain ⟨z, hz, hmz, _⟩ := at_lt (ds := [97, 98]) j0 (by simpa using j1)
      try simp [hz, sn]
      exact three S2 z (by simp at hmz; omega) hr2 (hl.mono fr2 (by simp; exact Ne.symm hq)) (fr.trans (fr2.sub (by simp)))
    · simp [sn]
      refine R.sat.mono (taken_ok h (n + 1) S1 r 2 hr (by omega) (by omega)) ?_
      rintro _ S2 ⟨j, rfl, j0, j1, hr2, fr2⟩
      obtain ⟨z, hz, hmz, _⟩ := at_lt (ds := [120, 121]) j0 (by simpa using j1)
      try simp [hz, sn]
      exact three S2 z (by simp at hmz; omega) hr2 (hl.mono fr2 (by simp; exact Ne.symm hq)) (fr.trans (fr2.sub (by simp)))
  unfold bP G21.b__law_part at two
  simp only [dropS] at two
  unfold G21.f__law_part G21.b__law_part
  try simp [Mw.run]
  refine RS.sat.mono (F := drawn kvs (m + 1) r q S) ?_ (fun _ _ h => h.elim) (fun _ _ h => h) (fun _ _ h => h) (fun _ _ h => h)
  refine st ?_
  try simp [idx_ref hs, sset_ref hs]
  refine st ?_
  try simp
  refine R.sat.mono (taken_ok h (n + 1) _ r 12 hr1 (by omega) (by omega)) ?_
  rintro _ S2 ⟨j, rfl, j0, j1, hr2, fr2⟩
  try simp
  have hl2 : Lef S2 q := ⟨_, _, fr2.get hs1 (by simp; exact Ne.symm hq)⟩
  split
  · exact two S2 kind hk hr2 hl2 (fr1.trans (fr2.sub (by simp)))
  · exact two S2 (1 - kind) (by omega) hr2 hl2 (fr1.trans (fr2.sub (by simp)))
theorem part_ok (h : HasD P) (kvs : List (DK × D)) (names : List D) (hn : NmOk kvs names) (r q : Nat) (hq : r ≠ q) : ∀ (m n : Nat) (S : Store) (kind deep : Int), deep ≤ m + 1 → kind = 0 ∨ kind = 1 → Row S r → Lef S q →
    (cfn P (n + m + 3) "_law_part" [.ref r, .int kind, .int deep, .ref q, .lst names] S).sat (PPt kvs (m + 1) r q S) := by
  intro m
  induction m with
  | zero => exact fun n S kind deep hd hk hr hl => part_step h kvs names hn r q hq 0 n S kind deep hd hk hr hl fun h2 => by omega
  | succ m ihm =>
    exact fun n S kind deep hd hk hr hl => part_step h kvs names hn r q hq (m + 1) (n + m + 1) S kind deep hd hk hr hl fun h2 S kind hk hr hl => by
      have := ihm n S kind (deep - 1) (by omega) hk hr hl
      exact this
end Q
/-! Q9: programs that are drawn. -/
namespace Q
open Mw
variable {P : Pg}
theorem cut_take {α : Type} {a b : α} {c : Nat} (h : c ≤ 2) : cut [a, b] none (some (c : Int)) = [a, b].take c := by
  have h' : c = 0 ∨ c = 1 ∨ c = 2 := by omega
  rcases h' with rfl | rfl | rfl <;> rfl
theorem cut_take3 {α : Type} {a b d : α} {c : Nat} (h : c ≤ 3) : cut [a, b, d] none (some (c : Int)) = [a, b, d].take c := by
  have h' : c = 0 ∨ c = 1 ∨ c = 2 ∨ c = 3 := by omega
  rcases h' with rfl | rfl | rfl | rfl <;> rfl
/-- as it's drawn -/
structure Pr.dr (x : Pr) : Prop where
  main : x.main.ok (kvsOf x.deeds)
  md : x.main.depth ≤ 5
  few : x.deeds.length ≤ 3
  nd : (x.deeds.map Dd.name).Nodup
  deed : ∀ y ∈ x.deeds, y.ok ∧ y.body.ok (kvsOf x.deeds) ∧ y.body.depth ≤ 3
def nmD (x : List Nat × Nat) : D := .tup [.str x.1, .int x.2]
def nmK (x : List Nat × Nat) : DK × D := (.inr x.1, .int x.2)
def nl3 (c1 c2 : Nat) : List (List Nat × Nat) := [([102], c1), ([115, 117, 98], c2), ([103], 0)]
theorem nl_ok {c1 c2 j : Nat} (h1 : c1 ≤ 2) (h2 : c2 ≤ 2) : NmOk (((nl3 c1 c2).take j).map nmK) (((nl3 c1 c2).take j).map nmD) := by
  have hs : ∀ x ∈ nl3 c1 c2, isNm x.1 ∧ x.2 ≤ 2 := by
    intro x hx
    simp only [nl3, List.mem_cons, List.not_mem_nil, or_false] at hx
    rcases hx with rfl | rfl | rfl
    · exact ⟨⟨⟨by simp, by simp⟩, by simp⟩, h1⟩
    · exact ⟨⟨⟨by simp, by simp⟩, by simp⟩, h2⟩
    · exact ⟨⟨by decide, by decide⟩, by decide⟩
  refine ⟨by simp [nl3]; omega, fun d hd => ?_⟩
  obtain ⟨x, hx, rfl⟩ := List.mem_map.mp hd
  have hx3 := List.mem_of_mem_take hx
  refine ⟨x.1, x.2, rfl, (hs x hx3).1, (hs x hx3).2, ?_⟩
  have hj : j = 0 ∨ j = 1 ∨ j = 2 ∨ 3 ≤ j := by omega
  have e3 : 3 ≤ j → (nl3 c1 c2).take j = nl3 c1 c2 := fun h => List.take_of_length_le (by simp [nl3]; exact h)
  rcases hj with rfl | rfl | rfl | hj
  · simp at hx
  · simp only [nl3, List.take, List.mem_cons, List.not_mem_nil, or_false] at hx
    subst hx
    rfl
  · simp only [nl3, List.take, List.mem_cons, List.not_mem_nil, or_false] at hx
    rcases hx with rfl | rfl <;> rfl
  · rw [e3 hj] at hx ⊢
    simp only [nl3, List.mem_cons, List.not_mem_nil, or_false] at hx
    rcases hx with rfl | rfl | rfl <;> rfl
theorem nl_nd (c1 c2 j : Nat) : (((nl3 c1 c2).take j).map (·.1)).Nodup := by
  rw [List.map_take]
  refine List.Nodup.sublist (List.take_sublist _ _) ?_
  try simp [nl3]
def IPr (r q u : Nat) (many calls : Int) (nl : List (List Nat × Nat)) (p : Pt) (S : Store) (i : Nat) (l : LEnv) (S' : Store) : Prop := ∃ ds : List Dd, l = [some (.ref r), some (.int many), some (.int calls), some (.lst (nl.map nmD)), some (.ref q), some p.d, some (.ref u), l[7]?.getD none, l[8]?.getD none, l[9]?.getD none] ∧ S'[u]? = some (.lst (ds.map Dd.d)) ∧ ds.map (fun y => (y.name, y.cells.length)) = nl.take i ∧ ds.length = i ∧
    (∀ y ∈ ds, y.ok ∧ y.body.ok (nl.map nmK) ∧ y.body.depth ≤ 3) ∧ Row S' r ∧ Lef S' q ∧ Fr [r, q] S S'
def PPr (r : Nat) (S : Store) (d : D) (S' : Store) : Prop := ∃ x : Pr, d = x.d ∧ x.dr ∧ Row S' r ∧ Fr [r] S S'
theorem program_ok (h : HasD P) (n r : Nat) (S : Store) (many calls : Int) (hr : Row S r) :
    (cfn P (n + 8) "_law_program" [.ref r, .int many, .int calls] S).sat (PPr r S) := by
  have sn : ∀ n, n ≤ 1000 → sizeOk n = true := fun n h => sizeOk_of (by omega)
  have hrl : r < S.length := by obtain ⟨_, _, _, _, hs, _⟩ := hr; exact (List.getElem?_eq_some_iff.mp hs).1
  rw [cfn_succ, h.program]
  unfold G21.f__law_program G21.b__law_program
  try simp [Mw.run]
  refine st ?_
  try simp
  refine R.sat.mono (taken_ok h _ S r 3 hr (by omega) (by omega)) ?_
  rintro _ S1 ⟨j1, rfl, a1, b1, hr1, fr1⟩
  try simp [sn]
  refine R.sat.mono (taken_ok h _ S1 r 3 hr1 (by omega) (by omega)) ?_
  rintro _ S2 ⟨j2, rfl, a2, b2, hr2, fr2⟩
  try simp [sn]
  refine R.sat.mono (taken_ok h _ S2 r 4 hr2 (by omega) (by omega)) ?_
  rintro _ S3 ⟨j3, rfl, a3, b3, hr3, fr3⟩
  obtain ⟨c1, rfl⟩ : ∃ c : Nat, j1 = c := ⟨j1.toNat, by omega⟩
  obtain ⟨c2, rfl⟩ : ∃ c : Nat, j2 = c := ⟨j2.toNat, by omega⟩
  obtain ⟨c3, rfl⟩ : ∃ c : Nat, j3 = c := ⟨j3.toNat, by omega⟩
  try simp
  have enl : cut [D.tup [.str [102], .int c1], D.tup [.str [115, 117, 98], .int c2], D.tup [.str [103], .int 0]] none (some (c3 : Int)) = ((nl3 c1 c2).take c3).map nmD := by
    rw [cut_take3 (by omega), List.map_take]; rfl
  rw [enl]
  have hnl := nl_ok (c1 := c1) (c2 := c2) (j := c3) (by omega) (by omega)
  have hnd := nl_nd c1 c2 c3
  have hlen : ((nl3 c1 c2).take c3).length ≤ 3 := by simp [nl3]; omega
  have hx2 : ∀ x ∈ (nl3 c1 c2).take c3, isNm x.1 ∧ x.2 ≤ 2 := by
    intro x hx
    obtain ⟨s, c, e, k1, k2, _⟩ := hnl.2 (nmD x) (List.mem_map_of_mem hx)
    unfold nmD at e
    simp at e
    rw [e.1]
    exact ⟨k1, by omega⟩
  generalize (nl3 c1 c2).take c3 = nl at hnl hnd hlen hx2
  have fr0 : Fr [r] S S3 := (fr1.trans fr2).trans fr3
  have frl := fr0.1
  refine st ?_
  try simp [sn]
  have hr4 : Row (S3 ++ [.lst [.int many, .int calls]]) r := hr3.mono (Fr.more [] _ _) (by simp)
  have hl4 : Lef (S3 ++ [.lst [.int many, .int calls]]) S3.length := ⟨many, calls, by simp⟩
  have fr4 : Fr [r, S3.length] S (S3 ++ [.lst [.int many, .int calls]]) := (fr0.sub (by simp)).trans (Fr.more _ _ _)
  have hne : r ≠ S3.length := by omega
  generalize hS4 : S3 ++ [MO.lst [.int many, .int calls]] = S4 at hr4 hl4 fr4
  refine st ?_
  try simp
  refine R.sat.mono (taken_ok h _ S4 r 3 hr4 (by omega) (by omega)) ?_
  rintro _ S5 ⟨j4, rfl, a4, b4, hr5, fr5⟩
  try simp
  refine R.sat.mono (taken_ok h _ S5 r 4 hr5 (by omega) (by omega)) ?_
  rintro _ S6 ⟨j5, rfl, a5, b5, hr6, fr6⟩
  try simp
  have hl6 : Lef S6 S3.length := (hl4.mono fr5 (by simp; omega)).mono fr6 (by simp; omega)
  have pk := part_ok h (nl.map nmK) (nl.map nmD) hnl r S3.length hne 4 n S6 (j4 / 2) (2 + j5) (by omega) (by omega) hr6 hl6
  refine R.sat.mono pk ?_
  rintro _ S7 ⟨p, rfl, pok, pdp, hr7, hl7, fr7⟩
  have fr7 : Fr [r, S3.length] S S7 := (fr4.trans ((fr5.sub (by simp)).trans (fr6.sub (by simp)))).trans fr7
  have hl7lt : S3.length < S7.length := by obtain ⟨_, _, hs⟩ := hl7; exact (List.getElem?_eq_some_iff.mp hs).1
  refine st ?_
  try simp [sn]
  refine st ?_
  try simp
  refine for_sat0 (IPr r S3.length S7.length many calls nl p S) ?_ ?_ ?_
  · exact ⟨[], rfl, by simp, rfl, rfl, by simp, hr7.mono (Fr.more [] _ _) (by simp), hl7.mono (Fr.more [] _ _) (by simp), fr7.trans (Fr.more _ _ _)⟩
  · rintro i d l S' hd ⟨ds, hl', hds, hnm, hi, hok, hr8, hl8, fr8⟩
    generalize l[7]?.getD none = x7 at hl'
    generalize l[8]?.getD none = x8 at hl'
    generalize l[9]?.getD none = x9 at hl'
    subst hl'
    rw [List.getElem?_map] at hd
    cases hx : nl[i]? with
    | none => rw [hx] at hd; cases hd
    | some x =>
      rw [hx] at hd
      simp at hd
      subst hd
      have hxm := List.mem_of_getElem? hx
      have hilt : i < nl.length := (List.getElem?_eq_some_iff.mp hx).1
      refine ⟨_, rfl, ?_⟩
      obtain ⟨la, lb, hls⟩ := hl8
      have hltd : S7.length < S'.length := (List.getElem?_eq_some_iff.mp hds).1
      refine st ?_
      try simp [sset_ref hls]
      have hls' := set_get (o' := .lst [.int (min many 7), .int lb]) hls
      have frs : Fr [S3.length] S' (S'.set S3.length (.lst [.int (min many 7), .int lb])) := Fr.set (by simp) _
      have hds' := frs.get hds (by simp; omega)
      have hr9 := hr8.mono frs (by simp; omega)
      have fr9 := fr8.trans (frs.sub (by simp))
      generalize S'.set S3.length (.lst [.int (min many 7), .int lb]) = S8 at hls' frs hds' hr9 fr9
      refine st ?_
      try simp
      refine R.sat.mono (taken_ok h _ S8 r 3 hr9 (by omega) (by omega)) ?_
      rintro _ S9 ⟨j6, rfl, a6, b6, hr10, fr10⟩
      try simp
      have hl10 : Lef S9 S3.length := ⟨_, _, fr10.get hls' (by simp; omega)⟩
      have hds10 := fr10.get hds' (by simp; omega)
      have pk := part_ok h (nl.map nmK) (nl.map nmD) hnl r S3.length hne 2 (n + 2) S9 0 (1 + j6) (by omega) (by omega) hr10 hl10
      refine R.sat.mono pk ?_
      rintro _ S10 ⟨p2, rfl, pok2, pdp2, hr11, hl11, fr11⟩
      have hds11 := fr11.get hds10 (by simp; omega)
      have fr11 := (fr9.trans (fr10.sub (by simp))).trans fr11
      refine st ?_
      try simp [pre_app hds11, len_ref hds11]
      have hxc := (hx2 x hxm).2
      have fin : ∀ cs : List Nat, cs.length = x.2 → (∀ c ∈ cs, 97 ≤ c ∧ c ≤ 122) → cs.Nodup → ∀ z7 z8 z9 : Option D, (mtdR .append (.ref S7.length) [.tup [.str x.1, .tup (cs.map fun c => .str [c]), p2.d]] S10).sat (fun _ S1 => IPr r S3.length S7.length many calls nl p S (i + 1) [some (.ref r), some (.int many), some (.int calls), some (.lst (nl.map nmD)), some (.ref S3.length), some p.d, some (.ref S7.length), z7, z8, z9] S1) := by
        intro cs e1 e2 e3 z7 z8 z9
        rw [app_ok hds11 (by simp; omega), sat_ok]
        refine ⟨ds ++ [⟨x.1, cs, p2⟩], rfl, ?_, by rw [List.take_add_one, hx]; simp [hnm, e1], by simp [hi], fun y hy => ?_, hr11.mono (ms := [S7.length]) (Fr.set (by simp) _) (by simp; omega), hl11.mono (ms := [S7.length]) (Fr.set (by simp) _) (by simp; omega), fr11.setNew (by omega) _⟩
        · rw [set_get hds11]; simp [Dd.d]
        · rcases List.mem_append.mp hy with hy | hy
          · exact hok y hy
          · simp at hy
            subst hy
            exact ⟨⟨(hx2 x hxm).1, by show cs.length ≤ 2; omega, e3, e2⟩, pok2, pdp2⟩
      have tk : ∀ a b : Nat, a ≠ b → (97 ≤ a ∧ a ≤ 122) → (97 ≤ b ∧ b ≤ 122) → ([a, b].take x.2).length = x.2 ∧ (∀ c ∈ [a, b].take x.2, 97 ≤ c ∧ c ≤ 122) ∧ ([a, b].take x.2).Nodup ∧ cut [D.str [a], D.str [b]] none (some (x.2 : Int)) = ([a, b].take x.2).map fun c => D.str [c] := by
        intro a b hab ha hb
        refine ⟨by simp; omega, fun c hc => ?_, List.Nodup.sublist (List.take_sublist _ _) (by simpa using hab), ?_⟩
        · have := List.mem_of_mem_take hc
          simp at this
          omega
        · rw [cut_take hxc, List.map_take]; rfl
      rcases Nat.mod_two_eq_zero_or_one i with e | e
      · have e' : ((i : Int) % 2) = 0 := by omega
        obtain ⟨t1, t2, t3, t4⟩ := tk 97 99 (by decide) (by decide) (by decide)
        simp [hi, e', nmD, t4]
        have z := fin _ t1 t2 t3 (some (.str x.1)) (some (.int x.2)) (some p2.d)
        rw [List.map_take] at z
        exact z
      · have e' : ((i : Int) % 2) = 1 := by omega
        obtain ⟨t1, t2, t3, t4⟩ := tk 98 97 (by decide) (by decide) (by decide)
        simp [hi, e', nmD, t4]
        have z := fin _ t1 t2 t3 (some (.str x.1)) (some (.int x.2)) (some p2.d)
        rw [List.map_take] at z
        exact z
  · rintro l S' ⟨ds, hl', hds, hnm, hi, hok, hr8, hl8, fr8⟩
    generalize l[7]?.getD none = x7 at hl'
    generalize l[8]?.getD none = x8 at hl'
    generalize l[9]?.getD none = x9 at hl'
    subst hl'
    dsimp only
    refine st ?_
    simp [tuple_r hds]
    rw [List.length_map, List.take_length] at hnm
    have ek : kvsOf ds = nl.map nmK := by
      rw [← hnm, List.map_map]
      rfl
    refine ⟨⟨p, ds⟩, rfl, ⟨by rw [ek]; exact pok, pdp, by show ds.length ≤ 3; rw [List.length_map] at hi; omega, ?_, fun y hy => by rw [ek]; exact hok y hy⟩, hr8, fr8.sub (by simp; omega)⟩
    have : ds.map Dd.name = nl.map (·.1) := by rw [← hnm, List.map_map]; rfl
    rw [this]
    exact hnd
end Q
/-! Q10: parts whose worths can be counted; programs without fault. -/
namespace Q
open Mw
variable {P : Pg}
structure HasBp (P : Pg) : Prop where
  bpart : P.fns.lookup "_law_bound_part" = some G21.f__law_bound_part
structure HasB (P : Pg) : Prop where
  within : P.fns.lookup "_law_within" = some G21.f__law_within
  fault : P.fns.lookup "_law_fault_free" = some G21.f__law_fault_free
def Lef1 (S : Store) (q : Nat) : Prop := ∃ a : Int, S[q]? = some (.lst [.int a])
theorem Lef1.mono {S S' : Store} {r : Nat} {ms : List Nat} (h : Lef1 S r) (f : Fr ms S S') (hm : r ∉ ms) : Lef1 S' r := by
  obtain ⟨a, hs⟩ := h
  exact ⟨a, f.get hs hm⟩
abbrev bB : Sms := G21.b__law_bound_part
def wbs : List W := [.w_to, .w_or, .w_and, .w_plus, .w_not, .w_again, .w_most, .w_if, .w_below, .w_find, .w_say, .w_scan, .w_to, .w_or]
def bar : W → Nat
  | .w_not => 1 | .w_again => 1 | .w_most => 1 | .w_find => 1 | .w_say => 1
  | .w_if => 3
  | _ => 2
def PBt (kvs : List (DK × D)) (m r q : Nat) (S : Store) (d : D) (S' : Store) : Prop := ∃ p : Pt, d = p.d ∧ p.ok kvs ∧ p.depth ≤ m ∧ Row S' r ∧ Lef1 S' q ∧ Fr [r, q] S S'
theorem bar_hd {kvs : List (DK × D)} {w : W} (h : w ∈ wbs) (j : Int) (hj : 0 ≤ j ∧ j ≤ 9) : (w = .w_most → hdOk kvs w [.int j] (bar w)) ∧ (w ≠ .w_most → hdOk kvs w [] (bar w)) := by
  simp only [wbs, List.mem_cons, List.not_mem_nil, or_false] at h
  rcases h with rfl | rfl | rfl | rfl | rfl | rfl | rfl | rfl | rfl | rfl | rfl | rfl | rfl | rfl <;> (refine ⟨fun h => ?_, fun h => ?_⟩) <;> first | (exact absurd h (by decide)) | exact ⟨rfl, rfl⟩ | exact ⟨rfl, j, rfl, hj⟩
theorem most_of {w : W} (h : w.s = [109, 111, 115, 116]) : w = .w_most := by
  cases w <;> first | rfl | (exact absurd h (by decide))
theorem bB_many (g : Cfg) (w : W) (h : w ∈ wbs) (a0 a1 a2 a3 a4 a6 a7 : Option D) (S : Store) (F : En) (k : ∀ b : Int, b = (bar w : Int) → (exs g (dropS 5 bB) [a0, a1, a2, a3, a4, some (.str w.s), some (.int b), a7] S).sat F) : (exs g (dropS 4 bB) [a0, a1, a2, a3, a4, some (.str w.s), a6, a7] S).sat F := by
  unfold bB G21.b__law_bound_part at k ⊢
  simp only [dropS] at k ⊢
  refine st ?_
  simp only [wbs, List.mem_cons, List.not_mem_nil, or_false] at h
  rcases h with rfl | rfl | rfl | rfl | rfl | rfl | rfl | rfl | rfl | rfl | rfl | rfl | rfl | rfl <;> (simp [W.s]; exact k _ rfl)
theorem bpart_five (h : HasD P) (kvs : List (DK × D)) (r q : Nat) (hq : r ≠ q) (m n : Nat) (S : Store) (deep : Int)
    (ih : ∀ (S : Store), Row S r → Lef1 S q → (cfn P (n + 2) "_law_bound_part" [.ref r, .int (deep - 1), .ref q] S).sat (PBt kvs m r q S)) :
    ∀ (w : W), w ∈ wbs → ∀ (S1 : Store) (a4 : Option D) (b : Int), b = (bar w : Int) → Row S1 r → Lef1 S1 q → Fr [r, q] S S1 → (exs (P.cfg (n + 2)) (dropS 5 bB) [some (.ref r), some (.int deep), some (.ref q), none, a4, some (.str w.s), some (.int b), none] S1).sat { rt := PBt kvs (m + 1) r q S } := by
  intro w hw S1 a4 b eb hr hl fr
  have b3 : bar w ≤ 3 := by cases w <;> decide
  have b0 : 0 ≤ b ∧ b ≤ 3 := by omega
  unfold bB G21.b__law_bound_part
  simp only [dropS]
  refine st ?_
  try simp
  refine ⟨by omega, ?_⟩
  refine lc_sat0 (fun i acc S' => ∃ ps : List Pt, acc = Pt.ds ps ∧ ps.length = i ∧ Pt.oks kvs ps ∧ Pt.depths ps ≤ m ∧ Row S' r ∧ Lef1 S' q ∧ Fr [r, q] S S') (by simp; omega) ?_ ?_ ?_
  · exact ⟨[], rfl, rfl, trivial, Nat.zero_le _, hr, hl, fr⟩
  · rintro i d acc S' hd ⟨ps, rfl, hi, ok, dp, hr2, hl2, fr2⟩
    obtain ⟨rfl, _⟩ := rng_get hd
    refine ⟨_, rfl, ?_⟩
    try simp
    refine R.sat.mono (ih S' hr2 hl2) ?_
    rintro _ S3 ⟨p, rfl, pk, pd, hr3, hl3, fr3⟩
    exact ⟨ps ++ [p], (ds_app ps p).symm, by simp [hi], oks_app ok pk, depths_app dp pd, hr3, hl3, fr2.trans fr3⟩
  · rintro acc S' ⟨ps, rfl, hi, ok, dp, hr2, hl2, fr2⟩
    have hi : ps.length = bar w := by rw [hi, rng_len]; omega
    try simp
    have fl : ps.length ≤ 3 := by omega
    refine st ?_
    try simp
    split
    · rename_i hwm
      have hw' := most_of hwm
      subst hw'
      refine R.sat.mono (taken_ok h _ S' r 10 hr2 (by omega) (by omega)) ?_
      rintro _ S2 ⟨j, rfl, j0, j1, hr3, fr3⟩
      try simp
      refine ⟨by rw [ds_len]; omega, ?_⟩
      exact ⟨.mk .w_most [.int j] ps, rfl, ⟨by rw [hi]; exact (bar_hd hw j (by omega)).1 rfl, ok⟩, by simp only [Pt.depth]; omega, hr3, hl2.mono fr3 (by simp; exact Ne.symm hq), fr2.trans (fr3.sub (by simp))⟩
    · rename_i hwm
      try simp
      refine ⟨by rw [ds_len]; omega, ?_⟩
      have hh : hdOk kvs w [] (bar w) := (bar_hd hw 0 (by decide)).2 (fun e => hwm (by rw [e]; rfl))
      exact ⟨.mk w [] ps, rfl, ⟨by rw [hi]; exact hh, ok⟩, by simp only [Pt.depth]; omega, hr2, hl2, fr2⟩
theorem bpart_four (h : HasD P) (kvs : List (DK × D)) (r q : Nat) (hq : r ≠ q) (m n : Nat) (S : Store) (deep : Int)
    (ih : ∀ (S : Store), Row S r → Lef1 S q → (cfn P (n + 2) "_law_bound_part" [.ref r, .int (deep - 1), .ref q] S).sat (PBt kvs m r q S))
    (w : W) (hw : w ∈ wbs) (S1 : Store) (a4 : Option D) (h1 : Row S1 r) (h2 : Lef1 S1 q) (h3 : Fr [r, q] S S1) : (exs (P.cfg (n + 2)) (dropS 4 bB) [some (.ref r), some (.int deep), some (.ref q), none, a4, some (.str w.s), none, none] S1).sat { rt := PBt kvs (m + 1) r q S } :=
  bB_many (P.cfg (n + 2)) w hw (some (.ref r)) (some (.int deep)) (some (.ref q)) none a4 none none S1 { rt := PBt kvs (m + 1) r q S } fun b eb => bpart_five h kvs r q hq m n S deep ih w hw S1 a4 b eb h1 h2 h3
theorem bpart_step (h : HasD P) (hb : HasBp P) (kvs : List (DK × D)) (r q : Nat) (hq : r ≠ q) (m n : Nat) (S : Store) (deep : Int) (hd : deep = m + 1) (hr : Row S r) (hl : Lef1 S q)
    (ih : 1 ≤ m → ∀ (S : Store), Row S r → Lef1 S q → (cfn P (n + 2) "_law_bound_part" [.ref r, .int (deep - 1), .ref q] S).sat (PBt kvs m r q S)) :
    (cfn P (n + 3) "_law_bound_part" [.ref r, .int deep, .ref q] S).sat (PBt kvs (m + 1) r q S) := by
  rw [cfn_succ, hb.bpart]
  obtain ⟨a, hs⟩ := hl
  have hs1 := set_get (o' := .lst [.int (a - 1)]) hs
  have fr1 : Fr [r, q] S (S.set q (.lst [.int (a - 1)])) := Fr.set (by simp) _
  have hr1 : Row (S.set q (.lst [.int (a - 1)])) r := hr.mono (ms := [q]) (Fr.set (by simp) _) (by simp; exact hq)
  have rest : 1 ≤ m → ∀ S1, Row S1 r → Lef1 S1 q → Fr [r, q] S S1 → (exs (P.cfg (n + 2)) (dropS 2 bB) [some (.ref r), some (.int deep), some (.ref q), none, none, none, none, none] S1).sat { rt := PBt kvs (m + 1) r q S } := by
    intro hm S1 hr hl fr
    have four := bpart_four h kvs r q hq m n S deep (ih hm)
    unfold bB G21.b__law_bound_part at four ⊢
    simp only [dropS] at four ⊢
    refine st ?_
    try simp
    refine st ?_
    try simp
    refine R.sat.mono (taken_ok h _ S1 r 14 hr (by omega) (by omega)) ?_
    rintro _ S2 ⟨j, rfl, j0, j1, hr2, fr2⟩
    obtain ⟨z, hz, hmz, _⟩ := at_lt (ds := wbs.map fun w => D.str w.s) j0 (by simpa [wbs] using j1)
    obtain ⟨w, hw, rfl⟩ := List.mem_map.mp hmz
    have hz' := hz
    simp only [wbs, List.map, W.s] at hz'
    try simp
    rw [hz']
    exact four w hw S2 _ hr2 (hl.mono fr2 (by simp; exact Ne.symm hq)) (fr.trans (fr2.sub (by simp)))
  unfold bB G21.b__law_bound_part at rest
  simp only [dropS] at rest
  unfold G21.f__law_bound_part G21.b__law_bound_part
  try simp [Mw.run]
  refine st ?_
  try simp [idx_ref hs, sset_ref hs]
  have leaf : ∀ S1, Row S1 r → Lef1 S1 q → Fr [r, q] S S1 → ∀ F, (exs (P.cfg (n + 2)) (.cons (.asg 3 (.lst false (.cons (.tup (.cons (.con (D.str [105, 115])) (.cons (.call "_law_taken" [] (.cons (.var 0) (.cons (.con (D.int 150)) .nil))) .nil))) (.cons (.tup (.cons (.con (D.str [110, 111, 110, 101])) .nil)) (.cons (.tup (.cons (.con (D.str [105, 115])) (.cons (.con (D.str [98])) .nil))) (.cons (.tup (.cons (.con (D.str [97, 116])) (.cons (.con (D.str [97])) .nil))) (.cons (.tup (.cons (.con (D.str [105, 115])) (.cons (.bin false .Sub (.call "_law_taken" [] (.cons (.var 0) (.cons (.con (D.int 4)) .nil))) (.con (D.int 9))) .nil))) .nil))))))) (.cons (.ret (.idx (.var 3) (.call "_law_taken" [] (.cons (.var 0) (.cons (.con (D.int 5)) .nil))))) .nil)) [some (.ref r), some (.int deep), some (.ref q), none, none, none, none, none] S1).sat { nx := F, rt := PBt kvs (m + 1) r q S } := by
    intro S1 hr hl fr F
    refine st ?_
    try simp
    refine R.sat.mono (taken_ok h _ S1 r 150 hr (by omega) (by omega)) ?_
    rintro _ S2 ⟨j, rfl, j0, j1, hr2, fr2⟩
    try simp
    refine R.sat.mono (taken_ok h _ S2 r 4 hr2 (by omega) (by omega)) ?_
    rintro _ S3 ⟨j2, rfl, j20, j21, hr3, fr3⟩
    try simp
    refine st ?_
    try simp
    refine R.sat.mono (taken_ok h _ S3 r 5 hr3 (by omega) (by omega)) ?_
    rintro _ S4 ⟨j3, rfl, j30, j31, hr4, fr4⟩
    let ps : List Pt := [.mk .w_is [.int j] [], .mk .w_none [] [], .mk .w_is [.str [98]] [], .mk .w_at [.str [97]] [], .mk .w_is [.int (j2 - 9)] []]
    obtain ⟨z, hz, hm', _⟩ := at_lt (ds := ps.map Pt.d) j30 (by simp [ps]; omega)
    have hz' : L2.atI [D.tup [.str [105, 115], .int j], D.tup [.str [110, 111, 110, 101]], D.tup [.str [105, 115], .str [98]], D.tup [.str [97, 116], .str [97]], D.tup [.str [105, 115], .int (j2 - 9)]] j3 = some z := hz
    try simp
    rw [hz']
    try simp
    obtain ⟨p, hp, rfl⟩ := List.mem_map.mp hm'
    refine ⟨p, rfl, ?_, ?_, hr4, ((hl.mono fr2 (by simp; exact Ne.symm hq)).mono fr3 (by simp; exact Ne.symm hq)).mono fr4 (by simp; exact Ne.symm hq), fr.trans (((fr2.trans fr3).trans fr4).sub (by simp))⟩
    · simp only [ps, List.mem_cons, List.not_mem_nil, or_false] at hp
      rcases hp with rfl | rfl | rfl | rfl | rfl
      · exact ⟨⟨rfl, _, rfl, .inr ⟨_, rfl, by omega, by omega⟩⟩, trivial⟩
      · exact ⟨⟨rfl, rfl⟩, trivial⟩
      · exact ⟨⟨rfl, _, rfl, .inl ⟨_, rfl, by simp, by simp⟩⟩, trivial⟩
      · exact ⟨⟨rfl, 97, rfl, by omega⟩, trivial⟩
      · exact ⟨⟨rfl, _, rfl, .inr ⟨_, rfl, by omega, by omega⟩⟩, trivial⟩
    · simp only [ps, List.mem_cons, List.not_mem_nil, or_false] at hp
      rcases hp with rfl | rfl | rfl | rfl | rfl <;> simp [Pt.depth, Pt.depths]
  refine st ?_
  try simp
  split
  · try simp
    exact leaf _ hr1 ⟨_, hs1⟩ fr1 _
  · rename_i hdp
    try simp [idx_ref hs1]
    split
    · try simp
      exact leaf _ hr1 ⟨_, hs1⟩ fr1 _
    · try simp
      exact RS.sat.mono (rest (by omega) _ hr1 ⟨_, hs1⟩ fr1) (fun _ _ h => h.elim) (fun _ _ h => h) (fun _ _ h => h) (fun _ _ h => h)
theorem bpart_ok (h : HasD P) (hb : HasBp P) (kvs : List (DK × D)) (r q : Nat) (hq : r ≠ q) : ∀ (m n : Nat) (S : Store) (deep : Int), deep = m + 1 → Row S r → Lef1 S q →
    (cfn P (n + m + 3) "_law_bound_part" [.ref r, .int deep, .ref q] S).sat (PBt kvs (m + 1) r q S) := by
  intro m
  induction m with
  | zero => exact fun n S deep hd hr hl => bpart_step h hb kvs r q hq 0 n S deep hd hr hl fun h1 => by omega
  | succ m ih =>
    exact fun n S deep hd hr hl => bpart_step h hb kvs r q hq (m + 1) (n + m + 1) S deep hd hr hl fun h1 S hr hl => by
      have := ih n S (deep - 1) (by omega) hr hl
      exact this
end Q
/-! Q11: how many worths: what both count. -/
namespace Q
open Mw
variable {P : Pg}
abbrev Bd := Int × Option Int
def oI : Option Int → D
  | none => .non
  | some i => .int i
def Bd.d (b : Bd) : D := .tup [.int b.1, oI b.2]
def bMul : Option Int → Option Int → Option Int
  | some x, some y => some (x * y)
  | _, _ => none
def bAdd : Option Int → Option Int → Option Int
  | some x, some y => some (x + y)
  | _, _ => none
def bMax : Option Int → Option Int → Option Int
  | some x, some y => some (max x y)
  | _, _ => none
def both (a b : Bd) : Bd := (min 100 (a.1 * b.1), if a.2 = some 0 ∨ b.2 = some 0 then some 0 else bMul a.2 b.2)
def either (a b : Bd) : Bd := (min 100 (a.1 + b.1), bAdd a.2 b.2)
def oneOf (a b : Bd) : Bd := (min a.1 b.1, bMax a.2 b.2)
/-- what `to` of two parts has -/
def toB : List Pt → Bd
  | [.mk .w_is [.int i] [], .mk .w_is [.int j] []] => (min 100 (max 0 (j - i + 1)), some (max 0 (j - i + 1)))
  | _ => (0, none)
def bnd1 (cb : List Nat → Bd) (w : W) (hd : List D) (ps : List Pt) (bs : List Bd) : Bd :=
  match w, bs with
  | .w_is, _ => (1, some 1)
  | .w_none, _ => (0, some 0)
  | .w_at, _ => (0, some 1)
  | .w_pos, _ => (0, some 1)
  | .w_plus, [a, b] => both a b
  | .w_less, [a, b] => both a b
  | .w_times, [a, b] => both a b
  | .w_join, [a, b] => both a b
  | .w_and, [a, b] => both a b
  | .w_scan, [a, b] => both a b
  | .w_below, [a, b] => (0, (both a b).2)
  | .w_same, [a, b] => (0, (both a b).2)
  | .w_unlike, [a, b] => (0, (both a b).2)
  | .w_long, [a] => a
  | .w_say, [a] => a
  | .w_set, [a] => a
  | .w_try, [a] => a
  | .w_tab, [a] => (0, a.2)
  | .w_many, [a] => (0, a.2)
  | .w_match, [a] => (0, a.2)
  | .w_find, [a] => (0, if a.2 = some 0 then some 0 else none)
  | .w_call, bs => match hd with
    | [.str s] => bs.foldl both (cb s)
    | _ => (0, none)
  | .w_or, [a, b] => either a b
  | .w_then, [_, b] => b
  | .w_every, _ => (0, some 0)
  | .w_while, _ => (0, some 0)
  | .w_most, [a] => match hd with
    | [.int i] => (min i a.1, match a.2 with
      | none => some i
      | some x => some (min i x))
    | _ => (0, none)
  | .w_not, [a] => (if a.2 = some 0 then 1 else 0, some (if a.1 = 0 then 1 else 0))
  | .w_if, [a, b, c] => if a.1 > 0 then b else if a.2 = some 0 then c else oneOf b c
  | .w_again, [a] => (if a.1 > 0 then 100 else 0, if a.2 = some 0 then some 0 else none)
  | .w_to, [a, b] => if a.2 = some 0 ∨ b.2 = some 0 then (0, some 0) else toB ps
  | _, _ => (0, none)
mutual
def bndP (cb : List Nat → Bd) : Pt → Bd
  | .mk w hd ps => bnd1 cb w hd ps (bndPs cb ps)
def bndPs (cb : List Nat → Bd) : List Pt → List Bd
  | [] => []
  | p :: ps => bndP cb p :: bndPs cb ps
end
/-- of a deed, so many calls within one another -/
def bndC (deeds : List Dd) : Nat → List (List Nat) → List Nat → Bd
  | 0, _, _ => (0, none)
  | c + 1, ar, s => if s ∈ ar then (0, none) else match deeds.find? (fun y => decide (y.name = s)) with
    | some y => bndP (bndC deeds c (ar ++ [s])) y.body
    | none => (0, none)
theorem bnds_len (cb : List Nat → Bd) : ∀ ps : List Pt, (bndPs cb ps).length = ps.length
  | [] => rfl
  | _ :: ps => congrArg Nat.succ (bnds_len cb ps)
theorem bnds_map (cb : List Nat → Bd) : ∀ ps : List Pt, bndPs cb ps = ps.map (bndP cb)
  | [] => rfl
  | p :: ps => by rw [bndPs, bnds_map cb ps]; rfl
theorem ds_map : ∀ ps : List Pt, Pt.ds ps = ps.map Pt.d
  | [] => rfl
  | p :: ps => by rw [Pt.ds, ds_map ps]; rfl
/-! ### how large -/
def und (x : Int) (n : Nat) : Prop := 0 ≤ x ∧ x.toNat < 2 ^ n
def Bd.un (b : Bd) (n : Nat) : Prop := 0 ≤ b.1 ∧ b.1 ≤ 100 ∧ ∀ x, b.2 = some x → und x n
theorem und.mono {x : Int} {n m : Nat} (h : und x n) (k : n ≤ m) : und x m := ⟨h.1, Nat.lt_of_lt_of_le h.2 (Nat.pow_le_pow_right (by omega) k)⟩
theorem Bd.un.mono {b : Bd} {n m : Nat} (h : b.un n) (k : n ≤ m) : b.un m := ⟨h.1, h.2.1, fun x e => (h.2.2 x e).mono k⟩
theorem und.mul {x y : Int} {n m : Nat} (h : und x n) (k : und y m) : und (x * y) (n + m) := by
  refine ⟨Int.mul_nonneg h.1 k.1, ?_⟩
  rw [Int.toNat_mul h.1 k.1, Nat.pow_add]
  exact Nat.mul_lt_mul'' h.2 k.2
theorem und.zero (n : Nat) : und 0 n := ⟨by omega, Nat.pow_pos (by omega)⟩
theorem und.one {n : Nat} (h : 1 ≤ n) : und 1 n := ⟨by omega, by
  have := Nat.pow_le_pow_right (show 0 < 2 by omega) h
  show 1 < 2 ^ n
  omega⟩
theorem und.small {x : Int} {n : Nat} (h0 : 0 ≤ x) (h1 : x ≤ 2000000000001) (h : 41 ≤ n) : und x n := by
  refine und.mono (n := 41) ⟨h0, ?_⟩ h
  show x.toNat < 2199023255552
  omega
theorem und.add {x y : Int} {n m : Nat} (h : und x n) (k : und y m) (hn : 1 ≤ n) (hm : 1 ≤ m) : und (x + y) (n + m) := by
  refine ⟨by have := h.1; have := k.1; omega, ?_⟩
  have a1 := h.2
  have a2 := k.2
  have e : (x + y).toNat = x.toNat + y.toNat := by have := h.1; have := k.1; omega
  rw [e, Nat.pow_add]
  have b1 : 2 ≤ 2 ^ n := Nat.pow_le_pow_right (show 0 < 2 by omega) hn
  have b2 : 2 ≤ 2 ^ m := Nat.pow_le_pow_right (show 0 < 2 by omega) hm
  generalize 2 ^ n = A at *
  generalize 2 ^ m = B at *
  have c1 : A * 2 ≤ A * B := Nat.mul_le_mul_left A b2
  have c2 : 2 * B ≤ A * B := Nat.mul_le_mul_right B b1
  omega
theorem und.mulOk {x y : Int} {n m : Nat} (h : und x n) (k : und y m) (hn : n ≤ 60000000) (hm : m ≤ 60000000) : Mw.mulOk x y = true := by
  have key : ∀ {x : Int} {n : Nat}, und x n → n ≤ 60000000 → x ≠ 0 → x.natAbs.log2 < 60000000 := by
    intro x n h hn h0
    have e : x.natAbs = x.toNat := by have := h.1; omega
    rw [e]
    have hx : x.toNat ≠ 0 := by have := h.1; omega
    exact Nat.lt_of_lt_of_le ((Nat.log2_lt hx).mpr h.2) hn
  unfold Mw.mulOk
  refine decide_eq_true ?_
  by_cases hx : x = 0
  · exact .inl (.inl (by constructor <;> omega))
  by_cases hy : y = 0
  · exact .inl (.inr (by constructor <;> omega))
  · exact .inr ⟨key h hn hx, key k hm hy⟩
theorem min_100 {x y : Int} (hx : 0 ≤ x) (hy : 0 ≤ y) : 0 ≤ min 100 (x * y) ∧ min 100 (x * y) ≤ 100 := by
  have := Int.mul_nonneg hx hy
  omega
theorem both_un {a b : Bd} {n m : Nat} (h : a.un n) (k : b.un m) : (both a b).un (n + m) := by
  obtain ⟨a1, a2, a3⟩ := h
  obtain ⟨b1, b2, b3⟩ := k
  refine ⟨(min_100 a1 b1).1, (min_100 a1 b1).2, fun x hx => ?_⟩
  unfold both at hx
  dsimp only at hx
  split at hx
  · cases hx; exact und.zero _
  · cases ha : a.2 with
    | none => rw [ha] at hx; simp [bMul] at hx
    | some u =>
      cases hb : b.2 with
      | none => rw [ha, hb] at hx; simp [bMul] at hx
      | some v =>
        rw [ha, hb] at hx
        simp [bMul] at hx
        subst hx
        exact (a3 u ha).mul (b3 v hb)
theorem either_un {a b : Bd} {n m : Nat} (h : a.un n) (k : b.un m) (hn : 1 ≤ n) (hm : 1 ≤ m) : (either a b).un (n + m) := by
  obtain ⟨a1, a2, a3⟩ := h
  obtain ⟨b1, b2, b3⟩ := k
  refine ⟨by unfold either; dsimp only; omega, by unfold either; dsimp only; omega, fun x hx => ?_⟩
  unfold either at hx
  dsimp only at hx
  cases ha : a.2 with
  | none => rw [ha] at hx; simp [bAdd] at hx
  | some u =>
    cases hb : b.2 with
    | none => rw [ha, hb] at hx; simp [bAdd] at hx
    | some v =>
      rw [ha, hb] at hx
      simp [bAdd] at hx
      subst hx
      exact (a3 u ha).add (b3 v hb) hn hm
theorem oneOf_un {a b : Bd} {n m : Nat} (h : a.un n) (k : b.un m) : (oneOf a b).un (n + m) := by
  obtain ⟨a1, a2, a3⟩ := h
  obtain ⟨b1, b2, b3⟩ := k
  refine ⟨by unfold oneOf; dsimp only; omega, by unfold oneOf; dsimp only; omega, fun x hx => ?_⟩
  unfold oneOf at hx
  dsimp only at hx
  cases ha : a.2 with
  | none => rw [ha] at hx; simp [bMax] at hx
  | some u =>
    cases hb : b.2 with
    | none => rw [ha, hb] at hx; simp [bMax] at hx
    | some v =>
      rw [ha, hb] at hx
      simp [bMax] at hx
      subst hx
      rcases Int.le_total u v with e | e
      · rw [Int.max_eq_right e]; exact (b3 v hb).mono (by omega)
      · rw [Int.max_eq_left e]; exact (a3 u ha).mono (by omega)
theorem fold_un {N : Nat} : ∀ {ps : List Pt} {cb : List Nat → Bd} {b : Bd} {n : Nat}, b.un n → (∀ p ∈ ps, (bndP cb p).un (p.size * N)) → ((bndPs cb ps).foldl both b).un (n + Pt.sizes ps * N)
  | [], cb, b, n, h, _ => by simpa [bndPs, Pt.sizes] using h
  | p :: ps, cb, b, n, h, k => by
    simp only [bndPs, List.foldl_cons, Pt.sizes]
    have := fold_un (ps := ps) (cb := cb) (both_un h (k p List.mem_cons_self)) fun q hq => k q (List.mem_cons_of_mem _ hq)
    refine this.mono ?_
    rw [Nat.add_mul]
    omega
theorem two_of {α : Type} {l : List α} (h : l.length = 2) : ∃ a b, l = [a, b] := match l, h with
  | [a, b], _ => ⟨a, b, rfl⟩
theorem one_of {α : Type} {l : List α} (h : l.length = 1) : ∃ a, l = [a] := match l, h with
  | [a], _ => ⟨a, rfl⟩
theorem three_of {α : Type} {l : List α} (h : l.length = 3) : ∃ a b c, l = [a, b, c] := match l, h with
  | [a, b, c], _ => ⟨a, b, c, rfl⟩
theorem toB_un {kvs : List (DK × D)} {ps : List Pt} {N : Nat} (h : 41 ≤ N) (ok : Pt.oks kvs ps) : (toB ps).un N := by
  unfold toB
  split
  · rename_i i j
    obtain ⟨⟨⟨_, x, hx, hw⟩, _⟩, ⟨⟨_, y, hy, hw'⟩, _⟩, _⟩ := ok
    cases hx
    cases hy
    obtain ⟨s, e, _⟩ | ⟨z, e, z1, z2⟩ := hw
    · cases e
    · cases e
      obtain ⟨s, e, _⟩ | ⟨z, e, z3, z4⟩ := hw'
      · cases e
      · cases e
        refine ⟨by dsimp only; omega, by dsimp only; omega, fun x hx => ?_⟩
        simp at hx
        subst hx
        exact und.small (by omega) (by omega) h
  · exact ⟨by decide, by decide, fun x hx => by cases hx⟩
end Q
/-! Q12: programs without fault. -/
namespace Q
open Mw
variable {P : Pg}
/-- a comprehension over things that each give one answer, or are left out -/
theorem lc_filter {c : LEnv → Store → R Bool} {f : LEnv → Store → R D} {tg : List Nat} {tt : Bool} {l : LEnv} {S : Store} (p : D → Bool) (G : D → D) : ∀ {ds acc : List D}, acc.length + ds.length ≤ 1000000 → (∀ d ∈ ds, ∃ l1, bindT tg tt d l = some l1 ∧ c l1 S = .ok (p d) S ∧ f l1 S = .ok (G d) S) → lcLoop c f tg tt l ds acc S = .ok (acc ++ (ds.filter p).map G) S
  | [], acc, _, _ => by rw [lcLoop]; simp
  | d :: ds, acc, hl, h => by
    obtain ⟨l1, h1, h2, h3⟩ := h d List.mem_cons_self
    rw [lcLoop, h1]
    dsimp only
    simp at hl
    have hz : acc.length < PySem.sizeLine := by
      rw [PySem.sizeLine_eq]
      omega
    cases hp : p d with
    | true =>
      rw [h2, bind_ok, hp, if_pos rfl, h3, bind_ok, if_pos (decide_eq_true hz), lc_filter p G (by simp; omega) fun d hd => h d (List.mem_cons_of_mem _ hd)]
      try simp [List.filter_cons, hp]
    | false =>
      rw [h2, bind_ok, hp, if_neg Bool.false_ne_true, lc_filter p G (by omega) fun d hd => h d (List.mem_cons_of_mem _ hd)]
      try simp [List.filter_cons, hp]
def isTu : D → Bool
  | .tup _ => true
  | _ => false
theorem hd_flat {kvs : List (DK × D)} {w : W} {hd : List D} {k : Nat} (h : hdOk kvs w hd k) : hd.length ≤ 1 ∧ ∀ d ∈ hd, (∃ s, d = .str s) ∨ ∃ i, d = .int i := by
  cases w <;> unfold hdOk at h <;> dsimp only at h
  case w_is =>
    obtain ⟨_, x, rfl, hx⟩ := h
    refine ⟨by simp, fun d hd => ?_⟩
    simp at hd
    subst hd
    rcases hx with ⟨s, rfl, _⟩ | ⟨i, rfl, _⟩
    · exact .inl ⟨s, rfl⟩
    · exact .inr ⟨i, rfl⟩
  case w_at => obtain ⟨_, c, rfl, _⟩ := h; exact ⟨by simp, fun d hd => .inl (by simp at hd; exact ⟨_, hd⟩)⟩
  case w_set => obtain ⟨_, c, rfl, _⟩ := h; exact ⟨by simp, fun d hd => .inl (by simp at hd; exact ⟨_, hd⟩)⟩
  case w_try => obtain ⟨_, c, rfl, _⟩ := h; exact ⟨by simp, fun d hd => .inl (by simp at hd; exact ⟨_, hd⟩)⟩
  case w_most => obtain ⟨_, c, rfl, _⟩ := h; exact ⟨by simp, fun d hd => .inr (by simp at hd; exact ⟨_, hd⟩)⟩
  case w_call => obtain ⟨c, rfl, _⟩ := h; exact ⟨by simp, fun d hd => .inl (by simp at hd; exact ⟨_, hd⟩)⟩
  all_goals (obtain ⟨rfl, _⟩ := h; exact ⟨by simp, fun d hd => by cases hd⟩)
theorem pt_tup : ∀ p : Pt, ∃ xs, p.d = .tup xs
  | .mk _ _ _ => ⟨_, rfl⟩
theorem ds_tup : ∀ {ps : List Pt} {d : D}, d ∈ Pt.ds ps → ∃ p ∈ ps, d = p.d := by
  intro ps d h
  rw [ds_map] at h
  obtain ⟨p, hp, rfl⟩ := List.mem_map.mp h
  exact ⟨p, hp, rfl⟩
theorem hd_filter {hd : List D} {ps : List Pt} (h : ∀ d ∈ hd, (∃ s, d = .str s) ∨ ∃ i, d = .int i) : ((hd ++ Pt.ds ps).filter isTu).map id = Pt.ds ps := by
  rw [List.filter_append, List.filter_eq_nil_iff.mpr, List.filter_eq_self.mpr]
  · try simp
  · intro d hd
    obtain ⟨p, _, rfl⟩ := ds_tup hd
    obtain ⟨xs, e⟩ := pt_tup p
    rw [e]; rfl
  · intro d hd
    rcases h d hd with ⟨s, rfl⟩ | ⟨i, rfl⟩ <;> simp [isTu]
theorem within_ok (hb : HasB P) (n : Nat) (S : Store) (kvs : List (DK × D)) (w : W) (hd : List D) (ps : List Pt) (h : hdOk kvs w hd ps.length) (hl : ps.length ≤ 10000) :
    cfn P (n + 1) "_law_within" [(Pt.mk w hd ps).d] S = .ok (.lst (Pt.ds ps)) S := by
  rw [cfn_succ, hb.within]
  apply R.eq_of_sat
  obtain ⟨h1, h2⟩ := hd_flat h
  unfold G21.f__law_within G21.b__law_within Pt.d
  try simp [Mw.run]
  refine st ?_
  try simp [cut1]
  rw [lc_filter isTu id (by simp [ds_len]; omega) fun d hd => ?_]
  · rw [hd_filter h2]
    try simp
  · refine ⟨_, rfl, ?_, ?_⟩
    · apply R.eq_of_sat
      rcases List.mem_append.mp hd with hd | hd
      · rcases h2 d hd with ⟨s, rfl⟩ | ⟨i, rfl⟩
        · try simp [isTu, below]
        · try simp [isTu, below]
      · obtain ⟨p, _, rfl⟩ := ds_tup hd
        obtain ⟨xs, e⟩ := pt_tup p
        try simp [e, isTu, below]
    · apply R.eq_of_sat
      try simp
/-- how large a part can be -/
theorem size_le {kvs : List (DK × D)} (hk : ∀ s (c : Nat), dGet kvs (.inr s) = some (.int c) → c ≤ 3) : ∀ (n : Nat) (p : Pt), p.ok kvs → p.depth ≤ n → 2 * p.size + 1 ≤ 3 ^ n
  | 0, .mk w hd ps, _, h => by simp [Pt.depth] at h
  | n + 1, .mk w hd ps, ok, h => by
    simp only [Pt.depth, Pt.size] at h ⊢
    have hl : ps.length ≤ 3 := by
      have o1 := ok.1
      cases w <;> unfold hdOk at o1 <;> dsimp only at o1 <;> first
        | (obtain ⟨s, rfl, _, e⟩ := o1; exact hk _ _ e)
        | (obtain ⟨e, _⟩ := o1; omega)
        | (obtain ⟨_, e⟩ := o1; rw [e]; decide)
    have key : ∀ qs : List Pt, (∀ q ∈ qs, 2 * q.size + 1 ≤ 3 ^ n) → 2 * Pt.sizes qs + qs.length ≤ qs.length * 3 ^ n := by
      intro qs hq
      induction qs with
      | nil => simp [Pt.sizes]
      | cons q qs ih =>
        have := ih fun q h => hq q (List.mem_cons_of_mem _ h)
        have := hq q List.mem_cons_self
        simp only [Pt.sizes, List.length_cons, Nat.add_mul, Nat.one_mul]
        omega
    have k := key ps fun q hq => size_le hk n q (oks_mem ok.2 q hq) (depths_mem (by omega) q hq)
    have hp : 1 ≤ 3 ^ n := Nat.pow_pos (by omega)
    have h3 : 3 ^ (n + 1) = 3 * 3 ^ n := by rw [Nat.pow_succ, Nat.mul_comm]
    rw [h3]
    generalize 3 ^ n = A at *
    have : ps.length = 0 ∨ ps.length = 1 ∨ ps.length = 2 ∨ ps.length = 3 := by omega
    rcases this with e | e | e | e <;> rw [e] at k <;> omega
abbrev Stk := List (Pt × Nat)
def stkD (s : Stk) : List D := s.map fun x => .tup [x.1.d, .int x.2]
def stkS (s : Stk) : Nat := (s.map fun x => x.1.size).sum
theorem stkS_app (a b : Stk) : stkS (a ++ b) = stkS a + stkS b := by simp [stkS]
theorem stkS_ps (ps : List Pt) (k : Nat) : stkS (ps.map fun p => (p, k)) = Pt.sizes ps := by
  induction ps with
  | nil => rfl
  | cons p ps ih =>
    have : stkS ((p :: ps).map fun p => (p, k)) = p.size + stkS (ps.map fun p => (p, k)) := by simp [stkS]
    rw [this, ih]; rfl
theorem stk_len (s : Stk) : s.length ≤ stkS s := by
  induction s with
  | nil => simp [stkS]
  | cons x s ih =>
    have := size_pos x.1
    have e : stkS (x :: s) = x.1.size + stkS s := by simp [stkS]
    rw [e]; simp; omega
def whB : Sms × Xp := match G21.b__law_fault_free with
  | .cons (.fr _ _ _ (.cons _ (.cons (.whl c b) _))) _ => (b, c)
  | _ => (.nil, .nop)
def PFw (p0 : Pt) (u : Nat) (x : D) (S0 : Store) (l : LEnv) (S' : Store) : Prop := ∃ a2 a5 a6 a7 u', l = [some x, some p0.d, a2, some (.int p0.size), some (.ref u'), a5, a6, a7] ∧ Fr [] S0 S'
theorem while_ok (hb : HasB P) (kvs : List (DK × D)) (n : Nat) (p0 : Pt) (x : D) (S0 : Store) : ∀ (m : Nat) (s : Stk) (many u : Nat) (a2 a5 a6 a7 : Option D) (S : Store), stkS s < m → many + stkS s = p0.size → p0.size ≤ 10000 → (∀ y ∈ s, y.1.ok kvs) → S[u]? = some (.lst (stkD s)) → Fr [] S0 S → S0.length ≤ u →
    (whlLoop (fun l1 S2 => (ev (P.cfg (n + 1)) whB.2 l1 S2).bind asB) (fun l1 S2 => exs (P.cfg (n + 1)) whB.1 l1 S2) m [some x, some p0.d, a2, some (.int many), some (.ref u), a5, a6, a7] S).sat { nx := PFw p0 u x S0, rt := fun d S' => d = .bl false ∧ Fr [] S0 S' }
  | 0, s, many, u, a2, a5, a6, a7, S, hm, _, _, _, _, _, _ => by omega
  | m + 1, s, many, u, a2, a5, a6, a7, S, hm, hsum, hbig, hok, hs, fr, hu => by
    refine whl_step ?_
    have e1 : (ev (P.cfg (n + 1)) whB.2 [some x, some p0.d, a2, some (.int many), some (.ref u), a5, a6, a7] S) = .ok (.bl (!(stkD s).isEmpty)) S := by
      apply R.eq_of_sat
      unfold whB G21.b__law_fault_free
      dsimp only
      try simp [eq_refE hs]
    rw [e1]
    try simp
    rcases List.eq_nil_or_concat s with rfl | ⟨ini, ⟨p, k⟩, rfl⟩
    · try simp [stkD]
      refine ⟨a2, a5, a6, a7, u, ?_, fr⟩
      simp [stkS] at hsum
      rw [hsum]
    · rw [List.concat_eq_append] at hs hm hsum hok ⊢
      rw [if_neg (by simp [stkD])]
      have hsz : stkS (ini ++ [(p, k)]) = stkS ini + p.size := by rw [stkS_app]; simp [stkS]
      have hlast : (stkD (ini ++ [(p, k)]))[(stkD (ini ++ [(p, k)])).length - 1]? = some (.tup [p.d, .int k]) := by simp [stkD]
      have hdl : (stkD (ini ++ [(p, k)])).dropLast = stkD ini := by simp [stkD]
      have epop : mtdR .pop (.ref u) [] S = .ok (.tup [p.d, .int k]) (S.set u (.lst (stkD ini))) := by
        unfold mtdR
        dsimp only
        rw [hs]
        dsimp only
        rw [hlast, hdl]
      have ppop : mtdPre .pop (.ref u) S = true := by simp [mtdPre, lstOf, hs]
      have hs2 := set_get (o' := .lst (stkD ini)) hs
      have fr2 := fr.setNew hu (.lst (stkD ini))
      have lu : u < (S.set u (.lst (stkD ini))).length := (List.getElem?_eq_some_iff.mp hs2).1
      generalize S.set u (.lst (stkD ini)) = S2 at epop hs2 fr2 lu
      unfold whB G21.b__law_fault_free
      dsimp only
      refine st ?_
      try simp [ppop, epop]
      refine st ?_
      try simp
      refine st ?_
      try simp
      split
      · refine st ?_
        try simp
        exact fr2
      · try simp
        have okp := hok (p, k) (by simp)
        obtain ⟨w, hd, ps⟩ := p
        have hpl : ps.length ≤ 10000 := by
          have := len_sizes ps
          simp only [Pt.size] at hsz
          omega
        refine st ?_
        try simp [within_ok hb n S2 kvs w hd ps okp.1 hpl]
        rw [lc_map (fun d => .tup [d, .int (k + 1)]) (by simp [ds_len]; omega) (fun d hd => ⟨_, rfl, by simp, by apply R.eq_of_sat; simp⟩)]
        try simp [binR, lstOf, hs2]
        have hps := len_sizes ps
        have hst := stk_len ini
        simp only [Pt.size] at hsz
        refine ⟨by simp [stkD, ds_len]; omega, ?_⟩
        have e2 : stkD ini ++ (Pt.ds ps).map (fun d => D.tup [d, .int (k + 1)]) = stkD (ini ++ ps.map fun p => (p, k + 1)) := by
          try simp [stkD, ds_map]
        rw [e2]
        have := while_ok hb kvs n p0 x S0 m (ini ++ ps.map fun p => (p, k + 1)) (many + 1) S2.length a2 (some (Pt.mk w hd ps).d) (some (.int k)) a7 (S2 ++ [.lst (stkD (ini ++ ps.map fun p => (p, k + 1)))]) (by rw [stkS_app, stkS_ps]; omega) (by rw [stkS_app, stkS_ps]; omega) hbig (fun y hy => by
            rcases List.mem_append.mp hy with hy | hy
            · exact hok y (by simp [hy])
            · obtain ⟨z, hz, rfl⟩ := List.mem_map.mp hy
              exact oks_mem okp.2 z hz) (by simp) (fr2.trans (Fr.more _ _ _)) (by have := fr2.1; omega)
        unfold whB G21.b__law_fault_free at this
        dsimp only at this
        simp at this
        exact this

def bodies (x : Pr) : List Pt := x.main :: x.deeds.map Dd.body
def PFf (x : Pr) (S : Store) (d : D) (S' : Store) : Prop := ∃ b, d = .bl b ∧ (b = true → ∀ p ∈ bodies x, p.size ≤ 24) ∧ Fr [] S S'
theorem lc_mapP {α : Type} {c : LEnv → Store → R Bool} {f : LEnv → Store → R D} {tg : List Nat} {tt : Bool} {l : LEnv} {S : Store} (e G : α → D) : ∀ {xs : List α} {acc : List D}, acc.length + xs.length ≤ 1000000 → (∀ x ∈ xs, ∃ l1, bindT tg tt (e x) l = some l1 ∧ c l1 S = .ok true S ∧ f l1 S = .ok (G x) S) → lcLoop c f tg tt l (xs.map e) acc S = .ok (acc ++ xs.map G) S
  | [], acc, _, _ => by rw [List.map_nil, lcLoop]; simp
  | x :: xs, acc, hl, h => by
    obtain ⟨l1, h1, h2, h3⟩ := h x List.mem_cons_self
    rw [List.map_cons, lcLoop, h1]
    dsimp only
    rw [h2, bind_ok, if_pos rfl, h3, bind_ok]
    simp at hl
    have hz : acc.length < PySem.sizeLine := by
      rw [PySem.sizeLine_eq]
      omega
    rw [if_pos (decide_eq_true hz), lc_mapP e G (by simp; omega) fun x hx => h x (List.mem_cons_of_mem _ hx)]
    try simp
theorem st_whl {g : Cfg} {c : Xp} {b : Sms} {l : LEnv} {S : Store} {F : En} (h : (whlLoop (fun l1 S2 => (ev g c l1 S2).bind asB) (fun l1 S2 => exs g b l1 S2) g.fuel l S).sat F) : (ex g (.whl c b) l S).sat F := by rw [ex]; exact h
def IFf (x : Pr) (S : Store) (i : Nat) (l : LEnv) (S' : Store) : Prop := ∃ a1 a2 a3 a4 a5 a6 a7, l = [some x.d, a1, a2, a3, a4, a5, a6, a7] ∧ Fr [] S S' ∧ ∀ j < i, ∀ p, (bodies x)[j]? = some p → p.size ≤ 24
theorem fault_ok (hb : HasB P) (hf : 1000 ≤ P.fuel) (n : Nat) (S : Store) (x : Pr) (ok : x.dr) : (cfn P (n + 2) "_law_fault_free" [x.d] S).sat (PFf x S) := by
  rw [cfn_succ, hb.fault]
  have few := ok.few
  have kv : ∀ s (c : Nat), dGet (kvsOf x.deeds) (.inr s) = some (.int c) → c ≤ 3 := by
    intro s c e
    unfold dGet at e
    cases hfd : (kvsOf x.deeds).find? (fun kv => decide (kv.1 = .inr s)) with
    | none => rw [hfd] at e; cases e
    | some kv =>
      rw [hfd] at e
      have hm := List.mem_of_find?_eq_some hfd
      obtain ⟨y, hy, rfl⟩ := List.mem_map.mp hm
      have := (ok.deed y hy).1.2.1
      simp at e
      omega
  have bok : ∀ p ∈ bodies x, p.ok (kvsOf x.deeds) ∧ p.depth ≤ 5 := by
    intro p hp
    rcases List.mem_cons.mp hp with rfl | hp
    · exact ⟨ok.main, ok.md⟩
    · obtain ⟨y, hy, rfl⟩ := List.mem_map.mp hp
      exact ⟨(ok.deed y hy).2.1, by have := (ok.deed y hy).2.2; omega⟩
  have bsz : ∀ p ∈ bodies x, p.size ≤ 200 := by
    intro p hp
    have := size_le kv 5 p (bok p hp).1 (bok p hp).2
    omega
  unfold G21.f__law_fault_free G21.b__law_fault_free
  try simp [Mw.run]
  refine st ?_
  try simp [Pr.d]
  rw [lc_mapP Dd.d (fun y => y.body.d) (by simp; omega) (fun y hy => ⟨_, rfl, by simp, by apply R.eq_of_sat; simp [Dd.d]⟩)]
  try simp
  refine ⟨by omega, ?_⟩
  have eb : x.main.d :: x.deeds.map (fun y => y.body.d) = (bodies x).map Pt.d := by simp [bodies]
  rw [eb]
  refine for_sat0 (IFf x S) ?_ ?_ ?_
  · exact ⟨_, _, _, _, _, _, _, rfl, Fr.refl _ _, fun j hj => by omega⟩
  · rintro i d l S' hd ⟨a1, a2, a3, a4, a5, a6, a7, rfl, fr, hsm⟩
    rw [List.getElem?_map] at hd
    cases hp : (bodies x)[i]? with
    | none => rw [hp] at hd; cases hd
    | some p =>
      rw [hp] at hd
      simp at hd
      subst hd
      have hpm := List.mem_of_getElem? hp
      refine ⟨_, rfl, ?_⟩
      refine st ?_
      try simp
      refine st (st_whl ?_)
      have hsz := bsz p hpm
      have w := while_ok hb (kvsOf x.deeds) n p x.d S' P.fuel [(p, 1)] 0 S'.length a2 a5 a6 a7 (S' ++ [.lst (stkD [(p, 1)])]) (by simp [stkS]; omega) (by simp [stkS]) (by omega) (fun y hy => by simp at hy; subst hy; exact (bok p hpm).1) (by simp) (Fr.more _ _ _) (Nat.le_refl _)
      refine RS.sat.mono w ?_ ?_ (fun _ _ h => h.elim) (fun _ _ h => h.elim)
      · rintro l S2 ⟨b2, b5, b6, b7, u', rfl, fr2⟩
        refine st ?_
        try simp
        split
        · refine st ?_
          try simp
          exact ⟨false, rfl, by simp, fr.trans fr2⟩
        · try simp
          refine ⟨_, _, _, _, _, _, _, rfl, fr.trans fr2, fun j hj q hq => ?_⟩
          by_cases hji : j = i
          · subst hji
            rw [hp] at hq
            cases hq
            omega
          · exact hsm j (by omega) q hq
      · rintro d S2 ⟨rfl, fr2⟩
        exact ⟨false, rfl, by simp, fr.trans fr2⟩
  · rintro l S' ⟨a1, a2, a3, a4, a5, a6, a7, rfl, fr, hsm⟩
    dsimp only
    refine st ?_
    try simp
    refine ⟨true, rfl, fun _ p hp => ?_, fr⟩
    obtain ⟨j, hj⟩ := List.getElem?_of_mem hp
    have hjl := (List.getElem?_eq_some_iff.mp hj).1
    exact hsm j (by simpa using hjl) p hj
end Q
/-! A1: steps by equations; things compared with themselves. -/
namespace Q
open Mw
variable {P : Pg}
theorem cut_front {α : Type} {a b : List α} {k : Int} (hk : k = a.length) : cut (a ++ b) none (some k) = a := by
  subst hk
  unfold cut HT.sIx
  have : ¬ (a.length : Int) < 0 := by omega
  simp [this]
theorem s_inj {a b : W} (h : a.s = b.s) : a = b := by
  revert h
  cases a <;> cases b <;> first | (intro _; rfl) | (intro h; exact absurd h (by decide))
theorem s_ne {a b : W} (h : a ≠ b) : a.s ≠ b.s := fun e => h (s_inj e)
theorem idx_last {a : D} {l : List D} : L2.atI (a :: l) (-1) = some ((a :: l).getLast (by simp)) := by
  unfold L2.atI L2.ixN
  rw [if_neg (by omega)]
  simp
  rw [List.getLast_eq_getElem]
  simp
  have e : (-1 + ((l.length : Int) + 1)).toNat = l.length := by omega
  rw [if_pos (by omega), e]
  show (a :: l)[l.length]? = _
  rw [List.getElem?_eq_getElem (by simp)]
theorem hd_len {kvs : List (DK × D)} (hk : ∀ s (c : Nat), dGet kvs (.inr s) = some (.int c) → c ≤ 3) {w : W} {hd : List D} {k : Nat} (o1 : hdOk kvs w hd k) : k ≤ 3 := by
  cases w <;> unfold hdOk at o1 <;> dsimp only at o1 <;> first
    | (obtain ⟨s, rfl, _, e⟩ := o1; exact hk _ _ e)
    | (obtain ⟨e, _⟩ := o1; omega)
    | (obtain ⟨_, e⟩ := o1; rw [e]; decide)
theorem kv3 {ds : List Dd} (hd : ∀ y ∈ ds, y.cells.length ≤ 3) : ∀ s (c : Nat), dGet (kvsOf ds) (.inr s) = some (.int c) → c ≤ 3 := by
  intro s c e
  unfold dGet at e
  cases hfd : (kvsOf ds).find? (fun kv => decide (kv.1 = .inr s)) with
  | none => rw [hfd] at e; cases e
  | some kv =>
    rw [hfd] at e
    have hm := List.mem_of_find?_eq_some hfd
    obtain ⟨y, hy, rfl⟩ := List.mem_map.mp hm
    have := hd y hy
    simp at e
    omega
def Al : Nat → D → Prop
  | _, .str _ => True
  | _, .int _ => True
  | n + 1, .tup ds => ds.length ≤ 1000 ∧ ∀ d ∈ ds, Al n d
  | _, _ => False
theorem Al_cases {n : Nat} {d : D} (h : Al n d) : (∃ s, d = .str s) ∨ (∃ i, d = .int i) ∨ ∃ ds m, d = .tup ds ∧ n = m + 1 ∧ ds.length ≤ 1000 ∧ ∀ e ∈ ds, Al m e := by
  cases d <;> cases n <;> first | exact .inl ⟨_, rfl⟩ | exact .inr (.inl ⟨_, rfl⟩) | exact h.elim | exact .inr (.inr ⟨_, _, rfl, rfl, h⟩)
theorem Al_s {n : Nat} {s : List Nat} : Al n (.str s) := by cases n <;> trivial
theorem Al_i {n : Nat} {s : Int} : Al n (.int s) := by cases n <;> trivial
theorem Al_mono : ∀ {n m : Nat} {d : D}, Al n d → n ≤ m → Al m d
  | n, m, d, h, hm => by
    rcases Al_cases h with ⟨s, rfl⟩ | ⟨i, rfl⟩ | ⟨ds, k, rfl, rfl, h1, h2⟩
    · exact Al_s
    · exact Al_i
    · obtain ⟨m', rfl⟩ : ∃ m', m = m' + 1 := ⟨m - 1, by omega⟩
      exact ⟨h1, fun e he => Al_mono (h2 e he) (by omega)⟩
termination_by n => n
theorem rng1_ok {g : Cfg} {b : Xp} {l : LEnv} {S : Store} {j : Int} (h : ev g b l S = .ok (.int j) S) (h0 : -1000000 ≤ j ∧ j ≤ 1000000) : ev g (.rng1 b) l S = .ok (.lst (rngL 0 j)) S := by
  rw [ev_27, h, bind_ok]
  show (if _ then _ else _) = _
  rw [if_pos (decide_eq_true ⟨by omega, by omega⟩)]
theorem alike_lc {g : Cfg} {S : Store} {ds : List D} {a2 a3 : Option D} (hl : ds.length ≤ 1000) (h : ∀ e ∈ ds, g.cf "_law_alike" [e, e] S = .ok (.bl true) S) :
    ev g (.lc false [2] false (.rng1 (.blt .len false (.cons (.var 1) .nil))) (.var 2) (.not (.call "_law_alike" [] (.cons (.idx (.var 0) (.var 2)) (.cons (.idx (.var 1) (.var 2)) .nil))))) [some (.tup ds), some (.tup ds), a2, a3] S = .ok (.lst []) S := by
  have er : ev g (.rng1 (.blt .len false (.cons (.var 1) .nil))) [some (.tup ds), some (.tup ds), a2, a3] S = .ok (.lst (rngL 0 (ds.length : Int))) S := rng1_ok (by simp) ⟨by omega, by omega⟩
  have em : (rngL 0 (ds.length : Int)).length ≤ 1000 := by rw [rng_len]; omega
  have eg : ∀ d ∈ rngL 0 (ds.length : Int), ∃ (i : Nat) (e : D), d = .int i ∧ L2.atI ds (i : Int) = some e ∧ e ∈ ds := by
    intro d hd
    obtain ⟨i, hi⟩ := List.getElem?_of_mem hd
    obtain ⟨rfl, hlt⟩ := rng_get hi
    obtain ⟨e, he, hm, _⟩ := at_lt (ds := ds) (i := 0 + (i : Int)) (by omega) hlt
    rw [Int.zero_add] at he ⊢
    exact ⟨i, e, rfl, he, hm⟩
  rw [ev_24, er]
  generalize rngL 0 (ds.length : Int) = rs at em eg
  rw [bind_ok, items_l, bind_ok, lc_filter (fun _ => false) id (by simp; omega) (fun d hd => ?_)]
  · have : rs.filter (fun _ => false) = [] := List.filter_eq_nil_iff.mpr (by simp)
    rw [this]
    rfl
  · obtain ⟨i, e, rfl, he, hm⟩ := eg d hd
    refine ⟨_, rfl, ?_, ?_⟩
    · try simp [he, h e hm]
    · try simp
theorem exs_ifT {g : Cfg} {c : Xp} {a b ss : Sms} {l : LEnv} {S S1 : Store} (h : ev g c l S = .ok (.bl true) S1) : exs g (.cons (.ite c a b) ss) l S = (exs g a l S1).seq fun l S => exs g ss l S := by
  rw [exs_1, ex_9, h, bind_ok, asB_bl, then_ok, if_pos rfl]
theorem exs_ifF {g : Cfg} {c : Xp} {a ss : Sms} {l : LEnv} {S S1 : Store} (h : ev g c l S = .ok (.bl false) S1) : exs g (.cons (.ite c a .nil) ss) l S = exs g ss l S1 := by
  rw [exs_1, ex_9, h, bind_ok, asB_bl, then_ok, if_neg Bool.false_ne_true, exs_0, seq_nx]
theorem exs_ret {g : Cfg} {e : Xp} {ss : Sms} {l : LEnv} {S S1 : Store} {d : D} (h : ev g e l S = .ok d S1) : exs g (.cons (.ret e) ss) l S = .rt d S1 := by
  rw [exs_1, ex_8, h, then_ok, seq_rt]
theorem exs_asg {g : Cfg} {e : Xp} {i : Nat} {ss : Sms} {l : LEnv} {S S1 : Store} {d : D} (h : ev g e l S = .ok d S1) : exs g (.cons (.asg i e) ss) l S = exs g ss (l.set i (some d)) S1 := by
  rw [exs_1, ex_0, h, then_ok, seq_nx]
theorem alike_tup {g : Cfg} {S : Store} {ds : List D} (hl : ds.length ≤ 1000) (h : ∀ e ∈ ds, g.cf "_law_alike" [e, e] S = .ok (.bl true) S) :
    exs g G21.b__law_alike [some (.tup ds), some (.tup ds), none, none] S = .rt (.bl true) S := by
  unfold G21.b__law_alike
  rw [exs_ifT (S1 := S) (by simp [below])]
  rw [exs_ifF (S1 := S) (by simp [below])]
  rw [exs_ifF (S1 := S) (by simp [below])]
  rw [exs_ret (S1 := S) (d := .bl true) (by rw [ev_9, alike_lc hl h, bind_ok, ev_5, evs_0, bind_ok]; simp)]
  rfl
theorem alike_flat {g : Cfg} {S : Store} {d : D} (h : (∃ s, d = .str s) ∨ ∃ i, d = .int i) : exs g G21.b__law_alike [some d, some d, none, none] S = .rt (.bl true) S := by
  unfold G21.b__law_alike
  rcases h with ⟨s, rfl⟩ | ⟨s, rfl⟩
  · rw [exs_ifF (S1 := S) (by simp [below]), exs_ifF (S1 := S) (by simp [below]), exs_asg (S1 := S) (d := .bl true) (by simp [below]), exs_ret (S1 := S) (d := .bl true) (by simp [below])]
  · rw [exs_ifF (S1 := S) (by simp [below]), exs_ifF (S1 := S) (by simp [below]), exs_asg (S1 := S) (d := .bl true) (by simp [below]), exs_ret (S1 := S) (d := .bl true) (by simp [below])]
theorem alike_same (ha : P.fns.lookup "_law_alike" = some G21.f__law_alike) : ∀ (n k : Nat) (S : Store) (d : D), Al n d → cfn P (k + n + 1) "_law_alike" [d, d] S = .ok (.bl true) S
  | n, k, S, d, h => by
    rw [cfn_succ, ha]
    have e : Mw.run (P.cfg (k + n)) G21.f__law_alike [d, d] S = (exs (P.cfg (k + n)) G21.b__law_alike [some d, some d, none, none] S).out := rfl
    show Mw.run (P.cfg (k + n)) G21.f__law_alike [d, d] S = _
    rw [e]
    rcases Al_cases h with h | h | ⟨ds, m, rfl, rfl, hl, hh⟩
    · rw [alike_flat (.inl h)]; rfl
    · rw [alike_flat (.inr h)]; rfl
    · rw [alike_tup hl fun e he => alike_same ha m k S e (hh e he)]; rfl
termination_by n => n
theorem Al_pt {kvs : List (DK × D)} (hk : ∀ s (c : Nat), dGet kvs (.inr s) = some (.int c) → c ≤ 3) : ∀ (n : Nat) (p : Pt), p.ok kvs → p.depth ≤ n → Al n p.d
  | 0, .mk w hd ps, _, h => by simp [Pt.depth] at h
  | n + 1, .mk w hd ps, ok, h => by
    simp only [Pt.depth] at h
    have l3 := hd_len hk ok.1
    obtain ⟨f1, f2⟩ := hd_flat ok.1
    refine ⟨?_, fun d hd' => ?_⟩
    · simp [ds_len]; omega
    · rcases List.mem_cons.mp hd' with rfl | hd'
      · exact Al_s
      rcases List.mem_append.mp hd' with hd' | hd'
      · rcases f2 d hd' with ⟨s, rfl⟩ | ⟨i, rfl⟩
        · exact Al_s
        · exact Al_i
      · obtain ⟨p, hp, rfl⟩ := ds_tup hd'
        exact Al_pt hk n p (oks_mem ok.2 p hp) (depths_mem (by omega) p hp)
section
variable {g : Cfg} {c e : Xp} {a b ss : Sms} {l : LEnv} {S : Store}
theorem ifT0 (h : ev g c l S = .ok (.bl true) S) : exs g (.cons (.ite c a b) ss) l S = (exs g a l S).seq fun l S => exs g ss l S := exs_ifT h
theorem ifF0 (h : ev g c l S = .ok (.bl false) S) : exs g (.cons (.ite c a .nil) ss) l S = exs g ss l S := exs_ifF h
theorem asg0 {i : Nat} (d : D) (h : ev g e l S = .ok d S) : exs g (.cons (.asg i e) ss) l S = exs g ss (l.set i (some d)) S := exs_asg h
theorem ret0 (d : D) (h : ev g e l S = .ok d S) : exs g (.cons (.ret e) ss) l S = .rt d S := exs_ret h
theorem ifR0 (d : D) (h : ev g c l S = .ok (.bl true) S) (k : ev g e l S = .ok d S) : exs g (.cons (.ite c (.cons (.ret e) .nil) b) ss) l S = .rt d S := by rw [exs_ifT h, exs_ret k, seq_rt]
end
theorem unp0 {g : Cfg} {e : Xp} {is : List Nat} {ss : Sms} {l l1 : LEnv} {S : Store} (d : D) (ds : List D) (h : ev g e l S = .ok d S) (h1 : seqOf S d = some ds) (h2 : setAll is ds l = some l1) : exs g (.cons (.unp is e) ss) l S = exs g ss l1 S := by
  rw [exs_1, ex_1, h, then_ok, h1]
  dsimp only
  rw [h2]
  dsimp only
  rw [seq_nx]
theorem ifS {g : Cfg} {c : Xp} {a ss : Sms} {l : LEnv} {S : Store} {d : D} (h : ev g c l S = .ok (.bl true) S) (k : exs g a l S = .rt d S) : exs g (.cons (.ite c a .nil) ss) l S = .rt d S := by rw [ifT0 h, k, seq_rt]
theorem whlF {c : LEnv → Store → R Bool} {body : LEnv → Store → RS} {n : Nat} {l : LEnv} {S : Store} (h : c l S = .ok false S) : whlLoop c body (n + 1) l S = .nx l S := by
  rw [whlLoop, h, then_ok, if_neg Bool.false_ne_true]
theorem whlT {c : LEnv → Store → R Bool} {body : LEnv → Store → RS} {n : Nat} {l l1 : LEnv} {S S1 : Store} (h : c l S = .ok true S) (k : body l S = .nx l1 S1) : whlLoop c body (n + 1) l S = whlLoop c body n l1 S1 := by
  rw [whlLoop, h, then_ok, if_pos rfl, k]
theorem whl0 {g : Cfg} {c : Xp} {b ss : Sms} {l l1 : LEnv} {S S1 : Store} (h : whlLoop (fun l1 S2 => (ev g c l1 S2).bind asB) (fun l1 S2 => exs g b l1 S2) g.fuel l S = .nx l1 S1) : exs g (.cons (.whl c b) ss) l S = exs g ss l1 S1 := by
  rw [exs_1, ex_11, h, seq_nx]
end Q
namespace G25
open PySem Mw
abbrev g_DEED : D := (D.str [100, 101, 101, 100])
abbrev g_FIGURES : D := (D.str [48, 49, 50, 51, 52, 53, 54, 55, 56, 57])
abbrev g_LETTERS : D := (D.str [97, 98, 99, 100, 101, 102, 103, 104, 105, 106, 107, 108, 109, 110, 111, 112, 113, 114, 115, 116, 117, 118, 119, 120, 121, 122])
abbrev g_MOST_DEEDS : D := (D.int 3)
abbrev g_MOST_DEEP : D := (D.int 6)
abbrev g_MOST_FIGURES : D := (D.int 13)
abbrev g_MOST_FIRST : D := (D.int 9)
abbrev g_MOST_NAME : D := (D.int 6)
abbrev g_MOST_NUMBER : D := (D.int 1000000000000)
abbrev g_MOST_PARTS : D := (D.int 24)
abbrev g_MOST_PLACES : D := (D.int 2)
abbrev g_MOST_SIGNS : D := (D.int 200)
abbrev g_NAMED : D := (D.tup [(D.str [115, 101, 116]), (D.str [116, 114, 121])])
abbrev g_OPEN : D := (D.str [40])
abbrev g_PAIRED : D := (D.tup [(D.str [116, 111]), (D.str [111, 114]), (D.str [97, 110, 100]), (D.str [112, 108, 117, 115]), (D.str [108, 101, 115, 115]), (D.str [116, 105, 109, 101, 115]), (D.str [106, 111, 105, 110]), (D.str [98, 101, 108, 111, 119]), (D.str [115, 97, 109, 101]), (D.str [117, 110, 108, 105, 107, 101]), (D.str [101, 118, 101, 114, 121]), (D.str [116, 104, 101, 110]), (D.str [119, 104, 105, 108, 101]), (D.str [115, 99, 97, 110])])
abbrev g_PLAIN : D := (D.tup [(D.str [110, 111, 110, 101]), (D.str [112, 111, 115])])
abbrev g_QUOTE : D := (D.str [34])
abbrev g_SHUT : D := (D.str [41])
abbrev g_SINGLE : D := (D.tup [(D.str [110, 111, 116]), (D.str [97, 103, 97, 105, 110]), (D.str [115, 97, 121]), (D.str [108, 111, 110, 103]), (D.str [116, 97, 98]), (D.str [102, 105, 110, 100]), (D.str [109, 97, 110, 121]), (D.str [109, 97, 116, 99, 104])])
/-- part low high -/
def b_is_number : Sms := (.cons (.ret (.and (.cons (.isi (.var 0) ["int"]) (.cons (.not (.isi (.var 0) ["bool"])) (.cons (.chn .LtE .LtE (.var 1) (.var 0) (.var 2)) .nil))))) .nil)
def f_is_number : Fn := ⟨3, 3, b_is_number⟩
def n_is_number : List Str := [nm "part", nm "low", nm "high"]
/-- part sign -/
def b_is_text : Sms := (.cons (.ite (.or (.cons (.not (.isi (.var 0) ["str"])) (.cons (.cmp .Gt (.blt .len false (.cons (.var 0) .nil)) (.glb "MOST_SIGNS" g_MOST_SIGNS)) .nil)))
    (.cons (.ret (.con (D.bl false))) .nil)
    .nil) (.cons (.ret (.blt .all false (.cons (.lc false [1] false (.seq (.var 0)) (.and (.cons (.chn .LtE .LtE (.con (D.str [32])) (.var 1) (.con (D.str [126]))) (.cons (.cmp .NotEq (.var 1) (.glb "QUOTE" g_QUOTE)) .nil))) (.con (D.bl true))) .nil))) .nil))
def f_is_text : Fn := ⟨1, 2, b_is_text⟩
def n_is_text : List Str := [nm "part", nm "sign"]
/-- part -/
def b_is_worth : Sms := (.cons (.ret (.or (.cons (.call "is_number" [] (.cons (.var 0) (.cons (.bin false .Sub (.con (D.int 0)) (.glb "MOST_NUMBER" g_MOST_NUMBER)) (.cons (.glb "MOST_NUMBER" g_MOST_NUMBER) .nil)))) (.cons (.call "is_text" [] (.cons (.var 0) .nil)) .nil)))) .nil)
def f_is_worth : Fn := ⟨1, 1, b_is_worth⟩
def n_is_worth : List Str := [nm "part"]
/-- part -/
def b_is_cell : Sms := (.cons (.ret (.and (.cons (.isi (.var 0) ["str"]) (.cons (.cmp .Eq (.blt .len false (.cons (.var 0) .nil)) (.con (D.int 1))) (.cons (.cmp .In (.var 0) (.glb "LETTERS" g_LETTERS)) .nil))))) .nil)
def f_is_cell : Fn := ⟨1, 1, b_is_cell⟩
def n_is_cell : List Str := [nm "part"]
/-- part letter -/
def b_is_name : Sms := (.cons (.ite (.or (.cons (.not (.isi (.var 0) ["str"])) (.cons (.not (.chn .LtE .LtE (.con (D.int 1)) (.blt .len false (.cons (.var 0) .nil)) (.glb "MOST_NAME" g_MOST_NAME))) .nil)))
    (.cons (.ret (.con (D.bl false))) .nil)
    .nil) (.cons (.ret (.blt .all false (.cons (.lc false [1] false (.seq (.var 0)) (.cmp .In (.var 1) (.glb "LETTERS" g_LETTERS)) (.con (D.bl true))) .nil))) .nil))
def f_is_name : Fn := ⟨1, 2, b_is_name⟩
def n_is_name : List Str := [nm "part", nm "letter"]
/-- part word -/
def b_inner_parts : Sms := (.cons (.asg 1 (.idx (.var 0) (.con (D.int 0)))) (.cons (.ite (.or (.cons (.cmp .In (.var 1) (.glb "PLAIN" g_PLAIN)) (.cons (.cmp .In (.var 1) (.tup (.cons (.con (D.str [105, 115])) (.cons (.con (D.str [97, 116])) .nil)))) .nil)))
    (.cons (.ret (.lst false .nil)) .nil)
    .nil) (.cons (.ite (.or (.cons (.cmp .In (.var 1) (.glb "NAMED" g_NAMED)) (.cons (.cmp .In (.var 1) (.tup (.cons (.con (D.str [109, 111, 115, 116])) (.cons (.con (D.str [99, 97, 108, 108])) .nil)))) .nil)))
    (.cons (.ret (.blt .list false (.cons (.slc false (.var 0) (.con (D.int 2)) .nop) .nil))) .nil)
    .nil) (.cons (.ret (.blt .list false (.cons (.slc false (.var 0) (.con (D.int 1)) .nop) .nil))) .nil))))
def f_inner_parts : Fn := ⟨1, 2, b_inner_parts⟩
def n_inner_parts : List Str := [nm "part", nm "word"]
/-- part deeds word rest counts one -/
def b_is_form : Sms := (.cons (.ite (.or (.cons (.not (.isi (.var 0) ["tuple"])) (.cons (.cmp .Eq (.var 0) (.tup .nil)) (.cons (.not (.isi (.idx (.var 0) (.con (D.int 0))) ["str"])) .nil))))
    (.cons (.ret (.con (D.bl false))) .nil)
    .nil) (.cons (.star 2 3 (.var 0)) (.cons (.ite (.cmp .Eq (.var 2) (.con (D.str [105, 115])))
    (.cons (.ret (.and (.cons (.cmp .Eq (.blt .len false (.cons (.var 3) .nil)) (.con (D.int 1))) (.cons (.call "is_worth" [] (.cons (.idx (.var 3) (.con (D.int 0))) .nil)) .nil)))) .nil)
    .nil) (.cons (.ite (.cmp .Eq (.var 2) (.con (D.str [97, 116])))
    (.cons (.ret (.and (.cons (.cmp .Eq (.blt .len false (.cons (.var 3) .nil)) (.con (D.int 1))) (.cons (.call "is_cell" [] (.cons (.idx (.var 3) (.con (D.int 0))) .nil)) .nil)))) .nil)
    .nil) (.cons (.ite (.cmp .In (.var 2) (.glb "NAMED" g_NAMED))
    (.cons (.ret (.and (.cons (.cmp .Eq (.blt .len false (.cons (.var 3) .nil)) (.con (D.int 2))) (.cons (.call "is_cell" [] (.cons (.idx (.var 3) (.con (D.int 0))) .nil)) .nil)))) .nil)
    .nil) (.cons (.ite (.cmp .Eq (.var 2) (.con (D.str [109, 111, 115, 116])))
    (.cons (.ret (.and (.cons (.cmp .Eq (.blt .len false (.cons (.var 3) .nil)) (.con (D.int 2))) (.cons (.call "is_number" [] (.cons (.idx (.var 3) (.con (D.int 0))) (.cons (.con (D.int 0)) (.cons (.glb "MOST_FIRST" g_MOST_FIRST) .nil)))) .nil)))) .nil)
    .nil) (.cons (.ite (.cmp .Eq (.var 2) (.con (D.str [99, 97, 108, 108])))
    (.cons (.ret (.and (.cons (.cmp .NotEq (.var 3) (.lst false .nil)) (.cons (.call "is_name" [] (.cons (.idx (.var 3) (.con (D.int 0))) .nil)) (.cons (.cmp .Eq (.mtd .get (.var 1) (.cons (.idx (.var 3) (.con (D.int 0))) (.cons (.neg (.con (D.int 1))) .nil))) (.bin false .Sub (.blt .len false (.cons (.var 3) .nil)) (.con (D.int 1)))) .nil))))) .nil)
    .nil) (.cons (.asg 4 (.dic true [.inr [105, 102]] (.cons (.con (D.int 3)) .nil))) (.cons (.exp (.mtd .update (.var 4) (.cons (.dc false [5] false (.seq (.glb "PLAIN" g_PLAIN)) (.var 5) (.con (D.int 0))) .nil))) (.cons (.exp (.mtd .update (.var 4) (.cons (.dc false [5] false (.seq (.glb "SINGLE" g_SINGLE)) (.var 5) (.con (D.int 1))) .nil))) (.cons (.exp (.mtd .update (.var 4) (.cons (.dc false [5] false (.seq (.glb "PAIRED" g_PAIRED)) (.var 5) (.con (D.int 2))) .nil))) (.cons (.ret (.cmp .Eq (.mtd .get (.var 4) (.cons (.var 2) (.cons (.neg (.con (D.int 1))) .nil))) (.blt .len false (.cons (.var 3) .nil)))) .nil))))))))))))
def f_is_form : Fn := ⟨2, 6, b_is_form⟩
def n_is_form : List Str := [nm "part", nm "deeds", nm "word", nm "rest", nm "counts", nm "one"]
/-- part deeds path met number inner -/
def b_need_part : Sms := (.cons (.exp (.mtd .append (.var 3) (.cons (.con (D.bl true)) .nil))) (.cons (.ite (.or (.cons (.not (.call "is_form" [] (.cons (.var 0) (.cons (.var 1) .nil)))) (.cons (.cmp .Gt (.blt .len false (.cons (.var 2) .nil)) (.glb "MOST_DEEP" g_MOST_DEEP)) (.cons (.cmp .Gt (.blt .len false (.cons (.var 3) .nil)) (.glb "MOST_PARTS" g_MOST_PARTS)) .nil))))
    (.cons (.rsX "BadProgram" (.cons (.var 2) .nil)) .nil)
    .nil) (.cons (.fr [4, 5] true (.enu (.call "inner_parts" [] (.cons (.var 0) .nil)))
    (.cons (.exp (.call "need_part" [] (.cons (.var 5) (.cons (.var 1) (.cons (.bin false .Add (.var 2) (.tup (.cons (.var 4) .nil))) (.cons (.var 3) .nil)))))) .nil)) .nil)))
def f_need_part : Fn := ⟨4, 6, b_need_part⟩
def n_need_part : List Str := [nm "part", nm "deeds", nm "path", nm "met", nm "number", nm "inner"]
/-- deed known cells cell -/
def b_is_head : Sms := (.cons (.ite (.or (.cons (.not (.isi (.var 0) ["tuple"])) (.cons (.cmp .NotEq (.blt .len false (.cons (.var 0) .nil)) (.con (D.int 3))) (.cons (.not (.call "is_name" [] (.cons (.idx (.var 0) (.con (D.int 0))) .nil))) (.cons (.cmp .In (.idx (.var 0) (.con (D.int 0))) (.var 1)) .nil)))))
    (.cons (.ret (.con (D.bl false))) .nil)
    .nil) (.cons (.asg 2 (.idx (.var 0) (.con (D.int 1)))) (.cons (.ite (.or (.cons (.not (.isi (.var 2) ["tuple"])) (.cons (.cmp .Gt (.blt .len false (.cons (.var 2) .nil)) (.glb "MOST_PLACES" g_MOST_PLACES)) (.cons (.not (.blt .all false (.cons (.lc false [3] false (.seq (.var 2)) (.call "is_cell" [] (.cons (.var 3) .nil)) (.con (D.bl true))) .nil))) .nil))))
    (.cons (.ret (.con (D.bl false))) .nil)
    .nil) (.cons (.ret (.or (.cons (.cmp .Lt (.blt .len false (.cons (.var 2) .nil)) (.con (D.int 2))) (.cons (.cmp .NotEq (.idx (.var 2) (.con (D.int 0))) (.idx (.var 2) (.con (D.int 1)))) .nil)))) .nil))))
def f_is_head : Fn := ⟨2, 4, b_is_head⟩
def n_is_head : List Str := [nm "deed", nm "known", nm "cells", nm "cell"]
/-- program known number deed -/
def b_need_program : Sms := (.cons (.ite (.or (.cons (.not (.isi (.var 0) ["tuple"])) (.cons (.cmp .NotEq (.blt .len false (.cons (.var 0) .nil)) (.con (D.int 2))) (.cons (.not (.isi (.idx (.var 0) (.con (D.int 1))) ["tuple"])) .nil))))
    (.cons (.rsX "BadProgram" (.cons (.tup .nil) .nil)) .nil)
    .nil) (.cons (.asg 1 (.dic true [] .nil)) (.cons (.fr [2, 3] true (.enu (.idx (.var 0) (.con (D.int 1))))
    (.cons (.ite (.or (.cons (.cmp .Eq (.var 2) (.glb "MOST_DEEDS" g_MOST_DEEDS)) (.cons (.not (.call "is_head" [] (.cons (.var 3) (.cons (.var 1) .nil)))) .nil)))
    (.cons (.rsX "BadProgram" (.cons (.tup (.cons (.bin false .Add (.var 2) (.con (D.int 1))) .nil)) .nil)) .nil)
    .nil) (.cons (.sset (.var 1) (.idx (.var 3) (.con (D.int 0))) (.blt .len false (.cons (.idx (.var 3) (.con (D.int 1))) .nil))) .nil))) (.cons (.exp (.call "need_part" [] (.cons (.idx (.var 0) (.con (D.int 0))) (.cons (.var 1) (.cons (.tup (.cons (.con (D.int 0)) .nil)) (.cons (.lst true .nil) .nil)))))) (.cons (.fr [2, 3] true (.enu (.idx (.var 0) (.con (D.int 1))))
    (.cons (.exp (.call "need_part" [] (.cons (.idx (.var 3) (.con (D.int 2))) (.cons (.var 1) (.cons (.tup (.cons (.bin false .Add (.var 2) (.con (D.int 1))) .nil)) (.cons (.lst true .nil) .nil)))))) .nil)) (.cons (.ret (.var 1)) .nil))))))
def f_need_program : Fn := ⟨1, 4, b_need_program⟩
def n_need_program : List Str := [nm "program", nm "known", nm "number", nm "deed"]
/-- worth -/
def b_worth_text : Sms := (.cons (.ret (.ite (.isi (.var 0) ["str"]) (.bin false .Add (.bin false .Add (.glb "QUOTE" g_QUOTE) (.var 0)) (.glb "QUOTE" g_QUOTE)) (.blt .str false (.cons (.var 0) .nil)))) .nil)
def f_worth_text : Fn := ⟨1, 1, b_worth_text⟩
def n_worth_text : List Str := [nm "worth"]
/-- part words one -/
def b_part_text : Sms := (.cons (.asg 1 (.lst true (.cons (.idx (.var 0) (.con (D.int 0))) .nil))) (.cons (.fr [2] false (.seq (.slc false (.var 0) (.con (D.int 1)) .nop))
    (.cons (.ite (.isi (.var 2) ["tuple"])
    (.cons (.exp (.mtd .append (.var 1) (.cons (.call "part_text" [] (.cons (.var 2) .nil)) .nil))) .nil)
    (.cons (.exp (.mtd .append (.var 1) (.cons (.ite (.cmp .Eq (.idx (.var 0) (.con (D.int 0))) (.con (D.str [105, 115]))) (.call "worth_text" [] (.cons (.var 2) .nil)) (.blt .str false (.cons (.var 2) .nil))) .nil))) .nil)) .nil)) (.cons (.ret (.bin false .Add (.bin false .Add (.glb "OPEN" g_OPEN) (.mtd .join (.con (D.str [32])) (.cons (.var 1) .nil))) (.glb "SHUT" g_SHUT))) .nil)))
def f_part_text : Fn := ⟨1, 3, b_part_text⟩
def n_part_text : List Str := [nm "part", nm "words", nm "one"]
/-- program rows name cells part -/
def b_written : Sms := (.cons (.exp (.call "need_program" [] (.cons (.var 0) .nil))) (.cons (.asg 1 (.lst true (.cons (.call "part_text" [] (.cons (.idx (.var 0) (.con (D.int 0))) .nil)) .nil))) (.cons (.fr [2, 3, 4] true (.seq (.idx (.var 0) (.con (D.int 1))))
    (.cons (.exp (.mtd .append (.var 1) (.cons (.mtd .join (.con (D.str [32])) (.cons (.bin false .Add (.bin false .Add (.lst false (.cons (.glb "DEED" g_DEED) (.cons (.var 2) .nil))) (.blt .list false (.cons (.var 3) .nil))) (.lst false (.cons (.call "part_text" [] (.cons (.var 4) .nil)) .nil))) .nil)) .nil))) .nil)) (.cons (.ret (.mtd .join (.con (D.str [10])) (.cons (.var 1) .nil))) .nil))))
def f_written : Fn := ⟨1, 5, b_written⟩
def n_written : List Str := [nm "program", nm "rows", nm "name", nm "cells", nm "part"]
/-- line found at sign end -/
def b_words_of : Sms := (.cons (.asg 1 (.lst true .nil)) (.cons (.asg 2 (.con (D.int 0))) (.cons (.whl (.cmp .Lt (.var 2) (.blt .len false (.cons (.var 0) .nil)))
    (.cons (.asg 3 (.idx (.var 0) (.var 2))) (.cons (.asg 4 (.bin false .Add (.var 2) (.con (D.int 1)))) (.cons (.ite (.cmp .Eq (.var 3) (.glb "QUOTE" g_QUOTE))
    (.cons (.whl (.and (.cons (.cmp .Lt (.var 4) (.blt .len false (.cons (.var 0) .nil))) (.cons (.cmp .NotEq (.idx (.var 0) (.var 4)) (.glb "QUOTE" g_QUOTE)) .nil)))
    (.cons (.aug 4 .Add (.con (D.int 1))) .nil)) (.cons (.asg 4 (.blt .min false (.cons (.bin false .Add (.var 4) (.con (D.int 1))) (.cons (.blt .len false (.cons (.var 0) .nil)) .nil)))) .nil))
    (.cons (.ite (.cmp .NotIn (.var 3) (.tup (.cons (.glb "OPEN" g_OPEN) (.cons (.glb "SHUT" g_SHUT) (.cons (.con (D.str [32])) .nil)))))
    (.cons (.whl (.and (.cons (.cmp .Lt (.var 4) (.blt .len false (.cons (.var 0) .nil))) (.cons (.cmp .NotIn (.idx (.var 0) (.var 4)) (.tup (.cons (.glb "OPEN" g_OPEN) (.cons (.glb "SHUT" g_SHUT) (.cons (.glb "QUOTE" g_QUOTE) (.cons (.con (D.str [32])) .nil)))))) .nil)))
    (.cons (.aug 4 .Add (.con (D.int 1))) .nil)) .nil)
    .nil) .nil)) (.cons (.ite (.cmp .NotEq (.var 3) (.con (D.str [32])))
    (.cons (.exp (.mtd .append (.var 1) (.cons (.slc false (.var 0) (.var 2) (.var 4)) .nil))) .nil)
    .nil) (.cons (.asg 2 (.var 4)) .nil)))))) (.cons (.ret (.var 1)) .nil))))
def f_words_of : Fn := ⟨1, 5, b_words_of⟩
def n_words_of : List Str := [nm "line", nm "found", nm "at", nm "sign", nm "end"]
/-- self words ahead -/
def b_Reader_d___init__ : Sms := (.cons (.fset (.var 0) "words" (.var 1)) (.cons (.fset (.var 0) "at" (.con (D.int 0))) (.cons (.fset (.var 0) "ahead" (.var 2)) .nil)))
def f_Reader_d___init__ : Fn := ⟨3, 3, b_Reader_d___init__⟩
def n_Reader_d___init__ : List Str := [nm "self", nm "words", nm "ahead"]
/-- self -/
def b_Reader_d_take : Sms := (.cons (.ite (.cmp .Eq (.fld (.var 0) "at") (.blt .len false (.cons (.fld (.var 0) "words") .nil)))
    (.cons (.rsX "BadText" (.cons (.bin false .Add (.fld (.var 0) "ahead") (.fld (.var 0) "at")) .nil)) .nil)
    .nil) (.cons (.faug (.var 0) "at" .Add (.con (D.int 1))) (.cons (.ret (.idx (.fld (.var 0) "words") (.bin false .Sub (.fld (.var 0) "at") (.con (D.int 1))))) .nil)))
def f_Reader_d_take : Fn := ⟨1, 1, b_Reader_d_take⟩
def n_Reader_d_take : List Str := [nm "self"]
/-- self good -/
def b_Reader_d_must : Sms := (.cons (.ite (.not (.var 1))
    (.cons (.rsX "BadText" (.cons (.bin false .Sub (.bin false .Add (.fld (.var 0) "ahead") (.fld (.var 0) "at")) (.con (D.int 1))) .nil)) .nil)
    .nil) .nil)
def f_Reader_d_must : Fn := ⟨2, 2, b_Reader_d_must⟩
def n_Reader_d_must : List Str := [nm "self", nm "good"]
/-- self found -/
def b_Reader_d_whole : Sms := (.cons (.asg 1 (.umt "one_part" (.var 0) .nil)) (.cons (.ite (.cmp .Lt (.fld (.var 0) "at") (.blt .len false (.cons (.fld (.var 0) "words") .nil)))
    (.cons (.rsX "BadText" (.cons (.bin false .Add (.fld (.var 0) "ahead") (.fld (.var 0) "at")) .nil)) .nil)
    .nil) (.cons (.ret (.var 1)) .nil)))
def f_Reader_d_whole : Fn := ⟨1, 2, b_Reader_d_whole⟩
def n_Reader_d_whole : List Str := [nm "self", nm "found"]
/-- self word counts one found many -/
def b_Reader_d_one_part : Sms := (.cons (.exp (.umt "must" (.var 0) (.cons (.cmp .Eq (.umt "take" (.var 0) .nil) (.glb "OPEN" g_OPEN)) .nil))) (.cons (.asg 1 (.umt "take" (.var 0) .nil)) (.cons (.asg 2 (.dic true [.inr [99, 97, 108, 108], .inr [105, 115], .inr [97, 116], .inr [109, 111, 115, 116], .inr [105, 102]] (.cons (.neg (.con (D.int 1))) (.cons (.con (D.int 0)) (.cons (.con (D.int 0)) (.cons (.con (D.int 1)) (.cons (.con (D.int 3)) .nil))))))) (.cons (.exp (.mtd .update (.var 2) (.cons (.dc false [3] false (.seq (.glb "PLAIN" g_PLAIN)) (.var 3) (.con (D.int 0))) .nil))) (.cons (.exp (.mtd .update (.var 2) (.cons (.dc false [3] false (.seq (.bin false .Add (.glb "SINGLE" g_SINGLE) (.glb "NAMED" g_NAMED))) (.var 3) (.con (D.int 1))) .nil))) (.cons (.exp (.mtd .update (.var 2) (.cons (.dc false [3] false (.seq (.glb "PAIRED" g_PAIRED)) (.var 3) (.con (D.int 2))) .nil))) (.cons (.exp (.umt "must" (.var 0) (.cons (.cmp .In (.var 1) (.var 2)) .nil))) (.cons (.asg 4 (.bin false .Add (.tup (.cons (.var 1) .nil)) (.umt "heads" (.var 0) (.cons (.var 1) .nil)))) (.cons (.asg 5 (.idx (.var 2) (.var 1))) (.cons (.whl (.or (.cons (.cmp .Gt (.var 5) (.con (D.int 0))) (.cons (.and (.cons (.cmp .Lt (.var 5) (.con (D.int 0))) (.cons (.cmp .Lt (.fld (.var 0) "at") (.blt .len false (.cons (.fld (.var 0) "words") .nil))) (.cons (.cmp .Eq (.idx (.fld (.var 0) "words") (.fld (.var 0) "at")) (.glb "OPEN" g_OPEN)) .nil)))) .nil)))
    (.cons (.asg 4 (.bin false .Add (.var 4) (.tup (.cons (.umt "one_part" (.var 0) .nil) .nil)))) (.cons (.aug 5 .Sub (.con (D.int 1))) .nil))) (.cons (.exp (.umt "must" (.var 0) (.cons (.cmp .Eq (.umt "take" (.var 0) .nil) (.glb "SHUT" g_SHUT)) .nil))) (.cons (.ret (.var 4)) .nil))))))))))))
def f_Reader_d_one_part : Fn := ⟨1, 6, b_Reader_d_one_part⟩
def n_Reader_d_one_part : List Str := [nm "self", nm "word", nm "counts", nm "one", nm "found", nm "many"]
/-- self word name -/
def b_Reader_d_heads : Sms := (.cons (.ite (.cmp .Eq (.var 1) (.con (D.str [105, 115])))
    (.cons (.ret (.tup (.cons (.umt "worth" (.var 0) .nil) .nil))) .nil)
    .nil) (.cons (.ite (.cmp .In (.var 1) (.tup (.cons (.con (D.str [97, 116])) (.cons (.con (D.str [115, 101, 116])) (.cons (.con (D.str [116, 114, 121])) .nil)))))
    (.cons (.asg 2 (.umt "take" (.var 0) .nil)) (.cons (.exp (.umt "must" (.var 0) (.cons (.call "is_cell" [] (.cons (.var 2) .nil)) .nil))) (.cons (.ret (.tup (.cons (.var 2) .nil))) .nil)))
    .nil) (.cons (.ite (.cmp .Eq (.var 1) (.con (D.str [99, 97, 108, 108])))
    (.cons (.asg 2 (.umt "take" (.var 0) .nil)) (.cons (.exp (.umt "must" (.var 0) (.cons (.call "is_name" [] (.cons (.var 2) .nil)) .nil))) (.cons (.ret (.tup (.cons (.var 2) .nil))) .nil)))
    .nil) (.cons (.ret (.ite (.cmp .Eq (.var 1) (.con (D.str [109, 111, 115, 116]))) (.tup (.cons (.umt "number" (.var 0) (.cons (.umt "take" (.var 0) .nil) .nil)) .nil)) (.tup .nil))) .nil))))
def f_Reader_d_heads : Fn := ⟨2, 3, b_Reader_d_heads⟩
def n_Reader_d_heads : List Str := [nm "self", nm "word", nm "name"]
/-- self word -/
def b_Reader_d_worth : Sms := (.cons (.asg 1 (.umt "take" (.var 0) .nil)) (.cons (.ite (.cmp .NotEq (.idx (.var 1) (.con (D.int 0))) (.glb "QUOTE" g_QUOTE))
    (.cons (.ret (.umt "number" (.var 0) (.cons (.var 1) .nil))) .nil)
    .nil) (.cons (.exp (.umt "must" (.var 0) (.cons (.and (.cons (.cmp .Gt (.blt .len false (.cons (.var 1) .nil)) (.con (D.int 1))) (.cons (.cmp .Eq (.idx (.var 1) (.neg (.con (D.int 1)))) (.glb "QUOTE" g_QUOTE)) .nil))) .nil))) (.cons (.ret (.slc false (.var 1) (.con (D.int 1)) (.neg (.con (D.int 1))))) .nil))))
def f_Reader_d_worth : Fn := ⟨1, 2, b_Reader_d_worth⟩
def n_Reader_d_worth : List Str := [nm "self", nm "word"]
/-- self word figures sign -/
def b_Reader_d_number : Sms := (.cons (.asg 2 (.ite (.mtd .startswith (.var 1) (.cons (.con (D.str [45])) .nil)) (.slc false (.var 1) (.con (D.int 1)) .nop) (.var 1))) (.cons (.exp (.umt "must" (.var 0) (.cons (.and (.cons (.chn .LtE .LtE (.con (D.int 1)) (.blt .len false (.cons (.var 2) .nil)) (.glb "MOST_FIGURES" g_MOST_FIGURES)) (.cons (.blt .all false (.cons (.lc false [3] false (.seq (.var 2)) (.cmp .In (.var 3) (.glb "FIGURES" g_FIGURES)) (.con (D.bl true))) .nil)) .nil))) .nil))) (.cons (.exp (.umt "must" (.var 0) (.cons (.or (.cons (.cmp .NotEq (.idx (.var 2) (.con (D.int 0))) (.con (D.str [48]))) (.cons (.cmp .Eq (.var 1) (.con (D.str [48]))) .nil))) .nil))) (.cons (.ret (.blt .int false (.cons (.var 1) .nil))) .nil))))
def f_Reader_d_number : Fn := ⟨2, 4, b_Reader_d_number⟩
def n_Reader_d_number : List Str := [nm "self", nm "word", nm "figures", nm "sign"]
/-- text first others words part ahead deeds line reader name cells cell program -/
def b_read : Sms := (.cons (.star 1 2 (.mtd .split (.var 0) (.cons (.con (D.str [10])) .nil))) (.cons (.asg 3 (.call "words_of" [] (.cons (.var 1) .nil))) (.cons (.asg 4 (.umt "whole" (.mk "Reader" (.cons (.var 3) (.cons (.con (D.int 0)) .nil))) .nil)) (.cons (.asg 5 (.blt .len false (.cons (.var 3) .nil))) (.cons (.asg 6 (.lst true .nil)) (.cons (.fr [7] false (.seq (.var 2))
    (.cons (.asg 3 (.call "words_of" [] (.cons (.var 7) .nil))) (.cons (.asg 8 (.mk "Reader" (.cons (.var 3) (.cons (.var 5) .nil)))) (.cons (.exp (.umt "must" (.var 8) (.cons (.cmp .Eq (.umt "take" (.var 8) .nil) (.glb "DEED" g_DEED)) .nil))) (.cons (.asg 9 (.umt "take" (.var 8) .nil)) (.cons (.exp (.umt "must" (.var 8) (.cons (.call "is_name" [] (.cons (.var 9) .nil)) .nil))) (.cons (.asg 10 (.tup .nil)) (.cons (.whl (.and (.cons (.cmp .Lt (.fld (.var 8) "at") (.blt .len false (.cons (.var 3) .nil))) (.cons (.cmp .NotEq (.idx (.var 3) (.fld (.var 8) "at")) (.glb "OPEN" g_OPEN)) .nil)))
    (.cons (.asg 11 (.umt "take" (.var 8) .nil)) (.cons (.exp (.umt "must" (.var 8) (.cons (.call "is_cell" [] (.cons (.var 11) .nil)) .nil))) (.cons (.asg 10 (.bin false .Add (.var 10) (.tup (.cons (.var 11) .nil)))) .nil)))) (.cons (.exp (.mtd .append (.var 6) (.cons (.tup (.cons (.var 9) (.cons (.var 10) (.cons (.umt "whole" (.var 8) .nil) .nil)))) .nil))) (.cons (.aug 5 .Add (.blt .len false (.cons (.var 3) .nil))) .nil)))))))))) (.cons (.asg 12 (.tup (.cons (.var 4) (.cons (.blt .tuple false (.cons (.var 6) .nil)) .nil)))) (.cons (.exp (.call "need_program" [] (.cons (.var 12) .nil))) (.cons (.ret (.var 12)) .nil)))))))))
def f_read : Fn := ⟨1, 13, b_read⟩
def n_read : List Str := [nm "text", nm "first", nm "others", nm "words", nm "part", nm "ahead", nm "deeds", nm "line", nm "reader", nm "name", nm "cells", nm "cell", nm "program"]
/-- part inner -/
def b_size_of : Sms := (.cons (.ret (.bin false .Add (.con (D.int 1)) (.blt .sum false (.cons (.lc false [1] false (.seq (.call "inner_parts" [] (.cons (.var 0) .nil))) (.call "size_of" [] (.cons (.var 1) .nil)) (.con (D.bl true))) .nil)))) .nil)
def f_size_of : Fn := ⟨1, 2, b_size_of⟩
def n_size_of : List Str := [nm "part", nm "inner"]
/-- program deed -/
def b_size : Sms := (.cons (.exp (.call "need_program" [] (.cons (.var 0) .nil))) (.cons (.ret (.bin false .Add (.call "size_of" [] (.cons (.idx (.var 0) (.con (D.int 0))) .nil)) (.blt .sum false (.cons (.lc false [1] false (.seq (.idx (.var 0) (.con (D.int 1)))) (.call "size_of" [] (.cons (.idx (.var 1) (.con (D.int 2))) .nil)) (.con (D.bl true))) .nil)))) .nil))
def f_size : Fn := ⟨1, 2, b_size⟩
def n_size : List Str := [nm "program", nm "deed"]
/-- _law_script _law_mixed _law_cell -/
def b__law_row : Sms := (.cons (.asg 1 (.con (D.int 7))) (.cons (.fr [2] false (.seq (.var 0))
    (.cons (.asg 1 (.bin false .Mod (.bin false .Add (.bin false .Add (.bin false .Mult (.var 1) (.con (D.int 48271))) (.var 2)) (.con (D.int 11))) (.con (D.int 2147483647)))) .nil)) (.cons (.ret (.lst true (.cons (.var 0) (.cons (.con (D.int 0)) (.cons (.con (D.int 0)) (.cons (.var 1) .nil)))))) .nil)))
def f__law_row : Fn := ⟨1, 3, b__law_row⟩
def n__law_row : List Str := [nm "_law_script", nm "_law_mixed", nm "_law_cell"]
/-- _law_row_here _law_many _law_found _law_cell -/
def b__law_taken : Sms := (.cons (.ite (.cmp .Gt (.idx (.var 0) (.con (D.int 2))) (.con (D.int 0)))
    (.cons (.asg 2 (.bin false .Mod (.idx (.var 0) (.con (D.int 2))) (.var 1))) (.cons (.sset (.var 0) (.con (D.int 2)) (.bin false .FloorDiv (.idx (.var 0) (.con (D.int 2))) (.var 1))) (.cons (.ret (.var 2)) .nil)))
    .nil) (.cons (.ite (.cmp .Lt (.idx (.var 0) (.con (D.int 1))) (.blt .len false (.cons (.idx (.var 0) (.con (D.int 0))) .nil)))
    (.cons (.asg 3 (.idx (.idx (.var 0) (.con (D.int 0))) (.idx (.var 0) (.con (D.int 1))))) (.cons (.sset (.var 0) (.con (D.int 1)) (.bin false .Add (.idx (.var 0) (.con (D.int 1))) (.con (D.int 1)))) (.cons (.ite (.cmp .GtE (.var 3) (.bin false .Pow (.con (D.int 10)) (.con (D.int 18))))
    (.cons (.sset (.var 0) (.con (D.int 2)) (.bin false .FloorDiv (.var 3) (.var 1))) .nil)
    .nil) (.cons (.ret (.bin false .Mod (.var 3) (.var 1))) .nil))))
    .nil) (.cons (.sset (.var 0) (.con (D.int 3)) (.bin false .Mod (.bin false .Add (.bin false .Mult (.idx (.var 0) (.con (D.int 3))) (.con (D.int 48271))) (.con (D.int 12345))) (.con (D.int 2147483647)))) (.cons (.ret (.bin false .Mod (.bin false .FloorDiv (.idx (.var 0) (.con (D.int 3))) (.con (D.int 1009))) (.var 1))) .nil))))
def f__law_taken : Fn := ⟨2, 4, b__law_taken⟩
def n__law_taken : List Str := [nm "_law_row_here", nm "_law_many", nm "_law_found", nm "_law_cell"]
/-- _law_row_here _law_wished _law_k -/
def b__law_text : Sms := (.cons (.ret (.mtd .join (.con (D.str [])) (.cons (.lc false [2] false (.rng1 (.call "_law_taken" [] (.cons (.var 0) (.cons (.bin false .Add (.var 1) (.con (D.int 1))) .nil)))) (.idx (.con (D.str [97, 97, 98, 98, 32, 51, 99])) (.call "_law_taken" [] (.cons (.var 0) (.cons (.con (D.int 7)) .nil)))) (.con (D.bl true))) .nil))) .nil)
def f__law_text : Fn := ⟨2, 3, b__law_text⟩
def n__law_text : List Str := [nm "_law_row_here", nm "_law_wished", nm "_law_k"]
/-- _law_row_here _law_way -/
def b__law_number : Sms := (.cons (.asg 1 (.call "_law_taken" [] (.cons (.var 0) (.cons (.con (D.int 12)) .nil)))) (.cons (.ret (.ite (.cmp .Eq (.var 1) (.con (D.int 0))) (.bin false .Sub (.bin false .Pow (.con (D.int 10)) (.con (D.int 12))) (.call "_law_taken" [] (.cons (.var 0) (.cons (.con (D.int 9)) .nil)))) (.ite (.cmp .Lt (.var 1) (.con (D.int 5))) (.bin false .Sub (.call "_law_taken" [] (.cons (.var 0) (.cons (.con (D.int 9)) .nil))) (.con (D.int 3))) (.call "_law_taken" [] (.cons (.var 0) (.cons (.con (D.int 5)) .nil)))))) .nil))
def f__law_number : Fn := ⟨1, 2, b__law_number⟩
def n__law_number : List Str := [nm "_law_row_here", nm "_law_way"]
/-- _law_row_here _law_kind _law_deep _law_left _law_names _law_name _law_words _law_numbers _law_texts _law_word _law_codes _law_worth _law_some _law_head _law_many _law_found _law_code _law_other -/
def b__law_part : Sms := (.cons (.sset (.var 3) (.con (D.int 0)) (.bin false .Sub (.idx (.var 3) (.con (D.int 0))) (.con (D.int 1)))) (.cons (.asg 1 (.ite (.cmp .Gt (.call "_law_taken" [] (.cons (.var 0) (.cons (.con (D.int 12)) .nil))) (.con (D.int 0))) (.var 1) (.bin false .Sub (.con (D.int 1)) (.var 1)))) (.cons (.asg 5 (.idx (.idx (.lst false (.cons (.con (D.str [97, 98])) (.cons (.con (D.str [120, 121])) .nil))) (.var 1)) (.call "_law_taken" [] (.cons (.var 0) (.cons (.con (D.int 2)) .nil))))) (.cons (.asg 6 (.lst false (.cons (.tup (.cons (.con (D.str [111, 114])) (.cons (.con (D.str [107, 107])) .nil))) (.cons (.tup (.cons (.con (D.str [97, 110, 100])) (.cons (.con (D.str [97, 107])) .nil))) (.cons (.tup (.cons (.con (D.str [97, 110, 100])) (.cons (.con (D.str [97, 107])) .nil))) (.cons (.tup (.cons (.con (D.str [116, 104, 101, 110])) (.cons (.con (D.str [97, 107])) .nil))) (.cons (.tup (.cons (.con (D.str [101, 118, 101, 114, 121])) (.cons (.con (D.str [97, 107])) .nil))) (.cons (.tup (.cons (.con (D.str [119, 104, 105, 108, 101])) (.cons (.con (D.str [97, 107])) .nil))) .nil)))))))) (.cons (.asg 6 (.bin false .Add (.var 6) (.lst false (.cons (.tup (.cons (.con (D.str [115, 99, 97, 110])) (.cons (.con (D.str [116, 107])) .nil))) (.cons (.tup (.cons (.con (D.str [115, 97, 121])) (.cons (.con (D.str [107])) .nil))) (.cons (.tup (.cons (.con (D.str [115, 101, 116])) (.cons (.con (D.str [107])) .nil))) (.cons (.tup (.cons (.con (D.str [116, 114, 121])) (.cons (.con (D.str [107])) .nil))) (.cons (.tup (.cons (.con (D.str [109, 111, 115, 116])) (.cons (.con (D.str [107])) .nil))) (.cons (.tup (.cons (.con (D.str [97, 103, 97, 105, 110])) (.cons (.con (D.str [107])) .nil))) .nil))))))))) (.cons (.asg 6 (.bin false .Add (.var 6) (.lst false (.cons (.tup (.cons (.con (D.str [115, 97, 109, 101])) (.cons (.con (D.str [107, 107])) .nil))) (.cons (.tup (.cons (.con (D.str [117, 110, 108, 105, 107, 101])) (.cons (.con (D.str [107, 107])) .nil))) (.cons (.tup (.cons (.con (D.str [99, 97, 108, 108])) (.cons (.con (D.str [])) .nil))) (.cons (.tup (.cons (.con (D.str [110, 111, 116])) (.cons (.con (D.str [97])) .nil))) (.cons (.tup (.cons (.con (D.str [105, 102])) (.cons (.con (D.str [97, 107, 107])) .nil))) .nil)))))))) (.cons (.asg 7 (.lst false (.cons (.tup (.cons (.con (D.str [116, 111])) (.cons (.con (D.str [110, 110])) .nil))) (.cons (.tup (.cons (.con (D.str [116, 111])) (.cons (.con (D.str [110, 110])) .nil))) (.cons (.tup (.cons (.con (D.str [112, 108, 117, 115])) (.cons (.con (D.str [110, 110])) .nil))) (.cons (.tup (.cons (.con (D.str [108, 101, 115, 115])) (.cons (.con (D.str [110, 110])) .nil))) (.cons (.tup (.cons (.con (D.str [116, 105, 109, 101, 115])) (.cons (.con (D.str [110, 110])) .nil))) (.cons (.tup (.cons (.con (D.str [98, 101, 108, 111, 119])) (.cons (.con (D.str [110, 110])) .nil))) .nil)))))))) (.cons (.asg 8 (.lst false (.cons (.tup (.cons (.con (D.str [106, 111, 105, 110])) (.cons (.con (D.str [116, 116])) .nil))) (.cons (.tup (.cons (.con (D.str [106, 111, 105, 110])) (.cons (.con (D.str [116, 116])) .nil))) (.cons (.tup (.cons (.con (D.str [116, 97, 98])) (.cons (.con (D.str [110])) .nil))) (.cons (.tup (.cons (.con (D.str [116, 97, 98])) (.cons (.con (D.str [110])) .nil))) (.cons (.tup (.cons (.con (D.str [116, 97, 98])) (.cons (.con (D.str [110])) .nil))) (.cons (.tup (.cons (.con (D.str [111, 114])) (.cons (.con (D.str [107, 107])) .nil))) (.cons (.tup (.cons (.con (D.str [111, 114])) (.cons (.con (D.str [107, 107])) .nil))) .nil))))))))) (.cons (.asg 6 (.bin false .Add (.var 6) (.idx (.lst false (.cons (.bin false .Add (.var 7) (.lst false (.cons (.tup (.cons (.con (D.str [108, 111, 110, 103])) (.cons (.con (D.str [116])) .nil))) (.cons (.tup (.cons (.con (D.str [102, 105, 110, 100])) (.cons (.con (D.str [116])) .nil))) (.cons (.tup (.cons (.con (D.str [109, 97, 110, 121])) (.cons (.con (D.str [116])) .nil))) (.cons (.tup (.cons (.con (D.str [109, 97, 116, 99, 104])) (.cons (.con (D.str [116])) .nil))) .nil)))))) (.cons (.var 8) .nil))) (.var 1)))) (.cons (.unp [9, 10] (.idx (.var 6) (.call "_law_taken" [] (.cons (.var 0) (.cons (.blt .len false (.cons (.var 6) .nil)) .nil))))) (.cons (.ite (.or (.cons (.cmp .Lt (.var 2) (.con (D.int 2))) (.cons (.cmp .Lt (.idx (.var 3) (.con (D.int 0))) (.con (D.int 2))) (.cons (.cmp .Eq (.call "_law_taken" [] (.cons (.var 0) (.cons (.con (D.int 9)) .nil))) (.con (D.int 0))) (.cons (.and (.cons (.cmp .Eq (.var 9) (.con (D.str [99, 97, 108, 108]))) (.cons (.cmp .Eq (.bin false .Mult (.idx (.var 3) (.con (D.int 1))) (.blt .len false (.cons (.var 4) .nil))) (.con (D.int 0))) .nil))) .nil)))))
    (.cons (.asg 11 (.ite (.cmp .Eq (.var 1) (.con (D.int 1))) (.call "_law_text" [] (.cons (.var 0) (.cons (.con (D.int 5)) .nil))) (.call "_law_number" [] (.cons (.var 0) .nil)))) (.cons (.asg 12 (.lst false (.cons (.tup (.cons (.con (D.str [110, 111, 110, 101])) .nil)) (.cons (.tup (.cons (.con (D.str [97, 116])) (.cons (.var 5) .nil))) (.cons (.tup (.cons (.con (D.str [97, 116])) (.cons (.var 5) .nil))) (.cons (.tup (.cons (.con (D.str [105, 115])) (.cons (.var 11) .nil))) (.cons (.tup (.cons (.con (D.str [105, 115])) (.cons (.var 11) .nil))) (.cons (.tup (.cons (.con (D.str [112, 111, 115])) .nil)) .nil)))))))) (.cons (.ret (.idx (.var 12) (.call "_law_taken" [] (.cons (.var 0) (.cons (.bin false .Sub (.con (D.int 6)) (.var 1)) .nil))))) .nil)))
    .nil) (.cons (.asg 13 (.tup .nil)) (.cons (.ite (.cmp .Eq (.var 9) (.con (D.str [99, 97, 108, 108])))
    (.cons (.sset (.var 3) (.con (D.int 1)) (.bin false .Sub (.idx (.var 3) (.con (D.int 1))) (.con (D.int 1)))) (.cons (.unp [5, 14] (.idx (.var 4) (.call "_law_taken" [] (.cons (.var 0) (.cons (.blt .len false (.cons (.var 4) .nil)) .nil))))) (.cons (.unp [13, 10] (.tup (.cons (.tup (.cons (.var 5) .nil)) (.cons (.bin false .Mult (.con (D.str [110])) (.var 14)) .nil)))) .nil)))
    .nil) (.cons (.ite (.cmp .In (.var 9) (.tup (.cons (.con (D.str [115, 101, 116])) (.cons (.con (D.str [116, 114, 121])) (.cons (.con (D.str [109, 111, 115, 116])) .nil)))))
    (.cons (.asg 13 (.tup (.cons (.ite (.cmp .Eq (.var 9) (.con (D.str [109, 111, 115, 116]))) (.call "_law_taken" [] (.cons (.var 0) (.cons (.con (D.int 4)) .nil))) (.var 5)) .nil))) .nil)
    .nil) (.cons (.asg 15 (.bin false .Add (.tup (.cons (.var 9) .nil)) (.var 13))) (.cons (.fr [16] false (.seq (.var 10))
    (.cons (.asg 17 (.mtd .get (.dic false [.inr [110], .inr [116], .inr [107]] (.cons (.con (D.int 0)) (.cons (.con (D.int 1)) (.cons (.var 1) .nil)))) (.cons (.var 16) (.cons (.call "_law_taken" [] (.cons (.var 0) (.cons (.con (D.int 2)) .nil))) .nil)))) (.cons (.asg 15 (.bin false .Add (.var 15) (.tup (.cons (.call "_law_part" [] (.cons (.var 0) (.cons (.var 17) (.cons (.bin false .Sub (.var 2) (.con (D.int 1))) (.cons (.var 3) (.cons (.var 4) .nil)))))) .nil)))) .nil))) (.cons (.ret (.var 15)) .nil)))))))))))))))))
def f__law_part : Fn := ⟨5, 18, b__law_part⟩
def n__law_part : List Str := [nm "_law_row_here", nm "_law_kind", nm "_law_deep", nm "_law_left", nm "_law_names", nm "_law_name", nm "_law_words", nm "_law_numbers", nm "_law_texts", nm "_law_word", nm "_law_codes", nm "_law_worth", nm "_law_some", nm "_law_head", nm "_law_many", nm "_law_found", nm "_law_code", nm "_law_other"]
/-- _law_row_here _law_many _law_calls _law_names _law_left _law_part_here _law_deeds _law_name _law_count _law_inner -/
def b__law_program : Sms := (.cons (.asg 3 (.slc false (.lst false (.cons (.tup (.cons (.con (D.str [102])) (.cons (.call "_law_taken" [] (.cons (.var 0) (.cons (.con (D.int 3)) .nil))) .nil))) (.cons (.tup (.cons (.con (D.str [115, 117, 98])) (.cons (.call "_law_taken" [] (.cons (.var 0) (.cons (.con (D.int 3)) .nil))) .nil))) (.cons (.tup (.cons (.con (D.str [103])) (.cons (.con (D.int 0)) .nil))) .nil)))) .nop (.call "_law_taken" [] (.cons (.var 0) (.cons (.con (D.int 4)) .nil))))) (.cons (.asg 4 (.lst true (.cons (.var 1) (.cons (.var 2) .nil)))) (.cons (.asg 5 (.call "_law_part" [] (.cons (.var 0) (.cons (.bin false .FloorDiv (.call "_law_taken" [] (.cons (.var 0) (.cons (.con (D.int 3)) .nil))) (.con (D.int 2))) (.cons (.bin false .Add (.con (D.int 2)) (.call "_law_taken" [] (.cons (.var 0) (.cons (.con (D.int 4)) .nil)))) (.cons (.var 4) (.cons (.var 3) .nil))))))) (.cons (.asg 6 (.lst true .nil)) (.cons (.fr [7, 8] true (.seq (.var 3))
    (.cons (.sset (.var 4) (.con (D.int 0)) (.blt .min false (.cons (.var 1) (.cons (.con (D.int 7)) .nil)))) (.cons (.asg 9 (.call "_law_part" [] (.cons (.var 0) (.cons (.con (D.int 0)) (.cons (.bin false .Add (.con (D.int 1)) (.call "_law_taken" [] (.cons (.var 0) (.cons (.con (D.int 3)) .nil)))) (.cons (.var 4) (.cons (.var 3) .nil))))))) (.cons (.exp (.mtd .append (.var 6) (.cons (.tup (.cons (.var 7) (.cons (.slc false (.idx (.lst false (.cons (.tup (.cons (.con (D.str [97])) (.cons (.con (D.str [99])) .nil))) (.cons (.tup (.cons (.con (D.str [98])) (.cons (.con (D.str [97])) .nil))) .nil))) (.bin false .Mod (.blt .len false (.cons (.var 6) .nil)) (.con (D.int 2)))) .nop (.var 8)) (.cons (.var 9) .nil)))) .nil))) .nil)))) (.cons (.ret (.tup (.cons (.var 5) (.cons (.blt .tuple false (.cons (.var 6) .nil)) .nil)))) .nil))))))
def f__law_program : Fn := ⟨3, 10, b__law_program⟩
def n__law_program : List Str := [nm "_law_row_here", nm "_law_many", nm "_law_calls", nm "_law_names", nm "_law_left", nm "_law_part_here", nm "_law_deeds", nm "_law_name", nm "_law_count", nm "_law_inner"]
/-- _law_part_here _law_one -/
def b__law_within : Sms := (.cons (.ret (.lc false [1] false (.seq (.slc false (.var 0) (.con (D.int 1)) .nop)) (.var 1) (.isi (.var 1) ["tuple"]))) .nil)
def f__law_within : Fn := ⟨1, 2, b__law_within⟩
def n__law_within : List Str := [nm "_law_part_here", nm "_law_one"]
/-- _law_program_here _law_part_here _law_deed _law_many _law_left _law_one _law_deep _law_inner -/
def b__law_fault_free : Sms := (.cons (.fr [1] false (.seq (.bin false .Add (.lst false (.cons (.idx (.var 0) (.con (D.int 0))) .nil)) (.lc false [2] false (.seq (.idx (.var 0) (.con (D.int 1)))) (.idx (.var 2) (.con (D.int 2))) (.con (D.bl true)))))
    (.cons (.unp [3, 4] (.tup (.cons (.con (D.int 0)) (.cons (.lst true (.cons (.tup (.cons (.var 1) (.cons (.con (D.int 1)) .nil))) .nil)) .nil)))) (.cons (.whl (.cmp .NotEq (.var 4) (.lst false .nil))
    (.cons (.unp [5, 6] (.mtd .pop (.var 4) .nil)) (.cons (.asg 3 (.bin false .Add (.var 3) (.con (D.int 1)))) (.cons (.ite (.cmp .Gt (.var 6) (.con (D.int 6)))
    (.cons (.ret (.con (D.bl false))) .nil)
    .nil) (.cons (.asg 4 (.bin true .Add (.var 4) (.lc false [7] false (.seq (.call "_law_within" [] (.cons (.var 5) .nil))) (.tup (.cons (.var 7) (.cons (.bin false .Add (.var 6) (.con (D.int 1))) .nil))) (.con (D.bl true))))) .nil))))) (.cons (.ite (.cmp .Gt (.var 3) (.con (D.int 24)))
    (.cons (.ret (.con (D.bl false))) .nil)
    .nil) .nil)))) (.cons (.ret (.con (D.bl true))) .nil))
def f__law_fault_free : Fn := ⟨1, 8, b__law_fault_free⟩
def n__law_fault_free : List Str := [nm "_law_program_here", nm "_law_part_here", nm "_law_deed", nm "_law_many", nm "_law_left", nm "_law_one", nm "_law_deep", nm "_law_inner"]
/-- _law_found _law_due _law_k _law_same_kind -/
def b__law_alike : Sms := (.cons (.ite (.isi (.var 1) ["tuple", "list"])
    (.cons (.ite (.or (.cons (.cmp .NotEq (.isi (.var 0) ["tuple"]) (.isi (.var 1) ["tuple"])) (.cons (.not (.isi (.var 0) ["tuple", "list"])) .nil)))
    (.cons (.ret (.con (D.bl false))) .nil)
    .nil) (.cons (.ite (.cmp .NotEq (.blt .len false (.cons (.var 0) .nil)) (.blt .len false (.cons (.var 1) .nil)))
    (.cons (.ret (.con (D.bl false))) .nil)
    .nil) (.cons (.ret (.cmp .Eq (.lc false [2] false (.rng1 (.blt .len false (.cons (.var 1) .nil))) (.var 2) (.not (.call "_law_alike" [] (.cons (.idx (.var 0) (.var 2)) (.cons (.idx (.var 1) (.var 2)) .nil))))) (.lst false .nil))) .nil)))
    .nil) (.cons (.ite (.or (.cons (.cmp .Is (.var 1) (.con D.non)) (.cons (.cmp .Is (.var 0) (.con D.non)) .nil)))
    (.cons (.ret (.and (.cons (.cmp .Is (.var 1) (.con D.non)) (.cons (.cmp .Is (.var 0) (.con D.non)) .nil)))) .nil)
    .nil) (.cons (.asg 3 (.cmp .Eq (.isi (.var 1) ["str"]) (.isi (.var 0) ["str"]))) (.cons (.ret (.and (.cons (.var 3) (.cons (.cmp .Eq (.isi (.var 1) ["bool"]) (.isi (.var 0) ["bool"])) (.cons (.cmp .Eq (.var 0) (.var 1)) .nil))))) .nil))))
def f__law_alike : Fn := ⟨2, 4, b__law_alike⟩
def n__law_alike : List Str := [nm "_law_found", nm "_law_due", nm "_law_k", nm "_law_same_kind"]
/-- _law_part_here _law_found _law_one -/
def b__law_part_text : Sms := (.cons (.asg 1 (.lst true (.cons (.idx (.var 0) (.con (D.int 0))) .nil))) (.cons (.fr [2] false (.seq (.slc false (.var 0) (.con (D.int 1)) .nop))
    (.cons (.ite (.isi (.var 2) ["tuple"])
    (.cons (.exp (.mtd .append (.var 1) (.cons (.call "_law_part_text" [] (.cons (.var 2) .nil)) .nil))) .nil)
    (.cons (.ite (.and (.cons (.cmp .Eq (.idx (.var 0) (.con (D.int 0))) (.con (D.str [105, 115]))) (.cons (.isi (.var 2) ["str"]) .nil)))
    (.cons (.exp (.mtd .append (.var 1) (.cons (.bin false .Add (.bin false .Add (.con (D.str [34])) (.var 2)) (.con (D.str [34]))) .nil))) .nil)
    (.cons (.exp (.mtd .append (.var 1) (.cons (.blt .str false (.cons (.var 2) .nil)) .nil))) .nil)) .nil)) .nil)) (.cons (.ret (.bin false .Add (.bin false .Add (.con (D.str [40])) (.mtd .join (.con (D.str [32])) (.cons (.var 1) .nil))) (.con (D.str [41])))) .nil)))
def f__law_part_text : Fn := ⟨1, 3, b__law_part_text⟩
def n__law_part_text : List Str := [nm "_law_part_here", nm "_law_found", nm "_law_one"]
/-- _law_row_here _law_text_here _law_found _law_is_in _law_k _law_sign _law_beside _law_free -/
def b__law_loose : Sms := (.cons (.unp [2, 3] (.tup (.cons (.con (D.str [])) (.cons (.con (D.bl false)) .nil)))) (.cons (.fr [4] false (.rng1 (.blt .len false (.cons (.var 1) .nil)))
    (.cons (.asg 5 (.idx (.var 1) (.var 4))) (.cons (.asg 3 (.cmp .NotEq (.var 3) (.cmp .Eq (.var 5) (.con (D.str [34]))))) (.cons (.asg 6 (.bin false .Add (.slc false (.var 1) (.bin false .Sub (.var 4) (.con (D.int 1))) (.var 4)) (.slc false (.var 1) (.bin false .Add (.var 4) (.con (D.int 1))) (.bin false .Add (.var 4) (.con (D.int 2)))))) (.cons (.ite (.or (.cons (.var 3) (.cons (.cmp .NotIn (.var 5) (.con (D.str [40, 41, 32]))) .nil)))
    (.cons (.asg 2 (.bin false .Add (.var 2) (.var 5))) .nil)
    (.cons (.ite (.cmp .Eq (.var 5) (.con (D.str [32])))
    (.cons (.asg 7 (.or (.cons (.cmp .In (.slc false (.var 6) .nop (.con (D.int 1))) (.tup (.cons (.con (D.str [40])) (.cons (.con (D.str [41])) (.cons (.con (D.str [34])) .nil))))) (.cons (.cmp .In (.slc false (.var 6) (.con (D.int 1)) .nop) (.tup (.cons (.con (D.str [40])) (.cons (.con (D.str [41])) (.cons (.con (D.str [34])) .nil))))) .nil)))) (.cons (.asg 2 (.bin false .Add (.var 2) (.bin false .Mult (.con (D.str [32])) (.ite (.var 7) (.idx (.lst false (.cons (.con (D.int 0)) (.cons (.con (D.int 1)) (.cons (.con (D.int 2)) .nil)))) (.call "_law_taken" [] (.cons (.var 0) (.cons (.con (D.int 3)) .nil)))) (.bin false .Add (.con (D.int 1)) (.call "_law_taken" [] (.cons (.var 0) (.cons (.con (D.int 2)) .nil)))))))) .nil))
    (.cons (.asg 2 (.bin false .Add (.bin false .Add (.bin false .Add (.var 2) (.bin false .Mult (.con (D.str [32])) (.call "_law_taken" [] (.cons (.var 0) (.cons (.con (D.int 2)) .nil))))) (.var 5)) (.bin false .Mult (.con (D.str [32])) (.call "_law_taken" [] (.cons (.var 0) (.cons (.con (D.int 2)) .nil)))))) .nil)) .nil)) .nil))))) (.cons (.ret (.var 2)) .nil)))
def f__law_loose : Fn := ⟨2, 8, b__law_loose⟩
def n__law_loose : List Str := [nm "_law_row_here", nm "_law_text_here", nm "_law_found", nm "_law_is_in", nm "_law_k", nm "_law_sign", nm "_law_beside", nm "_law_free"]
/-- _law_script _law_row_here _law_turn _law_program_here _law_many _law_left _law_deed _law_rows _law_name _law_own _law_part_here _law_text_here _law_again _law_loose_here -/
def b_law : Sms := (.cons (.asg 1 (.call "_law_row" [] (.cons (.var 0) .nil))) (.cons (.fr [2] false (.rng1 (.con (D.int 4)))
    (.cons (.asg 3 (.call "_law_program" [] (.cons (.var 1) (.cons (.bin false .Add (.con (D.int 6)) (.call "_law_taken" [] (.cons (.var 1) (.cons (.con (D.int 18)) .nil)))) (.cons (.con (D.int 6)) .nil))))) (.cons (.ite (.call "_law_fault_free" [] (.cons (.var 3) .nil))
    (.cons (.unp [4, 5] (.tup (.cons (.con (D.int 0)) (.cons (.bin true .Add (.lst false (.cons (.idx (.var 3) (.con (D.int 0))) .nil)) (.lc false [6] false (.seq (.idx (.var 3) (.con (D.int 1)))) (.idx (.var 6) (.con (D.int 2))) (.con (D.bl true)))) .nil)))) (.cons (.whl (.cmp .NotEq (.var 5) (.lst false .nil))
    (.cons (.asg 4 (.bin false .Add (.var 4) (.con (D.int 1)))) (.cons (.asg 5 (.bin true .Add (.var 5) (.call "_law_within" [] (.cons (.mtd .pop (.var 5) .nil) .nil)))) .nil))) (.cons (.ite (.not (.call "_law_alike" [] (.cons (.call "size" [] (.cons (.var 3) .nil)) (.cons (.var 4) .nil))))
    (.cons (.ret (.con (D.bl false))) .nil)
    .nil) (.cons (.asg 7 (.lst true (.cons (.call "_law_part_text" [] (.cons (.idx (.var 3) (.con (D.int 0))) .nil)) .nil))) (.cons (.fr [8, 9, 10] true (.seq (.idx (.var 3) (.con (D.int 1))))
    (.cons (.exp (.mtd .append (.var 7) (.cons (.mtd .join (.con (D.str [32])) (.cons (.bin false .Add (.bin false .Add (.lst false (.cons (.con (D.str [100, 101, 101, 100])) (.cons (.var 8) .nil))) (.blt .list false (.cons (.var 9) .nil))) (.lst false (.cons (.call "_law_part_text" [] (.cons (.var 10) .nil)) .nil))) .nil)) .nil))) .nil)) (.cons (.asg 11 (.mtd .join (.con (D.str [10])) (.cons (.var 7) .nil))) (.cons (.ite (.not (.call "_law_alike" [] (.cons (.call "written" [] (.cons (.var 3) .nil)) (.cons (.var 11) .nil))))
    (.cons (.ret (.con (D.bl false))) .nil)
    .nil) (.cons (.fr [12] false (.rng1 (.con (D.int 2)))
    (.cons (.ite (.not (.call "_law_alike" [] (.cons (.call "read" [] (.cons (.var 11) .nil)) (.cons (.var 3) .nil))))
    (.cons (.ret (.con (D.bl false))) .nil)
    .nil) .nil)) (.cons (.asg 13 (.call "_law_loose" [] (.cons (.var 1) (.cons (.var 11) .nil)))) (.cons (.ite (.or (.cons (.not (.call "_law_alike" [] (.cons (.call "read" [] (.cons (.var 13) .nil)) (.cons (.var 3) .nil)))) (.cons (.cmp .NotEq (.call "written" [] (.cons (.call "read" [] (.cons (.var 13) .nil)) .nil)) (.var 11)) .nil)))
    (.cons (.ret (.con (D.bl false))) .nil)
    .nil) .nil))))))))))
    .nil) .nil))) (.cons (.ret (.con (D.bl true))) .nil)))
def f_law : Fn := ⟨1, 14, b_law⟩
def n_law : List Str := [nm "_law_script", nm "_law_row_here", nm "_law_turn", nm "_law_program_here", nm "_law_many", nm "_law_left", nm "_law_deed", nm "_law_rows", nm "_law_name", nm "_law_own", nm "_law_part_here", nm "_law_text_here", nm "_law_again", nm "_law_loose_here"]
def fns : List (String × Fn) := [("is_number", f_is_number), ("is_text", f_is_text), ("is_worth", f_is_worth), ("is_cell", f_is_cell), ("is_name", f_is_name), ("inner_parts", f_inner_parts), ("is_form", f_is_form), ("need_part", f_need_part), ("is_head", f_is_head), ("need_program", f_need_program), ("worth_text", f_worth_text), ("part_text", f_part_text), ("written", f_written), ("words_of", f_words_of), ("Reader.__init__", f_Reader_d___init__), ("Reader.take", f_Reader_d_take), ("Reader.must", f_Reader_d_must), ("Reader.whole", f_Reader_d_whole), ("Reader.one_part", f_Reader_d_one_part), ("Reader.heads", f_Reader_d_heads), ("Reader.worth", f_Reader_d_worth), ("Reader.number", f_Reader_d_number), ("read", f_read), ("size_of", f_size_of), ("size", f_size), ("_law_row", f__law_row), ("_law_taken", f__law_taken), ("_law_text", f__law_text), ("_law_number", f__law_number), ("_law_part", f__law_part), ("_law_program", f__law_program), ("_law_within", f__law_within), ("_law_fault_free", f__law_fault_free), ("_law_alike", f__law_alike), ("_law_part_text", f__law_part_text), ("_law_loose", f__law_loose), ("law", f_law)]
def mts : List (String × List (String × String)) := [("Reader", [("__init__", "Reader.__init__"), ("take", "Reader.take"), ("must", "Reader.must"), ("whole", "Reader.whole"), ("one_part", "Reader.one_part"), ("heads", "Reader.heads"), ("worth", "Reader.worth"), ("number", "Reader.number")])]
def xcs : List (String × Option String) := [("BadProgram", some "path"), ("BadText", some "word")]
def xsb : List ((String × String) × Bool) := []
def pg : Pg := ⟨fns, mts, 1000000000000, xcs, xsb⟩
def tb : Tb := ⟨[("_law_alike", []), ("_law_fault_free", []), ("_law_loose", []), ("_law_number", []), ("_law_part", []), ("_law_part_text", []), ("_law_program", []), ("_law_row", []), ("_law_taken", []), ("_law_text", []), ("_law_within", []), ("inner_parts", []), ("is_cell", []), ("is_form", []), ("is_head", []), ("is_name", []), ("is_number", []), ("is_text", []), ("is_worth", []), ("need_part", []), ("need_program", []), ("part_text", []), ("read", []), ("size", []), ("size_of", []), ("words_of", []), ("worth_text", []), ("written", [])], [("DEED", g_DEED), ("FIGURES", g_FIGURES), ("LETTERS", g_LETTERS), ("MOST_DEEDS", g_MOST_DEEDS), ("MOST_DEEP", g_MOST_DEEP), ("MOST_FIGURES", g_MOST_FIGURES), ("MOST_FIRST", g_MOST_FIRST), ("MOST_NAME", g_MOST_NAME), ("MOST_NUMBER", g_MOST_NUMBER), ("MOST_PARTS", g_MOST_PARTS), ("MOST_PLACES", g_MOST_PLACES), ("MOST_SIGNS", g_MOST_SIGNS), ("NAMED", g_NAMED), ("OPEN", g_OPEN), ("PAIRED", g_PAIRED), ("PLAIN", g_PLAIN), ("QUOTE", g_QUOTE), ("SHUT", g_SHUT), ("SINGLE", g_SINGLE)], ["all", "bool", "enumerate", "int", "isinstance", "len", "list", "min", "range", "str", "sum", "tuple"], ["ahead", "at", "words"], ["heads", "must", "number", "one_part", "take", "whole", "worth"], ["Reader"], xcs, []⟩
end G25
/-! T1: numbers as texts. -/
namespace Q
open Mw
variable {P : Pg}
def digs (m : Nat) : List Nat := (Nat.toDigits 10 m).map Char.toNat
/-- a number's text -/
def numT (i : Int) : List Nat := (toString i : PySem.Str).cps.toList
theorem numT_nat (m : Nat) : numT (m : Int) = digs m := by
  unfold numT digs
  rw [PyProof.Rows.signs_ofString]
  show (Nat.repr m).toList.map Char.toNat = _
  rw [Nat.toList_repr]
theorem numT_neg (m : Nat) : numT (-((m : Int) + 1)) = 45 :: digs (m + 1) := by
  have e : (-((m : Int) + 1)) = Int.negSucc m := by omega
  rw [e]
  unfold numT digs
  rw [PyProof.Rows.signs_ofString]
  show ("-" ++ Nat.repr (m + 1)).toList.map Char.toNat = _
  rw [String.toList_append, List.map_append, Nat.toList_repr]
  rfl
theorem digs_small {m : Nat} (h : m < 10) : digs m = [48 + m] := by
  unfold digs
  rw [Nat.toDigits_of_lt_base h]
  have : ∀ d : Nat, d < 10 → (Nat.digitChar d).toNat = 48 + d := by decide
  simp [this m h]
theorem digs_big {m : Nat} (h : 10 ≤ m) : digs m = digs (m / 10) ++ [48 + m % 10] := by
  have hm : m % 10 < 10 := Nat.mod_lt m (by decide)
  have t : Nat.toDigits 10 (m / 10) ++ Nat.toDigits 10 (m % 10) = Nat.toDigits 10 (10 * (m / 10) + m % 10) := Nat.toDigits_append_toDigits (by decide) (by omega) hm
  rw [Nat.div_add_mod] at t
  show (Nat.toDigits 10 m).map Char.toNat = _
  rw [← t, List.map_append]
  show digs (m / 10) ++ digs (m % 10) = _
  rw [digs_small hm]
theorem digs_all (m : Nat) : PySem.NumText.AllDigits (digs m) := by
  induction m using Nat.strongRecOn with
  | _ m ih =>
    by_cases h : m < 10
    · rw [digs_small h]
      intro c hc
      simp at hc
      omega
    · rw [digs_big (by omega)]
      intro c hc
      rcases List.mem_append.mp hc with hc | hc
      · exact ih (m / 10) (by omega) c hc
      · simp at hc
        omega
theorem digs_head (m : Nat) : ∃ c r, digs m = c :: r ∧ (m ≠ 0 → c ≠ 48) ∧ (m = 0 → c = 48 ∧ r = []) := by
  induction m using Nat.strongRecOn with
  | _ m ih =>
    by_cases h : m < 10
    · rw [digs_small h]
      exact ⟨_, _, rfl, fun h => by omega, fun h => by subst h; exact ⟨rfl, rfl⟩⟩
    · rw [digs_big (by omega)]
      obtain ⟨c, r, e, h1, h2⟩ := ih (m / 10) (by omega)
      rw [e]
      exact ⟨c, r ++ [48 + m % 10], rfl, fun _ => h1 (by omega), fun h => by omega⟩
theorem digs_len : ∀ (k m : Nat), m < 10 ^ (k + 1) → (digs m).length ≤ k + 1
  | 0, m, h => by rw [digs_small (by simpa using h)]; simp
  | k + 1, m, h => by
    by_cases hm : m < 10
    · rw [digs_small hm]; simp
    · rw [digs_big (by omega), List.length_append]
      have := digs_len k (m / 10) (by rw [Nat.pow_succ] at h; omega)
      simp
      omega
theorem digs_val (m : Nat) : PySem.NumText.digitsVal (digs m) = m := PySem.W.KIN.val_back m
end Q
/-! T2: the words of a row. -/
namespace Q
open Mw
variable {P : Pg}
def isSp (c : Nat) : Bool := c == 40 || c == 41 || c == 34 || c == 32
inductive LS where
  | out | wd (w : List Nat) | qu (w : List Nat)
def lexA : LS → List Nat → List (List Nat)
  | .out, [] => []
  | .wd w, [] => [w]
  | .qu w, [] => [w]
  | .out, c :: r => if c = 32 then lexA .out r else if c = 40 ∨ c = 41 then [c] :: lexA .out r else if c = 34 then lexA (.qu [34]) r else lexA (.wd [c]) r
  | .wd w, c :: r => if c = 32 then w :: lexA .out r else if c = 40 ∨ c = 41 then w :: [c] :: lexA .out r else if c = 34 then w :: lexA (.qu [34]) r else lexA (.wd (w ++ [c])) r
  | .qu w, c :: r => if c = 34 then (w ++ [34]) :: lexA .out r else lexA (.qu (w ++ [c])) r
abbrev lex (s : List Nat) : List (List Nat) := lexA .out s
theorem lex_qu : ∀ (r w : List Nat), lexA (.qu w) r = match r.dropWhile (fun c => !(c == 34)) with
    | [] => [w ++ r.takeWhile (fun c => !(c == 34))]
    | _ :: b => (w ++ r.takeWhile (fun c => !(c == 34)) ++ [34]) :: lexA .out b
  | [], w => by simp [lexA]
  | c :: r, w => by
    by_cases h : c = 34
    · simp [lexA, h]
    · rw [List.dropWhile_cons, List.takeWhile_cons]
      have h' : (!(c == 34)) = true := by simp [h]
      rw [if_pos h', if_pos h']
      show (if c = 34 then _ else lexA (.qu (w ++ [c])) r) = _
      rw [if_neg h, lex_qu r (w ++ [c])]
      simp
theorem lex_wd : ∀ (r w : List Nat), lexA (.wd w) r = (w ++ r.takeWhile (fun c => !isSp c)) :: lexA .out (r.dropWhile (fun c => !isSp c))
  | [], w => by simp [lexA]
  | c :: r, w => by
    rw [List.dropWhile_cons, List.takeWhile_cons]
    by_cases h : isSp c = true
    · have h' : (!isSp c) = false := by simp [h]
      rw [if_neg (by simp [h']), if_neg (by simp [h'])]
      unfold isSp at h
      simp at h
      rcases h with ((rfl | rfl) | rfl) | rfl <;> simp [lexA]
    · have h' : (!isSp c) = true := by simpa using h
      rw [if_pos h', if_pos h']
      unfold isSp at h
      simp at h
      obtain ⟨⟨⟨h1, h2⟩, h3⟩, h4⟩ := h
      rw [lexA, if_neg h4, if_neg (by simp [h1, h2]), if_neg h3, lex_wd r (w ++ [c])]
      simp
/-- a loop that steps on while a sign is such -/
theorem inc_loop {c : LEnv → Store → R Bool} {body : LEnv → Store → RS} {S : Store} (p : Nat → Bool) (s : List Nat) (L : Nat → LEnv) (hc : ∀ e : Nat, e ≤ s.length → c (L e) S = .ok (match s[e]? with
    | some x => p x
    | none => false) S) (hb : ∀ e : Nat, body (L e) S = .nx (L (e + 1)) S) : ∀ n e, s.length - e < n → e ≤ s.length → whlLoop c body n (L e) S = .nx (L (e + ((s.drop e).takeWhile p).length)) S
  | 0, e, h, _ => by omega
  | n + 1, e, h, he => by
    have h1 := hc e he
    cases hx : s[e]? with
    | none =>
      rw [hx] at h1
      have : s.length ≤ e := List.getElem?_eq_none_iff.mp hx
      rw [whlF h1, List.drop_eq_nil_of_le this]
      rfl
    | some x =>
      obtain ⟨hl, hg⟩ := List.getElem?_eq_some_iff.mp hx
      rw [hx] at h1
      dsimp only at h1
      rw [List.drop_eq_getElem_cons hl, hg, List.takeWhile_cons]
      cases hp : p x with
      | false =>
        rw [hp] at h1
        rw [whlF h1, if_neg Bool.false_ne_true]
        rfl
      | true =>
        rw [hp] at h1
        rw [whlT h1 (hb e), if_pos rfl, inc_loop p s L hc hb n (e + 1) (by omega) (by omega)]
        rw [List.length_cons]
        congr 2
        omega
def wB : Sms := match G25.b_words_of with
  | .cons _ (.cons _ (.cons (.whl _ b) _)) => b
  | _ => .nil
def wC : Xp := match G25.b_words_of with
  | .cons _ (.cons _ (.cons (.whl c _) _)) => c
  | _ => .nop
def quC : Xp := .and (.cons (.cmp .Lt (.var 4) (.blt .len false (.cons (.var 0) .nil))) (.cons (.cmp .NotEq (.idx (.var 0) (.var 4)) (.glb "QUOTE" G25.g_QUOTE)) .nil))
def wdC : Xp := .and (.cons (.cmp .Lt (.var 4) (.blt .len false (.cons (.var 0) .nil))) (.cons (.cmp .NotIn (.idx (.var 0) (.var 4)) (.tup (.cons (.glb "OPEN" G25.g_OPEN) (.cons (.glb "SHUT" G25.g_SHUT) (.cons (.glb "QUOTE" G25.g_QUOTE) (.cons (.con (D.str [32])) .nil)))))) .nil))
theorem asg_int {g : Cfg} {i : Nat} {l : LEnv} {S : Store} {k j : Int} {ss : Sms} (h : l[i]? = some (some (.int k))) : exs g (.cons (.aug i .Add (.con (.int j))) ss) l S = exs g ss (l.set i (some (.int (k + j)))) S := by
  rw [exs_1, ex_5, h]
  dsimp only
  rw [ev_2, then_ok]
  rfl
theorem wB_eq : wB = .cons (.asg 3 (.idx (.var 0) (.var 2))) (.cons (.asg 4 (.bin false .Add (.var 2) (.con (.int 1))))
  (.cons (.ite (.cmp .Eq (.var 3) (.glb "QUOTE" G25.g_QUOTE)) (.cons (.whl quC (.cons (.aug 4 .Add (.con (.int 1))) .nil)) (.cons (.asg 4 (.blt .min false (.cons (.bin false .Add (.var 4) (.con (D.int 1))) (.cons (.blt .len false (.cons (.var 0) .nil)) .nil)))) .nil))
    (.cons (.ite (.cmp .NotIn (.var 3) (.tup (.cons (.glb "OPEN" G25.g_OPEN) (.cons (.glb "SHUT" G25.g_SHUT) (.cons (.con (D.str [32])) .nil))))) (.cons (.whl wdC (.cons (.aug 4 .Add (.con (.int 1))) .nil)) .nil) .nil) .nil))
  (.cons (.ite (.cmp .NotEq (.var 3) (.con (D.str [32]))) (.cons (.exp (.mtd .append (.var 1) (.cons (.slc false (.var 0) (.var 2) (.var 4)) .nil))) .nil) .nil)
  (.cons (.asg 2 (.var 4)) .nil)))) := rfl
theorem quC_ok {g : Cfg} {s : List Nat} {S : Store} {a1 a2 a3 : Option D} (hs : s.length ≤ 1000000) (e : Nat) (he : e ≤ s.length) : (ev g quC [some (.str s), a1, a2, a3, some (.int (e : Int))] S).bind asB = .ok (match s[e]? with
    | some x => !(x == 34)
    | none => false) S := by
  have h1 : s.length ≤ 16777216 := by omega
  unfold quC
  cases hx : s[e]? with
  | none =>
    have hl : s.length ≤ e := List.getElem?_eq_none_iff.mp hx
    have : ¬ e < s.length := by omega
    simp [h1, this]
  | some x =>
    obtain ⟨hl, hg⟩ := List.getElem?_eq_some_iff.mp hx
    by_cases hq : x = 34 <;> simp [h1, hl, atI_nat, hg, hq]
theorem wdC_ok {g : Cfg} {s : List Nat} {S : Store} {a1 a2 a3 : Option D} (hs : s.length ≤ 1000000) (e : Nat) (he : e ≤ s.length) : (ev g wdC [some (.str s), a1, a2, a3, some (.int (e : Int))] S).bind asB = .ok (match s[e]? with
    | some x => !isSp x
    | none => false) S := by
  have h1 : s.length ≤ 16777216 := by omega
  unfold wdC
  cases hx : s[e]? with
  | none =>
    have hl : s.length ≤ e := List.getElem?_eq_none_iff.mp hx
    have : ¬ e < s.length := by omega
    simp [h1, this]
  | some x =>
    obtain ⟨hl, hg⟩ := List.getElem?_eq_some_iff.mp hx
    simp [h1, hl, atI_nat, hg, isSp]
    by_cases a : x = 40
    · simp [a]
    by_cases b : x = 41
    · simp [b]
    by_cases c : x = 34
    · simp [c]
    by_cases d : x = 32
    · simp [d]
    simp [a, b, c, d, Ne.symm a, Ne.symm b, Ne.symm c, Ne.symm d]
end Q
/-! T3: words_of. -/
namespace Q
open Mw
variable {P : Pg}
theorem dw_drop (p : Nat → Bool) : ∀ l : List Nat, l.dropWhile p = l.drop (l.takeWhile p).length
  | [] => rfl
  | c :: l => by
    rw [List.dropWhile_cons, List.takeWhile_cons]
    split
    · rw [dw_drop p l]; rfl
    · rfl
theorem tw_take (p : Nat → Bool) : ∀ l : List Nat, l.takeWhile p = l.take (l.takeWhile p).length
  | [] => rfl
  | c :: l => by
    rw [List.takeWhile_cons]
    split
    · rw [List.length_cons, List.take_succ_cons, ← tw_take p l]
    · rfl
theorem cut_mid {s : List Nat} {a b : Nat} (h1 : a ≤ b) (h2 : b ≤ s.length) : cut s (some (a : Int)) (some (b : Int)) = (s.drop a).take (b - a) := by
  unfold cut
  rw [HT.sIx_nat, HT.sIx_nat, Nat.min_eq_left h2, Nat.min_eq_left (Nat.le_trans h1 h2)]
theorem app_ref {S : Store} {r : Nat} {ds : List D} {x : D} (h : S[r]? = some (.lst ds)) (hl : ds.length ≤ 1000000) : mtdR .append (.ref r) [x] S = .ok .non (S.set r (.lst (ds ++ [x]))) := by
  have : ds.length < PySem.sizeLine := by rw [PySem.sizeLine_eq]; omega
  simp [mtdR, h, this]
theorem exs_exp {g : Cfg} {e : Xp} {ss : Sms} {l : LEnv} {S S1 : Store} (d : D) (h : ev g e l S = .ok d S1) : exs g (.cons (.exp e) ss) l S = exs g ss l S1 := by
  rw [exs_1, ex_7, h, then_ok, seq_nx]
theorem ifN0 {g : Cfg} {c : Xp} {a b ss : Sms} {l : LEnv} {S : Store} (h : ev g c l S = .ok (.bl false) S) : exs g (.cons (.ite c a b) ss) l S = (exs g b l S).seq fun l S => exs g ss l S := by
  rw [exs_1, ex_9, h, bind_ok, asB_bl, then_ok, if_neg Bool.false_ne_true]
/-- the two last statements of a turn -/
def endB : Sms := dropS 3 wB
theorem endB_eq : endB = .cons (.ite (.cmp .NotEq (.var 3) (.con (D.str [32]))) (.cons (.exp (.mtd .append (.var 1) (.cons (.slc false (.var 0) (.var 2) (.var 4)) .nil))) .nil) .nil)
  (.cons (.asg 2 (.var 4)) .nil) := rfl
theorem end_blank {g : Cfg} {s : List Nat} {r : Nat} {a e : Int} {S : Store} : exs g endB [some (.str s), some (.ref r), some (.int a), some (.str [32]), some (.int e)] S = .nx [some (.str s), some (.ref r), some (.int e), some (.str [32]), some (.int e)] S := by
  rw [endB_eq, ifF0 (by simp), asg0 (.int e) (by simp), exs_0]
  rfl
theorem end_app {g : Cfg} {s : List Nat} {r : Nat} {a e : Nat} {S : Store} {c : Nat} {acc : List D} (hc : c ≠ 32) (hr : S[r]? = some (.lst acc)) (hl : acc.length ≤ 1000000) (h1 : a ≤ e) (h2 : e ≤ s.length) (hs : s.length ≤ 1000000) :
    exs g endB [some (.str s), some (.ref r), some (.int a), some (.str [c]), some (.int e)] S = .nx [some (.str s), some (.ref r), some (.int e), some (.str [c]), some (.int e)] (S.set r (.lst (acc ++ [.str ((s.drop a).take (e - a))]))) := by
  have hz : s.length ≤ 16777216 := by omega
  rw [endB_eq, exs_ifT (S1 := S) (by simp [hc])]
  rw [exs_exp .non (S1 := S.set r (.lst (acc ++ [.str ((s.drop a).take (e - a))]))) (by
    have e1 : ev g (.slc false (.var 0) (.var 2) (.var 4)) [some (.str s), some (.ref r), some (.int a), some (.str [c]), some (.int e)] S = .ok (.str ((s.drop a).take (e - a))) S := by
      rw [← cut_mid h1 h2]
      simp [slcR, hz]
    rw [ev_20, ev_1]
    dsimp only [List.getElem?_cons_succ, List.getElem?_cons_zero]
    rw [bind_ok, if_pos (pre_app hr), evs_1, e1]
    simp [app_ref hr hl])]
  rw [exs_0, seq_nx, asg0 (.int e) (by simp), exs_0]
  rfl
theorem turn_step {g : Cfg} {s : List Nat} {r at' c : Nat} {rest : List Nat} {S : Store} {a3 a4 : Option D} {acc : List D} (hs : s.length ≤ 1000000) (hf : 1000001 < g.fuel) (hr : S[r]? = some (.lst acc)) (hl : acc.length ≤ 1000000) (hd : s.drop at' = c :: rest) :
    ∃ (e : Nat) (toks : List (List Nat)) (a3' a4' : Option D), at' < e ∧ e ≤ s.length ∧ toks.length ≤ 1 ∧ lex (s.drop at') = toks ++ lex (s.drop e) ∧
      exs g wB [some (.str s), some (.ref r), some (.int at'), a3, a4] S = .nx [some (.str s), some (.ref r), some (.int e), a3', a4'] (if toks = [] then S else S.set r (.lst (acc ++ toks.map D.str))) := by
  have hz : s.length ≤ 16777216 := by omega
  have hlt : at' < s.length := by
    rcases Nat.lt_or_ge at' s.length with h | h
    · exact h
    · rw [List.drop_eq_nil_of_le h] at hd; cases hd
  have hg : s[at']? = some c := by
    have := List.getElem?_drop (xs := s) (i := at') (j := 0)
    rw [hd] at this
    simpa using this.symm
  have hrest : s.drop (at' + 1) = rest := by
    rw [← List.drop_drop, hd]; rfl
  have hrl : rest.length = s.length - (at' + 1) := by rw [← hrest, List.length_drop]
  rw [wB_eq]
  have eE := endB_eq
  rw [asg0 (.str [c]) (by simp [hz, atI_nat, hg]), asg0 (.int ((at' + 1 : Nat) : Int)) (by simp)]
  simp only [List.set_cons_succ, List.set_cons_zero]
  rw [← eE]
  by_cases hq : c = 34
  · subst hq
    have lo := inc_loop (c := fun l1 S2 => (ev g quC l1 S2).bind asB) (body := fun l1 S2 => exs g (.cons (.aug 4 .Add (.con (.int 1))) .nil) l1 S2) (S := S) (fun x => !(x == 34)) s (fun e => [some (.str s), some (.ref r), some (.int at'), some (.str [34]), some (.int (e : Int))])
      (fun e he => quC_ok hs e he) (fun e => by rw [asg_int rfl, exs_0]; rfl) g.fuel (at' + 1) (by omega) (by omega)
    rw [hrest] at lo
    rw [exs_ifT (S1 := S) (by simp), whl0 lo]
    generalize hk : (rest.takeWhile fun c => !(c == 34)).length = k at lo
    have hkr : k ≤ rest.length := by rw [← hk]; exact (List.takeWhile_prefix _).length_le
    let e := min (at' + 1 + k + 1) s.length
    have he : (e : Int) = min ((at' + 1 + k : Nat) + 1 : Int) s.length := by simp only [e]; omega
    rw [asg0 (.int (e : Int)) (by simp [hz]; omega), exs_0, seq_nx]
    simp only [List.set_cons_succ, List.set_cons_zero]
    rw [end_app (c := 34) (by decide) hr hl (by omega) (by omega) hs]
    refine ⟨e, [(s.drop at').take (e - at')], some (.str [34]), some (.int (e : Int)), by omega, by omega, by simp, ?_, by simp⟩
    rw [hd]
    show lexA .out (34 :: rest) = _
    rw [show lexA .out (34 :: rest) = lexA (.qu [34]) rest by simp [lexA], lex_qu]
    have hdw : rest.dropWhile (fun c => !(c == 34)) = rest.drop k := by
      rw [← hk]
      exact dw_drop _ _
    have htw : rest.takeWhile (fun c => !(c == 34)) = rest.take k := by
      rw [← hk]
      exact tw_take _ _
    rw [hdw, htw]
    cases hb : rest.drop k with
    | nil =>
      have : rest.length ≤ k := List.drop_eq_nil_iff.mp hb
      have e1 : e = s.length := by simp only [e]; omega
      rw [e1, List.drop_length]
      have e2 : s.length - at' = (34 :: rest).length := by simp; omega
      rw [e2, List.take_length, List.take_of_length_le this]
      rfl
    | cons q b =>
      have hkl : k < rest.length := by
        rcases Nat.lt_or_ge k rest.length with h | h
        · exact h
        · rw [List.drop_eq_nil_of_le h] at hb; cases hb
      have e1 : e = at' + 1 + k + 1 := by simp only [e]; omega
      have hq : q = 34 := by
        have h0 := List.head?_dropWhile_not (p := fun c => !(c == 34)) (l := rest)
        rw [hdw, hb] at h0
        simpa using h0
      have hb' : s.drop e = b := by
        rw [e1, ← List.drop_drop, ← List.drop_drop, hrest, hb]; rfl
      rw [hb', e1]
      have e3 : at' + 1 + k + 1 - at' = k + 1 + 1 := by omega
      rw [e3]
      have e4 : (34 :: rest).take (k + 1 + 1) = [34] ++ rest.take k ++ [34] := by
        rw [List.take_succ_cons, List.take_succ, ← hq]
        have : rest[k]? = some q := by
          have := List.getElem?_drop (xs := rest) (i := k) (j := 0)
          rw [hb] at this
          simpa using this.symm
        rw [this]
        simp
      rw [e4]
      rfl
  · rw [ifN0 (by simp [hq])]
    by_cases hb : c = 40 ∨ c = 41 ∨ c = 32
    · rw [ifF0 (by rcases hb with rfl | rfl | rfl <;> simp), exs_0, seq_nx]
      by_cases h32 : c = 32
      · subst h32
        rw [end_blank]
        refine ⟨at' + 1, [], some (.str [32]), some (.int ((at' + 1 : Nat) : Int)), by omega, by omega, by simp, ?_, by simp⟩
        rw [hd, hrest]
        simp [lex, lexA]
      · rw [end_app h32 hr hl (by omega) (by omega) hs]
        refine ⟨at' + 1, [[c]], some (.str [c]), some (.int ((at' + 1 : Nat) : Int)), by omega, by omega, by simp, ?_, ?_⟩
        · rw [hd, hrest]
          rcases hb with rfl | rfl | rfl
          · simp [lex, lexA]
          · simp [lex, lexA]
          · exact absurd rfl h32
        · have : at' + 1 - at' = 1 := by omega
          rw [this, hd]
          simp
    · have n1 : c ≠ 40 := fun h => hb (.inl h)
      have n2 : c ≠ 41 := fun h => hb (.inr (.inl h))
      have n3 : c ≠ 32 := fun h => hb (.inr (.inr h))
      have lo := inc_loop (c := fun l1 S2 => (ev g wdC l1 S2).bind asB) (body := fun l1 S2 => exs g (.cons (.aug 4 .Add (.con (.int 1))) .nil) l1 S2) (S := S) (fun x => !isSp x) s (fun e => [some (.str s), some (.ref r), some (.int at'), some (.str [c]), some (.int (e : Int))])
        (fun e he => wdC_ok hs e he) (fun e => by rw [asg_int rfl, exs_0]; rfl) g.fuel (at' + 1) (by omega) (by omega)
      rw [hrest] at lo
      rw [exs_ifT (S1 := S) (by simp [Ne.symm n1, Ne.symm n2, Ne.symm n3]), whl0 lo]
      generalize hk : (rest.takeWhile fun c => !isSp c).length = k at lo
      have hkr : k ≤ rest.length := by rw [← hk]; exact (List.takeWhile_prefix _).length_le
      rw [exs_0, seq_nx, exs_0, seq_nx]
      rw [end_app n3 hr hl (by omega) (by omega) hs]
      refine ⟨at' + 1 + k, [(s.drop at').take (at' + 1 + k - at')], some (.str [c]), some (.int ((at' + 1 + k : Nat) : Int)), by omega, by omega, by simp, ?_, by simp⟩
      rw [hd]
      show lexA .out (c :: rest) = _
      rw [show lexA .out (c :: rest) = lexA (.wd [c]) rest by simp [lexA, n1, n2, n3, hq], lex_wd]
      have hdw : rest.dropWhile (fun c => !isSp c) = rest.drop k := by
        rw [← hk]
        exact dw_drop _ _
      have htw : rest.takeWhile (fun c => !isSp c) = rest.take k := by
        rw [← hk]
        exact tw_take _ _
      rw [hdw, htw, show at' + 1 + k - at' = k + 1 by omega, List.take_succ_cons]
      rw [show s.drop (at' + 1 + k) = rest.drop k by rw [← hrest, List.drop_drop]]
      rfl
theorem words_loop {g : Cfg} {s : List Nat} {r : Nat} (hs : s.length ≤ 1000000) (hf : 1000001 < g.fuel) : ∀ (n at' : Nat) (S : Store) (a3 a4 : Option D) (acc : List D), s.length - at' < n → at' ≤ s.length → S[r]? = some (.lst acc) → acc.length ≤ at' →
    ∃ a3' a4', whlLoop (fun l1 S2 => (ev g wC l1 S2).bind asB) (fun l1 S2 => exs g wB l1 S2) n [some (.str s), some (.ref r), some (.int at'), a3, a4] S = .nx [some (.str s), some (.ref r), some (.int s.length), a3', a4'] (S.set r (.lst (acc ++ (lex (s.drop at')).map D.str)))
  | 0, at', S, a3, a4, acc, h, _, _, _ => by omega
  | n + 1, at', S, a3, a4, acc, h, ha, hr, hl => by
    have hz : s.length ≤ 16777216 := by omega
    have hc : (ev g wC [some (.str s), some (.ref r), some (.int at'), a3, a4] S).bind asB = .ok (decide (at' < s.length)) S := by
      unfold wC G25.b_words_of
      simp [hz]
    cases hd : s.drop at' with
    | nil =>
      have : s.length ≤ at' := List.drop_eq_nil_iff.mp hd
      have e : at' = s.length := by omega
      subst e
      rw [decide_eq_false (by omega)] at hc
      rw [whlF hc]
      refine ⟨a3, a4, ?_⟩
      have : S.set r (.lst (acc ++ (lex []).map D.str)) = S := by
        have e0 : (lex []).map D.str = [] := rfl
        rw [e0, List.append_nil]
        apply List.ext_getElem?
        intro i
        by_cases hi : r = i
        · subst hi
          rw [List.getElem?_set_self (List.getElem?_eq_some_iff.mp hr).1, hr]
        · rw [List.getElem?_set_ne hi]
      rw [this]
    | cons c rest =>
      have hlt : at' < s.length := by
        rcases Nat.lt_or_ge at' s.length with h | h
        · exact h
        · rw [List.drop_eq_nil_of_le h] at hd; cases hd
      rw [decide_eq_true hlt] at hc
      obtain ⟨e, toks, b3, b4, h1, h2, h3, h4, h5⟩ := turn_step (a3 := a3) (a4 := a4) hs hf hr (by omega) hd
      rw [whlT hc h5, ← hd, h4, List.map_append]
      by_cases ht : toks = []
      · subst ht
        rw [if_pos rfl]
        obtain ⟨c3, c4, h6⟩ := words_loop hs hf n e S b3 b4 acc (by omega) h2 hr (by omega)
        exact ⟨c3, c4, by rw [h6]; rfl⟩
      · rw [if_neg ht]
        obtain ⟨c3, c4, h6⟩ := words_loop hs hf n e (S.set r (.lst (acc ++ toks.map D.str))) b3 b4 (acc ++ toks.map D.str) (by omega) h2 (by rw [List.getElem?_set_self (List.getElem?_eq_some_iff.mp hr).1]) (by simp; omega)
        exact ⟨c3, c4, by rw [h6, List.set_set, List.append_assoc]⟩
theorem words_of_ok (hw : P.fns.lookup "words_of" = some G25.f_words_of) (hf : 1000001 < P.fuel) (n : Nat) (S : Store) (s : List Nat) (hs : s.length ≤ 1000000) :
    cfn P (n + 1) "words_of" [.str s] S = .ok (.ref S.length) (S ++ [.lst ((lex s).map D.str)]) := by
  rw [cfn_succ, hw]
  have hrun : Mw.run (P.cfg n) G25.f_words_of [.str s] S = (exs (P.cfg n) G25.b_words_of [some (.str s), none, none, none, none] S).out := rfl
  show Mw.run (P.cfg n) G25.f_words_of [.str s] S = _
  rw [hrun]
  obtain ⟨b3, b4, h⟩ := words_loop (g := P.cfg n) (r := S.length) hs hf P.fuel 0 (S ++ [.lst []]) none none [] (by omega) (by omega) (by simp) (by simp)
  have e : G25.b_words_of = .cons (.asg 1 (.lst true .nil)) (.cons (.asg 2 (.con (.int 0))) (.cons (.whl wC wB) (.cons (.ret (.var 1)) .nil))) := rfl
  rw [e, exs_asg (S1 := S ++ [.lst []]) (d := .ref S.length) (by simp), asg0 (.int ((0 : Nat) : Int)) (by simp)]
  simp only [List.set_cons_succ, List.set_cons_zero]
  rw [whl0 h, ret0 (.ref S.length) (by simp)]
  simp
end Q
/-! T4: texts of parts, their words. -/
namespace Q
open Mw
variable {P : Pg}
def hdT (w : W) : D → List Nat
  | .str s => if w = .w_is then 34 :: (s ++ [34]) else s
  | .int i => numT i
  | _ => []
mutual
def Pt.txt : Pt → List Nat
  | .mk w hd ps => 40 :: (joinL [32] (w.s :: (hd.map (hdT w) ++ Pt.txts ps)) ++ [41])
def Pt.txts : List Pt → List (List Nat)
  | [] => []
  | p :: ps => p.txt :: Pt.txts ps
end
mutual
def Pt.toks : Pt → List (List Nat)
  | .mk w hd ps => [40] :: w.s :: (hd.map (hdT w) ++ (Pt.tokss ps ++ [[41]]))
def Pt.tokss : List Pt → List (List Nat)
  | [] => []
  | p :: ps => p.toks ++ Pt.tokss ps
end
theorem txts_map : ∀ ps : List Pt, Pt.txts ps = ps.map Pt.txt
  | [] => rfl
  | p :: ps => by rw [Pt.txts, txts_map ps]; rfl
def SpH (r : List Nat) : Prop := r = [] ∨ ∃ c t, r = c :: t ∧ isSp c = true
theorem lex_end {r w : List Nat} (h : SpH r) : lexA (.wd w) r = w :: lexA .out r := by
  rcases h with rfl | ⟨c, t, rfl, h⟩
  · rfl
  · unfold isSp at h
    simp at h
    rcases h with ((rfl | rfl) | rfl) | rfl <;> simp [lexA]
/-- a thing between blanks, and its words -/
def LexI (x : List Nat) (ts : List (List Nat)) : Prop := ∀ r, SpH r → lexA .out (x ++ r) = ts ++ lexA .out r
theorem lexI_wd {x : List Nat} (h0 : x ≠ []) (h : ∀ c ∈ x, isSp c = false) : LexI x [x] := by
  intro r hr
  have key : ∀ (y w : List Nat), (∀ c ∈ y, isSp c = false) → lexA (.wd w) (y ++ r) = (w ++ y) :: lexA .out r := by
    intro y
    induction y with
    | nil => intro w _; rw [List.nil_append, List.append_nil, lex_end hr]
    | cons c y ih =>
      intro w hy
      have hc := hy c List.mem_cons_self
      unfold isSp at hc
      simp at hc
      obtain ⟨⟨⟨h1, h2⟩, h3⟩, h4⟩ := hc
      rw [List.cons_append, lexA, if_neg h4, if_neg (by simp [h1, h2]), if_neg h3, ih _ fun d hd => hy d (List.mem_cons_of_mem _ hd)]
      simp
  cases x with
  | nil => exact absurd rfl h0
  | cons c y =>
    have hc := h c List.mem_cons_self
    unfold isSp at hc
    simp at hc
    obtain ⟨⟨⟨h1, h2⟩, h3⟩, h4⟩ := hc
    rw [List.cons_append, lexA, if_neg h4, if_neg (by simp [h1, h2]), if_neg h3, key y [c] fun d hd => h d (List.mem_cons_of_mem _ hd)]
    rfl
theorem lexI_qu {s : List Nat} (h : ∀ c ∈ s, c ≠ 34) : LexI (34 :: (s ++ [34])) [34 :: (s ++ [34])] := by
  intro r hr
  have key : ∀ (y w : List Nat), (∀ c ∈ y, c ≠ 34) → lexA (.qu w) (y ++ 34 :: r) = (w ++ y ++ [34]) :: lexA .out r := by
    intro y
    induction y with
    | nil => intro w _; simp [lexA]
    | cons c y ih =>
      intro w hy
      rw [List.cons_append, lexA, if_neg (hy c List.mem_cons_self), ih _ fun d hd => hy d (List.mem_cons_of_mem _ hd)]
      simp
  have e : (34 :: (s ++ [34])) ++ r = 34 :: (s ++ 34 :: r) := by simp
  rw [e, show lexA .out (34 :: (s ++ 34 :: r)) = lexA (.qu [34]) (s ++ 34 :: r) by simp [lexA], key s [34] h]
  rfl
theorem lexI_items : ∀ {xs : List (List Nat)} {tss : List (List (List Nat))}, xs.length = tss.length → (∀ (i : Nat) (x : List Nat) (ts : List (List Nat)), xs[i]? = some x → tss[i]? = some ts → LexI x ts) → LexI (joinL [32] xs) tss.flatten
  | [], [], _, _ => fun r _ => rfl
  | [x], [ts], _, h => by
    have := h 0 x ts rfl rfl
    simpa [joinL] using this
  | x :: y :: xs, ts :: us :: tss, hl, h => by
    intro r hr
    have h0 := h 0 x ts rfl rfl
    have ih := lexI_items (xs := y :: xs) (tss := us :: tss) (by simpa using hl) (fun i x ts h1 h2 => h (i + 1) x ts (by simpa using h1) (by simpa using h2))
    have e : joinL [32] (x :: y :: xs) ++ r = x ++ 32 :: (joinL [32] (y :: xs) ++ r) := by rw [joinL]; simp
    rw [e, h0 _ (.inr ⟨32, _, rfl, by decide⟩)]
    rw [show ∀ z, lexA .out (32 :: z) = lexA .out z by intro z; simp [lexA]]
    rw [ih r hr]
    simp
  | [], _ :: _, hl, _ => by simp at hl
  | _ :: _, [], hl, _ => by simp at hl
  | [_], _ :: _ :: _, hl, _ => by simp at hl
  | _ :: _ :: _, [_], hl, _ => by simp at hl
theorem sp_word (w : W) : w.s ≠ [] ∧ ∀ c ∈ w.s, isSp c = false := by cases w <;> decide
theorem sp_low {s : List Nat} (h : ∀ c ∈ s, 97 ≤ c ∧ c ≤ 122) : ∀ c ∈ s, isSp c = false := by
  intro c hc
  have := h c hc
  unfold isSp
  simp
  omega
theorem sp_num (i : Int) : numT i ≠ [] ∧ ∀ c ∈ numT i, isSp c = false := by
  have key : ∀ m : Nat, digs m ≠ [] ∧ ∀ c ∈ digs m, isSp c = false := by
    intro m
    obtain ⟨c, r, e, _⟩ := digs_head m
    refine ⟨by rw [e]; simp, fun c hc => ?_⟩
    have := digs_all m c hc
    unfold isSp
    simp
    omega
  rcases Int.le_total 0 i with h | h
  · obtain ⟨m, rfl⟩ := Int.eq_ofNat_of_zero_le h
    rw [numT_nat]
    exact key m
  · by_cases h0 : i = 0
    · subst h0
      have := key 0
      rw [← numT_nat] at this
      exact this
    · obtain ⟨m, rfl⟩ : ∃ m : Nat, i = -((m : Int) + 1) := ⟨(-i - 1).toNat, by omega⟩
      rw [numT_neg]
      refine ⟨by simp, fun c hc => ?_⟩
      rcases List.mem_cons.mp hc with rfl | hc
      · rfl
      · exact (key (m + 1)).2 c hc
/-- what stands behind a part's word, and is no part, is one word -/
theorem lexI_hd {kvs : List (DK × D)} {w : W} {hd : List D} {k : Nat} (h : hdOk kvs w hd k) : ∀ d ∈ hd, LexI (hdT w d) [hdT w d] := by
  intro d hd'
  cases w <;> unfold hdOk at h <;> dsimp only at h
  case w_is =>
    obtain ⟨_, x, rfl, hx⟩ := h
    simp at hd'
    subst hd'
    rcases hx with ⟨s, rfl, _, hs⟩ | ⟨i, rfl, _⟩
    · exact lexI_qu fun c hc => (hs c hc).2.2
    · exact lexI_wd (sp_num i).1 (sp_num i).2
  case w_at => obtain ⟨_, c, rfl, hc⟩ := h; simp at hd'; subst hd'; exact lexI_wd (by simp [hdT]) (sp_low (by simp [hdT]; omega))
  case w_set => obtain ⟨_, c, rfl, hc⟩ := h; simp at hd'; subst hd'; exact lexI_wd (by simp [hdT]) (sp_low (by simp [hdT]; omega))
  case w_try => obtain ⟨_, c, rfl, hc⟩ := h; simp at hd'; subst hd'; exact lexI_wd (by simp [hdT]) (sp_low (by simp [hdT]; omega))
  case w_most => obtain ⟨_, i, rfl, _⟩ := h; simp at hd'; subst hd'; exact lexI_wd (sp_num i).1 (sp_num i).2
  case w_call =>
    obtain ⟨s, rfl, hs, _⟩ := h
    simp at hd'
    subst hd'
    refine lexI_wd ?_ (sp_low (by simpa [hdT] using hs.2))
    have := hs.1.1
    intro e
    have e' : s = [] := by simpa [hdT] using e
    subst e'
    simp at this
  all_goals (obtain ⟨rfl, _⟩ := h; cases hd')
theorem flat_one {α β : Type} (f : α → β) : ∀ l : List α, (l.map fun d => [f d]).flatten = l.map f
  | [] => rfl
  | d :: l => by simp [flat_one f l]
theorem lexI_pt {kvs : List (DK × D)} : ∀ (n : Nat) (p : Pt), p.ok kvs → p.depth ≤ n → ∀ r, lexA .out (p.txt ++ r) = p.toks ++ lexA .out r
  | 0, .mk w hd ps, _, h => by simp [Pt.depth] at h
  | n + 1, .mk w hd ps, ok, h => by
    intro r
    simp only [Pt.depth] at h
    have hin : ∀ qs : List Pt, Pt.oks kvs qs → Pt.depths qs ≤ n → (Pt.tokss qs = (qs.map Pt.toks).flatten) ∧ ∀ p ∈ qs, LexI p.txt p.toks := by
      intro qs
      induction qs with
      | nil => intro _ _; exact ⟨rfl, fun p h => by cases h⟩
      | cons q qs ih =>
        intro h1 h2
        simp only [Pt.depths] at h2
        obtain ⟨k1, k2⟩ := ih h1.2 (by omega)
        refine ⟨by rw [Pt.tokss, k1]; rfl, fun p hp => ?_⟩
        rcases List.mem_cons.mp hp with rfl | hp
        · exact fun r _ => lexI_pt n p h1.1 (by omega) r
        · exact k2 p hp
    obtain ⟨k1, k2⟩ := hin ps ok.2 (by omega)
    have li := lexI_items (xs := w.s :: (hd.map (hdT w) ++ Pt.txts ps)) (tss := [w.s] :: (hd.map (fun d => [hdT w d]) ++ ps.map Pt.toks)) (by simp [txts_map]) (fun i x ts h1 h2 => by
      cases i with
      | zero => simp at h1 h2; subst h1; subst h2; exact lexI_wd (sp_word w).1 (sp_word w).2
      | succ i =>
        simp only [List.getElem?_cons_succ] at h1 h2
        by_cases hi : i < hd.length
        · rw [List.getElem?_append_left (by simpa using hi), List.getElem?_map] at h1 h2
          rw [List.getElem?_eq_getElem hi] at h1 h2
          simp at h1 h2
          subst h1; subst h2
          exact lexI_hd ok.1 _ (List.getElem_mem hi)
        · rw [List.getElem?_append_right (by simpa using hi)] at h1 h2
          rw [txts_map] at h1
          simp only [List.length_map, List.getElem?_map] at h1 h2
          cases hp : ps[i - hd.length]? with
          | none => rw [hp] at h1; cases h1
          | some p =>
            rw [hp] at h1 h2
            cases h1; cases h2
            exact k2 p (List.mem_of_getElem? hp))
    have e : (Pt.mk w hd ps).txt ++ r = 40 :: (joinL [32] (w.s :: (hd.map (hdT w) ++ Pt.txts ps)) ++ 41 :: r) := by
      rw [Pt.txt]; simp
    rw [e, show ∀ z, lexA .out (40 :: z) = [40] :: lexA .out z by intro z; simp [lexA], li (41 :: r) (.inr ⟨41, r, rfl, by decide⟩)]
    rw [show lexA .out (41 :: r) = [41] :: lexA .out r by simp [lexA], Pt.toks, k1]
    simp [flat_one]
end Q
/-! T5: how long texts are; parts written. -/
namespace Q
open Mw
variable {P : Pg}
theorem numT_len {i : Int} (h : -1000000000000 ≤ i ∧ i ≤ 1000000000000) : (numT i).length ≤ 14 := by
  rcases Int.le_total 0 i with h0 | h0
  · obtain ⟨m, rfl⟩ := Int.eq_ofNat_of_zero_le h0
    rw [numT_nat]
    have := digs_len 12 m (by omega)
    omega
  · by_cases h1 : i = 0
    · subst h1
      have := digs_len 12 0 (by omega)
      rw [← numT_nat] at this
      have e : ((0 : Nat) : Int) = 0 := rfl
      rw [e] at this
      omega
    · obtain ⟨m, rfl⟩ : ∃ m : Nat, i = -((m : Int) + 1) := ⟨(-i - 1).toNat, by omega⟩
      rw [numT_neg]
      have := digs_len 12 (m + 1) (by omega)
      simp
      omega
theorem hdT_len {kvs : List (DK × D)} {w : W} {hd : List D} {k : Nat} (h : hdOk kvs w hd k) : hd.length ≤ 1 ∧ ∀ d ∈ hd, (hdT w d).length ≤ 202 := by
  refine ⟨(hd_flat h).1, fun d hd' => ?_⟩
  cases w <;> unfold hdOk at h <;> dsimp only at h
  case w_is =>
    obtain ⟨_, x, rfl, hx⟩ := h
    simp at hd'
    subst hd'
    rcases hx with ⟨s, rfl, hs, _⟩ | ⟨i, rfl, hi⟩
    · simp [hdT]; omega
    · have := numT_len hi
      simp [hdT]; omega
  case w_at => obtain ⟨_, c, rfl, hc⟩ := h; simp at hd'; subst hd'; simp [hdT]
  case w_set => obtain ⟨_, c, rfl, hc⟩ := h; simp at hd'; subst hd'; simp [hdT]
  case w_try => obtain ⟨_, c, rfl, hc⟩ := h; simp at hd'; subst hd'; simp [hdT]
  case w_most =>
    obtain ⟨_, i, rfl, hi⟩ := h
    simp at hd'
    subst hd'
    have := numT_len (i := i) (by omega)
    simp [hdT]; omega
  case w_call => obtain ⟨s, rfl, hs, _⟩ := h; simp at hd'; subst hd'; have := hs.1.2; simp [hdT]; omega
  all_goals (obtain ⟨rfl, _⟩ := h; cases hd')
theorem join_len : ∀ xs : List (List Nat), (joinL [32] xs).length ≤ (xs.map fun x => x.length + 1).sum
  | [] => by simp [joinL]
  | [x] => by simp [joinL]
  | x :: y :: xs => by
    have := join_len (y :: xs)
    rw [joinL]
    simp only [List.length_append, List.map_cons, List.sum_cons] at this ⊢
    simp
    omega
theorem w_len (w : W) : w.s.length ≤ 6 := by cases w <;> decide
theorem txt_len {kvs : List (DK × D)} : ∀ (n : Nat) (p : Pt), p.ok kvs → p.depth ≤ n → p.txt.length + 1 ≤ 250 * p.size
  | 0, .mk w hd ps, _, h => by simp [Pt.depth] at h
  | n + 1, .mk w hd ps, ok, h => by
    simp only [Pt.depth] at h
    have key : ∀ qs : List Pt, Pt.oks kvs qs → Pt.depths qs ≤ n → ((Pt.txts qs).map fun x => x.length + 1).sum ≤ 250 * Pt.sizes qs := by
      intro qs
      induction qs with
      | nil => intro _ _; simp [Pt.txts]
      | cons q qs ih =>
        intro h1 h2
        simp only [Pt.depths] at h2
        have := ih h1.2 (by omega)
        have := txt_len n q h1.1 (by omega)
        simp only [Pt.txts, List.map_cons, List.sum_cons, Pt.sizes]
        omega
    have k1 := key ps ok.2 (by omega)
    obtain ⟨l1, l2⟩ := hdT_len ok.1
    have k2 : (((hd.map (hdT w))).map fun x => x.length + 1).sum ≤ 203 := by
      match hd, l1, l2 with
      | [], _, _ => simp
      | [d], _, l2 => have := l2 d (by simp); simp; omega
    have k3 := w_len w
    have k4 := join_len (w.s :: (hd.map (hdT w) ++ Pt.txts ps))
    rw [List.map_cons, List.sum_cons, List.map_append, List.sum_append] at k4
    rw [Pt.txt, Pt.size]
    simp only [List.length_cons, List.length_append, List.length_nil]
    omega
theorem join_ref {S : Store} {r : Nat} {a : List Nat} {ss : List (List Nat)} (hr : S[r]? = some (.lst (ss.map D.str))) (h : (ss.map List.length).sum + ss.length * a.length ≤ 16777216) : mtdR .join (.str a) [.ref r] S = .ok (.str (joinL a ss)) S := by
  simp [mtdR, seqOf, hr, allStrs_map, h]
/-- a part's items and their texts -/
def itT (w : W) (hd : List D) (ps : List Pt) : List (List Nat) := hd.map (hdT w) ++ Pt.txts ps
theorem items_loop {body : LEnv → Store → RS} {S1 : Store} {r : Nat} {w : W} {hd : List D} {ps : List Pt} {x : D} {a2 : Option D} {F : En} (hl : hd.length ≤ 1 ∧ ps.length ≤ 3) (hr : S1[r]? = some (.lst [.str w.s]))
    (hb : ∀ (i : Nat) (d : D) (z : List Nat), (hd ++ Pt.ds ps)[i]? = some d → (itT w hd ps)[i]? = some z → ∀ (S : Store) (acc : List D), S[r]? = some (.lst acc) → acc.length ≤ 1000 →
      (body [some x, some (.ref r), some d] S).sat { nx := fun l S2 => l = [some x, some (.ref r), some d] ∧ S2[r]? = some (.lst (acc ++ [.str z])) ∧ Fr [r] S S2 })
    (hF : ∀ a2 S2, S2[r]? = some (.lst ((w.s :: itT w hd ps).map D.str)) → Fr [r] S1 S2 → F.nx [some x, some (.ref r), a2] S2) :
    (forLoop body [2] false (hd ++ Pt.ds ps) [some x, some (.ref r), a2] S1).sat F := by
  have hlen : (itT w hd ps).length = (hd ++ Pt.ds ps).length := by simp [itT, txts_map, ds_len]
  have hlen2 : (hd ++ Pt.ds ps).length ≤ 4 := by simp [ds_len]; omega
  refine for_sat0 (fun i l S => ∃ a2, l = [some x, some (.ref r), a2] ∧ S[r]? = some (.lst ((w.s :: (itT w hd ps).take i).map D.str)) ∧ Fr [r] S1 S) ?_ ?_ ?_
  · exact ⟨a2, rfl, hr, Fr.refl _ _⟩
  · rintro i d l S hd' ⟨a2, rfl, h1, fr⟩
    refine ⟨_, rfl, ?_⟩
    have hi : i < (hd ++ Pt.ds ps).length := (List.getElem?_eq_some_iff.mp hd').1
    have hz : (itT w hd ps)[i]? = some (itT w hd ps)[i] := List.getElem?_eq_getElem (by omega)
    refine RS.sat.mono (hb i d _ hd' hz S _ h1 (by simp; omega)) ?_ (fun _ _ h => h.elim) (fun _ _ h => h.elim) (fun _ _ h => h.elim) (fun _ _ _ h => h.elim)
    rintro l S2 ⟨rfl, h2, fr2⟩
    refine ⟨_, rfl, ?_, fr.trans fr2⟩
    rw [h2]
    have et : (itT w hd ps).take (i + 1) = (itT w hd ps).take i ++ [(itT w hd ps)[i]] := by rw [List.take_succ, hz]; rfl
    rw [et]
    simp only [List.map_cons, List.map_append, List.map_nil, List.cons_append]
  · rintro l S ⟨a2, rfl, h1, fr⟩
    refine hF a2 S ?_ fr
    rw [h1, List.take_of_length_le (by omega)]
theorem it_cases {w : W} {hd : List D} {ps : List Pt} {i : Nat} {d : D} {z : List Nat} (h1 : (hd ++ Pt.ds ps)[i]? = some d) (h2 : (itT w hd ps)[i]? = some z) : (d ∈ hd ∧ z = hdT w d) ∨ ∃ p ∈ ps, d = p.d ∧ z = p.txt := by
  unfold itT at h2
  by_cases hi : i < hd.length
  · rw [List.getElem?_append_left hi] at h1
    rw [List.getElem?_append_left (by simpa using hi), List.getElem?_map, h1] at h2
    cases h2
    exact .inl ⟨List.mem_of_getElem? h1, rfl⟩
  · rw [List.getElem?_append_right (by omega), ds_map, List.getElem?_map] at h1
    rw [List.getElem?_append_right (by simpa using hi), txts_map, List.getElem?_map] at h2
    simp only [List.length_map] at h2
    cases hp : ps[i - hd.length]? with
    | none => rw [hp] at h1; cases h1
    | some p =>
      rw [hp] at h1 h2
      cases h1; cases h2
      exact .inr ⟨p, List.mem_of_getElem? hp, rfl, rfl⟩
theorem log_small {i : Int} (h : -1000000000000 ≤ i ∧ i ≤ 1000000000000) : i.natAbs.log2 < 1920 := by
  have h1 : i.natAbs ≤ 1000000000000 := by omega
  rcases Nat.eq_zero_or_pos i.natAbs with h0 | h0
  · rw [h0]; decide
  · have : i.natAbs.log2 < 41 := (Nat.log2_lt (by omega)).mpr (by omega)
    omega
/-- a thing behind a part's word -/
theorem hd_cases {kvs : List (DK × D)} {w : W} {hd : List D} {k : Nat} (h : hdOk kvs w hd k) : ∀ d ∈ hd, (∃ s, d = .str s ∧ s.length ≤ 200) ∨ ∃ i : Int, d = .int i ∧ -1000000000000 ≤ i ∧ i ≤ 1000000000000 := by
  intro d hd'
  cases w <;> unfold hdOk at h <;> dsimp only at h
  case w_is =>
    obtain ⟨_, x, rfl, hx⟩ := h
    simp at hd'
    subst hd'
    rcases hx with ⟨s, rfl, hs, _⟩ | ⟨i, rfl, hi⟩
    · exact .inl ⟨s, rfl, hs⟩
    · exact .inr ⟨i, rfl, hi⟩
  case w_at => obtain ⟨_, c, rfl, hc⟩ := h; simp at hd'; exact .inl ⟨_, hd', by simp⟩
  case w_set => obtain ⟨_, c, rfl, hc⟩ := h; simp at hd'; exact .inl ⟨_, hd', by simp⟩
  case w_try => obtain ⟨_, c, rfl, hc⟩ := h; simp at hd'; exact .inl ⟨_, hd', by simp⟩
  case w_most => obtain ⟨_, i, rfl, hi⟩ := h; simp at hd'; exact .inr ⟨i, hd', by omega⟩
  case w_call => obtain ⟨s, rfl, hs, _⟩ := h; simp at hd'; exact .inl ⟨s, hd', by have := hs.1.2; omega⟩
  all_goals (obtain ⟨rfl, _⟩ := h; cases hd')
structure HasT (P : Pg) : Prop where
  worth_text : P.fns.lookup "worth_text" = some G25.f_worth_text
  part_text : P.fns.lookup "part_text" = some G25.f_part_text
  lpt : P.fns.lookup "_law_part_text" = some G25.f__law_part_text
def PTt (p : Pt) (S : Store) (d : D) (S' : Store) : Prop := d = .str p.txt ∧ Fr [] S S'
theorem str_i {m : Bool} {S : Store} {i : Int} (h : i.natAbs.log2 < 1920) : bltR .str m [.int i] S = .ok (.str (numT i)) S := by
  show (if decide (i.natAbs.log2 < 1920) then _ else _) = _
  rw [if_pos (decide_eq_true h)]
  rfl
theorem str_s {m : Bool} {S : Store} {s : List Nat} : bltR .str m [.str s] S = .ok (.str s) S := rfl
theorem worth_text_ok (h : HasT P) (n : Nat) (S : Store) (d : D) (hd : (∃ s, d = .str s ∧ s.length ≤ 200) ∨ ∃ i : Int, d = .int i ∧ -1000000000000 ≤ i ∧ i ≤ 1000000000000) : cfn P (n + 1) "worth_text" [d] S = .ok (.str (hdT .w_is d)) S := by
  rw [cfn_succ, h.worth_text]
  apply R.eq_of_sat
  unfold G25.f_worth_text G25.b_worth_text
  try simp [Mw.run]
  rw [exs_1, sat_seq]
  rcases hd with ⟨s, rfl, hs⟩ | ⟨i, rfl, hi⟩
  · simp [below, hdT]
    omega
  · simp [below, hdT, str_i (log_small hi)]
theorem end_text {g : Cfg} {S : Store} {r : Nat} {x : D} {a2 : Option D} {w : W} {hd : List D} {ps : List Pt} (hr : S[r]? = some (.lst ((w.s :: itT w hd ps).map D.str))) (hz : (Pt.mk w hd ps).txt.length ≤ 1000000) (hn : (itT w hd ps).length ≤ 10) (ss : Sms)
    (hs : ∀ (g : Cfg) l S, exs g ss l S = exs g (.cons (.ret (.bin false .Add (.bin false .Add (.con (.str [40])) (.mtd .join (.con (D.str [32])) (.cons (.var 1) .nil))) (.con (.str [41])))) .nil) l S) :
    exs g ss [some x, some (.ref r), a2] S = .rt (.str (Pt.mk w hd ps).txt) S := by
  rw [hs]
  rw [Pt.txt] at hz ⊢
  have hsum : ∀ xs : List (List Nat), (xs.map List.length).sum + xs.length * 1 ≤ (joinL [32] xs).length + 1 := by
    intro xs
    induction xs with
    | nil => simp [joinL]
    | cons x xs ih =>
      cases xs with
      | nil => simp [joinL]
      | cons y xs =>
        rw [joinL]
        simp only [List.map_cons, List.sum_cons, List.length_cons, List.length_append] at ih ⊢
        simp
        omega
  have h1 := hsum (w.s :: itT w hd ps)
  change (40 :: (joinL [32] (w.s :: itT w hd ps) ++ [41])).length ≤ 1000000 at hz
  change _ = RS.rt (.str (40 :: (joinL [32] (w.s :: itT w hd ps) ++ [41]))) S
  simp only [List.length_cons, List.length_append, List.length_nil] at hz
  have hj := join_ref (S := S) (r := r) (a := [32]) (ss := w.s :: itT w hd ps) hr (by simpa using (by simp at h1 ⊢; omega))
  rw [ret0 (.str (40 :: (joinL [32] (w.s :: itT w hd ps) ++ [41]))) (by
    have z1 : 1 + (joinL [32] (w.s :: itT w hd ps)).length ≤ 16777216 := by omega
    have z2 : (joinL [32] (w.s :: itT w hd ps)).length + 1 + 1 ≤ 16777216 := by omega
    simp [hj, z1]
    omega)]
end Q
/-! T6: parts written, by the program and by the law. -/
namespace Q
open Mw
variable {P : Pg}
theorem fr_set1 {r : Nat} {S : Store} {o : MO} : Fr [r] S (S.set r o) := Fr.set (by simp) _
theorem set_same {S : Store} {r : Nat} {o o' : MO} (h : S[r]? = some o) : (S.set r o')[r]? = some o' := List.getElem?_set_self (List.getElem?_eq_some_iff.mp h).1
theorem fr_new {r : Nat} {S S' S1 : Store} (h1 : Fr [] S S1) (h2 : Fr [r] S1 S') (hr : S.length ≤ r) : Fr [] S S' := h1.tr h2 (by intro m hm; simp at hm; subst hm; exact .inr hr)
theorem append_call {g : Cfg} {S : Store} {r : Nat} {x : D} {d : D} {acc : List D} {f : String} {e : Xp} {z : D} {ss : Sms} {l : LEnv} {F : En} (hl1 : l[1]? = some (some (.ref r))) (hr : S[r]? = some (.lst acc)) (ha : acc.length ≤ 1000)
    (he : (ev g e l S).sat fun z' S2 => z' = z ∧ Fr [] S S2) (k : ∀ S2, S2[r]? = some (.lst (acc ++ [z])) → Fr [r] S S2 → (exs g ss l S2).sat F) : (exs g (.cons (.exp (.mtd .append (.var 1) (.cons e .nil))) ss) l S).sat F := by
  refine st ?_
  rw [ex_7, sat_then, ev_20, sat_bind, ev_1, hl1]
  dsimp only
  rw [sat_ok, if_pos (pre_app hr), evs_1, sat_bind, sat_bind]
  refine R.sat.mono he ?_
  rintro _ S2 ⟨rfl, fr⟩
  have hr2 : S2[r]? = some (.lst acc) := fr.get hr (by simp)
  rw [evs_0, bind_ok, sat_ok, app_ref hr2 (by omega), sat_ok]
  exact k _ (set_same hr2) ((fr.sub (by simp)).trans fr_set1)
theorem part_text_ok (h : HasT P) (kvs : List (DK × D)) (hk : ∀ s (c : Nat), dGet kvs (.inr s) = some (.int c) → c ≤ 3) : ∀ (m n : Nat) (S : Store) (p : Pt), p.ok kvs → p.depth ≤ m → p.size ≤ 1000 →
    (cfn P (n + m + 1) "part_text" [p.d] S).sat (PTt p S)
  | 0, n, S, .mk w hd ps, _, dp, _ => by simp [Pt.depth] at dp
  | m + 1, n, S, .mk w hd ps, ok, dp, sz => by
    have hz : (Pt.mk w hd ps).txt.length ≤ 1000000 := by have := txt_len _ _ ok (Nat.le_refl _); omega
    simp only [Pt.depth, Pt.size] at dp sz
    have l3 := hd_len hk ok.1
    obtain ⟨f1, _⟩ := hd_flat ok.1
    have hn : (itT w hd ps).length ≤ 10 := by simp [itT, txts_map]; omega
    rw [cfn_succ, h.part_text]
    have hrun : Mw.run (P.cfg (n + (m + 1))) G25.f_part_text [(Pt.mk w hd ps).d] S = (exs (P.cfg (n + (m + 1))) G25.b_part_text [some (Pt.mk w hd ps).d, none, none] S).out := rfl
    show (Mw.run (P.cfg (n + (m + 1))) G25.f_part_text _ S).sat _
    rw [hrun, sat_out]
    have e0 : ∀ S, idxR (Pt.mk w hd ps).d (.int 0) S = .ok (.str w.s) S := fun S => by simp [Pt.d]
    have ei : ∀ a1 S, (ev (P.cfg (n + (m + 1))) (.seq (.slc false (.var 0) (.con (.int 1)) .nop)) [some (Pt.mk w hd ps).d, a1, none] S).bind itemsR = .ok (hd ++ Pt.ds ps) S := fun a1 S => by simp [Pt.d, cut1]
    have ih : ∀ q ∈ ps, ∀ S, (cfn P (n + (m + 1)) "part_text" [q.d] S).sat (PTt q S) := fun q hq S => part_text_ok h kvs hk m n S q (oks_mem ok.2 q hq) (depths_mem (by omega) q hq) (by
      have : ∀ qs : List Pt, q ∈ qs → q.size ≤ Pt.sizes qs := by
        intro qs
        induction qs with
        | nil => intro h; cases h
        | cons a qs ih =>
          intro hm
          simp only [Pt.sizes]
          rcases List.mem_cons.mp hm with rfl | hm
          · omega
          · have := ih hm; omega
      have := this ps hq
      omega)
    have wt : ∀ d, d ∈ hd → ∀ S, cfn P (n + (m + 1)) "worth_text" [d] S = .ok (.str (hdT .w_is d)) S := fun d hd' S => worth_text_ok h (n + m) S d (hd_cases ok.1 d hd')
    have et := fun a2 S2 => end_text (g := P.cfg (n + (m + 1))) (r := S.length) (x := (Pt.mk w hd ps).d) (a2 := a2) (S := S2) (w := w) (hd := hd) (ps := ps)
    generalize hx : (Pt.mk w hd ps).d = x at *
    unfold G25.b_part_text
    rw [exs_asg (S1 := S ++ [.lst [.str w.s]]) (d := .ref S.length) (by simp [e0])]
    refine st ?_
    rw [ex_10, sat_then]
    have ei' := ei (some (.ref S.length)) (S ++ [.lst [.str w.s]])
    simp only [List.set_cons_succ, List.set_cons_zero]
    rw [ei', sat_ok]
    refine items_loop (w := w) (hd := hd) (ps := ps) ⟨f1, l3⟩ (by simp) ?_ ?_
    · intro i d z h1 h2 S2 acc hr ha
      rcases it_cases h1 h2 with ⟨hm, rfl⟩ | ⟨q, hq, rfl, rfl⟩
      · have sc := hd_cases ok.1 d hm
        have nt : ∀ S, isiR d ["tuple"] S = .ok (.bl false) S := fun S => by rcases sc with ⟨s, rfl, _⟩ | ⟨i, rfl, _⟩ <;> simp [below]
        rw [ifN0 (by simp [nt, -isi_1]), sat_seq]
        refine append_call (f := "") (x := x) (d := d) (z := .str (hdT w d)) rfl hr ha ?_ fun S3 q1 q2 => ?_
        · by_cases hw : w = .w_is
          · subst hw
            simp [e0, W.s, wt d hm]
            exact Fr.refl _ _
          · have hs : w.s ≠ [105, 115] := s_ne (b := .w_is) hw
            have hh : ∀ s, d = .str s → hdT w d = s := fun s e => by subst e; simp [hdT, hw]
            rcases sc with ⟨s, rfl, _⟩ | ⟨i, rfl, hi⟩
            · simp [e0, hs, str_s, hdT, hw]
              exact Fr.refl _ _
            · simp [e0, hs, str_i (log_small hi), hdT]
              exact Fr.refl _ _
        · rw [exs_0, sat_nx]
          dsimp only
          rw [exs_0, sat_nx]
          exact ⟨rfl, q1, q2⟩
      · obtain ⟨xs, ex⟩ := pt_tup q
        rw [exs_ifT (S1 := S2) (by simp [ex, below]), sat_seq]
        refine append_call (f := "") (x := x) (d := q.d) (z := .str q.txt) rfl hr ha ?_ fun S3 q1 q2 => ?_
        · simp
          exact ih q hq S2
        · rw [exs_0, sat_nx]
          dsimp only
          rw [exs_0, sat_nx]
          exact ⟨rfl, q1, q2⟩
    · intro a2 S2 hr fr
      have e : exs (P.cfg (n + (m + 1))) (dropS 2 G25.b_part_text) [some x, some (.ref S.length), a2] S2 = .rt (.str (Pt.mk w hd ps).txt) S2 := et a2 S2 hr hz hn _ (fun g l S => rfl)
      show (exs _ (dropS 2 G25.b_part_text) _ S2).sat _
      rw [e, sat_rt]
      exact ⟨rfl, fr_new (Fr.more [] S _) fr (Nat.le_refl _)⟩
end Q
/-! T7: parts written by the law. -/
namespace Q
open Mw
variable {P : Pg}
theorem lpt_ok (h : HasT P) (kvs : List (DK × D)) (hk : ∀ s (c : Nat), dGet kvs (.inr s) = some (.int c) → c ≤ 3) : ∀ (m n : Nat) (S : Store) (p : Pt), p.ok kvs → p.depth ≤ m → p.size ≤ 1000 →
    (cfn P (n + m + 1) "_law_part_text" [p.d] S).sat (PTt p S)
  | 0, n, S, .mk w hd ps, _, dp, _ => by simp [Pt.depth] at dp
  | m + 1, n, S, .mk w hd ps, ok, dp, sz => by
    have hz : (Pt.mk w hd ps).txt.length ≤ 1000000 := by have := txt_len _ _ ok (Nat.le_refl _); omega
    simp only [Pt.depth, Pt.size] at dp sz
    have l3 := hd_len hk ok.1
    obtain ⟨f1, _⟩ := hd_flat ok.1
    have hn : (itT w hd ps).length ≤ 10 := by simp [itT, txts_map]; omega
    rw [cfn_succ, h.lpt]
    have hrun : Mw.run (P.cfg (n + (m + 1))) G25.f__law_part_text [(Pt.mk w hd ps).d] S = (exs (P.cfg (n + (m + 1))) G25.b__law_part_text [some (Pt.mk w hd ps).d, none, none] S).out := rfl
    show (Mw.run (P.cfg (n + (m + 1))) G25.f__law_part_text _ S).sat _
    rw [hrun, sat_out]
    have e0 : ∀ S, idxR (Pt.mk w hd ps).d (.int 0) S = .ok (.str w.s) S := fun S => by simp [Pt.d]
    have ei : ∀ a1 S, (ev (P.cfg (n + (m + 1))) (.seq (.slc false (.var 0) (.con (.int 1)) .nop)) [some (Pt.mk w hd ps).d, a1, none] S).bind itemsR = .ok (hd ++ Pt.ds ps) S := fun a1 S => by simp [Pt.d, cut1]
    have ih : ∀ q ∈ ps, ∀ S, (cfn P (n + (m + 1)) "_law_part_text" [q.d] S).sat (PTt q S) := fun q hq S => lpt_ok h kvs hk m n S q (oks_mem ok.2 q hq) (depths_mem (by omega) q hq) (by
      have : ∀ qs : List Pt, q ∈ qs → q.size ≤ Pt.sizes qs := by
        intro qs
        induction qs with
        | nil => intro h; cases h
        | cons a qs ih =>
          intro hm
          simp only [Pt.sizes]
          rcases List.mem_cons.mp hm with rfl | hm
          · omega
          · have := ih hm; omega
      have := this ps hq
      omega)
    have et := fun a2 S2 => end_text (g := P.cfg (n + (m + 1))) (r := S.length) (x := (Pt.mk w hd ps).d) (a2 := a2) (S := S2) (w := w) (hd := hd) (ps := ps)
    generalize hx : (Pt.mk w hd ps).d = x at *
    unfold G25.b__law_part_text
    rw [exs_asg (S1 := S ++ [.lst [.str w.s]]) (d := .ref S.length) (by simp [e0])]
    refine st ?_
    rw [ex_10, sat_then]
    have ei' := ei (some (.ref S.length)) (S ++ [.lst [.str w.s]])
    simp only [List.set_cons_succ, List.set_cons_zero]
    rw [ei', sat_ok]
    refine items_loop (w := w) (hd := hd) (ps := ps) ⟨f1, l3⟩ (by simp) ?_ ?_
    · intro i d z h1 h2 S2 acc hr ha
      rcases it_cases h1 h2 with ⟨hm, rfl⟩ | ⟨q, hq, rfl, rfl⟩
      · have sc := hd_cases ok.1 d hm
        have nt : ∀ S, isiR d ["tuple"] S = .ok (.bl false) S := fun S => by rcases sc with ⟨s, rfl, _⟩ | ⟨i, rfl, _⟩ <;> simp [below]
        rw [ifN0 (by simp [nt, -isi_1]), sat_seq]
        by_cases hc : w = .w_is ∧ ∃ s, d = .str s
        · obtain ⟨rfl, s, rfl⟩ := hc
          have hl : s.length ≤ 200 := by
            rcases sc with ⟨s', e, h⟩ | ⟨i, e, _⟩
            · cases e; exact h
            · cases e
          rw [exs_ifT (S1 := S2) (by simp [e0, W.s, below]), sat_seq]
          refine append_call (f := "") (x := x) (d := .str s) (z := .str (hdT .w_is (.str s))) rfl hr ha ?_ fun S3 q1 q2 => ?_
          · simp [hdT]
            exact ⟨by omega, by omega, Fr.refl _ _⟩
          · rw [exs_0, sat_nx]
            dsimp only
            rw [exs_0, sat_nx]
            dsimp only
            rw [exs_0, sat_nx]
            exact ⟨rfl, q1, q2⟩
        · have hs : ∀ (S : Store), ev (P.cfg (n + (m + 1))) (.and (.cons (.cmp .Eq (.idx (.var 0) (.con (.int 0))) (.con (D.str [105, 115]))) (.cons (.isi (.var 2) ["str"]) .nil))) [some x, some (.ref S.length), some d] S2 = .ok (.bl false) S2 := by
            intro S
            by_cases hw : w = .w_is
            · rcases sc with ⟨s, rfl, _⟩ | ⟨i, rfl, _⟩
              · exact absurd ⟨hw, _, rfl⟩ hc
              · simp [e0, hw, W.s, below]
            · have hs : w.s ≠ [105, 115] := s_ne (b := .w_is) hw
              simp [e0, hs]
          rw [ifN0 (hs S), sat_seq]
          refine append_call (f := "") (x := x) (d := d) (z := .str (hdT w d)) rfl hr ha ?_ fun S3 q1 q2 => ?_
          · rcases sc with ⟨s, rfl, _⟩ | ⟨i, rfl, hi⟩
            · have hw : w ≠ .w_is := fun e => hc ⟨e, s, rfl⟩
              simp [str_s, hdT, hw]
              exact Fr.refl _ _
            · simp [str_i (log_small hi), hdT]
              exact Fr.refl _ _
          · rw [exs_0, sat_nx]
            dsimp only
            rw [exs_0, sat_nx]
            dsimp only
            rw [exs_0, sat_nx]
            exact ⟨rfl, q1, q2⟩
      · obtain ⟨xs, ex⟩ := pt_tup q
        rw [exs_ifT (S1 := S2) (by simp [ex, below]), sat_seq]
        refine append_call (f := "") (x := x) (d := q.d) (z := .str q.txt) rfl hr ha ?_ fun S3 q1 q2 => ?_
        · simp
          exact ih q hq S2
        · rw [exs_0, sat_nx]
          dsimp only
          rw [exs_0, sat_nx]
          exact ⟨rfl, q1, q2⟩
    · intro a2 S2 hr fr
      have e : exs (P.cfg (n + (m + 1))) (dropS 2 G25.b__law_part_text) [some x, some (.ref S.length), a2] S2 = .rt (.str (Pt.mk w hd ps).txt) S2 := et a2 S2 hr hz hn _ (fun g l S => rfl)
      show (exs _ (dropS 2 G25.b__law_part_text) _ S2).sat _
      rw [e, sat_rt]
      exact ⟨rfl, fr_new (Fr.more [] S _) fr (Nat.le_refl _)⟩
end Q
/-! T8: whole programs written. -/
namespace Q
open Mw
variable {P : Pg}
def deedW : List Nat := [100, 101, 101, 100]
def Dd.its (y : Dd) : List (List Nat) := deedW :: y.name :: (y.cells.map (fun c => [c]) ++ [y.body.txt])
def Dd.row (y : Dd) : List Nat := joinL [32] y.its
def Pr.rows (x : Pr) : List (List Nat) := x.main.txt :: x.deeds.map Dd.row
def Pr.text (x : Pr) : List Nat := joinL [10] x.rows
def rowX (dX : Xp) (i j k : Nat) (pt : String) : Xp := .mtd .join (.con (D.str [32])) (.cons (.bin false .Add (.bin false .Add (.lst false (.cons dX (.cons (.var i) .nil))) (.blt .list false (.cons (.var j) .nil))) (.lst false (.cons (.call pt [] (.cons (.var k) .nil)) .nil))) .nil)
theorem joinL_len (a : Nat) : ∀ xs : List (List Nat), (joinL [a] xs).length ≤ (xs.map fun x => x.length + 1).sum
  | [] => by simp [joinL]
  | [x] => by simp [joinL]
  | x :: y :: xs => by
    have := joinL_len a (y :: xs)
    rw [joinL]
    simp only [List.length_append, List.map_cons, List.sum_cons] at this ⊢
    simp
    omega
theorem sum1' : ∀ l : List Nat, ((l.map fun c => [c]).map fun x => x.length + 1).sum = 2 * l.length
  | [] => rfl
  | c :: l => by
    have := sum1' l
    simp only [List.map_cons, List.sum_cons, List.length_cons, this]
    simp
    omega
theorem row_len (y : Dd) (hn : y.name.length ≤ 6) (hc : y.cells.length ≤ 2) : (y.its.map fun x => x.length + 1).sum ≤ 20 + y.body.txt.length := by
  have := sum1' y.cells
  simp only [Dd.its, List.map_cons, List.sum_cons, List.map_append, List.sum_append, this, deedW]
  simp
  omega
theorem sum_le : ∀ xs : List (List Nat), (xs.map List.length).sum + xs.length * 1 = (xs.map fun x => x.length + 1).sum
  | [] => rfl
  | x :: xs => by
    have := sum_le xs
    simp only [List.map_cons, List.sum_cons, List.length_cons]
    omega
theorem row_ev {g : Cfg} {l : LEnv} {S : Store} {dX : Xp} {i j k : Nat} {pt : String} {y : Dd} (hn : y.name.length ≤ 6) (hc : y.cells.length ≤ 2) (hz : y.body.txt.length ≤ 1000000)
    (h0 : ev g dX l S = .ok (.str deedW) S) (h1 : l[i]? = some (some (.str y.name))) (h2 : l[j]? = some (some (.tup (y.cells.map fun c => .str [c])))) (h3 : l[k]? = some (some y.body.d))
    (hp : (g.cf pt [y.body.d] S).sat (PTt y.body S)) : (ev g (rowX dX i j k pt) l S).sat fun z S2 => z = .str y.row ∧ Fr [] S S2 := by
  unfold rowX
  have k1 : 2 + y.cells.length ≤ 16777216 := by omega
  simp [h0, h1, h2, h3]
  refine ⟨by omega, ?_⟩
  refine R.sat.mono hp ?_
  rintro _ S2 ⟨rfl, fr⟩
  try simp
  refine ⟨by omega, ?_⟩
  have e : (D.str deedW :: D.str y.name :: (y.cells.map (fun c => D.str [c]) ++ [D.str y.body.txt])) = y.its.map D.str := by
    simp [Dd.its]
  rw [e, join_l]
  · exact ⟨rfl, fr⟩
  · have := row_len y hn hc
    have := sum_le y.its
    simp only [List.length_cons, List.length_nil]
    omega
theorem append_callI {g : Cfg} {S : Store} {i r : Nat} {acc : List D} {e : Xp} {z : D} {ss : Sms} {l : LEnv} {F : En} (hl1 : l[i]? = some (some (.ref r))) (hr : S[r]? = some (.lst acc)) (ha : acc.length ≤ 1000)
    (he : (ev g e l S).sat fun z' S2 => z' = z ∧ Fr [] S S2) (k : ∀ S2, S2[r]? = some (.lst (acc ++ [z])) → Fr [r] S S2 → (exs g ss l S2).sat F) : (exs g (.cons (.exp (.mtd .append (.var i) (.cons e .nil))) ss) l S).sat F := by
  refine st ?_
  rw [ex_7, sat_then, ev_20, sat_bind, ev_1, hl1]
  dsimp only
  rw [sat_ok, if_pos (pre_app hr), evs_1, sat_bind, sat_bind]
  refine R.sat.mono he ?_
  rintro _ S2 ⟨rfl, fr⟩
  have hr2 : S2[r]? = some (.lst acc) := fr.get hr (by simp)
  rw [evs_0, bind_ok, sat_ok, app_ref hr2 (by omega), sat_ok]
  exact k _ (set_same hr2) ((fr.sub (by simp)).trans fr_set1)
/-- the rows of the deeds -/
theorem deeds_loop {g : Cfg} {L : Option D → Option D → Option D → LEnv} {tg : List Nat} {S1 : Store} {i j k q r : Nat} {dX : Xp} {pt : String} {ds : List Dd} {z0 : List Nat} {a b c : Option D} {F : En} (hl : ds.length ≤ 3)
    (hset : ∀ a b c x y z, setAll tg [x, y, z] (L a b c) = some (L (some x) (some y) (some z)))
    (hq : ∀ a b c, (L a b c)[q]? = some (some (.ref r))) (hi : ∀ a b c, (L a b c)[i]? = some a) (hj : ∀ a b c, (L a b c)[j]? = some b) (hk : ∀ a b c, (L a b c)[k]? = some c)
    (h0 : ∀ a b c S, ev g dX (L a b c) S = .ok (.str deedW) S) (hr : S1[r]? = some (.lst [.str z0]))
    (hd : ∀ y ∈ ds, y.name.length ≤ 6 ∧ y.cells.length ≤ 2 ∧ y.body.txt.length ≤ 1000000 ∧ ∀ S, (g.cf pt [y.body.d] S).sat (PTt y.body S))
    (hF : ∀ a b c S2, S2[r]? = some (.lst ((z0 :: ds.map Dd.row).map D.str)) → Fr [r] S1 S2 → F.nx (L a b c) S2) :
    (forLoop (fun l1 S2 => exs g (.cons (.exp (.mtd .append (.var q) (.cons (rowX dX i j k pt) .nil))) .nil) l1 S2) tg true (ds.map Dd.d) (L a b c) S1).sat F := by
  refine for_sat0 (fun n l S => (∃ a b c, l = L a b c) ∧ S[r]? = some (.lst ((z0 :: (ds.take n).map Dd.row).map D.str)) ∧ Fr [r] S1 S) ?_ ?_ ?_
  · exact ⟨⟨a, b, c, rfl⟩, by rw [hr]; rfl, Fr.refl _ _⟩
  · rintro n d l S hd' ⟨⟨a, b, c, rfl⟩, h1, fr⟩
    rw [List.getElem?_map] at hd'
    cases hy : ds[n]? with
    | none => rw [hy] at hd'; cases hd'
    | some y =>
      rw [hy] at hd'
      cases hd'
      have hm := List.mem_of_getElem? hy
      obtain ⟨k1, k2, k3, k4⟩ := hd y hm
      refine ⟨L (some (.str y.name)) (some (.tup (y.cells.map fun c => .str [c]))) (some y.body.d), hset _ _ _ _ _ _, ?_⟩
      refine append_callI (hq _ _ _) h1 (by simp; omega) (row_ev k1 k2 k3 (h0 _ _ _ _) (hi _ _ _) (hj _ _ _) (hk _ _ _) (k4 S)) fun S2 q1 q2 => ?_
      rw [exs_0, sat_nx]
      refine ⟨⟨_, _, _, rfl⟩, ?_, fr.trans q2⟩
      rw [q1, List.take_succ, hy]
      simp
  · rintro l S ⟨⟨a, b, c, rfl⟩, h1, fr⟩
    rw [List.take_of_length_le (by simp)] at h1
    exact hF a b c S h1 fr
theorem text_len {x : Pr} (ok : x.ok) : (x.rows.map fun z => z.length + 1).sum ≤ 100000 ∧ x.main.txt.length ≤ 10000 ∧ ∀ y ∈ x.deeds, y.name.length ≤ 6 ∧ y.cells.length ≤ 2 ∧ y.body.txt.length ≤ 10000 := by
  have hm : x.main.txt.length ≤ 10000 := by
    have := txt_len _ _ ok.main.1 (Nat.le_refl _)
    have := ok.main.2.2
    omega
  have hd : ∀ y ∈ x.deeds, y.name.length ≤ 6 ∧ y.cells.length ≤ 2 ∧ y.body.txt.length ≤ 10000 := by
    intro y hy
    obtain ⟨h1, h2⟩ := ok.deed y hy
    have := txt_len _ _ h2.1 (Nat.le_refl _)
    have := h2.2.2
    exact ⟨h1.1.1.2, h1.2.1, by omega⟩
  refine ⟨?_, hm, hd⟩
  have key : ∀ ds : List Dd, (∀ y ∈ ds, y.name.length ≤ 6 ∧ y.cells.length ≤ 2 ∧ y.body.txt.length ≤ 10000) → ((ds.map Dd.row).map fun z => z.length + 1).sum ≤ 10100 * ds.length := by
    intro ds
    induction ds with
    | nil => intro _; simp
    | cons y ds ih =>
      intro h
      have := ih fun z hz => h z (List.mem_cons_of_mem _ hz)
      obtain ⟨h1, h2, h3⟩ := h y List.mem_cons_self
      have k1 := row_len y h1 h2
      have k2 := joinL_len 32 y.its
      simp only [List.map_cons, List.sum_cons, List.length_cons]
      show (joinL [32] y.its).length + 1 + _ ≤ _
      omega
  have := key x.deeds hd
  have := ok.few
  simp only [Pr.rows, List.map_cons, List.sum_cons]
  omega
theorem written_ok (h : HasT P) (hn : HasN P) (hw : P.fns.lookup "written" = some G25.f_written) (n : Nat) (S : Store) (x : Pr) (ok : x.ok) : (cfn P (n + 13) "written" [x.d] S).sat fun d S' => d = .str x.text ∧ Fr [] S S' := by
  rw [cfn_succ, hw]
  have kv := kv3 (ds := x.deeds) fun y hy => by have := (ok.deed y hy).1.2.1; omega
  obtain ⟨l1, l2, l3⟩ := text_len ok
  have pt : ∀ (p : Pt) (S : Store), ptOk (kvsOf x.deeds) p → (cfn P (n + 12) "part_text" [p.d] S).sat (PTt p S) := fun p S hp => part_text_ok h (kvsOf x.deeds) kv 6 (n + 5) S p hp.1 hp.2.1 (by have := hp.2.2; omega)
  have hrun : Mw.run (P.cfg (n + 12)) G25.f_written [x.d] S = (exs (P.cfg (n + 12)) G25.b_written [some x.d, none, none, none, none] S).out := rfl
  show (Mw.run (P.cfg (n + 12)) G25.f_written _ S).sat _
  rw [hrun, sat_out]
  have e : G25.b_written = .cons (.exp (.call "need_program" [] (.cons (.var 0) .nil))) (.cons (.asg 1 (.lst true (.cons (.call "part_text" [] (.cons (.idx (.var 0) (.con (D.int 0))) .nil)) .nil)))
    (.cons (.fr [2, 3, 4] true (.seq (.idx (.var 0) (.con (D.int 1)))) (.cons (.exp (.mtd .append (.var 1) (.cons (rowX (.glb "DEED" G25.g_DEED) 2 3 4 "part_text") .nil))) .nil))
    (.cons (.ret (.mtd .join (.con (D.str [10])) (.cons (.var 1) .nil))) .nil))) := rfl
  rw [e]
  have p0 : ∀ S, idxR x.d (.int 0) S = .ok x.main.d S := fun S => rfl
  have p1 : ∀ S, idxR x.d (.int 1) S = .ok (.tup (x.deeds.map Dd.d)) S := fun S => rfl
  refine st ?_
  simp
  refine R.sat.mono (need_program_ok hn n S x ok) ?_
  rintro _ S1 ⟨rfl, _, fr1⟩
  refine st ?_
  simp [p0]
  refine R.sat.mono (pt x.main S1 ok.main) ?_
  rintro _ S2 ⟨rfl, fr2⟩
  try simp
  refine st ?_
  rw [ex_10]
  simp [p1]
  refine deeds_loop (L := fun a b c => [some x.d, some (.ref S2.length), a, b, c]) (r := S2.length) (z0 := x.main.txt) (ds := x.deeds) ok.few (fun _ _ _ _ _ _ => rfl) (fun _ _ _ => rfl) (fun _ _ _ => rfl) (fun _ _ _ => rfl) (fun _ _ _ => rfl) (fun _ _ _ S => by simp [deedW]) (by simp)
    (fun y hy => ⟨(l3 y hy).1, (l3 y hy).2.1, by have := (l3 y hy).2.2; omega, fun S => pt y.body S (ok.deed y hy).2⟩) ?_
  intro a b c S3 hr fr3
  have hs := sum_le x.rows
  have hr' : S3[S2.length]? = some (.lst (x.rows.map D.str)) := hr
  have hj := join_ref (S := S3) (a := [10]) hr' (by simp only [List.length_cons, List.length_nil]; omega)
  dsimp only
  rw [ret0 (.str x.text) (by simp [hj]; rfl), sat_rt]
  refine ⟨rfl, ?_⟩
  exact (fr1.trans fr2).trans (fr_new (Fr.more [] S2 _) fr3 (Nat.le_refl _))
end Q
/-! T9: the reader: take, must, number. -/
namespace Q
open Mw
variable {P : Pg}
structure HasR (P : Pg) : Prop where
  init : P.fns.lookup "Reader.__init__" = some G25.f_Reader_d___init__
  take : P.fns.lookup "Reader.take" = some G25.f_Reader_d_take
  must : P.fns.lookup "Reader.must" = some G25.f_Reader_d_must
  whole : P.fns.lookup "Reader.whole" = some G25.f_Reader_d_whole
  one : P.fns.lookup "Reader.one_part" = some G25.f_Reader_d_one_part
  heads : P.fns.lookup "Reader.heads" = some G25.f_Reader_d_heads
  worth : P.fns.lookup "Reader.worth" = some G25.f_Reader_d_worth
  number : P.fns.lookup "Reader.number" = some G25.f_Reader_d_number
  m_init : P.mt "Reader" "__init__" = some "Reader.__init__"
  m_take : P.mt "Reader" "take" = some "Reader.take"
  m_must : P.mt "Reader" "must" = some "Reader.must"
  m_whole : P.mt "Reader" "whole" = some "Reader.whole"
  m_one : P.mt "Reader" "one_part" = some "Reader.one_part"
  m_heads : P.mt "Reader" "heads" = some "Reader.heads"
  m_worth : P.mt "Reader" "worth" = some "Reader.worth"
  m_number : P.mt "Reader" "number" = some "Reader.number"
def rdO (rw : Nat) (k : Int) (a : Int) : MO := .ins "Reader" [("words", .ref rw), ("at", .int k), ("ahead", .int a)]
/-- a reader stands at o, ahead of the k-th word -/
structure Rdr (S : Store) (o rw : Nat) (ws : List (List Nat)) (a : Int) (k : Nat) : Prop where
  o : S[o]? = some (rdO rw k a)
  w : S[rw]? = some (.lst (ws.map D.str))
theorem Rdr.ne {S : Store} {o rw : Nat} {ws : List (List Nat)} {a : Int} {k : Nat} (h : Rdr S o rw ws a k) : o ≠ rw := fun e => by
  have h1 := h.o
  rw [e, h.w] at h1
  cases h1
theorem Rdr.mono {S S' : Store} {o rw : Nat} {ws : List (List Nat)} {a : Int} {k : Nat} (h : Rdr S o rw ws a k) (f : Fr [] S S') : Rdr S' o rw ws a k := ⟨f.get h.o (by simp), f.get h.w (by simp)⟩
theorem Rdr.at {S : Store} {o rw : Nat} {ws : List (List Nat)} {a : Int} {k : Nat} (h : Rdr S o rw ws a k) (j : Nat) : Rdr (S.set o (rdO rw j a)) o rw ws a j := ⟨set_same h.o, by rw [List.getElem?_set_ne h.ne]; exact h.w⟩
theorem umt_rd {g : Cfg} {S : Store} {o rw : Nat} {ws : List (List Nat)} {a : Int} {k : Nat} (h : Rdr S o rw ws a k) {f q : String} (hm : g.mt "Reader" f = some q) (n1 : f ≠ "words") (n2 : f ≠ "at") (n3 : f ≠ "ahead") : umtQ g f (.ref o) S = some q := by
  have e1 : ("words" == f) = false := by simpa using Ne.symm n1
  have e2 : ("at" == f) = false := by simpa using Ne.symm n2
  have e3 : ("ahead" == f) = false := by simpa using Ne.symm n3
  have f1 : (f == "words") = false := by simpa using n1
  have f2 : (f == "at") = false := by simpa using n2
  have f3 : (f == "ahead") = false := by simpa using n3
  have : fGet [("words", D.ref rw), ("at", D.int k), ("ahead", D.int a)] f = none := by
    unfold fGet
    simp [List.lookup, f1, f2, f3]
  unfold umtQ
  dsimp only
  rw [h.o]
  unfold rdO
  dsimp only
  rw [this]
  exact hm
theorem fld_at {S : Store} {o rw : Nat} {ws : List (List Nat)} {a : Int} {k : Nat} (h : Rdr S o rw ws a k) : fldR (.ref o) "at" S = .ok (.int k) S := by
  unfold fldR; dsimp only; rw [h.o]; rfl
theorem fld_words {S : Store} {o rw : Nat} {ws : List (List Nat)} {a : Int} {k : Nat} (h : Rdr S o rw ws a k) : fldR (.ref o) "words" S = .ok (.ref rw) S := by
  unfold fldR; dsimp only; rw [h.o]; rfl
theorem fld_ahead {S : Store} {o rw : Nat} {ws : List (List Nat)} {a : Int} {k : Nat} (h : Rdr S o rw ws a k) : fldR (.ref o) "ahead" S = .ok (.int a) S := by
  unfold fldR; dsimp only; rw [h.o]; rfl
theorem len_words {S : Store} {o rw : Nat} {ws : List (List Nat)} {a : Int} {k : Nat} (h : Rdr S o rw ws a k) {m : Bool} : bltR .len m [.ref rw] S = .ok (.int ws.length) S := by
  simp [bltR, seqOf, h.w]
theorem idx_words {S : Store} {o rw : Nat} {ws : List (List Nat)} {a : Int} {k : Nat} (h : Rdr S o rw ws a k) {j : Nat} {w : List Nat} (hj : ws[j]? = some w) : idxR (.ref rw) (.int j) S = .ok (.str w) S := by
  rw [idx_ref h.w, atI_nat, List.getElem?_map, hj]
  rfl
theorem take_w (h : HasR P) (n : Nat) {S : Store} {o rw : Nat} {ws : List (List Nat)} {a : Int} {k : Nat} {w : List Nat} (r : Rdr S o rw ws a k) (hw : ws[k]? = some w) :
    cfn P (n + 1) "Reader.take" [.ref o] S = .ok (.str w) (S.set o (rdO rw ((k + 1 : Nat) : Int) a)) := by
  rw [cfn_succ, h.take]
  have hrun : Mw.run (P.cfg n) G25.f_Reader_d_take [.ref o] S = (exs (P.cfg n) G25.b_Reader_d_take [some (.ref o)] S).out := rfl
  show Mw.run (P.cfg n) G25.f_Reader_d_take _ S = _
  rw [hrun]
  have hk : k < ws.length := (List.getElem?_eq_some_iff.mp hw).1
  have r2 := r.at (k + 1)
  have i2 := idx_words r2 hw
  unfold G25.b_Reader_d_take
  have ne : ¬ (k : Int) = (ws.length : Int) := by omega
  rw [ifF0 (by simp [fld_at r, fld_words r, len_words r, ne])]
  have ef : ex (P.cfg n) (.faug (.var 0) "at" .Add (.con (.int 1))) [some (.ref o)] S = .nx [some (.ref o)] (S.set o (rdO rw ((k + 1 : Nat) : Int) a)) := by
    have hset : fsetR (.ref o) "at" (.int (k + 1)) S = .ok () (S.set o (rdO rw ((k + 1 : Nat) : Int) a)) := by
      unfold fsetR
      dsimp only
      rw [r.o]
      rfl
    rw [ex_6, ev_1]
    dsimp only [List.getElem?_cons_zero]
    rw [then_ok, fld_at r, then_ok, ev_2, then_ok]
    simp [augR, hset]
  rw [exs_1, ef, seq_nx]
  have e1 : ((k + 1 : Nat) : Int) - 1 = (k : Int) := by omega
  rw [ret0 (.str w) (by simp only [ev_15, ev_23, ev_1, ev_7, ev_2, List.getElem?_cons_zero, bind_ok, fld_words r2, fld_at r2, sub_i, e1, i2])]
  rfl
theorem must_t (h : HasR P) (n : Nat) (S : Store) (o : D) : cfn P (n + 1) "Reader.must" [o, .bl true] S = .ok .non S := by
  rw [cfn_succ, h.must]
  have hrun : Mw.run (P.cfg n) G25.f_Reader_d_must [o, .bl true] S = (exs (P.cfg n) G25.b_Reader_d_must [some o, some (.bl true)] S).out := rfl
  show Mw.run (P.cfg n) G25.f_Reader_d_must _ S = _
  rw [hrun]
  unfold G25.b_Reader_d_must
  rw [ifF0 (by simp), exs_0]
  rfl
theorem sw_cons {c : Nat} {r : List Nat} : PySem.Txt.startswith ⟨(c :: r).toArray⟩ ⟨[45].toArray⟩ = (c == 45) := by
  unfold PySem.Txt.startswith PySem.Builtin.Str.subAt PySem.Str.length
  have e : (c :: r).toArray.extract 0 (0 + 1) = [c].toArray := by
    apply Array.toList_inj.mp
    simp
  have e2 : ([45] : List Nat).toArray.size = 1 := rfl
  dsimp only
  rw [e2, e]
  simp
theorem int_text {i : Int} (h : -1000000000000 ≤ i ∧ i ≤ 1000000000000) (m : Bool) (S : Store) : bltR .int m [.str (numT i)] S = .ok (.int i) S := by
  have hl := numT_len h
  have key : PySem.intText? ⟨(numT i).toArray⟩ = some i := by
    rcases Int.le_total 0 i with h0 | h0
    · obtain ⟨m, rfl⟩ := Int.eq_ofNat_of_zero_le h0
      rw [numT_nat] at hl ⊢
      obtain ⟨c, r, e, _⟩ := digs_head m
      have := PySem.intText_digits (x := ⟨(digs m).toArray⟩) (by simpa using digs_all m) (by simp [e]) (by simp [PySem.Str.length]; omega)
      rw [this]
      simp [digs_val]
    · by_cases h1 : i = 0
      · subst h1
        have e0 : numT 0 = digs 0 := numT_nat 0
        rw [e0]
        have := PySem.intText_digits (x := ⟨(digs 0).toArray⟩) (by simpa using digs_all 0) (by simp [digs_small]) (by simp [digs_small, PySem.Str.length])
        rw [this]
        simp [digs_val]
      · obtain ⟨m, rfl⟩ : ∃ m : Nat, i = -((m : Int) + 1) := ⟨(-i - 1).toNat, by omega⟩
        rw [numT_neg] at hl ⊢
        obtain ⟨c, r, e, _⟩ := digs_head (m + 1)
        have := PySem.intText_neg (x := ⟨(45 :: digs (m + 1)).toArray⟩) (cs := digs (m + 1)) (by simp) (digs_all _) (by rw [e]; simp) (by simp only [PySem.Str.length, List.size_toArray, List.length_cons] at hl ⊢; omega)
        rw [this, digs_val]
        simp
  unfold bltR
  dsimp only
  rw [if_pos (decide_eq_true (by omega)), key]
theorem allBools_tt : ∀ s : List Nat, allBools (s.map fun _ => D.bl true) = some (s.map fun _ => true)
  | [] => rfl
  | c :: s => by simp [allBools, allBools_tt s]
theorem all_tt {m : Bool} {S : Store} {s : List Nat} : bltR .all m [.lst (s.map fun _ => D.bl true)] S = .ok (.bl true) S := by
  rw [all_l, allBools_tt]
  dsimp only
  congr 2
  simp
theorem figs_ok {g : Cfg} {S : Store} {a0 a1 : Option D} (s : List Nat) (h : PySem.NumText.AllDigits s) (hl : s.length ≤ 1000) : ev g (.blt .all false (.cons (.lc false [3] false (.seq (.var 2)) (.cmp .In (.var 3) (.glb "FIGURES" G25.g_FIGURES)) (.con (D.bl true))) .nil)) [a0, a1, some (.str s), none] S = .ok (.bl true) S := by
  have e : ev g (.lc false [3] false (.seq (.var 2)) (.cmp .In (.var 3) (.glb "FIGURES" G25.g_FIGURES)) (.con (D.bl true))) [a0, a1, some (.str s), none] S = .ok (.lst (s.map fun _ => D.bl true)) S := by
    rw [ev_24, ev_26, ev_1]
    dsimp only [List.getElem?_cons_succ, List.getElem?_cons_zero]
    rw [bind_ok, items_s, bind_ok, lc_mapP (fun c => D.str [c]) (fun _ => D.bl true) (by simp; omega) (fun c hc => ⟨_, rfl, by simp, ?_⟩)]
    · rfl
    · have hd := h c hc
      have : c ∈ ([48, 49, 50, 51, 52, 53, 54, 55, 56, 57] : List Nat) := by
        simp
        omega
      simp only [ev_9, ev_1, ev_3, cmp_In, List.set_cons_succ, List.set_cons_zero, wipe1, wipe0, List.getElem?_cons_succ, List.getElem?_cons_zero, bind_ok, in_str]
      rw [decide_eq_true this]
      rfl
  rw [ev_18, evs_1, e, bind_ok, evs_0, bind_ok, bind_ok, all_tt]
theorem number_w (h : HasR P) (n : Nat) {S : Store} {o rw : Nat} {ws : List (List Nat)} {a : Int} {k : Nat} (r : Rdr S o rw ws a k) {i : Int} (hi : -1000000000000 ≤ i ∧ i ≤ 1000000000000) :
    cfn P (n + 2) "Reader.number" [.ref o, .str (numT i)] S = .ok (.int i) S := by
  rw [cfn_succ, h.number]
  have hrun : Mw.run (P.cfg (n + 1)) G25.f_Reader_d_number [.ref o, .str (numT i)] S = (exs (P.cfg (n + 1)) G25.b_Reader_d_number [some (.ref o), some (.str (numT i)), none, none] S).out := rfl
  show Mw.run (P.cfg (n + 1)) G25.f_Reader_d_number _ S = _
  rw [hrun]
  have hm : umtQ (P.cfg (n + 1)) "must" (.ref o) S = some "Reader.must" := umt_rd r h.m_must (by decide) (by decide) (by decide)
  have mt := must_t h n S (.ref o)
  have it := int_text hi false S
  have hl := numT_len hi
  obtain ⟨m, fig, c, t, e1, e2, e3, e4, e5⟩ : ∃ (m : Nat) (fig : List Nat) (c : Nat) (t : List Nat), fig = digs m ∧ fig = c :: t ∧ fig.length ≤ 13 ∧ (c = 48 → numT i = [48]) ∧ ((numT i = fig ∧ c ≠ 45) ∨ numT i = 45 :: fig) := by
    rcases Int.le_total 0 i with h0 | h0
    · obtain ⟨m, rfl⟩ := Int.eq_ofNat_of_zero_le h0
      obtain ⟨c, t, e, k1, k2⟩ := digs_head m
      have := digs_len 12 m (by omega)
      refine ⟨m, digs m, c, t, rfl, e, this, fun hc => ?_, .inl ⟨numT_nat m, ?_⟩⟩
      · rw [numT_nat]
        by_cases hm : m = 0
        · obtain ⟨q1, q2⟩ := k2 hm
          rw [e, q1, q2]
        · exact absurd hc (k1 hm)
      · have := digs_all m c (by rw [e]; simp)
        omega
    · by_cases h1 : i = 0
      · subst h1
        have e0 : numT 0 = digs 0 := numT_nat 0
        have e00 : digs 0 = [48] := digs_small (by omega)
        exact ⟨0, [48], 48, [], e00.symm, rfl, by simp, fun _ => by rw [e0, e00], .inl ⟨by rw [e0, e00], by decide⟩⟩
      · obtain ⟨m, rfl⟩ : ∃ m : Nat, i = -((m : Int) + 1) := ⟨(-i - 1).toNat, by omega⟩
        obtain ⟨c, t, e, k1, k2⟩ := digs_head (m + 1)
        have := digs_len 12 (m + 1) (by omega)
        refine ⟨m + 1, digs (m + 1), c, t, rfl, e, this, fun hc => ?_, .inr (numT_neg m)⟩
        exact absurd hc (k1 (by omega))
  have hall : PySem.NumText.AllDigits fig := by rw [e1]; exact digs_all m
  generalize numT i = w at *
  have sw : ∀ (c : Nat) (r : List Nat), mtdR .startswith (.str (c :: r)) [.str [45]] S = .ok (.bl (c == 45)) S := fun c r => by
    show R.ok (D.bl (PySem.Txt.startswith ⟨(c :: r).toArray⟩ ⟨[45].toArray⟩)) S = _
    rw [sw_cons]
  have psw : ∀ w, mtdPre .startswith (.str w) S = true := fun w => rfl
  have figE : ev (P.cfg (n + 1)) (.ite (.mtd .startswith (.var 1) (.cons (.con (D.str [45])) .nil)) (.slc false (.var 1) (.con (D.int 1)) .nop) (.var 1)) [some (.ref o), some (.str w), none, none] S = .ok (.str fig) S := by
    rcases e5 with ⟨rfl, hc⟩ | rfl
    · subst e2
      simp [sw, psw, hc]
    · have hz : fig.length + 1 ≤ 16777216 := by omega
      simp [sw, psw, slcR, cut1, hz]
  unfold G25.b_Reader_d_number
  rw [asg0 (.str fig) figE]
  simp only [List.set_cons_succ, List.set_cons_zero]
  have hz : fig.length ≤ 16777216 := by omega
  have h1 : 1 ≤ fig.length := by rw [e2]; simp
  have fo := figs_ok (g := P.cfg (n + 1)) (S := S) (a0 := some (.ref o)) (a1 := some (.str w)) fig hall (by omega)
  rw [exs_exp .non (S1 := S) (by
    rw [ev_21, ev_1]
    dsimp only [List.getElem?_cons_zero]
    rw [bind_ok, hm]
    dsimp only
    have c1 : ev (P.cfg (n + 1)) (.chn .LtE .LtE (.con (D.int 1)) (.blt .len false (.cons (.var 2) .nil)) (.glb "MOST_FIGURES" G25.g_MOST_FIGURES)) [some (.ref o), some (.str w), some (.str fig), none] S = .ok (.bl true) S := by
      have h1' : (1 : Int) ≤ fig.length := by omega
      have h2' : (fig.length : Int) ≤ 13 := by omega
      simp [hz, h1', h2']
    rw [evs_1, ev_11, evAnd_2, c1, bind_ok, asB_bl, bind_ok, if_pos rfl, evAnd_1, fo, bind_ok, evs_0, bind_ok, bind_ok]
    exact mt)]
  have c0 : idxR (.str fig) (.int 0) S = .ok (.str [c]) S := by rw [e2]; simp; rw [e2] at hz; simpa using hz
  rw [exs_exp .non (S1 := S) (by
    rw [ev_21, ev_1]
    dsimp only [List.getElem?_cons_zero]
    rw [bind_ok, hm]
    dsimp only
    have c1 : ev (P.cfg (n + 1)) (.or (.cons (.cmp .NotEq (.idx (.var 2) (.con (D.int 0))) (.con (D.str [48]))) (.cons (.cmp .Eq (.var 1) (.con (D.str [48]))) .nil))) [some (.ref o), some (.str w), some (.str fig), none] S = .ok (.bl true) S := by
      by_cases hc : c = 48
      · have := e4 hc
        simp [c0, hc, this, -idx_s]
      · simp [c0, hc, -idx_s]
    rw [evs_1, c1, bind_ok, evs_0, bind_ok, bind_ok]
    exact mt)]
  rw [ret0 (.int i) (by simp [it])]
  rfl
end Q
/-! T10: the reader: worths, what stands behind a part's word. -/
namespace Q
open Mw
variable {P : Pg}
theorem idx_lastN {α : Type} {l : List α} {b : α} : L2.atI (l ++ [b]) (-1) = some b := by
  unfold L2.atI L2.ixN
  rw [if_neg (by omega)]
  simp
  rw [if_pos (by omega)]
  have e : (-1 + ((l.length : Int) + 1)).toNat = l.length := by omega
  show (l ++ [b])[(-1 + ((l.length : Int) + 1)).toNat]? = _
  rw [e]
  simp
theorem cut_quo {s : List Nat} : cut (34 :: (s ++ [34])) (some 1) (some (-1)) = s := by
  unfold cut
  have h1 : HT.sIx (34 :: (s ++ [34])).length 0 (some 1) = 1 := by
    unfold HT.sIx
    simp
  have h2 : HT.sIx (34 :: (s ++ [34])).length (34 :: (s ++ [34])).length (some (-1)) = s.length + 1 := by
    unfold HT.sIx
    simp
    omega
  rw [h1, h2]
  simp
theorem num_head {i : Int} : ∃ c t, numT i = c :: t ∧ c ≠ 34 := by
  obtain ⟨h0, h⟩ := sp_num i
  cases hx : numT i with
  | nil => exact absurd hx h0
  | cons c t =>
    refine ⟨c, t, rfl, fun e => ?_⟩
    have := h c (by rw [hx]; simp)
    subst e
    exact absurd this (by decide)
theorem take_ev (h : HasR P) (n : Nat) {S : Store} {o rw : Nat} {ws : List (List Nat)} {a : Int} {k : Nat} {w : List Nat} {l : LEnv} (r : Rdr S o rw ws a k) (hw : ws[k]? = some w) (hl : l[0]? = some (some (.ref o))) :
    ev (P.cfg (n + 1)) (.umt "take" (.var 0) .nil) l S = .ok (.str w) (S.set o (rdO rw ((k + 1 : Nat) : Int) a)) := by
  rw [ev_21, ev_1, hl]
  dsimp only
  have hm : umtQ (P.cfg (n + 1)) "take" (.ref o) S = some "Reader.take" := umt_rd r h.m_take (by decide) (by decide) (by decide)
  rw [bind_ok, hm]
  dsimp only
  rw [evs_0, bind_ok]
  exact take_w h n r hw
theorem must_ev (h : HasR P) (n : Nat) {S S1 : Store} {o rw : Nat} {ws : List (List Nat)} {a : Int} {k : Nat} {l : LEnv} {e : Xp} {ss : Sms} (r : Rdr S o rw ws a k) (hl : l[0]? = some (some (.ref o))) (he : ev (P.cfg (n + 1)) e l S = .ok (.bl true) S1) :
    exs (P.cfg (n + 1)) (.cons (.exp (.umt "must" (.var 0) (.cons e .nil))) ss) l S = exs (P.cfg (n + 1)) ss l S1 := by
  have hm : umtQ (P.cfg (n + 1)) "must" (.ref o) S = some "Reader.must" := umt_rd r h.m_must (by decide) (by decide) (by decide)
  refine exs_exp .non ?_
  rw [ev_21, ev_1, hl]
  dsimp only
  rw [bind_ok, hm]
  dsimp only
  rw [evs_1, he, bind_ok, evs_0, bind_ok, bind_ok]
  exact must_t h n S1 (.ref o)
theorem set_tw {S : Store} {o rw : Nat} {a : Int} {i j : Int} : (S.set o (rdO rw i a)).set o (rdO rw j a) = S.set o (rdO rw j a) := List.set_set ..
theorem worth_w (h : HasR P) (n : Nat) {S : Store} {o rw : Nat} {ws : List (List Nat)} {a : Int} {k : Nat} {d : D} (r : Rdr S o rw ws a k) (hd : isWo d) (hw : ws[k]? = some (hdT .w_is d)) :
    cfn P (n + 3) "Reader.worth" [.ref o] S = .ok d (S.set o (rdO rw ((k + 1 : Nat) : Int) a)) := by
  rw [cfn_succ, h.worth]
  have hrun : Mw.run (P.cfg (n + 2)) G25.f_Reader_d_worth [.ref o] S = (exs (P.cfg (n + 2)) G25.b_Reader_d_worth [some (.ref o), none] S).out := rfl
  show Mw.run (P.cfg (n + 2)) G25.f_Reader_d_worth _ S = _
  rw [hrun]
  unfold G25.b_Reader_d_worth
  rw [exs_asg (take_ev h (n + 1) r hw rfl)]
  have r2 := r.at (k + 1)
  simp only [List.set_cons_succ, List.set_cons_zero]
  generalize S.set o (rdO rw ((k + 1 : Nat) : Int) a) = S2 at r2 ⊢
  rcases hd with ⟨s, rfl, hs, _⟩ | ⟨i, rfl, hi⟩
  · have e : hdT .w_is (.str s) = 34 :: (s ++ [34]) := rfl
    rw [e]
    have hz : s.length + 1 + 1 ≤ 16777216 := by omega
    rw [ifF0 (by simp [hz])]
    have el : (34 :: (s ++ [34]) : List Nat) = (34 :: s) ++ [34] := rfl
    rw [must_ev h (n + 1) r2 rfl (S1 := S2) (by
      have hz2 : (0 : Int) < (s.length : Int) + 1 := by omega
      have h3 : L2.atI (34 :: (s ++ [34])) (-1) = some 34 := by rw [el]; exact idx_lastN
      simp [hz, h3]
      omega)]
    rw [ret0 (.str s) (by simp [slcR, hz, cut_quo])]
    rfl
  · have e : hdT .w_is (.int i) = numT i := rfl
    rw [e]
    obtain ⟨c, t, ec, hc⟩ := num_head (i := i)
    have hl := numT_len hi
    have c0 : idxR (.str (numT i)) (.int 0) S2 = .ok (.str [c]) S2 := by
      rw [ec] at hl ⊢
      simp at hl ⊢
      omega
    have nw := number_w h n r2 hi
    have hm : umtQ (P.cfg (n + 2)) "number" (.ref o) S2 = some "Reader.number" := umt_rd r2 h.m_number (by decide) (by decide) (by decide)
    rw [ifR0 (.int i) (by simp [c0, hc, -idx_s]) (by simp [hm, nw])]
    rfl
theorem heads_w (h : HasR P) (hf : HasF P) (n : Nat) {kvs : List (DK × D)} {w : W} {hd : List D} {kk : Nat} (ok : hdOk kvs w hd kk) {S : Store} {o rw : Nat} {ws : List (List Nat)} {a : Int} {k : Nat} (r : Rdr S o rw ws a k)
    (hw : ∀ d ∈ hd, ws[k]? = some (hdT w d)) : ∃ S', cfn P (n + 4) "Reader.heads" [.ref o, .str w.s] S = .ok (.tup hd) S' ∧ Rdr S' o rw ws a (k + hd.length) ∧ Fr [o] S S' := by
  rw [cfn_succ, h.heads]
  have hrun : Mw.run (P.cfg (n + 3)) G25.f_Reader_d_heads [.ref o, .str w.s] S = (exs (P.cfg (n + 3)) G25.b_Reader_d_heads [some (.ref o), some (.str w.s), none] S).out := rfl
  show ∃ S', Mw.run (P.cfg (n + 3)) G25.f_Reader_d_heads _ S = _ ∧ _
  rw [hrun]
  have r2 := r.at (k + 1)
  have fr1 : Fr [o] S (S.set o (rdO rw ((k + 1 : Nat) : Int) a)) := fr_set1
  unfold G25.b_Reader_d_heads
  have cell : ∀ c : Nat, 97 ≤ c ∧ c ≤ 122 → ∀ S, cfn P (n + 3) "is_cell" [.str [c]] S = .ok (.bl true) S := fun c hc S => is_cell_ok hf (n + 2) S c hc
  by_cases hp : w.plain = true
  · obtain ⟨rfl, h0⟩ := hdOk_plain ok hp
    obtain ⟨n1, n2, n3, n4, n5, n6⟩ := plain_ne w hp
    refine ⟨S, ?_, by simpa using r, Fr.refl _ _⟩
    rw [ifF0 (by simp [n1]), ifF0 (by
      have m2 : ¬ [97, 116] = w.s := fun e => n2 e.symm
      simp [m2, n3, n4]
      exact ⟨n3, n4⟩), ifF0 (by simp [n6]), ret0 (.tup []) (by simp [n5])]
    rfl
  cases w
  case w_is =>
    obtain ⟨_, x, rfl, hx⟩ := ok
    have hm : umtQ (P.cfg (n + 3)) "worth" (.ref o) S = some "Reader.worth" := umt_rd r h.m_worth (by decide) (by decide) (by decide)
    have ww := worth_w h n r hx (hw x (by simp))
    refine ⟨_, ?_, r2, fr1⟩
    rw [exs_ifT (S1 := S) (by simp [W.s]), exs_ret (S1 := S.set o (rdO rw ((k + 1 : Nat) : Int) a)) (d := .tup [x]) (by simp [hm, ww])]
    rfl
  case w_at =>
    obtain ⟨_, c, rfl, hc⟩ := ok
    have tw := fun l hl => take_ev h (n + 2) (l := l) r (hw (.str [c]) (by simp)) hl
    refine ⟨_, ?_, r2, fr1⟩
    rw [ifF0 (by simp [W.s]), exs_ifT (S1 := S) (by simp [W.s]), exs_asg (tw _ rfl)]
    simp only [List.set_cons_succ, List.set_cons_zero]
    rw [must_ev h (n + 2) r2 rfl (S1 := S.set o (rdO rw ((k + 1 : Nat) : Int) a)) (by simp [hdT, cell c hc]), ret0 (.tup [.str [c]]) (by simp [hdT])]
    rfl
  case w_set =>
    obtain ⟨_, c, rfl, hc⟩ := ok
    have tw := fun l hl => take_ev h (n + 2) (l := l) r (hw (.str [c]) (by simp)) hl
    refine ⟨_, ?_, r2, fr1⟩
    rw [ifF0 (by simp [W.s]), exs_ifT (S1 := S) (by simp [W.s]), exs_asg (tw _ rfl)]
    simp only [List.set_cons_succ, List.set_cons_zero]
    rw [must_ev h (n + 2) r2 rfl (S1 := S.set o (rdO rw ((k + 1 : Nat) : Int) a)) (by simp [hdT, cell c hc]), ret0 (.tup [.str [c]]) (by simp [hdT])]
    rfl
  case w_try =>
    obtain ⟨_, c, rfl, hc⟩ := ok
    have tw := fun l hl => take_ev h (n + 2) (l := l) r (hw (.str [c]) (by simp)) hl
    refine ⟨_, ?_, r2, fr1⟩
    rw [ifF0 (by simp [W.s]), exs_ifT (S1 := S) (by simp [W.s]), exs_asg (tw _ rfl)]
    simp only [List.set_cons_succ, List.set_cons_zero]
    rw [must_ev h (n + 2) r2 rfl (S1 := S.set o (rdO rw ((k + 1 : Nat) : Int) a)) (by simp [hdT, cell c hc]), ret0 (.tup [.str [c]]) (by simp [hdT])]
    rfl
  case w_call =>
    obtain ⟨s, rfl, hs, _⟩ := ok
    have tw := fun l hl => take_ev h (n + 2) (l := l) r (hw (.str s) (by simp)) hl
    have nm := fun S => is_name_ok hf (n + 2) S s hs.1 hs.2
    refine ⟨_, ?_, r2, fr1⟩
    rw [ifF0 (by simp [W.s]), ifF0 (by simp [W.s]), exs_ifT (S1 := S) (by simp [W.s]), exs_asg (tw _ rfl)]
    simp only [List.set_cons_succ, List.set_cons_zero]
    have eh : hdT .w_call (.str s) = s := rfl
    rw [eh, must_ev h (n + 2) r2 rfl (S1 := S.set o (rdO rw ((k + 1 : Nat) : Int) a)) (by simp [nm]), ret0 (.tup [.str s]) (by simp)]
    rfl
  case w_most =>
    obtain ⟨_, i, rfl, hi⟩ := ok
    have tw := fun l hl => take_ev h (n + 2) (l := l) r (hw (.int i) (by simp)) hl
    have hm : umtQ (P.cfg (n + 3)) "number" (.ref o) S = some "Reader.number" := umt_rd r h.m_number (by decide) (by decide) (by decide)
    have nw := number_w h (n + 1) r2 (i := i) (by omega)
    refine ⟨_, ?_, r2, fr1⟩
    have eh : hdT .w_most (.int i) = numT i := rfl
    rw [eh] at tw
    rw [ifF0 (by simp [W.s]), ifF0 (by simp [W.s]), ifF0 (by simp [W.s]), exs_ret (S1 := S.set o (rdO rw ((k + 1 : Nat) : Int) a)) (d := .tup [.int i]) (by
      have e1 : ev (P.cfg (n + 3)) (.umt "number" (.var 0) (.cons (.umt "take" (.var 0) .nil) .nil)) [some (.ref o), some (.str W.w_most.s), none] S = .ok (.int i) (S.set o (rdO rw ((k + 1 : Nat) : Int) a)) := by
        rw [ev_21, ev_1]
        dsimp only [List.getElem?_cons_zero]
        rw [bind_ok, hm]
        dsimp only
        rw [evs_1, tw _ rfl, bind_ok, evs_0, bind_ok, bind_ok]
        exact nw
      rw [ev_14, show ev (P.cfg (n + 3)) (.cmp .Eq (.var 1) (.con (D.str [109, 111, 115, 116]))) [some (.ref o), some (.str W.w_most.s), none] S = .ok (.bl true) S by simp [W.s]]
      rw [bind_ok, asB_bl, bind_ok, if_pos rfl, ev_4, evs_1, e1, bind_ok, evs_0, bind_ok, bind_ok]
      rfl)]
    rfl
  all_goals exact absurd rfl hp
end Q
/-! T11: the reader: parts. -/
namespace Q
open Mw
variable {P : Pg}
abbrev bO : Sms := G25.b_Reader_d_one_part
/-- how many parts follow a word -/
def cntW (w : W) : Int := match w with
  | .w_call => -1 | .w_is => 0 | .w_at => 0 | .w_most => 1 | .w_set => 1 | .w_try => 1
  | w => (w.ni : Int)
def cntF : List (DK × D) := dMerge (dMerge (dMerge [(.inr [99, 97, 108, 108], .int (-1)), (.inr [105, 115], .int 0), (.inr [97, 116], .int 0), (.inr [109, 111, 115, 116], .int 1), (.inr [105, 102], .int 3)] (cd (.int 0) [.str W.w_none.s, .str W.w_pos.s]))
  (cd (.int 1) ([W.w_not, .w_again, .w_say, .w_long, .w_tab, .w_find, .w_many, .w_match, .w_set, .w_try].map fun w => .str w.s)))
  (cd (.int 2) ([W.w_to, .w_or, .w_and, .w_plus, .w_less, .w_times, .w_join, .w_below, .w_same, .w_unlike, .w_every, .w_then, .w_while, .w_scan].map fun w => .str w.s))
theorem cnt_ok : ∀ w : W, dGet cntF (.inr w.s) = some (.int (cntW w)) := by
  intro w
  cases w <;> rfl
theorem dc_str3 {g : Cfg} {S : Store} {a b c e f : Option D} {v : D} {X : Xp} {ds : List D} (hX : ev g X [a, b, c, none, e, f] S = .ok (.tup ds) S) (hl : ds.length ≤ 1000) (h : ∀ d ∈ ds, ∃ s, d = .str s) {V : Int} (hv : v = .int V) :
    ev g (.dc false [3] false (.seq X) (.var 3) (.con v)) [a, b, c, none, e, f] S = .ok (.dct (cd v ds)) S := by
  rw [ev_25, ev_26, hX, bind_ok, items_t, bind_ok]
  rw [dc_const v (by simp; omega) fun d hd => ?_]
  · rfl
  · obtain ⟨s, rfl⟩ := h d hd
    exact ⟨s, _, rfl, rfl, by simp [keyR], by simp⟩
theorem upd_ref {S : Store} {q : Nat} {kvs more : List (DK × D)} (h : S[q]? = some (.dct kvs)) (hl : kvs.length + more.length < 1000) : mtdR .update (.ref q) [.dct more] S = .ok .non (S.set q (.dct (dMerge kvs more))) := by
  simp [mtdR, h, hl]
theorem pre_updR {S : Store} {q : Nat} {kvs : List (DK × D)} (h : S[q]? = some (.dct kvs)) : mtdPre .update (.ref q) S = true := by simp [mtdPre, dctOf, h]
theorem upd_step {g : Cfg} {S : Store} {q : Nat} {kvs more : List (DK × D)} {e : Xp} {ss : Sms} {l : LEnv} (hl : l[2]? = some (some (.ref q))) (h : S[q]? = some (.dct kvs)) (hn : kvs.length + more.length < 1000) (he : ev g e l S = .ok (.dct more) S) :
    exs g (.cons (.exp (.mtd .update (.var 2) (.cons e .nil))) ss) l S = exs g ss l (S.set q (.dct (dMerge kvs more))) := by
  refine exs_exp .non ?_
  rw [ev_20, ev_1, hl]
  dsimp only
  rw [bind_ok, if_pos (pre_updR h), evs_1, he, bind_ok, evs_0, bind_ok, bind_ok, upd_ref h hn]
theorem counts_ok {g : Cfg} {S : Store} {o w : D} : exs g (dropS 2 bO) [some o, some w, none, none, none, none] S = exs g (dropS 6 bO) [some o, some w, some (.ref S.length), none, none, none] (S ++ [.dct cntF]) := by
  unfold bO G25.b_Reader_d_one_part
  simp only [dropS]
  rw [exs_asg (S1 := S ++ [.dct (dMerge [] [(.inr [99, 97, 108, 108], .int (-1)), (.inr [105, 115], .int 0), (.inr [97, 116], .int 0), (.inr [109, 111, 115, 116], .int 1), (.inr [105, 102], .int 3)])]) (d := .ref S.length) (by simp)]
  simp only [List.set_cons_succ, List.set_cons_zero]
  rw [upd_step rfl (by simp; rfl) (by decide) (dc_str3 (V := 0) (ds := [.str W.w_none.s, .str W.w_pos.s]) (by simp [W.s]) (by decide) (by simp) rfl)]
  rw [set_last]
  rw [upd_step rfl (by simp; rfl) (by decide) (dc_str3 (V := 1) (ds := [W.w_not, .w_again, .w_say, .w_long, .w_tab, .w_find, .w_many, .w_match, .w_set, .w_try].map fun w => .str w.s) (by simp [W.s]) (by decide) (by simp) rfl)]
  rw [set_last]
  rw [upd_step rfl (by simp; rfl) (by decide) (dc_str3 (V := 2) (ds := [W.w_to, .w_or, .w_and, .w_plus, .w_less, .w_times, .w_join, .w_below, .w_same, .w_unlike, .w_every, .w_then, .w_while, .w_scan].map fun w => .str w.s) (by simp [W.s]) (by decide) (by simp) rfl)]
  rw [set_last]
  rfl
theorem drop_get {α : Type} {ws : List α} {k : Nat} {x : α} {t : List α} (h : ws.drop k = x :: t) : ws[k]? = some x ∧ ws.drop (k + 1) = t := by
  refine ⟨?_, ?_⟩
  · have := List.getElem?_drop (xs := ws) (i := k) (j := 0)
    rw [h] at this
    simpa using this.symm
  · rw [← List.drop_drop, h]; rfl
theorem drop_many {α : Type} {ws : List α} : ∀ {a : List α} {k : Nat} {t : List α}, ws.drop k = a ++ t → ws.drop (k + a.length) = t := by
  intro a k t h
  rw [← List.drop_drop, h, List.drop_left]
def POp (p : Pt) (o rw : Nat) (ws : List (List Nat)) (a : Int) (k : Nat) (S : Store) (d : D) (S' : Store) : Prop := d = p.d ∧ Rdr S' o rw ws a (k + p.toks.length) ∧ Fr [o] S S'
def oC : Xp := match dropS 9 bO with
  | .cons (.whl c _) _ => c
  | _ => .nop
def oB : Sms := match dropS 9 bO with
  | .cons (.whl _ b) _ => b
  | _ => .nil
theorem toks_head : ∀ p : Pt, ∃ t, p.toks = [40] :: t
  | .mk _ _ _ => ⟨_, rfl⟩
theorem one_loop (h : HasR P) {n : Nat} {o rw : Nat} {ws : List (List Nat)} {a : Int} {x1 x2 x3 : Option D} {pre : List D} (hpre : pre.length ≤ 10) :
    ∀ (fuel : Nat) (ps : List Pt) (m : Int) (k : Nat) (S : Store) (t : List (List Nat)) (done : List D), ps.length < fuel → done.length + ps.length ≤ 10 → Rdr S o rw ws a k → ws.drop k = Pt.tokss ps ++ [41] :: t → (m < 0 ∨ m = ps.length) →
      (∀ p ∈ ps, ∀ (k : Nat) (S : Store) (t : List (List Nat)), Rdr S o rw ws a k → ws.drop k = p.toks ++ t → (cfn P n "Reader.one_part" [.ref o] S).sat (POp p o rw ws a k S)) →
      (whlLoop (fun l1 S2 => (ev (P.cfg n) oC l1 S2).bind asB) (fun l1 S2 => exs (P.cfg n) oB l1 S2) fuel [some (.ref o), x1, x2, x3, some (.tup (pre ++ done)), some (.int m)] S).sat
        { nx := fun l S' => ∃ m', l = [some (.ref o), x1, x2, x3, some (.tup (pre ++ (done ++ Pt.ds ps))), some (.int m')] ∧ Rdr S' o rw ws a (k + (Pt.tokss ps).length) ∧ Fr [o] S S' }
  | 0, ps, m, k, S, t, done, hf, _, _, _, _, _ => by omega
  | fuel + 1, ps, m, k, S, t, done, hf, hdn, r, hw, hm, ih => by
    cases ps with
    | nil =>
      obtain ⟨g1, _⟩ := drop_get (show ws.drop k = [41] :: t from hw)
      have hk : k < ws.length := (List.getElem?_eq_some_iff.mp g1).1
      have iw := idx_words r g1
      have hc : (ev (P.cfg n) oC [some (.ref o), x1, x2, x3, some (.tup (pre ++ done)), some (.int m)] S).bind asB = .ok false S := by
        unfold oC bO G25.b_Reader_d_one_part
        simp only [dropS]
        rcases hm with hm | hm
        · have h1 : ¬ 0 < m := by omega
          simp [h1, hm, fld_at r, fld_words r, len_words r, hk, iw]
        · have h0 : m = 0 := by simpa using hm
          subst h0
          simp
      rw [whlF hc]
      exact ⟨m, by simp [Pt.ds], by simpa [Pt.tokss] using r, Fr.refl _ _⟩
    | cons p ps =>
      obtain ⟨t', ht'⟩ := toks_head p
      have hw' : ws.drop k = p.toks ++ (Pt.tokss ps ++ [41] :: t) := by rw [hw, Pt.tokss, List.append_assoc]
      obtain ⟨g1, _⟩ := drop_get (show ws.drop k = [40] :: (t' ++ (Pt.tokss ps ++ [41] :: t)) by rw [hw', ht']; rfl)
      have hk : k < ws.length := (List.getElem?_eq_some_iff.mp g1).1
      have iw := idx_words r g1
      have hc : (ev (P.cfg n) oC [some (.ref o), x1, x2, x3, some (.tup (pre ++ done)), some (.int m)] S).bind asB = .ok true S := by
        unfold oC bO G25.b_Reader_d_one_part
        simp only [dropS]
        rcases hm with hm | hm
        · have h1 : ¬ 0 < m := by omega
          simp [h1, hm, fld_at r, fld_words r, len_words r, hk, iw]
        · have h0 : 0 < m := by simp at hm; omega
          simp [h0]
      rw [whlLoop, hc, then_ok, if_pos rfl]
      have hm1 : umtQ (P.cfg n) "one_part" (.ref o) S = some "Reader.one_part" := umt_rd r h.m_one (by decide) (by decide) (by decide)
      have body : (exs (P.cfg n) oB [some (.ref o), x1, x2, x3, some (.tup (pre ++ done)), some (.int m)] S).sat { nx := fun l S' => l = [some (.ref o), x1, x2, x3, some (.tup (pre ++ (done ++ [p.d]))), some (.int (m - 1))] ∧ Rdr S' o rw ws a (k + p.toks.length) ∧ Fr [o] S S' } := by
        unfold oB bO G25.b_Reader_d_one_part
        simp only [dropS]
        refine st ?_
        simp [hm1]
        refine R.sat.mono (ih p List.mem_cons_self k S _ r hw') ?_
        rintro _ S2 ⟨rfl, r2, fr2⟩
        try simp
        refine ⟨by simp at hdn; omega, ?_⟩
        refine st ?_
        simp [augR]
        exact ⟨r2, fr2⟩
      cases hb : exs (P.cfg n) oB [some (.ref o), x1, x2, x3, some (.tup (pre ++ done)), some (.int m)] S with
      | nx l S2 =>
        rw [hb] at body
        obtain ⟨rfl, r2, fr2⟩ := body
        dsimp only
        have rc0 := one_loop h (x1 := x1) (x2 := x2) (x3 := x3) hpre fuel ps (m - 1) (k + p.toks.length) S2 t (done ++ [p.d]) (by simp at hf; omega) (by simp at hdn ⊢; omega) r2 (drop_many hw') (by
          rcases hm with hm | hm
          · exact .inl (by omega)
          · exact .inr (by simp at hm; omega)) (fun q hq => ih q (List.mem_cons_of_mem _ hq))
        refine RS.sat.mono rc0 ?_ (fun _ _ h => h.elim) (fun _ _ h => h.elim) (fun _ _ h => h.elim) (fun _ _ _ h => h.elim)
        rintro l S3 ⟨m', rfl, r3, fr3⟩
        refine ⟨m', by simp [Pt.ds], ?_, fr2.trans fr3⟩
        rw [Pt.tokss, List.length_append, ← Nat.add_assoc]
        exact r3
      | rt d S2 => rw [hb] at body; exact body.elim
      | bk l S2 => rw [hb] at body; exact body.elim
      | ct l S2 => rw [hb] at body; exact body.elim
      | exc e l S2 => rw [hb] at body; exact body.elim
      | bad => rw [hb] at body; exact body.elim
end Q
/-! T12: the reader: a part, a whole row. -/
namespace Q
open Mw
variable {P : Pg}
theorem cntW_eq {kvs : List (DK × D)} {w : W} {hd : List D} {k : Nat} (h : hdOk kvs w hd k) : cntW w < 0 ∨ cntW w = k := by
  cases w <;> unfold hdOk at h <;> dsimp only at h <;> first
    | (left; decide)
    | (right; obtain ⟨rfl, _⟩ := h; rfl)
    | (right; obtain ⟨_, rfl⟩ := h; rfl)
theorem eq_take (h : HasR P) (n : Nat) {S : Store} {o rw : Nat} {ws : List (List Nat)} {a : Int} {k : Nat} {w z : List Nat} {l : LEnv} {X : Xp} (r : Rdr S o rw ws a k) (hw : ws[k]? = some w) (hl : l[0]? = some (some (.ref o))) (hX : ∀ S, ev (P.cfg (n + 1)) X l S = .ok (.str z) S) :
    ev (P.cfg (n + 1)) (.cmp .Eq (.umt "take" (.var 0) .nil) X) l S = .ok (.bl (decide (w = z))) (S.set o (rdO rw ((k + 1 : Nat) : Int) a)) := by
  rw [ev_9, take_ev h n r hw hl, bind_ok, hX, bind_ok]
  simp
theorem one_ok (h : HasR P) (hf : HasF P) (hfu : 1000 ≤ P.fuel) (kvs : List (DK × D)) (hk : ∀ s (c : Nat), dGet kvs (.inr s) = some (.int c) → c ≤ 3) {o rw : Nat} {ws : List (List Nat)} {a : Int} : ∀ (m n : Nat) (S : Store) (p : Pt) (k : Nat) (t : List (List Nat)), p.ok kvs → p.depth ≤ m →
    Rdr S o rw ws a k → ws.drop k = p.toks ++ t → (cfn P (n + m + 5) "Reader.one_part" [.ref o] S).sat (POp p o rw ws a k S)
  | 0, n, S, .mk w hd ps, k, t, _, dp, _, _ => by simp [Pt.depth] at dp
  | m + 1, n, S, .mk w hd ps, k, t, ok, dp, r, hw => by
    simp only [Pt.depth] at dp
    have l3 := hd_len hk ok.1
    have l1 := (hd_flat ok.1).1
    have ih : ∀ p ∈ ps, ∀ (k : Nat) (S : Store) (t : List (List Nat)), Rdr S o rw ws a k → ws.drop k = p.toks ++ t → (cfn P (n + m + 5) "Reader.one_part" [.ref o] S).sat (POp p o rw ws a k S) := fun p hp k S t r hw => one_ok h hf hfu kvs hk m n S p k t (oks_mem ok.2 p hp) (depths_mem (by omega) p hp) r hw
    rw [show n + (m + 1) + 5 = (n + m + 5) + 1 by omega, cfn_succ, h.one]
    have hrun : Mw.run (P.cfg (n + m + 5)) G25.f_Reader_d_one_part [.ref o] S = (exs (P.cfg (n + m + 5)) bO [some (.ref o), none, none, none, none, none] S).out := rfl
    show (Mw.run (P.cfg (n + m + 5)) G25.f_Reader_d_one_part _ S).sat _
    rw [hrun, sat_out]
    have hw0 : ws.drop k = [40] :: w.s :: (hd.map (hdT w) ++ (Pt.tokss ps ++ [41] :: t)) := by rw [hw, Pt.toks]; simp
    obtain ⟨g0, hw1⟩ := drop_get hw0
    obtain ⟨g1, hw2⟩ := drop_get hw1
    have hw3 : ws.drop (k + 1 + 1 + hd.length) = Pt.tokss ps ++ [41] :: t := by
      have := drop_many hw2
      rwa [List.length_map] at this
    have r1 := r.at (k + 1)
    have fr1 : Fr [o] S (S.set o (rdO rw ((k + 1 : Nat) : Int) a)) := fr_set1
    have e1 : bO = .cons (.exp (.umt "must" (.var 0) (.cons (.cmp .Eq (.umt "take" (.var 0) .nil) (.glb "OPEN" G25.g_OPEN)) .nil))) (.cons (.asg 1 (.umt "take" (.var 0) .nil)) (dropS 2 bO)) := rfl
    rw [e1, must_ev h (n + m + 4) r rfl (by rw [eq_take h (n + m + 4) r g0 rfl (z := [40]) (fun S => by simp)]; rfl)]
    generalize S.set o (rdO rw ((k + 1 : Nat) : Int) a) = S1 at r1 fr1 ⊢
    have r2 := r1.at (k + 1 + 1)
    have fr2 : Fr [o] S1 (S1.set o (rdO rw ((k + 1 + 1 : Nat) : Int) a)) := fr_set1
    rw [exs_asg (take_ev h (n + m + 4) r1 g1 rfl)]
    simp only [List.set_cons_succ, List.set_cons_zero]
    generalize S1.set o (rdO rw ((k + 1 + 1 : Nat) : Int) a) = S2 at r2 fr2 ⊢
    rw [counts_ok]
    have r3 := r2.mono (Fr.more [] S2 [.dct cntF])
    have fr3 : Fr [o] S2 (S2 ++ [.dct cntF]) := Fr.more _ _ _
    have hq : (S2 ++ [MO.dct cntF])[S2.length]? = some (.dct cntF) := get_last
    have hoq : S2.length ≠ o := by
      have := (List.getElem?_eq_some_iff.mp r2.o).1
      omega
    generalize hqq : S2.length = q at hq hoq ⊢
    generalize S2 ++ [MO.dct cntF] = S3 at r3 fr3 hq ⊢
    have cw := cnt_ok w
    have e2 : dropS 6 bO = .cons (.exp (.umt "must" (.var 0) (.cons (.cmp .In (.var 1) (.var 2)) .nil))) (.cons (.asg 4 (.bin false .Add (.tup (.cons (.var 1) .nil)) (.umt "heads" (.var 0) (.cons (.var 1) .nil)))) (.cons (.asg 5 (.idx (.var 2) (.var 1))) (.cons (.whl oC oB) (dropS 10 bO)))) := rfl
    rw [e2, must_ev h (n + m + 4) r3 rfl (S1 := S3) (by
      have : inR S3 (.str w.s) (.ref q) = some true := by
        unfold inR
        simp [dctOf, hq, cw]
      simp [this])]
    have hh : ∀ d ∈ hd, ws[k + 1 + 1]? = some (hdT w d) := by
      intro d hd'
      match hd, l1, hd' with
      | [d'], _, hd' =>
        have : d = d' := by simpa using hd'
        subst this
        exact (drop_get hw2).1
    obtain ⟨S4, h4, r4, fr4⟩ := heads_w h hf (n + m + 1) ok.1 r3 hh
    have hm4 : umtQ (P.cfg (n + m + 5)) "heads" (.ref o) S3 = some "Reader.heads" := umt_rd r3 h.m_heads (by decide) (by decide) (by decide)
    rw [exs_asg (S1 := S4) (d := .tup (.str w.s :: hd)) (by
      have e4 : ev (P.cfg (n + m + 5)) (.umt "heads" (.var 0) (.cons (.var 1) .nil)) [some (.ref o), some (.str w.s), some (.ref q), none, none, none] S3 = .ok (.tup hd) S4 := by
        rw [ev_21, ev_1]
        dsimp only [List.getElem?_cons_zero]
        rw [bind_ok, hm4]
        dsimp only
        rw [evs_1, ev_1]
        dsimp only [List.getElem?_cons_succ, List.getElem?_cons_zero]
        rw [bind_ok, evs_0, bind_ok, bind_ok]
        exact h4
      rw [ev_7, ev_4, evs_1, ev_1]
      dsimp only [List.getElem?_cons_succ, List.getElem?_cons_zero]
      rw [bind_ok, evs_0, bind_ok, bind_ok, if_pos (sizeOk_of (by simp)), bind_ok, e4, bind_ok, add_t, if_pos (sizeOk_of (by simp; omega))]
      rfl)]
    have hq4 : S4[q]? = some (.dct cntF) := fr4.get hq (by simp; exact hoq)
    rw [asg0 (.int (cntW w)) (by
      have : idxR (.ref q) (.str w.s) S4 = .ok (.int (cntW w)) S4 := by
        unfold idxR
        simp [dctOf, hq4, cw]
      simp [this])]
    simp only [List.set_cons_succ, List.set_cons_zero]
    refine st ?_
    rw [ex_11]
    have lp := one_loop h (n := n + m + 5) (x1 := some (.str w.s)) (x2 := some (.ref q)) (x3 := none) (pre := .str w.s :: hd) (by simp; omega) P.fuel ps (cntW w) (k + 1 + 1 + hd.length) S4 t [] (by omega) (by simp; omega) r4 hw3 (cntW_eq ok.1) ih
    rw [List.append_nil] at lp
    refine RS.sat.mono lp ?_ (fun _ _ h => h.elim) (fun _ _ h => h.elim) (fun _ _ h => h.elim) (fun _ _ _ h => h.elim)
    rintro l S5 ⟨m', rfl, r5, fr5⟩
    obtain ⟨g5, _⟩ := drop_get (drop_many hw3)
    have e3 : dropS 10 bO = .cons (.exp (.umt "must" (.var 0) (.cons (.cmp .Eq (.umt "take" (.var 0) .nil) (.glb "SHUT" G25.g_SHUT)) .nil))) (.cons (.ret (.var 4)) .nil) := rfl
    dsimp only
    rw [e3, must_ev h (n + m + 4) r5 rfl (by rw [eq_take h (n + m + 4) r5 g5 rfl (z := [41]) (fun S => by simp)]; rfl)]
    rw [ret0 (Pt.mk w hd ps).d (by simp; rfl), sat_rt]
    refine ⟨rfl, ?_, ?_⟩
    · have e : (Pt.mk w hd ps).toks.length = 1 + 1 + hd.length + (Pt.tokss ps).length + 1 := by rw [Pt.toks]; simp; omega
      have e' : k + (Pt.mk w hd ps).toks.length = k + 1 + 1 + hd.length + (Pt.tokss ps).length + 1 := by omega
      rw [e']
      exact r5.at _
    · exact ((((fr1.trans fr2).trans fr3).trans fr4).trans fr5).trans fr_set1
theorem whole_ok (h : HasR P) (hf : HasF P) (hfu : 1000 ≤ P.fuel) (kvs : List (DK × D)) (hk : ∀ s (c : Nat), dGet kvs (.inr s) = some (.int c) → c ≤ 3) {o rw : Nat} {ws : List (List Nat)} {a : Int} (m n : Nat) (S : Store) (p : Pt) (k : Nat) (ok : p.ok kvs) (dp : p.depth ≤ m)
    (r : Rdr S o rw ws a k) (hw : ws.drop k = p.toks) : (cfn P (n + m + 6) "Reader.whole" [.ref o] S).sat fun d S' => d = p.d ∧ Fr [o] S S' := by
  rw [cfn_succ, h.whole]
  have hrun : Mw.run (P.cfg (n + m + 5)) G25.f_Reader_d_whole [.ref o] S = (exs (P.cfg (n + m + 5)) G25.b_Reader_d_whole [some (.ref o), none] S).out := rfl
  show (Mw.run (P.cfg (n + m + 5)) G25.f_Reader_d_whole _ S).sat _
  rw [hrun, sat_out]
  have hm : umtQ (P.cfg (n + m + 5)) "one_part" (.ref o) S = some "Reader.one_part" := umt_rd r h.m_one (by decide) (by decide) (by decide)
  unfold G25.b_Reader_d_whole
  refine st ?_
  simp [hm]
  refine R.sat.mono (one_ok h hf hfu kvs hk m n S p k [] ok dp r (by rw [hw]; simp)) ?_
  rintro _ S2 ⟨rfl, r2, fr2⟩
  have hl : ws.length = k + p.toks.length := by
    have := congrArg List.length hw
    rw [List.length_drop] at this
    obtain ⟨t, ht⟩ := toks_head p
    rw [ht] at this ⊢
    simp at this ⊢
    omega
  rw [ifF0 (by simp [fld_at r2, fld_words r2, len_words r2]; omega), ret0 p.d (by simp)]
  exact ⟨rfl, fr2⟩
end Q
/-! T13: rows split; deeds' rows read. -/
namespace Q
open Mw
variable {P : Pg}
theorem join_uniq {c : Nat} : ∀ {ps qs : List (List Nat)}, ps ≠ [] → qs ≠ [] → (∀ p ∈ ps, c ∉ p) → (∀ q ∈ qs, c ∉ q) → joinL [c] ps = joinL [c] qs → ps = qs
  | [], _, h, _, _, _, _ => absurd rfl h
  | _, [], _, h, _, _, _ => absurd rfl h
  | [p], [q], _, _, _, _, e => by simpa [joinL] using e
  | [p], q :: q' :: qs, _, _, hp, _, e => by
    have : c ∈ p := by
      have e' : p = q ++ ([c] ++ joinL [c] (q' :: qs)) := e
      rw [e']; simp
    exact absurd this (hp p (by simp))
  | p :: p' :: ps, [q], _, _, _, hq, e => by
    have : c ∈ q := by
      have e' : p ++ ([c] ++ joinL [c] (p' :: ps)) = q := e
      rw [← e']; simp
    exact absurd this (hq q (by simp))
  | p :: p' :: ps, q :: q' :: qs, _, _, hp, hq, e => by
    have e' : p ++ c :: joinL [c] (p' :: ps) = q ++ c :: joinL [c] (q' :: qs) := by simpa [joinL] using e
    have tw : ∀ (x r : List Nat), c ∉ x → (x ++ c :: r).takeWhile (fun z => !(z == c)) = x ∧ (x ++ c :: r).dropWhile (fun z => !(z == c)) = c :: r := by
      intro x r
      induction x with
      | nil => intro _; simp
      | cons a x ih =>
        intro h
        have ha : ¬ a = c := fun e => h (by simp [e])
        obtain ⟨i1, i2⟩ := ih fun z => h (List.mem_cons_of_mem _ z)
        have hb : (!(a == c)) = true := by simp [ha]
        refine ⟨?_, ?_⟩
        · rw [List.cons_append, List.takeWhile_cons, if_pos hb, i1]
        · rw [List.cons_append, List.dropWhile_cons, if_pos hb, i2]
    obtain ⟨a1, a2⟩ := tw p (joinL [c] (p' :: ps)) (hp p (by simp))
    obtain ⟨b1, b2⟩ := tw q (joinL [c] (q' :: qs)) (hq q (by simp))
    rw [e', b1] at a1
    rw [e', b2] at a2
    have hr : joinL [c] (p' :: ps) = joinL [c] (q' :: qs) := (List.cons.inj a2).2.symm
    rw [← a1, join_uniq (by simp) (by simp) (fun z hz => hp z (List.mem_cons_of_mem _ hz)) (fun z hz => hq z (List.mem_cons_of_mem _ hz)) hr]
theorem split_rows {rows : List (List Nat)} (h0 : rows ≠ []) (hne : joinL [10] rows ≠ []) (hf : ∀ p ∈ rows, 10 ∉ p) : (PySem.Txt.split ⟨(joinL [10] rows).toArray⟩ ⟨[10].toArray⟩).map (fun z => z.cps.toList) = rows := by
  have e1 := PySem.StrLaws.join_split ⟨(joinL [10] rows).toArray⟩ ⟨[10].toArray⟩
  have e2 := PySem.StrLaws.split_free ⟨(joinL [10] rows).toArray⟩ 10
  have e2' : ∀ p ∈ PySem.Txt.split ⟨(joinL [10] rows).toArray⟩ ⟨[10].toArray⟩, 10 ∉ p.cps.toList := e2
  generalize PySem.Txt.split ⟨(joinL [10] rows).toArray⟩ ⟨[10].toArray⟩ = zs at e1 e2'
  have ez : zs = (zs.map fun z => z.cps.toList).map tx := by
    rw [List.map_map]
    conv => lhs; rw [← List.map_id zs]
    apply List.map_congr_left
    intro z _
    simp [tx]
  have e3 : tx (joinL [10] (zs.map fun z => z.cps.toList)) = tx (joinL [10] rows) := by
    rw [← join_tx0 [10], ← ez]
    exact e1
  have e4 := tx_inj e3
  refine join_uniq ?_ h0 ?_ hf e4
  · intro e
    rw [e] at e4
    exact hne e4.symm
  · intro p hp
    obtain ⟨z, hz, rfl⟩ := List.mem_map.mp hp
    exact e2' z hz
theorem take_evV (h : HasR P) (n v : Nat) {S : Store} {o rw : Nat} {ws : List (List Nat)} {a : Int} {k : Nat} {w : List Nat} {l : LEnv} (r : Rdr S o rw ws a k) (hw : ws[k]? = some w) (hl : l[v]? = some (some (.ref o))) :
    ev (P.cfg (n + 1)) (.umt "take" (.var v) .nil) l S = .ok (.str w) (S.set o (rdO rw ((k + 1 : Nat) : Int) a)) := by
  rw [ev_21, ev_1, hl]
  dsimp only
  have hm : umtQ (P.cfg (n + 1)) "take" (.ref o) S = some "Reader.take" := umt_rd r h.m_take (by decide) (by decide) (by decide)
  rw [bind_ok, hm]
  dsimp only
  rw [evs_0, bind_ok]
  exact take_w h n r hw
theorem must_evV (h : HasR P) (n v : Nat) {S S1 : Store} {o rw : Nat} {ws : List (List Nat)} {a : Int} {k : Nat} {l : LEnv} {e : Xp} {ss : Sms} (r : Rdr S o rw ws a k) (hl : l[v]? = some (some (.ref o))) (he : ev (P.cfg (n + 1)) e l S = .ok (.bl true) S1) :
    exs (P.cfg (n + 1)) (.cons (.exp (.umt "must" (.var v) (.cons e .nil))) ss) l S = exs (P.cfg (n + 1)) ss l S1 := by
  have hm : umtQ (P.cfg (n + 1)) "must" (.ref o) S = some "Reader.must" := umt_rd r h.m_must (by decide) (by decide) (by decide)
  refine exs_exp .non ?_
  rw [ev_21, ev_1, hl]
  dsimp only
  rw [bind_ok, hm]
  dsimp only
  rw [evs_1, he, bind_ok, evs_0, bind_ok, bind_ok]
  exact must_t h n S1 (.ref o)
theorem init_ok (h : HasR P) (n : Nat) (S : Store) (rw : Nat) (a : Int) : P.nw (n + 2) "Reader" [.ref rw, .int a] S = .ok (.ref S.length) (S ++ [rdO rw 0 a]) := by
  have hi : cfn P (n + 1) "Reader.__init__" [.ref S.length, .ref rw, .int a] (S ++ [.ins "Reader" []]) = .ok .non (S ++ [rdO rw 0 a]) := by
    rw [cfn_succ, h.init]
    have hrun : Mw.run (P.cfg n) G25.f_Reader_d___init__ [.ref S.length, .ref rw, .int a] (S ++ [.ins "Reader" []]) = (exs (P.cfg n) G25.b_Reader_d___init__ [some (.ref S.length), some (.ref rw), some (.int a)] (S ++ [.ins "Reader" []])).out := rfl
    show Mw.run (P.cfg n) G25.f_Reader_d___init__ _ _ = _
    rw [hrun]
    apply R.eq_of_sat
    rw [sat_out]
    unfold G25.b_Reader_d___init__
    have fs : ∀ fs f v, fs.length < 100 → fsetR (.ref S.length) f v (S ++ [.ins "Reader" fs]) = .ok () (S ++ [.ins "Reader" (fPut f v fs)]) := by
      intro fs f v hl
      simp [fsetR, hl]
    rw [exs_1, sat_seq]
    simp [fs]
    rw [exs_1, sat_seq]
    simp [fs, fPut]
    rw [exs_1, sat_seq]
    simp [fs, fPut]
    rfl
  unfold Pg.nw
  rw [h.m_init]
  dsimp only
  unfold mkR
  show (cfn P (n + 1) "Reader.__init__" _ _).bind _ = _
  rw [hi]
  rfl
end Q
/-! T14: read. -/
namespace Q
open Mw
variable {P : Pg}
def Dd.toks (y : Dd) : List (List Nat) := deedW :: y.name :: (y.cells.map (fun c => [c]) ++ y.body.toks)
abbrev bRd : Sms := G25.b_read
def rdB : Sms := match dropS 5 bRd with
  | .cons (.fr _ _ _ b) _ => b
  | _ => .nil
def clC : Xp := match dropS 6 rdB with
  | .cons (.whl c _) _ => c
  | _ => .nop
def clB : Sms := match dropS 6 rdB with
  | .cons (.whl _ b) _ => b
  | _ => .nil
/-- the cells of a deed's row -/
theorem cells_loop (h : HasR P) (hf : HasF P) {n o rw : Nat} {ws : List (List Nat)} {a : Int} {L : Option D → Option D → LEnv} (h3 : ∀ x y, (L x y)[3]? = some (some (.ref rw))) (h8 : ∀ x y, (L x y)[8]? = some (some (.ref o))) (h10 : ∀ x y, (L x y)[10]? = some x) (h11 : ∀ x y, (L x y)[11]? = some y)
    (s10 : ∀ x y z, (L x y).set 10 z = L z y) (s11 : ∀ x y z, (L x y).set 11 z = L x z) :
    ∀ (fuel : Nat) (cs : List Nat) (k : Nat) (S : Store) (t : List (List Nat)) (done : List D) (y : Option D), cs.length < fuel → done.length + cs.length ≤ 10 → (∀ c ∈ cs, 97 ≤ c ∧ c ≤ 122) → Rdr S o rw ws a k → ws.drop k = cs.map (fun c => [c]) ++ [40] :: t →
      ∃ y', whlLoop (fun l1 S2 => (ev (P.cfg (n + 2)) clC l1 S2).bind asB) (fun l1 S2 => exs (P.cfg (n + 2)) clB l1 S2) fuel (L (some (.tup done)) y) S = .nx (L (some (.tup (done ++ cs.map fun c => .str [c]))) y') (if cs = [] then S else S.set o (rdO rw ((k + cs.length : Nat) : Int) a))
  | 0, cs, k, S, t, done, y, hl, _, _, _, _ => by omega
  | fuel + 1, cs, k, S, t, done, y, hl, hd, hc, r, hw => by
    cases cs with
    | nil =>
      obtain ⟨g1, _⟩ := drop_get (show ws.drop k = [40] :: t from hw)
      have hk : k < ws.length := (List.getElem?_eq_some_iff.mp g1).1
      have iw := idx_words r g1
      have hcf : (ev (P.cfg (n + 2)) clC (L (some (.tup done)) y) S).bind asB = .ok false S := by
        unfold clC rdB bRd G25.b_read
        simp only [dropS]
        simp [h8, h3, fld_at r, len_words r, hk, iw]
      rw [whlF hcf]
      exact ⟨y, by simp⟩
    | cons c cs =>
      have hcc := hc c List.mem_cons_self
      obtain ⟨g1, g2⟩ := drop_get (show ws.drop k = [c] :: (cs.map (fun c => [c]) ++ [40] :: t) from hw)
      have hk : k < ws.length := (List.getElem?_eq_some_iff.mp g1).1
      have iw := idx_words r g1
      have h40 : ¬ c = 40 := by omega
      have hct : (ev (P.cfg (n + 2)) clC (L (some (.tup done)) y) S).bind asB = .ok true S := by
        unfold clC rdB bRd G25.b_read
        simp only [dropS]
        simp [h8, h3, fld_at r, len_words r, hk, iw, h40]
      have r2 := r.at (k + 1)
      have hb : exs (P.cfg (n + 2)) clB (L (some (.tup done)) y) S = .nx (L (some (.tup (done ++ [.str [c]]))) (some (.str [c]))) (S.set o (rdO rw ((k + 1 : Nat) : Int) a)) := by
        have e : clB = .cons (.asg 11 (.umt "take" (.var 8) .nil)) (.cons (.exp (.umt "must" (.var 8) (.cons (.call "is_cell" [] (.cons (.var 11) .nil)) .nil))) (.cons (.asg 10 (.bin false .Add (.var 10) (.tup (.cons (.var 11) .nil)))) .nil)) := rfl
        rw [e, exs_asg (take_evV h (n + 1) 8 r g1 (h8 _ _)), s11]
        generalize S.set o (rdO rw ((k + 1 : Nat) : Int) a) = S2 at r2 ⊢
        have ic := is_cell_ok hf (n + 1) S2 c hcc
        rw [must_evV h (n + 1) 8 r2 (h8 _ _) (S1 := S2) (by simp [h11, ic])]
        have hz : done.length + 1 ≤ 16777216 := by simp at hd; omega
        rw [asg0 (.tup (done ++ [.str [c]])) (by simp [h10, h11, hz]), s10, exs_0]
      rw [whlT hct hb]
      obtain ⟨y', e⟩ := cells_loop h hf h3 h8 h10 h11 s10 s11 fuel cs (k + 1) (S.set o (rdO rw ((k + 1 : Nat) : Int) a)) t (done ++ [.str [c]]) (some (.str [c])) (by simp at hl; omega) (by simp at hd ⊢; omega) (fun d hd => hc d (List.mem_cons_of_mem _ hd)) r2 g2
      refine ⟨y', ?_⟩
      rw [e]
      have e1 : done ++ [D.str [c]] ++ cs.map (fun c => D.str [c]) = done ++ (c :: cs).map (fun c => D.str [c]) := by simp
      rw [e1]
      by_cases hcs : cs = []
      · subst hcs
        rw [if_pos rfl, if_neg (by simp)]
        rfl
      · rw [if_neg hcs, if_neg (by simp), List.set_set]
        have : k + 1 + cs.length = k + (c :: cs).length := by simp; omega
        rw [this]
def rdL (t f : D) (others : D) (md : D) (rd : Nat) (a3 a5 a7 a8 a9 a10 a11 a12 : Option D) : LEnv := [some t, some f, some others, a3, some md, a5, some (.ref rd), a7, a8, a9, a10, a11, a12]
theorem deed_row (h : HasR P) (hf : HasF P) (hwo : P.fns.lookup "words_of" = some G25.f_words_of) (hfu : 1000001 < P.fuel) (kvs : List (DK × D)) (hk : ∀ s (c : Nat), dGet kvs (.inr s) = some (.int c) → c ≤ 3) (n : Nat) (y : Dd) (hy : y.ok) (hb : y.body.ok kvs) (hdp : y.body.depth ≤ 6)
    (line : List Nat) (hl : line.length ≤ 1000000) (hx : lex line = y.toks) {t f others md : D} {rd : Nat} {a3 a8 a9 a10 a11 a12 : Option D} (ah : Int) (S : Store) (acc : List D) (hr : S[rd]? = some (.lst acc)) (ha : acc.length ≤ 1000) :
    (exs (P.cfg (n + 14)) rdB (rdL t f others md rd a3 (some (.int ah)) (some (.str line)) a8 a9 a10 a11 a12) S).sat { nx := fun l S' => (∃ b3 ah' b8 b9 b10 b11, l = rdL t f others md rd b3 (some (.int ah')) (some (.str line)) b8 b9 b10 b11 a12) ∧ S'[rd]? = some (.lst (acc ++ [y.d])) ∧ Fr [rd] S S' } := by
  have wo := words_of_ok hwo hfu (n + 13) S line hl
  rw [hx] at wo
  have e : rdB = .cons (.asg 3 (.call "words_of" [] (.cons (.var 7) .nil))) (.cons (.asg 8 (.mk "Reader" (.cons (.var 3) (.cons (.var 5) .nil)))) (.cons (.exp (.umt "must" (.var 8) (.cons (.cmp .Eq (.umt "take" (.var 8) .nil) (.glb "DEED" G25.g_DEED)) .nil))) (.cons (.asg 9 (.umt "take" (.var 8) .nil))
    (.cons (.exp (.umt "must" (.var 8) (.cons (.call "is_name" [] (.cons (.var 9) .nil)) .nil))) (.cons (.asg 10 (.tup .nil)) (.cons (.whl clC clB) (.cons (.exp (.mtd .append (.var 6) (.cons (.tup (.cons (.var 9) (.cons (.var 10) (.cons (.umt "whole" (.var 8) .nil) .nil)))) .nil))) (.cons (.aug 5 .Add (.blt .len false (.cons (.var 3) .nil))) .nil)))))))) := rfl
  rw [e]
  unfold rdL
  have hlt : rd < S.length := (List.getElem?_eq_some_iff.mp hr).1
  rw [exs_asg (S1 := S ++ [.lst (y.toks.map D.str)]) (d := .ref S.length) (by simp [wo])]
  simp only [List.set_cons_succ, List.set_cons_zero]
  have io := init_ok h (n + 12) (S ++ [.lst (y.toks.map D.str)]) S.length ah
  rw [exs_asg (S1 := S ++ [.lst (y.toks.map D.str)] ++ [rdO S.length 0 ah]) (d := .ref (S ++ [MO.lst (y.toks.map D.str)]).length) (by
    rw [ev_22, evs_1, ev_1]
    dsimp only [List.getElem?_cons_succ, List.getElem?_cons_zero]
    rw [bind_ok, evs_1, ev_1]
    dsimp only [List.getElem?_cons_succ, List.getElem?_cons_zero]
    rw [bind_ok, evs_0, bind_ok, bind_ok, bind_ok]
    exact io)]
  simp only [List.set_cons_succ, List.set_cons_zero]
  have r0 : Rdr (S ++ [.lst (y.toks.map D.str)] ++ [rdO S.length 0 ah]) (S ++ [MO.lst (y.toks.map D.str)]).length S.length y.toks ah 0 := ⟨by simp, by simp⟩
  have fr0 : Fr [rd] S (S ++ [.lst (y.toks.map D.str)] ++ [rdO S.length 0 ah]) := (Fr.more _ _ _).trans (Fr.more _ _ _)
  have hr0 : (S ++ [.lst (y.toks.map D.str)] ++ [rdO S.length 0 ah])[rd]? = some (.lst acc) := by
    rw [List.append_assoc, List.getElem?_append_left hlt]; exact hr
  have ho : S.length < (S ++ [MO.lst (y.toks.map D.str)]).length := by simp
  generalize (S ++ [MO.lst (y.toks.map D.str)]).length = o at r0 ho ⊢
  generalize S ++ [.lst (y.toks.map D.str)] ++ [rdO S.length 0 ah] = S0 at r0 fr0 hr0 ⊢
  have hw0 : y.toks.drop 0 = deedW :: y.name :: (y.cells.map (fun c => [c]) ++ y.body.toks) := rfl
  obtain ⟨g0, w1⟩ := drop_get hw0
  obtain ⟨g1, w2⟩ := drop_get w1
  have step : ∀ {S S' : Store} {mo : MO}, S[rd]? = some (.lst acc) → Fr [rd] S0 S → o ≠ rd → (S.set o mo)[rd]? = some (.lst acc) := fun h1 _ h2 => by rw [List.getElem?_set_ne h2]; exact h1
  have hor : o ≠ rd := by omega
  have frs : ∀ {S1 : Store} {mo : MO}, Fr [rd] S S1 → Fr [rd] S (S1.set o mo) := fun h1 => h1.setNew (by omega) _
  -- must(take() == DEED)
  have r1 := r0.at 1
  rw [must_evV h (n + 13) 8 r0 rfl (S1 := S0.set o (rdO S.length ((1 : Nat) : Int) ah)) (by
    rw [ev_9, take_evV h (n + 13) 8 r0 g0 rfl, bind_ok, ev_3, bind_ok]
    simp [deedW])]
  have hr1 : (S0.set o (rdO S.length ((1 : Nat) : Int) ah))[rd]? = some (.lst acc) := by rw [List.getElem?_set_ne hor]; exact hr0
  have fr1 := frs (mo := rdO S.length ((1 : Nat) : Int) ah) fr0
  generalize S0.set o (rdO S.length ((1 : Nat) : Int) ah) = S1 at r1 hr1 fr1 ⊢
  rw [exs_asg (take_evV h (n + 13) 8 r1 g1 rfl)]
  simp only [List.set_cons_succ, List.set_cons_zero]
  have r2 := r1.at 2
  have hr2 : (S1.set o (rdO S.length ((2 : Nat) : Int) ah))[rd]? = some (.lst acc) := by rw [List.getElem?_set_ne hor]; exact hr1
  have fr2 := frs (mo := rdO S.length ((2 : Nat) : Int) ah) fr1
  have e2 : ((1 + 1 : Nat) : Int) = ((2 : Nat) : Int) := rfl
  rw [e2]
  generalize S1.set o (rdO S.length ((2 : Nat) : Int) ah) = S2 at r2 hr2 fr2 ⊢
  have nm := is_name_ok hf (n + 13) S2 y.name hy.1.1 hy.1.2
  rw [must_evV h (n + 13) 8 r2 rfl (S1 := S2) (by simp [nm])]
  rw [asg0 (.tup []) (by simp)]
  simp only [List.set_cons_succ, List.set_cons_zero]
  obtain ⟨tt, htt⟩ := toks_head y.body
  have w2' : y.toks.drop 2 = y.cells.map (fun c => [c]) ++ [40] :: tt := by rw [← htt]; exact w2
  obtain ⟨b11, lp⟩ := cells_loop h hf (n := n + 12) (o := o) (rw := S.length) (ws := y.toks) (a := ah) (L := fun x10 x11 => [some t, some f, some others, some (.ref S.length), some md, some (.int ah), some (.ref rd), some (.str line), some (.ref o), some (.str y.name), x10, x11, a12])
    (fun _ _ => rfl) (fun _ _ => rfl) (fun _ _ => rfl) (fun _ _ => rfl) (fun _ _ _ => rfl) (fun _ _ _ => rfl) P.fuel y.cells 2 S2 tt [] a11 (by have := hy.2.1; omega) (by have := hy.2.1; simp; omega) hy.2.2.2 r2 w2'
  rw [whl0 lp]
  have r3 : Rdr (if y.cells = [] then S2 else S2.set o (rdO S.length ((2 + y.cells.length : Nat) : Int) ah)) o S.length y.toks ah (2 + y.cells.length) := by
    by_cases hc : y.cells = []
    · rw [if_pos hc, hc]; exact r2
    · rw [if_neg hc]; exact r2.at _
  have hr3 : (if y.cells = [] then S2 else S2.set o (rdO S.length ((2 + y.cells.length : Nat) : Int) ah))[rd]? = some (.lst acc) := by
    by_cases hc : y.cells = []
    · rw [if_pos hc]; exact hr2
    · rw [if_neg hc, List.getElem?_set_ne hor]; exact hr2
  have fr3 : Fr [rd] S (if y.cells = [] then S2 else S2.set o (rdO S.length ((2 + y.cells.length : Nat) : Int) ah)) := by
    by_cases hc : y.cells = []
    · rw [if_pos hc]; exact fr2
    · rw [if_neg hc]; exact frs fr2
  generalize (if y.cells = [] then S2 else S2.set o (rdO S.length ((2 + y.cells.length : Nat) : Int) ah)) = S3 at r3 hr3 fr3 ⊢
  rw [List.nil_append]
  have hw3 : y.toks.drop (2 + y.cells.length) = y.body.toks := by
    have := drop_many (show y.toks.drop 2 = y.cells.map (fun c => [c]) ++ y.body.toks from w2)
    rwa [List.length_map] at this
  have wh := whole_ok h hf (by omega) kvs hk 6 (n + 2) S3 y.body (2 + y.cells.length) hb hdp r3 hw3
  have hm3 : umtQ (P.cfg (n + 14)) "whole" (.ref o) S3 = some "Reader.whole" := umt_rd r3 h.m_whole (by decide) (by decide) (by decide)
  refine st ?_
  rw [ex_7, sat_then, ev_20, sat_bind, ev_1]
  dsimp only [List.getElem?_cons_succ, List.getElem?_cons_zero]
  rw [sat_ok, if_pos (pre_app hr3)]
  simp [hm3]
  refine R.sat.mono wh ?_
  rintro _ S4 ⟨rfl, fr4⟩
  have hr4 : S4[rd]? = some (.lst acc) := fr4.get hr3 (by simp; exact Ne.symm hor)
  have fr4' : Fr [rd] S S4 := fr3.tr fr4 (by intro m hm; simp at hm; subst hm; right; omega)
  have w4 := (r3.w)
  have wrd : S4[S.length]? = some (.lst (y.toks.map D.str)) := fr4.get w4 (by simp; exact Ne.symm r3.ne)
  try simp
  rw [app_ref hr4 (by omega)]
  simp
  have wrd5 : (S4.set rd (.lst (acc ++ [.tup [.str y.name, .tup (y.cells.map fun c => .str [c]), y.body.d]])))[S.length]? = some (.lst (y.toks.map D.str)) := by rw [List.getElem?_set_ne (by omega)]; exact wrd
  have hr5 : (S4.set rd (.lst (acc ++ [.tup [.str y.name, .tup (y.cells.map fun c => .str [c]), y.body.d]])))[rd]? = some (.lst (acc ++ [y.d])) := by rw [set_same hr4]; rfl
  have fr5 : Fr [rd] S (S4.set rd (.lst (acc ++ [.tup [.str y.name, .tup (y.cells.map fun c => .str [c]), y.body.d]]))) := fr4'.trans fr_set1
  generalize S4.set rd (.lst (acc ++ [.tup [.str y.name, .tup (y.cells.map fun c => .str [c]), y.body.d]])) = S5 at wrd5 hr5 fr5 ⊢
  have el : ∀ l : LEnv, l[3]? = some (some (.ref S.length)) → ev (P.cfg (n + 14)) (.blt .len false (.cons (.var 3) .nil)) l S5 = .ok (.int y.toks.length) S5 := fun l hl => by
    rw [ev_18, evs_1, ev_1, hl]
    simp [bltR, seqOf, wrd5]
  rw [exs_1, ex_5]
  dsimp only [List.getElem?_cons_succ, List.getElem?_cons_zero]
  rw [el _ rfl, then_ok]
  dsimp only [augR]
  rw [seq_nx, exs_0, sat_nx]
  exact ⟨⟨_, _, _, _, _, _, rfl⟩, hr5, fr5⟩
end Q
/-! T15: read, whole. -/
namespace Q
open Mw
variable {P : Pg}
structure HasRd (P : Pg) : Prop where
  r : HasR P
  n : HasN P
  wo : P.fns.lookup "words_of" = some G25.f_words_of
  read : P.fns.lookup "read" = some G25.f_read
  fuel : 1000001 < P.fuel
theorem row_le {rows : List (List Nat)} : ∀ r ∈ rows, r.length ≤ (joinL [10] rows).length := by
  induction rows with
  | nil => intro r h; cases h
  | cons x rows ih =>
    intro r hr
    cases rows with
    | nil =>
      have : r = x := by simpa using hr
      subst this
      simp [joinL]
    | cons y rows =>
      rw [joinL]
      simp only [List.length_append]
      rcases List.mem_cons.mp hr with rfl | hr
      · omega
      · have := ih r hr; omega
theorem read_ok (h : HasRd P) (n : Nat) (S : Store) (x : Pr) (ok : x.ok) (r0 : List Nat) (rs : List (List Nat)) (hx0 : lex r0 = x.main.toks) (hrs : rs.length = x.deeds.length) (hx : ∀ (i : Nat) r y, rs[i]? = some r → x.deeds[i]? = some y → lex r = y.toks)
    (hfree : ∀ p ∈ r0 :: rs, 10 ∉ p) (hlen : (joinL [10] (r0 :: rs)).length ≤ 1000000) : (cfn P (n + 15) "read" [.str (joinL [10] (r0 :: rs))] S).sat fun d S' => d = x.d ∧ Fr [] S S' := by
  rw [cfn_succ, h.read]
  have kv := kv3 (ds := x.deeds) fun y hy => by have := (ok.deed y hy).1.2.1; omega
  have few := ok.few
  have hl0 := row_le (rows := r0 :: rs) r0 (by simp)
  have hne : joinL [10] (r0 :: rs) ≠ [] := by
    intro e
    rw [e] at hl0
    have : r0 = [] := List.length_eq_zero_iff.mp (by simpa using hl0)
    subst this
    obtain ⟨t, ht⟩ := toks_head x.main
    rw [ht] at hx0
    cases hx0
  have sp := split_rows (rows := r0 :: rs) (by simp) hne hfree
  generalize htx : joinL [10] (r0 :: rs) = tx at *
  have hrun : Mw.run (P.cfg (n + 14)) G25.f_read [.str tx] S = (exs (P.cfg (n + 14)) bRd [some (.str tx), none, none, none, none, none, none, none, none, none, none, none, none] S).out := rfl
  show (Mw.run (P.cfg (n + 14)) G25.f_read _ S).sat _
  rw [hrun, sat_out]
  have e : bRd = .cons (.star 1 2 (.mtd .split (.var 0) (.cons (.con (D.str [10])) .nil))) (.cons (.asg 3 (.call "words_of" [] (.cons (.var 1) .nil))) (.cons (.asg 4 (.umt "whole" (.mk "Reader" (.cons (.var 3) (.cons (.con (D.int 0)) .nil))) .nil)) (.cons (.asg 5 (.blt .len false (.cons (.var 3) .nil))) (.cons (.asg 6 (.lst true .nil))
    (.cons (.fr [7] false (.seq (.var 2)) rdB) (.cons (.asg 12 (.tup (.cons (.var 4) (.cons (.blt .tuple false (.cons (.var 6) .nil)) .nil)))) (.cons (.exp (.call "need_program" [] (.cons (.var 12) .nil))) (.cons (.ret (.var 12)) .nil)))))))) := rfl
  rw [e]
  -- the rows
  have es : mtdR .split (.str tx) [.str [10]] S = .ok (.lst (D.str r0 :: rs.map D.str)) S := by
    have e1 : ((PySem.Txt.split ⟨tx.toArray⟩ ⟨[10].toArray⟩).map fun z => D.str z.cps.toList) = D.str r0 :: rs.map D.str := by
      have : ((PySem.Txt.split ⟨tx.toArray⟩ ⟨[10].toArray⟩).map fun z => D.str z.cps.toList) = ((PySem.Txt.split ⟨tx.toArray⟩ ⟨[10].toArray⟩).map fun z => z.cps.toList).map D.str := by rw [List.map_map]; rfl
      rw [this, sp]; rfl
    show (if decide (([10] : List Nat) ≠ [] ∧ tx.length ≤ 1000000) then _ else _) = _
    rw [if_pos (decide_eq_true ⟨by simp, hlen⟩), e1]
  have ev0 : ev (P.cfg (n + 14)) (.mtd .split (.var 0) (.cons (.con (D.str [10])) .nil)) [some (.str tx), none, none, none, none, none, none, none, none, none, none, none, none] S = .ok (.lst (D.str r0 :: rs.map D.str)) S := by
    rw [ev_20, ev_1]
    dsimp only [List.getElem?_cons_zero]
    rw [bind_ok, if_pos (show mtdPre .split (.str tx) S = true from rfl), evs_1, ev_2, bind_ok, evs_0, bind_ok, bind_ok, es]
  rw [exs_1, ex_2, ev0, then_ok]
  dsimp only
  rw [if_pos (decide_eq_true (by simp; omega)), seq_nx]
  simp only [List.set_cons_succ, List.set_cons_zero]
  have wo := words_of_ok h.wo h.fuel (n + 13) S r0 (by omega)
  rw [hx0] at wo
  rw [exs_asg (S1 := S ++ [.lst (x.main.toks.map D.str)]) (d := .ref S.length) (by simp [wo])]
  simp only [List.set_cons_succ, List.set_cons_zero]
  have io := init_ok h.r (n + 12) (S ++ [.lst (x.main.toks.map D.str)]) S.length 0
  have ri : Rdr (S ++ [.lst (x.main.toks.map D.str)] ++ [rdO S.length 0 0]) (S ++ [MO.lst (x.main.toks.map D.str)]).length S.length x.main.toks 0 0 := ⟨by simp, by simp⟩
  have ho : S.length < (S ++ [MO.lst (x.main.toks.map D.str)]).length := by simp
  have fri : Fr [] S (S ++ [.lst (x.main.toks.map D.str)] ++ [rdO S.length 0 0]) := (Fr.more _ _ _).trans (Fr.more _ _ _)
  refine st ?_
  rw [ex_0, sat_then, ev_21, sat_bind, ev_22, evs_1, ev_1]
  dsimp only [List.getElem?_cons_succ, List.getElem?_cons_zero]
  rw [bind_ok, evs_1, ev_2, bind_ok, evs_0, bind_ok, bind_ok, bind_ok]
  have io' : (P.cfg (n + 14)).nw "Reader" [.ref S.length, .int 0] (S ++ [.lst (x.main.toks.map D.str)]) = .ok (.ref (S ++ [MO.lst (x.main.toks.map D.str)]).length) (S ++ [.lst (x.main.toks.map D.str)] ++ [rdO S.length 0 0]) := io
  rw [io', sat_ok]
  generalize (S ++ [MO.lst (x.main.toks.map D.str)]).length = o at ri ho ⊢
  generalize S ++ [.lst (x.main.toks.map D.str)] ++ [rdO S.length 0 0] = S0 at ri fri ⊢
  have hm : umtQ (P.cfg (n + 14)) "whole" (.ref o) S0 = some "Reader.whole" := umt_rd ri h.r.m_whole (by decide) (by decide) (by decide)
  rw [hm]
  dsimp only
  rw [evs_0, bind_ok]
  refine R.sat.mono (whole_ok h.r h.n.toHasF (by have := h.fuel; omega) (kvsOf x.deeds) kv 6 (n + 2) S0 x.main 0 ok.main.1 ok.main.2.1 ri rfl) ?_
  rintro _ S1 ⟨rfl, fr1⟩
  have fr1' : Fr [] S S1 := fri.tr fr1 (by intro m hm; simp at hm; subst hm; right; omega)
  have wrd : S1[S.length]? = some (.lst (x.main.toks.map D.str)) := fr1.get ri.w (by simp; exact Ne.symm ri.ne)
  simp only [List.set_cons_succ, List.set_cons_zero]
  rw [sat_nx]
  dsimp only
  rw [asg0 (.int x.main.toks.length) (by simp [bltR, seqOf, wrd])]
  rw [exs_asg (S1 := S1 ++ [.lst []]) (d := .ref S1.length) (by simp)]
  simp only [List.set_cons_succ, List.set_cons_zero]
  refine st ?_
  rw [ex_10, ev_26, ev_1]
  dsimp only [List.getElem?_cons_succ, List.getElem?_cons_zero]
  rw [bind_ok, items_l, sat_then, sat_ok]
  have hS1 : S.length ≤ S1.length := fr1'.1
  refine for_sat0 (fun i l S' => (∃ a3 ah a7 a8 a9 a10 a11, l = rdL (.str tx) (.str r0) (.lst (rs.map D.str)) x.main.d S1.length a3 (some (.int ah)) a7 a8 a9 a10 a11 none) ∧ S'[S1.length]? = some (.lst ((x.deeds.take i).map Dd.d)) ∧ Fr [] S S') ?_ ?_ ?_
  · exact ⟨⟨_, _, _, _, _, _, _, rfl⟩, by simp, fr1'.trans (Fr.more _ _ _)⟩
  · rintro i d l S2 hd' ⟨⟨a3, ah, a7, a8, a9, a10, a11, rfl⟩, hr2, fr2⟩
    rw [List.getElem?_map] at hd'
    cases hri : rs[i]? with
    | none => rw [hri] at hd'; cases hd'
    | some r =>
      rw [hri] at hd'
      cases hd'
      have hi : i < x.deeds.length := by
        have := (List.getElem?_eq_some_iff.mp hri).1
        omega
      have hyi : x.deeds[i]? = some x.deeds[i] := List.getElem?_eq_getElem hi
      have hm := List.getElem_mem hi
      have hrl : r.length ≤ 1000000 := by
        have := row_le (rows := r0 :: rs) r (by simp [List.mem_of_getElem? hri])
        rw [htx] at this
        omega
      refine ⟨rdL (.str tx) (.str r0) (.lst (rs.map D.str)) x.main.d S1.length a3 (some (.int ah)) (some (.str r)) a8 a9 a10 a11 none, rfl, ?_⟩
      have dr := deed_row h.r h.n.toHasF h.wo h.fuel (kvsOf x.deeds) kv n x.deeds[i] (ok.deed _ hm).1 (ok.deed _ hm).2.1 (ok.deed _ hm).2.2.1 r hrl (hx i r _ hri hyi) (t := .str tx) (f := .str r0) (others := .lst (rs.map D.str)) (md := x.main.d) (rd := S1.length) (a3 := a3) (a8 := a8) (a9 := a9) (a10 := a10) (a11 := a11) (a12 := none) ah S2 _ hr2 (by simp; omega)
      refine RS.sat.mono dr ?_ (fun _ _ h => h.elim) (fun _ _ h => h.elim) (fun _ _ h => h.elim) (fun _ _ _ h => h.elim)
      rintro l S3 ⟨⟨b3, ah', b8, b9, b10, b11, rfl⟩, hr3, fr3⟩
      refine ⟨⟨_, _, _, _, _, _, _, rfl⟩, ?_, fr2.tr fr3 (by intro m hm; simp at hm; subst hm; right; omega)⟩
      have et : x.deeds.take (i + 1) = x.deeds.take i ++ [x.deeds[i]] := by rw [List.take_succ, hyi]; rfl
      rw [hr3, et, List.map_append]
      rfl
  · rintro l S2 ⟨⟨a3, ah, a7, a8, a9, a10, a11, rfl⟩, hr2, fr2⟩
    have hall : x.deeds.take (rs.map D.str).length = x.deeds := List.take_of_length_le (by simp; omega)
    rw [hall] at hr2
    dsimp only
    unfold rdL
    rw [asg0 x.d (by simp [tuple_r hr2]; rfl)]
    simp only [List.set_cons_succ, List.set_cons_zero]
    refine st ?_
    simp
    refine R.sat.mono (need_program_ok h.n (n + 2) S2 x ok) ?_
    rintro _ S3 ⟨rfl, _, fr3⟩
    rw [ret0 x.d (by simp), sat_rt]
    exact ⟨rfl, fr2.trans fr3⟩
end Q
/-! T16: texts with other blanks. -/
namespace Q
open Mw
variable {P : Pg}
def isBr (c : Nat) : Prop := c = 40 ∨ c = 41 ∨ c = 34
instance (c : Nat) : Decidable (isBr c) := by unfold isBr; infer_instance
inductive Lo : Bool → Nat → List Nat → List Nat → Prop
  | nil (b : Bool) (p : Nat) : Lo b p [] []
  | verb {b : Bool} {p c : Nat} {t L : List Nat} : ((b ^^ (c == 34)) = true ∨ (c ≠ 40 ∧ c ≠ 41 ∧ c ≠ 32)) → Lo (b ^^ (c == 34)) c t L → Lo b p (c :: t) (c :: L)
  | blank {p : Nat} {t L : List Nat} (k : Nat) : (1 ≤ k ∨ isBr p ∨ ∃ c t', t = c :: t' ∧ isBr c) → Lo false 32 t L → Lo false p (32 :: t) (List.replicate k 32 ++ L)
  | brack {p c : Nat} {t L : List Nat} (j k : Nat) : (c = 40 ∨ c = 41) → Lo false c t L → Lo false p (c :: t) (List.replicate j 32 ++ c :: (List.replicate k 32 ++ L))
theorem lex_blanks (L : List Nat) : ∀ k, lexA .out (List.replicate k 32 ++ L) = lexA .out L
  | 0 => rfl
  | k + 1 => by
    rw [List.replicate_succ, List.cons_append]
    rw [show ∀ z, lexA .out (32 :: z) = lexA .out z by intro z; simp [lexA], lex_blanks L k]
theorem lex_blanksW (w L : List Nat) : ∀ k, 1 ≤ k → lexA (.wd w) (List.replicate k 32 ++ L) = w :: lexA .out L
  | k + 1, _ => by
    rw [List.replicate_succ, List.cons_append]
    rw [show ∀ z, lexA (.wd w) (32 :: z) = w :: lexA .out z by intro z; simp [lexA], lex_blanks L k]
/-- what the flag and the sign ahead say of the words so far -/
def LInv (b : Bool) (p : Nat) : LS → Prop
  | .out => b = false
  | .wd _ => b = false ∧ ¬ isBr p ∧ p ≠ 32
  | .qu _ => b = true
theorem lo_head {p c : Nat} {t L : List Nat} (h : Lo false p (c :: t) L) (hc : isBr c) : SpH L := by
  cases h with
  | verb h1 h2 =>
    refine .inr ⟨c, _, rfl, ?_⟩
    rcases hc with rfl | rfl | rfl <;> rfl
  | blank k h1 h2 => exact absurd hc (by decide)
  | brack j k h1 h2 =>
    cases j with
    | zero =>
      refine .inr ⟨c, _, rfl, ?_⟩
      rcases h1 with rfl | rfl <;> rfl
    | succ j => exact .inr ⟨32, _, rfl, rfl⟩
theorem lex_lo {b : Bool} {p : Nat} {t L : List Nat} (h : Lo b p t L) : ∀ σ, LInv b p σ → lexA σ t = lexA σ L := by
  induction h with
  | nil b p => exact fun σ _ => rfl
  | @verb b p c t L h1 h2 ih =>
    intro σ hi
    cases σ with
    | out =>
      have hb : b = false := hi
      subst hb
      by_cases hq : c = 34
      · subst hq
        have := ih (.qu [34]) rfl
        simp [lexA, this]
      · have e : (false ^^ (c == 34)) = false := by simp [hq]
        rw [e] at h1 ih
        rcases h1 with h1 | ⟨a1, a2, a3⟩
        · cases h1
        · have := ih (.wd [c]) ⟨rfl, by unfold isBr; omega, a3⟩
          simp [lexA, a1, a2, a3, hq, this]
    | wd w =>
      obtain ⟨hb, hp, hp2⟩ := hi
      subst hb
      by_cases hq : c = 34
      · subst hq
        have := ih (.qu [34]) rfl
        simp [lexA, this]
      · have e : (false ^^ (c == 34)) = false := by simp [hq]
        rw [e] at h1 ih
        rcases h1 with h1 | ⟨a1, a2, a3⟩
        · cases h1
        · have := ih (.wd (w ++ [c])) ⟨rfl, by unfold isBr; omega, a3⟩
          simp [lexA, a1, a2, a3, hq, this]
    | qu w =>
      have hb : b = true := hi
      subst hb
      by_cases hq : c = 34
      · subst hq
        have := ih .out rfl
        simp [lexA, this]
      · have e : (true ^^ (c == 34)) = true := by simp [hq]
        rw [e] at ih
        have := ih (.qu (w ++ [c])) rfl
        simp [lexA, hq, this]
  | @blank p t L k h1 h2 ih =>
    intro σ hi
    have ih0 := ih .out rfl
    cases σ with
    | out =>
      rw [lex_blanks, ← ih0]
      simp [lexA]
    | wd w =>
      obtain ⟨_, hp, _⟩ := hi
      have e : lexA (.wd w) (32 :: t) = w :: lexA .out t := by simp [lexA]
      rw [e, ih0]
      by_cases hk : 1 ≤ k
      · rw [lex_blanksW _ _ _ hk]
      · have : k = 0 := by omega
        subst this
        rcases h1 with h1 | h1 | ⟨c, t', rfl, hc⟩
        · omega
        · exact absurd h1 hp
        · exact (lex_end (lo_head h2 hc)).symm
    | qu w => exact Bool.noConfusion (show false = true from hi)
  | @brack p c t L j k h1 h2 ih =>
    intro σ hi
    have ih0 := ih .out rfl
    have hn : c ≠ 32 := by omega
    have ec : ∀ z, lexA .out (c :: z) = [c] :: lexA .out z := by intro z; simp [lexA, hn, h1]
    cases σ with
    | out => rw [lex_blanks, ec, ec, lex_blanks, ih0]
    | wd w =>
      have ew : ∀ z, lexA (.wd w) (c :: z) = w :: [c] :: lexA .out z := by intro z; simp [lexA, hn, h1]
      rw [ew, ih0]
      cases j with
      | zero =>
        rw [List.replicate_zero, List.nil_append, ew, lex_blanks]
      | succ j => rw [lex_blanksW _ _ _ (by omega), ec, lex_blanks]
    | qu w => exact Bool.noConfusion (show false = true from hi)
def flagQ : Bool → List Nat → Bool
  | b, [] => b
  | b, c :: t => flagQ (b ^^ (c == 34)) t
theorem flag_app : ∀ (b : Bool) (x y : List Nat), flagQ b (x ++ y) = flagQ (flagQ b x) y
  | b, [], y => rfl
  | b, c :: x, y => flag_app (b ^^ (c == 34)) x y
theorem lo_free {b : Bool} {p : Nat} {t L : List Nat} (h : Lo b p t L) : 10 ∉ t → 10 ∉ L := by
  induction h with
  | nil b p => exact fun h => h
  | verb h1 h2 ih =>
    intro hn hm
    rcases List.mem_cons.mp hm with e | hm
    · exact hn (by simp [← e])
    · exact ih (fun z => hn (List.mem_cons_of_mem _ z)) hm
  | blank k h1 h2 ih =>
    intro hn hm
    rcases List.mem_append.mp hm with hm | hm
    · have := List.eq_of_mem_replicate hm; omega
    · exact ih (fun z => hn (List.mem_cons_of_mem _ z)) hm
  | brack j k h1 h2 ih =>
    intro hn hm
    rcases List.mem_append.mp hm with hm | hm
    · have := List.eq_of_mem_replicate hm; omega
    · rcases List.mem_cons.mp hm with e | hm
      · exact hn (by simp [← e])
      · rcases List.mem_append.mp hm with hm | hm
        · have := List.eq_of_mem_replicate hm; omega
        · exact ih (fun z => hn (List.mem_cons_of_mem _ z)) hm
theorem lo_cut : ∀ (r1 : List Nat) {b : Bool} {p : Nat} {r2 L : List Nat}, Lo b p (r1 ++ 10 :: r2) L → 10 ∉ r1 → flagQ b r1 = false → ∃ L1 L2, L = L1 ++ 10 :: L2 ∧ Lo b p r1 L1 ∧ 10 ∉ L1 ∧ Lo false 10 r2 L2
  | [], b, p, r2, L, h, _, hf => by
    have hb : b = false := hf
    subst hb
    cases h with
    | verb h1 h2 => exact ⟨[], _, rfl, .nil _ _, by simp, h2⟩
    | brack j k h1 h2 => omega
  | c :: r1, b, p, r2, L, h, hn, hf => by
    have hn' : 10 ∉ r1 := fun z => hn (List.mem_cons_of_mem _ z)
    cases h with
    | verb h1 h2 =>
      obtain ⟨L1, L2, rfl, k1, k2, k3⟩ := lo_cut r1 h2 hn' hf
      refine ⟨c :: L1, L2, rfl, .verb h1 k1, ?_, k3⟩
      intro hm
      rcases List.mem_cons.mp hm with e | hm
      · exact hn (by simp [← e])
      · exact k2 hm
    | blank k h1 h2 =>
      obtain ⟨L1, L2, rfl, k1, k2, k3⟩ := lo_cut r1 h2 hn' hf
      have l1 : Lo false p (32 :: r1) (List.replicate k 32 ++ L1) := by
        refine .blank k ?_ k1
        rcases h1 with h1 | h1 | ⟨d, t', e, hd⟩
        · exact .inl h1
        · exact .inr (.inl h1)
        · cases r1 with
          | nil =>
            cases e
            exact absurd hd (by decide)
          | cons d' r1 =>
            cases e
            exact .inr (.inr ⟨_, _, rfl, hd⟩)
      exact ⟨_, L2, by rw [List.append_assoc], l1, lo_free l1 hn, k3⟩
    | brack j k h1 h2 =>
      have hf' : flagQ false r1 = false := by rcases h1 with rfl | rfl <;> exact hf
      obtain ⟨L1, L2, rfl, k1, k2, k3⟩ := lo_cut r1 h2 hn' hf'
      have l1 : Lo false p (c :: r1) (List.replicate j 32 ++ c :: (List.replicate k 32 ++ L1)) := .brack j k h1 k1
      exact ⟨_, L2, by simp, l1, lo_free l1 hn, k3⟩
theorem lo_rows : ∀ (rows : List (List Nat)) {p : Nat} {L : List Nat}, rows ≠ [] → Lo false p (joinL [10] rows) L → (∀ r ∈ rows, 10 ∉ r ∧ flagQ false r = false) → ∃ rows' : List (List Nat), L = joinL [10] rows' ∧ rows'.length = rows.length ∧ (∀ r ∈ rows', 10 ∉ r) ∧ ∀ (i : Nat) r r', rows[i]? = some r → rows'[i]? = some r' → lex r' = lex r
  | [], _, _, h, _, _ => absurd rfl h
  | [r], p, L, _, h, hr => by
    have h' : Lo false p r L := h
    refine ⟨[L], rfl, rfl, fun z hz => ?_, fun i a b ha hb => ?_⟩
    · have : z = L := by simpa using hz
      subst this
      exact lo_free h' (hr r (by simp)).1
    · cases i with
      | zero =>
        cases ha; cases hb
        exact (lex_lo h' .out rfl).symm
      | succ i => simp at ha
  | r :: r2 :: rows, p, L, _, h, hr => by
    have e : joinL [10] (r :: r2 :: rows) = r ++ 10 :: joinL [10] (r2 :: rows) := by rw [joinL]; rfl
    rw [e] at h
    obtain ⟨L1, L2, rfl, k1, k2, k3⟩ := lo_cut r h (hr r (by simp)).1 (hr r (by simp)).2
    obtain ⟨rows', rfl, q1, q2, q3⟩ := lo_rows (r2 :: rows) (by simp) k3 fun z hz => hr z (List.mem_cons_of_mem _ hz)
    cases rows' with
    | nil => simp at q1
    | cons a rows' =>
      refine ⟨L1 :: a :: rows', by rw [joinL]; rfl, by simp at q1 ⊢; omega, fun z hz => ?_, fun i x y hx hy => ?_⟩
      · rcases List.mem_cons.mp hz with rfl | hz
        · exact k2
        · exact q2 z hz
      · cases i with
        | zero =>
          cases hx; cases hy
          exact (lex_lo k1 .out rfl).symm
        | succ i => exact q3 i x y (by simpa using hx) (by simpa using hy)
end Q
/-! T17: the law's loose texts. -/
namespace Q
open Mw
variable {P : Pg}
abbrev bL : Sms := G25.b__law_loose
def lsB : Sms := match bL with
  | .cons _ (.cons (.fr _ _ _ b) _) => b
  | _ => .nil
theorem mulS {k : Int} (h : 0 ≤ k ∧ k ≤ 10) {m : Bool} {S : Store} : binR m .Mult (.str [32]) (.int k) S = .ok (.str (List.replicate k.toNat 32)) S := by
  rw [mul_s, if_pos (decide_eq_true ⟨h.1, by omega, by simp⟩)]
  congr 2
  generalize k.toNat = n
  induction n with
  | zero => rfl
  | succ n ih => rw [List.replicate_succ, List.flatten_cons, ih, List.replicate_succ]; rfl
def prevC (s : List Nat) (k : Nat) : Nat := if k = 0 then 97 else (s[k - 1]?).getD 97
/-- what is beside the k-th sign -/
def besD (s : List Nat) (k : Nat) (t : List Nat) : List Nat := (if k = 0 then [] else [prevC s k]) ++ t.take 1
theorem bes_ok {s t : List Nat} {k c : Nat} (h : s.drop k = c :: t) : cut s (some ((k : Int) - 1)) (some (k : Int)) ++ cut s (some ((k : Int) + 1)) (some ((k : Int) + 2)) = besD s k t := by
  have hk : k < s.length := by
    rcases Nat.lt_or_ge k s.length with h' | h'
    · exact h'
    · rw [List.drop_eq_nil_of_le h'] at h; cases h
  have e2 : cut s (some ((k : Int) + 1)) (some ((k : Int) + 2)) = t.take 1 := by
    obtain ⟨_, ht⟩ := drop_get h
    unfold cut
    have a1 : ((k : Int) + 1) = ((k + 1 : Nat) : Int) := by omega
    have a2 : ((k : Int) + 2) = ((k + 2 : Nat) : Int) := by omega
    rw [a1, a2, HT.sIx_nat, HT.sIx_nat, Nat.min_eq_left (show k + 1 ≤ s.length by omega), ht]
    have hl : t.length = s.length - (k + 1) := by rw [← ht, List.length_drop]
    by_cases h2 : k + 2 ≤ s.length
    · rw [Nat.min_eq_left h2]
      congr 1
      omega
    · rw [Nat.min_eq_right (by omega)]
      have : t = [] := List.length_eq_zero_iff.mp (by omega)
      subst this
      simp
  rw [e2]
  unfold besD
  congr 1
  by_cases h0 : k = 0
  · subst h0
    rw [if_pos rfl]
    unfold cut
    have : HT.sIx s.length s.length (some ((0 : Nat) : Int)) = 0 := by rw [HT.sIx_nat]; simp
    rw [this]
    simp
  · rw [if_neg h0]
    unfold cut
    have a1 : ((k : Int) - 1) = ((k - 1 : Nat) : Int) := by omega
    rw [a1, HT.sIx_nat, HT.sIx_nat, Nat.min_eq_left (show k ≤ s.length by omega), Nat.min_eq_left (show k - 1 ≤ s.length by omega)]
    have a2 : k - (k - 1) = 1 := by omega
    rw [a2]
    unfold prevC
    rw [if_neg h0]
    have hk1 : k - 1 < s.length := by omega
    rw [List.drop_eq_getElem_cons hk1, List.getElem?_eq_getElem hk1]
    rfl
theorem cut1s {l : List Nat} : cut l none (some 1) = l.take 1 := by
  unfold cut
  have : HT.sIx l.length l.length (some ((1 : Nat) : Int)) = min 1 l.length := HT.sIx_nat _ _ _
  have e : (some (1 : Int)) = some ((1 : Nat) : Int) := rfl
  rw [e, this]
  cases l <;> simp [HT.sIx]
theorem cut1d {l : List Nat} : cut l (some 1) none = l.drop 1 := by
  unfold cut
  have : HT.sIx l.length 0 (some ((1 : Nat) : Int)) = min 1 l.length := HT.sIx_nat _ _ _
  have e : (some (1 : Int)) = some ((1 : Nat) : Int) := rfl
  rw [e, this]
  cases l <;> simp [HT.sIx]
def brS (s : List Nat) : Bool := s == [40] || s == [41] || s == [34]
theorem in_br {S : Store} {s : List Nat} : inR S (.str s) (.tup [.str [40], .str [41], .str [34]]) = some (brS s) := by
  rw [in_tup]
  simp [brS]
  by_cases a : s = [40]
  · simp [a]
  by_cases b : s = [41]
  · simp [b]
  by_cases c : s = [34]
  · simp [c]
  simp [a, b, c, Ne.symm a, Ne.symm b, Ne.symm c]
theorem free_of {s t : List Nat} {k : Nat} (h : (brS ((besD s k t).take 1) || brS ((besD s k t).drop 1)) = true) : isBr (prevC s k) ∨ ∃ c t', t = c :: t' ∧ isBr c := by
  have br : ∀ c : Nat, brS [c] = true → isBr c := fun c h => by
    unfold brS at h
    simp at h
    unfold isBr
    omega
  have nb : brS [] = false := rfl
  unfold besD at h
  by_cases h0 : k = 0
  · rw [if_pos h0] at h
    cases t with
    | nil => simp [nb] at h
    | cons c t => simp [nb] at h; exact .inr ⟨c, t, rfl, br c h⟩
  · rw [if_neg h0] at h
    cases t with
    | nil => simp [nb] at h; exact .inl (br _ h)
    | cons c t =>
      simp at h
      rcases h with h | h
      · exact .inl (br _ h)
      · exact .inr ⟨c, t, rfl, br c h⟩
end Q
/-! T18: the law's loose texts are such. -/
namespace Q
open Mw
variable {P : Pg}
theorem lsB_eq : lsB = .cons (.asg 5 (.idx (.var 1) (.var 4))) (.cons (.asg 3 (.cmp .NotEq (.var 3) (.cmp .Eq (.var 5) (.con (D.str [34]))))) (.cons (.asg 6 (.bin false .Add (.slc false (.var 1) (.bin false .Sub (.var 4) (.con (D.int 1))) (.var 4)) (.slc false (.var 1) (.bin false .Add (.var 4) (.con (D.int 1))) (.bin false .Add (.var 4) (.con (D.int 2))))))
  (.cons (.ite (.or (.cons (.var 3) (.cons (.cmp .NotIn (.var 5) (.con (D.str [40, 41, 32]))) .nil)))
    (.cons (.asg 2 (.bin false .Add (.var 2) (.var 5))) .nil)
    (.cons (.ite (.cmp .Eq (.var 5) (.con (D.str [32])))
    (.cons (.asg 7 (.or (.cons (.cmp .In (.slc false (.var 6) .nop (.con (D.int 1))) (.tup (.cons (.con (D.str [40])) (.cons (.con (D.str [41])) (.cons (.con (D.str [34])) .nil))))) (.cons (.cmp .In (.slc false (.var 6) (.con (D.int 1)) .nop) (.tup (.cons (.con (D.str [40])) (.cons (.con (D.str [41])) (.cons (.con (D.str [34])) .nil))))) .nil)))) (.cons (.asg 2 (.bin false .Add (.var 2) (.bin false .Mult (.con (D.str [32])) (.ite (.var 7) (.idx (.lst false (.cons (.con (D.int 0)) (.cons (.con (D.int 1)) (.cons (.con (D.int 2)) .nil)))) (.call "_law_taken" [] (.cons (.var 0) (.cons (.con (D.int 3)) .nil)))) (.bin false .Add (.con (D.int 1)) (.call "_law_taken" [] (.cons (.var 0) (.cons (.con (D.int 2)) .nil)))))))) .nil))
    (.cons (.asg 2 (.bin false .Add (.bin false .Add (.bin false .Add (.var 2) (.bin false .Mult (.con (D.str [32])) (.call "_law_taken" [] (.cons (.var 0) (.cons (.con (D.int 2)) .nil))))) (.var 5)) (.bin false .Mult (.con (D.str [32])) (.call "_law_taken" [] (.cons (.var 0) (.cons (.con (D.int 2)) .nil)))))) .nil)) .nil)) .nil))) := rfl
def ILs (r : Nat) (s : List Nat) (S : Store) (i : Nat) (l : LEnv) (S' : Store) : Prop := ∃ (F : List Nat) (b : Bool) (a4 a5 a6 a7 : Option D), l = [some (.ref r), some (.str s), some (.str F), some (.bl b), a4, a5, a6, a7] ∧ F.length ≤ 5 * i ∧ Row S' r ∧ Fr [r] S S' ∧ ∀ L, Lo b (prevC s i) (s.drop i) L → Lo false 97 s (F ++ L)
theorem ls_turn (h : HasD P) (n r : Nat) (s : List Nat) (hs : s.length ≤ 100000) (S S1 : Store) (i : Nat) (hi : i < s.length) (F : List Nat) (b : Bool) (a5 a6 a7 : Option D) (hF : F.length ≤ 5 * i) (hr : Row S1 r) (fr : Fr [r] S S1) (hL : ∀ L, Lo b (prevC s i) (s.drop i) L → Lo false 97 s (F ++ L)) :
    (exs (P.cfg (n + 1)) lsB [some (.ref r), some (.str s), some (.str F), some (.bl b), some (.int (i : Int)), a5, a6, a7] S1).sat { nx := ILs r s S (i + 1) } := by
  obtain ⟨c, t, hd⟩ : ∃ c t, s.drop i = c :: t := ⟨_, _, List.drop_eq_getElem_cons hi⟩
  obtain ⟨gc, hd1⟩ := drop_get hd
  have hz : s.length ≤ 16777216 := by omega
  have hp1 : prevC s (i + 1) = c := by unfold prevC; rw [if_neg (by omega), Nat.add_sub_cancel, gc]; rfl
  rw [hd] at hL
  rw [lsB_eq]
  rw [asg0 (.str [c]) (by simp [hz, atI_nat, gc])]
  simp only [List.set_cons_succ, List.set_cons_zero]
  rw [asg0 (.bl (b ^^ (c == 34))) (by cases b <;> by_cases hc : c = 34 <;> simp [hc])]
  simp only [List.set_cons_succ, List.set_cons_zero]
  have bl : (besD s i t).length ≤ 2 := by
    unfold besD
    split <;> simp <;> omega
  have be := bes_ok hd
  rw [asg0 (.str (besD s i t)) (by
    have hz2 : (cut s (some ((i : Int) - 1)) (some (i : Int))).length + (cut s (some ((i : Int) + 1)) (some ((i : Int) + 2))).length ≤ 16777216 := by
      have := congrArg List.length be
      rw [List.length_append] at this
      omega
    simp only [ev_7, ev_16, ev_1, ev_2, List.getElem?_cons_succ, List.getElem?_cons_zero, bind_ok, isNop_bin, isNop_var, if_neg Bool.false_ne_true, sub_i, add_i, asI_int, slcR, sizeOk_eq, decide_eq_true hz, if_pos rfl, add_s, decide_eq_true hz2, be, if_true, ite_true])]
  simp only [List.set_cons_succ, List.set_cons_zero]
  have hnext : (s.drop (i + 1)) = t := hd1
  by_cases hv : (b ^^ (c == 34)) = true ∨ (c ≠ 40 ∧ c ≠ 41 ∧ c ≠ 32)
  · have hc : ev (P.cfg (n + 1)) (.or (.cons (.var 3) (.cons (.cmp .NotIn (.var 5) (.con (D.str [40, 41, 32]))) .nil))) [some (.ref r), some (.str s), some (.str F), some (.bl (b ^^ (c == 34))), some (.int (i : Int)), some (.str [c]), some (.str (besD s i t)), a7] S1 = .ok (.bl true) S1 := by
      generalize (b ^^ (c == 34)) = b' at hv ⊢
      cases b' with
      | true => simp
      | false =>
        rcases hv with hv | ⟨h1, h2, h3⟩
        · cases hv
        · simp [h1, h2, h3]
    have hz3 : F.length + 1 ≤ 16777216 := by omega
    rw [exs_ifT hc, asg0 (.str (F ++ [c])) (by simp [hz3]), exs_0, seq_nx, exs_0, sat_nx]
    refine ⟨F ++ [c], _, _, _, _, _, rfl, by simp; omega, hr, fr, fun L hl => ?_⟩
    rw [hp1, hnext] at hl
    rw [List.append_assoc]
    exact hL _ (.verb hv hl)
  · have hb' : (b ^^ (c == 34)) = false := by
      cases hx : (b ^^ (c == 34)) with
      | true => exact absurd (.inl hx) hv
      | false => rfl
    have hcs : c = 40 ∨ c = 41 ∨ c = 32 := by
      rcases Nat.decEq c 40 with h1 | h1
      · rcases Nat.decEq c 41 with h2 | h2
        · rcases Nat.decEq c 32 with h3 | h3
          · exact absurd (.inr ⟨h1, h2, h3⟩) hv
          · exact .inr (.inr h3)
        · exact .inr (.inl h2)
      · exact .inl h1
    have hb : b = false := by
      have h34 : (c == 34) = false := by rcases hcs with rfl | rfl | rfl <;> rfl
      rw [h34] at hb'
      simpa using hb'
    subst hb
    rw [hb']
    have hc : ev (P.cfg (n + 1)) (.or (.cons (.var 3) (.cons (.cmp .NotIn (.var 5) (.con (D.str [40, 41, 32]))) .nil))) [some (.ref r), some (.str s), some (.str F), some (.bl false), some (.int (i : Int)), some (.str [c]), some (.str (besD s i t)), a7] S1 = .ok (.bl false) S1 := by
      rcases hcs with rfl | rfl | rfl <;> simp
    rw [ifN0 hc, sat_seq]
    by_cases h32 : c = 32
    · subst h32
      rw [exs_ifT (S1 := S1) (by simp), sat_seq]
      have hfr : ev (P.cfg (n + 1)) (.or (.cons (.cmp .In (.slc false (.var 6) .nop (.con (D.int 1))) (.tup (.cons (.con (D.str [40])) (.cons (.con (D.str [41])) (.cons (.con (D.str [34])) .nil))))) (.cons (.cmp .In (.slc false (.var 6) (.con (D.int 1)) .nop) (.tup (.cons (.con (D.str [40])) (.cons (.con (D.str [41])) (.cons (.con (D.str [34])) .nil))))) .nil))) [some (.ref r), some (.str s), some (.str F), some (.bl false), some (.int (i : Int)), some (.str [32]), some (.str (besD s i t)), a7] S1
          = .ok (.bl (brS ((besD s i t).take 1) || brS ((besD s i t).drop 1))) S1 := by
        have hz4 : (besD s i t).length ≤ 16777216 := by omega
        have i1 : ∀ z : List Nat, inR S1 (.str z) (.tup [.str [40], .str [41], .str [34]]) = some (brS z) := fun z => in_br
        simp [slcR, hz4, cut1s, cut1d, i1, -in_tup]
        cases brS ((besD s i t).take 1) <;> simp
      rw [asg0 _ hfr]
      simp only [List.set_cons_succ, List.set_cons_zero]
      have fin : ∀ (k : Nat) (S2 : Store) (a7' : Option D), k ≤ 2 → (1 ≤ k ∨ isBr (prevC s i) ∨ ∃ c t', t = c :: t' ∧ isBr c) → Row S2 r → Fr [r] S S2 → ILs r s S (i + 1) [some (.ref r), some (.str s), some (.str (F ++ List.replicate k 32)), some (.bl false), some (.int (i : Int)), some (.str [32]), some (.str (besD s i t)), a7'] S2 := by
        intro k S2 a7' hk hc hr2 fr2
        refine ⟨_, _, _, _, _, _, rfl, by simp; omega, hr2, fr2, fun L hl => ?_⟩
        rw [hp1, hnext] at hl
        rw [List.append_assoc]
        exact hL _ (.blank k hc hl)
      by_cases hfree : (brS ((besD s i t).take 1) || brS ((besD s i t).drop 1)) = true
      · rw [hfree]
        have fo := free_of hfree
        refine st ?_
        simp
        refine R.sat.mono (taken_ok h _ S1 r 3 hr (by omega) (by omega)) ?_
        rintro _ S2 ⟨j, rfl, j0, j1, hr2, fr2⟩
        have hj : j = 0 ∨ j = 1 ∨ j = 2 := by omega
        have hat : L2.atI [D.int 0, D.int 1, D.int 2] j = some (.int j) := by rcases hj with rfl | rfl | rfl <;> simp
        have hz5 : F.length + j.toNat ≤ 16777216 := by omega
        simp [hat, mulS (show 0 ≤ j ∧ j ≤ 10 by omega), hz5, -mul_s]
        exact fin j.toNat S2 _ (by omega) (.inr fo) hr2 (fr.trans fr2)
      · have hfree' : (brS ((besD s i t).take 1) || brS ((besD s i t).drop 1)) = false := by simpa using hfree
        rw [hfree']
        refine st ?_
        simp
        refine R.sat.mono (taken_ok h _ S1 r 2 hr (by omega) (by omega)) ?_
        rintro _ S2 ⟨j, rfl, j0, j1, hr2, fr2⟩
        have hz5 : F.length + (1 + j).toNat ≤ 16777216 := by omega
        simp [mulS (show 0 ≤ 1 + j ∧ 1 + j ≤ 10 by omega), hz5, -mul_s]
        exact fin (1 + j).toNat S2 _ (by omega) (.inl (by omega)) hr2 (fr.trans fr2)
    · have hb2 : c = 40 ∨ c = 41 := by omega
      rw [ifN0 (by simp [h32]), sat_seq]
      refine st ?_
      simp
      refine R.sat.mono (taken_ok h _ S1 r 2 hr (by omega) (by omega)) ?_
      rintro _ S2 ⟨j, rfl, j0, j1, hr2, fr2⟩
      have hz5 : F.length + j.toNat ≤ 16777216 := by omega
      have hz6 : F.length + j.toNat + 1 ≤ 16777216 := by omega
      simp [mulS (show 0 ≤ j ∧ j ≤ 10 by omega), hz5, hz6, -mul_s]
      have hz6' : F.length + (j.toNat + 1) ≤ 16777216 := by omega
      try simp [hz6']
      refine R.sat.mono (taken_ok h _ S2 r 2 hr2 (by omega) (by omega)) ?_
      rintro _ S3 ⟨m, rfl, m0, m1, hr3, fr3⟩
      have hz7 : F.length + (j.toNat + (1 + m.toNat)) ≤ 16777216 := by omega
      have hz8 : F.length + (j.toNat + 1 + m.toNat) ≤ 16777216 := by omega
      have hz9 : F.length + (j.toNat + (m.toNat + 1)) ≤ 16777216 := by omega
      have hz10 : F.length + (j.toNat + 1) + m.toNat ≤ 16777216 := by omega
      simp [mulS (show 0 ≤ m ∧ m ≤ 10 by omega), hz7, hz8, hz9, hz10, -mul_s]
      refine ⟨F ++ (List.replicate j.toNat 32 ++ c :: List.replicate m.toNat 32), _, _, _, _, _, rfl, by simp; omega, hr3, (fr.trans fr2).trans fr3, fun L hl => ?_⟩
      rw [hp1, hnext] at hl
      have := hL _ (.brack j.toNat m.toNat hb2 hl)
      simpa using this
end Q
/-! T19: loose texts whole; texts are closed; sizes. -/
namespace Q
open Mw
variable {P : Pg}
def PLs (r : Nat) (s : List Nat) (S : Store) (d : D) (S' : Store) : Prop := ∃ L, d = .str L ∧ Lo false 97 s L ∧ L.length ≤ 5 * s.length ∧ Row S' r ∧ Fr [r] S S'
theorem loose_ok (h : HasD P) (hl : P.fns.lookup "_law_loose" = some G25.f__law_loose) (n r : Nat) (s : List Nat) (hs : s.length ≤ 100000) (S : Store) (hr : Row S r) : (cfn P (n + 2) "_law_loose" [.ref r, .str s] S).sat (PLs r s S) := by
  rw [cfn_succ, hl]
  have hrun : Mw.run (P.cfg (n + 1)) G25.f__law_loose [.ref r, .str s] S = (exs (P.cfg (n + 1)) bL [some (.ref r), some (.str s), none, none, none, none, none, none] S).out := rfl
  show (Mw.run (P.cfg (n + 1)) G25.f__law_loose _ S).sat _
  rw [hrun, sat_out]
  have e : bL = .cons (.unp [2, 3] (.tup (.cons (.con (D.str [])) (.cons (.con (D.bl false)) .nil)))) (.cons (.fr [4] false (.rng1 (.blt .len false (.cons (.var 1) .nil))) lsB) (.cons (.ret (.var 2)) .nil)) := rfl
  rw [e, unp0 (.tup [.str [], .bl false]) [.str [], .bl false] (by simp) rfl rfl]
  simp only [List.set_cons_succ, List.set_cons_zero]
  refine st ?_
  have hz : s.length ≤ 16777216 := by omega
  have er : ev (P.cfg (n + 1)) (.rng1 (.blt .len false (.cons (.var 1) .nil))) [some (.ref r), some (.str s), some (.str []), some (.bl false), none, none, none, none] S = .ok (.lst (rngL 0 (s.length : Int))) S := rng1_ok (by simp [hz]) ⟨by omega, by omega⟩
  have eg : ∀ i d, (rngL 0 (s.length : Int))[i]? = some d → d = .int (i : Int) ∧ i < s.length := fun i d hd => by
    obtain ⟨rfl, h2⟩ := rng_get hd
    exact ⟨by rw [Int.zero_add], by omega⟩
  have el : (rngL 0 (s.length : Int)).length = s.length := by rw [rng_len]; omega
  rw [ex_10, er]
  generalize rngL 0 (s.length : Int) = ds at eg el
  rw [bind_ok, items_l, sat_then, sat_ok]
  refine for_sat0 (ILs r s S) ?_ ?_ ?_
  · exact ⟨[], false, none, none, none, none, rfl, by simp, hr, Fr.refl _ _, fun L hl => hl⟩
  · rintro i d l S1 hd ⟨F, b, a4, a5, a6, a7, rfl, hF, hr1, fr1, hL⟩
    obtain ⟨rfl, hi⟩ := eg i d hd
    refine ⟨_, rfl, ?_⟩
    exact RS.sat.mono (ls_turn h n r s hs S S1 i hi F b a5 a6 a7 hF hr1 fr1 hL) (fun _ _ h => h) (fun _ _ h => h.elim) (fun _ _ h => h.elim) (fun _ _ h => h.elim) (fun _ _ _ h => h.elim)
  · rintro l S1 ⟨F, b, a4, a5, a6, a7, rfl, hF, hr1, fr1, hL⟩
    rw [el] at hF hL
    dsimp only
    rw [ret0 (.str F) (by simp), sat_rt]
    refine ⟨F, rfl, ?_, hF, hr1, fr1⟩
    have := hL [] (by rw [List.drop_length]; exact .nil _ _)
    simpa using this
/-- quotes in pairs, no row's end -/
def Cl (x : List Nat) : Prop := flagQ false x = false ∧ 10 ∉ x
theorem flag_no : ∀ (x : List Nat) (b : Bool), 34 ∉ x → flagQ b x = b
  | [], b, _ => rfl
  | c :: x, b, h => by
    have hc : (c == 34) = false := by simp; intro e; exact h (by simp [e])
    show flagQ (b ^^ (c == 34)) x = b
    rw [hc, flag_no x _ fun z => h (List.mem_cons_of_mem _ z)]
    simp
theorem Cl.app {x y : List Nat} (h : Cl x) (k : Cl y) : Cl (x ++ y) := ⟨by rw [flag_app, h.1, k.1], fun hm => (List.mem_append.mp hm).elim h.2 k.2⟩
theorem Cl.of {x : List Nat} (h : ∀ c ∈ x, c ≠ 34 ∧ c ≠ 10) : Cl x := ⟨flag_no x _ fun z => (h 34 z).1 rfl, fun z => (h 10 z).2 rfl⟩
theorem Cl.join : ∀ {xs : List (List Nat)}, (∀ x ∈ xs, Cl x) → Cl (joinL [32] xs)
  | [], _ => ⟨rfl, by simp [joinL]⟩
  | [x], h => h x (by simp)
  | x :: y :: xs, h => by
    rw [joinL]
    exact (h x (by simp)).app ((Cl.of (x := [32]) (by simp)).app (Cl.join fun z hz => h z (List.mem_cons_of_mem _ hz)))
theorem Cl.low {s : List Nat} (h : ∀ c ∈ s, 97 ≤ c ∧ c ≤ 122) : Cl s := Cl.of fun c hc => by have := h c hc; omega
theorem Cl.word (w : W) : Cl w.s := Cl.low (by cases w <;> decide)
theorem Cl.num (i : Int) : Cl (numT i) := by
  have key : ∀ m, ∀ c ∈ digs m, c ≠ 34 ∧ c ≠ 10 := fun m c hc => by have := digs_all m c hc; omega
  refine Cl.of fun c hc => ?_
  rcases Int.le_total 0 i with h | h
  · obtain ⟨m, rfl⟩ := Int.eq_ofNat_of_zero_le h
    rw [numT_nat] at hc
    exact key m c hc
  · by_cases h0 : i = 0
    · subst h0
      have e0 : numT 0 = digs 0 := numT_nat 0
      rw [e0] at hc
      exact key 0 c hc
    · obtain ⟨m, rfl⟩ : ∃ m : Nat, i = -((m : Int) + 1) := ⟨(-i - 1).toNat, by omega⟩
      rw [numT_neg] at hc
      rcases List.mem_cons.mp hc with rfl | hc
      · decide
      · exact key (m + 1) c hc
theorem Cl.hd {kvs : List (DK × D)} {w : W} {hd : List D} {k : Nat} (h : hdOk kvs w hd k) : ∀ d ∈ hd, Cl (hdT w d) := by
  intro d hd'
  cases w <;> unfold hdOk at h <;> dsimp only at h
  case w_is =>
    obtain ⟨_, x, rfl, hx⟩ := h
    simp at hd'
    subst hd'
    rcases hx with ⟨s, rfl, _, hs⟩ | ⟨i, rfl, _⟩
    · have h34 : 34 ∉ s := fun z => (hs 34 z).2.2 rfl
      refine ⟨?_, ?_⟩
      · show flagQ false (34 :: (s ++ [34])) = false
        show flagQ (false ^^ ((34 : Nat) == 34)) (s ++ [34]) = false
        rw [flag_app, flag_no s _ h34]
        rfl
      · show 10 ∉ 34 :: (s ++ [34])
        intro hm
        simp at hm
        have := (hs 10 hm).1
        omega
    · exact Cl.num i
  case w_at => obtain ⟨_, c, rfl, hc⟩ := h; simp at hd'; subst hd'; exact Cl.low (by simp [hdT]; omega)
  case w_set => obtain ⟨_, c, rfl, hc⟩ := h; simp at hd'; subst hd'; exact Cl.low (by simp [hdT]; omega)
  case w_try => obtain ⟨_, c, rfl, hc⟩ := h; simp at hd'; subst hd'; exact Cl.low (by simp [hdT]; omega)
  case w_most => obtain ⟨_, i, rfl, _⟩ := h; simp at hd'; subst hd'; exact Cl.num i
  case w_call => obtain ⟨s, rfl, hs, _⟩ := h; simp at hd'; subst hd'; exact Cl.low (by simpa [hdT] using hs.2)
  all_goals (obtain ⟨rfl, _⟩ := h; cases hd')
theorem Cl.pt {kvs : List (DK × D)} : ∀ (n : Nat) (p : Pt), p.ok kvs → p.depth ≤ n → Cl p.txt
  | 0, .mk w hd ps, _, h => by simp [Pt.depth] at h
  | n + 1, .mk w hd ps, ok, h => by
    simp only [Pt.depth] at h
    rw [Pt.txt]
    have j : Cl (joinL [32] (w.s :: (hd.map (hdT w) ++ Pt.txts ps))) := Cl.join fun x hx => by
      rcases List.mem_cons.mp hx with rfl | hx
      · exact Cl.word w
      · rcases List.mem_append.mp hx with hx | hx
        · obtain ⟨d, hd', rfl⟩ := List.mem_map.mp hx
          exact Cl.hd ok.1 d hd'
        · rw [txts_map] at hx
          obtain ⟨p, hp, rfl⟩ := List.mem_map.mp hx
          exact Cl.pt n p (oks_mem ok.2 p hp) (depths_mem (by omega) p hp)
    exact (Cl.of (x := [40]) (by simp)).app (j.app (Cl.of (x := [41]) (by simp)))
theorem Cl.row {kvs : List (DK × D)} {y : Dd} (hy : y.ok) (hb : y.body.ok kvs) : Cl y.row := Cl.join fun x hx => by
  simp only [Dd.its, List.mem_cons, List.mem_append] at hx
  rcases hx with rfl | rfl | hx | hx
  · exact Cl.of (by decide)
  · exact Cl.low hy.1.2
  · obtain ⟨c, hc, rfl⟩ := List.mem_map.mp hx
    have := hy.2.2.2 c hc
    exact Cl.low (by simp; omega)
  · have : x = y.body.txt := by simpa using hx
    subst this
    exact Cl.pt _ _ hb (Nat.le_refl _)
theorem rows_cl {x : Pr} (ok : x.ok) : ∀ r ∈ x.rows, Cl r := by
  intro r hr
  rcases List.mem_cons.mp hr with rfl | hr
  · exact Cl.pt _ _ ok.main.1 (Nat.le_refl _)
  · obtain ⟨y, hy, rfl⟩ := List.mem_map.mp hr
    exact Cl.row (ok.deed y hy).1 (ok.deed y hy).2.1
theorem lex_main {x : Pr} (ok : x.ok) : lex x.main.txt = x.main.toks := by
  have := lexI_pt _ x.main ok.main.1 (Nat.le_refl _) []
  simpa [lexA] using this
theorem lex_row {kvs : List (DK × D)} {y : Dd} (hy : y.ok) (hb : y.body.ok kvs) : lex y.row = y.toks := by
  have li := lexI_items (xs := y.its) (tss := [deedW] :: [y.name] :: (y.cells.map (fun c => [[c]]) ++ [y.body.toks])) (by simp [Dd.its]) (fun i x ts h1 h2 => by
    match i with
    | 0 => simp [Dd.its] at h1 h2; subst h1; subst h2; exact lexI_wd (by decide) (by decide)
    | 1 =>
      simp [Dd.its] at h1 h2
      subst h1; subst h2
      refine lexI_wd ?_ (sp_low hy.1.2)
      have := hy.1.1.1
      intro e
      rw [e] at this
      simp at this
    | i + 2 =>
      simp only [Dd.its, List.getElem?_cons_succ] at h1 h2
      by_cases hi : i < y.cells.length
      · rw [List.getElem?_append_left (by simpa using hi), List.getElem?_map, List.getElem?_eq_getElem hi] at h1 h2
        simp at h1 h2
        subst h1; subst h2
        have := hy.2.2.2 _ (List.getElem_mem hi)
        exact lexI_wd (by simp) (sp_low (by simp; omega))
      · rw [List.getElem?_append_right (by simpa using hi)] at h1 h2
        simp only [List.length_map] at h1 h2
        cases hj : i - y.cells.length with
        | zero =>
          rw [hj] at h1 h2
          simp at h1 h2
          subst h1; subst h2
          exact fun r _ => lexI_pt _ y.body hb (Nat.le_refl _) r
        | succ j => rw [hj] at h1; simp at h1)
  have := li [] (.inl rfl)
  rw [List.append_nil] at this
  show lexA .out (joinL [32] y.its) = _
  rw [this, Dd.toks]
  simp [lexA, flat_one]
end Q
/-! T20: parts counted. -/
namespace Q
open Mw
variable {P : Pg}
theorem allInts_map {α : Type} (f : α → Int) : ∀ l : List α, allInts (l.map fun x => D.int (f x)) = some (l.map f)
  | [] => rfl
  | x :: l => by simp [allInts, allInts_map f l]
theorem sum_l {α : Type} (f : α → Int) {m : Bool} {S : Store} {l : List α} : bltR .sum m [.lst (l.map fun x => D.int (f x))] S = .ok (.int (l.map f).sum) S := by
  simp [bltR, seqOf, allInts_map]
theorem sizes_sum : ∀ ps : List Pt, (ps.map fun p => (p.size : Int)).sum = (Pt.sizes ps : Nat)
  | [] => rfl
  | p :: ps => by rw [List.map_cons, List.sum_cons, sizes_sum ps, Pt.sizes]; simp
structure HasZ (P : Pg) : Prop where
  inner : P.fns.lookup "inner_parts" = some G21.f_inner_parts
  size_of : P.fns.lookup "size_of" = some G25.f_size_of
  size : P.fns.lookup "size" = some G25.f_size
theorem size_of_ok (h : HasZ P) (kvs : List (DK × D)) (hk : ∀ s (c : Nat), dGet kvs (.inr s) = some (.int c) → c ≤ 3) (n : Nat) (S : Store) : ∀ (m : Nat) (p : Pt), p.ok kvs → p.depth ≤ m → cfn P (n + m + 1) "size_of" [p.d] S = .ok (.int p.size) S
  | 0, .mk w hd ps, _, dp => by simp [Pt.depth] at dp
  | m + 1, .mk w hd ps, ok, dp => by
    simp only [Pt.depth] at dp
    have l3 := hd_len hk ok.1
    rw [cfn_succ, h.size_of]
    have hrun : Mw.run (P.cfg (n + (m + 1))) G25.f_size_of [(Pt.mk w hd ps).d] S = (exs (P.cfg (n + (m + 1))) G25.b_size_of [some (Pt.mk w hd ps).d, none] S).out := rfl
    show Mw.run (P.cfg (n + (m + 1))) G25.f_size_of _ S = _
    rw [hrun]
    have ip : cfn P (n + (m + 1)) "inner_parts" [(Pt.mk w hd ps).d] S = .ok (.lst (Pt.ds ps)) S := inner_parts_ok h.inner (n + m) S kvs w hd ps ok.1
    have ih : ∀ p ∈ ps, cfn P (n + (m + 1)) "size_of" [p.d] S = .ok (.int p.size) S := fun p hp => size_of_ok h kvs hk n S m p (oks_mem ok.2 p hp) (depths_mem (by omega) p hp)
    unfold G25.b_size_of
    have el : ev (P.cfg (n + (m + 1))) (.lc false [1] false (.seq (.call "inner_parts" [] (.cons (.var 0) .nil))) (.call "size_of" [] (.cons (.var 1) .nil)) (.con (D.bl true))) [some (Pt.mk w hd ps).d, none] S = .ok (.lst (ps.map fun p => D.int (p.size : Int))) S := by
      have ei : ev (P.cfg (n + (m + 1))) (.seq (.call "inner_parts" [] (.cons (.var 0) .nil))) [some (Pt.mk w hd ps).d, none] S = .ok (.lst (Pt.ds ps)) S := by simp [ip]
      rw [ev_24, ei, bind_ok, items_l, bind_ok, ds_map, lc_mapP Pt.d (fun p => D.int (p.size : Int)) (by simp; omega) (fun p hp => ⟨_, rfl, by simp, by simp [ih p hp]⟩)]
      rfl
    rw [ret0 (.int (Pt.mk w hd ps).size) (by
      rw [ev_7, ev_2, bind_ok, ev_18, evs_1, el, bind_ok, evs_0, bind_ok, bind_ok, sum_l, bind_ok, add_i, sizes_sum, Pt.size]
      congr 2
      omega)]
    rfl
def Pr.size (x : Pr) : Nat := x.main.size + (x.deeds.map fun y => y.body.size).sum
theorem size_ok (h : HasZ P) (hn : HasN P) (n : Nat) (S : Store) (x : Pr) (ok : x.ok) : (cfn P (n + 13) "size" [x.d] S).sat fun d S' => d = .int x.size ∧ Fr [] S S' := by
  rw [cfn_succ, h.size]
  have kv := kv3 (ds := x.deeds) fun y hy => by have := (ok.deed y hy).1.2.1; omega
  have few := ok.few
  have sz : ∀ (p : Pt) (S : Store), ptOk (kvsOf x.deeds) p → cfn P (n + 12) "size_of" [p.d] S = .ok (.int p.size) S := fun p S hp => size_of_ok h (kvsOf x.deeds) kv (n + 5) S 6 p hp.1 hp.2.1
  have hrun : Mw.run (P.cfg (n + 12)) G25.f_size [x.d] S = (exs (P.cfg (n + 12)) G25.b_size [some x.d, none] S).out := rfl
  show (Mw.run (P.cfg (n + 12)) G25.f_size _ S).sat _
  rw [hrun, sat_out]
  have p0 : ∀ S, idxR x.d (.int 0) S = .ok x.main.d S := fun S => rfl
  have p1 : ∀ S, idxR x.d (.int 1) S = .ok (.tup (x.deeds.map Dd.d)) S := fun S => rfl
  unfold G25.b_size
  refine st ?_
  simp
  refine R.sat.mono (need_program_ok hn n S x ok) ?_
  rintro _ S1 ⟨rfl, _, fr1⟩
  have el : ev (P.cfg (n + 12)) (.lc false [1] false (.seq (.idx (.var 0) (.con (D.int 1)))) (.call "size_of" [] (.cons (.idx (.var 1) (.con (D.int 2))) .nil)) (.con (D.bl true))) [some x.d, none] S1 = .ok (.lst (x.deeds.map fun y => D.int (y.body.size : Int))) S1 := by
    have ei : ev (P.cfg (n + 12)) (.seq (.idx (.var 0) (.con (D.int 1)))) [some x.d, none] S1 = .ok (.tup (x.deeds.map Dd.d)) S1 := by simp [p1]
    rw [ev_24, ei, bind_ok, items_t, bind_ok, lc_mapP Dd.d (fun y => D.int (y.body.size : Int)) (by simp; omega) (fun y hy => ⟨_, rfl, by simp, by simp [Dd.d, sz y.body S1 (ok.deed y hy).2]⟩)]
    rfl
  have em : ev (P.cfg (n + 12)) (.call "size_of" [] (.cons (.idx (.var 0) (.con (D.int 0))) .nil)) [some x.d, none] S1 = .ok (.int x.main.size) S1 := by simp [p0, sz x.main S1 ok.main]
  rw [ret0 (.int x.size) (by
    rw [ev_7, em, bind_ok, ev_18, evs_1, el, bind_ok, evs_0, bind_ok, bind_ok, sum_l, bind_ok, add_i]
    congr 2
    unfold Pr.size
    have : ∀ l : List Dd, (l.map fun y => (y.body.size : Int)).sum = ((l.map fun y => y.body.size).sum : Nat) := by
      intro l
      induction l with
      | nil => rfl
      | cons y l ih => simp only [List.map_cons, List.sum_cons, ih]; omega
    rw [this]
    omega), sat_rt]
  exact ⟨rfl, fr1⟩
/-- the law's own counting -/
def ctX : Xp := .bin true .Add (.var 5) (.call "_law_within" [] (.cons (.mtd .pop (.var 5) .nil) .nil))
def ctC : Xp := .cmp .NotEq (.var 5) (.lst false .nil)
def ctB : Sms := .cons (.asg 4 (.bin false .Add (.var 4) (.con (D.int 1)))) (.cons (.asg 5 ctX) .nil)
theorem pop_ref {S : Store} {u : Nat} {ds : List D} {d : D} (h : S[u]? = some (.lst (ds ++ [d]))) : mtdR .pop (.ref u) [] S = .ok d (S.set u (.lst ds)) := by
  simp [mtdR, h]
theorem pre_pop {S : Store} {u : Nat} {ds : List D} (h : S[u]? = some (.lst ds)) : mtdPre .pop (.ref u) S = true := by simp [mtdPre, lstOf, h]
theorem count_loop (hb : HasB P) (kvs : List (DK × D)) (hk : ∀ s (c : Nat), dGet kvs (.inr s) = some (.int c) → c ≤ 3) (n : Nat) (L : D → D → LEnv) (h4 : ∀ a b, (L a b)[4]? = some (some a)) (h5 : ∀ a b, (L a b)[5]? = some (some b)) (s4 : ∀ a b c, (L a b).set 4 (some c) = L c b) (s5 : ∀ a b c, (L a b).set 5 (some c) = L a c) (S0 : Store) :
    ∀ (fuel : Nat) (zs : List Pt) (many u : Nat) (S : Store), Pt.sizes zs < fuel → Pt.sizes zs ≤ 1000 → Pt.oks kvs zs → S[u]? = some (.lst (Pt.ds zs)) → S0.length ≤ u → Fr [] S0 S →
      ∃ u' S', whlLoop (fun l1 S2 => (ev (P.cfg (n + 1)) ctC l1 S2).bind asB) (fun l1 S2 => exs (P.cfg (n + 1)) ctB l1 S2) fuel (L (.int many) (.ref u)) S = .nx (L (.int ((many + Pt.sizes zs : Nat) : Int)) (.ref u')) S' ∧ Fr [] S0 S'
  | 0, zs, many, u, S, hf, _, _, _, _, _ => by omega
  | fuel + 1, zs, many, u, S, hf, hz, ok, hu, h0, fr => by
    have hc : (ev (P.cfg (n + 1)) ctC (L (.int many) (.ref u)) S).bind asB = .ok (!(Pt.ds zs).isEmpty) S := by
      unfold ctC
      simp [h5, eq_refE hu]
    rcases List.eq_nil_or_concat zs with rfl | ⟨ys, y, rfl⟩
    · rw [show (!(Pt.ds []).isEmpty) = false from rfl] at hc
      exact ⟨u, S, whlF hc, fr⟩
    · rw [List.concat_eq_append] at *
      have ed : Pt.ds (ys ++ [y]) = Pt.ds ys ++ [y.d] := ds_app ys y
      have hne : (!(Pt.ds (ys ++ [y])).isEmpty) = true := by rw [ed]; simp
      rw [hne] at hc
      rw [ed] at hu
      have hoks : ∀ (a b : List Pt), Pt.oks kvs (a ++ b) → Pt.oks kvs a ∧ Pt.oks kvs b := by
        intro a b
        induction a with
        | nil => exact fun h => ⟨trivial, h⟩
        | cons x a ih => exact fun h => ⟨⟨h.1, (ih h.2).1⟩, (ih h.2).2⟩
      have hszs : ∀ (a b : List Pt), Pt.sizes (a ++ b) = Pt.sizes a + Pt.sizes b := by
        intro a b
        induction a with
        | nil => simp [Pt.sizes]
        | cons x a ih => simp only [List.cons_append, Pt.sizes, ih]; omega
      obtain ⟨o1, o2, _⟩ := hoks ys [y] ok
      obtain ⟨w, hd, ps⟩ := y
      have l3 := hd_len hk o2.1
      have esz : Pt.sizes (ys ++ [.mk w hd ps]) = Pt.sizes ys + (Pt.sizes ps + 1) := by rw [hszs]; simp [Pt.sizes, Pt.size]
      have hul : u < S.length := (List.getElem?_eq_some_iff.mp hu).1
      have wi := within_ok hb n (S.set u (.lst (Pt.ds ys))) kvs w hd ps o2.1 (by omega)
      have eb : exs (P.cfg (n + 1)) ctB (L (.int many) (.ref u)) S = .nx (L (.int ((many + 1 : Nat) : Int)) (.ref (S.set u (.lst (Pt.ds ys))).length)) (S.set u (.lst (Pt.ds ys)) ++ [.lst (Pt.ds (ys ++ ps))]) := by
        unfold ctB
        rw [asg0 (.int ((many + 1 : Nat) : Int)) (by simp [h4]), s4]
        have hlen : ∀ zs : List Pt, zs.length ≤ Pt.sizes zs := by
          intro zs
          induction zs with
          | nil => simp
          | cons z zs ih => have : 1 ≤ z.size := by cases z; simp [Pt.size]
                            simp only [List.length_cons, Pt.sizes]; omega
        have eX : ev (P.cfg (n + 1)) ctX (L (.int ((many + 1 : Nat) : Int)) (.ref u)) S = .ok (.ref (S.set u (.lst (Pt.ds ys))).length) (S.set u (.lst (Pt.ds ys)) ++ [.lst (Pt.ds (ys ++ ps))]) := by
          unfold ctX
          have e1 : ev (P.cfg (n + 1)) (.mtd .pop (.var 5) .nil) (L (.int ((many + 1 : Nat) : Int)) (.ref u)) S = .ok (Pt.mk w hd ps).d (S.set u (.lst (Pt.ds ys))) := by
            rw [ev_20, ev_1, h5]
            dsimp only
            rw [bind_ok, if_pos (pre_pop hu), evs_0, bind_ok, pop_ref hu]
          rw [ev_7, ev_1, h5]
          dsimp only
          rw [bind_ok, ev_17, evs_1, e1, bind_ok, evs_0, bind_ok, bind_ok]
          show ((cfn P (n + 1) "_law_within" [(Pt.mk w hd ps).d] _).bind _) = _
          rw [wi, bind_ok]
          have h1 := hlen ys
          have hsz : (Pt.ds ys).length + (Pt.ds ps).length ≤ 16777216 := by rw [ds_len, ds_len]; omega
          have hu2 : (S.set u (.lst (Pt.ds ys)))[u]? = some (.lst (Pt.ds ys)) := set_same hu
          have eapp : Pt.ds (ys ++ ps) = Pt.ds ys ++ Pt.ds ps := by rw [ds_map, ds_map, ds_map, List.map_append]
          rw [eapp]
          generalize S.set u (.lst (Pt.ds ys)) = S2 at hu2 ⊢
          simp only [binR, lstOf, hu2]
          rw [if_pos (by simpa using hsz)]
          rfl
        rw [exs_asg eX, s5, exs_0]
      rw [whlT hc eb]
      have fr2 : Fr [] S0 (S.set u (.lst (Pt.ds ys)) ++ [.lst (Pt.ds (ys ++ ps))]) := (fr.setNew h0 _).trans (Fr.more _ _ _)
      obtain ⟨u', S', e, f⟩ := count_loop hb kvs hk n L h4 h5 s4 s5 S0 fuel (ys ++ ps) (many + 1) (S.set u (.lst (Pt.ds ys))).length (S.set u (.lst (Pt.ds ys)) ++ [.lst (Pt.ds (ys ++ ps))]) (by rw [hszs]; omega) (by rw [hszs]; omega) (by
        have : ∀ (a b : List Pt), Pt.oks kvs a → Pt.oks kvs b → Pt.oks kvs (a ++ b) := by
          intro a b
          induction a with
          | nil => exact fun _ h => h
          | cons x a ih => exact fun h k => ⟨h.1, ih h.2 k⟩
        exact this _ _ o1 o2.2) (by simp) (by simp; have := fr.1; omega) fr2
      refine ⟨u', S', ?_, f⟩
      rw [e, hszs, esz]
      have : many + 1 + (Pt.sizes ys + Pt.sizes ps) = many + (Pt.sizes ys + (Pt.sizes ps + 1)) := by omega
      rw [this]
end Q
/-! T21: the law k25. -/
namespace Q
open Mw
variable {P : Pg}
theorem dr_ok {x : Pr} (h : x.dr) (hs : ∀ p ∈ bodies x, p.size ≤ 24) : x.ok := ⟨⟨h.main, by have := h.md; omega, hs _ (by simp [bodies])⟩, h.few, h.nd, fun y hy => ⟨(h.deed y hy).1, (h.deed y hy).2.1, by have := (h.deed y hy).2.2; omega, hs _ (by simp [bodies]; exact .inr ⟨y, hy, rfl⟩)⟩⟩
theorem prd {x : Pr} {S : Store} : idxR x.d (.int 0) S = .ok x.main.d S := rfl
theorem prd1 {x : Pr} {S : Store} : idxR x.d (.int 1) S = .ok (.tup (x.deeds.map Dd.d)) S := rfl
theorem Al_pr {x : Pr} (hm : x.main.ok (kvsOf x.deeds) ∧ x.main.depth ≤ 6) (hf : x.deeds.length ≤ 3) (hd : ∀ y ∈ x.deeds, y.ok ∧ y.body.ok (kvsOf x.deeds) ∧ y.body.depth ≤ 6) : Al 9 x.d := by
  have kv := kv3 (ds := x.deeds) fun y hy => by have := (hd y hy).1.2.1; omega
  refine ⟨by simp, fun d hd' => ?_⟩
  simp only [List.mem_cons, List.not_mem_nil, or_false] at hd'
  rcases hd' with rfl | rfl
  · exact Al_mono (Al_pt kv 6 x.main hm.1 hm.2) (by decide)
  · refine ⟨by simp; omega, fun d hd' => ?_⟩
    obtain ⟨y, hy, rfl⟩ := List.mem_map.mp hd'
    refine ⟨by simp, fun d hd' => ?_⟩
    simp only [List.mem_cons, List.not_mem_nil, or_false] at hd'
    rcases hd' with rfl | rfl | rfl
    · exact Al_s
    · refine ⟨?_, fun d hd' => ?_⟩
      · have := (hd y hy).1.2.1
        simp; omega
      · obtain ⟨c, _, rfl⟩ := List.mem_map.mp hd'
        exact Al_s
    · exact Al_pt kv 6 y.body (hd y hy).2.1 (hd y hy).2.2
structure HasAll (P : Pg) : Prop where
  rd : HasRd P
  d : HasD P
  b : HasB P
  t : HasT P
  z : HasZ P
  written : P.fns.lookup "written" = some G25.f_written
  loose : P.fns.lookup "_law_loose" = some G25.f__law_loose
  alike : P.fns.lookup "_law_alike" = some G21.f__law_alike
  law : P.fns.lookup "law" = some G25.f_law
theorem exs_unp {g : Cfg} {e : Xp} {is : List Nat} {ss : Sms} {l l1 : LEnv} {S S1 : Store} (d : D) (ds : List D) (h : ev g e l S = .ok d S1) (h1 : seqOf S1 d = some ds) (h2 : setAll is ds l = some l1) : exs g (.cons (.unp is e) ss) l S = exs g ss l1 S1 := by
  rw [exs_1, ex_1, h, then_ok, h1]
  dsimp only
  rw [h2]
  dsimp only
  rw [seq_nx]
theorem chk_ok {n : Nat} {e1 e2 : Xp} {b ss : Sms} {l : LEnv} {S : Store} {d : D} {F : En} (he : (ev (P.cfg n) e1 l S).sat fun z S' => z = d ∧ Fr [] S S') (he2 : ∀ S', ev (P.cfg n) e2 l S' = .ok d S') (ha : ∀ S, cfn P n "_law_alike" [d, d] S = .ok (.bl true) S)
    (k : ∀ S', Fr [] S S' → (exs (P.cfg n) ss l S').sat F) : (exs (P.cfg n) (.cons (.ite (.not (.call "_law_alike" [] (.cons e1 (.cons e2 .nil)))) b .nil) ss) l S).sat F := by
  refine st (st_if ?_)
  rw [ev_13, ev_17, evs_1]
  simp only [sat_bind]
  refine R.sat.mono he ?_
  rintro _ S1 ⟨rfl, fr⟩
  rw [evs_1, he2]
  simp [ha]
  exact k S1 fr
theorem read_text (h : HasAll P) (n : Nat) (S : Store) (x : Pr) (ok : x.ok) : (cfn P (n + 15) "read" [.str x.text] S).sat fun d S' => d = x.d ∧ Fr [] S S' := by
  have hl := (text_len ok).1
  have hj := joinL_len 10 x.rows
  refine read_ok h.rd n S x ok x.main.txt (x.deeds.map Dd.row) (lex_main ok) (by simp) (fun i r y hr hy => ?_) (fun p hp => (rows_cl ok p hp).2) (by show (joinL [10] x.rows).length ≤ _; omega)
  rw [List.getElem?_map, hy] at hr
  cases hr
  have hm := List.mem_of_getElem? hy
  exact lex_row (ok.deed y hm).1 (ok.deed y hm).2.1
theorem read_loose (h : HasAll P) (n : Nat) (S : Store) (x : Pr) (ok : x.ok) (L : List Nat) (hL : Lo false 97 x.text L) (hz : L.length ≤ 1000000) : (cfn P (n + 15) "read" [.str L] S).sat fun d S' => d = x.d ∧ Fr [] S S' := by
  obtain ⟨rows', rfl, h1, h2, h3⟩ := lo_rows x.rows (by simp [Pr.rows]) hL fun r hr => ⟨(rows_cl ok r hr).2, (rows_cl ok r hr).1⟩
  cases rows' with
  | nil => simp [Pr.rows] at h1
  | cons r0 rs =>
    refine read_ok h.rd n S x ok r0 rs ?_ (by simpa [Pr.rows] using h1) (fun i r y hr hy => ?_) h2 hz
    · rw [h3 0 x.main.txt r0 rfl rfl, lex_main ok]
    · have hm := List.mem_of_getElem? hy
      rw [h3 (i + 1) y.row r (by simp [Pr.rows, hy]) (by simpa using hr), lex_row (ok.deed y hm).1 (ok.deed y hm).2.1]
def turnB : Sms := match G25.b_law with
  | .cons _ (.cons (.fr _ _ _ b) _) => b
  | _ => .nil
def okB : Sms := match turnB with
  | .cons _ (.cons (.ite _ a _) _) => a
  | _ => .nil
theorem turnB_eq : turnB = .cons (.asg 3 (.call "_law_program" [] (.cons (.var 1) (.cons (.bin false .Add (.con (D.int 6)) (.call "_law_taken" [] (.cons (.var 1) (.cons (.con (D.int 18)) .nil)))) (.cons (.con (D.int 6)) .nil)))))
  (.cons (.ite (.call "_law_fault_free" [] (.cons (.var 3) .nil)) okB .nil) .nil) := rfl
abbrev alk (a b : Xp) : Sm := .ite (.not (.call "_law_alike" [] (.cons a (.cons b .nil)))) (.cons (.ret (.con (D.bl false))) .nil) .nil
def lastC : Xp := match dropS 10 okB with
  | .cons (.ite c _ _) _ => c
  | _ => .nop
theorem okB_eq : okB = .cons (.unp [4, 5] (.tup (.cons (.con (D.int 0)) (.cons (.bin true .Add (.lst false (.cons (.idx (.var 3) (.con (D.int 0))) .nil)) (.lc false [6] false (.seq (.idx (.var 3) (.con (D.int 1)))) (.idx (.var 6) (.con (D.int 2))) (.con (D.bl true)))) .nil))))
  (.cons (.whl ctC ctB)
  (.cons (alk (.call "size" [] (.cons (.var 3) .nil)) (.var 4))
  (.cons (.asg 7 (.lst true (.cons (.call "_law_part_text" [] (.cons (.idx (.var 3) (.con (D.int 0))) .nil)) .nil)))
  (.cons (.fr [8, 9, 10] true (.seq (.idx (.var 3) (.con (D.int 1)))) (.cons (.exp (.mtd .append (.var 7) (.cons (rowX (.con (D.str [100, 101, 101, 100])) 8 9 10 "_law_part_text") .nil))) .nil))
  (.cons (.asg 11 (.mtd .join (.con (D.str [10])) (.cons (.var 7) .nil)))
  (.cons (alk (.call "written" [] (.cons (.var 3) .nil)) (.var 11))
  (.cons (.fr [12] false (.rng1 (.con (D.int 2))) (.cons (alk (.call "read" [] (.cons (.var 11) .nil)) (.var 3)) .nil))
  (.cons (.asg 13 (.call "_law_loose" [] (.cons (.var 1) (.cons (.var 11) .nil))))
  (.cons (.ite (.or (.cons (.not (.call "_law_alike" [] (.cons (.call "read" [] (.cons (.var 13) .nil)) (.cons (.var 3) .nil)))) (.cons (.cmp .NotEq (.call "written" [] (.cons (.call "read" [] (.cons (.var 13) .nil)) .nil)) (.var 11)) .nil)))
    (.cons (.ret (.con (D.bl false))) .nil) .nil) .nil))))))))) := rfl
def ILaw (r : Nat) (scr : D) (l : LEnv) (S : Store) : Prop := (∃ a2 a3 a4 a5 a6 a7 a8 a9 a10 a11 a12 a13, l = [some scr, some (.ref r), a2, a3, a4, a5, a6, a7, a8, a9, a10, a11, a12, a13]) ∧ Row S r
theorem okB_ok (h : HasAll P) (n r : Nat) (scr : D) (x : Pr) (ok : x.ok) (a2 a4 a5 a6 a7 a8 a9 a10 a11 a12 a13 : Option D) (S : Store) (hr : Row S r) :
    (exs (P.cfg (n + 60)) okB [some scr, some (.ref r), a2, some x.d, a4, a5, a6, a7, a8, a9, a10, a11, a12, a13] S).sat { nx := ILaw r scr } := by
  have kv := kv3 (ds := x.deeds) fun y hy => by have := (ok.deed y hy).1.2.1; omega
  have few := ok.few
  have al : ∀ S, cfn P (n + 60) "_law_alike" [x.d, x.d] S = .ok (.bl true) S := fun S => alike_same h.alike 9 (n + 50) S x.d (Al_pr ⟨ok.main.1, ok.main.2.1⟩ few fun y hy => ⟨(ok.deed y hy).1, (ok.deed y hy).2.1, (ok.deed y hy).2.2.1⟩)
  have alS : ∀ s S, cfn P (n + 60) "_law_alike" [.str s, .str s] S = .ok (.bl true) S := fun s S => alike_same h.alike 0 (n + 59) S (.str s) Al_s
  have alI : ∀ i S, cfn P (n + 60) "_law_alike" [.int i, .int i] S = .ok (.bl true) S := fun i S => alike_same h.alike 0 (n + 59) S (.int i) Al_i
  obtain ⟨tl1, tl2, tl3⟩ := text_len ok
  have htx : x.text.length ≤ 100000 := by have := joinL_len 10 x.rows; show (joinL [10] x.rows).length ≤ _; omega
  rw [okB_eq]
  have bsz : Pt.sizes (bodies x) = x.size := by
    unfold bodies Pr.size
    rw [Pt.sizes]
    congr 1
    generalize x.deeds = ds
    induction ds with
    | nil => rfl
    | cons y ds ih => rw [List.map_cons, Pt.sizes, ih]; simp
  have bsl : x.size ≤ 100 := by
    unfold Pr.size
    have : ∀ ds : List Dd, (∀ y ∈ ds, y.body.size ≤ 24) → (ds.map fun y => y.body.size).sum ≤ 24 * ds.length := by
      intro ds
      induction ds with
      | nil => intro _; simp
      | cons y ds ih =>
        intro hh
        have := ih fun z hz => hh z (List.mem_cons_of_mem _ hz)
        have := hh y List.mem_cons_self
        simp only [List.map_cons, List.sum_cons, List.length_cons]
        omega
    have := this x.deeds fun y hy => (ok.deed y hy).2.2.2
    have := ok.main.2.2
    omega
  have boks : Pt.oks (kvsOf x.deeds) (bodies x) := by
    refine ⟨ok.main.1, ?_⟩
    have : ∀ ds : List Dd, (∀ y ∈ ds, y.body.ok (kvsOf x.deeds)) → Pt.oks (kvsOf x.deeds) (ds.map Dd.body) := by
      intro ds
      induction ds with
      | nil => intro _; trivial
      | cons y ds ih => exact fun hh => ⟨hh y List.mem_cons_self, ih fun z hz => hh z (List.mem_cons_of_mem _ hz)⟩
    exact this x.deeds fun y hy => (ok.deed y hy).2.1
  -- counting
  rw [exs_unp (S1 := S ++ [.lst (Pt.ds (bodies x))]) (.tup [.int ((0 : Nat) : Int), .ref S.length]) [.int ((0 : Nat) : Int), .ref S.length] (by
    have el : ev (P.cfg (n + 60)) (.lc false [6] false (.seq (.idx (.var 3) (.con (D.int 1)))) (.idx (.var 6) (.con (D.int 2))) (.con (D.bl true))) [some scr, some (.ref r), a2, some x.d, a4, a5, a6, a7, a8, a9, a10, a11, a12, a13] S = .ok (.lst (x.deeds.map fun y => y.body.d)) S := by
      have ei : ev (P.cfg (n + 60)) (.seq (.idx (.var 3) (.con (D.int 1)))) [some scr, some (.ref r), a2, some x.d, a4, a5, a6, a7, a8, a9, a10, a11, a12, a13] S = .ok (.tup (x.deeds.map Dd.d)) S := by simp [prd1]
      rw [ev_24, ei, bind_ok, items_t, bind_ok, lc_mapP Dd.d (fun y => y.body.d) (by simp; omega) (fun y hy => ⟨_, rfl, by simp, by simp [Dd.d]⟩)]
      rfl
    have em : ev (P.cfg (n + 60)) (.lst false (.cons (.idx (.var 3) (.con (D.int 0))) .nil)) [some scr, some (.ref r), a2, some x.d, a4, a5, a6, a7, a8, a9, a10, a11, a12, a13] S = .ok (.lst [x.main.d]) S := by simp [prd]
    rw [ev_4, evs_1, ev_2, bind_ok, evs_1, ev_7, em, bind_ok, el, bind_ok, add_l, if_pos (sizeOk_of (by simp; omega)), mkL_t, bind_ok, evs_0, bind_ok, bind_ok, bind_ok, if_pos (sizeOk_of (by simp))]
    have : Pt.ds (bodies x) = [x.main.d] ++ x.deeds.map fun y => y.body.d := by rw [ds_map]; simp [bodies]
    rw [this]
    rfl) rfl rfl]
  simp only [List.set_cons_succ, List.set_cons_zero]
  have hr0 := hr.mono (Fr.more [] S [.lst (Pt.ds (bodies x))]) (by simp)
  obtain ⟨u', S1, e0, fr1⟩ := count_loop h.b (kvsOf x.deeds) kv (n + 59) (fun a b => [some scr, some (.ref r), a2, some x.d, some a, some b, a6, a7, a8, a9, a10, a11, a12, a13]) (fun _ _ => rfl) (fun _ _ => rfl) (fun _ _ _ => rfl) (fun _ _ _ => rfl) S P.fuel (bodies x) 0 S.length (S ++ [MO.lst (Pt.ds (bodies x))])
    (by rw [bsz]; have := h.rd.fuel; omega) (by rw [bsz]; omega) boks (by simp) (Nat.le_refl _) (Fr.more _ _ _)
  have e1 : whlLoop (fun l1 S2 => (ev (P.cfg (n + 60)) ctC l1 S2).bind asB) (fun l1 S2 => exs (P.cfg (n + 60)) ctB l1 S2) (P.cfg (n + 60)).fuel [some scr, some (.ref r), a2, some x.d, some (.int ((0 : Nat) : Int)), some (.ref S.length), a6, a7, a8, a9, a10, a11, a12, a13] (S ++ [MO.lst (Pt.ds (bodies x))])
      = .nx [some scr, some (.ref r), a2, some x.d, some (.int ((0 + Pt.sizes (bodies x) : Nat) : Int)), some (.ref u'), a6, a7, a8, a9, a10, a11, a12, a13] S1 := e0
  rw [whl0 e1, bsz, Nat.zero_add]
  have hr1 := hr.mono fr1 (by simp)
  -- size
  refine chk_ok (d := .int x.size) ?_ (fun S => by simp) (fun S => alI _ S) fun S2 fr2 => ?_
  · simp
    exact size_ok h.z h.rd.n (n + 47) S1 x ok
  have hr2 := hr1.mono fr2 (by simp)
  -- the law's rows
  refine st ?_
  simp [prd]
  refine R.sat.mono (lpt_ok h.t (kvsOf x.deeds) kv 6 (n + 53) S2 x.main ok.main.1 ok.main.2.1 (by have := ok.main.2.2; omega)) ?_
  rintro _ S3 ⟨rfl, fr3⟩
  have hr3 := hr2.mono fr3 (by simp)
  try simp
  refine st ?_
  rw [ex_10]
  simp [prd1]
  refine deeds_loop (L := fun a b c => [some scr, some (.ref r), a2, some x.d, some (.int x.size), some (.ref u'), a6, some (.ref S3.length), a, b, c, a11, a12, a13]) (r := S3.length) (z0 := x.main.txt) (ds := x.deeds) ok.few (fun _ _ _ _ _ _ => rfl) (fun _ _ _ => rfl) (fun _ _ _ => rfl) (fun _ _ _ => rfl) (fun _ _ _ => rfl) (fun _ _ _ S => by simp [deedW]) (by simp)
    (fun y hy => ⟨(tl3 y hy).1, (tl3 y hy).2.1, by have := (tl3 y hy).2.2; omega, fun S => lpt_ok h.t (kvsOf x.deeds) kv 6 (n + 53) S y.body (ok.deed y hy).2.1 (ok.deed y hy).2.2.1 (by have := (ok.deed y hy).2.2.2; omega)⟩) ?_
  intro b8 b9 b10 S4 hrow fr4
  have hrl : r < S3.length := by obtain ⟨_, _, _, _, hs, _⟩ := hr3; exact (List.getElem?_eq_some_iff.mp hs).1
  have hr4 : Row S4 r := (hr3.mono (Fr.more [] S3 [MO.lst [D.str x.main.txt]]) (by simp)).mono fr4 (by simp; omega)
  dsimp only
  have hs := sum_le x.rows
  have hrow' : S4[S3.length]? = some (.lst (x.rows.map D.str)) := hrow
  have hj := join_ref (S := S4) (a := [10]) hrow' (by simp only [List.length_cons, List.length_nil]; omega)
  rw [asg0 (.str x.text) (by simp [hj]; rfl)]
  simp only [List.set_cons_succ, List.set_cons_zero]
  -- written
  refine chk_ok (d := .str x.text) ?_ (fun S => by simp) (fun S => alS _ S) fun S5 fr5 => ?_
  · simp
    exact written_ok h.t h.rd.n h.written (n + 47) S4 x ok
  have hr5 := hr4.mono fr5 (by simp)
  -- read, twice
  refine st ?_
  rw [ex_10]
  simp
  refine for_sat0 (fun i l S => (∃ a12, l = [some scr, some (.ref r), a2, some x.d, some (.int x.size), some (.ref u'), a6, some (.ref S3.length), b8, b9, b10, some (.str x.text), a12, a13]) ∧ Row S r) ?_ ?_ ?_
  · exact ⟨⟨_, rfl⟩, hr5⟩
  · rintro i d l S6 hd ⟨⟨b12, rfl⟩, hr6⟩
    refine ⟨_, rfl, ?_⟩
    refine chk_ok (d := x.d) ?_ (fun S => by simp) (fun S => al S) fun S7 fr7 => ?_
    · simp
      exact read_text h (n + 45) S6 x ok
    · rw [exs_0, sat_nx]
      exact ⟨⟨_, rfl⟩, hr6.mono fr7 (by simp)⟩
  · rintro l S6 ⟨⟨b12, rfl⟩, hr6⟩
    dsimp only
    -- loose
    refine st ?_
    simp
    refine R.sat.mono (loose_ok h.d h.loose (n + 58) r x.text htx S6 hr6) ?_
    rintro _ S7 ⟨L, rfl, hL, hLl, hr7, fr7⟩
    have rl := fun S => read_loose h (n + 45) S x ok L hL (by omega)
    refine st (st_if ?_)
    rw [ev_12, evOr_2]
    simp
    refine R.sat.mono (rl S7) ?_
    rintro _ S8 ⟨rfl, fr8⟩
    simp [al]
    refine R.sat.mono (rl S8) ?_
    rintro _ S9 ⟨rfl, fr9⟩
    try simp
    refine R.sat.mono (written_ok h.t h.rd.n h.written (n + 47) S9 x ok) ?_
    rintro _ S10 ⟨rfl, fr10⟩
    simp
    exact ⟨⟨_, _, _, _, _, _, _, _, _, _, _, _, rfl⟩, ((hr7.mono fr8 (by simp)).mono fr9 (by simp)).mono fr10 (by simp)⟩
theorem turn_ok (h : HasAll P) (n r : Nat) (scr : D) (l : LEnv) (S : Store) (hl : ILaw r scr l S) : (exs (P.cfg (n + 60)) turnB l S).sat { nx := ILaw r scr } := by
  obtain ⟨⟨a2, a3, a4, a5, a6, a7, a8, a9, a10, a11, a12, a13, rfl⟩, hr⟩ := hl
  rw [turnB_eq]
  refine st ?_
  try simp
  refine R.sat.mono (taken_ok h.d _ S r 18 hr (by omega) (by omega)) ?_
  rintro _ S1 ⟨j, rfl, j0, j1, hr1, fr1⟩
  try simp
  refine R.sat.mono (program_ok h.d (n + 52) r S1 (6 + j) 6 hr1) ?_
  rintro _ S2 ⟨x, rfl, dr, hr2, fr2⟩
  refine st (st_if ?_)
  have e : ev (P.cfg (n + 60)) (.call "_law_fault_free" [] (.cons (.var 3) .nil)) [some scr, some (.ref r), a2, some x.d, a4, a5, a6, a7, a8, a9, a10, a11, a12, a13] S2 = cfn P (n + 60) "_law_fault_free" [x.d] S2 := by simp
  simp only [List.set_cons_succ, List.set_cons_zero]
  rw [e]
  refine R.sat.mono (fault_ok h.b (by have := h.rd.fuel; omega) (n + 58) S2 x dr) ?_
  rintro _ S3 ⟨b, rfl, hb, fr⟩
  have hr3 := hr2.mono fr (by simp)
  cases b with
  | false =>
    refine ⟨false, rfl, ?_⟩
    rw [if_neg Bool.false_ne_true]
    try simp
    exact ⟨⟨_, _, _, _, _, _, _, _, _, _, _, _, rfl⟩, hr3⟩
  | true =>
    have ok := dr_ok dr (hb rfl)
    refine ⟨true, rfl, ?_⟩
    rw [if_pos rfl]
    refine RS.sat.mono (okB_ok h n r scr x ok a2 a4 a5 a6 a7 a8 a9 a10 a11 a12 a13 S3 hr3) (fun l S hh => ?_) (fun _ _ h => h.elim) (fun _ _ h => h.elim) (fun _ _ h => h.elim) (fun _ _ _ h => h.elim)
    dsimp only
    rw [exs_0]
    exact hh
theorem law_ok (h : HasAll P) (n : Nat) (ns : List Int) (S : Store) : (cfn P (n + 61) "law" [.scr ns] S).sat fun d S' => d = .bl true := by
  rw [cfn_succ, h.law]
  unfold G25.f_law
  try simp [Mw.run]
  have e : G25.b_law = .cons (.asg 1 (.call "_law_row" [] (.cons (.var 0) .nil))) (.cons (.fr [2] false (.rng1 (.con (D.int 4))) turnB) (.cons (.ret (.con (D.bl true))) .nil)) := rfl
  rw [e]
  refine st ?_
  try simp
  refine R.sat.mono (row_ok h.d _ S ns) ?_
  rintro _ S1 ⟨rfl, hr, fr⟩
  refine st ?_
  rw [ex_10]
  try simp
  refine for_sat0 (fun i l S' => ILaw S.length (.scr ns) l S') ?_ ?_ ?_
  · exact ⟨⟨_, _, _, _, _, _, _, _, _, _, _, _, rfl⟩, hr⟩
  · rintro i d l S2 hd hl
    obtain ⟨⟨a2, a3, a4, a5, a6, a7, a8, a9, a10, a11, a12, a13, rfl⟩, hr⟩ := hl
    refine ⟨_, rfl, ?_⟩
    exact RS.sat.mono (turn_ok h n S.length (.scr ns) _ S2 ⟨⟨_, _, _, _, _, _, _, _, _, _, _, _, rfl⟩, hr⟩) (fun _ _ h => h) (fun _ _ h => h.elim) (fun _ _ h => h.elim) (fun _ _ h => h.elim)
  · rintro l S2 ⟨⟨a2, a3, a4, a5, a6, a7, a8, a9, a10, a11, a12, a13, rfl⟩, hr⟩
    dsimp only
    rw [ret0 (.bl true) (by simp), sat_rt]
end Q
/-! L25: the law k25 as a promise. -/
namespace G25
open PySem PySem.Spec PyProof.Rows L2 Mw
theorem hasN : Q.HasN pg := { is_number := rfl, is_text := rfl, is_worth := rfl, is_cell := rfl, is_name := rfl, is_form := rfl, inner_parts := rfl, need_part := rfl, is_head := rfl, need_program := rfl }
theorem has : Q.HasAll pg where
  rd := ⟨⟨rfl, rfl, rfl, rfl, rfl, rfl, rfl, rfl, rfl, rfl, rfl, rfl, rfl, rfl, rfl, rfl⟩, hasN, rfl, rfl, by decide⟩
  d := ⟨rfl, rfl, rfl, rfl, rfl, rfl⟩
  b := ⟨rfl, rfl⟩
  t := ⟨rfl, rfl, rfl⟩
  z := ⟨rfl, rfl, rfl⟩
  written := rfl
  loose := rfl
  alike := rfl
  law := rfl
theorem law_sp {K : PySem.W.Frag} {H : Hp} {a : Addr} {ns : List Int} {E : XK} {Q : VK} (ca : String → Option Addr) (hS : SqL K H a (ns.map V.int)) (hO : Only H) (hQ : ∀ H', Q (.bl true) H') :
    ∃ W S xs, Vis K W xs [.ref a] ∧ Rl K ca W S H ∧ Po K ca W E (Vi K) Q (cfn pg 61 "law" xs S) := by
  refine ⟨⟨H, fun _ => none, []⟩, [], [.scr ns], .cons (.scr hS) .nil, ⟨Same.refl _, fun _ _ e => (by cases e), fun _ _ e => (by cases e), rfl, List.nodup_nil, fun n a o e _ => (by simp at e), fun a h => (by cases h)⟩, ?_⟩
  have h := _root_.Q.law_ok has 0 ns []
  rw [Nat.zero_add] at h
  cases hc : cfn pg 61 "law" [.scr ns] [] with
  | ok d S =>
    rw [hc] at h
    have h' : d = .bl true := h
    subst h'
    intro W' b H' _ _ hv
    cases hv
    exact hQ H'
  | exc e S => rw [hc] at h; exact (show False from h).elim
  | bad => rw [hc] at h; exact (show False from h).elim
end G25
namespace G25
open PySem Mw L2
def top (i : Nat) : Stmt := PySem.Challenge.pw_manyworth_k25_parts_counted_and_written.main.body.getD i (.Pass ⟨0, 0, 0, 0⟩)
abbrev s_is_number : Stmt := (top 20)
theorem c_is_number : chkSs tb ⟨n_is_number, (defScope s_is_number).names, none⟩ b_is_number (defBody s_is_number) = true := by decide +kernel
abbrev p_is_number : List Str := [nm "part", nm "low", nm "high"]
theorem sc_is_number : FnScope n_is_number p_is_number (defScope s_is_number) := ⟨by decide +kernel, by decide +kernel, by decide +kernel, by decide +kernel, by decide +kernel, by decide +kernel, by decide +kernel⟩
abbrev s_is_text : Stmt := (top 21)
theorem c_is_text : chkSs tb ⟨n_is_text, (defScope s_is_text).names, none⟩ b_is_text (defBody s_is_text) = true := by decide +kernel
abbrev p_is_text : List Str := [nm "part"]
theorem sc_is_text : FnScope n_is_text p_is_text (defScope s_is_text) := ⟨by decide +kernel, by decide +kernel, by decide +kernel, by decide +kernel, by decide +kernel, by decide +kernel, by decide +kernel⟩
abbrev s_is_worth : Stmt := (top 22)
theorem c_is_worth : chkSs tb ⟨n_is_worth, (defScope s_is_worth).names, none⟩ b_is_worth (defBody s_is_worth) = true := by decide +kernel
abbrev p_is_worth : List Str := [nm "part"]
theorem sc_is_worth : FnScope n_is_worth p_is_worth (defScope s_is_worth) := ⟨by decide +kernel, by decide +kernel, by decide +kernel, by decide +kernel, by decide +kernel, by decide +kernel, by decide +kernel⟩
abbrev s_is_cell : Stmt := (top 23)
theorem c_is_cell : chkSs tb ⟨n_is_cell, (defScope s_is_cell).names, none⟩ b_is_cell (defBody s_is_cell) = true := by decide +kernel
abbrev p_is_cell : List Str := [nm "part"]
theorem sc_is_cell : FnScope n_is_cell p_is_cell (defScope s_is_cell) := ⟨by decide +kernel, by decide +kernel, by decide +kernel, by decide +kernel, by decide +kernel, by decide +kernel, by decide +kernel⟩
abbrev s_is_name : Stmt := (top 24)
theorem c_is_name : chkSs tb ⟨n_is_name, (defScope s_is_name).names, none⟩ b_is_name (defBody s_is_name) = true := by decide +kernel
abbrev p_is_name : List Str := [nm "part"]
theorem sc_is_name : FnScope n_is_name p_is_name (defScope s_is_name) := ⟨by decide +kernel, by decide +kernel, by decide +kernel, by decide +kernel, by decide +kernel, by decide +kernel, by decide +kernel⟩
abbrev s_inner_parts : Stmt := (top 25)
theorem c_inner_parts : chkSs tb ⟨n_inner_parts, (defScope s_inner_parts).names, none⟩ b_inner_parts (defBody s_inner_parts) = true := by decide +kernel
abbrev p_inner_parts : List Str := [nm "part"]
theorem sc_inner_parts : FnScope n_inner_parts p_inner_parts (defScope s_inner_parts) := ⟨by decide +kernel, by decide +kernel, by decide +kernel, by decide +kernel, by decide +kernel, by decide +kernel, by decide +kernel⟩
abbrev s_is_form : Stmt := (top 26)
theorem c_is_form : chkSs tb ⟨n_is_form, (defScope s_is_form).names, none⟩ b_is_form (defBody s_is_form) = true := by decide +kernel
abbrev p_is_form : List Str := [nm "part", nm "deeds"]
theorem sc_is_form : FnScope n_is_form p_is_form (defScope s_is_form) := ⟨by decide +kernel, by decide +kernel, by decide +kernel, by decide +kernel, by decide +kernel, by decide +kernel, by decide +kernel⟩
abbrev s_need_part : Stmt := (top 27)
theorem c_need_part : chkSs tb ⟨n_need_part, (defScope s_need_part).names, none⟩ b_need_part (defBody s_need_part) = true := by decide +kernel
abbrev p_need_part : List Str := [nm "part", nm "deeds", nm "path", nm "met"]
theorem sc_need_part : FnScope n_need_part p_need_part (defScope s_need_part) := ⟨by decide +kernel, by decide +kernel, by decide +kernel, by decide +kernel, by decide +kernel, by decide +kernel, by decide +kernel⟩
abbrev s_is_head : Stmt := (top 28)
theorem c_is_head : chkSs tb ⟨n_is_head, (defScope s_is_head).names, none⟩ b_is_head (defBody s_is_head) = true := by decide +kernel
abbrev p_is_head : List Str := [nm "deed", nm "known"]
theorem sc_is_head : FnScope n_is_head p_is_head (defScope s_is_head) := ⟨by decide +kernel, by decide +kernel, by decide +kernel, by decide +kernel, by decide +kernel, by decide +kernel, by decide +kernel⟩
abbrev s_need_program : Stmt := (top 29)
theorem c_need_program : chkSs tb ⟨n_need_program, (defScope s_need_program).names, none⟩ b_need_program (defBody s_need_program) = true := by decide +kernel
abbrev p_need_program : List Str := [nm "program"]
theorem sc_need_program : FnScope n_need_program p_need_program (defScope s_need_program) := ⟨by decide +kernel, by decide +kernel, by decide +kernel, by decide +kernel, by decide +kernel, by decide +kernel, by decide +kernel⟩
abbrev s_worth_text : Stmt := (top 36)
theorem c_worth_text : chkSs tb ⟨n_worth_text, (defScope s_worth_text).names, none⟩ b_worth_text (defBody s_worth_text) = true := by decide +kernel
abbrev p_worth_text : List Str := [nm "worth"]
theorem sc_worth_text : FnScope n_worth_text p_worth_text (defScope s_worth_text) := ⟨by decide +kernel, by decide +kernel, by decide +kernel, by decide +kernel, by decide +kernel, by decide +kernel, by decide +kernel⟩
abbrev s_part_text : Stmt := (top 37)
theorem c_part_text : chkSs tb ⟨n_part_text, (defScope s_part_text).names, none⟩ b_part_text (defBody s_part_text) = true := by decide +kernel
abbrev p_part_text : List Str := [nm "part"]
theorem sc_part_text : FnScope n_part_text p_part_text (defScope s_part_text) := ⟨by decide +kernel, by decide +kernel, by decide +kernel, by decide +kernel, by decide +kernel, by decide +kernel, by decide +kernel⟩
abbrev s_written : Stmt := (top 38)
theorem c_written : chkSs tb ⟨n_written, (defScope s_written).names, none⟩ b_written (defBody s_written) = true := by decide +kernel
abbrev p_written : List Str := [nm "program"]
theorem sc_written : FnScope n_written p_written (defScope s_written) := ⟨by decide +kernel, by decide +kernel, by decide +kernel, by decide +kernel, by decide +kernel, by decide +kernel, by decide +kernel⟩
abbrev s_words_of : Stmt := (top 39)
theorem c_words_of : chkSs tb ⟨n_words_of, (defScope s_words_of).names, none⟩ b_words_of (defBody s_words_of) = true := by decide +kernel
abbrev p_words_of : List Str := [nm "line"]
theorem sc_words_of : FnScope n_words_of p_words_of (defScope s_words_of) := ⟨by decide +kernel, by decide +kernel, by decide +kernel, by decide +kernel, by decide +kernel, by decide +kernel, by decide +kernel⟩
abbrev s_Reader_d___init__ : Stmt := (inClass (top 40) 0)
theorem c_Reader_d___init__ : chkSs tb ⟨n_Reader_d___init__, (defScope s_Reader_d___init__).names, none⟩ b_Reader_d___init__ (defBody s_Reader_d___init__) = true := by decide +kernel
abbrev p_Reader_d___init__ : List Str := [nm "self", nm "words", nm "ahead"]
theorem sc_Reader_d___init__ : FnScope n_Reader_d___init__ p_Reader_d___init__ (defScope s_Reader_d___init__) := ⟨by decide +kernel, by decide +kernel, by decide +kernel, by decide +kernel, by decide +kernel, by decide +kernel, by decide +kernel⟩
abbrev s_Reader_d_take : Stmt := (inClass (top 40) 1)
theorem c_Reader_d_take : chkSs tb ⟨n_Reader_d_take, (defScope s_Reader_d_take).names, none⟩ b_Reader_d_take (defBody s_Reader_d_take) = true := by decide +kernel
abbrev p_Reader_d_take : List Str := [nm "self"]
theorem sc_Reader_d_take : FnScope n_Reader_d_take p_Reader_d_take (defScope s_Reader_d_take) := ⟨by decide +kernel, by decide +kernel, by decide +kernel, by decide +kernel, by decide +kernel, by decide +kernel, by decide +kernel⟩
abbrev s_Reader_d_must : Stmt := (inClass (top 40) 2)
theorem c_Reader_d_must : chkSs tb ⟨n_Reader_d_must, (defScope s_Reader_d_must).names, none⟩ b_Reader_d_must (defBody s_Reader_d_must) = true := by decide +kernel
abbrev p_Reader_d_must : List Str := [nm "self", nm "good"]
theorem sc_Reader_d_must : FnScope n_Reader_d_must p_Reader_d_must (defScope s_Reader_d_must) := ⟨by decide +kernel, by decide +kernel, by decide +kernel, by decide +kernel, by decide +kernel, by decide +kernel, by decide +kernel⟩
abbrev s_Reader_d_whole : Stmt := (inClass (top 40) 3)
theorem c_Reader_d_whole : chkSs tb ⟨n_Reader_d_whole, (defScope s_Reader_d_whole).names, none⟩ b_Reader_d_whole (defBody s_Reader_d_whole) = true := by decide +kernel
abbrev p_Reader_d_whole : List Str := [nm "self"]
theorem sc_Reader_d_whole : FnScope n_Reader_d_whole p_Reader_d_whole (defScope s_Reader_d_whole) := ⟨by decide +kernel, by decide +kernel, by decide +kernel, by decide +kernel, by decide +kernel, by decide +kernel, by decide +kernel⟩
abbrev s_Reader_d_one_part : Stmt := (inClass (top 40) 4)
theorem c_Reader_d_one_part : chkSs tb ⟨n_Reader_d_one_part, (defScope s_Reader_d_one_part).names, none⟩ b_Reader_d_one_part (defBody s_Reader_d_one_part) = true := by decide +kernel
abbrev p_Reader_d_one_part : List Str := [nm "self"]
theorem sc_Reader_d_one_part : FnScope n_Reader_d_one_part p_Reader_d_one_part (defScope s_Reader_d_one_part) := ⟨by decide +kernel, by decide +kernel, by decide +kernel, by decide +kernel, by decide +kernel, by decide +kernel, by decide +kernel⟩
abbrev s_Reader_d_heads : Stmt := (inClass (top 40) 5)
theorem c_Reader_d_heads : chkSs tb ⟨n_Reader_d_heads, (defScope s_Reader_d_heads).names, none⟩ b_Reader_d_heads (defBody s_Reader_d_heads) = true := by decide +kernel
abbrev p_Reader_d_heads : List Str := [nm "self", nm "word"]
theorem sc_Reader_d_heads : FnScope n_Reader_d_heads p_Reader_d_heads (defScope s_Reader_d_heads) := ⟨by decide +kernel, by decide +kernel, by decide +kernel, by decide +kernel, by decide +kernel, by decide +kernel, by decide +kernel⟩
abbrev s_Reader_d_worth : Stmt := (inClass (top 40) 6)
theorem c_Reader_d_worth : chkSs tb ⟨n_Reader_d_worth, (defScope s_Reader_d_worth).names, none⟩ b_Reader_d_worth (defBody s_Reader_d_worth) = true := by decide +kernel
abbrev p_Reader_d_worth : List Str := [nm "self"]
theorem sc_Reader_d_worth : FnScope n_Reader_d_worth p_Reader_d_worth (defScope s_Reader_d_worth) := ⟨by decide +kernel, by decide +kernel, by decide +kernel, by decide +kernel, by decide +kernel, by decide +kernel, by decide +kernel⟩
abbrev s_Reader_d_number : Stmt := (inClass (top 40) 7)
theorem c_Reader_d_number : chkSs tb ⟨n_Reader_d_number, (defScope s_Reader_d_number).names, none⟩ b_Reader_d_number (defBody s_Reader_d_number) = true := by decide +kernel
abbrev p_Reader_d_number : List Str := [nm "self", nm "word"]
theorem sc_Reader_d_number : FnScope n_Reader_d_number p_Reader_d_number (defScope s_Reader_d_number) := ⟨by decide +kernel, by decide +kernel, by decide +kernel, by decide +kernel, by decide +kernel, by decide +kernel, by decide +kernel⟩
abbrev s_read : Stmt := (top 41)
theorem c_read : chkSs tb ⟨n_read, (defScope s_read).names, none⟩ b_read (defBody s_read) = true := by decide +kernel
abbrev p_read : List Str := [nm "text"]
theorem sc_read : FnScope n_read p_read (defScope s_read) := ⟨by decide +kernel, by decide +kernel, by decide +kernel, by decide +kernel, by decide +kernel, by decide +kernel, by decide +kernel⟩
abbrev s_size_of : Stmt := (top 43)
theorem c_size_of : chkSs tb ⟨n_size_of, (defScope s_size_of).names, none⟩ b_size_of (defBody s_size_of) = true := by decide +kernel
abbrev p_size_of : List Str := [nm "part"]
theorem sc_size_of : FnScope n_size_of p_size_of (defScope s_size_of) := ⟨by decide +kernel, by decide +kernel, by decide +kernel, by decide +kernel, by decide +kernel, by decide +kernel, by decide +kernel⟩
abbrev s_size : Stmt := (top 44)
theorem c_size : chkSs tb ⟨n_size, (defScope s_size).names, none⟩ b_size (defBody s_size) = true := by decide +kernel
abbrev p_size : List Str := [nm "program"]
theorem sc_size : FnScope n_size p_size (defScope s_size) := ⟨by decide +kernel, by decide +kernel, by decide +kernel, by decide +kernel, by decide +kernel, by decide +kernel, by decide +kernel⟩
abbrev s__law_row : Stmt := (top 46)
theorem c__law_row : chkSs tb ⟨n__law_row, (defScope s__law_row).names, none⟩ b__law_row (defBody s__law_row) = true := by decide +kernel
abbrev p__law_row : List Str := [nm "_law_script"]
theorem sc__law_row : FnScope n__law_row p__law_row (defScope s__law_row) := ⟨by decide +kernel, by decide +kernel, by decide +kernel, by decide +kernel, by decide +kernel, by decide +kernel, by decide +kernel⟩
abbrev s__law_taken : Stmt := (top 47)
theorem c__law_taken : chkSs tb ⟨n__law_taken, (defScope s__law_taken).names, none⟩ b__law_taken (defBody s__law_taken) = true := by decide +kernel
abbrev p__law_taken : List Str := [nm "_law_row_here", nm "_law_many"]
theorem sc__law_taken : FnScope n__law_taken p__law_taken (defScope s__law_taken) := ⟨by decide +kernel, by decide +kernel, by decide +kernel, by decide +kernel, by decide +kernel, by decide +kernel, by decide +kernel⟩
abbrev s__law_text : Stmt := (top 48)
theorem c__law_text : chkSs tb ⟨n__law_text, (defScope s__law_text).names, none⟩ b__law_text (defBody s__law_text) = true := by decide +kernel
abbrev p__law_text : List Str := [nm "_law_row_here", nm "_law_wished"]
theorem sc__law_text : FnScope n__law_text p__law_text (defScope s__law_text) := ⟨by decide +kernel, by decide +kernel, by decide +kernel, by decide +kernel, by decide +kernel, by decide +kernel, by decide +kernel⟩
abbrev s__law_number : Stmt := (top 49)
theorem c__law_number : chkSs tb ⟨n__law_number, (defScope s__law_number).names, none⟩ b__law_number (defBody s__law_number) = true := by decide +kernel
abbrev p__law_number : List Str := [nm "_law_row_here"]
theorem sc__law_number : FnScope n__law_number p__law_number (defScope s__law_number) := ⟨by decide +kernel, by decide +kernel, by decide +kernel, by decide +kernel, by decide +kernel, by decide +kernel, by decide +kernel⟩
abbrev s__law_part : Stmt := (top 50)
theorem c__law_part : chkSs tb ⟨n__law_part, (defScope s__law_part).names, none⟩ b__law_part (defBody s__law_part) = true := by decide +kernel
abbrev p__law_part : List Str := [nm "_law_row_here", nm "_law_kind", nm "_law_deep", nm "_law_left", nm "_law_names"]
theorem sc__law_part : FnScope n__law_part p__law_part (defScope s__law_part) := ⟨by decide +kernel, by decide +kernel, by decide +kernel, by decide +kernel, by decide +kernel, by decide +kernel, by decide +kernel⟩
abbrev s__law_program : Stmt := (top 51)
theorem c__law_program : chkSs tb ⟨n__law_program, (defScope s__law_program).names, none⟩ b__law_program (defBody s__law_program) = true := by decide +kernel
abbrev p__law_program : List Str := [nm "_law_row_here", nm "_law_many", nm "_law_calls"]
theorem sc__law_program : FnScope n__law_program p__law_program (defScope s__law_program) := ⟨by decide +kernel, by decide +kernel, by decide +kernel, by decide +kernel, by decide +kernel, by decide +kernel, by decide +kernel⟩
abbrev s__law_within : Stmt := (top 52)
theorem c__law_within : chkSs tb ⟨n__law_within, (defScope s__law_within).names, none⟩ b__law_within (defBody s__law_within) = true := by decide +kernel
abbrev p__law_within : List Str := [nm "_law_part_here"]
theorem sc__law_within : FnScope n__law_within p__law_within (defScope s__law_within) := ⟨by decide +kernel, by decide +kernel, by decide +kernel, by decide +kernel, by decide +kernel, by decide +kernel, by decide +kernel⟩
abbrev s__law_fault_free : Stmt := (top 53)
theorem c__law_fault_free : chkSs tb ⟨n__law_fault_free, (defScope s__law_fault_free).names, none⟩ b__law_fault_free (defBody s__law_fault_free) = true := by decide +kernel
abbrev p__law_fault_free : List Str := [nm "_law_program_here"]
theorem sc__law_fault_free : FnScope n__law_fault_free p__law_fault_free (defScope s__law_fault_free) := ⟨by decide +kernel, by decide +kernel, by decide +kernel, by decide +kernel, by decide +kernel, by decide +kernel, by decide +kernel⟩
abbrev s__law_alike : Stmt := (top 54)
theorem c__law_alike : chkSs tb ⟨n__law_alike, (defScope s__law_alike).names, none⟩ b__law_alike (defBody s__law_alike) = true := by decide +kernel
abbrev p__law_alike : List Str := [nm "_law_found", nm "_law_due"]
theorem sc__law_alike : FnScope n__law_alike p__law_alike (defScope s__law_alike) := ⟨by decide +kernel, by decide +kernel, by decide +kernel, by decide +kernel, by decide +kernel, by decide +kernel, by decide +kernel⟩
abbrev s__law_part_text : Stmt := (top 55)
theorem c__law_part_text : chkSs tb ⟨n__law_part_text, (defScope s__law_part_text).names, none⟩ b__law_part_text (defBody s__law_part_text) = true := by decide +kernel
abbrev p__law_part_text : List Str := [nm "_law_part_here"]
theorem sc__law_part_text : FnScope n__law_part_text p__law_part_text (defScope s__law_part_text) := ⟨by decide +kernel, by decide +kernel, by decide +kernel, by decide +kernel, by decide +kernel, by decide +kernel, by decide +kernel⟩
abbrev s__law_loose : Stmt := (top 56)
theorem c__law_loose : chkSs tb ⟨n__law_loose, (defScope s__law_loose).names, none⟩ b__law_loose (defBody s__law_loose) = true := by decide +kernel
abbrev p__law_loose : List Str := [nm "_law_row_here", nm "_law_text_here"]
theorem sc__law_loose : FnScope n__law_loose p__law_loose (defScope s__law_loose) := ⟨by decide +kernel, by decide +kernel, by decide +kernel, by decide +kernel, by decide +kernel, by decide +kernel, by decide +kernel⟩
abbrev s_law : Stmt := (top 57)
theorem c_law : chkSs tb ⟨n_law, (defScope s_law).names, none⟩ b_law (defBody s_law) = true := by decide +kernel
abbrev p_law : List Str := [nm "_law_script"]
theorem sc_law : FnScope n_law p_law (defScope s_law) := ⟨by decide +kernel, by decide +kernel, by decide +kernel, by decide +kernel, by decide +kernel, by decide +kernel, by decide +kernel⟩
abbrev s_xBadProgram : Stmt := (inClass (top 2) 0)
theorem sc_xBadProgram : FnScope [nm "self", nm "path"] [nm "self", nm "path"] (defScope s_xBadProgram) := ⟨by decide +kernel, by decide +kernel, by decide +kernel, by decide +kernel, by decide +kernel, by decide +kernel, by decide +kernel⟩
abbrev s_xBadText : Stmt := (inClass (top 3) 0)
theorem sc_xBadText : FnScope [nm "self", nm "word"] [nm "self", nm "word"] (defScope s_xBadText) := ⟨by decide +kernel, by decide +kernel, by decide +kernel, by decide +kernel, by decide +kernel, by decide +kernel, by decide +kernel⟩
end G25
/-! the end: what the top has written. Printed by mkend.py. -/
namespace G25
open PySem PySem.Spec PyProof.Rows L2 Mw
def Lk.LAll {α : Type} (p : α → Prop) : List α → Prop
  | [] => True
  | x :: xs => p x ∧ Lk.LAll p xs
theorem Lk.all {α : Type} {p : α → Prop} : ∀ {xs : List α}, Lk.LAll p xs → ∀ x ∈ xs, p x
  | [], _, _, h => by cases h
  | y :: xs, h, x, hx => by
    rcases List.mem_cons.mp hx with rfl | hx
    · exact h.1
    · exact Lk.all h.2 x hx
theorem Lk.mem {β : Type} {k : String} {v : β} : ∀ {l : List (String × β)}, l.lookup k = some v → (k, v) ∈ l
  | [], h => by cases h
  | (k', v') :: l, h => by
    rw [List.lookup_cons] at h
    split at h
    · rename_i e
      cases h
      have e' : k = k' := by simpa using e
      rw [e']
      exact List.mem_cons_self
    · exact List.mem_cons_of_mem _ (Lk.mem h)
/-- a def as the top has written it -/
def DefAt (K : PySem.W.Frag) (x qual : Str) (st : Stmt) (f : Addr) : Prop := ∃ (oc : Value) (od : Option Addr) (dV kV doc pm : Value) (an : Option Addr) (cdv ct : Value) (osl : Array (Option Value)),
  K.lookup f = some ⟨oc, od, .func (PySem.W.fnOf x qual (defArgs st) (defBody st) (defScope st) dV kV doc pm an cdv ct), osl⟩ ∧ PySem.W.codeIn K cdv qual = true ∧ PySem.W.keepIn K (.ref f) = true ∧ dV = .none
/-- one that has a default -/
def DefAt1 (K : PySem.W.Frag) (x qual : Str) (st : Stmt) (f : Addr) (i : Int) : Prop := ∃ (oc : Value) (od : Option Addr) (dV kV doc pm : Value) (an : Option Addr) (cdv ct : Value) (osl : Array (Option Value)) (T : Addr) (o : Obj) (t : Tok) (n : Nat),
  K.lookup f = some ⟨oc, od, .func (PySem.W.fnOf x qual (defArgs st) (defBody st) (defScope st) dV kV doc pm an cdv ct), osl⟩ ∧ PySem.W.codeIn K cdv qual = true ∧ PySem.W.keepIn K (.ref f) = true ∧ dV = .ref T ∧ K.lookup T = some o ∧ o.data = .seq [Value.int i t].toArray n
def IntAt (K : PySem.W.Frag) (x : Str) (i : Int) : Prop := ∃ t, PySem.W.nsIn K mainGlobals x = some (some (.int i t))
def StrAt (K : PySem.W.Frag) (x : Str) (s : List Nat) : Prop := ∃ t, PySem.W.nsIn K mainGlobals x = some (some (.str (tx s) t))
def TupAt (K : PySem.W.Frag) (x : Str) (ss : List (List Nat)) : Prop := ∃ a od n osl its, PySem.W.nsIn K mainGlobals x = some (some (.ref a)) ∧ K.lookup a = some ⟨.type "tuple", od, .seq its n, osl⟩ ∧ its.size ≤ sizeLine ∧ Paired (fun (s : List Nat) u => ∃ t, u = Value.str (tx s) t) ss its.toList
theorem DefAt_mk {K : PySem.W.Frag} {x qual : Str} {st : Stmt} {f : Addr} {oc : Value} {od : Option Addr} {kV doc pm : Value} {an : Option Addr} {cdv ct : Value} {osl : Array (Option Value)} (l : K.lookup f = some ⟨oc, od, .func (PySem.W.fnOf x qual (defArgs st) (defBody st) (defScope st) .none kV doc pm an cdv ct), osl⟩)
    (c : PySem.W.codeIn K cdv qual = true) (k : PySem.W.keepIn K (.ref f) = true) : DefAt K x qual st f := ⟨oc, od, .none, kV, doc, pm, an, cdv, ct, osl, l, c, k, rfl⟩
theorem DefAt1_mk {K : PySem.W.Frag} {x qual : Str} {st : Stmt} {f : Addr} {i : Int} {oc : Value} {od : Option Addr} {kV doc pm : Value} {an : Option Addr} {cdv ct : Value} {osl : Array (Option Value)} {T : Addr} {o : Obj} {t : Tok} {n : Nat} (l : K.lookup f = some ⟨oc, od, .func (PySem.W.fnOf x qual (defArgs st) (defBody st) (defScope st) (.ref T) kV doc pm an cdv ct), osl⟩)
    (c : PySem.W.codeIn K cdv qual = true) (k : PySem.W.keepIn K (.ref f) = true) (l2 : K.lookup T = some o) (h : o.data = .seq [Value.int i t].toArray n) : DefAt1 K x qual st f i := ⟨oc, od, .ref T, kV, doc, pm, an, cdv, ct, osl, T, o, t, n, l, c, k, rfl, l2, h⟩
theorem IntAt_mk {K : PySem.W.Frag} {x : Str} {i : Int} {t : Tok} (q : PySem.W.nsIn K mainGlobals x = some (some (.int i t))) : IntAt K x i := ⟨t, q⟩
theorem StrAt_mk {K : PySem.W.Frag} {x : Str} {s : List Nat} {t : Tok} (q : PySem.W.nsIn K mainGlobals x = some (some (.str (tx s) t))) : StrAt K x s := ⟨t, q⟩
theorem TupAt_mk {K : PySem.W.Frag} {x : Str} {ss : List (List Nat)} {a : Addr} {od : Option Addr} {n : Nat} {osl : Array (Option Value)} {its : Array Value} (q : PySem.W.nsIn K mainGlobals x = some (some (.ref a))) (l : K.lookup a = some ⟨.type "tuple", od, .seq its n, osl⟩) (z : its.size ≤ sizeLine)
    (p : Paired (fun (s : List Nat) u => ∃ t, u = Value.str (tx s) t) ss its.toList) : TupAt K x ss := ⟨a, od, n, osl, its, q, l, z, p⟩
theorem FnD {K : PySem.W.Frag} {x qual : Str} {st : Stmt} {f : Addr} (h : DefAt K x qual st f) : ∃ fd, FunD K x qual (defArgs st) (defBody st) (defScope st) [] [] f fd := by
  obtain ⟨oc, od, dV, kV, doc, pm, an, cdv, ct, osl, h1, h2, h3, rfl⟩ := h
  exact ⟨_, ⟨oc, od, .none, kV, doc, pm, an, cdv, ct, osl, rfl, h1, h2, .inl ⟨rfl, rfl⟩, .inl rfl⟩, h3⟩
theorem FnD1 {K : PySem.W.Frag} {x qual : Str} {st : Stmt} {f : Addr} {i : Int} (h : DefAt1 K x qual st f i) : ∃ fd, FunD K x qual (defArgs st) (defBody st) (defScope st) [.int i] [] f fd := by
  obtain ⟨oc, od, dV, kV, doc, pm, an, cdv, ct, osl, T, ob, t, n, h1, h2, h3, rfl, h4, h5⟩ := h
  exact ⟨_, ⟨oc, od, .ref T, kV, doc, pm, an, cdv, ct, osl, rfl, h1, h2, .inr ⟨by simp, T, ob, _, n, rfl, h4, h5, .cons ⟨t, rfl⟩ .nil⟩, .inl rfl⟩, h3⟩
theorem gl_int {K : PySem.W.Frag} {h : Heap} {mg : Str → Option Value} (X : K.In h) (G : h.Ns mainGlobals mg) {x : Str} {i : Int} (q : IntAt K x i) : ∃ u v, mg x = some u ∧ RelV v u ∧ ∀ W, Vi K W (.int i) v := by
  obtain ⟨t, q⟩ := q
  exact ⟨_, .int i, PySem.W.mg_of X G q, ⟨t, rfl⟩, fun W => .int i⟩
theorem gl_str {K : PySem.W.Frag} {h : Heap} {mg : Str → Option Value} (X : K.In h) (G : h.Ns mainGlobals mg) {x : Str} {s : List Nat} (q : StrAt K x s) : ∃ u v, mg x = some u ∧ RelV v u ∧ ∀ W, Vi K W (.str s) v := by
  obtain ⟨t, q⟩ := q
  exact ⟨_, .str (tx s), PySem.W.mg_of X G q, ⟨t, rfl⟩, fun W => .str s⟩
theorem vs_strs {K : PySem.W.Frag} {W : Wd} : ∀ ss : List (List Nat), Vis K W (ss.map D.str) (ss.map fun s => V.str (tx s))
  | [] => .nil
  | s :: ss => .cons (.str s) (vs_strs ss)
theorem vals_strs : ∀ {ss : List (List Nat)} {us : List Value}, Paired (fun (s : List Nat) u => ∃ t, u = Value.str (tx s) t) ss us → Vals (ss.map fun s => V.str (tx s)) us
  | _, _, .nil => .nil
  | _, _, .cons h k => .cons h (vals_strs k)
theorem gl_tup {K : PySem.W.Frag} {h : Heap} {mg : Str → Option Value} (X : K.In h) (G : h.Ns mainGlobals mg) {x : Str} {ss : List (List Nat)} (q : TupAt K x ss) : ∃ u v, mg x = some u ∧ RelV v u ∧ ∀ W, Vi K W (.tup (ss.map D.str)) v := by
  obtain ⟨a, od, n, osl, its, q, l, sz, r⟩ := q
  exact ⟨_, .ref a, PySem.W.mg_of X G q, rfl, fun W => .tup (.inr ⟨_, its, n, l, rfl, rfl, sz, vals_strs r⟩) (vs_strs ss)⟩
def spLaw (K : PySem.W.Frag) : Sp := fun vs H Q _ => ∃ (a : Addr) (ns : List Int), vs = [.ref a] ∧ SqL K H a (ns.map V.int) ∧ Only H ∧ ∀ H', Q (.bl true) H'

variable {K : PySem.W.Frag} {h : Heap} {mg : Str → Option Value}
theorem all_mk {w : World} {Pr : Program} {fa C_Reader X_BadProgram X_BadText X_WorthError fx_BadProgram fx_BadText a_is_number a_is_text a_is_worth a_is_cell a_is_name a_inner_parts a_is_form a_need_part a_is_head a_need_program a_worth_text a_part_text a_written a_words_of a_Reader_d___init__ a_Reader_d_take a_Reader_d_must a_Reader_d_whole a_Reader_d_one_part a_Reader_d_heads a_Reader_d_worth a_Reader_d_number a_read a_size_of a_size a__law_row a__law_taken a__law_text a__law_number a__law_part a__law_program a__law_within a__law_fault_free a__law_alike a__law_part_text a__law_loose a_law : Addr} (X : K.In h) (G : h.Ns mainGlobals mg) (hfa : mg (nm "law") = some (.ref fa))
    (Hn_CReader : PySem.W.nsIn K mainGlobals (nm "Reader") = some (some (.ref C_Reader)))
    (Hn_is_number : PySem.W.nsIn K mainGlobals (nm "is_number") = some (some (.ref a_is_number)))
    (Hn_is_text : PySem.W.nsIn K mainGlobals (nm "is_text") = some (some (.ref a_is_text)))
    (Hn_is_worth : PySem.W.nsIn K mainGlobals (nm "is_worth") = some (some (.ref a_is_worth)))
    (Hn_is_cell : PySem.W.nsIn K mainGlobals (nm "is_cell") = some (some (.ref a_is_cell)))
    (Hn_is_name : PySem.W.nsIn K mainGlobals (nm "is_name") = some (some (.ref a_is_name)))
    (Hn_inner_parts : PySem.W.nsIn K mainGlobals (nm "inner_parts") = some (some (.ref a_inner_parts)))
    (Hn_is_form : PySem.W.nsIn K mainGlobals (nm "is_form") = some (some (.ref a_is_form)))
    (Hn_need_part : PySem.W.nsIn K mainGlobals (nm "need_part") = some (some (.ref a_need_part)))
    (Hn_is_head : PySem.W.nsIn K mainGlobals (nm "is_head") = some (some (.ref a_is_head)))
    (Hn_need_program : PySem.W.nsIn K mainGlobals (nm "need_program") = some (some (.ref a_need_program)))
    (Hn_worth_text : PySem.W.nsIn K mainGlobals (nm "worth_text") = some (some (.ref a_worth_text)))
    (Hn_part_text : PySem.W.nsIn K mainGlobals (nm "part_text") = some (some (.ref a_part_text)))
    (Hn_written : PySem.W.nsIn K mainGlobals (nm "written") = some (some (.ref a_written)))
    (Hn_words_of : PySem.W.nsIn K mainGlobals (nm "words_of") = some (some (.ref a_words_of)))
    (Hn_read : PySem.W.nsIn K mainGlobals (nm "read") = some (some (.ref a_read)))
    (Hn_size_of : PySem.W.nsIn K mainGlobals (nm "size_of") = some (some (.ref a_size_of)))
    (Hn_size : PySem.W.nsIn K mainGlobals (nm "size") = some (some (.ref a_size)))
    (Hn__law_row : PySem.W.nsIn K mainGlobals (nm "_law_row") = some (some (.ref a__law_row)))
    (Hn__law_taken : PySem.W.nsIn K mainGlobals (nm "_law_taken") = some (some (.ref a__law_taken)))
    (Hn__law_text : PySem.W.nsIn K mainGlobals (nm "_law_text") = some (some (.ref a__law_text)))
    (Hn__law_number : PySem.W.nsIn K mainGlobals (nm "_law_number") = some (some (.ref a__law_number)))
    (Hn__law_part : PySem.W.nsIn K mainGlobals (nm "_law_part") = some (some (.ref a__law_part)))
    (Hn__law_program : PySem.W.nsIn K mainGlobals (nm "_law_program") = some (some (.ref a__law_program)))
    (Hn__law_within : PySem.W.nsIn K mainGlobals (nm "_law_within") = some (some (.ref a__law_within)))
    (Hn__law_fault_free : PySem.W.nsIn K mainGlobals (nm "_law_fault_free") = some (some (.ref a__law_fault_free)))
    (Hn__law_alike : PySem.W.nsIn K mainGlobals (nm "_law_alike") = some (some (.ref a__law_alike)))
    (Hn__law_part_text : PySem.W.nsIn K mainGlobals (nm "_law_part_text") = some (some (.ref a__law_part_text)))
    (Hn__law_loose : PySem.W.nsIn K mainGlobals (nm "_law_loose") = some (some (.ref a__law_loose)))
    (Hn_law : PySem.W.nsIn K mainGlobals (nm "law") = some (some (.ref a_law)))
    (Hn_Reader_d___init__ : PySem.W.findIn K (.ref C_Reader) (nm "__init__") = some (some (.ref a_Reader_d___init__)))
    (Hi_Reader_d___init__ : PySem.W.isFn K (.ref a_Reader_d___init__) = true)
    (Hn_Reader_d_take : PySem.W.findIn K (.ref C_Reader) (nm "take") = some (some (.ref a_Reader_d_take)))
    (Hi_Reader_d_take : PySem.W.isFn K (.ref a_Reader_d_take) = true)
    (Hn_Reader_d_must : PySem.W.findIn K (.ref C_Reader) (nm "must") = some (some (.ref a_Reader_d_must)))
    (Hi_Reader_d_must : PySem.W.isFn K (.ref a_Reader_d_must) = true)
    (Hn_Reader_d_whole : PySem.W.findIn K (.ref C_Reader) (nm "whole") = some (some (.ref a_Reader_d_whole)))
    (Hi_Reader_d_whole : PySem.W.isFn K (.ref a_Reader_d_whole) = true)
    (Hn_Reader_d_one_part : PySem.W.findIn K (.ref C_Reader) (nm "one_part") = some (some (.ref a_Reader_d_one_part)))
    (Hi_Reader_d_one_part : PySem.W.isFn K (.ref a_Reader_d_one_part) = true)
    (Hn_Reader_d_heads : PySem.W.findIn K (.ref C_Reader) (nm "heads") = some (some (.ref a_Reader_d_heads)))
    (Hi_Reader_d_heads : PySem.W.isFn K (.ref a_Reader_d_heads) = true)
    (Hn_Reader_d_worth : PySem.W.findIn K (.ref C_Reader) (nm "worth") = some (some (.ref a_Reader_d_worth)))
    (Hi_Reader_d_worth : PySem.W.isFn K (.ref a_Reader_d_worth) = true)
    (Hn_Reader_d_number : PySem.W.findIn K (.ref C_Reader) (nm "number") = some (some (.ref a_Reader_d_number)))
    (Hi_Reader_d_number : PySem.W.isFn K (.ref a_Reader_d_number) = true)
    (Hd_is_number : DefAt K (nm "is_number") (nm "is_number") s_is_number a_is_number)
    (Hd_is_text : DefAt K (nm "is_text") (nm "is_text") s_is_text a_is_text)
    (Hd_is_worth : DefAt K (nm "is_worth") (nm "is_worth") s_is_worth a_is_worth)
    (Hd_is_cell : DefAt K (nm "is_cell") (nm "is_cell") s_is_cell a_is_cell)
    (Hd_is_name : DefAt K (nm "is_name") (nm "is_name") s_is_name a_is_name)
    (Hd_inner_parts : DefAt K (nm "inner_parts") (nm "inner_parts") s_inner_parts a_inner_parts)
    (Hd_is_form : DefAt K (nm "is_form") (nm "is_form") s_is_form a_is_form)
    (Hd_need_part : DefAt K (nm "need_part") (nm "need_part") s_need_part a_need_part)
    (Hd_is_head : DefAt K (nm "is_head") (nm "is_head") s_is_head a_is_head)
    (Hd_need_program : DefAt K (nm "need_program") (nm "need_program") s_need_program a_need_program)
    (Hd_worth_text : DefAt K (nm "worth_text") (nm "worth_text") s_worth_text a_worth_text)
    (Hd_part_text : DefAt K (nm "part_text") (nm "part_text") s_part_text a_part_text)
    (Hd_written : DefAt K (nm "written") (nm "written") s_written a_written)
    (Hd_words_of : DefAt K (nm "words_of") (nm "words_of") s_words_of a_words_of)
    (Hd_Reader_d___init__ : DefAt K (nm "__init__") (nm "Reader.__init__") s_Reader_d___init__ a_Reader_d___init__)
    (Hd_Reader_d_take : DefAt K (nm "take") (nm "Reader.take") s_Reader_d_take a_Reader_d_take)
    (Hd_Reader_d_must : DefAt K (nm "must") (nm "Reader.must") s_Reader_d_must a_Reader_d_must)
    (Hd_Reader_d_whole : DefAt K (nm "whole") (nm "Reader.whole") s_Reader_d_whole a_Reader_d_whole)
    (Hd_Reader_d_one_part : DefAt K (nm "one_part") (nm "Reader.one_part") s_Reader_d_one_part a_Reader_d_one_part)
    (Hd_Reader_d_heads : DefAt K (nm "heads") (nm "Reader.heads") s_Reader_d_heads a_Reader_d_heads)
    (Hd_Reader_d_worth : DefAt K (nm "worth") (nm "Reader.worth") s_Reader_d_worth a_Reader_d_worth)
    (Hd_Reader_d_number : DefAt K (nm "number") (nm "Reader.number") s_Reader_d_number a_Reader_d_number)
    (Hd_read : DefAt K (nm "read") (nm "read") s_read a_read)
    (Hd_size_of : DefAt K (nm "size_of") (nm "size_of") s_size_of a_size_of)
    (Hd_size : DefAt K (nm "size") (nm "size") s_size a_size)
    (Hd__law_row : DefAt K (nm "_law_row") (nm "_law_row") s__law_row a__law_row)
    (Hd__law_taken : DefAt K (nm "_law_taken") (nm "_law_taken") s__law_taken a__law_taken)
    (Hd__law_text : DefAt K (nm "_law_text") (nm "_law_text") s__law_text a__law_text)
    (Hd__law_number : DefAt K (nm "_law_number") (nm "_law_number") s__law_number a__law_number)
    (Hd__law_part : DefAt K (nm "_law_part") (nm "_law_part") s__law_part a__law_part)
    (Hd__law_program : DefAt1 K (nm "_law_program") (nm "_law_program") s__law_program a__law_program 2)
    (Hd__law_within : DefAt K (nm "_law_within") (nm "_law_within") s__law_within a__law_within)
    (Hd__law_fault_free : DefAt K (nm "_law_fault_free") (nm "_law_fault_free") s__law_fault_free a__law_fault_free)
    (Hd__law_alike : DefAt K (nm "_law_alike") (nm "_law_alike") s__law_alike a__law_alike)
    (Hd__law_part_text : DefAt K (nm "_law_part_text") (nm "_law_part_text") s__law_part_text a__law_part_text)
    (Hd__law_loose : DefAt K (nm "_law_loose") (nm "_law_loose") s__law_loose a__law_loose)
    (Hd_law : DefAt K (nm "law") (nm "law") s_law a_law)
    (Hpg_Reader : PySem.W.plainGet K C_Reader Str.empty = true)
    (Hhd_Reader : PySem.W.hasDictIn K C_Reader = true)
    (Hpo_Reader : PySem.W.plainOver K C_Reader = true)
    (Hsa_Reader : PySem.W.findIn K (.ref C_Reader) "__setattr__" = some (some (.builtin "object.__setattr__")))
    (Hmk_Reader : PySem.W.makesIn K C_Reader = true)
    (Hkc_Reader : PySem.W.keepIn K (.ref C_Reader) = true)
    (Hno_Reader_ahead : PySem.W.findIn K (.ref C_Reader) (nm "ahead") = some none)
    (Hno_Reader_at : PySem.W.findIn K (.ref C_Reader) (nm "at") = some none)
    (Hno_Reader_words : PySem.W.findIn K (.ref C_Reader) (nm "words") = some none)
    (Hn_XWorthError : PySem.W.nsIn K mainGlobals (nm "WorthError") = some (some (.ref X_WorthError)))
    (Hn_XBadProgram : PySem.W.nsIn K mainGlobals (nm "BadProgram") = some (some (.ref X_BadProgram)))
    (Hn_XBadText : PySem.W.nsIn K mainGlobals (nm "BadText") = some (some (.ref X_BadText)))
    (Hxr_WorthError : PySem.W.readsIn K X_WorthError (.type "type") = true)
    (Hxg_WorthError : PySem.W.specialIn K (.ref X_WorthError) "__getattribute__" = some (some (.builtin "type.__getattribute__")))
    (Hxf_WorthError : PySem.W.findCls K (.ref X_WorthError) (.type "type") "__init__" = some (.val (.builtin "ValueError.__init__")))
    (Hxe_BadProgram : PySem.W.subIn K (.ref X_BadProgram) (.type "BaseException") = some true)
    (Hxt_BadProgram : PySem.W.typeIn K (.ref X_BadProgram) = some (.type "type"))
    (Hxk_BadProgram : PySem.W.keepIn K (.ref X_BadProgram) = true)
    (Hxi_BadProgram : PySem.W.isClsIn K X_BadProgram = true)
    (Hxo_BadProgram : OexC K X_BadProgram)
    (Hxn_BadProgram : PySem.W.findIn K (.ref X_BadProgram) (nm "path") = some none)
    (Hxm_BadProgram : PySem.W.findIn K (.ref X_BadProgram) "__init__" = some (some (.ref fx_BadProgram)))
    (Hxy_BadProgram : PySem.W.typeIn K (.ref fx_BadProgram) = some (.type "function"))
    (Hxd_BadProgram : DefAt K (nm "__init__") (nm "BadProgram.__init__") s_xBadProgram fx_BadProgram)
    (Hxe_BadText : PySem.W.subIn K (.ref X_BadText) (.type "BaseException") = some true)
    (Hxt_BadText : PySem.W.typeIn K (.ref X_BadText) = some (.type "type"))
    (Hxk_BadText : PySem.W.keepIn K (.ref X_BadText) = true)
    (Hxi_BadText : PySem.W.isClsIn K X_BadText = true)
    (Hxo_BadText : OexC K X_BadText)
    (Hxn_BadText : PySem.W.findIn K (.ref X_BadText) (nm "word") = some none)
    (Hxm_BadText : PySem.W.findIn K (.ref X_BadText) "__init__" = some (some (.ref fx_BadText)))
    (Hxy_BadText : PySem.W.typeIn K (.ref fx_BadText) = some (.type "function"))
    (Hxd_BadText : DefAt K (nm "__init__") (nm "BadText.__init__") s_xBadText fx_BadText)
    (Hg_DEED : StrAt K (nm "DEED") [100, 101, 101, 100])
    (Hg_FIGURES : StrAt K (nm "FIGURES") [48, 49, 50, 51, 52, 53, 54, 55, 56, 57])
    (Hg_LETTERS : StrAt K (nm "LETTERS") [97, 98, 99, 100, 101, 102, 103, 104, 105, 106, 107, 108, 109, 110, 111, 112, 113, 114, 115, 116, 117, 118, 119, 120, 121, 122])
    (Hg_MOST_DEEDS : IntAt K (nm "MOST_DEEDS") 3)
    (Hg_MOST_DEEP : IntAt K (nm "MOST_DEEP") 6)
    (Hg_MOST_FIGURES : IntAt K (nm "MOST_FIGURES") 13)
    (Hg_MOST_FIRST : IntAt K (nm "MOST_FIRST") 9)
    (Hg_MOST_NAME : IntAt K (nm "MOST_NAME") 6)
    (Hg_MOST_NUMBER : IntAt K (nm "MOST_NUMBER") 1000000000000)
    (Hg_MOST_PARTS : IntAt K (nm "MOST_PARTS") 24)
    (Hg_MOST_PLACES : IntAt K (nm "MOST_PLACES") 2)
    (Hg_MOST_SIGNS : IntAt K (nm "MOST_SIGNS") 200)
    (Hg_NAMED : TupAt K (nm "NAMED") [[115, 101, 116], [116, 114, 121]])
    (Hg_OPEN : StrAt K (nm "OPEN") [40])
    (Hg_PAIRED : TupAt K (nm "PAIRED") [[116, 111], [111, 114], [97, 110, 100], [112, 108, 117, 115], [108, 101, 115, 115], [116, 105, 109, 101, 115], [106, 111, 105, 110], [98, 101, 108, 111, 119], [115, 97, 109, 101], [117, 110, 108, 105, 107, 101], [101, 118, 101, 114, 121], [116, 104, 101, 110], [119, 104, 105, 108, 101], [115, 99, 97, 110]])
    (Hg_PLAIN : TupAt K (nm "PLAIN") [[110, 111, 110, 101], [112, 111, 115]])
    (Hg_QUOTE : StrAt K (nm "QUOTE") [34])
    (Hg_SHUT : StrAt K (nm "SHUT") [41])
    (Hg_SINGLE : TupAt K (nm "SINGLE") [[110, 111, 116], [97, 103, 97, 105, 110], [115, 97, 121], [108, 111, 110, 103], [116, 97, 98], [102, 105, 110, 100], [109, 97, 110, 121], [109, 97, 116, 99, 104]])
    (Hb_all : PySem.W.nsIn K mainGlobals (nm "all") = some none)
    (Hb_bool : PySem.W.nsIn K mainGlobals (nm "bool") = some none)
    (Hb_enumerate : PySem.W.nsIn K mainGlobals (nm "enumerate") = some none)
    (Hb_int : PySem.W.nsIn K mainGlobals (nm "int") = some none)
    (Hb_isinstance : PySem.W.nsIn K mainGlobals (nm "isinstance") = some none)
    (Hb_len : PySem.W.nsIn K mainGlobals (nm "len") = some none)
    (Hb_list : PySem.W.nsIn K mainGlobals (nm "list") = some none)
    (Hb_min : PySem.W.nsIn K mainGlobals (nm "min") = some none)
    (Hb_range : PySem.W.nsIn K mainGlobals (nm "range") = some none)
    (Hb_str : PySem.W.nsIn K mainGlobals (nm "str") = some none)
    (Hb_sum : PySem.W.nsIn K mainGlobals (nm "sum") = some none)
    (Hb_tuple : PySem.W.nsIn K mainGlobals (nm "tuple") = some none) :
    ∃ fd : FuncData, (∀ (s : Shared) (v : Value), BindsTo s fd ⟨[v], []⟩ [(nm "_law_script", v)]) ∧ ∀ base : Heap, K.In base → base.Ns mainGlobals mg → FnOk Pr w K mg base (L2.CX Pr w) 63 fa fd [nm "_law_script"] (spLaw K) := by
  have e : fa = a_law := by
    have e := hfa.symm.trans (PySem.W.mg_of X G Hn_law)
    injection e with e
    injection e
  rw [e]
  obtain ⟨fd_is_number, F_is_number⟩ := FnD Hd_is_number
  obtain ⟨fd_is_text, F_is_text⟩ := FnD Hd_is_text
  obtain ⟨fd_is_worth, F_is_worth⟩ := FnD Hd_is_worth
  obtain ⟨fd_is_cell, F_is_cell⟩ := FnD Hd_is_cell
  obtain ⟨fd_is_name, F_is_name⟩ := FnD Hd_is_name
  obtain ⟨fd_inner_parts, F_inner_parts⟩ := FnD Hd_inner_parts
  obtain ⟨fd_is_form, F_is_form⟩ := FnD Hd_is_form
  obtain ⟨fd_need_part, F_need_part⟩ := FnD Hd_need_part
  obtain ⟨fd_is_head, F_is_head⟩ := FnD Hd_is_head
  obtain ⟨fd_need_program, F_need_program⟩ := FnD Hd_need_program
  obtain ⟨fd_worth_text, F_worth_text⟩ := FnD Hd_worth_text
  obtain ⟨fd_part_text, F_part_text⟩ := FnD Hd_part_text
  obtain ⟨fd_written, F_written⟩ := FnD Hd_written
  obtain ⟨fd_words_of, F_words_of⟩ := FnD Hd_words_of
  obtain ⟨fd_Reader_d___init__, F_Reader_d___init__⟩ := FnD Hd_Reader_d___init__
  obtain ⟨fd_Reader_d_take, F_Reader_d_take⟩ := FnD Hd_Reader_d_take
  obtain ⟨fd_Reader_d_must, F_Reader_d_must⟩ := FnD Hd_Reader_d_must
  obtain ⟨fd_Reader_d_whole, F_Reader_d_whole⟩ := FnD Hd_Reader_d_whole
  obtain ⟨fd_Reader_d_one_part, F_Reader_d_one_part⟩ := FnD Hd_Reader_d_one_part
  obtain ⟨fd_Reader_d_heads, F_Reader_d_heads⟩ := FnD Hd_Reader_d_heads
  obtain ⟨fd_Reader_d_worth, F_Reader_d_worth⟩ := FnD Hd_Reader_d_worth
  obtain ⟨fd_Reader_d_number, F_Reader_d_number⟩ := FnD Hd_Reader_d_number
  obtain ⟨fd_read, F_read⟩ := FnD Hd_read
  obtain ⟨fd_size_of, F_size_of⟩ := FnD Hd_size_of
  obtain ⟨fd_size, F_size⟩ := FnD Hd_size
  obtain ⟨fd__law_row, F__law_row⟩ := FnD Hd__law_row
  obtain ⟨fd__law_taken, F__law_taken⟩ := FnD Hd__law_taken
  obtain ⟨fd__law_text, F__law_text⟩ := FnD Hd__law_text
  obtain ⟨fd__law_number, F__law_number⟩ := FnD Hd__law_number
  obtain ⟨fd__law_part, F__law_part⟩ := FnD Hd__law_part
  obtain ⟨fd__law_program, F__law_program⟩ := FnD1 Hd__law_program
  obtain ⟨fd__law_within, F__law_within⟩ := FnD Hd__law_within
  obtain ⟨fd__law_fault_free, F__law_fault_free⟩ := FnD Hd__law_fault_free
  obtain ⟨fd__law_alike, F__law_alike⟩ := FnD Hd__law_alike
  obtain ⟨fd__law_part_text, F__law_part_text⟩ := FnD Hd__law_part_text
  obtain ⟨fd__law_loose, F__law_loose⟩ := FnD Hd__law_loose
  obtain ⟨fd_law, F_law⟩ := FnD Hd_law
  obtain ⟨fdx_BadProgram, Fx_BadProgram⟩ := FnD Hxd_BadProgram
  have Bx_BadProgram := Fx_BadProgram.bindsN (ps := [nm "self", nm "path"]) fun _ _ _ _ _ _ us hl => match us, hl with | [_, _], _ => rfl
  obtain ⟨fdx_BadText, Fx_BadText⟩ := FnD Hxd_BadText
  have Bx_BadText := Fx_BadText.bindsN (ps := [nm "self", nm "word"]) fun _ _ _ _ _ _ us hl => match us, hl with | [_, _], _ => rfl
  have B_is_number := F_is_number.bindsN (ps := p_is_number) fun _ _ _ _ _ _ us hl => match us, hl with | [_, _, _], _ => rfl
  have B_is_text := F_is_text.bindsN (ps := p_is_text) fun _ _ _ _ _ _ us hl => match us, hl with | [_], _ => rfl
  have B_is_worth := F_is_worth.bindsN (ps := p_is_worth) fun _ _ _ _ _ _ us hl => match us, hl with | [_], _ => rfl
  have B_is_cell := F_is_cell.bindsN (ps := p_is_cell) fun _ _ _ _ _ _ us hl => match us, hl with | [_], _ => rfl
  have B_is_name := F_is_name.bindsN (ps := p_is_name) fun _ _ _ _ _ _ us hl => match us, hl with | [_], _ => rfl
  have B_inner_parts := F_inner_parts.bindsN (ps := p_inner_parts) fun _ _ _ _ _ _ us hl => match us, hl with | [_], _ => rfl
  have B_is_form := F_is_form.bindsN (ps := p_is_form) fun _ _ _ _ _ _ us hl => match us, hl with | [_, _], _ => rfl
  have B_need_part := F_need_part.bindsN (ps := p_need_part) fun _ _ _ _ _ _ us hl => match us, hl with | [_, _, _, _], _ => rfl
  have B_is_head := F_is_head.bindsN (ps := p_is_head) fun _ _ _ _ _ _ us hl => match us, hl with | [_, _], _ => rfl
  have B_need_program := F_need_program.bindsN (ps := p_need_program) fun _ _ _ _ _ _ us hl => match us, hl with | [_], _ => rfl
  have B_worth_text := F_worth_text.bindsN (ps := p_worth_text) fun _ _ _ _ _ _ us hl => match us, hl with | [_], _ => rfl
  have B_part_text := F_part_text.bindsN (ps := p_part_text) fun _ _ _ _ _ _ us hl => match us, hl with | [_], _ => rfl
  have B_written := F_written.bindsN (ps := p_written) fun _ _ _ _ _ _ us hl => match us, hl with | [_], _ => rfl
  have B_words_of := F_words_of.bindsN (ps := p_words_of) fun _ _ _ _ _ _ us hl => match us, hl with | [_], _ => rfl
  have B_Reader_d___init__ := F_Reader_d___init__.bindsN (ps := p_Reader_d___init__) fun _ _ _ _ _ _ us hl => match us, hl with | [_, _, _], _ => rfl
  have B_Reader_d_take := F_Reader_d_take.bindsN (ps := p_Reader_d_take) fun _ _ _ _ _ _ us hl => match us, hl with | [_], _ => rfl
  have B_Reader_d_must := F_Reader_d_must.bindsN (ps := p_Reader_d_must) fun _ _ _ _ _ _ us hl => match us, hl with | [_, _], _ => rfl
  have B_Reader_d_whole := F_Reader_d_whole.bindsN (ps := p_Reader_d_whole) fun _ _ _ _ _ _ us hl => match us, hl with | [_], _ => rfl
  have B_Reader_d_one_part := F_Reader_d_one_part.bindsN (ps := p_Reader_d_one_part) fun _ _ _ _ _ _ us hl => match us, hl with | [_], _ => rfl
  have B_Reader_d_heads := F_Reader_d_heads.bindsN (ps := p_Reader_d_heads) fun _ _ _ _ _ _ us hl => match us, hl with | [_, _], _ => rfl
  have B_Reader_d_worth := F_Reader_d_worth.bindsN (ps := p_Reader_d_worth) fun _ _ _ _ _ _ us hl => match us, hl with | [_], _ => rfl
  have B_Reader_d_number := F_Reader_d_number.bindsN (ps := p_Reader_d_number) fun _ _ _ _ _ _ us hl => match us, hl with | [_, _], _ => rfl
  have B_read := F_read.bindsN (ps := p_read) fun _ _ _ _ _ _ us hl => match us, hl with | [_], _ => rfl
  have B_size_of := F_size_of.bindsN (ps := p_size_of) fun _ _ _ _ _ _ us hl => match us, hl with | [_], _ => rfl
  have B_size := F_size.bindsN (ps := p_size) fun _ _ _ _ _ _ us hl => match us, hl with | [_], _ => rfl
  have B__law_row := F__law_row.bindsN (ps := p__law_row) fun _ _ _ _ _ _ us hl => match us, hl with | [_], _ => rfl
  have B__law_taken := F__law_taken.bindsN (ps := p__law_taken) fun _ _ _ _ _ _ us hl => match us, hl with | [_, _], _ => rfl
  have B__law_text := F__law_text.bindsN (ps := p__law_text) fun _ _ _ _ _ _ us hl => match us, hl with | [_, _], _ => rfl
  have B__law_number := F__law_number.bindsN (ps := p__law_number) fun _ _ _ _ _ _ us hl => match us, hl with | [_], _ => rfl
  have B__law_part := F__law_part.bindsN (ps := p__law_part) fun _ _ _ _ _ _ us hl => match us, hl with | [_, _, _, _, _], _ => rfl
  have B__law_program : Binds K fd__law_program p__law_program [] := by
    obtain ⟨ds, r, b⟩ := F__law_program.binds1 (ps := p__law_program) 3 1 (by simp) rfl fun _ _ _ _ _ _ _ us its hl hi => match us, its, hl, hi with | [_, _, _], [_], _, _ => ⟨_, rfl, rfl⟩
    cases r
    exact b
  have B__law_within := F__law_within.bindsN (ps := p__law_within) fun _ _ _ _ _ _ us hl => match us, hl with | [_], _ => rfl
  have B__law_fault_free := F__law_fault_free.bindsN (ps := p__law_fault_free) fun _ _ _ _ _ _ us hl => match us, hl with | [_], _ => rfl
  have B__law_alike := F__law_alike.bindsN (ps := p__law_alike) fun _ _ _ _ _ _ us hl => match us, hl with | [_, _], _ => rfl
  have B__law_part_text := F__law_part_text.bindsN (ps := p__law_part_text) fun _ _ _ _ _ _ us hl => match us, hl with | [_], _ => rfl
  have B__law_loose := F__law_loose.bindsN (ps := p__law_loose) fun _ _ _ _ _ _ us hl => match us, hl with | [_, _], _ => rfl
  have B_law := F_law.bindsN (ps := p_law) fun _ _ _ _ _ _ us hl => match us, hl with | [_], _ => rfl
  let L : List (String × Ent) := [("is_number", ⟨a_is_number, fd_is_number, p_is_number⟩), ("is_text", ⟨a_is_text, fd_is_text, p_is_text⟩), ("is_worth", ⟨a_is_worth, fd_is_worth, p_is_worth⟩), ("is_cell", ⟨a_is_cell, fd_is_cell, p_is_cell⟩), ("is_name", ⟨a_is_name, fd_is_name, p_is_name⟩), ("inner_parts", ⟨a_inner_parts, fd_inner_parts, p_inner_parts⟩), ("is_form", ⟨a_is_form, fd_is_form, p_is_form⟩), ("need_part", ⟨a_need_part, fd_need_part, p_need_part⟩), ("is_head", ⟨a_is_head, fd_is_head, p_is_head⟩), ("need_program", ⟨a_need_program, fd_need_program, p_need_program⟩), ("worth_text", ⟨a_worth_text, fd_worth_text, p_worth_text⟩), ("part_text", ⟨a_part_text, fd_part_text, p_part_text⟩), ("written", ⟨a_written, fd_written, p_written⟩), ("words_of", ⟨a_words_of, fd_words_of, p_words_of⟩), ("Reader.__init__", ⟨a_Reader_d___init__, fd_Reader_d___init__, p_Reader_d___init__⟩), ("Reader.take", ⟨a_Reader_d_take, fd_Reader_d_take, p_Reader_d_take⟩), ("Reader.must", ⟨a_Reader_d_must, fd_Reader_d_must, p_Reader_d_must⟩), ("Reader.whole", ⟨a_Reader_d_whole, fd_Reader_d_whole, p_Reader_d_whole⟩), ("Reader.one_part", ⟨a_Reader_d_one_part, fd_Reader_d_one_part, p_Reader_d_one_part⟩), ("Reader.heads", ⟨a_Reader_d_heads, fd_Reader_d_heads, p_Reader_d_heads⟩), ("Reader.worth", ⟨a_Reader_d_worth, fd_Reader_d_worth, p_Reader_d_worth⟩), ("Reader.number", ⟨a_Reader_d_number, fd_Reader_d_number, p_Reader_d_number⟩), ("read", ⟨a_read, fd_read, p_read⟩), ("size_of", ⟨a_size_of, fd_size_of, p_size_of⟩), ("size", ⟨a_size, fd_size, p_size⟩), ("_law_row", ⟨a__law_row, fd__law_row, p__law_row⟩), ("_law_taken", ⟨a__law_taken, fd__law_taken, p__law_taken⟩), ("_law_text", ⟨a__law_text, fd__law_text, p__law_text⟩), ("_law_number", ⟨a__law_number, fd__law_number, p__law_number⟩), ("_law_part", ⟨a__law_part, fd__law_part, p__law_part⟩), ("_law_program", ⟨a__law_program, fd__law_program, p__law_program⟩), ("_law_within", ⟨a__law_within, fd__law_within, p__law_within⟩), ("_law_fault_free", ⟨a__law_fault_free, fd__law_fault_free, p__law_fault_free⟩), ("_law_alike", ⟨a__law_alike, fd__law_alike, p__law_alike⟩), ("_law_part_text", ⟨a__law_part_text, fd__law_part_text, p__law_part_text⟩), ("_law_loose", ⟨a__law_loose, fd__law_loose, p__law_loose⟩), ("law", ⟨a_law, fd_law, p_law⟩)]
  let tab : String → Option Ent := fun key => L.lookup key
  let ca : String → Option Addr := fun x => if x = "Reader" then some C_Reader else none
  have hfn : ∀ q ∈ L, FnIs K tb pg q.1 q.2 := by
    refine Lk.all ?_
    exact ⟨⟨⟨nm "is_number", nm "is_number", defArgs s_is_number, defBody s_is_number, defScope s_is_number, _, f_is_number, n_is_number, rfl, F_is_number, sc_is_number, rfl, rfl, c_is_number⟩⟩,
      ⟨⟨nm "is_text", nm "is_text", defArgs s_is_text, defBody s_is_text, defScope s_is_text, _, f_is_text, n_is_text, rfl, F_is_text, sc_is_text, rfl, rfl, c_is_text⟩⟩,
      ⟨⟨nm "is_worth", nm "is_worth", defArgs s_is_worth, defBody s_is_worth, defScope s_is_worth, _, f_is_worth, n_is_worth, rfl, F_is_worth, sc_is_worth, rfl, rfl, c_is_worth⟩⟩,
      ⟨⟨nm "is_cell", nm "is_cell", defArgs s_is_cell, defBody s_is_cell, defScope s_is_cell, _, f_is_cell, n_is_cell, rfl, F_is_cell, sc_is_cell, rfl, rfl, c_is_cell⟩⟩,
      ⟨⟨nm "is_name", nm "is_name", defArgs s_is_name, defBody s_is_name, defScope s_is_name, _, f_is_name, n_is_name, rfl, F_is_name, sc_is_name, rfl, rfl, c_is_name⟩⟩,
      ⟨⟨nm "inner_parts", nm "inner_parts", defArgs s_inner_parts, defBody s_inner_parts, defScope s_inner_parts, _, f_inner_parts, n_inner_parts, rfl, F_inner_parts, sc_inner_parts, rfl, rfl, c_inner_parts⟩⟩,
      ⟨⟨nm "is_form", nm "is_form", defArgs s_is_form, defBody s_is_form, defScope s_is_form, _, f_is_form, n_is_form, rfl, F_is_form, sc_is_form, rfl, rfl, c_is_form⟩⟩,
      ⟨⟨nm "need_part", nm "need_part", defArgs s_need_part, defBody s_need_part, defScope s_need_part, _, f_need_part, n_need_part, rfl, F_need_part, sc_need_part, rfl, rfl, c_need_part⟩⟩,
      ⟨⟨nm "is_head", nm "is_head", defArgs s_is_head, defBody s_is_head, defScope s_is_head, _, f_is_head, n_is_head, rfl, F_is_head, sc_is_head, rfl, rfl, c_is_head⟩⟩,
      ⟨⟨nm "need_program", nm "need_program", defArgs s_need_program, defBody s_need_program, defScope s_need_program, _, f_need_program, n_need_program, rfl, F_need_program, sc_need_program, rfl, rfl, c_need_program⟩⟩,
      ⟨⟨nm "worth_text", nm "worth_text", defArgs s_worth_text, defBody s_worth_text, defScope s_worth_text, _, f_worth_text, n_worth_text, rfl, F_worth_text, sc_worth_text, rfl, rfl, c_worth_text⟩⟩,
      ⟨⟨nm "part_text", nm "part_text", defArgs s_part_text, defBody s_part_text, defScope s_part_text, _, f_part_text, n_part_text, rfl, F_part_text, sc_part_text, rfl, rfl, c_part_text⟩⟩,
      ⟨⟨nm "written", nm "written", defArgs s_written, defBody s_written, defScope s_written, _, f_written, n_written, rfl, F_written, sc_written, rfl, rfl, c_written⟩⟩,
      ⟨⟨nm "words_of", nm "words_of", defArgs s_words_of, defBody s_words_of, defScope s_words_of, _, f_words_of, n_words_of, rfl, F_words_of, sc_words_of, rfl, rfl, c_words_of⟩⟩,
      ⟨⟨nm "__init__", nm "Reader.__init__", defArgs s_Reader_d___init__, defBody s_Reader_d___init__, defScope s_Reader_d___init__, _, f_Reader_d___init__, n_Reader_d___init__, rfl, F_Reader_d___init__, sc_Reader_d___init__, rfl, rfl, c_Reader_d___init__⟩⟩,
      ⟨⟨nm "take", nm "Reader.take", defArgs s_Reader_d_take, defBody s_Reader_d_take, defScope s_Reader_d_take, _, f_Reader_d_take, n_Reader_d_take, rfl, F_Reader_d_take, sc_Reader_d_take, rfl, rfl, c_Reader_d_take⟩⟩,
      ⟨⟨nm "must", nm "Reader.must", defArgs s_Reader_d_must, defBody s_Reader_d_must, defScope s_Reader_d_must, _, f_Reader_d_must, n_Reader_d_must, rfl, F_Reader_d_must, sc_Reader_d_must, rfl, rfl, c_Reader_d_must⟩⟩,
      ⟨⟨nm "whole", nm "Reader.whole", defArgs s_Reader_d_whole, defBody s_Reader_d_whole, defScope s_Reader_d_whole, _, f_Reader_d_whole, n_Reader_d_whole, rfl, F_Reader_d_whole, sc_Reader_d_whole, rfl, rfl, c_Reader_d_whole⟩⟩,
      ⟨⟨nm "one_part", nm "Reader.one_part", defArgs s_Reader_d_one_part, defBody s_Reader_d_one_part, defScope s_Reader_d_one_part, _, f_Reader_d_one_part, n_Reader_d_one_part, rfl, F_Reader_d_one_part, sc_Reader_d_one_part, rfl, rfl, c_Reader_d_one_part⟩⟩,
      ⟨⟨nm "heads", nm "Reader.heads", defArgs s_Reader_d_heads, defBody s_Reader_d_heads, defScope s_Reader_d_heads, _, f_Reader_d_heads, n_Reader_d_heads, rfl, F_Reader_d_heads, sc_Reader_d_heads, rfl, rfl, c_Reader_d_heads⟩⟩,
      ⟨⟨nm "worth", nm "Reader.worth", defArgs s_Reader_d_worth, defBody s_Reader_d_worth, defScope s_Reader_d_worth, _, f_Reader_d_worth, n_Reader_d_worth, rfl, F_Reader_d_worth, sc_Reader_d_worth, rfl, rfl, c_Reader_d_worth⟩⟩,
      ⟨⟨nm "number", nm "Reader.number", defArgs s_Reader_d_number, defBody s_Reader_d_number, defScope s_Reader_d_number, _, f_Reader_d_number, n_Reader_d_number, rfl, F_Reader_d_number, sc_Reader_d_number, rfl, rfl, c_Reader_d_number⟩⟩,
      ⟨⟨nm "read", nm "read", defArgs s_read, defBody s_read, defScope s_read, _, f_read, n_read, rfl, F_read, sc_read, rfl, rfl, c_read⟩⟩,
      ⟨⟨nm "size_of", nm "size_of", defArgs s_size_of, defBody s_size_of, defScope s_size_of, _, f_size_of, n_size_of, rfl, F_size_of, sc_size_of, rfl, rfl, c_size_of⟩⟩,
      ⟨⟨nm "size", nm "size", defArgs s_size, defBody s_size, defScope s_size, _, f_size, n_size, rfl, F_size, sc_size, rfl, rfl, c_size⟩⟩,
      ⟨⟨nm "_law_row", nm "_law_row", defArgs s__law_row, defBody s__law_row, defScope s__law_row, _, f__law_row, n__law_row, rfl, F__law_row, sc__law_row, rfl, rfl, c__law_row⟩⟩,
      ⟨⟨nm "_law_taken", nm "_law_taken", defArgs s__law_taken, defBody s__law_taken, defScope s__law_taken, _, f__law_taken, n__law_taken, rfl, F__law_taken, sc__law_taken, rfl, rfl, c__law_taken⟩⟩,
      ⟨⟨nm "_law_text", nm "_law_text", defArgs s__law_text, defBody s__law_text, defScope s__law_text, _, f__law_text, n__law_text, rfl, F__law_text, sc__law_text, rfl, rfl, c__law_text⟩⟩,
      ⟨⟨nm "_law_number", nm "_law_number", defArgs s__law_number, defBody s__law_number, defScope s__law_number, _, f__law_number, n__law_number, rfl, F__law_number, sc__law_number, rfl, rfl, c__law_number⟩⟩,
      ⟨⟨nm "_law_part", nm "_law_part", defArgs s__law_part, defBody s__law_part, defScope s__law_part, _, f__law_part, n__law_part, rfl, F__law_part, sc__law_part, rfl, rfl, c__law_part⟩⟩,
      ⟨⟨nm "_law_program", nm "_law_program", defArgs s__law_program, defBody s__law_program, defScope s__law_program, _, f__law_program, n__law_program, rfl, F__law_program, sc__law_program, rfl, rfl, c__law_program⟩⟩,
      ⟨⟨nm "_law_within", nm "_law_within", defArgs s__law_within, defBody s__law_within, defScope s__law_within, _, f__law_within, n__law_within, rfl, F__law_within, sc__law_within, rfl, rfl, c__law_within⟩⟩,
      ⟨⟨nm "_law_fault_free", nm "_law_fault_free", defArgs s__law_fault_free, defBody s__law_fault_free, defScope s__law_fault_free, _, f__law_fault_free, n__law_fault_free, rfl, F__law_fault_free, sc__law_fault_free, rfl, rfl, c__law_fault_free⟩⟩,
      ⟨⟨nm "_law_alike", nm "_law_alike", defArgs s__law_alike, defBody s__law_alike, defScope s__law_alike, _, f__law_alike, n__law_alike, rfl, F__law_alike, sc__law_alike, rfl, rfl, c__law_alike⟩⟩,
      ⟨⟨nm "_law_part_text", nm "_law_part_text", defArgs s__law_part_text, defBody s__law_part_text, defScope s__law_part_text, _, f__law_part_text, n__law_part_text, rfl, F__law_part_text, sc__law_part_text, rfl, rfl, c__law_part_text⟩⟩,
      ⟨⟨nm "_law_loose", nm "_law_loose", defArgs s__law_loose, defBody s__law_loose, defScope s__law_loose, _, f__law_loose, n__law_loose, rfl, F__law_loose, sc__law_loose, rfl, rfl, c__law_loose⟩⟩,
      ⟨⟨nm "law", nm "law", defArgs s_law, defBody s_law, defScope s_law, _, f_law, n_law, rfl, F_law, sc_law, rfl, rfl, c_law⟩⟩, trivial⟩
  have hxc : ∀ base : Heap, ∀ q ∈ tb.xcs, pg.xf q.1 = some q.2 ∧ XcTop Pr w K mg base q.1 q.2 := by
    intro base
    refine Lk.all ?_
    exact ⟨⟨rfl, X_BadProgram, fx_BadProgram, fdx_BadProgram, [nm "self", nm "path"], Hn_XBadProgram, PySem.W.mg_of X G Hn_XBadProgram, Hxo_BadProgram, Hxm_BadProgram, Hxy_BadProgram, xi_ok Fx_BadProgram sc_xBadProgram (by decide +kernel) (by decide +kernel) (by decide +kernel) (by decide) (by decide) (by decide) (by decide +kernel) ⟨⟨Hxr_WorthError, Hxg_WorthError⟩, Hxf_WorthError⟩ (PySem.W.mg_of X G Hn_XWorthError) Hxo_BadProgram Hxn_BadProgram rfl rfl, Bx_BadProgram⟩,
      ⟨rfl, X_BadText, fx_BadText, fdx_BadText, [nm "self", nm "word"], Hn_XBadText, PySem.W.mg_of X G Hn_XBadText, Hxo_BadText, Hxm_BadText, Hxy_BadText, xi_ok Fx_BadText sc_xBadText (by decide +kernel) (by decide +kernel) (by decide +kernel) (by decide) (by decide) (by decide) (by decide +kernel) ⟨⟨Hxr_WorthError, Hxg_WorthError⟩, Hxf_WorthError⟩ (PySem.W.mg_of X G Hn_XWorthError) Hxo_BadText Hxn_BadText rfl rfl, Bx_BadText⟩, trivial⟩
  have T : Top Pr w K mg h ca tb pg tab := by
    refine ⟨fun key e he => hfn (key, e) (Lk.mem he), Lk.all ?_, Lk.all ?_, Lk.all ?_, ?_, ?_, fun q hq => hxc h q hq, Lk.all ?_, ?_⟩
    · exact ⟨⟨_, rfl, PySem.W.mg_of X G Hn__law_alike, F__law_alike.kp, [], [], B__law_alike, .nil, fun _ => .nil⟩,
        ⟨_, rfl, PySem.W.mg_of X G Hn__law_fault_free, F__law_fault_free.kp, [], [], B__law_fault_free, .nil, fun _ => .nil⟩,
        ⟨_, rfl, PySem.W.mg_of X G Hn__law_loose, F__law_loose.kp, [], [], B__law_loose, .nil, fun _ => .nil⟩,
        ⟨_, rfl, PySem.W.mg_of X G Hn__law_number, F__law_number.kp, [], [], B__law_number, .nil, fun _ => .nil⟩,
        ⟨_, rfl, PySem.W.mg_of X G Hn__law_part, F__law_part.kp, [], [], B__law_part, .nil, fun _ => .nil⟩,
        ⟨_, rfl, PySem.W.mg_of X G Hn__law_part_text, F__law_part_text.kp, [], [], B__law_part_text, .nil, fun _ => .nil⟩,
        ⟨_, rfl, PySem.W.mg_of X G Hn__law_program, F__law_program.kp, [], [], B__law_program, .nil, fun _ => .nil⟩,
        ⟨_, rfl, PySem.W.mg_of X G Hn__law_row, F__law_row.kp, [], [], B__law_row, .nil, fun _ => .nil⟩,
        ⟨_, rfl, PySem.W.mg_of X G Hn__law_taken, F__law_taken.kp, [], [], B__law_taken, .nil, fun _ => .nil⟩,
        ⟨_, rfl, PySem.W.mg_of X G Hn__law_text, F__law_text.kp, [], [], B__law_text, .nil, fun _ => .nil⟩,
        ⟨_, rfl, PySem.W.mg_of X G Hn__law_within, F__law_within.kp, [], [], B__law_within, .nil, fun _ => .nil⟩,
        ⟨_, rfl, PySem.W.mg_of X G Hn_inner_parts, F_inner_parts.kp, [], [], B_inner_parts, .nil, fun _ => .nil⟩,
        ⟨_, rfl, PySem.W.mg_of X G Hn_is_cell, F_is_cell.kp, [], [], B_is_cell, .nil, fun _ => .nil⟩,
        ⟨_, rfl, PySem.W.mg_of X G Hn_is_form, F_is_form.kp, [], [], B_is_form, .nil, fun _ => .nil⟩,
        ⟨_, rfl, PySem.W.mg_of X G Hn_is_head, F_is_head.kp, [], [], B_is_head, .nil, fun _ => .nil⟩,
        ⟨_, rfl, PySem.W.mg_of X G Hn_is_name, F_is_name.kp, [], [], B_is_name, .nil, fun _ => .nil⟩,
        ⟨_, rfl, PySem.W.mg_of X G Hn_is_number, F_is_number.kp, [], [], B_is_number, .nil, fun _ => .nil⟩,
        ⟨_, rfl, PySem.W.mg_of X G Hn_is_text, F_is_text.kp, [], [], B_is_text, .nil, fun _ => .nil⟩,
        ⟨_, rfl, PySem.W.mg_of X G Hn_is_worth, F_is_worth.kp, [], [], B_is_worth, .nil, fun _ => .nil⟩,
        ⟨_, rfl, PySem.W.mg_of X G Hn_need_part, F_need_part.kp, [], [], B_need_part, .nil, fun _ => .nil⟩,
        ⟨_, rfl, PySem.W.mg_of X G Hn_need_program, F_need_program.kp, [], [], B_need_program, .nil, fun _ => .nil⟩,
        ⟨_, rfl, PySem.W.mg_of X G Hn_part_text, F_part_text.kp, [], [], B_part_text, .nil, fun _ => .nil⟩,
        ⟨_, rfl, PySem.W.mg_of X G Hn_read, F_read.kp, [], [], B_read, .nil, fun _ => .nil⟩,
        ⟨_, rfl, PySem.W.mg_of X G Hn_size, F_size.kp, [], [], B_size, .nil, fun _ => .nil⟩,
        ⟨_, rfl, PySem.W.mg_of X G Hn_size_of, F_size_of.kp, [], [], B_size_of, .nil, fun _ => .nil⟩,
        ⟨_, rfl, PySem.W.mg_of X G Hn_words_of, F_words_of.kp, [], [], B_words_of, .nil, fun _ => .nil⟩,
        ⟨_, rfl, PySem.W.mg_of X G Hn_worth_text, F_worth_text.kp, [], [], B_worth_text, .nil, fun _ => .nil⟩,
        ⟨_, rfl, PySem.W.mg_of X G Hn_written, F_written.kp, [], [], B_written, .nil, fun _ => .nil⟩, trivial⟩
    · exact ⟨gl_str X G Hg_DEED, gl_str X G Hg_FIGURES, gl_str X G Hg_LETTERS, gl_int X G Hg_MOST_DEEDS, gl_int X G Hg_MOST_DEEP, gl_int X G Hg_MOST_FIGURES, gl_int X G Hg_MOST_FIRST, gl_int X G Hg_MOST_NAME, gl_int X G Hg_MOST_NUMBER, gl_int X G Hg_MOST_PARTS, gl_int X G Hg_MOST_PLACES, gl_int X G Hg_MOST_SIGNS, gl_tup X G Hg_NAMED, gl_str X G Hg_OPEN, gl_tup X G Hg_PAIRED, gl_tup X G Hg_PLAIN, gl_str X G Hg_QUOTE, gl_str X G Hg_SHUT, gl_tup X G Hg_SINGLE, trivial⟩
    · exact ⟨PySem.W.mg_none_of X G Hb_all, PySem.W.mg_none_of X G Hb_bool, PySem.W.mg_none_of X G Hb_enumerate, PySem.W.mg_none_of X G Hb_int, PySem.W.mg_none_of X G Hb_isinstance, PySem.W.mg_none_of X G Hb_len, PySem.W.mg_none_of X G Hb_list, PySem.W.mg_none_of X G Hb_min, PySem.W.mg_none_of X G Hb_range, PySem.W.mg_none_of X G Hb_str, PySem.W.mg_none_of X G Hb_sum, PySem.W.mg_none_of X G Hb_tuple, trivial⟩
    · intro Cn A hA
      by_cases h0 : Cn = "Reader"
      · subst h0
        have e : A = C_Reader := by simpa [ca] using hA.symm
        subst e
        refine ⟨⟨Hpg_Reader, Hhd_Reader, Hpo_Reader, Hsa_Reader⟩, Lk.all ⟨Hno_Reader_ahead, Hno_Reader_at, Hno_Reader_words, trivial⟩, Lk.all ?_⟩
        exact ⟨fun q hq => by cases hq; exact ⟨_, rfl, ⟨Hn_Reader_d_heads, Hi_Reader_d_heads, F_Reader_d_heads.kp⟩, B_Reader_d_heads⟩,
          fun q hq => by cases hq; exact ⟨_, rfl, ⟨Hn_Reader_d_must, Hi_Reader_d_must, F_Reader_d_must.kp⟩, B_Reader_d_must⟩,
          fun q hq => by cases hq; exact ⟨_, rfl, ⟨Hn_Reader_d_number, Hi_Reader_d_number, F_Reader_d_number.kp⟩, B_Reader_d_number⟩,
          fun q hq => by cases hq; exact ⟨_, rfl, ⟨Hn_Reader_d_one_part, Hi_Reader_d_one_part, F_Reader_d_one_part.kp⟩, B_Reader_d_one_part⟩,
          fun q hq => by cases hq; exact ⟨_, rfl, ⟨Hn_Reader_d_take, Hi_Reader_d_take, F_Reader_d_take.kp⟩, B_Reader_d_take⟩,
          fun q hq => by cases hq; exact ⟨_, rfl, ⟨Hn_Reader_d_whole, Hi_Reader_d_whole, F_Reader_d_whole.kp⟩, B_Reader_d_whole⟩,
          fun q hq => by cases hq; exact ⟨_, rfl, ⟨Hn_Reader_d_worth, Hi_Reader_d_worth, F_Reader_d_worth.kp⟩, B_Reader_d_worth⟩, trivial⟩
      · exact absurd hA (by simp [ca, h0])
    · exact Lk.all ⟨⟨C_Reader, "Reader.__init__", _, by simp [ca], PySem.W.mg_of X G Hn_CReader, by decide +kernel, rfl, ⟨Hmk_Reader, Hn_Reader_d___init__, Hi_Reader_d___init__, Hkc_Reader⟩, B_Reader_d___init__⟩, trivial⟩
    · exact trivial
    · intro C C' b hb
      have key : ∀ q ∈ xsb, ∃ A A', PySem.W.nsIn K mainGlobals (nm q.1.1) = some (some (.ref A)) ∧ PySem.W.nsIn K mainGlobals (nm q.1.2) = some (some (.ref A')) ∧ PySem.W.exmOne K (.ref A) (.ref A') = some q.2 := Lk.all trivial
      unfold Pg.sb at hb
      cases hf : pg.xsb.find? (fun q => decide (q.1 = (C, C'))) with
      | none => rw [hf] at hb; cases hb
      | some q =>
        rw [hf] at hb
        cases hb
        have e := List.find?_some hf
        have e' : q.1 = (C, C') := by simpa using e
        have z := key q (List.mem_of_find?_eq_some hf)
        rw [e'] at z
        exact z
  refine ⟨fd_law, fun s v => FunD.bindsA (ps := p_law) F_law (fun _ _ _ _ _ _ us hl => match us, hl with | [_], _ => rfl) s [v] rfl, fun base hb gb => ?_⟩
  have T' : Top Pr w K mg base ca tb pg tab := ⟨T.fn, T.cal, T.gls, T.blt, T.cls, T.mks, fun q hq => hxc base q hq, T.hds, T.sb⟩
  refine (T'.ok 61 "law" ⟨a_law, fd_law, p_law⟩ rfl).imp fun vs H Q E q => ?_
  obtain ⟨a, ns, rfl, hS, hO, hQ⟩ := q
  exact ⟨rfl, law_sp ca hS hO hQ⟩
end G25
open PySem PySem.W PyProof.Rows
set_option maxRecDepth 100000 in
set_option maxHeartbeats 0 in
theorem PySem.Challenge.cw_manyworth_k25_parts_counted_and_written_holds : PySem.Challenge.rw_manyworth_k25_parts_counted_and_written.Holds := by
  w_on; o_law; k_head; (case hw => w_witness2)
  k_fill
  refine L2.walk_of (l := PySem.Challenge.rw_manyworth_k25_parts_counted_and_written) (n := 63) (k := 63) (x := Mw.nm "_law_script") (CX := fun w => L2.CX (PySem.Challenge.rw_manyworth_k25_parts_counted_and_written).prog w) (sp := fun w => G25.spLaw _) rfl (by decide) rfl ⟨rfl, by decide, by decide⟩ (fun w h Y => PySem.W.kIn_of Y) ?F (fun _ _ a ns hl hO hS => ⟨a, ns, rfl, hS, hO, fun _ => rfl⟩) (fun _ _ _ _ _ ⟨_, _, _, _, _, _, _, _, _, _, _, _, z⟩ => z)
  case F =>
    intro w mg fa h KX G hmg
    refine' G25.all_mk (w := w) KX G hmg ?Hn_CReader ?Hn_is_number ?Hn_is_text ?Hn_is_worth ?Hn_is_cell ?Hn_is_name ?Hn_inner_parts ?Hn_is_form ?Hn_need_part ?Hn_is_head ?Hn_need_program ?Hn_worth_text ?Hn_part_text ?Hn_written ?Hn_words_of ?Hn_read ?Hn_size_of ?Hn_size ?Hn__law_row ?Hn__law_taken ?Hn__law_text ?Hn__law_number ?Hn__law_part ?Hn__law_program ?Hn__law_within ?Hn__law_fault_free ?Hn__law_alike ?Hn__law_part_text ?Hn__law_loose ?Hn_law ?Hn_Reader_d___init__ ?Hi_Reader_d___init__ ?Hn_Reader_d_take ?Hi_Reader_d_take ?Hn_Reader_d_must ?Hi_Reader_d_must ?Hn_Reader_d_whole ?Hi_Reader_d_whole ?Hn_Reader_d_one_part ?Hi_Reader_d_one_part ?Hn_Reader_d_heads ?Hi_Reader_d_heads ?Hn_Reader_d_worth ?Hi_Reader_d_worth ?Hn_Reader_d_number ?Hi_Reader_d_number ?Hd_is_number ?Hd_is_text ?Hd_is_worth ?Hd_is_cell ?Hd_is_name ?Hd_inner_parts ?Hd_is_form ?Hd_need_part ?Hd_is_head ?Hd_need_program ?Hd_worth_text ?Hd_part_text ?Hd_written ?Hd_words_of ?Hd_Reader_d___init__ ?Hd_Reader_d_take ?Hd_Reader_d_must ?Hd_Reader_d_whole ?Hd_Reader_d_one_part ?Hd_Reader_d_heads ?Hd_Reader_d_worth ?Hd_Reader_d_number ?Hd_read ?Hd_size_of ?Hd_size ?Hd__law_row ?Hd__law_taken ?Hd__law_text ?Hd__law_number ?Hd__law_part ?Hd__law_program ?Hd__law_within ?Hd__law_fault_free ?Hd__law_alike ?Hd__law_part_text ?Hd__law_loose ?Hd_law ?Hpg_Reader ?Hhd_Reader ?Hpo_Reader ?Hsa_Reader ?Hmk_Reader ?Hkc_Reader ?Hno_Reader_ahead ?Hno_Reader_at ?Hno_Reader_words ?Hn_XWorthError ?Hn_XBadProgram ?Hn_XBadText ?Hxr_WorthError ?Hxg_WorthError ?Hxf_WorthError ?Hxe_BadProgram ?Hxt_BadProgram ?Hxk_BadProgram ?Hxi_BadProgram ?Hxo_BadProgram ?Hxn_BadProgram ?Hxm_BadProgram ?Hxy_BadProgram ?Hxd_BadProgram ?Hxe_BadText ?Hxt_BadText ?Hxk_BadText ?Hxi_BadText ?Hxo_BadText ?Hxn_BadText ?Hxm_BadText ?Hxy_BadText ?Hxd_BadText ?Hg_DEED ?Hg_FIGURES ?Hg_LETTERS ?Hg_MOST_DEEDS ?Hg_MOST_DEEP ?Hg_MOST_FIGURES ?Hg_MOST_FIRST ?Hg_MOST_NAME ?Hg_MOST_NUMBER ?Hg_MOST_PARTS ?Hg_MOST_PLACES ?Hg_MOST_SIGNS ?Hg_NAMED ?Hg_OPEN ?Hg_PAIRED ?Hg_PLAIN ?Hg_QUOTE ?Hg_SHUT ?Hg_SINGLE ?Hb_all ?Hb_bool ?Hb_enumerate ?Hb_int ?Hb_isinstance ?Hb_len ?Hb_list ?Hb_min ?Hb_range ?Hb_str ?Hb_sum ?Hb_tuple
    (case Hn_CReader => k_is)
    (case Hn_is_number => k_is)
    (case Hn_is_text => k_is)
    (case Hn_is_worth => k_is)
    (case Hn_is_cell => k_is)
    (case Hn_is_name => k_is)
    (case Hn_inner_parts => k_is)
    (case Hn_is_form => k_is)
    (case Hn_need_part => k_is)
    (case Hn_is_head => k_is)
    (case Hn_need_program => k_is)
    (case Hn_worth_text => k_is)
    (case Hn_part_text => k_is)
    (case Hn_written => k_is)
    (case Hn_words_of => k_is)
    (case Hn_read => k_is)
    (case Hn_size_of => k_is)
    (case Hn_size => k_is)
    (case Hn__law_row => k_is)
    (case Hn__law_taken => k_is)
    (case Hn__law_text => k_is)
    (case Hn__law_number => k_is)
    (case Hn__law_part => k_is)
    (case Hn__law_program => k_is)
    (case Hn__law_within => k_is)
    (case Hn__law_fault_free => k_is)
    (case Hn__law_alike => k_is)
    (case Hn__law_part_text => k_is)
    (case Hn__law_loose => k_is)
    (case Hn_law => k_is)
    (case Hn_Reader_d___init__ => k_is)
    (case Hi_Reader_d___init__ => k_is)
    (case Hn_Reader_d_take => k_is)
    (case Hi_Reader_d_take => k_is)
    (case Hn_Reader_d_must => k_is)
    (case Hi_Reader_d_must => k_is)
    (case Hn_Reader_d_whole => k_is)
    (case Hi_Reader_d_whole => k_is)
    (case Hn_Reader_d_one_part => k_is)
    (case Hi_Reader_d_one_part => k_is)
    (case Hn_Reader_d_heads => k_is)
    (case Hi_Reader_d_heads => k_is)
    (case Hn_Reader_d_worth => k_is)
    (case Hi_Reader_d_worth => k_is)
    (case Hn_Reader_d_number => k_is)
    (case Hi_Reader_d_number => k_is)
    (case Hd_is_number => (refine' G25.DefAt_mk ?ld_is_number ?cd_is_number ?kd_is_number; (case ld_is_number => k_is); (case cd_is_number => k_is); (case kd_is_number => k_is)))
    (case Hd_is_text => (refine' G25.DefAt_mk ?ld_is_text ?cd_is_text ?kd_is_text; (case ld_is_text => k_is); (case cd_is_text => k_is); (case kd_is_text => k_is)))
    (case Hd_is_worth => (refine' G25.DefAt_mk ?ld_is_worth ?cd_is_worth ?kd_is_worth; (case ld_is_worth => k_is); (case cd_is_worth => k_is); (case kd_is_worth => k_is)))
    (case Hd_is_cell => (refine' G25.DefAt_mk ?ld_is_cell ?cd_is_cell ?kd_is_cell; (case ld_is_cell => k_is); (case cd_is_cell => k_is); (case kd_is_cell => k_is)))
    (case Hd_is_name => (refine' G25.DefAt_mk ?ld_is_name ?cd_is_name ?kd_is_name; (case ld_is_name => k_is); (case cd_is_name => k_is); (case kd_is_name => k_is)))
    (case Hd_inner_parts => (refine' G25.DefAt_mk ?ld_inner_parts ?cd_inner_parts ?kd_inner_parts; (case ld_inner_parts => k_is); (case cd_inner_parts => k_is); (case kd_inner_parts => k_is)))
    (case Hd_is_form => (refine' G25.DefAt_mk ?ld_is_form ?cd_is_form ?kd_is_form; (case ld_is_form => k_is); (case cd_is_form => k_is); (case kd_is_form => k_is)))
    (case Hd_need_part => (refine' G25.DefAt_mk ?ld_need_part ?cd_need_part ?kd_need_part; (case ld_need_part => k_is); (case cd_need_part => k_is); (case kd_need_part => k_is)))
    (case Hd_is_head => (refine' G25.DefAt_mk ?ld_is_head ?cd_is_head ?kd_is_head; (case ld_is_head => k_is); (case cd_is_head => k_is); (case kd_is_head => k_is)))
    (case Hd_need_program => (refine' G25.DefAt_mk ?ld_need_program ?cd_need_program ?kd_need_program; (case ld_need_program => k_is); (case cd_need_program => k_is); (case kd_need_program => k_is)))
    (case Hd_worth_text => (refine' G25.DefAt_mk ?ld_worth_text ?cd_worth_text ?kd_worth_text; (case ld_worth_text => k_is); (case cd_worth_text => k_is); (case kd_worth_text => k_is)))
    (case Hd_part_text => (refine' G25.DefAt_mk ?ld_part_text ?cd_part_text ?kd_part_text; (case ld_part_text => k_is); (case cd_part_text => k_is); (case kd_part_text => k_is)))
    (case Hd_written => (refine' G25.DefAt_mk ?ld_written ?cd_written ?kd_written; (case ld_written => k_is); (case cd_written => k_is); (case kd_written => k_is)))
    (case Hd_words_of => (refine' G25.DefAt_mk ?ld_words_of ?cd_words_of ?kd_words_of; (case ld_words_of => k_is); (case cd_words_of => k_is); (case kd_words_of => k_is)))
    (case Hd_Reader_d___init__ => (refine' G25.DefAt_mk ?ld_Reader_d___init__ ?cd_Reader_d___init__ ?kd_Reader_d___init__; (case ld_Reader_d___init__ => k_is); (case cd_Reader_d___init__ => k_is); (case kd_Reader_d___init__ => k_is)))
    (case Hd_Reader_d_take => (refine' G25.DefAt_mk ?ld_Reader_d_take ?cd_Reader_d_take ?kd_Reader_d_take; (case ld_Reader_d_take => k_is); (case cd_Reader_d_take => k_is); (case kd_Reader_d_take => k_is)))
    (case Hd_Reader_d_must => (refine' G25.DefAt_mk ?ld_Reader_d_must ?cd_Reader_d_must ?kd_Reader_d_must; (case ld_Reader_d_must => k_is); (case cd_Reader_d_must => k_is); (case kd_Reader_d_must => k_is)))
    (case Hd_Reader_d_whole => (refine' G25.DefAt_mk ?ld_Reader_d_whole ?cd_Reader_d_whole ?kd_Reader_d_whole; (case ld_Reader_d_whole => k_is); (case cd_Reader_d_whole => k_is); (case kd_Reader_d_whole => k_is)))
    (case Hd_Reader_d_one_part => (refine' G25.DefAt_mk ?ld_Reader_d_one_part ?cd_Reader_d_one_part ?kd_Reader_d_one_part; (case ld_Reader_d_one_part => k_is); (case cd_Reader_d_one_part => k_is); (case kd_Reader_d_one_part => k_is)))
    (case Hd_Reader_d_heads => (refine' G25.DefAt_mk ?ld_Reader_d_heads ?cd_Reader_d_heads ?kd_Reader_d_heads; (case ld_Reader_d_heads => k_is); (case cd_Reader_d_heads => k_is); (case kd_Reader_d_heads => k_is)))
    (case Hd_Reader_d_worth => (refine' G25.DefAt_mk ?ld_Reader_d_worth ?cd_Reader_d_worth ?kd_Reader_d_worth; (case ld_Reader_d_worth => k_is); (case cd_Reader_d_worth => k_is); (case kd_Reader_d_worth => k_is)))
    (case Hd_Reader_d_number => (refine' G25.DefAt_mk ?ld_Reader_d_number ?cd_Reader_d_number ?kd_Reader_d_number; (case ld_Reader_d_number => k_is); (case cd_Reader_d_number => k_is); (case kd_Reader_d_number => k_is)))
    (case Hd_read => (refine' G25.DefAt_mk ?ld_read ?cd_read ?kd_read; (case ld_read => k_is); (case cd_read => k_is); (case kd_read => k_is)))
    (case Hd_size_of => (refine' G25.DefAt_mk ?ld_size_of ?cd_size_of ?kd_size_of; (case ld_size_of => k_is); (case cd_size_of => k_is); (case kd_size_of => k_is)))
    (case Hd_size => (refine' G25.DefAt_mk ?ld_size ?cd_size ?kd_size; (case ld_size => k_is); (case cd_size => k_is); (case kd_size => k_is)))
    (case Hd__law_row => (refine' G25.DefAt_mk ?ld__law_row ?cd__law_row ?kd__law_row; (case ld__law_row => k_is); (case cd__law_row => k_is); (case kd__law_row => k_is)))
    (case Hd__law_taken => (refine' G25.DefAt_mk ?ld__law_taken ?cd__law_taken ?kd__law_taken; (case ld__law_taken => k_is); (case cd__law_taken => k_is); (case kd__law_taken => k_is)))
    (case Hd__law_text => (refine' G25.DefAt_mk ?ld__law_text ?cd__law_text ?kd__law_text; (case ld__law_text => k_is); (case cd__law_text => k_is); (case kd__law_text => k_is)))
    (case Hd__law_number => (refine' G25.DefAt_mk ?ld__law_number ?cd__law_number ?kd__law_number; (case ld__law_number => k_is); (case cd__law_number => k_is); (case kd__law_number => k_is)))
    (case Hd__law_part => (refine' G25.DefAt_mk ?ld__law_part ?cd__law_part ?kd__law_part; (case ld__law_part => k_is); (case cd__law_part => k_is); (case kd__law_part => k_is)))
    (case Hd__law_program => (refine' G25.DefAt1_mk ?ld__law_program ?cd__law_program ?kd__law_program ?l2d__law_program ?od__law_program; (case ld__law_program => k_is); (case cd__law_program => k_is); (case kd__law_program => k_is); (case l2d__law_program => k_is); (case od__law_program => rfl)))
    (case Hd__law_within => (refine' G25.DefAt_mk ?ld__law_within ?cd__law_within ?kd__law_within; (case ld__law_within => k_is); (case cd__law_within => k_is); (case kd__law_within => k_is)))
    (case Hd__law_fault_free => (refine' G25.DefAt_mk ?ld__law_fault_free ?cd__law_fault_free ?kd__law_fault_free; (case ld__law_fault_free => k_is); (case cd__law_fault_free => k_is); (case kd__law_fault_free => k_is)))
    (case Hd__law_alike => (refine' G25.DefAt_mk ?ld__law_alike ?cd__law_alike ?kd__law_alike; (case ld__law_alike => k_is); (case cd__law_alike => k_is); (case kd__law_alike => k_is)))
    (case Hd__law_part_text => (refine' G25.DefAt_mk ?ld__law_part_text ?cd__law_part_text ?kd__law_part_text; (case ld__law_part_text => k_is); (case cd__law_part_text => k_is); (case kd__law_part_text => k_is)))
    (case Hd__law_loose => (refine' G25.DefAt_mk ?ld__law_loose ?cd__law_loose ?kd__law_loose; (case ld__law_loose => k_is); (case cd__law_loose => k_is); (case kd__law_loose => k_is)))
    (case Hd_law => (refine' G25.DefAt_mk ?ld_law ?cd_law ?kd_law; (case ld_law => k_is); (case cd_law => k_is); (case kd_law => k_is)))
    (case Hpg_Reader => k_is)
    (case Hhd_Reader => k_is)
    (case Hpo_Reader => k_is)
    (case Hsa_Reader => k_is)
    (case Hmk_Reader => k_is)
    (case Hkc_Reader => k_is)
    (case Hno_Reader_ahead => k_is)
    (case Hno_Reader_at => k_is)
    (case Hno_Reader_words => k_is)
    (case Hn_XWorthError => k_is)
    (case Hn_XBadProgram => k_is)
    (case Hn_XBadText => k_is)
    (case Hxr_WorthError => k_is)
    (case Hxg_WorthError => k_is)
    (case Hxf_WorthError => k_is)
    (case Hxe_BadProgram => k_is)
    (case Hxt_BadProgram => k_is)
    (case Hxk_BadProgram => k_is)
    (case Hxi_BadProgram => k_is)
    (case Hxo_BadProgram => (refine' Mw.oex_mk ?lxo_BadProgram ?bxo_BadProgram ?sxo_BadProgram ?exo_BadProgram ?txo_BadProgram ?kxo_BadProgram; (case lxo_BadProgram => k_is); (case bxo_BadProgram => decide +kernel); (case sxo_BadProgram => k_is); (case exo_BadProgram => k_is); (case txo_BadProgram => k_is); (case kxo_BadProgram => k_is)))
    (case Hxn_BadProgram => k_is)
    (case Hxm_BadProgram => k_is)
    (case Hxy_BadProgram => k_is)
    (case Hxd_BadProgram => (refine' G25.DefAt_mk ?lxd_BadProgram ?cxd_BadProgram ?kxd_BadProgram; (case lxd_BadProgram => k_is); (case cxd_BadProgram => k_is); (case kxd_BadProgram => k_is)))
    (case Hxe_BadText => k_is)
    (case Hxt_BadText => k_is)
    (case Hxk_BadText => k_is)
    (case Hxi_BadText => k_is)
    (case Hxo_BadText => (refine' Mw.oex_mk ?lxo_BadText ?bxo_BadText ?sxo_BadText ?exo_BadText ?txo_BadText ?kxo_BadText; (case lxo_BadText => k_is); (case bxo_BadText => decide +kernel); (case sxo_BadText => k_is); (case exo_BadText => k_is); (case txo_BadText => k_is); (case kxo_BadText => k_is)))
    (case Hxn_BadText => k_is)
    (case Hxm_BadText => k_is)
    (case Hxy_BadText => k_is)
    (case Hxd_BadText => (refine' G25.DefAt_mk ?lxd_BadText ?cxd_BadText ?kxd_BadText; (case lxd_BadText => k_is); (case cxd_BadText => k_is); (case kxd_BadText => k_is)))
    (case Hg_DEED => (refine' G25.StrAt_mk ?qg_DEED; (case qg_DEED => k_is)))
    (case Hg_FIGURES => (refine' G25.StrAt_mk ?qg_FIGURES; (case qg_FIGURES => k_is)))
    (case Hg_LETTERS => (refine' G25.StrAt_mk ?qg_LETTERS; (case qg_LETTERS => k_is)))
    (case Hg_MOST_DEEDS => (refine' G25.IntAt_mk ?qg_MOST_DEEDS; (case qg_MOST_DEEDS => k_is)))
    (case Hg_MOST_DEEP => (refine' G25.IntAt_mk ?qg_MOST_DEEP; (case qg_MOST_DEEP => k_is)))
    (case Hg_MOST_FIGURES => (refine' G25.IntAt_mk ?qg_MOST_FIGURES; (case qg_MOST_FIGURES => k_is)))
    (case Hg_MOST_FIRST => (refine' G25.IntAt_mk ?qg_MOST_FIRST; (case qg_MOST_FIRST => k_is)))
    (case Hg_MOST_NAME => (refine' G25.IntAt_mk ?qg_MOST_NAME; (case qg_MOST_NAME => k_is)))
    (case Hg_MOST_NUMBER => (refine' G25.IntAt_mk ?qg_MOST_NUMBER; (case qg_MOST_NUMBER => k_is)))
    (case Hg_MOST_PARTS => (refine' G25.IntAt_mk ?qg_MOST_PARTS; (case qg_MOST_PARTS => k_is)))
    (case Hg_MOST_PLACES => (refine' G25.IntAt_mk ?qg_MOST_PLACES; (case qg_MOST_PLACES => k_is)))
    (case Hg_MOST_SIGNS => (refine' G25.IntAt_mk ?qg_MOST_SIGNS; (case qg_MOST_SIGNS => k_is)))
    (case Hg_NAMED => (refine' G25.TupAt_mk ?qg_NAMED ?lg_NAMED ?zg_NAMED ?pg_NAMED; (case qg_NAMED => k_is); (case lg_NAMED => k_is); (case zg_NAMED => decide +kernel); (case pg_NAMED => exact .cons ⟨_, rfl⟩ (.cons ⟨_, rfl⟩ (.nil)))))
    (case Hg_OPEN => (refine' G25.StrAt_mk ?qg_OPEN; (case qg_OPEN => k_is)))
    (case Hg_PAIRED => (refine' G25.TupAt_mk ?qg_PAIRED ?lg_PAIRED ?zg_PAIRED ?pg_PAIRED; (case qg_PAIRED => k_is); (case lg_PAIRED => k_is); (case zg_PAIRED => decide +kernel); (case pg_PAIRED => exact .cons ⟨_, rfl⟩ (.cons ⟨_, rfl⟩ (.cons ⟨_, rfl⟩ (.cons ⟨_, rfl⟩ (.cons ⟨_, rfl⟩ (.cons ⟨_, rfl⟩ (.cons ⟨_, rfl⟩ (.cons ⟨_, rfl⟩ (.cons ⟨_, rfl⟩ (.cons ⟨_, rfl⟩ (.cons ⟨_, rfl⟩ (.cons ⟨_, rfl⟩ (.cons ⟨_, rfl⟩ (.cons ⟨_, rfl⟩ (.nil)))))))))))))))))
    (case Hg_PLAIN => (refine' G25.TupAt_mk ?qg_PLAIN ?lg_PLAIN ?zg_PLAIN ?pg_PLAIN; (case qg_PLAIN => k_is); (case lg_PLAIN => k_is); (case zg_PLAIN => decide +kernel); (case pg_PLAIN => exact .cons ⟨_, rfl⟩ (.cons ⟨_, rfl⟩ (.nil)))))
    (case Hg_QUOTE => (refine' G25.StrAt_mk ?qg_QUOTE; (case qg_QUOTE => k_is)))
    (case Hg_SHUT => (refine' G25.StrAt_mk ?qg_SHUT; (case qg_SHUT => k_is)))
    (case Hg_SINGLE => (refine' G25.TupAt_mk ?qg_SINGLE ?lg_SINGLE ?zg_SINGLE ?pg_SINGLE; (case qg_SINGLE => k_is); (case lg_SINGLE => k_is); (case zg_SINGLE => decide +kernel); (case pg_SINGLE => exact .cons ⟨_, rfl⟩ (.cons ⟨_, rfl⟩ (.cons ⟨_, rfl⟩ (.cons ⟨_, rfl⟩ (.cons ⟨_, rfl⟩ (.cons ⟨_, rfl⟩ (.cons ⟨_, rfl⟩ (.cons ⟨_, rfl⟩ (.nil)))))))))))
    (case Hb_all => k_is)
    (case Hb_bool => k_is)
    (case Hb_enumerate => k_is)
    (case Hb_int => k_is)
    (case Hb_isinstance => k_is)
    (case Hb_len => k_is)
    (case Hb_list => k_is)
    (case Hb_min => k_is)
    (case Hb_range => k_is)
    (case Hb_str => k_is)
    (case Hb_sum => k_is)
    (case Hb_tuple => k_is)
