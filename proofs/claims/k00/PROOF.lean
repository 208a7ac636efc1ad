import PyProof.Rows.All
import HandS.ForMost
import HandS.Exc
import HandS.HeadHook2
import HandS.TupAny
import HandS.Wide
import HandS.WideBits
import HandS.Style
import HandS.IsInst
import HandS.Deep
import HandS.StrMore
import HandS.ExcIs
import HandS.ExcOwn
import HandS.TryOnly
import HandS.WordsExc
import HandS.HeadEnd
import HandS.Codes
import HandS.Head0
import HandS.Head1
import HandS.Head2
import PySem.Challenge.RW_wayknown_k00_integers_and_data
set_option Elab.async false
set_option linter.all false
set_option autoImplicit false
set_option maxRecDepth 100000
/-! DL0: values, store, syntax and the wishes of the layer -/
namespace DL
open PySem L2

/-- a value: data as they are; what may change by its address; functions and classes by their numbers; rol: the script -/
inductive D where
  | non | bl (b : Bool) | int (i : Int) | str (l : List Nat) | tup (xs : List D) | ref (a : Addr) | fn (x : Nat) | cls (x : Nat) | rol (ns : List Int)
/-- what may change -/
inductive O where
  | lst (xs : List D)
  | ins (c : Nat) (fs : List (Str × D))
  | dic (kvs : List (Sum Int (List Nat) × D))
abbrev Sto := Addr → Option O
def put (τ : Sto) (a : Addr) (o : O) : Sto := fun b => if b = a then some o else τ b
theorem put_same {τ : Sto} {a : Addr} {o : O} : put τ a o a = some o := if_pos rfl
theorem put_ne {τ : Sto} {a b : Addr} {o : O} (h : b ≠ a) : put τ a o b = τ b := if_neg h
/-- all that stood stands -/
def Ext (τ τ' : Sto) : Prop := ∀ a o, τ a = some o → τ' a = some o
theorem Ext.refl (τ : Sto) : Ext τ τ := fun _ _ h => h
theorem Ext.trans {a b c : Sto} (h : Ext a b) (k : Ext b c) : Ext a c := fun _ _ e => k _ _ (h _ _ e)
theorem Ext.new {τ : Sto} {p : Addr} {o : O} (h : τ p = none) : Ext τ (put τ p o) := fun a u e => by
  by_cases q : a = p
  · subst q; rw [h] at e; cases e
  · rw [put_ne q]; exact e
/-- an exception: its class, its own attributes -/
structure Xc where
  cls : Nat
  fs : List (Str × D)
abbrev QD := D → Sto → Prop
abbrev XD := Xc → Sto → Prop
abbrev Loc := List (Option D)

inductive Bop where | add | sub | mul | fdiv | mod | pow
inductive Cop where | eq | ne | lt | le | gt | ge | inn | nin | iss | isn
/-- built-in functions and classes -/
inductive Blt where | len | abs | int | str | list | tuple | all | any | ord | divmod | isint | isstr | istup | isbool | sum | sorted | max | min | chr
/-- methods of built-in types -/
inductive Bmt where | append | pop | extend | insert | index | join | find | zfill | split | replace | get
/-- what is walked -/
inductive ItK where | of | range1 | range2 | range3 | enum | zip
inductive Tg where | name (i : Nat) | tup (is : List Nat)
def Tg.slots : Tg → List Nat
  | .name i => [i]
  | .tup is => is
mutual
inductive E where
  | var (i : Nat) | cst (d : D)
  | bin (o : Bop) (a b : E) | neg (a : E) | cmp (o : Cop) (a b : E) | cmp2 (o o' : Cop) (a b c : E)
  | and (a b : E) | or (a b : E) | not (a : E) | ifx (t a b : E)
  | tup (es : Es) | lst (es : Es) | dic0
  | idx (a i : E) | slc (l h : Bool) (a lo hi : E) | rev (a : E)
  | att (o : E) (f : Str)
  | call (f : Nat) (es : Es) | callv (i : Nat) (es : Es) | new (c : Nat) (es : Es) | meth (o : E) (m : Str) (es : Es)
  | blt (b : Blt) (es : Es) | bmt (o : E) (m : Bmt) (es : Es)
  | comp (elt : E) (tg : Tg) (k : ItK) (es : Es) (t : E)
inductive Es where
  | nil | cons (e : E) (es : Es)
end
/-- what is told of a caught exception -/
inductive Hx where | cst (d : D) | isi (i c : Nat) | fld (i : Nat) (f : Str)
mutual
inductive S where
  | asg (tg : Tg) (e : E) | asub (o i e : E) | aatt (o : E) (f : Str) (e : E) | aug (i : Nat) (o : Bop) (e : E) | augA (a : E) (f : Str) (o : Bop) (e : E)
  | exp (e : E) | iff (t : E) (a b : Ss) | whl (t : E) (b : Ss) | for_ (tg : Tg) (k : ItK) (es : Es) (b : Ss)
  | ret (e : E) | retN | raise (c : Nat) (es : Es) | try_ (b : Ss) (c : Nat) (h : Hx) | pass | brk | cont
inductive Ss where
  | nil | cons (s : S) (ss : Ss)
end

/-! ### what is reckoned -/
def LIM : Nat := 16777216
def BIG : Nat := 400000
abbrev small (i : Int) : Prop := i.natAbs < 2 ^ BIG
def wpBin : Bop → D → D → Sto → QD → Prop
  | .add, .int i, .int j, τ, Q => Q (.int (i + j)) τ
  | .add, .str a, .str b, τ, Q => a.length + b.length ≤ LIM ∧ Q (.str (a ++ b)) τ
  | .add, .tup a, .tup b, τ, Q => a.length + b.length ≤ LIM ∧ Q (.tup (a ++ b)) τ
  | .add, .ref a, .ref b, τ, Q => ∃ xs ys, τ a = some (.lst xs) ∧ τ b = some (.lst ys) ∧ xs.length + ys.length ≤ LIM ∧ ∀ p, τ p = none → Q (.ref p) (put τ p (.lst (xs ++ ys)))
  | .sub, .int i, .int j, τ, Q => Q (.int (i - j)) τ
  | .mul, .int i, .int j, τ, Q => small i ∧ small j ∧ Q (.int (i * j)) τ
  | .mul, .ref a, .int k, τ, Q => ∃ xs, τ a = some (.lst xs) ∧ -(2 ^ 62) < k ∧ k < 2 ^ 62 ∧ xs.length * k.toNat ≤ LIM ∧ ∀ p, τ p = none → Q (.ref p) (put τ p (.lst (List.replicate k.toNat xs).flatten))
  | .fdiv, .int i, .int j, τ, Q => 0 < j ∧ j.natAbs < 2 ^ 9000 ∧ Q (.int (i / j)) τ
  | .mod, .int i, .int j, τ, Q => 0 < j ∧ Q (.int (i % j)) τ
  | .pow, .int i, .int j, τ, Q => 0 ≤ j ∧ j ≤ 1000000 ∧ i.natAbs < 2 ^ 64 ∧ Q (.int (i ^ j.toNat)) τ
  | _, _, _, _, _ => False
mutual
def D.depth : D → Nat
  | .tup xs => D.depths xs + 1
  | _ => 0
def D.depths : List D → Nat
  | [] => 0
  | x :: xs => max x.depth (D.depths xs)
end
mutual
/-- data alone -/
def D.pure : D → Bool
  | .non => true | .bl _ => true | .int _ => true | .str _ => true
  | .tup xs => D.pures xs
  | _ => false
def D.pures : List D → Bool
  | [] => true
  | x :: xs => x.pure && D.pures xs
end
mutual
/-- == of data -/
def D.eqv : D → D → Bool
  | .non, .non => true
  | .bl a, .bl b => a == b
  | .bl a, .int j => (if a then 1 else 0) == j
  | .int i, .bl b => i == (if b then 1 else 0)
  | .int i, .int j => i == j
  | .str x, .str y => x == y
  | .tup xs, .tup ys => D.eqvs xs ys
  | _, _ => false
def D.eqvs : List D → List D → Bool
  | [], [] => true
  | x :: xs, y :: ys => D.eqv x y && D.eqvs xs ys
  | _, _ => false
end
def D.flat : D → Bool
  | .non => true | .bl _ => true | .int _ => true | .str _ => true | _ => false
/-- two values compared by == -/
def wpEq : D → D → Sto → (Bool → Prop) → Prop
  | .ref a, .ref b, τ, Q => ∃ xs ys, τ a = some (.lst xs) ∧ τ b = some (.lst ys) ∧ D.pures xs = true ∧ D.pures ys = true ∧ min (D.depths xs) (D.depths ys) ≤ 100 ∧ Q (D.eqvs xs ys)
  | x, y, _, Q => x.pure = true ∧ y.pure = true ∧ min x.depth y.depth ≤ 100 ∧ Q (D.eqv x y)
/-- text order -/
def ltL (a b : List Nat) : Bool := decide (a < b)
/-- b stands within a -/
def inL (b : List Nat) : List Nat → Bool
  | [] => b.isEmpty
  | c :: r => (c :: r).take b.length == b || inL b r
def wpIn (x y : D) (τ : Sto) (Q : Bool → Prop) : Prop := match x, y with
  | .str b, .str a => ∃ c, b = [c] ∧ Q (inL b a)
  | x, .tup ys => x.flat = true ∧ ys.all D.flat = true ∧ Q (ys.any fun y => D.eqv y x)
  | x, .ref p => (∃ ys, τ p = some (.lst ys) ∧ x.flat = true ∧ ys.all D.flat = true ∧ Q (ys.any fun y => D.eqv y x))
  | _, _ => False
def wpCmp : Cop → D → D → Sto → (Bool → Prop) → Prop
  | .eq, x, y, τ, Q => wpEq x y τ Q
  | .ne, x, y, τ, Q => wpEq x y τ fun b => Q (!b)
  | .lt, .int i, .int j, _, Q => Q (decide (i < j))
  | .le, .int i, .int j, _, Q => Q (decide (i ≤ j))
  | .gt, .int i, .int j, _, Q => Q (decide (j < i))
  | .ge, .int i, .int j, _, Q => Q (decide (j ≤ i))
  | .lt, .str a, .str b, _, Q => Q (ltL a b)
  | .le, .str a, .str b, _, Q => Q (!ltL b a)
  | .gt, .str a, .str b, _, Q => Q (ltL b a)
  | .ge, .str a, .str b, _, Q => Q (!ltL a b)
  | .inn, x, y, τ, Q => wpIn x y τ Q
  | .nin, x, y, τ, Q => wpIn x y τ fun b => Q (!b)
  | .iss, x, .non, _, Q => Q (match x with | .non => true | _ => false)
  | .isn, x, .non, _, Q => Q (match x with | .non => false | _ => true)
  | .iss, .bl a, .bl b, _, Q => Q (a == b)
  | _, _, _, _, _ => False
/-- truth -/
def wpTru : D → Sto → (Bool → Prop) → Prop
  | .non, _, Q => Q false
  | .bl b, _, Q => Q b
  | .int i, _, Q => Q (i != 0)
  | .str l, _, Q => l.length ≤ LIM ∧ Q (!l.isEmpty)
  | .tup xs, _, Q => Q (!xs.isEmpty)
  | .ref a, τ, Q => ∃ xs, τ a = some (.lst xs) ∧ Q (!xs.isEmpty)
  | _, _, _ => False
/-- the place of an index -/
abbrev ixD (n : Nat) (i : Int) : Option Nat := L2.ixN n i
def wpIdx : D → D → Sto → QD → Prop
  | .str l, .int i, τ, Q => l.length ≤ LIM ∧ ∃ j c, ixD l.length i = some j ∧ l[j]? = some c ∧ Q (.str [c]) τ
  | .tup xs, .int i, τ, Q => ∃ j d, ixD xs.length i = some j ∧ xs[j]? = some d ∧ Q d τ
  | .ref a, .int i, τ, Q => ∃ xs j d, τ a = some (.lst xs) ∧ ixD xs.length i = some j ∧ xs[j]? = some d ∧ Q d τ
  | .rol ns, .int i, τ, Q => ∃ j n, ixD ns.length i = some j ∧ ns[j]? = some n ∧ Q (.int n) τ
  | _, _, _, _ => False
/-- a slice's bound -/
abbrev sIx (n d : Nat) (o : Option Int) : Nat := HT.sIx n d o
def cutD {α : Type} (l : List α) (lo hi : Option Int) : List α := (l.drop (sIx l.length 0 lo)).take (sIx l.length l.length hi - sIx l.length 0 lo)
def partD : Bool → D → Option (Option Int)
  | false, _ => some none
  | true, .int i => some (some i)
  | _, _ => none
def wpSlc (x : D) (l h : Option Int) (τ : Sto) (Q : QD) : Prop := match x with
  | .str s => s.length ≤ LIM ∧ Q (.str (cutD s l h)) τ
  | .tup xs => Q (.tup (cutD xs l h)) τ
  | .ref a => ∃ xs, τ a = some (.lst xs) ∧ ∀ p, τ p = none → Q (.ref p) (put τ p (.lst (cutD xs l h)))
  | _ => False
def wpRev : D → Sto → QD → Prop
  | .ref a, τ, Q => ∃ xs, τ a = some (.lst xs) ∧ ∀ p, τ p = none → Q (.ref p) (put τ p (.lst xs.reverse))
  | _, _, _ => False
/-- decimal figures -/
def figs (n : Nat) : List Nat := (Nat.toDigits 10 n).map Char.toNat
def numT (i : Int) : List Nat := if i < 0 then 45 :: figs i.natAbs else figs i.natAbs
/-- the number that plain figures tell -/
def valL (l : List Nat) : Nat := l.foldl (fun n c => n * 10 + (c - 48)) 0
def isFigs (l : List Nat) : Bool := !l.isEmpty && l.all fun c => 48 ≤ c && c ≤ 57
def allBl : List D → Option (List Bool)
  | [] => some []
  | .bl b :: r => (allBl r).map (b :: ·)
  | _ => none
def allStr : List D → Option (List (List Nat))
  | [] => some []
  | .str b :: r => (allStr r).map (b :: ·)
  | _ => none
abbrev joinS : List Nat → List (List Nat) → List Nat := TL.joinL
def itemsD (τ : Sto) : D → Option (List D)
  | .tup xs => some xs
  | .ref a => match τ a with | some (.lst xs) => some xs | _ => none
  | _ => none
/-- a value whose built-in class is seen -/
def D.known : D → Bool
  | .non => true | .bl _ => true | .int _ => true | .str _ => true | .tup _ => true | _ => false
def wpBlt : Blt → List D → Sto → QD → Prop
  | .len, [.str l], τ, Q => l.length ≤ LIM ∧ Q (.int l.length) τ
  | .len, [.tup xs], τ, Q => Q (.int xs.length) τ
  | .len, [.rol xs], τ, Q => Q (.int xs.length) τ
  | .len, [.ref a], τ, Q => ∃ xs, τ a = some (.lst xs) ∧ Q (.int xs.length) τ
  | .abs, [.int i], τ, Q => Q (.int i.natAbs) τ
  | .int, [.int i], τ, Q => Q (.int i) τ
  | .int, [.bl b], τ, Q => Q (.int (if b then 1 else 0)) τ
  | .int, [.str l], τ, Q => isFigs l = true ∧ l.length ≤ 640 ∧ Q (.int (valL l)) τ
  | .str, [.int i], τ, Q => i.natAbs < 2 ^ 1900 ∧ Q (.str (numT i)) τ
  | .list, [.rol ns], τ, Q => ∀ p, τ p = none → Q (.ref p) (put τ p (.lst (ns.map D.int)))
  | .list, [.ref a], τ, Q => ∃ xs, τ a = some (.lst xs) ∧ ∀ p, τ p = none → Q (.ref p) (put τ p (.lst xs))
  | .list, [.tup xs], τ, Q => ∀ p, τ p = none → Q (.ref p) (put τ p (.lst xs))
  | .tuple, [.ref a], τ, Q => ∃ xs, τ a = some (.lst xs) ∧ Q (.tup xs) τ
  | .tuple, [.tup xs], τ, Q => Q (.tup xs) τ
  | .all, [.ref a], τ, Q => ∃ xs bs, τ a = some (.lst xs) ∧ allBl xs = some bs ∧ Q (.bl (bs.all id)) τ
  | .any, [.ref a], τ, Q => ∃ xs bs, τ a = some (.lst xs) ∧ allBl xs = some bs ∧ Q (.bl (bs.any id)) τ
  | .ord, [.str [c]], τ, Q => Q (.int c) τ
  | .divmod, [.int i, .int j], τ, Q => 0 < j ∧ j.natAbs < 2 ^ 9000 ∧ Q (.tup [.int (i / j), .int (i % j)]) τ
  | .isint, [x], τ, Q => x.known = true ∧ Q (.bl (match x with | .int _ => true | .bl _ => true | _ => false)) τ
  | .isbool, [x], τ, Q => x.known = true ∧ Q (.bl (match x with | .bl _ => true | _ => false)) τ
  | .isstr, [x], τ, Q => x.known = true ∧ Q (.bl (match x with | .str _ => true | _ => false)) τ
  | .istup, [x], τ, Q => x.known = true ∧ Q (.bl (match x with | .tup _ => true | _ => false)) τ
  | _, _, _, _ => False
/-- the first place of a sign from k on -/
def findL (b : Nat) : Nat → List Nat → Int
  | _, [] => -1
  | k, c :: r => if c = b then k else findL b (k + 1) r
def Bmt.onStr : Bmt → Bool
  | .join | .find | .zfill | .split | .replace => true
  | _ => false
/-- the receiver of such a method -/
def tyB (m : Bmt) : D → Sto → Prop
  | .str _, _ => m.onStr = true
  | .ref a, τ => m.onStr = false ∧ ∃ xs, τ a = some (.lst xs)
  | _, _ => False
def wpBmt : Bmt → D → List D → Sto → QD → Prop
  | .append, .ref a, [y], τ, Q => ∃ xs, τ a = some (.lst xs) ∧ xs.length < LIM ∧ Q .non (put τ a (.lst (xs ++ [y])))
  | .pop, .ref a, [], τ, Q => ∃ xs y, τ a = some (.lst (xs ++ [y])) ∧ Q y (put τ a (.lst xs))
  | .join, .str s, [d], τ, Q => ∃ ds ls, itemsD τ d = some ds ∧ allStr ds = some ls ∧ (ls.map (·.length)).sum + ls.length * s.length ≤ LIM ∧ Q (.str (joinS s ls)) τ
  | .zfill, .str l, [.int k], τ, Q => isFigs l = true ∧ 0 ≤ k ∧ k ≤ 1000000 ∧ Q (.str (List.replicate (k.toNat - l.length) 48 ++ l)) τ
  | .find, .str l, [.str [b], .int k], τ, Q => 0 ≤ k ∧ k.toNat ≤ l.length ∧ Q (.int (findL b k.toNat (l.drop k.toNat))) τ
  | _, _, _, _, _ => False
/-! ### what is walked -/
def wpIt : ItK → List D → Sto → (List D → (Sto → Prop) → Prop) → Prop
  | .of, [.str l], _, k => k (l.map fun c => .str [c]) fun _ => True
  | .of, [.tup xs], _, k => k xs fun _ => True
  | .of, [.rol ns], _, k => k (ns.map D.int) fun _ => True
  | .of, [.ref a], τ, k => ∃ xs, τ a = some (.lst xs) ∧ k xs fun τ' => τ' a = some (.lst xs)
  | .range1, [.int n], _, k => n.natAbs < 2 ^ 62 ∧ k ((List.range n.toNat).map fun (j : Nat) => .int j) fun _ => True
  | .range2, [.int a, .int b], _, k => a.natAbs < 2 ^ 62 ∧ b.natAbs < 2 ^ 62 ∧ k ((List.range (b - a).toNat).map fun (j : Nat) => .int (a + j)) fun _ => True
  | .range3, [.int a, .int b, .int c], _, k => a.natAbs < 2 ^ 60 ∧ b.natAbs < 2 ^ 60 ∧ 0 < c ∧ c < 2 ^ 30 ∧ k ((List.range ((b - a + c - 1) / c).toNat).map fun (j : Nat) => .int (a + j * c)) fun _ => True
  | _, _, _, _ => False
def setAll : Loc → List Nat → List D → Loc
  | ρ, i :: is, d :: ds => setAll (ρ.set i (some d)) is ds
  | ρ, _, _ => ρ
def bindT : Tg → D → Loc → (Loc → Prop) → Prop
  | .name i, d, ρ, k => k (ρ.set i (some d))
  | .tup is, d, ρ, k => ∃ ds, d = .tup ds ∧ ds.length = is.length ∧ k (setAll ρ is ds)
def wipeD (ρ : Loc) : List Nat → Loc
  | [] => ρ
  | i :: is => (wipeD ρ is).set i none
/-- the turns of a comprehension -/
def compGo (g : Sto → Prop) (turn : D → Sto → (Option D → Sto → Prop) → Prop) (p : Addr) (K : Sto → Prop) : List D → List D → Sto → Prop
  | [], _, τ => g τ ∧ K τ
  | d :: ds, acc, τ => g τ ∧ turn d τ fun y τ' => match y with
    | none => compGo g turn p K ds acc τ'
    | some y => τ' p = some (.lst acc) ∧ acc.length < LIM ∧ compGo g turn p K ds (acc ++ [y]) (put τ' p (.lst (acc ++ [y])))
/-! ### expressions -/
structure SE where
  v : Loc → Sto → QD → XD → Prop
  t : Loc → Sto → (Bool → Sto → Prop) → XD → Prop
def ofV (v : Loc → Sto → QD → XD → Prop) : SE := ⟨v, fun ρ τ Q X => v ρ τ (fun d τ' => wpTru d τ' fun b => Q b τ') X⟩
def ofT (t : Loc → Sto → (Bool → Sto → Prop) → XD → Prop) : SE := ⟨fun ρ τ Q X => t ρ τ (fun b τ' => Q (.bl b) τ') X, t⟩
abbrev Calls := Nat → List D → Sto → QD → XD → Prop
/-- a class: the number of its __init__, its methods' numbers -/
structure ClsI where
  name : Str
  init : Option Nat
  meths : List (Str × Nat)
def noX : XD := fun _ _ => False
section
variable (C : List ClsI) (Φ : Calls)
def wpNew (c : Nat) (ds : List D) (τ : Sto) (Q : QD) (X : XD) : Prop := ∃ ci f, C[c]? = some ci ∧ ci.init = some f ∧ ∀ p, τ p = none → Φ f (.ref p :: ds) (put τ p (.ins c [])) (fun d τ' => d = .non ∧ Q (.ref p) τ') X
def methOf (C : List ClsI) (τ : Sto) (d : D) (m : Str) : Option Nat := match d with
  | .ref a => match τ a with
    | some (.ins c fs) => match C[c]? with
      | some ci => if (fs.lookup m).isSome then none else ci.meths.lookup m
      | none => none
    | _ => none
  | _ => none
def wpAtt (d : D) (f : Str) (τ : Sto) (Q : QD) : Prop := ∃ a c fs v, d = .ref a ∧ τ a = some (.ins c fs) ∧ fs.lookup f = some v ∧ Q v τ
mutual
def wpE : E → SE
  | .var i => ofV fun ρ τ Q _ => ∃ d, ρ[i]? = some (some d) ∧ Q d τ
  | .cst d => ofV fun _ τ Q _ => Q d τ
  | .bin o a b => ofV fun ρ τ Q X => (wpE a).v ρ τ (fun x τ1 => (wpE b).v ρ τ1 (fun y τ2 => wpBin o x y τ2 Q) X) X
  | .neg a => ofV fun ρ τ Q X => (wpE a).v ρ τ (fun x τ1 => ∃ i, x = .int i ∧ Q (.int (-i)) τ1) X
  | .cmp o a b => ofT fun ρ τ Q X => (wpE a).v ρ τ (fun x τ1 => (wpE b).v ρ τ1 (fun y τ2 => wpCmp o x y τ2 fun b => Q b τ2) X) X
  | .cmp2 o o' a b c => ofT fun ρ τ Q X => (wpE a).v ρ τ (fun x τ1 => (wpE b).v ρ τ1 (fun y τ2 => wpCmp o x y τ2 fun b => if b = true then (wpE c).v ρ τ2 (fun z τ3 => wpCmp o' y z τ3 fun b => Q b τ3) X else Q false τ2) X) X
  | .and a b => ⟨fun ρ τ Q X => (wpE a).v ρ τ (fun x τ1 => ∃ c, x = .bl c ∧ if c = true then (wpE b).v ρ τ1 Q X else Q (.bl false) τ1) X,
      fun ρ τ Q X => (wpE a).t ρ τ (fun c τ1 => if c = true then (wpE b).t ρ τ1 Q X else Q false τ1) X⟩
  | .or a b => ⟨fun ρ τ Q X => (wpE a).v ρ τ (fun x τ1 => ∃ c, x = .bl c ∧ if c = true then Q (.bl true) τ1 else (wpE b).v ρ τ1 Q X) X,
      fun ρ τ Q X => (wpE a).t ρ τ (fun c τ1 => if c = true then Q true τ1 else (wpE b).t ρ τ1 Q X) X⟩
  | .not a => ⟨fun ρ τ Q X => (wpE a).v ρ τ (fun x τ1 => ∃ c, x = .bl c ∧ Q (.bl (!c)) τ1) X, fun ρ τ Q X => (wpE a).t ρ τ (fun c τ1 => Q (!c) τ1) X⟩
  | .ifx t a b => ofV fun ρ τ Q X => (wpE t).t ρ τ (fun c τ1 => if c = true then (wpE a).v ρ τ1 Q X else (wpE b).v ρ τ1 Q X) X
  | .tup es => ofV fun ρ τ Q X => wpEs es ρ τ (fun ds τ1 => ds.length ≤ LIM ∧ Q (.tup ds) τ1) X
  | .lst es => ofV fun ρ τ Q X => wpEs es ρ τ (fun ds τ1 => ds.length ≤ LIM ∧ ∀ p, τ1 p = none → Q (.ref p) (put τ1 p (.lst ds))) X
  | .dic0 => ofV fun _ τ Q _ => ∀ p, τ p = none → Q (.ref p) (put τ p (.dic []))
  | .idx a i => ofV fun ρ τ Q X => (wpE a).v ρ τ (fun x τ1 => (wpE i).v ρ τ1 (fun y τ2 => wpIdx x y τ2 Q) X) X
  | .slc bl bh a lo hi => ofV fun ρ τ Q X => (wpE a).v ρ τ (fun x τ1 => (wpE lo).v ρ τ1 (fun y τ2 => ∃ l, partD bl y = some l ∧ (wpE hi).v ρ τ2 (fun z τ3 => ∃ h, partD bh z = some h ∧ wpSlc x l h τ3 Q) X) X) X
  | .rev a => ofV fun ρ τ Q X => (wpE a).v ρ τ (fun x τ1 => wpRev x τ1 Q) X
  | .att o f => ofV fun ρ τ Q X => (wpE o).v ρ τ (fun x τ1 => wpAtt x f τ1 Q) X
  | .call f es => ofV fun ρ τ Q X => wpEs es ρ τ (fun ds τ1 => Φ f ds τ1 Q X) X
  | .callv i es => ofV fun ρ τ Q X => ∃ f, ρ[i]? = some (some (.fn f)) ∧ wpEs es ρ τ (fun ds τ1 => Φ f ds τ1 Q X) X
  | .new c es => ofV fun ρ τ Q X => wpEs es ρ τ (fun ds τ1 => wpNew C Φ c ds τ1 Q X) X
  | .meth o m es => ofV fun ρ τ Q X => (wpE o).v ρ τ (fun x τ1 => ∃ f, methOf C τ1 x m = some f ∧ wpEs es ρ τ1 (fun ds τ2 => Φ f (x :: ds) τ2 Q X) X) X
  | .blt b es => ofV fun ρ τ Q X => wpEs es ρ τ (fun ds τ1 => wpBlt b ds τ1 Q) X
  | .bmt o m es => ofV fun ρ τ Q X => (wpE o).v ρ τ (fun x τ1 => tyB m x τ1 ∧ wpEs es ρ τ1 (fun ds τ2 => wpBmt m x ds τ2 Q) X) X
  | .comp elt tg k es t => ofV fun ρ τ Q X => wpEs es ρ τ (fun ds τ1 => wpIt k ds τ1 fun items g => ∀ p, τ1 p = none →
      compGo g (fun d τ2 K => bindT tg d (wipeD ρ tg.slots) fun ρ' => (wpE t).t ρ' τ2 (fun b τ3 => if b = true then (wpE elt).v ρ' τ3 (fun y τ4 => K (some y) τ4) noX else K none τ3) noX)
        p (fun τ2 => Q (.ref p) τ2) items [] (put τ1 p (.lst []))) X
def wpEs : Es → Loc → Sto → (List D → Sto → Prop) → XD → Prop
  | .nil, _, τ, Q, _ => Q [] τ
  | .cons e es, ρ, τ, Q, X => (wpE e).v ρ τ (fun d τ1 => wpEs es ρ τ1 (fun ds τ2 => Q (d :: ds) τ2) X) X
end
/-! ### statements -/
structure Ks where
  nx : Loc → Sto → Prop
  rt : QD
  bk : Loc → Sto → Prop
  ct : Loc → Sto → Prop
  ex : Xc → Loc → Sto → Prop
/-- the turns of a for -/
def forGo (g : Sto → Prop) (tg : Tg) (body : Loc → Sto → Ks → Prop) (K : Ks) : List D → Loc → Sto → Prop
  | [], ρ, τ => g τ ∧ K.nx ρ τ
  | d :: ds, ρ, τ => g τ ∧ bindT tg d ρ fun ρ' => body ρ' τ { nx := forGo g tg body K ds, rt := K.rt, bk := K.nx, ct := forGo g tg body K ds, ex := K.ex }
/-- at most n turns of a while -/
def whlGo (t : Loc → Sto → (Bool → Sto → Prop) → XD → Prop) (body : Loc → Sto → Ks → Prop) (K : Ks) : Nat → Loc → Sto → Prop
  | 0, _, _ => False
  | n + 1, ρ, τ => t ρ τ (fun b τ' => if b = true then body ρ τ' { nx := whlGo t body K n, rt := K.rt, bk := K.nx, ct := whlGo t body K n, ex := K.ex } else K.nx ρ τ') fun x τ' => K.ex x ρ τ'
/-- subclasses: which class is caught by which; the attribute that an exception's __init__ stores -/
structure XcI where
  name : Str
  sub : List Nat
  att : Option Str
def subX (XS : List XcI) (c d : Nat) : Bool := match XS[c]? with
  | some i => i.sub.contains d
  | none => false
def wpHx (XS : List XcI) (x : Xc) (ρ : Loc) : Hx → (D → Prop) → Prop
  | .cst d, k => k d
  | .isi i c, k => i < ρ.length ∧ x.fs = [] ∧ c < XS.length ∧ k (.bl (subX XS x.cls c))
  | .fld i f, k => i < ρ.length ∧ ∃ v, x.fs.lookup f = some v ∧ k v
variable (XS : List XcI)
def wpRaise (c : Nat) (ds : List D) (k : Xc → Prop) : Prop := ∃ i, XS[c]? = some i ∧ match i.att, ds with
  | none, [.str _] => k ⟨c, []⟩
  | some f, [d] => k ⟨c, [(f, d)]⟩
  | _, _ => False
def setFld (f : Str) (v : D) : List (Str × D) → List (Str × D)
  | [] => [(f, v)]
  | (g, u) :: r => if f == g then (f, v) :: r else (g, u) :: setFld f v r
def wpSetSub (o i v : D) (τ : Sto) (k : Sto → Prop) : Prop := match o, i with
  | .ref a, .int n => ∃ xs j, τ a = some (.lst xs) ∧ ixD xs.length n = some j ∧ k (put τ a (.lst (xs.set j v)))
  | _, _ => False
def wpSetAtt (o : D) (f : Str) (v : D) (τ : Sto) (k : Sto → Prop) : Prop := ∃ a c fs, o = .ref a ∧ τ a = some (.ins c fs) ∧ fs.length < 900 ∧ k (put τ a (.ins c (setFld f v fs)))
mutual
def wpS : S → Loc → Sto → Ks → Prop
  | .asg tg e, ρ, τ, K => (wpE C Φ e).v ρ τ (fun d τ1 => bindT tg d ρ fun ρ' => K.nx ρ' τ1) fun x τ1 => K.ex x ρ τ1
  | .asub o i e, ρ, τ, K => (wpE C Φ e).v ρ τ (fun v τ1 => (wpE C Φ o).v ρ τ1 (fun od τ2 => (wpE C Φ i).v ρ τ2 (fun id τ3 => wpSetSub od id v τ3 fun τ4 => K.nx ρ τ4) fun x τ' => K.ex x ρ τ') fun x τ' => K.ex x ρ τ') fun x τ' => K.ex x ρ τ'
  | .aatt o f e, ρ, τ, K => (wpE C Φ e).v ρ τ (fun v τ1 => (wpE C Φ o).v ρ τ1 (fun od τ2 => wpSetAtt od f v τ2 fun τ3 => K.nx ρ τ3) fun x τ' => K.ex x ρ τ') fun x τ' => K.ex x ρ τ'
  | .aug i o e, ρ, τ, K => ∃ x, ρ[i]? = some (some x) ∧ (wpE C Φ e).v ρ τ (fun y τ1 => ∃ a b, x = .int a ∧ y = .int b ∧ wpBin o x y τ1 fun z τ2 => K.nx (ρ.set i (some z)) τ2) fun x τ' => K.ex x ρ τ'
  | .augA a f o e, ρ, τ, K => (wpE C Φ a).v ρ τ (fun od τ1 => wpAtt od f τ1 fun x τ2 => (wpE C Φ e).v ρ τ2 (fun y τ3 => ∃ i j, x = .int i ∧ y = .int j ∧ wpBin o x y τ3 fun z τ4 => wpSetAtt od f z τ4 fun τ5 => K.nx ρ τ5) fun x τ' => K.ex x ρ τ') fun x τ' => K.ex x ρ τ'
  | .exp e, ρ, τ, K => (wpE C Φ e).v ρ τ (fun _ τ1 => K.nx ρ τ1) fun x τ' => K.ex x ρ τ'
  | .iff t a b, ρ, τ, K => (wpE C Φ t).t ρ τ (fun c τ1 => if c = true then wpSs a ρ τ1 K else wpSs b ρ τ1 K) fun x τ' => K.ex x ρ τ'
  | .whl t b, ρ, τ, K => ∃ n, whlGo (wpE C Φ t).t (fun ρ τ K => wpSs b ρ τ K) K n ρ τ
  | .for_ tg k es b, ρ, τ, K => wpEs C Φ es ρ τ (fun ds τ1 => wpIt k ds τ1 fun items g => forGo g tg (fun ρ τ K => wpSs b ρ τ K) K items ρ τ1) fun x τ' => K.ex x ρ τ'
  | .ret e, ρ, τ, K => (wpE C Φ e).v ρ τ K.rt fun x τ' => K.ex x ρ τ'
  | .retN, _, τ, K => K.rt .non τ
  | .raise c es, ρ, τ, K => wpEs C Φ es ρ τ (fun ds τ1 => wpRaise XS c ds fun x => K.ex x ρ τ1) fun x τ' => K.ex x ρ τ'
  | .try_ b c h, ρ, τ, K => wpSs b ρ τ { K with ex := fun x ρ' τ' => x.cls < XS.length ∧ if subX XS x.cls c = true then wpHx XS x ρ' h fun d => K.rt d τ' else K.ex x ρ' τ' }
  | .pass, ρ, τ, K => K.nx ρ τ
  | .brk, ρ, τ, K => K.bk ρ τ
  | .cont, ρ, τ, K => K.ct ρ τ
def wpSs : Ss → Loc → Sto → Ks → Prop
  | .nil, ρ, τ, K => K.nx ρ τ
  | .cons s ss, ρ, τ, K => wpS s ρ τ { K with nx := fun ρ' τ' => wpSs ss ρ' τ' K }
end
end
/-! ### functions -/
structure FnI where
  at_ : Str × Option Str
  qual : Str
  N : List Str
  np : Nat
  dfl : List D
  body : Ss
structure Pg where
  fns : List FnI
  cls : List ClsI
  xcs : List XcI
def startD (f : FnI) (ds : List D) : Loc := ds.map some ++ List.replicate (f.N.length - ds.length) none
/-- the arguments with the defaults that are missing -/
def fill (i : FnI) (ds : List D) : List D := ds ++ i.dfl.drop (ds.length + i.dfl.length - i.np)
/-- a function's body, n calls deep at most -/
def runD (P : Pg) : Nat → FnI → List D → Sto → QD → XD → Prop
  | 0 => fun _ _ _ _ _ => False
  | n + 1 => fun i ds τ Q X => wpSs P.cls (fun f es τ Q X => ∃ j, P.fns[f]? = some j ∧ (fill j es).length = j.np ∧ runD P n j (fill j es) τ Q X) P.xcs i.body (startD i ds) τ
      { nx := fun _ τ' => Q .non τ', rt := Q, bk := fun _ _ => False, ct := fun _ _ => False, ex := fun x _ τ' => X x τ' }
/-- a call -/
def callD (P : Pg) (n : Nat) : Calls := fun f es τ Q X => ∃ j, P.fns[f]? = some j ∧ (fill j es).length = j.np ∧ runD P n j (fill j es) τ Q X
end DL
/-! DL1: how values, the store and names stand to the hand layer's heap -/
namespace DL
open PySem PySem.Spec PyProof.Rows L2

/-- where functions and classes stand -/
structure Gx where
  K : PySem.W.Frag
  fA : Nat → Addr
  cA : Nat → Addr
  xA : Nat → Addr
/-- a list that stays -/
def FzL (K : PySem.W.Frag) (H : Hp) (a : Addr) (xs : List V) : Prop :=
  (∃ o, H a = some (.frz o (.lst xs))) ∨
    ∃ (o : Obj) (its : Array Value) (n : Nat), K.lookup a = some o ∧ o.cls = .type "list" ∧ o.dict = none ∧ o.data = .seq its n ∧ its.size ≤ sizeLine ∧ Vals xs its.toList
theorem FzL.sq {K : PySem.W.Frag} {H : Hp} {a : Addr} {xs : List V} (h : FzL K H a xs) : SqL K H a xs := by
  rcases h with h | h
  · exact .inl (.inr h)
  · exact .inr h
abbrev okS (l : List Nat) : Prop := ∀ c ∈ l, c < 1114112
def toS (l : List Nat) : Str := ⟨l.toArray⟩
mutual
inductive RelD (G : Gx) (H : Hp) : D → V → Prop
  | non : RelD G H .non .non
  | bl (b : Bool) : RelD G H (.bl b) (.bl b)
  | int (i : Int) : RelD G H (.int i) (.int i)
  | str (l : List Nat) : okS l → RelD G H (.str l) (.str (toS l))
  | tup {xs : List D} {vs : List V} {a : Addr} : SqT G.K H a vs → RelDs G H xs vs → RelD G H (.tup xs) (.ref a)
  | ref (a : Addr) : RelD G H (.ref a) (.ref a)
  | fn (f : Nat) : RelD G H (.fn f) (.ref (G.fA f))
  | rol {ns : List Int} {a : Addr} : FzL G.K H a (ns.map V.int) → RelD G H (.rol ns) (.ref a)
inductive RelDs (G : Gx) (H : Hp) : List D → List V → Prop
  | nil : RelDs G H [] []
  | cons {d : D} {ds : List D} {v : V} {vs : List V} : RelD G H d v → RelDs G H ds vs → RelDs G H (d :: ds) (v :: vs)
end
/-- what never changes is kept -/
structure Grow (H H' : Hp) : Prop where
  tup : ∀ a xs, H a = some (.tup xs) → H' a = some (.tup xs)
  frz : ∀ a o u, H a = some (.frz o u) → H' a = some (.frz o u)
theorem Grow.refl (H : Hp) : Grow H H := ⟨fun _ _ h => h, fun _ _ _ h => h⟩
theorem Grow.trans {a b c : Hp} (h : Grow a b) (k : Grow b c) : Grow a c := ⟨fun _ _ e => k.tup _ _ (h.tup _ _ e), fun _ _ _ e => k.frz _ _ _ (h.frz _ _ _ e)⟩
theorem Grow.new {H : Hp} {p : Addr} {o : HO} (h : H p = none) : Grow H (upd H p o) :=
  ⟨fun a xs e => by rw [upd_ne (ne_of_none e h)]; exact e, fun a u xs e => by rw [upd_ne (ne_of_none e h)]; exact e⟩
theorem Grow.lst {H : Hp} {p : Addr} {o : HO} {xs : List V} (h : H p = some (.lst xs)) : Grow H (upd H p o) :=
  ⟨fun a xs e => by rw [upd_ne (ne_of e h (by intro z; cases z))]; exact e, fun a u xs e => by rw [upd_ne (ne_of e h (by intro z; cases z))]; exact e⟩
theorem Grow.ins {H : Hp} {p : Addr} {o : HO} {C dx : Addr} {fs : List (Str × V)} (h : H p = some (.ins C dx fs)) : Grow H (upd H p o) :=
  ⟨fun a xs e => by rw [upd_ne (ne_of e h (by intro z; cases z))]; exact e, fun a u xs e => by rw [upd_ne (ne_of e h (by intro z; cases z))]; exact e⟩
theorem Grow.sqT {K : PySem.W.Frag} {H H' : Hp} {a : Addr} {xs : List V} (g : Grow H H') (h : SqT K H a xs) : SqT K H' a xs := by
  rcases h with (h | ⟨o, h⟩) | h
  · exact .inl (.inl (g.tup _ _ h))
  · exact .inl (.inr ⟨o, g.frz _ _ _ h⟩)
  · exact .inr h
theorem Grow.fzL {K : PySem.W.Frag} {H H' : Hp} {a : Addr} {xs : List V} (g : Grow H H') (h : FzL K H a xs) : FzL K H' a xs := by
  rcases h with ⟨o, h⟩ | h
  · exact .inl ⟨o, g.frz _ _ _ h⟩
  · exact .inr h
section
variable {G : Gx} {H H' : Hp}
mutual
theorem RelD.mono (g : Grow H H') : ∀ {d : D} {v : V}, RelD G H d v → RelD G H' d v
  | _, _, .non => .non
  | _, _, .bl b => .bl b
  | _, _, .int i => .int i
  | _, _, .str l h => .str l h
  | _, _, .tup h r => .tup (g.sqT h) (RelDs.mono g r)
  | _, _, .ref a => .ref a
  | _, _, .fn f => .fn f
  | _, _, .rol h => .rol (g.fzL h)
theorem RelDs.mono (g : Grow H H') : ∀ {d : List D} {v : List V}, RelDs G H d v → RelDs G H' d v
  | _, _, .nil => .nil
  | _, _, .cons h r => .cons (RelD.mono g h) (RelDs.mono g r)
end
theorem RelDs.length : ∀ {d : List D} {v : List V}, RelDs G H d v → d.length = v.length
  | _, _, .nil => rfl
  | _, _, .cons _ r => by simp [RelDs.length r]
theorem RelDs.get : ∀ {ds : List D} {vs : List V} {i : Nat} {d : D}, RelDs G H ds vs → ds[i]? = some d → ∃ v, vs[i]? = some v ∧ RelD G H d v
  | _, _, _, _, .nil, e => by simp at e
  | _, _, 0, _, .cons r _, e => by simp at e; subst e; exact ⟨_, rfl, r⟩
  | _, _, i + 1, _, .cons _ t, e => by
    obtain ⟨u, h1, h2⟩ := RelDs.get (i := i) t (by simpa using e)
    exact ⟨u, by simpa using h1, h2⟩
theorem RelDs.append : ∀ {a b : List D} {u v : List V}, RelDs G H a u → RelDs G H b v → RelDs G H (a ++ b) (u ++ v)
  | _, _, _, _, .nil, s => s
  | _, _, _, _, .cons r t, s => .cons r (RelDs.append t s)
theorem RelDs.set {x : D} {y : V} (r : RelD G H x y) : ∀ {xs : List D} {us : List V} (i : Nat), RelDs G H xs us → RelDs G H (xs.set i x) (us.set i y)
  | _, _, _, .nil => .nil
  | _, _, 0, .cons _ t => .cons r t
  | _, _, i + 1, .cons q t => .cons q (RelDs.set r i t)
theorem RelDs.take : ∀ {xs : List D} {us : List V} (n : Nat), RelDs G H xs us → RelDs G H (xs.take n) (us.take n)
  | _, _, 0, _ => .nil
  | _, _, _ + 1, .nil => .nil
  | _, _, n + 1, .cons r t => .cons r (RelDs.take n t)
theorem RelDs.drop : ∀ {xs : List D} {us : List V} (n : Nat), RelDs G H xs us → RelDs G H (xs.drop n) (us.drop n)
  | _, _, 0, r => r
  | _, _, _ + 1, .nil => .nil
  | _, _, n + 1, .cons _ t => RelDs.drop n t
theorem RelDs.dropLast {xs : List D} {us : List V} (r : RelDs G H xs us) : RelDs G H xs.dropLast us.dropLast := by
  rw [List.dropLast_eq_take, List.dropLast_eq_take, r.length]
  exact r.take _
theorem RelDs.rev : ∀ {xs : List D} {us : List V}, RelDs G H xs us → RelDs G H xs.reverse us.reverse
  | _, _, .nil => .nil
  | _, _, .cons r t => by
    rw [List.reverse_cons, List.reverse_cons]
    exact (RelDs.rev t).append (.cons r .nil)
theorem RelDs.ints (ns : List Int) : RelDs G H (ns.map D.int) (ns.map V.int) := by
  induction ns with
  | nil => exact .nil
  | cons n r ih => exact .cons (.int n) ih
/-- an object -/
inductive RelF (G : Gx) (H : Hp) : List (Str × D) → List (Str × V) → Prop
  | nil : RelF G H [] []
  | cons {f : Str} {d : D} {v : V} {ds : List (Str × D)} {vs : List (Str × V)} : RelD G H d v → RelF G H ds vs → RelF G H ((f, d) :: ds) ((f, v) :: vs)
def keyV : Sum Int (List Nat) → Key
  | .inl i => .inl i
  | .inr l => .inr (toS l)
inductive RelK (G : Gx) (H : Hp) : List (Sum Int (List Nat) × D) → List (Key × V) → Prop
  | nil : RelK G H [] []
  | cons {k : Sum Int (List Nat)} {d : D} {v : V} {ds : List (Sum Int (List Nat) × D)} {vs : List (Key × V)} : RelD G H d v → RelK G H ds vs → RelK G H ((k, d) :: ds) ((keyV k, v) :: vs)
inductive RelO (G : Gx) (H : Hp) : O → HO → Prop
  | lst {xs : List D} {vs : List V} : RelDs G H xs vs → RelO G H (.lst xs) (.lst vs)
  | ins {c : Nat} {dx : Addr} {fs : List (Str × D)} {vs : List (Str × V)} : RelF G H fs vs → RelO G H (.ins c fs) (.ins (G.cA c) dx vs)
  | dic {ks : List (Sum Int (List Nat) × D)} {vs : List (Key × V)} : RelK G H ks vs → RelO G H (.dic ks) (.dK vs)
theorem RelF.mono (g : Grow H H') : ∀ {a : List (Str × D)} {b : List (Str × V)}, RelF G H a b → RelF G H' a b
  | _, _, .nil => .nil
  | _, _, .cons r t => .cons (r.mono g) (RelF.mono g t)
theorem RelK.mono (g : Grow H H') : ∀ {a : List (Sum Int (List Nat) × D)} {b : List (Key × V)}, RelK G H a b → RelK G H' a b
  | _, _, .nil => .nil
  | _, _, .cons r t => .cons (r.mono g) (RelK.mono g t)
theorem RelO.mono (g : Grow H H') {o : O} {u : HO} (h : RelO G H o u) : RelO G H' o u := by
  cases h with
  | lst r => exact .lst (r.mono g)
  | ins r => exact .ins (r.mono g)
  | dic r => exact .dic (r.mono g)
/-- the store -/
def Abs (G : Gx) (τ : Sto) (H : Hp) : Prop := ∀ a o, τ a = some o → ∃ u, H a = some u ∧ RelO G H o u
theorem Abs.free {τ : Sto} (h : Abs G τ H) {p : Addr} (e : H p = none) : τ p = none := by
  cases q : τ p with
  | none => rfl
  | some o =>
    obtain ⟨u, e', _⟩ := h p o q
    rw [e] at e'; cases e'
/-- a new object -/
theorem Abs.new {τ : Sto} {p : Addr} {o : O} {u : HO} (h : Abs G τ H) (e : H p = none) (r : RelO G (upd H p u) o u) : Abs G (put τ p o) (upd H p u) := fun a o' q => by
  by_cases z : a = p
  · subst z
    rw [put_same] at q; cases q
    exact ⟨u, upd_same, r⟩
  · rw [put_ne z] at q
    obtain ⟨v, e1, r1⟩ := h a o' q
    exact ⟨v, by rw [upd_ne z]; exact e1, r1.mono (Grow.new e)⟩
/-- a tuple, an object out of sight -/
theorem Abs.newT {τ : Sto} {p : Addr} {u : HO} (h : Abs G τ H) (e : H p = none) : Abs G τ (upd H p u) := fun a o' q => by
  obtain ⟨v, e1, r1⟩ := h a o' q
  exact ⟨v, by rw [upd_ne (ne_of_none e1 e)]; exact e1, r1.mono (Grow.new e)⟩
/-- an object changed -/
theorem Abs.chg {τ : Sto} {p : Addr} {o : O} {u : HO} (h : Abs G τ H) (g : Grow H (upd H p u)) (r : RelO G (upd H p u) o u) : Abs G (put τ p o) (upd H p u) := fun a o' q => by
  by_cases z : a = p
  · subst z
    rw [put_same] at q; cases q
    exact ⟨u, upd_same, r⟩
  · rw [put_ne z] at q
    obtain ⟨v, e1, r1⟩ := h a o' q
    exact ⟨v, by rw [upd_ne z]; exact e1, r1.mono g⟩
theorem Abs.lst {τ : Sto} (h : Abs G τ H) {a : Addr} {xs : List D} (e : τ a = some (.lst xs)) : ∃ vs, H a = some (.lst vs) ∧ RelDs G H xs vs := by
  obtain ⟨u, e1, r⟩ := h a _ e
  cases r with
  | lst r => exact ⟨_, e1, r⟩
theorem Abs.ins {τ : Sto} (h : Abs G τ H) {a : Addr} {c : Nat} {fs : List (Str × D)} (e : τ a = some (.ins c fs)) : ∃ dx vs, H a = some (.ins (G.cA c) dx vs) ∧ RelF G H fs vs := by
  obtain ⟨u, e1, r⟩ := h a _ e
  cases r with
  | ins r => exact ⟨_, _, e1, r⟩
/-- names -/
structure RelL (G : Gx) (H : Hp) (ρ : Loc) (σ : L2.St) : Prop where
  len : ρ.length = σ.length
  at_ : ∀ (i : Nat) (d : D), ρ[i]? = some (some d) → ∃ v, σ[i]? = some (some v) ∧ RelD G H d v
theorem RelL.mono {ρ : Loc} {σ : L2.St} (r : RelL G H ρ σ) (g : Grow H H') : RelL G H' ρ σ := ⟨r.len, fun i d e => by
  obtain ⟨v, h, k⟩ := r.at_ i d e
  exact ⟨v, h, k.mono g⟩⟩
theorem RelL.set {ρ : Loc} {σ : L2.St} (r : RelL G H ρ σ) (i : Nat) {d : D} {v : V} (q : RelD G H d v) : RelL G H (ρ.set i (some d)) (σ.set i (some v)) := ⟨by simp [r.len], fun j e h => by
  by_cases z : i = j
  · subst z
    by_cases hl : i < ρ.length
    · rw [List.getElem?_set_self hl] at h
      cases h
      exact ⟨v, by rw [List.getElem?_set_self (by rw [← r.len]; exact hl)], q⟩
    · rw [List.set_eq_of_length_le (by omega)] at h
      rw [List.getElem?_eq_none (by omega)] at h; cases h
  · rw [List.getElem?_set_ne z] at h ⊢
    exact r.at_ j e h⟩
theorem RelL.unset {ρ : Loc} {σ : L2.St} (r : RelL G H ρ σ) (i : Nat) (o : Option V) : RelL G H (ρ.set i none) (σ.set i o) := ⟨by simp [r.len], fun j e h => by
  by_cases z : i = j
  · subst z
    by_cases hl : i < ρ.length
    · rw [List.getElem?_set_self hl] at h
      cases h
    · rw [List.set_eq_of_length_le (by omega)] at h
      rw [List.getElem?_eq_none (by omega)] at h; cases h
  · rw [List.getElem?_set_ne z] at h ⊢
    exact r.at_ j e h⟩
theorem RelL.wipe {ρ : Loc} {σ : L2.St} (r : RelL G H ρ σ) : ∀ (is : List Nat), RelL G H (wipeD ρ is) (L2.wipe σ is)
  | [] => r
  | i :: is => (RelL.wipe r is).unset i none
/-- an exception -/
def RelX (G : Gx) (H : Hp) (x : Xc) (cls : Value) (dx : Option Addr) : Prop := cls = .ref (G.xA x.cls) ∧ ((x.fs = [] ∧ dx = none) ∨ x.fs ≠ [] ∧ ∃ d vs, dx = some d ∧ H d = some (.xd vs) ∧ RelF G H x.fs vs)

/-! ### the lifted wishes -/
def CvQ (G : Gx) (H : Hp) (Qd : QD) (Q : VK) : Prop := ∀ d τ', Qd d τ' → ∀ v H', Grow H H' → RelD G H' d v → Abs G τ' H' → Q v H'
def CvB (G : Gx) (H : Hp) (Qd : Bool → Sto → Prop) (Q : Bool → Hp → Prop) : Prop := ∀ b τ', Qd b τ' → ∀ H', Grow H H' → Abs G τ' H' → Q b H'
def CvA (G : Gx) (H : Hp) (Qd : List D → Sto → Prop) (Q : List V → Hp → Prop) : Prop := ∀ d τ', Qd d τ' → ∀ v H', Grow H H' → RelDs G H' d v → Abs G τ' H' → Q v H'
def CvX (G : Gx) (H : Hp) (Xd : XD) (W : XK) : Prop := ∀ x τ', Xd x τ' → ∀ cls dx H', Grow H H' → RelX G H' x cls dx → Abs G τ' H' → W cls dx H'
theorem CvQ.mono {Qd : QD} {Q : VK} (h : CvQ G H Qd Q) (g : Grow H H') : CvQ G H' Qd Q := fun d t q v H2 g2 => h d t q v H2 (g.trans g2)
theorem CvB.mono {Qd : Bool → Sto → Prop} {Q : Bool → Hp → Prop} (h : CvB G H Qd Q) (g : Grow H H') : CvB G H' Qd Q := fun d t q H2 g2 => h d t q H2 (g.trans g2)
theorem CvA.mono {Qd : List D → Sto → Prop} {Q : List V → Hp → Prop} (h : CvA G H Qd Q) (g : Grow H H') : CvA G H' Qd Q := fun d t q v H2 g2 => h d t q v H2 (g.trans g2)
theorem CvX.mono {Xd : XD} {W : XK} (h : CvX G H Xd W) (g : Grow H H') : CvX G H' Xd W := fun d t q c v H2 g2 => h d t q c v H2 (g.trans g2)
def LE (G : Gx) (W : WX) (t : Loc → Sto → QD → XD → Prop) : TE := fun σ H Q => ∃ ρ τ Qd Xd, RelL G H ρ σ ∧ Abs G τ H ∧ t ρ τ Qd Xd ∧ CvQ G H Qd Q ∧ CvX G H Xd fun c d H' => W c d σ H'
def LT (G : Gx) (W : WX) (t : Loc → Sto → (Bool → Sto → Prop) → XD → Prop) : TT := fun σ H Q => ∃ ρ τ Qd Xd, RelL G H ρ σ ∧ Abs G τ H ∧ t ρ τ Qd Xd ∧ CvB G H Qd Q ∧ CvX G H Xd fun c d H' => W c d σ H'
def LA (G : Gx) (W : WX) (t : Loc → Sto → (List D → Sto → Prop) → XD → Prop) : TA := fun σ H Q => ∃ ρ τ Qd Xd, RelL G H ρ σ ∧ Abs G τ H ∧ t ρ τ Qd Xd ∧ CvA G H Qd Q ∧ CvX G H Xd fun c d H' => W c d σ H'
end
/-! ### judgements weakened -/
theorem pe_imp {X : Cx} {e : Expr} {t t' : TE} (h : PE X e t) (q : ∀ σ H Q, t' σ H Q → t σ H Q) : PE X e t' := ⟨fun pins s σ H Q I k => h.run pins s σ H Q I (q σ H Q k)⟩
theorem pt_imp {X : Cx} {e : Expr} {t t' : TT} (h : PT X e t) (q : ∀ σ H Q, t' σ H Q → t σ H Q) : PT X e t' := ⟨fun pins s σ H Q I k => h.run pins s σ H Q I (q σ H Q k)⟩
theorem pw_imp {X : Cx} {e : Expr} {t t' : TT} (h : PW X e t) (q : ∀ σ H Q, t' σ H Q → t σ H Q) : PW X e t' := ⟨fun wh pins s σ H Q I k => h.run wh pins s σ H Q I (q σ H Q k)⟩
theorem pa_imp {X : Cx} {e : List Expr} {t t' : TA} (h : PA X e t) (q : ∀ σ H Q, t' σ H Q → t σ H Q) : PA X e t' := ⟨fun p pins s σ H Q I k => h.run p pins s σ H Q I (q σ H Q k)⟩
theorem ps_imp {X : Cx} {e : Stmt} {t t' : TS} (h : PS X e t) (q : ∀ D σ H, t' D σ H → t D σ H) : PS X e t' := ⟨fun pins s σ H D I k => h.run pins s σ H D I (q D σ H k)⟩
theorem pss_imp {X : Cx} {e : List Stmt} {t t' : TS} (h : PSs X e t) (q : ∀ D σ H, t' D σ H → t D σ H) : PSs X e t' := ⟨fun pins s σ H D I k => h.run pins s σ H D I (q D σ H k)⟩
end DL
set_option maxHeartbeats 1000000
/-! DL2: the operations of values -/
namespace DL
open PySem PySem.Spec PyProof.Rows L2 TL

theorem tl_toS (l : List Nat) : tl (toS l) = l := rfl
theorem toS_tl (x : Str) : toS (tl x) = x := mk_tl x
theorem toS_inj {a b : List Nat} (h : toS a = toS b) : a = b := congrArg tl h
theorem len_toS (l : List Nat) : (toS l).length = l.length := by rw [len_tl] <;> rfl
theorem toS_app (a b : List Nat) : toS a ++ toS b = toS (a ++ b) := ext_tl (by rw [tl_append] <;> rfl)
theorem LIM_eq : LIM = sizeLine := rfl
theorem okS.app {a b : List Nat} (h : okS a) (k : okS b) : okS (a ++ b) := fun c hc => (List.mem_append.mp hc).elim (h c) (k c)
theorem okS.sub {a b : List Nat} (h : okS a) (k : ∀ c ∈ b, c ∈ a) : okS b := fun c hc => h c (k c hc)
theorem okS.cut {l : List Nat} (h : okS l) (a b : Option Int) : okS (cutD l a b) := h.sub fun c hc => List.mem_of_mem_drop (List.mem_of_mem_take hc)

section
variable {X : Cx} {G : Gx} {H : Hp} {τ : Sto} {Q : VK} {Qd : QD}
theorem CvQ.here {d : D} {v : V} (hQ : CvQ G H Qd Q) (h : Qd d τ) (r : RelD G H d v) (ha : Abs G τ H) : Q v H := hQ d τ h v H (Grow.refl H) r ha
theorem CvQ.fresh {p : Addr} {o : O} {u : HO} (hQ : CvQ G H Qd Q) (ha : Abs G τ H) (h : ∀ p, τ p = none → Qd (.ref p) (put τ p o)) (r : ∀ H', Grow H H' → RelO G H' o u) (hp : H p = none) : Q (.ref p) (upd H p u) :=
  hQ _ _ (h p (ha.free hp)) _ _ (Grow.new hp) (.ref p) (ha.new hp (r _ (Grow.new hp)))
/-- a new tuple -/
theorem CvQ.tup {p : Addr} {xs : List D} {vs : List V} (hQ : CvQ G H Qd Q) (ha : Abs G τ H) (h : Qd (.tup xs) τ) (r : RelDs G H xs vs) (hp : H p = none) : Q (.ref p) (upd H p (.tup vs)) :=
  hQ _ _ h _ _ (Grow.new hp) (.tup (SqT.of upd_same) (r.mono (Grow.new hp))) (ha.newT hp)

def bopO : Bop → Operator
  | .add => .Add | .sub => .Sub | .mul => .Mult | .fdiv => .FloorDiv | .mod => .Mod | .pow => .Pow
/-- some rule serves -/
def AnyOp (X : Cx) (f : Value → Value → Sem Value) : R2 := fun x y H Q => ∃ r, OpR X f r ∧ r x y H Q
theorem anyOp (X : Cx) (f : Value → Value → Sem Value) : OpR X f (AnyOp X f) := fun pins s σ H x y v u Q I rx ry ⟨r, hr, q⟩ => hr pins s σ H x y v u Q I rx ry q
theorem rep_flat {α : Type} (n : Nat) (l : List α) : (List.replicate n l).flatten.length = l.length * n := by
  rw [List.length_flatten, List.map_replicate, List.sum_replicate_nat, Nat.mul_comm]
theorem RelDs.rep {xs : List D} {vs : List V} (r : RelDs G H xs vs) : ∀ n : Nat, RelDs G H (List.replicate n xs).flatten (List.replicate n vs).flatten
  | 0 => .nil
  | n + 1 => by
    rw [List.replicate_succ, List.replicate_succ, List.flatten_cons, List.flatten_cons]
    exact r.append (RelDs.rep r n)
theorem log_of {i : Int} {n : Nat} (h : i.natAbs < 2 ^ n) (h0 : 0 < n) : i.natAbs.log2 < n := by
  by_cases e : i.natAbs = 0
  · rw [e]; simpa using h0
  · exact (Nat.log2_lt e).mpr h
theorem bin_ok {o : Bop} {x y : D} {v u : V} (hK : X.K = G.K) (h : wpBin o x y τ Qd) (rx : RelD G H x v) (ry : RelD G H y u) (ha : Abs G τ H) (hQ : CvQ G H Qd Q) :
    AnyOp X (binaryOp (bopO o)) v u H Q := by
  cases o with
  | add =>
    cases rx with
    | int i => cases ry with
      | int j => exact ⟨_, op_add, i, j, rfl, rfl, hQ.here h (.int _) ha⟩
      | _ => exact False.elim h
    | str a ka => cases ry with
      | str b kb => exact ⟨_, op_add_str, _, _, rfl, rfl, by rw [len_toS, len_toS]; exact h.1, by rw [toS_app]; exact hQ.here h.2 (.str _ (ka.app kb)) ha⟩
      | _ => exact False.elim h
    | @tup xs vs a sa ra => cases ry with
      | @tup ys ws b sb rb =>
        obtain ⟨h1, h2⟩ := h
        refine ⟨_, op_catA, a, b, vs, ws, rfl, rfl, hK ▸ sa, hK ▸ sb, by rw [← ra.length, ← rb.length]; exact h1, fun e => ?_, fun _ e => ?_, fun _ _ p hp => ?_⟩
        · subst e
          cases ra
          exact hQ.here h2 (.tup sb rb) ha
        · subst e
          cases rb
          rw [List.append_nil] at h2
          exact hQ.here h2 (.tup sa ra) ha
        · exact hQ.tup ha h2 (ra.append rb) hp
      | _ => exact False.elim h
    | ref a => cases ry with
      | ref b =>
        obtain ⟨xs, ys, e1, e2, h1, h2⟩ := h
        obtain ⟨vs, f1, r1⟩ := ha.lst e1
        obtain ⟨ws, f2, r2⟩ := ha.lst e2
        exact ⟨_, op_cat, a, b, vs, ws, rfl, rfl, f1, f2, by rw [← r1.length, ← r2.length]; exact h1, fun p hp => hQ.fresh ha h2 (fun H' g => .lst ((r1.append r2).mono g)) hp⟩
      | _ => exact False.elim h
    | _ => exact False.elim h
  | sub =>
    cases rx with
    | int i => cases ry with
      | int j => exact ⟨_, op_sub, i, j, rfl, rfl, hQ.here h (.int _) ha⟩
      | _ => exact False.elim h
    | _ => exact False.elim h
  | mul =>
    cases rx with
    | int i => cases ry with
      | int j => exact ⟨_, op_mulW, i, j, rfl, rfl, wide_mul h.1 h.2.1 (by decide) (by decide) (by decide), hQ.here h.2.2 (.int _) ha⟩
      | _ => exact False.elim h
    | ref a => cases ry with
      | int k =>
        obtain ⟨xs, e1, b1, b2, h1, h2⟩ := h
        obtain ⟨vs, f1, r1⟩ := ha.lst e1
        refine ⟨_, op_rep, a, k, vs, rfl, rfl, f1, by omega, by omega, by rw [← r1.length]; exact h1, fun p hp => hQ.fresh ha h2 (fun H' g => .lst ((r1.rep _).mono g)) hp⟩
      | _ => exact False.elim h
    | str l kl => cases ry with
      | int k => exact False.elim h
      | _ => exact False.elim h
    | _ => exact False.elim h
  | fdiv =>
    cases rx with
    | int i => cases ry with
      | int j => exact ⟨_, op_fdivW, i, j, rfl, rfl, wide_div h.1 h.2.1 (by decide) (by decide), hQ.here h.2.2 (.int _) ha⟩
      | _ => exact False.elim h
    | _ => exact False.elim h
  | mod =>
    cases rx with
    | int i => cases ry with
      | int j => exact ⟨_, op_mod, i, j, rfl, rfl, h.1, hQ.here h.2 (.int _) ha⟩
      | _ => exact False.elim h
    | _ => exact False.elim h
  | pow =>
    cases rx with
    | int i => cases ry with
      | int j => exact ⟨_, op_pow, i, j, rfl, rfl, ⟨h.1, h.2.1, h.2.2.1⟩, hQ.here h.2.2.2 (.int _) ha⟩
      | _ => exact False.elim h
    | _ => exact False.elim h
/-! ### comparisons -/
def copO : Cop → CmpOp
  | .eq => .Eq | .ne => .NotEq | .lt => .Lt | .le => .LtE | .gt => .Gt | .ge => .GtE | .inn => .In | .nin => .NotIn | .iss => .Is | .isn => .IsNot
mutual
def pyD : D → PyData
  | .non => .none | .bl b => .bool b | .int i => .int i | .str l => .str (toS l)
  | .tup xs => .tuple (pyDs xs)
  | _ => .none
def pyDs : List D → List PyData
  | [] => []
  | x :: xs => pyD x :: pyDs xs
end
mutual
theorem dp_of : ∀ {d : D} {v : V}, d.pure = true → RelD G H d v → Dp G.K H v (pyD d)
  | _, _, _, .non => by unfold pyD; exact .non
  | _, _, _, .bl b => by unfold pyD; exact .bl b
  | _, _, _, .int i => by unfold pyD; exact .int i
  | _, _, _, .str l _ => by unfold pyD; exact .str _
  | _, _, h, .tup s r => by unfold pyD; exact .tup s (dps_of (by unfold D.pure at h; exact h) r)
  | _, _, h, .ref _ => by simp [D.pure] at h
  | _, _, h, .fn _ => by simp [D.pure] at h
  | _, _, h, .rol _ => by simp [D.pure] at h
theorem dps_of : ∀ {d : List D} {v : List V}, D.pures d = true → RelDs G H d v → DpAll G.K H v (pyDs d)
  | _, _, _, .nil => by unfold pyDs; exact .nil
  | _, _, h, .cons r t => by
    unfold pyDs
    unfold D.pures at h
    simp only [Bool.and_eq_true] at h
    exact .cons (dp_of h.1 r) (dps_of h.2 t)
end
mutual
theorem lay_of : ∀ {d : D} {v : V}, RelD G H d v → (pyD d).canLay0 = true
  | _, _, .non => by simp [pyD, PyData.canLay0]
  | _, _, .bl b => by simp [pyD, PyData.canLay0]
  | _, _, .int i => by simp [pyD, PyData.canLay0]
  | _, _, .str l h => by
    simp only [pyD, PyData.canLay0, PyData.strOk, toS, List.all_toArray, List.all_eq_true, decide_eq_true_eq]
    exact h
  | _, _, .tup s r => by
    unfold pyD PyData.canLay0
    exact lays_of r
  | _, _, .ref _ => by simp [pyD, PyData.canLay0]
  | _, _, .fn _ => by simp [pyD, PyData.canLay0]
  | _, _, .rol _ => by simp [pyD, PyData.canLay0]
theorem lays_of : ∀ {d : List D} {v : List V}, RelDs G H d v → PyData.canLayAll0 (pyDs d) = true
  | _, _, .nil => by simp [pyDs, PyData.canLayAll0]
  | _, _, .cons r t => by
    unfold pyDs PyData.canLayAll0
    rw [lay_of r, lays_of t] <;> rfl
end
mutual
theorem depth_py : ∀ d : D, (pyD d).depth ≤ d.depth + 1
  | .non => by simp [pyD, PyData.depth]
  | .bl b => by simp [pyD, PyData.depth]
  | .int i => by simp [pyD, PyData.depth]
  | .str l => by simp [pyD, PyData.depth]
  | .tup xs => by
    have := depths_py xs
    simp only [pyD, PyData.depth, D.depth]; omega
  | .ref _ => by simp [pyD, PyData.depth]
  | .fn _ => by simp [pyD, PyData.depth]
  | .cls _ => by simp [pyD, PyData.depth]
  | .rol _ => by simp [pyD, PyData.depth]
theorem depths_py : ∀ d : List D, PyData.depthAll (pyDs d) ≤ D.depths d + 1
  | [] => by simp [pyDs, PyData.depthAll]
  | x :: xs => by
    have h1 := depth_py x
    have h2 := depths_py xs
    simp only [pyDs, PyData.depthAll, D.depths]; omega
end
theorem beq_toS (a b : List Nat) : (toS a == toS b) = (a == b) := by
  by_cases e : a = b
  · subst e; simp
  · rw [beq_eq_false_iff_ne.mpr e, beq_eq_false_iff_ne]
    exact fun h => e (toS_inj h)
mutual
theorem eqv_py : ∀ x y : D, x.pure = true → y.pure = true → PyData.eqv (pyD x) (pyD y) = D.eqv x y
  | .non, y, _, h => by cases y <;> simp_all [pyD, PyData.eqv, D.eqv, D.pure]
  | .bl b, y, _, h => by cases y <;> simp_all [pyD, PyData.eqv, D.eqv, D.pure]
  | .int i, y, _, h => by cases y <;> simp_all [pyD, PyData.eqv, D.eqv, D.pure]
  | .str l, y, _, h => by cases y <;> simp_all [pyD, PyData.eqv, D.eqv, D.pure, beq_toS]
  | .tup xs, y, g, h => by
    cases y with
    | tup ys =>
      simp only [pyD, PyData.eqv, D.eqv]
      exact eqvs_py xs ys (by simpa [D.pure] using g) (by simpa [D.pure] using h)
    | _ => simp_all [pyD, PyData.eqv, D.eqv, D.pure]
  | .ref _, _, g, _ => by simp [D.pure] at g
  | .fn _, _, g, _ => by simp [D.pure] at g
  | .cls _, _, g, _ => by simp [D.pure] at g
  | .rol _, _, g, _ => by simp [D.pure] at g
theorem eqvs_py : ∀ xs ys : List D, D.pures xs = true → D.pures ys = true → PyData.eqvAll (pyDs xs) (pyDs ys) = D.eqvs xs ys
  | [], [], _, _ => by simp [pyDs, PyData.eqvAll, D.eqvs]
  | [], _ :: _, _, _ => by simp [pyDs, PyData.eqvAll, D.eqvs]
  | _ :: _, [], _, _ => by simp [pyDs, PyData.eqvAll, D.eqvs]
  | x :: xs, y :: ys, g, h => by
    simp only [D.pures, Bool.and_eq_true] at g h
    simp only [pyDs, PyData.eqvAll, D.eqvs]
    rw [eqv_py x y g.1 h.1, eqvs_py xs ys g.2 h.2]
end
/-- == by the data that both read as -/
theorem op_eqR (hu : X.A.units + 400 < cLine) : OpR X (compareOp .Eq) fun x y H Q => ∃ d e, Dp X.K H x d ∧ Dp X.K H y e ∧ d.canLay0 = true ∧ e.canLay0 = true ∧ min d.depth e.depth ≤ 300 ∧ Q (.bl (PyData.eqv d e)) H := by
  intro pins s σ H x y v u Q I rx ry h
  obtain ⟨d, e, hd, he, sd, se, hm, q⟩ := h
  obtain ⟨as, r1⟩ := Dp.reads I d x v hd rx
  obtain ⟨bs, r2⟩ := Dp.reads I e y u he ry
  exact SeqAt.compareEq_reads r1 r2 sd se (by omega) ⟨.bl _, H, I, rfl, q⟩
theorem op_neR (hu : X.A.units + 400 < cLine) : OpR X (compareOp .NotEq) fun x y H Q => ∃ d e, Dp X.K H x d ∧ Dp X.K H y e ∧ d.canLay0 = true ∧ e.canLay0 = true ∧ min d.depth e.depth ≤ 300 ∧ Q (.bl (!PyData.eqv d e)) H := by
  intro pins s σ H x y v u Q I rx ry h
  obtain ⟨d, e, hd, he, sd, se, hm, q⟩ := h
  obtain ⟨as, r1⟩ := Dp.reads I d x v hd rx
  obtain ⟨bs, r2⟩ := Dp.reads I e y u he ry
  exact SeqAt.compareNe_reads r1 r2 sd se (by omega) ⟨.bl _, H, I, rfl, q⟩
theorem eq_dat {x y : D} {v u : V} {k : Bool → Prop} (h : wpEq x y τ k) (rx : RelD G H x v) (ry : RelD G H y u) (ha : Abs G τ H) :
    ∃ d e, Dp G.K H v d ∧ Dp G.K H u e ∧ d.canLay0 = true ∧ e.canLay0 = true ∧ min d.depth e.depth ≤ 300 ∧ k (PyData.eqv d e) := by
  by_cases hr : ∃ a b, x = .ref a ∧ y = .ref b
  · obtain ⟨a, b, rfl, rfl⟩ := hr
    obtain ⟨xs, ys, e1, e2, p1, p2, hm, q⟩ := h
    cases rx; cases ry
    obtain ⟨vs, f1, r1⟩ := ha.lst e1
    obtain ⟨ws, f2, r2⟩ := ha.lst e2
    have d1 := depths_py xs
    have d2 := depths_py ys
    refine ⟨.list (pyDs xs), .list (pyDs ys), .lst (SqL.of f1) (dps_of p1 r1), .lst (SqL.of f2) (dps_of p2 r2), by unfold PyData.canLay0; exact lays_of r1, by unfold PyData.canLay0; exact lays_of r2, by simp only [PyData.depth]; omega, ?_⟩
    have e : PyData.eqv (.list (pyDs xs)) (.list (pyDs ys)) = D.eqvs xs ys := by
      simp only [PyData.eqv]; exact eqvs_py xs ys p1 p2
    rw [e]; exact q
  · have h' : x.pure = true ∧ y.pure = true ∧ min x.depth y.depth ≤ 100 ∧ k (D.eqv x y) := by
      unfold wpEq at h
      split at h
      · exact absurd ⟨_, _, rfl, rfl⟩ hr
      · exact h
    obtain ⟨p1, p2, hm, q⟩ := h'
    have d1 := depth_py x
    have d2 := depth_py y
    exact ⟨pyD x, pyD y, dp_of p1 rx, dp_of p2 ry, lay_of rx, lay_of ry, by omega, by rw [eqv_py x y p1 p2]; exact q⟩
theorem ltL_eq (a b : List Nat) : decide ((toS a).cps.toList < (toS b).cps.toList) = ltL a b := rfl
mutual
theorem flat_rel : ∀ {d : D} {v : V}, RelD G H d v → d.flat = true → flatV v = true
  | _, _, .non, _ => rfl
  | _, _, .bl b, _ => rfl
  | _, _, .int i, _ => rfl
  | _, _, .str l _, _ => rfl
  | _, _, .tup s r, h => by simp [D.flat] at h
  | _, _, .ref _, h => by simp [D.flat] at h
  | _, _, .fn _, h => by simp [D.flat] at h
  | _, _, .rol _, h => by simp [D.flat] at h
end
theorem flats_rel : ∀ {d : List D} {v : List V}, RelDs G H d v → d.all D.flat = true → v.all flatV = true
  | _, _, .nil, _ => rfl
  | _, _, .cons r t, h => by
    simp only [List.all_cons, Bool.and_eq_true] at h ⊢
    exact ⟨flat_rel r h.1, flats_rel t h.2⟩
theorem eqV_rel {x y : D} {v u : V} (rx : RelD G H x v) (ry : RelD G H y u) (hx : x.flat = true) (hy : y.flat = true) : eqV v u = D.eqv x y := by
  cases rx with
  | str a _ => cases ry with
    | str b _ =>
      show (toS a == toS b) = D.eqv (.str a) (.str b)
      rw [beq_toS]; simp [D.eqv]
    | _ => first | (simp [D.flat] at hy; done) | simp [eqV, D.eqv]
  | tup _ _ => simp [D.flat] at hx
  | ref _ => simp [D.flat] at hx
  | fn _ => simp [D.flat] at hx
  | rol _ => simp [D.flat] at hx
  | _ => cases ry <;> first | (simp [D.flat] at hy; done) | simp [eqV, D.eqv]
theorem any_rel {x : D} {v : V} (rx : RelD G H x v) (hx : x.flat = true) : ∀ {d : List D} {w : List V}, RelDs G H d w → d.all D.flat = true → inV v w = d.any fun y => D.eqv y x
  | _, _, .nil, _ => rfl
  | _, _, .cons r t, h => by
    simp only [List.all_cons, Bool.and_eq_true] at h
    show (eqV _ v || inV v _) = _
    rw [List.any_cons, eqV_rel r rx h.1 hx, any_rel rx hx t h.2]
theorem inL_nil (b : List Nat) (hb : b ≠ []) : inL b [] = false := by
  cases b with
  | nil => exact absurd rfl hb
  | cons _ _ => rfl
/-- one sign within a text -/
theorem inL_one (c : Nat) : ∀ l : List Nat, inL [c] l = decide (c ∈ l)
  | [] => by simp [inL]
  | d :: r => by
    unfold inL
    rw [inL_one c r]
    by_cases e : c = d
    · subst e; simp
    · have e' : ¬ d = c := fun h => e h.symm
      simp [e, e']
theorem cmp_ok {o : Cop} {x y : D} {v u : V} {Qb : Bool → Sto → Prop} {Q : Bool → Hp → Prop} (hK : X.K = G.K) (hu : X.A.units + 400 < cLine) (h : wpCmp o x y τ fun b => Qb b τ) (rx : RelD G H x v) (ry : RelD G H y u) (ha : Abs G τ H) (hQ : CvB G H Qb Q) :
    AnyOp X (compareOp (copO o)) v u H fun w H' => ∃ b, w = .bl b ∧ Q b H' := by
  have fin : ∀ b, Qb b τ → Q b H := fun b q => hQ b τ q H (Grow.refl H) ha
  cases o with
  | eq =>
    obtain ⟨d, e, h1, h2, h3, h4, h5, h6⟩ := eq_dat h rx ry ha
    exact ⟨_, op_eqR hu, d, e, hK ▸ h1, hK ▸ h2, h3, h4, h5, _, rfl, fin _ h6⟩
  | ne =>
    obtain ⟨d, e, h1, h2, h3, h4, h5, h6⟩ := eq_dat h rx ry ha
    exact ⟨_, op_neR hu, d, e, hK ▸ h1, hK ▸ h2, h3, h4, h5, _, rfl, fin _ h6⟩
  | lt =>
    cases rx with
    | int i => cases ry with
      | int j => exact ⟨_, op_lt, i, j, rfl, rfl, _, rfl, fin _ h⟩
      | _ => exact False.elim h
    | str a _ => cases ry with
      | str b _ => exact ⟨_, op_lt_str, _, _, rfl, rfl, _, rfl, fin _ h⟩
      | _ => exact False.elim h
    | _ => exact False.elim h
  | le =>
    cases rx with
    | int i => cases ry with
      | int j => exact ⟨_, op_le, i, j, rfl, rfl, _, rfl, fin _ h⟩
      | _ => exact False.elim h
    | str a _ => cases ry with
      | str b _ => exact ⟨_, op_le_str, _, _, rfl, rfl, _, rfl, fin _ h⟩
      | _ => exact False.elim h
    | _ => exact False.elim h
  | gt =>
    cases rx with
    | int i => cases ry with
      | int j => exact ⟨_, op_gt, i, j, rfl, rfl, _, rfl, fin _ h⟩
      | _ => exact False.elim h
    | str a _ => cases ry with
      | str b _ => exact ⟨_, op_gt_str, _, _, rfl, rfl, _, rfl, fin _ h⟩
      | _ => exact False.elim h
    | _ => exact False.elim h
  | ge =>
    cases rx with
    | int i => cases ry with
      | int j => exact ⟨_, op_ge, i, j, rfl, rfl, _, rfl, fin _ h⟩
      | _ => exact False.elim h
    | str a _ => cases ry with
      | str b _ => exact ⟨_, op_ge_str, _, _, rfl, rfl, _, rfl, fin _ h⟩
      | _ => exact False.elim h
    | _ => exact False.elim h
  | inn =>
    cases ry with
    | str a _ => cases rx with
      | str b _ =>
        have h : ∃ c, b = [c] ∧ Qb (inL b a) τ := h
        obtain ⟨c, rfl, h⟩ := h
        exact ⟨_, op_in_sign, c, _, rfl, rfl, _, rfl, fin _ (by rw [← inL_one]; exact h)⟩
      | _ => exact False.elim h
    | @tup ys ws p s r =>
      have h : x.flat = true ∧ ys.all D.flat = true ∧ Qb (ys.any fun y => D.eqv y x) τ := by cases rx <;> exact h
      exact ⟨_, op_in_seq, p, ws, rfl, .inr (hK ▸ s), flat_rel rx h.1, flats_rel r h.2.1, _, rfl, fin _ (by simp only [Bool.false_eq_true, if_false]; rw [any_rel rx h.1 r h.2.1]; exact h.2.2)⟩
    | ref p =>
      have h : ∃ ys, τ p = some (.lst ys) ∧ x.flat = true ∧ ys.all D.flat = true ∧ Qb (ys.any fun y => D.eqv y x) τ := by cases rx <;> exact h
      obtain ⟨ys, e1, h⟩ := h
      obtain ⟨ws, f1, r⟩ := ha.lst e1
      exact ⟨_, op_in_seq, p, ws, rfl, .inl (SqL.of f1), flat_rel rx h.1, flats_rel r h.2.1, _, rfl, fin _ (by simp only [Bool.false_eq_true, if_false]; rw [any_rel rx h.1 r h.2.1]; exact h.2.2)⟩
    | _ => cases rx <;> exact False.elim h
  | nin =>
    cases ry with
    | str a _ => cases rx with
      | str b _ =>
        have h : ∃ c, b = [c] ∧ Qb (!inL b a) τ := h
        obtain ⟨c, rfl, h⟩ := h
        exact ⟨_, op_notIn_sign, c, _, rfl, rfl, _, rfl, fin _ (by rw [← inL_one]; exact h)⟩
      | _ => exact False.elim h
    | @tup ys ws p s r =>
      have h : x.flat = true ∧ ys.all D.flat = true ∧ Qb (!ys.any fun y => D.eqv y x) τ := by cases rx <;> exact h
      exact ⟨_, op_notIn_seq, p, ws, rfl, .inr (hK ▸ s), flat_rel rx h.1, flats_rel r h.2.1, _, rfl, fin _ (by simp only [if_true]; rw [any_rel rx h.1 r h.2.1]; exact h.2.2)⟩
    | ref p =>
      have h : ∃ ys, τ p = some (.lst ys) ∧ x.flat = true ∧ ys.all D.flat = true ∧ Qb (!ys.any fun y => D.eqv y x) τ := by cases rx <;> exact h
      obtain ⟨ys, e1, h⟩ := h
      obtain ⟨ws, f1, r⟩ := ha.lst e1
      exact ⟨_, op_notIn_seq, p, ws, rfl, .inl (SqL.of f1), flat_rel rx h.1, flats_rel r h.2.1, _, rfl, fin _ (by simp only [if_true]; rw [any_rel rx h.1 r h.2.1]; exact h.2.2)⟩
    | _ => cases rx <;> exact False.elim h
  | iss =>
    cases ry with
    | non => exact ⟨_, op_isN, rfl, _, rfl, fin _ (by cases rx <;> exact h)⟩
    | bl b => cases rx with
      | bl a => exact ⟨_, op_isBl, a, b, rfl, rfl, _, rfl, fin _ (by rw [← Bool.beq_eq_decide_eq]; exact h)⟩
      | _ => exact False.elim h
    | _ => cases rx <;> exact False.elim h
  | isn =>
    cases ry with
    | non => exact ⟨_, op_notN, rfl, _, rfl, fin _ (by cases rx <;> exact h)⟩
    | _ => cases rx <;> exact False.elim h
end
end DL
set_option maxHeartbeats 1000000
/-! DL2b: truth, places, parts, built-in functions and methods -/
namespace DL
open PySem PySem.Spec PyProof.Rows L2 TL
section
variable {X : Cx} {G : Gx} {H : Hp} {τ : Sto} {Q : VK} {Qd : QD}
theorem emp_rel {xs : List D} {vs : List V} (r : RelDs G H xs vs) : (!xs.isEmpty) = !vs.isEmpty := by cases r <;> rfl
theorem tru_of {x : D} {v : V} {k : Bool → Prop} (hK : X.K = G.K) (h : wpTru x τ k) (rx : RelD G H x v) (ha : Abs G τ H) : ∃ b, TruV X.K v H b ∧ k b := by
  cases rx with
  | non => exact ⟨_, rfl, h⟩
  | bl b => exact ⟨_, rfl, h⟩
  | int i => exact ⟨_, rfl, h⟩
  | str l _ =>
    refine ⟨_, ⟨by rw [len_toS]; exact h.1, ?_⟩, h.2⟩
    rw [len_toS]; cases l <;> simp
    omega
  | tup s r => exact ⟨_, .inr (.inl ⟨_, hK ▸ s, emp_rel r⟩), h⟩
  | ref a =>
    obtain ⟨xs, e, h⟩ := h
    obtain ⟨vs, f, r⟩ := ha.lst e
    exact ⟨_, .inl ⟨_, SqL.of f, emp_rel r⟩, h⟩
  | fn f => exact False.elim h
  | rol s => exact False.elim h
/-- some rule serves: subscripts, slices, calls, methods -/
def AnyIx (X : Cx) : R2 := fun x y H Q => ∃ r, IxR X r ∧ r x y H Q
theorem anyIx (X : Cx) : IxR X (AnyIx X) := fun a b pins s σ H x y v u Q I rx ry ⟨r, hr, q⟩ hs => hr a b pins s σ H x y v u Q I rx ry q hs
def AnySl (X : Cx) : V → Option Int → Option Int → Hp → VK → Prop := fun x lo hi H Q => ∃ r, SlR X r ∧ r x lo hi H Q
theorem anySl (X : Cx) : SlR X (AnySl X) := fun pins s σ H x v vl vu lo hi sl Q I rx hs pl pu ⟨r, hr, q⟩ => hr pins s σ H x v vl vu lo hi sl Q I rx hs pl pu q
def AnyCl (X : Cx) (f : Value) : List V → Hp → VK → Prop := fun xs H Q => ∃ r, CallR X f r ∧ r xs H Q
theorem anyCl (X : Cx) (f : Value) : CallR X f (AnyCl X f) := fun pins s σ H xs us Q I rs ⟨r, hr, q⟩ => hr pins s σ H xs us Q I rs q
def AnyMt (X : Cx) (id : String) : V → List V → Hp → VK → Prop := fun x xs H Q => ∃ r, MtR X id r ∧ r x xs H Q
theorem anyMt (X : Cx) (id : String) : MtR X id (AnyMt X id) := fun pins s σ H x xs v us Q I rx rs ⟨r, hr, q⟩ => hr pins s σ H x xs v us Q I rx rs q
theorem at_of {α : Type} {xs : List α} {i : Int} {j : Nat} {d : α} (h1 : ixD xs.length i = some j) (h2 : xs[j]? = some d) : atI xs i = some d := by
  unfold atI; rw [show ixN xs.length i = some j from h1]; exact h2
theorem okS.one {l : List Nat} (h : okS l) {j c : Nat} (e : l[j]? = some c) : okS [c] := fun d hd => by
  rw [List.mem_singleton.mp hd]; exact h c (List.mem_of_getElem? e)
theorem idx_ok {x y : D} {v u : V} (hK : X.K = G.K) (h : wpIdx x y τ Qd) (rx : RelD G H x v) (ry : RelD G H y u) (ha : Abs G τ H) (hQ : CvQ G H Qd Q) : AnyIx X v u H Q := by
  cases rx with
  | str l kl => cases ry with
    | int i =>
      obtain ⟨hl, j, c, h1, h2, q⟩ := h
      exact ⟨_, ix_str, _, i, c, rfl, rfl, by rw [len_toS]; exact hl, at_of h1 h2, hQ.here q (.str _ (kl.one h2)) ha⟩
    | _ => exact False.elim h
  | tup s r => cases ry with
    | int i =>
      obtain ⟨j, d, h1, h2, q⟩ := h
      obtain ⟨w, h3, rw_⟩ := r.get h2
      exact ⟨_, ix_tup, _, _, i, w, rfl, rfl, hK ▸ s, at_of (by rw [← r.length]; exact h1) h3, hQ.here q rw_ ha⟩
    | _ => exact False.elim h
  | ref a => cases ry with
    | int i =>
      obtain ⟨xs, j, d, e, h1, h2, q⟩ := h
      obtain ⟨vs, f, r⟩ := ha.lst e
      obtain ⟨w, h3, rw_⟩ := r.get h2
      exact ⟨_, ix_list, _, _, i, w, rfl, rfl, SqL.of f, at_of (by rw [← r.length]; exact h1) h3, hQ.here q rw_ ha⟩
    | _ => exact False.elim h
  | @rol ns a s => cases ry with
    | int i =>
      obtain ⟨j, d, h1, h2, q⟩ := h
      exact ⟨_, ix_list, _, _, i, .int d, rfl, rfl, hK ▸ s.sq, at_of (by rw [List.length_map]; exact h1) (by rw [List.getElem?_map, h2]; rfl), hQ.here q (.int d) ha⟩
    | _ => exact False.elim h
  | _ => cases ry <;> exact False.elim h
theorem sIx_le (n d : Nat) (o : Option Int) (hd : d ≤ n) : HT.sIx n d o ≤ n ∨ ∃ i, o = some i ∧ i < 0 := by
  cases o with
  | none => exact .inl hd
  | some i =>
    unfold HT.sIx
    by_cases h : i < 0
    · exact .inr ⟨i, rfl, h⟩
    · left; simp only [h, if_false]; exact Nat.min_le_right _ _
theorem cut_all {α : Type} (l : List α) {lo hi : Option Int} (h1 : HT.sIx l.length 0 lo = 0) (h2 : HT.sIx l.length l.length hi = l.length) : cutD l lo hi = l := by
  unfold cutD sIx
  rw [h1, h2, List.drop_zero, Nat.sub_zero, List.take_length]
theorem RelDs.cut {xs : List D} {vs : List V} (r : RelDs G H xs vs) (lo hi : Option Int) : RelDs G H (cutD xs lo hi) (cutV vs lo hi) := by
  unfold cutD cutV sIx
  rw [r.length]
  exact (r.drop _).take _
theorem slc_ok {x : D} {v : V} {lo hi : Option Int} (hK : X.K = G.K) (h : wpSlc x lo hi τ Qd) (rx : RelD G H x v) (ha : Abs G τ H) (hQ : CvQ G H Qd Q) : AnySl X v lo hi H Q := by
  cases rx with
  | str l kl =>
    refine ⟨_, sl_str, _, rfl, by rw [len_toS]; exact h.1, ?_⟩
    have e : cutS (toS l) lo hi = toS (cutD l lo hi) := by
      unfold cutS cutD sIx toS
      rw [show (⟨l.toArray⟩ : Str).length = l.length from len_toS l]
    rw [e]
    exact hQ.here h.2 (.str _ (kl.cut _ _)) ha
  | @tup xs vs a s r =>
    refine ⟨_, sl_tupA, a, vs, rfl, hK ▸ s, fun ⟨h1, h2⟩ => ?_, fun _ p hp => ?_⟩
    · have h : Qd (.tup (cutD xs lo hi)) τ := h
      rw [cut_all xs (by rw [r.length]; exact h1) (by rw [r.length]; exact h2)] at h
      exact hQ.here h (.tup s r) ha
    · exact hQ.tup ha h (r.cut lo hi) hp
  | ref a =>
    obtain ⟨xs, e, h⟩ := h
    obtain ⟨vs, f, r⟩ := ha.lst e
    exact ⟨_, sl_list, a, vs, rfl, SqL.of f, fun p hp => hQ.fresh ha h (fun H' g => .lst ((r.cut lo hi).mono g)) hp⟩
  | _ => exact False.elim h
/-! ### built-in functions -/
theorem allBl_rel : ∀ {xs : List D} {vs : List V} {bs : List Bool}, RelDs G H xs vs → allBl xs = some bs → vs = bs.map V.bl
  | _, _, _, .nil, e => by cases e; rfl
  | _, _, bs, .cons r t, e => by
    cases r with
    | bl b =>
      unfold allBl at e
      cases q : allBl _ with
      | none => rw [q] at e; cases e
      | some cs =>
        rw [q] at e
        cases e
        rw [allBl_rel t q] <;> rfl
    | _ => cases e
theorem allStr_rel : ∀ {xs : List D} {vs : List V} {bs : List (List Nat)}, RelDs G H xs vs → allStr xs = some bs → vs = (bs.map toS).map V.str ∧ ∀ b ∈ bs, okS b
  | _, _, _, .nil, e => by cases e; exact ⟨rfl, fun _ h => nomatch h⟩
  | _, _, bs, .cons r t, e => by
    cases r with
    | str b kb =>
      unfold allStr at e
      cases q : allStr _ with
      | none => rw [q] at e; cases e
      | some cs =>
        rw [q] at e
        cases e
        obtain ⟨h1, h2⟩ := allStr_rel t q
        refine ⟨by rw [h1] <;> rfl, fun c hc => ?_⟩
        rcases List.mem_cons.mp hc with rfl | hc
        · exact kb
        · exact h2 c hc
    | _ => cases e
theorem isFigs_all {l : List Nat} (h : isFigs l = true) : NumText.AllDigits l ∧ l ≠ [] := by
  unfold isFigs at h
  simp only [Bool.and_eq_true, List.all_eq_true, decide_eq_true_eq] at h
  refine ⟨fun c hc => h.2 c hc, fun e => ?_⟩
  subst e; simp at h
theorem figs_ok (n : Nat) : okS (figs n) := fun c hc => by
  have h := numL_digits n c hc
  omega
theorem neg_text (n : Nat) (h : 0 < n) : Str.ofString (toString (-(n : Int))) = toS (45 :: figs n) := by
  apply ext_tl
  rw [tl_toS, tl_ofString]
  have e : toString (-(n : Int)) = "-" ++ toString n := by
    obtain ⟨m, rfl⟩ : ∃ m, n = m + 1 := ⟨n - 1, by omega⟩
    show (Int.repr (Int.neg (Int.ofNat (m + 1)))) = _
    rfl
  rw [e]
  have e2 : ("-" ++ toString n).toList = '-' :: Nat.toDigits 10 n := by
    rw [String.toList_append]
    show _ ++ (Nat.repr n).toList = _
    unfold Nat.repr
    rw [String.toList_ofList, String.toList_ofList] <;> rfl
  rw [e2] <;> rfl
theorem num_text (i : Int) : Str.ofString (toString i) = toS (numT i) := by
  unfold numT
  by_cases h : i < 0
  · rw [if_pos h]
    have e : i = -((i.natAbs : Nat) : Int) := by omega
    have q := neg_text i.natAbs (by omega)
    rw [← e] at q
    exact q
  · rw [if_neg h]
    have e : i = ((i.natAbs : Nat) : Int) := by omega
    apply ext_tl
    rw [tl_toS]
    have q := tl_num i.natAbs
    rw [← e] at q
    exact q
theorem numT_ok (i : Int) : okS (numT i) := by
  unfold numT
  split
  · intro c hc
    rcases List.mem_cons.mp hc with rfl | hc
    · decide
    · exact figs_ok _ c hc
  · exact figs_ok _
def bltV : Blt → Value
  | .len => .builtin "len" | .abs => .builtin "abs" | .int => .type "int" | .str => .type "str" | .list => .type "list" | .tuple => .type "tuple" | .all => .builtin "all" | .any => .builtin "any"
  | .ord => .builtin "ord" | .divmod => .builtin "divmod" | .isint => .builtin "isinstance" | .isstr => .builtin "isinstance" | .istup => .builtin "isinstance" | .isbool => .builtin "isinstance"
  | .sum => .builtin "sum" | .sorted => .builtin "sorted" | .max => .builtin "max" | .min => .builtin "min" | .chr => .builtin "chr"
/-- the class that is asked for -/
def bltT : Blt → List V
  | .isint => [.ty "int"] | .isstr => [.ty "str"] | .istup => [.ty "tuple"] | .isbool => [.ty "bool"] | _ => []
def D.tyN : D → String
  | .non => "NoneType" | .bl _ => "bool" | .int _ => "int" | .str _ => "str" | _ => "tuple"
theorem ty_of {x : D} {v : V} (r : RelD G H x v) (h : x.known = true) : ∃ t, TyX G.K H v (.type t) ∧ t = x.tyN := by
  cases r with
  | non => exact ⟨_, .base .non, rfl⟩
  | bl b => exact ⟨_, .base (.bl b), rfl⟩
  | int i => exact ⟨_, .base (.int i), rfl⟩
  | str l _ => exact ⟨_, .base (.str _), rfl⟩
  | tup s r =>
    refine ⟨_, ?_, rfl⟩
    rcases s with (s | ⟨o, s⟩) | ⟨o, its, n, e1, e2, _⟩
    · exact .base (.tup s)
    · exact .fTuple s
    · exact .kTuple e1 e2
  | _ => cases h
theorem isi_ok {x : D} {v : V} {T : String} {b : Bool} (hK : X.K = G.K) (r : RelD G H x v) (h : x.known = true) (hb : kitB x.tyN T = some b) (q : Q (.bl b) H) :
    AnyCl X (.builtin "isinstance") [v, .ty T] H Q := by
  obtain ⟨t, h1, rfl⟩ := ty_of r h
  exact ⟨_, call_isi, v, .ty T, _, _, b, rfl, .ty T, hK ▸ h1, kit_ty hb, q⟩
theorem intBits_le {i : Int} {n : Nat} (h : i.natAbs < 2 ^ n) (h0 : 0 < n) : Builtin.Int.intBits i ≤ n := by
  unfold Builtin.Int.intBits
  split
  · exact Nat.zero_le _
  · have := log_of h h0; omega
theorem blt_ok {b : Blt} {ds : List D} {vs : List V} (hc : X.calm = true) (hK : X.K = G.K) (h : wpBlt b ds τ Qd) (r : RelDs G H ds vs) (ha : Abs G τ H) (hQ : CvQ G H Qd Q) : AnyCl X (bltV b) (vs ++ bltT b) H Q := by
  cases b with
  | len =>
    cases r with
    | nil => exact False.elim h
    | cons r t => cases t with
      | cons _ _ => cases r <;> exact False.elim h
      | nil => cases r with
        | str l kl => exact ⟨_, call_len_str, _, rfl, by rw [len_toS]; exact h.1, by rw [len_toS]; exact hQ.here h.2 (.int _) ha⟩
        | tup s r => exact ⟨_, call_len_seq, _, _, rfl, .inr (hK ▸ s), by rw [← r.length]; exact hQ.here h (.int _) ha⟩
        | ref a =>
          obtain ⟨xs, e, h⟩ := h
          obtain ⟨vs, f, r⟩ := ha.lst e
          exact ⟨_, call_len_seq, _, _, rfl, .inl (SqL.of f), by rw [← r.length]; exact hQ.here h (.int _) ha⟩
        | rol s => exact ⟨_, call_len_seq, _, _, rfl, .inl (hK ▸ s.sq), by rw [List.length_map]; exact hQ.here h (.int _) ha⟩
        | _ => exact False.elim h
  | abs =>
    cases r with
    | nil => exact False.elim h
    | cons r t => cases t with
      | cons _ _ => cases r <;> exact False.elim h
      | nil => cases r with
        | int i =>
          have e : (if i < 0 then -i else i) = ((i.natAbs : Nat) : Int) := by split <;> omega
          exact ⟨_, call_abs, i, rfl, by rw [e]; exact hQ.here h (.int _) ha⟩
        | _ => exact False.elim h
  | int =>
    cases r with
    | nil => exact False.elim h
    | cons r t => cases t with
      | cons _ _ => cases r <;> exact False.elim h
      | nil => cases r with
        | int i => exact ⟨_, call_int1, .inl ⟨i, rfl, hQ.here h (.int _) ha⟩⟩
        | bl b => exact ⟨_, call_int1, .inr ⟨b, rfl, hQ.here h (.int _) ha⟩⟩
        | str l kl =>
          obtain ⟨h1, h2, h3⟩ := h
          obtain ⟨a1, a2⟩ := isFigs_all h1
          exact ⟨_, call_int_str, toS l, _, rfl, intText_digits (x := toS l) a1 a2 (by rw [len_toS]; omega), by rw [len_toS]; exact h2, hQ.here h3 (.int _) ha⟩
        | _ => exact False.elim h
  | str =>
    cases r with
    | nil => exact False.elim h
    | cons r t => cases t with
      | cons _ _ => cases r <;> exact False.elim h
      | nil => cases r with
        | int i => exact ⟨_, call_str_int, i, rfl, Nat.lt_trans (log_of h.1 (by decide)) (by decide), by rw [show ((toString i : String) : Str) = Str.ofString (toString i) from rfl, num_text]; exact hQ.here h.2 (.str _ (numT_ok i)) ha⟩
        | _ => exact False.elim h
  | list =>
    cases r with
    | nil => exact False.elim h
    | cons r t => cases t with
      | cons _ _ => cases r <;> exact False.elim h
      | nil => cases r with
        | rol s => exact ⟨_, call_list_of, _, _, rfl, .inl (hK ▸ s.sq), fun p hp => hQ.fresh ha h (fun H' g => .lst (RelDs.ints _)) hp⟩
        | ref a =>
          obtain ⟨xs, e, h⟩ := h
          obtain ⟨vs, f, r⟩ := ha.lst e
          exact ⟨_, call_list_of, _, _, rfl, .inl (SqL.of f), fun p hp => hQ.fresh ha h (fun H' g => .lst (r.mono g)) hp⟩
        | tup s r => exact ⟨_, call_list_of, _, _, rfl, .inr (hK ▸ s), fun p hp => hQ.fresh ha h (fun H' g => .lst (r.mono g)) hp⟩
        | _ => exact False.elim h
  | tuple =>
    cases r with
    | nil => exact False.elim h
    | cons r t => cases t with
      | cons _ _ => cases r <;> exact False.elim h
      | nil => cases r with
        | ref a =>
          obtain ⟨xs, e, h⟩ := h
          obtain ⟨vs, f, r⟩ := ha.lst e
          exact ⟨_, call_tuple_of, _, _, rfl, .inl ⟨SqL.of f, fun p hp => hQ.tup ha h r hp⟩⟩
        | tup s r => exact ⟨_, call_tuple_of, _, _, rfl, .inr ⟨hK ▸ s, hQ.here h (.tup s r) ha⟩⟩
        | _ => exact False.elim h
  | all =>
    cases r with
    | nil => exact False.elim h
    | cons r t => cases t with
      | cons _ _ => cases r <;> exact False.elim h
      | nil => cases r with
        | ref a =>
          obtain ⟨xs, bs, e, eb, h⟩ := h
          obtain ⟨vs, f, r⟩ := ha.lst e
          exact ⟨_, cr_all hc, a, bs, rfl, SqL.of (by rw [f, allBl_rel r eb]), hQ.here h (.bl _) ha⟩
        | _ => exact False.elim h
  | any =>
    cases r with
    | nil => exact False.elim h
    | cons r t => cases t with
      | cons _ _ => cases r <;> exact False.elim h
      | nil => cases r with
        | ref a =>
          obtain ⟨xs, bs, e, eb, h⟩ := h
          obtain ⟨vs, f, r⟩ := ha.lst e
          exact ⟨_, cr_any hc, a, bs, rfl, SqL.of (by rw [f, allBl_rel r eb]), hQ.here h (.bl _) ha⟩
        | _ => exact False.elim h
  | ord =>
    cases r with
    | nil => exact False.elim h
    | cons r t => cases t with
      | cons _ _ => cases r with
        | str l _ => cases l with
          | nil => exact False.elim h
          | cons _ l => cases l <;> exact False.elim h
        | _ => exact False.elim h
      | nil => cases r with
        | str l _ => cases l with
          | nil => exact False.elim h
          | cons c l => cases l with
            | nil => exact ⟨_, call_ord, toS [c], rfl, rfl, hQ.here h (.int _) ha⟩
            | cons _ _ => exact False.elim h
        | _ => exact False.elim h
  | divmod =>
    cases r with
    | nil => exact False.elim h
    | cons r t => cases t with
      | nil => cases r <;> exact False.elim h
      | cons r2 t => cases t with
        | cons _ _ => cases r <;> cases r2 <;> exact False.elim h
        | nil => cases r with
          | int i => cases r2 with
            | int j =>
              obtain ⟨h0, h1, h2⟩ := h
              refine ⟨_, call_divmodW, i, j, rfl, ?_, fun p hp => hQ.tup ha h2 (.cons (.int _) (.cons (.int _) .nil)) hp⟩
              refine ⟨h0, ?_⟩
              have q := log_of h1 (by decide)
              have hj : (j == 0) = false := beq_eq_false_iff_ne.mpr (by omega)
              have e : decide (j.natAbs.log2 / 30 + 1 > 300) = false := decide_eq_false (by omega)
              simp only [Builtin.divisionGoesByPylong, hj, Bool.false_eq_true, if_false, e, Bool.false_and]
            | _ => exact False.elim h
          | _ => cases r2 <;> exact False.elim h
  | isint =>
    cases r with
    | nil => exact False.elim h
    | cons r t => cases t with
      | cons _ _ => exact False.elim h
      | nil =>
        obtain ⟨h1, h2⟩ := h
        refine isi_ok hK r h1 (b := _) ?_ (hQ.here h2 (.bl _) ha)
        cases r with
        | non => exact (by decide +kernel : kitB "NoneType" "int" = some false)
        | bl _ => exact (by decide +kernel : kitB "bool" "int" = some true)
        | int _ => exact (by decide +kernel : kitB "int" "int" = some true)
        | str _ _ => exact (by decide +kernel : kitB "str" "int" = some false)
        | tup _ _ => exact (by decide +kernel : kitB "tuple" "int" = some false)
        | _ => cases h1
  | isbool =>
    cases r with
    | nil => exact False.elim h
    | cons r t => cases t with
      | cons _ _ => exact False.elim h
      | nil =>
        obtain ⟨h1, h2⟩ := h
        refine isi_ok hK r h1 (b := _) ?_ (hQ.here h2 (.bl _) ha)
        cases r with
        | non => exact (by decide +kernel : kitB "NoneType" "bool" = some false)
        | bl _ => exact (by decide +kernel : kitB "bool" "bool" = some true)
        | int _ => exact (by decide +kernel : kitB "int" "bool" = some false)
        | str _ _ => exact (by decide +kernel : kitB "str" "bool" = some false)
        | tup _ _ => exact (by decide +kernel : kitB "tuple" "bool" = some false)
        | _ => cases h1
  | isstr =>
    cases r with
    | nil => exact False.elim h
    | cons r t => cases t with
      | cons _ _ => exact False.elim h
      | nil =>
        obtain ⟨h1, h2⟩ := h
        refine isi_ok hK r h1 (b := _) ?_ (hQ.here h2 (.bl _) ha)
        cases r with
        | non => exact (by decide +kernel : kitB "NoneType" "str" = some false)
        | bl _ => exact (by decide +kernel : kitB "bool" "str" = some false)
        | int _ => exact (by decide +kernel : kitB "int" "str" = some false)
        | str _ _ => exact (by decide +kernel : kitB "str" "str" = some true)
        | tup _ _ => exact (by decide +kernel : kitB "tuple" "str" = some false)
        | _ => cases h1
  | istup =>
    cases r with
    | nil => exact False.elim h
    | cons r t => cases t with
      | cons _ _ => exact False.elim h
      | nil =>
        obtain ⟨h1, h2⟩ := h
        refine isi_ok hK r h1 (b := _) ?_ (hQ.here h2 (.bl _) ha)
        cases r with
        | non => exact (by decide +kernel : kitB "NoneType" "tuple" = some false)
        | bl _ => exact (by decide +kernel : kitB "bool" "tuple" = some false)
        | int _ => exact (by decide +kernel : kitB "int" "tuple" = some false)
        | str _ _ => exact (by decide +kernel : kitB "str" "tuple" = some false)
        | tup _ _ => exact (by decide +kernel : kitB "tuple" "tuple" = some true)
        | _ => cases h1
  | _ => exact False.elim h
end
end DL
set_option maxHeartbeats 1000000
/-! DL2c: methods of built-in types -/
namespace DL
open PySem PySem.Spec PyProof.Rows L2 TL
section
variable {X : Cx} {G : Gx} {H : Hp} {τ : Sto} {Q : VK} {Qd : QD}
/-- a list changed -/
theorem CvQ.chg {a : Addr} {d : D} {v : V} {xs : List D} {vs us : List V} (hQ : CvQ G H Qd Q) (ha : Abs G τ H) (f : H a = some (.lst vs)) (h : Qd d (put τ a (.lst xs))) (r : RelDs G H xs us) (rd : RelD G H d v) : Q v (upd H a (.lst us)) :=
  hQ _ _ h _ _ (Grow.lst f) (rd.mono (Grow.lst f)) (ha.chg (Grow.lst f) (.lst (r.mono (Grow.lst f))))
def bmtT : Bmt → String
  | .append | .pop | .extend | .insert | .index => "list"
  | .get => "dict"
  | _ => "str"
def bmtN : Bmt → Str
  | .append => "append" | .pop => "pop" | .extend => "extend" | .insert => "insert" | .index => "index" | .join => "join" | .find => "find" | .zfill => "zfill" | .split => "split" | .replace => "replace" | .get => "get"
theorem RelDs.last {xs : List D} {y : D} {vs : List V} (r : RelDs G H (xs ++ [y]) vs) : ∃ us v, vs = us ++ [v] ∧ RelDs G H xs us ∧ RelD G H y v := by
  have h1 := r.take xs.length
  have h2 := r.drop xs.length
  rw [List.take_left] at h1
  rw [List.drop_left] at h2
  have e := List.take_append_drop xs.length vs
  cases h2' : vs.drop xs.length with
  | nil => rw [h2'] at h2; cases h2
  | cons v t =>
    rw [h2'] at h2
    cases h2 with
    | cons r1 r2 =>
      cases r2
      exact ⟨vs.take xs.length, v, by rw [h2'] at e; exact e.symm, h1, r1⟩
theorem joinL_ok {s : List Nat} (hs : okS s) : ∀ {ls : List (List Nat)}, (∀ l ∈ ls, okS l) → okS (joinL s ls)
  | [], _ => fun _ h => nomatch h
  | [p], h => h p (List.mem_singleton.mpr rfl)
  | p :: q :: r, h => (h p List.mem_cons_self).app (hs.app (joinL_ok hs fun l hl => h l (List.mem_cons_of_mem _ hl)))
theorem join_toS (s : List Nat) (ls : List (List Nat)) : Txt.join (toS s) (ls.map toS) = toS (joinL s ls) := by
  apply ext_tl
  rw [join_eq, tl_join, tl_toS, tl_toS, List.map_map]
  have e : (tl ∘ toS) = id := rfl
  rw [e, List.map_id]
theorem findL_none (c : Nat) : ∀ (l : List Nat) (k : Nat), (∀ d ∈ l, d ≠ c) → findL c k l = -1
  | [], _, _ => rfl
  | d :: r, k, h => by
    unfold findL
    rw [if_neg (h d List.mem_cons_self), findL_none c r _ fun e he => h e (List.mem_cons_of_mem _ he)]
theorem findL_some (c : Nat) : ∀ (l : List Nat) (k j : Nat), l[j]? = some c → (∀ i, i < j → l[i]? ≠ some c) → findL c k l = ((k + j : Nat) : Int)
  | [], _, _, h, _ => by simp at h
  | d :: r, k, 0, h, _ => by
    simp at h
    unfold findL
    rw [if_pos h] <;> simp
  | d :: r, k, j + 1, h, hn => by
    unfold findL
    have hd : d ≠ c := fun e => hn 0 (by omega) (by simp [e])
    rw [if_neg hd, findL_some c r (k + 1) j (by simpa using h) fun i hi => by
      have := hn (i + 1) (by omega)
      simpa using this]
    omega
theorem getD_toS (l : List Nat) (v : Nat) (hv : v < l.length) : (toS l).cps.getD v 0 = l[v] := by
  show (Array.mk l).getD v 0 = l[v]
  simp [Array.getD, hv]
theorem find_toS (l : List Nat) (c : Nat) {k : Int} (h0 : 0 ≤ k) (h1 : k.toNat ≤ l.length) : Txt.find3 (toS l) (toS [c]) k = findL c k.toNat (l.drop k.toNat) := by
  have hf : PySem.fromIndex (toS l).length k = k.toNat := by
    rw [len_toS]
    unfold PySem.fromIndex
    split <;> omega
  rcases PySem.StrLaws.find3_spec (toS l) c k with ⟨e, hn⟩ | ⟨j, e, h2, h3, h4, hn⟩
  · rw [show toS [c] = ⟨#[c]⟩ from rfl, e, findL_none]
    intro d hd he
    obtain ⟨i, hi⟩ := List.mem_iff_getElem?.mp hd
    rw [List.getElem?_drop] at hi
    have hl : k.toNat + i < l.length := (List.getElem?_eq_some_iff.mp hi).1
    refine hn (k.toNat + i) (by rw [hf]; omega) (by rw [len_toS]; exact hl) ?_
    rw [getD_toS _ _ hl, ← he]
    rw [List.getElem?_eq_getElem hl] at hi
    exact Option.some.inj hi
  · rw [show toS [c] = ⟨#[c]⟩ from rfl, e]
    rw [hf] at h2 hn
    rw [len_toS] at h3
    rw [getD_toS _ _ h3] at h4
    rw [findL_some c _ _ (j - k.toNat)]
    · omega
    · rw [List.getElem?_drop, show k.toNat + (j - k.toNat) = j by omega, List.getElem?_eq_getElem h3, h4]
    · intro i hi he
      rw [List.getElem?_drop] at he
      have hl : k.toNat + i < l.length := (List.getElem?_eq_some_iff.mp he).1
      refine hn (k.toNat + i) (by omega) (by omega) ?_
      rw [getD_toS _ _ hl]
      rw [List.getElem?_eq_getElem hl] at he
      exact Option.some.inj he
theorem zfill_toS {l : List Nat} (h : isFigs l = true) {k : Int} (h0 : 0 ≤ k) : Txt.zfill (toS l) k = toS (List.replicate (k.toNat - l.length) 48 ++ l) := by
  obtain ⟨a1, a2⟩ := isFigs_all h
  unfold Txt.zfill
  rw [len_toS]
  split
  · rename_i hk
    rw [show k.toNat - l.length = 0 by omega] <;> rfl
  · apply ext_tl
    cases l with
    | nil => exact absurd rfl a2
    | cons c r =>
      have hc := a1.head
      have e : PySem.zfilled (toS (c :: r)) (k.toNat - (c :: r).length) = PySem.Builtin.Str.padded (toS (c :: r)) (k.toNat - (c :: r).length) 0 48 := by
        unfold PySem.zfilled
        have e0 : (toS (c :: r)).cps[0]? = some c := rfl
        rw [e0]
        split
        · rename_i q; cases q; omega
        · rename_i q; cases q; omega
        · rfl
      rw [e, tl_toS]
      unfold PySem.Builtin.Str.padded
      simp [tl, toS]
theorem okS.zeros {l : List Nat} (h : okS l) (n : Nat) : okS (List.replicate n 48 ++ l) := okS.app (fun c hc => by rw [(List.mem_replicate.mp hc).2]; decide) h
theorem itemsD_ref {τ : Sto} {a : Addr} {ds : List D} (h : itemsD τ (.ref a) = some ds) : τ a = some (.lst ds) := by
  have h' : (match τ a with | some (O.lst xs) => some xs | _ => none) = some ds := h
  split at h'
  · rename_i q; cases h'; exact q
  · cases h'
theorem bmt_ok {m : Bmt} {x : D} {v : V} {ds : List D} {vs : List V} (hK : X.K = G.K) (h : wpBmt m x ds τ Qd) (rx : RelD G H x v) (r : RelDs G H ds vs) (ha : Abs G τ H) (hQ : CvQ G H Qd Q) :
    AnyMt X (bmtT m ++ "." ++ (bmtN m).toString) v vs H Q := by
  cases m with
  | append =>
    show AnyMt X "list.append" v vs H Q
    cases rx with
    | ref a =>
      cases r with
      | nil => exact False.elim h
      | cons r t => cases t with
        | cons _ _ => exact False.elim h
        | nil =>
          obtain ⟨xs, e, h1, h2⟩ := h
          obtain ⟨us, f, ru⟩ := ha.lst e
          exact ⟨_, mt_append, a, us, _, rfl, rfl, f, by rw [← ru.length]; exact h1, hQ.chg ha f h2 (ru.append (.cons r .nil)) .non⟩
    | _ => exact False.elim h
  | pop =>
    show AnyMt X "list.pop" v vs H Q
    cases rx with
    | ref a =>
      cases r with
      | cons _ _ => exact False.elim h
      | nil =>
        obtain ⟨xs, y, e, h1⟩ := h
        obtain ⟨us, f, ru⟩ := ha.lst e
        obtain ⟨ws, w, rfl, r1, r2⟩ := ru.last
        exact ⟨_, mt_pop, a, _, w, rfl, rfl, f, by simp, by rw [List.dropLast_concat]; exact hQ.chg ha f h1 r1 r2⟩
    | _ => exact False.elim h
  | join =>
    show AnyMt X "str.join" v vs H Q
    cases rx with
    | str s ks =>
      cases r with
      | nil => exact False.elim h
      | cons r t => cases t with
        | cons _ _ => exact False.elim h
        | nil =>
          obtain ⟨ds, ls, e1, e2, h1, h2⟩ := h
          have key : ∀ {d0 : D} {v0 : V}, RelD G H d0 v0 → itemsD τ d0 = some ds → ∃ p ws, v0 = V.ref p ∧ (SqL G.K H p ws ∨ SqT G.K H p ws) ∧ RelDs G H ds ws := by
            intro d0 v0 r e1
            cases r with
            | tup s r =>
              cases (show ds = _ from (Option.some.inj e1).symm)
              exact ⟨_, _, rfl, .inr s, r⟩
            | ref a =>
              obtain ⟨us, f, ru⟩ := ha.lst (itemsD_ref e1)
              exact ⟨a, us, rfl, .inl (SqL.of f), ru⟩
            | _ => cases e1
          obtain ⟨p, ws, rfl, hs, rw_⟩ := key r e1
          obtain ⟨rfl, kl⟩ := allStr_rel rw_ e2
          refine ⟨_, mt_join, toS s, p, ls.map toS, rfl, rfl, hK ▸ hs, ?_, ?_⟩
          · rw [List.map_map, List.length_map, len_toS]
            rw [show ((fun x => x.length) ∘ toS) = fun l => List.length l from funext fun l => len_toS l]
            exact h1
          · rw [join_toS]
            exact hQ.here h2 (.str _ (joinL_ok ks kl)) ha
    | _ => exact False.elim h
  | find =>
    show AnyMt X "str.find" v vs H Q
    cases rx with
    | str l kl =>
      cases r with
      | nil => exact False.elim h
      | cons r t => cases t with
        | nil => cases r with
          | str b _ => cases b with
            | nil => exact False.elim h
            | cons _ b => cases b <;> exact False.elim h
          | _ => exact False.elim h
        | cons r2 t => cases t with
          | cons _ _ => cases r with
            | str b _ => cases b with
              | nil => exact False.elim h
              | cons _ b => cases b <;> cases r2 <;> exact False.elim h
            | _ => exact False.elim h
          | nil => cases r with
            | str b _ => cases b with
              | nil => exact False.elim h
              | cons c b => cases b with
                | cons _ _ => exact False.elim h
                | nil => cases r2 with
                  | int k =>
                    obtain ⟨h0, h1, h2⟩ := h
                    exact ⟨_, mt_find3, toS l, toS [c], k, rfl, rfl, by rw [find_toS l c h0 h1]; exact hQ.here h2 (.int _) ha⟩
                  | _ => exact False.elim h
            | _ => exact False.elim h
    | _ => exact False.elim h
  | zfill =>
    show AnyMt X "str.zfill" v vs H Q
    cases rx with
    | str l kl =>
      cases r with
      | nil => exact False.elim h
      | cons r t => cases t with
        | cons _ _ => cases r <;> exact False.elim h
        | nil => cases r with
          | int k =>
            obtain ⟨h1, h2, h3, h4⟩ := h
            refine ⟨_, mt_zfill, toS l, k, rfl, rfl, ?_, by rw [zfill_toS h1 h2]; exact hQ.here h4 (.str _ (kl.zeros _)) ha⟩
            unfold PySem.PadOk PySem.fitsSsize PySem.Builtin.Str.tooLong
            have e1 : decide (k < -(2 ^ 63 : Int)) = false := decide_eq_false (by omega)
            have e2 : decide (k ≥ 2 ^ 63) = false := decide_eq_false (by omega)
            have e3 : decide (k.toNat > sizeLine) = false := decide_eq_false (by have : sizeLine = 16777216 := rfl; omega)
            rw [e1, e2, e3] <;> rfl
          | _ => exact False.elim h
    | _ => exact False.elim h
  | _ => cases rx <;> exact False.elim h
end
end DL
set_option maxHeartbeats 1000000
/-! DL3: expressions -/
namespace DL
open PySem PySem.Spec PyProof.Rows L2 TL

/-! ### the contexts -/
inductive GK where
  | con (d : D) | fn (f : Nat) | cls (c : Nat) | xcs (c : Nat)
/-- what the translation knows: slots, the scope's names, the module's names, names of built-ins that nothing hides -/
structure TC where
  inFn : Bool
  N : List Str
  names : List (Str × NameKind)
  gl : List (Str × GK)
  bl : List Str
def spD (G : Gx) (t : List D → Sto → QD → XD → Prop) : Sp := fun vs H Q E => ∃ ds τ Qd Xd, RelDs G H ds vs ∧ Abs G τ H ∧ t ds τ Qd Xd ∧ CvQ G H Qd Q ∧ CvX G H Xd E
def GOk (G : Gx) (mg : Str → Option Value) (x : Str) : GK → Prop
  | .con d => ∃ u v, mg x = some u ∧ RelV v u ∧ ∀ H, RelD G H d v
  | .fn f => mg x = some (.ref (G.fA f))
  | .cls c => mg x = some (.ref (G.cA c))
  | .xcs c => mg x = some (.ref (G.xA c))
structure FnR (P : Pg) (G : Gx) (n : Nat) (prog : Program) (w : World) (K : PySem.W.Frag) (mg : Str → Option Value) (base : Heap) (f : Nat) (i : FnI) : Prop where
  ok : ∃ fd ps, FnOk prog w K mg base (L2.CX prog w) (n + 20) (G.fA f) fd ps (spD G fun ds τ Q X => ds.length = i.np ∧ runD P n i ds τ Q X) ∧
    ∀ j, j ≤ i.dfl.length → ∃ dsV dvs, Binds K fd ps dsV ∧ Vals dvs dsV ∧ ∀ H, RelDs G H (i.dfl.drop j) dvs
  kp : PySem.W.keepIn K (.ref (G.fA f)) = true
structure Cok (P : Pg) (G : Gx) (n : Nat) (T : TC) (X : Cx) (W : WX) : Prop where
  hN : X.N = T.N
  nd : X.N.Nodup
  hK : X.K = G.K
  sc : X.env.scope.names = T.names
  calm : X.calm = true
  room : Room (n + 20) X.A
  tk : Takes X W
  kind : X.env.scope.kind = .function
  fnl : T.inFn = true → ∀ x, X.fn x = true
  glo : ∀ x g, T.gl.lookup x = some g → GOk G X.mg x g
  blt : ∀ x ∈ T.bl, X.mg x = none
  fok : ∀ f i, P.fns[f]? = some i → FnR P G n X.prog X.w X.K X.mg X.base f i
section
variable {P : Pg} {G : Gx} {n : Nat} {T : TC} {X : Cx} {W : WX}
theorem Cok.hu (c : Cok P G n T X W) : X.A.units + 400 < cLine := by have := c.room.un; omega
/-! ### marks in the text -/
def notStar : Expr → Bool
  | .Starred .. => false
  | _ => true
theorem star_cons {e : Expr} {es : List Expr} {env : Env} (h : notStar e = true) : starEach (e :: es) env = (false, eval e env) :: starEach es env := by
  cases e <;> first | rfl | cases h
theorem star_any {pos : Pos} {env : Env} : ∀ {es : List Expr}, es.all notStar = true → (backTo pos (starEach es env)).any (·.1) = false
  | [], _ => rfl
  | e :: es, h => by
    simp only [List.all_cons, Bool.and_eq_true] at h
    rw [star_cons h.1]
    show (false || (backTo pos (starEach es env)).any (·.1)) = false
    rw [star_any h.2] <;> rfl
/-- a receiver that is no super() -/
def noSup : Expr → Bool
  | .Call (.Name _ _) [] [] _ => false
  | _ => true
theorem base_of {o : Expr} {m : Str} {env : Env} {w : Sem Value} (h : noSup o = true) : attributeBase o m env w = w := by
  unfold attributeBase
  split
  · cases h
  · rfl
/-- a plain test -/
def plainT : Expr → Bool
  | .UnaryOp .Not _ _ => false
  | .BoolOp .. => false
  | .IfExp .. => false
  | .Compare .. => false
  | _ => true
theorem true_of {e : Expr} {env : Env} (h : plainT e = true) (w : Sem Value) : isTrue e env w = (do let v ← w; standAt e.pos; holding [v] (truthy v)) := by
  cases e with
  | UnaryOp o x p => cases o <;> first | rfl | cases h
  | _ => first | rfl | cases h
def noSet : Expr → Bool
  | .Set .. => false
  | _ => true
theorem mark_of {b : Expr} {op : CmpOp} (h : noSet b = true) : behindInMarks op b = false := by
  cases b <;> first | rfl | cases h
theorem fold_of {e : Expr} {env : Env} (h : noSet e = true) (x : Value) : foldedSetIterable e env x = pure x := by
  cases e <;> first | rfl | cases h
def noSl : Expr → Bool
  | .Slice .. => false
  | _ => true
theorem plain_ix {b : Expr} (h : noSl b = true) : PlainIx b := by
  intro o i
  cases b <;> first | rfl | cases h

/-! ### the judgement -/
structure QE (P : Pg) (G : Gx) (n : Nat) (X : Cx) (W : WX) (e : Expr) (e' : E) : Prop where
  v : PE X e (LE G W (wpE P.cls (callD P n) e').v)
  t : PT X e (LT G W (wpE P.cls (callD P n) e').t)
def QA (P : Pg) (G : Gx) (n : Nat) (X : Cx) (W : WX) (es : List Expr) (es' : Es) : Prop := PA X es (LA G W (wpEs P.cls (callD P n) es'))
/-- by its value alone -/
theorem QE.of {e : Expr} {e' : E} {v : Loc → Sto → QD → XD → Prop} (c : Cok P G n T X W) (h : PE X e (LE G W v)) (hp : plainT e = true) (he : wpE P.cls (callD P n) e' = ofV v) : QE P G n X W e e' := by
  refine ⟨by rw [he]; exact h, ?_⟩
  rw [he]
  refine pt_imp (pt_truth h fun w => true_of hp w) fun σ H Q ⟨ρ, τ, Qd, Xd, rl, ab, k, cq, cx⟩ => ?_
  refine ⟨ρ, τ, fun d τ' => wpTru d τ' fun b => Qd b τ', Xd, rl, ab, k, fun d τ' q x H' g rd ab' => ?_, cx⟩
  obtain ⟨b, h1, h2⟩ := tru_of c.hK q rd ab'
  exact ⟨b, h1, cq b τ' h2 H' g ab'⟩
variable {e a b : Expr} {e' a' b' : E} {es : List Expr} {es' : Es} {pos : Pos}
theorem qe_cst {d : D} {v : V} (c : Cok P G n T X W) (h : PE X e (tC v)) (r : ∀ H, RelD G H d v) (hp : plainT e = true) : QE P G n X W e (.cst d) :=
  QE.of c (v := fun _ τ Q _ => Q d τ) (pe_imp h fun σ H Q ⟨ρ, τ, Qd, Xd, rl, ab, k, cq, cx⟩ => cq d τ k v H (Grow.refl H) (r H) ab) hp rfl
theorem qe_var {i : Nat} {x : Str} (c : Cok P G n T X W) (hi : T.N[i]? = some x) (hv : T.names.lookup x = some .local ∨ T.names.lookup x = some .cell ∨ T.names.lookup x = some .free)
    (hd : (x == ("__debug__" : Str)) = false) (hcd : (x == ("__classdict__" : Str)) = false) : QE P G n X W (.Name x pos) (.var i) := by
  refine QE.of c (v := fun ρ τ Q _ => ∃ d, ρ[i]? = some (some d) ∧ Q d τ) (pe_imp (pe_var (i := i) (by rw [c.hN]; exact hi) (by unfold Vis; rw [c.sc]; exact hv) hd hcd) ?_) rfl rfl
  rintro σ H Q ⟨ρ, τ, Qd, Xd, rl, ab, ⟨d, e1, k⟩, cq, cx⟩
  obtain ⟨v, e2, r⟩ := rl.at_ i d e1
  exact ⟨v, e2, cq d τ k v H (Grow.refl H) r ab⟩
/-- two in a row -/
theorem le_two {ta tb : Loc → Sto → QD → XD → Prop} {k : D → D → Sto → QD → Prop} {r : R2} {σ : L2.St} {H : Hp} {Q : VK}
    (hr : ∀ {x y : D} {v u : V} {τ : Sto} {H : Hp} {Qd : QD} {Q : VK}, k x y τ Qd → RelD G H x v → RelD G H y u → Abs G τ H → CvQ G H Qd Q → r v u H Q)
    (h : LE G W (fun ρ τ Q X => ta ρ τ (fun x τ1 => tb ρ τ1 (fun y τ2 => k x y τ2 Q) X) X) σ H Q) : tOp r (LE G W ta) (LE G W tb) σ H Q := by
  obtain ⟨ρ, τ, Qd, Xd, rl, ab, h, cq, cx⟩ := h
  refine ⟨ρ, τ, _, Xd, rl, ab, h, fun x τ1 h1 vx H1 g1 rx ab1 => ?_, cx⟩
  refine ⟨ρ, τ1, _, Xd, rl.mono g1, ab1, h1, fun y τ2 h2 vy H2 g2 ry ab2 => ?_, cx.mono g1⟩
  exact hr h2 (rx.mono g2) ry ab2 (cq.mono (g1.trans g2))
theorem qe_bin {o : Bop} (c : Cok P G n T X W) (ha : QE P G n X W a a') (hb : QE P G n X W b b') : QE P G n X W (.BinOp a (bopO o) b pos) (.bin o a' b') :=
  QE.of c (pe_imp (pe_op (anyOp X _) ha.v hb.v) fun σ H Q h => le_two (fun k rx ry ab cq => bin_ok c.hK k rx ry ab cq) h) rfl rfl
theorem qe_neg (c : Cok P G n T X W) (ha : QE P G n X W a a') : QE P G n X W (.UnaryOp .USub a pos) (.neg a') := by
  refine QE.of c (pe_imp (pe_un un_neg ha.v) ?_) rfl rfl
  rintro σ H Q ⟨ρ, τ, Qd, Xd, rl, ab, h, cq, cx⟩
  refine ⟨ρ, τ, _, Xd, rl, ab, h, ?_, cx⟩
  rintro x τ1 ⟨i, rfl, k⟩ v H1 g r ab1
  cases r
  exact ⟨i, rfl, cq _ _ k _ _ g (.int _) ab1⟩
theorem le_cmp {ta tb : Loc → Sto → QD → XD → Prop} {o : Cop} {σ : L2.St} {H : Hp} {Q : Bool → Hp → Prop} (c : Cok P G n T X W)
    (h : LT G W (fun ρ τ Q X => ta ρ τ (fun x τ1 => tb ρ τ1 (fun y τ2 => wpCmp o x y τ2 fun b => Q b τ2) X) X) σ H Q) : tOp (AnyOp X (compareOp (copO o))) (LE G W ta) (LE G W tb) σ H (fun w H' => ∃ b, w = .bl b ∧ Q b H') := by
  obtain ⟨ρ, τ, Qd, Xd, rl, ab, h, cq, cx⟩ := h
  refine ⟨ρ, τ, _, Xd, rl, ab, h, fun x τ1 h1 vx H1 g1 rx ab1 => ?_, cx⟩
  refine ⟨ρ, τ1, _, Xd, rl.mono g1, ab1, h1, fun y τ2 h2 vy H2 g2 ry ab2 => ?_, cx.mono g1⟩
  exact cmp_ok c.hK c.hu h2 (rx.mono g2) ry ab2 (cq.mono (g1.trans g2))
/-- the value of a test -/
theorem le_of_lt {t : Loc → Sto → (Bool → Sto → Prop) → XD → Prop} {σ : L2.St} {H : Hp} {Q : VK} (h : LE G W (fun ρ τ Q X => t ρ τ (fun b τ' => Q (.bl b) τ') X) σ H Q) : LT G W t σ H fun b H' => Q (.bl b) H' := by
  obtain ⟨ρ, τ, Qd, Xd, rl, ab, h, cq, cx⟩ := h
  exact ⟨ρ, τ, _, Xd, rl, ab, h, fun b τ1 h1 H1 g1 ab1 => cq _ _ h1 _ _ g1 (.bl b) ab1, cx⟩
theorem AnyOp.out {f : Value → Value → Sem Value} {x y : V} {H : Hp} {Q Q' : VK} (h : AnyOp X f x y H Q) (m : ∀ r, OpR X f r → r x y H Q → r x y H Q') : AnyOp X f x y H Q' := by
  obtain ⟨r, hr, q⟩ := h
  exact ⟨r, hr, m r hr q⟩
/-- a comparison that is wished to be a truth value -/
def AnyCmp (X : Cx) (f : Value → Value → Sem Value) : R2 := fun x y H Q => ∃ Q' : Bool → Hp → Prop, AnyOp X f x y H (fun w H' => ∃ b, w = .bl b ∧ Q' b H') ∧ ∀ b H', Q' b H' → Q (.bl b) H'
theorem anyCmp (X : Cx) (f : Value → Value → Sem Value) : OpR X f (AnyCmp X f) := fun pins s σ H x y v u Q I rx ry ⟨Q', h, k⟩ =>
  thn (anyOp X f pins s σ H x y v u _ I rx ry h) fun w s' ⟨z, H', I', r', b, e, q⟩ => ⟨z, H', I', r', by rw [e]; exact k b H' q⟩
theorem qe_cmp {o : Cop} (c : Cok P G n T X W) (ha : QE P G n X W a a') (hb : QE P G n X W b b') (hm : noSet b = true) : QE P G n X W (.Compare a [copO o] [b] pos) (.cmp o a' b') := by
  refine ⟨pe_imp (pe_cmpR (anyCmp X _) ha.v hb.v (mark_of hm)) ?_, pt_imp (pt_cmpR (anyOp X _) ha.v hb.v (mark_of hm)) fun σ H Q h => le_cmp c h⟩
  rintro σ H Q ⟨ρ, τ, Qd, Xd, rl, ab, h, cq, cx⟩
  refine ⟨ρ, τ, _, Xd, rl, ab, h, fun x τ1 h1 vx H1 g1 rx ab1 => ?_, cx⟩
  refine ⟨ρ, τ1, _, Xd, rl.mono g1, ab1, h1, fun y τ2 h2 vy H2 g2 ry ab2 => ?_, cx.mono g1⟩
  refine ⟨fun b H' => ∃ τ', Qd (.bl b) τ' ∧ Grow H H' ∧ Abs G τ' H', cmp_ok (Qb := fun b τ' => Qd (.bl b) τ') c.hK c.hu h2 (rx.mono g2) ry ab2 fun b τ' q H' g' ab' => ⟨τ', q, g1.trans (g2.trans g'), ab'⟩, ?_⟩
  rintro b H' ⟨τ', q, g', ab'⟩
  exact cq _ _ q _ _ g' (.bl b) ab'
theorem qe_not (c : Cok P G n T X W) (ha : QE P G n X W a a') : QE P G n X W (.UnaryOp .Not a pos) (.not a') := by
  refine ⟨pe_imp (pe_not ha.v) ?_, pt_imp (pt_not ha.t) ?_⟩
  · rintro σ H Q ⟨ρ, τ, Qd, Xd, rl, ab, h, cq, cx⟩
    refine ⟨ρ, τ, _, Xd, rl, ab, h, ?_, cx⟩
    rintro x τ1 ⟨k, rfl, q⟩ v H1 g r ab1
    cases r
    exact ⟨k, rfl, cq _ _ q _ _ g (.bl _) ab1⟩
  · rintro σ H Q ⟨ρ, τ, Qd, Xd, rl, ab, h, cq, cx⟩
    exact ⟨ρ, τ, _, Xd, rl, ab, h, fun b τ1 q H1 g ab1 => cq _ _ q _ g ab1, cx⟩
/-- a chain of and, of or -/
structure QB (P : Pg) (G : Gx) (n : Nat) (X : Cx) (W : WX) (op : BoolOp) (es : List Expr) (pos : Pos) (e' : E) : Prop where
  v : PE X (.BoolOp op es pos) (LE G W (wpE P.cls (callD P n) e').v)
  t : PW X (.BoolOp op es pos) (LT G W (wpE P.cls (callD P n) e').t)
theorem qb_oneA (ha : QE P G n X W a a') : QB P G n X W .And [a] pos a' := ⟨pe_one ha.v, pw_and1 ha.t⟩
theorem qb_oneO (ha : QE P G n X W a a') : QB P G n X W .Or [a] pos a' := ⟨pe_one ha.v, pw_or1 ha.t⟩
theorem qb_and (ha : QE P G n X W a a') (hb : QB P G n X W .And (b :: es) pos b') : QB P G n X W .And (a :: b :: es) pos (.and a' b') := by
  refine ⟨pe_imp (pe_and ha.v hb.v) ?_, pw_imp (pw_and ha.t hb.t) ?_⟩
  · rintro σ H Q ⟨ρ, τ, Qd, Xd, rl, ab, h, cq, cx⟩
    refine ⟨ρ, τ, _, Xd, rl, ab, h, ?_, cx⟩
    rintro x τ1 ⟨k, rfl, q⟩ v H1 g r ab1
    cases r
    refine ⟨k, rfl, ?_⟩
    cases k with
    | true =>
      rw [if_pos rfl] at q ⊢
      exact ⟨ρ, τ1, _, Xd, rl.mono g, ab1, q, cq.mono g, cx.mono g⟩
    | false =>
      rw [if_neg Bool.false_ne_true] at q ⊢
      exact cq _ _ q _ _ g (.bl _) ab1
  · rintro σ H Q ⟨ρ, τ, Qd, Xd, rl, ab, h, cq, cx⟩
    refine ⟨ρ, τ, _, Xd, rl, ab, h, fun k τ1 q H1 g ab1 => ?_, cx⟩
    cases k with
    | true =>
      rw [if_pos rfl] at q ⊢
      exact ⟨ρ, τ1, _, Xd, rl.mono g, ab1, q, cq.mono g, cx.mono g⟩
    | false =>
      rw [if_neg Bool.false_ne_true] at q ⊢
      exact cq _ _ q _ g ab1
theorem qb_or (ha : QE P G n X W a a') (hb : QB P G n X W .Or (b :: es) pos b') : QB P G n X W .Or (a :: b :: es) pos (.or a' b') := by
  refine ⟨pe_imp (pe_or ha.v hb.v) ?_, pw_imp (pw_or ha.t hb.t) ?_⟩
  · rintro σ H Q ⟨ρ, τ, Qd, Xd, rl, ab, h, cq, cx⟩
    refine ⟨ρ, τ, _, Xd, rl, ab, h, ?_, cx⟩
    rintro x τ1 ⟨k, rfl, q⟩ v H1 g r ab1
    cases r
    refine ⟨k, rfl, ?_⟩
    cases k with
    | false =>
      rw [if_neg Bool.false_ne_true] at q ⊢
      exact ⟨ρ, τ1, _, Xd, rl.mono g, ab1, q, cq.mono g, cx.mono g⟩
    | true =>
      rw [if_pos rfl] at q ⊢
      exact cq _ _ q _ _ g (.bl _) ab1
  · rintro σ H Q ⟨ρ, τ, Qd, Xd, rl, ab, h, cq, cx⟩
    refine ⟨ρ, τ, _, Xd, rl, ab, h, fun k τ1 q H1 g ab1 => ?_, cx⟩
    cases k with
    | false =>
      rw [if_neg Bool.false_ne_true] at q ⊢
      exact ⟨ρ, τ1, _, Xd, rl.mono g, ab1, q, cq.mono g, cx.mono g⟩
    | true =>
      rw [if_pos rfl] at q ⊢
      exact cq _ _ q _ g ab1
theorem QB.qe {op : BoolOp} (h : QB P G n X W op es pos e') : QE P G n X W (.BoolOp op es pos) e' := ⟨h.v, h.t.pt⟩
theorem qe_ifx {t : Expr} {t' : E} (c : Cok P G n T X W) (ht : QE P G n X W t t') (ha : QE P G n X W a a') (hb : QE P G n X W b b') : PE X (.IfExp t a b pos) (LE G W (wpE P.cls (callD P n) (.ifx t' a' b')).v) := by
  refine pe_imp (pe_ifExp ht.t ha.v hb.v) ?_
  rintro σ H Q ⟨ρ, τ, Qd, Xd, rl, ab, h, cq, cx⟩
  refine ⟨ρ, τ, _, Xd, rl, ab, h, fun k τ1 q H1 g ab1 => ?_, cx⟩
  cases k with
  | true =>
    rw [if_pos rfl] at q ⊢
    exact ⟨ρ, τ1, _, Xd, rl.mono g, ab1, q, cq.mono g, cx.mono g⟩
  | false =>
    rw [if_neg Bool.false_ne_true] at q ⊢
    exact ⟨ρ, τ1, _, Xd, rl.mono g, ab1, q, cq.mono g, cx.mono g⟩
/-! ### rows of expressions -/
theorem qa_nil : QA P G n X W [] .nil := pa_imp pa_nil fun σ H Q ⟨ρ, τ, Qd, Xd, rl, ab, h, cq, cx⟩ => cq _ _ h _ _ (Grow.refl H) .nil ab
theorem qa_cons (ha : QE P G n X W a a') (hs : notStar a = true) (hr : QA P G n X W es es') : QA P G n X W (a :: es) (.cons a' es') := by
  refine pa_imp (pa_cons ha.v hr (star_cons hs)) ?_
  rintro σ H Q ⟨ρ, τ, Qd, Xd, rl, ab, h, cq, cx⟩
  refine ⟨ρ, τ, _, Xd, rl, ab, h, fun x τ1 h1 vx H1 g1 rx ab1 => ?_, cx⟩
  exact ⟨ρ, τ1, _, Xd, rl.mono g1, ab1, h1, fun ds τ2 h2 vs H2 g2 rs ab2 => cq _ _ h2 _ _ (g1.trans g2) (.cons (rx.mono g2) rs) ab2, cx.mono g1⟩
theorem qe_tup {k : Nat} (c : Cok P G n T X W) (h : QA P G n X W es es') : QE P G n X W (.Tuple es k pos) (.tup es') := by
  refine QE.of c (pe_imp (pe_tup h) ?_) rfl rfl
  rintro σ H Q ⟨ρ, τ, Qd, Xd, rl, ab, h, cq, cx⟩
  refine ⟨ρ, τ, _, Xd, rl, ab, h, fun ds τ1 h1 vs H1 g1 rs ab1 => ⟨by rw [← rs.length]; exact h1.1, fun p hp => ?_⟩, cx⟩
  exact (cq.mono g1).tup ab1 h1.2 rs hp
theorem qe_lst (c : Cok P G n T X W) (h : QA P G n X W es es') : QE P G n X W (.List es pos) (.lst es') := by
  refine QE.of c (pe_imp (pe_lst h) ?_) rfl rfl
  rintro σ H Q ⟨ρ, τ, Qd, Xd, rl, ab, h, cq, cx⟩
  refine ⟨ρ, τ, _, Xd, rl, ab, h, fun ds τ1 h1 vs H1 g1 rs ab1 => ⟨by rw [← rs.length]; exact h1.1, fun p hp => ?_⟩, cx⟩
  exact (cq.mono g1).fresh ab1 h1.2 (fun H' g => .lst (rs.mono g)) hp
theorem qe_idx (c : Cok P G n T X W) (ha : QE P G n X W a a') (hb : QE P G n X W b b') (hs : noSl b = true) : QE P G n X W (.Subscript a b pos) (.idx a' b') :=
  QE.of c (pe_imp (pe_ix (anyIx X) ha.v hb.v (plain_ix hs)) fun σ H Q h => le_two (fun k rx ry ab cq => idx_ok c.hK k rx ry ab cq) h) rfl rfl
/-- a part of a slice -/
def QO (P : Pg) (G : Gx) (n : Nat) (X : Cx) (W : WX) (e : Option Expr) (b : Bool) (e' : E) : Prop :=
  PO X e fun σ H Q => ∃ ρ τ Qd Xd, RelL G H ρ σ ∧ Abs G τ H ∧ (wpE P.cls (callD P n) e').v ρ τ Qd Xd ∧ (∀ d τ', Qd d τ' → ∃ o, partD b d = some o ∧ ∀ H', Grow H H' → Abs G τ' H' → Q o H') ∧ CvX G H Xd fun c d H' => W c d σ H'
theorem po_imp {o : Option Expr} {t t' : TO} (h : PO X o t) (q : ∀ σ H Q, t' σ H Q → t σ H Q) : PO X o t' := ⟨fun pins s σ H Q I k => h.run pins s σ H Q I (q σ H Q k)⟩
theorem qo_none : QO P G n X W none false (.cst .non) := by
  refine po_imp po_none ?_
  rintro σ H Q ⟨ρ, τ, Qd, Xd, rl, ab, h, cq, cx⟩
  obtain ⟨o, e1, q⟩ := cq _ _ h
  cases e1
  exact q _ (Grow.refl H) ab
theorem qo_some (ha : QE P G n X W a a') : QO P G n X W (some a) true a' := by
  refine po_imp (po_some ha.v) ?_
  rintro σ H Q ⟨ρ, τ, Qd, Xd, rl, ab, h, cq, cx⟩
  refine ⟨ρ, τ, _, Xd, rl, ab, h, fun d τ1 h1 v H1 g r ab1 => ?_, cx⟩
  obtain ⟨o, e1, q⟩ := cq _ _ h1
  cases r with
  | int i =>
    cases e1
    exact ⟨i, rfl, q _ g ab1⟩
  | _ => cases e1
theorem qe_slc {lo hi : Option Expr} {lo' hi' : E} {bl bh : Bool} {p2 : Pos} (c : Cok P G n T X W) (ha : QE P G n X W a a') (hl : QO P G n X W lo bl lo') (hh : QO P G n X W hi bh hi') :
    QE P G n X W (.Subscript a (.Slice lo hi none p2) pos) (.slc bl bh a' lo' hi') := by
  refine QE.of c (pe_imp (pe_slice (anySl X) ha.v hl hh) ?_) rfl rfl
  rintro σ H Q ⟨ρ, τ, Qd, Xd, rl, ab, h, cq, cx⟩
  refine ⟨ρ, τ, _, Xd, rl, ab, h, fun x τ1 h1 vx H1 g1 rx ab1 => ?_, cx⟩
  refine ⟨ρ, τ1, _, Xd, rl.mono g1, ab1, h1, ?_, cx.mono g1⟩
  rintro y τ2 ⟨l, e1, h2⟩
  refine ⟨l, e1, fun H2 g2 ab2 => ?_⟩
  refine ⟨ρ, τ2, _, Xd, rl.mono (g1.trans g2), ab2, h2, ?_, cx.mono (g1.trans g2)⟩
  rintro z τ3 ⟨u, e2, h3⟩
  refine ⟨u, e2, fun H3 g3 ab3 => ?_⟩
  exact slc_ok c.hK h3 (rx.mono (g2.trans g3)) ab3 (cq.mono ((g1.trans g2).trans g3))
/-- xs[::-1] -/
theorem qe_rev {k : Nat} {p1 p2 p3 : Pos} (c : Cok P G n T X W) (ha : QE P G n X W a a') : QE P G n X W (.Subscript a (.Slice none none (some (.UnaryOp .USub (.Constant (.int 1) k p1) p2)) p3) pos) (.rev a') := by
  refine QE.of c (pe_imp (pe_revL ha.v) ?_) rfl rfl
  rintro σ H Q ⟨ρ, τ, Qd, Xd, rl, ab, h, cq, cx⟩
  refine ⟨ρ, τ, _, Xd, rl, ab, h, fun x τ1 h1 vx H1 g1 rx ab1 => ?_, cx⟩
  cases rx with
  | ref p =>
    obtain ⟨xs, e, h1⟩ := h1
    obtain ⟨vs, f, r⟩ := ab1.lst e
    exact ⟨p, vs, rfl, SqL.of f, fun q hq => (cq.mono g1).fresh ab1 h1 (fun H' g => .lst (r.rev.mono g)) hq⟩
  | _ => exact False.elim h1
/-! ### calls -/
theorem callX (c : Cok P G n T X W) {f : Nat} {pins : List (Addr × Obj)} {s : Shared} {σ : L2.St} {H : Hp} {us : List Value} {vs : List V} {Q : VK} {ds : List D} {τ : Sto} {Qd : QD} {Xd : XD} (I : Inv X pins σ H s) (r : Vals vs us) (rd : RelDs G H ds vs) (ab : Abs G τ H)
    (h : callD P n f ds τ Qd Xd) (cq : CvQ G H Qd Q) (cx : CvX G H Xd fun k d H' => W k d σ H') : wpAny (model X.prog X.w) X.A (call (.ref (G.fA f)) us) (EP X pins σ Q) X.xe s := by
  obtain ⟨i, e, hl, h⟩ := h
  obtain ⟨⟨fd, ps, F, bd⟩, kp⟩ := c.fok f i e
  by_cases hz : ds.length + i.dfl.length - i.np ≤ i.dfl.length
  · obtain ⟨dsV, dvs, hb, hd, rr⟩ := bd _ hz
    have hx : ∀ (pins : List (Addr × Obj)) (σ' : L2.St) (H' : Hp) (s : Shared) (e : Value) (s' : Shared), Inv X pins σ' H' s → L2.CX X.prog X.w X.stack H' s (fun k d H' => W k d σ H') e s' → True := fun _ _ _ _ _ _ _ _ => trivial
    have r2 : Vals (vs ++ dvs) (us ++ dsV) := r.append hd
    have hsp : spD G (fun ds τ Q X => ds.length = i.np ∧ runD P n i ds τ Q X) (vs ++ dvs) H Q (fun k d H' => W k d σ H') := ⟨fill i ds, τ, Qd, Xd, rd.append (rr H), ab, ⟨hl, h⟩, cq, cx⟩
    have hl2 : (us ++ dsV).length = ps.length := by rw [← r2.length]; exact F.len _ _ _ _ hsp
    refine wpAny_call (codeAny_mono (F.run X.A X.stack s H ⟨us, []⟩ (us ++ dsV) (vs ++ dvs) Q _ c.room I.env0 (hb s us I.kIn hl2) r2 hsp) fun r s' hq => ?_)
    cases r with
    | error e => exact c.tk e s' (XE.of_call I (fun _ _ _ h => h) hq)
    | ok fl =>
      cases fl with
      | ret u => exact I.after hq
      | next => exact False.elim hq
      | brk => exact False.elim hq
      | cont => exact False.elim hq
  · have := hl
    unfold fill at this
    rw [List.length_append, List.length_drop] at this
    omega
/-- f(e, ..), f a def of the module -/
theorem qe_call {x : Str} {p : Pos} {f : Nat} (c : Cok P G n T X W) (hg : T.names.lookup x = some .globalImplicit) (hm : T.gl.lookup x = some (.fn f)) (hf : ∃ i, P.fns[f]? = some i) (h : QA P G n X W (a :: es) es') (hs : notStar a = true) (hes : es.all notStar = true)
    (hd : (x == ("__debug__" : Str)) = false) : QE P G n X W (.Call (.Name x p) (a :: es) [] pos) (.call f es') := by
  refine QE.of c ⟨fun pins s σ H Q I k => ?_⟩ rfl rfl
  obtain ⟨i, hi⟩ := hf
  have hmg : X.mg x = some (.ref (G.fA f)) := c.glo x _ hm
  refine wpAny_Call_Name_kw (ld_glob I (show Gl X x by unfold Gl Env.kindOf; rw [c.sc]; exact hg) hmg ?_ hd)
  refine PySem.W.callWith_K (h₀ := X.base) I.ok.mod.kin (c.fok f i hi).kp ?_ (star_cons hs) (star_any hes)
  obtain ⟨ρ, τ, Qd, Xd, rl, ab, h1, cq, cx⟩ := k
  refine thn (h.run pos pins s σ H (fun vs H1 => ∃ ds τ1, RelDs G H1 ds vs ∧ Abs G τ1 H1 ∧ callD P n f ds τ1 Qd Xd ∧ CvQ G H1 Qd Q ∧ CvX G H1 Xd fun k d H' => W k d σ H') I ⟨ρ, τ, _, Xd, rl, ab, h1, fun ds τ1 q vs H1 g rs ab1 => ⟨ds, τ1, rs, ab1, q, cq.mono g, cx.mono g⟩, cx⟩) fun us s1 ⟨vs, H1, I1, r, ds, τ1, rs, ab1, q, cq1, cx1⟩ => ⟨I1.kIn, ?_⟩
  exact callX c I1 r rs ab1 q cq1 cx1
theorem qe_call0 {x : Str} {p : Pos} {f : Nat} (c : Cok P G n T X W) (hg : T.names.lookup x = some .globalImplicit) (hm : T.gl.lookup x = some (.fn f)) (hf : ∃ i, P.fns[f]? = some i) (hd : (x == ("__debug__" : Str)) = false) : QE P G n X W (.Call (.Name x p) [] [] pos) (.call f .nil) := by
  refine QE.of c ⟨fun pins s σ H Q I k => ?_⟩ rfl rfl
  obtain ⟨i, hi⟩ := hf
  have hmg : X.mg x = some (.ref (G.fA f)) := c.glo x _ hm
  refine wpAny_Call_Name_kw (ld_glob I (show Gl X x by unfold Gl Env.kindOf; rw [c.sc]; exact hg) hmg ?_ hd)
  obtain ⟨ρ, τ, Qd, Xd, rl, ab, h1, cq, cx⟩ := k
  exact PySem.W.callWith_K0 I.kIn (c.fok f i hi).kp (callX (us := []) c I .nil .nil ab h1 cq cx)
/-- a built-in function, a built-in class -/
theorem le_blt {b : Blt} {ta : TA} {xt : List V} (c : Cok P G n T X W) (hxt : xt = bltT b) {t : Loc → Sto → (List D → Sto → Prop) → XD → Prop} {σ : L2.St} {H : Hp} {Q : VK} (hta : ∀ σ H Q, LA G W t σ H (fun vs H' => Q (vs ++ xt) H') → ta σ H Q)
    (h : LE G W (fun ρ τ Q X => t ρ τ (fun ds τ1 => wpBlt b ds τ1 Q) X) σ H Q) : tCB (AnyCl X (bltV b)) ta σ H Q := by
  obtain ⟨ρ, τ, Qd, Xd, rl, ab, h, cq, cx⟩ := h
  refine hta _ _ _ ⟨ρ, τ, _, Xd, rl, ab, h, fun ds τ1 h1 vs H1 g1 rs ab1 => ?_, cx⟩
  subst hxt
  exact blt_ok c.calm c.hK h1 rs ab1 (cq.mono g1)
theorem qe_bltF {x : Str} {p : Pos} {b : Blt} {id : String} (c : Cok P G n T X W) (hg : T.names.lookup x = some .globalImplicit) (hm : x ∈ T.bl) (hv : bootBuiltins x = some (.builtin id)) (hid : bltV b = .builtin id) (hT : bltT b = []) (h : QA P G n X W (a :: es) es')
    (hs : notStar a = true) (hes : es.all notStar = true) (hn : x ≠ "__name__") (hd : (x == ("__debug__" : Str)) = false) : QE P G n X W (.Call (.Name x p) (a :: es) [] pos) (.blt b es') := by
  refine QE.of c (pe_imp (pe_callB (r := AnyCl X (bltV b)) (by rw [hid]; exact anyCl X _) (show Gl X x by unfold Gl Env.kindOf; rw [c.sc]; exact hg) (c.blt x hm) hv h hn hd (star_cons hs) (star_any hes)) ?_) rfl rfl
  intro σ H Q k
  refine le_blt (xt := []) c hT.symm (fun σ H Q q => ?_) k
  simpa using q
theorem qe_bltC {x : Str} {p : Pos} {b : Blt} {id : String} (c : Cok P G n T X W) (hg : T.names.lookup x = some .globalImplicit) (hm : x ∈ T.bl) (hv : bootBuiltins x = some (.type id)) (hid : bltV b = .type id) (hT : bltT b = []) (h : QA P G n X W (a :: es) es')
    (hs : notStar a = true) (hes : es.all notStar = true) (hn : x ≠ "__name__") (hd : (x == ("__debug__" : Str)) = false) : QE P G n X W (.Call (.Name x p) (a :: es) [] pos) (.blt b es') := by
  refine QE.of c (pe_imp (pe_callTy (r := AnyCl X (bltV b)) (by rw [hid]; exact anyCl X _) (show Gl X x by unfold Gl Env.kindOf; rw [c.sc]; exact hg) (c.blt x hm) hv h hn hd (star_cons hs) (star_any hes)) ?_) rfl rfl
  intro σ H Q k
  refine le_blt (xt := []) c hT.symm (fun σ H Q q => ?_) k
  simpa using q
/-- isinstance(e, T), T a built-in class -/
theorem qe_isi {y : Str} {p p2 : Pos} {b : Blt} {N : String} (c : Cok P G n T X W) (hg : T.names.lookup ("isinstance" : Str) = some .globalImplicit) (hm : ("isinstance" : Str) ∈ T.bl) (hgy : T.names.lookup y = some .globalImplicit) (hmy : y ∈ T.bl) (hv : bootBuiltins y = some (.type N))
    (hid : bltV b = .builtin "isinstance") (hT : bltT b = [.ty N]) (ha : QE P G n X W a a') (hs : notStar a = true) (hn : y ≠ "__name__") (hd : (y == ("__debug__" : Str)) = false) : QE P G n X W (.Call (.Name "isinstance" p) [a, .Name y p2] [] pos) (.blt b (.cons a' .nil)) := by
  have hgl : ∀ x : Str, T.names.lookup x = some .globalImplicit → Gl X x := fun x h => by unfold Gl Env.kindOf; rw [c.sc]; exact h
  have pt : PE X (.Name y p2) (tC (.ty N)) := pe_bltn (hgl y hgy) (c.blt y hmy) hv rfl hn hd
  have hA : PA X [a, .Name y p2] (tCons (LE G W (wpE P.cls (callD P n) a').v) (tCons (tC (.ty N)) tNil)) := pa_cons ha.v (pa_cons pt pa_nil (star_cons rfl)) (star_cons hs)
  refine QE.of c (pe_imp (pe_callB (r := AnyCl X (bltV b)) (by rw [hid]; exact anyCl X _) (hgl _ hg) (c.blt _ hm) (by decide +kernel) hA (by decide) (by decide) (star_cons hs) (star_any rfl)) ?_) rfl rfl
  intro σ H Q k
  refine le_blt (xt := [.ty N]) c hT.symm (fun σ H Q q => ?_) k
  obtain ⟨ρ, τ, Qd, Xd, rl, ab, h, cq, cx⟩ := q
  refine ⟨ρ, τ, _, Xd, rl, ab, h, fun x τ1 h1 vx H1 g1 rx ab1 => ?_, cx⟩
  exact cq _ _ h1 _ _ g1 (.cons rx .nil) ab1
/-! ### methods of built-in types -/
theorem tyB_of {m : Bmt} {x : D} {v : V} {τ : Sto} {H : Hp} (c : Cok P G n T X W) (h : tyB m x τ) (h1 : m.onStr = true → bmtT m = "str") (h2 : m.onStr = false → bmtT m = "list") (r : RelD G H x v) (ab : Abs G τ H) : tyV X.K (bmtT m) v H := by
  cases r with
  | str l _ => exact h1 h
  | ref a =>
    obtain ⟨hm, xs, e⟩ := h
    obtain ⟨vs, f, _⟩ := ab.lst e
    exact .inl ⟨h2 hm, vs, SqL.of f⟩
  | _ => exact False.elim h
structure BmtK (m : Bmt) (id : String) : Prop where
  pa : PlainAttrs (bmtT m)
  slot : Slot (bmtT m) (bmtN m) id
  ty : typeOf (.builtin id) = pure (.type "method_descriptor")
  id : bmtT m ++ "." ++ (bmtN m).toString = id
  h1 : m.onStr = true → bmtT m = "str"
  h2 : m.onStr = false → bmtT m = "list"
theorem few_of {env : Env} {cpos : Pos} {es : List Expr} (h : es.all notStar = true) (hl : es.length < 20) : ((backTo cpos (starEach es env)).all (fun x => !x.1) && (backToKw cpos (keywordEach [] env)).all (fun x => x.1.isSome)
      && decide (es.length + ([] : List Keyword).length + (if ([] : List Keyword).isEmpty then 0 else 1) < 30)) = true := by
  have h1 : (backTo cpos (starEach es env)).all (fun x => !x.1) = true := by
    have := star_any (pos := cpos) (env := env) h
    rw [List.any_eq_false] at this
    rw [List.all_eq_true]
    intro x hx
    have := this x hx
    simpa using this
  rw [h1]
  have h2 : decide (es.length + ([] : List Keyword).length + (if ([] : List Keyword).isEmpty then 0 else 1) < 30) = true := decide_eq_true (by simp; omega)
  rw [h2] <;> rfl

theorem qe_bmt {o : Expr} {o' : E} {m : Bmt} {id : String} {apos cpos : Pos} (c : Cok P G n T X W) (k : BmtK m id) (ho : QE P G n X W o o') (hso : noSup o = true) (h : QA P G n X W (a :: es) es') (hs : notStar a = true) (hes : es.all notStar = true)
    (hfew : (a :: es).length < 20) (hl : (apos.endLine == cpos.line) = true) : QE P G n X W (.Call (.Attribute o (bmtN m) apos) (a :: es) [] cpos) (.bmt o' m es') := by
  have hall : (a :: es).all notStar = true := by rw [List.all_cons, hs, hes] <;> rfl
  refine QE.of c (pe_imp (pe_bm (T := bmtT m) (id := id) (r := AnyMt X id) k.pa k.slot k.ty (anyMt X id) ho.v h (base_of hso) (few_of hall hfew) hl (star_cons hs) (star_any hes)) ?_) rfl rfl
  rintro σ H Q ⟨ρ, τ, Qd, Xd, rl, ab, q, cq, cx⟩
  refine ⟨ρ, τ, _, Xd, rl, ab, q, ?_, cx⟩
  rintro x τ1 ⟨hty, q1⟩ vx H1 g1 rx ab1
  refine ⟨tyB_of c hty k.h1 k.h2 rx ab1, ρ, τ1, _, Xd, rl.mono g1, ab1, q1, fun ds τ2 q2 vs H2 g2 rs ab2 => ?_, cx.mono g1⟩
  have := bmt_ok (X := X) c.hK q2 (rx.mono g2) rs ab2 (cq.mono (g1.trans g2))
  rw [k.id] at this
  exact this
theorem qe_bmt0 {o : Expr} {o' : E} {m : Bmt} {id : String} {apos cpos : Pos} (c : Cok P G n T X W) (k : BmtK m id) (ho : QE P G n X W o o') (hso : noSup o = true) (hl : (apos.endLine == cpos.line) = true) : QE P G n X W (.Call (.Attribute o (bmtN m) apos) [] [] cpos) (.bmt o' m .nil) := by
  refine QE.of c (pe_imp (pe_bm0 (T := bmtT m) (id := id) (r := AnyMt X id) k.pa k.slot k.ty (anyMt X id) ho.v (base_of hso) hl) ?_) rfl rfl
  rintro σ H Q ⟨ρ, τ, Qd, Xd, rl, ab, q, cq, cx⟩
  refine ⟨ρ, τ, _, Xd, rl, ab, q, ?_, cx⟩
  rintro x τ1 ⟨hty, q1⟩ vx H1 g1 rx ab1
  refine ⟨tyB_of c hty k.h1 k.h2 rx ab1, ?_⟩
  have := bmt_ok (X := X) c.hK q1 rx .nil ab1 (cq.mono g1)
  rw [k.id] at this
  exact this
theorem bk_append : BmtK .append "list.append" := ⟨PySem.F.plainAttrs_list, PySem.F.slot_list_append, PySem.F.type_list_append, rfl, (fun h => nomatch h), fun _ => rfl⟩
theorem bk_pop : BmtK .pop "list.pop" := ⟨PySem.F.plainAttrs_list, PySem.F.slot_list_pop, PySem.F.type_list_pop, rfl, (fun h => nomatch h), fun _ => rfl⟩
theorem bk_join : BmtK .join "str.join" := ⟨PySem.F.plainAttrs_str, PySem.F.slot_str_join, PySem.F.type_str_join, rfl, fun _ => rfl, fun h => nomatch h⟩
theorem bk_find : BmtK .find "str.find" := ⟨PySem.F.plainAttrs_str, PySem.F.slot_str_find, PySem.F.type_str_find, rfl, fun _ => rfl, fun h => nomatch h⟩
theorem bk_zfill : BmtK .zfill "str.zfill" := ⟨PySem.F.plainAttrs_str, PySem.F.slot_str_zfill, PySem.F.type_str_zfill, rfl, fun _ => rfl, fun h => nomatch h⟩
end
end DL
set_option maxHeartbeats 1000000
/-! DL4: targets, what is walked, comprehensions -/
namespace DL
open PySem PySem.Spec PyProof.Rows L2 TL
section
variable {P : Pg} {G : Gx} {n : Nat} {T : TC} {X : Cx} {W : WX}
/-! ### targets -/
/-- the names that a target binds, as slots -/
def LG (G : Gx) (tg : Tg) : TG := fun v σ H Q => ∃ ρ d k, RelL G H ρ σ ∧ RelD G H d v ∧ bindT tg d ρ k ∧ ∀ ρ', k ρ' → ∀ σ', RelL G H ρ' σ' → (∀ vs : List Nat, (∀ i ∈ tg.slots, i ∈ vs) → L2.wipe σ' vs = L2.wipe σ vs) → Q σ' H
theorem pg_imp {e : Expr} {g g' : TG} (h : PG X e g) (q : ∀ v σ H Q, g' v σ H Q → g v σ H Q) : PG X e g' := ⟨fun pins s σ H v u Q I r k => h.run pins s σ H v u Q I r (q v σ H Q k)⟩
theorem set_comm_ne {α : Type} (l : List α) (i j : Nat) (a b : α) (h : i ≠ j) : (l.set i a).set j b = (l.set j b).set i a := List.set_comm _ _ h
theorem wipe_set_in (σ : L2.St) (i : Nat) (x : Option V) : ∀ vs : List Nat, i ∈ vs → L2.wipe (σ.set i x) vs = L2.wipe σ vs
  | [], h => nomatch h
  | v :: vs, h => by
    show (L2.wipe (σ.set i x) vs).set v none = (L2.wipe σ vs).set v none
    by_cases e : i ∈ vs
    · rw [wipe_set_in σ i x vs e]
    · have ei : i = v := (List.mem_cons.mp h).resolve_right e
      subst ei
      have key : ∀ ws : List Nat, i ∉ ws → L2.wipe (σ.set i x) ws = (L2.wipe σ ws).set i x := by
        intro ws
        induction ws with
        | nil => intro _; rfl
        | cons w ws ih =>
          intro hw
          have h1 : i ≠ w := fun e => hw (by rw [e]; exact List.mem_cons_self)
          show (L2.wipe (σ.set i x) ws).set w none = ((L2.wipe σ ws).set w none).set i x
          rw [ih fun e => hw (List.mem_cons_of_mem _ e), set_comm_ne _ _ _ _ _ h1]
      rw [key vs e, List.set_set]
def locOk (T : TC) (x : Str) : Bool := match T.names.lookup x with
  | some .local => true
  | some .cell => T.inFn
  | _ => false
theorem locOk.loc {x : Str} (c : Cok P G n T X W) (h : locOk T x = true) : L2.Loc X.env.scope x ∧ (X.fn x = true ∨ X.env.scope.names.lookup x = some .local) := by
  unfold locOk at h
  unfold L2.Loc
  rw [c.sc]
  split at h
  · rename_i e; exact ⟨.inl e, .inr e⟩
  · rename_i e; exact ⟨.inr e, .inl (c.fnl h x)⟩
  · cases h
theorem qg_name {x : Str} {i : Nat} {p : Pos} (c : Cok P G n T X W) (hi : T.N[i]? = some x) (h : locOk T x = true) : PG X (.Name x p) (LG G (.name i)) := by
  obtain ⟨h1, h2⟩ := locOk.loc c h
  refine pg_imp (pg_name (i := i) c.nd (by rw [c.hN]; exact hi) h1 h2) ?_
  rintro v σ H Q ⟨ρ, d, k, rl, rd, b, q⟩
  exact q _ b _ (rl.set i rd) fun vs hv => wipe_set_in σ i _ vs (hv i (List.mem_singleton.mpr rfl))
def setAllV : L2.St → List Nat → List V → L2.St
  | σ, i :: is, v :: vs => setAllV (σ.set i (some v)) is vs
  | σ, _, _ => σ
def gAll (is : List Nat) : TGs := fun vs σ H Q => vs.length = is.length ∧ Q (setAllV σ is vs) H
theorem pgs_imp {es : List Expr} {g g' : TGs} (h : PGs X es g) (q : ∀ v σ H Q, g' v σ H Q → g v σ H Q) : PGs X es g' := ⟨fun pins s σ H v u Q I r k => h.run pins s σ H v u Q I r (q v σ H Q k)⟩
/-- (a, b, ..), plain names -/
def namesTg (T : TC) : List Expr → Option (List Nat)
  | [] => some []
  | .Name x _ :: r => if locOk T x = true ∧ T.N[T.N.idxOf x]? = some x then (namesTg T r).map (T.N.idxOf x :: ·) else none
  | _ => none
theorem namesTg_cons {x : Str} {p : Pos} {r : List Expr} {is : List Nat} (h : namesTg T (.Name x p :: r) = some is) : ∃ js, is = T.N.idxOf x :: js ∧ namesTg T r = some js ∧ locOk T x = true ∧ T.N[T.N.idxOf x]? = some x := by
  unfold namesTg at h
  split at h
  · rename_i q
    cases e : namesTg T r with
    | none => rw [e] at h; cases h
    | some js => rw [e] at h; cases h; exact ⟨js, rfl, rfl, q.1, q.2⟩
  · cases h
theorem qgs (c : Cok P G n T X W) : ∀ {es : List Expr} {is : List Nat}, namesTg T es = some is → PGs X es (gAll is)
  | [], is, h => by
    cases h
    exact pgs_imp pgs_nil fun v σ H Q ⟨h1, h2⟩ => by
      have : v = [] := List.length_eq_zero_iff.mp h1
      subst this
      exact ⟨rfl, h2⟩
  | .Name x p :: r, is, h => by
    obtain ⟨js, rfl, e, h1, h2⟩ := namesTg_cons h
    obtain ⟨l1, l2⟩ := locOk.loc c h1
    refine pgs_imp (pgs_cons (pg_name (i := T.N.idxOf x) c.nd (by rw [c.hN]; exact h2) l1 l2) (qgs c e)) fun v σ H Q ⟨q1, q2⟩ => ?_
    cases v with
    | nil => simp at q1
    | cons v vs => exact ⟨v, vs, rfl, by simpa using q1, q2⟩
  | .BoolOp .. :: _, _, h => by cases h
  | .NamedExpr .. :: _, _, h => by cases h
  | .BinOp .. :: _, _, h => by cases h
  | .UnaryOp .. :: _, _, h => by cases h
  | .Lambda .. :: _, _, h => by cases h
  | .IfExp .. :: _, _, h => by cases h
  | .Dict .. :: _, _, h => by cases h
  | .Set .. :: _, _, h => by cases h
  | .ListComp .. :: _, _, h => by cases h
  | .SetComp .. :: _, _, h => by cases h
  | .DictComp .. :: _, _, h => by cases h
  | .GeneratorExp .. :: _, _, h => by cases h
  | .Await .. :: _, _, h => by cases h
  | .Yield .. :: _, _, h => by cases h
  | .YieldFrom .. :: _, _, h => by cases h
  | .Compare .. :: _, _, h => by cases h
  | .Call .. :: _, _, h => by cases h
  | .FormattedValue .. :: _, _, h => by cases h
  | .JoinedStr .. :: _, _, h => by cases h
  | .Constant .. :: _, _, h => by cases h
  | .Attribute .. :: _, _, h => by cases h
  | .Subscript .. :: _, _, h => by cases h
  | .Starred .. :: _, _, h => by cases h
  | .List .. :: _, _, h => by cases h
  | .Tuple .. :: _, _, h => by cases h
  | .Slice .. :: _, _, h => by cases h
theorem names_each {env : Env} : ∀ {es : List Expr} {is : List Nat}, namesTg T es = some is → (assignEach es env).length = is.length ∧ (assignEach es env).findIdx? (·.1) = none
  | [], is, h => by cases h; exact ⟨rfl, rfl⟩
  | e :: r, is, h => by
    cases e with
    | Name x p =>
      obtain ⟨js, rfl, e, h1, h2⟩ := namesTg_cons h
      obtain ⟨l1, l2⟩ := names_each (env := env) e
      have z : assignEach (.Name x p :: r) env = (false, assign (.Name x p) env) :: assignEach r env := by rfl
      rw [z]
      refine ⟨by simp [l1], ?_⟩
      rw [List.findIdx?_cons]
      simp [l2]
    | _ => cases h
theorem setAll_rel {H : Hp} : ∀ (is : List Nat) {ds : List D} {vs : List V} {ρ : DL.Loc} {σ : L2.St}, RelL G H ρ σ → RelDs G H ds vs → RelL G H (setAll ρ is ds) (setAllV σ is vs)
  | [], ds, vs, _, _, r, h => by cases h <;> exact r
  | _ :: _, _, _, _, _, r, .nil => r
  | i :: is, _, _, _, _, r, .cons q t => setAll_rel is (r.set i q) t
theorem setAllV_wipe (vs : List Nat) : ∀ (is : List Nat) (us : List V) (σ : L2.St), (∀ i ∈ is, i ∈ vs) → L2.wipe (setAllV σ is us) vs = L2.wipe σ vs
  | [], us, σ, _ => by cases us <;> rfl
  | _ :: _, [], σ, _ => rfl
  | i :: is, u :: us, σ, h => by
    show L2.wipe (setAllV (σ.set i (some u)) is us) vs = _
    rw [setAllV_wipe vs is us _ fun j hj => h j (List.mem_cons_of_mem _ hj), wipe_set_in σ i _ vs (h i List.mem_cons_self)]
theorem qg_tup {es : List Expr} {is : List Nat} {k : Nat} {p : Pos} (c : Cok P G n T X W) (h : namesTg T es = some is) : PG X (.Tuple es k p) (LG G (.tup is)) := by
  obtain ⟨h1, h2⟩ := names_each (env := X.env) h
  refine pg_imp (pg_tup (n := is.length) c.calm (qgs c h) h1 h2) ?_
  rintro v σ H Q ⟨ρ, d, k, rl, rd, ⟨ds, rfl, hl, b⟩, q⟩
  cases rd with
  | tup s r => exact ⟨_, _, rfl, c.hK ▸ s, by rw [← r.length]; exact hl, by rw [← r.length]; exact hl, q _ b _ (setAll_rel is rl r) fun vs hv => setAllV_wipe vs is _ σ hv⟩
/-! ### what is walked -/
/-- J walks the items while g stays -/
def ItR (G : Gx) (H0 : Hp) (J : It) (items : List D) (g : Sto → Prop) : Prop := ∀ (i : Nat) (τ : Sto) (H : Hp), Grow H0 H → Abs G τ H → g τ →
  (∀ d, items[i]? = some d → J.go i H ∧ ∀ x H', J.yld i H x H' → Grow H H' ∧ Abs G τ H' ∧ RelD G H' d x) ∧ (items.length ≤ i → J.stop i H)
theorem ItR.mono {H0 H1 : Hp} {J : It} {items : List D} {g : Sto → Prop} (h : ItR G H0 J items g) (k : Grow H0 H1) : ItR G H1 J items g := fun i τ H g1 => h i τ H (k.trans g1)
def LI (P : Pg) (G : Gx) (n : Nat) (W : WX) (k : ItK) (es : Es) : TI := fun σ H R => ∃ ρ τ Xd, ∃ Kd : List D → (Sto → Prop) → Sto → Prop, RelL G H ρ σ ∧ Abs G τ H ∧ wpEs P.cls (callD P n) es ρ τ (fun ds τ1 => wpIt k ds τ1 fun items g => Kd items g τ1) Xd ∧
  (∀ items g τ1, Kd items g τ1 → ∀ J H1, Grow H H1 → Abs G τ1 H1 → ItR G H1 J items g → R J H1) ∧ CvX G H Xd fun c d H' => W c d σ H'
theorem pi_imp {tg e : Expr} {t t' : TI} (h : PI X tg e t) (q : ∀ σ H Q, t' σ H Q → t σ H Q) : PI X tg e t' := ⟨fun pins s σ H Q I k => h.run pins s σ H Q I (q σ H Q k)⟩
/-- lists, tuples, texts -/
def iAny (K : PySem.W.Frag) (tl : TE) : TI := fun σ H R => tl σ H fun x H1 => (∃ a, x = .ref a ∧ (∃ xs, SqL K H1 a xs) ∧ R (Itl K a) H1) ∨ (∃ a, x = .ref a ∧ (∃ xs, SqT K H1 a xs) ∧ R (Itt K a) H1) ∨ (∃ z, x = .str z ∧ R (Its z) H1)
theorem pi_any {tg l : Expr} {tl : TE} (hl : PE X l tl) : PI X tg l (iAny X.K tl) := by
  refine ⟨fun pins s σ H R I h => ?_⟩
  refine thn (hl.run pins s σ H _ I h) fun v s1 ⟨x, H1, I1, r1, q1⟩ => ?_
  rcases q1 with ⟨a, e, ⟨xs, hq⟩, q⟩ | ⟨a, e, ⟨xs, hq⟩, q⟩ | ⟨z, e, q⟩
  · subst e
    cases r1
    obtain ⟨its, rv, p, hz⟩ := I1.list hq
    refine wpAny_pyIter_list p.isList ?_
    refine ⟨s1.heap.objs.size, [s1.heap.objs.size], _, _, H1, rfl, I1.kept (t' := s1.toks) fun b o e => Heap.get?_push_of_some _ e, turn_list a _, ⟨_, Heap.get?_push_size _ rfl, rfl, rfl⟩, fun b hb => ?_, q⟩
    have e : b = s1.heap.objs.size := by simpa using hb
    subst e
    exact I1.fpOk (Nat.le_refl _) (I1.hok.fresh (Nat.le_refl _))
  · subst e
    cases r1
    obtain ⟨its, rv, p, hz⟩ := I1.tuple hq
    refine wpAny_pyIter_tuple (show s1.heap.IsTuple a its.toArray from p) ?_
    refine ⟨s1.heap.objs.size, [s1.heap.objs.size], _, _, H1, rfl, I1.kept (t' := s1.toks) fun b o e => Heap.get?_push_of_some _ e, turn_tuple a _, ⟨_, Heap.get?_push_size _ rfl, rfl, rfl⟩, fun b hb => ?_, q⟩
    have e : b = s1.heap.objs.size := by simpa using hb
    subst e
    exact I1.fpOk (Nat.le_refl _) (I1.hok.fresh (Nat.le_refl _))
  · subst e
    obtain ⟨t, rfl⟩ := r1
    cases ha : z.cps.all (· < 128)
    · exact wpAny_pyIter_wide ha (pi_one (tk := s1.toks) I1 _ (turn_str _ z t "str_iterator" (.inr rfl)) ⟨_, Heap.get?_push_size _ rfl, rfl, rfl⟩ q)
    · exact wpAny_pyIter_ascii ha (pi_one (tk := s1.toks) I1 _ (turn_str _ z t "str_ascii_iterator" (.inl rfl)) ⟨_, Heap.get?_push_size _ rfl, rfl, rfl⟩ q)
theorem sqT_inj {K : PySem.W.Frag} {H : Hp} {a : Addr} {xs ys : List V} (h : SqT K H a xs) (k : ∀ zs, SqT K H a zs → zs = xs) (h' : SqT K H a ys) : ys = xs := k ys h'
theorem itr_range {H0 : Hp} (lo : Int) (m : Nat) : ItR G H0 (Itr lo m) ((List.range m).map fun (j : Nat) => .int (lo + j)) fun _ => True := by
  intro i τ H g ab _
  refine ⟨fun d hd => ?_, fun h => by show m ≤ i; simpa using h⟩
  rw [List.getElem?_map] at hd
  cases e : (List.range m)[i]? with
  | none => rw [e] at hd; cases hd
  | some j =>
    rw [e] at hd; cases hd
    have hi : i < m := by
      have := (List.getElem?_eq_some_iff.mp e).1
      simpa using this
    have ej : j = i := by
      rw [List.getElem?_range hi] at e; exact (Option.some.inj e).symm
    subst ej
    refine ⟨hi, ?_⟩
    rintro x H' ⟨rfl, rfl⟩
    exact ⟨Grow.refl _, ab, .int _⟩
theorem itr_rangeC {H0 : Hp} (lo c : Int) (m : Nat) : ItR G H0 (Itc lo c m) ((List.range m).map fun (j : Nat) => .int (lo + j * c)) fun _ => True := by
  intro i τ H g ab _
  refine ⟨fun d hd => ?_, fun h => by show m ≤ i; simpa using h⟩
  rw [List.getElem?_map] at hd
  cases e : (List.range m)[i]? with
  | none => rw [e] at hd; cases hd
  | some j =>
    rw [e] at hd; cases hd
    have hi : i < m := by
      have := (List.getElem?_eq_some_iff.mp e).1
      simpa using this
    have ej : j = i := by
      rw [List.getElem?_range hi] at e; exact (Option.some.inj e).symm
    subst ej
    refine ⟨hi, ?_⟩
    rintro x H' ⟨rfl, rfl⟩
    exact ⟨Grow.refl _, ab, .int _⟩
theorem itr_str {H0 : Hp} {l : List Nat} (kl : okS l) : ItR G H0 (Its (toS l)) (l.map fun c => .str [c]) fun _ => True := by
  intro i τ H g ab _
  refine ⟨fun d hd => ?_, fun h => by show (toS l).cps.size ≤ i; simpa [toS] using h⟩
  rw [List.getElem?_map] at hd
  cases e : l[i]? with
  | none => rw [e] at hd; cases hd
  | some c =>
    rw [e] at hd; cases hd
    have hi : i < l.length := (List.getElem?_eq_some_iff.mp e).1
    refine ⟨by show i < (toS l).cps.size; simpa [toS] using hi, ?_⟩
    rintro x H' ⟨rfl, c', e', rfl⟩
    have : c' = c := by
      have e2 : (toS l).cps[i]? = some c := by simpa [toS] using e
      rw [e2] at e'; exact (Option.some.inj e').symm
    subst this
    exact ⟨Grow.refl _, ab, .str [c'] (kl.one e)⟩
/-- a tuple: it stays -/
theorem itr_tup {H0 : Hp} {a : Addr} {xs : List D} {vs : List V} (s : SqT G.K H0 a vs) (r : RelDs G H0 xs vs) : ItR G H0 (Itt G.K a) xs fun _ => True := by
  intro i τ H g ab _
  refine ⟨fun d hd => ?_, fun h => ⟨vs, g.sqT s, by rw [← r.length]; exact h⟩⟩
  obtain ⟨v, e, rv⟩ := r.get hd
  refine ⟨⟨vs, v, g.sqT s, e⟩, ?_⟩
  rintro x H' ⟨rfl, q⟩
  have := q vs (g.sqT s)
  rw [e] at this; cases this
  exact ⟨Grow.refl _, ab, rv.mono g⟩
theorem itr_rol {H0 : Hp} {a : Addr} {ns : List Int} (s : FzL G.K H0 a (ns.map V.int)) : ItR G H0 (Itl G.K a) (ns.map D.int) fun _ => True := by
  intro i τ H g ab _
  refine ⟨fun d hd => ?_, fun h => ⟨_, (g.fzL s).sq, by simpa using h⟩⟩
  obtain ⟨v, e, rv⟩ := (RelDs.ints (G := G) (H := H) ns).get hd
  refine ⟨⟨_, v, (g.fzL s).sq, e⟩, ?_⟩
  rintro x H' ⟨rfl, q⟩
  have := q _ (g.fzL s).sq
  rw [e] at this; cases this
  exact ⟨Grow.refl _, ab, rv⟩
theorem itr_lst {H0 : Hp} {a : Addr} {xs : List D} : ItR G H0 (Itl G.K a) xs fun τ => τ a = some (.lst xs) := by
  intro i τ H g ab e0
  obtain ⟨vs, f, r⟩ := ab.lst e0
  refine ⟨fun d hd => ?_, fun h => ⟨vs, SqL.of f, by rw [← r.length]; exact h⟩⟩
  obtain ⟨v, e, rv⟩ := r.get hd
  refine ⟨⟨vs, v, SqL.of f, e⟩, ?_⟩
  rintro x H' ⟨rfl, q⟩
  have := q vs (SqL.of f)
  rw [e] at this; cases this
  exact ⟨Grow.refl _, ab, rv⟩
theorem qi_of {e tg : Expr} {e' : E} (c : Cok P G n T X W) (h : QE P G n X W e e') : PI X tg e (LI P G n W .of (.cons e' .nil)) := by
  refine pi_imp (pi_any h.v) ?_
  rintro σ H R ⟨ρ, τ, Xd, Kd, rl, ab, q, k, cx⟩
  refine ⟨ρ, τ, _, Xd, rl, ab, q, fun x τ1 h1 vx H1 g1 rx ab1 => ?_, cx⟩
  cases rx with
  | str l kl => exact .inr (.inr ⟨_, rfl, k _ _ _ h1 _ _ g1 ab1 (itr_str kl)⟩)
  | tup s r => exact .inr (.inl ⟨_, rfl, ⟨_, c.hK ▸ s⟩, c.hK ▸ k _ _ _ h1 _ _ g1 ab1 (itr_tup s r)⟩)
  | rol s => exact .inl ⟨_, rfl, ⟨_, c.hK ▸ s.sq⟩, c.hK ▸ k _ _ _ h1 _ _ g1 ab1 (itr_rol s)⟩
  | ref a =>
    obtain ⟨xs, e0, h1⟩ := h1
    obtain ⟨vs, f, r⟩ := ab1.lst e0
    exact .inl ⟨_, rfl, ⟨_, SqL.of f⟩, c.hK ▸ k _ _ _ h1 _ _ g1 ab1 itr_lst⟩
  | _ => exact False.elim h1
theorem glo_of {x : Str} (c : Cok P G n T X W) (h : T.names.lookup x = some .globalImplicit) : Gl X x := by unfold Gl Env.kindOf; rw [c.sc]; exact h
/-- range(..) -/
theorem qi_range1 {tg a : Expr} {p pos : Pos} {es' : Es} (c : Cok P G n T X W) (hg : T.names.lookup ("range" : Str) = some .globalImplicit) (hm : ("range" : Str) ∈ T.bl) (h : QA P G n X W [a] es') (hs : notStar a = true) : PI X tg (.Call (.Name "range" p) [a] [] pos) (LI P G n W .range1 es') := by
  refine pi_imp (pi_range1 (glo_of c hg) (c.blt _ hm) h (star_cons hs)) ?_
  rintro σ H R ⟨ρ, τ, Xd, Kd, rl, ab, q, k, cx⟩
  refine ⟨ρ, τ, _, Xd, rl, ab, q, ?_, cx⟩
  rintro ds τ1 h1 vs H1 g1 rs ab1
  cases rs with
  | nil => exact False.elim h1
  | cons r t => cases t with
    | cons _ _ => cases r <;> exact False.elim h1
    | nil => cases r with
      | int j =>
        obtain ⟨b, h1⟩ := h1
        refine ⟨j, rfl, by omega, by omega, k _ _ _ h1 _ _ g1 ab1 ?_⟩
        have := itr_range (G := G) (H0 := H1) 0 j.toNat
        simpa using this
      | _ => exact False.elim h1
theorem qi_range2 {tg a b : Expr} {p pos : Pos} {es' : Es} (c : Cok P G n T X W) (hg : T.names.lookup ("range" : Str) = some .globalImplicit) (hm : ("range" : Str) ∈ T.bl) (h : QA P G n X W [a, b] es') (ha : notStar a = true) (hb : notStar b = true) : PI X tg (.Call (.Name "range" p) [a, b] [] pos) (LI P G n W .range2 es') := by
  have s2 : starEach [b] X.env = [(false, eval b X.env)] := star_cons hb
  have s1 : starEach [a, b] X.env = [(false, eval a X.env), (false, eval b X.env)] := by rw [star_cons ha, s2]
  refine pi_imp (pi_range2 (glo_of c hg) (c.blt _ hm) h s1 s2) ?_
  rintro σ H R ⟨ρ, τ, Xd, Kd, rl, ab, q, k, cx⟩
  refine ⟨ρ, τ, _, Xd, rl, ab, q, ?_, cx⟩
  rintro ds τ1 h1 vs H1 g1 rs ab1
  cases rs with
  | nil => exact False.elim h1
  | cons r t => cases t with
    | nil => cases r <;> exact False.elim h1
    | cons r2 t => cases t with
      | cons _ _ => cases r <;> cases r2 <;> exact False.elim h1
      | nil => cases r with
        | int i => cases r2 with
          | int j =>
            obtain ⟨b1, b2, h1⟩ := h1
            exact ⟨i, j, rfl, ⟨by omega, by omega, by omega, by omega⟩, k _ _ _ h1 _ _ g1 ab1 (itr_range i _)⟩
          | _ => exact False.elim h1
        | _ => cases r2 <;> exact False.elim h1
theorem rgc_pos {i j c : Int} (hi : i.natAbs < 2 ^ 60) (hj : j.natAbs < 2 ^ 60) (h0 : 0 < c) (h1 : c < 2 ^ 30) : RgC i j c ((j - i + c - 1) / c).toNat := by
  have hq : i < j → (j - i - 1) / c ≤ j - i - 1 := fun h => by
    have := Int.ediv_le_self (b := c) (show 0 ≤ j - i - 1 by omega)
    exact this
  have hq0 : i < j → 0 ≤ (j - i - 1) / c := fun h => Int.ediv_nonneg (by omega) (by omega)
  refine ⟨by omega, by omega, ?_, ?_⟩
  · unfold Builtin.Range.small Builtin.Range.rangeSize
    simp only [Builtin.Range.rangeFitsLong, Bool.and_eq_true, Bool.or_eq_true, decide_eq_true_eq, beq_iff_eq, show c > 0 from h0, if_true]
    split
    · rename_i h
      have h2 := hq h
      have h3 := hq0 h
      have h4 : ((j - i - 1) / c) * c ≤ j - i - 1 := Int.ediv_mul_le _ (by omega)
      omega
    · omega
  · unfold Builtin.Range.rangeSize
    rw [if_pos h0]
    split
    · rename_i h
      have e : (j - i + c - 1) / c = (j - i - 1) / c + 1 := by
        rw [show j - i + c - 1 = (j - i - 1) + 1 * c by omega, Int.add_mul_ediv_right _ _ (by omega)]
      have : 0 ≤ (j - i - 1) / c := Int.ediv_nonneg (by omega) (by omega)
      omega
    · rename_i h
      have : (j - i + c - 1) / c ≤ 0 := by
        have : (j - i + c - 1) / c < 1 := Int.ediv_lt_of_lt_mul h0 (by omega)
        omega
      omega
theorem qi_range3 {tg a b d : Expr} {p pos : Pos} {es' : Es} (c : Cok P G n T X W) (hg : T.names.lookup ("range" : Str) = some .globalImplicit) (hm : ("range" : Str) ∈ T.bl) (h : QA P G n X W [a, b, d] es') (ha : notStar a = true) (hb : notStar b = true) (hd : notStar d = true) : PI X tg (.Call (.Name "range" p) [a, b, d] [] pos) (LI P G n W .range3 es') := by
  refine pi_imp (pi_range3 (glo_of c hg) (c.blt _ hm) h (star_cons ha) (star_any (by simp [hb, hd]))) ?_
  rintro σ H R ⟨ρ, τ, Xd, Kd, rl, ab, q, k, cx⟩
  refine ⟨ρ, τ, _, Xd, rl, ab, q, ?_, cx⟩
  rintro ds τ1 h1 vs H1 g1 rs ab1
  cases rs with
  | nil => exact False.elim h1
  | cons r t => cases t with
    | nil => cases r <;> exact False.elim h1
    | cons r2 t => cases t with
      | nil => cases r <;> cases r2 <;> exact False.elim h1
      | cons r3 t => cases t with
        | cons _ _ => cases r <;> cases r2 <;> cases r3 <;> exact False.elim h1
        | nil => cases r with
          | int i => cases r2 with
            | int j => cases r3 with
              | int d =>
                obtain ⟨b1, b2, b3, b4, h1⟩ := h1
                exact ⟨i, j, d, _, rfl, rgc_pos b1 b2 b3 b4, k _ _ _ h1 _ _ g1 ab1 (itr_rangeC i d _)⟩
              | _ => exact False.elim h1
            | _ => cases r3 <;> exact False.elim h1
          | _ => cases r2 <;> cases r3 <;> exact False.elim h1
end
end DL
set_option maxHeartbeats 1000000
/-! DL4b: comprehensions -/
namespace DL
open PySem PySem.Spec PyProof.Rows L2 TL
section
variable {P : Pg} {G : Gx} {n : Nat} {T : TC} {X : Cx} {W : WX}
def relN (names outer : List (Str × NameKind)) : List (Str × NameKind) := names.map fun (y, k) => if (k == .free && outer.lookup y == some .cell) then (y, .cell) else (y, k)
/-- the block of a comprehension -/
def TC.blk (T : TC) (scope : Scope) : TC := { T with inFn := false, names := relN scope.names T.names }
def noW : WX := fun _ _ _ _ => False
theorem Cok.blk (c : Cok P G n T X W) {scope : Scope} (hk : scope.kind = .function) (s : Shared) (H : Hp) (C : Addr) (cl : List (Str × Addr)) (fp : List Addr) : Cok P G n (T.blk scope) (X.blk s H scope (compEnvC scope cl C X.env) fp) noW where
  hN := c.hN
  nd := c.nd
  hK := c.hK
  sc := by
    show (relabel scope X.env).names = relN scope.names T.names
    unfold relabel relN Env.kindOf
    rw [c.kind, c.sc]
    apply List.map_congr_left
    rintro ⟨y, k⟩ _
    have e : (ScopeKind.function == ScopeKind.function) = true := rfl
    simp only [e, Bool.and_true]
  calm := c.calm
  room := c.room
  tk := fun u s' x => by
    obtain ⟨_, _, _, _, _, _, _, _, _, _, _, _, _, _, _, _, z⟩ := x
    exact z.elim
  kind := hk
  fnl := fun h => nomatch h
  glo := c.glo
  blt := c.blt
  fok := c.fok
theorem blk_ok (c : Cok P G n T X W) {scope : Scope} {own : List (Str × Nat)} (h : blkC T.N ⟨.function, T.names, false, false, []⟩ scope own = true) : BlkOk X.N X.env.scope scope own := by
  refine blkOk_by ?_
  rw [c.hN]
  unfold blkC at h ⊢
  rw [c.sc]
  exact h
/-- the tests of a comprehension -/
def QTs (P : Pg) (G : Gx) (n : Nat) (X : Cx) (ifs : List Expr) (t : E) : Prop := PTs X ifs (LT G noW (wpE P.cls (callD P n) t).t)
theorem pts_imp {ifs : List Expr} {t t' : TT} (h : PTs X ifs t) (q : ∀ σ H Q, t' σ H Q → t σ H Q) : PTs X ifs t' := ⟨fun pins s σ H Q I k => h.run pins s σ H Q I (q σ H Q k)⟩
theorem qts_nil : QTs P G n X [] (.cst (.bl true)) := pts_imp pts_nil fun σ H Q ⟨ρ, τ, Qd, Xd, rl, ab, h, cq, cx⟩ => cq true τ h H (Grow.refl H) ab
theorem qts_one {e : Expr} {e' : E} (h : QE P G n X noW e e') : QTs P G n X [e] e' := pts_one h.t
/-- the reading of a comprehension -/
theorem le_comp {elt' t' : E} {tg' : Tg} {k : ItK} {es' : Es} {σ : L2.St} {H : Hp} {Q : VK} (h : LE G W (wpE P.cls (callD P n) (.comp elt' tg' k es' t')).v σ H Q) :
    tLc (LI P G n W k es') (LG G tg') (LT G noW (wpE P.cls (callD P n) t').t) (LE G noW (wpE P.cls (callD P n) elt').v) tg'.slots σ H Q := by
  obtain ⟨ρ, τ, Qd, Xd, rl, ab, h, cq, cx⟩ := h
  refine ⟨ρ, τ, Xd, _, rl, ab, h, ?_, cx⟩
  intro items g τ1 hgo J H1 g1 ab1 hJ p hp
  have hgo := hgo p (ab1.free hp)
  let turn : D → Sto → (Option D → Sto → Prop) → Prop := fun d τ2 K => bindT tg' d (wipeD ρ tg'.slots) fun ρ' => (wpE P.cls (callD P n) t').t ρ' τ2 (fun b τ3 => if b = true then (wpE P.cls (callD P n) elt').v ρ' τ3 (fun y τ4 => K (some y) τ4) noX else K none τ3) noX
  have hgo : compGo g turn p (fun τ2 => Qd (.ref p) τ2) items [] (put τ1 p (.lst [])) := hgo
  have gp : Grow H1 (upd H1 p (.lst [])) := Grow.new hp
  refine ⟨fun i m H2 => m = items.length - i ∧ i ≤ items.length ∧ ∃ τ2 acc, Grow H1 H2 ∧ Abs G τ2 H2 ∧ compGo g turn p (fun τ2 => Qd (.ref p) τ2) (items.drop i) acc τ2, ⟨items.length, rfl, Nat.zero_le _, put τ1 p (.lst []), [], gp, ab1.new hp (.lst .nil), hgo⟩, ?_⟩
  rintro i m H2 ⟨rfl, hle, τ2, acc, g2, ab2, go⟩
  by_cases hlt : i < items.length
  · rw [List.drop_eq_getElem_cons hlt] at go
    obtain ⟨hgt, go⟩ := go
    obtain ⟨hJ1, _⟩ := hJ i τ2 H2 g2 ab2 hgt
    obtain ⟨hgo', hy⟩ := hJ1 items[i] (List.getElem?_eq_getElem hlt)
    refine .inr ⟨hgo', fun H' => i + 1 ≤ items.length ∧ ∃ τ3 acc, Grow H1 H' ∧ Abs G τ3 H' ∧ compGo g turn p (fun τ2 => Qd (.ref p) τ2) (items.drop (i + 1)) acc τ3, ?_, ?_⟩
    · rintro H' ⟨h1, τ3, acc', r⟩
      exact ⟨items.length - (i + 1), by omega, rfl, h1, τ3, acc', r⟩
    · intro x H' hyl
      obtain ⟨g3, ab3, rx⟩ := hy x H' hyl
      have g13 : Grow H1 H' := g2.trans g3
      refine ⟨wipeD ρ tg'.slots, items[i], _, (rl.mono (g1.trans g13)).wipe _, rx, go, ?_⟩
      intro ρ' hk' σ' rl' hw
      refine ⟨(hw tg'.slots fun _ h => h).trans ?_, ?_⟩
      · have idem : ∀ (is : List Nat), L2.wipe (L2.wipe σ is) is = L2.wipe σ is := by
          intro is
          have key : ∀ (js : List Nat) (σ0 : L2.St), (∀ j ∈ js, ∀ v, σ0[j]? ≠ some (some v)) → L2.wipe σ0 js = σ0 := by
            intro js
            induction js with
            | nil => intro σ0 _; rfl
            | cons j js ih =>
              intro σ0 h0
              show (L2.wipe σ0 js).set j none = σ0
              rw [ih σ0 fun k hk => h0 k (List.mem_cons_of_mem _ hk)]
              apply List.ext_getElem?
              intro l
              by_cases e : j = l
              · subst e
                by_cases hl : j < σ0.length
                · rw [List.getElem?_set_self hl, List.getElem?_eq_getElem hl]
                  have := h0 j List.mem_cons_self
                  rw [List.getElem?_eq_getElem hl] at this
                  cases q : σ0[j] with
                  | none => rfl
                  | some v => rw [q] at this; exact absurd rfl (this v)
                · rw [List.set_eq_of_length_le (by omega)]
              · rw [List.getElem?_set_ne e]
          exact key is _ fun j hj v hv => (wipe_some hv).2 hj
        exact idem _
      · refine ⟨ρ', τ2, _, noX, rl', ab3, hk', ?_, fun _ _ h => h.elim⟩
        intro b τ3 hb' H3 g4 ab4
        cases b with
        | false =>
          rw [if_neg Bool.false_ne_true] at hb' ⊢
          exact ⟨hlt, τ3, acc, g13.trans g4, ab4, hb'⟩
        | true =>
          rw [if_pos rfl] at hb' ⊢
          refine ⟨ρ', τ3, _, noX, rl'.mono g4, ab4, hb', ?_, fun _ _ h => h.elim⟩
          intro y τ4 hy4 v H4 g5 ry ab5
          obtain ⟨e1, e2, go'⟩ := hy4
          obtain ⟨vs, f, r⟩ := ab5.lst e1
          refine ⟨vs, f, by rw [← r.length]; exact e2, hlt, put τ4 p (.lst (acc ++ [y])), acc ++ [y], (g13.trans (g4.trans g5)).trans (Grow.lst f), ab5.chg (Grow.lst f) (.lst ((r.append (.cons ry .nil)).mono (Grow.lst f))), go'⟩
  · have e : i = items.length := by omega
    subst e
    rw [List.drop_length] at go
    obtain ⟨hgt, q⟩ := go
    obtain ⟨_, hJ2⟩ := hJ items.length τ2 H2 g2 ab2 hgt
    exact .inl ⟨hJ2 (Nat.le_refl _), cq _ _ q _ _ (g1.trans g2) (.ref p) ab2⟩
theorem qe_comp {elt tg iter : Expr} {ifs : List Expr} {scope : Scope} {own : List (Str × Nat)} {pos : Pos} {elt' t' : E} {tg' : Tg} {k : ItK} {es' : Es} (c : Cok P G n T X W) (hi : PI X tg iter (LI P G n W k es')) (hb : blkC T.N ⟨.function, T.names, false, false, []⟩ scope own = true)
    (hk : scope.kind = .function) (ho : own.map (·.2) = tg'.slots) (hset : noSet iter = true)
    (hg : ∀ X', Cok P G n (T.blk scope) X' noW → PG X' tg (LG G tg')) (ht : ∀ X', Cok P G n (T.blk scope) X' noW → QTs P G n X' ifs t') (he : ∀ X', Cok P G n (T.blk scope) X' noW → QE P G n X' noW elt elt') :
    QE P G n X W (.ListComp elt [⟨tg, iter, ifs, 0⟩] scope pos) (.comp elt' tg' k es' t') := by
  refine QE.of c (pe_imp (pe_lc (own := own) c.calm c.nd hi (blk_ok c hb) (fun s H C cl fp => hg _ (c.blk hk s H C cl fp)) (fun s H C cl fp => ht _ (c.blk hk s H C cl fp)) (fun s H C cl fp => (he _ (c.blk hk s H C cl fp)).v) (fun x => fold_of hset x)) ?_) rfl rfl
  intro σ H Q h
  rw [ho]
  exact le_comp h
/-- y = [..] on one line, y a local -/
theorem qs_comp {elt tg iter : Expr} {ifs : List Expr} {scope : Scope} {own : List (Str × Nat)} {pos spos py : Pos} {elt' t' : E} {tg' : Tg} {k : ItK} {es' : Es} {i : Nat} {y : Str} (c : Cok P G n T X W) (hi : PI X tg iter (LI P G n W k es')) (hb : blkC T.N ⟨.function, T.names, false, false, []⟩ scope own = true)
    (hk : scope.kind = .function) (ho : own.map (·.2) = tg'.slots) (hset : noSet iter = true) (hy : T.N[i]? = some y) (hyl : T.names.lookup y = some .local) (hl : (py.line == pos.line) = true) (hcl : (scope.names.any fun (n, k) => n == y && (k == .local || k == .cell)) = false)
    (hg : ∀ X', Cok P G n (T.blk scope) X' noW → PG X' tg (LG G tg')) (ht : ∀ X', Cok P G n (T.blk scope) X' noW → QTs P G n X' ifs t') (he : ∀ X', Cok P G n (T.blk scope) X' noW → QE P G n X' noW elt elt') :
    PS X (.Assign [.Name y py] (.ListComp elt [⟨tg, iter, ifs, 0⟩] scope pos) spos) (tAsg (LE G W (wpE P.cls (callD P n) (.comp elt' tg' k es' t')).v) (gName i)) := by
  have hyl' : X.env.scope.names.lookup y = some .local := by rw [c.sc]; exact hyl
  refine ps_imp (ps_setLc (i := i) (own := own) c.calm c.nd (by rw [c.hN]; exact hy) hyl' (sw_true c.kind hyl' hl hcl) hi (blk_ok c hb) (fun s H C cl fp => hg _ (c.blk hk s H C cl fp)) (fun s H C cl fp => ht _ (c.blk hk s H C cl fp)) (fun s H C cl fp => (he _ (c.blk hk s H C cl fp)).v) (fun x => fold_of hset x)) ?_
  intro D σ H h
  have h : LE G W (wpE P.cls (callD P n) (.comp elt' tg' k es' t')).v σ H (fun x H1 => gName i x σ H1 D.nx) := h
  show tLc _ _ _ _ (own.map (·.2)) σ H _
  rw [ho]
  exact le_comp h
end
end DL
set_option maxHeartbeats 1000000
/-! DL5: statements -/
namespace DL
open PySem PySem.Spec PyProof.Rows L2 TL
abbrev veB : List Value := [.type "ValueError", .type "Exception", .type "BaseException", .type "object"]
/-- what holds of the exceptions' classes -/
structure XsOk (P : Pg) (G : Gx) (K : PySem.W.Frag) : Prop where
  exi : ∀ (c : Nat) (i : XcI), P.xcs[c]? = some i → i.att = none → PySem.W.excIn K (G.xA c) veB "ValueError.__new__" = true
  kp : ∀ (c : Nat) (i : XcI), P.xcs[c]? = some i → PySem.W.keepIn K (.ref (G.xA c)) = true
  sub : ∀ (c : Nat) (i : XcI), P.xcs[c]? = some i → PySem.W.subIn K (.ref (G.xA c)) (.type "BaseException") = some true
  ty : ∀ (c : Nat) (i : XcI), P.xcs[c]? = some i → PySem.W.typeIn K (.ref (G.xA c)) = some (.type "type")
  exm : ∀ c d, c < P.xcs.length → d < P.xcs.length → PySem.W.exmOne K (.ref (G.xA c)) (.ref (G.xA d)) = some (subX P.xcs c d)
  isi : ∀ c d, c < P.xcs.length → d < P.xcs.length → PySem.W.kitOne K (.ref (G.xA c)) (.ref (G.xA d)) = some (subX P.xcs c d)
  exc : ∀ (c : Nat) (i : XcI), P.xcs[c]? = some i → ExcC K (G.xA c)
structure Sok (P : Pg) (G : Gx) (n : Nat) (T : TC) (X : Cx) (W : WX) : Prop where
  c : Cok P G n T X W
  hs : X.stack = X.env :: X.outer
  hf : X.env.frame = some X.env.locals
  po : PassesOwn (model X.prog X.w) X.A X.env X.xe
  xs : XsOk P G X.K
structure CvK (G : Gx) (H : Hp) (K : Ks) (D : Ends) (W : WX) : Prop where
  nx : ∀ ρ' τ', K.nx ρ' τ' → ∀ σ' H', Grow H H' → RelL G H' ρ' σ' → Abs G τ' H' → D.nx σ' H'
  bk : ∀ ρ' τ', K.bk ρ' τ' → ∀ σ' H', Grow H H' → RelL G H' ρ' σ' → Abs G τ' H' → D.bk σ' H'
  ct : ∀ ρ' τ', K.ct ρ' τ' → ∀ σ' H', Grow H H' → RelL G H' ρ' σ' → Abs G τ' H' → D.ct σ' H'
  rt : CvQ G H K.rt D.rt
  ex : ∀ x ρ' τ', K.ex x ρ' τ' → ∀ cls dx σ' H', Grow H H' → RelX G H' x cls dx → RelL G H' ρ' σ' → Abs G τ' H' → W cls dx σ' H'
theorem CvK.mono {G : Gx} {H H1 : Hp} {K : Ks} {D : Ends} {W : WX} (h : CvK G H K D W) (g : Grow H H1) : CvK G H1 K D W :=
  ⟨fun ρ' τ' q σ' H' k => h.nx ρ' τ' q σ' H' (g.trans k), fun ρ' τ' q σ' H' k => h.bk ρ' τ' q σ' H' (g.trans k), fun ρ' τ' q σ' H' k => h.ct ρ' τ' q σ' H' (g.trans k), h.rt.mono g, fun x ρ' τ' q c d σ' H' k => h.ex x ρ' τ' q c d σ' H' (g.trans k)⟩
theorem CvK.cx {G : Gx} {H : Hp} {K : Ks} {D : Ends} {W : WX} {ρ : DL.Loc} {σ : L2.St} (h : CvK G H K D W) (rl : RelL G H ρ σ) : CvX G H (fun x τ' => K.ex x ρ τ') fun c d H' => W c d σ H' :=
  fun x τ' q cls dx H' g rx ab => h.ex x ρ τ' q cls dx σ H' g rx (rl.mono g) ab
def LS (G : Gx) (W : WX) (t : DL.Loc → Sto → Ks → Prop) : TS := fun D σ H => ∃ ρ τ K, RelL G H ρ σ ∧ Abs G τ H ∧ t ρ τ K ∧ CvK G H K D W
section
variable {P : Pg} {G : Gx} {n : Nat} {T : TC} {X : Cx} {W : WX}
def QS (P : Pg) (G : Gx) (n : Nat) (X : Cx) (W : WX) (s : Stmt) (s' : S) : Prop := PS X s (LS G W (wpS P.cls (callD P n) P.xcs s'))
def QSs (P : Pg) (G : Gx) (n : Nat) (X : Cx) (W : WX) (s : List Stmt) (s' : Ss) : Prop := PSs X s (LS G W (wpSs P.cls (callD P n) P.xcs s'))
variable {e a b o i : Expr} {e' a' b' o' i' : E} {es : List Expr} {es' : Es} {pos pos' pos2 : Pos} {s : Stmt} {s' : S} {ss ss2 : List Stmt} {ss' ss2' : Ss}
theorem qss_nil : QSs P G n X W [] .nil := pss_imp pss_nil fun D σ H ⟨ρ, τ, K, rl, ab, h, ck⟩ => ck.nx _ _ h _ _ (Grow.refl H) rl ab
theorem qss_cons (h1 : QS P G n X W s s') (h2 : QSs P G n X W ss ss') : QSs P G n X W (s :: ss) (.cons s' ss') := by
  refine pss_imp (pss_cons h1 h2) ?_
  rintro D σ H ⟨ρ, τ, K, rl, ab, h, ck⟩
  refine ⟨ρ, τ, _, rl, ab, h, ⟨fun ρ' τ' q σ' H' g rl' ab' => ?_, ck.bk, ck.ct, ck.rt, ck.ex⟩⟩
  exact ⟨ρ', τ', K, rl', ab', q, ck.mono g⟩
def noComp : Expr → Bool
  | .ListComp .. => false
  | .SetComp .. => false
  | .DictComp .. => false
  | _ => true
theorem swaps_of {v : Expr} {t : Option Expr} {l : Nat} {env : Env} (h : noComp v = true) : swapsWith v t l env = pure false := by
  cases v <;> first | rfl | cases h
theorem qs_exp (c : Sok P G n T X W) (h : QE P G n X W e e') (hc : noComp e = true) : QS P G n X W (.Expr e pos) (.exp e') := by
  refine ps_imp (ps_expr h.v (swaps_of hc)) ?_
  rintro D σ H ⟨ρ, τ, K, rl, ab, h, ck⟩
  exact ⟨ρ, τ, _, _, rl, ab, h, fun d τ1 q v H1 g r ab1 => ck.nx _ _ q _ _ g (rl.mono g) ab1, ck.cx rl⟩
theorem qs_ret (h : QE P G n X W e e') : QS P G n X W (.Return (some e) pos) (.ret e') := by
  refine ps_imp (ps_ret h.v) ?_
  rintro D σ H ⟨ρ, τ, K, rl, ab, h, ck⟩
  exact ⟨ρ, τ, _, _, rl, ab, h, ck.rt, ck.cx rl⟩
theorem qs_retN : QS P G n X W (.Return none pos) .retN := by
  refine ps_imp ps_retN ?_
  rintro D σ H ⟨ρ, τ, K, rl, ab, h, ck⟩
  exact ck.rt _ _ h _ _ (Grow.refl H) .non ab
theorem qs_pass : QS P G n X W (.Pass pos) .pass := ps_imp ps_pass fun D σ H ⟨ρ, τ, K, rl, ab, h, ck⟩ => ck.nx _ _ h _ _ (Grow.refl H) rl ab
theorem qs_brk : QS P G n X W (.Break pos) .brk := ps_imp ps_break fun D σ H ⟨ρ, τ, K, rl, ab, h, ck⟩ => ck.bk _ _ h _ _ (Grow.refl H) rl ab
theorem qs_cont : QS P G n X W (.Continue pos) .cont := ps_imp ps_continue fun D σ H ⟨ρ, τ, K, rl, ab, h, ck⟩ => ck.ct _ _ h _ _ (Grow.refl H) rl ab
theorem qs_if (ht : QE P G n X W a a') (h1 : QSs P G n X W ss ss') (h2 : QSs P G n X W ss2 ss2') : QS P G n X W (.If a ss ss2 pos) (.iff a' ss' ss2') := by
  refine ps_imp (ps_if ht.t h1 h2) ?_
  rintro D σ H ⟨ρ, τ, K, rl, ab, h, ck⟩
  refine ⟨ρ, τ, _, _, rl, ab, h, fun b τ1 q H1 g ab1 => ?_, ck.cx rl⟩
  cases b with
  | true =>
    rw [if_pos rfl] at q ⊢
    exact ⟨ρ, τ1, K, rl.mono g, ab1, q, ck.mono g⟩
  | false =>
    rw [if_neg Bool.false_ne_true] at q ⊢
    exact ⟨ρ, τ1, K, rl.mono g, ab1, q, ck.mono g⟩
/-- a store's target, from its reading over the value's -/
theorem ls_asg {tg' : Tg} {D : Ends} {σ : L2.St} {H : Hp} {g : TG} (hg : ∀ v σ H Q, LG G tg' v σ H Q → g v σ H Q) (h : LS G W (wpS P.cls (callD P n) P.xcs (.asg tg' e')) D σ H) : tAsg (LE G W (wpE P.cls (callD P n) e').v) g D σ H := by
  obtain ⟨ρ, τ, K, rl, ab, h, ck⟩ := h
  refine ⟨ρ, τ, _, _, rl, ab, h, fun d τ1 q v H1 g1 r ab1 => ?_, ck.cx rl⟩
  exact hg _ _ _ _ ⟨ρ, d, _, rl.mono g1, r, q, fun ρ' k σ' rl' _ => ck.nx _ _ k _ _ g1 rl' ab1⟩
theorem qs_set {x : Str} {j : Nat} (c : Sok P G n T X W) (hi : T.N[j]? = some x) (hl : locOk T x = true) (h : QE P G n X W e e') (hc : noComp e = true) : QS P G n X W (.Assign [.Name x pos'] e pos) (.asg (.name j) e') := by
  obtain ⟨h1, h2⟩ := locOk.loc c.c hl
  refine ps_imp (ps_set (i := j) c.c.nd (by rw [c.c.hN]; exact hi) h1 h.v (swaps_of hc) h2) fun D σ H k => ls_asg ?_ k
  rintro v σ H Q ⟨ρ, d, k, rl, rd, b, q⟩
  exact q _ b _ (rl.set j rd) fun vs hv => wipe_set_in σ j _ vs (hv j (List.mem_singleton.mpr rfl))
theorem qs_setLc {x : Str} {j : Nat} {elt' t' : E} {tg' : Tg} {k : ItK} (h : PS X s (tAsg (LE G W (wpE P.cls (callD P n) (.comp elt' tg' k es' t')).v) (gName j))) : QS P G n X W s (.asg (.name j) (.comp elt' tg' k es' t')) := by
  refine ps_imp h fun D σ H k => ls_asg ?_ k
  rintro v σ H Q ⟨ρ, d, k, rl, rd, b, q⟩
  exact q _ b _ (rl.set j rd) fun vs hv => wipe_set_in σ j _ vs (hv j (List.mem_singleton.mpr rfl))
def noTup : Expr → Bool
  | .Tuple .. => false
  | _ => true
theorem sole_of {t v : Expr} {l : Nat} {env : Env} (h : noComp v = true) : swapsWithSole [t] v l env = pure false := swaps_of h
theorem stores_of {t v : Expr} {env : Env} (h : noTup v = true) : swappedStores [t] v env = pure none := by
  cases v <;> first | (cases h; done) | (cases t <;> rfl)
theorem qs_tup {is : List Nat} {k : Nat} (c : Sok P G n T X W) (hn : namesTg T es = some is) (h : QE P G n X W e e') (hc : noComp e = true) (ht : noTup e = true) : QS P G n X W (.Assign [.Tuple es k pos'] e pos) (.asg (.tup is) e') :=
  ps_imp (ps_asg h.v (qg_tup c.c hn) (sole_of hc) (stores_of ht) (by rfl)) fun D σ H k => ls_asg (fun _ _ _ _ h => h) k
/-- o[i] = e -/
theorem ixD_eq {m : Nat} {k : Int} : ixD m k = ixN m k := rfl
theorem assign_sub {o i : Expr} {p : Pos} {env : Env} (h : noSl i = true) (v : Value) : assign (.Subscript o i p) env v = (do
      let ov ← holding [v] (eval o env)
      let iv ← holding [v, ov] (eval i env)
      standAt p
      holding [v, ov, iv] (setItem ov iv v)
      release [v, ov, iv] []) := by
  cases i <;> first | rfl | cases h
theorem qs_sub (c : Sok P G n T X W) (ho : QE P G n X W o o') (hi : QE P G n X W i i') (h : QE P G n X W e e') (hsl : noSl i = true) (hc : noComp e = true) (ht : noTup e = true) : QS P G n X W (.Assign [.Subscript o i pos'] e pos) (.asub o' i' e') := by
  refine ps_imp (ps_asg h.v (pg_sub ho.v hi.v set_list (assign_sub hsl)) (sole_of hc) (stores_of ht) (by rfl)) ?_
  rintro D σ H ⟨ρ, τ, K, rl, ab, h, ck⟩
  refine ⟨ρ, τ, _, _, rl, ab, h, fun d τ1 q v H1 g1 r ab1 => ?_, ck.cx rl⟩
  refine ⟨ρ, τ1, _, _, rl.mono g1, ab1, q, fun od τ2 q2 ov H2 g2 ro ab2 => ?_, (ck.mono g1).cx (rl.mono g1)⟩
  refine ⟨ρ, τ2, _, _, rl.mono (g1.trans g2), ab2, q2, fun id τ3 q3 iv H3 g3 ri ab3 => ?_, (ck.mono (g1.trans g2)).cx (rl.mono (g1.trans g2))⟩
  have g13 := (g1.trans g2).trans g3
  cases ro with
  | ref p => cases ri with
    | int m =>
      obtain ⟨xs, j, e1, e2, q4⟩ := q3
      obtain ⟨vs, f, rs⟩ := ab3.lst e1
      refine ⟨p, vs, m, j, rfl, rfl, f, by rw [← rs.length]; exact e2, ?_⟩
      have gl : Grow H3 (upd H3 p (.lst (vs.set j v))) := Grow.lst f
      exact ck.nx _ _ q4 _ _ (g13.trans gl) (rl.mono (g13.trans gl)) (ab3.chg gl (.lst ((rs.set (r.mono (g2.trans g3)) j).mono gl)))
    | _ => exact False.elim q3
  | _ => cases ri <;> exact False.elim q3
theorem qs_augAdd {x : Str} {j : Nat} (c : Sok P G n T X W) (hi : T.N[j]? = some x) (hl : locOk T x = true) (h : QE P G n X W e e') : QS P G n X W (.AugAssign (.Name x pos') .Add e pos) (.aug j .add e') := by
  obtain ⟨h1, h2⟩ := locOk.loc c.c hl
  refine ps_imp (ps_aug (i := j) c.c.nd (by rw [c.c.hN]; exact hi) h1 h.v ip_add h2) ?_
  rintro D σ H ⟨ρ, τ, K, rl, ab, ⟨x, e0, h⟩, ck⟩
  obtain ⟨v, e1, rv⟩ := rl.at_ j x e0
  refine ⟨v, e1, ρ, τ, _, _, rl, ab, h, ?_, ck.cx rl⟩
  rintro y τ1 ⟨a, b, rfl, rfl, q⟩ u H1 g r ab1
  cases rv; cases r
  exact ⟨a, b, rfl, rfl, ck.nx _ _ q _ _ g ((rl.mono g).set j (.int _)) ab1⟩
theorem qs_augSub {x : Str} {j : Nat} (c : Sok P G n T X W) (hi : T.N[j]? = some x) (hl : locOk T x = true) (h : QE P G n X W e e') : QS P G n X W (.AugAssign (.Name x pos') .Sub e pos) (.aug j .sub e') := by
  obtain ⟨h1, h2⟩ := locOk.loc c.c hl
  refine ps_imp (ps_aug (i := j) c.c.nd (by rw [c.c.hN]; exact hi) h1 h.v ip_sub h2) ?_
  rintro D σ H ⟨ρ, τ, K, rl, ab, ⟨x, e0, h⟩, ck⟩
  obtain ⟨v, e1, rv⟩ := rl.at_ j x e0
  refine ⟨v, e1, ρ, τ, _, _, rl, ab, h, ?_, ck.cx rl⟩
  rintro y τ1 ⟨a, b, rfl, rfl, q⟩ u H1 g r ab1
  cases rv; cases r
  exact ⟨a, b, rfl, rfl, ck.nx _ _ q _ _ g ((rl.mono g).set j (.int _)) ab1⟩
/-! ### loops -/
theorem qs_whl (c : Sok P G n T X W) (ht : QE P G n X W a a') (hb : QSs P G n X W ss ss') : QS P G n X W (.While a ss [] pos) (.whl a' ss') := by
  refine ps_imp (ps_while c.po ht.t hb) ?_
  rintro D σ H ⟨ρ, τ, K, rl, ab, ⟨m0, h⟩, ck⟩
  let body : DL.Loc → Sto → Ks → Prop := fun ρ τ K => wpSs P.cls (callD P n) P.xcs ss' ρ τ K
  refine ⟨fun m σ' H' => ∃ ρ' τ', Grow H H' ∧ RelL G H' ρ' σ' ∧ Abs G τ' H' ∧ whlGo (wpE P.cls (callD P n) a').t body K m ρ' τ', ⟨m0, ρ, τ, Grow.refl H, rl, ab, h⟩, ?_⟩
  rintro m σ1 H1 ⟨ρ1, τ1, g1, rl1, ab1, go⟩
  cases m with
  | zero => exact go.elim
  | succ m =>
    refine ⟨ρ1, τ1, _, _, rl1, ab1, go, fun k τ2 q H2 g2 ab2 => ?_, (ck.mono g1).cx rl1⟩
    have g12 := g1.trans g2
    cases k with
    | false =>
      rw [if_neg Bool.false_ne_true] at q
      refine iteF ?_
      exact ck.nx _ _ q _ _ g12 (rl1.mono g2) ab2
    | true =>
      rw [if_pos rfl] at q
      refine iteT ?_
      refine ⟨fun σ' H' => ∃ ρ' τ', Grow H H' ∧ RelL G H' ρ' σ' ∧ Abs G τ' H' ∧ whlGo (wpE P.cls (callD P n) a').t body K m ρ' τ', fun σ' H' k => ⟨m, Nat.lt_succ_self m, k⟩, ρ1, τ2, _, rl1.mono g2, ab2, q, ⟨?_, ?_, ?_, ck.rt.mono g12, (ck.mono g12).ex⟩⟩
      · exact fun ρ' τ' q' σ' H' g' rl' ab' => ⟨ρ', τ', g12.trans g', rl', ab', q'⟩
      · exact fun ρ' τ' q' σ' H' g' rl' ab' => ck.nx _ _ q' _ _ (g12.trans g') rl' ab'
      · exact fun ρ' τ' q' σ' H' g' rl' ab' => ⟨ρ', τ', g12.trans g', rl', ab', q'⟩
theorem qs_for {tg iter : Expr} {tg' : Tg} {k : ItK} (c : Sok P G n T X W) (hi : PI X tg iter (LI P G n W k es')) (hg : PG X tg (LG G tg')) (hb : QSs P G n X W ss ss') (hset : noSet iter = true) : QS P G n X W (.For tg iter ss [] pos) (.for_ tg' k es' ss') := by
  refine ps_imp (ps_for c.po c.c.calm hi hg hb (fun x => fold_of hset x)) ?_
  rintro D σ H ⟨ρ, τ, K, rl, ab, h, ck⟩
  let body : DL.Loc → Sto → Ks → Prop := fun ρ τ K => wpSs P.cls (callD P n) P.xcs ss' ρ τ K
  refine ⟨ρ, τ, _, fun items g τ1 => forGo g tg' body K items ρ τ1, rl, ab, h, ?_, ck.cx rl⟩
  intro items g τ1 go J H1 g1 ab1 hJ
  refine ⟨fun i m σ' H' => m = items.length - i ∧ i ≤ items.length ∧ ∃ ρ' τ', Grow H1 H' ∧ RelL G H' ρ' σ' ∧ Abs G τ' H' ∧ forGo g tg' body K (items.drop i) ρ' τ', ⟨items.length, rfl, Nat.zero_le _, ρ, τ1, Grow.refl _, rl.mono g1, ab1, go⟩, ?_⟩
  rintro i m σ2 H2 ⟨rfl, hle, ρ2, τ2, g2, rl2, ab2, go⟩
  by_cases hlt : i < items.length
  · rw [List.drop_eq_getElem_cons hlt] at go
    obtain ⟨hgt, go⟩ := go
    obtain ⟨hJ1, _⟩ := hJ i τ2 H2 g2 ab2 hgt
    obtain ⟨hgo', hy⟩ := hJ1 items[i] (List.getElem?_eq_getElem hlt)
    refine .inr ⟨hgo', fun σ' H' => i + 1 ≤ items.length ∧ ∃ ρ' τ', Grow H1 H' ∧ RelL G H' ρ' σ' ∧ Abs G τ' H' ∧ forGo g tg' body K (items.drop (i + 1)) ρ' τ', ?_, ?_⟩
    · rintro σ' H' ⟨h1, r⟩
      exact ⟨items.length - (i + 1), by omega, rfl, h1, r⟩
    · intro x H' hyl
      obtain ⟨g3, ab3, rx⟩ := hy x H' hyl
      have g23 := g2.trans g3
      refine ⟨ρ2, items[i], _, rl2.mono g3, rx, go, ?_⟩
      intro ρ' hk' σ' rl' _
      refine ⟨ρ', τ2, _, rl', ab3, hk', ⟨?_, ?_, ?_, ck.rt.mono (g1.trans g23), (ck.mono (g1.trans g23)).ex⟩⟩
      · exact fun ρ4 τ4 q σ4 H4 g4 rl4 ab4 => ⟨hlt, ρ4, τ4, g23.trans g4, rl4, ab4, q⟩
      · exact fun ρ4 τ4 q σ4 H4 g4 rl4 ab4 => ck.nx _ _ q _ _ ((g1.trans g23).trans g4) rl4 ab4
      · exact fun ρ4 τ4 q σ4 H4 g4 rl4 ab4 => ⟨hlt, ρ4, τ4, g23.trans g4, rl4, ab4, q⟩
  · have e : i = items.length := by omega
    subst e
    rw [List.drop_length] at go
    obtain ⟨hgt, q⟩ := go
    obtain ⟨_, hJ2⟩ := hJ items.length τ2 H2 g2 ab2 hgt
    exact .inl ⟨hJ2 (Nat.le_refl _), ck.nx _ _ q _ _ (g1.trans g2) rl2 ab2⟩
/-! ### exceptions -/
theorem qs_raise {x m : Str} {c : Nat} {j : Nat} {p p2 cp : Pos} (c0 : Sok P G n T X W) (hg : T.names.lookup x = some .globalImplicit) (hm : T.gl.lookup x = some (.xcs c)) (hc : ∃ i, P.xcs[c]? = some i ∧ i.att = none) (hd : (x == ("__debug__" : Str)) = false) :
    QS P G n X W (.Raise (some (.Call (.Name x p) [.Constant (.str m) j p2] [] cp)) none pos) (.raise c (.cons (.cst (.str (tl m))) .nil)) := by
  obtain ⟨xi, hx, hatt⟩ := hc
  refine ps_imp (ps_raise c0.c.calm c0.c.tk (pmk_own PySem.F.excBase_ValueError (c0.c.hK ▸ (c0.xs.exi c xi hx hatt)) (c0.c.glo x _ hm) (c0.xs.kp c xi hx) (raises_own (c0.xs.sub c xi hx) (c0.xs.ty c xi hx)) (glo_of c0.c hg) hd)) ?_
  rintro D σ H ⟨ρ, τ, K, rl, ab, ⟨xi', hx', h⟩, ck⟩
  rw [hx] at hx'
  cases hx'
  rw [hatt] at h
  exact ck.ex _ _ _ h _ _ _ _ (Grow.refl H) ⟨rfl, .inl ⟨rfl, rfl⟩⟩ rl ab
end
end DL
set_option maxHeartbeats 1000000
/-! DL6: try, and the translation of the text -/
namespace DL
open PySem PySem.Spec PyProof.Rows L2 TL
section
variable {P : Pg} {G : Gx} {n : Nat} {T : TC} {X : Cx} {W : WX}
theorem Sok.tr (c : Sok P G n T X W) {W' : WX} (pn : List (Addr × Obj)) (xe : Value → Shared → Prop) (tk : Takes (X.tr pn xe) W') (po : PassesOwn (model X.prog X.w) X.A X.env xe) : Sok P G n T (X.tr pn xe) W' where
  c := ⟨c.c.hN, c.c.nd, c.c.hK, c.c.sc, c.c.calm, c.c.room, tk, c.c.kind, c.c.fnl, c.c.glo, c.c.blt, c.c.fok⟩
  hs := c.hs
  hf := c.hf
  po := po
  xs := c.xs
/-- a suite that gives a constant -/
theorem qs_tryC {x : Str} {cc : Nat} {d : D} {v : V} {ee : Expr} {ss : List Stmt} {ss' : Ss} {np p4 p5 pos : Pos} (c : Sok P G n T X W) (hg : T.names.lookup x = some .globalImplicit) (hm : T.gl.lookup x = some (.xcs cc)) (hc : cc < P.xcs.length) (hd : (x == ("__debug__" : Str)) = false)
    (he : ∀ X', PE X' ee (tC v)) (hr : ∀ H, RelD G H d v) (hb : ∀ X' W', Sok P G n T X' W' → QSs P G n X' W' ss ss') :
    QS P G n X W (.Try ss [.ExceptHandler (some (.Name x np)) none [.Return (some ee) p4] p5] [] [] pos) (.try_ ss' cc (.cst d)) := by
  refine ps_imp (ps_try_only (tb := fun W' => LS G W' (wpSs P.cls (callD P n) P.xcs ss')) (ts := fun _ _ _ => tRet (tC v)) (c := .ref (G.xA cc)) c.hs c.hf ⟨glo_of c.c hg, hd, .inl (c.c.glo x _ hm)⟩ c.c.tk
    (fun W' pn xe tk po => hb _ _ (c.tr pn xe tk po)) (fun a oe cls d pn hz hf => pss_one (ps_ret (he _)))) ?_
  rintro D σ H ⟨ρ, τ, K, rl, ab, h, ck⟩
  refine ⟨ρ, τ, _, rl, ab, h, ⟨ck.nx, ck.bk, ck.ct, ck.rt, ?_⟩⟩
  rintro x1 ρ' τ' ⟨hl, q⟩ cls dx σ' H' g rx rl' ab'
  refine ⟨subX P.xcs x1.cls cc, ?_, fun e a ha => ?_, fun e => ?_⟩
  · rw [rx.1]; exact c.xs.exm _ _ hl hc
  · rw [if_pos e] at q
    exact ck.rt _ _ q _ _ g (hr _) ab'
  · rw [if_neg (by rw [e]; exact Bool.false_ne_true)] at q
    exact ck.ex _ _ _ q _ _ _ _ g rx rl' ab'
/-- except x as y: return isinstance(y, z) -/
theorem qs_tryI {x y z : Str} {cc cz i : Nat} {ss : List Stmt} {ss' : Ss} {np p1 p2 p3 p4 p5 p6 pos : Pos} (c : Sok P G n T X W) (hg : T.names.lookup x = some .globalImplicit) (hm : T.gl.lookup x = some (.xcs cc)) (hc : cc < P.xcs.length) (hd : (x == ("__debug__" : Str)) = false)
    (hi : T.N[i]? = some y) (hy : T.names.lookup y = some .local) (hyd : (y == ("__debug__" : Str)) = false) (hyc : (y == ("__classdict__" : Str)) = false)
    (hgz : T.names.lookup z = some .globalImplicit) (hmz : T.gl.lookup z = some (.xcs cz)) (hdz : (z == ("__debug__" : Str)) = false) (hgi : T.names.lookup ("isinstance" : Str) = some .globalImplicit) (hmi : ("isinstance" : Str) ∈ T.bl)
    (hb : ∀ X' W', Sok P G n T X' W' → QSs P G n X' W' ss ss') :
    QS P G n X W (.Try ss [.ExceptHandler (some (.Name x np)) (some y) [.Return (some (.Call (.Name "isinstance" p1) [.Name y p2, .Name z p3] [] p4)) p5] p6] [] [] pos) (.try_ ss' cc (.isi i cz)) := by
  refine ps_imp (ps_try_as (i := i) (tb := fun W' => LS G W' (wpSs P.cls (callD P n) P.xcs ss'))
    (ts := fun a cls d D σ H => ∃ ci, cls = .ref (G.xA ci) ∧ ci < P.xcs.length ∧ cz < P.xcs.length ∧ d = none ∧ σ[i]? = some (some (.ref a)) ∧ D.rt (.bl (subX P.xcs ci cz)) H) (c := .ref (G.xA cc)) c.hs c.hf c.c.nd (by rw [c.c.hN]; exact hi)
    (by unfold Env.kindOf; rw [c.c.sc]; exact hy) ⟨glo_of c.c hg, hd, .inl (c.c.glo x _ hm)⟩ c.c.tk
    (fun W' pn xe tk po => hb _ _ (c.tr pn xe tk po)) (fun a oe cls d pn hz hf => ⟨fun pins s σ H D I hh => ?_⟩)) ?_
  · obtain ⟨ci, rfl, h1, h2, rfl, h3, h4⟩ := hh
    have hX : P.xcs[ci]? = some P.xcs[ci] := List.getElem?_eq_getElem h1
    have pz : PE (X.suite a ((a, oe) :: pn)) (.Name z p3) (tC (.ref (G.xA cz))) := pe_glob (show Gl X z from glo_of c.c hgz) (c.c.glo z _ hmz) rfl hdz
    have py : PE (X.suite a ((a, oe) :: pn)) (.Name y p2) (tVar i) := pe_var (i := i) (show X.N[i]? = some y by rw [c.c.hN]; exact hi) (show Vis X.env.scope y by unfold Vis; rw [c.c.sc]; exact .inl hy) hyd hyc
    have pb := pe_callB (X := X.suite a ((a, oe) :: pn)) (p := p1) (pos := p4) (call_isE (c.xs.exc ci _ hX) hz hf) (show Gl X "isinstance" from glo_of c.c hgi) (c.c.blt _ hmi) (by decide +kernel) (pa_cons py (pa_cons pz pa_nil)) (by decide) (by decide)
    refine (pss_one (ps_ret (pos := p5) pb)).run pins s σ H D I ?_
    exact ⟨.ref a, h3, .ref (G.xA cz), .ref (G.xA cz), _, rfl, fun u r => r, c.xs.isi ci cz h1 h2, h4⟩
  · rintro D σ H ⟨ρ, τ, K, rl, ab, h, ck⟩
    refine ⟨ρ, τ, _, rl, ab, h, ⟨ck.nx, ck.bk, ck.ct, ck.rt, ?_⟩⟩
    rintro x1 ρ' τ' ⟨hl, q⟩ cls dx σ' H' g rx rl' ab'
    refine ⟨subX P.xcs x1.cls cc, ?_, fun e a ha => ?_, fun e => ?_⟩
    · rw [rx.1]; exact c.xs.exm _ _ hl hc
    · rw [if_pos e] at q
      obtain ⟨q0, q1, q2, q3⟩ := q
      have hdx : dx = none := by
        rcases rx.2 with h | h
        · exact h.2
        · exact absurd q1 h.1
      have hlen : i < σ'.length := by
        rw [← rl'.len]; exact q0
      refine ⟨x1.cls, rx.1, hl, q2, hdx, by rw [List.getElem?_set_self hlen], ck.rt _ _ q3 _ _ g (.bl _) ab'⟩
    · rw [if_neg (by rw [e]; exact Bool.false_ne_true)] at q
      exact ck.ex _ _ _ q _ _ _ _ g rx rl' ab'
end
end DL
set_option maxHeartbeats 1000000
/-! DL7: the text translated -/
namespace DL
open PySem PySem.Spec PyProof.Rows L2 TL
def bopT : Operator → Option Bop
  | .Add => some .add | .Sub => some .sub | .Mult => some .mul | .FloorDiv => some .fdiv | .Mod => some .mod | .Pow => some .pow
  | _ => none
theorem bopT_ok {o : Operator} {b : Bop} (h : bopT o = some b) : bopO b = o := by
  cases o <;> first | (cases h; rfl) | cases h
def copT : CmpOp → Option Cop
  | .Eq => some .eq | .NotEq => some .ne | .Lt => some .lt | .LtE => some .le | .Gt => some .gt | .GtE => some .ge | .In => some .inn | .NotIn => some .nin | .Is => some .iss | .IsNot => some .isn
theorem copT_ok {o : CmpOp} {b : Cop} (h : copT o = some b) : copO b = o := by
  cases o <;> cases h <;> rfl
def bltOf (x : Str) : Option Blt :=
  if x = "len" then some .len else if x = "abs" then some .abs else if x = "int" then some .int else if x = "str" then some .str else if x = "list" then some .list else if x = "tuple" then some .tuple
  else if x = "all" then some .all else if x = "any" then some .any else if x = "ord" then some .ord else if x = "divmod" then some .divmod else none
structure BltK (x : Str) (b : Blt) : Prop where
  hT : bltT b = []
  hv : (∃ id, bltV b = .builtin id ∧ bootBuiltins x = some (.builtin id)) ∨ ∃ id, bltV b = .type id ∧ bootBuiltins x = some (.type id)
  hn : x ≠ "__name__"
  hd : (x == ("__debug__" : Str)) = false
theorem bltOf_ok {x : Str} {b : Blt} (h : bltOf x = some b) : BltK x b := by
  unfold bltOf at h
  split at h
  · rename_i e; cases h; subst e; exact ⟨rfl, .inl ⟨_, rfl, by decide +kernel⟩, by decide, by decide⟩
  split at h
  · rename_i e; cases h; subst e; exact ⟨rfl, .inl ⟨_, rfl, by decide +kernel⟩, by decide, by decide⟩
  split at h
  · rename_i e; cases h; subst e; exact ⟨rfl, .inr ⟨_, rfl, by decide +kernel⟩, by decide, by decide⟩
  split at h
  · rename_i e; cases h; subst e; exact ⟨rfl, .inr ⟨_, rfl, by decide +kernel⟩, by decide, by decide⟩
  split at h
  · rename_i e; cases h; subst e; exact ⟨rfl, .inr ⟨_, rfl, by decide +kernel⟩, by decide, by decide⟩
  split at h
  · rename_i e; cases h; subst e; exact ⟨rfl, .inr ⟨_, rfl, by decide +kernel⟩, by decide, by decide⟩
  split at h
  · rename_i e; cases h; subst e; exact ⟨rfl, .inl ⟨_, rfl, by decide +kernel⟩, by decide, by decide⟩
  split at h
  · rename_i e; cases h; subst e; exact ⟨rfl, .inl ⟨_, rfl, by decide +kernel⟩, by decide, by decide⟩
  split at h
  · rename_i e; cases h; subst e; exact ⟨rfl, .inl ⟨_, rfl, by decide +kernel⟩, by decide, by decide⟩
  split at h
  · rename_i e; cases h; subst e; exact ⟨rfl, .inl ⟨_, rfl, by decide +kernel⟩, by decide, by decide⟩
  · cases h
def isiOf (y : Str) : Option Blt :=
  if y = "int" then some .isint else if y = "str" then some .isstr else if y = "tuple" then some .istup else if y = "bool" then some .isbool else none
structure IsiK (y : Str) (b : Blt) (N : String) : Prop where
  hv : bootBuiltins y = some (.type N)
  hid : bltV b = .builtin "isinstance"
  hT : bltT b = [.ty N]
  hn : y ≠ "__name__"
  hd : (y == ("__debug__" : Str)) = false
theorem isiOf_ok {y : Str} {b : Blt} (h : isiOf y = some b) : ∃ N, IsiK y b N := by
  unfold isiOf at h
  split at h
  · rename_i e; cases h; subst e; exact ⟨"int", by decide +kernel, rfl, rfl, by decide, by decide⟩
  split at h
  · rename_i e; cases h; subst e; exact ⟨"str", by decide +kernel, rfl, rfl, by decide, by decide⟩
  split at h
  · rename_i e; cases h; subst e; exact ⟨"tuple", by decide +kernel, rfl, rfl, by decide, by decide⟩
  split at h
  · rename_i e; cases h; subst e; exact ⟨"bool", by decide +kernel, rfl, rfl, by decide, by decide⟩
  · cases h
def bmtOf (m : Str) : Option Bmt :=
  if m = "append" then some .append else if m = "pop" then some .pop else if m = "join" then some .join else if m = "find" then some .find else if m = "zfill" then some .zfill else none
theorem bmtOf_ok {m : Str} {b : Bmt} (h : bmtOf m = some b) : m = bmtN b ∧ ∃ id, BmtK b id := by
  unfold bmtOf at h
  split at h
  · rename_i e; cases h; exact ⟨e, _, bk_append⟩
  split at h
  · rename_i e; cases h; exact ⟨e, _, bk_pop⟩
  split at h
  · rename_i e; cases h; exact ⟨e, _, bk_join⟩
  split at h
  · rename_i e; cases h; exact ⟨e, _, bk_find⟩
  split at h
  · rename_i e; cases h; exact ⟨e, _, bk_zfill⟩
  · cases h
/-! ### expressions -/
def trEs (f : Expr → Option E) : List Expr → Option Es
  | [] => some .nil
  | e :: es => if notStar e = true then match f e, trEs f es with
    | some a, some b => some (.cons a b)
    | _, _ => none else none
def trB (f : Expr → Option E) (op : BoolOp) : List Expr → Option E
  | [] => none
  | [a] => f a
  | a :: b :: r => match f a, trB f op (b :: r) with
    | some x, some y => some (match op with | .And => .and x y | .Or => .or x y)
    | _, _ => none
def trO (f : Expr → Option E) : Option Expr → Option (Bool × E)
  | none => some (false, .cst .non)
  | some e => match f e with
    | some a => some (true, a)
    | none => none
def trConst : Const → Option D
  | .none => some .non
  | .bool b => some (.bl b)
  | .int i => some (.int i)
  | .str x => if (tl x).all (fun c => decide (c < 1114112)) = true then some (.str (tl x)) else none
  | _ => none
def trName (T : TC) (x : Str) : Option E :=
  if (x == ("__debug__" : Str)) = false ∧ (x == ("__classdict__" : Str)) = false then match T.names.lookup x with
    | some .local | some .cell | some .free => if T.N[T.N.idxOf x]? = some x then some (.var (T.N.idxOf x)) else none
    | some .globalImplicit => match T.gl.lookup x with
      | some (.con d) => some (.cst d)
      | some (.fn f) => some (.cst (.fn f))
      | _ => none
    | _ => none else none
def trTg (T : TC) : Expr → Option Tg
  | .Name x _ => if locOk T x = true ∧ T.N[T.N.idxOf x]? = some x then some (.name (T.N.idxOf x)) else none
  | .Tuple es _ _ => (namesTg T es).map .tup
  | _ => none
def isGlo (T : TC) (x : Str) : Bool := match T.names.lookup x with
  | some .globalImplicit => true
  | _ => false
theorem isGlo_ok {T : TC} {x : Str} (h : isGlo T x = true) : T.names.lookup x = some .globalImplicit := by
  unfold isGlo at h
  split at h
  · assumption
  · cases h
def few (es : List Expr) : Bool := decide (es.length < 20)
def trIt (T : TC) (f : Expr → Option E) : Expr → Option (ItK × Es)
  | .Call (.Name x p) es [] pos => if x = "range" ∧ isGlo T x = true ∧ x ∈ T.bl then match es, trEs f es with
      | [_], some es' => some (.range1, es')
      | [_, _], some es' => some (.range2, es')
      | [_, _, _], some es' => some (.range3, es')
      | _, _ => none
    else match f (.Call (.Name x p) es [] pos) with
      | some a => some (.of, .cons a .nil)
      | none => none
  | e => match f e with
    | some a => some (.of, .cons a .nil)
    | none => none
def trIfs (f : Expr → Option E) : List Expr → Option E
  | [] => some (.cst (.bl true))
  | [e] => f e
  | _ => none
def nFns (P : Pg) (f : Nat) : Bool := decide (f < P.fns.length)
def trE1 (P : Pg) (f0 : TC → Expr → Option E) : TC → Expr → Option E
  | T, .Constant c _ _ => (trConst c).map .cst
  | T, .Name x _ => trName T x
  | T, .BinOp a o b _ => match bopT o, f0 T a, f0 T b with
    | some o, some a, some b => some (.bin o a b)
    | _, _, _ => none
  | T, .UnaryOp .USub a _ => match f0 T a with
    | some a => some (.neg a)
    | none => none
  | T, .UnaryOp .Not a _ => match f0 T a with
    | some a => some (.not a)
    | none => none
  | T, .Compare a [o] [b] _ => if noSet b = true then match copT o, f0 T a, f0 T b with
    | some o, some a, some b => some (.cmp o a b)
    | _, _, _ => none else none
  | T, .BoolOp op es _ => trB (f0 T) op es
  | T, .Tuple es _ _ => (trEs (f0 T) es).map .tup
  | T, .List es _ => (trEs (f0 T) es).map .lst
  | T, .Subscript a (.Slice lo hi none _) _ => match f0 T a, trO (f0 T) lo, trO (f0 T) hi with
    | some a, some (bl, lo), some (bh, hi) => some (.slc bl bh a lo hi)
    | _, _, _ => none
  | T, .Subscript a (.Slice none none (some (.UnaryOp .USub (.Constant (.int 1) _ _) _)) _) _ => match f0 T a with
    | some a => some (.rev a)
    | none => none
  | T, .Subscript a i _ => if noSl i = true then match f0 T a, f0 T i with
    | some a, some i => some (.idx a i)
    | _, _ => none else none
  | T, .Call (.Name x _) es [] _ =>
    if (x == ("__debug__" : Str)) = false ∧ isGlo T x = true then match T.gl.lookup x with
      | some (.fn f) => if nFns P f = true then (trEs (f0 T) es).map (.call f) else none
      | some _ => none
      | none => if x ∈ T.bl then
          if x = "isinstance" then match es with
            | [a, .Name y _] => if isGlo T y = true ∧ y ∈ T.bl ∧ notStar a = true then match isiOf y, f0 T a with
              | some b, some a => some (.blt b (.cons a .nil))
              | _, _ => none else none
            | _ => none
          else match bltOf x, es, trEs (f0 T) es with
            | some b, _ :: _, some es => some (.blt b es)
            | _, _, _ => none
        else none
    else none
  | T, .Call (.Attribute o mm ap) es [] cp => if noSup o = true ∧ (ap.endLine == cp.line) = true ∧ few es = true then match bmtOf mm, f0 T o, trEs (f0 T) es with
    | some b, some o, some es => some (.bmt o b es)
    | _, _, _ => none else none
  | T, .ListComp elt [⟨tg, iter, ifs, k⟩] scope _ => if k = 0 ∧ noSet iter = true then match trIt T (f0 T) iter, trTg (T.blk scope) tg, trIfs (f0 (T.blk scope)) ifs, f0 (T.blk scope) elt with
    | some (k, es), some tg, some t, some elt => if scope.kind = .function ∧ blkC T.N ⟨.function, T.names, false, false, []⟩ scope (tg.slots.map fun i => (T.N.getD i "", i)) = true then some (.comp elt tg k es t) else none
    | _, _, _, _ => none else none
  | _, _ => none
def trE (P : Pg) : Nat → TC → Expr → Option E
  | 0, _, _ => none
  | m + 1, T, e => trE1 P (trE P m) T e
theorem trE_star {P : Pg} {m : Nat} {T : TC} {e : Expr} {e' : E} (h : trE P m T e = some e') : notStar e = true := by
  cases m with
  | zero => cases h
  | succ m =>
    have h : trE1 P (trE P m) T e = some e' := h
    cases e <;> first | rfl | cases h
section
variable {P : Pg} {G : Gx} {n : Nat} {W : WX}
theorem qa_of {X : Cx} {f : Expr → Option E} (h : ∀ e e', f e = some e' → QE P G n X W e e') : ∀ {es : List Expr} {es' : Es}, trEs f es = some es' → QA P G n X W es es' ∧ es.all notStar = true
  | [], es', q => by cases q; exact ⟨qa_nil, rfl⟩
  | e :: es, es', q => by
    unfold trEs at q
    split at q
    · rename_i hs
      split at q
      · rename_i a b e1 e2
        cases q
        obtain ⟨r1, r2⟩ := qa_of h e2
        exact ⟨qa_cons (h _ _ e1) hs r1, by rw [List.all_cons, hs, r2] <;> rfl⟩
      · cases q
    · cases q
theorem qb_of {X : Cx} {f : Expr → Option E} {op : BoolOp} {pos : Pos} (h : ∀ e e', f e = some e' → QE P G n X W e e') : ∀ {es : List Expr} {e' : E}, trB f op es = some e' → QB P G n X W op es pos e'
  | [], e', q => by cases q
  | [a], e', q => by
    cases op with
    | And => exact qb_oneA (h _ _ q)
    | Or => exact qb_oneO (h _ _ q)
  | a :: b :: r, e', q => by
    unfold trB at q
    split at q
    · rename_i x y e1 e2
      cases op with
      | And => cases q; exact qb_and (h _ _ e1) (qb_of h e2)
      | Or => cases q; exact qb_or (h _ _ e1) (qb_of h e2)
    · cases q
theorem qo_of {X : Cx} {f : Expr → Option E} (h : ∀ e e', f e = some e' → QE P G n X W e e') {o : Option Expr} {b : Bool} {e' : E} (q : trO f o = some (b, e')) : QO P G n X W o b e' := by
  cases o with
  | none => cases q; exact qo_none
  | some e =>
    have q : (match f e with | some a => some (true, a) | none => none) = some (b, e') := q
    split at q
    · rename_i a e1; cases q; exact qo_some (h _ _ e1)
    · cases q
theorem qe_const {T : TC} {X : Cx} {c : Const} {d : D} {k : Nat} {pos : Pos} (c0 : Cok P G n T X W) (h : trConst c = some d) : QE P G n X W (.Constant c k pos) (.cst d) := by
  cases c with
  | none => cases h; exact qe_cst c0 pe_non (fun _ => .non) rfl
  | bool b => cases h; exact qe_cst c0 pe_bl (fun _ => .bl b) rfl
  | int i => cases h; exact qe_cst c0 pe_int (fun _ => .int i) rfl
  | str x =>
    have h : (if (tl x).all (fun c => decide (c < 1114112)) = true then some (D.str (tl x)) else none) = some d := h
    split at h
    · rename_i q
      cases h
      refine qe_cst c0 (v := .str (toS (tl x))) (by rw [toS_tl]; exact pe_str) (fun _ => .str _ ?_) rfl
      intro c hc
      simpa using List.all_eq_true.mp q c hc
    · cases h
  | _ => cases h
theorem qe_name {T : TC} {X : Cx} {x : Str} {pos : Pos} {e' : E} (c : Cok P G n T X W) (h : trName T x = some e') : QE P G n X W (.Name x pos) e' := by
  unfold trName at h
  split at h
  · rename_i hd
    split at h
    · rename_i e1; split at h
      · rename_i e2; cases h; exact qe_var c e2 (.inl e1) hd.1 hd.2
      · cases h
    · rename_i e1; split at h
      · rename_i e2; cases h; exact qe_var c e2 (.inr (.inl e1)) hd.1 hd.2
      · cases h
    · rename_i e1; split at h
      · rename_i e2; cases h; exact qe_var c e2 (.inr (.inr e1)) hd.1 hd.2
      · cases h
    · rename_i e1; split at h
      · rename_i d e2
        cases h
        obtain ⟨u, v, h1, h2, h3⟩ := c.glo x _ e2
        exact qe_cst c (pe_glob (glo_of c e1) h1 h2 hd.1) h3 rfl
      · rename_i f e2
        cases h
        have h1 : X.mg x = some (.ref (G.fA f)) := c.glo x _ e2
        exact qe_cst c (pe_glob (v := .ref (G.fA f)) (glo_of c e1) h1 rfl hd.1) (fun _ => .fn f) rfl
      · cases h
    · cases h
  · cases h
theorem qg_of {T : TC} {X : Cx} {e : Expr} {tg : Tg} (c : Cok P G n T X W) (h : trTg T e = some tg) : PG X e (LG G tg) := by
  cases e with
  | Name x p =>
    have h : (if locOk T x = true ∧ T.N[T.N.idxOf x]? = some x then some (Tg.name (T.N.idxOf x)) else none) = some tg := h
    split at h
    · rename_i q; cases h; exact qg_name c q.2 q.1
    · cases h
  | Tuple es k p =>
    have h : (namesTg T es).map .tup = some tg := h
    cases e1 : namesTg T es with
    | none => rw [e1] at h; cases h
    | some is => rw [e1] at h; cases h; exact qg_tup c e1
  | _ => cases h
theorem qi_of' {T : TC} {X : Cx} {f : Expr → Option E} {e tg : Expr} {k : ItK} {es' : Es} (c : Cok P G n T X W) (h : ∀ e e', f e = some e' → QE P G n X W e e') (q : trIt T f e = some (k, es')) : PI X tg e (LI P G n W k es') := by
  have gen : ∀ e0, (match f e0 with | some a => some (ItK.of, Es.cons a .nil) | none => none) = some (k, es') → PI X tg e0 (LI P G n W k es') := by
    intro e0 q
    split at q
    · rename_i a e1; cases q; exact qi_of c (h _ _ e1)
    · cases q
  cases e with
  | Call fn es kws pos =>
    cases fn with
    | Name x p => cases kws with
      | nil =>
        have q0 : (if x = "range" ∧ isGlo T x = true ∧ x ∈ T.bl then (match (generalizing := false) es, trEs f es with
            | [_], some es' => some (ItK.range1, es')
            | [_, _], some es' => some (.range2, es')
            | [_, _, _], some es' => some (.range3, es')
            | _, _ => none) else (match f (.Call (.Name x p) es [] pos) with
      | some a => some (ItK.of, Es.cons a .nil)
      | none => none)) = some (k, es') := q
        by_cases hx : x = "range" ∧ isGlo T x = true ∧ x ∈ T.bl
        · rw [if_pos hx] at q0
          obtain ⟨rfl, hg, hm⟩ := hx
          replace q := q0
          split at q
          · rename_i e1; cases q
            obtain ⟨r1, r2⟩ := qa_of h e1
            exact qi_range1 c (isGlo_ok hg) hm r1 (by simpa using r2)
          · rename_i e1; cases q
            obtain ⟨r1, r2⟩ := qa_of h e1
            simp only [List.all_cons, List.all_nil, Bool.and_true, Bool.and_eq_true] at r2
            exact qi_range2 c (isGlo_ok hg) hm r1 r2.1 r2.2
          · rename_i e1; cases q
            obtain ⟨r1, r2⟩ := qa_of h e1
            simp only [List.all_cons, List.all_nil, Bool.and_true, Bool.and_eq_true] at r2
            exact qi_range3 c (isGlo_ok hg) hm r1 r2.1 r2.2.1 r2.2.2
          · cases q
        · rw [if_neg hx] at q0
          exact gen _ q0
      | cons _ _ => exact gen _ q
    | _ => exact gen _ q
  | _ => exact gen _ q
theorem own_slots (N : List Str) (is : List Nat) : (is.map fun i => (N.getD i "", i)).map (·.2) = is := by
  rw [List.map_map]
  exact List.map_id is
theorem trE1_ok {f0 : TC → Expr → Option E} (H : ∀ (T : TC) (e : Expr) (e' : E), f0 T e = some e' → ∀ (W : WX) (X : Cx), Cok P G n T X W → QE P G n X W e e') : ∀ (T : TC) (e : Expr) (e' : E), trE1 P f0 T e = some e' → ∀ (W : WX) (X : Cx), Cok P G n T X W → QE P G n X W e e' := by
    intro T e e' h W X c
    have ih : ∀ e e', f0 T e = some e' → QE P G n X W e e' := fun e e' q => H T e e' q W X c
    unfold trE1 at h
    split at h
    · -- constants
      rename_i c1 k p
      cases e1 : trConst c1 with
      | none => rw [e1] at h; cases h
      | some d => rw [e1] at h; cases h; exact qe_const c e1
    · exact qe_name c h
    · split at h
      · rename_i o' a' b' e1 e2 e3
        cases h
        rw [← bopT_ok e1]
        exact qe_bin c (ih _ _ e2) (ih _ _ e3)
      · cases h
    · split at h
      · rename_i a' e1; cases h; exact qe_neg c (ih _ _ e1)
      · cases h
    · split at h
      · rename_i a' e1; cases h; exact qe_not c (ih _ _ e1)
      · cases h
    · split at h
      · rename_i hs
        split at h
        · rename_i o' a' b' e1 e2 e3
          cases h
          rw [← copT_ok e1]
          exact qe_cmp c (ih _ _ e2) (ih _ _ e3) hs
        · cases h
      · cases h
    · exact (qb_of ih h).qe
    · rename_i es k p
      cases e1 : trEs (f0 T) es with
      | none => rw [e1] at h; cases h
      | some es' => rw [e1] at h; cases h; exact qe_tup c (qa_of ih e1).1
    · rename_i es p
      cases e1 : trEs (f0 T) es with
      | none => rw [e1] at h; cases h
      | some es' => rw [e1] at h; cases h; exact qe_lst c (qa_of ih e1).1
    · split at h
      · rename_i a' bl lo' bh hi' e1 e2 e3
        cases h
        exact qe_slc c (ih _ _ e1) (qo_of ih e2) (qo_of ih e3)
      · cases h
    · split at h
      · rename_i a' e1; cases h; exact qe_rev c (ih _ _ e1)
      · cases h
    · split at h
      · rename_i hs
        split at h
        · rename_i a' i' e1 e2
          cases h
          exact qe_idx c (ih _ _ e1) (ih _ _ e2) hs
        · cases h
      · cases h
    · -- calls of names
      rename_i x p es cp
      split at h
      · rename_i hx
        have hg := isGlo_ok hx.2
        split at h
        · rename_i f e1
          split at h
          · rename_i hf
            have hf' : ∃ i, P.fns[f]? = some i := ⟨_, List.getElem?_eq_getElem (of_decide_eq_true hf)⟩
            cases e2 : trEs (f0 T) es with
            | none => rw [e2] at h; cases h
            | some es' =>
              rw [e2] at h; cases h
              obtain ⟨r1, r2⟩ := qa_of ih e2
              cases es with
              | nil =>
                cases e2
                exact qe_call0 c hg e1 hf' hx.1
              | cons a es =>
                simp only [List.all_cons, Bool.and_eq_true] at r2
                exact qe_call c hg e1 hf' r1 r2.1 r2.2 hx.1
          · cases h
        · cases h
        · split at h
          · rename_i hb
            split at h
            · rename_i hi
              subst hi
              split at h
              · split at h
                · rename_i hy
                  split at h
                  · rename_i b a' e1 e2
                    cases h
                    obtain ⟨N, k⟩ := isiOf_ok e1
                    exact qe_isi c hg hb (isGlo_ok hy.1) hy.2.1 k.hv k.hid k.hT (ih _ _ e2) hy.2.2 k.hn k.hd
                  · cases h
                · cases h
              · cases h
            · split at h
              · rename_i b a es es' e1 e2
                cases h
                have k := bltOf_ok e1
                obtain ⟨r1, r2⟩ := qa_of ih e2
                simp only [List.all_cons, Bool.and_eq_true] at r2
                rcases k.hv with ⟨id, h1, h2⟩ | ⟨id, h1, h2⟩
                · exact qe_bltF c hg hb h2 h1 k.hT r1 r2.1 r2.2 k.hn k.hd
                · exact qe_bltC c hg hb h2 h1 k.hT r1 r2.1 r2.2 k.hn k.hd
              · cases h
          · cases h
      · cases h
    · -- methods
      rename_i o mm ap es cp
      split at h
      · rename_i hx
        split at h
        · rename_i b o' es' e1 e2 e3
          cases h
          obtain ⟨rfl, id, k⟩ := bmtOf_ok e1
          obtain ⟨r1, r2⟩ := qa_of ih e3
          cases es with
          | nil =>
            cases e3
            exact qe_bmt0 c k (ih _ _ e2) hx.1 hx.2.1
          | cons a es =>
            simp only [List.all_cons, Bool.and_eq_true] at r2
            exact qe_bmt c k (ih _ _ e2) hx.1 r1 r2.1 r2.2 (of_decide_eq_true hx.2.2) hx.2.1
        · cases h
      · cases h
    · -- comprehensions
      rename_i elt tg iter ifs k scope p
      split at h
      · rename_i hx
        obtain ⟨rfl, hset⟩ := hx
        split at h
        · rename_i k' es' tg' t' elt' e1 e2 e3 e4
          split at h
          · rename_i hb
            cases h
            refine qe_comp c (qi_of' c ih e1) hb.2 hb.1 (own_slots _ _) hset (fun X' c' => qg_of c' e2) (fun X' c' => ?_) (fun X' c' => H _ _ _ e4 _ X' c')
            match ifs, e3 with
            | [], e3 => cases e3; exact qts_nil
            | [e], e3 => exact qts_one (H _ _ _ e3 _ X' c')
          · cases h
        · cases h
      · cases h
    · cases h
theorem trE_ok : ∀ (m : Nat) (T : TC) (e : Expr) (e' : E), trE P m T e = some e' → ∀ (W : WX) (X : Cx), Cok P G n T X W → QE P G n X W e e'
  | 0, _, _, _, h, _, _, _ => by cases h
  | m + 1, T, e, e', h, W, X, c => trE1_ok (trE_ok m) T e e' h W X c
end
end DL
set_option maxHeartbeats 1000000
/-! DL8: statements translated -/
namespace DL
open PySem PySem.Spec PyProof.Rows L2 TL
def trSs (f : Stmt → Option S) : List Stmt → Option Ss
  | [] => some .nil
  | s :: ss => match f s, trSs f ss with
    | some a, some b => some (.cons a b)
    | _, _ => none
def xcOf (P : Pg) (T : TC) (x : Str) : Option Nat :=
  if isGlo T x = true ∧ (x == ("__debug__" : Str)) = false then match T.gl.lookup x with
    | some (.xcs c) => if c < P.xcs.length then some c else none
    | _ => none else none
structure XcK (P : Pg) (T : TC) (x : Str) (c : Nat) : Prop where
  hg : T.names.lookup x = some .globalImplicit
  hm : T.gl.lookup x = some (.xcs c)
  hc : c < P.xcs.length
  hd : (x == ("__debug__" : Str)) = false
theorem xcOf_ok {P : Pg} {T : TC} {x : Str} {c : Nat} (h : xcOf P T x = some c) : XcK P T x c := by
  unfold xcOf at h
  split at h
  · rename_i q
    split at h
    · rename_i c' e1
      split at h
      · rename_i e2; cases h; exact ⟨isGlo_ok q.1, e1, e2, q.2⟩
      · cases h
    · cases h
  · cases h
def plainX (P : Pg) (c : Nat) : Bool := match P.xcs[c]? with
  | some i => i.att.isNone
  | none => false
theorem plainX_ok {P : Pg} {c : Nat} (h : plainX P c = true) : ∃ i, P.xcs[c]? = some i ∧ i.att = none := by
  unfold plainX at h
  split at h
  · rename_i i e; exact ⟨i, e, by cases q : i.att with | none => rfl | some _ => rw [q] at h; cases h⟩
  · cases h
/-- what a handler returns -/
def retC (T : TC) : Expr → Option D
  | .Constant c _ _ => trConst c
  | _ => none
def trS1 (P : Pg) (f0 : TC → Expr → Option E) (fs : Stmt → Option S) (T : TC) : Stmt → Option S
  | .Assign [.Name y py] (.ListComp elt [⟨tg, iter, ifs, k⟩] scope pos) _ => if k = 0 ∧ noSet iter = true ∧ scope.kind = .function ∧ T.N[T.N.idxOf y]? = some y ∧ T.names.lookup y = some .local ∧ (py.line == pos.line) = true ∧ (scope.names.any fun (n, k) => n == y && (k == .local || k == .cell)) = false then
      match trIt T (f0 T) iter, trTg (T.blk scope) tg, trIfs (f0 (T.blk scope)) ifs, f0 (T.blk scope) elt with
      | some (k, es), some tg, some t, some elt => if blkC T.N ⟨.function, T.names, false, false, []⟩ scope (tg.slots.map fun i => (T.N.getD i "", i)) = true then some (.asg (.name (T.N.idxOf y)) (.comp elt tg k es t)) else none
      | _, _, _, _ => none else none
  | .Assign [.Name y _] e _ => if noComp e = true ∧ locOk T y = true ∧ T.N[T.N.idxOf y]? = some y then match f0 T e with
      | some e => some (.asg (.name (T.N.idxOf y)) e)
      | none => none else none
  | .Assign [.Tuple es _ _] e _ => if noComp e = true ∧ noTup e = true then match namesTg T es, f0 T e with
      | some is, some e => some (.asg (.tup is) e)
      | _, _ => none else none
  | .Assign [.Subscript o i _] e _ => if noSl i = true ∧ noComp e = true ∧ noTup e = true then match f0 T o, f0 T i, f0 T e with
      | some o, some i, some e => some (.asub o i e)
      | _, _, _ => none else none
  | .AugAssign (.Name x _) .Add e _ => if locOk T x = true ∧ T.N[T.N.idxOf x]? = some x then match f0 T e with
      | some e => some (.aug (T.N.idxOf x) .add e)
      | none => none else none
  | .AugAssign (.Name x _) .Sub e _ => if locOk T x = true ∧ T.N[T.N.idxOf x]? = some x then match f0 T e with
      | some e => some (.aug (T.N.idxOf x) .sub e)
      | none => none else none
  | .Expr e _ => if noComp e = true then match f0 T e with
      | some e => some (.exp e)
      | none => none else none
  | .Return (some e) _ => match f0 T e with
      | some e => some (.ret e)
      | none => none
  | .Return none _ => some .retN
  | .Pass _ => some .pass
  | .Break _ => some .brk
  | .Continue _ => some .cont
  | .If a ss ss2 _ => match f0 T a, trSs fs ss, trSs fs ss2 with
      | some a, some ss, some ss2 => some (.iff a ss ss2)
      | _, _, _ => none
  | .While a ss [] _ => match f0 T a, trSs fs ss with
      | some a, some ss => some (.whl a ss)
      | _, _ => none
  | .For tg iter ss [] _ => if noSet iter = true then match trIt T (f0 T) iter, trTg T tg, trSs fs ss with
      | some (k, es), some tg, some ss => some (.for_ tg k es ss)
      | _, _, _ => none else none
  | .Raise (some (.Call (.Name x _) [.Constant (.str m) _ _] [] _)) none _ => match xcOf P T x with
      | some c => if plainX P c = true then some (.raise c (.cons (.cst (.str (tl m))) .nil)) else none
      | none => none
  | .Try ss [.ExceptHandler (some (.Name x _)) none [.Return (some (.Constant (.bool b) _ _)) _] _] [] [] _ => match xcOf P T x, trSs fs ss with
      | some c, some ss => some (.try_ ss c (.cst (.bl b)))
      | _, _ => none
  | .Try ss [.ExceptHandler (some (.Name x _)) (some y) [.Return (some (.Call (.Name i _) [.Name y2 _, .Name z _] [] _)) _] _] [] [] _ => if i = "isinstance" ∧ y2 = y ∧ isGlo T i = true ∧ i ∈ T.bl ∧ T.N[T.N.idxOf y]? = some y ∧ T.names.lookup y = some .local ∧ (y == ("__debug__" : Str)) = false ∧ (y == ("__classdict__" : Str)) = false then
      match xcOf P T x, xcOf P T z, trSs fs ss with
      | some c, some cz, some ss => some (.try_ ss c (.isi (T.N.idxOf y) cz))
      | _, _, _ => none else none
  | _ => none
def trS (P : Pg) (T : TC) : Nat → Stmt → Option S
  | 0, _ => none
  | m + 1, s => trS1 P (trE P 60) (trS P T m) T s
section
variable {P : Pg} {G : Gx} {n : Nat}
def OkS (P : Pg) (G : Gx) (n : Nat) (T : TC) (s : Stmt) (s' : S) : Prop := ∀ (W : WX) (X : Cx), Sok P G n T X W → QS P G n X W s s'
theorem qss_of {T : TC} {f : Stmt → Option S} (h : ∀ s s', f s = some s' → OkS P G n T s s') : ∀ {ss : List Stmt} {ss' : Ss}, trSs f ss = some ss' → ∀ (W : WX) (X : Cx), Sok P G n T X W → QSs P G n X W ss ss'
  | [], ss', q, W, X, c => by cases q; exact qss_nil
  | s :: ss, ss', q, W, X, c => by
    unfold trSs at q
    split at q
    · rename_i a b e1 e2; cases q; exact qss_cons (h _ _ e1 W X c) (qss_of h e2 W X c)
    · cases q
theorem trS1_ok {f0 : TC → Expr → Option E} {fs : Stmt → Option S} {T : TC} (H : ∀ (T : TC) (e : Expr) (e' : E), f0 T e = some e' → ∀ (W : WX) (X : Cx), Cok P G n T X W → QE P G n X W e e') (HS : ∀ s s', fs s = some s' → OkS P G n T s s') : ∀ s s', trS1 P f0 fs T s = some s' → OkS P G n T s s' := by
  intro s s' h W X c
  have ih : ∀ e e', f0 T e = some e' → QE P G n X W e e' := fun e e' q => H T e e' q W X c.c
  unfold trS1 at h
  split at h
  · rename_i y py elt0 tg0 iter0 ifs k0 scope0 pos0 spos0
    split at h
    · rename_i hx
      obtain ⟨rfl, h1, h2, h3, h4, h5, h6⟩ := hx
      split at h
      · rename_i k es tg t elt e1 e2 e3 e4
        split at h
        · rename_i hb
          cases h
          refine qs_setLc (x := y) (qs_comp c.c (qi_of' c.c ih e1) hb h2 (own_slots _ _) h1 h3 h4 h5 h6 (fun X' c' => qg_of c' e2) (fun X' c' => ?_) (fun X' c' => H _ _ _ e4 _ X' c'))
          revert e3
          cases ifs with
          | nil => intro e3; cases e3; exact qts_nil
          | cons e r => cases r with
            | nil => intro e3; exact qts_one (H _ _ _ e3 _ X' c')
            | cons _ _ => intro e3; cases e3
        · cases h
      · cases h
    · cases h
  · split at h
    · rename_i hx
      split at h
      · rename_i e1; cases h; exact qs_set c hx.2.2 hx.2.1 (ih _ _ e1) hx.1
      · cases h
    · cases h
  · split at h
    · rename_i hx
      split at h
      · rename_i e1 e2; cases h; exact qs_tup c e1 (ih _ _ e2) hx.1 hx.2
      · cases h
    · cases h
  · split at h
    · rename_i hx
      split at h
      · rename_i e1 e2 e3; cases h; exact qs_sub c (ih _ _ e1) (ih _ _ e2) (ih _ _ e3) hx.1 hx.2.1 hx.2.2
      · cases h
    · cases h
  · split at h
    · rename_i hx
      split at h
      · rename_i e1; cases h; exact qs_augAdd c hx.2 hx.1 (ih _ _ e1)
      · cases h
    · cases h
  · split at h
    · rename_i hx
      split at h
      · rename_i e1; cases h; exact qs_augSub c hx.2 hx.1 (ih _ _ e1)
      · cases h
    · cases h
  · split at h
    · rename_i hx
      split at h
      · rename_i e1; cases h; exact qs_exp c (ih _ _ e1) hx
      · cases h
    · cases h
  · split at h
    · rename_i e1; cases h; exact qs_ret (ih _ _ e1)
    · cases h
  · cases h; exact qs_retN
  · cases h; exact qs_pass
  · cases h; exact qs_brk
  · cases h; exact qs_cont
  · split at h
    · rename_i e1 e2 e3; cases h; exact qs_if (ih _ _ e1) (qss_of HS e2 W X c) (qss_of HS e3 W X c)
    · cases h
  · split at h
    · rename_i e1 e2; cases h; exact qs_whl c (ih _ _ e1) (qss_of HS e2 W X c)
    · cases h
  · split at h
    · rename_i hx
      split at h
      · rename_i e1 e2 e3; cases h; exact qs_for c (qi_of' c.c ih e1) (qg_of c.c e2) (qss_of HS e3 W X c) hx
      · cases h
    · cases h
  · split at h
    · rename_i c1 e1
      split at h
      · rename_i e2
        cases h
        have k := xcOf_ok e1
        exact qs_raise c k.hg k.hm (plainX_ok e2) k.hd
      · cases h
    · cases h
  · split at h
    · rename_i e1 e2
      cases h
      have k := xcOf_ok e1
      exact qs_tryC c k.hg k.hm k.hc k.hd (fun X' => pe_bl) (fun _ => .bl _) (fun X' W' c' => qss_of HS e2 W' X' c')
    · cases h
  · split at h
    · rename_i hx
      obtain ⟨rfl, rfl, h1, h2, h3, h4, h5, h6⟩ := hx
      split at h
      · rename_i e1 e2 e3
        cases h
        have k := xcOf_ok e1
        have k2 := xcOf_ok e2
        exact qs_tryI c k.hg k.hm k.hc k.hd h3 h4 h5 h6 k2.hg k2.hm k2.hd (isGlo_ok h1) h2 (fun X' W' c' => qss_of HS e3 W' X' c')
      · cases h
    · cases h
  · cases h
theorem trS_ok {T : TC} : ∀ (m : Nat) (s : Stmt) (s' : S), trS P T m s = some s' → OkS P G n T s s'
  | 0, _, _, h => by cases h
  | m + 1, s, s', h => trS1_ok (trE_ok 60) (trS_ok m) s s' h
theorem trB_ok {T : TC} {m : Nat} {ss : List Stmt} {ss' : Ss} (h : trSs (trS P T m) ss = some ss') {W : WX} {X : Cx} (c : Sok P G n T X W) : QSs P G n X W ss ss' := qss_of (trS_ok m) h W X c
end
end DL
set_option maxHeartbeats 1000000
/-! DL9: functions, the head's facts, a law's end -/
namespace DL
open PySem PySem.Spec PyProof.Rows L2 TL
/-! ### constants of the module -/
mutual
def conV (K : PySem.W.Frag) : D → Value → Option V
  | .non, .none => some .non
  | .bl b, .bool c => if b = c then some (.bl b) else none
  | .int i, .int j _ => if i = j then some (.int i) else none
  | .str l, .str x _ => if toS l = x ∧ l.all (fun c => decide (c < 1114112)) = true then some (.str (toS l)) else none
  | .tup xs, .ref a => match K.lookup a with
    | some ⟨.type c, _, .seq its _, _⟩ => if c = "tuple" ∧ its.size ≤ sizeLine then (match conVs K xs its.toList with
      | some _ => some (.ref a)
      | none => none) else none
    | _ => none
  | _, _ => none
def conVs (K : PySem.W.Frag) : List D → List Value → Option (List V)
  | [], [] => some []
  | d :: ds, u :: us => match conV K d u, conVs K ds us with
    | some v, some vs => some (v :: vs)
    | _, _ => none
  | _, _ => none
end
section
variable {G : Gx}
mutual
theorem conV_ok : ∀ {d : D} {u : Value} {v : V}, conV G.K d u = some v → RelV v u ∧ ∀ H, RelD G H d v
  | .non, u, v, h => by
    cases u <;> first | (cases h; exact ⟨rfl, fun _ => .non⟩) | (cases h)
  | .bl b, u, v, h => by
    cases u with
    | bool c =>
      have h : (if b = c then some (V.bl b) else none) = some v := h
      split at h
      · rename_i e; cases h; exact ⟨by rw [e] <;> rfl, fun _ => .bl b⟩
      · cases h
    | _ => cases h
  | .int i, u, v, h => by
    cases u with
    | int j t =>
      have h : (if i = j then some (V.int i) else none) = some v := h
      split at h
      · rename_i e; cases h; exact ⟨⟨t, by rw [e]⟩, fun _ => .int i⟩
      · cases h
    | _ => cases h
  | .str l, u, v, h => by
    cases u with
    | str x t =>
      have h : (if toS l = x ∧ l.all (fun c => decide (c < 1114112)) = true then some (V.str (toS l)) else none) = some v := h
      split at h
      · rename_i e
        obtain ⟨e0, e⟩ := e
        cases h
        refine ⟨⟨t, by rw [e0]⟩, fun _ => .str l ?_⟩
        intro c hc
        simpa using List.all_eq_true.mp e c hc
      · cases h
    | _ => cases h
  | .tup xs, u, v, h => by
    cases u with
    | ref a =>
      unfold conV at h
      split at h
      · rename_i c od its n sl e
        split at h
        · rename_i q
          obtain ⟨rfl, q⟩ := q
          split at h
          · rename_i vs e2
            cases h
            obtain ⟨r1, r2⟩ := conVs_ok e2
            exact ⟨rfl, fun H => .tup (.inr ⟨_, its, n, e, rfl, rfl, q, r1⟩) (r2 H)⟩
          · cases h
        · cases h
      · cases h
    | _ => cases h
  | .ref a, u, v, h => by cases u <;> cases h
  | .fn a, u, v, h => by cases u <;> cases h
  | .cls a, u, v, h => by cases u <;> cases h
  | .rol a, u, v, h => by cases u <;> cases h
theorem conVs_ok : ∀ {ds : List D} {us : List Value} {vs : List V}, conVs G.K ds us = some vs → Vals vs us ∧ ∀ H, RelDs G H ds vs
  | [], us, vs, h => by
    cases us <;> first | (cases h; exact ⟨.nil, fun _ => .nil⟩) | (cases h)
  | d :: ds, us, vs, h => by
    cases us with
    | nil => cases h
    | cons u us =>
      unfold conVs at h
      split at h
      · rename_i v' vs' e1 e2
        cases h
        obtain ⟨r1, r2⟩ := conV_ok e1
        obtain ⟨q1, q2⟩ := conVs_ok e2
        exact ⟨.cons r1 q1, fun H => .cons (r2 H) (q2 H)⟩
      · cases h
end
end
/-! ### what the head tells -/
def gx (P : Pg) (K : PySem.W.Frag) : Gx where
  K := K
  fA f := match P.fns[f]? with
    | some i => He.fAd K i.at_
    | none => 0
  cA c := match P.cls[c]? with
    | some i => He.ga K i.name
    | none => 0
  xA c := match P.xcs[c]? with
    | some i => He.ga K i.name
    | none => 0
def isRef (K : PySem.W.Frag) (x : Str) (a : Addr) : Bool := decide (PySem.W.nsIn K mainGlobals x = some (some (.ref a)))
def glB (P : Pg) (K : PySem.W.Frag) : Str × GK → Bool
  | (x, .con d) => match PySem.W.nsIn K mainGlobals x with
    | some (some u) => (conV K d u).isSome
    | _ => false
  | (x, .fn f) => isRef K x ((gx P K).fA f)
  | (x, .cls c) => isRef K x ((gx P K).cA c)
  | (x, .xcs c) => isRef K x ((gx P K).xA c)
def freeB (K : PySem.W.Frag) (x : Str) : Bool := decide (PySem.W.nsIn K mainGlobals x = some none)
def excB (K : PySem.W.Frag) (D : Addr) : Bool :=
  decide (PySem.W.findIn K (.ref D) "__getattribute__" = some (some (.builtin "BaseException.__getattribute__"))) && (decide (PySem.W.findIn K (.ref D) "__getattr__" = some none) && (decide (PySem.W.subIn K (.ref D) (.type "BaseException") = some true) && (PySem.W.hasDictIn K D &&
  (decide (PySem.W.findIn K (.ref D) "__class__" = some (some (.builtin "object.__class__"))) && (decide (PySem.W.specialIn K (.builtin "object.__class__") "__get__" = some (some (.builtin "getset_descriptor.__get__"))) && (decide (PySem.W.takesIn K (.builtin "object.__class__") = some true) && decide (PySem.W.mroIn K D (.type "object") = some true)))))))
theorem excB_ok {K : PySem.W.Frag} {D : Addr} (h : excB K D = true) : ExcC K D := by
  simp only [excB, Bool.and_eq_true, decide_eq_true_eq] at h
  obtain ⟨h1, h2, h3, h4, h5, h6, h7, h8⟩ := h
  exact ⟨h1, h2, h3, h4, h5, h6, h7, h8⟩
def xcB (P : Pg) (K : PySem.W.Frag) (c : Nat) (i : XcI) : Bool :=
  (i.att.isSome || PySem.W.excIn K ((gx P K).xA c) veB "ValueError.__new__") && (PySem.W.keepIn K (.ref ((gx P K).xA c)) && (decide (PySem.W.subIn K (.ref ((gx P K).xA c)) (.type "BaseException") = some true) && (decide (PySem.W.typeIn K (.ref ((gx P K).xA c)) = some (.type "type")) && excB K ((gx P K).xA c))))
def xxB (P : Pg) (K : PySem.W.Frag) (c d : Nat) : Bool := decide (PySem.W.exmOne K (.ref ((gx P K).xA c)) (.ref ((gx P K).xA d)) = some (subX P.xcs c d)) && decide (PySem.W.kitOne K (.ref ((gx P K).xA c)) (.ref ((gx P K).xA d)) = some (subX P.xcs c d))
def xsB (P : Pg) (K : PySem.W.Frag) : Bool := ((List.range P.xcs.length).all fun c => match P.xcs[c]? with
    | some i => xcB P K c i
    | none => false) && (List.range P.xcs.length).all fun c => (List.range P.xcs.length).all fun d => xxB P K c d
def topB (P : Pg) (gl : List (Str × GK)) (bl : List Str) (K : PySem.W.Frag) : Bool := gl.all (glB P K) && (bl.all (freeB K) && xsB P K)
theorem xsB_ok {P : Pg} {K : PySem.W.Frag} (h : xsB P K = true) : XsOk P (gx P K) K := by
  obtain ⟨h1, h2⟩ := He.ba h
  have k : ∀ c i, P.xcs[c]? = some i → xcB P K c i = true := fun c i e => by
    have := List.all_eq_true.mp h1 c (List.mem_range.mpr (List.getElem?_eq_some_iff.mp e).1)
    rw [e] at this
    exact this
  have k2 : ∀ c d, c < P.xcs.length → d < P.xcs.length → xxB P K c d = true := fun c d hc hd =>
    List.all_eq_true.mp (List.all_eq_true.mp h2 c (List.mem_range.mpr hc)) d (List.mem_range.mpr hd)
  have k' : ∀ c i, P.xcs[c]? = some i → (i.att.isSome || PySem.W.excIn K ((gx P K).xA c) veB "ValueError.__new__") = true ∧ PySem.W.keepIn K (.ref ((gx P K).xA c)) = true ∧ PySem.W.subIn K (.ref ((gx P K).xA c)) (.type "BaseException") = some true ∧ PySem.W.typeIn K (.ref ((gx P K).xA c)) = some (.type "type") ∧ excB K ((gx P K).xA c) = true := fun c i e => by
    have := k c i e
    simp only [xcB, Bool.and_eq_true, decide_eq_true_eq] at this
    exact this
  refine ⟨fun c i e q => ?_, fun c i e => (k' c i e).2.1, fun c i e => (k' c i e).2.2.1, fun c i e => (k' c i e).2.2.2.1, fun c d hc hd => ?_, fun c d hc hd => ?_, fun c i e => excB_ok (k' c i e).2.2.2.2⟩
  · have := (k' c i e).1
    rw [q] at this
    simpa using this
  · have := k2 c d hc hd
    simp only [xxB, Bool.and_eq_true, decide_eq_true_eq] at this
    exact this.1
  · have := k2 c d hc hd
    simp only [xxB, Bool.and_eq_true, decide_eq_true_eq] at this
    exact this.2
theorem lookup_mem' {β : Type} {x : Str} {b : β} : ∀ {l : List (Str × β)}, l.lookup x = some b → (x, b) ∈ l
  | [], h => by cases h
  | (y, c) :: r, h => by
    have h2 : (match x == y with | true => some c | false => r.lookup x) = some b := h
    cases q : (x == y) with
    | true =>
      rw [q] at h2
      cases h2
      rw [eq_of_beq q]
      exact List.mem_cons_self
    | false =>
      rw [q] at h2
      exact List.mem_cons_of_mem _ (lookup_mem' h2)
theorem glB_ok {P : Pg} {K : PySem.W.Frag} {h : Heap} {mg : Str → Option Value} {x : Str} {g : GK} (X : K.In h) (N : h.Ns mainGlobals mg) (c : glB P K (x, g) = true) : GOk (gx P K) mg x g := by
  cases g with
  | con d =>
    have c : (match PySem.W.nsIn K mainGlobals x with | some (some u) => (conV K d u).isSome | _ => false) = true := c
    split at c
    · rename_i u e
      obtain ⟨v, q⟩ := Option.isSome_iff_exists.mp c
      obtain ⟨r1, r2⟩ := conV_ok (G := gx P K) q
      exact ⟨u, v, PySem.W.mg_of X N e, r1, r2⟩
    · cases c
  | fn f => exact PySem.W.mg_of X N (of_decide_eq_true c)
  | cls f => exact PySem.W.mg_of X N (of_decide_eq_true c)
  | xcs f => exact PySem.W.mg_of X N (of_decide_eq_true c)
/-! ### the Hook -/
abbrev AlQ : Type := He.AlD × Bool
def obsQ (n : Nat) (fn : List He.DefD) (ex : PySem.W.Frag → Bool) (g : Addr → Option Obj) : AlQ := (He.obsD [] fn (He.frG g (He.asD g n)), ex (He.frG g (He.asD g n)))
def hookQ (n : Nat) (fn : List He.DefD) (ex : PySem.W.Frag → Bool) : PySem.W.Hook where
  α := AlQ
  obs := fun s => obsQ n fn ex s.heap.get?
  val := fun _ => (He.valD fn, true)
  says := fun _ h => ∃ K : PySem.W.Frag, K.In h ∧ He.SaysD [] fn K ∧ ex K = true
  of := fun _ _ e => ⟨_, He.frG_in, congrArg (fun z : AlQ => z.1) e, congrArg (fun z : AlQ => z.2) e⟩
  keeps := fun _ _ _ ⟨K, hK, c⟩ k => ⟨K, PySem.W.Frag.In.keeps hK k, c⟩
theorem obsQ_eq {n : Nat} {fn : List He.DefD} {ex : PySem.W.Frag → Bool} {g : Addr → Option Obj} {s : Shared} (h : ∀ a, g a = s.heap.get? a) : obsQ n fn ex g = (hookQ n fn ex).obs s := by
  have e : g = s.heap.get? := funext h
  rw [e] <;> rfl
/-! ### functions -/
abbrev psOf (i : FnI) : List Str := i.N.take i.np
def BindsNone (d : He.DefD) (ps : List Str) : Prop := ∀ (kV doc pm : Value) (an : Option Addr) (cdv ct : Value) (us : List Value), us.length = ps.length → bindArgs (PySem.W.fnOf d.name d.qual d.params d.body d.scope .none kV doc pm an cdv ct) ⟨us, []⟩ = pure (ps.zip us)
structure FOk (P : Pg) (gl : List (Str × GK)) (bl : List Str) (i : FnI) (d : He.DefD) : Prop where
  sc : C8.scC i.N (psOf i) d.scope = true
  np : i.np ≤ i.N.length
  tr : trSs (trS P ⟨true, i.N, d.scope.names, gl, bl⟩ 40) d.body = some i.body
  dfl : d.dfl = []
  kwd : d.kwd = []
  idfl : i.dfl = []
  at_ : d.at_ = i.at_
  bind : BindsNone d (psOf i)
inductive FOks (P : Pg) (gl : List (Str × GK)) (bl : List Str) : List FnI → List He.DefD → Prop
  | nil : FOks P gl bl [] []
  | cons {i : FnI} {d : He.DefD} {is : List FnI} {ds : List He.DefD} : FOk P gl bl i d → FOks P gl bl is ds → FOks P gl bl (i :: is) (d :: ds)
theorem FOks.get {P : Pg} {gl : List (Str × GK)} {bl : List Str} : ∀ {is : List FnI} {ds : List He.DefD} {f : Nat} {i : FnI}, FOks P gl bl is ds → is[f]? = some i → ∃ d, ds[f]? = some d ∧ FOk P gl bl i d
  | _, _, _, _, .nil, e => by simp at e
  | _, _, 0, _, .cons h _, e => by simp at e; subst e; exact ⟨_, rfl, h⟩
  | _, _, f + 1, _, .cons _ t, e => by
    obtain ⟨d, e1, h⟩ := FOks.get (f := f) t (by simpa using e)
    exact ⟨d, by simpa using e1, h⟩
section
variable {P : Pg} {gl : List (Str × GK)} {bl : List Str} {fn : List He.DefD} {K : PySem.W.Frag} {prog : Program} {w : World} {mg : Str → Option Value} {base h : Heap}
theorem pss_use {X : Cx} {ss : List Stmt} {t : TS} (p : PSs X ss t) : PSs X ss t := p
theorem startD_rel {G : Gx} {H : Hp} {i : FnI} {ds : List D} {vs : List V} (r : RelDs G H ds vs) : RelL G H (startD i ds) (L2.start i.N vs) := by
  unfold startD L2.start
  refine ⟨by simp [r.length], fun j d e => ?_⟩
  by_cases hj : j < ds.length
  · rw [List.getElem?_append_left (by simpa using hj)] at e
    rw [List.getElem?_map] at e
    cases q : ds[j]? with
    | none => rw [q] at e; cases e
    | some d' =>
      rw [q] at e
      cases e
      obtain ⟨v, e1, r1⟩ := r.get q
      exact ⟨v, by rw [List.getElem?_append_left (by simpa [r.length] using hj), List.getElem?_map, e1] <;> rfl, r1⟩
  · rw [List.getElem?_append_right (by simp; omega)] at e
    rw [List.getElem?_replicate] at e
    split at e
    · cases e
    · cases e
theorem body_ok (F : FOks P gl bl P.fns fn) (ex : topB P gl bl K = true) (KX : K.In h) (N : h.Ns mainGlobals mg) {n f : Nat} {i : FnI} {d : He.DefD} {fd : FuncData} (O : FOk P gl bl i d)
    (D : FunD K d.name d.qual d.params d.body d.scope [] [] ((gx P K).fA f) fd) (ih : ∀ (f : Nat) (i : FnI), P.fns[f]? = some i → FnR P (gx P K) n prog w K mg base f i) :
    FnOk prog w K mg base (L2.CX prog w) (n + 1 + 20) ((gx P K).fA f) fd (psOf i) (spD (gx P K) fun ds τ Q X => ds.length = i.np ∧ runD P (n + 1) i ds τ Q X) := by
  obtain ⟨x1, x2⟩ := He.ba ex
  obtain ⟨x2, x3⟩ := He.ba x2
  have hl : (psOf i).length = i.np := by rw [List.length_take]; have := O.np; omega
  refine FunD.ok (k := n + 1 + 19) D (C8.fnScope_by O.sc) (fun vs H Q E q => ?_) (fun cdv A outer s H vs Q E hr q => ?_)
  · obtain ⟨ds, τ, Qd, Xd, r, _, ⟨q, _⟩, _⟩ := q
    rw [← r.length, q, hl]
  · obtain ⟨ds, τ, Qd, Xd, r, ab, ⟨hlen, q⟩, cq, cx⟩ := q
    have S := C8.fnScope_by O.sc
    have tk := takes_of (X := cxOf (L2.CX prog w) prog w K mg base i.N d.qual d.scope ((gx P K).fA f) cdv A outer s H E) (E := E) rfl rfl rfl rfl
    have po := passes_of (X := cxOf (L2.CX prog w) prog w K mg base i.N d.qual d.scope ((gx P K).fA f) cdv A outer s H E) rfl
    have C : Cok P (gx P K) n ⟨true, i.N, d.scope.names, gl, bl⟩ (cxOf (L2.CX prog w) prog w K mg base i.N d.qual d.scope ((gx P K).fA f) cdv A outer s H E) (fun cls d _ H => E cls d H) :=
      ⟨rfl, S.nd, rfl, rfl, rfl, hr, tk, S.kind, fun _ _ => rfl, fun x g e => glB_ok KX N (List.all_eq_true.mp x1 _ (lookup_mem' e)), fun x e => PySem.W.mg_none_of KX N (of_decide_eq_true (List.all_eq_true.mp x2 x e)), ih⟩
    have SK : Sok P (gx P K) n ⟨true, i.N, d.scope.names, gl, bl⟩ (cxOf (L2.CX prog w) prog w K mg base i.N d.qual d.scope ((gx P K).fA f) cdv A outer s H E) (fun cls d _ H => E cls d H) :=
      ⟨C, rfl, rfl, po, xsB_ok x3⟩
    refine ⟨_, trB_ok O.tr SK, startD i ds, τ, _, startD_rel r, ab, q, ?_⟩
    exact ⟨fun ρ' τ' q σ' H' g rl ab' => cq _ _ q _ _ g .non ab', fun _ _ q => q.elim, fun _ _ q => q.elim, cq, fun x ρ' τ' q cls dx σ' H' g rx rl ab' => cx _ _ q _ _ _ g rx ab'⟩
theorem def_at (F : FOks P gl bl P.fns fn) (c : He.SaysD [] fn K) {f : Nat} {i : FnI} (hf : P.fns[f]? = some i) : ∃ d fd, FOk P gl bl i d ∧ FunD K d.name d.qual d.params d.body d.scope [] [] ((gx P K).fA f) fd := by
  obtain ⟨d, e1, O⟩ := F.get hf
  obtain ⟨fd, D⟩ := c.def_ f e1
  have eA : (gx P K).fA f = He.fAd K d.at_ := by
    show (match P.fns[f]? with | some i => He.fAd K i.at_ | none => 0) = _
    rw [hf, O.at_]
  rw [← eA] at D
  have ed : d.dvs K = [] := by unfold He.DefD.dvs; rw [O.dfl]; rfl
  have ek : d.kws K = [] := by unfold He.DefD.kws; rw [O.kwd]; rfl
  rw [ed, ek] at D
  exact ⟨d, fd, O, D⟩
theorem fnR_all (F : FOks P gl bl P.fns fn) (c : He.SaysD [] fn K) (ex : topB P gl bl K = true) (KX : K.In h) (N : h.Ns mainGlobals mg) : ∀ (n f : Nat) (i : FnI), P.fns[f]? = some i → FnR P (gx P K) n prog w K mg base f i := by
  have bn : ∀ {f : Nat} {i : FnI} {d : He.DefD} {fd : FuncData}, FOk P gl bl i d → FunD K d.name d.qual d.params d.body d.scope [] [] ((gx P K).fA f) fd → ∀ j, j ≤ i.dfl.length → ∃ dsV dvs, Binds K fd (psOf i) dsV ∧ Vals dvs dsV ∧ ∀ H, RelDs (gx P K) H (i.dfl.drop j) dvs := fun {f i d fd} O D j hj => by
    rw [O.idfl] at hj
    have : j = 0 := by simpa using hj
    subst this
    refine ⟨[], [], FunD.bindsN D fun kV doc pm an cdv ct us hu => O.bind kV doc pm an cdv ct us hu, .nil, fun H => ?_⟩
    rw [O.idfl]
    exact .nil
  intro n
  induction n with
  | zero =>
    intro f i hf
    obtain ⟨d, fd, O, D⟩ := def_at F c hf
    refine ⟨⟨fd, psOf i, ?_, bn O D⟩, D.kp⟩
    refine FunD.ok (k := 19) D (C8.fnScope_by O.sc) (fun vs H Q E q => ?_) (fun cdv A outer s H vs Q E hr q => ?_)
    all_goals
      obtain ⟨ds, τ, Qd, Xd, r, _, ⟨_, q⟩, _⟩ := q
      exact q.elim
  | succ n ih =>
    intro f i hf
    obtain ⟨d, fd, O, D⟩ := def_at F c hf
    exact ⟨⟨fd, psOf i, body_ok F ex KX N O D ih, bn O D⟩, D.kp⟩
/-- what may fly out, of any world -/
def CXa : CXT := fun outer H s E u s' => ∃ P w, L2.CX P w outer H s E u s'
theorem cxa_no (H : Hp) (s : Shared) (e : Value) (s' : Shared) (h : CXa [] H s (fun _ _ _ => False) e s') : False := by
  obtain ⟨P, w, a, B, H', cls, d, h⟩ := h
  exact h.2.2.2.2.2.2.2
theorem fn_cxa {k : Nat} {f : Addr} {fd : FuncData} {ps : List Str} {sp : Sp} (F : FnOk prog w K mg base (L2.CX prog w) k f fd ps sp) : FnOk prog w K mg base CXa k f fd ps sp :=
  ⟨F.len, fun A outer s H args us vs Q E hr he hb hv hs => codeAny_mono (F.run A outer s H args us vs Q E hr he hb hv hs) fun r s' q => by
    cases r with
    | ok o => cases o <;> exact q
    | error e => exact ⟨prog, w, q⟩⟩
/-- what the head asks of a law -/
theorem law_F {n f : Nat} {i : FnI} {x : Str} {fa : Addr} (F : FOks P gl bl P.fns fn) (hY : ∃ K : PySem.W.Frag, K.In h ∧ He.SaysD [] fn K ∧ topB P gl bl K = true) (N : h.Ns mainGlobals mg) (hf : P.fns[f]? = some i) (hps : psOf i = [x]) (hnp : i.np = 1) {y : Str} (hmg : mg y = some (.ref fa))
    (hgl : gl.lookup y = some (.fn f)) (hlaw : ∀ ns : List Int, ns.length ≤ 63 → runD P (n + 1) i [.rol ns] (fun _ => none) (fun d _ => d = .bl true) fun _ _ => False) :
    ∃ (K : PySem.W.Frag) (fd : FuncData) (sp : Sp), K.In h ∧ (∀ (s : Shared) (u : Value), BindsTo s fd ⟨[u], []⟩ [(x, u)]) ∧
        (∀ (H : Hp) (a : Addr) (ns : List Int), ns.length ≤ 63 → Only H → SqL K H a (ns.map V.int) → sp [.ref a] H (fun v _ => v = .bl true) fun _ _ _ => False) ∧
        ∀ base : Heap, K.In base → base.Ns mainGlobals mg → FnOk prog w K mg base CXa (n + 1 + 20) fa fd [x] sp := by
  obtain ⟨K, KX, c, ex⟩ := hY
  obtain ⟨d, fd, O, D⟩ := def_at F c hf
  have hfa : (gx P K).fA f = fa := by
    have h1 := glB_ok KX N (List.all_eq_true.mp (He.ba ex).1 _ (lookup_mem' hgl))
    have h1 : mg y = some (.ref ((gx P K).fA f)) := h1
    rw [hmg] at h1
    cases h1
    rfl
  refine ⟨K, fd, (spD (gx P K) fun ds τ Q X => ds.length = i.np ∧ runD P (n + 1) i ds τ Q X), KX, fun s u => ?_, fun H a ns hl hO hS => ?_, fun base KB NB => ?_⟩
  · have b := FunD.bindsA D (fun kV doc pm an cdv ct us hu => O.bind kV doc pm an cdv ct us hu) s [u] (by rw [hps]; rfl)
    rw [hps] at b
    exact b
  · have hz : FzL K H a (ns.map V.int) := by
      rcases hS with (h | h) | h
      · rcases hO a with q | ⟨o, xs, q⟩
        · rw [q] at h; cases h
        · rw [q] at h; cases h
      · exact .inl h
      · exact .inr h
    refine ⟨[.rol ns], fun _ => none, (fun d _ => d = .bl true), (fun _ _ => False), .cons (.rol hz) .nil, (fun _ _ e => nomatch e), ⟨hnp.symm, hlaw ns hl⟩, fun d τ' e v H' g r ab => ?_, fun _ _ e => False.elim e⟩
    cases e
    cases r
    rfl
  · have q := body_ok (prog := prog) (w := w) (base := base) F ex KX N O D (fnR_all (base := base) F c ex KX N n)
    rw [hfa, hps] at q
    exact fn_cxa q
end
end DL
set_option maxHeartbeats 0
namespace K00
open PySem PySem.Spec PyProof.Rows L2 DL PySem.W PySem.Calls
def top (i : Nat) : Stmt := PySem.Challenge.pw_wayknown_k00_integers_and_data.main.body.getD i (.Pass ⟨0, 0, 0, 0⟩)
def gl : List (Str × GK) := [("WayknownError", .xcs 0),
  ("BadText", .xcs 1),
  ("BASE", .con (.int (10000000000000000000000000000000000000000000000000000000000000000))),
  ("DIGITS", .con (.str [48, 49, 50, 51, 52, 53, 54, 55, 56, 57])),
  ("write_integer", .fn 0),
  ("read_integer", .fn 1),
  ("DEPTH", .con (.int (40))),
  ("SIGNS", .con (.str [45, 48, 49, 50, 51, 52, 53, 54, 55, 56, 57])),
  ("write_data", .fn 2),
  ("plain_text", .fn 3),
  ("read_plain", .fn 4),
  ("read_data", .fn 5),
  ("_law_start", .fn 6),
  ("_law_draw", .fn 7),
  ("_law_one_of", .fn 8),
  ("_law_is_int", .fn 9),
  ("_law_same", .fn 10),
  ("_law_figures_of", .fn 11),
  ("_law_long_number", .fn 12),
  ("_law_some_datum", .fn 13),
  ("_law_datum_text", .fn 14),
  ("_law_nested", .fn 15),
  ("_law_refuses_text", .fn 16),
  ("law", .fn 17)]
def bl : List Str := ["ValueError", "abs", "all", "bool", "divmod", "int", "isinstance", "len", "list", "ord", "range", "str", "tuple"]
def xcs : List XcI := [⟨"WayknownError", [0], none⟩, ⟨"BadText", [1, 0], none⟩]
def d_write_integer : He.DefD := ⟨("write_integer", none), "write_integer", "write_integer", defArgs (top 6), defBody (top 6), defScope (top 6), [], []⟩
def n_write_integer : List Str := ["n", "chunks", "low"]
def d_read_integer : He.DefD := ⟨("read_integer", none), "read_integer", "read_integer", defArgs (top 7), defBody (top 7), defScope (top 7), [], []⟩
def n_read_integer : List Str := ["text", "digits", "char", "head", "n", "start"]
def d_write_data : He.DefD := ⟨("write_data", none), "write_data", "write_data", defArgs (top 11), defBody (top 11), defScope (top 11), [], []⟩
def n_write_data : List Str := ["datum", "item"]
def d_plain_text : He.DefD := ⟨("plain_text", none), "plain_text", "plain_text", defArgs (top 12), defBody (top 12), defScope (top 12), [], []⟩
def n_plain_text : List Str := ["text", "char"]
def d_read_plain : He.DefD := ⟨("read_plain", none), "read_plain", "read_plain", defArgs (top 13), defBody (top 13), defScope (top 13), [], []⟩
def n_read_plain : List Str := ["text", "start", "end"]
def d_read_data : He.DefD := ⟨("read_data", none), "read_data", "read_data", defArgs (top 14), defBody (top 14), defScope (top 14), [], []⟩
def n_read_data : List Str := ["text", "stack", "index", "fresh", "done", "item"]
def d__law_start : He.DefD := ⟨("_law_start", none), "_law_start", "_law_start", defArgs (top 16), defBody (top 16), defScope (top 16), [], []⟩
def n__law_start : List Str := ["script"]
def d__law_draw : He.DefD := ⟨("_law_draw", none), "_law_draw", "_law_draw", defArgs (top 17), defBody (top 17), defScope (top 17), [], []⟩
def n__law_draw : List Str := ["state", "most", "found", "cell", "mixed"]
def d__law_one_of : He.DefD := ⟨("_law_one_of", none), "_law_one_of", "_law_one_of", defArgs (top 18), defBody (top 18), defScope (top 18), [], []⟩
def n__law_one_of : List Str := ["state", "items"]
def d__law_is_int : He.DefD := ⟨("_law_is_int", none), "_law_is_int", "_law_is_int", defArgs (top 19), defBody (top 19), defScope (top 19), [], []⟩
def n__law_is_int : List Str := ["x"]
def d__law_same : He.DefD := ⟨("_law_same", none), "_law_same", "_law_same", defArgs (top 20), defBody (top 20), defScope (top 20), [], []⟩
def n__law_same : List Str := ["x", "y", "k"]
def d__law_figures_of : He.DefD := ⟨("_law_figures_of", none), "_law_figures_of", "_law_figures_of", defArgs (top 21), defBody (top 21), defScope (top 21), [], []⟩
def n__law_figures_of : List Str := ["number", "left", "found", "turn", "low"]
def d__law_long_number : He.DefD := ⟨("_law_long_number", none), "_law_long_number", "_law_long_number", defArgs (top 22), defBody (top 22), defScope (top 22), [], []⟩
def n__law_long_number : List Str := ["state", "most", "number", "turn"]
def d__law_some_datum : He.DefD := ⟨("_law_some_datum", none), "_law_some_datum", "_law_some_datum", defArgs (top 23), defBody (top 23), defScope (top 23), [], []⟩
def n__law_some_datum : List Str := ["state", "depth", "pick", "k"]
def d__law_datum_text : He.DefD := ⟨("_law_datum_text", none), "_law_datum_text", "_law_datum_text", defArgs (top 24), defBody (top 24), defScope (top 24), [], []⟩
def n__law_datum_text : List Str := ["datum", "one"]
def d__law_nested : He.DefD := ⟨("_law_nested", none), "_law_nested", "_law_nested", defArgs (top 25), defBody (top 25), defScope (top 25), [], []⟩
def n__law_nested : List Str := ["datum", "many", "turn"]
def d__law_refuses_text : He.DefD := ⟨("_law_refuses_text", none), "_law_refuses_text", "_law_refuses_text", defArgs (top 26), defBody (top 26), defScope (top 26), [], []⟩
def n__law_refuses_text : List Str := ["kind", "text", "e"]
def d_law : He.DefD := ⟨("law", none), "law", "law", defArgs (top 27), defBody (top 27), defScope (top 27), [], []⟩
def n_law : List Str := ["script", "state", "turn", "number", "text", "bad", "datum", "deep"]
def fn : List He.DefD := [d_write_integer, d_read_integer, d_write_data, d_plain_text, d_read_plain, d_read_data, d__law_start, d__law_draw, d__law_one_of, d__law_is_int, d__law_same, d__law_figures_of, d__law_long_number, d__law_some_datum, d__law_datum_text, d__law_nested, d__law_refuses_text, d_law]
def b_write_integer : Ss :=
  .cons (.iff (.cmp .lt (.var 0) (.cst (.int (0)))) (.cons (.ret (.bin .add (.cst (.str [45])) (.call 0 (.cons (.neg (.var 0)) .nil)))) .nil) .nil) <|
  .cons (.asg (.name 1) (.lst .nil)) <|
  .cons (.whl (.cmp .ge (.var 0) (.cst (.int (10000000000000000000000000000000000000000000000000000000000000000)))) (.cons (.asg (.tup [0, 2]) (.blt .divmod (.cons (.var 0) (.cons (.cst (.int (10000000000000000000000000000000000000000000000000000000000000000))) .nil)))) (.cons (.exp (.bmt (.var 1) .append (.cons (.bmt (.blt .str (.cons (.var 2) .nil)) .zfill (.cons (.cst (.int (64))) .nil)) .nil))) .nil))) <|
  .cons (.exp (.bmt (.var 1) .append (.cons (.blt .str (.cons (.var 0) .nil)) .nil))) <|
  .cons (.ret (.bmt (.cst (.str [])) .join (.cons (.rev (.var 1)) .nil))) <| .nil
def b_read_integer : Ss :=
  .cons (.asg (.name 1) (.var 0)) <|
  .cons (.iff (.cmp .eq (.slc false true (.var 0) (.cst .non) (.cst (.int (1)))) (.cst (.str [45]))) (.cons (.asg (.name 1) (.slc true false (.var 0) (.cst (.int (1))) (.cst .non))) .nil) .nil) <|
  .cons (.iff (.or (.cmp .eq (.var 1) (.cst (.str []))) (.and (.cmp .eq (.idx (.var 1) (.cst (.int (0)))) (.cst (.str [48]))) (.cmp .ne (.var 0) (.cst (.str [48]))))) (.cons (.raise 1 (.cons (.cst (.str [110, 111, 116, 32, 97, 110, 32, 105, 110, 116, 101, 103, 101, 114])) .nil)) .nil) .nil) <|
  .cons (.for_ (.name 2) .of (.cons (.var 1) .nil) (.cons (.iff (.cmp .nin (.var 2) (.cst (.str [48, 49, 50, 51, 52, 53, 54, 55, 56, 57]))) (.cons (.raise 1 (.cons (.cst (.str [110, 111, 116, 32, 97, 110, 32, 105, 110, 116, 101, 103, 101, 114])) .nil)) .nil) .nil) .nil)) <|
  .cons (.asg (.name 3) (.bin .mod (.blt .len (.cons (.var 1) .nil)) (.cst (.int (64))))) <|
  .cons (.asg (.name 4) (.cst (.int (0)))) <|
  .cons (.iff (.cmp .gt (.var 3) (.cst (.int (0)))) (.cons (.asg (.name 4) (.blt .int (.cons (.slc false true (.var 1) (.cst .non) (.var 3)) .nil))) .nil) .nil) <|
  .cons (.for_ (.name 5) .range3 (.cons (.var 3) (.cons (.blt .len (.cons (.var 1) .nil)) (.cons (.cst (.int (64))) .nil))) (.cons (.asg (.name 4) (.bin .add (.bin .mul (.var 4) (.cst (.int (10000000000000000000000000000000000000000000000000000000000000000)))) (.blt .int (.cons (.slc true true (.var 1) (.var 5) (.bin .add (.var 5) (.cst (.int (64))))) .nil)))) .nil)) <|
  .cons (.iff (.cmp .eq (.idx (.var 0) (.cst (.int (0)))) (.cst (.str [45]))) (.cons (.ret (.neg (.var 4))) .nil) .nil) <|
  .cons (.ret (.var 4)) <| .nil
def b_write_data : Ss :=
  .cons (.iff (.blt .istup (.cons (.var 0) .nil)) (.cons (.ret (.bin .add (.bin .add (.cst (.str [40])) (.bmt (.cst (.str [44, 32])) .join (.cons (.comp (.call 2 (.cons (.var 1) .nil)) (.name 1) .of (.cons (.var 0) .nil) (.cst (.bl true))) .nil))) (.cst (.str [41])))) .nil) .nil) <|
  .cons (.iff (.blt .isstr (.cons (.var 0) .nil)) (.cons (.ret (.bin .add (.bin .add (.cst (.str [39])) (.var 0)) (.cst (.str [39])))) .nil) .nil) <|
  .cons (.ret (.call 0 (.cons (.var 0) .nil))) <| .nil
def b_plain_text : Ss :=
  .cons (.for_ (.name 1) .of (.cons (.var 0) .nil) (.cons (.iff (.or (.cmp .lt (.var 1) (.cst (.str [32]))) (.or (.cmp .gt (.var 1) (.cst (.str [126]))) (.or (.cmp .eq (.var 1) (.cst (.str [39]))) (.cmp .eq (.blt .ord (.cons (.var 1) .nil)) (.cst (.int (37))))))) (.cons (.ret (.cst (.bl false))) .nil) .nil) .nil)) <|
  .cons (.ret (.cst (.bl true))) <| .nil
def b_read_plain : Ss :=
  .cons (.iff (.cmp .eq (.idx (.var 0) (.var 1)) (.cst (.str [39]))) (.cons (.asg (.name 2) (.bmt (.var 0) .find (.cons (.cst (.str [39])) (.cons (.bin .add (.var 1) (.cst (.int (1)))) .nil)))) (.cons (.iff (.or (.cmp .lt (.var 2) (.cst (.int (0)))) (.not (.call 3 (.cons (.slc true true (.var 0) (.bin .add (.var 1) (.cst (.int (1)))) (.var 2)) .nil)))) (.cons (.raise 1 (.cons (.cst (.str [110, 111, 116, 32, 97, 32, 100, 97, 116, 117, 109])) .nil)) .nil) .nil) (.cons (.ret (.tup (.cons (.slc true true (.var 0) (.bin .add (.var 1) (.cst (.int (1)))) (.var 2)) (.cons (.bin .add (.var 2) (.cst (.int (1)))) .nil)))) .nil))) .nil) <|
  .cons (.asg (.name 2) (.var 1)) <|
  .cons (.whl (.and (.cmp .lt (.var 2) (.blt .len (.cons (.var 0) .nil))) (.cmp .inn (.idx (.var 0) (.var 2)) (.cst (.str [45, 48, 49, 50, 51, 52, 53, 54, 55, 56, 57])))) (.cons (.aug 2 .add (.cst (.int (1)))) .nil)) <|
  .cons (.ret (.tup (.cons (.call 1 (.cons (.slc true true (.var 0) (.var 1) (.var 2)) .nil)) (.cons (.var 2) .nil)))) <| .nil
def b_read_data : Ss :=
  .cons (.asg (.name 1) (.lst (.cons (.lst .nil) .nil))) <|
  .cons (.asg (.name 2) (.cst (.int (0)))) <|
  .cons (.asg (.name 3) (.cst (.bl true))) <|
  .cons (.whl (.cmp .lt (.var 2) (.blt .len (.cons (.var 0) .nil))) (.cons (.iff (.and (.var 3) (.and (.cmp .eq (.idx (.var 0) (.var 2)) (.cst (.str [40]))) (.cmp .le (.blt .len (.cons (.var 1) .nil)) (.cst (.int (40)))))) (.cons (.exp (.bmt (.var 1) .append (.cons (.lst .nil) .nil))) (.cons (.aug 2 .add (.cst (.int (1)))) .nil)) (.cons (.iff (.and (.cmp .eq (.idx (.var 0) (.var 2)) (.cst (.str [41]))) (.and (.cmp .gt (.blt .len (.cons (.var 1) .nil)) (.cst (.int (1)))) (.or (.not (.var 3)) (.cmp .eq (.idx (.var 0) (.bin .sub (.var 2) (.cst (.int (1))))) (.cst (.str [40])))))) (.cons (.asg (.name 4) (.blt .tuple (.cons (.bmt (.var 1) .pop .nil) .nil))) (.cons (.exp (.bmt (.idx (.var 1) (.neg (.cst (.int (1))))) .append (.cons (.var 4) .nil))) (.cons (.aug 2 .add (.cst (.int (1)))) (.cons (.asg (.name 3) (.cst (.bl false))) .nil)))) (.cons (.iff (.and (.not (.var 3)) (.and (.cmp .gt (.blt .len (.cons (.var 1) .nil)) (.cst (.int (1)))) (.cmp .eq (.slc true true (.var 0) (.var 2) (.bin .add (.var 2) (.cst (.int (2))))) (.cst (.str [44, 32]))))) (.cons (.aug 2 .add (.cst (.int (2)))) (.cons (.asg (.name 3) (.cst (.bl true))) .nil)) (.cons (.iff (.and (.var 3) (.cmp .ne (.idx (.var 0) (.var 2)) (.cst (.str [40])))) (.cons (.asg (.tup [5, 2]) (.call 4 (.cons (.var 0) (.cons (.var 2) .nil)))) (.cons (.exp (.bmt (.idx (.var 1) (.neg (.cst (.int (1))))) .append (.cons (.var 5) .nil))) (.cons (.asg (.name 3) (.cst (.bl false))) .nil))) (.cons (.raise 1 (.cons (.cst (.str [110, 111, 116, 32, 97, 32, 100, 97, 116, 117, 109])) .nil)) .nil)) .nil)) .nil)) .nil)) .nil)) <|
  .cons (.iff (.or (.cmp .ne (.blt .len (.cons (.var 1) .nil)) (.cst (.int (1)))) (.cmp .ne (.blt .len (.cons (.idx (.var 1) (.cst (.int (0)))) .nil)) (.cst (.int (1))))) (.cons (.raise 1 (.cons (.cst (.str [110, 111, 116, 32, 97, 32, 100, 97, 116, 117, 109])) .nil)) .nil) .nil) <|
  .cons (.ret (.idx (.idx (.var 1) (.cst (.int (0)))) (.cst (.int (0))))) <| .nil
def b__law_start : Ss :=
  .cons (.ret (.lst (.cons (.blt .list (.cons (.var 0) .nil)) (.cons (.cst (.int (0))) (.cons (.cst (.int (0))) (.cons (.cst (.int (0))) .nil)))))) <| .nil
def b__law_draw : Ss :=
  .cons (.asub (.var 0) (.cst (.int (3))) (.bin .add (.idx (.var 0) (.cst (.int (3)))) (.cst (.int (1))))) <|
  .cons (.iff (.cmp .gt (.idx (.var 0) (.cst (.int (2)))) (.cst (.int (0)))) (.cons (.asg (.name 2) (.bin .mod (.blt .int (.cons (.idx (.var 0) (.cst (.int (2)))) .nil)) (.var 1))) (.cons (.asub (.var 0) (.cst (.int (2))) (.bin .fdiv (.idx (.var 0) (.cst (.int (2)))) (.var 1))) (.cons (.ret (.var 2)) .nil))) .nil) <|
  .cons (.asg (.name 3) (.cst (.int (0)))) <|
  .cons (.iff (.cmp .gt (.blt .len (.cons (.idx (.var 0) (.cst (.int (0)))) .nil)) (.cst (.int (0)))) (.cons (.asg (.name 3) (.blt .abs (.cons (.idx (.idx (.var 0) (.cst (.int (0)))) (.bin .mod (.blt .int (.cons (.idx (.var 0) (.cst (.int (1)))) .nil)) (.blt .len (.cons (.idx (.var 0) (.cst (.int (0)))) .nil)))) .nil))) .nil) .nil) <|
  .cons (.asub (.var 0) (.cst (.int (1))) (.bin .add (.idx (.var 0) (.cst (.int (1)))) (.cst (.int (1))))) <|
  .cons (.iff (.cmp .ge (.var 3) (.bin .pow (.cst (.int (10))) (.cst (.int (18))))) (.cons (.asub (.var 0) (.cst (.int (2))) (.bin .fdiv (.var 3) (.var 1))) (.cons (.ret (.bin .mod (.blt .int (.cons (.var 3) .nil)) (.var 1))) .nil)) .nil) <|
  .cons (.asg (.name 4) (.bin .mod (.blt .int (.cons (.bin .add (.bin .mul (.bin .add (.var 3) (.cst (.int (1)))) (.cst (.int (48271)))) (.bin .mul (.idx (.var 0) (.cst (.int (3)))) (.cst (.int (69621))))) .nil)) (.cst (.int (2147483647))))) <|
  .cons (.asg (.name 4) (.bin .mod (.blt .int (.cons (.bin .add (.bin .add (.bin .mul (.var 4) (.cst (.int (16807)))) (.bin .fdiv (.var 3) (.cst (.int (97))))) (.idx (.var 0) (.cst (.int (3))))) .nil)) (.cst (.int (2147483629))))) <|
  .cons (.ret (.bin .mod (.bin .fdiv (.var 4) (.cst (.int (11)))) (.var 1))) <| .nil
def b__law_one_of : Ss :=
  .cons (.ret (.idx (.var 1) (.call 7 (.cons (.var 0) (.cons (.blt .len (.cons (.var 1) .nil)) .nil))))) <| .nil
def b__law_is_int : Ss :=
  .cons (.ret (.and (.blt .isint (.cons (.var 0) .nil)) (.not (.blt .isbool (.cons (.var 0) .nil))))) <| .nil
def b__law_same : Ss :=
  .cons (.iff (.blt .istup (.cons (.var 1) .nil)) (.cons (.iff (.or (.not (.blt .istup (.cons (.var 0) .nil))) (.cmp .ne (.blt .len (.cons (.var 0) .nil)) (.blt .len (.cons (.var 1) .nil)))) (.cons (.ret (.cst (.bl false))) .nil) .nil) (.cons (.ret (.blt .all (.cons (.comp (.call 10 (.cons (.idx (.var 0) (.var 2)) (.cons (.idx (.var 1) (.var 2)) .nil))) (.name 2) .range1 (.cons (.blt .len (.cons (.var 1) .nil)) .nil) (.cst (.bl true))) .nil))) .nil)) .nil) <|
  .cons (.iff (.blt .isstr (.cons (.var 1) .nil)) (.cons (.ret (.and (.blt .isstr (.cons (.var 0) .nil)) (.cmp .eq (.var 0) (.var 1)))) .nil) .nil) <|
  .cons (.ret (.and (.call 9 (.cons (.var 0) .nil)) (.cmp .eq (.var 0) (.var 1)))) <| .nil
def b__law_figures_of : Ss :=
  .cons (.asg (.name 1) (.blt .abs (.cons (.var 0) .nil))) <|
  .cons (.asg (.name 2) (.cst (.str []))) <|
  .cons (.for_ (.name 3) .range1 (.cons (.cst (.int (9999))) .nil) (.cons (.iff (.cmp .lt (.var 1) (.bin .pow (.cst (.int (10))) (.cst (.int (18))))) (.cons .brk .nil) .nil) (.cons (.asg (.name 4) (.bin .sub (.var 1) (.bin .mul (.bin .fdiv (.var 1) (.bin .pow (.cst (.int (10))) (.cst (.int (18))))) (.bin .pow (.cst (.int (10))) (.cst (.int (18))))))) (.cons (.asg (.name 2) (.bin .add (.slc true false (.blt .str (.cons (.bin .add (.bin .pow (.cst (.int (10))) (.cst (.int (18)))) (.var 4)) .nil)) (.cst (.int (1))) (.cst .non)) (.var 2))) (.cons (.asg (.name 1) (.bin .fdiv (.var 1) (.bin .pow (.cst (.int (10))) (.cst (.int (18)))))) .nil))))) <|
  .cons (.asg (.name 2) (.bin .add (.blt .str (.cons (.var 1) .nil)) (.var 2))) <|
  .cons (.iff (.cmp .lt (.var 0) (.cst (.int (0)))) (.cons (.ret (.bin .add (.cst (.str [45])) (.var 2))) .nil) .nil) <|
  .cons (.ret (.var 2)) <| .nil
def b__law_long_number : Ss :=
  .cons (.asg (.name 2) (.call 7 (.cons (.var 0) (.cons (.bin .pow (.cst (.int (10))) (.cst (.int (18)))) .nil)))) <|
  .cons (.for_ (.name 3) .range1 (.cons (.call 7 (.cons (.var 0) (.cons (.var 1) .nil))) .nil) (.cons (.asg (.name 2) (.bin .add (.bin .mul (.var 2) (.bin .pow (.cst (.int (10))) (.cst (.int (18))))) (.call 7 (.cons (.var 0) (.cons (.bin .pow (.cst (.int (10))) (.cst (.int (18)))) .nil))))) .nil)) <|
  .cons (.ret (.bin .mul (.var 2) (.idx (.lst (.cons (.cst (.int (1))) (.cons (.neg (.cst (.int (1)))) .nil))) (.call 7 (.cons (.var 0) (.cons (.cst (.int (2))) .nil)))))) <| .nil
def b__law_some_datum : Ss :=
  .cons (.asg (.name 2) (.call 7 (.cons (.var 0) (.cons (.cst (.int (7))) .nil)))) <|
  .cons (.iff (.or (.cmp .lt (.var 2) (.cst (.int (2)))) (.and (.cmp .eq (.var 1) (.cst (.int (0)))) (.cmp .gt (.var 2) (.cst (.int (3)))))) (.cons (.ret (.idx (.lst (.cons (.bin .sub (.call 7 (.cons (.var 0) (.cons (.cst (.int (21))) .nil))) (.cst (.int (10)))) (.cons (.call 12 (.cons (.var 0) (.cons (.cst (.int (6))) .nil))) .nil))) (.call 7 (.cons (.var 0) (.cons (.cst (.int (2))) .nil))))) .nil) .nil) <|
  .cons (.iff (.cmp .lt (.var 2) (.cst (.int (4)))) (.cons (.ret (.idx (.lst (.cons (.cst (.str [])) (.cons (.cst (.str [97, 32, 98])) (.cons (.cst (.str [40, 49, 44, 32, 50, 41])) (.cons (.cst (.str [48])) (.cons (.cst (.str [120, 35, 121, 44, 32, 122])) (.cons (.cst (.str [45])) .nil))))))) (.call 7 (.cons (.var 0) (.cons (.cst (.int (6))) .nil))))) .nil) .nil) <|
  .cons (.ret (.blt .tuple (.cons (.comp (.call 13 (.cons (.var 0) (.cons (.bin .sub (.var 1) (.cst (.int (1)))) .nil))) (.name 3) .range1 (.cons (.call 7 (.cons (.var 0) (.cons (.cst (.int (4))) .nil))) .nil) (.cst (.bl true))) .nil))) <| .nil
def b__law_datum_text : Ss :=
  .cons (.iff (.blt .istup (.cons (.var 0) .nil)) (.cons (.ret (.bin .add (.bin .add (.cst (.str [40])) (.bmt (.cst (.str [44, 32])) .join (.cons (.comp (.call 14 (.cons (.var 1) .nil)) (.name 1) .of (.cons (.var 0) .nil) (.cst (.bl true))) .nil))) (.cst (.str [41])))) .nil) .nil) <|
  .cons (.iff (.blt .isstr (.cons (.var 0) .nil)) (.cons (.ret (.bin .add (.bin .add (.cst (.str [39])) (.var 0)) (.cst (.str [39])))) .nil) .nil) <|
  .cons (.ret (.call 11 (.cons (.var 0) .nil))) <| .nil
def b__law_nested : Ss :=
  .cons (.for_ (.name 2) .range1 (.cons (.var 1) .nil) (.cons (.asg (.name 0) (.tup (.cons (.var 0) .nil))) .nil)) <|
  .cons (.ret (.var 0)) <| .nil
def b__law_refuses_text : Ss :=
  .cons (.try_ (.cons (.iff (.cmp .eq (.var 0) (.cst (.str [105, 110, 116, 101, 103, 101, 114]))) (.cons (.exp (.call 1 (.cons (.var 1) .nil))) .nil) (.cons (.exp (.call 5 (.cons (.var 1) .nil))) .nil)) .nil) 1 (.isi 2 0)) <|
  .cons (.ret (.cst (.bl false))) <| .nil
def b_law : Ss :=
  .cons (.asg (.name 1) (.call 6 (.cons (.var 0) .nil))) <|
  .cons (.for_ (.name 2) .range1 (.cons (.cst (.int (4))) .nil) (.cons (.asg (.name 3) (.idx (.lst (.cons (.bin .sub (.call 7 (.cons (.var 1) (.cons (.cst (.int (41))) .nil))) (.cst (.int (20)))) (.cons (.call 12 (.cons (.var 1) (.cons (.cst (.int (30))) .nil))) .nil))) (.call 7 (.cons (.var 1) (.cons (.cst (.int (2))) .nil))))) (.cons (.asg (.name 4) (.call 11 (.cons (.var 3) .nil))) (.cons (.iff (.or (.not (.call 10 (.cons (.call 0 (.cons (.var 3) .nil)) (.cons (.var 4) .nil)))) (.not (.call 10 (.cons (.call 1 (.cons (.var 4) .nil)) (.cons (.var 3) .nil))))) (.cons (.ret (.cst (.bl false))) .nil) .nil) (.cons (.asg (.name 5) (.lst (.cons (.cst (.str [])) (.cons (.cst (.str [45])) (.cons (.cst (.str [45, 48])) (.cons (.cst (.str [43, 49])) (.cons (.cst (.str [48, 48])) (.cons (.bin .add (.cst (.str [48])) (.var 4)) (.cons (.bin .add (.var 4) (.cst (.str [32]))) (.cons (.bin .add (.cst (.str [32])) (.var 4)) (.cons (.bin .add (.var 4) (.cst (.str [45]))) (.cons (.cst (.str [45, 45, 49])) (.cons (.cst (.str [49, 32, 50])) (.cons (.cst (.str [49, 95, 48])) (.cons (.cst (.str [120])) .nil))))))))))))))) (.cons (.iff (.not (.call 16 (.cons (.cst (.str [105, 110, 116, 101, 103, 101, 114])) (.cons (.call 8 (.cons (.var 1) (.cons (.var 5) .nil))) .nil)))) (.cons (.ret (.cst (.bl false))) .nil) .nil) (.cons (.asg (.name 6) (.call 13 (.cons (.var 1) (.cons (.cst (.int (4))) .nil)))) (.cons (.asg (.name 4) (.call 14 (.cons (.var 6) .nil))) (.cons (.iff (.or (.not (.call 10 (.cons (.call 2 (.cons (.var 6) .nil)) (.cons (.var 4) .nil)))) (.not (.call 10 (.cons (.call 5 (.cons (.var 4) .nil)) (.cons (.var 6) .nil))))) (.cons (.ret (.cst (.bl false))) .nil) .nil) (.cons (.asg (.name 5) (.lst (.cons (.cst (.str [])) (.cons (.cst (.str [40])) (.cons (.cst (.str [41])) (.cons (.cst (.str [40, 49, 44, 50, 41])) (.cons (.cst (.str [40, 49, 44, 32, 41])) (.cons (.cst (.str [40, 49, 32, 50, 41])) (.cons (.cst (.str [40, 49, 41, 50])) (.cons (.cst (.str [39, 97])) (.cons (.cst (.str [97, 39])) (.cons (.cst (.str [40, 41, 40, 41])) (.cons (.cst (.str [40, 44, 41])) (.cons (.cst (.str [40, 32, 49, 41])) (.cons (.cst (.str [39, 97, 39, 39, 98, 39])) (.cons (.cst (.str [40, 49, 44, 32, 32, 50, 41])) .nil)))))))))))))))) (.cons (.asg (.name 5) (.bin .add (.var 5) (.lst (.cons (.bin .add (.var 4) (.cst (.str [32]))) (.cons (.bin .add (.cst (.str [40])) (.var 4)) (.cons (.bin .add (.var 4) (.cst (.str [41]))) (.cons (.bin .add (.var 4) (.cst (.str [44, 32, 49]))) (.cons (.bin .add (.bin .add (.cst (.str [40])) (.var 4)) (.cst (.str [44, 41]))) (.cons (.cst (.str [49, 46, 48])) (.cons (.cst (.str [40, 45, 48, 41])) (.cons (.cst (.str [78, 111, 110, 101])) .nil))))))))))) (.cons (.iff (.not (.call 16 (.cons (.cst (.str [100, 97, 116, 97])) (.cons (.call 8 (.cons (.var 1) (.cons (.var 5) .nil))) .nil)))) (.cons (.ret (.cst (.bl false))) .nil) .nil) .nil)))))))))))) <|
  .cons (.asg (.name 7) (.call 15 (.cons (.cst (.int (7))) (.cons (.cst (.int (40))) .nil)))) <|
  .cons (.iff (.not (.call 10 (.cons (.call 5 (.cons (.call 2 (.cons (.var 7) .nil)) .nil)) (.cons (.var 7) .nil)))) (.cons (.ret (.cst (.bl false))) .nil) .nil) <|
  .cons (.ret (.call 16 (.cons (.cst (.str [100, 97, 116, 97])) (.cons (.call 14 (.cons (.call 15 (.cons (.cst (.int (7))) (.cons (.cst (.int (41))) .nil))) .nil)) .nil)))) <| .nil
def i_write_integer : FnI := ⟨("write_integer", none), "write_integer", n_write_integer, 1, [], b_write_integer⟩
def i_read_integer : FnI := ⟨("read_integer", none), "read_integer", n_read_integer, 1, [], b_read_integer⟩
def i_write_data : FnI := ⟨("write_data", none), "write_data", n_write_data, 1, [], b_write_data⟩
def i_plain_text : FnI := ⟨("plain_text", none), "plain_text", n_plain_text, 1, [], b_plain_text⟩
def i_read_plain : FnI := ⟨("read_plain", none), "read_plain", n_read_plain, 2, [], b_read_plain⟩
def i_read_data : FnI := ⟨("read_data", none), "read_data", n_read_data, 1, [], b_read_data⟩
def i__law_start : FnI := ⟨("_law_start", none), "_law_start", n__law_start, 1, [], b__law_start⟩
def i__law_draw : FnI := ⟨("_law_draw", none), "_law_draw", n__law_draw, 2, [], b__law_draw⟩
def i__law_one_of : FnI := ⟨("_law_one_of", none), "_law_one_of", n__law_one_of, 2, [], b__law_one_of⟩
def i__law_is_int : FnI := ⟨("_law_is_int", none), "_law_is_int", n__law_is_int, 1, [], b__law_is_int⟩
def i__law_same : FnI := ⟨("_law_same", none), "_law_same", n__law_same, 2, [], b__law_same⟩
def i__law_figures_of : FnI := ⟨("_law_figures_of", none), "_law_figures_of", n__law_figures_of, 1, [], b__law_figures_of⟩
def i__law_long_number : FnI := ⟨("_law_long_number", none), "_law_long_number", n__law_long_number, 2, [], b__law_long_number⟩
def i__law_some_datum : FnI := ⟨("_law_some_datum", none), "_law_some_datum", n__law_some_datum, 2, [], b__law_some_datum⟩
def i__law_datum_text : FnI := ⟨("_law_datum_text", none), "_law_datum_text", n__law_datum_text, 1, [], b__law_datum_text⟩
def i__law_nested : FnI := ⟨("_law_nested", none), "_law_nested", n__law_nested, 2, [], b__law_nested⟩
def i__law_refuses_text : FnI := ⟨("_law_refuses_text", none), "_law_refuses_text", n__law_refuses_text, 2, [], b__law_refuses_text⟩
def i_law : FnI := ⟨("law", none), "law", n_law, 1, [], b_law⟩
def P : Pg := ⟨[i_write_integer, i_read_integer, i_write_data, i_plain_text, i_read_plain, i_read_data, i__law_start, i__law_draw, i__law_one_of, i__law_is_int, i__law_same, i__law_figures_of, i__law_long_number, i__law_some_datum, i__law_datum_text, i__law_nested, i__law_refuses_text, i_law], [], xcs⟩
theorem ok_write_integer : FOk P gl bl i_write_integer d_write_integer := ⟨by decide +kernel, by decide +kernel, by kernel_rfl, rfl, rfl, rfl, rfl, fun _ _ _ _ _ _ us hl => match us, hl with | [_], _ => by kernel_rfl⟩
theorem ok_read_integer : FOk P gl bl i_read_integer d_read_integer := ⟨by decide +kernel, by decide +kernel, by kernel_rfl, rfl, rfl, rfl, rfl, fun _ _ _ _ _ _ us hl => match us, hl with | [_], _ => by kernel_rfl⟩
theorem ok_write_data : FOk P gl bl i_write_data d_write_data := ⟨by decide +kernel, by decide +kernel, by kernel_rfl, rfl, rfl, rfl, rfl, fun _ _ _ _ _ _ us hl => match us, hl with | [_], _ => by kernel_rfl⟩
theorem ok_plain_text : FOk P gl bl i_plain_text d_plain_text := ⟨by decide +kernel, by decide +kernel, by kernel_rfl, rfl, rfl, rfl, rfl, fun _ _ _ _ _ _ us hl => match us, hl with | [_], _ => by kernel_rfl⟩
theorem ok_read_plain : FOk P gl bl i_read_plain d_read_plain := ⟨by decide +kernel, by decide +kernel, by kernel_rfl, rfl, rfl, rfl, rfl, fun _ _ _ _ _ _ us hl => match us, hl with | [_, _], _ => by kernel_rfl⟩
theorem ok_read_data : FOk P gl bl i_read_data d_read_data := ⟨by decide +kernel, by decide +kernel, by kernel_rfl, rfl, rfl, rfl, rfl, fun _ _ _ _ _ _ us hl => match us, hl with | [_], _ => by kernel_rfl⟩
theorem ok__law_start : FOk P gl bl i__law_start d__law_start := ⟨by decide +kernel, by decide +kernel, by kernel_rfl, rfl, rfl, rfl, rfl, fun _ _ _ _ _ _ us hl => match us, hl with | [_], _ => by kernel_rfl⟩
theorem ok__law_draw : FOk P gl bl i__law_draw d__law_draw := ⟨by decide +kernel, by decide +kernel, by kernel_rfl, rfl, rfl, rfl, rfl, fun _ _ _ _ _ _ us hl => match us, hl with | [_, _], _ => by kernel_rfl⟩
theorem ok__law_one_of : FOk P gl bl i__law_one_of d__law_one_of := ⟨by decide +kernel, by decide +kernel, by kernel_rfl, rfl, rfl, rfl, rfl, fun _ _ _ _ _ _ us hl => match us, hl with | [_, _], _ => by kernel_rfl⟩
theorem ok__law_is_int : FOk P gl bl i__law_is_int d__law_is_int := ⟨by decide +kernel, by decide +kernel, by kernel_rfl, rfl, rfl, rfl, rfl, fun _ _ _ _ _ _ us hl => match us, hl with | [_], _ => by kernel_rfl⟩
theorem ok__law_same : FOk P gl bl i__law_same d__law_same := ⟨by decide +kernel, by decide +kernel, by kernel_rfl, rfl, rfl, rfl, rfl, fun _ _ _ _ _ _ us hl => match us, hl with | [_, _], _ => by kernel_rfl⟩
theorem ok__law_figures_of : FOk P gl bl i__law_figures_of d__law_figures_of := ⟨by decide +kernel, by decide +kernel, by kernel_rfl, rfl, rfl, rfl, rfl, fun _ _ _ _ _ _ us hl => match us, hl with | [_], _ => by kernel_rfl⟩
theorem ok__law_long_number : FOk P gl bl i__law_long_number d__law_long_number := ⟨by decide +kernel, by decide +kernel, by kernel_rfl, rfl, rfl, rfl, rfl, fun _ _ _ _ _ _ us hl => match us, hl with | [_, _], _ => by kernel_rfl⟩
theorem ok__law_some_datum : FOk P gl bl i__law_some_datum d__law_some_datum := ⟨by decide +kernel, by decide +kernel, by kernel_rfl, rfl, rfl, rfl, rfl, fun _ _ _ _ _ _ us hl => match us, hl with | [_, _], _ => by kernel_rfl⟩
theorem ok__law_datum_text : FOk P gl bl i__law_datum_text d__law_datum_text := ⟨by decide +kernel, by decide +kernel, by kernel_rfl, rfl, rfl, rfl, rfl, fun _ _ _ _ _ _ us hl => match us, hl with | [_], _ => by kernel_rfl⟩
theorem ok__law_nested : FOk P gl bl i__law_nested d__law_nested := ⟨by decide +kernel, by decide +kernel, by kernel_rfl, rfl, rfl, rfl, rfl, fun _ _ _ _ _ _ us hl => match us, hl with | [_, _], _ => by kernel_rfl⟩
theorem ok__law_refuses_text : FOk P gl bl i__law_refuses_text d__law_refuses_text := ⟨by decide +kernel, by decide +kernel, by kernel_rfl, rfl, rfl, rfl, rfl, fun _ _ _ _ _ _ us hl => match us, hl with | [_, _], _ => by kernel_rfl⟩
theorem ok_law : FOk P gl bl i_law d_law := ⟨by decide +kernel, by decide +kernel, by kernel_rfl, rfl, rfl, rfl, rfl, fun _ _ _ _ _ _ us hl => match us, hl with | [_], _ => by kernel_rfl⟩
theorem oks : FOks P gl bl P.fns fn := .cons ok_write_integer <| .cons ok_read_integer <| .cons ok_write_data <| .cons ok_plain_text <| .cons ok_read_plain <| .cons ok_read_data <| .cons ok__law_start <| .cons ok__law_draw <| .cons ok__law_one_of <| .cons ok__law_is_int <| .cons ok__law_same <| .cons ok__law_figures_of <| .cons ok__law_long_number <| .cons ok__law_some_datum <| .cons ok__law_datum_text <| .cons ok__law_nested <| .cons ok__law_refuses_text <| .cons ok_law .nil
def names0 : List Str := ["__name__", "WayknownError", "BadText", "BASE", "DIGITS", "write_integer", "read_integer", "DEPTH", "SIGNS", "write_data", "plain_text", "read_plain", "read_data", "_law_start", "_law_draw", "_law_one_of", "_law_is_int", "_law_same", "_law_figures_of", "_law_long_number", "_law_some_datum", "_law_datum_text", "_law_nested", "_law_refuses_text"]
def names : List Str := names0
abbrev R : PySem.W.OpenRow := PySem.W.OpenLaw.row PySem.Challenge.rw_wayknown_k00_integers_and_data
abbrev hk : PySem.W.Hook := hookQ 5 fn (topB P gl bl)
def ob (s : PySem.W.SharedT) : AlQ := obsQ 5 fn (topB P gl bl) (HandSHeadRun.getT s)
theorem ob_eq (s : PySem.W.SharedT) : ob s = hk.obs s.abs := obsQ_eq (HandSHeadRun.getT_eq s)
theorem run (w : World) : HandSHeadRun.RunEq R (PySem.W.view R.prog [27]) hk ob 4000 names w := by
  intro os
  kernel_rfl
/-- the law, given what its text computes -/
theorem holds_of (hlaw : ∀ ns : List Int, ns.length ≤ 63 → runD P 200 i_law [.rol ns] (fun _ => none) (fun d _ => d = .bl true) fun _ _ => False) : PySem.Challenge.rw_wayknown_k00_integers_and_data.Holds := by
  w_on; o_law
  refine HandSHeadRun.head_any (r := OpenLaw.row PySem.Challenge.rw_wayknown_k00_integers_and_data) (q := view (OpenLaw.row PySem.Challenge.rw_wayknown_k00_integers_and_data).prog [27]) (H := hk) (ob := ob) (M := 4000) (loose := names) (d := HandSHeadRun.topDef (OpenLaw.row PySem.Challenge.rw_wayknown_k00_integers_and_data).prog 27) (kwd := []) ob_eq
    (by kernel_rfl) (fun s => by kernel_rfl) run (by kernel_rfl) (by kernel_rfl) (by kernel_rfl) (by rfl) (by first | assumption | decide +kernel) (by decide +kernel) ⟨rfl, rfl, rfl, rfl, rfl, by decide +kernel⟩ ?hw ?hc
  case hw => w_witness2
  case hc =>
    refine L2.walk_ofE (l := PySem.Challenge.rw_wayknown_k00_integers_and_data) (n := 63) (k := 200 + 20) (x := "script") (CX := CXa) rfl (by decide) (by kernel_rfl) ⟨rfl, by decide, by decide⟩ ?F cxa_no
    intro w mg fa h Y G hmg0
    have hmg : mg ("law" : PySem.Str) = some (.ref fa) := by
      have e : (HandSHeadRun.topDef (OpenLaw.row PySem.Challenge.rw_wayknown_k00_integers_and_data).prog 27).name = ("law" : PySem.Str) := by kernel_rfl
      rw [← e]
      exact hmg0
    exact law_F (n := 199) (f := 17) (i := i_law) oks Y G rfl rfl rfl hmg rfl hlaw

end K00
set_option maxHeartbeats 1000000
/-! PL: plain steps -/
namespace DL
open PySem L2
/-! ### what each step says -/
section
variable {C : List ClsI} {Φ : Calls} {XS : List XcI} {ρ : Loc} {τ : Sto} {K : Ks} {Q : QD} {X : XD} {i j : Int} {a b : Addr} {s t : List Nat} {xs ys : List D} {B : Bool → Prop}
theorem ss_cons {x : S} {r : Ss} : wpSs C Φ XS (.cons x r) ρ τ K = wpS C Φ XS x ρ τ { K with nx := fun ρ' τ' => wpSs C Φ XS r ρ' τ' K } := rfl
theorem ss_nil : wpSs C Φ XS .nil ρ τ K = K.nx ρ τ := rfl
theorem b_addI : wpBin .add (.int i) (.int j) τ Q = Q (.int (i + j)) τ := rfl
theorem b_addS : wpBin .add (.str s) (.str t) τ Q = (s.length + t.length ≤ LIM ∧ Q (.str (s ++ t)) τ) := rfl
theorem b_addT : wpBin .add (.tup xs) (.tup ys) τ Q = (xs.length + ys.length ≤ LIM ∧ Q (.tup (xs ++ ys)) τ) := rfl
theorem b_sub : wpBin .sub (.int i) (.int j) τ Q = Q (.int (i - j)) τ := rfl
theorem b_mul : wpBin .mul (.int i) (.int j) τ Q = (small i ∧ small j ∧ Q (.int (i * j)) τ) := rfl
theorem b_fdiv : wpBin .fdiv (.int i) (.int j) τ Q = (0 < j ∧ j.natAbs < 2 ^ 9000 ∧ Q (.int (i / j)) τ) := rfl
theorem b_mod : wpBin .mod (.int i) (.int j) τ Q = (0 < j ∧ Q (.int (i % j)) τ) := rfl
theorem b_pow1018 : wpBin .pow (.int 10) (.int 18) τ Q = Q (.int 1000000000000000000) τ := by
  show (0 ≤ (18 : Int) ∧ (18 : Int) ≤ 1000000 ∧ (10 : Int).natAbs < 2 ^ 64 ∧ Q (.int ((10 : Int) ^ (18 : Int).toNat)) τ) = _
  have e : ((10 : Int) ^ (18 : Int).toNat) = 1000000000000000000 := by decide +kernel
  rw [e]
  exact propext ⟨fun h => h.2.2.2, fun h => ⟨by decide, by decide, by decide, h⟩⟩
theorem c_lt : wpCmp .lt (.int i) (.int j) τ B = B (decide (i < j)) := rfl
theorem c_le : wpCmp .le (.int i) (.int j) τ B = B (decide (i ≤ j)) := rfl
theorem c_gt : wpCmp .gt (.int i) (.int j) τ B = B (decide (j < i)) := rfl
theorem c_ge : wpCmp .ge (.int i) (.int j) τ B = B (decide (j ≤ i)) := rfl
theorem c_eqI : wpCmp .eq (.int i) (.int j) τ B = B (i == j) := by
  show (true = true ∧ true = true ∧ min 0 0 ≤ 100 ∧ B (i == j)) = _
  simp
theorem c_neI : wpCmp .ne (.int i) (.int j) τ B = B (!(i == j)) := by
  show (true = true ∧ true = true ∧ min 0 0 ≤ 100 ∧ B (!(i == j))) = _
  simp
theorem c_eqS : wpCmp .eq (.str s) (.str t) τ B = B (s == t) := by
  show (true = true ∧ true = true ∧ min 0 0 ≤ 100 ∧ B (s == t)) = _
  simp
theorem c_neS : wpCmp .ne (.str s) (.str t) τ B = B (!(s == t)) := by
  show (true = true ∧ true = true ∧ min 0 0 ≤ 100 ∧ B (!(s == t))) = _
  simp
theorem t_bl {c : Bool} : wpTru (.bl c) τ B = B c := rfl
theorem t_int : wpTru (.int i) τ B = B (i != 0) := rfl
/-- the item at an index -/
def atD (xs : List D) (i : Int) : Option D := (ixD xs.length i).bind fun j => xs[j]?
theorem i_ref : wpIdx (.ref a) (.int i) τ Q = ∃ xs d, τ a = some (.lst xs) ∧ atD xs i = some d ∧ Q d τ := by
  refine propext ⟨fun ⟨xs, j, d, h1, h2, h3, h4⟩ => ⟨xs, d, h1, ?_, h4⟩, fun ⟨xs, d, h1, h2, h3⟩ => ?_⟩
  · unfold atD; rw [h2]; exact h3
  · unfold atD at h2
    cases e : ixD xs.length i with
    | none => rw [e] at h2; cases h2
    | some j => rw [e] at h2; exact ⟨xs, j, d, h1, e, h2, h3⟩
theorem i_lst (h : τ a = some (.lst xs)) {d : D} (k : atD xs i = some d) : wpIdx (.ref a) (.int i) τ Q = Q d τ := by
  rw [i_ref]
  refine propext ⟨fun ⟨ys, e, h1, h2, h3⟩ => ?_, fun q => ⟨xs, d, h, k, q⟩⟩
  rw [h] at h1
  cases h1
  rw [k] at h2
  cases h2
  exact h3
theorem i_tup {d : D} (k : atD xs i = some d) : wpIdx (.tup xs) (.int i) τ Q = Q d τ := by
  refine propext ⟨fun ⟨j, e, h1, h2, h3⟩ => ?_, fun q => ?_⟩
  · unfold atD at k
    rw [h1] at k
    have k : xs[j]? = some d := k
    rw [h2] at k
    cases k
    exact h3
  · unfold atD at k
    cases e : ixD xs.length i with
    | none => rw [e] at k; cases k
    | some j => rw [e] at k; exact ⟨j, d, e, k, q⟩
theorem s_lst {v : D} {j : Nat} {k : Sto → Prop} (h : τ a = some (.lst xs)) (e : ixD xs.length i = some j) : wpSetSub (.ref a) (.int i) v τ k = k (put τ a (.lst (xs.set j v))) := by
  refine propext ⟨fun ⟨ys, j', h1, h2, h3⟩ => ?_, fun q => ⟨xs, j, h, e, q⟩⟩
  rw [h] at h1
  cases h1
  rw [e] at h2
  cases h2
  exact h3
theorem l_lst (h : τ a = some (.lst xs)) : wpBlt .len [.ref a] τ Q = Q (.int xs.length) τ := by
  refine propext ⟨fun ⟨ys, h1, h3⟩ => ?_, fun q => ⟨xs, h, q⟩⟩
  rw [h] at h1
  cases h1
  exact h3
theorem l_tup : wpBlt .len [.tup xs] τ Q = Q (.int xs.length) τ := rfl
theorem l_str : wpBlt .len [.str s] τ Q = (s.length ≤ LIM ∧ Q (.int s.length) τ) := rfl
theorem f_int : wpBlt .int [.int i] τ Q = Q (.int i) τ := rfl
theorem f_abs : wpBlt .abs [.int i] τ Q = Q (.int i.natAbs) τ := rfl
theorem put_put {o o' : O} : put (put τ a o) a o' = put τ a o' := by
  funext x
  unfold put
  split <;> rfl
theorem ixD_nat {n q : Nat} (h : q < n) : ixD n (q : Int) = some q := by
  show L2.ixN n (q : Int) = some q
  unfold L2.ixN
  rw [if_pos (by omega), if_pos (by omega)]
  simp
theorem atD_nat {q : Nat} (h : q < xs.length) : atD xs (q : Int) = xs[q]? := by
  unfold atD
  rw [ixD_nat h]; rfl
theorem at40 {p q r u : D} : atD [p, q, r, u] 0 = some p := rfl
theorem at41 {p q r u : D} : atD [p, q, r, u] 1 = some q := rfl
theorem at42 {p q r u : D} : atD [p, q, r, u] 2 = some r := rfl
theorem at43 {p q r u : D} : atD [p, q, r, u] 3 = some u := rfl
theorem at20 {p q : D} : atD [p, q] 0 = some p := rfl
theorem at21 {p q : D} : atD [p, q] 1 = some q := rfl
theorem ix40 {p q r u : D} : ixD [p, q, r, u].length 0 = some 0 := rfl
theorem ix41 {p q r u : D} : ixD [p, q, r, u].length 1 = some 1 := rfl
theorem ix42 {p q r u : D} : ixD [p, q, r, u].length 2 = some 2 := rfl
theorem ix43 {p q r u : D} : ixD [p, q, r, u].length 3 = some 3 := rfl
theorem bl_ex {c : Bool} {R : Bool → Prop} : (∃ d, D.bl c = D.bl d ∧ R d) = R c := by simp
theorem var_ex {x : D} {R : D → Prop} : (∃ d, some (some x) = some (some d) ∧ R d) = R x := by simp
theorem call_of {P : Pg} {n f : Nat} {i : FnI} {ds : List D} (h : P.fns[f]? = some i) (hd : i.dfl = []) (hl : ds.length = i.np) (r : runD P n i ds τ Q X) : callD P n f ds τ Q X := by
  have e : fill i ds = ds := by unfold fill; rw [hd]; simp
  exact ⟨i, h, by rw [e, hl], by rw [e]; exact r⟩
theorem f_divmod : wpBlt .divmod [.int i, .int j] τ Q = (0 < j ∧ j.natAbs < 2 ^ 9000 ∧ Q (.tup [.int (i / j), .int (i % j)]) τ) := rfl
theorem f_str : wpBlt .str [.int i] τ Q = (i.natAbs < 2 ^ 1900 ∧ Q (.str (numT i)) τ) := rfl
theorem f_intB {c : Bool} : wpBlt .int [.bl c] τ Q = Q (.int (if c then 1 else 0)) τ := rfl
theorem f_intS : wpBlt .int [.str s] τ Q = (isFigs s = true ∧ s.length ≤ 640 ∧ Q (.int (valL s)) τ) := rfl
theorem f_ord {c : Nat} : wpBlt .ord [.str [c]] τ Q = Q (.int c) τ := rfl
theorem f_listR {ns : List Int} : wpBlt .list [.rol ns] τ Q = ∀ p, τ p = none → Q (.ref p) (put τ p (.lst (ns.map D.int))) := rfl
theorem f_tupleL (h : τ a = some (.lst xs)) : wpBlt .tuple [.ref a] τ Q = Q (.tup xs) τ := by
  refine propext ⟨fun ⟨ys, h1, h3⟩ => ?_, fun q => ⟨xs, h, q⟩⟩
  rw [h] at h1
  cases h1
  exact h3
theorem f_allL (h : τ a = some (.lst xs)) {bs : List Bool} (hb : allBl xs = some bs) : wpBlt .all [.ref a] τ Q = Q (.bl (bs.all id)) τ := by
  refine propext ⟨fun ⟨ys, cs, h1, h2, h3⟩ => ?_, fun q => ⟨xs, bs, h, hb, q⟩⟩
  rw [h] at h1
  cases h1
  rw [hb] at h2
  cases h2
  exact h3
theorem is_tup {x : D} : wpBlt .istup [x] τ Q = (x.known = true ∧ Q (.bl (match x with | .tup _ => true | _ => false)) τ) := rfl
theorem is_str {x : D} : wpBlt .isstr [x] τ Q = (x.known = true ∧ Q (.bl (match x with | .str _ => true | _ => false)) τ) := rfl
theorem is_int {x : D} : wpBlt .isint [x] τ Q = (x.known = true ∧ Q (.bl (match x with | .int _ => true | .bl _ => true | _ => false)) τ) := rfl
theorem is_bool {x : D} : wpBlt .isbool [x] τ Q = (x.known = true ∧ Q (.bl (match x with | .bl _ => true | _ => false)) τ) := rfl
theorem ty_str {m : Bmt} : tyB m (.str s) τ = (m.onStr = true) := rfl
theorem ty_lst {m : Bmt} (h : τ a = some (.lst xs)) : tyB m (.ref a) τ = (m.onStr = false) := propext ⟨fun h => h.1, fun k => ⟨k, xs, h⟩⟩
theorem m_app {y : D} (h : τ a = some (.lst xs)) : wpBmt .append (.ref a) [y] τ Q = (xs.length < LIM ∧ Q .non (put τ a (.lst (xs ++ [y])))) := by
  refine propext ⟨fun ⟨ys, h1, h3⟩ => ?_, fun q => ⟨xs, h, q⟩⟩
  rw [h] at h1
  cases h1
  exact h3
theorem m_pop {y : D} (h : τ a = some (.lst (xs ++ [y]))) : wpBmt .pop (.ref a) [] τ Q = Q y (put τ a (.lst xs)) := by
  refine propext ⟨fun ⟨ys, z, h1, h3⟩ => ?_, fun q => ⟨xs, y, h, q⟩⟩
  rw [h] at h1
  simp only [Option.some.injEq, O.lst.injEq] at h1
  obtain ⟨e1, e2⟩ := List.append_inj' h1 rfl
  cases e1
  cases e2
  exact h3
theorem m_join {ls : List (List Nat)} (h : τ a = some (.lst xs)) (k : allStr xs = some ls) : wpBmt .join (.str s) [.ref a] τ Q = ((ls.map (·.length)).sum + ls.length * s.length ≤ LIM ∧ Q (.str (joinS s ls)) τ) := by
  have e : itemsD τ (.ref a) = some xs := by show (match τ a with | some (.lst xs) => some xs | _ => none) = _; rw [h]
  refine propext ⟨fun ⟨ds, l2, h1, h2, h3⟩ => ?_, fun q => ⟨xs, ls, e, k, q⟩⟩
  rw [e] at h1
  cases h1
  rw [k] at h2
  cases h2
  exact h3
theorem m_zfill : wpBmt .zfill (.str s) [.int i] τ Q = (isFigs s = true ∧ 0 ≤ i ∧ i ≤ 1000000 ∧ Q (.str (List.replicate (i.toNat - s.length) 48 ++ s)) τ) := rfl
theorem m_find {c : Nat} : wpBmt .find (.str s) [.str [c], .int i] τ Q = (0 ≤ i ∧ i.toNat ≤ s.length ∧ Q (.int (findL c i.toNat (s.drop i.toNat))) τ) := rfl
theorem on_zfill : (Bmt.onStr .zfill = true) = True := by decide
theorem on_join : (Bmt.onStr .join = true) = True := by decide
theorem on_find : (Bmt.onStr .find = true) = True := by decide
theorem on_append : (Bmt.onStr .append = false) = True := by decide
theorem on_pop : (Bmt.onStr .pop = false) = True := by decide
theorem r_lst (h : τ a = some (.lst xs)) : wpRev (.ref a) τ Q = ∀ p, τ p = none → Q (.ref p) (put τ p (.lst xs.reverse)) := by
  refine propext ⟨fun ⟨ys, h1, h3⟩ => ?_, fun q => ⟨xs, h, q⟩⟩
  rw [h] at h1
  cases h1
  exact h3
theorem i_str : wpIdx (.str s) (.int i) τ Q = (s.length ≤ LIM ∧ ∃ j c, ixD s.length i = some j ∧ s[j]? = some c ∧ Q (.str [c]) τ) := rfl
theorem i_strN {q c : Nat} (h : s[q]? = some c) : wpIdx (.str s) (.int (q : Int)) τ Q = (s.length ≤ LIM ∧ Q (.str [c]) τ) := by
  have hq : q < s.length := (List.getElem?_eq_some_iff.mp h).1
  rw [i_str]
  refine propext ⟨fun ⟨h1, j, c', h2, h3, h4⟩ => ⟨h1, ?_⟩, fun ⟨h1, h2⟩ => ⟨h1, q, c, ixD_nat hq, h, h2⟩⟩
  rw [ixD_nat hq] at h2
  cases h2
  rw [h] at h3
  cases h3
  exact h4
theorem i_str0 {c : Nat} {r : List Nat} : wpIdx (.str (c :: r)) (.int 0) τ Q = ((c :: r).length ≤ LIM ∧ Q (.str [c]) τ) := i_strN (q := 0) rfl
theorem bt2 {x y : D} {p q : Nat} {k : Loc → Prop} : bindT (.tup [p, q]) (.tup [x, y]) ρ k = k ((ρ.set p (some x)).set q (some y)) := by
  refine propext ⟨fun ⟨ds, h1, h2, h3⟩ => ?_, fun h => ⟨[x, y], rfl, rfl, h⟩⟩
  cases h1
  exact h3
theorem bt1 {x : D} {p : Nat} {k : Loc → Prop} : bindT (.name p) x ρ k = k (ρ.set p (some x)) := rfl
theorem sl_str {l h : Option Int} : wpSlc (.str s) l h τ Q = (s.length ≤ LIM ∧ Q (.str (cutD s l h)) τ) := rfl
theorem pd_no {x : D} {R : Option Int → Prop} : (∃ l, partD false x = some l ∧ R l) = R none := by
  have e : partD false x = some none := rfl
  rw [e]
  simp
theorem pd_int {R : Option Int → Prop} : (∃ l, partD true (.int i) = some l ∧ R l) = R (some i) := by
  have e : partD true (.int i) = some (some i) := rfl
  rw [e]
  simp
theorem rs_1 {c : Nat} {k : Xc → Prop} {xi : XcI} (h : XS[c]? = some xi) (ha : xi.att = none) : wpRaise XS c [.str s] k = k ⟨c, []⟩ := by
  unfold wpRaise
  refine propext ⟨fun ⟨i, h1, h2⟩ => ?_, fun q => ⟨xi, h, by rw [ha]; exact q⟩⟩
  rw [h] at h1
  cases h1
  rw [ha] at h2
  exact h2
theorem Ext.put {τ τ' : Sto} {p : Addr} {o : O} (e : Ext τ τ') (h : τ p = none) : Ext τ (DL.put τ' p o) := fun x u q => by
  have hx : x ≠ p := fun z => by subst z; rw [h] at q; cases q
  rw [put_ne hx]
  exact e x u q
/-! ### loops -/
theorem whl_go {t : Loc → Sto → (Bool → Sto → Prop) → XD → Prop} {body : Loc → Sto → Ks → Prop} {I : Nat → Loc → Sto → Prop}
    (step : ∀ m ρ τ (W : Loc → Sto → Prop), I m ρ τ → (∀ m' ρ' τ', m' < m → I m' ρ' τ' → W ρ' τ') → t ρ τ (fun b τ' => if b = true then body ρ τ' { nx := W, rt := K.rt, bk := K.nx, ct := W, ex := K.ex } else K.nx ρ τ') fun x τ' => K.ex x ρ τ') :
    ∀ n m ρ τ, I m ρ τ → m < n → whlGo t body K n ρ τ
  | 0, m, ρ, τ, _, h => absurd h (Nat.not_lt_zero _)
  | n + 1, m, ρ, τ, h, hm => step m ρ τ (whlGo t body K n) h fun m' ρ' τ' h1 h2 => whl_go step n m' ρ' τ' h2 (by omega)
/-- while: I's number falls at each turn -/
theorem whl_ok {t : E} {b : Ss} (I : Nat → Loc → Sto → Prop)
    (step : ∀ m ρ τ (W : Loc → Sto → Prop), I m ρ τ → (∀ m' ρ' τ', m' < m → I m' ρ' τ' → W ρ' τ') → (wpE C Φ t).t ρ τ (fun b' τ' => if b' = true then wpSs C Φ XS b ρ τ' { nx := W, rt := K.rt, bk := K.nx, ct := W, ex := K.ex } else K.nx ρ τ') fun x τ' => K.ex x ρ τ')
    (m : Nat) (h : I m ρ τ) : wpS C Φ XS (.whl t b) ρ τ K :=
  ⟨m + 1, whl_go step (m + 1) m ρ τ h (Nat.lt_succ_self m)⟩
/-- for: I holds ahead of each turn, of the items that are left -/
theorem for_go {g : Sto → Prop} {tg : Tg} {body : Loc → Sto → Ks → Prop} (I : List D → Loc → Sto → Prop)
    (step : ∀ d ds ρ τ (W : Loc → Sto → Prop), I (d :: ds) ρ τ → (∀ ρ' τ', I ds ρ' τ' → W ρ' τ') → g τ ∧ bindT tg d ρ fun ρ' => body ρ' τ { nx := W, rt := K.rt, bk := K.nx, ct := W, ex := K.ex })
    (fin : ∀ ρ τ, I [] ρ τ → g τ ∧ K.nx ρ τ) : ∀ ds ρ τ, I ds ρ τ → forGo g tg body K ds ρ τ
  | [], ρ, τ, h => fin ρ τ h
  | d :: ds, ρ, τ, h => step d ds ρ τ (forGo g tg body K ds) h fun ρ' τ' h' => for_go I step fin ds ρ' τ' h'
theorem comp_go {g : Sto → Prop} {turn : D → Sto → (Option D → Sto → Prop) → Prop} {p : Addr} {F : Sto → Prop} (I : List D → List D → Sto → Prop)
    (step : ∀ d ds acc τ (W : Option D → Sto → Prop), I (d :: ds) acc τ → (∀ τ', I ds acc τ' → W none τ') → (∀ y τ', τ' p = some (.lst acc) → acc.length < LIM → I ds (acc ++ [y]) (put τ' p (.lst (acc ++ [y]))) → W (some y) τ') → g τ ∧ turn d τ W)
    (fin : ∀ acc τ, I [] acc τ → g τ ∧ F τ) : ∀ ds acc τ, I ds acc τ → compGo g turn p F ds acc τ
  | [], acc, τ, h => fin acc τ h
  | d :: ds, acc, τ, h => step d ds acc τ _ h (fun τ' h' => comp_go I step fin ds acc τ' h') fun y τ' h1 h2 h3 => ⟨h1, h2, comp_go I step fin ds (acc ++ [y]) _ h3⟩
end
theorem runD_succ (P : Pg) (n : Nat) (i : FnI) (ds : List D) (τ : Sto) (Q : QD) (X : XD) : runD P (n + 1) i ds τ Q X = wpSs P.cls (callD P n) P.xcs i.body (startD i ds) τ { nx := fun _ τ' => Q .non τ', rt := Q, bk := fun _ _ => False, ct := fun _ _ => False, ex := fun x _ τ' => X x τ' } := rfl
def b_draw2 : Ss :=
  .cons (.asub (.var 0) (.cst (.int (1))) (.bin .add (.idx (.var 0) (.cst (.int (1)))) (.cst (.int (1))))) <|
  .cons (.iff (.cmp .ge (.var 3) (.bin .pow (.cst (.int (10))) (.cst (.int (18))))) (.cons (.asub (.var 0) (.cst (.int (2))) (.bin .fdiv (.var 3) (.var 1))) (.cons (.ret (.bin .mod (.blt .int (.cons (.var 3) .nil)) (.var 1))) .nil)) .nil) <|
  .cons (.asg (.name 4) (.bin .mod (.blt .int (.cons (.bin .add (.bin .mul (.bin .add (.var 3) (.cst (.int (1)))) (.cst (.int (48271)))) (.bin .mul (.idx (.var 0) (.cst (.int (3)))) (.cst (.int (69621))))) .nil)) (.cst (.int (2147483647))))) <|
  .cons (.asg (.name 4) (.bin .mod (.blt .int (.cons (.bin .add (.bin .add (.bin .mul (.var 4) (.cst (.int (16807)))) (.bin .fdiv (.var 3) (.cst (.int (97))))) (.idx (.var 0) (.cst (.int (3))))) .nil)) (.cst (.int (2147483629))))) <|
  .cons (.ret (.bin .mod (.bin .fdiv (.var 4) (.cst (.int (11)))) (.var 1))) <| .nil
def b_draw : Ss :=
  .cons (.asub (.var 0) (.cst (.int (3))) (.bin .add (.idx (.var 0) (.cst (.int (3)))) (.cst (.int (1))))) <|
  .cons (.iff (.cmp .gt (.idx (.var 0) (.cst (.int (2)))) (.cst (.int (0)))) (.cons (.asg (.name 2) (.bin .mod (.blt .int (.cons (.idx (.var 0) (.cst (.int (2)))) .nil)) (.var 1))) (.cons (.asub (.var 0) (.cst (.int (2))) (.bin .fdiv (.idx (.var 0) (.cst (.int (2)))) (.var 1))) (.cons (.ret (.var 2)) .nil))) .nil) <|
  .cons (.asg (.name 3) (.cst (.int (0)))) <|
  .cons (.iff (.cmp .gt (.blt .len (.cons (.idx (.var 0) (.cst (.int (0)))) .nil)) (.cst (.int (0)))) (.cons (.asg (.name 3) (.blt .abs (.cons (.idx (.idx (.var 0) (.cst (.int (0)))) (.bin .mod (.blt .int (.cons (.idx (.var 0) (.cst (.int (1)))) .nil)) (.blt .len (.cons (.idx (.var 0) (.cst (.int (0)))) .nil)))) .nil))) .nil) .nil) <| b_draw2
def i_draw : FnI := ⟨("_law_draw", none), "_law_draw", ["state", "most", "found", "cell", "mixed"], 2, [], b_draw⟩
/-- the draws' state -/
structure Dr (τ : Sto) (a b : Addr) (m : Nat) : Prop where
  ex : ∃ (ns : List Int) (c1 c2 : Int) (c3 : Nat), τ a = some (.lst [.ref b, .int c1, .int c2, .int c3]) ∧ τ b = some (.lst (ns.map D.int)) ∧ a ≠ b ∧ c3 ≤ m
theorem small_le {i : Int} {k : Nat} (h : i.natAbs < 2 ^ k) (hk : k ≤ BIG) : small i := Nat.lt_of_lt_of_le h (Nat.pow_le_pow_right (by decide) hk)
theorem draw2_ok {P : Pg} {n m : Nat} {a b : Addr} {most : Int} {τ τ0 : Sto} {Q : QD} {ns : List Int} {c1 c2 : Int} {c3 c : Nat} {u v : Option D} {K : Ks} (hK : K.rt = Q)
    (ha : τ a = some (.lst [.ref b, .int c1, .int c2, .int (c3 + 1 : Nat)])) (hb : τ b = some (.lst (ns.map D.int))) (hab : a ≠ b) (hc : c3 ≤ m) (h0 : ∀ x o, x ≠ a → τ0 x = some o → τ x = some o)
    (h1 : 0 < most) (h2 : most.natAbs < 2 ^ 64) (hm : m < 2 ^ 1000)
    (k : ∀ (d : Int) (τ' : Sto), 0 ≤ d → d < most → Dr τ' a b (m + 1) → (∀ x o, x ≠ a → τ0 x = some o → τ' x = some o) → Q (.int d) τ') : wpSs P.cls (callD P n) P.xcs b_draw2 [some (.ref a), some (.int most), u, some (.int c), v] τ K := by
  subst hK
  have hb' : ∀ o, put τ a o b = some (.lst (ns.map D.int)) := fun o => by rw [put_ne hab.symm]; exact hb
  have h0' : ∀ o x u, x ≠ a → τ0 x = some u → put τ a o x = some u := fun o x u hx e => by rw [put_ne hx]; exact h0 x u hx e
  unfold b_draw2
  ((try dsimp only); rw [ss_cons]; simp only [ss_nil, wpS, wpE, wpEs, ofV, ofT, b_addI, b_sub, b_mod, b_pow1018, c_lt, c_le, c_gt, c_ge, c_eqI, c_neI, c_eqS, c_neS, t_bl, t_int, l_tup, f_int, f_abs, bt1, List.getElem?_cons_zero, List.getElem?_cons_succ, List.set_cons_zero, List.set_cons_succ, var_ex, Nat.reduceAdd, put_put, bl_ex, f_divmod, f_str, f_intB, f_intS, f_ord, f_listR, is_tup, is_str, is_int, is_bool, ty_str, m_zfill, m_find, on_zfill, on_join, on_find, on_append, on_pop, bt2, DL.sl_str, pd_no, pd_int, true_and, b_mul, b_fdiv, b_addS, b_addT, if_true, if_false, Tg.slots, wipeD, i_lst ha at41, s_lst ha ix41])
  ((try dsimp only); rw [ss_cons]; simp only [ss_nil, wpS, wpE, wpEs, ofV, ofT, b_addI, b_sub, b_mod, b_pow1018, c_lt, c_le, c_gt, c_ge, c_eqI, c_neI, c_eqS, c_neS, t_bl, t_int, l_tup, f_int, f_abs, bt1, List.getElem?_cons_zero, List.getElem?_cons_succ, List.set_cons_zero, List.set_cons_succ, var_ex, Nat.reduceAdd, put_put, bl_ex, f_divmod, f_str, f_intB, f_intS, f_ord, f_listR, is_tup, is_str, is_int, is_bool, ty_str, m_zfill, m_find, on_zfill, on_join, on_find, on_append, on_pop, bt2, DL.sl_str, pd_no, pd_int, true_and, b_mul, b_fdiv, b_addS, b_addT, if_true, if_false, Tg.slots, wipeD])
  by_cases hc2 : (1000000000000000000 : Int) ≤ c
  · rw [if_pos (decide_eq_true hc2)]
    ((try dsimp only); rw [ss_cons]; simp only [ss_nil, wpS, wpE, wpEs, ofV, ofT, b_addI, b_sub, b_mod, b_pow1018, c_lt, c_le, c_gt, c_ge, c_eqI, c_neI, c_eqS, c_neS, t_bl, t_int, l_tup, f_int, f_abs, bt1, List.getElem?_cons_zero, List.getElem?_cons_succ, List.set_cons_zero, List.set_cons_succ, var_ex, Nat.reduceAdd, put_put, bl_ex, f_divmod, f_str, f_intB, f_intS, f_ord, f_listR, is_tup, is_str, is_int, is_bool, ty_str, m_zfill, m_find, on_zfill, on_join, on_find, on_append, on_pop, bt2, DL.sl_str, pd_no, pd_int, true_and, b_mul, b_fdiv, b_addS, b_addT, if_true, if_false, Tg.slots, wipeD, b_fdiv, s_lst put_same ix42])
    refine ⟨h1, Nat.lt_of_lt_of_le h2 (Nat.pow_le_pow_right (by decide) (by decide)), ?_⟩
    ((try dsimp only); rw [ss_cons]; simp only [ss_nil, wpS, wpE, wpEs, ofV, ofT, b_addI, b_sub, b_mod, b_pow1018, c_lt, c_le, c_gt, c_ge, c_eqI, c_neI, c_eqS, c_neS, t_bl, t_int, l_tup, f_int, f_abs, bt1, List.getElem?_cons_zero, List.getElem?_cons_succ, List.set_cons_zero, List.set_cons_succ, var_ex, Nat.reduceAdd, put_put, bl_ex, f_divmod, f_str, f_intB, f_intS, f_ord, f_listR, is_tup, is_str, is_int, is_bool, ty_str, m_zfill, m_find, on_zfill, on_join, on_find, on_append, on_pop, bt2, DL.sl_str, pd_no, pd_int, true_and, b_mul, b_fdiv, b_addS, b_addT, if_true, if_false, Tg.slots, wipeD])
    refine ⟨h1, k _ _ (Int.emod_nonneg _ (by omega)) (Int.emod_lt_of_pos _ h1) ⟨ns, _, _, c3 + 1, put_same, hb' _, hab, by omega⟩ fun x o hx e => h0' _ x o hx e⟩
  · rw [if_neg (by simpa using hc2)]
    ((try dsimp only); rw [ss_cons]; simp only [ss_nil, wpS, wpE, wpEs, ofV, ofT, b_addI, b_sub, b_mod, b_pow1018, c_lt, c_le, c_gt, c_ge, c_eqI, c_neI, c_eqS, c_neS, t_bl, t_int, l_tup, f_int, f_abs, bt1, List.getElem?_cons_zero, List.getElem?_cons_succ, List.set_cons_zero, List.set_cons_succ, var_ex, Nat.reduceAdd, put_put, bl_ex, f_divmod, f_str, f_intB, f_intS, f_ord, f_listR, is_tup, is_str, is_int, is_bool, ty_str, m_zfill, m_find, on_zfill, on_join, on_find, on_append, on_pop, bt2, DL.sl_str, pd_no, pd_int, true_and, b_mul, b_fdiv, b_addS, b_addT, if_true, if_false, Tg.slots, wipeD, i_lst put_same at43, b_mul])
    refine ⟨small_le (k := 200) (by omega) (by decide), small_le (k := 200) (by decide) (by decide), small_le (k := 1001) ?_ (by decide), small_le (k := 200) (by decide) (by decide), by decide, ?_⟩
    · have e : (2 : Nat) ^ 1001 = 2 * 2 ^ 1000 := by rw [show 1001 = 1000 + 1 from rfl, Nat.pow_succ, Nat.mul_comm]
      rw [e]
      generalize (2 : Nat) ^ 1000 = z at *
      omega
    have e1 : ∀ z : Int, (z % 2147483647).natAbs < 2 ^ 200 := fun z => by
      have h1 := Int.emod_nonneg z (show (2147483647 : Int) ≠ 0 by decide)
      have h2 := Int.emod_lt_of_pos z (show (0 : Int) < 2147483647 by decide)
      omega
    ((try dsimp only); rw [ss_cons]; simp only [ss_nil, wpS, wpE, wpEs, ofV, ofT, b_addI, b_sub, b_mod, b_pow1018, c_lt, c_le, c_gt, c_ge, c_eqI, c_neI, c_eqS, c_neS, t_bl, t_int, l_tup, f_int, f_abs, bt1, List.getElem?_cons_zero, List.getElem?_cons_succ, List.set_cons_zero, List.set_cons_succ, var_ex, Nat.reduceAdd, put_put, bl_ex, f_divmod, f_str, f_intB, f_intS, f_ord, f_listR, is_tup, is_str, is_int, is_bool, ty_str, m_zfill, m_find, on_zfill, on_join, on_find, on_append, on_pop, bt2, DL.sl_str, pd_no, pd_int, true_and, b_mul, b_fdiv, b_addS, b_addT, if_true, if_false, Tg.slots, wipeD, i_lst put_same at43, b_mul, b_fdiv])
    refine ⟨small_le (k := 200) (e1 _) (by decide), small_le (k := 200) (by decide) (by decide), by decide, by decide, by decide, ?_⟩
    ((try dsimp only); rw [ss_cons]; simp only [ss_nil, wpS, wpE, wpEs, ofV, ofT, b_addI, b_sub, b_mod, b_pow1018, c_lt, c_le, c_gt, c_ge, c_eqI, c_neI, c_eqS, c_neS, t_bl, t_int, l_tup, f_int, f_abs, bt1, List.getElem?_cons_zero, List.getElem?_cons_succ, List.set_cons_zero, List.set_cons_succ, var_ex, Nat.reduceAdd, put_put, bl_ex, f_divmod, f_str, f_intB, f_intS, f_ord, f_listR, is_tup, is_str, is_int, is_bool, ty_str, m_zfill, m_find, on_zfill, on_join, on_find, on_append, on_pop, bt2, DL.sl_str, pd_no, pd_int, true_and, b_mul, b_fdiv, b_addS, b_addT, if_true, if_false, Tg.slots, wipeD, b_fdiv])
    exact ⟨by decide, by decide, h1, k _ _ (Int.emod_nonneg _ (by omega)) (Int.emod_lt_of_pos _ h1) ⟨ns, _, _, c3 + 1, put_same, hb' _, hab, by omega⟩ fun x o hx e => h0' _ x o hx e⟩
theorem draw_ok {P : Pg} {n m : Nat} {a b : Addr} {most : Int} {τ : Sto} {Q : QD} {X : XD} (h : Dr τ a b m) (h1 : 0 < most) (h2 : most.natAbs < 2 ^ 64) (hm : m < 2 ^ 1000)
    (k : ∀ (d : Int) (τ' : Sto), 0 ≤ d → d < most → Dr τ' a b (m + 1) → (∀ x o, x ≠ a → τ x = some o → τ' x = some o) → Q (.int d) τ') : runD P (n + 1) i_draw [.ref a, .int most] τ Q X := by
  obtain ⟨ns, c1, c2, c3, ha, hb, hab, hc⟩ := h.ex
  rw [runD_succ]
  show wpSs _ _ _ b_draw _ _ _
  unfold b_draw
  show wpSs _ _ _ _ [some (.ref a), some (.int most), none, none, none] _ _
  have hb' : ∀ o, put τ a o b = some (.lst (ns.map D.int)) := fun o => by rw [put_ne hab.symm]; exact hb
  ((try dsimp only); rw [ss_cons]; simp only [ss_nil, wpS, wpE, wpEs, ofV, ofT, b_addI, b_sub, b_mod, b_pow1018, c_lt, c_le, c_gt, c_ge, c_eqI, c_neI, c_eqS, c_neS, t_bl, t_int, l_tup, f_int, f_abs, bt1, List.getElem?_cons_zero, List.getElem?_cons_succ, List.set_cons_zero, List.set_cons_succ, var_ex, Nat.reduceAdd, put_put, bl_ex, f_divmod, f_str, f_intB, f_intS, f_ord, f_listR, is_tup, is_str, is_int, is_bool, ty_str, m_zfill, m_find, on_zfill, on_join, on_find, on_append, on_pop, bt2, DL.sl_str, pd_no, pd_int, true_and, b_mul, b_fdiv, b_addS, b_addT, if_true, if_false, Tg.slots, wipeD, i_lst ha at43, s_lst ha ix43])
  ((try dsimp only); rw [ss_cons]; simp only [ss_nil, wpS, wpE, wpEs, ofV, ofT, b_addI, b_sub, b_mod, b_pow1018, c_lt, c_le, c_gt, c_ge, c_eqI, c_neI, c_eqS, c_neS, t_bl, t_int, l_tup, f_int, f_abs, bt1, List.getElem?_cons_zero, List.getElem?_cons_succ, List.set_cons_zero, List.set_cons_succ, var_ex, Nat.reduceAdd, put_put, bl_ex, f_divmod, f_str, f_intB, f_intS, f_ord, f_listR, is_tup, is_str, is_int, is_bool, ty_str, m_zfill, m_find, on_zfill, on_join, on_find, on_append, on_pop, bt2, DL.sl_str, pd_no, pd_int, true_and, b_mul, b_fdiv, b_addS, b_addT, if_true, if_false, Tg.slots, wipeD, i_lst put_same at42])
  by_cases hc2 : 0 < c2
  · rw [if_pos (decide_eq_true hc2)]
    ((try dsimp only); rw [ss_cons]; simp only [ss_nil, wpS, wpE, wpEs, ofV, ofT, b_addI, b_sub, b_mod, b_pow1018, c_lt, c_le, c_gt, c_ge, c_eqI, c_neI, c_eqS, c_neS, t_bl, t_int, l_tup, f_int, f_abs, bt1, List.getElem?_cons_zero, List.getElem?_cons_succ, List.set_cons_zero, List.set_cons_succ, var_ex, Nat.reduceAdd, put_put, bl_ex, f_divmod, f_str, f_intB, f_intS, f_ord, f_listR, is_tup, is_str, is_int, is_bool, ty_str, m_zfill, m_find, on_zfill, on_join, on_find, on_append, on_pop, bt2, DL.sl_str, pd_no, pd_int, true_and, b_mul, b_fdiv, b_addS, b_addT, if_true, if_false, Tg.slots, wipeD, i_lst put_same at42, b_mod])
    refine ⟨h1, ?_⟩
    ((try dsimp only); rw [ss_cons]; simp only [ss_nil, wpS, wpE, wpEs, ofV, ofT, b_addI, b_sub, b_mod, b_pow1018, c_lt, c_le, c_gt, c_ge, c_eqI, c_neI, c_eqS, c_neS, t_bl, t_int, l_tup, f_int, f_abs, bt1, List.getElem?_cons_zero, List.getElem?_cons_succ, List.set_cons_zero, List.set_cons_succ, var_ex, Nat.reduceAdd, put_put, bl_ex, f_divmod, f_str, f_intB, f_intS, f_ord, f_listR, is_tup, is_str, is_int, is_bool, ty_str, m_zfill, m_find, on_zfill, on_join, on_find, on_append, on_pop, bt2, DL.sl_str, pd_no, pd_int, true_and, b_mul, b_fdiv, b_addS, b_addT, if_true, if_false, Tg.slots, wipeD, i_lst put_same at42, b_fdiv, s_lst put_same ix42])
    refine ⟨h1, Nat.lt_of_lt_of_le h2 (Nat.pow_le_pow_right (by decide) (by decide)), ?_⟩
    ((try dsimp only); rw [ss_cons]; simp only [ss_nil, wpS, wpE, wpEs, ofV, ofT, b_addI, b_sub, b_mod, b_pow1018, c_lt, c_le, c_gt, c_ge, c_eqI, c_neI, c_eqS, c_neS, t_bl, t_int, l_tup, f_int, f_abs, bt1, List.getElem?_cons_zero, List.getElem?_cons_succ, List.set_cons_zero, List.set_cons_succ, var_ex, Nat.reduceAdd, put_put, bl_ex, f_divmod, f_str, f_intB, f_intS, f_ord, f_listR, is_tup, is_str, is_int, is_bool, ty_str, m_zfill, m_find, on_zfill, on_join, on_find, on_append, on_pop, bt2, DL.sl_str, pd_no, pd_int, true_and, b_mul, b_fdiv, b_addS, b_addT, if_true, if_false, Tg.slots, wipeD])
    refine k _ _ (Int.emod_nonneg _ (by omega)) (Int.emod_lt_of_pos _ h1) ⟨ns, c1, _, c3 + 1, put_same, hb' _, hab, by omega⟩ fun x o hx e => ?_
    rw [put_ne hx]; exact e
  · rw [if_neg (by simpa using hc2)]
    ((try dsimp only); rw [ss_cons]; simp only [ss_nil, wpS, wpE, wpEs, ofV, ofT, b_addI, b_sub, b_mod, b_pow1018, c_lt, c_le, c_gt, c_ge, c_eqI, c_neI, c_eqS, c_neS, t_bl, t_int, l_tup, f_int, f_abs, bt1, List.getElem?_cons_zero, List.getElem?_cons_succ, List.set_cons_zero, List.set_cons_succ, var_ex, Nat.reduceAdd, put_put, bl_ex, f_divmod, f_str, f_intB, f_intS, f_ord, f_listR, is_tup, is_str, is_int, is_bool, ty_str, m_zfill, m_find, on_zfill, on_join, on_find, on_append, on_pop, bt2, DL.sl_str, pd_no, pd_int, true_and, b_mul, b_fdiv, b_addS, b_addT, if_true, if_false, Tg.slots, wipeD])
    ((try dsimp only); rw [ss_cons]; simp only [ss_nil, wpS, wpE, wpEs, ofV, ofT, b_addI, b_sub, b_mod, b_pow1018, c_lt, c_le, c_gt, c_ge, c_eqI, c_neI, c_eqS, c_neS, t_bl, t_int, l_tup, f_int, f_abs, bt1, List.getElem?_cons_zero, List.getElem?_cons_succ, List.set_cons_zero, List.set_cons_succ, var_ex, Nat.reduceAdd, put_put, bl_ex, f_divmod, f_str, f_intB, f_intS, f_ord, f_listR, is_tup, is_str, is_int, is_bool, ty_str, m_zfill, m_find, on_zfill, on_join, on_find, on_append, on_pop, bt2, DL.sl_str, pd_no, pd_int, true_and, b_mul, b_fdiv, b_addS, b_addT, if_true, if_false, Tg.slots, wipeD, i_lst put_same at40, l_lst (hb' _)])
    have h0' : ∀ o x u, x ≠ a → τ x = some u → put τ a o x = some u := fun o x u hx e => by rw [put_ne hx]; exact e
    by_cases hl : 0 < ns.length
    · rw [if_pos (by simpa using hl)]
      obtain ⟨z, hz⟩ : ∃ z : Int, atD (ns.map D.int) (c1 % (ns.length : Int)) = some (.int z) := by
        have h1 := Int.emod_nonneg c1 (show ((ns.length : Int)) ≠ 0 by omega)
        have h2 := Int.emod_lt_of_pos c1 (show (0 : Int) < ns.length by omega)
        obtain ⟨q, hq⟩ := Int.eq_ofNat_of_zero_le h1
        rw [hq] at h2 ⊢
        have h2 : q < ns.length := by omega
        refine ⟨ns[q], ?_⟩
        rw [atD_nat (by simpa using h2)]
        simp [h2]
      ((try dsimp only); rw [ss_cons]; simp only [ss_nil, wpS, wpE, wpEs, ofV, ofT, b_addI, b_sub, b_mod, b_pow1018, c_lt, c_le, c_gt, c_ge, c_eqI, c_neI, c_eqS, c_neS, t_bl, t_int, l_tup, f_int, f_abs, bt1, List.getElem?_cons_zero, List.getElem?_cons_succ, List.set_cons_zero, List.set_cons_succ, var_ex, Nat.reduceAdd, put_put, bl_ex, f_divmod, f_str, f_intB, f_intS, f_ord, f_listR, is_tup, is_str, is_int, is_bool, ty_str, m_zfill, m_find, on_zfill, on_join, on_find, on_append, on_pop, bt2, DL.sl_str, pd_no, pd_int, true_and, b_mul, b_fdiv, b_addS, b_addT, if_true, if_false, Tg.slots, wipeD, i_lst put_same at40, i_lst put_same at41, l_lst (hb' _), List.length_map, i_lst (hb' _) hz])
      refine ⟨by omega, ?_⟩
      exact draw2_ok rfl put_same (hb' _) hab hc (h0' _) h1 h2 hm k
    · rw [if_neg (by simpa using hl)]
      exact draw2_ok (c := 0) rfl put_same (hb' _) hab hc (h0' _) h1 h2 hm k
end DL
set_option maxHeartbeats 1000000
/-! PF: figures -/
namespace DL
open PySem L2
theorem dch : ∀ d : Nat, d < 10 → d.digitChar.toNat = 48 + d := by decide
theorem figs_lt {n : Nat} (h : n < 10) : figs n = [48 + n] := by
  unfold figs
  rw [Nat.toDigits_of_lt_base h]
  show [n.digitChar.toNat] = _
  rw [dch n h]
theorem figs_ge {n : Nat} (h : 10 ≤ n) : figs n = figs (n / 10) ++ [48 + n % 10] := by
  unfold figs
  rw [Nat.toDigits_of_base_le (by decide) h, List.map_append]
  show _ ++ [(n % 10).digitChar.toNat] = _
  rw [dch _ (Nat.mod_lt _ (by decide))]
/-- k figures, zeros in front -/
def pad : Nat → Nat → List Nat
  | 0, _ => []
  | k + 1, n => pad k (n / 10) ++ [48 + n % 10]
theorem pad_len : ∀ (k n : Nat), (pad k n).length = k
  | 0, _ => rfl
  | k + 1, n => by unfold pad; rw [List.length_append, pad_len k]; rfl
theorem figs_split : ∀ (k q r : Nat), 0 < q → r < 10 ^ k → figs (q * 10 ^ k + r) = figs q ++ pad k r
  | 0, q, r, hq, hr => by
    have : r = 0 := by simpa using hr
    subst this
    simp [pad]
  | k + 1, q, r, hq, hr => by
    have e0 : 10 ^ (k + 1) = 10 * 10 ^ k := by rw [Nat.pow_succ, Nat.mul_comm]
    have hp : 0 < 10 ^ k := Nat.pow_pos (by decide)
    have e : q * 10 ^ (k + 1) + r = 10 * (q * 10 ^ k) + r := by rw [e0, Nat.mul_left_comm]
    have h10 : 10 ≤ q * 10 ^ (k + 1) + r := by
      rw [e]
      have : 1 ≤ q * 10 ^ k := Nat.mul_pos hq hp
      omega
    rw [figs_ge h10, e]
    have e1 : (10 * (q * 10 ^ k) + r) / 10 = q * 10 ^ k + r / 10 := by omega
    have e2 : (10 * (q * 10 ^ k) + r) % 10 = r % 10 := by omega
    rw [e1, e2, figs_split k q (r / 10) hq (by rw [e0] at hr; omega)]
    show _ = figs q ++ (pad k (r / 10) ++ [48 + r % 10])
    rw [List.append_assoc]
theorem figs_ne (n : Nat) : figs n ≠ [] := by
  by_cases h : n < 10
  · rw [figs_lt h]; simp
  · rw [figs_ge (by omega)]; simp
theorem figs_pad {k n : Nat} (hk : 0 < k) (h : n < 10 ^ k) : List.replicate (k - (figs n).length) 48 ++ figs n = pad k n := by
  induction k generalizing n with
  | zero => omega
  | succ k ih =>
    show _ = pad k (n / 10) ++ [48 + n % 10]
    by_cases hn : n < 10
    · rw [figs_lt hn]
      have e1 : n / 10 = 0 := by omega
      have e2 : n % 10 = n := by omega
      rw [e1, e2]
      have pz : ∀ j, pad j 0 = List.replicate j 48 := fun j => by
        induction j with
        | zero => rfl
        | succ j ih2 => show pad j (0 / 10) ++ [48 + 0 % 10] = _; rw [show 0 / 10 = 0 from rfl, ih2, ← List.replicate_succ'] <;> rfl
      rw [pz]
      show List.replicate (k + 1 - 1) 48 ++ _ = _
      rfl
    · have hk' : 0 < k := by
        rcases Nat.eq_zero_or_pos k with e | e
        · subst e; simp at h; omega
        · exact e
      rw [figs_ge (by omega), List.length_append]
      have e0 : 10 ^ (k + 1) = 10 * 10 ^ k := by rw [Nat.pow_succ, Nat.mul_comm]
      have := ih (n := n / 10) hk' (by rw [e0] at h; omega)
      rw [← this]
      show List.replicate (k + 1 - ((figs (n / 10)).length + 1)) 48 ++ _ = _
      rw [Nat.add_sub_add_right, List.append_assoc]
theorem figs_len {k n : Nat} (hk : 0 < k) (h : n < 10 ^ k) : (figs n).length ≤ k := by
  have := congrArg List.length (figs_pad hk h)
  rw [pad_len, List.length_append, List.length_replicate] at this
  omega
abbrev isFig (c : Nat) : Prop := 48 ≤ c ∧ c ≤ 57
theorem figs_all (n : Nat) : ∀ c ∈ figs n, isFig c := by
  induction n using Nat.strongRecOn with
  | ind n ih =>
    intro c hc
    by_cases h : n < 10
    · rw [figs_lt h] at hc; simp at hc; unfold isFig; omega
    · rw [figs_ge (by omega)] at hc
      rcases List.mem_append.mp hc with hc | hc
      · exact ih (n / 10) (by omega) c hc
      · simp at hc; unfold isFig; omega
theorem pad_all : ∀ (k n : Nat), ∀ c ∈ pad k n, isFig c
  | 0, _, c, h => by cases h
  | k + 1, n, c, h => by
    rcases List.mem_append.mp (show c ∈ pad k (n / 10) ++ [48 + n % 10] from h) with h | h
    · exact pad_all k _ c h
    · simp at h; unfold isFig; omega
theorem isFigs_of {l : List Nat} (h0 : l ≠ []) (h : ∀ c ∈ l, isFig c) : isFigs l = true := by
  unfold isFigs
  rw [Bool.and_eq_true]
  refine ⟨?_, ?_⟩
  · cases l with
    | nil => exact absurd rfl h0
    | cons _ _ => rfl
  · rw [List.all_eq_true]
    intro c hc
    have := h c hc
    simp [this.1, this.2]
theorem isFigs_figs (n : Nat) : isFigs (figs n) = true := isFigs_of (figs_ne n) (figs_all n)
def valG (n : Nat) (l : List Nat) : Nat := l.foldl (fun n c => n * 10 + (c - 48)) n
theorem valG_app (n : Nat) (a b : List Nat) : valG n (a ++ b) = valG (valG n a) b := List.foldl_append ..
theorem valL_eq (l : List Nat) : valL l = valG 0 l := rfl
theorem valG_add : ∀ (l : List Nat) (n : Nat), valG n l = n * 10 ^ l.length + valG 0 l
  | [], n => by simp [valG]
  | c :: l, n => by
    show valG (n * 10 + (c - 48)) l = n * 10 ^ (l.length + 1) + valG (0 * 10 + (c - 48)) l
    rw [valG_add l (n * 10 + (c - 48)), valG_add l (0 * 10 + (c - 48)), Nat.pow_succ, Nat.zero_mul, Nat.zero_add, Nat.add_mul, Nat.mul_assoc, Nat.mul_comm 10, Nat.add_assoc]
theorem valL_app (a b : List Nat) : valL (a ++ b) = valL a * 10 ^ b.length + valL b := by
  rw [valL_eq, valG_app, valG_add]; rfl
theorem valL_one (c : Nat) : valL [c] = c - 48 := by simp [valL]
theorem valL_figs (n : Nat) : valL (figs n) = n := by
  induction n using Nat.strongRecOn with
  | ind n ih =>
    by_cases h : n < 10
    · rw [figs_lt h, valL_one]; omega
    · rw [figs_ge (by omega), valL_app, ih (n / 10) (by omega), valL_one]
      show n / 10 * 10 ^ 1 + _ = n
      omega
theorem valL_lt : ∀ (l : List Nat), (∀ c ∈ l, isFig c) → valL l < 10 ^ l.length := by
  intro l
  induction l with
  | nil => intro _; decide
  | cons c l ih =>
    intro h
    have h1 := ih fun x hx => h x (List.mem_cons_of_mem _ hx)
    have h2 := h c List.mem_cons_self
    have e : valL (c :: l) = valL [c] * 10 ^ l.length + valL l := valL_app [c] l
    rw [e, valL_one, List.length_cons, Nat.pow_succ]
    have h3 : c - 48 ≤ 9 := by have := h2.2; omega
    have h4 : (c - 48) * 10 ^ l.length ≤ 9 * 10 ^ l.length := Nat.mul_le_mul_right _ h3
    omega
theorem figs_head {n : Nat} (h : 0 < n) : ∃ c r, figs n = c :: r ∧ 49 ≤ c ∧ c ≤ 57 := by
  induction n using Nat.strongRecOn with
  | ind n ih =>
    by_cases h1 : n < 10
    · exact ⟨48 + n, [], figs_lt h1, by omega, by omega⟩
    · obtain ⟨c, r, e, h2⟩ := ih (n / 10) (by omega) (by omega)
      exact ⟨c, r ++ [48 + n % 10], by rw [figs_ge (by omega), e] <;> rfl, h2⟩
theorem numT_pos {i : Int} (h : 0 ≤ i) : numT i = figs i.natAbs := by unfold numT; rw [if_neg (by omega)]
theorem numT_neg {i : Int} (h : i < 0) : numT i = 45 :: figs i.natAbs := by unfold numT; rw [if_pos h]
theorem numT_len {k : Nat} {i : Int} (hk : 0 < k) (h : i.natAbs < 10 ^ k) : (numT i).length ≤ k + 1 := by
  have := figs_len hk h
  unfold numT
  split
  · rw [List.length_cons]; omega
  · omega
end DL
set_option maxHeartbeats 1000000
/-! Pa00: what the functions of k00 compute -/
namespace K00
open PySem DL
theorem allStr_map (ls : List (List Nat)) : allStr (ls.map D.str) = some ls := by
  induction ls with
  | nil => rfl
  | cons x r ih => show (allStr (r.map D.str)).map (x :: ·) = _; rw [ih]; rfl
theorem joinS_nil : ∀ ls : List (List Nat), joinS [] ls = ls.flatten
  | [] => rfl
  | [p] => by simp [joinS, TL.joinL]
  | p :: q :: r => by
    show p ++ ([] ++ joinS [] (q :: r)) = _
    rw [joinS_nil (q :: r)]; rfl
theorem sum_len (ls : List (List Nat)) : (ls.map (·.length)).sum = ls.flatten.length := by
  rw [List.length_flatten]
def BASE : Nat := 10000000000000000000000000000000000000000000000000000000000000000
theorem base_eq : BASE = 10 ^ 64 := by decide +kernel
section
variable {n : Nat} {τ : Sto} {Q : QD} {X : XD}
/-- the chunks' loop -/
structure WiI (p : Addr) (τ0 : Sto) (N q : Nat) (ρ : DL.Loc) (τ : Sto) : Prop where
  ex : ∃ (cs : List (List Nat)) (v : Option D), ρ = [some (.int (q : Int)), some (.ref p), v] ∧ τ p = some (.lst (cs.map D.str)) ∧ Ext τ0 τ ∧ figs N = figs q ++ cs.reverse.flatten ∧ cs.length * 64 ≤ (cs.reverse.flatten).length
theorem wi_nonneg {i : Nat} (hi : i < 10 ^ 1000) (k : ∀ τ', Ext τ τ' → Q (.str (figs i)) τ') : runD P (n + 1) i_write_integer [.int i] τ Q X := by
  rw [runD_succ]
  show wpSs _ _ _ b_write_integer [some (.int i), none, none] _ _
  unfold b_write_integer
  have hlen : (figs i).length ≤ 100000 := Nat.le_trans (figs_len (by decide) hi) (by decide)
  ((try dsimp only); rw [ss_cons]; simp only [ss_nil, wpS, wpE, wpEs, ofV, ofT, b_addI, b_sub, b_mod, b_pow1018, c_lt, c_le, c_gt, c_ge, c_eqI, c_neI, c_eqS, c_neS, t_bl, t_int, l_tup, f_int, f_abs, bt1, List.getElem?_cons_zero, List.getElem?_cons_succ, List.set_cons_zero, List.set_cons_succ, var_ex, Nat.reduceAdd, put_put, bl_ex, f_divmod, f_str, f_intB, f_intS, f_ord, f_listR, is_tup, is_str, is_int, is_bool, ty_str, m_zfill, m_find, on_zfill, on_join, on_find, on_append, on_pop, bt2, DL.sl_str, pd_no, pd_int, true_and, b_mul, b_fdiv, b_addS, b_addT, if_true, if_false, Tg.slots, wipeD])
  rw [decide_eq_false (by omega)]
  rw [if_neg (by decide)]
  ((try dsimp only); rw [ss_cons]; simp only [ss_nil, wpS, wpE, wpEs, ofV, ofT, b_addI, b_sub, b_mod, b_pow1018, c_lt, c_le, c_gt, c_ge, c_eqI, c_neI, c_eqS, c_neS, t_bl, t_int, l_tup, f_int, f_abs, bt1, List.getElem?_cons_zero, List.getElem?_cons_succ, List.set_cons_zero, List.set_cons_succ, var_ex, Nat.reduceAdd, put_put, bl_ex, f_divmod, f_str, f_intB, f_intS, f_ord, f_listR, is_tup, is_str, is_int, is_bool, ty_str, m_zfill, m_find, on_zfill, on_join, on_find, on_append, on_pop, bt2, DL.sl_str, pd_no, pd_int, true_and, b_mul, b_fdiv, b_addS, b_addT, if_true, if_false, Tg.slots, wipeD])
  refine ⟨by decide, fun p hp => ?_⟩
  rw [ss_cons]
  refine whl_ok (WiI p τ i) ?_ i ⟨[], none, rfl, put_same, (Ext.refl τ).put hp, by simp, by simp⟩
  rintro q ρ τ1 W ⟨cs, v, rfl, hl, he, hf, hc⟩ hW
  have hc2 : cs.length ≤ 100000 := by
    have := congrArg List.length hf
    rw [List.length_append] at this
    omega
  by_cases hq : BASE ≤ q
  · have hB : 0 < BASE := by decide
    have hr : q % BASE < 10 ^ 64 := by rw [← base_eq]; exact Nat.mod_lt _ hB
    have hz : q = q / BASE * 10 ^ 64 + q % BASE := by rw [← base_eq, Nat.mul_comm]; exact (Nat.div_add_mod q BASE).symm
    have hq0 : 0 < q / BASE := Nat.div_pos (by omega) hB
    (try simp only [ss_nil, wpS, wpE, wpEs, ofV, ofT, b_addI, b_sub, b_mod, b_pow1018, c_lt, c_le, c_gt, c_ge, c_eqI, c_neI, c_eqS, c_neS, t_bl, t_int, l_tup, f_int, f_abs, bt1, List.getElem?_cons_zero, List.getElem?_cons_succ, List.set_cons_zero, List.set_cons_succ, var_ex, Nat.reduceAdd, put_put, bl_ex, f_divmod, f_str, f_intB, f_intS, f_ord, f_listR, is_tup, is_str, is_int, is_bool, ty_str, m_zfill, m_find, on_zfill, on_join, on_find, on_append, on_pop, bt2, DL.sl_str, pd_no, pd_int, true_and, b_mul, b_fdiv, b_addS, b_addT, if_true, if_false, Tg.slots, wipeD])
    rw [decide_eq_true (by have := hq; unfold BASE at this; omega)]
    rw [if_pos rfl]
    ((try dsimp only); rw [ss_cons]; simp only [ss_nil, wpS, wpE, wpEs, ofV, ofT, b_addI, b_sub, b_mod, b_pow1018, c_lt, c_le, c_gt, c_ge, c_eqI, c_neI, c_eqS, c_neS, t_bl, t_int, l_tup, f_int, f_abs, bt1, List.getElem?_cons_zero, List.getElem?_cons_succ, List.set_cons_zero, List.set_cons_succ, var_ex, Nat.reduceAdd, put_put, bl_ex, f_divmod, f_str, f_intB, f_intS, f_ord, f_listR, is_tup, is_str, is_int, is_bool, ty_str, m_zfill, m_find, on_zfill, on_join, on_find, on_append, on_pop, bt2, DL.sl_str, pd_no, pd_int, true_and, b_mul, b_fdiv, b_addS, b_addT, if_true, if_false, Tg.slots, wipeD])
    refine ⟨by decide, by decide +kernel, ?_⟩
    ((try dsimp only); rw [ss_cons]; simp only [ss_nil, wpS, wpE, wpEs, ofV, ofT, b_addI, b_sub, b_mod, b_pow1018, c_lt, c_le, c_gt, c_ge, c_eqI, c_neI, c_eqS, c_neS, t_bl, t_int, l_tup, f_int, f_abs, bt1, List.getElem?_cons_zero, List.getElem?_cons_succ, List.set_cons_zero, List.set_cons_succ, var_ex, Nat.reduceAdd, put_put, bl_ex, f_divmod, f_str, f_intB, f_intS, f_ord, f_listR, is_tup, is_str, is_int, is_bool, ty_str, m_zfill, m_find, on_zfill, on_join, on_find, on_append, on_pop, bt2, DL.sl_str, pd_no, pd_int, true_and, b_mul, b_fdiv, b_addS, b_addT, if_true, if_false, Tg.slots, wipeD, ty_lst hl, m_app hl])
    have e1 : (q : Int) % 10000000000000000000000000000000000000000000000000000000000000000 = ((q % BASE : Nat) : Int) := by unfold BASE; omega
    have e2 : (q : Int) / 10000000000000000000000000000000000000000000000000000000000000000 = ((q / BASE : Nat) : Int) := by unfold BASE; omega
    rw [e1, e2]
    have e3 : numT ((q % BASE : Nat) : Int) = figs (q % BASE) := by rw [numT_pos (by omega)]; rfl
    rw [e3]
    have e4 : List.replicate ((64 : Int).toNat - (figs (q % BASE)).length) 48 ++ figs (q % BASE) = pad 64 (q % BASE) := figs_pad (by decide) hr
    rw [e4]
    refine ⟨?_, isFigs_figs _, by decide, by decide, ?_, hW (q / BASE) _ _ (Nat.div_lt_self (by omega) (by decide)) ⟨cs ++ [pad 64 (q % BASE)], _, rfl, ?_, he.put hp, ?_, ?_⟩⟩
    · show q % BASE < 2 ^ 1900
      exact Nat.lt_of_lt_of_le hr (by decide +kernel)
    · rw [List.length_map]; unfold LIM; omega
    · rw [put_same, List.map_append]; rfl
    · rw [hf]
      conv => lhs; rw [hz, figs_split 64 _ _ hq0 hr]
      rw [List.reverse_append, List.append_assoc]
      rfl
    · rw [List.reverse_append, List.length_append]
      show _ ≤ (([pad 64 (q % BASE)].reverse ++ cs.reverse).flatten).length
      rw [List.flatten_append, List.length_append]
      have e : ([pad 64 (q % BASE)].reverse.flatten).length = 64 := by simp [pad_len]
      rw [e]
      simp only [List.length_cons, List.length_nil]
      omega
  (try simp only [ss_nil, wpS, wpE, wpEs, ofV, ofT, b_addI, b_sub, b_mod, b_pow1018, c_lt, c_le, c_gt, c_ge, c_eqI, c_neI, c_eqS, c_neS, t_bl, t_int, l_tup, f_int, f_abs, bt1, List.getElem?_cons_zero, List.getElem?_cons_succ, List.set_cons_zero, List.set_cons_succ, var_ex, Nat.reduceAdd, put_put, bl_ex, f_divmod, f_str, f_intB, f_intS, f_ord, f_listR, is_tup, is_str, is_int, is_bool, ty_str, m_zfill, m_find, on_zfill, on_join, on_find, on_append, on_pop, bt2, DL.sl_str, pd_no, pd_int, true_and, b_mul, b_fdiv, b_addS, b_addT, if_true, if_false, Tg.slots, wipeD])
  rw [decide_eq_false (by have := hq; unfold BASE at this; omega), if_neg (by decide)]
  have hq : q < BASE := by omega
  ((try dsimp only); rw [ss_cons]; simp only [ss_nil, wpS, wpE, wpEs, ofV, ofT, b_addI, b_sub, b_mod, b_pow1018, c_lt, c_le, c_gt, c_ge, c_eqI, c_neI, c_eqS, c_neS, t_bl, t_int, l_tup, f_int, f_abs, bt1, List.getElem?_cons_zero, List.getElem?_cons_succ, List.set_cons_zero, List.set_cons_succ, var_ex, Nat.reduceAdd, put_put, bl_ex, f_divmod, f_str, f_intB, f_intS, f_ord, f_listR, is_tup, is_str, is_int, is_bool, ty_str, m_zfill, m_find, on_zfill, on_join, on_find, on_append, on_pop, bt2, DL.sl_str, pd_no, pd_int, true_and, b_mul, b_fdiv, b_addS, b_addT, if_true, if_false, Tg.slots, wipeD, ty_lst hl, m_app hl])
  have hq2 : q < 10 ^ 64 := by rw [← base_eq]; exact hq
  refine ⟨Nat.lt_of_lt_of_le hq2 (by decide +kernel), by rw [List.length_map]; unfold LIM; omega, ?_⟩
  ((try dsimp only); rw [ss_cons]; simp only [ss_nil, wpS, wpE, wpEs, ofV, ofT, b_addI, b_sub, b_mod, b_pow1018, c_lt, c_le, c_gt, c_ge, c_eqI, c_neI, c_eqS, c_neS, t_bl, t_int, l_tup, f_int, f_abs, bt1, List.getElem?_cons_zero, List.getElem?_cons_succ, List.set_cons_zero, List.set_cons_succ, var_ex, Nat.reduceAdd, put_put, bl_ex, f_divmod, f_str, f_intB, f_intS, f_ord, f_listR, is_tup, is_str, is_int, is_bool, ty_str, m_zfill, m_find, on_zfill, on_join, on_find, on_append, on_pop, bt2, DL.sl_str, pd_no, pd_int, true_and, b_mul, b_fdiv, b_addS, b_addT, if_true, if_false, Tg.slots, wipeD, r_lst put_same])
  intro r hr
  have e3 : numT (q : Int) = figs q := by rw [numT_pos (by omega)]; rfl
  have hrl : put (put τ1 p (.lst (cs.map D.str ++ [D.str (numT q)]))) r (.lst (cs.map D.str ++ [D.str (numT q)]).reverse) r = some (.lst ((figs q :: cs.reverse).map D.str)) := by
    rw [put_same, e3, List.reverse_append, ← List.map_reverse]; rfl
  rw [m_join hrl (allStr_map _)]
  have e4 : (figs q :: cs.reverse).flatten = figs i := by rw [hf]; rfl
  refine ⟨?_, ?_⟩
  · rw [sum_len, e4]
    unfold LIM
    have e0 : ([] : List Nat).length = 0 := rfl
    rw [e0]
    omega
  · rw [joinS_nil, e4]
    refine k _ ((he.put hp).trans (Ext.new hr))
theorem wi_ok {i : Int} (hi : i.natAbs < 10 ^ 1000) (k : ∀ τ', Ext τ τ' → Q (.str (numT i)) τ') : callD P (n + 2) 0 [.int i] τ Q X := by
  refine call_of (i := i_write_integer) rfl rfl rfl ?_
  by_cases h : 0 ≤ i
  · obtain ⟨q, rfl⟩ := Int.eq_ofNat_of_zero_le h
    refine wi_nonneg hi fun τ' e => ?_
    have := k τ' e
    rw [numT_pos h] at this
    exact this
  · rw [runD_succ]
    show wpSs _ _ _ b_write_integer [some (.int i), none, none] _ _
    unfold b_write_integer
    ((try dsimp only); rw [ss_cons]; simp only [ss_nil, wpS, wpE, wpEs, ofV, ofT, b_addI, b_sub, b_mod, b_pow1018, c_lt, c_le, c_gt, c_ge, c_eqI, c_neI, c_eqS, c_neS, t_bl, t_int, l_tup, f_int, f_abs, bt1, List.getElem?_cons_zero, List.getElem?_cons_succ, List.set_cons_zero, List.set_cons_succ, var_ex, Nat.reduceAdd, put_put, bl_ex, f_divmod, f_str, f_intB, f_intS, f_ord, f_listR, is_tup, is_str, is_int, is_bool, ty_str, m_zfill, m_find, on_zfill, on_join, on_find, on_append, on_pop, bt2, DL.sl_str, pd_no, pd_int, true_and, b_mul, b_fdiv, b_addS, b_addT, if_true, if_false, Tg.slots, wipeD])
    rw [decide_eq_true (by omega), if_pos rfl]
    ((try dsimp only); rw [ss_cons]; simp only [ss_nil, wpS, wpE, wpEs, ofV, ofT, b_addI, b_sub, b_mod, b_pow1018, c_lt, c_le, c_gt, c_ge, c_eqI, c_neI, c_eqS, c_neS, t_bl, t_int, l_tup, f_int, f_abs, bt1, List.getElem?_cons_zero, List.getElem?_cons_succ, List.set_cons_zero, List.set_cons_succ, var_ex, Nat.reduceAdd, put_put, bl_ex, f_divmod, f_str, f_intB, f_intS, f_ord, f_listR, is_tup, is_str, is_int, is_bool, ty_str, m_zfill, m_find, on_zfill, on_join, on_find, on_append, on_pop, bt2, DL.sl_str, pd_no, pd_int, true_and, b_mul, b_fdiv, b_addS, b_addT, if_true, if_false, Tg.slots, wipeD])
    refine ⟨i, rfl, ?_⟩
    refine call_of (i := i_write_integer) rfl rfl rfl ?_
    have e : -i = ((i.natAbs : Nat) : Int) := by omega
    rw [e]
    refine wi_nonneg hi fun τ' e => ?_
    (try simp only [ss_nil, wpS, wpE, wpEs, ofV, ofT, b_addI, b_sub, b_mod, b_pow1018, c_lt, c_le, c_gt, c_ge, c_eqI, c_neI, c_eqS, c_neS, t_bl, t_int, l_tup, f_int, f_abs, bt1, List.getElem?_cons_zero, List.getElem?_cons_succ, List.set_cons_zero, List.set_cons_succ, var_ex, Nat.reduceAdd, put_put, bl_ex, f_divmod, f_str, f_intB, f_intS, f_ord, f_listR, is_tup, is_str, is_int, is_bool, ty_str, m_zfill, m_find, on_zfill, on_join, on_find, on_append, on_pop, bt2, DL.sl_str, pd_no, pd_int, true_and, b_mul, b_fdiv, b_addS, b_addT, if_true, if_false, Tg.slots, wipeD])
    have h1 := figs_len (n := i.natAbs) (k := 1000) (by decide) hi
    refine ⟨by unfold LIM; simp only [List.length_cons, List.length_nil]; omega, ?_⟩
    have := k τ' e
    rw [numT_neg (by omega)] at this
    exact this
end
end K00
set_option maxHeartbeats 1000000
/-! PG: plain steps, more -/
namespace DL
open PySem
theorem take_min' {α : Type} (l : List α) (k : Nat) : l.take (min k l.length) = l.take k := by
  by_cases h : k ≤ l.length
  · rw [Nat.min_eq_left h]
  · rw [Nat.min_eq_right (by omega), List.take_of_length_le (Nat.le_refl _), List.take_of_length_le (by omega)]
theorem cut_to {α : Type} (l : List α) (k : Nat) : cutD l none (some (k : Int)) = l.take k := by
  show (l.drop 0).take (HT.sIx l.length l.length (some (k : Int)) - 0) = _
  rw [HT.sIx_nat, List.drop_zero, Nat.sub_zero, take_min']
theorem cut_from {α : Type} (l : List α) (k : Nat) : cutD l (some (k : Int)) none = l.drop k := by
  show (l.drop (HT.sIx l.length 0 (some (k : Int)))).take (l.length - HT.sIx l.length 0 (some (k : Int))) = _
  rw [HT.sIx_nat]
  by_cases h : k ≤ l.length
  · rw [Nat.min_eq_left h, List.take_of_length_le (by rw [List.length_drop]; omega)]
  · rw [Nat.min_eq_right (by omega), List.drop_of_length_le (Nat.le_refl _), List.drop_of_length_le (by omega), List.take_nil]
theorem cut_mid {α : Type} (l : List α) (a b : Nat) : cutD l (some (a : Int)) (some (b : Int)) = (l.drop a).take (b - a) := by
  show (l.drop (HT.sIx l.length 0 (some (a : Int)))).take (HT.sIx l.length l.length (some (b : Int)) - HT.sIx l.length 0 (some (a : Int))) = _
  rw [HT.sIx_nat, HT.sIx_nat]
  by_cases h : a ≤ l.length
  · rw [Nat.min_eq_left h]
    by_cases h2 : b ≤ l.length
    · rw [Nat.min_eq_left h2]
    · rw [Nat.min_eq_right (by omega), List.take_of_length_le (by rw [List.length_drop]; omega), List.take_of_length_le (by rw [List.length_drop]; omega)]
  · have e : min a l.length = l.length := Nat.min_eq_right (by omega)
    rw [e, List.drop_of_length_le (Nat.le_refl _), List.drop_of_length_le (by omega), List.take_nil, List.take_nil]
theorem cut_to1 {α : Type} (l : List α) : cutD l none (some 1) = l.take 1 := cut_to l 1
theorem cut_from1 {α : Type} (l : List α) : cutD l (some 1) none = l.drop 1 := cut_from l 1
theorem inL_has (c : Nat) : ∀ s : List Nat, inL [c] s = s.contains c
  | [] => rfl
  | d :: r => by
    show (((d :: r).take 1 == [c]) || inL [c] r) = _
    rw [inL_has c r, List.contains_cons]
    have e : ((d :: r).take 1 == [c]) = (c == d) := by
      rw [List.take_succ_cons, List.take_zero]
      by_cases h : c = d
      · subst h; simp
      · rw [beq_eq_false_iff_ne.mpr h, beq_eq_false_iff_ne.mpr]
        intro z; cases z; exact h rfl
    rw [e]
section
variable {C : List ClsI} {Φ : Calls} {XS : List XcI} {ρ : Loc} {τ : Sto} {K : Ks} {Q : QD} {X : XD} {i j : Int} {a b : Addr} {s t : List Nat} {xs ys : List D} {B : Bool → Prop}
theorem in_str {c : Nat} : wpCmp .inn (.str [c]) (.str s) τ B = B (s.contains c) := by
  show (∃ d, [c] = [d] ∧ B (inL [c] s)) = _
  rw [inL_has]
  simp
theorem nin_str {c : Nat} : wpCmp .nin (.str [c]) (.str s) τ B = B (!s.contains c) := by
  show (∃ d, [c] = [d] ∧ B (!inL [c] s)) = _
  rw [inL_has]
  simp
theorem it_str {k : List D → (Sto → Prop) → Prop} : wpIt .of [.str s] τ k = k (s.map fun c => .str [c]) fun _ => True := rfl
theorem it_tup {k : List D → (Sto → Prop) → Prop} : wpIt .of [.tup xs] τ k = k xs fun _ => True := rfl
theorem it_r1 {k : List D → (Sto → Prop) → Prop} : wpIt .range1 [.int i] τ k = (i.natAbs < 2 ^ 62 ∧ k ((List.range i.toNat).map fun (j : Nat) => .int j) fun _ => True) := rfl
theorem it_r2 {k : List D → (Sto → Prop) → Prop} : wpIt .range2 [.int i, .int j] τ k = (i.natAbs < 2 ^ 62 ∧ j.natAbs < 2 ^ 62 ∧ k ((List.range (j - i).toNat).map fun (z : Nat) => .int (i + z)) fun _ => True) := rfl
theorem it_r3 {c : Int} {k : List D → (Sto → Prop) → Prop} : wpIt .range3 [.int i, .int j, .int c] τ k = (i.natAbs < 2 ^ 60 ∧ j.natAbs < 2 ^ 60 ∧ 0 < c ∧ c < 2 ^ 30 ∧ k ((List.range ((j - i + c - 1) / c).toNat).map fun (z : Nat) => .int (i + z * c)) fun _ => True) := rfl
end
theorem drop_cons' {α : Type} {xs : List α} {j : Nat} {d : α} {ds : List α} (h : xs.drop j = d :: ds) : xs[j]? = some d ∧ ds = xs.drop (j + 1) := by
  have h1 : j < xs.length := by
    rcases Nat.lt_or_ge j xs.length with q | q
    · exact q
    · rw [List.drop_of_length_le q] at h; cases h
  rw [List.drop_eq_getElem_cons h1] at h
  injection h with e1 e2
  exact ⟨by rw [← e1]; exact List.getElem?_eq_getElem h1, e2.symm⟩
theorem pow10_small {k : Nat} (h : k ≤ 100000) : 10 ^ k ≤ 2 ^ BIG := by
  have h1 : 10 ^ k ≤ 16 ^ k := Nat.pow_le_pow_left (by decide) k
  have h2 : 16 ^ k = 2 ^ (4 * k) := by rw [Nat.pow_mul]
  rw [h2] at h1
  exact Nat.le_trans h1 (Nat.pow_le_pow_right (by decide) (by unfold BIG; omega))
end DL
set_option maxHeartbeats 1000000
/-! Pb00: read_integer -/
namespace K00
open PySem DL
def sgn (l : List Nat) : Bool := l.head? == some 45
def dig (l : List Nat) : List Nat := if sgn l = true then l.drop 1 else l
def intBad (l : List Nat) : Bool := (dig l).isEmpty || ((dig l).head? == some 48 && l != [48]) || !((dig l).all fun c => decide (48 ≤ c) && decide (c ≤ 57))
def intVal (l : List Nat) : Int := if sgn l = true then -(valL (dig l) : Int) else valL (dig l)
def b_ri2 : Ss :=
  .cons (.asg (.name 3) (.bin .mod (.blt .len (.cons (.var 1) .nil)) (.cst (.int (64))))) <|
  .cons (.asg (.name 4) (.cst (.int (0)))) <|
  .cons (.iff (.cmp .gt (.var 3) (.cst (.int (0)))) (.cons (.asg (.name 4) (.blt .int (.cons (.slc false true (.var 1) (.cst .non) (.var 3)) .nil))) .nil) .nil) <|
  .cons (.for_ (.name 5) .range3 (.cons (.var 3) (.cons (.blt .len (.cons (.var 1) .nil)) (.cons (.cst (.int (64))) .nil))) (.cons (.asg (.name 4) (.bin .add (.bin .mul (.var 4) (.cst (.int (10000000000000000000000000000000000000000000000000000000000000000)))) (.blt .int (.cons (.slc true true (.var 1) (.var 5) (.bin .add (.var 5) (.cst (.int (64))))) .nil)))) .nil)) <|
  .cons (.iff (.cmp .eq (.idx (.var 0) (.cst (.int (0)))) (.cst (.str [45]))) (.cons (.ret (.neg (.var 4))) .nil) .nil) <|
  .cons (.ret (.var 4)) <| .nil
section
variable {n : Nat} {τ : Sto} {Q : QD} {X : XD}
/-- the loop over the chunks -/
structure RiI (l g : List Nat) (h N : Nat) (τ0 : Sto) (ds : List D) (ρ : DL.Loc) (τ : Sto) : Prop where
  ex : ∃ (j : Nat) (u v : Option D), ρ = [some (.str l), some (.str g), v, some (.int h), some (.int (valL (g.take (h + 64 * j)))), u] ∧ τ = τ0 ∧ ds = (((List.range N).map fun (z : Nat) => D.int ((h : Int) + z * 64))).drop j ∧ j ≤ N
def b_ri3 : Ss :=
  .cons (.for_ (.name 5) .range3 (.cons (.var 3) (.cons (.blt .len (.cons (.var 1) .nil)) (.cons (.cst (.int (64))) .nil))) (.cons (.asg (.name 4) (.bin .add (.bin .mul (.var 4) (.cst (.int (10000000000000000000000000000000000000000000000000000000000000000)))) (.blt .int (.cons (.slc true true (.var 1) (.var 5) (.bin .add (.var 5) (.cst (.int (64))))) .nil)))) .nil)) <|
  .cons (.iff (.cmp .eq (.idx (.var 0) (.cst (.int (0)))) (.cst (.str [45]))) (.cons (.ret (.neg (.var 4))) .nil) .nil) <|
  .cons (.ret (.var 4)) <| .nil
theorem ri3_ok {Φ : Calls} {K : Ks} {l g : List Nat} {v u : Option D} {h : Nat} (hg : ∀ c ∈ g, isFig c) (hgl : g.length ≤ 100000) (hl : l.length ≤ 100001) (c0 : Nat) (r0 : List Nat) (hl0 : l = c0 :: r0) (hh : h = g.length % 64)
    (k : K.rt (.int (if c0 = 45 then -(valL g : Int) else valL g)) τ) : wpSs P.cls Φ P.xcs b_ri3 [some (.str l), some (.str g), v, some (.int h), some (.int (valL (g.take h))), u] τ K := by
  unfold b_ri3
  ((try dsimp only); rw [ss_cons]; simp only [ss_nil, wpS, wpE, wpEs, ofV, ofT, b_addI, b_sub, b_mod, b_pow1018, c_lt, c_le, c_gt, c_ge, c_eqI, c_neI, c_eqS, c_neS, t_bl, t_int, l_tup, f_int, f_abs, bt1, List.getElem?_cons_zero, List.getElem?_cons_succ, List.set_cons_zero, List.set_cons_succ, var_ex, Nat.reduceAdd, put_put, bl_ex, f_divmod, f_str, f_intB, f_intS, f_ord, f_listR, is_tup, is_str, is_int, is_bool, ty_str, m_zfill, m_find, on_zfill, on_join, on_find, on_append, on_pop, bt2, DL.sl_str, pd_no, pd_int, true_and, b_mul, b_fdiv, b_addS, b_addT, if_true, if_false, Tg.slots, wipeD, it_r3, l_str])
  have hN : g.length = h + 64 * (g.length / 64) := by omega
  generalize hNe : g.length / 64 = N at hN
  have e1 : (((g.length : Int) - h + 64 - 1) / 64).toNat = N := by omega
  rw [e1]
  refine ⟨by unfold LIM; omega, by omega, by omega, by decide, by decide, ?_⟩
  refine for_go (RiI l g h N τ) ?_ ?_ _ _ _ ⟨0, u, v, by rw [Nat.mul_zero, Nat.add_zero], rfl, rfl, by omega⟩
  · rintro d ds ρ τ' W ⟨j, u, v, rfl, rfl, hds, hj⟩ hW
    obtain ⟨hd1, hd2⟩ := drop_cons' hds.symm
    have hjN : j < N := by
      have := (List.getElem?_eq_some_iff.mp hd1).1
      simpa using this
    have hd3 : d = .int ((h + 64 * j : Nat) : Int) := by
      rw [List.getElem?_map, List.getElem?_range hjN] at hd1
      have e : D.int ((h : Int) + j * 64) = d := Option.some.inj hd1
      rw [← e]
      congr 1
      omega
    subst hd3
    refine ⟨True.intro, ?_⟩
    (try simp only [ss_nil, wpS, wpE, wpEs, ofV, ofT, b_addI, b_sub, b_mod, b_pow1018, c_lt, c_le, c_gt, c_ge, c_eqI, c_neI, c_eqS, c_neS, t_bl, t_int, l_tup, f_int, f_abs, bt1, List.getElem?_cons_zero, List.getElem?_cons_succ, List.set_cons_zero, List.set_cons_succ, var_ex, Nat.reduceAdd, put_put, bl_ex, f_divmod, f_str, f_intB, f_intS, f_ord, f_listR, is_tup, is_str, is_int, is_bool, ty_str, m_zfill, m_find, on_zfill, on_join, on_find, on_append, on_pop, bt2, DL.sl_str, pd_no, pd_int, true_and, b_mul, b_fdiv, b_addS, b_addT, if_true, if_false, Tg.slots, wipeD])
    ((try dsimp only); rw [ss_cons]; simp only [ss_nil, wpS, wpE, wpEs, ofV, ofT, b_addI, b_sub, b_mod, b_pow1018, c_lt, c_le, c_gt, c_ge, c_eqI, c_neI, c_eqS, c_neS, t_bl, t_int, l_tup, f_int, f_abs, bt1, List.getElem?_cons_zero, List.getElem?_cons_succ, List.set_cons_zero, List.set_cons_succ, var_ex, Nat.reduceAdd, put_put, bl_ex, f_divmod, f_str, f_intB, f_intS, f_ord, f_listR, is_tup, is_str, is_int, is_bool, ty_str, m_zfill, m_find, on_zfill, on_join, on_find, on_append, on_pop, bt2, DL.sl_str, pd_no, pd_int, true_and, b_mul, b_fdiv, b_addS, b_addT, if_true, if_false, Tg.slots, wipeD, l_str])
    have e2 : ((h + 64 * j : Nat) : Int) + 64 = ((h + 64 * j + 64 : Nat) : Int) := by omega
    rw [e2, cut_mid]
    have e3 : h + 64 * j + 64 - (h + 64 * j) = 64 := by omega
    rw [e3]
    have hcl : ((g.drop (h + 64 * j)).take 64).length = 64 := by
      rw [List.length_take, List.length_drop]; omega
    have hcf : ∀ c ∈ (g.drop (h + 64 * j)).take 64, isFig c := fun c hc => hg c (List.mem_of_mem_drop (List.mem_of_mem_take hc))
    have hts : valL (g.take (h + 64 * j)) < 2 ^ BIG := by
      have h1 := valL_lt (g.take (h + 64 * j)) fun c hc => hg c (List.mem_of_mem_take hc)
      refine Nat.lt_of_lt_of_le h1 (pow10_small ?_)
      rw [List.length_take]; omega
    have ets : valL (g.take (h + 64 * (j + 1))) = valL (g.take (h + 64 * j)) * 10 ^ 64 + valL ((g.drop (h + 64 * j)).take 64) := by
      have e4 : h + 64 * (j + 1) = (h + 64 * j) + 64 := by omega
      rw [e4, List.take_add, valL_app, hcl]
    refine ⟨?_, ?_, by unfold LIM; omega, isFigs_of (fun z => by rw [z] at hcl; cases hcl) hcf, by omega, hW _ _ ⟨j + 1, some (.int ((h + 64 * j : Nat) : Int)), v, ?_, rfl, hd2, by omega⟩⟩
    · exact hts
    · exact small_le (k := 300) (by decide +kernel) (by decide)
    · rw [ets, ← base_eq, Int.natCast_add, Int.natCast_mul]
      rfl
  · rintro ρ τ' ⟨j, u, v, rfl, rfl, hds, hj⟩
    have hjN : j = N := by
      rcases Nat.lt_or_ge j N with q | q
      · have := congrArg List.length hds
        simp at this
        omega
      · omega
    subst hjN
    refine ⟨True.intro, ?_⟩
    have et : g.take (h + 64 * j) = g := List.take_of_length_le (by omega)
    rw [et]
    subst hl0
    ((try dsimp only); rw [ss_cons]; simp only [ss_nil, wpS, wpE, wpEs, ofV, ofT, b_addI, b_sub, b_mod, b_pow1018, c_lt, c_le, c_gt, c_ge, c_eqI, c_neI, c_eqS, c_neS, t_bl, t_int, l_tup, f_int, f_abs, bt1, List.getElem?_cons_zero, List.getElem?_cons_succ, List.set_cons_zero, List.set_cons_succ, var_ex, Nat.reduceAdd, put_put, bl_ex, f_divmod, f_str, f_intB, f_intS, f_ord, f_listR, is_tup, is_str, is_int, is_bool, ty_str, m_zfill, m_find, on_zfill, on_join, on_find, on_append, on_pop, bt2, DL.sl_str, pd_no, pd_int, true_and, b_mul, b_fdiv, b_addS, b_addT, if_true, if_false, Tg.slots, wipeD, i_str0])
    refine ⟨by unfold LIM; omega, ?_⟩
    by_cases h45 : c0 = 45
    · subst h45
      rw [if_pos rfl] at k
      rw [if_pos (by decide)]
      ((try dsimp only); rw [ss_cons]; simp only [ss_nil, wpS, wpE, wpEs, ofV, ofT, b_addI, b_sub, b_mod, b_pow1018, c_lt, c_le, c_gt, c_ge, c_eqI, c_neI, c_eqS, c_neS, t_bl, t_int, l_tup, f_int, f_abs, bt1, List.getElem?_cons_zero, List.getElem?_cons_succ, List.set_cons_zero, List.set_cons_succ, var_ex, Nat.reduceAdd, put_put, bl_ex, f_divmod, f_str, f_intB, f_intS, f_ord, f_listR, is_tup, is_str, is_int, is_bool, ty_str, m_zfill, m_find, on_zfill, on_join, on_find, on_append, on_pop, bt2, DL.sl_str, pd_no, pd_int, true_and, b_mul, b_fdiv, b_addS, b_addT, if_true, if_false, Tg.slots, wipeD])
      exact ⟨_, rfl, k⟩
    · rw [if_neg h45] at k
      have e : (([c0] : List Nat) == [45]) = false := by rw [beq_eq_false_iff_ne]; intro z; cases z; exact h45 rfl
      rw [e, if_neg (by decide)]
      ((try dsimp only); rw [ss_cons]; simp only [ss_nil, wpS, wpE, wpEs, ofV, ofT, b_addI, b_sub, b_mod, b_pow1018, c_lt, c_le, c_gt, c_ge, c_eqI, c_neI, c_eqS, c_neS, t_bl, t_int, l_tup, f_int, f_abs, bt1, List.getElem?_cons_zero, List.getElem?_cons_succ, List.set_cons_zero, List.set_cons_succ, var_ex, Nat.reduceAdd, put_put, bl_ex, f_divmod, f_str, f_intB, f_intS, f_ord, f_listR, is_tup, is_str, is_int, is_bool, ty_str, m_zfill, m_find, on_zfill, on_join, on_find, on_append, on_pop, bt2, DL.sl_str, pd_no, pd_int, true_and, b_mul, b_fdiv, b_addS, b_addT, if_true, if_false, Tg.slots, wipeD])
      exact k
theorem ri2_ok {Φ : Calls} {K : Ks} {l g : List Nat} {v : Option D} (hg : ∀ c ∈ g, isFig c) (hgl : g.length ≤ 100000) (hl : l.length ≤ 100001) (c0 : Nat) (r0 : List Nat) (hl0 : l = c0 :: r0)
    (k : K.rt (.int (if c0 = 45 then -(valL g : Int) else valL g)) τ) : wpSs P.cls Φ P.xcs b_ri2 [some (.str l), some (.str g), v, none, none, none] τ K := by
  unfold b_ri2
  ((try dsimp only); rw [ss_cons]; simp only [ss_nil, wpS, wpE, wpEs, ofV, ofT, b_addI, b_sub, b_mod, b_pow1018, c_lt, c_le, c_gt, c_ge, c_eqI, c_neI, c_eqS, c_neS, t_bl, t_int, l_tup, f_int, f_abs, bt1, List.getElem?_cons_zero, List.getElem?_cons_succ, List.set_cons_zero, List.set_cons_succ, var_ex, Nat.reduceAdd, put_put, bl_ex, f_divmod, f_str, f_intB, f_intS, f_ord, f_listR, is_tup, is_str, is_int, is_bool, ty_str, m_zfill, m_find, on_zfill, on_join, on_find, on_append, on_pop, bt2, DL.sl_str, pd_no, pd_int, true_and, b_mul, b_fdiv, b_addS, b_addT, if_true, if_false, Tg.slots, wipeD, l_str])
  refine ⟨by unfold LIM; omega, by decide, ?_⟩
  ((try dsimp only); rw [ss_cons]; simp only [ss_nil, wpS, wpE, wpEs, ofV, ofT, b_addI, b_sub, b_mod, b_pow1018, c_lt, c_le, c_gt, c_ge, c_eqI, c_neI, c_eqS, c_neS, t_bl, t_int, l_tup, f_int, f_abs, bt1, List.getElem?_cons_zero, List.getElem?_cons_succ, List.set_cons_zero, List.set_cons_succ, var_ex, Nat.reduceAdd, put_put, bl_ex, f_divmod, f_str, f_intB, f_intS, f_ord, f_listR, is_tup, is_str, is_int, is_bool, ty_str, m_zfill, m_find, on_zfill, on_join, on_find, on_append, on_pop, bt2, DL.sl_str, pd_no, pd_int, true_and, b_mul, b_fdiv, b_addS, b_addT, if_true, if_false, Tg.slots, wipeD])
  ((try dsimp only); rw [ss_cons]; simp only [ss_nil, wpS, wpE, wpEs, ofV, ofT, b_addI, b_sub, b_mod, b_pow1018, c_lt, c_le, c_gt, c_ge, c_eqI, c_neI, c_eqS, c_neS, t_bl, t_int, l_tup, f_int, f_abs, bt1, List.getElem?_cons_zero, List.getElem?_cons_succ, List.set_cons_zero, List.set_cons_succ, var_ex, Nat.reduceAdd, put_put, bl_ex, f_divmod, f_str, f_intB, f_intS, f_ord, f_listR, is_tup, is_str, is_int, is_bool, ty_str, m_zfill, m_find, on_zfill, on_join, on_find, on_append, on_pop, bt2, DL.sl_str, pd_no, pd_int, true_and, b_mul, b_fdiv, b_addS, b_addT, if_true, if_false, Tg.slots, wipeD, l_str])
  have eh : (g.length : Int) % 64 = ((g.length % 64 : Nat) : Int) := by omega
  rw [eh]
  by_cases h0 : 0 < g.length % 64
  · rw [decide_eq_true (by omega), if_pos rfl]
    ((try dsimp only); rw [ss_cons]; simp only [ss_nil, wpS, wpE, wpEs, ofV, ofT, b_addI, b_sub, b_mod, b_pow1018, c_lt, c_le, c_gt, c_ge, c_eqI, c_neI, c_eqS, c_neS, t_bl, t_int, l_tup, f_int, f_abs, bt1, List.getElem?_cons_zero, List.getElem?_cons_succ, List.set_cons_zero, List.set_cons_succ, var_ex, Nat.reduceAdd, put_put, bl_ex, f_divmod, f_str, f_intB, f_intS, f_ord, f_listR, is_tup, is_str, is_int, is_bool, ty_str, m_zfill, m_find, on_zfill, on_join, on_find, on_append, on_pop, bt2, DL.sl_str, pd_no, pd_int, true_and, b_mul, b_fdiv, b_addS, b_addT, if_true, if_false, Tg.slots, wipeD, l_str, cut_to])
    have hcf : ∀ c ∈ g.take (g.length % 64), isFig c := fun c hc => hg c (List.mem_of_mem_take hc)
    have hcl : (g.take (g.length % 64)).length = g.length % 64 := by rw [List.length_take]; omega
    refine ⟨by unfold LIM; omega, isFigs_of (fun z => by rw [z] at hcl; rw [← hcl] at h0; exact absurd h0 (by decide)) hcf, by omega, ?_⟩
    exact ri3_ok hg hgl hl c0 r0 hl0 rfl k
  · rw [decide_eq_false (by omega), if_neg (by decide)]
    have e : g.length % 64 = 0 := by omega
    have := ri3_ok (τ := τ) (Φ := Φ) (K := K) (v := v) (u := none) hg hgl hl c0 r0 hl0 rfl k
    rw [e] at this ⊢
    exact this
/-- the look at the figures -/
structure RjI (l g : List Nat) (bad : Bool) (τ0 : Sto) (ds : List D) (ρ : DL.Loc) (τ : Sto) : Prop where
  ex : ∃ (r : List Nat) (v : Option D), ρ = [some (.str l), some (.str g), v, none, none, none] ∧ τ = τ0 ∧ ds = r.map (fun c => D.str [c]) ∧ (∀ c ∈ r, c ∈ g) ∧ (bad = true → ∃ c ∈ r, ¬ isFig c)
theorem dig_mem {c : Nat} : ([48, 49, 50, 51, 52, 53, 54, 55, 56, 57] : List Nat).contains c = decide (isFig c) := by
  by_cases h : isFig c
  · rw [decide_eq_true h]
    obtain ⟨h1, h2⟩ := h
    have : c = 48 ∨ c = 49 ∨ c = 50 ∨ c = 51 ∨ c = 52 ∨ c = 53 ∨ c = 54 ∨ c = 55 ∨ c = 56 ∨ c = 57 := by omega
    rcases this with e | e | e | e | e | e | e | e | e | e <;> subst e <;> rfl
  · rw [decide_eq_false h]
    unfold isFig at h
    simp
    omega
def b_ri1 : Ss :=
  .cons (.iff (.or (.cmp .eq (.var 1) (.cst (.str []))) (.and (.cmp .eq (.idx (.var 1) (.cst (.int (0)))) (.cst (.str [48]))) (.cmp .ne (.var 0) (.cst (.str [48]))))) (.cons (.raise 1 (.cons (.cst (.str [110, 111, 116, 32, 97, 110, 32, 105, 110, 116, 101, 103, 101, 114])) .nil)) .nil) .nil) <|
  .cons (.for_ (.name 2) .of (.cons (.var 1) .nil) (.cons (.iff (.cmp .nin (.var 2) (.cst (.str [48, 49, 50, 51, 52, 53, 54, 55, 56, 57]))) (.cons (.raise 1 (.cons (.cst (.str [110, 111, 116, 32, 97, 110, 32, 105, 110, 116, 101, 103, 101, 114])) .nil)) .nil) .nil) .nil)) <| b_ri2
theorem ri1_ok {Φ : Calls} {K : Ks} {l g : List Nat} (hgl : g.length ≤ 100000) (hl : l.length ≤ 100001) (hdl : dig l = g) (hs : l ≠ [] ∨ g = [])
    (kg : intBad l = false → K.rt (.int (intVal l)) τ) (kb : intBad l = true → ∀ ρ, K.ex ⟨1, []⟩ ρ τ) : wpSs P.cls Φ P.xcs b_ri1 [some (.str l), some (.str g), none, none, none, none] τ K := by
  unfold b_ri1
  have raise : ∀ {s : List Nat} {k : Xc → Prop}, wpRaise P.xcs 1 [.str s] k = k ⟨1, []⟩ := fun {s k} => rs_1 (xi := ⟨"BadText", [1, 0], none⟩) rfl rfl
  cases g with
  | nil =>
    have hb : intBad l = true := by unfold intBad; rw [hdl]; rfl
    ((try dsimp only); rw [ss_cons]; simp only [ss_nil, wpS, wpE, wpEs, ofV, ofT, b_addI, b_sub, b_mod, b_pow1018, c_lt, c_le, c_gt, c_ge, c_eqI, c_neI, c_eqS, c_neS, t_bl, t_int, l_tup, f_int, f_abs, bt1, List.getElem?_cons_zero, List.getElem?_cons_succ, List.set_cons_zero, List.set_cons_succ, var_ex, Nat.reduceAdd, put_put, bl_ex, f_divmod, f_str, f_intB, f_intS, f_ord, f_listR, is_tup, is_str, is_int, is_bool, ty_str, m_zfill, m_find, on_zfill, on_join, on_find, on_append, on_pop, bt2, DL.sl_str, pd_no, pd_int, true_and, b_mul, b_fdiv, b_addS, b_addT, if_true, if_false, Tg.slots, wipeD])
    (first | rw [if_pos rfl] | rw [if_pos True.intro] | rw [if_pos (by decide)] | skip)
    (try simp only [ss_nil, wpS, wpE, wpEs, ofV, ofT, b_addI, b_sub, b_mod, b_pow1018, c_lt, c_le, c_gt, c_ge, c_eqI, c_neI, c_eqS, c_neS, t_bl, t_int, l_tup, f_int, f_abs, bt1, List.getElem?_cons_zero, List.getElem?_cons_succ, List.set_cons_zero, List.set_cons_succ, var_ex, Nat.reduceAdd, put_put, bl_ex, f_divmod, f_str, f_intB, f_intS, f_ord, f_listR, is_tup, is_str, is_int, is_bool, ty_str, m_zfill, m_find, on_zfill, on_join, on_find, on_append, on_pop, bt2, DL.sl_str, pd_no, pd_int, true_and, b_mul, b_fdiv, b_addS, b_addT, if_true, if_false, Tg.slots, wipeD])
    (first | rw [if_pos rfl] | rw [if_pos True.intro] | rw [if_pos (by decide)] | skip)
    ((try dsimp only); rw [ss_cons]; simp only [ss_nil, wpS, wpE, wpEs, ofV, ofT, b_addI, b_sub, b_mod, b_pow1018, c_lt, c_le, c_gt, c_ge, c_eqI, c_neI, c_eqS, c_neS, t_bl, t_int, l_tup, f_int, f_abs, bt1, List.getElem?_cons_zero, List.getElem?_cons_succ, List.set_cons_zero, List.set_cons_succ, var_ex, Nat.reduceAdd, put_put, bl_ex, f_divmod, f_str, f_intB, f_intS, f_ord, f_listR, is_tup, is_str, is_int, is_bool, ty_str, m_zfill, m_find, on_zfill, on_join, on_find, on_append, on_pop, bt2, DL.sl_str, pd_no, pd_int, true_and, b_mul, b_fdiv, b_addS, b_addT, if_true, if_false, Tg.slots, wipeD, raise])
    exact kb hb _
  | cons g0 gr =>
    have hne : l ≠ [] := by
      rcases hs with h | h
      · exact h
      · cases h
    ((try dsimp only); rw [ss_cons]; simp only [ss_nil, wpS, wpE, wpEs, ofV, ofT, b_addI, b_sub, b_mod, b_pow1018, c_lt, c_le, c_gt, c_ge, c_eqI, c_neI, c_eqS, c_neS, t_bl, t_int, l_tup, f_int, f_abs, bt1, List.getElem?_cons_zero, List.getElem?_cons_succ, List.set_cons_zero, List.set_cons_succ, var_ex, Nat.reduceAdd, put_put, bl_ex, f_divmod, f_str, f_intB, f_intS, f_ord, f_listR, is_tup, is_str, is_int, is_bool, ty_str, m_zfill, m_find, on_zfill, on_join, on_find, on_append, on_pop, bt2, DL.sl_str, pd_no, pd_int, true_and, b_mul, b_fdiv, b_addS, b_addT, if_true, if_false, Tg.slots, wipeD, i_str0])
    have e0 : ((g0 :: gr) == ([] : List Nat)) = false := rfl
    rw [e0, if_neg (by decide)]
    refine ⟨by unfold LIM; omega, ?_⟩
    have hloop : (g0 = 48 → l = [48]) → wpSs P.cls Φ P.xcs (.cons (.for_ (.name 2) .of (.cons (.var 1) .nil) (.cons (.iff (.cmp .nin (.var 2) (.cst (.str [48, 49, 50, 51, 52, 53, 54, 55, 56, 57]))) (.cons (.raise 1 (.cons (.cst (.str [110, 111, 116, 32, 97, 110, 32, 105, 110, 116, 101, 103, 101, 114])) .nil)) .nil) .nil) .nil)) b_ri2) [some (.str l), some (.str (g0 :: gr)), none, none, none, none] τ K := by
      intro hz
      ((try dsimp only); rw [ss_cons]; simp only [ss_nil, wpS, wpE, wpEs, ofV, ofT, b_addI, b_sub, b_mod, b_pow1018, c_lt, c_le, c_gt, c_ge, c_eqI, c_neI, c_eqS, c_neS, t_bl, t_int, l_tup, f_int, f_abs, bt1, List.getElem?_cons_zero, List.getElem?_cons_succ, List.set_cons_zero, List.set_cons_succ, var_ex, Nat.reduceAdd, put_put, bl_ex, f_divmod, f_str, f_intB, f_intS, f_ord, f_listR, is_tup, is_str, is_int, is_bool, ty_str, m_zfill, m_find, on_zfill, on_join, on_find, on_append, on_pop, bt2, DL.sl_str, pd_no, pd_int, true_and, b_mul, b_fdiv, b_addS, b_addT, if_true, if_false, Tg.slots, wipeD, it_str])
      have hbad : intBad l = !((g0 :: gr).all fun c => decide (48 ≤ c) && decide (c ≤ 57)) := by
        unfold intBad
        rw [hdl]
        show ((false || ((some g0 == some 48) && l != [48])) || _) = _
        by_cases h48 : g0 = 48
        · rw [hz h48]; simp
        · have : (some g0 == some 48) = false := by simp [h48]
          rw [this]; simp
      refine for_go (RjI l (g0 :: gr) (intBad l) τ) ?_ ?_ _ _ _ ⟨g0 :: gr, none, rfl, rfl, rfl, fun c h => h, fun hb => ?_⟩
      · rintro d ds ρ τ' W ⟨r, v, rfl, rfl, hds, hm, hb⟩ hW
        cases r with
        | nil => cases hds
        | cons c r =>
          injection hds with e1 e2
          subst e1 e2
          refine ⟨True.intro, ?_⟩
          (try simp only [ss_nil, wpS, wpE, wpEs, ofV, ofT, b_addI, b_sub, b_mod, b_pow1018, c_lt, c_le, c_gt, c_ge, c_eqI, c_neI, c_eqS, c_neS, t_bl, t_int, l_tup, f_int, f_abs, bt1, List.getElem?_cons_zero, List.getElem?_cons_succ, List.set_cons_zero, List.set_cons_succ, var_ex, Nat.reduceAdd, put_put, bl_ex, f_divmod, f_str, f_intB, f_intS, f_ord, f_listR, is_tup, is_str, is_int, is_bool, ty_str, m_zfill, m_find, on_zfill, on_join, on_find, on_append, on_pop, bt2, DL.sl_str, pd_no, pd_int, true_and, b_mul, b_fdiv, b_addS, b_addT, if_true, if_false, Tg.slots, wipeD])
          ((try dsimp only); rw [ss_cons]; simp only [ss_nil, wpS, wpE, wpEs, ofV, ofT, b_addI, b_sub, b_mod, b_pow1018, c_lt, c_le, c_gt, c_ge, c_eqI, c_neI, c_eqS, c_neS, t_bl, t_int, l_tup, f_int, f_abs, bt1, List.getElem?_cons_zero, List.getElem?_cons_succ, List.set_cons_zero, List.set_cons_succ, var_ex, Nat.reduceAdd, put_put, bl_ex, f_divmod, f_str, f_intB, f_intS, f_ord, f_listR, is_tup, is_str, is_int, is_bool, ty_str, m_zfill, m_find, on_zfill, on_join, on_find, on_append, on_pop, bt2, DL.sl_str, pd_no, pd_int, true_and, b_mul, b_fdiv, b_addS, b_addT, if_true, if_false, Tg.slots, wipeD, nin_str, dig_mem])
          by_cases hf : isFig c
          · rw [decide_eq_true hf, if_neg (by decide)]
            refine hW _ _ ⟨r, _, rfl, rfl, rfl, fun x hx => hm x (List.mem_cons_of_mem _ hx), fun q => ?_⟩
            obtain ⟨x, hx1, hx2⟩ := hb q
            rcases List.mem_cons.mp hx1 with h | h
            · subst h; exact absurd hf hx2
            · exact ⟨x, h, hx2⟩
          · rw [decide_eq_false hf, if_pos (by decide)]
            ((try dsimp only); rw [ss_cons]; simp only [ss_nil, wpS, wpE, wpEs, ofV, ofT, b_addI, b_sub, b_mod, b_pow1018, c_lt, c_le, c_gt, c_ge, c_eqI, c_neI, c_eqS, c_neS, t_bl, t_int, l_tup, f_int, f_abs, bt1, List.getElem?_cons_zero, List.getElem?_cons_succ, List.set_cons_zero, List.set_cons_succ, var_ex, Nat.reduceAdd, put_put, bl_ex, f_divmod, f_str, f_intB, f_intS, f_ord, f_listR, is_tup, is_str, is_int, is_bool, ty_str, m_zfill, m_find, on_zfill, on_join, on_find, on_append, on_pop, bt2, DL.sl_str, pd_no, pd_int, true_and, b_mul, b_fdiv, b_addS, b_addT, if_true, if_false, Tg.slots, wipeD, raise])
            refine kb ?_ _
            rw [hbad, Bool.not_eq_true', ← Bool.not_eq_true, List.all_eq_true]
            intro q
            have := q c (hm c List.mem_cons_self)
            simp only [Bool.and_eq_true, decide_eq_true_eq] at this
            exact hf this
      · rintro ρ τ' ⟨r, v, rfl, rfl, hds, hm, hb⟩
        refine ⟨True.intro, ?_⟩
        cases r with
        | cons _ _ => cases hds
        | nil =>
          have hgood : intBad l = false := by
            cases q : intBad l with
            | false => rfl
            | true =>
              obtain ⟨c, hc, _⟩ := hb q
              cases hc
          have hall : ∀ c ∈ g0 :: gr, isFig c := by
            rw [hbad, Bool.not_eq_false', List.all_eq_true] at hgood
            intro c hc
            have := hgood c hc
            simpa using this
          cases hl0 : l with
          | nil => exact absurd hl0 hne
          | cons c0 r0 =>
            rw [← hl0]
            refine ri2_ok hall hgl hl c0 r0 hl0 ?_
            have e := kg hgood
            unfold intVal at e
            rw [hdl] at e
            have es : sgn l = decide (c0 = 45) := by
              rw [hl0]
              show (some c0 == some 45) = _
              by_cases h : c0 = 45
              · subst h; rfl
              · rw [decide_eq_false h, beq_eq_false_iff_ne]; intro z; cases z; exact h rfl
            rw [es] at e
            simpa using e
      · rw [hbad, Bool.not_eq_true', ← Bool.not_eq_true, List.all_eq_true] at hb
        refine Classical.byContradiction fun hno => hb fun c hc => ?_
        have : isFig c := Classical.byContradiction fun q => hno ⟨c, hc, q⟩
        simp [this.1, this.2]
    by_cases h48 : g0 = 48
    · subst h48
      rw [if_pos (by decide)]
      by_cases h1 : l = [48]
      · have e : (l == [48]) = true := by rw [h1]; rfl
        rw [e, if_neg (by decide)]
        exact hloop fun _ => h1
      · have e : (l == [48]) = false := by rw [beq_eq_false_iff_ne]; exact h1
        rw [e, if_pos (by decide)]
        ((try dsimp only); rw [ss_cons]; simp only [ss_nil, wpS, wpE, wpEs, ofV, ofT, b_addI, b_sub, b_mod, b_pow1018, c_lt, c_le, c_gt, c_ge, c_eqI, c_neI, c_eqS, c_neS, t_bl, t_int, l_tup, f_int, f_abs, bt1, List.getElem?_cons_zero, List.getElem?_cons_succ, List.set_cons_zero, List.set_cons_succ, var_ex, Nat.reduceAdd, put_put, bl_ex, f_divmod, f_str, f_intB, f_intS, f_ord, f_listR, is_tup, is_str, is_int, is_bool, ty_str, m_zfill, m_find, on_zfill, on_join, on_find, on_append, on_pop, bt2, DL.sl_str, pd_no, pd_int, true_and, b_mul, b_fdiv, b_addS, b_addT, if_true, if_false, Tg.slots, wipeD, raise])
        refine kb ?_ _
        unfold intBad
        rw [hdl]
        simp [h1]
    · have e : ([g0] == [48]) = false := by rw [beq_eq_false_iff_ne]; intro z; cases z; exact h48 rfl
      rw [e, if_neg (by decide), if_neg (by decide)]
      exact hloop fun h => absurd h h48
theorem ri_ok {l : List Nat} (hl : l.length ≤ 100000) (kg : intBad l = false → Q (.int (intVal l)) τ) (kb : intBad l = true → X ⟨1, []⟩ τ) : callD P (n + 1) 1 [.str l] τ Q X := by
  refine call_of (i := i_read_integer) rfl rfl rfl ?_
  rw [runD_succ]
  show wpSs _ _ _ b_read_integer [some (.str l), none, none, none, none, none] _ _
  unfold b_read_integer
  ((try dsimp only); rw [ss_cons]; simp only [ss_nil, wpS, wpE, wpEs, ofV, ofT, b_addI, b_sub, b_mod, b_pow1018, c_lt, c_le, c_gt, c_ge, c_eqI, c_neI, c_eqS, c_neS, t_bl, t_int, l_tup, f_int, f_abs, bt1, List.getElem?_cons_zero, List.getElem?_cons_succ, List.set_cons_zero, List.set_cons_succ, var_ex, Nat.reduceAdd, put_put, bl_ex, f_divmod, f_str, f_intB, f_intS, f_ord, f_listR, is_tup, is_str, is_int, is_bool, ty_str, m_zfill, m_find, on_zfill, on_join, on_find, on_append, on_pop, bt2, DL.sl_str, pd_no, pd_int, true_and, b_mul, b_fdiv, b_addS, b_addT, if_true, if_false, Tg.slots, wipeD])
  ((try dsimp only); rw [ss_cons]; simp only [ss_nil, wpS, wpE, wpEs, ofV, ofT, b_addI, b_sub, b_mod, b_pow1018, c_lt, c_le, c_gt, c_ge, c_eqI, c_neI, c_eqS, c_neS, t_bl, t_int, l_tup, f_int, f_abs, bt1, List.getElem?_cons_zero, List.getElem?_cons_succ, List.set_cons_zero, List.set_cons_succ, var_ex, Nat.reduceAdd, put_put, bl_ex, f_divmod, f_str, f_intB, f_intS, f_ord, f_listR, is_tup, is_str, is_int, is_bool, ty_str, m_zfill, m_find, on_zfill, on_join, on_find, on_append, on_pop, bt2, DL.sl_str, pd_no, pd_int, true_and, b_mul, b_fdiv, b_addS, b_addT, if_true, if_false, Tg.slots, wipeD, cut_to1])
  refine ⟨by unfold LIM; omega, ?_⟩
  cases l with
  | nil =>
    rw [if_neg (by decide)]
    exact ri1_ok (g := []) (by decide) (by decide) rfl (.inr rfl) kg fun h ρ => kb h
  | cons c r =>
    by_cases h45 : c = 45
    · subst h45
      rw [if_pos (by simp)]
      ((try dsimp only); rw [ss_cons]; simp only [ss_nil, wpS, wpE, wpEs, ofV, ofT, b_addI, b_sub, b_mod, b_pow1018, c_lt, c_le, c_gt, c_ge, c_eqI, c_neI, c_eqS, c_neS, t_bl, t_int, l_tup, f_int, f_abs, bt1, List.getElem?_cons_zero, List.getElem?_cons_succ, List.set_cons_zero, List.set_cons_succ, var_ex, Nat.reduceAdd, put_put, bl_ex, f_divmod, f_str, f_intB, f_intS, f_ord, f_listR, is_tup, is_str, is_int, is_bool, ty_str, m_zfill, m_find, on_zfill, on_join, on_find, on_append, on_pop, bt2, DL.sl_str, pd_no, pd_int, true_and, b_mul, b_fdiv, b_addS, b_addT, if_true, if_false, Tg.slots, wipeD, cut_from1])
      refine ⟨by unfold LIM; omega, ?_⟩
      refine ri1_ok (by simp at hl ⊢; omega) (by omega) ?_ (.inl (by simp)) kg fun h ρ => kb h
      unfold dig sgn
      simp
    · have e : ((c :: r).take 1 == [45]) = false := by rw [beq_eq_false_iff_ne]; simp; exact h45
      rw [e, if_neg (by decide)]
      refine ri1_ok (by omega) (by omega) ?_ (.inl (by simp)) kg fun h ρ => kb h
      unfold dig sgn
      simp [h45]
end
end K00
set_option maxHeartbeats 1000000
/-! Pc00: data written, compared -/
namespace K00
open PySem DL
/-- a comprehension whose elements are told by F -/
theorem comp_map {turn : D → Sto → (Option D → Sto → Prop) → Prop} {p : Addr} {items : List D} {τ0 : Sto} {R : Sto → Prop} (F : D → D) (hp : τ0 p = none) (hl : items.length ≤ LIM)
    (ht : ∀ d ∈ items, ∀ (τ : Sto) (W : Option D → Sto → Prop), Ext τ0 τ → (∀ τ', Ext τ τ' → W (some (F d)) τ') → turn d τ W) (fin : ∀ τ, Ext τ0 τ → τ p = some (.lst (items.map F)) → R τ) :
    compGo (fun _ => True) turn p R items [] (put τ0 p (.lst [])) := by
  refine comp_go (fun ds acc τ => ∃ done, items = done ++ ds ∧ acc = done.map F ∧ τ p = some (.lst acc) ∧ Ext τ0 τ) ?_ ?_ items [] _ ⟨[], rfl, rfl, put_same, (Ext.refl τ0).put hp⟩
  · rintro d ds acc τ W ⟨done, h1, rfl, h3, h4⟩ _ hW
    refine ⟨True.intro, ht d (by rw [h1]; simp) τ W h4 fun τ' e => ?_⟩
    refine hW (F d) τ' (e _ _ h3) (by rw [List.length_map]; have := congrArg List.length h1; simp at this; omega) ⟨done ++ [d], by rw [h1]; simp, by simp, put_same, (h4.trans e).put hp⟩
  · rintro acc τ ⟨done, h1, rfl, h3, h4⟩
    rw [List.append_nil] at h1
    subst h1
    exact ⟨True.intro, fin τ h4 h3⟩
abbrev plainC (c : Nat) : Prop := 32 ≤ c ∧ c ≤ 126 ∧ c ≠ 39 ∧ c ≠ 37
mutual
/-- a datum -/
def dt : D → Prop
  | .int i => i.natAbs < 10 ^ 1000
  | .str l => ∀ c ∈ l, plainC c
  | .tup xs => dts xs
  | _ => False
def dts : List D → Prop
  | [] => True
  | x :: xs => dt x ∧ dts xs
end
theorem dts_mem : ∀ {xs : List D}, dts xs → ∀ d ∈ xs, dt d
  | [], _, _, h => by cases h
  | x :: xs, h, d, hd => by
    rcases List.mem_cons.mp hd with e | e
    · subst e; exact h.1
    · exact dts_mem h.2 d e
mutual
def txt : D → List Nat
  | .int i => numT i
  | .str l => 39 :: (l ++ [39])
  | .tup xs => 40 :: (joinS [44, 32] (txts xs) ++ [41])
  | _ => []
def txts : List D → List (List Nat)
  | [] => []
  | x :: xs => txt x :: txts xs
end
theorem txts_map : ∀ xs : List D, txts xs = xs.map txt
  | [] => rfl
  | x :: xs => by show txt x :: txts xs = _; rw [txts_map xs]; rfl
theorem depth_mem : ∀ {xs : List D} {d : D}, d ∈ xs → d.depth ≤ D.depths xs
  | [], _, h => by cases h
  | x :: xs, d, h => by
    show _ ≤ max x.depth (D.depths xs)
    rcases List.mem_cons.mp h with e | e
    · subst e; omega
    · have := depth_mem e; omega
theorem join_len (s : List Nat) : ∀ ls : List (List Nat), (ls.map (·.length)).sum + ls.length * s.length ≤ (joinS s ls).length + s.length
  | [] => by simp
  | [p] => by simp [joinS, TL.joinL]
  | p :: q :: r => by
    have := join_len s (q :: r)
    show _ ≤ (p ++ (s ++ joinS s (q :: r))).length + s.length
    rw [List.length_append, List.length_append]
    rw [List.map_cons, List.sum_cons]
    have e : (p :: q :: r).length * s.length = s.length + (q :: r).length * s.length := by rw [List.length_cons, Nat.add_mul, Nat.one_mul, Nat.add_comm]
    omega
theorem mem_len {ls : List (List Nat)} {x : List Nat} (h : x ∈ ls) : x.length ≤ (ls.map (·.length)).sum := by
  induction ls with
  | nil => cases h
  | cons y r ih =>
    rw [List.map_cons, List.sum_cons]
    rcases List.mem_cons.mp h with e | e
    · subst e; omega
    · have := ih e; omega
theorem tup_len {xs : List D} {N : Nat} (h : (txt (.tup xs)).length ≤ N) : ((txts xs).map (·.length)).sum + (txts xs).length * 2 ≤ N ∧ ∀ d ∈ xs, (txt d).length ≤ N := by
  have h1 : (40 :: (joinS [44, 32] (txts xs) ++ [41])).length ≤ N := h
  have h2 := join_len [44, 32] (txts xs)
  simp only [List.length_cons, List.length_append, List.length_nil] at h1 h2
  refine ⟨by omega, fun d hd => ?_⟩
  have := mem_len (ls := txts xs) (x := txt d) (by rw [txts_map]; exact List.mem_map_of_mem hd)
  omega
theorem known_dt {d : D} (h : dt d) : d.known = true := by cases d <;> first | rfl | cases h
section
variable {n : Nat} {τ : Sto} {Q : QD} {X : XD}
theorem wd_ok : ∀ (k n : Nat) (d : D) (τ : Sto) (Q : QD) (X : XD), dt d → d.depth ≤ k → (txt d).length ≤ 1000000 → (∀ τ', Ext τ τ' → Q (.str (txt d)) τ') → callD P (k + n + 3) 2 [d] τ Q X := by
  intro k
  induction k with
  | zero =>
    intro n d τ Q X hd hk hl kq
    refine call_of (i := i_write_data) rfl rfl rfl ?_
    rw [show 0 + n + 3 = (n + 2) + 1 by omega, runD_succ]
    show wpSs _ _ _ b_write_data [some d, none] _ _
    unfold b_write_data
    have hkn := known_dt hd
    cases d with
    | tup xs => simp [D.depth] at hk
    | str l =>
      ((try dsimp only); rw [ss_cons]; simp only [ss_nil, wpS, wpE, wpEs, ofV, ofT, b_addI, b_sub, b_mod, b_pow1018, c_lt, c_le, c_gt, c_ge, c_eqI, c_neI, c_eqS, c_neS, t_bl, t_int, l_tup, f_int, f_abs, bt1, List.getElem?_cons_zero, List.getElem?_cons_succ, List.set_cons_zero, List.set_cons_succ, var_ex, Nat.reduceAdd, put_put, bl_ex, f_divmod, f_str, f_intB, f_intS, f_ord, f_listR, is_tup, is_str, is_int, is_bool, ty_str, m_zfill, m_find, on_zfill, on_join, on_find, on_append, on_pop, bt2, DL.sl_str, pd_no, pd_int, true_and, b_mul, b_fdiv, b_addS, b_addT, if_true, if_false, Tg.slots, wipeD])
      refine ⟨hkn, ?_⟩
      (first | rw [if_neg (by decide)] | rw [if_neg not_false] | skip)
      ((try dsimp only); rw [ss_cons]; simp only [ss_nil, wpS, wpE, wpEs, ofV, ofT, b_addI, b_sub, b_mod, b_pow1018, c_lt, c_le, c_gt, c_ge, c_eqI, c_neI, c_eqS, c_neS, t_bl, t_int, l_tup, f_int, f_abs, bt1, List.getElem?_cons_zero, List.getElem?_cons_succ, List.set_cons_zero, List.set_cons_succ, var_ex, Nat.reduceAdd, put_put, bl_ex, f_divmod, f_str, f_intB, f_intS, f_ord, f_listR, is_tup, is_str, is_int, is_bool, ty_str, m_zfill, m_find, on_zfill, on_join, on_find, on_append, on_pop, bt2, DL.sl_str, pd_no, pd_int, true_and, b_mul, b_fdiv, b_addS, b_addT, if_true, if_false, Tg.slots, wipeD])
      refine ⟨hkn, ?_⟩
      (first | rw [if_pos rfl] | rw [if_pos True.intro] | rw [if_pos (by decide)] | skip)
      have hl' : (39 :: (l ++ [39])).length ≤ 1000000 := hl
      simp only [List.length_cons, List.length_append, List.length_nil] at hl'
      ((try dsimp only); rw [ss_cons]; simp only [ss_nil, wpS, wpE, wpEs, ofV, ofT, b_addI, b_sub, b_mod, b_pow1018, c_lt, c_le, c_gt, c_ge, c_eqI, c_neI, c_eqS, c_neS, t_bl, t_int, l_tup, f_int, f_abs, bt1, List.getElem?_cons_zero, List.getElem?_cons_succ, List.set_cons_zero, List.set_cons_succ, var_ex, Nat.reduceAdd, put_put, bl_ex, f_divmod, f_str, f_intB, f_intS, f_ord, f_listR, is_tup, is_str, is_int, is_bool, ty_str, m_zfill, m_find, on_zfill, on_join, on_find, on_append, on_pop, bt2, DL.sl_str, pd_no, pd_int, true_and, b_mul, b_fdiv, b_addS, b_addT, if_true, if_false, Tg.slots, wipeD])
      refine ⟨by unfold LIM; simp; omega, by unfold LIM; simp; omega, ?_⟩
      exact kq _ (Ext.refl τ)
    | int i =>
      ((try dsimp only); rw [ss_cons]; simp only [ss_nil, wpS, wpE, wpEs, ofV, ofT, b_addI, b_sub, b_mod, b_pow1018, c_lt, c_le, c_gt, c_ge, c_eqI, c_neI, c_eqS, c_neS, t_bl, t_int, l_tup, f_int, f_abs, bt1, List.getElem?_cons_zero, List.getElem?_cons_succ, List.set_cons_zero, List.set_cons_succ, var_ex, Nat.reduceAdd, put_put, bl_ex, f_divmod, f_str, f_intB, f_intS, f_ord, f_listR, is_tup, is_str, is_int, is_bool, ty_str, m_zfill, m_find, on_zfill, on_join, on_find, on_append, on_pop, bt2, DL.sl_str, pd_no, pd_int, true_and, b_mul, b_fdiv, b_addS, b_addT, if_true, if_false, Tg.slots, wipeD])
      refine ⟨hkn, ?_⟩
      (first | rw [if_neg (by decide)] | rw [if_neg not_false] | skip)
      ((try dsimp only); rw [ss_cons]; simp only [ss_nil, wpS, wpE, wpEs, ofV, ofT, b_addI, b_sub, b_mod, b_pow1018, c_lt, c_le, c_gt, c_ge, c_eqI, c_neI, c_eqS, c_neS, t_bl, t_int, l_tup, f_int, f_abs, bt1, List.getElem?_cons_zero, List.getElem?_cons_succ, List.set_cons_zero, List.set_cons_succ, var_ex, Nat.reduceAdd, put_put, bl_ex, f_divmod, f_str, f_intB, f_intS, f_ord, f_listR, is_tup, is_str, is_int, is_bool, ty_str, m_zfill, m_find, on_zfill, on_join, on_find, on_append, on_pop, bt2, DL.sl_str, pd_no, pd_int, true_and, b_mul, b_fdiv, b_addS, b_addT, if_true, if_false, Tg.slots, wipeD])
      refine ⟨hkn, ?_⟩
      (first | rw [if_neg (by decide)] | rw [if_neg not_false] | skip)
      ((try dsimp only); rw [ss_cons]; simp only [ss_nil, wpS, wpE, wpEs, ofV, ofT, b_addI, b_sub, b_mod, b_pow1018, c_lt, c_le, c_gt, c_ge, c_eqI, c_neI, c_eqS, c_neS, t_bl, t_int, l_tup, f_int, f_abs, bt1, List.getElem?_cons_zero, List.getElem?_cons_succ, List.set_cons_zero, List.set_cons_succ, var_ex, Nat.reduceAdd, put_put, bl_ex, f_divmod, f_str, f_intB, f_intS, f_ord, f_listR, is_tup, is_str, is_int, is_bool, ty_str, m_zfill, m_find, on_zfill, on_join, on_find, on_append, on_pop, bt2, DL.sl_str, pd_no, pd_int, true_and, b_mul, b_fdiv, b_addS, b_addT, if_true, if_false, Tg.slots, wipeD])
      exact wi_ok hd kq
    | _ => cases hd
  | succ k ih =>
    intro n d τ Q X hd hk hl kq
    cases d with
    | tup xs =>
      refine call_of (i := i_write_data) rfl rfl rfl ?_
      rw [show k + 1 + n + 3 = (k + n + 3) + 1 by omega, runD_succ]
      show wpSs _ _ _ b_write_data [some (.tup xs), none] _ _
      unfold b_write_data
      ((try dsimp only); rw [ss_cons]; simp only [ss_nil, wpS, wpE, wpEs, ofV, ofT, b_addI, b_sub, b_mod, b_pow1018, c_lt, c_le, c_gt, c_ge, c_eqI, c_neI, c_eqS, c_neS, t_bl, t_int, l_tup, f_int, f_abs, bt1, List.getElem?_cons_zero, List.getElem?_cons_succ, List.set_cons_zero, List.set_cons_succ, var_ex, Nat.reduceAdd, put_put, bl_ex, f_divmod, f_str, f_intB, f_intS, f_ord, f_listR, is_tup, is_str, is_int, is_bool, ty_str, m_zfill, m_find, on_zfill, on_join, on_find, on_append, on_pop, bt2, DL.sl_str, pd_no, pd_int, true_and, b_mul, b_fdiv, b_addS, b_addT, if_true, if_false, Tg.slots, wipeD])
      refine ⟨rfl, ?_⟩
      (first | rw [if_pos rfl] | rw [if_pos True.intro] | rw [if_pos (by decide)] | skip)
      obtain ⟨hs, he⟩ := tup_len hl
      ((try dsimp only); rw [ss_cons]; simp only [ss_nil, wpS, wpE, wpEs, ofV, ofT, b_addI, b_sub, b_mod, b_pow1018, c_lt, c_le, c_gt, c_ge, c_eqI, c_neI, c_eqS, c_neS, t_bl, t_int, l_tup, f_int, f_abs, bt1, List.getElem?_cons_zero, List.getElem?_cons_succ, List.set_cons_zero, List.set_cons_succ, var_ex, Nat.reduceAdd, put_put, bl_ex, f_divmod, f_str, f_intB, f_intS, f_ord, f_listR, is_tup, is_str, is_int, is_bool, ty_str, m_zfill, m_find, on_zfill, on_join, on_find, on_append, on_pop, bt2, DL.sl_str, pd_no, pd_int, true_and, b_mul, b_fdiv, b_addS, b_addT, if_true, if_false, Tg.slots, wipeD, it_tup])
      intro p hp
      have hxl : xs.length ≤ LIM := by rw [txts_map] at hs; unfold LIM; simp at hs; omega
      have hkd : D.depths xs ≤ k := by have : D.depths xs + 1 ≤ k + 1 := hk; omega
      refine comp_map (fun d => .str (txt d)) hp hxl (fun d hdm τ' W e hW => ?_) fun τ' e hτ => ?_
      · (try simp only [ss_nil, wpS, wpE, wpEs, ofV, ofT, b_addI, b_sub, b_mod, b_pow1018, c_lt, c_le, c_gt, c_ge, c_eqI, c_neI, c_eqS, c_neS, t_bl, t_int, l_tup, f_int, f_abs, bt1, List.getElem?_cons_zero, List.getElem?_cons_succ, List.set_cons_zero, List.set_cons_succ, var_ex, Nat.reduceAdd, put_put, bl_ex, f_divmod, f_str, f_intB, f_intS, f_ord, f_listR, is_tup, is_str, is_int, is_bool, ty_str, m_zfill, m_find, on_zfill, on_join, on_find, on_append, on_pop, bt2, DL.sl_str, pd_no, pd_int, true_and, b_mul, b_fdiv, b_addS, b_addT, if_true, if_false, Tg.slots, wipeD])
        refine ih n d τ' _ _ (dts_mem hd d hdm) (Nat.le_trans (depth_mem hdm) hkd) (he d hdm) fun τ2 e2 => hW τ2 e2
      · have hal : allStr (xs.map fun d => D.str (txt d)) = some (txts xs) := by
          rw [txts_map]
          have := allStr_map (xs.map txt)
          rw [List.map_map] at this
          exact this
        rw [m_join hτ hal]
        (try simp only [ss_nil, wpS, wpE, wpEs, ofV, ofT, b_addI, b_sub, b_mod, b_pow1018, c_lt, c_le, c_gt, c_ge, c_eqI, c_neI, c_eqS, c_neS, t_bl, t_int, l_tup, f_int, f_abs, bt1, List.getElem?_cons_zero, List.getElem?_cons_succ, List.set_cons_zero, List.set_cons_succ, var_ex, Nat.reduceAdd, put_put, bl_ex, f_divmod, f_str, f_intB, f_intS, f_ord, f_listR, is_tup, is_str, is_int, is_bool, ty_str, m_zfill, m_find, on_zfill, on_join, on_find, on_append, on_pop, bt2, DL.sl_str, pd_no, pd_int, true_and, b_mul, b_fdiv, b_addS, b_addT, if_true, if_false, Tg.slots, wipeD])
        have hj : (joinS [44, 32] (txts xs)).length + 2 ≤ 1000000 := by
          have h1 : (40 :: (joinS [44, 32] (txts xs) ++ [41])).length ≤ 1000000 := hl
          simpa using h1
        refine ⟨by unfold LIM; simp only [List.length_cons, List.length_nil]; omega, by unfold LIM; simp only [List.length_cons, List.length_nil]; omega, by unfold LIM; simp only [List.length_cons, List.length_nil, List.length_append]; omega, ?_⟩
        exact kq τ' e
    | _ =>
      have := ih (n + 1) _ τ Q X hd (by first | exact Nat.zero_le _) hl kq
      rw [show k + (n + 1) + 3 = k + 1 + n + 3 by omega] at this
      exact this
theorem same_ok : ∀ (k n : Nat) (d : D) (τ : Sto) (Q : QD) (X : XD), dt d → d.depth ≤ k → (txt d).length ≤ 1000000 → (∀ τ', Ext τ τ' → Q (.bl true) τ') → callD P (k + n + 3) 10 [d, d] τ Q X := by
  intro k
  induction k with
  | zero =>
    intro n d τ Q X hd hk hl kq
    refine call_of (i := i__law_same) rfl rfl rfl ?_
    rw [show 0 + n + 3 = (n + 2) + 1 by omega, runD_succ]
    show wpSs _ _ _ b__law_same [some d, some d, none] _ _
    unfold b__law_same
    have hkn := known_dt hd
    cases d with
    | tup xs => simp [D.depth] at hk
    | str l =>
      ((try dsimp only); rw [ss_cons]; simp only [ss_nil, wpS, wpE, wpEs, ofV, ofT, b_addI, b_sub, b_mod, b_pow1018, c_lt, c_le, c_gt, c_ge, c_eqI, c_neI, c_eqS, c_neS, t_bl, t_int, l_tup, f_int, f_abs, bt1, List.getElem?_cons_zero, List.getElem?_cons_succ, List.set_cons_zero, List.set_cons_succ, var_ex, Nat.reduceAdd, put_put, bl_ex, f_divmod, f_str, f_intB, f_intS, f_ord, f_listR, is_tup, is_str, is_int, is_bool, ty_str, m_zfill, m_find, on_zfill, on_join, on_find, on_append, on_pop, bt2, DL.sl_str, pd_no, pd_int, true_and, b_mul, b_fdiv, b_addS, b_addT, if_true, if_false, Tg.slots, wipeD])
      refine ⟨hkn, ?_⟩
      (first | rw [if_neg (by decide)] | rw [if_neg not_false] | skip)
      ((try dsimp only); rw [ss_cons]; simp only [ss_nil, wpS, wpE, wpEs, ofV, ofT, b_addI, b_sub, b_mod, b_pow1018, c_lt, c_le, c_gt, c_ge, c_eqI, c_neI, c_eqS, c_neS, t_bl, t_int, l_tup, f_int, f_abs, bt1, List.getElem?_cons_zero, List.getElem?_cons_succ, List.set_cons_zero, List.set_cons_succ, var_ex, Nat.reduceAdd, put_put, bl_ex, f_divmod, f_str, f_intB, f_intS, f_ord, f_listR, is_tup, is_str, is_int, is_bool, ty_str, m_zfill, m_find, on_zfill, on_join, on_find, on_append, on_pop, bt2, DL.sl_str, pd_no, pd_int, true_and, b_mul, b_fdiv, b_addS, b_addT, if_true, if_false, Tg.slots, wipeD])
      refine ⟨hkn, ?_⟩
      (first | rw [if_pos rfl] | rw [if_pos True.intro] | rw [if_pos (by decide)] | skip)
      ((try dsimp only); rw [ss_cons]; simp only [ss_nil, wpS, wpE, wpEs, ofV, ofT, b_addI, b_sub, b_mod, b_pow1018, c_lt, c_le, c_gt, c_ge, c_eqI, c_neI, c_eqS, c_neS, t_bl, t_int, l_tup, f_int, f_abs, bt1, List.getElem?_cons_zero, List.getElem?_cons_succ, List.set_cons_zero, List.set_cons_succ, var_ex, Nat.reduceAdd, put_put, bl_ex, f_divmod, f_str, f_intB, f_intS, f_ord, f_listR, is_tup, is_str, is_int, is_bool, ty_str, m_zfill, m_find, on_zfill, on_join, on_find, on_append, on_pop, bt2, DL.sl_str, pd_no, pd_int, true_and, b_mul, b_fdiv, b_addS, b_addT, if_true, if_false, Tg.slots, wipeD])
      refine ⟨hkn, ?_⟩
      (first | rw [if_pos rfl] | rw [if_pos True.intro] | rw [if_pos (by decide)] | skip)
      have e : (l == l) = true := by simp
      rw [e]
      exact kq _ (Ext.refl τ)
    | int i =>
      ((try dsimp only); rw [ss_cons]; simp only [ss_nil, wpS, wpE, wpEs, ofV, ofT, b_addI, b_sub, b_mod, b_pow1018, c_lt, c_le, c_gt, c_ge, c_eqI, c_neI, c_eqS, c_neS, t_bl, t_int, l_tup, f_int, f_abs, bt1, List.getElem?_cons_zero, List.getElem?_cons_succ, List.set_cons_zero, List.set_cons_succ, var_ex, Nat.reduceAdd, put_put, bl_ex, f_divmod, f_str, f_intB, f_intS, f_ord, f_listR, is_tup, is_str, is_int, is_bool, ty_str, m_zfill, m_find, on_zfill, on_join, on_find, on_append, on_pop, bt2, DL.sl_str, pd_no, pd_int, true_and, b_mul, b_fdiv, b_addS, b_addT, if_true, if_false, Tg.slots, wipeD])
      refine ⟨hkn, ?_⟩
      (first | rw [if_neg (by decide)] | rw [if_neg not_false] | skip)
      ((try dsimp only); rw [ss_cons]; simp only [ss_nil, wpS, wpE, wpEs, ofV, ofT, b_addI, b_sub, b_mod, b_pow1018, c_lt, c_le, c_gt, c_ge, c_eqI, c_neI, c_eqS, c_neS, t_bl, t_int, l_tup, f_int, f_abs, bt1, List.getElem?_cons_zero, List.getElem?_cons_succ, List.set_cons_zero, List.set_cons_succ, var_ex, Nat.reduceAdd, put_put, bl_ex, f_divmod, f_str, f_intB, f_intS, f_ord, f_listR, is_tup, is_str, is_int, is_bool, ty_str, m_zfill, m_find, on_zfill, on_join, on_find, on_append, on_pop, bt2, DL.sl_str, pd_no, pd_int, true_and, b_mul, b_fdiv, b_addS, b_addT, if_true, if_false, Tg.slots, wipeD])
      refine ⟨hkn, ?_⟩
      (first | rw [if_neg (by decide)] | rw [if_neg not_false] | skip)
      ((try dsimp only); rw [ss_cons]; simp only [ss_nil, wpS, wpE, wpEs, ofV, ofT, b_addI, b_sub, b_mod, b_pow1018, c_lt, c_le, c_gt, c_ge, c_eqI, c_neI, c_eqS, c_neS, t_bl, t_int, l_tup, f_int, f_abs, bt1, List.getElem?_cons_zero, List.getElem?_cons_succ, List.set_cons_zero, List.set_cons_succ, var_ex, Nat.reduceAdd, put_put, bl_ex, f_divmod, f_str, f_intB, f_intS, f_ord, f_listR, is_tup, is_str, is_int, is_bool, ty_str, m_zfill, m_find, on_zfill, on_join, on_find, on_append, on_pop, bt2, DL.sl_str, pd_no, pd_int, true_and, b_mul, b_fdiv, b_addS, b_addT, if_true, if_false, Tg.slots, wipeD])
      refine call_of (i := i__law_is_int) rfl rfl rfl ?_
      rw [runD_succ]
      show wpSs _ _ _ b__law_is_int [some (.int i)] _ _
      unfold b__law_is_int
      ((try dsimp only); rw [ss_cons]; simp only [ss_nil, wpS, wpE, wpEs, ofV, ofT, b_addI, b_sub, b_mod, b_pow1018, c_lt, c_le, c_gt, c_ge, c_eqI, c_neI, c_eqS, c_neS, t_bl, t_int, l_tup, f_int, f_abs, bt1, List.getElem?_cons_zero, List.getElem?_cons_succ, List.set_cons_zero, List.set_cons_succ, var_ex, Nat.reduceAdd, put_put, bl_ex, f_divmod, f_str, f_intB, f_intS, f_ord, f_listR, is_tup, is_str, is_int, is_bool, ty_str, m_zfill, m_find, on_zfill, on_join, on_find, on_append, on_pop, bt2, DL.sl_str, pd_no, pd_int, true_and, b_mul, b_fdiv, b_addS, b_addT, if_true, if_false, Tg.slots, wipeD])
      refine ⟨hkn, ?_⟩
      (first | rw [if_pos rfl] | rw [if_pos True.intro] | rw [if_pos (by decide)] | skip)
      refine ⟨hkn, ?_⟩
      (try rw [show (!false) = true from rfl])
      (first | rw [if_pos rfl] | rw [if_pos True.intro] | rw [if_pos (by decide)] | skip)
      have e : (i == i) = true := by simp
      rw [e]
      exact kq _ (Ext.refl τ)
    | _ => cases hd
  | succ k ih =>
    intro n d τ Q X hd hk hl kq
    cases d with
    | tup xs =>
      refine call_of (i := i__law_same) rfl rfl rfl ?_
      rw [show k + 1 + n + 3 = (k + n + 3) + 1 by omega, runD_succ]
      show wpSs _ _ _ b__law_same [some (.tup xs), some (.tup xs), none] _ _
      unfold b__law_same
      obtain ⟨hs, he⟩ := tup_len hl
      have hxl : xs.length ≤ 1000000 := by rw [txts_map] at hs; simp at hs; omega
      have hkd : D.depths xs ≤ k := by have : D.depths xs + 1 ≤ k + 1 := hk; omega
      ((try dsimp only); rw [ss_cons]; simp only [ss_nil, wpS, wpE, wpEs, ofV, ofT, b_addI, b_sub, b_mod, b_pow1018, c_lt, c_le, c_gt, c_ge, c_eqI, c_neI, c_eqS, c_neS, t_bl, t_int, l_tup, f_int, f_abs, bt1, List.getElem?_cons_zero, List.getElem?_cons_succ, List.set_cons_zero, List.set_cons_succ, var_ex, Nat.reduceAdd, put_put, bl_ex, f_divmod, f_str, f_intB, f_intS, f_ord, f_listR, is_tup, is_str, is_int, is_bool, ty_str, m_zfill, m_find, on_zfill, on_join, on_find, on_append, on_pop, bt2, DL.sl_str, pd_no, pd_int, true_and, b_mul, b_fdiv, b_addS, b_addT, if_true, if_false, Tg.slots, wipeD])
      refine ⟨rfl, ?_⟩
      (first | rw [if_pos rfl] | rw [if_pos True.intro] | rw [if_pos (by decide)] | skip)
      ((try dsimp only); rw [ss_cons]; simp only [ss_nil, wpS, wpE, wpEs, ofV, ofT, b_addI, b_sub, b_mod, b_pow1018, c_lt, c_le, c_gt, c_ge, c_eqI, c_neI, c_eqS, c_neS, t_bl, t_int, l_tup, f_int, f_abs, bt1, List.getElem?_cons_zero, List.getElem?_cons_succ, List.set_cons_zero, List.set_cons_succ, var_ex, Nat.reduceAdd, put_put, bl_ex, f_divmod, f_str, f_intB, f_intS, f_ord, f_listR, is_tup, is_str, is_int, is_bool, ty_str, m_zfill, m_find, on_zfill, on_join, on_find, on_append, on_pop, bt2, DL.sl_str, pd_no, pd_int, true_and, b_mul, b_fdiv, b_addS, b_addT, if_true, if_false, Tg.slots, wipeD])
      refine ⟨rfl, ?_⟩
      have e0 : (!true) = false := rfl
      (try rw [e0])
      (first | rw [if_neg (by decide)] | rw [if_neg not_false] | skip)
      have e : (!((xs.length : Int) == xs.length)) = false := by simp
      rw [e, if_neg (by decide)]
      ((try dsimp only); rw [ss_cons]; simp only [ss_nil, wpS, wpE, wpEs, ofV, ofT, b_addI, b_sub, b_mod, b_pow1018, c_lt, c_le, c_gt, c_ge, c_eqI, c_neI, c_eqS, c_neS, t_bl, t_int, l_tup, f_int, f_abs, bt1, List.getElem?_cons_zero, List.getElem?_cons_succ, List.set_cons_zero, List.set_cons_succ, var_ex, Nat.reduceAdd, put_put, bl_ex, f_divmod, f_str, f_intB, f_intS, f_ord, f_listR, is_tup, is_str, is_int, is_bool, ty_str, m_zfill, m_find, on_zfill, on_join, on_find, on_append, on_pop, bt2, DL.sl_str, pd_no, pd_int, true_and, b_mul, b_fdiv, b_addS, b_addT, if_true, if_false, Tg.slots, wipeD, it_r1])
      refine ⟨by omega, fun p hp => ?_⟩
      refine comp_map (fun _ => .bl true) hp (by unfold LIM; simp; omega) (fun d hdm τ' W e hW => ?_) fun τ' e hτ => ?_
      · obtain ⟨j, hj, rfl⟩ := List.mem_map.mp hdm
        have hj : j < xs.length := by have := List.mem_range.mp hj; omega
        have hat : atD xs (j : Int) = some xs[j] := by rw [atD_nat hj, List.getElem?_eq_getElem hj]
        have hm : xs[j] ∈ xs := List.getElem_mem hj
        (try simp only [ss_nil, wpS, wpE, wpEs, ofV, ofT, b_addI, b_sub, b_mod, b_pow1018, c_lt, c_le, c_gt, c_ge, c_eqI, c_neI, c_eqS, c_neS, t_bl, t_int, l_tup, f_int, f_abs, bt1, List.getElem?_cons_zero, List.getElem?_cons_succ, List.set_cons_zero, List.set_cons_succ, var_ex, Nat.reduceAdd, put_put, bl_ex, f_divmod, f_str, f_intB, f_intS, f_ord, f_listR, is_tup, is_str, is_int, is_bool, ty_str, m_zfill, m_find, on_zfill, on_join, on_find, on_append, on_pop, bt2, DL.sl_str, pd_no, pd_int, true_and, b_mul, b_fdiv, b_addS, b_addT, if_true, if_false, Tg.slots, wipeD, i_tup hat, Tg.slots, wipeD])
        refine ih n xs[j] τ' _ _ (dts_mem hd _ hm) (Nat.le_trans (depth_mem hm) hkd) (he _ hm) fun τ2 e2 => hW τ2 e2
      · have hal : allBl ((List.map (fun (j : Nat) => D.int (j : Int)) (List.range ((xs.length : Int)).toNat)).map fun _ => D.bl true) = some (List.replicate xs.length true) := by
          have e : ∀ m : Nat, allBl (List.replicate m (D.bl true)) = some (List.replicate m true) := fun m => by
            induction m with
            | zero => rfl
            | succ m ih => show (allBl (List.replicate m (D.bl true))).map (true :: ·) = _; rw [ih]; rfl
          rw [List.map_const', List.length_map, List.length_range]
          have e2 : ((xs.length : Int)).toNat = xs.length := by omega
          rw [e2]
          exact e _
        rw [f_allL hτ hal]
        have e2 : (List.replicate xs.length true).all id = true := by simp
        rw [e2]
        exact kq τ' e
    | _ =>
      have := ih (n + 1) _ τ Q X hd (by first | exact Nat.zero_le _) hl kq
      rw [show k + (n + 1) + 3 = k + 1 + n + 3 by omega] at this
      exact this
end
end K00
set_option maxHeartbeats 1000000
/-! Pd00: the law's own texts and draws -/
namespace K00
open PySem DL
section
variable {n : Nat} {τ : Sto} {Q : QD} {X : XD}
def b_fo2 : Ss :=
  .cons (.asg (.name 2) (.bin .add (.blt .str (.cons (.var 1) .nil)) (.var 2))) <|
  .cons (.iff (.cmp .lt (.var 0) (.cst (.int (0)))) (.cons (.ret (.bin .add (.cst (.str [45])) (.var 2))) .nil) .nil) <|
  .cons (.ret (.var 2)) <| .nil
theorem big1000 : (10 : Nat) ^ 1000 ≤ 2 ^ 3400 := by decide +kernel
theorem small1000 {z : Int} (h : z.natAbs < 10 ^ 1000) : small z := small_le (k := 3400) (Nat.lt_of_lt_of_le h big1000) (by decide)
theorem fo2_ok {Φ : Calls} {K : Ks} {i : Int} {L : Nat} {s : List Nat} {u v : Option D} (hi : i.natAbs < 10 ^ 1000) (hL : L < 10 ^ 18) (hf : figs i.natAbs = figs L ++ s)
    (k : K.rt (.str (numT i)) τ) : wpSs P.cls Φ P.xcs b_fo2 [some (.int i), some (.int L), some (.str s), u, v] τ K := by
  unfold b_fo2
  have e3 : numT (L : Int) = figs L := by rw [numT_pos (by omega)]; rfl
  have hlen := congrArg List.length hf
  have h1 := figs_len (n := i.natAbs) (k := 1000) (by decide) hi
  rw [List.length_append] at hlen
  ((try dsimp only); rw [ss_cons]; simp only [ss_nil, wpS, wpE, wpEs, ofV, ofT, b_addI, b_sub, b_mod, b_pow1018, c_lt, c_le, c_gt, c_ge, c_eqI, c_neI, c_eqS, c_neS, t_bl, t_int, l_tup, f_int, f_abs, bt1, List.getElem?_cons_zero, List.getElem?_cons_succ, List.set_cons_zero, List.set_cons_succ, var_ex, Nat.reduceAdd, put_put, bl_ex, f_divmod, f_str, f_intB, f_intS, f_ord, f_listR, is_tup, is_str, is_int, is_bool, ty_str, m_zfill, m_find, on_zfill, on_join, on_find, on_append, on_pop, bt2, DL.sl_str, pd_no, pd_int, true_and, b_mul, b_fdiv, b_addS, b_addT, if_true, if_false, Tg.slots, wipeD, e3])
  refine ⟨?_, by unfold LIM; omega, ?_⟩
  · exact Nat.lt_of_lt_of_le hL (by decide +kernel)
  rw [← hf]
  ((try dsimp only); rw [ss_cons]; simp only [ss_nil, wpS, wpE, wpEs, ofV, ofT, b_addI, b_sub, b_mod, b_pow1018, c_lt, c_le, c_gt, c_ge, c_eqI, c_neI, c_eqS, c_neS, t_bl, t_int, l_tup, f_int, f_abs, bt1, List.getElem?_cons_zero, List.getElem?_cons_succ, List.set_cons_zero, List.set_cons_succ, var_ex, Nat.reduceAdd, put_put, bl_ex, f_divmod, f_str, f_intB, f_intS, f_ord, f_listR, is_tup, is_str, is_int, is_bool, ty_str, m_zfill, m_find, on_zfill, on_join, on_find, on_append, on_pop, bt2, DL.sl_str, pd_no, pd_int, true_and, b_mul, b_fdiv, b_addS, b_addT, if_true, if_false, Tg.slots, wipeD])
  by_cases h : i < 0
  · rw [decide_eq_true h]
    (first | rw [if_pos rfl] | rw [if_pos True.intro] | rw [if_pos (by decide)] | skip)
    ((try dsimp only); rw [ss_cons]; simp only [ss_nil, wpS, wpE, wpEs, ofV, ofT, b_addI, b_sub, b_mod, b_pow1018, c_lt, c_le, c_gt, c_ge, c_eqI, c_neI, c_eqS, c_neS, t_bl, t_int, l_tup, f_int, f_abs, bt1, List.getElem?_cons_zero, List.getElem?_cons_succ, List.set_cons_zero, List.set_cons_succ, var_ex, Nat.reduceAdd, put_put, bl_ex, f_divmod, f_str, f_intB, f_intS, f_ord, f_listR, is_tup, is_str, is_int, is_bool, ty_str, m_zfill, m_find, on_zfill, on_join, on_find, on_append, on_pop, bt2, DL.sl_str, pd_no, pd_int, true_and, b_mul, b_fdiv, b_addS, b_addT, if_true, if_false, Tg.slots, wipeD])
    refine ⟨by unfold LIM; simp only [List.length_cons, List.length_nil]; omega, ?_⟩
    rw [numT_neg h] at k
    exact k
  · rw [decide_eq_false h]
    (first | rw [if_neg (by decide)] | rw [if_neg not_false] | skip)
    ((try dsimp only); rw [ss_cons]; simp only [ss_nil, wpS, wpE, wpEs, ofV, ofT, b_addI, b_sub, b_mod, b_pow1018, c_lt, c_le, c_gt, c_ge, c_eqI, c_neI, c_eqS, c_neS, t_bl, t_int, l_tup, f_int, f_abs, bt1, List.getElem?_cons_zero, List.getElem?_cons_succ, List.set_cons_zero, List.set_cons_succ, var_ex, Nat.reduceAdd, put_put, bl_ex, f_divmod, f_str, f_intB, f_intS, f_ord, f_listR, is_tup, is_str, is_int, is_bool, ty_str, m_zfill, m_find, on_zfill, on_join, on_find, on_append, on_pop, bt2, DL.sl_str, pd_no, pd_int, true_and, b_mul, b_fdiv, b_addS, b_addT, if_true, if_false, Tg.slots, wipeD])
    rw [numT_pos (by omega)] at k
    exact k
def LtP (L m : Nat) : Prop := L < 10 ^ (18 * (m + 1))
structure FoI (i : Int) (τ0 : Sto) (ds : List D) (ρ : DL.Loc) (τ : Sto) : Prop where
  ex : ∃ (L : Nat) (s : List Nat) (u v : Option D), ρ = [some (.int i), some (.int L), some (.str s), u, v] ∧ τ = τ0 ∧ figs i.natAbs = figs L ++ s ∧ LtP L ds.length ∧ L ≤ i.natAbs
theorem fo_ok {i : Int} (hi : i.natAbs < 10 ^ 1000) (k : Q (.str (numT i)) τ) : callD P (n + 1) 11 [.int i] τ Q X := by
  refine call_of (i := i__law_figures_of) rfl rfl rfl ?_
  rw [runD_succ]
  show wpSs _ _ _ b__law_figures_of [some (.int i), none, none, none, none] _ _
  unfold b__law_figures_of
  ((try dsimp only); rw [ss_cons]; simp only [ss_nil, wpS, wpE, wpEs, ofV, ofT, b_addI, b_sub, b_mod, b_pow1018, c_lt, c_le, c_gt, c_ge, c_eqI, c_neI, c_eqS, c_neS, t_bl, t_int, l_tup, f_int, f_abs, bt1, List.getElem?_cons_zero, List.getElem?_cons_succ, List.set_cons_zero, List.set_cons_succ, var_ex, Nat.reduceAdd, put_put, bl_ex, f_divmod, f_str, f_intB, f_intS, f_ord, f_listR, is_tup, is_str, is_int, is_bool, ty_str, m_zfill, m_find, on_zfill, on_join, on_find, on_append, on_pop, bt2, DL.sl_str, pd_no, pd_int, true_and, b_mul, b_fdiv, b_addS, b_addT, if_true, if_false, Tg.slots, wipeD])
  ((try dsimp only); rw [ss_cons]; simp only [ss_nil, wpS, wpE, wpEs, ofV, ofT, b_addI, b_sub, b_mod, b_pow1018, c_lt, c_le, c_gt, c_ge, c_eqI, c_neI, c_eqS, c_neS, t_bl, t_int, l_tup, f_int, f_abs, bt1, List.getElem?_cons_zero, List.getElem?_cons_succ, List.set_cons_zero, List.set_cons_succ, var_ex, Nat.reduceAdd, put_put, bl_ex, f_divmod, f_str, f_intB, f_intS, f_ord, f_listR, is_tup, is_str, is_int, is_bool, ty_str, m_zfill, m_find, on_zfill, on_join, on_find, on_append, on_pop, bt2, DL.sl_str, pd_no, pd_int, true_and, b_mul, b_fdiv, b_addS, b_addT, if_true, if_false, Tg.slots, wipeD])
  ((try dsimp only); rw [ss_cons]; simp only [ss_nil, wpS, wpE, wpEs, ofV, ofT, b_addI, b_sub, b_mod, b_pow1018, c_lt, c_le, c_gt, c_ge, c_eqI, c_neI, c_eqS, c_neS, t_bl, t_int, l_tup, f_int, f_abs, bt1, List.getElem?_cons_zero, List.getElem?_cons_succ, List.set_cons_zero, List.set_cons_succ, var_ex, Nat.reduceAdd, put_put, bl_ex, f_divmod, f_str, f_intB, f_intS, f_ord, f_listR, is_tup, is_str, is_int, is_bool, ty_str, m_zfill, m_find, on_zfill, on_join, on_find, on_append, on_pop, bt2, DL.sl_str, pd_no, pd_int, true_and, b_mul, b_fdiv, b_addS, b_addT, if_true, if_false, Tg.slots, wipeD, it_r1])
  refine ⟨by decide, ?_⟩
  refine for_go (FoI i τ) ?_ ?_ _ _ _ ⟨i.natAbs, [], none, none, rfl, rfl, by simp, ?_, Nat.le_refl _⟩
  · rintro d ds ρ τ' W ⟨L, s, u, v, rfl, rfl, hf, hb, hLi⟩ hW
    rcases Nat.lt_or_ge L 1000000000000000000 with h | h
    · refine ⟨True.intro, ?_⟩
      (try simp only [ss_nil, wpS, wpE, wpEs, ofV, ofT, b_addI, b_sub, b_mod, b_pow1018, c_lt, c_le, c_gt, c_ge, c_eqI, c_neI, c_eqS, c_neS, t_bl, t_int, l_tup, f_int, f_abs, bt1, List.getElem?_cons_zero, List.getElem?_cons_succ, List.set_cons_zero, List.set_cons_succ, var_ex, Nat.reduceAdd, put_put, bl_ex, f_divmod, f_str, f_intB, f_intS, f_ord, f_listR, is_tup, is_str, is_int, is_bool, ty_str, m_zfill, m_find, on_zfill, on_join, on_find, on_append, on_pop, bt2, DL.sl_str, pd_no, pd_int, true_and, b_mul, b_fdiv, b_addS, b_addT, if_true, if_false, Tg.slots, wipeD])
      ((try dsimp only); rw [ss_cons]; simp only [ss_nil, wpS, wpE, wpEs, ofV, ofT, b_addI, b_sub, b_mod, b_pow1018, c_lt, c_le, c_gt, c_ge, c_eqI, c_neI, c_eqS, c_neS, t_bl, t_int, l_tup, f_int, f_abs, bt1, List.getElem?_cons_zero, List.getElem?_cons_succ, List.set_cons_zero, List.set_cons_succ, var_ex, Nat.reduceAdd, put_put, bl_ex, f_divmod, f_str, f_intB, f_intS, f_ord, f_listR, is_tup, is_str, is_int, is_bool, ty_str, m_zfill, m_find, on_zfill, on_join, on_find, on_append, on_pop, bt2, DL.sl_str, pd_no, pd_int, true_and, b_mul, b_fdiv, b_addS, b_addT, if_true, if_false, Tg.slots, wipeD])
      rw [decide_eq_true (by omega)]
      (first | rw [if_pos rfl] | rw [if_pos True.intro] | rw [if_pos (by decide)] | skip)
      ((try dsimp only); rw [ss_cons]; simp only [ss_nil, wpS, wpE, wpEs, ofV, ofT, b_addI, b_sub, b_mod, b_pow1018, c_lt, c_le, c_gt, c_ge, c_eqI, c_neI, c_eqS, c_neS, t_bl, t_int, l_tup, f_int, f_abs, bt1, List.getElem?_cons_zero, List.getElem?_cons_succ, List.set_cons_zero, List.set_cons_succ, var_ex, Nat.reduceAdd, put_put, bl_ex, f_divmod, f_str, f_intB, f_intS, f_ord, f_listR, is_tup, is_str, is_int, is_bool, ty_str, m_zfill, m_find, on_zfill, on_join, on_find, on_append, on_pop, bt2, DL.sl_str, pd_no, pd_int, true_and, b_mul, b_fdiv, b_addS, b_addT, if_true, if_false, Tg.slots, wipeD])
      exact fo2_ok hi (by omega) hf k
    · refine ⟨True.intro, ?_⟩
      (try simp only [ss_nil, wpS, wpE, wpEs, ofV, ofT, b_addI, b_sub, b_mod, b_pow1018, c_lt, c_le, c_gt, c_ge, c_eqI, c_neI, c_eqS, c_neS, t_bl, t_int, l_tup, f_int, f_abs, bt1, List.getElem?_cons_zero, List.getElem?_cons_succ, List.set_cons_zero, List.set_cons_succ, var_ex, Nat.reduceAdd, put_put, bl_ex, f_divmod, f_str, f_intB, f_intS, f_ord, f_listR, is_tup, is_str, is_int, is_bool, ty_str, m_zfill, m_find, on_zfill, on_join, on_find, on_append, on_pop, bt2, DL.sl_str, pd_no, pd_int, true_and, b_mul, b_fdiv, b_addS, b_addT, if_true, if_false, Tg.slots, wipeD])
      ((try dsimp only); rw [ss_cons]; simp only [ss_nil, wpS, wpE, wpEs, ofV, ofT, b_addI, b_sub, b_mod, b_pow1018, c_lt, c_le, c_gt, c_ge, c_eqI, c_neI, c_eqS, c_neS, t_bl, t_int, l_tup, f_int, f_abs, bt1, List.getElem?_cons_zero, List.getElem?_cons_succ, List.set_cons_zero, List.set_cons_succ, var_ex, Nat.reduceAdd, put_put, bl_ex, f_divmod, f_str, f_intB, f_intS, f_ord, f_listR, is_tup, is_str, is_int, is_bool, ty_str, m_zfill, m_find, on_zfill, on_join, on_find, on_append, on_pop, bt2, DL.sl_str, pd_no, pd_int, true_and, b_mul, b_fdiv, b_addS, b_addT, if_true, if_false, Tg.slots, wipeD])
      rw [decide_eq_false (by omega)]
      (first | rw [if_neg (by decide)] | rw [if_neg not_false] | skip)
      ((try dsimp only); rw [ss_cons]; simp only [ss_nil, wpS, wpE, wpEs, ofV, ofT, b_addI, b_sub, b_mod, b_pow1018, c_lt, c_le, c_gt, c_ge, c_eqI, c_neI, c_eqS, c_neS, t_bl, t_int, l_tup, f_int, f_abs, bt1, List.getElem?_cons_zero, List.getElem?_cons_succ, List.set_cons_zero, List.set_cons_succ, var_ex, Nat.reduceAdd, put_put, bl_ex, f_divmod, f_str, f_intB, f_intS, f_ord, f_listR, is_tup, is_str, is_int, is_bool, ty_str, m_zfill, m_find, on_zfill, on_join, on_find, on_append, on_pop, bt2, DL.sl_str, pd_no, pd_int, true_and, b_mul, b_fdiv, b_addS, b_addT, if_true, if_false, Tg.slots, wipeD])
      have e1 : (L : Int) / 1000000000000000000 = ((L / 10 ^ 18 : Nat) : Int) := by omega
      have e2 : (L : Int) - ((L / 10 ^ 18 : Nat) : Int) * 1000000000000000000 = ((L % 10 ^ 18 : Nat) : Int) := by omega
      rw [e1, e2]
      refine ⟨by decide, by decide +kernel, ?_, small_le (k := 200) (by decide) (by decide), ?_⟩
      · refine small1000 ?_
        show L / 10 ^ 18 < _
        exact Nat.lt_of_le_of_lt (Nat.div_le_self _ _) (Nat.lt_of_le_of_lt hLi hi)
      have hm : L % 10 ^ 18 < 10 ^ 18 := Nat.mod_lt _ (by decide)
      have e3 : (1000000000000000000 : Int) + ((L % 10 ^ 18 : Nat) : Int) = ((1 * 10 ^ 18 + L % 10 ^ 18 : Nat) : Int) := by omega
      have e4 : numT ((1 * 10 ^ 18 + L % 10 ^ 18 : Nat) : Int) = 49 :: pad 18 (L % 10 ^ 18) := by
        rw [numT_pos (by omega)]
        show figs (1 * 10 ^ 18 + L % 10 ^ 18) = _
        rw [figs_split 18 1 _ (by decide) hm]
        rfl
      have hq : 0 < L / 10 ^ 18 := by omega
      have e5 : figs L = figs (L / 10 ^ 18) ++ pad 18 (L % 10 ^ 18) := by
        conv => lhs; rw [show L = L / 10 ^ 18 * 10 ^ 18 + L % 10 ^ 18 by omega]
        exact figs_split 18 _ _ hq hm
      have hlen := congrArg List.length hf
      have h1 := figs_len (n := i.natAbs) (k := 1000) (by decide) hi
      rw [List.length_append] at hlen
      ((try dsimp only); rw [ss_cons]; simp only [ss_nil, wpS, wpE, wpEs, ofV, ofT, b_addI, b_sub, b_mod, b_pow1018, c_lt, c_le, c_gt, c_ge, c_eqI, c_neI, c_eqS, c_neS, t_bl, t_int, l_tup, f_int, f_abs, bt1, List.getElem?_cons_zero, List.getElem?_cons_succ, List.set_cons_zero, List.set_cons_succ, var_ex, Nat.reduceAdd, put_put, bl_ex, f_divmod, f_str, f_intB, f_intS, f_ord, f_listR, is_tup, is_str, is_int, is_bool, ty_str, m_zfill, m_find, on_zfill, on_join, on_find, on_append, on_pop, bt2, DL.sl_str, pd_no, pd_int, true_and, b_mul, b_fdiv, b_addS, b_addT, if_true, if_false, Tg.slots, wipeD, e3, e4, cut_from1])
      have e6 : (49 :: pad 18 (L % 10 ^ 18)).drop 1 = pad 18 (L % 10 ^ 18) := rfl
      rw [e6]
      refine ⟨?_, by unfold LIM; rw [List.length_cons, pad_len]; omega, by unfold LIM; rw [pad_len]; omega, ?_⟩
      · show 1 * 10 ^ 18 + L % 10 ^ 18 < _
        exact Nat.lt_of_lt_of_le (show _ < 2 * 10 ^ 18 by omega) (by decide +kernel)
      ((try dsimp only); rw [ss_cons]; simp only [ss_nil, wpS, wpE, wpEs, ofV, ofT, b_addI, b_sub, b_mod, b_pow1018, c_lt, c_le, c_gt, c_ge, c_eqI, c_neI, c_eqS, c_neS, t_bl, t_int, l_tup, f_int, f_abs, bt1, List.getElem?_cons_zero, List.getElem?_cons_succ, List.set_cons_zero, List.set_cons_succ, var_ex, Nat.reduceAdd, put_put, bl_ex, f_divmod, f_str, f_intB, f_intS, f_ord, f_listR, is_tup, is_str, is_int, is_bool, ty_str, m_zfill, m_find, on_zfill, on_join, on_find, on_append, on_pop, bt2, DL.sl_str, pd_no, pd_int, true_and, b_mul, b_fdiv, b_addS, b_addT, if_true, if_false, Tg.slots, wipeD])
      refine ⟨by decide, by decide +kernel, ?_⟩
      rw [e1]
      refine hW _ _ ⟨L / 10 ^ 18, pad 18 (L % 10 ^ 18) ++ s, _, _, rfl, rfl, ?_, ?_, Nat.le_trans (Nat.div_le_self _ _) hLi⟩
      · rw [hf, e5, List.append_assoc]
      · unfold LtP at hb ⊢
        rw [Nat.div_lt_iff_lt_mul (by decide), ← Nat.pow_add]
        have e : 18 * (ds.length + 1) + 18 = 18 * ((d :: ds).length + 1) := by rw [List.length_cons]; omega
        rw [e]
        exact hb
  · rintro ρ τ' ⟨L, s, u, v, rfl, rfl, hf, hb, _⟩
    exact ⟨True.intro, fo2_ok hi hb hf k⟩
  · unfold LtP
    refine Nat.lt_of_lt_of_le hi (Nat.pow_le_pow_right (by decide) ?_)
    rw [List.length_map, List.length_range]
    decide
theorem dx_ok : ∀ (k n : Nat) (d : D) (τ : Sto) (Q : QD) (X : XD), dt d → d.depth ≤ k → (txt d).length ≤ 1000000 → (∀ τ', Ext τ τ' → Q (.str (txt d)) τ') → callD P (k + n + 3) 14 [d] τ Q X := by
  intro k
  induction k with
  | zero =>
    intro n d τ Q X hd hk hl kq
    refine call_of (i := i__law_datum_text) rfl rfl rfl ?_
    rw [show 0 + n + 3 = (n + 2) + 1 by omega, runD_succ]
    show wpSs _ _ _ b__law_datum_text [some d, none] _ _
    unfold b__law_datum_text
    have hkn := known_dt hd
    cases d with
    | tup xs => simp [D.depth] at hk
    | str l =>
      ((try dsimp only); rw [ss_cons]; simp only [ss_nil, wpS, wpE, wpEs, ofV, ofT, b_addI, b_sub, b_mod, b_pow1018, c_lt, c_le, c_gt, c_ge, c_eqI, c_neI, c_eqS, c_neS, t_bl, t_int, l_tup, f_int, f_abs, bt1, List.getElem?_cons_zero, List.getElem?_cons_succ, List.set_cons_zero, List.set_cons_succ, var_ex, Nat.reduceAdd, put_put, bl_ex, f_divmod, f_str, f_intB, f_intS, f_ord, f_listR, is_tup, is_str, is_int, is_bool, ty_str, m_zfill, m_find, on_zfill, on_join, on_find, on_append, on_pop, bt2, DL.sl_str, pd_no, pd_int, true_and, b_mul, b_fdiv, b_addS, b_addT, if_true, if_false, Tg.slots, wipeD])
      refine ⟨hkn, ?_⟩
      (first | rw [if_neg (by decide)] | rw [if_neg not_false] | skip)
      ((try dsimp only); rw [ss_cons]; simp only [ss_nil, wpS, wpE, wpEs, ofV, ofT, b_addI, b_sub, b_mod, b_pow1018, c_lt, c_le, c_gt, c_ge, c_eqI, c_neI, c_eqS, c_neS, t_bl, t_int, l_tup, f_int, f_abs, bt1, List.getElem?_cons_zero, List.getElem?_cons_succ, List.set_cons_zero, List.set_cons_succ, var_ex, Nat.reduceAdd, put_put, bl_ex, f_divmod, f_str, f_intB, f_intS, f_ord, f_listR, is_tup, is_str, is_int, is_bool, ty_str, m_zfill, m_find, on_zfill, on_join, on_find, on_append, on_pop, bt2, DL.sl_str, pd_no, pd_int, true_and, b_mul, b_fdiv, b_addS, b_addT, if_true, if_false, Tg.slots, wipeD])
      refine ⟨hkn, ?_⟩
      (first | rw [if_pos rfl] | rw [if_pos True.intro] | rw [if_pos (by decide)] | skip)
      have hl' : (39 :: (l ++ [39])).length ≤ 1000000 := hl
      simp only [List.length_cons, List.length_append, List.length_nil] at hl'
      ((try dsimp only); rw [ss_cons]; simp only [ss_nil, wpS, wpE, wpEs, ofV, ofT, b_addI, b_sub, b_mod, b_pow1018, c_lt, c_le, c_gt, c_ge, c_eqI, c_neI, c_eqS, c_neS, t_bl, t_int, l_tup, f_int, f_abs, bt1, List.getElem?_cons_zero, List.getElem?_cons_succ, List.set_cons_zero, List.set_cons_succ, var_ex, Nat.reduceAdd, put_put, bl_ex, f_divmod, f_str, f_intB, f_intS, f_ord, f_listR, is_tup, is_str, is_int, is_bool, ty_str, m_zfill, m_find, on_zfill, on_join, on_find, on_append, on_pop, bt2, DL.sl_str, pd_no, pd_int, true_and, b_mul, b_fdiv, b_addS, b_addT, if_true, if_false, Tg.slots, wipeD])
      refine ⟨by unfold LIM; simp; omega, by unfold LIM; simp; omega, ?_⟩
      exact kq _ (Ext.refl τ)
    | int i =>
      ((try dsimp only); rw [ss_cons]; simp only [ss_nil, wpS, wpE, wpEs, ofV, ofT, b_addI, b_sub, b_mod, b_pow1018, c_lt, c_le, c_gt, c_ge, c_eqI, c_neI, c_eqS, c_neS, t_bl, t_int, l_tup, f_int, f_abs, bt1, List.getElem?_cons_zero, List.getElem?_cons_succ, List.set_cons_zero, List.set_cons_succ, var_ex, Nat.reduceAdd, put_put, bl_ex, f_divmod, f_str, f_intB, f_intS, f_ord, f_listR, is_tup, is_str, is_int, is_bool, ty_str, m_zfill, m_find, on_zfill, on_join, on_find, on_append, on_pop, bt2, DL.sl_str, pd_no, pd_int, true_and, b_mul, b_fdiv, b_addS, b_addT, if_true, if_false, Tg.slots, wipeD])
      refine ⟨hkn, ?_⟩
      (first | rw [if_neg (by decide)] | rw [if_neg not_false] | skip)
      ((try dsimp only); rw [ss_cons]; simp only [ss_nil, wpS, wpE, wpEs, ofV, ofT, b_addI, b_sub, b_mod, b_pow1018, c_lt, c_le, c_gt, c_ge, c_eqI, c_neI, c_eqS, c_neS, t_bl, t_int, l_tup, f_int, f_abs, bt1, List.getElem?_cons_zero, List.getElem?_cons_succ, List.set_cons_zero, List.set_cons_succ, var_ex, Nat.reduceAdd, put_put, bl_ex, f_divmod, f_str, f_intB, f_intS, f_ord, f_listR, is_tup, is_str, is_int, is_bool, ty_str, m_zfill, m_find, on_zfill, on_join, on_find, on_append, on_pop, bt2, DL.sl_str, pd_no, pd_int, true_and, b_mul, b_fdiv, b_addS, b_addT, if_true, if_false, Tg.slots, wipeD])
      refine ⟨hkn, ?_⟩
      (first | rw [if_neg (by decide)] | rw [if_neg not_false] | skip)
      ((try dsimp only); rw [ss_cons]; simp only [ss_nil, wpS, wpE, wpEs, ofV, ofT, b_addI, b_sub, b_mod, b_pow1018, c_lt, c_le, c_gt, c_ge, c_eqI, c_neI, c_eqS, c_neS, t_bl, t_int, l_tup, f_int, f_abs, bt1, List.getElem?_cons_zero, List.getElem?_cons_succ, List.set_cons_zero, List.set_cons_succ, var_ex, Nat.reduceAdd, put_put, bl_ex, f_divmod, f_str, f_intB, f_intS, f_ord, f_listR, is_tup, is_str, is_int, is_bool, ty_str, m_zfill, m_find, on_zfill, on_join, on_find, on_append, on_pop, bt2, DL.sl_str, pd_no, pd_int, true_and, b_mul, b_fdiv, b_addS, b_addT, if_true, if_false, Tg.slots, wipeD])
      exact fo_ok hd (kq _ (Ext.refl τ))
    | _ => cases hd
  | succ k ih =>
    intro n d τ Q X hd hk hl kq
    cases d with
    | tup xs =>
      refine call_of (i := i__law_datum_text) rfl rfl rfl ?_
      rw [show k + 1 + n + 3 = (k + n + 3) + 1 by omega, runD_succ]
      show wpSs _ _ _ b__law_datum_text [some (.tup xs), none] _ _
      unfold b__law_datum_text
      ((try dsimp only); rw [ss_cons]; simp only [ss_nil, wpS, wpE, wpEs, ofV, ofT, b_addI, b_sub, b_mod, b_pow1018, c_lt, c_le, c_gt, c_ge, c_eqI, c_neI, c_eqS, c_neS, t_bl, t_int, l_tup, f_int, f_abs, bt1, List.getElem?_cons_zero, List.getElem?_cons_succ, List.set_cons_zero, List.set_cons_succ, var_ex, Nat.reduceAdd, put_put, bl_ex, f_divmod, f_str, f_intB, f_intS, f_ord, f_listR, is_tup, is_str, is_int, is_bool, ty_str, m_zfill, m_find, on_zfill, on_join, on_find, on_append, on_pop, bt2, DL.sl_str, pd_no, pd_int, true_and, b_mul, b_fdiv, b_addS, b_addT, if_true, if_false, Tg.slots, wipeD])
      refine ⟨rfl, ?_⟩
      (first | rw [if_pos rfl] | rw [if_pos True.intro] | rw [if_pos (by decide)] | skip)
      obtain ⟨hs, he⟩ := tup_len hl
      ((try dsimp only); rw [ss_cons]; simp only [ss_nil, wpS, wpE, wpEs, ofV, ofT, b_addI, b_sub, b_mod, b_pow1018, c_lt, c_le, c_gt, c_ge, c_eqI, c_neI, c_eqS, c_neS, t_bl, t_int, l_tup, f_int, f_abs, bt1, List.getElem?_cons_zero, List.getElem?_cons_succ, List.set_cons_zero, List.set_cons_succ, var_ex, Nat.reduceAdd, put_put, bl_ex, f_divmod, f_str, f_intB, f_intS, f_ord, f_listR, is_tup, is_str, is_int, is_bool, ty_str, m_zfill, m_find, on_zfill, on_join, on_find, on_append, on_pop, bt2, DL.sl_str, pd_no, pd_int, true_and, b_mul, b_fdiv, b_addS, b_addT, if_true, if_false, Tg.slots, wipeD, it_tup])
      intro p hp
      have hxl : xs.length ≤ LIM := by rw [txts_map] at hs; unfold LIM; simp at hs; omega
      have hkd : D.depths xs ≤ k := by have : D.depths xs + 1 ≤ k + 1 := hk; omega
      refine comp_map (fun d => .str (txt d)) hp hxl (fun d hdm τ' W e hW => ?_) fun τ' e hτ => ?_
      · (try simp only [ss_nil, wpS, wpE, wpEs, ofV, ofT, b_addI, b_sub, b_mod, b_pow1018, c_lt, c_le, c_gt, c_ge, c_eqI, c_neI, c_eqS, c_neS, t_bl, t_int, l_tup, f_int, f_abs, bt1, List.getElem?_cons_zero, List.getElem?_cons_succ, List.set_cons_zero, List.set_cons_succ, var_ex, Nat.reduceAdd, put_put, bl_ex, f_divmod, f_str, f_intB, f_intS, f_ord, f_listR, is_tup, is_str, is_int, is_bool, ty_str, m_zfill, m_find, on_zfill, on_join, on_find, on_append, on_pop, bt2, DL.sl_str, pd_no, pd_int, true_and, b_mul, b_fdiv, b_addS, b_addT, if_true, if_false, Tg.slots, wipeD])
        refine ih n d τ' _ _ (dts_mem hd d hdm) (Nat.le_trans (depth_mem hdm) hkd) (he d hdm) fun τ2 e2 => hW τ2 e2
      · have hal : allStr (xs.map fun d => D.str (txt d)) = some (txts xs) := by
          rw [txts_map]
          have := allStr_map (xs.map txt)
          rw [List.map_map] at this
          exact this
        rw [m_join hτ hal]
        (try simp only [ss_nil, wpS, wpE, wpEs, ofV, ofT, b_addI, b_sub, b_mod, b_pow1018, c_lt, c_le, c_gt, c_ge, c_eqI, c_neI, c_eqS, c_neS, t_bl, t_int, l_tup, f_int, f_abs, bt1, List.getElem?_cons_zero, List.getElem?_cons_succ, List.set_cons_zero, List.set_cons_succ, var_ex, Nat.reduceAdd, put_put, bl_ex, f_divmod, f_str, f_intB, f_intS, f_ord, f_listR, is_tup, is_str, is_int, is_bool, ty_str, m_zfill, m_find, on_zfill, on_join, on_find, on_append, on_pop, bt2, DL.sl_str, pd_no, pd_int, true_and, b_mul, b_fdiv, b_addS, b_addT, if_true, if_false, Tg.slots, wipeD])
        have hj : (joinS [44, 32] (txts xs)).length + 2 ≤ 1000000 := by
          have h1 : (40 :: (joinS [44, 32] (txts xs) ++ [41])).length ≤ 1000000 := hl
          simpa using h1
        refine ⟨by unfold LIM; simp only [List.length_cons, List.length_nil]; omega, by unfold LIM; simp only [List.length_cons, List.length_nil]; omega, by unfold LIM; simp only [List.length_cons, List.length_nil, List.length_append]; omega, ?_⟩
        exact kq τ' e
    | _ =>
      have := ih (n + 1) _ τ Q X hd (by first | exact Nat.zero_le _) hl kq
      rw [show k + (n + 1) + 3 = k + 1 + n + 3 by omega] at this
      exact this
/-! ### draws -/
theorem dr_ok {m : Nat} {a b : Addr} {most : Int} (h : Dr τ a b m) (h1 : 0 < most) (h2 : most.natAbs < 2 ^ 64) (hm : m < 2 ^ 1000)
    (k : ∀ (d : Int) (τ' : Sto), 0 ≤ d → d < most → Dr τ' a b (m + 1) → (∀ x o, x ≠ a → τ x = some o → τ' x = some o) → Q (.int d) τ') : callD P (n + 1) 7 [.ref a, .int most] τ Q X :=
  call_of (i := i__law_draw) rfl rfl rfl (draw_ok h h1 h2 hm k)
theorem one_ok {m : Nat} {a b l : Addr} {xs : List D} (h : Dr τ a b m) (hl : τ l = some (.lst xs)) (hla : l ≠ a) (h1 : 0 < xs.length) (h2 : xs.length < 1000000) (hm : m < 2 ^ 1000)
    (k : ∀ (d : D) (τ' : Sto), d ∈ xs → Dr τ' a b (m + 1) → (∀ x o, x ≠ a → τ x = some o → τ' x = some o) → Q d τ') : callD P (n + 2) 8 [.ref a, .ref l] τ Q X := by
  refine call_of (i := i__law_one_of) rfl rfl rfl ?_
  rw [runD_succ]
  show wpSs _ _ _ b__law_one_of [some (.ref a), some (.ref l)] _ _
  unfold b__law_one_of
  ((try dsimp only); rw [ss_cons]; simp only [ss_nil, wpS, wpE, wpEs, ofV, ofT, b_addI, b_sub, b_mod, b_pow1018, c_lt, c_le, c_gt, c_ge, c_eqI, c_neI, c_eqS, c_neS, t_bl, t_int, l_tup, f_int, f_abs, bt1, List.getElem?_cons_zero, List.getElem?_cons_succ, List.set_cons_zero, List.set_cons_succ, var_ex, Nat.reduceAdd, put_put, bl_ex, f_divmod, f_str, f_intB, f_intS, f_ord, f_listR, is_tup, is_str, is_int, is_bool, ty_str, m_zfill, m_find, on_zfill, on_join, on_find, on_append, on_pop, bt2, DL.sl_str, pd_no, pd_int, true_and, b_mul, b_fdiv, b_addS, b_addT, if_true, if_false, Tg.slots, wipeD, l_lst hl])
  refine dr_ok h (by omega) (by omega) hm fun d τ' d0 d1 hd e => ?_
  obtain ⟨q, rfl⟩ := Int.eq_ofNat_of_zero_le d0
  have hq : q < xs.length := by omega
  have hat : atD xs (q : Int) = some xs[q] := by rw [atD_nat hq, List.getElem?_eq_getElem hq]
  rw [i_lst (e _ _ hla hl) hat]
  exact k _ _ (List.getElem_mem hq) hd e
theorem start_ok {ns : List Int} (k : ∀ a b τ', Dr τ' a b 0 → Ext τ τ' → Q (.ref a) τ') : callD P (n + 1) 6 [.rol ns] τ Q X := by
  refine call_of (i := i__law_start) rfl rfl rfl ?_
  rw [runD_succ]
  show wpSs _ _ _ b__law_start [some (.rol ns)] _ _
  unfold b__law_start
  ((try dsimp only); rw [ss_cons]; simp only [ss_nil, wpS, wpE, wpEs, ofV, ofT, b_addI, b_sub, b_mod, b_pow1018, c_lt, c_le, c_gt, c_ge, c_eqI, c_neI, c_eqS, c_neS, t_bl, t_int, l_tup, f_int, f_abs, bt1, List.getElem?_cons_zero, List.getElem?_cons_succ, List.set_cons_zero, List.set_cons_succ, var_ex, Nat.reduceAdd, put_put, bl_ex, f_divmod, f_str, f_intB, f_intS, f_ord, f_listR, is_tup, is_str, is_int, is_bool, ty_str, m_zfill, m_find, on_zfill, on_join, on_find, on_append, on_pop, bt2, DL.sl_str, pd_no, pd_int, true_and, b_mul, b_fdiv, b_addS, b_addT, if_true, if_false, Tg.slots, wipeD])
  intro p hp
  refine ⟨by show 4 ≤ LIM; decide, fun q hq => k _ p _ ⟨ns, 0, 0, 0, put_same, ?_, ?_, Nat.le_refl _⟩ (((Ext.refl τ).put hp).trans (Ext.new hq))⟩
  · have hpq : p ≠ q := fun z => by subst z; rw [put_same] at hq; cases hq
    rw [put_ne hpq, put_same]
  · exact fun z => by subst z; rw [put_same] at hq; cases hq
/-- what long numbers keep -/
theorem long_ok {m : Nat} {a b : Addr} {most : Nat} (h : Dr τ a b m) (h0 : 0 < most) (hmo : most ≤ 30) (hm : m + 40 < 2 ^ 1000)
    (k : ∀ (z : Int) (τ' : Sto), z.natAbs < 10 ^ (18 * (most + 1)) → Dr τ' a b (m + 40) → (∀ x o, x ≠ a → τ x = some o → τ' x = some o) → Q (.int z) τ') : callD P (n + 2) 12 [.ref a, .int most] τ Q X := by
  refine call_of (i := i__law_long_number) rfl rfl rfl ?_
  rw [runD_succ]
  show wpSs _ _ _ b__law_long_number [some (.ref a), some (.int most), none, none] _ _
  unfold b__law_long_number
  have key : ∀ {τ' : Sto} {u : Option D} {z : Nat} {m' : Nat}, Dr τ' a b m' → m' ≤ m + 38 → (∀ x o, x ≠ a → τ x = some o → τ' x = some o) → z < 10 ^ (18 * (most + 1)) →
      wpSs P.cls (callD P (n + 1)) P.xcs (.cons (.ret (.bin .mul (.var 2) (.idx (.lst (.cons (.cst (.int (1))) (.cons (.neg (.cst (.int (1)))) .nil))) (.call 7 (.cons (.var 0) (.cons (.cst (.int (2))) .nil)))))) .nil) [some (.ref a), some (.int most), some (.int z), u] τ'
        { nx := fun _ τ' => Q .non τ', rt := Q, bk := fun _ _ => False, ct := fun _ _ => False, ex := fun x _ τ' => X x τ' } := by
    intro τ' u z m' hd hm' he hz
    have hzs : z < 10 ^ 1000 := Nat.lt_of_lt_of_le hz (Nat.pow_le_pow_right (by decide) (by omega))
    ((try dsimp only); rw [ss_cons]; simp only [ss_nil, wpS, wpE, wpEs, ofV, ofT, b_addI, b_sub, b_mod, b_pow1018, c_lt, c_le, c_gt, c_ge, c_eqI, c_neI, c_eqS, c_neS, t_bl, t_int, l_tup, f_int, f_abs, bt1, List.getElem?_cons_zero, List.getElem?_cons_succ, List.set_cons_zero, List.set_cons_succ, var_ex, Nat.reduceAdd, put_put, bl_ex, f_divmod, f_str, f_intB, f_intS, f_ord, f_listR, is_tup, is_str, is_int, is_bool, ty_str, m_zfill, m_find, on_zfill, on_join, on_find, on_append, on_pop, bt2, DL.sl_str, pd_no, pd_int, true_and, b_mul, b_fdiv, b_addS, b_addT, if_true, if_false, Tg.slots, wipeD])
    refine ⟨1, rfl, by decide, fun p hp => ?_⟩
    have hpa : p ≠ a := fun e => by
      subst e
      obtain ⟨ns, c1, c2, c3, ha, _⟩ := hd.ex
      rw [ha] at hp; cases hp
    have hd' : Dr (put τ' p (.lst [D.int 1, D.int (-1)])) a b m' := by
      obtain ⟨ns, c1, c2, c3, ha, hb, hab, hc⟩ := hd.ex
      refine ⟨ns, c1, c2, c3, by rw [put_ne (Ne.symm hpa)]; exact ha, ?_, hab, hc⟩
      rw [put_ne (fun e => by subst e; rw [hb] at hp; cases hp)]
      exact hb
    refine dr_ok hd' (by decide) (by decide) (by omega) fun d τ2 d0 d1 hd2 e2 => ?_
    have hl2 : τ2 p = some (.lst [D.int 1, D.int (-1)]) := e2 _ _ hpa put_same
    have hd3 : Dr τ2 a b (m + 40) := by
      obtain ⟨ns, c1, c2, c3, ha, hb, hab, hc⟩ := hd2.ex
      exact ⟨ns, c1, c2, c3, ha, hb, hab, by omega⟩
    have he3 : ∀ x o, x ≠ a → τ x = some o → τ2 x = some o := fun x o hx h0 => by
      refine e2 x o hx ?_
      have := he x o hx h0
      rw [put_ne (fun e => by subst e; rw [this] at hp; cases hp)]
      exact this
    have hd01 : d = 0 ∨ d = 1 := by omega
    rcases hd01 with rfl | rfl
    · rw [i_lst hl2 at20]
      (try simp only [ss_nil, wpS, wpE, wpEs, ofV, ofT, b_addI, b_sub, b_mod, b_pow1018, c_lt, c_le, c_gt, c_ge, c_eqI, c_neI, c_eqS, c_neS, t_bl, t_int, l_tup, f_int, f_abs, bt1, List.getElem?_cons_zero, List.getElem?_cons_succ, List.set_cons_zero, List.set_cons_succ, var_ex, Nat.reduceAdd, put_put, bl_ex, f_divmod, f_str, f_intB, f_intS, f_ord, f_listR, is_tup, is_str, is_int, is_bool, ty_str, m_zfill, m_find, on_zfill, on_join, on_find, on_append, on_pop, bt2, DL.sl_str, pd_no, pd_int, true_and, b_mul, b_fdiv, b_addS, b_addT, if_true, if_false, Tg.slots, wipeD])
      refine ⟨small1000 hzs, small_le (k := 200) (by decide) (by decide), k _ _ ?_ hd3 he3⟩
      rw [Int.mul_one]; exact hz
    · rw [i_lst hl2 at21]
      (try simp only [ss_nil, wpS, wpE, wpEs, ofV, ofT, b_addI, b_sub, b_mod, b_pow1018, c_lt, c_le, c_gt, c_ge, c_eqI, c_neI, c_eqS, c_neS, t_bl, t_int, l_tup, f_int, f_abs, bt1, List.getElem?_cons_zero, List.getElem?_cons_succ, List.set_cons_zero, List.set_cons_succ, var_ex, Nat.reduceAdd, put_put, bl_ex, f_divmod, f_str, f_intB, f_intS, f_ord, f_listR, is_tup, is_str, is_int, is_bool, ty_str, m_zfill, m_find, on_zfill, on_join, on_find, on_append, on_pop, bt2, DL.sl_str, pd_no, pd_int, true_and, b_mul, b_fdiv, b_addS, b_addT, if_true, if_false, Tg.slots, wipeD])
      refine ⟨small1000 hzs, small_le (k := 200) (by decide) (by decide), k _ _ ?_ hd3 he3⟩
      have e : (z : Int) * -1 = -(z : Int) := by omega
      rw [e, Int.natAbs_neg]; exact hz
  ((try dsimp only); rw [ss_cons]; simp only [ss_nil, wpS, wpE, wpEs, ofV, ofT, b_addI, b_sub, b_mod, b_pow1018, c_lt, c_le, c_gt, c_ge, c_eqI, c_neI, c_eqS, c_neS, t_bl, t_int, l_tup, f_int, f_abs, bt1, List.getElem?_cons_zero, List.getElem?_cons_succ, List.set_cons_zero, List.set_cons_succ, var_ex, Nat.reduceAdd, put_put, bl_ex, f_divmod, f_str, f_intB, f_intS, f_ord, f_listR, is_tup, is_str, is_int, is_bool, ty_str, m_zfill, m_find, on_zfill, on_join, on_find, on_append, on_pop, bt2, DL.sl_str, pd_no, pd_int, true_and, b_mul, b_fdiv, b_addS, b_addT, if_true, if_false, Tg.slots, wipeD])
  refine dr_ok h (by decide) (by decide) (by omega) fun d τ1 d0 d1 hd1 he1 => ?_
  (try simp only [ss_nil, wpS, wpE, wpEs, ofV, ofT, b_addI, b_sub, b_mod, b_pow1018, c_lt, c_le, c_gt, c_ge, c_eqI, c_neI, c_eqS, c_neS, t_bl, t_int, l_tup, f_int, f_abs, bt1, List.getElem?_cons_zero, List.getElem?_cons_succ, List.set_cons_zero, List.set_cons_succ, var_ex, Nat.reduceAdd, put_put, bl_ex, f_divmod, f_str, f_intB, f_intS, f_ord, f_listR, is_tup, is_str, is_int, is_bool, ty_str, m_zfill, m_find, on_zfill, on_join, on_find, on_append, on_pop, bt2, DL.sl_str, pd_no, pd_int, true_and, b_mul, b_fdiv, b_addS, b_addT, if_true, if_false, Tg.slots, wipeD])
  ((try dsimp only); rw [ss_cons]; simp only [ss_nil, wpS, wpE, wpEs, ofV, ofT, b_addI, b_sub, b_mod, b_pow1018, c_lt, c_le, c_gt, c_ge, c_eqI, c_neI, c_eqS, c_neS, t_bl, t_int, l_tup, f_int, f_abs, bt1, List.getElem?_cons_zero, List.getElem?_cons_succ, List.set_cons_zero, List.set_cons_succ, var_ex, Nat.reduceAdd, put_put, bl_ex, f_divmod, f_str, f_intB, f_intS, f_ord, f_listR, is_tup, is_str, is_int, is_bool, ty_str, m_zfill, m_find, on_zfill, on_join, on_find, on_append, on_pop, bt2, DL.sl_str, pd_no, pd_int, true_and, b_mul, b_fdiv, b_addS, b_addT, if_true, if_false, Tg.slots, wipeD])
  refine dr_ok hd1 (by omega) (by omega) (by omega) fun t τ2 t0 t1 hd2 he2 => ?_
  rw [it_r1]
  refine ⟨by omega, ?_⟩
  obtain ⟨q, rfl⟩ := Int.eq_ofNat_of_zero_le d0
  obtain ⟨r, rfl⟩ := Int.eq_ofNat_of_zero_le t0
  refine for_go (fun ds ρ τ' => ∃ (z j m' : Nat) (u : Option D), ρ = [some (.ref a), some (.int most), some (.int z), u] ∧ Dr τ' a b m' ∧ m' ≤ m + 2 + j ∧ j + ds.length = r ∧ (∀ x o, x ≠ a → τ x = some o → τ' x = some o) ∧ z < 10 ^ (18 * (j + 1))) ?_ ?_ _ _ _ ⟨q, 0, m + 2, none, rfl, hd2, by omega, by simp, fun x o hx h0 => he2 x o hx (he1 x o hx h0), by omega⟩
  · rintro d ds ρ τ' W ⟨z, j, m', u, rfl, hd, hm', hj, he, hz⟩ hW
    rw [List.length_cons] at hj
    refine ⟨True.intro, ?_⟩
    (try simp only [ss_nil, wpS, wpE, wpEs, ofV, ofT, b_addI, b_sub, b_mod, b_pow1018, c_lt, c_le, c_gt, c_ge, c_eqI, c_neI, c_eqS, c_neS, t_bl, t_int, l_tup, f_int, f_abs, bt1, List.getElem?_cons_zero, List.getElem?_cons_succ, List.set_cons_zero, List.set_cons_succ, var_ex, Nat.reduceAdd, put_put, bl_ex, f_divmod, f_str, f_intB, f_intS, f_ord, f_listR, is_tup, is_str, is_int, is_bool, ty_str, m_zfill, m_find, on_zfill, on_join, on_find, on_append, on_pop, bt2, DL.sl_str, pd_no, pd_int, true_and, b_mul, b_fdiv, b_addS, b_addT, if_true, if_false, Tg.slots, wipeD])
    ((try dsimp only); rw [ss_cons]; simp only [ss_nil, wpS, wpE, wpEs, ofV, ofT, b_addI, b_sub, b_mod, b_pow1018, c_lt, c_le, c_gt, c_ge, c_eqI, c_neI, c_eqS, c_neS, t_bl, t_int, l_tup, f_int, f_abs, bt1, List.getElem?_cons_zero, List.getElem?_cons_succ, List.set_cons_zero, List.set_cons_succ, var_ex, Nat.reduceAdd, put_put, bl_ex, f_divmod, f_str, f_intB, f_intS, f_ord, f_listR, is_tup, is_str, is_int, is_bool, ty_str, m_zfill, m_find, on_zfill, on_join, on_find, on_append, on_pop, bt2, DL.sl_str, pd_no, pd_int, true_and, b_mul, b_fdiv, b_addS, b_addT, if_true, if_false, Tg.slots, wipeD])
    have hz2 : z < 10 ^ 1000 := Nat.lt_of_lt_of_le hz (Nat.pow_le_pow_right (by decide) (by omega))
    refine ⟨small1000 hz2, small_le (k := 200) (by decide) (by decide), ?_⟩
    refine dr_ok hd (by decide) (by decide) (by omega) fun y τ3 y0 y1 hd3 he3 => ?_
    (try simp only [ss_nil, wpS, wpE, wpEs, ofV, ofT, b_addI, b_sub, b_mod, b_pow1018, c_lt, c_le, c_gt, c_ge, c_eqI, c_neI, c_eqS, c_neS, t_bl, t_int, l_tup, f_int, f_abs, bt1, List.getElem?_cons_zero, List.getElem?_cons_succ, List.set_cons_zero, List.set_cons_succ, var_ex, Nat.reduceAdd, put_put, bl_ex, f_divmod, f_str, f_intB, f_intS, f_ord, f_listR, is_tup, is_str, is_int, is_bool, ty_str, m_zfill, m_find, on_zfill, on_join, on_find, on_append, on_pop, bt2, DL.sl_str, pd_no, pd_int, true_and, b_mul, b_fdiv, b_addS, b_addT, if_true, if_false, Tg.slots, wipeD])
    obtain ⟨y, rfl⟩ := Int.eq_ofNat_of_zero_le y0
    refine hW _ _ ⟨z * 10 ^ 18 + y, j + 1, m' + 1, some d, ?_, hd3, by omega, by omega, fun x o hx h0 => he3 x o hx (he x o hx h0), ?_⟩
    · have e : (z : Int) * 1000000000000000000 + (y : Int) = ((z * 10 ^ 18 + y : Nat) : Int) := by omega
      rw [e]
    · have e : 18 * (j + 1 + 1) = 18 * (j + 1) + 18 := by omega
      rw [e, Nat.pow_add]
      have h3 : (z + 1) * 10 ^ 18 ≤ 10 ^ (18 * (j + 1)) * 10 ^ 18 := Nat.mul_le_mul_right _ hz
      have h4 : y < 10 ^ 18 := by omega
      rw [Nat.add_mul, Nat.one_mul] at h3
      omega
  · rintro ρ τ' ⟨z, j, m', u, rfl, hd, hm', hj, he, hz⟩
    refine ⟨True.intro, ?_⟩
    have hj : j = r := by simpa using hj
    exact key hd (by omega) he (Nat.lt_of_lt_of_le hz (Nat.pow_le_pow_right (by decide) (by omega)))
end
end K00
set_option maxHeartbeats 1000000
/-! Pe00: drawn data -/
namespace K00
open PySem DL
def Kp (a : Addr) (τ τ' : Sto) : Prop := ∀ x o, x ≠ a → τ x = some o → τ' x = some o
theorem Kp.refl (a : Addr) (τ : Sto) : Kp a τ τ := fun _ _ _ h => h
theorem Kp.trans {a : Addr} {τ τ' τ2 : Sto} (h : Kp a τ τ') (k : Kp a τ' τ2) : Kp a τ τ2 := fun x o hx e => k x o hx (h x o hx e)
theorem Kp.ext {a : Addr} {τ τ' : Sto} (h : Ext τ τ') : Kp a τ τ' := fun x o _ e => h x o e
theorem Kp.put {a p : Addr} {o : O} {τ τ' : Sto} (h : Kp a τ τ') (hp : τ p = none) : Kp a τ (DL.put τ' p o) := fun x u hx e => by
  have hxp : x ≠ p := fun z => by subst z; rw [hp] at e; cases e
  rw [put_ne hxp]
  exact h x u hx e
theorem Kp.put' {a p : Addr} {o : O} {τ τ' : Sto} (h : Kp a τ τ') (hp : τ' p = none) : Kp a τ (DL.put τ' p o) := fun x u hx e => by
  have h1 := h x u hx e
  have hxp : x ≠ p := fun z => by subst z; rw [hp] at h1; cases h1
  rw [put_ne hxp]
  exact h1
theorem _root_.DL.Dr.mono {τ : Sto} {a b : Addr} {m m' : Nat} (h : Dr τ a b m) (k : m ≤ m') : Dr τ a b m' := by
  obtain ⟨ns, c1, c2, c3, ha, hb, hab, hc⟩ := h.ex
  exact ⟨ns, c1, c2, c3, ha, hb, hab, by omega⟩
theorem _root_.DL.Dr.ne {τ : Sto} {a b p : Addr} {m : Nat} (h : Dr τ a b m) (hp : τ p = none) : p ≠ a := fun e => by
  subst e
  obtain ⟨ns, c1, c2, c3, ha, _⟩ := h.ex
  rw [ha] at hp; cases hp
theorem _root_.DL.Dr.put {τ : Sto} {a b p : Addr} {m : Nat} {o : O} (h : Dr τ a b m) (hp : τ p = none) : Dr (DL.put τ p o) a b m := by
  have hpa := h.ne hp
  obtain ⟨ns, c1, c2, c3, ha, hb, hab, hc⟩ := h.ex
  refine ⟨ns, c1, c2, c3, by rw [put_ne (Ne.symm hpa)]; exact ha, ?_, hab, hc⟩
  rw [put_ne (fun e => by subst e; rw [hb] at hp; cases hp)]
  exact hb
theorem _root_.DL.Dr.ext {τ τ' : Sto} {a b : Addr} {m : Nat} (h : Dr τ a b m) (e : Ext τ τ') : Dr τ' a b m := by
  obtain ⟨ns, c1, c2, c3, ha, hb, hab, hc⟩ := h.ex
  exact ⟨ns, c1, c2, c3, e _ _ ha, e _ _ hb, hab, hc⟩
theorem _root_.DL.Dr.neb {τ : Sto} {a b p : Addr} {m : Nat} (h : Dr τ a b m) (hp : τ p = none) : p ≠ b := fun e => by
  subst e
  obtain ⟨ns, c1, c2, c3, ha, hb, _⟩ := h.ex
  rw [hb] at hp; cases hp
/-- the state changes elsewhere -/
theorem _root_.DL.Dr.at {τ : Sto} {a b p : Addr} {m : Nat} {o : O} (h : Dr τ a b m) (hp : p ≠ a) (hq : p ≠ b) : Dr (DL.put τ p o) a b m := by
  obtain ⟨ns, c1, c2, c3, ha, hb, hab, hc⟩ := h.ex
  exact ⟨ns, c1, c2, c3, by rw [put_ne (Ne.symm hp)]; exact ha, by rw [put_ne (Ne.symm hq)]; exact hb, hab, hc⟩
theorem Kp.none {a p : Addr} {τ τ' : Sto} (h : Kp a τ τ') (hp : τ' p = none) (hpa : p ≠ a) : τ p = none := by
  cases e : τ p with
  | none => rfl
  | some o => rw [h p o hpa e] at hp; cases hp
theorem at_mem {xs : List D} {d : Int} (h0 : 0 ≤ d) (h : d < xs.length) : ∃ x, atD xs d = some x ∧ x ∈ xs := by
  obtain ⟨q, rfl⟩ := Int.eq_ofNat_of_zero_le h0
  have hq : q < xs.length := by omega
  exact ⟨xs[q], by rw [atD_nat hq, List.getElem?_eq_getElem hq], List.getElem_mem hq⟩
/-- drawn data of that depth -/
structure Gd (k : Nat) (d : D) : Prop where
  dt : dt d
  dp : d.depth ≤ k
  ln : (txt d).length ≤ 200 * 4 ^ k
theorem Gd.mono {k : Nat} {d : D} (h : Gd k d) : Gd (k + 1) d := ⟨h.dt, by have := h.dp; omega, by
  have := h.ln
  rw [Nat.pow_succ]
  omega⟩
theorem Gd.int {k : Nat} {z : Int} (h : z.natAbs < 10 ^ 126) : Gd k (.int z) := by
  refine ⟨Nat.lt_of_lt_of_le h (Nat.pow_le_pow_right (by decide) (by decide)), Nat.zero_le _, ?_⟩
  have h1 : (txt (.int z)).length ≤ 127 := numT_len (k := 126) (by decide) h
  have : 1 ≤ 4 ^ k := Nat.pow_pos (by decide)
  omega
theorem dts_of : ∀ {xs : List D}, (∀ d ∈ xs, dt d) → dts xs
  | [], _ => True.intro
  | x :: xs, h => ⟨h x List.mem_cons_self, dts_of fun d hd => h d (List.mem_cons_of_mem _ hd)⟩
theorem depths_le {k : Nat} : ∀ {xs : List D}, (∀ d ∈ xs, d.depth ≤ k) → D.depths xs ≤ k
  | [], _ => Nat.zero_le _
  | x :: xs, h => by
    show max x.depth (D.depths xs) ≤ k
    have h1 := h x List.mem_cons_self
    have h2 := depths_le fun d hd => h d (List.mem_cons_of_mem x hd)
    omega
theorem join_le (s : List Nat) (N : Nat) : ∀ ls : List (List Nat), (∀ x ∈ ls, x.length ≤ N) → (joinS s ls).length ≤ ls.length * (N + s.length)
  | [], _ => Nat.zero_le _
  | [p], h => by
    have := h p List.mem_cons_self
    show p.length ≤ 1 * (N + s.length)
    omega
  | p :: q :: r, h => by
    have h1 := h p List.mem_cons_self
    have h2 := join_le s N (q :: r) fun x hx => h x (List.mem_cons_of_mem p hx)
    show (p ++ (s ++ joinS s (q :: r))).length ≤ ((q :: r).length + 1) * (N + s.length)
    rw [List.length_append, List.length_append, Nat.add_mul, Nat.one_mul]
    omega
theorem Gd.tup {k : Nat} {xs : List D} (h : ∀ d ∈ xs, Gd k d) (hl : xs.length ≤ 3) : Gd (k + 1) (.tup xs) := by
  refine ⟨dts_of fun d hd => (h d hd).dt, ?_, ?_⟩
  · show D.depths xs + 1 ≤ k + 1
    have := depths_le (k := k) fun d hd => (h d hd).dp
    omega
  · show (40 :: (joinS [44, 32] (txts xs) ++ [41])).length ≤ _
    have h1 := join_le [44, 32] (200 * 4 ^ k) (txts xs) fun x hx => by
      rw [txts_map] at hx
      obtain ⟨d, hd, rfl⟩ := List.mem_map.mp hx
      exact (h d hd).ln
    have h2 : (txts xs).length ≤ 3 := by rw [txts_map, List.length_map]; exact hl
    have h3 : (txts xs).length * (200 * 4 ^ k + [44, 32].length) ≤ 3 * (200 * 4 ^ k + [44, 32].length) := Nat.mul_le_mul_right _ h2
    have e : ([44, 32] : List Nat).length = 2 := rfl
    rw [e] at h1 h3
    have : 1 ≤ 4 ^ k := Nat.pow_pos (by decide)
    simp only [List.length_cons, List.length_append, List.length_nil]
    rw [Nat.pow_succ]
    omega
def six : List D := [.str [], .str [97, 32, 98], .str [40, 49, 44, 32, 50, 41], .str [48], .str [120, 35, 121, 44, 32, 122], .str [45]]
theorem six_gd {k : Nat} {d : D} (h : d ∈ six) : Gd k d := by
  have h1 : 1 ≤ 4 ^ k := Nat.pow_pos (by decide)
  unfold six at h
  simp only [List.mem_cons, List.not_mem_nil, or_false] at h
  rcases h with rfl | rfl | rfl | rfl | rfl | rfl
  all_goals
    refine ⟨?_, Nat.zero_le _, ?_⟩
    · unfold dt; decide
    · show List.length (39 :: (_ ++ [39])) ≤ _
      simp only [List.length_cons, List.length_append, List.length_nil, List.cons_append, List.nil_append]
      omega
section
variable {n m : Nat} {a b : Addr} {τ0 τ : Sto} {K : Ks} {x y u : Option D}
theorem leafI {k : Nat} (h : Dr τ a b m) (e0 : Kp a τ0 τ) (hm : m + 45 < 2 ^ 1000) (kq : ∀ d τ', Gd k d → Dr τ' a b (m + 45) → Kp a τ0 τ' → K.rt d τ') :
    wpSs P.cls (callD P (n + 3)) P.xcs (.cons (.ret (.idx (.lst (.cons (.bin .sub (.call 7 (.cons (.var 0) (.cons (.cst (.int (21))) .nil))) (.cst (.int (10)))) (.cons (.call 12 (.cons (.var 0) (.cons (.cst (.int (6))) .nil))) .nil))) (.call 7 (.cons (.var 0) (.cons (.cst (.int (2))) .nil))))) .nil) [some (.ref a), x, y, u] τ K := by
  ((try dsimp only); rw [ss_cons]; simp only [ss_nil, wpS, wpE, wpEs, ofV, ofT, b_addI, b_sub, b_mod, b_pow1018, c_lt, c_le, c_gt, c_ge, c_eqI, c_neI, c_eqS, c_neS, t_bl, t_int, l_tup, f_int, f_abs, bt1, List.getElem?_cons_zero, List.getElem?_cons_succ, List.set_cons_zero, List.set_cons_succ, var_ex, Nat.reduceAdd, put_put, bl_ex, f_divmod, f_str, f_intB, f_intS, f_ord, f_listR, is_tup, is_str, is_int, is_bool, ty_str, m_zfill, m_find, on_zfill, on_join, on_find, on_append, on_pop, bt2, DL.sl_str, pd_no, pd_int, true_and, b_mul, b_fdiv, b_addS, b_addT, if_true, if_false, Tg.slots, wipeD])
  refine dr_ok h (by decide) (by decide) (by omega) fun d τ1 d0 d1 hd1 he1 => ?_
  (try simp only [ss_nil, wpS, wpE, wpEs, ofV, ofT, b_addI, b_sub, b_mod, b_pow1018, c_lt, c_le, c_gt, c_ge, c_eqI, c_neI, c_eqS, c_neS, t_bl, t_int, l_tup, f_int, f_abs, bt1, List.getElem?_cons_zero, List.getElem?_cons_succ, List.set_cons_zero, List.set_cons_succ, var_ex, Nat.reduceAdd, put_put, bl_ex, f_divmod, f_str, f_intB, f_intS, f_ord, f_listR, is_tup, is_str, is_int, is_bool, ty_str, m_zfill, m_find, on_zfill, on_join, on_find, on_append, on_pop, bt2, DL.sl_str, pd_no, pd_int, true_and, b_mul, b_fdiv, b_addS, b_addT, if_true, if_false, Tg.slots, wipeD])
  refine long_ok (most := 6) hd1 (by decide) (by decide) (by omega) fun z τ2 hz hd2 he2 => ?_
  refine ⟨by show 2 ≤ LIM; decide, fun p hp => ?_⟩
  have hpa := hd2.ne hp
  refine dr_ok (hd2.put hp) (by decide) (by decide) (by omega) fun c τ3 c0 c1 hd3 he3 => ?_
  have hl3 : τ3 p = some (.lst [.int (d - 10), .int z]) := he3 _ _ hpa put_same
  have hk : Kp a τ0 τ3 := ((e0.trans he1).trans he2).put' hp |>.trans he3
  have hc : c = 0 ∨ c = 1 := by omega
  rcases hc with rfl | rfl
  · rw [i_lst hl3 at20]
    exact kq _ _ (Gd.int (Nat.lt_of_lt_of_le (show (d - 10).natAbs < 10 ^ 3 by omega) (Nat.pow_le_pow_right (by decide) (by decide)))) (hd3.mono (by omega)) hk
  · rw [i_lst hl3 at21]
    exact kq _ _ (Gd.int hz) (hd3.mono (by omega)) hk
theorem leafS {k : Nat} (h : Dr τ a b m) (e0 : Kp a τ0 τ) (hm : m + 45 < 2 ^ 1000) (kq : ∀ d τ', Gd k d → Dr τ' a b (m + 45) → Kp a τ0 τ' → K.rt d τ') :
    wpSs P.cls (callD P (n + 3)) P.xcs (.cons (.ret (.idx (.lst (.cons (.cst (.str [])) (.cons (.cst (.str [97, 32, 98])) (.cons (.cst (.str [40, 49, 44, 32, 50, 41])) (.cons (.cst (.str [48])) (.cons (.cst (.str [120, 35, 121, 44, 32, 122])) (.cons (.cst (.str [45])) .nil))))))) (.call 7 (.cons (.var 0) (.cons (.cst (.int (6))) .nil))))) .nil) [some (.ref a), x, y, u] τ K := by
  ((try dsimp only); rw [ss_cons]; simp only [ss_nil, wpS, wpE, wpEs, ofV, ofT, b_addI, b_sub, b_mod, b_pow1018, c_lt, c_le, c_gt, c_ge, c_eqI, c_neI, c_eqS, c_neS, t_bl, t_int, l_tup, f_int, f_abs, bt1, List.getElem?_cons_zero, List.getElem?_cons_succ, List.set_cons_zero, List.set_cons_succ, var_ex, Nat.reduceAdd, put_put, bl_ex, f_divmod, f_str, f_intB, f_intS, f_ord, f_listR, is_tup, is_str, is_int, is_bool, ty_str, m_zfill, m_find, on_zfill, on_join, on_find, on_append, on_pop, bt2, DL.sl_str, pd_no, pd_int, true_and, b_mul, b_fdiv, b_addS, b_addT, if_true, if_false, Tg.slots, wipeD])
  refine ⟨by show 6 ≤ LIM; decide, fun p hp => ?_⟩
  have hpa := h.ne hp
  refine dr_ok (h.put hp) (by decide) (by decide) (by omega) fun c τ3 c0 c1 hd3 he3 => ?_
  have hl3 : τ3 p = some (.lst six) := he3 _ _ hpa put_same
  obtain ⟨d, hat, hmem⟩ := at_mem (xs := six) c0 c1
  rw [i_lst hl3 hat]
  exact kq _ _ (six_gd hmem) (hd3.mono (by omega)) ((e0.put' hp).trans he3)
end
def b_sd2 : Ss :=
  .cons (.iff (.cmp .lt (.var 2) (.cst (.int (4)))) (.cons (.ret (.idx (.lst (.cons (.cst (.str [])) (.cons (.cst (.str [97, 32, 98])) (.cons (.cst (.str [40, 49, 44, 32, 50, 41])) (.cons (.cst (.str [48])) (.cons (.cst (.str [120, 35, 121, 44, 32, 122])) (.cons (.cst (.str [45])) .nil))))))) (.call 7 (.cons (.var 0) (.cons (.cst (.int (6))) .nil))))) .nil) .nil) <|
  .cons (.ret (.blt .tuple (.cons (.comp (.call 13 (.cons (.var 0) (.cons (.bin .sub (.var 1) (.cst (.int (1)))) .nil))) (.name 3) .range1 (.cons (.call 7 (.cons (.var 0) (.cons (.cst (.int (4))) .nil))) .nil) (.cst (.bl true))) .nil))) <| .nil
theorem sd_ok : ∀ (k n m : Nat) (a b : Addr) (τ : Sto) (Q : QD) (X : XD), k ≤ 4 → Dr τ a b m → m + 60 * 4 ^ k < 2 ^ 1000 →
    (∀ d τ', Gd k d → Dr τ' a b (m + 60 * 4 ^ k) → Kp a τ τ' → Q d τ') → callD P (k + n + 4) 13 [.ref a, .int k] τ Q X := by
  intro k
  induction k with
  | zero =>
    intro n m a b τ Q X hk4 h hm kq
    refine call_of (i := i__law_some_datum) rfl rfl rfl ?_
    rw [show 0 + n + 4 = (n + 3) + 1 by omega, runD_succ]
    show wpSs _ _ _ b__law_some_datum [some (.ref a), some (.int 0), none, none] _ _
    unfold b__law_some_datum
    ((try dsimp only); rw [ss_cons]; simp only [ss_nil, wpS, wpE, wpEs, ofV, ofT, b_addI, b_sub, b_mod, b_pow1018, c_lt, c_le, c_gt, c_ge, c_eqI, c_neI, c_eqS, c_neS, t_bl, t_int, l_tup, f_int, f_abs, bt1, List.getElem?_cons_zero, List.getElem?_cons_succ, List.set_cons_zero, List.set_cons_succ, var_ex, Nat.reduceAdd, put_put, bl_ex, f_divmod, f_str, f_intB, f_intS, f_ord, f_listR, is_tup, is_str, is_int, is_bool, ty_str, m_zfill, m_find, on_zfill, on_join, on_find, on_append, on_pop, bt2, DL.sl_str, pd_no, pd_int, true_and, b_mul, b_fdiv, b_addS, b_addT, if_true, if_false, Tg.slots, wipeD])
    have hm : m + 60 < 2 ^ 1000 := by simpa using hm
    refine dr_ok h (by decide) (by decide) (by omega) fun pick τ1 p0 p1 hd1 he1 => ?_
    have he1 : Kp a τ τ1 := he1
    have kq' : ∀ d τ', Gd 0 d → Dr τ' a b (m + 1 + 45) → Kp a τ τ' → Q d τ' := fun d τ' g hd hk => kq d τ' g (hd.mono (by simp)) hk
    (try simp only [ss_nil, wpS, wpE, wpEs, ofV, ofT, b_addI, b_sub, b_mod, b_pow1018, c_lt, c_le, c_gt, c_ge, c_eqI, c_neI, c_eqS, c_neS, t_bl, t_int, l_tup, f_int, f_abs, bt1, List.getElem?_cons_zero, List.getElem?_cons_succ, List.set_cons_zero, List.set_cons_succ, var_ex, Nat.reduceAdd, put_put, bl_ex, f_divmod, f_str, f_intB, f_intS, f_ord, f_listR, is_tup, is_str, is_int, is_bool, ty_str, m_zfill, m_find, on_zfill, on_join, on_find, on_append, on_pop, bt2, DL.sl_str, pd_no, pd_int, true_and, b_mul, b_fdiv, b_addS, b_addT, if_true, if_false, Tg.slots, wipeD])
    ((try dsimp only); rw [ss_cons]; simp only [ss_nil, wpS, wpE, wpEs, ofV, ofT, b_addI, b_sub, b_mod, b_pow1018, c_lt, c_le, c_gt, c_ge, c_eqI, c_neI, c_eqS, c_neS, t_bl, t_int, l_tup, f_int, f_abs, bt1, List.getElem?_cons_zero, List.getElem?_cons_succ, List.set_cons_zero, List.set_cons_succ, var_ex, Nat.reduceAdd, put_put, bl_ex, f_divmod, f_str, f_intB, f_intS, f_ord, f_listR, is_tup, is_str, is_int, is_bool, ty_str, m_zfill, m_find, on_zfill, on_join, on_find, on_append, on_pop, bt2, DL.sl_str, pd_no, pd_int, true_and, b_mul, b_fdiv, b_addS, b_addT, if_true, if_false, Tg.slots, wipeD])
    by_cases h2 : pick < 2
    · rw [decide_eq_true h2]
      (first | rw [if_pos rfl] | rw [if_pos True.intro] | rw [if_pos (by decide)] | skip)
      exact leafI hd1 he1 (by omega) kq'
    · rw [decide_eq_false h2]
      (first | rw [if_neg (by decide)] | rw [if_neg not_false] | skip)
      have e : ((0 : Int) == 0) = true := rfl
      (try rw [e])
      (first | rw [if_pos rfl] | rw [if_pos True.intro] | rw [if_pos (by decide)] | skip)
      by_cases h3 : 3 < pick
      · rw [decide_eq_true h3]
        (first | rw [if_pos rfl] | rw [if_pos True.intro] | rw [if_pos (by decide)] | skip)
        exact leafI hd1 he1 (by omega) kq'
      · rw [decide_eq_false h3]
        (first | rw [if_neg (by decide)] | rw [if_neg not_false] | skip)
        ((try dsimp only); rw [ss_cons]; simp only [ss_nil, wpS, wpE, wpEs, ofV, ofT, b_addI, b_sub, b_mod, b_pow1018, c_lt, c_le, c_gt, c_ge, c_eqI, c_neI, c_eqS, c_neS, t_bl, t_int, l_tup, f_int, f_abs, bt1, List.getElem?_cons_zero, List.getElem?_cons_succ, List.set_cons_zero, List.set_cons_succ, var_ex, Nat.reduceAdd, put_put, bl_ex, f_divmod, f_str, f_intB, f_intS, f_ord, f_listR, is_tup, is_str, is_int, is_bool, ty_str, m_zfill, m_find, on_zfill, on_join, on_find, on_append, on_pop, bt2, DL.sl_str, pd_no, pd_int, true_and, b_mul, b_fdiv, b_addS, b_addT, if_true, if_false, Tg.slots, wipeD])
        rw [decide_eq_true (by omega)]
        (first | rw [if_pos rfl] | rw [if_pos True.intro] | rw [if_pos (by decide)] | skip)
        exact leafS hd1 he1 (by omega) kq'
  | succ k ih =>
    intro n m a b τ Q X hk4 h hm kq
    refine call_of (i := i__law_some_datum) rfl rfl rfl ?_
    rw [show k + 1 + n + 4 = (k + n + 4) + 1 by omega, runD_succ]
    show wpSs _ _ _ b__law_some_datum [some (.ref a), some (.int ((k + 1 : Nat) : Int)), none, none] _ _
    unfold b__law_some_datum
    have h4 : 1 ≤ 4 ^ k := Nat.pow_pos (by decide)
    have h5 : 4 ^ (k + 1) = 4 * 4 ^ k := by rw [Nat.pow_succ, Nat.mul_comm]
    rw [h5] at hm kq
    generalize hc : 4 ^ k = c at *
    ((try dsimp only); rw [ss_cons]; simp only [ss_nil, wpS, wpE, wpEs, ofV, ofT, b_addI, b_sub, b_mod, b_pow1018, c_lt, c_le, c_gt, c_ge, c_eqI, c_neI, c_eqS, c_neS, t_bl, t_int, l_tup, f_int, f_abs, bt1, List.getElem?_cons_zero, List.getElem?_cons_succ, List.set_cons_zero, List.set_cons_succ, var_ex, Nat.reduceAdd, put_put, bl_ex, f_divmod, f_str, f_intB, f_intS, f_ord, f_listR, is_tup, is_str, is_int, is_bool, ty_str, m_zfill, m_find, on_zfill, on_join, on_find, on_append, on_pop, bt2, DL.sl_str, pd_no, pd_int, true_and, b_mul, b_fdiv, b_addS, b_addT, if_true, if_false, Tg.slots, wipeD])
    refine dr_ok h (by decide) (by decide) (by omega) fun pick τ1 p0 p1 hd1 he1 => ?_
    have he1 : Kp a τ τ1 := he1
    have kq' : ∀ d τ', Gd (k + 1) d → Dr τ' a b (m + 1 + 45) → Kp a τ τ' → Q d τ' := fun d τ' g hd hk => kq d τ' g (hd.mono (by omega)) hk
    (try simp only [ss_nil, wpS, wpE, wpEs, ofV, ofT, b_addI, b_sub, b_mod, b_pow1018, c_lt, c_le, c_gt, c_ge, c_eqI, c_neI, c_eqS, c_neS, t_bl, t_int, l_tup, f_int, f_abs, bt1, List.getElem?_cons_zero, List.getElem?_cons_succ, List.set_cons_zero, List.set_cons_succ, var_ex, Nat.reduceAdd, put_put, bl_ex, f_divmod, f_str, f_intB, f_intS, f_ord, f_listR, is_tup, is_str, is_int, is_bool, ty_str, m_zfill, m_find, on_zfill, on_join, on_find, on_append, on_pop, bt2, DL.sl_str, pd_no, pd_int, true_and, b_mul, b_fdiv, b_addS, b_addT, if_true, if_false, Tg.slots, wipeD])
    ((try dsimp only); rw [ss_cons]; simp only [ss_nil, wpS, wpE, wpEs, ofV, ofT, b_addI, b_sub, b_mod, b_pow1018, c_lt, c_le, c_gt, c_ge, c_eqI, c_neI, c_eqS, c_neS, t_bl, t_int, l_tup, f_int, f_abs, bt1, List.getElem?_cons_zero, List.getElem?_cons_succ, List.set_cons_zero, List.set_cons_succ, var_ex, Nat.reduceAdd, put_put, bl_ex, f_divmod, f_str, f_intB, f_intS, f_ord, f_listR, is_tup, is_str, is_int, is_bool, ty_str, m_zfill, m_find, on_zfill, on_join, on_find, on_append, on_pop, bt2, DL.sl_str, pd_no, pd_int, true_and, b_mul, b_fdiv, b_addS, b_addT, if_true, if_false, Tg.slots, wipeD])
    by_cases h2 : pick < 2
    · rw [decide_eq_true h2]
      (first | rw [if_pos rfl] | rw [if_pos True.intro] | rw [if_pos (by decide)] | skip)
      exact leafI (n := k + n + 1) hd1 he1 (by omega) kq'
    · rw [decide_eq_false h2]
      (first | rw [if_neg (by decide)] | rw [if_neg not_false] | skip)
      have e : (((k + 1 : Nat) : Int) == 0) = false := by rw [beq_eq_false_iff_ne]; omega
      rw [e]
      (first | rw [if_neg (by decide)] | rw [if_neg not_false] | skip)
      (first | rw [if_neg (by decide)] | rw [if_neg not_false] | skip)
      ((try dsimp only); rw [ss_cons]; simp only [ss_nil, wpS, wpE, wpEs, ofV, ofT, b_addI, b_sub, b_mod, b_pow1018, c_lt, c_le, c_gt, c_ge, c_eqI, c_neI, c_eqS, c_neS, t_bl, t_int, l_tup, f_int, f_abs, bt1, List.getElem?_cons_zero, List.getElem?_cons_succ, List.set_cons_zero, List.set_cons_succ, var_ex, Nat.reduceAdd, put_put, bl_ex, f_divmod, f_str, f_intB, f_intS, f_ord, f_listR, is_tup, is_str, is_int, is_bool, ty_str, m_zfill, m_find, on_zfill, on_join, on_find, on_append, on_pop, bt2, DL.sl_str, pd_no, pd_int, true_and, b_mul, b_fdiv, b_addS, b_addT, if_true, if_false, Tg.slots, wipeD])
      by_cases h3 : pick < 4
      · rw [decide_eq_true h3]
        (first | rw [if_pos rfl] | rw [if_pos True.intro] | rw [if_pos (by decide)] | skip)
        exact leafS (n := k + n + 1) hd1 he1 (by omega) kq'
      · rw [decide_eq_false h3]
        (first | rw [if_neg (by decide)] | rw [if_neg not_false] | skip)
        ((try dsimp only); rw [ss_cons]; simp only [ss_nil, wpS, wpE, wpEs, ofV, ofT, b_addI, b_sub, b_mod, b_pow1018, c_lt, c_le, c_gt, c_ge, c_eqI, c_neI, c_eqS, c_neS, t_bl, t_int, l_tup, f_int, f_abs, bt1, List.getElem?_cons_zero, List.getElem?_cons_succ, List.set_cons_zero, List.set_cons_succ, var_ex, Nat.reduceAdd, put_put, bl_ex, f_divmod, f_str, f_intB, f_intS, f_ord, f_listR, is_tup, is_str, is_int, is_bool, ty_str, m_zfill, m_find, on_zfill, on_join, on_find, on_append, on_pop, bt2, DL.sl_str, pd_no, pd_int, true_and, b_mul, b_fdiv, b_addS, b_addT, if_true, if_false, Tg.slots, wipeD])
        refine dr_ok hd1 (by decide) (by decide) (by omega) fun q τ2 q0 q1 hd2 he2 => ?_
        have he2 : Kp a τ τ2 := he1.trans he2
        rw [it_r1]
        refine ⟨by omega, fun p hp => ?_⟩
        have hpa := hd2.ne hp
        have hpb := hd2.neb hp
        refine comp_go (fun ds acc τ' => ds.length + acc.length ≤ 3 ∧ Dr τ' a b (m + 2 + 60 * c * acc.length) ∧ Kp a τ τ' ∧ τ' p = some (.lst acc) ∧ (∀ d ∈ acc, Gd k d) ∧ τ p = none) ?_ ?_ _ _ _ ⟨?_, ?_, ?_, put_same, ?_, ?_⟩
        · rintro d ds acc τ3 W ⟨hl, hd3, he3, hp3, hg, hpn⟩ _ hW
          rw [List.length_cons] at hl
          refine ⟨True.intro, ?_⟩
          (try simp only [ss_nil, wpS, wpE, wpEs, ofV, ofT, b_addI, b_sub, b_mod, b_pow1018, c_lt, c_le, c_gt, c_ge, c_eqI, c_neI, c_eqS, c_neS, t_bl, t_int, l_tup, f_int, f_abs, bt1, List.getElem?_cons_zero, List.getElem?_cons_succ, List.set_cons_zero, List.set_cons_succ, var_ex, Nat.reduceAdd, put_put, bl_ex, f_divmod, f_str, f_intB, f_intS, f_ord, f_listR, is_tup, is_str, is_int, is_bool, ty_str, m_zfill, m_find, on_zfill, on_join, on_find, on_append, on_pop, bt2, DL.sl_str, pd_no, pd_int, true_and, b_mul, b_fdiv, b_addS, b_addT, if_true, if_false, Tg.slots, wipeD])
          have e1 : ((k + 1 : Nat) : Int) - 1 = (k : Int) := by omega
          rw [e1]
          have hcl : 60 * c * acc.length ≤ 60 * c * 2 := Nat.mul_le_mul_left _ (by omega)
          refine ih n _ a b τ3 _ _ (by omega) hd3 (by omega) fun y τ4 gy hd4 he4 => ?_
          have hp4 : τ4 p = some (.lst acc) := he4 _ _ hpa hp3
          refine hW y τ4 hp4 (by unfold LIM; omega) ⟨by rw [List.length_append]; simp only [List.length_cons, List.length_nil]; omega, ?_, (he3.trans he4).put hpn, put_same, ?_, hpn⟩
          · have : Dr τ4 a b (m + 2 + 60 * c * (acc ++ [y]).length) := hd4.mono (by
              rw [List.length_append]
              simp only [List.length_cons, List.length_nil]
              rw [Nat.mul_add]
              omega)
            exact this.at hpa hpb
          · intro d' hd'
            rcases List.mem_append.mp hd' with h | h
            · exact hg d' h
            · simp at h; subst h; exact gy
        · rintro acc τ3 ⟨hl, hd3, he3, hp3, hg, hpn⟩
          refine ⟨True.intro, ?_⟩
          rw [f_tupleL hp3]
          have hcl : 60 * c * acc.length ≤ 60 * c * 3 := Nat.mul_le_mul_left _ (by simpa using hl)
          exact kq _ _ (Gd.tup hg (by simpa using hl)) (hd3.mono (by omega)) he3
        · simp only [List.length_map, List.length_range, List.length_nil]; omega
        · have := hd2.put (o := .lst []) hp
          simpa using this
        · exact he2.put' hp
        · intro d hd; cases hd
        · exact he2.none hp hpa
end K00
set_option maxHeartbeats 1000000
/-! Pf00: read_plain -/
namespace K00
open PySem DL
theorem raiseB {s : List Nat} {k : Xc → Prop} : wpRaise P.xcs 1 [.str s] k = k ⟨1, []⟩ := rs_1 (xi := ⟨"BadText", [1, 0], none⟩) rfl rfl
theorem ltL1 (c e : Nat) : ltL [c] [e] = decide (c < e) := by
  unfold ltL
  by_cases h : c < e
  · rw [decide_eq_true h, decide_eq_true]
    exact List.Lex.rel h
  · rw [decide_eq_false h, decide_eq_false]
    intro q
    cases q with
    | rel q => exact h q
    | cons q => cases q
section
variable {n : Nat} {τ : Sto} {Q : QD} {X : XD} {B : Bool → Prop}
theorem c_ltS {c e : Nat} : wpCmp .lt (.str [c]) (.str [e]) τ B = B (decide (c < e)) := by rw [← ltL1]; rfl
theorem c_gtS {c e : Nat} : wpCmp .gt (.str [c]) (.str [e]) τ B = B (decide (e < c)) := by rw [← ltL1]; rfl
def plainB (c : Nat) : Bool := decide (32 ≤ c) && decide (c ≤ 126) && !(c == 39) && !(c == 37)
theorem pt_ok {s : List Nat} (k : Q (.bl (s.all plainB)) τ) : callD P (n + 1) 3 [.str s] τ Q X := by
  refine call_of (i := i_plain_text) rfl rfl rfl ?_
  rw [runD_succ]
  show wpSs _ _ _ b_plain_text [some (.str s), none] _ _
  unfold b_plain_text
  ((try dsimp only); rw [ss_cons]; simp only [ss_nil, wpS, wpE, wpEs, ofV, ofT, b_addI, b_sub, b_mod, b_pow1018, c_lt, c_le, c_gt, c_ge, c_eqI, c_neI, c_eqS, c_neS, t_bl, t_int, l_tup, f_int, f_abs, bt1, List.getElem?_cons_zero, List.getElem?_cons_succ, List.set_cons_zero, List.set_cons_succ, var_ex, Nat.reduceAdd, put_put, bl_ex, f_divmod, f_str, f_intB, f_intS, f_ord, f_listR, is_tup, is_str, is_int, is_bool, ty_str, m_zfill, m_find, on_zfill, on_join, on_find, on_append, on_pop, bt2, DL.sl_str, pd_no, pd_int, true_and, b_mul, b_fdiv, b_addS, b_addT, if_true, if_false, Tg.slots, wipeD, it_str])
  refine for_go (fun ds ρ τ' => ∃ (r : List Nat) (u : Option D), ρ = [some (.str s), u] ∧ τ' = τ ∧ ds = r.map (fun c => D.str [c]) ∧ s.all plainB = r.all plainB) ?_ ?_ _ _ _ ⟨s, none, rfl, rfl, rfl, rfl⟩
  · rintro d ds ρ τ' W ⟨r, u, rfl, rfl, hds, hr⟩ hW
    cases r with
    | nil => cases hds
    | cons c r =>
      injection hds with e1 e2
      subst e1 e2
      rw [List.all_cons] at hr
      refine ⟨True.intro, ?_⟩
      (try simp only [ss_nil, wpS, wpE, wpEs, ofV, ofT, b_addI, b_sub, b_mod, b_pow1018, c_lt, c_le, c_gt, c_ge, c_eqI, c_neI, c_eqS, c_neS, t_bl, t_int, l_tup, f_int, f_abs, bt1, List.getElem?_cons_zero, List.getElem?_cons_succ, List.set_cons_zero, List.set_cons_succ, var_ex, Nat.reduceAdd, put_put, bl_ex, f_divmod, f_str, f_intB, f_intS, f_ord, f_listR, is_tup, is_str, is_int, is_bool, ty_str, m_zfill, m_find, on_zfill, on_join, on_find, on_append, on_pop, bt2, DL.sl_str, pd_no, pd_int, true_and, b_mul, b_fdiv, b_addS, b_addT, if_true, if_false, Tg.slots, wipeD])
      ((try dsimp only); rw [ss_cons]; simp only [ss_nil, wpS, wpE, wpEs, ofV, ofT, b_addI, b_sub, b_mod, b_pow1018, c_lt, c_le, c_gt, c_ge, c_eqI, c_neI, c_eqS, c_neS, t_bl, t_int, l_tup, f_int, f_abs, bt1, List.getElem?_cons_zero, List.getElem?_cons_succ, List.set_cons_zero, List.set_cons_succ, var_ex, Nat.reduceAdd, put_put, bl_ex, f_divmod, f_str, f_intB, f_intS, f_ord, f_listR, is_tup, is_str, is_int, is_bool, ty_str, m_zfill, m_find, on_zfill, on_join, on_find, on_append, on_pop, bt2, DL.sl_str, pd_no, pd_int, true_and, b_mul, b_fdiv, b_addS, b_addT, if_true, if_false, Tg.slots, wipeD, c_ltS, c_gtS])
      have e3 : ([c] == [39]) = (c == 39) := by
        by_cases h : c = 39
        · subst h; rfl
        · rw [beq_eq_false_iff_ne.mpr h, beq_eq_false_iff_ne]; intro z; cases z; exact h rfl
      have e4 : ((c : Int) == 37) = (c == 37) := by
        by_cases h : c = 37
        · subst h; rfl
        · rw [beq_eq_false_iff_ne.mpr h, beq_eq_false_iff_ne]; intro z; omega
      rw [e3, e4]
      have go : plainB c = false → wpSs P.cls (callD P n) P.xcs (.cons (.ret (.cst (.bl false))) .nil) [some (.str s), some (.str [c])] τ' { nx := fun ρ' τ' => wpSs P.cls (callD P n) P.xcs .nil ρ' τ' { nx := W, rt := Q, bk := fun _ _ => False, ct := W, ex := fun x _ τ' => X x τ' }, rt := Q, bk := fun _ _ => False, ct := W, ex := fun x _ τ' => X x τ' } := by
        intro hp
        ((try dsimp only); rw [ss_cons]; simp only [ss_nil, wpS, wpE, wpEs, ofV, ofT, b_addI, b_sub, b_mod, b_pow1018, c_lt, c_le, c_gt, c_ge, c_eqI, c_neI, c_eqS, c_neS, t_bl, t_int, l_tup, f_int, f_abs, bt1, List.getElem?_cons_zero, List.getElem?_cons_succ, List.set_cons_zero, List.set_cons_succ, var_ex, Nat.reduceAdd, put_put, bl_ex, f_divmod, f_str, f_intB, f_intS, f_ord, f_listR, is_tup, is_str, is_int, is_bool, ty_str, m_zfill, m_find, on_zfill, on_join, on_find, on_append, on_pop, bt2, DL.sl_str, pd_no, pd_int, true_and, b_mul, b_fdiv, b_addS, b_addT, if_true, if_false, Tg.slots, wipeD])
        rw [hr, hp] at k
        exact k
      by_cases h1 : c < 32
      · rw [decide_eq_true h1]
        (first | rw [if_pos rfl] | rw [if_pos True.intro] | rw [if_pos (by decide)] | skip)
        exact go (by unfold plainB; rw [decide_eq_false (by omega)]; rfl)
      · rw [decide_eq_false h1]
        (first | rw [if_neg (by decide)] | rw [if_neg not_false] | skip)
        by_cases h2 : 126 < c
        · rw [decide_eq_true h2]
          (first | rw [if_pos rfl] | rw [if_pos True.intro] | rw [if_pos (by decide)] | skip)
          exact go (by unfold plainB; rw [decide_eq_false (show ¬ c ≤ 126 by omega)]; simp)
        · rw [decide_eq_false h2]
          (first | rw [if_neg (by decide)] | rw [if_neg not_false] | skip)
          cases h3 : (c == 39) with
          | true =>
            (first | rw [if_pos rfl] | rw [if_pos True.intro] | rw [if_pos (by decide)] | skip)
            exact go (by unfold plainB; rw [h3]; simp)
          | false =>
            (first | rw [if_neg (by decide)] | rw [if_neg not_false] | skip)
            cases h4 : (c == 37) with
            | true =>
              (first | rw [if_pos rfl] | rw [if_pos True.intro] | rw [if_pos (by decide)] | skip)
              exact go (by unfold plainB; rw [h4]; simp)
            | false =>
              (first | rw [if_neg (by decide)] | rw [if_neg not_false] | skip)
              refine hW _ _ ⟨r, _, rfl, rfl, rfl, ?_⟩
              rw [hr]
              have : plainB c = true := by unfold plainB; rw [h3, h4, decide_eq_true (show 32 ≤ c by omega), decide_eq_true (show c ≤ 126 by omega)]; rfl
              rw [this]; rfl
  · rintro ρ τ' ⟨r, u, rfl, rfl, hds, hr⟩
    cases r with
    | cons _ _ => cases hds
    | nil =>
      refine ⟨True.intro, ?_⟩
      ((try dsimp only); rw [ss_cons]; simp only [ss_nil, wpS, wpE, wpEs, ofV, ofT, b_addI, b_sub, b_mod, b_pow1018, c_lt, c_le, c_gt, c_ge, c_eqI, c_neI, c_eqS, c_neS, t_bl, t_int, l_tup, f_int, f_abs, bt1, List.getElem?_cons_zero, List.getElem?_cons_succ, List.set_cons_zero, List.set_cons_succ, var_ex, Nat.reduceAdd, put_put, bl_ex, f_divmod, f_str, f_intB, f_intS, f_ord, f_listR, is_tup, is_str, is_int, is_bool, ty_str, m_zfill, m_find, on_zfill, on_join, on_find, on_append, on_pop, bt2, DL.sl_str, pd_no, pd_int, true_and, b_mul, b_fdiv, b_addS, b_addT, if_true, if_false, Tg.slots, wipeD])
      rw [hr] at k
      exact k
def signB (c : Nat) : Bool := ([45, 48, 49, 50, 51, 52, 53, 54, 55, 56, 57] : List Nat).contains c
/-- what read_plain gives -/
def rp (t : List Nat) (s : Nat) : Option (D × Nat) :=
  match t.drop s with
  | [] => none
  | c :: r => if c = 39 then (if (r.takeWhile (fun c => !(c == 39))).length < r.length ∧ (r.takeWhile (fun c => !(c == 39))).all plainB = true then some (.str (r.takeWhile (fun c => !(c == 39))), s + 1 + (r.takeWhile (fun c => !(c == 39))).length + 1) else none)
    else if intBad ((c :: r).takeWhile signB) = true then none else some (.int (intVal ((c :: r).takeWhile signB)), s + ((c :: r).takeWhile signB).length)
theorem findL_eq : ∀ (r : List Nat) (k : Nat), findL 39 k r = if (r.takeWhile (fun c => !(c == 39))).length < r.length then ((k + (r.takeWhile (fun c => !(c == 39))).length : Nat) : Int) else -1
  | [], k => rfl
  | c :: r, k => by
    show (if c = 39 then (k : Int) else findL 39 (k + 1) r) = _
    by_cases h : c = 39
    · subst h
      rw [if_pos rfl, List.takeWhile_cons]
      simp
    · rw [if_neg h, findL_eq r (k + 1), List.takeWhile_cons]
      have e : (!(c == 39)) = true := by simp [h]
      rw [e]
      simp only [if_true, List.length_cons, Nat.add_lt_add_iff_right]
      split
      · congr 1; omega
      · rfl
theorem take_tw {α : Type} (p : α → Bool) : ∀ (r : List α), r.take (r.takeWhile p).length = r.takeWhile p
  | [] => rfl
  | c :: r => by
    rw [List.takeWhile_cons]
    cases p c with
    | false => rfl
    | true =>
      show c :: r.take (r.takeWhile p).length = _
      rw [take_tw p r]; rfl
theorem tw_le {α : Type} (p : α → Bool) (r : List α) : (r.takeWhile p).length ≤ r.length := (List.takeWhile_sublist p).length_le
/-- the walk over the signs -/
structure RsI (t : List Nat) (s : Nat) (τ0 : Sto) (m : Nat) (ρ : DL.Loc) (τ : Sto) : Prop where
  ex : ∃ e : Nat, ρ = [some (.str t), some (.int s), some (.int (s + e : Nat))] ∧ τ = τ0 ∧ e + m = ((t.drop s).takeWhile signB).length
theorem tw_get {α : Type} (p : α → Bool) : ∀ (r : List α) (e : Nat), e < (r.takeWhile p).length → ∃ c, r[e]? = some c ∧ p c = true
  | [], _, h => by simp at h
  | c :: r, e, h => by
    rw [List.takeWhile_cons] at h
    cases q : p c with
    | false => rw [q] at h; simp at h
    | true =>
      rw [q] at h
      cases e with
      | zero => exact ⟨c, rfl, q⟩
      | succ e =>
        obtain ⟨d, h1, h2⟩ := tw_get p r e (by simpa using h)
        exact ⟨d, by simpa using h1, h2⟩
theorem tw_end {α : Type} (p : α → Bool) : ∀ (r : List α), (r.takeWhile p).length < r.length → ∃ c, r[(r.takeWhile p).length]? = some c ∧ p c = false
  | [], h => by simp at h
  | c :: r, h => by
    rw [List.takeWhile_cons] at h ⊢
    cases q : p c with
    | false => exact ⟨c, rfl, q⟩
    | true =>
      rw [q] at h
      obtain ⟨d, h1, h2⟩ := tw_end p r (by simpa using h)
      exact ⟨d, by simpa using h1, h2⟩
theorem rp_ok {t : List Nat} {s : Nat} (hs : s < t.length) (ht : t.length ≤ 100000) (kg : ∀ d j, rp t s = some (d, j) → Q (.tup [d, .int (j : Int)]) τ) (kb : rp t s = none → X ⟨1, []⟩ τ) : callD P (n + 2) 4 [.str t, .int s] τ Q X := by
  refine call_of (i := i_read_plain) rfl rfl rfl ?_
  rw [runD_succ]
  show wpSs _ _ _ b_read_plain [some (.str t), some (.int s), none] _ _
  unfold b_read_plain
  obtain ⟨c, r, hd⟩ : ∃ c r, t.drop s = c :: r := ⟨_, _, List.drop_eq_getElem_cons hs⟩
  have hr : t.drop (s + 1) = r := (drop_cons' hd).2.symm
  have hc : t[s]? = some c := (drop_cons' hd).1
  have hrl : r.length + s + 1 = t.length := by rw [← hr, List.length_drop]; omega
  ((try dsimp only); rw [ss_cons]; simp only [ss_nil, wpS, wpE, wpEs, ofV, ofT, b_addI, b_sub, b_mod, b_pow1018, c_lt, c_le, c_gt, c_ge, c_eqI, c_neI, c_eqS, c_neS, t_bl, t_int, l_tup, f_int, f_abs, bt1, List.getElem?_cons_zero, List.getElem?_cons_succ, List.set_cons_zero, List.set_cons_succ, var_ex, Nat.reduceAdd, put_put, bl_ex, f_divmod, f_str, f_intB, f_intS, f_ord, f_listR, is_tup, is_str, is_int, is_bool, ty_str, m_zfill, m_find, on_zfill, on_join, on_find, on_append, on_pop, bt2, DL.sl_str, pd_no, pd_int, true_and, b_mul, b_fdiv, b_addS, b_addT, if_true, if_false, Tg.slots, wipeD, i_strN hc])
  refine ⟨by unfold LIM; omega, ?_⟩
  by_cases h39 : c = 39
  · subst h39
    have e0 : ([39] == ([39] : List Nat)) = true := rfl
    (try rw [e0])
    (first | rw [if_pos rfl] | rw [if_pos True.intro] | rw [if_pos (by decide)] | skip)
    ((try dsimp only); rw [ss_cons]; simp only [ss_nil, wpS, wpE, wpEs, ofV, ofT, b_addI, b_sub, b_mod, b_pow1018, c_lt, c_le, c_gt, c_ge, c_eqI, c_neI, c_eqS, c_neS, t_bl, t_int, l_tup, f_int, f_abs, bt1, List.getElem?_cons_zero, List.getElem?_cons_succ, List.set_cons_zero, List.set_cons_succ, var_ex, Nat.reduceAdd, put_put, bl_ex, f_divmod, f_str, f_intB, f_intS, f_ord, f_listR, is_tup, is_str, is_int, is_bool, ty_str, m_zfill, m_find, on_zfill, on_join, on_find, on_append, on_pop, bt2, DL.sl_str, pd_no, pd_int, true_and, b_mul, b_fdiv, b_addS, b_addT, if_true, if_false, Tg.slots, wipeD])
    have e1 : ((s : Int) + 1) = ((s + 1 : Nat) : Int) := by omega
    rw [e1, Int.toNat_natCast, hr, findL_eq]
    generalize hw : r.takeWhile (fun c => !(c == 39)) = w at *
    have hwl : w.length ≤ r.length := by rw [← hw]; exact tw_le _ _
    have hrp : rp t s = if w.length < r.length ∧ w.all plainB = true then some (.str w, s + 1 + w.length + 1) else none := by
      unfold rp
      rw [hd]
      simp only [if_true, hw]
    refine ⟨by omega, by omega, ?_⟩
    by_cases hlt : w.length < r.length
    · rw [if_pos hlt]
      ((try dsimp only); rw [ss_cons]; simp only [ss_nil, wpS, wpE, wpEs, ofV, ofT, b_addI, b_sub, b_mod, b_pow1018, c_lt, c_le, c_gt, c_ge, c_eqI, c_neI, c_eqS, c_neS, t_bl, t_int, l_tup, f_int, f_abs, bt1, List.getElem?_cons_zero, List.getElem?_cons_succ, List.set_cons_zero, List.set_cons_succ, var_ex, Nat.reduceAdd, put_put, bl_ex, f_divmod, f_str, f_intB, f_intS, f_ord, f_listR, is_tup, is_str, is_int, is_bool, ty_str, m_zfill, m_find, on_zfill, on_join, on_find, on_append, on_pop, bt2, DL.sl_str, pd_no, pd_int, true_and, b_mul, b_fdiv, b_addS, b_addT, if_true, if_false, Tg.slots, wipeD, e1, cut_mid])
      rw [decide_eq_false (by omega)]
      (first | rw [if_neg (by decide)] | rw [if_neg not_false] | skip)
      rw [hr]
      have e2 : s + 1 + w.length - (s + 1) = w.length := by omega
      rw [e2]
      have e3 : r.take w.length = w := by rw [← hw]; exact take_tw _ _
      rw [e3]
      refine ⟨by unfold LIM; omega, ?_⟩
      refine pt_ok ?_
      (try simp only [ss_nil, wpS, wpE, wpEs, ofV, ofT, b_addI, b_sub, b_mod, b_pow1018, c_lt, c_le, c_gt, c_ge, c_eqI, c_neI, c_eqS, c_neS, t_bl, t_int, l_tup, f_int, f_abs, bt1, List.getElem?_cons_zero, List.getElem?_cons_succ, List.set_cons_zero, List.set_cons_succ, var_ex, Nat.reduceAdd, put_put, bl_ex, f_divmod, f_str, f_intB, f_intS, f_ord, f_listR, is_tup, is_str, is_int, is_bool, ty_str, m_zfill, m_find, on_zfill, on_join, on_find, on_append, on_pop, bt2, DL.sl_str, pd_no, pd_int, true_and, b_mul, b_fdiv, b_addS, b_addT, if_true, if_false, Tg.slots, wipeD])
      cases hp : w.all plainB with
      | true =>
        have e4 : (!true) = false := rfl
        (try rw [e4])
        (first | rw [if_neg (by decide)] | rw [if_neg not_false] | skip)
        ((try dsimp only); rw [ss_cons]; simp only [ss_nil, wpS, wpE, wpEs, ofV, ofT, b_addI, b_sub, b_mod, b_pow1018, c_lt, c_le, c_gt, c_ge, c_eqI, c_neI, c_eqS, c_neS, t_bl, t_int, l_tup, f_int, f_abs, bt1, List.getElem?_cons_zero, List.getElem?_cons_succ, List.set_cons_zero, List.set_cons_succ, var_ex, Nat.reduceAdd, put_put, bl_ex, f_divmod, f_str, f_intB, f_intS, f_ord, f_listR, is_tup, is_str, is_int, is_bool, ty_str, m_zfill, m_find, on_zfill, on_join, on_find, on_append, on_pop, bt2, DL.sl_str, pd_no, pd_int, true_and, b_mul, b_fdiv, b_addS, b_addT, if_true, if_false, Tg.slots, wipeD, e1, cut_mid])
        rw [hr, e2, e3]
        refine ⟨by unfold LIM; omega, by show 2 ≤ LIM; decide, ?_⟩
        have e5 : ((s + 1 + w.length : Nat) : Int) + 1 = ((s + 1 + w.length + 1 : Nat) : Int) := by omega
        rw [e5]
        refine kg _ _ ?_
        rw [hrp, if_pos ⟨hlt, hp⟩]
      | false =>
        have e4 : (!false) = true := rfl
        (try rw [e4])
        (first | rw [if_pos rfl] | rw [if_pos True.intro] | rw [if_pos (by decide)] | skip)
        ((try dsimp only); rw [ss_cons]; simp only [ss_nil, wpS, wpE, wpEs, ofV, ofT, b_addI, b_sub, b_mod, b_pow1018, c_lt, c_le, c_gt, c_ge, c_eqI, c_neI, c_eqS, c_neS, t_bl, t_int, l_tup, f_int, f_abs, bt1, List.getElem?_cons_zero, List.getElem?_cons_succ, List.set_cons_zero, List.set_cons_succ, var_ex, Nat.reduceAdd, put_put, bl_ex, f_divmod, f_str, f_intB, f_intS, f_ord, f_listR, is_tup, is_str, is_int, is_bool, ty_str, m_zfill, m_find, on_zfill, on_join, on_find, on_append, on_pop, bt2, DL.sl_str, pd_no, pd_int, true_and, b_mul, b_fdiv, b_addS, b_addT, if_true, if_false, Tg.slots, wipeD, raiseB])
        refine kb ?_
        rw [hrp, if_neg (fun q => by rw [hp] at q; exact absurd q.2 (by decide))]
    · rw [if_neg hlt]
      ((try dsimp only); rw [ss_cons]; simp only [ss_nil, wpS, wpE, wpEs, ofV, ofT, b_addI, b_sub, b_mod, b_pow1018, c_lt, c_le, c_gt, c_ge, c_eqI, c_neI, c_eqS, c_neS, t_bl, t_int, l_tup, f_int, f_abs, bt1, List.getElem?_cons_zero, List.getElem?_cons_succ, List.set_cons_zero, List.set_cons_succ, var_ex, Nat.reduceAdd, put_put, bl_ex, f_divmod, f_str, f_intB, f_intS, f_ord, f_listR, is_tup, is_str, is_int, is_bool, ty_str, m_zfill, m_find, on_zfill, on_join, on_find, on_append, on_pop, bt2, DL.sl_str, pd_no, pd_int, true_and, b_mul, b_fdiv, b_addS, b_addT, if_true, if_false, Tg.slots, wipeD])
      rw [decide_eq_true (by decide)]
      (first | rw [if_pos rfl] | rw [if_pos True.intro] | rw [if_pos (by decide)] | skip)
      ((try dsimp only); rw [ss_cons]; simp only [ss_nil, wpS, wpE, wpEs, ofV, ofT, b_addI, b_sub, b_mod, b_pow1018, c_lt, c_le, c_gt, c_ge, c_eqI, c_neI, c_eqS, c_neS, t_bl, t_int, l_tup, f_int, f_abs, bt1, List.getElem?_cons_zero, List.getElem?_cons_succ, List.set_cons_zero, List.set_cons_succ, var_ex, Nat.reduceAdd, put_put, bl_ex, f_divmod, f_str, f_intB, f_intS, f_ord, f_listR, is_tup, is_str, is_int, is_bool, ty_str, m_zfill, m_find, on_zfill, on_join, on_find, on_append, on_pop, bt2, DL.sl_str, pd_no, pd_int, true_and, b_mul, b_fdiv, b_addS, b_addT, if_true, if_false, Tg.slots, wipeD, raiseB])
      refine kb ?_
      rw [hrp, if_neg (fun q => hlt q.1)]
  · have e0 : ([c] == [39]) = false := by rw [beq_eq_false_iff_ne]; intro z; cases z; exact h39 rfl
    rw [e0]
    (first | rw [if_neg (by decide)] | rw [if_neg not_false] | skip)
    ((try dsimp only); rw [ss_cons]; simp only [ss_nil, wpS, wpE, wpEs, ofV, ofT, b_addI, b_sub, b_mod, b_pow1018, c_lt, c_le, c_gt, c_ge, c_eqI, c_neI, c_eqS, c_neS, t_bl, t_int, l_tup, f_int, f_abs, bt1, List.getElem?_cons_zero, List.getElem?_cons_succ, List.set_cons_zero, List.set_cons_succ, var_ex, Nat.reduceAdd, put_put, bl_ex, f_divmod, f_str, f_intB, f_intS, f_ord, f_listR, is_tup, is_str, is_int, is_bool, ty_str, m_zfill, m_find, on_zfill, on_join, on_find, on_append, on_pop, bt2, DL.sl_str, pd_no, pd_int, true_and, b_mul, b_fdiv, b_addS, b_addT, if_true, if_false, Tg.slots, wipeD])
    rw [ss_cons]
    have hw0 : (t.drop s).takeWhile signB = (c :: r).takeWhile signB := by rw [hd]
    have hwl : ((t.drop s).takeWhile signB).length ≤ (t.drop s).length := tw_le _ _
    rw [List.length_drop] at hwl
    refine whl_ok (RsI t s τ) ?_ ((t.drop s).takeWhile signB).length ⟨0, by simp, rfl, by omega⟩
    rintro m ρ τ' W ⟨e, rfl, rfl, hm⟩ hW
    rcases Nat.eq_zero_or_pos m with hm0 | hm0
    · subst hm0
      have hfin : wpSs P.cls (callD P (n + 1)) P.xcs (.cons (.ret (.tup (.cons (.call 1 (.cons (.slc true true (.var 0) (.var 1) (.var 2)) .nil)) (.cons (.var 2) .nil)))) .nil) [some (.str t), some (.int s), some (.int (s + e : Nat))] τ' { nx := fun _ τ' => Q .non τ', rt := Q, bk := fun _ _ => False, ct := fun _ _ => False, ex := fun x _ τ' => X x τ' } := by
        ((try dsimp only); rw [ss_cons]; simp only [ss_nil, wpS, wpE, wpEs, ofV, ofT, b_addI, b_sub, b_mod, b_pow1018, c_lt, c_le, c_gt, c_ge, c_eqI, c_neI, c_eqS, c_neS, t_bl, t_int, l_tup, f_int, f_abs, bt1, List.getElem?_cons_zero, List.getElem?_cons_succ, List.set_cons_zero, List.set_cons_succ, var_ex, Nat.reduceAdd, put_put, bl_ex, f_divmod, f_str, f_intB, f_intS, f_ord, f_listR, is_tup, is_str, is_int, is_bool, ty_str, m_zfill, m_find, on_zfill, on_join, on_find, on_append, on_pop, bt2, DL.sl_str, pd_no, pd_int, true_and, b_mul, b_fdiv, b_addS, b_addT, if_true, if_false, Tg.slots, wipeD, cut_mid])
        have e2 : s + e - s = ((t.drop s).takeWhile signB).length := by omega
        rw [e2, take_tw]
        have e3 : s + e = s + ((t.drop s).takeWhile signB).length := by omega
        rw [e3]
        have hrp : rp t s = if intBad ((t.drop s).takeWhile signB) = true then none else some (.int (intVal ((t.drop s).takeWhile signB)), s + ((t.drop s).takeWhile signB).length) := by
          unfold rp
          rw [hd]
          simp only [if_neg h39]
        refine ⟨by unfold LIM; omega, ri_ok (by omega) (fun hg => ⟨by show 2 ≤ LIM; decide, kg _ _ ?_⟩) fun hb => kb ?_⟩
        · rw [hrp, if_neg (by rw [hg]; decide)]
        · rw [hrp, if_pos hb]
      (try simp only [ss_nil, wpS, wpE, wpEs, ofV, ofT, b_addI, b_sub, b_mod, b_pow1018, c_lt, c_le, c_gt, c_ge, c_eqI, c_neI, c_eqS, c_neS, t_bl, t_int, l_tup, f_int, f_abs, bt1, List.getElem?_cons_zero, List.getElem?_cons_succ, List.set_cons_zero, List.set_cons_succ, var_ex, Nat.reduceAdd, put_put, bl_ex, f_divmod, f_str, f_intB, f_intS, f_ord, f_listR, is_tup, is_str, is_int, is_bool, ty_str, m_zfill, m_find, on_zfill, on_join, on_find, on_append, on_pop, bt2, DL.sl_str, pd_no, pd_int, true_and, b_mul, b_fdiv, b_addS, b_addT, if_true, if_false, Tg.slots, wipeD, l_str])
      refine ⟨by unfold LIM; omega, ?_⟩
      by_cases hl : s + e < t.length
      · rw [decide_eq_true (by omega)]
        (first | rw [if_pos rfl] | rw [if_pos True.intro] | rw [if_pos (by decide)] | skip)
        obtain ⟨c2, h1, h2⟩ := tw_end signB (t.drop s) (by rw [List.length_drop]; omega)
        rw [List.getElem?_drop] at h1
        have e3 : s + ((t.drop s).takeWhile signB).length = s + e := by omega
        rw [e3] at h1
        rw [i_strN h1, in_str]
        have h2 : ([45, 48, 49, 50, 51, 52, 53, 54, 55, 56, 57] : List Nat).contains c2 = false := h2
        rw [h2]
        refine ⟨by unfold LIM; omega, ?_⟩
        (first | rw [if_neg (by decide)] | rw [if_neg not_false] | skip)
        exact hfin
      · rw [decide_eq_false (by omega)]
        (first | rw [if_neg (by decide)] | rw [if_neg not_false] | skip)
        exact hfin
    · obtain ⟨c2, h1, h2⟩ := tw_get signB (t.drop s) e (by omega)
      rw [List.getElem?_drop] at h1
      (try simp only [ss_nil, wpS, wpE, wpEs, ofV, ofT, b_addI, b_sub, b_mod, b_pow1018, c_lt, c_le, c_gt, c_ge, c_eqI, c_neI, c_eqS, c_neS, t_bl, t_int, l_tup, f_int, f_abs, bt1, List.getElem?_cons_zero, List.getElem?_cons_succ, List.set_cons_zero, List.set_cons_succ, var_ex, Nat.reduceAdd, put_put, bl_ex, f_divmod, f_str, f_intB, f_intS, f_ord, f_listR, is_tup, is_str, is_int, is_bool, ty_str, m_zfill, m_find, on_zfill, on_join, on_find, on_append, on_pop, bt2, DL.sl_str, pd_no, pd_int, true_and, b_mul, b_fdiv, b_addS, b_addT, if_true, if_false, Tg.slots, wipeD, l_str])
      refine ⟨by unfold LIM; omega, ?_⟩
      rw [decide_eq_true (by omega)]
      (first | rw [if_pos rfl] | rw [if_pos True.intro] | rw [if_pos (by decide)] | skip)
      rw [i_strN h1, in_str]
      have h2 : ([45, 48, 49, 50, 51, 52, 53, 54, 55, 56, 57] : List Nat).contains c2 = true := h2
      rw [h2]
      refine ⟨by unfold LIM; omega, ?_⟩
      (first | rw [if_pos rfl] | rw [if_pos True.intro] | rw [if_pos (by decide)] | skip)
      ((try dsimp only); rw [ss_cons]; simp only [ss_nil, wpS, wpE, wpEs, ofV, ofT, b_addI, b_sub, b_mod, b_pow1018, c_lt, c_le, c_gt, c_ge, c_eqI, c_neI, c_eqS, c_neS, t_bl, t_int, l_tup, f_int, f_abs, bt1, List.getElem?_cons_zero, List.getElem?_cons_succ, List.set_cons_zero, List.set_cons_succ, var_ex, Nat.reduceAdd, put_put, bl_ex, f_divmod, f_str, f_intB, f_intS, f_ord, f_listR, is_tup, is_str, is_int, is_bool, ty_str, m_zfill, m_find, on_zfill, on_join, on_find, on_append, on_pop, bt2, DL.sl_str, pd_no, pd_int, true_and, b_mul, b_fdiv, b_addS, b_addT, if_true, if_false, Tg.slots, wipeD])
      refine ⟨_, _, rfl, rfl, hW (m - 1) _ _ (by omega) ⟨e + 1, ?_, rfl, by omega⟩⟩
      have e4 : ((s + e : Nat) : Int) + 1 = ((s + (e + 1) : Nat) : Int) := by omega
      rw [e4]
end
end K00
set_option maxHeartbeats 1000000
/-! Pg00: read_data walked -/
namespace K00
open PySem DL
def c1 (c : Nat) (stk : List (List D)) (fresh : Bool) : Bool := fresh && (c == 40 && decide (stk.length ≤ 40))
def c2 (t : List Nat) (i c : Nat) (stk : List (List D)) (fresh : Bool) : Bool := c == 41 && (decide (1 < stk.length) && (!fresh || t[i - 1]? == some 40))
def c3 (t : List Nat) (i : Nat) (stk : List (List D)) (fresh : Bool) : Bool := !fresh && (decide (1 < stk.length) && (t.drop i).take 2 == [44, 32])
def c4 (c : Nat) (fresh : Bool) : Bool := fresh && !(c == 40)
def topOf : List (List D) → Option D
  | [[d]] => some d
  | _ => none
/-- the reading, as steps -/
inductive RD (t : List Nat) (R : Option D) : Nat → List (List D) → Bool → Prop
  | opn {i c : Nat} {stk : List (List D)} {fresh : Bool} : t[i]? = some c → c1 c stk fresh = true → RD t R (i + 1) ([] :: stk) true → RD t R i stk fresh
  | cls {i c : Nat} {top nxt : List D} {stk : List (List D)} {fresh : Bool} : t[i]? = some c → c1 c (top :: nxt :: stk) fresh = false → c2 t i c (top :: nxt :: stk) fresh = true → RD t R (i + 1) ((nxt ++ [.tup top]) :: stk) false → RD t R i (top :: nxt :: stk) fresh
  | sep {i c : Nat} {stk : List (List D)} {fresh : Bool} : t[i]? = some c → c1 c stk fresh = false → c2 t i c stk fresh = false → c3 t i stk fresh = true → RD t R (i + 2) stk true → RD t R i stk fresh
  | itm {i c j : Nat} {d : D} {top : List D} {stk : List (List D)} {fresh : Bool} : t[i]? = some c → c1 c (top :: stk) fresh = false → c2 t i c (top :: stk) fresh = false → c3 t i (top :: stk) fresh = false → c4 c fresh = true → rp t i = some (d, j) → i < j → j ≤ t.length →
      RD t R j ((top ++ [d]) :: stk) false → RD t R i (top :: stk) fresh
  | ibad {i c : Nat} {stk : List (List D)} {fresh : Bool} : t[i]? = some c → c1 c stk fresh = false → c2 t i c stk fresh = false → c3 t i stk fresh = false → c4 c fresh = true → rp t i = none → R = none → RD t R i stk fresh
  | bad {i c : Nat} {stk : List (List D)} {fresh : Bool} : t[i]? = some c → c1 c stk fresh = false → c2 t i c stk fresh = false → c3 t i stk fresh = false → c4 c fresh = false → R = none → RD t R i stk fresh
  | fin {i : Nat} {stk : List (List D)} {fresh : Bool} : t.length ≤ i → R = topOf stk → RD t R i stk fresh
def El (τ : Sto) : List Addr → List (List D) → Prop
  | [], [] => True
  | a :: as, s :: ss => τ a = some (.lst s) ∧ El τ as ss
  | _, _ => False
theorem El.len {τ : Sto} : ∀ {as : List Addr} {ss : List (List D)}, El τ as ss → as.length = ss.length
  | [], [], _ => rfl
  | _ :: as, _ :: ss, h => congrArg Nat.succ (El.len h.2)
  | [], _ :: _, h => h.elim
  | _ :: _, [], h => h.elim
theorem El.mem {τ : Sto} : ∀ {as : List Addr} {ss : List (List D)} {a : Addr}, El τ as ss → a ∈ as → τ a ≠ none
  | [], [], _, _, h => by cases h
  | b :: as, s :: ss, a, h, hm => by
    rcases List.mem_cons.mp hm with e | e
    · subst e; rw [h.1]; intro z; cases z
    · exact El.mem h.2 e
  | [], _ :: _, _, h, _ => h.elim
  | _ :: _, [], _, h, _ => h.elim
theorem El.put {τ : Sto} {q : Addr} {o : O} : ∀ {as : List Addr} {ss : List (List D)}, El τ as ss → q ∉ as → El (DL.put τ q o) as ss
  | [], [], _, _ => True.intro
  | b :: as, s :: ss, h, hm => ⟨by rw [put_ne (fun e => hm (by rw [e]; exact List.mem_cons_self))]; exact h.1, El.put h.2 fun e => hm (List.mem_cons_of_mem _ e)⟩
  | [], _ :: _, h, _ => h.elim
  | _ :: _, [], h, _ => h.elim
structure RdS (τ0 τ : Sto) (p : Addr) (as : List Addr) (stk : List (List D)) : Prop where
  sp : τ p = some (.lst (as.reverse.map D.ref))
  el : El τ as stk
  np : p ∉ as
  nd : as.Nodup
  fp : τ0 p = none
  fr : ∀ a ∈ as, τ0 a = none
  ext : Ext τ0 τ
theorem nest_and {α : Type} {a b : Bool} {x y : α} : (if a = true then (if b = true then x else y) else y) = if (a && b) = true then x else y := by cases a <;> cases b <;> rfl
theorem nest_or {α : Type} {a b : Bool} {x y : α} : (if a = true then x else (if b = true then x else y)) = if (a || b) = true then x else y := by cases a <;> cases b <;> rfl
theorem one_eq (c e : Nat) : ([c] == [e]) = (c == e) := by
  by_cases h : c = e
  · subst h; simp
  · rw [beq_eq_false_iff_ne.mpr h, beq_eq_false_iff_ne]; intro z; cases z; exact h rfl
theorem at_last {ys : List D} {y : D} : atD (ys ++ [y]) (-1) = some y := by
  unfold atD
  have e : ixD (ys ++ [y]).length (-1) = some ys.length := by
    show L2.ixN _ _ = _
    unfold L2.ixN
    rw [if_neg (by decide), if_pos (by simp only [List.length_append, List.length_cons, List.length_nil]; omega)]
    simp only [List.length_append, List.length_cons, List.length_nil]
    congr 1
    omega
  rw [e]
  show (ys ++ [y])[ys.length]? = _
  simp
section
variable {n : Nat} {τ : Sto} {Q : QD} {X : XD} {t : List Nat} {R : Option D}
theorem i_strL {s : List Nat} {q c : Nat} (hl : s.length ≤ LIM) (h : s[q]? = some c) : wpIdx (.str s) (.int (q : Int)) τ Q = Q (.str [c]) τ := by
  rw [i_strN h]
  exact propext ⟨fun h => h.2, fun h => ⟨hl, h⟩⟩
theorem c2_if {A B : Sto → Prop} {i c : Nat} {stk : List (List D)} {fresh : Bool} (hL : t.length ≤ LIM) (hi : i < t.length) (hs : stk.length ≤ i + 1) :
    (if (c == 41) = true then (if decide (1 < (stk.length : Int)) = true then (if (!fresh) = true then A τ else wpIdx (.str t) (.int ((i : Int) - 1)) τ fun x τ1 => wpCmp .eq x (.str [40]) τ1 fun b => if b = true then A τ1 else B τ1) else B τ) else B τ) = (if c2 t i c stk fresh = true then A τ else B τ) := by
  unfold c2
  cases h1 : (c == 41) with
  | false => rfl
  | true =>
    by_cases h2 : 1 < stk.length
    · rw [decide_eq_true h2, decide_eq_true (show (1 : Int) < stk.length by omega)]
      cases fresh with
      | false => rfl
      | true =>
        obtain ⟨e, he⟩ : ∃ e, t[i - 1]? = some e := ⟨_, List.getElem?_eq_getElem (by omega)⟩
        have e1 : (i : Int) - 1 = ((i - 1 : Nat) : Int) := by omega
        rw [if_pos rfl, if_pos rfl, if_neg (by decide), e1, i_strL hL he, c_eqS, one_eq, he]
        have e2 : ((some e == some 40) : Bool) = (e == 40) := rfl
        rw [e2]
        rfl
    · rw [decide_eq_false h2, decide_eq_false (show ¬ (1 : Int) < stk.length by omega)]
      rfl
theorem c3_if {A B : Prop} {i : Nat} {stk : List (List D)} {fresh : Bool} : (if (!fresh) = true then (if decide (1 < (stk.length : Int)) = true then (if (cutD t (some (i : Int)) (some ((i + 2 : Nat) : Int)) == [44, 32]) = true then A else B) else B) else B) = (if c3 t i stk fresh = true then A else B) := by
  unfold c3
  rw [cut_mid]
  have e : i + 2 - i = 2 := by omega
  rw [e]
  cases fresh with
  | true => rfl
  | false =>
    by_cases h2 : 1 < stk.length
    · rw [decide_eq_true h2, decide_eq_true (show (1 : Int) < stk.length by omega)]; rfl
    · rw [decide_eq_false h2, decide_eq_false (show ¬ (1 : Int) < stk.length by omega)]; rfl
theorem c4_if {A B : Prop} {c : Nat} {fresh : Bool} : (if fresh = true then (if (!(c == 40)) = true then A else B) else B) = (if c4 c fresh = true then A else B) := by
  unfold c4
  cases fresh <;> rfl
theorem RdS.last {τ0 τ : Sto} {p a : Addr} {as : List Addr} {s : List D} {stk : List (List D)} {d : D} (S : RdS τ0 τ p (a :: as) (s :: stk)) : RdS τ0 (put τ a (.lst (s ++ [d]))) p (a :: as) ((s ++ [d]) :: stk) := by
  have hpa : p ≠ a := fun e => S.np (by rw [e]; exact List.mem_cons_self)
  refine ⟨by rw [put_ne hpa]; exact S.sp, ⟨put_same, S.el.2.put (List.nodup_cons.mp S.nd).1⟩, S.np, S.nd, S.fp, S.fr, S.ext.put (S.fr a List.mem_cons_self)⟩
theorem RD.inv {i c : Nat} {stk : List (List D)} {fresh : Bool} (r : RD t R i stk fresh) (hc : t[i]? = some c) :
    if c1 c stk fresh = true then RD t R (i + 1) ([] :: stk) true
    else if c2 t i c stk fresh = true then ∃ top nxt rest, stk = top :: nxt :: rest ∧ RD t R (i + 1) ((nxt ++ [.tup top]) :: rest) false
    else if c3 t i stk fresh = true then RD t R (i + 2) stk true
    else if c4 c fresh = true then (rp t i = none ∧ R = none) ∨ ∃ d j top rest, rp t i = some (d, j) ∧ stk = top :: rest ∧ i < j ∧ j ≤ t.length ∧ RD t R j ((top ++ [d]) :: rest) false
    else R = none := by
  have hi : i < t.length := (List.getElem?_eq_some_iff.mp hc).1
  cases r with
  | opn k0 k1 r => rw [hc] at k0; cases k0; rw [if_pos k1]; exact r
  | cls k0 k1 k2 r => rw [hc] at k0; cases k0; rw [if_neg (by rw [k1]; decide), if_pos k2]; exact ⟨_, _, _, rfl, r⟩
  | sep k0 k1 k2 k3 r => rw [hc] at k0; cases k0; rw [if_neg (by rw [k1]; decide), if_neg (by rw [k2]; decide), if_pos k3]; exact r
  | itm k0 k1 k2 k3 k4 k5 k6 k7 r => rw [hc] at k0; cases k0; rw [if_neg (by rw [k1]; decide), if_neg (by rw [k2]; decide), if_neg (by rw [k3]; decide), if_pos k4]; exact .inr ⟨_, _, _, _, k5, rfl, k6, k7, r⟩
  | ibad k0 k1 k2 k3 k4 k5 k6 => rw [hc] at k0; cases k0; rw [if_neg (by rw [k1]; decide), if_neg (by rw [k2]; decide), if_neg (by rw [k3]; decide), if_pos k4]; exact .inl ⟨k5, k6⟩
  | bad k0 k1 k2 k3 k4 k5 => rw [hc] at k0; cases k0; rw [if_neg (by rw [k1]; decide), if_neg (by rw [k2]; decide), if_neg (by rw [k3]; decide), if_neg (by rw [k4]; decide)]; exact k5
  | fin k => omega
theorem RD.fin_inv {i : Nat} {stk : List (List D)} {fresh : Bool} (r : RD t R i stk fresh) (hi : t.length ≤ i) : R = topOf stk := by
  have k : ∀ {c : Nat}, t[i]? = some c → False := fun hc => by have := (List.getElem?_eq_some_iff.mp hc).1; omega
  cases r with
  | opn k0 => exact (k k0).elim
  | cls k0 => exact (k k0).elim
  | sep k0 => exact (k k0).elim
  | itm k0 => exact (k k0).elim
  | ibad k0 => exact (k k0).elim
  | bad k0 => exact (k k0).elim
  | fin _ h => exact h
structure RdI (t : List Nat) (R : Option D) (p : Addr) (τ0 : Sto) (m : Nat) (ρ : DL.Loc) (τ : Sto) : Prop where
  ex : ∃ (i : Nat) (as : List Addr) (stk : List (List D)) (fresh : Bool) (u v : Option D), ρ = [some (.str t), some (.ref p), some (.int i), some (.bl fresh), u, v] ∧ RdS τ0 τ p as stk ∧ RD t R i stk fresh ∧ i + m = t.length + 2 ∧ stk.length ≤ i + 1 ∧ stk ≠ [] ∧ ∀ s ∈ stk, s.length ≤ i
theorem rd_ok (ht : t.length ≤ 100000) (h : RD t R 0 [[]] true) (kg : ∀ d τ', R = some d → Ext τ τ' → Q d τ') (kb : ∀ τ', R = none → Ext τ τ' → X ⟨1, []⟩ τ') : callD P (n + 3) 5 [.str t] τ Q X := by
  refine call_of (i := i_read_data) rfl rfl rfl ?_
  rw [runD_succ]
  show wpSs _ _ _ b_read_data [some (.str t), none, none, none, none, none] _ _
  unfold b_read_data
  have hL : t.length ≤ LIM := by unfold LIM; omega
  ((try dsimp only); rw [ss_cons]; simp only [ss_nil, wpS, wpE, wpEs, ofV, ofT, b_addI, b_sub, b_mod, b_pow1018, c_lt, c_le, c_gt, c_ge, c_eqI, c_neI, c_eqS, c_neS, t_bl, t_int, l_tup, f_int, f_abs, bt1, List.getElem?_cons_zero, List.getElem?_cons_succ, List.set_cons_zero, List.set_cons_succ, var_ex, Nat.reduceAdd, put_put, bl_ex, f_divmod, f_str, f_intB, f_intS, f_ord, f_listR, is_tup, is_str, is_int, is_bool, ty_str, m_zfill, m_find, on_zfill, on_join, on_find, on_append, on_pop, bt2, DL.sl_str, pd_no, pd_int, true_and, b_mul, b_fdiv, b_addS, b_addT, if_true, if_false, Tg.slots, wipeD])
  refine ⟨by decide, fun a ha => ⟨by show 1 ≤ LIM; decide, fun p hp => ?_⟩⟩
  have hpa : p ≠ a := fun e => by subst e; rw [put_same] at hp; cases hp
  have hp0 : τ p = none := by rw [put_ne hpa] at hp; exact hp
  ((try dsimp only); rw [ss_cons]; simp only [ss_nil, wpS, wpE, wpEs, ofV, ofT, b_addI, b_sub, b_mod, b_pow1018, c_lt, c_le, c_gt, c_ge, c_eqI, c_neI, c_eqS, c_neS, t_bl, t_int, l_tup, f_int, f_abs, bt1, List.getElem?_cons_zero, List.getElem?_cons_succ, List.set_cons_zero, List.set_cons_succ, var_ex, Nat.reduceAdd, put_put, bl_ex, f_divmod, f_str, f_intB, f_intS, f_ord, f_listR, is_tup, is_str, is_int, is_bool, ty_str, m_zfill, m_find, on_zfill, on_join, on_find, on_append, on_pop, bt2, DL.sl_str, pd_no, pd_int, true_and, b_mul, b_fdiv, b_addS, b_addT, if_true, if_false, Tg.slots, wipeD])
  ((try dsimp only); rw [ss_cons]; simp only [ss_nil, wpS, wpE, wpEs, ofV, ofT, b_addI, b_sub, b_mod, b_pow1018, c_lt, c_le, c_gt, c_ge, c_eqI, c_neI, c_eqS, c_neS, t_bl, t_int, l_tup, f_int, f_abs, bt1, List.getElem?_cons_zero, List.getElem?_cons_succ, List.set_cons_zero, List.set_cons_succ, var_ex, Nat.reduceAdd, put_put, bl_ex, f_divmod, f_str, f_intB, f_intS, f_ord, f_listR, is_tup, is_str, is_int, is_bool, ty_str, m_zfill, m_find, on_zfill, on_join, on_find, on_append, on_pop, bt2, DL.sl_str, pd_no, pd_int, true_and, b_mul, b_fdiv, b_addS, b_addT, if_true, if_false, Tg.slots, wipeD])
  rw [ss_cons]
  refine whl_ok (RdI t R p τ) ?_ (t.length + 2) ⟨0, [a], [[]], true, none, none, rfl, ⟨put_same, ⟨?_, True.intro⟩, by simpa using hpa, by simp, hp0, by simpa using ha, ((Ext.refl τ).put ha).put hp0⟩, h, by omega, by decide, by decide, by simp⟩
  · rintro m ρ τ1 W ⟨i, as, stk, fresh, u, v, rfl, S, r, him, hsi, hne, hbd⟩ hW
    have hal := S.el.len
    have hlen : (as.reverse.map D.ref).length = stk.length := by rw [List.length_map, List.length_reverse, hal]
    have hLs := l_lst (Q := Q) S.sp
    by_cases hi : i < t.length
    · obtain ⟨c, hc⟩ : ∃ c, t[i]? = some c := ⟨_, List.getElem?_eq_getElem hi⟩
      have ei2 : ((i : Int) + 2) = ((i + 2 : Nat) : Int) := by omega
      (try simp only [ss_nil, wpS, wpE, wpEs, ofV, ofT, b_addI, b_sub, b_mod, b_pow1018, c_lt, c_le, c_gt, c_ge, c_eqI, c_neI, c_eqS, c_neS, t_bl, t_int, l_tup, f_int, f_abs, bt1, List.getElem?_cons_zero, List.getElem?_cons_succ, List.set_cons_zero, List.set_cons_succ, var_ex, Nat.reduceAdd, put_put, bl_ex, f_divmod, f_str, f_intB, f_intS, f_ord, f_listR, is_tup, is_str, is_int, is_bool, ty_str, m_zfill, m_find, on_zfill, on_join, on_find, on_append, on_pop, bt2, DL.sl_str, pd_no, pd_int, true_and, b_mul, b_fdiv, b_addS, b_addT, if_true, if_false, Tg.slots, wipeD, l_str])
      refine ⟨hL, ?_⟩
      rw [decide_eq_true (by omega)]
      (first | rw [if_pos rfl] | rw [if_pos True.intro] | rw [if_pos (by decide)] | skip)
      ((try dsimp only); rw [ss_cons]; simp only [ss_nil, wpS, wpE, wpEs, ofV, ofT, b_addI, b_sub, b_mod, b_pow1018, c_lt, c_le, c_gt, c_ge, c_eqI, c_neI, c_eqS, c_neS, t_bl, t_int, l_tup, f_int, f_abs, bt1, List.getElem?_cons_zero, List.getElem?_cons_succ, List.set_cons_zero, List.set_cons_succ, var_ex, Nat.reduceAdd, put_put, bl_ex, f_divmod, f_str, f_intB, f_intS, f_ord, f_listR, is_tup, is_str, is_int, is_bool, ty_str, m_zfill, m_find, on_zfill, on_join, on_find, on_append, on_pop, bt2, DL.sl_str, pd_no, pd_int, true_and, b_mul, b_fdiv, b_addS, b_addT, if_true, if_false, Tg.slots, wipeD, i_strL hL hc, l_lst S.sp, hlen, one_eq, Bool.false_eq_true])
      rw [nest_and, nest_and]
      have e1 : ((fresh && c == 40) && decide ((stk.length : Int) ≤ 40)) = c1 c stk fresh := by
        unfold c1
        rw [Bool.and_assoc]
        congr 2
        by_cases h : stk.length ≤ 40
        · rw [decide_eq_true h, decide_eq_true (by omega)]
        · rw [decide_eq_false h, decide_eq_false (by omega)]
      rw [e1]
      have hLt : (t.length ≤ LIM) = True := eq_true hL
      have hsl : stk.length < LIM := by unfold LIM; omega
      cases h1 : c1 c stk fresh with
      | true =>
        (first | rw [if_pos rfl] | rw [if_pos True.intro] | rw [if_pos (by decide)] | skip)
        ((try dsimp only); rw [ss_cons]; simp only [ss_nil, wpS, wpE, wpEs, ofV, ofT, b_addI, b_sub, b_mod, b_pow1018, c_lt, c_le, c_gt, c_ge, c_eqI, c_neI, c_eqS, c_neS, t_bl, t_int, l_tup, f_int, f_abs, bt1, List.getElem?_cons_zero, List.getElem?_cons_succ, List.set_cons_zero, List.set_cons_succ, var_ex, Nat.reduceAdd, put_put, bl_ex, f_divmod, f_str, f_intB, f_intS, f_ord, f_listR, is_tup, is_str, is_int, is_bool, ty_str, m_zfill, m_find, on_zfill, on_join, on_find, on_append, on_pop, bt2, DL.sl_str, pd_no, pd_int, true_and, b_mul, b_fdiv, b_addS, b_addT, if_true, if_false, Tg.slots, wipeD, ty_lst S.sp])
        refine ⟨by decide, fun q hq => ?_⟩
        have hpq : p ≠ q := fun e => by subst e; rw [S.sp] at hq; cases hq
        have hqa : q ∉ as := fun e => S.el.mem e hq
        have hq0 : τ q = none := by
          cases e : τ q with
          | none => rfl
          | some o => rw [S.ext q o e] at hq; cases hq
        rw [m_app (xs := as.reverse.map D.ref) (by rw [put_ne hpq]; exact S.sp)]
        refine ⟨by rw [hlen]; exact hsl, ?_⟩
        ((try dsimp only); rw [ss_cons]; simp only [ss_nil, wpS, wpE, wpEs, ofV, ofT, b_addI, b_sub, b_mod, b_pow1018, c_lt, c_le, c_gt, c_ge, c_eqI, c_neI, c_eqS, c_neS, t_bl, t_int, l_tup, f_int, f_abs, bt1, List.getElem?_cons_zero, List.getElem?_cons_succ, List.set_cons_zero, List.set_cons_succ, var_ex, Nat.reduceAdd, put_put, bl_ex, f_divmod, f_str, f_intB, f_intS, f_ord, f_listR, is_tup, is_str, is_int, is_bool, ty_str, m_zfill, m_find, on_zfill, on_join, on_find, on_append, on_pop, bt2, DL.sl_str, pd_no, pd_int, true_and, b_mul, b_fdiv, b_addS, b_addT, if_true, if_false, Tg.slots, wipeD])
        have hfr : fresh = true := by
          unfold c1 at h1
          cases fresh with
          | true => rfl
          | false => cases h1
        subst hfr
        have r' := r.inv hc
        rw [if_pos h1] at r'
        refine ⟨_, _, rfl, rfl, hW (m - 1) _ _ (by omega) ⟨i + 1, q :: as, [] :: stk, true, u, v, ?_, ⟨?_, ⟨?_, ?_⟩, ?_, ?_, S.fp, ?_, (S.ext.put hq0).put S.fp⟩, r', by omega, by simp; omega, by simp, fun s hs => by
          rcases List.mem_cons.mp hs with e | e
          · subst e; simp
          · have := hbd s e; omega⟩⟩
        · have e : (i : Int) + 1 = ((i + 1 : Nat) : Int) := by omega
          rw [e]
        · rw [put_same, List.reverse_cons, List.map_append]; rfl
        · rw [put_ne (Ne.symm hpq), put_same]
        · exact (S.el.put hqa).put S.np
        · intro e; rcases List.mem_cons.mp e with e | e
          · exact hpq e
          · exact S.np e
        · exact List.nodup_cons.mpr ⟨hqa, S.nd⟩
        · intro x hx
          rcases List.mem_cons.mp hx with e | e
          · subst e; exact hq0
          · exact S.fr x e
      | false =>
        (first | rw [if_neg (by decide)] | rw [if_neg not_false] | skip)
        ((try dsimp only); rw [ss_cons]; simp only [ss_nil, wpS, wpE, wpEs, ofV, ofT, b_addI, b_sub, b_mod, b_pow1018, c_lt, c_le, c_gt, c_ge, c_eqI, c_neI, c_eqS, c_neS, t_bl, t_int, l_tup, f_int, f_abs, bt1, List.getElem?_cons_zero, List.getElem?_cons_succ, List.set_cons_zero, List.set_cons_succ, var_ex, Nat.reduceAdd, put_put, bl_ex, f_divmod, f_str, f_intB, f_intS, f_ord, f_listR, is_tup, is_str, is_int, is_bool, ty_str, m_zfill, m_find, on_zfill, on_join, on_find, on_append, on_pop, bt2, DL.sl_str, pd_no, pd_int, true_and, b_mul, b_fdiv, b_addS, b_addT, if_true, if_false, Tg.slots, wipeD, i_strL hL hc, l_lst S.sp, hlen, one_eq, Bool.false_eq_true])
        refine Eq.mpr (c2_if hL hi hsi) ?_
        cases h2 : c2 t i c stk fresh with
        | true =>
          (first | rw [if_pos rfl] | rw [if_pos True.intro] | rw [if_pos (by decide)] | skip)
          have r' := r.inv hc
          rw [if_neg (by rw [h1]; decide), if_pos h2] at r'
          obtain ⟨top, nxt, rest, rfl, r'⟩ := r'
          match as, S with
          | [], S => exact S.el.elim
          | [_], S => exact S.el.2.elim
          | a1 :: a2 :: as, S =>
            have hp1 : p ≠ a1 := fun e => S.np (by rw [e]; simp)
            have hp2 : p ≠ a2 := fun e => S.np (by rw [e]; simp)
            have h12 : a1 ≠ a2 := fun e => (List.nodup_cons.mp S.nd).1 (by rw [e]; simp)
            have hsp : τ1 p = some (.lst ((a2 :: as).reverse.map D.ref ++ [D.ref a1])) := by rw [S.sp, List.reverse_cons, List.map_append]; rfl
            have hs2 : (a2 :: as).reverse.map D.ref = as.reverse.map D.ref ++ [D.ref a2] := by rw [List.reverse_cons, List.map_append]; rfl
            ((try dsimp only); rw [ss_cons]; simp only [ss_nil, wpS, wpE, wpEs, ofV, ofT, b_addI, b_sub, b_mod, b_pow1018, c_lt, c_le, c_gt, c_ge, c_eqI, c_neI, c_eqS, c_neS, t_bl, t_int, l_tup, f_int, f_abs, bt1, List.getElem?_cons_zero, List.getElem?_cons_succ, List.set_cons_zero, List.set_cons_succ, var_ex, Nat.reduceAdd, put_put, bl_ex, f_divmod, f_str, f_intB, f_intS, f_ord, f_listR, is_tup, is_str, is_int, is_bool, ty_str, m_zfill, m_find, on_zfill, on_join, on_find, on_append, on_pop, bt2, DL.sl_str, pd_no, pd_int, true_and, b_mul, b_fdiv, b_addS, b_addT, if_true, if_false, Tg.slots, wipeD, ty_lst S.sp, m_pop hsp])
            rw [f_tupleL (xs := top) (by rw [put_ne (Ne.symm hp1)]; exact S.el.1)]
            have hat : atD ((a2 :: as).reverse.map D.ref) (-1) = some (.ref a2) := by rw [hs2]; exact at_last
            ((try dsimp only); rw [ss_cons]; simp only [ss_nil, wpS, wpE, wpEs, ofV, ofT, b_addI, b_sub, b_mod, b_pow1018, c_lt, c_le, c_gt, c_ge, c_eqI, c_neI, c_eqS, c_neS, t_bl, t_int, l_tup, f_int, f_abs, bt1, List.getElem?_cons_zero, List.getElem?_cons_succ, List.set_cons_zero, List.set_cons_succ, var_ex, Nat.reduceAdd, put_put, bl_ex, f_divmod, f_str, f_intB, f_intS, f_ord, f_listR, is_tup, is_str, is_int, is_bool, ty_str, m_zfill, m_find, on_zfill, on_join, on_find, on_append, on_pop, bt2, DL.sl_str, pd_no, pd_int, true_and, b_mul, b_fdiv, b_addS, b_addT, if_true, if_false, Tg.slots, wipeD])
            refine ⟨1, rfl, ?_⟩
            rw [i_lst put_same hat]
            have ha2 : put τ1 p (.lst ((a2 :: as).reverse.map D.ref)) a2 = some (.lst nxt) := by rw [put_ne (Ne.symm hp2)]; exact S.el.2.1
            rw [ty_lst ha2]
            refine ⟨by decide, ?_⟩
            rw [m_app ha2]
            refine ⟨?_, ?_⟩
            · have := hbd nxt (by simp); unfold LIM; omega
            ((try dsimp only); rw [ss_cons]; simp only [ss_nil, wpS, wpE, wpEs, ofV, ofT, b_addI, b_sub, b_mod, b_pow1018, c_lt, c_le, c_gt, c_ge, c_eqI, c_neI, c_eqS, c_neS, t_bl, t_int, l_tup, f_int, f_abs, bt1, List.getElem?_cons_zero, List.getElem?_cons_succ, List.set_cons_zero, List.set_cons_succ, var_ex, Nat.reduceAdd, put_put, bl_ex, f_divmod, f_str, f_intB, f_intS, f_ord, f_listR, is_tup, is_str, is_int, is_bool, ty_str, m_zfill, m_find, on_zfill, on_join, on_find, on_append, on_pop, bt2, DL.sl_str, pd_no, pd_int, true_and, b_mul, b_fdiv, b_addS, b_addT, if_true, if_false, Tg.slots, wipeD])
            refine ⟨_, _, rfl, rfl, ?_⟩
            ((try dsimp only); rw [ss_cons]; simp only [ss_nil, wpS, wpE, wpEs, ofV, ofT, b_addI, b_sub, b_mod, b_pow1018, c_lt, c_le, c_gt, c_ge, c_eqI, c_neI, c_eqS, c_neS, t_bl, t_int, l_tup, f_int, f_abs, bt1, List.getElem?_cons_zero, List.getElem?_cons_succ, List.set_cons_zero, List.set_cons_succ, var_ex, Nat.reduceAdd, put_put, bl_ex, f_divmod, f_str, f_intB, f_intS, f_ord, f_listR, is_tup, is_str, is_int, is_bool, ty_str, m_zfill, m_find, on_zfill, on_join, on_find, on_append, on_pop, bt2, DL.sl_str, pd_no, pd_int, true_and, b_mul, b_fdiv, b_addS, b_addT, if_true, if_false, Tg.slots, wipeD])
            have S2 : RdS τ (put τ1 p (.lst ((a2 :: as).reverse.map D.ref))) p (a2 :: as) (nxt :: rest) :=
              ⟨put_same, S.el.2.put fun e => S.np (List.mem_cons_of_mem _ e), fun e => S.np (List.mem_cons_of_mem _ e), (List.nodup_cons.mp S.nd).2, S.fp, fun x hx => S.fr x (List.mem_cons_of_mem _ hx), S.ext.put S.fp⟩
            refine hW (m - 1) _ _ (by omega) ⟨i + 1, a2 :: as, (nxt ++ [.tup top]) :: rest, false, some (.tup top), v, ?_, S2.last, r', by omega, by simp at hsi ⊢; omega, by simp, fun s hs => by
              rcases List.mem_cons.mp hs with e | e
              · subst e; have := hbd nxt (by simp); simp; omega
              · have := hbd s (by simp [e]); omega⟩
            have e : (i : Int) + 1 = ((i + 1 : Nat) : Int) := by omega
            rw [e]
        | false =>
          (first | rw [if_neg (by decide)] | rw [if_neg not_false] | skip)
          ((try dsimp only); rw [ss_cons]; simp only [ss_nil, wpS, wpE, wpEs, ofV, ofT, b_addI, b_sub, b_mod, b_pow1018, c_lt, c_le, c_gt, c_ge, c_eqI, c_neI, c_eqS, c_neS, t_bl, t_int, l_tup, f_int, f_abs, bt1, List.getElem?_cons_zero, List.getElem?_cons_succ, List.set_cons_zero, List.set_cons_succ, var_ex, Nat.reduceAdd, put_put, bl_ex, f_divmod, f_str, f_intB, f_intS, f_ord, f_listR, is_tup, is_str, is_int, is_bool, ty_str, m_zfill, m_find, on_zfill, on_join, on_find, on_append, on_pop, bt2, DL.sl_str, pd_no, pd_int, true_and, b_mul, b_fdiv, b_addS, b_addT, if_true, if_false, Tg.slots, wipeD, i_strL hL hc, l_lst S.sp, hlen, one_eq, Bool.false_eq_true, hLt, ei2])
          refine Eq.mpr c3_if ?_
          cases h3 : c3 t i stk fresh with
          | true =>
            (first | rw [if_pos rfl] | rw [if_pos True.intro] | rw [if_pos (by decide)] | skip)
            have r' := r.inv hc
            rw [if_neg (by rw [h1]; decide), if_neg (by rw [h2]; decide), if_pos h3] at r'
            ((try dsimp only); rw [ss_cons]; simp only [ss_nil, wpS, wpE, wpEs, ofV, ofT, b_addI, b_sub, b_mod, b_pow1018, c_lt, c_le, c_gt, c_ge, c_eqI, c_neI, c_eqS, c_neS, t_bl, t_int, l_tup, f_int, f_abs, bt1, List.getElem?_cons_zero, List.getElem?_cons_succ, List.set_cons_zero, List.set_cons_succ, var_ex, Nat.reduceAdd, put_put, bl_ex, f_divmod, f_str, f_intB, f_intS, f_ord, f_listR, is_tup, is_str, is_int, is_bool, ty_str, m_zfill, m_find, on_zfill, on_join, on_find, on_append, on_pop, bt2, DL.sl_str, pd_no, pd_int, true_and, b_mul, b_fdiv, b_addS, b_addT, if_true, if_false, Tg.slots, wipeD])
            refine ⟨_, _, rfl, rfl, ?_⟩
            ((try dsimp only); rw [ss_cons]; simp only [ss_nil, wpS, wpE, wpEs, ofV, ofT, b_addI, b_sub, b_mod, b_pow1018, c_lt, c_le, c_gt, c_ge, c_eqI, c_neI, c_eqS, c_neS, t_bl, t_int, l_tup, f_int, f_abs, bt1, List.getElem?_cons_zero, List.getElem?_cons_succ, List.set_cons_zero, List.set_cons_succ, var_ex, Nat.reduceAdd, put_put, bl_ex, f_divmod, f_str, f_intB, f_intS, f_ord, f_listR, is_tup, is_str, is_int, is_bool, ty_str, m_zfill, m_find, on_zfill, on_join, on_find, on_append, on_pop, bt2, DL.sl_str, pd_no, pd_int, true_and, b_mul, b_fdiv, b_addS, b_addT, if_true, if_false, Tg.slots, wipeD])
            have hi2 : i + 2 ≤ t.length := by
              unfold c3 at h3
              simp only [Bool.and_eq_true, beq_iff_eq] at h3
              have := congrArg List.length h3.2.2
              rw [List.length_take, List.length_drop] at this
              simp at this
              omega
            refine hW (m - 2) _ _ (by omega) ⟨i + 2, as, stk, true, u, v, ?_, S, r', by omega, by omega, hne, fun s hs => by have := hbd s hs; omega⟩
            rw [ei2]
          | false =>
            (first | rw [if_neg (by decide)] | rw [if_neg not_false] | skip)
            ((try dsimp only); rw [ss_cons]; simp only [ss_nil, wpS, wpE, wpEs, ofV, ofT, b_addI, b_sub, b_mod, b_pow1018, c_lt, c_le, c_gt, c_ge, c_eqI, c_neI, c_eqS, c_neS, t_bl, t_int, l_tup, f_int, f_abs, bt1, List.getElem?_cons_zero, List.getElem?_cons_succ, List.set_cons_zero, List.set_cons_succ, var_ex, Nat.reduceAdd, put_put, bl_ex, f_divmod, f_str, f_intB, f_intS, f_ord, f_listR, is_tup, is_str, is_int, is_bool, ty_str, m_zfill, m_find, on_zfill, on_join, on_find, on_append, on_pop, bt2, DL.sl_str, pd_no, pd_int, true_and, b_mul, b_fdiv, b_addS, b_addT, if_true, if_false, Tg.slots, wipeD, i_strL hL hc, l_lst S.sp, hlen, one_eq, Bool.false_eq_true, hLt, ei2])
            refine Eq.mpr c4_if ?_
            have r' := r.inv hc
            rw [if_neg (by rw [h1]; decide), if_neg (by rw [h2]; decide), if_neg (by rw [h3]; decide)] at r'
            cases h4 : c4 c fresh with
            | true =>
              (first | rw [if_pos rfl] | rw [if_pos True.intro] | rw [if_pos (by decide)] | skip)
              rw [if_pos h4] at r'
              ((try dsimp only); rw [ss_cons]; simp only [ss_nil, wpS, wpE, wpEs, ofV, ofT, b_addI, b_sub, b_mod, b_pow1018, c_lt, c_le, c_gt, c_ge, c_eqI, c_neI, c_eqS, c_neS, t_bl, t_int, l_tup, f_int, f_abs, bt1, List.getElem?_cons_zero, List.getElem?_cons_succ, List.set_cons_zero, List.set_cons_succ, var_ex, Nat.reduceAdd, put_put, bl_ex, f_divmod, f_str, f_intB, f_intS, f_ord, f_listR, is_tup, is_str, is_int, is_bool, ty_str, m_zfill, m_find, on_zfill, on_join, on_find, on_append, on_pop, bt2, DL.sl_str, pd_no, pd_int, true_and, b_mul, b_fdiv, b_addS, b_addT, if_true, if_false, Tg.slots, wipeD])
              refine rp_ok hi ht (fun d j hdj => ?_) (fun hdj => ?_)
              · rcases r' with ⟨z, _⟩ | ⟨d', j', top, rest, z, rfl, hij, hj, r'⟩
                · rw [z] at hdj; cases hdj
                rw [z] at hdj
                cases hdj
                match as, S with
                | [], S => exact S.el.elim
                | a1 :: as, S =>
                  have hs2 : (a1 :: as).reverse.map D.ref = as.reverse.map D.ref ++ [D.ref a1] := by rw [List.reverse_cons, List.map_append]; rfl
                  (try simp only [ss_nil, wpS, wpE, wpEs, ofV, ofT, b_addI, b_sub, b_mod, b_pow1018, c_lt, c_le, c_gt, c_ge, c_eqI, c_neI, c_eqS, c_neS, t_bl, t_int, l_tup, f_int, f_abs, bt1, List.getElem?_cons_zero, List.getElem?_cons_succ, List.set_cons_zero, List.set_cons_succ, var_ex, Nat.reduceAdd, put_put, bl_ex, f_divmod, f_str, f_intB, f_intS, f_ord, f_listR, is_tup, is_str, is_int, is_bool, ty_str, m_zfill, m_find, on_zfill, on_join, on_find, on_append, on_pop, bt2, DL.sl_str, pd_no, pd_int, true_and, b_mul, b_fdiv, b_addS, b_addT, if_true, if_false, Tg.slots, wipeD])
                  ((try dsimp only); rw [ss_cons]; simp only [ss_nil, wpS, wpE, wpEs, ofV, ofT, b_addI, b_sub, b_mod, b_pow1018, c_lt, c_le, c_gt, c_ge, c_eqI, c_neI, c_eqS, c_neS, t_bl, t_int, l_tup, f_int, f_abs, bt1, List.getElem?_cons_zero, List.getElem?_cons_succ, List.set_cons_zero, List.set_cons_succ, var_ex, Nat.reduceAdd, put_put, bl_ex, f_divmod, f_str, f_intB, f_intS, f_ord, f_listR, is_tup, is_str, is_int, is_bool, ty_str, m_zfill, m_find, on_zfill, on_join, on_find, on_append, on_pop, bt2, DL.sl_str, pd_no, pd_int, true_and, b_mul, b_fdiv, b_addS, b_addT, if_true, if_false, Tg.slots, wipeD])
                  refine ⟨1, rfl, ?_⟩
                  rw [i_lst S.sp (show atD ((a1 :: as).reverse.map D.ref) (-1) = some (.ref a1) by rw [hs2]; exact at_last), ty_lst S.el.1]
                  refine ⟨by decide, ?_⟩
                  rw [m_app S.el.1]
                  refine ⟨?_, ?_⟩
                  · have := hbd top (by simp); unfold LIM; omega
                  ((try dsimp only); rw [ss_cons]; simp only [ss_nil, wpS, wpE, wpEs, ofV, ofT, b_addI, b_sub, b_mod, b_pow1018, c_lt, c_le, c_gt, c_ge, c_eqI, c_neI, c_eqS, c_neS, t_bl, t_int, l_tup, f_int, f_abs, bt1, List.getElem?_cons_zero, List.getElem?_cons_succ, List.set_cons_zero, List.set_cons_succ, var_ex, Nat.reduceAdd, put_put, bl_ex, f_divmod, f_str, f_intB, f_intS, f_ord, f_listR, is_tup, is_str, is_int, is_bool, ty_str, m_zfill, m_find, on_zfill, on_join, on_find, on_append, on_pop, bt2, DL.sl_str, pd_no, pd_int, true_and, b_mul, b_fdiv, b_addS, b_addT, if_true, if_false, Tg.slots, wipeD])
                  exact hW (t.length + 2 - j) _ _ (by omega) ⟨j, a1 :: as, (top ++ [d]) :: rest, false, u, some d, rfl, S.last, r', by omega, by simp at hsi ⊢; omega, by simp, fun s hs => by
                    rcases List.mem_cons.mp hs with e | e
                    · subst e; have := hbd top (by simp); simp; omega
                    · have := hbd s (by simp [e]); omega⟩
              · rcases r' with ⟨_, z⟩ | ⟨d', j', top, rest, z, _⟩
                · exact kb _ z S.ext
                · rw [z] at hdj; cases hdj
            | false =>
              (first | rw [if_neg (by decide)] | rw [if_neg not_false] | skip)
              rw [if_neg (by rw [h4]; decide)] at r'
              ((try dsimp only); rw [ss_cons]; simp only [ss_nil, wpS, wpE, wpEs, ofV, ofT, b_addI, b_sub, b_mod, b_pow1018, c_lt, c_le, c_gt, c_ge, c_eqI, c_neI, c_eqS, c_neS, t_bl, t_int, l_tup, f_int, f_abs, bt1, List.getElem?_cons_zero, List.getElem?_cons_succ, List.set_cons_zero, List.set_cons_succ, var_ex, Nat.reduceAdd, put_put, bl_ex, f_divmod, f_str, f_intB, f_intS, f_ord, f_listR, is_tup, is_str, is_int, is_bool, ty_str, m_zfill, m_find, on_zfill, on_join, on_find, on_append, on_pop, bt2, DL.sl_str, pd_no, pd_int, true_and, b_mul, b_fdiv, b_addS, b_addT, if_true, if_false, Tg.slots, wipeD, raiseB])
              exact kb _ r' S.ext
    · have hR := r.fin_inv (by omega)
      (try simp only [ss_nil, wpS, wpE, wpEs, ofV, ofT, b_addI, b_sub, b_mod, b_pow1018, c_lt, c_le, c_gt, c_ge, c_eqI, c_neI, c_eqS, c_neS, t_bl, t_int, l_tup, f_int, f_abs, bt1, List.getElem?_cons_zero, List.getElem?_cons_succ, List.set_cons_zero, List.set_cons_succ, var_ex, Nat.reduceAdd, put_put, bl_ex, f_divmod, f_str, f_intB, f_intS, f_ord, f_listR, is_tup, is_str, is_int, is_bool, ty_str, m_zfill, m_find, on_zfill, on_join, on_find, on_append, on_pop, bt2, DL.sl_str, pd_no, pd_int, true_and, b_mul, b_fdiv, b_addS, b_addT, if_true, if_false, Tg.slots, wipeD, l_str])
      refine ⟨hL, ?_⟩
      rw [decide_eq_false (by omega)]
      (first | rw [if_neg (by decide)] | rw [if_neg not_false] | skip)
      match as, stk, S, hlen with
      | [], [], S, _ => exact absurd rfl hne
      | [], _ :: _, S, _ => exact S.el.elim
      | _ :: _, [], S, _ => exact S.el.elim
      | a1 :: a2 :: as, [_], S, _ => exact S.el.2.elim
      | [a1], _ :: _ :: _, S, _ => exact S.el.2.elim
      | a1 :: a2 :: as, s1 :: s2 :: stk, S, hlen =>
        ((try dsimp only); rw [ss_cons]; simp only [ss_nil, wpS, wpE, wpEs, ofV, ofT, b_addI, b_sub, b_mod, b_pow1018, c_lt, c_le, c_gt, c_ge, c_eqI, c_neI, c_eqS, c_neS, t_bl, t_int, l_tup, f_int, f_abs, bt1, List.getElem?_cons_zero, List.getElem?_cons_succ, List.set_cons_zero, List.set_cons_succ, var_ex, Nat.reduceAdd, put_put, bl_ex, f_divmod, f_str, f_intB, f_intS, f_ord, f_listR, is_tup, is_str, is_int, is_bool, ty_str, m_zfill, m_find, on_zfill, on_join, on_find, on_append, on_pop, bt2, DL.sl_str, pd_no, pd_int, true_and, b_mul, b_fdiv, b_addS, b_addT, if_true, if_false, Tg.slots, wipeD, l_lst S.sp, hlen])
        have e : (!(((s1 :: s2 :: stk).length : Int) == 1)) = true := by
          rw [Bool.not_eq_true', beq_eq_false_iff_ne]
          simp only [List.length_cons]
          omega
        rw [e]
        (first | rw [if_pos rfl] | rw [if_pos True.intro] | rw [if_pos (by decide)] | skip)
        ((try dsimp only); rw [ss_cons]; simp only [ss_nil, wpS, wpE, wpEs, ofV, ofT, b_addI, b_sub, b_mod, b_pow1018, c_lt, c_le, c_gt, c_ge, c_eqI, c_neI, c_eqS, c_neS, t_bl, t_int, l_tup, f_int, f_abs, bt1, List.getElem?_cons_zero, List.getElem?_cons_succ, List.set_cons_zero, List.set_cons_succ, var_ex, Nat.reduceAdd, put_put, bl_ex, f_divmod, f_str, f_intB, f_intS, f_ord, f_listR, is_tup, is_str, is_int, is_bool, ty_str, m_zfill, m_find, on_zfill, on_join, on_find, on_append, on_pop, bt2, DL.sl_str, pd_no, pd_int, true_and, b_mul, b_fdiv, b_addS, b_addT, if_true, if_false, Tg.slots, wipeD, raiseB])
        exact kb _ (hR.trans (by cases s1 with | nil => rfl | cons x xs => cases xs <;> rfl)) S.ext
      | [a1], [s1], S, hlen =>
        have hat : atD ([a1].reverse.map D.ref) 0 = some (.ref a1) := rfl
        ((try dsimp only); rw [ss_cons]; simp only [ss_nil, wpS, wpE, wpEs, ofV, ofT, b_addI, b_sub, b_mod, b_pow1018, c_lt, c_le, c_gt, c_ge, c_eqI, c_neI, c_eqS, c_neS, t_bl, t_int, l_tup, f_int, f_abs, bt1, List.getElem?_cons_zero, List.getElem?_cons_succ, List.set_cons_zero, List.set_cons_succ, var_ex, Nat.reduceAdd, put_put, bl_ex, f_divmod, f_str, f_intB, f_intS, f_ord, f_listR, is_tup, is_str, is_int, is_bool, ty_str, m_zfill, m_find, on_zfill, on_join, on_find, on_append, on_pop, bt2, DL.sl_str, pd_no, pd_int, true_and, b_mul, b_fdiv, b_addS, b_addT, if_true, if_false, Tg.slots, wipeD, l_lst S.sp, hlen, i_lst S.sp hat, l_lst S.el.1])
        have e : (!((([s1].length : Nat) : Int) == 1)) = false := rfl
        rw [e]
        (first | rw [if_neg (by decide)] | rw [if_neg not_false] | skip)
        match s1, S, hR with
        | [], S, hR =>
          have e : (!((([] : List D).length : Int) == 1)) = true := rfl
          rw [e]
          (first | rw [if_pos rfl] | rw [if_pos True.intro] | rw [if_pos (by decide)] | skip)
          ((try dsimp only); rw [ss_cons]; simp only [ss_nil, wpS, wpE, wpEs, ofV, ofT, b_addI, b_sub, b_mod, b_pow1018, c_lt, c_le, c_gt, c_ge, c_eqI, c_neI, c_eqS, c_neS, t_bl, t_int, l_tup, f_int, f_abs, bt1, List.getElem?_cons_zero, List.getElem?_cons_succ, List.set_cons_zero, List.set_cons_succ, var_ex, Nat.reduceAdd, put_put, bl_ex, f_divmod, f_str, f_intB, f_intS, f_ord, f_listR, is_tup, is_str, is_int, is_bool, ty_str, m_zfill, m_find, on_zfill, on_join, on_find, on_append, on_pop, bt2, DL.sl_str, pd_no, pd_int, true_and, b_mul, b_fdiv, b_addS, b_addT, if_true, if_false, Tg.slots, wipeD, raiseB])
          exact kb _ hR S.ext
        | [d], S, hR =>
          have e : (!((([d] : List D).length : Int) == 1)) = false := rfl
          rw [e]
          (first | rw [if_neg (by decide)] | rw [if_neg not_false] | skip)
          ((try dsimp only); rw [ss_cons]; simp only [ss_nil, wpS, wpE, wpEs, ofV, ofT, b_addI, b_sub, b_mod, b_pow1018, c_lt, c_le, c_gt, c_ge, c_eqI, c_neI, c_eqS, c_neS, t_bl, t_int, l_tup, f_int, f_abs, bt1, List.getElem?_cons_zero, List.getElem?_cons_succ, List.set_cons_zero, List.set_cons_succ, var_ex, Nat.reduceAdd, put_put, bl_ex, f_divmod, f_str, f_intB, f_intS, f_ord, f_listR, is_tup, is_str, is_int, is_bool, ty_str, m_zfill, m_find, on_zfill, on_join, on_find, on_append, on_pop, bt2, DL.sl_str, pd_no, pd_int, true_and, b_mul, b_fdiv, b_addS, b_addT, if_true, if_false, Tg.slots, wipeD, i_lst S.sp hat])
          have hat2 : atD [d] 0 = some d := rfl
          rw [i_lst S.el.1 hat2]
          exact kg _ _ hR S.ext
        | d :: d2 :: r2, S, hR =>
          have e : (!(((d :: d2 :: r2).length : Int) == 1)) = true := by
            rw [Bool.not_eq_true', beq_eq_false_iff_ne]
            simp only [List.length_cons]
            omega
          rw [e]
          (first | rw [if_pos rfl] | rw [if_pos True.intro] | rw [if_pos (by decide)] | skip)
          ((try dsimp only); rw [ss_cons]; simp only [ss_nil, wpS, wpE, wpEs, ofV, ofT, b_addI, b_sub, b_mod, b_pow1018, c_lt, c_le, c_gt, c_ge, c_eqI, c_neI, c_eqS, c_neS, t_bl, t_int, l_tup, f_int, f_abs, bt1, List.getElem?_cons_zero, List.getElem?_cons_succ, List.set_cons_zero, List.set_cons_succ, var_ex, Nat.reduceAdd, put_put, bl_ex, f_divmod, f_str, f_intB, f_intS, f_ord, f_listR, is_tup, is_str, is_int, is_bool, ty_str, m_zfill, m_find, on_zfill, on_join, on_find, on_append, on_pop, bt2, DL.sl_str, pd_no, pd_int, true_and, b_mul, b_fdiv, b_addS, b_addT, if_true, if_false, Tg.slots, wipeD, raiseB])
          exact kb _ hR S.ext
  · rw [put_ne (Ne.symm hpa), put_same]
end
end K00
set_option maxHeartbeats 1000000
/-! Ph00: texts of data are read back; other texts are refused (no program in sight) -/
namespace K00
open PySem DL
theorem figs_sgn (n : Nat) : ∀ c ∈ figs n, signB c = true := by
  intro c hc
  have h := figs_all n c hc
  obtain ⟨h1, h2⟩ := h
  have : c = 48 ∨ c = 49 ∨ c = 50 ∨ c = 51 ∨ c = 52 ∨ c = 53 ∨ c = 54 ∨ c = 55 ∨ c = 56 ∨ c = 57 := by omega
  rcases this with e | e | e | e | e | e | e | e | e | e <;> subst e <;> rfl
theorem numT_sgn (z : Int) : ∀ c ∈ numT z, signB c = true := by
  intro c hc
  unfold numT at hc
  split at hc
  · rcases List.mem_cons.mp hc with e | e
    · subst e; rfl
    · exact figs_sgn _ c e
  · exact figs_sgn _ c hc
theorem figs_cons (n : Nat) : ∃ c r, figs n = c :: r ∧ isFig c := by
  cases h : figs n with
  | nil => exact absurd h (figs_ne n)
  | cons c r => exact ⟨c, r, rfl, figs_all n c (by rw [h]; exact List.mem_cons_self)⟩
theorem figs_okB (n : Nat) : ((figs n).all fun c => decide (48 ≤ c) && decide (c ≤ 57)) = true := by
  rw [List.all_eq_true]
  intro c hc
  have := figs_all n c hc
  simp [this.1, this.2]
theorem numT_good (z : Int) : intBad (numT z) = false ∧ intVal (numT z) = z := by
  by_cases h : 0 ≤ z
  · rw [numT_pos h]
    obtain ⟨c, r, e, hc⟩ := figs_cons z.natAbs
    have hs : sgn (figs z.natAbs) = false := by
      unfold sgn; rw [e]
      show (some c == some 45) = false
      rw [beq_eq_false_iff_ne]
      intro q; cases q; exact absurd hc.1 (by decide)
    have hd : dig (figs z.natAbs) = figs z.natAbs := by unfold dig; rw [hs]; rfl
    refine ⟨?_, ?_⟩
    · unfold intBad
      rw [hd, figs_okB]
      have h0 : (figs z.natAbs).isEmpty = false := by rw [e]; rfl
      rw [h0]
      rcases Nat.eq_zero_or_pos z.natAbs with q | q
      · rw [q]; rfl
      · obtain ⟨c2, r2, e2, h2, _⟩ := figs_head q
        have : ((figs z.natAbs).head? == some 48) = false := by
          rw [e2]
          show (some c2 == some 48) = false
          rw [beq_eq_false_iff_ne]
          intro q; cases q; exact absurd h2 (by decide)
        rw [this]; rfl
    · unfold intVal
      rw [hs, hd, valL_figs]
      simp
      omega
  · rw [numT_neg (by omega)]
    have hs : sgn (45 :: figs z.natAbs) = true := rfl
    have hd : dig (45 :: figs z.natAbs) = figs z.natAbs := rfl
    obtain ⟨c2, r2, e2, h2, _⟩ := figs_head (n := z.natAbs) (by omega)
    refine ⟨?_, ?_⟩
    · unfold intBad
      rw [hd, figs_okB]
      have h0 : (figs z.natAbs).isEmpty = false := by rw [e2]; rfl
      rw [h0]
      have : ((figs z.natAbs).head? == some 48) = false := by
        rw [e2]
        show (some c2 == some 48) = false
        rw [beq_eq_false_iff_ne]
        intro q; cases q; exact absurd h2 (by decide)
      rw [this]; rfl
    · unfold intVal
      rw [hs, hd, valL_figs]
      simp
      omega
theorem tw_app {p : Nat → Bool} : ∀ {l rest : List Nat}, (∀ c ∈ l, p c = true) → (∀ c, rest.head? = some c → p c = false) → (l ++ rest).takeWhile p = l
  | [], [], _, _ => rfl
  | [], c :: r, _, h => by
    show (c :: r).takeWhile p = []
    rw [List.takeWhile_cons, h c rfl]; rfl
  | c :: l, rest, h1, h2 => by
    show (c :: (l ++ rest)).takeWhile p = _
    rw [List.takeWhile_cons, h1 c List.mem_cons_self]
    show c :: (l ++ rest).takeWhile p = _
    rw [tw_app (fun x hx => h1 x (List.mem_cons_of_mem _ hx)) h2]
theorem get_at {t pre rest : List Nat} {c : Nat} (h : t = pre ++ c :: rest) : t[pre.length]? = some c := by
  rw [h]; simp
theorem drop_at {t pre rest : List Nat} (h : t = pre ++ rest) : t.drop pre.length = rest := by
  rw [h]; simp
theorem c1_no {c : Nat} {stk : List (List D)} {fresh : Bool} (h : c ≠ 40) : c1 c stk fresh = false := by
  unfold c1
  rw [beq_eq_false_iff_ne.mpr h]
  cases fresh <;> rfl
theorem c2_no {t : List Nat} {i c : Nat} {stk : List (List D)} {fresh : Bool} (h : c ≠ 41) : c2 t i c stk fresh = false := by
  unfold c2
  rw [beq_eq_false_iff_ne.mpr h]
  rfl
theorem c3_no {t : List Nat} {i : Nat} {stk : List (List D)} : c3 t i stk true = false := rfl
theorem c4_yes {c : Nat} (h : c ≠ 40) : c4 c true = true := by
  unfold c4
  rw [beq_eq_false_iff_ne.mpr h]
  rfl
theorem rp_int {t pre rest : List Nat} {z : Int} (h : t = pre ++ (numT z ++ rest)) (hr : ∀ c, rest.head? = some c → signB c = false) : rp t pre.length = some (.int z, pre.length + (numT z).length) := by
  unfold rp
  rw [drop_at h]
  have htw := tw_app (numT_sgn z) hr
  obtain ⟨hg, hv⟩ := numT_good z
  cases e : numT z with
  | nil =>
    rw [e] at hg
    cases hg
  | cons c r =>
    have hc : c ≠ 39 := by
      intro q
      have := numT_sgn z c (by rw [e]; exact List.mem_cons_self)
      rw [q] at this
      cases this
    rw [e] at htw hg hv
    show (if c = 39 then _ else if intBad ((c :: (r ++ rest)).takeWhile signB) = true then none else some (D.int (intVal ((c :: (r ++ rest)).takeWhile signB)), pre.length + ((c :: (r ++ rest)).takeWhile signB).length)) = _
    have htw : (c :: (r ++ rest)).takeWhile signB = c :: r := htw
    rw [if_neg hc, htw, hg, if_neg (by decide), hv]
theorem rp_str {t pre rest l : List Nat} (h : t = pre ++ (39 :: (l ++ 39 :: rest))) (hl : ∀ c ∈ l, plainC c) : rp t pre.length = some (.str l, pre.length + (l.length + 2)) := by
  unfold rp
  rw [drop_at h]
  have htw : (l ++ 39 :: rest).takeWhile (fun c => !(c == 39)) = l := tw_app (fun c hc => by
    have := (hl c hc).2.2.1
    simp [this]) fun c hc => by cases hc; rfl
  have hp : l.all plainB = true := by
    rw [List.all_eq_true]
    intro c hc
    obtain ⟨h1, h2, h3, h4⟩ := hl c hc
    unfold plainB
    simp [h1, h2, h3, h4]
  show (if 39 = 39 then (if ((l ++ 39 :: rest).takeWhile (fun c => !(c == 39))).length < (l ++ 39 :: rest).length ∧ ((l ++ 39 :: rest).takeWhile (fun c => !(c == 39))).all plainB = true then some (D.str ((l ++ 39 :: rest).takeWhile (fun c => !(c == 39))), pre.length + 1 + ((l ++ 39 :: rest).takeWhile (fun c => !(c == 39))).length + 1) else none) else _) = _
  rw [if_pos rfl, htw, if_pos ⟨by simp, hp⟩]
  congr 2
  omega
/-- nothing behind that a number would take -/
abbrev NoS (rest : List Nat) : Prop := ∀ c, rest.head? = some c → signB c = false
mutual
theorem rd_datum {t : List Nat} {R : Option D} : ∀ (d : D) (pre rest : List Nat) (top : List D) (stk : List (List D)), dt d → (top :: stk).length + d.depth ≤ 41 → NoS rest → t = pre ++ (txt d ++ rest) →
    RD t R (pre.length + (txt d).length) ((top ++ [d]) :: stk) false → RD t R pre.length (top :: stk) true
  | .int z, pre, rest, top, stk, hd, _, hr, ht, k => by
    have hrp := rp_int (z := z) ht hr
    have hg := (numT_good z).1
    obtain ⟨c, r, e⟩ : ∃ c r, numT z = c :: r := by
      cases e : numT z with
      | nil => rw [e] at hg; cases hg
      | cons c r => exact ⟨c, r, rfl⟩
    have hs := numT_sgn z c (by rw [e]; exact List.mem_cons_self)
    have h40 : c ≠ 40 := fun q => by rw [q] at hs; cases hs
    have h41 : c ≠ 41 := fun q => by rw [q] at hs; cases hs
    have hc : t[pre.length]? = some c := get_at (rest := r ++ rest) (by rw [ht]; show pre ++ (numT z ++ rest) = _; rw [e]; rfl)
    have hlen := congrArg List.length ht
    rw [List.length_append, List.length_append] at hlen
    have hz : (txt (.int z)).length = (numT z).length := rfl
    have hpos : 0 < (numT z).length := by rw [e]; simp
    exact .itm hc (c1_no h40) (c2_no h41) c3_no (c4_yes h40) hrp (by omega) (by omega) k
  | .str l, pre, rest, top, stk, hd, _, hr, ht, k => by
    have hd : ∀ c ∈ l, plainC c := hd
    have hz : (txt (.str l)).length = l.length + 2 := by show (39 :: (l ++ [39])).length = _; simp
    have ht2 : t = pre ++ (39 :: (l ++ 39 :: rest)) := by rw [ht]; show pre ++ ((39 :: (l ++ [39])) ++ rest) = _; simp
    have hrp := rp_str ht2 hd
    have hlen := congrArg List.length ht
    rw [List.length_append, List.length_append] at hlen
    rw [hz] at k hlen
    exact .itm (get_at ht2) (c1_no (by decide)) (c2_no (by decide)) c3_no (c4_yes (by decide)) hrp (by omega) (by omega) k
  | .tup xs, pre, rest, top, stk, hd, hdep, hr, ht, k => by
    have hd : dts xs := hd
    have hdep : (top :: stk).length + (D.depths xs + 1) ≤ 41 := hdep
    have ht2 : t = pre ++ (40 :: (joinS [44, 32] (txts xs) ++ 41 :: rest)) := by
      rw [ht]; show pre ++ ((40 :: (joinS [44, 32] (txts xs) ++ [41])) ++ rest) = _; simp
    have ht3 : t = (pre ++ [40]) ++ (joinS [44, 32] (txts xs) ++ 41 :: rest) := by rw [ht2]; simp
    have hz : (txt (.tup xs)).length = (joinS [44, 32] (txts xs)).length + 2 := by
      show (40 :: (joinS [44, 32] (txts xs) ++ [41])).length = _; simp
    rw [hz] at k
    have ho : c1 40 (top :: stk) true = true := by
      unfold c1
      have : (top :: stk).length ≤ 40 := by omega
      rw [decide_eq_true this]; rfl
    refine .opn (get_at ht2) ho ?_
    have hcls : ∀ fresh, (!fresh || t[pre.length + 1 + (joinS [44, 32] (txts xs)).length - 1]? == some 40) = true → RD t R (pre.length + 1 + (joinS [44, 32] (txts xs)).length) (xs :: top :: stk) fresh := fun fresh hf => by
      have ht4 : t = (pre ++ [40] ++ joinS [44, 32] (txts xs)) ++ 41 :: rest := by rw [ht3]; simp
      have hg := get_at ht4
      have e : (pre ++ [40] ++ joinS [44, 32] (txts xs)).length = pre.length + 1 + (joinS [44, 32] (txts xs)).length := by simp; omega
      rw [e] at hg
      refine .cls hg (c1_no (by decide)) ?_ ?_
      · unfold c2
        rw [hf]
        have : 1 < (xs :: top :: stk).length := by simp
        rw [decide_eq_true this]; rfl
      · have e2 : pre.length + 1 + (joinS [44, 32] (txts xs)).length + 1 = pre.length + ((joinS [44, 32] (txts xs)).length + 2) := by omega
        rw [e2]
        exact k
    cases xs with
    | nil =>
      have := hcls true (by
        show (false || t[pre.length + 1 + 0 - 1]? == some 40) = true
        have e : pre.length + 1 + 0 - 1 = pre.length := by omega
        rw [e, get_at ht2]; rfl)
      exact this
    | cons x xs =>
      have hl := rd_list (R := R) (x :: xs) (pre ++ [40]) rest [] (top :: stk) hd (by have : D.depths (x :: xs) = D.depths (x :: xs) := rfl; simp only [List.length_cons] at hdep ⊢; omega) (by simp) (by simp) ht3 (by
        have := hcls false rfl
        have e : (pre ++ [40]).length = pre.length + 1 := by simp
        rw [e]
        exact this)
      have e : (pre ++ [40]).length = pre.length + 1 := by simp
      rw [e] at hl
      exact hl
  | .non, _, _, _, _, hd, _, _, _, _ => hd.elim
  | .bl _, _, _, _, _, hd, _, _, _, _ => hd.elim
  | .ref _, _, _, _, _, hd, _, _, _, _ => hd.elim
  | .fn _, _, _, _, _, hd, _, _, _, _ => hd.elim
  | .cls _, _, _, _, _, hd, _, _, _, _ => hd.elim
  | .rol _, _, _, _, _, hd, _, _, _, _ => hd.elim
theorem rd_list {t : List Nat} {R : Option D} : ∀ (xs : List D) (pre rest : List Nat) (acc : List D) (stk : List (List D)), dts xs → (acc :: stk).length + D.depths xs ≤ 41 → xs ≠ [] → stk ≠ [] → t = pre ++ (joinS [44, 32] (txts xs) ++ 41 :: rest) →
    RD t R (pre.length + (joinS [44, 32] (txts xs)).length) ((acc ++ xs) :: stk) false → RD t R pre.length (acc :: stk) true
  | [], _, _, _, _, _, _, h, _, _, _ => absurd rfl h
  | [x], pre, rest, acc, stk, hd, hdep, _, hs, ht, k =>
    rd_datum x pre (41 :: rest) acc stk hd.1 (by have : D.depths [x] = max x.depth 0 := rfl; omega) (fun c h => by cases h; rfl) ht k
  | x :: y :: r, pre, rest, acc, stk, hd, hdep, _, hs, ht, k => by
    have hdx : x.depth ≤ D.depths (x :: y :: r) := depth_mem List.mem_cons_self
    have hdr : D.depths (y :: r) ≤ D.depths (x :: y :: r) := by show _ ≤ max x.depth (D.depths (y :: r)); omega
    have ej : joinS [44, 32] (txts (x :: y :: r)) = txt x ++ ([44, 32] ++ joinS [44, 32] (txts (y :: r))) := rfl
    rw [ej] at ht k
    have ht1 : t = pre ++ (txt x ++ (44 :: 32 :: (joinS [44, 32] (txts (y :: r)) ++ 41 :: rest))) := by rw [ht]; simp
    have ht2 : t = (pre ++ txt x) ++ (44 :: 32 :: (joinS [44, 32] (txts (y :: r)) ++ 41 :: rest)) := by rw [ht]; simp
    have ht3 : t = (pre ++ txt x ++ [44, 32]) ++ (joinS [44, 32] (txts (y :: r)) ++ 41 :: rest) := by rw [ht]; simp
    refine rd_datum x pre _ acc stk hd.1 (by omega) (fun c h => by cases h; rfl) ht1 ?_
    have hg := get_at ht2
    rw [List.length_append] at hg
    have h3 : c3 t (pre.length + (txt x).length) ((acc ++ [x]) :: stk) false = true := by
      unfold c3
      have hd2 := drop_at ht2
      rw [List.length_append] at hd2
      rw [hd2]
      have : 1 < ((acc ++ [x]) :: stk).length := by
        cases stk with
        | nil => exact absurd rfl hs
        | cons _ _ => simp
      rw [decide_eq_true this]; rfl
    refine .sep hg (c1_no (by decide)) (c2_no (by decide)) h3 ?_
    have := rd_list (y :: r) (pre ++ txt x ++ [44, 32]) rest (acc ++ [x]) stk hd.2 (by simp only [List.length_cons] at hdep ⊢; omega) (by simp) hs ht3 (by
      have e1 : acc ++ [x] ++ (y :: r) = acc ++ (x :: y :: r) := by simp
      rw [e1]
      have e2 : (pre ++ txt x ++ [44, 32]).length + (joinS [44, 32] (txts (y :: r))).length = pre.length + (txt x ++ ([44, 32] ++ joinS [44, 32] (txts (y :: r)))).length := by simp; omega
      rw [e2]
      exact k)
    have e : (pre ++ txt x ++ [44, 32]).length = pre.length + (txt x).length + 2 := by simp; omega
    rw [e] at this
    exact this
end
theorem rd_good {d : D} (h : dt d) (hd : d.depth ≤ 40) : RD (txt d) (some d) 0 [[]] true := by
  refine rd_datum (R := some d) d [] [] [] [] h (by simp; omega) (fun c h => by cases h) (by simp) ?_
  exact .fin (by simp) rfl
theorem no1 {t : List Nat} {i c : Nat} {s : List D} (hc : t[i]? = some c) : RD t none i [s] false := by
  refine .bad hc (by unfold c1; rfl) ?_ ?_ (by unfold c4; rfl) rfl
  · unfold c2
    cases (c == 41) <;> rfl
  · unfold c3
    rfl
theorem rd_after {d : D} (h : dt d) (hd : d.depth ≤ 40) {c : Nat} {r : List Nat} (hs : signB c = false) : RD (txt d ++ c :: r) none 0 [[]] true := by
  refine rd_datum (R := none) d [] (c :: r) [] [] h (by simp; omega) (fun c' q => by cases q; exact hs) (by simp) ?_
  exact no1 (c := c) (by simp)
theorem rd_open {d : D} (h : dt d) (hd : d.depth ≤ 39) : RD (40 :: txt d) none 0 [[]] true := by
  refine .opn (c := 40) rfl rfl ?_
  refine rd_datum (R := none) d [40] [] [] [[]] h (by simp; omega) (fun c h => by cases h) (by simp) ?_
  exact .fin (by simp; omega) rfl
theorem rd_comma {d : D} (h : dt d) (hd : d.depth ≤ 39) : RD (40 :: (txt d ++ [44, 41])) none 0 [[]] true := by
  refine .opn (c := 40) rfl rfl ?_
  refine rd_datum (R := none) d [40] [44, 41] [] [[]] h (by simp; omega) (fun c h => by cases h; rfl) (by simp) ?_
  refine .bad (c := 44) ?_ (by unfold c1; rfl) (c2_no (by decide)) ?_ (by unfold c4; rfl) rfl
  · have : (40 :: (txt d ++ [44, 41])) = (40 :: txt d) ++ 44 :: [41] := by simp
    have := get_at this
    simpa [Nat.add_comm] using this
  · unfold c3
    have e : (40 :: (txt d ++ [44, 41])) = (40 :: txt d) ++ [44, 41] := by simp
    have := drop_at e
    rw [List.length_cons] at this
    rw [show [40].length + (txt d).length = (txt d).length + 1 by simp [Nat.add_comm], this]
    rfl
/-! ### other texts, reckoned -/
def rdf (t : List Nat) : Nat → Nat → List (List D) → Bool → Option (Option D)
  | 0, _, _, _ => none
  | f + 1, i, stk, fresh => match t[i]? with
    | none => some (topOf stk)
    | some c => if c1 c stk fresh = true then rdf t f (i + 1) ([] :: stk) true
      else if c2 t i c stk fresh = true then (match stk with
        | top :: nxt :: rest => rdf t f (i + 1) ((nxt ++ [.tup top]) :: rest) false
        | _ => none)
      else if c3 t i stk fresh = true then rdf t f (i + 2) stk true
      else if c4 c fresh = true then (match rp t i with
        | none => some none
        | some (d, j) => if i < j ∧ j ≤ t.length then (match stk with
          | top :: rest => rdf t f j ((top ++ [d]) :: rest) false
          | _ => none) else none)
      else some none
theorem rdf_ok {t : List Nat} {R : Option D} : ∀ (f i : Nat) (stk : List (List D)) (fresh : Bool), rdf t f i stk fresh = some R → RD t R i stk fresh
  | 0, _, _, _, h => by cases h
  | f + 1, i, stk, fresh, h => by
    unfold rdf at h
    split at h
    · rename_i e
      cases h
      exact .fin (by rw [List.getElem?_eq_none_iff] at e; exact e) rfl
    · rename_i c hc
      have b : ∀ {x : Bool}, ¬ x = true → x = false := fun {x} h => by cases x; rfl; exact absurd rfl h
      split at h
      · rename_i h1; exact .opn hc h1 (rdf_ok f _ _ _ h)
      · rename_i h1
        split at h
        · rename_i h2
          split at h
          · exact .cls hc (b h1) h2 (rdf_ok f _ _ _ h)
          · cases h
        · rename_i h2
          split at h
          · rename_i h3; exact .sep hc (b h1) (b h2) h3 (rdf_ok f _ _ _ h)
          · rename_i h3
            split at h
            · rename_i h4
              split at h
              · rename_i h5; cases h; exact .ibad hc (b h1) (b h2) (b h3) h4 h5 rfl
              · rename_i d j h5
                split at h
                · rename_i h6
                  split at h
                  · exact .itm hc (b h1) (b h2) (b h3) h4 h5 h6.1 h6.2 (rdf_ok f _ _ _ h)
                  · cases h
                · cases h
            · rename_i h4; cases h; exact .bad hc (b h1) (b h2) (b h3) (b h4) rfl
def refB (t : List Nat) : Bool := match rdf t (t.length + 1) 0 [[]] true with
  | some none => true
  | _ => false
theorem refB_ok {t : List Nat} (h : refB t = true) : RD t none 0 [[]] true := by
  unfold refB at h
  split at h
  · rename_i e; exact rdf_ok _ _ _ _ e
  · cases h
def bads : List (List Nat) := [[], [40], [41], [40, 49, 44, 50, 41], [40, 49, 44, 32, 41], [40, 49, 32, 50, 41], [40, 49, 41, 50], [39, 97], [97, 39], [40, 41, 40, 41], [40, 44, 41], [40, 32, 49, 41], [39, 97, 39, 39, 98, 39], [40, 49, 44, 32, 32, 50, 41]]
def bads2 : List (List Nat) := [[49, 46, 48], [40, 45, 48, 41], [78, 111, 110, 101]]
theorem bads_ok : bads.all refB = true := by decide +kernel
theorem bads2_ok : bads2.all refB = true := by decide +kernel
def nest : Nat → D → D
  | 0, d => d
  | k + 1, d => .tup [nest k d]
theorem nest_dt {d : D} (h : dt d) : ∀ k, dt (nest k d)
  | 0 => h
  | k + 1 => ⟨nest_dt h k, True.intro⟩
theorem nest_depth {z : Int} : ∀ k, (nest k (.int z)).depth = k
  | 0 => rfl
  | k + 1 => by
    show max (nest k (.int z)).depth 0 + 1 = k + 1
    rw [nest_depth k]
    omega
theorem deep_bad : refB (txt (nest 41 (.int 7))) = true := by decide +kernel
end K00
set_option maxHeartbeats 1000000
/-! Pi00: the law of k00 -/
namespace K00
open PySem DL
section
variable {n : Nat} {τ : Sto} {Q : QD} {X : XD}
theorem b_addL {a b : Addr} {xs ys : List D} (h1 : τ a = some (.lst xs)) (h2 : τ b = some (.lst ys)) : wpBin .add (.ref a) (.ref b) τ Q = (xs.length + ys.length ≤ LIM ∧ ∀ p, τ p = none → Q (.ref p) (put τ p (.lst (xs ++ ys)))) := by
  refine propext ⟨fun ⟨xs', ys', e1, e2, h3⟩ => ?_, fun q => ⟨xs, ys, h1, h2, q⟩⟩
  rw [h1] at e1
  cases e1
  rw [h2] at e2
  cases e2
  exact h3
theorem same_str {l : List Nat} (k : Q (.bl true) τ) : callD P (n + 1) 10 [.str l, .str l] τ Q X := by
  refine call_of (i := i__law_same) rfl rfl rfl ?_
  rw [runD_succ]
  show wpSs _ _ _ b__law_same [some (.str l), some (.str l), none] _ _
  unfold b__law_same
  ((try dsimp only); rw [ss_cons]; simp only [ss_nil, wpS, wpE, wpEs, ofV, ofT, b_addI, b_sub, b_mod, b_pow1018, c_lt, c_le, c_gt, c_ge, c_eqI, c_neI, c_eqS, c_neS, t_bl, t_int, l_tup, f_int, f_abs, bt1, List.getElem?_cons_zero, List.getElem?_cons_succ, List.set_cons_zero, List.set_cons_succ, var_ex, Nat.reduceAdd, put_put, bl_ex, f_divmod, f_str, f_intB, f_intS, f_ord, f_listR, is_tup, is_str, is_int, is_bool, ty_str, m_zfill, m_find, on_zfill, on_join, on_find, on_append, on_pop, bt2, DL.sl_str, pd_no, pd_int, true_and, b_mul, b_fdiv, b_addS, b_addT, if_true, if_false, Tg.slots, wipeD])
  refine ⟨rfl, ?_⟩
  (first | rw [if_neg (by decide)] | rw [if_neg not_false] | skip)
  ((try dsimp only); rw [ss_cons]; simp only [ss_nil, wpS, wpE, wpEs, ofV, ofT, b_addI, b_sub, b_mod, b_pow1018, c_lt, c_le, c_gt, c_ge, c_eqI, c_neI, c_eqS, c_neS, t_bl, t_int, l_tup, f_int, f_abs, bt1, List.getElem?_cons_zero, List.getElem?_cons_succ, List.set_cons_zero, List.set_cons_succ, var_ex, Nat.reduceAdd, put_put, bl_ex, f_divmod, f_str, f_intB, f_intS, f_ord, f_listR, is_tup, is_str, is_int, is_bool, ty_str, m_zfill, m_find, on_zfill, on_join, on_find, on_append, on_pop, bt2, DL.sl_str, pd_no, pd_int, true_and, b_mul, b_fdiv, b_addS, b_addT, if_true, if_false, Tg.slots, wipeD])
  refine ⟨rfl, ?_⟩
  (first | rw [if_pos rfl] | rw [if_pos True.intro] | rw [if_pos (by decide)] | skip)
  ((try dsimp only); rw [ss_cons]; simp only [ss_nil, wpS, wpE, wpEs, ofV, ofT, b_addI, b_sub, b_mod, b_pow1018, c_lt, c_le, c_gt, c_ge, c_eqI, c_neI, c_eqS, c_neS, t_bl, t_int, l_tup, f_int, f_abs, bt1, List.getElem?_cons_zero, List.getElem?_cons_succ, List.set_cons_zero, List.set_cons_succ, var_ex, Nat.reduceAdd, put_put, bl_ex, f_divmod, f_str, f_intB, f_intS, f_ord, f_listR, is_tup, is_str, is_int, is_bool, ty_str, m_zfill, m_find, on_zfill, on_join, on_find, on_append, on_pop, bt2, DL.sl_str, pd_no, pd_int, true_and, b_mul, b_fdiv, b_addS, b_addT, if_true, if_false, Tg.slots, wipeD])
  refine ⟨rfl, ?_⟩
  (first | rw [if_pos rfl] | rw [if_pos True.intro] | rw [if_pos (by decide)] | skip)
  have e : (l == l) = true := by simp
  rw [e]
  exact k
theorem nest_ok {d : D} {many : Nat} (hm : many ≤ 1000) (k : Q (nest many d) τ) : callD P (n + 1) 15 [d, .int many] τ Q X := by
  refine call_of (i := i__law_nested) rfl rfl rfl ?_
  rw [runD_succ]
  show wpSs _ _ _ b__law_nested [some d, some (.int many), none] _ _
  unfold b__law_nested
  ((try dsimp only); rw [ss_cons]; simp only [ss_nil, wpS, wpE, wpEs, ofV, ofT, b_addI, b_sub, b_mod, b_pow1018, c_lt, c_le, c_gt, c_ge, c_eqI, c_neI, c_eqS, c_neS, t_bl, t_int, l_tup, f_int, f_abs, bt1, List.getElem?_cons_zero, List.getElem?_cons_succ, List.set_cons_zero, List.set_cons_succ, var_ex, Nat.reduceAdd, put_put, bl_ex, f_divmod, f_str, f_intB, f_intS, f_ord, f_listR, is_tup, is_str, is_int, is_bool, ty_str, m_zfill, m_find, on_zfill, on_join, on_find, on_append, on_pop, bt2, DL.sl_str, pd_no, pd_int, true_and, b_mul, b_fdiv, b_addS, b_addT, if_true, if_false, Tg.slots, wipeD, it_r1])
  refine ⟨by omega, ?_⟩
  refine for_go (fun ds ρ τ' => ∃ (j : Nat) (u : Option D), ρ = [some (nest j d), some (.int many), u] ∧ τ' = τ ∧ j + ds.length = many) ?_ ?_ _ _ _ ⟨0, none, rfl, rfl, by rw [List.length_map, List.length_range]; omega⟩
  · rintro y ds ρ τ' W ⟨j, u, rfl, rfl, hj⟩ hW
    rw [List.length_cons] at hj
    refine ⟨True.intro, ?_⟩
    (try simp only [ss_nil, wpS, wpE, wpEs, ofV, ofT, b_addI, b_sub, b_mod, b_pow1018, c_lt, c_le, c_gt, c_ge, c_eqI, c_neI, c_eqS, c_neS, t_bl, t_int, l_tup, f_int, f_abs, bt1, List.getElem?_cons_zero, List.getElem?_cons_succ, List.set_cons_zero, List.set_cons_succ, var_ex, Nat.reduceAdd, put_put, bl_ex, f_divmod, f_str, f_intB, f_intS, f_ord, f_listR, is_tup, is_str, is_int, is_bool, ty_str, m_zfill, m_find, on_zfill, on_join, on_find, on_append, on_pop, bt2, DL.sl_str, pd_no, pd_int, true_and, b_mul, b_fdiv, b_addS, b_addT, if_true, if_false, Tg.slots, wipeD])
    ((try dsimp only); rw [ss_cons]; simp only [ss_nil, wpS, wpE, wpEs, ofV, ofT, b_addI, b_sub, b_mod, b_pow1018, c_lt, c_le, c_gt, c_ge, c_eqI, c_neI, c_eqS, c_neS, t_bl, t_int, l_tup, f_int, f_abs, bt1, List.getElem?_cons_zero, List.getElem?_cons_succ, List.set_cons_zero, List.set_cons_succ, var_ex, Nat.reduceAdd, put_put, bl_ex, f_divmod, f_str, f_intB, f_intS, f_ord, f_listR, is_tup, is_str, is_int, is_bool, ty_str, m_zfill, m_find, on_zfill, on_join, on_find, on_append, on_pop, bt2, DL.sl_str, pd_no, pd_int, true_and, b_mul, b_fdiv, b_addS, b_addT, if_true, if_false, Tg.slots, wipeD])
    exact ⟨by show 1 ≤ LIM; decide, hW _ _ ⟨j + 1, _, rfl, rfl, by omega⟩⟩
  · rintro ρ τ' ⟨j, u, rfl, rfl, hj⟩
    refine ⟨True.intro, ?_⟩
    ((try dsimp only); rw [ss_cons]; simp only [ss_nil, wpS, wpE, wpEs, ofV, ofT, b_addI, b_sub, b_mod, b_pow1018, c_lt, c_le, c_gt, c_ge, c_eqI, c_neI, c_eqS, c_neS, t_bl, t_int, l_tup, f_int, f_abs, bt1, List.getElem?_cons_zero, List.getElem?_cons_succ, List.set_cons_zero, List.set_cons_succ, var_ex, Nat.reduceAdd, put_put, bl_ex, f_divmod, f_str, f_intB, f_intS, f_ord, f_listR, is_tup, is_str, is_int, is_bool, ty_str, m_zfill, m_find, on_zfill, on_join, on_find, on_append, on_pop, bt2, DL.sl_str, pd_no, pd_int, true_and, b_mul, b_fdiv, b_addS, b_addT, if_true, if_false, Tg.slots, wipeD])
    have : j = many := by simpa using hj
    rw [this]
    exact k
theorem refI_ok {t : List Nat} (hl : t.length ≤ 100000) (hb : intBad t = true) (k : Q (.bl true) τ) : callD P (n + 3) 16 [.str [105, 110, 116, 101, 103, 101, 114], .str t] τ Q X := by
  refine call_of (i := i__law_refuses_text) rfl rfl rfl ?_
  rw [runD_succ]
  show wpSs _ _ _ b__law_refuses_text [some (.str [105, 110, 116, 101, 103, 101, 114]), some (.str t), none] _ _
  unfold b__law_refuses_text
  ((try dsimp only); rw [ss_cons]; simp only [ss_nil, wpS, wpE, wpEs, ofV, ofT, b_addI, b_sub, b_mod, b_pow1018, c_lt, c_le, c_gt, c_ge, c_eqI, c_neI, c_eqS, c_neS, t_bl, t_int, l_tup, f_int, f_abs, bt1, List.getElem?_cons_zero, List.getElem?_cons_succ, List.set_cons_zero, List.set_cons_succ, var_ex, Nat.reduceAdd, put_put, bl_ex, f_divmod, f_str, f_intB, f_intS, f_ord, f_listR, is_tup, is_str, is_int, is_bool, ty_str, m_zfill, m_find, on_zfill, on_join, on_find, on_append, on_pop, bt2, DL.sl_str, pd_no, pd_int, true_and, b_mul, b_fdiv, b_addS, b_addT, if_true, if_false, Tg.slots, wipeD])
  ((try dsimp only); rw [ss_cons]; simp only [ss_nil, wpS, wpE, wpEs, ofV, ofT, b_addI, b_sub, b_mod, b_pow1018, c_lt, c_le, c_gt, c_ge, c_eqI, c_neI, c_eqS, c_neS, t_bl, t_int, l_tup, f_int, f_abs, bt1, List.getElem?_cons_zero, List.getElem?_cons_succ, List.set_cons_zero, List.set_cons_succ, var_ex, Nat.reduceAdd, put_put, bl_ex, f_divmod, f_str, f_intB, f_intS, f_ord, f_listR, is_tup, is_str, is_int, is_bool, ty_str, m_zfill, m_find, on_zfill, on_join, on_find, on_append, on_pop, bt2, DL.sl_str, pd_no, pd_int, true_and, b_mul, b_fdiv, b_addS, b_addT, if_true, if_false, Tg.slots, wipeD])
  (first | rw [if_pos rfl] | rw [if_pos True.intro] | rw [if_pos (by decide)] | skip)
  ((try dsimp only); rw [ss_cons]; simp only [ss_nil, wpS, wpE, wpEs, ofV, ofT, b_addI, b_sub, b_mod, b_pow1018, c_lt, c_le, c_gt, c_ge, c_eqI, c_neI, c_eqS, c_neS, t_bl, t_int, l_tup, f_int, f_abs, bt1, List.getElem?_cons_zero, List.getElem?_cons_succ, List.set_cons_zero, List.set_cons_succ, var_ex, Nat.reduceAdd, put_put, bl_ex, f_divmod, f_str, f_intB, f_intS, f_ord, f_listR, is_tup, is_str, is_int, is_bool, ty_str, m_zfill, m_find, on_zfill, on_join, on_find, on_append, on_pop, bt2, DL.sl_str, pd_no, pd_int, true_and, b_mul, b_fdiv, b_addS, b_addT, if_true, if_false, Tg.slots, wipeD])
  refine ri_ok hl (fun h => by rw [hb] at h; cases h) fun _ => ⟨by decide, ?_⟩
  rw [if_pos (by decide)]
  exact ⟨by show 2 < 3; decide, rfl, by decide, k⟩
theorem refD_ok {t : List Nat} (hl : t.length ≤ 100000) (hb : RD t none 0 [[]] true) (k : ∀ τ', Ext τ τ' → Q (.bl true) τ') : callD P (n + 4) 16 [.str [100, 97, 116, 97], .str t] τ Q X := by
  refine call_of (i := i__law_refuses_text) rfl rfl rfl ?_
  rw [runD_succ]
  show wpSs _ _ _ b__law_refuses_text [some (.str [100, 97, 116, 97]), some (.str t), none] _ _
  unfold b__law_refuses_text
  ((try dsimp only); rw [ss_cons]; simp only [ss_nil, wpS, wpE, wpEs, ofV, ofT, b_addI, b_sub, b_mod, b_pow1018, c_lt, c_le, c_gt, c_ge, c_eqI, c_neI, c_eqS, c_neS, t_bl, t_int, l_tup, f_int, f_abs, bt1, List.getElem?_cons_zero, List.getElem?_cons_succ, List.set_cons_zero, List.set_cons_succ, var_ex, Nat.reduceAdd, put_put, bl_ex, f_divmod, f_str, f_intB, f_intS, f_ord, f_listR, is_tup, is_str, is_int, is_bool, ty_str, m_zfill, m_find, on_zfill, on_join, on_find, on_append, on_pop, bt2, DL.sl_str, pd_no, pd_int, true_and, b_mul, b_fdiv, b_addS, b_addT, if_true, if_false, Tg.slots, wipeD])
  ((try dsimp only); rw [ss_cons]; simp only [ss_nil, wpS, wpE, wpEs, ofV, ofT, b_addI, b_sub, b_mod, b_pow1018, c_lt, c_le, c_gt, c_ge, c_eqI, c_neI, c_eqS, c_neS, t_bl, t_int, l_tup, f_int, f_abs, bt1, List.getElem?_cons_zero, List.getElem?_cons_succ, List.set_cons_zero, List.set_cons_succ, var_ex, Nat.reduceAdd, put_put, bl_ex, f_divmod, f_str, f_intB, f_intS, f_ord, f_listR, is_tup, is_str, is_int, is_bool, ty_str, m_zfill, m_find, on_zfill, on_join, on_find, on_append, on_pop, bt2, DL.sl_str, pd_no, pd_int, true_and, b_mul, b_fdiv, b_addS, b_addT, if_true, if_false, Tg.slots, wipeD])
  (first | rw [if_neg (by decide)] | rw [if_neg not_false] | skip)
  ((try dsimp only); rw [ss_cons]; simp only [ss_nil, wpS, wpE, wpEs, ofV, ofT, b_addI, b_sub, b_mod, b_pow1018, c_lt, c_le, c_gt, c_ge, c_eqI, c_neI, c_eqS, c_neS, t_bl, t_int, l_tup, f_int, f_abs, bt1, List.getElem?_cons_zero, List.getElem?_cons_succ, List.set_cons_zero, List.set_cons_succ, var_ex, Nat.reduceAdd, put_put, bl_ex, f_divmod, f_str, f_intB, f_intS, f_ord, f_listR, is_tup, is_str, is_int, is_bool, ty_str, m_zfill, m_find, on_zfill, on_join, on_find, on_append, on_pop, bt2, DL.sl_str, pd_no, pd_int, true_and, b_mul, b_fdiv, b_addS, b_addT, if_true, if_false, Tg.slots, wipeD])
  refine rd_ok hl hb (fun d τ' h => by cases h) fun τ' _ e => ⟨by decide, ?_⟩
  rw [if_pos (by decide)]
  exact ⟨by show 2 < 3; decide, rfl, by decide, k τ' e⟩
/-! ### what is bad -/
theorem bad_i (z : Int) : ∀ d ∈ ([.str [], .str [45], .str [45, 48], .str [43, 49], .str [48, 48], .str ([48] ++ numT z), .str (numT z ++ [32]), .str ([32] ++ numT z), .str (numT z ++ [45]), .str [45, 45, 49], .str [49, 32, 50], .str [49, 95, 48], .str [120]] : List D),
    ∃ t, d = .str t ∧ intBad t = true ∧ t.length ≤ (numT z).length + 10 := by
  have hg := (numT_good z).1
  obtain ⟨c, r, e⟩ : ∃ c r, numT z = c :: r := by
    cases e : numT z with
    | nil => rw [e] at hg; cases hg
    | cons c r => exact ⟨c, r, rfl⟩
  have hend : ∀ x : Nat, isFig x = False → intBad (numT z ++ [x]) = true := fun x hx => by
    have hnot : (decide (48 ≤ x) && decide (x ≤ 57)) = false := by
      by_cases h1 : 48 ≤ x
      · by_cases h2 : x ≤ 57
        · exact absurd (show isFig x from ⟨h1, h2⟩) (by rw [hx]; exact id)
        · rw [decide_eq_false h2]; simp
      · rw [decide_eq_false h1]; rfl
    have hall : (dig (numT z ++ [x])).all (fun c => decide (48 ≤ c) && decide (c ≤ 57)) = false := by
      have : ∃ l, dig (numT z ++ [x]) = l ++ [x] := by
        rw [e]
        unfold dig
        split
        · exact ⟨r, rfl⟩
        · exact ⟨c :: r, rfl⟩
      obtain ⟨l, hl⟩ := this
      rw [hl, List.all_append]
      simp only [List.all_cons, List.all_nil, hnot]
      simp
    unfold intBad
    rw [hall]
    simp
  intro d hd
  simp only [List.mem_cons, List.not_mem_nil, or_false] at hd
  rcases hd with rfl | rfl | rfl | rfl | rfl | rfl | rfl | rfl | rfl | rfl | rfl | rfl | rfl
  · exact ⟨_, rfl, by decide, by simp⟩
  · exact ⟨_, rfl, by decide, by simp⟩
  · exact ⟨_, rfl, by decide, by simp⟩
  · exact ⟨_, rfl, by decide, by simp⟩
  · exact ⟨_, rfl, by decide, by simp⟩
  · refine ⟨_, rfl, ?_, by simp⟩
    rw [e]
    unfold intBad
    have hdg : dig ([48] ++ c :: r) = 48 :: c :: r := rfl
    rw [hdg]
    have : (([48] ++ c :: r : List Nat) != [48]) = true := by simp
    rw [this]
    rfl
  · exact ⟨_, rfl, hend 32 (by unfold isFig; simp), by simp⟩
  · refine ⟨_, rfl, ?_, by simp⟩
    unfold intBad
    have hdg : dig ([32] ++ numT z) = 32 :: numT z := rfl
    rw [hdg]
    simp
  · exact ⟨_, rfl, hend 45 (by unfold isFig; simp), by simp⟩
  · exact ⟨_, rfl, by decide, by simp⟩
  · exact ⟨_, rfl, by decide, by simp⟩
  · exact ⟨_, rfl, by decide, by simp⟩
  · exact ⟨_, rfl, by decide, by simp⟩
theorem bad_d {d : D} (h : dt d) (hd : d.depth ≤ 39) : ∀ x ∈ (bads.map D.str ++ [.str (txt d ++ [32]), .str ([40] ++ txt d), .str (txt d ++ [41]), .str (txt d ++ [44, 32, 49]), .str ([40] ++ txt d ++ [44, 41]), .str [49, 46, 48], .str [40, 45, 48, 41], .str [78, 111, 110, 101]] : List D),
    ∃ t, x = .str t ∧ RD t none 0 [[]] true ∧ t.length ≤ (txt d).length + 10 := by
  intro x hx
  rcases List.mem_append.mp hx with hx | hx
  · obtain ⟨t, ht, rfl⟩ := List.mem_map.mp hx
    refine ⟨t, rfl, refB_ok (List.all_eq_true.mp bads_ok t ht), ?_⟩
    have : ∀ t ∈ bads, t.length ≤ 10 := by decide
    have := this t ht
    omega
  · simp only [List.mem_cons, List.not_mem_nil, or_false] at hx
    rcases hx with rfl | rfl | rfl | rfl | rfl | rfl | rfl | rfl
    · exact ⟨_, rfl, rd_after h (by omega) (by decide), by simp⟩
    · exact ⟨_, rfl, rd_open h hd, by simp⟩
    · exact ⟨_, rfl, rd_after h (by omega) (by decide), by simp⟩
    · exact ⟨_, rfl, rd_after h (by omega) (by decide), by simp⟩
    · refine ⟨_, rfl, ?_, by simp⟩
      have := rd_comma h hd
      simpa using this
    · exact ⟨_, rfl, refB_ok (List.all_eq_true.mp bads2_ok _ (by simp [bads2])), by simp⟩
    · exact ⟨_, rfl, refB_ok (List.all_eq_true.mp bads2_ok _ (by simp [bads2])), by simp⟩
    · exact ⟨_, rfl, refB_ok (List.all_eq_true.mp bads2_ok _ (by simp [bads2])), by simp⟩
/-! ### the law -/
def numSix (z : Int) : List D := [.str [], .str [45], .str [45, 48], .str [43, 49], .str [48, 48], .str ([48] ++ numT z), .str (numT z ++ [32]), .str ([32] ++ numT z), .str (numT z ++ [45]), .str [45, 45, 49], .str [49, 32, 50], .str [49, 95, 48], .str [120]]
structure LwI (ns : List Int) (a b : Addr) (ds : List D) (ρ : DL.Loc) (τ : Sto) : Prop where
  ex : ∃ (m : Nat) (u2 u3 u4 u5 u6 : Option D), ρ = [some (.rol ns), some (.ref a), u2, u3, u4, u5, u6, none] ∧ Dr τ a b m ∧ m + 20000 * ds.length ≤ 80000
def b_law2 : Ss :=
  .cons (.asg (.name 7) (.call 15 (.cons (.cst (.int (7))) (.cons (.cst (.int (40))) .nil)))) <|
  .cons (.iff (.not (.call 10 (.cons (.call 5 (.cons (.call 2 (.cons (.var 7) .nil)) .nil)) (.cons (.var 7) .nil)))) (.cons (.ret (.cst (.bl false))) .nil) .nil) <|
  .cons (.ret (.call 16 (.cons (.cst (.str [100, 97, 116, 97])) (.cons (.call 14 (.cons (.call 15 (.cons (.cst (.int (7))) (.cons (.cst (.int (41))) .nil))) .nil)) .nil)))) <| .nil
theorem deep40 : dt (nest 40 (.int 7)) := nest_dt (d := .int 7) (by unfold dt; decide +kernel) 40
theorem deep41 : dt (nest 41 (.int 7)) := nest_dt (d := .int 7) (by unfold dt; decide +kernel) 41
theorem len40 : (txt (nest 40 (.int 7))).length ≤ 1000 := by decide +kernel
theorem len41 : (txt (nest 41 (.int 7))).length ≤ 1000 := by decide +kernel
theorem law2_ok {K : Ks} {x u1 u2 u3 u4 u5 u6 u7 : Option D} (k : ∀ τ', K.rt (.bl true) τ') : wpSs P.cls (callD P 199) P.xcs b_law2 [x, u1, u2, u3, u4, u5, u6, u7] τ K := by
  unfold b_law2
  ((try dsimp only); rw [ss_cons]; simp only [ss_nil, wpS, wpE, wpEs, ofV, ofT, b_addI, b_sub, b_mod, b_pow1018, c_lt, c_le, c_gt, c_ge, c_eqI, c_neI, c_eqS, c_neS, t_bl, t_int, l_tup, f_int, f_abs, bt1, List.getElem?_cons_zero, List.getElem?_cons_succ, List.set_cons_zero, List.set_cons_succ, var_ex, Nat.reduceAdd, put_put, bl_ex, f_divmod, f_str, f_intB, f_intS, f_ord, f_listR, is_tup, is_str, is_int, is_bool, ty_str, m_zfill, m_find, on_zfill, on_join, on_find, on_append, on_pop, bt2, DL.sl_str, pd_no, pd_int, true_and, b_mul, b_fdiv, b_addS, b_addT, if_true, if_false, Tg.slots, wipeD])
  refine nest_ok (n := 198) (many := 40) (by decide) ?_
  ((try dsimp only); rw [ss_cons]; simp only [ss_nil, wpS, wpE, wpEs, ofV, ofT, b_addI, b_sub, b_mod, b_pow1018, c_lt, c_le, c_gt, c_ge, c_eqI, c_neI, c_eqS, c_neS, t_bl, t_int, l_tup, f_int, f_abs, bt1, List.getElem?_cons_zero, List.getElem?_cons_succ, List.set_cons_zero, List.set_cons_succ, var_ex, Nat.reduceAdd, put_put, bl_ex, f_divmod, f_str, f_intB, f_intS, f_ord, f_listR, is_tup, is_str, is_int, is_bool, ty_str, m_zfill, m_find, on_zfill, on_join, on_find, on_append, on_pop, bt2, DL.sl_str, pd_no, pd_int, true_and, b_mul, b_fdiv, b_addS, b_addT, if_true, if_false, Tg.slots, wipeD])
  refine wd_ok 40 156 _ _ _ _ deep40 (by rw [nest_depth]; decide) (Nat.le_trans len40 (by decide)) fun τ1 e1 => ?_
  refine rd_ok (n := 196) (Nat.le_trans len40 (by decide)) (rd_good deep40 (by rw [nest_depth]; decide)) (fun d τ2 hd e2 => ?_) (fun τ2 h => by cases h)
  cases hd
  refine same_ok 40 156 _ _ _ _ deep40 (by rw [nest_depth]; decide) (Nat.le_trans len40 (by decide)) fun τ3 e3 => ?_
  (try simp only [ss_nil, wpS, wpE, wpEs, ofV, ofT, b_addI, b_sub, b_mod, b_pow1018, c_lt, c_le, c_gt, c_ge, c_eqI, c_neI, c_eqS, c_neS, t_bl, t_int, l_tup, f_int, f_abs, bt1, List.getElem?_cons_zero, List.getElem?_cons_succ, List.set_cons_zero, List.set_cons_succ, var_ex, Nat.reduceAdd, put_put, bl_ex, f_divmod, f_str, f_intB, f_intS, f_ord, f_listR, is_tup, is_str, is_int, is_bool, ty_str, m_zfill, m_find, on_zfill, on_join, on_find, on_append, on_pop, bt2, DL.sl_str, pd_no, pd_int, true_and, b_mul, b_fdiv, b_addS, b_addT, if_true, if_false, Tg.slots, wipeD])
  (first | rw [if_neg (by decide)] | rw [if_neg not_false] | skip)
  ((try dsimp only); rw [ss_cons]; simp only [ss_nil, wpS, wpE, wpEs, ofV, ofT, b_addI, b_sub, b_mod, b_pow1018, c_lt, c_le, c_gt, c_ge, c_eqI, c_neI, c_eqS, c_neS, t_bl, t_int, l_tup, f_int, f_abs, bt1, List.getElem?_cons_zero, List.getElem?_cons_succ, List.set_cons_zero, List.set_cons_succ, var_ex, Nat.reduceAdd, put_put, bl_ex, f_divmod, f_str, f_intB, f_intS, f_ord, f_listR, is_tup, is_str, is_int, is_bool, ty_str, m_zfill, m_find, on_zfill, on_join, on_find, on_append, on_pop, bt2, DL.sl_str, pd_no, pd_int, true_and, b_mul, b_fdiv, b_addS, b_addT, if_true, if_false, Tg.slots, wipeD])
  refine nest_ok (n := 198) (many := 41) (by decide) ?_
  refine dx_ok 41 155 _ _ _ _ deep41 (by rw [nest_depth]; decide) (Nat.le_trans len41 (by decide)) fun τ4 e4 => ?_
  exact refD_ok (n := 195) (Nat.le_trans len41 (by decide)) (refB_ok deep_bad) fun τ5 e5 => k _
theorem pick2 {a b p : Addr} {m : Nat} {x y : D} {K : QD} (h : Dr τ a b m) (hp : τ p = none) (hm : m < 2 ^ 1000) (k : ∀ d τ', d = x ∨ d = y → Dr τ' a b (m + 1) → K d τ') :
    callD P (n + 1) 7 [.ref a, .int 2] (put τ p (.lst [x, y])) (fun c τ' => wpIdx (.ref p) c τ' K) X := by
  have hpa := h.ne hp
  refine dr_ok (h.put hp) (by decide) (by decide) hm fun c τ3 c0 c1 hd3 he3 => ?_
  have hl3 : τ3 p = some (.lst [x, y]) := he3 _ _ hpa put_same
  have hc : c = 0 ∨ c = 1 := by omega
  rcases hc with rfl | rfl
  · rw [i_lst hl3 at20]
    exact k _ _ (.inl rfl) hd3
  · rw [i_lst hl3 at21]
    exact k _ _ (.inr rfl) hd3
theorem law_ok (ns : List Int) : runD P 200 i_law [.rol ns] (fun _ => none) (fun d _ => d = .bl true) fun _ _ => False := by
  rw [show 200 = 199 + 1 from rfl, runD_succ]
  show wpSs _ _ _ b_law [some (.rol ns), none, none, none, none, none, none, none] _ _
  unfold b_law
  ((try dsimp only); rw [ss_cons]; simp only [ss_nil, wpS, wpE, wpEs, ofV, ofT, b_addI, b_sub, b_mod, b_pow1018, c_lt, c_le, c_gt, c_ge, c_eqI, c_neI, c_eqS, c_neS, t_bl, t_int, l_tup, f_int, f_abs, bt1, List.getElem?_cons_zero, List.getElem?_cons_succ, List.set_cons_zero, List.set_cons_succ, var_ex, Nat.reduceAdd, put_put, bl_ex, f_divmod, f_str, f_intB, f_intS, f_ord, f_listR, is_tup, is_str, is_int, is_bool, ty_str, m_zfill, m_find, on_zfill, on_join, on_find, on_append, on_pop, bt2, DL.sl_str, pd_no, pd_int, true_and, b_mul, b_fdiv, b_addS, b_addT, if_true, if_false, Tg.slots, wipeD])
  refine start_ok (n := 198) fun a b τ0 h0 _ => ?_
  (try simp only [ss_nil, wpS, wpE, wpEs, ofV, ofT, b_addI, b_sub, b_mod, b_pow1018, c_lt, c_le, c_gt, c_ge, c_eqI, c_neI, c_eqS, c_neS, t_bl, t_int, l_tup, f_int, f_abs, bt1, List.getElem?_cons_zero, List.getElem?_cons_succ, List.set_cons_zero, List.set_cons_succ, var_ex, Nat.reduceAdd, put_put, bl_ex, f_divmod, f_str, f_intB, f_intS, f_ord, f_listR, is_tup, is_str, is_int, is_bool, ty_str, m_zfill, m_find, on_zfill, on_join, on_find, on_append, on_pop, bt2, DL.sl_str, pd_no, pd_int, true_and, b_mul, b_fdiv, b_addS, b_addT, if_true, if_false, Tg.slots, wipeD])
  ((try dsimp only); rw [ss_cons]; simp only [ss_nil, wpS, wpE, wpEs, ofV, ofT, b_addI, b_sub, b_mod, b_pow1018, c_lt, c_le, c_gt, c_ge, c_eqI, c_neI, c_eqS, c_neS, t_bl, t_int, l_tup, f_int, f_abs, bt1, List.getElem?_cons_zero, List.getElem?_cons_succ, List.set_cons_zero, List.set_cons_succ, var_ex, Nat.reduceAdd, put_put, bl_ex, f_divmod, f_str, f_intB, f_intS, f_ord, f_listR, is_tup, is_str, is_int, is_bool, ty_str, m_zfill, m_find, on_zfill, on_join, on_find, on_append, on_pop, bt2, DL.sl_str, pd_no, pd_int, true_and, b_mul, b_fdiv, b_addS, b_addT, if_true, if_false, Tg.slots, wipeD, it_r1])
  refine ⟨by decide, ?_⟩
  refine for_go (LwI ns a b) ?_ ?_ _ _ _ ⟨0, none, none, none, none, none, rfl, h0, by decide⟩
  · rintro dd ds ρ τ1 W ⟨m, u2, u3, u4, u5, u6, rfl, h1, hm⟩ hW
    rw [List.length_cons] at hm
    have hB : (100000 : Nat) < 2 ^ 1000 := by decide +kernel
    have hmB : m + 20000 < 2 ^ 1000 := Nat.lt_of_le_of_lt (by omega) hB
    clear hB
    refine ⟨True.intro, ?_⟩
    (try simp only [ss_nil, wpS, wpE, wpEs, ofV, ofT, b_addI, b_sub, b_mod, b_pow1018, c_lt, c_le, c_gt, c_ge, c_eqI, c_neI, c_eqS, c_neS, t_bl, t_int, l_tup, f_int, f_abs, bt1, List.getElem?_cons_zero, List.getElem?_cons_succ, List.set_cons_zero, List.set_cons_succ, var_ex, Nat.reduceAdd, put_put, bl_ex, f_divmod, f_str, f_intB, f_intS, f_ord, f_listR, is_tup, is_str, is_int, is_bool, ty_str, m_zfill, m_find, on_zfill, on_join, on_find, on_append, on_pop, bt2, DL.sl_str, pd_no, pd_int, true_and, b_mul, b_fdiv, b_addS, b_addT, if_true, if_false, Tg.slots, wipeD])
    ((try dsimp only); rw [ss_cons]; simp only [ss_nil, wpS, wpE, wpEs, ofV, ofT, b_addI, b_sub, b_mod, b_pow1018, c_lt, c_le, c_gt, c_ge, c_eqI, c_neI, c_eqS, c_neS, t_bl, t_int, l_tup, f_int, f_abs, bt1, List.getElem?_cons_zero, List.getElem?_cons_succ, List.set_cons_zero, List.set_cons_succ, var_ex, Nat.reduceAdd, put_put, bl_ex, f_divmod, f_str, f_intB, f_intS, f_ord, f_listR, is_tup, is_str, is_int, is_bool, ty_str, m_zfill, m_find, on_zfill, on_join, on_find, on_append, on_pop, bt2, DL.sl_str, pd_no, pd_int, true_and, b_mul, b_fdiv, b_addS, b_addT, if_true, if_false, Tg.slots, wipeD])
    refine dr_ok (n := 198) h1 (by decide) (by decide) (by omega) fun d0 τ2 d1 d2 h2 _ => ?_
    (try simp only [ss_nil, wpS, wpE, wpEs, ofV, ofT, b_addI, b_sub, b_mod, b_pow1018, c_lt, c_le, c_gt, c_ge, c_eqI, c_neI, c_eqS, c_neS, t_bl, t_int, l_tup, f_int, f_abs, bt1, List.getElem?_cons_zero, List.getElem?_cons_succ, List.set_cons_zero, List.set_cons_succ, var_ex, Nat.reduceAdd, put_put, bl_ex, f_divmod, f_str, f_intB, f_intS, f_ord, f_listR, is_tup, is_str, is_int, is_bool, ty_str, m_zfill, m_find, on_zfill, on_join, on_find, on_append, on_pop, bt2, DL.sl_str, pd_no, pd_int, true_and, b_mul, b_fdiv, b_addS, b_addT, if_true, if_false, Tg.slots, wipeD])
    refine long_ok (n := 197) (most := 30) h2 (by decide) (by decide) (by omega) fun z τ3 hz h3 _ => ?_
    refine ⟨by show 2 ≤ LIM; decide, fun p hp => ?_⟩
    refine pick2 (n := 198) h3 hp (by omega) fun v τ4 hv h4 => ?_
    obtain ⟨w, rfl, hw⟩ : ∃ w : Int, v = .int w ∧ w.natAbs < 10 ^ 558 := by
      rcases hv with rfl | rfl
      · exact ⟨_, rfl, Nat.lt_of_lt_of_le (show (d0 - 20).natAbs < 10 ^ 3 by omega) (Nat.pow_le_pow_right (by decide) (by decide))⟩
      · exact ⟨_, rfl, hz⟩
    have hw2 : w.natAbs < 10 ^ 1000 := Nat.lt_of_lt_of_le hw (Nat.pow_le_pow_right (by decide) (by decide))
    have hwl : (numT w).length ≤ 559 := numT_len (by decide) hw
    ((try dsimp only); rw [ss_cons]; simp only [ss_nil, wpS, wpE, wpEs, ofV, ofT, b_addI, b_sub, b_mod, b_pow1018, c_lt, c_le, c_gt, c_ge, c_eqI, c_neI, c_eqS, c_neS, t_bl, t_int, l_tup, f_int, f_abs, bt1, List.getElem?_cons_zero, List.getElem?_cons_succ, List.set_cons_zero, List.set_cons_succ, var_ex, Nat.reduceAdd, put_put, bl_ex, f_divmod, f_str, f_intB, f_intS, f_ord, f_listR, is_tup, is_str, is_int, is_bool, ty_str, m_zfill, m_find, on_zfill, on_join, on_find, on_append, on_pop, bt2, DL.sl_str, pd_no, pd_int, true_and, b_mul, b_fdiv, b_addS, b_addT, if_true, if_false, Tg.slots, wipeD])
    refine fo_ok (n := 198) hw2 ?_
    ((try dsimp only); rw [ss_cons]; simp only [ss_nil, wpS, wpE, wpEs, ofV, ofT, b_addI, b_sub, b_mod, b_pow1018, c_lt, c_le, c_gt, c_ge, c_eqI, c_neI, c_eqS, c_neS, t_bl, t_int, l_tup, f_int, f_abs, bt1, List.getElem?_cons_zero, List.getElem?_cons_succ, List.set_cons_zero, List.set_cons_succ, var_ex, Nat.reduceAdd, put_put, bl_ex, f_divmod, f_str, f_intB, f_intS, f_ord, f_listR, is_tup, is_str, is_int, is_bool, ty_str, m_zfill, m_find, on_zfill, on_join, on_find, on_append, on_pop, bt2, DL.sl_str, pd_no, pd_int, true_and, b_mul, b_fdiv, b_addS, b_addT, if_true, if_false, Tg.slots, wipeD])
    refine wi_ok (n := 197) hw2 fun τ5 e5 => ?_
    have h5 := h4.ext e5
    refine same_str (n := 198) ?_
    (try simp only [ss_nil, wpS, wpE, wpEs, ofV, ofT, b_addI, b_sub, b_mod, b_pow1018, c_lt, c_le, c_gt, c_ge, c_eqI, c_neI, c_eqS, c_neS, t_bl, t_int, l_tup, f_int, f_abs, bt1, List.getElem?_cons_zero, List.getElem?_cons_succ, List.set_cons_zero, List.set_cons_succ, var_ex, Nat.reduceAdd, put_put, bl_ex, f_divmod, f_str, f_intB, f_intS, f_ord, f_listR, is_tup, is_str, is_int, is_bool, ty_str, m_zfill, m_find, on_zfill, on_join, on_find, on_append, on_pop, bt2, DL.sl_str, pd_no, pd_int, true_and, b_mul, b_fdiv, b_addS, b_addT, if_true, if_false, Tg.slots, wipeD])
    (first | rw [if_neg (by decide)] | rw [if_neg not_false] | skip)
    refine ri_ok (n := 198) (by omega) (fun _ => ?_) (fun h => by rw [(numT_good w).1] at h; cases h)
    rw [(numT_good w).2]
    refine same_ok 0 196 (.int w) _ _ _ hw2 (Nat.le_refl _) (Nat.le_trans hwl (by decide)) fun τ6 e6 => ?_
    have h6 := h5.ext e6
    (try simp only [ss_nil, wpS, wpE, wpEs, ofV, ofT, b_addI, b_sub, b_mod, b_pow1018, c_lt, c_le, c_gt, c_ge, c_eqI, c_neI, c_eqS, c_neS, t_bl, t_int, l_tup, f_int, f_abs, bt1, List.getElem?_cons_zero, List.getElem?_cons_succ, List.set_cons_zero, List.set_cons_succ, var_ex, Nat.reduceAdd, put_put, bl_ex, f_divmod, f_str, f_intB, f_intS, f_ord, f_listR, is_tup, is_str, is_int, is_bool, ty_str, m_zfill, m_find, on_zfill, on_join, on_find, on_append, on_pop, bt2, DL.sl_str, pd_no, pd_int, true_and, b_mul, b_fdiv, b_addS, b_addT, if_true, if_false, Tg.slots, wipeD])
    (first | rw [if_neg (by decide)] | rw [if_neg not_false] | skip)
    ((try dsimp only); rw [ss_cons]; simp only [ss_nil, wpS, wpE, wpEs, ofV, ofT, b_addI, b_sub, b_mod, b_pow1018, c_lt, c_le, c_gt, c_ge, c_eqI, c_neI, c_eqS, c_neS, t_bl, t_int, l_tup, f_int, f_abs, bt1, List.getElem?_cons_zero, List.getElem?_cons_succ, List.set_cons_zero, List.set_cons_succ, var_ex, Nat.reduceAdd, put_put, bl_ex, f_divmod, f_str, f_intB, f_intS, f_ord, f_listR, is_tup, is_str, is_int, is_bool, ty_str, m_zfill, m_find, on_zfill, on_join, on_find, on_append, on_pop, bt2, DL.sl_str, pd_no, pd_int, true_and, b_mul, b_fdiv, b_addS, b_addT, if_true, if_false, Tg.slots, wipeD])
    refine ⟨by unfold LIM; simp; omega, by unfold LIM; simp; omega, by unfold LIM; simp; omega, by unfold LIM; simp; omega, by show 13 ≤ LIM; decide, fun p7 hp7 => ?_⟩
    have h7 := h6.put (o := .lst (numSix w)) hp7
    have hl7 : put τ6 p7 (.lst (numSix w)) p7 = some (.lst (numSix w)) := put_same
    ((try dsimp only); rw [ss_cons]; simp only [ss_nil, wpS, wpE, wpEs, ofV, ofT, b_addI, b_sub, b_mod, b_pow1018, c_lt, c_le, c_gt, c_ge, c_eqI, c_neI, c_eqS, c_neS, t_bl, t_int, l_tup, f_int, f_abs, bt1, List.getElem?_cons_zero, List.getElem?_cons_succ, List.set_cons_zero, List.set_cons_succ, var_ex, Nat.reduceAdd, put_put, bl_ex, f_divmod, f_str, f_intB, f_intS, f_ord, f_listR, is_tup, is_str, is_int, is_bool, ty_str, m_zfill, m_find, on_zfill, on_join, on_find, on_append, on_pop, bt2, DL.sl_str, pd_no, pd_int, true_and, b_mul, b_fdiv, b_addS, b_addT, if_true, if_false, Tg.slots, wipeD])
    refine one_ok (n := 197) h7 hl7 (h6.ne hp7) (by show 0 < 13; decide) (by show 13 < 1000000; decide) (by omega) fun x τ8 hx h8 _ => ?_
    obtain ⟨t, rfl, hbt, htl⟩ := bad_i w x hx
    refine refI_ok (n := 196) (by omega) hbt ?_
    (try simp only [ss_nil, wpS, wpE, wpEs, ofV, ofT, b_addI, b_sub, b_mod, b_pow1018, c_lt, c_le, c_gt, c_ge, c_eqI, c_neI, c_eqS, c_neS, t_bl, t_int, l_tup, f_int, f_abs, bt1, List.getElem?_cons_zero, List.getElem?_cons_succ, List.set_cons_zero, List.set_cons_succ, var_ex, Nat.reduceAdd, put_put, bl_ex, f_divmod, f_str, f_intB, f_intS, f_ord, f_listR, is_tup, is_str, is_int, is_bool, ty_str, m_zfill, m_find, on_zfill, on_join, on_find, on_append, on_pop, bt2, DL.sl_str, pd_no, pd_int, true_and, b_mul, b_fdiv, b_addS, b_addT, if_true, if_false, Tg.slots, wipeD])
    (first | rw [if_neg (by decide)] | rw [if_neg not_false] | skip)
    ((try dsimp only); rw [ss_cons]; simp only [ss_nil, wpS, wpE, wpEs, ofV, ofT, b_addI, b_sub, b_mod, b_pow1018, c_lt, c_le, c_gt, c_ge, c_eqI, c_neI, c_eqS, c_neS, t_bl, t_int, l_tup, f_int, f_abs, bt1, List.getElem?_cons_zero, List.getElem?_cons_succ, List.set_cons_zero, List.set_cons_succ, var_ex, Nat.reduceAdd, put_put, bl_ex, f_divmod, f_str, f_intB, f_intS, f_ord, f_listR, is_tup, is_str, is_int, is_bool, ty_str, m_zfill, m_find, on_zfill, on_join, on_find, on_append, on_pop, bt2, DL.sl_str, pd_no, pd_int, true_and, b_mul, b_fdiv, b_addS, b_addT, if_true, if_false, Tg.slots, wipeD])
    refine sd_ok 4 191 _ a b _ _ _ (Nat.le_refl _) h8 (by show m + 1 + 40 + 1 + 1 + 60 * 256 < _; omega) fun g τ9 hg h9 _ => ?_
    have h9 : Dr τ9 a b (m + 1 + 40 + 1 + 1 + 60 * 256) := h9
    have hgl : (txt g).length ≤ 51200 := hg.ln
    have hgd := hg.dp
    ((try dsimp only); rw [ss_cons]; simp only [ss_nil, wpS, wpE, wpEs, ofV, ofT, b_addI, b_sub, b_mod, b_pow1018, c_lt, c_le, c_gt, c_ge, c_eqI, c_neI, c_eqS, c_neS, t_bl, t_int, l_tup, f_int, f_abs, bt1, List.getElem?_cons_zero, List.getElem?_cons_succ, List.set_cons_zero, List.set_cons_succ, var_ex, Nat.reduceAdd, put_put, bl_ex, f_divmod, f_str, f_intB, f_intS, f_ord, f_listR, is_tup, is_str, is_int, is_bool, ty_str, m_zfill, m_find, on_zfill, on_join, on_find, on_append, on_pop, bt2, DL.sl_str, pd_no, pd_int, true_and, b_mul, b_fdiv, b_addS, b_addT, if_true, if_false, Tg.slots, wipeD])
    refine dx_ok 4 192 g _ _ _ hg.dt hgd (by omega) fun τ10 e10 => ?_
    have h10 := h9.ext e10
    ((try dsimp only); rw [ss_cons]; simp only [ss_nil, wpS, wpE, wpEs, ofV, ofT, b_addI, b_sub, b_mod, b_pow1018, c_lt, c_le, c_gt, c_ge, c_eqI, c_neI, c_eqS, c_neS, t_bl, t_int, l_tup, f_int, f_abs, bt1, List.getElem?_cons_zero, List.getElem?_cons_succ, List.set_cons_zero, List.set_cons_succ, var_ex, Nat.reduceAdd, put_put, bl_ex, f_divmod, f_str, f_intB, f_intS, f_ord, f_listR, is_tup, is_str, is_int, is_bool, ty_str, m_zfill, m_find, on_zfill, on_join, on_find, on_append, on_pop, bt2, DL.sl_str, pd_no, pd_int, true_and, b_mul, b_fdiv, b_addS, b_addT, if_true, if_false, Tg.slots, wipeD])
    refine wd_ok 4 192 g _ _ _ hg.dt hgd (by omega) fun τ11 e11 => ?_
    have h11 := h10.ext e11
    refine same_str (n := 198) ?_
    (try simp only [ss_nil, wpS, wpE, wpEs, ofV, ofT, b_addI, b_sub, b_mod, b_pow1018, c_lt, c_le, c_gt, c_ge, c_eqI, c_neI, c_eqS, c_neS, t_bl, t_int, l_tup, f_int, f_abs, bt1, List.getElem?_cons_zero, List.getElem?_cons_succ, List.set_cons_zero, List.set_cons_succ, var_ex, Nat.reduceAdd, put_put, bl_ex, f_divmod, f_str, f_intB, f_intS, f_ord, f_listR, is_tup, is_str, is_int, is_bool, ty_str, m_zfill, m_find, on_zfill, on_join, on_find, on_append, on_pop, bt2, DL.sl_str, pd_no, pd_int, true_and, b_mul, b_fdiv, b_addS, b_addT, if_true, if_false, Tg.slots, wipeD])
    (first | rw [if_neg (by decide)] | rw [if_neg not_false] | skip)
    refine rd_ok (n := 196) (by omega) (rd_good hg.dt (by omega)) (fun d12 τ12 hd12 e12 => ?_) (fun _ h => by cases h)
    cases hd12
    have h12 := h11.ext e12
    refine same_ok 4 192 g _ _ _ hg.dt hgd (by omega) fun τ13 e13 => ?_
    have h13 := h12.ext e13
    (try simp only [ss_nil, wpS, wpE, wpEs, ofV, ofT, b_addI, b_sub, b_mod, b_pow1018, c_lt, c_le, c_gt, c_ge, c_eqI, c_neI, c_eqS, c_neS, t_bl, t_int, l_tup, f_int, f_abs, bt1, List.getElem?_cons_zero, List.getElem?_cons_succ, List.set_cons_zero, List.set_cons_succ, var_ex, Nat.reduceAdd, put_put, bl_ex, f_divmod, f_str, f_intB, f_intS, f_ord, f_listR, is_tup, is_str, is_int, is_bool, ty_str, m_zfill, m_find, on_zfill, on_join, on_find, on_append, on_pop, bt2, DL.sl_str, pd_no, pd_int, true_and, b_mul, b_fdiv, b_addS, b_addT, if_true, if_false, Tg.slots, wipeD])
    (first | rw [if_neg (by decide)] | rw [if_neg not_false] | skip)
    ((try dsimp only); rw [ss_cons]; simp only [ss_nil, wpS, wpE, wpEs, ofV, ofT, b_addI, b_sub, b_mod, b_pow1018, c_lt, c_le, c_gt, c_ge, c_eqI, c_neI, c_eqS, c_neS, t_bl, t_int, l_tup, f_int, f_abs, bt1, List.getElem?_cons_zero, List.getElem?_cons_succ, List.set_cons_zero, List.set_cons_succ, var_ex, Nat.reduceAdd, put_put, bl_ex, f_divmod, f_str, f_intB, f_intS, f_ord, f_listR, is_tup, is_str, is_int, is_bool, ty_str, m_zfill, m_find, on_zfill, on_join, on_find, on_append, on_pop, bt2, DL.sl_str, pd_no, pd_int, true_and, b_mul, b_fdiv, b_addS, b_addT, if_true, if_false, Tg.slots, wipeD])
    refine ⟨by show 14 ≤ LIM; decide, fun p14 hp14 => ?_⟩
    have h14 := h13.put (o := .lst (bads.map D.str)) hp14
    have hl14 : put τ13 p14 (.lst (bads.map D.str)) p14 = some (.lst (bads.map D.str)) := put_same
    ((try dsimp only); rw [ss_cons]; simp only [ss_nil, wpS, wpE, wpEs, ofV, ofT, b_addI, b_sub, b_mod, b_pow1018, c_lt, c_le, c_gt, c_ge, c_eqI, c_neI, c_eqS, c_neS, t_bl, t_int, l_tup, f_int, f_abs, bt1, List.getElem?_cons_zero, List.getElem?_cons_succ, List.set_cons_zero, List.set_cons_succ, var_ex, Nat.reduceAdd, put_put, bl_ex, f_divmod, f_str, f_intB, f_intS, f_ord, f_listR, is_tup, is_str, is_int, is_bool, ty_str, m_zfill, m_find, on_zfill, on_join, on_find, on_append, on_pop, bt2, DL.sl_str, pd_no, pd_int, true_and, b_mul, b_fdiv, b_addS, b_addT, if_true, if_false, Tg.slots, wipeD])
    refine ⟨by unfold LIM; simp; omega, by unfold LIM; simp; omega, by unfold LIM; simp; omega, by unfold LIM; simp; omega, by unfold LIM; simp; omega, by unfold LIM; simp; omega, by show 8 ≤ LIM; decide, fun p15 hp15 => ?_⟩
    have hne : p14 ≠ p15 := fun e => by subst e; rw [put_same] at hp15; cases hp15
    have hl14' : ∀ o, put (put τ13 p14 (.lst (bads.map D.str))) p15 o p14 = some (.lst (bads.map D.str)) := fun o => by rw [put_ne hne, put_same]
    have hb := b_addL (Q := fun d τ1 => wpSs P.cls (callD P 199) P.xcs .nil [] τ1 { nx := fun _ _ => True, rt := fun _ _ => True, bk := fun _ _ => True, ct := fun _ _ => True, ex := fun _ _ _ => True }) (hl14' (.lst [])) put_same
    clear hb
    refine Eq.mpr (b_addL (hl14' _) put_same) ⟨by show 14 + 8 ≤ LIM; decide, fun p16 hp16 => ?_⟩
    have h15 := h14.put (o := .lst [.str (txt g ++ [32]), .str ([40] ++ txt g), .str (txt g ++ [41]), .str (txt g ++ [44, 32, 49]), .str ([40] ++ txt g ++ [44, 41]), .str [49, 46, 48], .str [40, 45, 48, 41], .str [78, 111, 110, 101]]) hp15
    have h16 := h15.put (o := .lst (bads.map D.str ++ [.str (txt g ++ [32]), .str ([40] ++ txt g), .str (txt g ++ [41]), .str (txt g ++ [44, 32, 49]), .str ([40] ++ txt g ++ [44, 41]), .str [49, 46, 48], .str [40, 45, 48, 41], .str [78, 111, 110, 101]])) hp16
    ((try dsimp only); rw [ss_cons]; simp only [ss_nil, wpS, wpE, wpEs, ofV, ofT, b_addI, b_sub, b_mod, b_pow1018, c_lt, c_le, c_gt, c_ge, c_eqI, c_neI, c_eqS, c_neS, t_bl, t_int, l_tup, f_int, f_abs, bt1, List.getElem?_cons_zero, List.getElem?_cons_succ, List.set_cons_zero, List.set_cons_succ, var_ex, Nat.reduceAdd, put_put, bl_ex, f_divmod, f_str, f_intB, f_intS, f_ord, f_listR, is_tup, is_str, is_int, is_bool, ty_str, m_zfill, m_find, on_zfill, on_join, on_find, on_append, on_pop, bt2, DL.sl_str, pd_no, pd_int, true_and, b_mul, b_fdiv, b_addS, b_addT, if_true, if_false, Tg.slots, wipeD])
    refine one_ok (n := 197) h16 put_same (h15.ne hp16) (by show 0 < 22; decide) (by show 22 < 1000000; decide) (by omega) fun x τ17 hx h17 _ => ?_
    obtain ⟨t2, rfl, hbt2, htl2⟩ := bad_d hg.dt (by omega) x hx
    refine refD_ok (n := 195) (by omega) hbt2 fun τ18 e18 => ?_
    have h18 := h17.ext e18
    (try simp only [ss_nil, wpS, wpE, wpEs, ofV, ofT, b_addI, b_sub, b_mod, b_pow1018, c_lt, c_le, c_gt, c_ge, c_eqI, c_neI, c_eqS, c_neS, t_bl, t_int, l_tup, f_int, f_abs, bt1, List.getElem?_cons_zero, List.getElem?_cons_succ, List.set_cons_zero, List.set_cons_succ, var_ex, Nat.reduceAdd, put_put, bl_ex, f_divmod, f_str, f_intB, f_intS, f_ord, f_listR, is_tup, is_str, is_int, is_bool, ty_str, m_zfill, m_find, on_zfill, on_join, on_find, on_append, on_pop, bt2, DL.sl_str, pd_no, pd_int, true_and, b_mul, b_fdiv, b_addS, b_addT, if_true, if_false, Tg.slots, wipeD])
    (first | rw [if_neg (by decide)] | rw [if_neg not_false] | skip)
    exact hW _ _ ⟨_, _, _, _, _, _, rfl, h18, by omega⟩
  · rintro ρ τ1 ⟨m, u2, u3, u4, u5, u6, rfl, h1, hm⟩
    exact ⟨True.intro, law2_ok fun _ => rfl⟩
end
end K00
theorem PySem.Challenge.cw_wayknown_k00_integers_and_data_holds : PySem.Challenge.rw_wayknown_k00_integers_and_data.Holds :=
  K00.holds_of fun ns _ => K00.law_ok ns
