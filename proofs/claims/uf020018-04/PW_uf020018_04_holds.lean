import PyProof.Rows.All
import PyProof.Calls
import PyProof.AutoSeq1
import PyProof.CallStr
import PyProof.Cells
import PyProof.CompFree
import PyProof.MeetsSeq
import PyProof.ListOps
import PyProof.NeKinds
import PyProof.IsiBase
import PyProof.ExcArgsOwn
import PyProof.ExcBaseAll.ValueError
import PyProof.ExcAttrAll.ValueError
import PyProof.StationsW
import PyProof.WalksMore
import PyProof.InstLoad
import PyProof.IsiH_list
import PyProof.LetGo
import PyProof.ListIndexNeg
import PyProof.WalkInts
import PyProof.RulesAs
import PyProof.NsDelKeeps
import PyProof.Rows.News
import PyProof.Rows.Tup
import PyProof.StrCalls2
import PyProof.Rows.Catch
import PyProof.Rows.FStr
import PyProof.StrCalls3
import PyProof.Rows.StrWeight2
import PyProof.Rows.RuleN_isinstance
import PyProof.Rows.TupMore
import PyProof.SliceMore
import PyProof.Rows.Walk
import PyProof.RulesAssignMore
import PyProof.Rows.PlainObj
import PyProof.Rows.PlainEq
import ObjForm.Fk.ObjNew
import ObjForm.Fk.PlainObj
import OpenK.KCall
import Open.Line
import OpenK.KMore
import OpenK.KMeth
import OpenK.KDict
import OpenK.KCell
import Open.FastRun
import KE.LcSums
import KE.KIsAll
import KE.KRevIter
import KE.KSortAsk
import PySem.Challenge.RW_uf020018_04
set_option Elab.async false
set_option autoImplicit false
set_option linter.all false
set_option genSizeOf false
set_option genInjectivity false
set_option maxRecDepth 100000
set_option maxHeartbeats 8000000
set_option hygiene false in
set_option compiler.extract_closed false in
local macro_rules | `(tactic| walk_at "o") => `(tactic| first | assumption | exact Nat.le_of_lt (by assumption) | exact Nat.lt_of_lt_of_le (by assumption) (by assumption) | exact Nat.lt_of_le_of_lt (by assumption) (by assumption) | exact Nat.le_trans (by assumption) (by assumption) | lia | omega)

namespace TD
open PySem PySem.W PyProof.Rows
noncomputable def isDunder (e : Expr) : Bool := if h : e.ctorIdx = 23 then Expr.Name.elim (motive_1 := fun _ => Bool) e h fun x _ => x == ("__name__" : Str) else false
noncomputable def isMod (s : Stmt) : Bool := if h : s.ctorIdx = 5 then Stmt.Assign.elim (motive_2 := fun _ => Bool) s h fun ts _ _ => ts.all isDunder else false
noncomputable def viewOf (p : Program) : Program := { p with main := { p.main with body := p.main.body.filter fun s => !isMod s } }
noncomputable abbrev HeadRun (r : OpenRow) : Prop := LeftO r.prog (viewOf r.prog) [] (fun s => xlAt (viewOf r.prog) [] s && recOk (RowW.records r.toRowW) s) (Hook.obs Hook.none) (Hook.val Hook.none) 4000
end TD

namespace TD
open PySem (Str Addr)

inductive Val where
  | none | bool (b : Bool) | int (i : Int) | tup (vs : List Val) | ref (a : Addr) | frz (xs : List Val) | str (x : Str)

inductive AObj where
  | list (xs : List Val) | dict0
noncomputable def AObj.isA : AObj → Nat → Option Bool
  | .list _, c => some (c == 2)
  | .dict0, _ => some false

noncomputable abbrev Mem := Addr → Option AObj
noncomputable def Mem.set (m : Mem) (a : Addr) (o : AObj) : Mem := fun b => if b = a then some o else m b

inductive Cls where
  | int | bool | list | tuple | str | ValueError | DealError | BadTable | BadShares | BadHeir | BadThing | BadRing | BadOrder | Full | BadNote
noncomputable def Cls.code : Cls → Nat
  | .int => 0 | .bool => 1 | .list => 2 | .tuple => 3 | .str => 4 | .ValueError => 5 | .DealError => 6 | .BadTable => 7 | .BadShares => 8 | .BadHeir => 9 | .BadThing => 10
  | .BadRing => 11 | .BadOrder => 12 | .Full => 13 | .BadNote => 14

inductive Bop where | add | sub | mul | fdiv | mod
inductive Cop where | eq | ne | lt | le | gt | ge | inn | notin
inductive B1 where
  | len | all | sum | maxL | minL | list | tuple | sorted | int | lrange | lrev | lenset | str
inductive ItK where | plain | range
inductive Tg where | one (i : Nat) | two (i j : Nat)

mutual
inductive Ex where
  | nm (i : Nat) | int (i : Int) | bool (b : Bool) | none | glob (x : String)
  | bin (op : Bop) (a b : Ex) | not (a : Ex) | neg (a : Ex) | boolop (isAnd : Bool) (es : Exs)
  | cmp (op : Cop) (a b : Ex) | cmp2 (op1 op2 : Cop) (a b c : Ex) | isc (pos : Bool) (a : Ex) (c : Option Bool)
  | call (f : Nat) (args : Exs) | b1 (b : B1) (a : Ex) | isinst (a : Ex) (c : Cls)
  | append (o e : Ex) | extend (o e : Ex) | pop (o : Ex) (i : Exs) | clear (o : Ex) | index (o e : Ex)
  | sub (a i : Ex) | slice (up : Bool) (a i : Ex) | mm (mx : Bool) (a b : Ex) | lst (es : Exs) | tup (es : Exs)
  | comp (elt : Ex) (t : Tg) (k : ItK) (src : Ex) (cond : Exs)
  | str (x : String) | dict0 | fstr (a : Ex) (c : String) | join (sep : String) (a : Ex)
inductive Exs where
  | nil | cons (e : Ex) (es : Exs)
end

inductive Flow where | next | brk | cont | ret (v : Val)

mutual
inductive St where
  | expr (e : Ex) | ret (e : Ex) | asg (i : Nat) (e : Ex) | asgSub (o i e : Ex)
  | ifs (c : Ex) (t e : Sts) | fors (t : Tg) (k : ItK) (src : Ex) (b : Sts) | whiles (c : Ex) (b : Sts)
  | raise (c : Cls) (msg : String) | pass
  | callS (r : Bool) (f : Nat) (args : Exs) | newR (f : Nat) (args : Exs) | dead
inductive Sts where
  | nil | cons (s : St) (ss : Sts)
end

noncomputable def sts : List St → Sts
  | [] => .nil
  | s :: r => .cons s (sts r)

noncomputable abbrev Loc := List (Option Val)
noncomputable def getV : Loc → Nat → Option Val
  | [], _ => Option.none
  | v :: r, n => match n with | 0 => v | n + 1 => getV r n
noncomputable def setV : Loc → Nat → Val → Loc
  | [], _, _ => []
  | x :: r, n, v => match n with | 0 => some v :: r | n + 1 => x :: setV r n v

noncomputable def itemsOf : Option AObj → Option (List Val)
  | Option.none => Option.none
  | some (.list xs) => some xs
  | some _ => Option.none
noncomputable def lst (m : Mem) : Val → Option (List Val)
  | .ref a => itemsOf (m a)
  | .frz xs => some xs
  | _ => Option.none
noncomputable def seq (m : Mem) : Val → Option (List Val)
  | .tup vs => some vs
  | v => lst m v

inductive Dat where
  | none | int (i : Int) | list (ds : List Dat) | tup (ds : List Dat) | str (x : Str)
mutual
noncomputable def Dat.beq : Dat → Dat → Bool
  | .none, e => match e with | .none => true | _ => false
  | .int i, e => match e with | .int j => i == j | _ => false
  | .list a, e => match e with | .list b => Dat.beqs a b | _ => false
  | .tup a, e => match e with | .tup b => Dat.beqs a b | _ => false
  | .str x, e => match e with | .str y => x == y | _ => false
noncomputable def Dat.beqs : List Dat → List Dat → Bool
  | [], l => l.isEmpty
  | a :: r, l => match l with | b :: t => Dat.beq a b && Dat.beqs r t | [] => false
end
mutual
noncomputable def Reads (m : Mem) : Dat → Val → Prop
  | .none, v => v = .none
  | .int i, v => v = .int i
  | .list ds, v => ∃ xs, lst m v = some xs ∧ ReadsL m ds xs
  | .tup ds, v => ∃ xs, v = .tup xs ∧ ReadsL m ds xs
  | .str x, v => v = .str x
noncomputable def ReadsL (m : Mem) : List Dat → List Val → Prop
  | [], xs => xs = []
  | d :: ds, xs => ∃ y ys, xs = y :: ys ∧ Reads m d y ∧ ReadsL m ds ys
end

noncomputable def lid : Nat := 1000000
noncomputable def small (i : Int) : Prop := -(2 ^ 62) < i ∧ i < 2 ^ 62
noncomputable def tiny (i : Int) : Prop := -1000000000000 < i ∧ i < 1000000000000

noncomputable def freshL (m : Mem) (xs : List Val) (Q : Val → Mem → Prop) : Prop := xs.length < lid ∧ ∀ a, m a = Option.none → Q (.ref a) (m.set a (.list xs))

noncomputable def wpBin (op : Bop) (a b : Val) (Q : Val → Mem → Prop) (m : Mem) : Prop :=
  match op with
  | .add => (∃ x y, a = .int x ∧ b = .int y ∧ Q (.int (x + y)) m) ∨ (∃ x y xs ys, a = .ref x ∧ b = .ref y ∧ lst m (.ref x) = some xs ∧ lst m (.ref y) = some ys ∧ freshL m (xs ++ ys) Q) ∨ (∃ x y, a = .str x ∧ b = .str y ∧ x.length + y.length < lid ∧ Q (.str (x ++ y)) m)
  | .sub => ∃ x y, a = .int x ∧ b = .int y ∧ Q (.int (x - y)) m
  | .mul => (∃ x y, a = .int x ∧ b = .int y ∧ (small x ∨ small y) ∧ Q (.int (x * y)) m) ∨ (∃ x n xs, a = .ref x ∧ b = .int n ∧ lst m (.ref x) = some xs ∧ 0 ≤ n ∧ n < lid ∧ freshL m (List.replicate n.toNat xs).flatten Q)
  | .fdiv => ∃ x y, a = .int x ∧ b = .int y ∧ (y ≠ 0 ∧ tiny y) ∧ Q (.int (x.fdiv y)) m
  | .mod => ∃ x y, a = .int x ∧ b = .int y ∧ (y ≠ 0 ∧ tiny y) ∧ Q (.int (x.fmod y)) m

noncomputable def okN : Nat → Dat → Bool
  | 0, _ => false
  | n + 1, d => match d with
    | .list ds => ds.all (okN n)
    | .tup ds => ds.all (okN n)
    | .str x => x.cps.all (· < 0x110000)
    | _ => true

noncomputable def eqW (a b : Val) (Q : Bool → Prop) (m : Mem) : Prop :=
  (∃ x y, a = .bool x ∧ b = .bool y ∧ Q (x == y)) ∨ (∃ x y : Str, a = .str x ∧ b = .str y ∧ Q (x == y)) ∨ (∃ d e, Reads m d a ∧ Reads m e b ∧ okN 8 d = true ∧ okN 8 e = true ∧ Q (Dat.beq d e))

noncomputable def inW (a b : Val) (Q : Bool → Prop) (m : Mem) : Prop :=
  ∃ d es xs, seq m b = some xs ∧ Reads m d a ∧ ReadsL m es xs ∧ okN 8 d = true ∧ es.all (okN 7) = true ∧ Q (es.any fun e => Dat.beq e d)

noncomputable def wpCmp (op : Cop) (a b : Val) (Q : Bool → Mem → Prop) (m : Mem) : Prop :=
  match op with
  | .eq => eqW a b (fun r => Q r m) m
  | .ne => eqW a b (fun r => Q (!r) m) m
  | .inn => inW a b (fun r => Q r m) m
  | .notin => inW a b (fun r => Q (!r) m) m
  | .lt => ∃ x y, a = .int x ∧ b = .int y ∧ Q (decide (x < y)) m
  | .le => ∃ x y, a = .int x ∧ b = .int y ∧ Q (decide (x ≤ y)) m
  | .gt => ∃ x y, a = .int x ∧ b = .int y ∧ Q (decide (x > y)) m
  | .ge => ∃ x y, a = .int x ∧ b = .int y ∧ Q (decide (x ≥ y)) m

noncomputable def isA (m : Mem) : Val → Cls → Option Bool
  | .none, _ => some false
  | .bool _, c => some (c.code.ble 1)
  | .int _, c => some (c.code == 0)
  | .tup _, c => some (c.code == 3)
  | .ref a, c => (m a).bind fun o => o.isA c.code
  | .frz _, _ => Option.none
  | .str _, c => some (c.code == 4)

noncomputable def excIs (k c : Nat) : Bool := c == k || (c == 5 || c == 6)
noncomputable abbrev noX : Nat → Mem → Prop := fun _ _ => False
noncomputable abbrev noY : Nat → Loc → Mem → Prop := fun _ _ _ => False

noncomputable def rangeV (n : Int) : List Val := (List.range n.toNat).map fun (k : Nat) => .int k

noncomputable def lexLt : List Int → List Int → Bool
  | [], b => !b.isEmpty
  | _ :: _, [] => false
  | a :: as, b :: bs => if a = b then lexLt as bs else decide (a < b)
noncomputable def sortedW (xs : List Val) (Q : Val → Mem → Prop) (m : Mem) : Prop :=
  (∃ is : List Int, xs = is.map .int ∧ is.length < 64 ∧ ∀ js : List Int, js.Perm is → js.Pairwise (· ≤ ·) → freshL m (js.map .int) Q) ∨
  (∃ ps : List (Addr × List Int), xs = ps.map (fun p => .ref p.1) ∧ (∀ p ∈ ps, m p.1 = some (.list (p.2.map .int))) ∧ ps.length < 64 ∧ ∀ qs : List (Addr × List Int), qs.Perm ps → qs.Pairwise (fun p q => lexLt q.2 p.2 = false) → freshL m (qs.map fun p => .ref p.1) Q)

noncomputable def wpB1 (b : B1) (v : Val) (Q : Val → Mem → Prop) (m : Mem) : Prop :=
  match b with
  | .len => ∃ xs, seq m v = some xs ∧ xs.length < lid ∧ Q (.int xs.length) m
  | .all => ∃ bs : List Bool, lst m v = some (bs.map .bool) ∧ Q (.bool (bs.all id)) m
  | .sum => ∃ is : List Int, lst m v = some (is.map .int) ∧ (∀ i ∈ is, small i) ∧ is.length < lid ∧ Q (.int is.sum) m
  | .maxL => ∃ (is : List Int), lst m v = some (is.map .int) ∧ is ≠ [] ∧ is.length < lid ∧ ∀ M : Int, M ∈ is → (∀ a ∈ is, a ≤ M) → Q (.int M) m
  | .minL => ∃ (is : List Int), lst m v = some (is.map .int) ∧ is ≠ [] ∧ is.length < lid ∧ ∀ M : Int, M ∈ is → (∀ a ∈ is, M ≤ a) → Q (.int M) m
  | .list => ∃ xs, seq m v = some xs ∧ freshL m xs Q
  | .tuple => ∃ xs, lst m v = some xs ∧ xs.length < lid ∧ Q (.tup xs) m
  | .sorted => ∃ xs, lst m v = some xs ∧ sortedW xs Q m
  | .int => ∃ x, v = .bool x ∧ Q (.int (if x then 1 else 0)) m
  | .lrange => ∃ n, v = .int n ∧ (0 ≤ n ∧ n < lid) ∧ freshL m (rangeV n) Q
  | .lrev => ∃ a xs, v = .ref a ∧ m a = some (.list xs) ∧ xs.length < lid ∧ freshL m xs.reverse Q
  | .str => ∃ i : Int, v = .int i ∧ tiny i ∧ Q (.str (Str.ofString (toString i))) m
  | .lenset => ∃ is : List Int, lst m v = some (is.map .int) ∧ is.length < 1000 ∧ ∀ k : Nat, k ≤ is.length → (k = is.length ↔ is.Nodup) → Q (.int k) m

noncomputable def place (i : Int) (n : Nat) : Option Nat :=
  if 0 ≤ i then (if i.toNat < n then some i.toNat else Option.none) else (if (-i).toNat ≤ n then some (n - (-i).toNat) else Option.none)
noncomputable def subW (v : Val) (i : Val) (Q : Val → Mem → Prop) (m : Mem) : Prop :=
  ∃ k xs j x, i = .int k ∧ seq m v = some xs ∧ place k xs.length = some j ∧ xs[j]? = some x ∧ xs.length < lid ∧ Q x m

noncomputable def clip (k : Int) (n : Nat) : Nat := if 0 ≤ k then k.toNat else n - (-k).toNat
noncomputable def cutL (up : Bool) (xs : List Val) (k : Int) : List Val := match up with
  | true => xs.drop (clip k xs.length)
  | false => xs.take (clip k xs.length)
noncomputable def slQ (up : Bool) (x y : Val) (Q : Val → Mem → Prop) (m : Mem) : Prop := (∃ a xs k, x = .ref a ∧ m a = some (.list xs) ∧ y = .int k ∧ xs.length < lid ∧ freshL m (cutL up xs k) Q) ∨
  (∃ (vs : List Val) (k : Nat), up = false ∧ x = .tup vs ∧ y = .int k ∧ k < vs.length ∧ vs.length < lid ∧ Q (.tup (vs.take k)) m)
noncomputable def mmV (mx : Bool) (a b : Int) : Int := match mx with
  | true => if b > a then b else a
  | false => if b < a then b else a
noncomputable def mmQ (mx : Bool) (x y : Val) (Q : Val → Mem → Prop) (m : Mem) : Prop := ∃ a b, x = .int a ∧ y = .int b ∧ Q (.int (mmV mx a b)) m

noncomputable def itemsW (k : ItK) (v : Val) (Q : List Val → Prop) (m : Mem) : Prop :=
  match k with
  | .plain => ∃ xs, seq m v = some xs ∧ xs.length < lid ∧ Q xs
  | .range => ∃ n, v = .int n ∧ (0 ≤ n ∧ n < lid) ∧ Q (rangeV n)
noncomputable def stands (k : ItK) (v : Val) (m m' : Mem) : Prop :=
  match k with
  | .range => True
  | .plain => lst m' v = lst m v

noncomputable def setT (t : Tg) (x : Val) (loc : Loc) (l : Loc) : Prop :=
  match t with
  | .one i => l = setV loc i x
  | .two i j => ∃ a b, x = .tup [a, b] ∧ l = setV (setV loc i a) j b
noncomputable def bindT (t : Tg) (x : Val) (loc : Loc) (k : Loc → Prop) : Prop := ∃ l, setT t x loc l ∧ k l

noncomputable def compLoop (f : Val → (List Val → Mem → Prop) → Mem → Prop) (ok : Mem → Prop) : List Val → List Val → (List Val → Mem → Prop) → Mem → Prop
  | [], acc, Q, m => Q acc m
  | x :: xs, acc, Q, m => f x (fun vs m' => ok m' ∧ compLoop f ok xs (acc ++ vs) Q m') m

noncomputable def loopQ (R : Flow → Loc → Mem → Prop) (I : Loc → Mem → Prop) (fl : Flow) (l : Loc) (m : Mem) : Prop := match fl with
  | .next => I l m
  | .cont => I l m
  | .brk => R .next l m
  | .ret v => R (.ret v) l m

noncomputable def forLoop (f : Val → (Flow → Loc → Mem → Prop) → Loc → Mem → Prop) (ok : Mem → Prop) : List Val → (Flow → Loc → Mem → Prop) → Loc → Mem → Prop
  | [], Q, l, m => Q .next l m
  | x :: xs, Q, l, m => f x (loopQ Q fun l' m' => ok m' ∧ forLoop f ok xs Q l' m') l m

noncomputable def whileLoop (c : (Bool → Mem → Prop) → Loc → Mem → Prop) (f : (Flow → Loc → Mem → Prop) → Loc → Mem → Prop) : Nat → (Flow → Loc → Mem → Prop) → Loc → Mem → Prop
  | 0, _, _, _ => False
  | n + 1, Q, l, m => c (fun t m' => (t = true → f (loopQ Q fun l' m'' => whileLoop c f n Q l' m'') l m') ∧ (t = false → Q .next l m')) l m

noncomputable abbrev CallT := Nat → List Val → (Val → Mem → Prop) → (Nat → Mem → Prop) → Mem → Prop

noncomputable def isL (m : Mem) (x : Val) : Prop := ∃ a xs, x = .ref a ∧ m a = some (.list xs)
noncomputable def isNone : Val → Bool
  | .none => true
  | _ => false
noncomputable def isBool (t : Bool) : Val → Bool
  | .bool u => u == t
  | _ => false
noncomputable def isLit : Option Bool → Val → Bool
  | Option.none => isNone
  | some t => isBool t

noncomputable def asB (Q : Bool → Mem → Prop) (v : Val) (m : Mem) : Prop := ∃ b, v = .bool b ∧ Q b m
noncomputable def bsQ (k : Bool) (W : Mem → Prop) (P : Bool → Mem → Prop) (b : Bool) (m : Mem) : Prop := (b = k → W m) ∧ (b = (!k) → P b m)
noncomputable def ifQ (T E : Mem → Prop) (b : Bool) (m : Mem) : Prop := (b = true → T m) ∧ (b = false → E m)
noncomputable def appQ (Q : Val → Mem → Prop) (x y : Val) (m2 : Mem) : Prop := ∃ a xs, x = .ref a ∧ m2 a = some (.list xs) ∧ xs.length < lid ∧ Q .none (m2.set a (.list (xs ++ [y])))
noncomputable def extQ (Q : Val → Mem → Prop) (x y : Val) (m2 : Mem) : Prop := ∃ a b xs ys, x = .ref a ∧ y = .ref b ∧ b ≠ a ∧ m2 a = some (.list xs) ∧ m2 b = some (.list ys) ∧ xs.length + ys.length < lid ∧ Q .none (m2.set a (.list (xs ++ ys)))
noncomputable def popQ (Q : Val → Mem → Prop) (x : Val) (ks : List Val) (m2 : Mem) : Prop := ∃ a xs k j y, x = .ref a ∧ m2 a = some (.list xs) ∧ xs.length < lid ∧ (ks = [] ∧ k = -1 ∨ ks = [.int k]) ∧ place k xs.length = some j ∧ xs[j]? = some y ∧ Q y (m2.set a (.list (xs.eraseIdx j)))
noncomputable def clrQ (Q : Val → Mem → Prop) (x : Val) (m1 : Mem) : Prop := ∃ a xs, x = .ref a ∧ m1 a = some (.list xs) ∧ xs.length < lid ∧ Q .none (m1.set a (.list []))

noncomputable def idxQ (Q : Val → Mem → Prop) (x y : Val) (m2 : Mem) : Prop := ∃ (a : Addr) (is : List Int) (i : Int), x = .ref a ∧ m2 a = some (.list (is.map .int)) ∧ y = .int i ∧ i ∈ is ∧ is.length < lid ∧ Q (.int (is.idxOf i : Nat)) m2
noncomputable def setQ (x y v : Val) (K : Mem → Prop) (m : Mem) : Prop := ∃ a k xs j, x = .ref a ∧ y = .int k ∧ m a = some (.list xs) ∧ xs.length < lid ∧ place k xs.length = some j ∧ K (m.set a (.list (xs.set j v)))
noncomputable def fstrQ (v : Val) (c : String) (Q : Val → Mem → Prop) (m : Mem) : Prop := ∃ i : Int, v = .int i ∧ tiny i ∧ (Str.ofString (toString i)).length + (Str.ofString c).length < lid ∧ Q (.str (Str.empty ++ Str.ofString (toString i) ++ Str.ofString c)) m
noncomputable def joinQ (sep : String) (v : Val) (Q : Val → Mem → Prop) (m : Mem) : Prop := ∃ (a : Addr) (ts : List Str), v = .ref a ∧ m a = some (.list (ts.map .str)) ∧ (ts.map (·.length)).sum + ts.length < lid ∧ (Str.ofString sep).length ≤ 16 ∧ Q (.str (Str.join (Str.ofString sep) ts)) m
noncomputable def compF (t : Tg) (loc : Loc) (B : Loc → (Bool → Mem → Prop) → Mem → Prop) (V : Loc → (Val → Mem → Prop) → Mem → Prop) (x : Val) (Q' : List Val → Mem → Prop) (m' : Mem) : Prop :=
  bindT t x loc (fun l => B l (ifQ (fun m2 => V l (fun y m3 => Q' [y] m3) m2) (fun m2 => Q' [] m2)) m')
mutual
noncomputable def wpE (C : CallT) (G : String → Option Val) (X : Nat → Mem → Prop) : Ex → Loc → (Val → Mem → Prop) → Mem → Prop
  | .nm i, loc, Q, m => ∃ v, getV loc i = some v ∧ Q v m
  | .int i, _, Q, m => Q (.int i) m
  | .bool b, _, Q, m => Q (.bool b) m
  | .none, _, Q, m => Q .none m
  | .glob x, _, Q, m => ∃ v, G x = some v ∧ Q v m
  | .bin op a b, loc, Q, m => wpE C G X a loc (fun x m1 => wpE C G X b loc (fun y m2 => wpBin op x y Q m2) m1) m
  | .not a, loc, Q, m => wpE C G X a loc (asB fun b m1 => Q (.bool !b) m1) m
  | .neg a, loc, Q, m => wpE C G X a loc (fun x m1 => ∃ i, x = .int i ∧ Q (.int (-i)) m1) m
  | .boolop k es, loc, Q, m => wpBs C G X k es loc (fun b m1 => Q (.bool b) m1) m
  | .cmp op a b, loc, Q, m => wpE C G X a loc (fun x m1 => wpE C G X b loc (fun y m2 => wpCmp op x y (fun r m3 => Q (.bool r) m3) m2) m1) m
  | .cmp2 o1 o2 a b c, loc, Q, m => wpE C G X a loc (fun x m1 => wpE C G X b loc (fun y m2 => wpCmp o1 x y (ifQ (fun m3 => wpE C G X c loc (fun z m4 => wpCmp o2 y z (fun r' m5 => Q (.bool r') m5) m4) m3) (fun m3 => Q (.bool false) m3)) m2) m1) m
  | .isc p a c, loc, Q, m => wpE C G X a loc (fun x m1 => Q (.bool (isLit c x == p)) m1) m
  | .call f args, loc, Q, m => wpL C G X args loc (fun vs m1 => C f vs Q X m1) m
  | .b1 b a, loc, Q, m => wpE C G X a loc (fun x m1 => wpB1 b x Q m1) m
  | .isinst a c, loc, Q, m => wpE C G X a loc (fun x m1 => ∃ b, isA m1 x c = some b ∧ Q (.bool b) m1) m
  | .append o e, loc, Q, m => wpE C G X o loc (fun x m1 => isL m1 x ∧ wpE C G X e loc (fun y m2 => appQ Q x y m2) m1) m
  | .extend o e, loc, Q, m => wpE C G X o loc (fun x m1 => isL m1 x ∧ wpE C G X e loc (fun y m2 => extQ Q x y m2) m1) m
  | .pop o i, loc, Q, m => wpE C G X o loc (fun x m1 => isL m1 x ∧ wpL C G X i loc (fun ks m2 => popQ Q x ks m2) m1) m
  | .clear o, loc, Q, m => wpE C G X o loc (clrQ Q) m
  | .index o e, loc, Q, m => wpE C G X o loc (fun x m1 => isL m1 x ∧ wpE C G X e loc (fun y m2 => idxQ Q x y m2) m1) m
  | .sub a i, loc, Q, m => wpE C G X a loc (fun x m1 => wpE C G X i loc (fun y m2 => subW x y Q m2) m1) m
  | .slice up a i, loc, Q, m => wpE C G X a loc (fun x m1 => wpE C G X i loc (fun y m2 => slQ up x y Q m2) m1) m
  | .mm mx a b, loc, Q, m => wpE C G X a loc (fun x m1 => wpE C G X b loc (fun y m2 => mmQ mx x y Q m2) m1) m
  | .lst es, loc, Q, m => wpL C G X es loc (fun vs m1 => freshL m1 vs Q) m
  | .tup es, loc, Q, m => wpL C G X es loc (fun vs m1 => vs.length < lid ∧ Q (.tup vs) m1) m
  | .comp elt t k src cond, loc, Q, m => wpE C G X src loc (fun v m1 => itemsW k v (fun xs =>
      compLoop (compF t loc (fun l P m => wpBs C G X true cond l P m) (fun l P m => wpE C G X elt l P m)) (stands k v m1) xs [] (fun ys m' => freshL m' ys Q) m1) m1) m
  | .str x, _, Q, m => Q (.str (Str.ofString x)) m
  | .fstr a c, loc, Q, m => wpE C G X a loc (fun v m1 => fstrQ v c Q m1) m
  | .join sep a, loc, Q, m => wpE C G X a loc (fun v m1 => joinQ sep v Q m1) m
  | .dict0, _, Q, m => ∀ a, m a = Option.none → Q (.ref a) (m.set a .dict0)
noncomputable def wpBs (C : CallT) (G : String → Option Val) (X : Nat → Mem → Prop) (isAnd : Bool) : Exs → Loc → (Bool → Mem → Prop) → Mem → Prop
  | .nil, _, Q, m => Q isAnd m
  | .cons e es, loc, Q, m => wpE C G X e loc (asB (bsQ isAnd (wpBs C G X isAnd es loc Q) Q)) m
noncomputable def wpL (C : CallT) (G : String → Option Val) (X : Nat → Mem → Prop) : Exs → Loc → (List Val → Mem → Prop) → Mem → Prop
  | .nil, _, Q, m => Q [] m
  | .cons e es, loc, Q, m => wpE C G X e loc (fun v m1 => wpL C G X es loc (fun vs m2 => Q (v :: vs) m2) m1) m
end

noncomputable def plainV : Val → Prop
  | .none => True
  | .bool _ => True
  | .int _ => True
  | _ => False

noncomputable def bodyF (t : Tg) (B : (Flow → Loc → Mem → Prop) → Loc → Mem → Prop) (x : Val) (Q' : Flow → Loc → Mem → Prop) (l' : Loc) (m' : Mem) : Prop := bindT t x l' (fun l => B Q' l m')
noncomputable def seqQ (W : Loc → Mem → Prop) (R : Flow → Loc → Mem → Prop) (fl : Flow) (l : Loc) (m : Mem) : Prop := match fl with
  | .next => W l m
  | .brk => R .brk l m
  | .cont => R .cont l m
  | .ret v => R (.ret v) l m
noncomputable def retQ (Q : Val → Mem → Prop) (fl : Flow) (_ : Loc) (m : Mem) : Prop := match fl with
  | .ret v => Q v m
  | .next => Q .none m
  | .brk => False
  | .cont => False

mutual
noncomputable def wpS (C : CallT) (G : String → Option Val) : St → (Flow → Loc → Mem → Prop) → (Nat → Loc → Mem → Prop) → Loc → Mem → Prop
  | .expr e, Q, X, loc, m => wpE C G noX e loc (fun v m1 => plainV v ∧ Q .next loc m1) m
  | .ret e, Q, X, loc, m => wpE C G noX e loc (fun v m1 => Q (.ret v) loc m1) m
  | .asg i e, Q, X, loc, m => wpE C G noX e loc (fun v m1 => Q .next (setV loc i v) m1) m
  | .asgSub o i e, Q, X, loc, m => wpE C G noX e loc (fun v m1 => wpE C G noX o loc (fun x m2 => wpE C G noX i loc (fun y m3 => setQ x y v (fun m4 => Q .next loc m4) m3) m2) m1) m
  | .ifs c t e, Q, X, loc, m => wpE C G noX c loc (asB (ifQ (wpSs C G t Q X loc) (wpSs C G e Q X loc))) m
  | .fors t k src b, Q, X, loc, m => wpE C G noX src loc (fun v m1 => itemsW k v (fun xs =>
      forLoop (bodyF t (fun Q' l m' => wpSs C G b Q' X l m')) (stands k v m1) xs Q loc m1) m1) m
  | .whiles c b, Q, X, loc, m => ∃ n, whileLoop (fun Q' l' m' => wpE C G noX c l' (asB Q') m') (fun Q' l' m' => wpSs C G b Q' noY l' m') n Q loc m
  | .raise c _, _, X, loc, m => X c.code loc m
  | .pass, Q, _, loc, m => Q .next loc m
  | .callS r f args, Q, X, loc, m => wpL C G noX args loc (fun vs m1 => C f vs (cond r (fun v m2 => Q (.ret v) loc m2) (fun v m2 => plainV v ∧ Q .next loc m2)) (fun c m' => X c loc m') m1) m
  | .newR f args, _, X, loc, m => wpL C G noX args loc (fun vs m1 => ∀ x, m1 x = Option.none → C f (.ref x :: vs) (fun _ _ => False) (fun c m' => X c loc m') m1) m
  | .dead, _, _, _, _ => False
noncomputable def wpSs (C : CallT) (G : String → Option Val) : Sts → (Flow → Loc → Mem → Prop) → (Nat → Loc → Mem → Prop) → Loc → Mem → Prop
  | .nil, Q, _, loc, m => Q .next loc m
  | .cons s ss, Q, X, loc, m => wpS C G s (seqQ (fun l m1 => wpSs C G ss Q X l m1) Q) X loc m
end

structure Fn where
  name : String
  np : Nat
  vars : List String
  body : Sts
  own : Bool := false

noncomputable def loc0 (vs : List Val) (n : Nat) : Loc := vs.map some ++ List.replicate n Option.none

noncomputable def callN (FT : Nat → Option Fn) (G : String → Option Val) : Nat → CallT
  | 0 => fun _ _ _ _ _ => False
  | n + 1 => fun f vs Q X m => ∃ fn, FT f = some fn ∧ vs.length = fn.np ∧ wpSs (callN FT G n) G fn.body (retQ Q) (fun c _ m' => X c m') (loc0 vs (fn.vars.length - fn.np)) m

end TD

namespace TD
open PySem PyProof.Rows

structure Cx where
  prog : Program
  w : World
  base : Heap
  mg : Str → Option Value
  mb : Str → Option Value
  gens : Array GenState
  os : OsState

mutual
noncomputable def VRel (W : Cx) (h : Heap) : Val → Value → Prop
  | .none, v => v = .none
  | .bool b, v => v = .bool b
  | .int i, v => ∃ t, v = .int i t
  | .tup vs, v => ∃ a xs, v = .ref a ∧ IsTup h a (List.toArray xs) ∧ VRels W h vs xs
  | .ref a, v => v = .ref a
  | .frz vs, v => ∃ a xs, v = .ref a ∧ W.base.IsList a (List.toArray xs) ∧ VRels W h vs xs
  | .str x, v => ∃ t, v = .str x t
noncomputable def VRels (W : Cx) (h : Heap) : List Val → List Value → Prop
  | [], xs => xs = []
  | v :: vs, xs => ∃ y ys, xs = y :: ys ∧ VRel W h v y ∧ VRels W h vs ys
end

noncomputable def Fixed (o : Obj) : Prop := o.cls = .type "tuple" ∧ ∃ xs n, o.data = .seq xs n
noncomputable def NsObj (o : Obj) (m : Str → Option Value) : Prop := ∃ es ep, o.data = .dict es ep ∧ StrKeys es ∧ ∀ name, nsFind es name = m name
noncomputable def Alike (o o' : Obj) : Prop := o' = o ∨ ((∃ m, NsObj o m) ∧ ∀ m, NsObj o m → NsObj o' m)
theorem Alike.refl (o : Obj) : Alike o o := .inl rfl
theorem Alike.trans {a b c : Obj} (x : Alike a b) (y : Alike b c) : Alike a c := by
  rcases x with rfl | ⟨hx, kx⟩
  · exact y
  · rcases y with rfl | ⟨_, ky⟩
    · exact .inr ⟨hx, kx⟩
    · exact .inr ⟨hx, fun m q => ky m (kx m q)⟩
theorem Alike.ns {a b : Obj} {m : Str → Option Value} (x : Alike a b) (h : NsObj a m) : NsObj b m := by
  rcases x with rfl | ⟨_, k⟩
  · exact h
  · exact k m h
theorem Alike.eq {a b : Obj} (x : Alike a b) (h : ∀ es ep, a.data ≠ .dict es ep) : b = a := by
  rcases x with rfl | ⟨⟨m, es, ep, hd, _⟩, _⟩
  · rfl
  · exact absurd hd (h es ep)
noncomputable def KeepF (h h' : Heap) : Prop := ∀ b o, h.get? b = some o → Fixed o → h'.get? b = some o

mutual
theorem VRel.keep {W : Cx} {h h' : Heap} (k : KeepF h h') : ∀ {v : Val} {x : Value}, VRel W h v x → VRel W h' v x
  | .none, _, e => e
  | .bool _, _, e => e
  | .int _, _, e => e
  | .ref _, _, e => e
  | .tup vs, _, ⟨a, xs, e, ⟨o, ho, hc, n, hd⟩, r⟩ => by
      exact ⟨a, xs, e, ⟨_, k a o ho ⟨hc, _, n, hd⟩, hc, n, hd⟩, VRels.keep k r⟩
  | .frz vs, _, ⟨a, xs, e, hl, r⟩ => ⟨a, xs, e, hl, VRels.keep k r⟩
  | .str _, _, e => e
theorem VRels.keep {W : Cx} {h h' : Heap} (k : KeepF h h') : ∀ {vs : List Val} {xs : List Value}, VRels W h vs xs → VRels W h' vs xs
  | [], _, e => e
  | _ :: _, _, ⟨y, ys, e, a, b⟩ => ⟨y, ys, e, VRel.keep k a, VRels.keep k b⟩
end

noncomputable def ORel (W : Cx) (h : Heap) (a : Addr) : AObj → Prop
  | .list xs => ∃ vs, h.PlainList a (List.toArray vs) ∧ VRels W h xs vs
  | .dict0 => ∃ o es n, h.get? a = some o ∧ o.cls = .type "dict" ∧ o.data = .dict es n
theorem ORel.at {W : Cx} {h h' : Heap} {a : Addr} {o : AObj} (r : ORel W h a o) (k : ∀ x, h.get? a = some x → h'.get? a = some x) (kf : KeepF h h') : ORel W h' a o := by
  cases o with
  | list xs => obtain ⟨vs, ⟨n, hn⟩, q⟩ := r; exact ⟨vs, ⟨n, k _ hn⟩, q.keep kf⟩
  | dict0 => obtain ⟨o, es, n, hn, q⟩ := r; exact ⟨o, es, n, k _ hn, q⟩

noncomputable def MemRel (W : Cx) (mem : Mem) (h : Heap) : Prop := ∀ a o, mem a = some o → ORel W h a o ∧ W.base.get? a = none

structure MRel (W : Cx) (mem : Mem) (s : Shared) : Prop where
  stays : W.base.StaysIn s.heap
  mems : MemRel W mem s.heap
  gens : s.gens = W.gens
  os : s.os = W.os

structure Step (D : Addr → Prop) (mem : Mem) (h : Heap) (mem' : Mem) (h' : Heap) : Prop where
  alive : ∀ b, h'.get? b = none → h.get? b = none
  keep : ∀ b o, h.get? b = some o → mem b = none → ¬ D b → ∃ o', h'.get? b = some o' ∧ Alike o o'
  grow : ∀ b, mem b = none → mem' b ≠ none → h.get? b = none

theorem Step.refl {D : Addr → Prop} {mem : Mem} {h : Heap} : Step D mem h mem h := ⟨fun _ e => e, fun _ o e _ _ => ⟨o, e, .refl o⟩, fun _ a b => absurd a b⟩
theorem Step.none' {D : Addr → Prop} {m1 m2 : Mem} {h1 h2 : Heap} (x : Step D m1 h1 m2 h2) {b : Addr} {o : Obj} (e : h1.get? b = some o) (hm : m1 b = none) : m2 b = none := by
  cases q : m2 b with
  | none => rfl
  | some o' => have := x.grow b hm (by rw [q]; simp); rw [this] at e; cases e
theorem Step.trans {D : Addr → Prop} {m1 m2 m3 : Mem} {h1 h2 h3 : Heap} (x : Step D m1 h1 m2 h2) (y : Step D m2 h2 m3 h3) : Step D m1 h1 m3 h3 where
  alive := fun b e => x.alive b (y.alive b e)
  keep := fun b o e hm hD => by
    obtain ⟨o2, e2, a2⟩ := x.keep b o e hm hD
    obtain ⟨o3, e3, a3⟩ := y.keep b _ e2 (x.none' e hm) hD
    exact ⟨o3, e3, a2.trans a3⟩
  grow := fun b hm h3' => by
    cases q : m2 b with
    | some o' => exact x.grow b hm (by rw [q]; simp)
    | none => exact x.alive b (y.grow b q h3')
theorem Step.mono {D D' : Addr → Prop} {m1 m2 : Mem} {h1 h2 : Heap} (x : Step D m1 h1 m2 h2) (k : ∀ b, D b → D' b) : Step D' m1 h1 m2 h2 :=
  ⟨x.alive, fun b o e hm hD => x.keep b o e hm fun q => hD (k b q), x.grow⟩
noncomputable abbrev NoD : Addr → Prop := fun _ => False

theorem alive_of {h h' : Heap} (k : ∀ b o, h.get? b = some o → h'.get? b = some o) (b : Addr) (e : h'.get? b = none) : h.get? b = none := by
  cases q : h.get? b with
  | none => rfl
  | some o => rw [k b o q] at e; cases e
theorem Step.of_keeps {D : Addr → Prop} {mem : Mem} {h h' : Heap} (k : ∀ b o, h.get? b = some o → h'.get? b = some o) : Step D mem h mem h' :=
  ⟨alive_of k, fun b o e _ _ => ⟨o, k b o e, .refl o⟩, fun _ a b => absurd a b⟩

theorem ORel.notFixed {W : Cx} {h : Heap} {b : Addr} {a : AObj} {o : Obj} (r : ORel W h b a) (e : h.get? b = some o) : ¬ Fixed o := by
  rintro ⟨hf, _⟩
  cases a with
  | list xs => obtain ⟨vs, ⟨n, hn⟩, _⟩ := r; rw [e] at hn; cases hn; simp at hf
  | dict0 => obtain ⟨o, es, n, hn, hc, _⟩ := r; rw [e] at hn; cases hn; rw [hf] at hc; exact absurd hc (by simp)
theorem MemRel.notFixed {W : Cx} {mem : Mem} {h : Heap} (M : MemRel W mem h) {b : Addr} {o : Obj} (e : h.get? b = some o) (hf : Fixed o) : mem b = none := by
  cases q : mem b with
  | none => rfl
  | some a => exact absurd hf ((M b a q).1.notFixed e)

noncomputable def DOk (D : Addr → Prop) (h : Heap) : Prop := ∀ b o, D b → h.get? b = some o → ¬ Fixed o

theorem Fixed.notDict {o : Obj} (h : Fixed o) : ∀ es ep, o.data ≠ .dict es ep := fun es ep q => by obtain ⟨_, xs, n, hd⟩ := h; rw [hd] at q; cases q
theorem Step.keepF {W : Cx} {D : Addr → Prop} {mem mem' : Mem} {h h' : Heap} (x : Step D mem h mem' h') (M : MemRel W mem h) (hD : DOk D h) : KeepF h h' :=
  fun b o e hf => by
    obtain ⟨o', e', a⟩ := x.keep b o e (M.notFixed e hf) fun d => hD b o d e hf
    rw [e', a.eq hf.notDict]

theorem KeepF.of_keeps {h h' : Heap} (k : ∀ b o, h.get? b = some o → h'.get? b = some o) : KeepF h h' := fun b o e _ => k b o e

theorem ORel.of_keeps {W : Cx} {h h' : Heap} (k : ∀ b o, h.get? b = some o → h'.get? b = some o) {a : Addr} {o : AObj} (r : ORel W h a o) : ORel W h' a o := r.at (k a) (.of_keeps k)
theorem MemRel.of_keeps {W : Cx} {mem : Mem} {h h' : Heap} (M : MemRel W mem h) (k : ∀ b o, h.get? b = some o → h'.get? b = some o) : MemRel W mem h' :=
  fun a o e => ⟨(M a o e).1.of_keeps k, (M a o e).2⟩
theorem ORel.there {W : Cx} {h : Heap} {b : Addr} {a : AObj} (r : ORel W h b a) : ∃ o, h.get? b = some o := by
  cases a with
  | list xs => obtain ⟨vs, ⟨n, hn⟩, _⟩ := r; exact ⟨_, hn⟩
  | dict0 => obtain ⟨o, es, n, hn, _⟩ := r; exact ⟨_, hn⟩

theorem MemRel.fresh {W : Cx} {mem : Mem} {h : Heap} (M : MemRel W mem h) {a : Addr} (ha : h.get? a = none) : mem a = none := by
  cases q : mem a with
  | none => rfl
  | some o => obtain ⟨o', e⟩ := (M a o q).1.there; rw [ha] at e; cases e
theorem MRel.of_keeps {W : Cx} {mem : Mem} {s s' : Shared} (M : MRel W mem s) (k : ∀ b o, s.heap.get? b = some o → s'.heap.get? b = some o) (hg : s'.gens = s.gens := by rfl) (ho : s'.os = s.os := by rfl) : MRel W mem s' :=
  ⟨fun b x e => k _ _ (M.stays b x e), M.mems.of_keeps k, hg.trans M.gens, ho.trans M.os⟩

theorem MRel.upd {W : Cx} {mem : Mem} {s s' : Shared} (M : MRel W mem s) {a : Addr} {o o₀ : AObj} (ha : mem a = some o₀) (hs : Heap.SameBut a s.heap s'.heap)
    (r : KeepF s.heap s'.heap → ORel W s'.heap a o) (hg : s'.gens = s.gens := by rfl) (ho : s'.os = s.os := by rfl) : MRel W (mem.set a o) s' := by
  have hb := (M.mems a o₀ ha)
  have kf : KeepF s.heap s'.heap := fun b x e hf => by
    by_cases hba : b = a
    · subst hba; exact absurd hf (hb.1.notFixed e)
    · rw [hs.2 b hba]; exact e
  refine ⟨fun b x e => ?_, fun b x e => ?_, hg.trans M.gens, ho.trans M.os⟩
  · by_cases hba : b = a
    · subst hba; rw [hb.2] at e; cases e
    · rw [hs.2 b hba]; exact M.stays b x e
  · unfold Mem.set at e
    split at e
    · rename_i q; subst q; cases e; exact ⟨r kf, hb.2⟩
    · rename_i q
      obtain ⟨r', n'⟩ := M.mems b x e
      exact ⟨r'.at (fun _ e => (hs.2 b q).trans e) kf, n'⟩
theorem Step.upd {D : Addr → Prop} {mem : Mem} {h h' : Heap} {a : Addr} {o o₀ : AObj} (ha : mem a = some o₀) (hs : Heap.SameBut a h h') (hl : h'.get? a ≠ none) : Step D mem h (mem.set a o) h' :=
  ⟨fun b e => by
    by_cases hb : b = a
    · subst hb; exact absurd e hl
    · rw [← hs.2 b hb]; exact e, fun b x e hm _ => ⟨x, by
    have hb : b ≠ a := by rintro rfl; rw [ha] at hm; cases hm
    rw [hs.2 b hb]; exact e, .refl x⟩, fun b hm h' => by
    unfold Mem.set at h'
    split at h'
    · rename_i hb; subst hb; rw [ha] at hm; cases hm
    · exact absurd hm h'⟩

structure EnvRel (W : Cx) (env : Env) (vis : List (Nat × Str)) (loc : Loc) (h : Heap) : Prop where
  kind : env.scope.kind = .function
  glob : env.globals = mainGlobals
  blt : env.builtins = builtinsNs
  ns : ∃ m, h.Ns env.locals m ∧ ∀ i x v, (i, x) ∈ vis → getV loc i = some v → env.kindOf x = some .local → ∃ y, m x = some y ∧ VRel W h v y
  cell : ∀ i x v k, (i, x) ∈ vis → getV loc i = some v → env.kindOf x = some k → k = .cell ∨ k = .free → ∃ c y, env.cells.lookup x = some c ∧ h.IsCell c (some y) ∧ VRel W h v y
  cellk : ∀ x k, env.kindOf x = some k → k = .cell ∨ k = .free → ∃ c, env.cells.lookup x = some c
  cells : ∀ x c, env.cells.lookup x = some c → ∃ o, h.IsCell c o
  apart : ∀ x y c, env.cells.lookup x = some c → env.cells.lookup y = some c → x = y

noncomputable def FrD (env : Env) (b : Addr) : Prop := b = env.locals ∨ ∃ x, env.cells.lookup x = some b

theorem EnvRel.there {W : Cx} {env : Env} {vis : List (Nat × Str)} {loc : Loc} {h : Heap} (R : EnvRel W env vis loc h) {b : Addr} (hb : FrD env b) : ∃ o, h.get? b = some o ∧ ((∃ es n, o.data = .dict es n) ∨ ∃ v, o.data = .cell v) := by
  rcases hb with rfl | ⟨x, hx⟩
  · obtain ⟨m, ⟨o, es, ep, e, hd, _⟩, _⟩ := R.ns
    exact ⟨o, e, .inl ⟨es, ep, hd⟩⟩
  · obtain ⟨o, o', e, hd⟩ := R.cells x b hx
    exact ⟨o', e, .inr ⟨o, hd⟩⟩
theorem EnvRel.dok {W : Cx} {env : Env} {vis : List (Nat × Str)} {loc : Loc} {h : Heap} (R : EnvRel W env vis loc h) : DOk (FrD env) h := fun b o hb e hf => by
  obtain ⟨o', e', hd⟩ := R.there hb
  rw [e] at e'; cases e'
  obtain ⟨_, xs, n, hx⟩ := hf
  rcases hd with ⟨es, n', hd⟩ | ⟨v, hd⟩ <;> rw [hx] at hd <;> cases hd
theorem DOk.none {h : Heap} : DOk NoD h := fun _ _ hb => hb.elim

theorem EnvRel.keep {W : Cx} {env : Env} {vis : List (Nat × Str)} {loc : Loc} {h h' : Heap} (R : EnvRel W env vis loc h) (k : KeepF h h')
    (kd : ∀ b o, FrD env b → h.get? b = some o → ∃ o', h'.get? b = some o' ∧ Alike o o') : EnvRel W env vis loc h' := by
  have kc : ∀ x c v, env.cells.lookup x = some c → h.IsCell c v → h'.IsCell c v := fun x c v hx ⟨o, e, hd⟩ => by
    obtain ⟨o', e', hd'⟩ := kd c o (.inr ⟨x, hx⟩) e
    rw [hd'.eq fun es ep q => by rw [hd] at q; cases q] at e'
    exact ⟨o, e', hd⟩
  refine ⟨R.kind, R.glob, R.blt, ?_, fun i x v k' h1 h2 h3 h4 => ?_, R.cellk, fun x c hx => ?_, R.apart⟩
  · obtain ⟨m, ⟨o, es, ep, e, hd, r⟩, q⟩ := R.ns
    obtain ⟨o', e', hd'⟩ := kd _ o (.inl rfl) e
    obtain ⟨es', ep', r'⟩ := hd'.ns ⟨es, ep, hd, r⟩
    exact ⟨m, ⟨o', es', ep', e', r'⟩, fun i x v h1 h2 h3 => let ⟨y, a, b⟩ := q i x v h1 h2 h3; ⟨y, a, b.keep k⟩⟩
  · obtain ⟨c, y, a, b, d⟩ := R.cell i x v k' h1 h2 h3 h4
    exact ⟨c, y, a, kc x c _ a b, d.keep k⟩
  · obtain ⟨o, ho⟩ := R.cells x c hx
    exact ⟨o, kc x c _ hx ho⟩

structure Rel (W : Cx) (env : Env) (vis : List (Nat × Str)) (loc : Loc) (mem : Mem) (s : Shared) : Prop where
  m : MRel W mem s
  e : EnvRel W env vis loc s.heap
  sep : ∀ b, FrD env b → mem b = none
  new : ∀ b, FrD env b → W.base.get? b = none

theorem Rel.step {W : Cx} {env : Env} {vis : List (Nat × Str)} {loc : Loc} {mem mem' : Mem} {s s' : Shared} (R : Rel W env vis loc mem s) (M : MRel W mem' s') (x : Step NoD mem s.heap mem' s'.heap) : Rel W env vis loc mem' s' where
  m := M
  e := R.e.keep (x.keepF R.m.mems .none) fun b o hb e => let ⟨o', e', a⟩ := x.keep b o e (R.sep b hb) id; ⟨o', e', a⟩
  sep := fun b hb => let ⟨_, e, _⟩ := R.e.there hb; x.none' e (R.sep b hb)
  new := R.new

noncomputable def below (h : Heap) (L : Addr) : Heap := ⟨(h.objs.toList.take L).toArray, h.life⟩
theorem below_get {h : Heap} {L b : Addr} (hb : b < L) : (below h L).get? b = h.get? b := by
  unfold Heap.get? below
  simp only [List.getElem?_toArray]
  rw [List.getElem?_take_of_lt hb]
  simp
theorem below_none {h : Heap} {L b : Addr} (hb : L ≤ b) : (below h L).get? b = none := by
  unfold Heap.get? below
  simp only [List.getElem?_toArray]
  have hb' : @LE.le Nat _ L b := hb
  rw [List.getElem?_eq_none (by simp only [List.length_take]; walk_at "o")]
noncomputable def others (h : Heap) (L : Addr) : List (Addr × Obj) := (List.range h.objs.size).filterMap fun b => if L < b then (h.get? b).map fun o => (b, o) else none
theorem mem_others {h : Heap} {L b : Addr} {o : Obj} : (b, o) ∈ others h L ↔ L < b ∧ h.get? b = some o := by
  unfold others
  rw [List.mem_filterMap]
  constructor
  · rintro ⟨c, hc, e⟩
    split at e
    · rename_i hl
      obtain ⟨o', ho, e'⟩ := Option.map_eq_some_iff.mp e
      cases e'; exact ⟨hl, ho⟩
    · cases e
  · rintro ⟨hl, ho⟩
    exact ⟨b, List.mem_range.mpr (Heap.lt_size ho), by rw [if_pos hl, ho]; rfl⟩
theorem fr_all {h : Heap} {L : Addr} {m : Str → Option Value} (hn : h.Ns L m) : Fr (below h L) L h m ∧ News (below h L) L h (others h L) := by
  refine ⟨⟨hn, fun b o e => ?_, ?_⟩, fun p hp => ?_⟩
  · by_cases hb : b < L
    · rw [below_get hb] at e; exact e
    · rw [below_none (Nat.le_of_not_lt hb)] at e; cases e
  · show (h.objs.toList.take L).toArray.size ≤ L
    simp only [List.size_toArray, List.length_take]; exact Nat.min_le_left _ _
  · obtain ⟨b, o⟩ := p
    obtain ⟨hl, ho⟩ := mem_others.mp hp
    exact ⟨ho, Nat.ne_of_gt hl, below_none (Nat.le_of_lt hl)⟩

structure KeepL (L : Addr) (h h' : Heap) : Prop where
  keep : ∀ b o, b ≠ L → h.get? b = some o → h'.get? b = some o
  ns : ∀ m, h.Ns L m → h'.Ns L m
theorem KeepL.of_fr {h h' : Heap} {L : Addr} {m : Str → Option Value} (hn : h.Ns L m) {news : List (Addr × Obj)} (F : Fr (below h L) L h' m) (N : News (below h L) L h' news) (hs : ∀ p ∈ others h L, p ∈ news) : KeepL L h h' where
  keep := fun b o hb e => by
    rcases Nat.lt_or_gt_of_ne hb with q | q
    · exact F.keep b o (by rw [below_get q]; exact e)
    · exact (N (b, o) (hs _ (mem_others.mpr ⟨q, e⟩))).1
  ns := fun m' hn' => by
    obtain ⟨o, es, ep, e, hd, hk, hf⟩ := hn
    obtain ⟨o', es', ep', e', hd', hk', hf'⟩ := hn'
    rw [e] at e'; cases e'; rw [hd] at hd'; cases hd'
    have : m' = m := funext fun x => (hf' x).symm.trans (hf x)
    subst this; exact F.ns
theorem KeepL.of_keeps {L : Addr} {h h' : Heap} (k : ∀ b o, h.get? b = some o → h'.get? b = some o) : KeepL L h h' := ⟨fun b o _ e => k b o e, fun _ hn => hn.keeps k⟩
theorem KeepL.alike {L : Addr} {h h' : Heap} (k : KeepL L h h') (hL : ∃ m, h.Ns L m) (b : Addr) (o : Obj) (e : h.get? b = some o) : ∃ o', h'.get? b = some o' ∧ Alike o o' := by
  by_cases hb : b = L
  · subst hb
    obtain ⟨m, hn⟩ := hL
    obtain ⟨o', es, ep, e', r⟩ := k.ns m hn
    refine ⟨o', e', .inr ⟨⟨m, ?_⟩, fun m' q => ?_⟩⟩
    · obtain ⟨o2, es2, ep2, e2, r2⟩ := hn; rw [e] at e2; cases e2; exact ⟨es2, ep2, r2⟩
    · obtain ⟨es3, ep3, r3⟩ := q
      obtain ⟨o4, es4, ep4, e4, r4⟩ := k.ns m' ⟨o, es3, ep3, e, r3⟩
      rw [e'] at e4; cases e4; exact ⟨es4, ep4, r4⟩
  · exact ⟨o, k.keep b o hb e, .refl o⟩
theorem Rel.hasNs {W : Cx} {env : Env} {vis : List (Nat × Str)} {loc : Loc} {mem : Mem} {s : Shared} (R : Rel W env vis loc mem s) : ∃ m, s.heap.Ns env.locals m := let ⟨m, h, _⟩ := R.e.ns; ⟨m, h⟩
theorem Rel.keepF {W : Cx} {env : Env} {vis : List (Nat × Str)} {loc : Loc} {mem : Mem} {s : Shared} (R : Rel W env vis loc mem s) {h' : Heap} (k : KeepL env.locals s.heap h') : KeepF s.heap h' := fun b o e hf => by
  obtain ⟨o', e', a⟩ := k.alike R.hasNs b o e
  rw [e', a.eq hf.notDict]
theorem Rel.keepM {W : Cx} {env : Env} {vis : List (Nat × Str)} {loc : Loc} {mem : Mem} {s s' : Shared} (R : Rel W env vis loc mem s) (k : KeepL env.locals s.heap s'.heap) (hg : s'.gens = s.gens := by rfl) (ho : s'.os = s.os := by rfl) : MRel W mem s' where
  stays := fun b x e => k.keep b x (by rintro rfl; rw [R.new _ (.inl rfl)] at e; cases e) (R.m.stays b x e)
  mems := fun b x e => by
    obtain ⟨r, n⟩ := R.m.mems b x e
    have hb : b ≠ env.locals := by rintro rfl; rw [R.sep _ (.inl rfl)] at e; cases e
    exact ⟨r.at (fun x e => k.keep _ _ hb e) (R.keepF k), n⟩
  gens := hg.trans R.m.gens
  os := ho.trans R.m.os
theorem Rel.keepS {W : Cx} {env : Env} {vis : List (Nat × Str)} {loc : Loc} {mem : Mem} {s : Shared} {h' : Heap} (R : Rel W env vis loc mem s) (k : KeepL env.locals s.heap h') : Step NoD mem s.heap mem h' where
  alive := fun b e => by
    cases q : s.heap.get? b with
    | none => rfl
    | some o => obtain ⟨o', e', _⟩ := k.alike R.hasNs b o q; rw [e] at e'; cases e'
  keep := fun b o e _ _ => k.alike R.hasNs b o e
  grow := fun _ a b => absurd a b
theorem Rel.allocM {W : Cx} {env : Env} {vis : List (Nat × Str)} {loc : Loc} {mem : Mem} {s s' : Shared} (R : Rel W env vis loc mem s) (k : KeepL env.locals s.heap s'.heap) {a : Addr} {o : AObj} (ha : s.heap.get? a = none)
    (r : KeepF s.heap s'.heap → ORel W s'.heap a o) (hg : s'.gens = s.gens := by rfl) (ho : s'.os = s.os := by rfl) : MRel W (mem.set a o) s' := by
  have M := R.keepM k hg ho
  refine ⟨M.stays, fun b x e => ?_, M.gens, M.os⟩
  unfold Mem.set at e
  split at e
  · rename_i hb; subst hb; cases e
    refine ⟨r (R.keepF k), ?_⟩
    cases q : W.base.get? b with
    | none => rfl
    | some y => rw [R.m.stays b y q] at ha; cases ha
  · exact M.mems b x e
theorem Rel.allocS {W : Cx} {env : Env} {vis : List (Nat × Str)} {loc : Loc} {mem : Mem} {s : Shared} {h' : Heap} (R : Rel W env vis loc mem s) (k : KeepL env.locals s.heap h') {a : Addr} {o : AObj} (ha : s.heap.get? a = none) : Step NoD mem s.heap (mem.set a o) h' := by
  have S := R.keepS k
  refine ⟨S.alive, S.keep, fun b hm h' => ?_⟩
  unfold Mem.set at h'
  split at h'
  · rename_i hb; subst hb; exact ha
  · exact absurd hm h'

end TD

namespace TD
open PySem PyProof.Rows PySem.W

structure Exc (h0 : Heap) (cls : Value) (a : Addr) (h : Heap) : Prop where
  new : h0.get? a = none
  obj : ∃ oe vs a0, h.get? a = some oe ∧ oe.cls = cls ∧ oe.data = .fields vs ∧ vs[0]? = some a0 ∧ vs[2]? = some .none ∧
    (vs[1]? = some .none ∨ ∃ T oT ts, h0.get? T = none ∧ vs[1]? = some (.ref T) ∧ T ≠ a ∧ h.get? T = some oT ∧ oT.data = .fields ts ∧ ts[3]? = some .none)
theorem Exc.back {h0 h1 h : Heap} {cls : Value} {a : Addr} (x : Exc h1 cls a h) (k : ∀ b, h1.get? b = none → h0.get? b = none) : Exc h0 cls a h := by
  obtain ⟨n, oe, vs, a0, e1, e2, e3, e4, e5, q⟩ := x
  refine ⟨k _ n, oe, vs, a0, e1, e2, e3, e4, e5, ?_⟩
  rcases q with q | ⟨T, oT, ts, q1, q⟩
  · exact .inl q
  · exact .inr ⟨T, oT, ts, k _ q1, q⟩

noncomputable def FrOk (base : Heap) (fs : List Env) (mem : Mem) (h : Heap) : Prop :=
  ∀ env ∈ fs, env.scope.kind = .function ∧ env.frame = some env.locals ∧ base.get? env.locals = none ∧ mem env.locals = none ∧ ∃ m, h.Ns env.locals m
noncomputable def frs (fs : List Env) : List Addr := fs.filterMap (·.frame)
theorem FrOk.mem {base : Heap} {fs : List Env} {mem : Mem} {h : Heap} (F : FrOk base fs mem h) {b : Addr} (hb : b ∈ frs fs) : base.get? b = none ∧ mem b = none ∧ ∃ m, h.Ns b m := by
  obtain ⟨env, he, hf⟩ := List.mem_filterMap.mp hb
  obtain ⟨_, h2, h3, h4, h5⟩ := F env he
  rw [h2] at hf
  cases hf
  exact ⟨h3, h4, h5⟩
theorem FrOk.funs {base B : Heap} {mem : Mem} {h : Heap} : ∀ {fs : List Env}, FrOk base fs mem h → (∀ b ∈ frs fs, B.get? b = none) → h.FunFrames B fs
  | [], _, _ => trivial
  | env :: r, F, k => by
    obtain ⟨h1, h2, h3, h4, m, hn⟩ := F env (.head _)
    refine Heap.FunFrames.cons (by rw [h1]; decide) h2 hn (k _ ?_) (FrOk.funs (fun e he => F e (.tail _ he)) fun b hb => k b ?_)
    · exact List.mem_filterMap.mpr ⟨env, .head _, h2⟩
    · obtain ⟨e, he, hf⟩ := List.mem_filterMap.mp hb
      exact List.mem_filterMap.mpr ⟨e, .tail _ he, hf⟩
theorem ns_alike {h : Heap} {b : Addr} {o : Obj} {m : Str → Option Value} (hn : h.Ns b m) (e : h.get? b = some o) (sl : Array (Option Value)) : Alike o { o with slots := sl } := by
  obtain ⟨o', es, ep, e', hd, r⟩ := hn
  rw [e] at e'
  cases e'
  exact .inr ⟨⟨m, es, ep, hd, r⟩, fun m' ⟨es', ep', hd', r'⟩ => ⟨es', ep', hd', r'⟩⟩
theorem ns_notFields {h : Heap} {b : Addr} {o : Obj} {m : Str → Option Value} (hn : h.Ns b m) (e : h.get? b = some o) : ∀ vs, o.data ≠ .fields vs := fun vs q => by
  obtain ⟨o', es, ep, e', hd, r⟩ := hn
  rw [e] at e'
  cases e'
  rw [hd] at q
  cases q

structure Kept (fs : List Env) (h0 h h' : Heap) : Prop where
  same : ∀ b o, h.get? b = some o → ((∀ vs, o.data ≠ .fields vs) ∨ h0.get? b ≠ none) → b ∉ frs fs → h'.get? b = some o
  fr : ∀ b o, h.get? b = some o → b ∈ frs fs → ∃ o', h'.get? b = some o' ∧ Alike o o'
theorem Kept.alike {fs : List Env} {h0 h h' : Heap} (K : Kept fs h0 h h') {b : Addr} {o : Obj} (e : h.get? b = some o) (k : (∀ vs, o.data ≠ .fields vs) ∨ h0.get? b ≠ none) : ∃ o', h'.get? b = some o' ∧ Alike o o' := by
  by_cases hb : b ∈ frs fs
  · exact K.fr b o e hb
  · exact ⟨o, K.same b o e k hb, .refl o⟩
theorem FrOk.kept {base : Heap} {fs gs : List Env} {mem : Mem} {h0 h h' : Heap} (F : FrOk base fs mem h) (K : Kept gs h0 h h') : FrOk base fs mem h' := fun env he => by
  obtain ⟨h1, h2, h3, h4, m, hn⟩ := F env he
  refine ⟨h1, h2, h3, h4, m, ?_⟩
  obtain ⟨o, es, ep, e, r⟩ := hn
  obtain ⟨o', e', a⟩ := K.alike e (.inl (ns_notFields ⟨o, es, ep, e, r⟩ e))
  obtain ⟨es', ep', r'⟩ := a.ns ⟨es, ep, r⟩
  exact ⟨o', es', ep', e', r'⟩
theorem Step.kept {D : Addr → Prop} {mem m' : Mem} {h0 h h' : Heap} {fs : List Env} (S : Step D mem h0 m' h) (K : Kept fs h0 h h') : Step D mem h0 m' h' := by
  refine ⟨fun b e => ?_, fun b o e hm hD => ?_, S.grow⟩
  · cases q : h0.get? b with
    | none => rfl
    | some o =>
      exfalso
      cases q1 : h.get? b with
      | none => rw [S.alive b q1] at q; cases q
      | some o1 =>
        obtain ⟨o', e', _⟩ := K.alike q1 (.inr (by rw [q]; exact fun z => nomatch z))
        rw [e] at e'; cases e'
  · obtain ⟨o1, e1, a1⟩ := S.keep b o e hm hD
    obtain ⟨o2, e2, a2⟩ := K.alike e1 (.inr (by rw [e]; exact fun z => nomatch z))
    exact ⟨o2, e2, a1.trans a2⟩
theorem ORel.notFields {W : Cx} {h : Heap} {b : Addr} {o : AObj} {x : Obj} (r : ORel W h b o) (e : h.get? b = some x) : ∀ vs, x.data ≠ .fields vs := by
  cases o with
  | list xs => obtain ⟨vs, ⟨n, hn⟩, _⟩ := r; rw [e] at hn; cases hn; exact fun _ q => nomatch q
  | dict0 => obtain ⟨o, es, n, hn, _, hd⟩ := r; rw [e] at hn; cases hn; exact fun _ q => by rw [hd] at q; cases q
theorem MRel.kept {W : Cx} {m' : Mem} {s : Shared} {h0 h' : Heap} {fs : List Env} (M : MRel W m' s) (K : Kept fs h0 s.heap h') (F : FrOk W.base fs m' s.heap) (hb : W.base.StaysIn h0) : MRel W m' { s with heap := h' } := by
  have kf : KeepF s.heap h' := fun b o e hf => by
    have hd : ∀ vs, o.data ≠ .fields vs := fun vs q => by obtain ⟨_, xs, n, hx⟩ := hf; rw [hx] at q; cases q
    obtain ⟨o', e', a⟩ := K.alike e (.inl hd)
    rw [e', a.eq hf.notDict]
  refine ⟨fun b o e => ?_, fun b o e => ?_, M.gens, M.os⟩
  · exact K.same b o (M.stays b o e) (.inr (by rw [hb b o e]; exact fun z => nomatch z)) fun q => by rw [(F.mem q).1] at e; cases e
  · obtain ⟨r, n⟩ := M.mems b o e
    refine ⟨r.at (fun x hx => K.same b x hx (.inl (r.notFields hx)) fun q => by rw [(F.mem q).2.1] at e; cases e) kf, n⟩

end TD

namespace TD
open PySem PyProof.Rows PySem.W

theorem Kept.trans {fs : List Env} {h0 h h1 h2 : Heap} (x : Kept fs h0 h h1) (y : Kept fs h0 h1 h2) : Kept fs h0 h h2 := by
  refine ⟨fun b o e k hb => y.same b o (x.same b o e k hb) k hb, fun b o e hb => ?_⟩
  obtain ⟨o1, e1, a1⟩ := x.fr b o e hb
  obtain ⟨o2, e2, a2⟩ := y.fr b o1 e1 hb
  exact ⟨o2, e2, a1.trans a2⟩
structure ExcT (h0 : Heap) (cls : Value) (a : Addr) (fl : Value) (h : Heap) : Prop where
  new : h0.get? a = none
  obj : ∃ oe vs a0 T oT ts, h.get? a = some oe ∧ oe.cls = cls ∧ oe.data = .fields vs ∧ vs[0]? = some a0 ∧ vs[2]? = some .none ∧ h0.get? T = none ∧ vs[1]? = some (.ref T) ∧ T ≠ a ∧ h.get? T = some oT ∧ oT.data = .fields ts ∧ ts[3]? = some fl
theorem ExcT.exc {h0 h : Heap} {cls : Value} {a : Addr} (x : ExcT h0 cls a .none h) : Exc h0 cls a h := by
  obtain ⟨n, oe, vs, a0, T, oT, ts, e1, e2, e3, e4, e5, q⟩ := x
  exact ⟨n, oe, vs, a0, e1, e2, e3, e4, e5, .inr ⟨T, oT, ts, q⟩⟩

section
variable {M : Model} {A : Around} {E : Value → Shared → Prop} {s : Shared} {base h0 : Heap} {env : Env} {outer : List Env} {mem : Mem} {a : Addr} {cls : Value} {Q : Unit → Shared → Prop}

theorem Kept.al {fs : List Env} {h h' : Heap} (K : Kept fs h0 h h') (al : ∀ b, h.get? b = none → h0.get? b = none) : ∀ b, h'.get? b = none → h0.get? b = none := fun b e => by
  cases q : h0.get? b with
  | none => rfl
  | some o =>
    exfalso
    cases q1 : h.get? b with
    | none => rw [al b q1] at q; cases q
    | some o1 =>
      obtain ⟨o', e', _⟩ := K.alike q1 (.inr (by rw [q]; exact fun z => nomatch z))
      rw [e] at e'; cases e'
theorem exc_entry {oe : Obj} {vs : Array Value} {a0 head : Value} {hadNext : Bool} (hfr : A.frames = some (env :: outer)) (F : FrOk base (env :: outer) mem s.heap) (hnew : h0.get? a = none) (al : ∀ b, s.heap.get? b = none → h0.get? b = none)
    (he : s.heap.get? a = some oe) (hd : oe.data = .fields vs) (hsz : 1 < vs.size) (h0' : vs[0]? = some a0) (h2' : vs[2]? = some .none)
    (hQ : ∀ h', ExcT h0 oe.cls a (rawInt env.locals) h' → Kept (env :: outer) h0 s.heap h' → Q () { s with heap := h' }) :
    wpAny M A (do let x ← frameOf env; let pl ← entryPlaceOf env.locals hadNext; let b ← EntryCells.newEntry head x .none (rawInt env.locals) .none pl; setField (.ref a) 1 b) Q E s := by
  have hf := (F env (.head _)).2.1
  have hF := F.funs (B := hideAll s.heap ([a] ++ frs (env :: outer))) fun b hb => hideAll_none _ (List.mem_append_right _ hb)
  have hna : a ∉ frs (env :: outer) := fun hm => by
    obtain ⟨_, _, m, hn⟩ := F.mem hm
    exact ns_notFields hn he vs hd
  refine wpAny_bind (wpAny_frameOf_fun hfr hF hf fun h1 hs => ?_)
  refine wpAny_bind (wpAny_entryPlaceOf fun pl hpl => ?_)
  unfold EntryCells.newEntry newFields
  refine wpAny_bind (wpAny_newObj_type ?_ (hpl.sizeOk5 _ _ _ _ _))
  have e1 : h1.get? a = some oe := (hs.2.1 a hna).trans he
  generalize hob : ({ cls := .type "traceback", dict := none, data := .fields ([head, .ref env.locals, .none, rawInt env.locals, .none] ++ (if pl.isEmpty then List.replicate 6 Value.none else pl)).toArray } : Obj) = ob
  have hnF : ob.isFreed = false := by subst hob; rfl
  have e2 := Heap.get?_push_of_some (h := h1) ob e1
  refine wpAny_setField e2 hd hsz (hQ _ ?_ ?_)
  · have hT : h1.objs.size ≠ a := Nat.ne_of_gt (Heap.lt_size e1)
    have hd3 := Obj.data_mapFields hd (·.setIfInBounds 1 (Value.ref h1.objs.size))
    refine ⟨hnew, _, _, a0, h1.objs.size, ob, ([head, .ref env.locals, .none, rawInt env.locals, .none] ++ (if pl.isEmpty then List.replicate 6 Value.none else pl)).toArray, Heap.get?_update_self _ e2 (Obj.isFreed_of_fields hd3), Obj.cls_mapFields _ _, hd3, ?_, ?_, ?_, by simp [hsz], hT, ?_, ?_, ?_⟩
    · rw [Array.getElem?_setIfInBounds_ne (by decide)]; exact h0'
    · rw [Array.getElem?_setIfInBounds_ne (by decide)]; exact h2'
    · refine al _ ?_
      exact hs.1 ▸ Heap.get?_none_of_le (Nat.le_refl _)
    · rw [Heap.get?_update_other _ _ (Ne.symm hT)]
      exact Heap.get?_push_size h1 hnF
    · rw [← hob]
    · first | (simp; done) | (rcases hpl with rfl | ⟨_, _, _, _, _, _, _, rfl⟩ <;> simp)
  · have keep : ∀ b o, b ≠ a → h1.get? b = some o → ((h1.push ob).update a (Obj.mapFields (·.setIfInBounds 1 (Value.ref h1.objs.size)))).get? b = some o := fun b o hb e => by
      rw [Heap.get?_update_other _ _ (Ne.symm hb)]
      exact Heap.get?_push_of_some _ e
    refine ⟨fun b o e hk hb => keep b o ?_ ((hs.2.1 b hb).trans e), fun b o e hb => ?_⟩
    · rintro rfl
      rw [he] at e; cases e
      exact hk.elim (fun q => q vs hd) fun q => q hnew
    · obtain ⟨_, _, m, hn⟩ := F.mem hb
      obtain ⟨sl, h3⟩ := hs.2.2 b o e
      exact ⟨_, keep b _ (fun q => hna (q ▸ hb)) h3, ns_alike hn e sl⟩
theorem exc_fly {fs : List Env} {fl : Value} {f : Option Addr} (F : FrOk base fs mem s.heap) (X : ExcT h0 cls a fl s.heap) (al : ∀ b, s.heap.get? b = none → h0.get? b = none)
    (hQ : ∀ h', ExcT h0 cls a (f.elim .none fun f => rawInt f) h' → Kept fs h0 s.heap h' → Q () { s with heap := h' }) : wpAny M A (setFlight (.ref a) f) Q E s := by
  obtain ⟨hnew, oe, vs, a0, T, oT, ts, he, hcls, hd, h0', h2', hnT, h1, hTe, hT, hdT, h3⟩ := X
  have hsz3 : 3 < ts.size := (Array.getElem?_eq_some_iff.mp h3).1
  have other : ∀ b, b ≠ T → (s.heap.update T (Obj.mapFields (·.setIfInBounds 3 (f.elim Value.none fun f => rawInt f)))).get? b = s.heap.get? b := fun b hb => Heap.get?_update_other _ _ (Ne.symm hb)
  unfold setFlight
  refine wpAny_bind (wpAny_field he hd h1 ?_)
  rw [if_pos (show (Value.ref T != Value.none) = true from by simp)]
  refine wpAny_setField hT hdT hsz3 (hQ _ ⟨hnew, oe, vs, a0, T, _, _, (other a (Ne.symm hTe)).trans he, hcls, hd, h0', h2', hnT, h1, hTe, Heap.get?_update_self _ hT (Obj.isFreed_of_fields (Obj.data_mapFields hdT _)), Obj.data_mapFields hdT _, by simp [hsz3]⟩ ⟨fun b o e hk hb => ?_, fun b o e hb => ?_⟩)
  · have hbT : b ≠ T := by
      rintro rfl
      rw [hT] at e; cases e
      rcases hk with hk | hk
      · exact hk ts hdT
      · exact hk hnT
    exact (other b hbT).trans e
  · obtain ⟨_, _, m, hn⟩ := F.mem hb
    have hbT : b ≠ T := by
      rintro rfl
      rw [hT] at e; cases e
      exact ns_notFields hn hT ts hdT
    exact ⟨o, (other b hbT).trans e, .refl o⟩
theorem exc_again {fl : Value} (hfr : A.frames = some (env :: outer)) (F : FrOk base (env :: outer) mem s.heap) (X : ExcT h0 cls a fl s.heap) (al : ∀ b, s.heap.get? b = none → h0.get? b = none)
    (hQ : ∀ h', ExcT h0 cls a (rawInt env.locals) h' → Kept (env :: outer) h0 s.heap h' → Q () { s with heap := h' }) : wpAny M A (noteFrame (.ref a) env) Q E s := by
  obtain ⟨hnew, oe, vs, a0, T, oT, ts, he, hcls, hd, h0', h2', hnT, h1, hTe, hT, hdT, h3⟩ := id X
  have hf := (F env (.head _)).2.1
  subst hcls
  unfold noteFrame
  simp only [hf]
  refine wpAny_bind (wpAny_field he hd h1 ?_)
  rw [if_pos (show (Value.ref T != Value.none) = true from by simp)]
  refine wpAny_bind (wpAny_field hT hdT h3 ?_)
  by_cases hfl : (fl == rawInt env.locals) = true
  · rw [if_pos hfl]
    refine wpAny_pure (hQ s.heap ?_ ⟨fun b o e _ _ => e, fun b o e _ => ⟨o, e, .refl o⟩⟩)
    rw [← eq_of_beq hfl]; exact X
  · rw [if_neg hfl]
    refine wpAny_bind (wpAny_setField hT hdT (Array.getElem?_eq_some_iff.mp h3).1 ?_)
    have other : ∀ b, b ≠ T → (s.heap.update T (Obj.mapFields (·.setIfInBounds 3 Value.none))).get? b = s.heap.get? b := fun b hb => Heap.get?_update_other _ _ (Ne.symm hb)
    have K : Kept (env :: outer) h0 s.heap (s.heap.update T (Obj.mapFields (·.setIfInBounds 3 Value.none))) := by
      refine ⟨fun b o e hk hb => (other b ?_).trans e, fun b o e hb => ⟨o, (other b ?_).trans e, .refl o⟩⟩
      · rintro rfl
        rw [hT] at e; cases e
        exact hk.elim (fun q => q ts hdT) fun q => q hnT
      · rintro rfl
        obtain ⟨_, _, m, hn⟩ := F.mem hb
        exact ns_notFields hn hT ts hdT
    exact exc_entry (s := { s with heap := s.heap.update T (Obj.mapFields (·.setIfInBounds 3 Value.none)) }) hfr (F.kept K) hnew (K.al al) ((other a (Ne.symm hTe)).trans he) hd (Array.getElem?_eq_some_iff.mp h1).1 h0' h2' fun h' x k => hQ h' x (K.trans k)
theorem exc_note (hfr : A.frames = some (env :: outer)) (F : FrOk base (env :: outer) mem s.heap) (X : Exc h0 cls a s.heap) (al : ∀ b, s.heap.get? b = none → h0.get? b = none)
    (hQ : ∀ h', ExcT h0 cls a (rawInt env.locals) h' → Kept (env :: outer) h0 s.heap h' → Q () { s with heap := h' }) : wpAny M A (noteFrame (.ref a) env) Q E s := by
  obtain ⟨hnew, oe, vs, a0, e1, e2, e3, e4, e5, q⟩ := X
  rcases q with q | ⟨T, oT, ts, t1, t2, t3, t4, t5, t6⟩
  · have hf := (F env (.head _)).2.1
    subst e2
    unfold noteFrame
    simp only [hf]
    refine wpAny_bind (wpAny_field e1 e3 q ?_)
    rw [if_neg (by decide)]
    exact exc_entry hfr F hnew al e1 e3 (Array.getElem?_eq_some_iff.mp q).1 e4 e5 hQ
  · exact exc_again hfr F ⟨hnew, oe, vs, a0, T, oT, ts, e1, e2, e3, e4, e5, t1, t2, t3, t4, t5, t6⟩ al hQ
theorem exc_land {fs : List Env} {fl : Value} (F : FrOk base fs mem s.heap) (X : ExcT h0 cls a fl s.heap) (al : ∀ b, s.heap.get? b = none → h0.get? b = none)
    (hQ : ∀ h', ExcT h0 cls a .none h' → Kept fs h0 s.heap h' → Q () { s with heap := h' }) : wpAny M A (setFlight (.ref a) none) Q E s := exc_fly (f := none) F X al hQ
theorem exc_looked (hfr : A.frames = some (env :: outer)) (F : FrOk base (env :: outer) mem s.heap) (X : Exc h0 cls a s.heap) (al : ∀ b, s.heap.get? b = none → h0.get? b = none)
    (hQ : ∀ h', ExcT h0 cls a .none h' → Kept (env :: outer) h0 s.heap h' → Q () { s with heap := h' }) : wpAny M A (noteFrame (.ref a) env) (fun _ s₂ => wpAny M A (setFlight (.ref a) none) Q E s₂) E s :=
  exc_note hfr F X al fun h1 x1 k1 => exc_land (s := { s with heap := h1 }) (F.kept k1) x1 (k1.al al) fun h2 x2 k2 => hQ h2 x2 (k1.trans k2)
noncomputable def ExcA (h0 : Heap) (cls : Value) (a : Addr) (h : Heap) : Prop := Exc h0 cls a h ∨ ∃ fl, ExcT h0 cls a fl h
theorem ExcT.back {h1 h : Heap} {fl : Value} (x : ExcT h1 cls a fl h) (k : ∀ b, h1.get? b = none → h0.get? b = none) : ExcT h0 cls a fl h := by
  obtain ⟨n, oe, vs, a0, T, oT, ts, e1, e2, e3, e4, e5, q, r⟩ := x
  exact ⟨k _ n, oe, vs, a0, T, oT, ts, e1, e2, e3, e4, e5, k _ q, r⟩
theorem ExcA.back {h1 h : Heap} (x : ExcA h1 cls a h) (k : ∀ b, h1.get? b = none → h0.get? b = none) : ExcA h0 cls a h := x.imp (·.back k) fun ⟨fl, x⟩ => ⟨fl, x.back k⟩
theorem excA_note (hfr : A.frames = some (env :: outer)) (F : FrOk base (env :: outer) mem s.heap) (X : ExcA h0 cls a s.heap) (al : ∀ b, s.heap.get? b = none → h0.get? b = none)
    (hQ : ∀ h', ExcT h0 cls a (rawInt env.locals) h' → Kept (env :: outer) h0 s.heap h' → Q () { s with heap := h' }) : wpAny M A (noteFrame (.ref a) env) Q E s := by
  rcases X with X | ⟨fl, X⟩
  · exact exc_note hfr F X al hQ
  · exact exc_again hfr F X al hQ
theorem excA_leaves (hfr : A.frames = some (env :: outer)) (F : FrOk base (env :: outer) mem s.heap) (X : ExcA h0 cls a s.heap) (al : ∀ b, s.heap.get? b = none → h0.get? b = none)
    (hQ : ∀ h', ExcT h0 cls a .none h' → Kept (env :: outer) h0 s.heap h' → Q () { s with heap := h' }) : wpAny M A (leaving env (.ref a)) Q E s := by
  unfold leaving
  exact wpAny_bind (excA_note hfr F X al fun h1 x1 k1 => exc_land (s := { s with heap := h1 }) (F.kept k1) x1 (k1.al al) fun h2 x2 k2 => hQ h2 x2 (k1.trans k2))
theorem exc_cameBack {fl : Value} {E' : Value → Shared → Prop} {env' : Env} {fs : List Env} (F : FrOk base fs mem s.heap) (X : ExcT h0 cls a fl s.heap) (al : ∀ b, s.heap.get? b = none → h0.get? b = none)
    (hQ : ∀ fl' h', ExcT h0 cls a fl' h' → Kept fs h0 s.heap h' → E' (.ref a) { s with heap := h' }) : cameBackBy M A env' E' (.ref a) s := by
  obtain ⟨hnew, oe, vs, a0, T, oT, ts, he, hcls, hd, h0', h2', hnT, h1, hTe, hT, hdT, h3⟩ := id X
  unfold cameBackBy
  refine wpAny_bind (wpAny_field he hd h1 ?_)
  rw [if_neg (show ¬ ((Value.ref T == Value.none) = true) from by simp)]
  exact exc_fly F X al fun h' x k => hQ _ h' x k
end
end TD

namespace TD
open PySem PyProof.Rows

noncomputable def bmV : List Value := [.type "ValueError", .type "Exception", .type "BaseException", .type "object"]
noncomputable def stillN : List Str := ["__init__", "__getattribute__", "__getattr__", "__class__"]
noncomputable def XCls (h : Heap) (C : Addr) (bm : List Value) : Prop :=
  ∃ nm q N bs hdct sn sub ab col dd k0 k1 k2 k3 k5, ∃ mN : Str → Option Value, h.get? C = some (excClassObj nm q C N bs bm hdct sn sub ab col dd k0 k1 k2 k3 k5 "ValueError.__new__") ∧ h.Ns N mN ∧ ∀ n ∈ stillN, mN n = none
theorem XCls.keeps {h h' : Heap} {C : Addr} {bm : List Value} (x : XCls h C bm) (hk : ∀ b o, h.get? b = some o → h'.get? b = some o) : XCls h' C bm := by
  obtain ⟨nm, q, N, bs, hdct, sn, sub, ab, col, dd, k0, k1, k2, k3, k5, mN, a, b, c⟩ := x
  exact ⟨nm, q, N, bs, hdct, sn, sub, ab, col, dd, k0, k1, k2, k3, k5, mN, hk _ _ a, b.keeps hk, c⟩
noncomputable def NamedAt (h : Heap) (C : Addr) (n : Str) : Prop := ∃ o cd, h.get? C = some o ∧ o.data = .cls cd ∧ cd.name = n
theorem NamedAt.keeps {h h' : Heap} {C : Addr} {n : Str} (x : NamedAt h C n) (hk : ∀ b o, h.get? b = some o → h'.get? b = some o) : NamedAt h' C n := by
  obtain ⟨o, cd, a, b⟩ := x; exact ⟨o, cd, hk _ _ a, b⟩
theorem NamedAt.ne {h : Heap} {C C' : Addr} {n n' : Str} (x : NamedAt h C n) (y : NamedAt h C' n') (hn : n ≠ n') : C ≠ C' := fun q => by
  subst q
  obtain ⟨o, cd, a, b, c⟩ := x
  obtain ⟨o', cd', a', b', c'⟩ := y
  rw [a] at a'; cases a'
  rw [b] at b'; cases b'
  exact hn (c.symm.trans c')
structure XAt (h : Heap) (D C : Addr) : Prop where
  d : XCls h D bmV
  c : XCls h C (.ref D :: bmV)

section
variable {M : Model} {prog : Program} {w : World} {A : Around} {E : Value → Shared → Prop} {h : Heap} {g : Array GenState} {d : Drawn} {t : Nat} {os : OsState} {a D C : Addr} {o : Obj}

theorem XAt.look (x : XAt h D C) {n : Str} (hn : n ∈ stillN) {y : Option Value} (hB : typeLookup (.type "ValueError") n = pure y) {Q : Option Value → Shared → Prop} (hq : Q y ⟨h, g, d, t, os⟩) : wpAny M A (typeLookup (.ref C) n) Q E ⟨h, g, d, t, os⟩ := by
  obtain ⟨⟨nm, q, N, bs, hdct, sn, sub, ab, col, dd, k0, k1, k2, k3, k5, mD, hD, hND, hmD⟩, ⟨nm', q', N', bs', hdct', sn', sub', ab', col', dd', k0', k1', k2', k3', k5', mN, hC, hN, hmN⟩⟩ := x
  have hrest : lookupAlong bmV n = pure y := by rw [typeLookup_eq, F.excBase_ValueError.mroIs] at hB; exact hB
  rw [typeLookup_eq]
  refine wpAny_bind (wpAny_mroOf_exc hC ?_)
  rw [lookupAlong_cons]
  refine wpAny_bind (wpAny_classOwn_exc hC hN ?_)
  rw [hmN n hn]
  show wpAny _ _ (lookupAlong (.ref D :: bmV) n) _ _ _
  rw [lookupAlong_cons]
  refine wpAny_bind (wpAny_classOwn_exc hD hND ?_)
  rw [hmD n hn]
  show wpAny _ _ (lookupAlong bmV n) _ _ _
  rw [hrest]
  exact wpAny_pure hq
theorem XAt.sub (x : XAt h D C) {base : Value} {Q : Bool → Shared → Prop} (hq : Q ((Value.ref C :: .ref D :: bmV).contains base) ⟨h, g, d, t, os⟩) : wpAny M A (isSubtype (.ref C) base) Q E ⟨h, g, d, t, os⟩ := by
  obtain ⟨_, ⟨nm', q', N', bs', hdct', sn', sub', ab', col', dd', k0', k1', k2', k3', k5', mN, hC, hN, hmN⟩⟩ := x
  exact wpAny_isSubtype_exc hC hq
theorem has_type {T : String} {b : Bool} (hb : bmV.contains (.type T) = b) : (Value.ref C :: .ref D :: bmV).contains (.type T) = b := by
  rw [List.contains_cons, List.contains_cons, hb]; rfl

theorem ve_class : typeLookup (.type "ValueError") "__class__" = pure (some (.builtin "object.__class__")) := by rw [typeLookup_type, builtinLookup_eq_fast]; kernel_rfl
theorem class_get_exc {R : Result → Shared → Prop} (X : XAt h D C) (hx : h.get? a = some o) (hc : o.cls = .ref C) (hq : R (.ok (.ret (.ref C))) ⟨h, g, d, t, os⟩) :
    codeAny (model prog w) A (.call (.builtin "getset_descriptor.__get__") ⟨[.builtin "object.__class__", .ref a, .ref C], []⟩) R ⟨h, g, d, t, os⟩ := by
  have hT5 : (⟨h, g, d, t, os⟩ : Shared).TypeIs (.builtin "object.__class__") "getset_descriptor" := F.typeOf_object_class
  have hcB : (Value.ref C :: .ref D :: bmV).contains (.type (".".intercalate ("object.__class__".cutAt '.').dropLast)) = true := by
    rw [F.owner_object_class]; exact has_type (by decide +kernel)
  refine codeAny_call_builtin F.slot_gs_get.plain F.entry_gs_get (F.slot_gs_get.check _ _ _ _ _ _ _ _ hT5 (F.args_gs_get _ _ _) ?_)
  repeat (any_goals (first | assumption | (with_reducible refine wpAny_loadPart_at hx ?_; rw [hc]) | (with_reducible refine X.sub ?_; rw [hcB]) | wp_step))
  refine ⟨Code.quiet_builtin _ (by decide +kernel), codeAny_builtin F.entry_object_class ?_⟩
  repeat (any_goals (first | assumption | (with_reducible refine wpAny_loadPart_at hx ?_; rw [hc]) | wp_step))
theorem class_entry_exc {tk : Tok} {Q : Fin → Shared → Prop} (X : XAt h D C) (hx : h.get? a = some o) (hc : o.cls = .ref C) (hq : Q (.done (.ret (.ref C))) ⟨h, g, d, t, os⟩) :
    wpAny (model prog w) A (Builtin.«object.__getattribute__» ⟨[.ref a, .str "__class__" tk], []⟩) Q E ⟨h, g, d, t, os⟩ := by
  have hT5 : (⟨h, g, d, t, os⟩ : Shared).TypeIs (.builtin "object.__class__") "getset_descriptor" := F.typeOf_object_class
  have f5 := F.typeOf_object_class
  have f6 := F.slot_gs_get.lookup
  have f7 := F.slot_gs_set.lookup
  have hm : ("__class__" : Str) ∈ stillN := .tail _ (.tail _ (.tail _ (.head _)))
  repeat (any_goals (first | assumption | (with_reducible refine wpAny_loadPart_at hx ?_; rw [hc]) | with_reducible refine X.look hm ve_class ?_ | wp_step))
  refine class_get_exc X hx hc ?_
  repeat (any_goals (first | assumption | wp_step))
theorem check_ga_exc {nameV : Value} {Q : Unit → Shared → Prop} (X : XAt h D C) (hx : h.get? a = some o) (hc : o.cls = .ref C) (hq : Q () ⟨h, g, d, t, os⟩) : wpAny M A (checkBuiltinCall "BaseException.__getattribute__" ⟨[.ref a, nameV], []⟩) Q E ⟨h, g, d, t, os⟩ := by
  have hk : builtinKind "BaseException.__getattribute__" = some .slot := by decide +kernel
  have hsplit : splitId "BaseException.__getattribute__" = some ("BaseException", "__getattribute__") := by decide +kernel
  have hcB : (Value.ref C :: .ref D :: bmV).contains (.type "BaseException") = true := has_type (by decide +kernel)
  have ha := F.args_bexc_ga (.ref a) nameV
  simp only [checkBuiltinCall, hk, hsplit]
  refine wpAny_bind ?_
  · unfold isInstance
    repeat (first | (with_reducible refine wpAny_loadPart_at hx ?_; rw [hc]) | (with_reducible refine X.sub ?_; rw [hcB]) | wp_step)
    exact hq
theorem class_by_exc {tk : Tok} {Q : Value → Shared → Prop} (X : XAt h D C) (hx : h.get? a = some o) (hc : o.cls = .ref C) (hq : Q (.ref C) ⟨h, g, d, t, os⟩) : wpAny (model prog w) A (getAttrBy (.ref a) (.str "__class__" tk) false) Q E ⟨h, g, d, t, os⟩ := by
  have FB := F.attrBase_ValueError
  have f3 := FB.ga.bind (.ref a)
  have hx2 : (Value.builtin "BaseException.__getattribute__" == Value.builtin "object.__getattribute__") = false := by decide +kernel
  have hx1 : (onTheHeap (Value.ref C) && Value.builtin "BaseException.__getattribute__" == Value.builtin "object.__getattribute__") = false := by rw [hx2]; rfl
  have hm1 : ("__getattribute__" : Str) ∈ stillN := .tail _ (.head _)
  have hm2 : ("__getattr__" : Str) ∈ stillN := .tail _ (.tail _ (.head _))
  repeat (any_goals (first | assumption | (with_reducible refine wpAny_loadPart_at hx ?_; rw [hc]) | with_reducible refine X.look hm1 FB.ga.lookup ?_ | with_reducible refine X.look hm2 FB.noGetattr ?_ | wp_step))
  refine codeAny_call_builtin FB.ga.plain F.entry_bexc_ga (check_ga_exc X hx hc (class_entry_exc X hx hc ?_))
  repeat (any_goals (first | assumption | wp_step))
theorem class_attr_exc {Q : Option Value → Shared → Prop} (X : XAt h D C) (hx : h.get? a = some o) (hc : o.cls = .ref C) (hq : Q (some (.ref C)) ⟨h, g, d, t + 1, os⟩) : wpAny (model prog w) A (getAttr? (.ref a) "__class__") Q E ⟨h, g, d, t, os⟩ := by
  unfold getAttr? getAttrBy?
  repeat (any_goals (first | assumption | with_reducible apply class_by_exc X hx hc | wp_step))
end
end TD

namespace TD
open PySem PySem.W PyProof.Rows

noncomputable def subNames : List String := ["BadTable", "BadShares", "BadHeir", "BadThing", "BadRing", "BadOrder", "Full", "BadNote"]
noncomputable def lookOne (h : Heap) (n : Str) : Bool := match h.clsAt mainGlobals n with
  | some (_, _, cd) => (h.nsMap cd.ns "__class__").isNone && cd.name == n
  | none => false
noncomputable def clsLook (s : Shared) : Bool := ("DealError" :: subNames).all fun n => lookOne s.heap (Str.ofString n)
noncomputable def ownLook (h : Heap) (n : Str) (chain : List Str) : Bool := h.ownExcOk n chain bmV "ValueError.__new__" && h.quietOk n
noncomputable def ownsLook (s : Shared) : Bool := ownLook s.heap "DealError" [] && subNames.all fun n => ownLook s.heap (Str.ofString n) ["DealError"]
noncomputable def ClsAt (mg : Str → Option Value) (h : Heap) : Prop := ∃ D, mg (Str.ofString "DealError") = some (.ref D) ∧ XCls h D bmV ∧ ∀ n ∈ subNames, ∃ C, mg (Str.ofString n) = some (.ref C) ∧ XCls h C (.ref D :: bmV) ∧ NamedAt h C (Str.ofString n)
theorem ClsAt.keeps {mg : Str → Option Value} {h h' : Heap} (x : ClsAt mg h) (hk : ∀ b o, h.get? b = some o → h'.get? b = some o) : ClsAt mg h' := by
  obtain ⟨D, h1, h2, h3⟩ := x
  exact ⟨D, h1, h2.keeps hk, fun n hn => let ⟨C, a, b, c⟩ := h3 n hn; ⟨C, a, b.keeps hk, c.keeps hk⟩⟩
theorem xcls_of {h : Heap} {n : Str} {chain : List Str} (x : ownLook h n chain = true) (y : lookOne h n = true) :
    ∃ C, h.nsMap mainGlobals n = some (.ref C) ∧ XCls h C ((chain.map fun n => (h.nsMap mainGlobals n).getD .none) ++ bmV) ∧ NamedAt h C n := by
  obtain ⟨x1, x2⟩ := Bool.and_eq_true_iff.mp x
  obtain ⟨C, N, nm, q, bs, hdct, sn, sub, ab, col, dd, k0, k1, k2, k3, k5, hb, hC, hN, hq⟩ := Heap.ownExcQ_of_ok x1 x2
  unfold lookOne at y
  cases hf : h.clsAt mainGlobals n with
  | none => rw [hf] at y; cases y
  | some z =>
    obtain ⟨C', o', cd'⟩ := z
    rw [hf] at y
    obtain ⟨y1, y2⟩ := Bool.and_eq_true_iff.mp y
    obtain ⟨hn', ho', hd'⟩ := Heap.clsAt_spec hf
    rw [hb] at hn'
    cases hn'
    refine ⟨C, hb, ⟨nm, q, N, bs, hdct, sn, sub, ab, col, dd, k0, k1, k2, k3, k5, _, hC, hN, fun m hm => ?_⟩, o', cd', ho', hd', beq_iff_eq.mp y2⟩
    rw [hC] at ho'
    cases ho'
    cases hd'
    rcases List.mem_cons.mp hm with rfl | hm
    · exact hq _ (.head _)
    rcases List.mem_cons.mp hm with rfl | hm
    · exact hq _ (.tail _ (.head _))
    rcases List.mem_cons.mp hm with rfl | hm
    · exact hq _ (.tail _ (.tail _ (.head _)))
    rcases List.mem_cons.mp hm with rfl | hm
    · exact Option.isNone_iff_eq_none.mp y1
    · cases hm
theorem cls_of {s : Shared} (z : ownsLook s = true) (x : clsLook s = true) : ClsAt (s.heap.nsMap mainGlobals) s.heap := by
  have hx := List.all_eq_true.mp x
  obtain ⟨a, b⟩ := Bool.and_eq_true_iff.mp z
  obtain ⟨D, h1, h2, _⟩ := xcls_of a (hx _ (.head _))
  refine ⟨D, h1, h2, fun n hn => ?_⟩
  obtain ⟨C, h3, h4, h5⟩ := xcls_of (List.all_eq_true.mp b n hn) (hx n (.tail _ hn))
  refine ⟨C, h3, ?_, h5⟩
  have e : (["DealError"] : List Str).map (fun n => (s.heap.nsMap mainGlobals n).getD .none) = [.ref D] := by
    show [(s.heap.nsMap mainGlobals (Str.ofString "DealError")).getD .none] = _
    rw [h1]; rfl
  rw [e] at h4
  exact h4
noncomputable def ownIs (o : OwnSpec) (n : Str) (chain : List Str) : Bool := o.name == n && (o.chain == chain && (o.bm == bmV && o.newId == "ValueError.__new__"))
noncomputable def ownsText (p : Program) : Bool := ((ownsOf p).any fun o => ownIs o "DealError" []) && subNames.all fun n => (ownsOf p).any fun o => ownIs o (Str.ofString n) ["DealError"]
theorem own_of {h : Heap} {owns : List OwnSpec} (x : (owns.all fun o => h.ownExcOk o.name o.chain o.bm o.newId && h.quietOk o.name) = true) {n : Str} {chain : List Str} (y : (owns.any fun o => ownIs o n chain) = true) : ownLook h n chain = true := by
  obtain ⟨o, ho, hi⟩ := List.any_eq_true.mp y
  obtain ⟨h1, hi⟩ := Bool.and_eq_true_iff.mp hi
  obtain ⟨h2, hi⟩ := Bool.and_eq_true_iff.mp hi
  obtain ⟨h3, h4⟩ := Bool.and_eq_true_iff.mp hi
  have := List.all_eq_true.mp x o ho
  rw [beq_iff_eq.mp h1, beq_iff_eq.mp h2, beq_iff_eq.mp h3, beq_iff_eq.mp h4] at this
  exact this
noncomputable abbrev HeadRunX (r : OpenRow) : Prop := LeftO r.prog (viewOf r.prog) [] (fun s => (xlAt (viewOf r.prog) [] s && clsLook s) && recOk (RowW.records r.toRowW) s) (Hook.obs Hook.none) (Hook.val Hook.none) 4000
noncomputable abbrev Xt (r : OpenRow) (s : Shared) : Bool := (xlAt (viewOf r.prog) [] s && clsLook s) && recOk (RowW.records r.toRowW) s
noncomputable abbrev Look1 (r : OpenRow) : Prop := ∀ w, (openEnds treeTable r.prog w 4000).map (fun s => seen ((recsOf (viewOf r.prog)).map (·.name)) (ownsOf (viewOf r.prog)) [] { s with gens := #[] }) = some (expectedOf (viewOf r.prog))
noncomputable abbrev Look2 (r : OpenRow) : Prop := ∀ w, (openEnds treeTable r.prog w 4000).map (fun s => (s.heap.bltView, s.heap.keysOk (looseW (viewOf r.prog) []) ((recsOf (viewOf r.prog)).map (·.name)) ((litsOf (viewOf r.prog)).map (·.1)) ((clssOf (viewOf r.prog) (looseW (viewOf r.prog) [])).map (·.name)) && s.heap.accountedOkI (importedModules r.prog.main.body) && s.heap.isNs mainGlobals && s.heap.isNs builtinsNs && tablesOk (viewOf r.prog) s.heap && Xt r s && (if true then s.gens.size == 0 else !leftWithCleanup s.gens), tabsOk (viewOf r.prog) s)) = some (bltViewBooted, true, true)
noncomputable abbrev Look3 (r : OpenRow) : Prop := ∀ w, (openEnds treeTable r.prog w 4000).map (fun s => ((pinSeenD (viewOf r.prog) (drecsOf (viewOf r.prog)) s, plainSeenE (viewOf r.prog) (looseW (viewOf r.prog) []) s, plainSeenD (viewOf r.prog) [] s, wideSeen (viewOf r.prog) s, clsSeenW (viewOf r.prog) [] s), Hook.obs Hook.none s)) = some ((pinGoodD (drecsOf (viewOf r.prog)), plainGoodE (viewOf r.prog) (looseW (viewOf r.prog) []), plainGoodD (viewOf r.prog) [], wideGood (viewOf r.prog), clsGoodW (viewOf r.prog) []), Hook.val Hook.none w)
theorem HeadRunX.of3 {r : OpenRow} (a : Look1 r) (b : Look2 r) (c : Look3 r) : HeadRunX r := fun w => by
  obtain ⟨s, h1, h2⟩ := Option.map_eq_some_iff.mp (a w)
  have b := b w
  have c := c w
  rw [h1] at b c ⊢
  have b := Option.some.inj b
  have c := Option.some.inj c
  have b1 := congrArg (fun x => x.1) b
  have b2 := congrArg (fun x => x.2.1) b
  have b3 := congrArg (fun x => x.2.2) b
  have c1 := congrArg (fun x => x.1.1) c
  have c2 := congrArg (fun x => x.1.2.1) c
  have c3 := congrArg (fun x => x.1.2.2.1) c
  have c4 := congrArg (fun x => x.1.2.2.2.1) c
  have c5 := congrArg (fun x => x.1.2.2.2.2) c
  have c6 := congrArg (fun x => x.2) c
  dsimp only at h2 b1 b2 b3 c1 c2 c3 c4 c5 c6
  show some _ = some _
  unfold openSeen openGood
  dsimp only
  rw [h2, b1, b2, b3, c1, c2, c3, c4, c5, c6]
theorem HeadRunX.owns {r : OpenRow} (hl : HeadRunX r) (ht : ownsText (viewOf r.prog) = true) :
    LeftO r.prog (viewOf r.prog) [] (fun s => (xlAt (viewOf r.prog) [] s && (clsLook s && ownsLook s)) && recOk (RowW.records r.toRowW) s) (Hook.obs Hook.none) (Hook.val Hook.none) 4000 := fun w => by
  obtain ⟨s, h1, h2⟩ := Option.map_eq_some_iff.mp (hl w)
  refine Option.map_eq_some_iff.mpr ⟨s, h1, ?_⟩
  rw [← h2]
  have e1 := congrArg (fun x => x.1.1) h2
  have hok : ((ownsOf (viewOf r.prog)).all fun o => s.heap.ownExcOk o.name o.chain o.bm o.newId && s.heap.quietOk o.name) = true := congrArg Seen.ownsOk e1
  obtain ⟨t1, t2⟩ := Bool.and_eq_true_iff.mp ht
  have ho : ownsLook s = true := Bool.and_eq_true_iff.mpr ⟨own_of hok t1, List.all_eq_true.mpr fun n hn => own_of hok (List.all_eq_true.mp t2 n hn)⟩
  unfold openSeen
  dsimp only
  rw [ho, Bool.and_true]
noncomputable abbrev XPX (r : OpenRow) (mg : Str → Option Value) (h : Heap) : Prop := XL (viewOf r.prog) [] mg h ∧ ClsAt mg h
theorem open_headX {r : OpenRow} (hl : HeadRunX r) (ht : ownsText (viewOf r.prog) = true)
    (h1 : (defOf (viewOf r.prog) r.name).isSome = true) (h2 : (defOf (viewOf r.prog) r.name).map (fun x => (x.1.params, x.1.body, x.1.scope)) = r.prog.theDef r.name)
    (h3 : (defOf (viewOf r.prog) r.name).bind (fun x => kwWritten? x.1.params.kwonlyargs x.1.params.kw_defaults) = (defOf (viewOf r.prog) r.name).map (·.2))
    (hwr : (!r.writes || r.records.isEmpty) = true) (k1 : r.wellSaid = true) (ok : (chainsOk (viewOf r.prog) && opensWell r.prog && (frees r.toRowW && r.within.isEmpty)) = true) (hb : r.prog.bare) (hw : r.toRowW.promised)
    (call : ∀ d kwd, d.name = r.name → WalkO (viewOf r.prog) [] (XPX r) (Hook.says Hook.none) r.toRowW d kwd fun f vs => PySem.call f vs) : r.Holds := by
  obtain ⟨⟨d, kwd⟩, hd⟩ := Option.isSome_iff_exists.mp h1
  rw [hd] at h2 h3
  refine PySem.W.holds_open (XP := XPX r) (YP := Hook.says Hook.none) (hl.owns ht) (Hook.of Hook.none) (Hook.keeps Hook.none) (fun s e => ?_) (fun mg h h' x k => ⟨XL.keeps mg h h' x.1 k, x.2.keeps k⟩) hd h2.symm h3 (fun s e => recFacts_of (Bool.and_eq_true_iff.mp e).2) hwr k1 ok hb hw (call d kwd (defOf_name hd))
  obtain ⟨e1, e2⟩ := Bool.and_eq_true_iff.mp (Bool.and_eq_true_iff.mp e).1
  obtain ⟨e2, e3⟩ := Bool.and_eq_true_iff.mp e2
  exact ⟨xl_of s e1, cls_of e3 e2⟩
end TD

namespace TD
open PySem PySem.W PyProof.Rows

noncomputable abbrev bootS (w : World) (os : OsState) : Shared := ⟨boot_heap w.params, Array.mk [], boot_drawn, boot_toks, os⟩
noncomputable abbrev runQ (r : OpenRow) (w : World) (os : OsState) : Option Shared := Fast.tw14082659384304107361 treeTable r.prog w (bootS w os).heap.objs.size ((bootS w os).heap.nsMap mainGlobals "__annotations__") 4000 (bootS w os) (topStub r.prog)
noncomputable abbrev QuickA (r : OpenRow) : Prop := ∀ w os, (runQ r w os).map (fun s => staticsOk (importedModules r.prog.main.body) (bootS w os).heap s.heap && namesBound r.prog s.heap && gensDone s && laidKept (bootS w os).heap s.heap) = some true
noncomputable abbrev Quick1 (r : OpenRow) : Prop := ∀ w os, (runQ r w os).map (fun s => Fast.tw5160383126252970620 ((recsOf (viewOf r.prog)).map (·.name)) (ownsOf (viewOf r.prog)) [] { s with gens := #[] }) = some (expectedOf (viewOf r.prog))
noncomputable def lookQ (h : Heap) (n : Str) : Bool := match Fast.tw1081197705613022005 h mainGlobals n with
  | some (_, _, cd) => (Fast.tw8920871248978507458 h cd.ns "__class__").isNone && cd.name == n
  | none => false
theorem lookQ_eq : lookQ = lookOne := by
  funext h n
  unfold lookQ lookOne
  rw [← Fast.te1081197705613022005, ← Fast.te8920871248978507458]
  try rfl
noncomputable def clsQ (s : Shared) : Bool := ("DealError" :: subNames).all fun n => lookQ s.heap (Str.ofString n)
noncomputable abbrev XtQ (r : OpenRow) (s : Shared) : Bool := (xlAt (viewOf r.prog) [] s && clsQ s) && recOk (RowW.records r.toRowW) s
noncomputable abbrev Quick2 (r : OpenRow) : Prop := ∀ w os, (runQ r w os).map (fun s => (s.heap.bltView, Fast.tw10880121769531294198 s.heap (looseW (viewOf r.prog) []) ((recsOf (viewOf r.prog)).map (·.name)) ((litsOf (viewOf r.prog)).map (·.1)) ((clssOf (viewOf r.prog) (looseW (viewOf r.prog) [])).map (·.name)) && Fast.tw14722251495701143533 s.heap (importedModules r.prog.main.body) && s.heap.isNs mainGlobals && s.heap.isNs builtinsNs && Fast.tw10994771534591457954 (viewOf r.prog) s.heap)) = some (bltViewBooted, true)
noncomputable abbrev Quick4 (r : OpenRow) : Prop := ∀ w os, (runQ r w os).map (fun s => (XtQ r s, (if true then s.gens.size == 0 else !leftWithCleanup s.gens), Fast.tw479339242167458305 (viewOf r.prog) s)) = some (true, true, true)
noncomputable abbrev Quick3 (r : OpenRow) : Prop := ∀ w os, (runQ r w os).map (fun s => ((pinSeenD (viewOf r.prog) (drecsOf (viewOf r.prog)) s, Fast.tw2386780881361962483 (viewOf r.prog) (looseW (viewOf r.prog) []) s, plainSeenD (viewOf r.prog) [] s, Fast.tw7317090234206586261 (viewOf r.prog) s, Fast.tw7369524293546568484 (viewOf r.prog) [] s), Hook.obs Hook.none s)) = some ((pinGoodD (drecsOf (viewOf r.prog)), plainGoodE (viewOf r.prog) (looseW (viewOf r.prog) []), plainGoodD (viewOf r.prog) [], wideGood (viewOf r.prog), clsGoodW (viewOf r.prog) []), Hook.val Hook.none w)
theorem ends_of {r : OpenRow} (e : opening r.prog = plainProg r.prog.main.scope.names) (f : ∀ s, fenceModules? r.prog s = some s) (h0 : ∀ w : World, (boot_heap w.params).isNs mainGlobals = true) (a : QuickA r) (w : World) :
    ∃ os s, openEnds treeTable r.prog w 4000 = some s ∧ runQ r w os = some s := by
  obtain ⟨⟨h, gs, d, k, os⟩, e1, e2⟩ := Option.map_eq_some_iff.mp (boot_open (N := 4000) e (by decide) f w)
  obtain ⟨rfl, rfl, rfl, rfl⟩ : h = boot_heap w.params ∧ gs = Array.mk [] ∧ d = boot_drawn ∧ k = boot_toks := by simpa using e2
  obtain ⟨s, h1, h2⟩ := Option.map_eq_some_iff.mp (a w os)
  refine ⟨os, s, ?_, h1⟩
  have h1' : topRun treeTable r.prog w (bootS w os).heap.objs.size ((bootS w os).heap.nsMap mainGlobals "__annotations__") 4000 (bootS w os) (topStub r.prog) = some s := by
    rw [Fast.te14082659384304107361]; exact h1
  unfold openEnds
  rw [e1]
  show topFrom treeTable r.prog w 4000 (bootS w os) = some s
  unfold topFrom
  have hg : ((bootS w os).heap.isNs mainGlobals && (bootS w os).gens.size == 0) = true := Bool.and_eq_true_iff.mpr ⟨h0 w, rfl⟩
  rw [hg]
  dsimp only
  rw [h1']
  show (match staticsOk (importedModules r.prog.main.body) (bootS w os).heap s.heap && namesBound r.prog s.heap && gensDone s && laidKept (bootS w os).heap s.heap with | true => some s | false => none) = some s
  rw [h2]
theorem HeadRunX.ofQ {r : OpenRow} (e : opening r.prog = plainProg r.prog.main.scope.names) (f : ∀ s, fenceModules? r.prog s = some s) (h0 : ∀ w : World, (boot_heap w.params).isNs mainGlobals = true) (a : QuickA r) (b : Quick1 r) (c : Quick2 r) (c' : Quick4 r) (d : Quick3 r) : HeadRunX r := by
  refine .of3 (fun w => ?_) (fun w => ?_) (fun w => ?_)
  · obtain ⟨os, s, h1, h2⟩ := ends_of e f h0 a w
    have b := b w os
    rw [h2] at b
    rw [h1]
    rw [← Fast.te5160383126252970620] at b
    exact b
  · obtain ⟨os, s, h1, h2⟩ := ends_of e f h0 a w
    have c := c w os
    have c' := c' w os
    rw [h2] at c c'
    rw [h1]
    rw [← Fast.te10880121769531294198, ← Fast.te14722251495701143533, ← Fast.te10994771534591457954] at c
    rw [← Fast.te479339242167458305] at c'
    unfold XtQ clsQ at c'
    rw [lookQ_eq] at c'
    have c := Option.some.inj c
    have c' := Option.some.inj c'
    have k1 := congrArg (fun x => x.1) c
    have k2 := congrArg (fun x => x.2) c
    have k3 := congrArg (fun x => x.1) c'
    have k4 := congrArg (fun x => x.2.1) c'
    have k5 := congrArg (fun x => x.2.2) c'
    dsimp only at k1 k2 k3 k4 k5
    show some _ = some _
    unfold Xt clsLook
    dsimp only
    rw [k1, k2, k3, k4, k5]
    rfl
  · obtain ⟨os, s, h1, h2⟩ := ends_of e f h0 a w
    have d := d w os
    rw [h2] at d
    rw [h1]
    rw [← Fast.te2386780881361962483, ← Fast.te7317090234206586261, ← Fast.te7369524293546568484] at d
    exact d
end TD

namespace TD
open PySem PySem.W PyProof.Rows
theorem headA : QuickA PySem.Challenge.rw_uf020018_04.row := fun w os => by kernel_rfl
theorem head1 : Quick1 PySem.Challenge.rw_uf020018_04.row := fun w os => by kernel_rfl
theorem head2 : Quick2 PySem.Challenge.rw_uf020018_04.row := fun w os => by kernel_rfl
theorem head4 : Quick4 PySem.Challenge.rw_uf020018_04.row := fun w os => by kernel_rfl
theorem head3 : Quick3 PySem.Challenge.rw_uf020018_04.row := fun w os => by kernel_rfl
theorem head_run : HeadRunX PySem.Challenge.rw_uf020018_04.row := .ofQ (by kernel_rfl) (fun s => rfl) (fun w => by kernel_rfl) headA head1 head2 head4 head3
theorem law_said : PySem.Challenge.rw_uf020018_04.wellSaid = true := by kernel_rfl
theorem hd0 : ownsText (viewOf PySem.Challenge.rw_uf020018_04.row.prog) = true := by kernel_rfl
theorem hd1 : (defOf (viewOf PySem.Challenge.rw_uf020018_04.row.prog) PySem.Challenge.rw_uf020018_04.row.name).isSome = true := by kernel_rfl
theorem hd2 : (defOf (viewOf PySem.Challenge.rw_uf020018_04.row.prog) PySem.Challenge.rw_uf020018_04.row.name).map (fun x => (x.1.params, x.1.body, x.1.scope)) = PySem.Challenge.rw_uf020018_04.row.prog.theDef PySem.Challenge.rw_uf020018_04.row.name := by kernel_rfl
theorem hd3 : (defOf (viewOf PySem.Challenge.rw_uf020018_04.row.prog) PySem.Challenge.rw_uf020018_04.row.name).bind (fun x => kwWritten? x.1.params.kwonlyargs x.1.params.kw_defaults) = (defOf (viewOf PySem.Challenge.rw_uf020018_04.row.prog) PySem.Challenge.rw_uf020018_04.row.name).map (·.2) := by kernel_rfl
theorem hd4 : (chainsOk (viewOf PySem.Challenge.rw_uf020018_04.row.prog) && opensWell PySem.Challenge.rw_uf020018_04.row.prog && (frees PySem.Challenge.rw_uf020018_04.row.toRowW && PySem.Challenge.rw_uf020018_04.row.within.isEmpty)) = true := by kernel_rfl
end TD

namespace TD
open PySem (Str Addr)

theorem asB_mono {P P' : Bool → Mem → Prop} (k : ∀ b m, P b m → P' b m) {v : Val} {m : Mem} (h : asB P v m) : asB P' v m := by
  obtain ⟨b, e, p⟩ := h; exact Exists.intro b ⟨e, k _ _ p⟩
theorem gv_set {loc : Loc} {i : Nat} {x : Val} (h : i < loc.length) : getV (setV loc i x) i = some x := by
  induction loc generalizing i with
  | nil => cases h
  | cons y r ih => cases i with
    | zero => rfl
    | succ i => exact ih (Nat.lt_of_succ_lt_succ h)
section steps
variable {C : CallT} {G : String → Option Val} {X : Nat → Mem → Prop} {Y : Nat → Loc → Mem → Prop} {loc : Loc} {Q : Val → Mem → Prop} {m : Mem} {R : Flow → Loc → Mem → Prop}

theorem call_eq {FT : Nat → Option Fn} {n f : Nat} {fn : Fn} {vs : List Val} (hf : FT f = some fn) (hn : vs.length = fn.np)
    (h : wpSs (callN FT G n) G fn.body (retQ Q) (fun c _ m' => X c m') (loc0 vs (fn.vars.length - fn.np)) m) : callN FT G (n + 1) f vs Q X m := ⟨fn, hf, hn, h⟩

theorem e_bin {op : Bop} {a b : Ex} (h : wpE C G X a loc (fun x m1 => wpE C G X b loc (fun y m2 => wpBin op x y Q m2) m1) m) : wpE C G X (.bin op a b) loc Q m := h
theorem e_not {a : Ex} (h : wpE C G X a loc (asB fun b m1 => Q (.bool !b) m1) m) : wpE C G X (.not a) loc Q m := h
theorem asB_ {P : Bool → Mem → Prop} {b : Bool} (h : P b m) : asB P (.bool b) m := Exists.intro b ⟨rfl, h⟩
theorem e_negI {i : Int} (h : Q (.int (-i)) m) : wpE C G X (.neg (.int i)) loc Q m := Exists.intro i ⟨rfl, h⟩
theorem e_boolop {k : Bool} {es : Exs} (h : wpBs C G X k es loc (fun b m1 => Q (.bool b) m1) m) : wpE C G X (.boolop k es) loc Q m := h
theorem bs_cons {k : Bool} {e : Ex} {es : Exs} {P : Bool → Mem → Prop} (h : wpE C G X e loc (asB (bsQ k (wpBs C G X k es loc P) P)) m) : wpBs C G X k (.cons e es) loc P m := h
theorem bsQ_nil {k b : Bool} {P : Bool → Mem → Prop} (h : P b m) : bsQ k (wpBs C G X k .nil loc P) P b m := And.intro (fun e => e ▸ h) fun _ => h
theorem bsQ_and_true {W : Mem → Prop} {P : Bool → Mem → Prop} (h : W m) : bsQ true W P true m := And.intro (fun _ => h) fun e => Bool.noConfusion e
theorem bsQ_and_false {W : Mem → Prop} {P : Bool → Mem → Prop} (h : P false m) : bsQ true W P false m := And.intro (fun e => Bool.noConfusion e) fun _ => h
theorem bsQ_or_false {W : Mem → Prop} {P : Bool → Mem → Prop} (h : W m) : bsQ false W P false m := And.intro (fun _ => h) fun e => Bool.noConfusion e
theorem bsQ_or_true {W : Mem → Prop} {P : Bool → Mem → Prop} (h : P true m) : bsQ false W P true m := And.intro (fun e => Bool.noConfusion e) fun _ => h
theorem bsQ_dec {k : Bool} {W : Mem → Prop} {P : Bool → Mem → Prop} {b : Bool} (h1 : b = k → W m) (h2 : b = !k → P b m) : bsQ k W P b m := And.intro h1 h2
theorem e_cmp {op : Cop} {a b : Ex} (h : wpE C G X a loc (fun x m1 => wpE C G X b loc (fun y m2 => wpCmp op x y (fun r m3 => Q (.bool r) m3) m2) m1) m) : wpE C G X (.cmp op a b) loc Q m := h
theorem e_cmp2 {o1 o2 : Cop} {a b c : Ex} (h : wpE C G X a loc (fun x m1 => wpE C G X b loc (fun y m2 => wpCmp o1 x y (ifQ (fun m3 => wpE C G X c loc (fun z m4 => wpCmp o2 y z (fun r' m5 => Q (.bool r') m5) m4) m3) (fun m3 => Q (.bool false) m3)) m2) m1) m) : wpE C G X (.cmp2 o1 o2 a b c) loc Q m := h
theorem e_isN {p : Bool} {a : Ex} {c : Option Bool} (h : wpE C G X a loc (fun x m1 => Q (.bool (isLit c x == p)) m1) m) : wpE C G X (.isc p a c) loc Q m := h
theorem e_call {f : Nat} {args : Exs} (h : wpL C G X args loc (fun vs m1 => C f vs Q X m1) m) : wpE C G X (.call f args) loc Q m := h
theorem l_cons {e : Ex} {es : Exs} {P : List Val → Mem → Prop} (h : wpE C G X e loc (fun v m1 => wpL C G X es loc (fun vs m2 => P (v :: vs) m2) m1) m) : wpL C G X (.cons e es) loc P m := h
theorem e_b1 {b : B1} {a : Ex} (h : wpE C G X a loc (fun x m1 => wpB1 b x Q m1) m) : wpE C G X (.b1 b a) loc Q m := h
noncomputable def optQ (Q : Val → Mem → Prop) (m : Mem) (o : Option Bool) : Prop := ∃ b, o = some b ∧ Q (.bool b) m
theorem e_isinst {a : Ex} {c : Cls} (h : wpE C G X a loc (fun x m1 => optQ Q m1 (isA m1 x c)) m) : wpE C G X (.isinst a c) loc Q m := h
theorem optQ_ {o : Option Bool} {b : Bool} (e : o = some b) (h : Q (.bool b) m) : optQ Q m o := Exists.intro b ⟨e, h⟩
theorem e_append {o e : Ex} (h : wpE C G X o loc (fun x m1 => isL m1 x ∧ wpE C G X e loc (fun y m2 => appQ Q x y m2) m1) m) : wpE C G X (.append o e) loc Q m := h
theorem isL_ {P : Prop} {a : Addr} {xs : List Val} (e : m a = some (.list xs)) (h : P) : isL m (.ref a) ∧ P := ⟨⟨a, xs, rfl, e⟩, h⟩
theorem appQ_ {a : Addr} {y : Val} {xs : List Val} (e : m a = some (.list xs)) (hl : xs.length < lid) (h : Q .none (m.set a (.list (xs ++ [y])))) : appQ Q (.ref a) y m := ⟨a, xs, rfl, e, hl, h⟩
theorem e_extend {o e : Ex} (h : wpE C G X o loc (fun x m1 => isL m1 x ∧ wpE C G X e loc (fun y m2 => extQ Q x y m2) m1) m) : wpE C G X (.extend o e) loc Q m := h
theorem extQ_ {a b : Addr} {xs ys : List Val} (hn : b ≠ a) (e : m a = some (.list xs)) (e' : m b = some (.list ys)) (hl : xs.length + ys.length < lid) (h : Q .none (m.set a (.list (xs ++ ys)))) : extQ Q (.ref a) (.ref b) m := ⟨a, b, xs, ys, rfl, rfl, hn, e, e', hl, h⟩
theorem e_sub {a i : Ex} (h : wpE C G X a loc (fun x m1 => wpE C G X i loc (fun y m2 => subW x y Q m2) m1) m) : wpE C G X (.sub a i) loc Q m := h
theorem subW_ {v : Val} {k : Int} {xs : List Val} {j : Nat} {x : Val} (e : seq m v = some xs) (hp : place k xs.length = some j) (hx : xs[j]? = some x) (hl : xs.length < lid) (h : Q x m) : subW v (.int k) Q m := ⟨k, xs, j, x, rfl, e, hp, hx, hl, h⟩
theorem e_slice {up : Bool} {a i : Ex} (h : wpE C G X a loc (fun x m1 => wpE C G X i loc (fun y m2 => slQ up x y Q m2) m1) m) : wpE C G X (.slice up a i) loc Q m := h
theorem slQ_ {up : Bool} {a : Addr} {xs : List Val} {k : Int} (e : m a = some (.list xs)) (hl : xs.length < lid) (h : freshL m (cutL up xs k) Q) : slQ up (.ref a) (.int k) Q m := Or.inl ⟨a, xs, k, rfl, e, rfl, hl, h⟩
theorem e_mm {mx : Bool} {a b : Ex} (h : wpE C G X a loc (fun x m1 => wpE C G X b loc (fun y m2 => mmQ mx x y Q m2) m1) m) : wpE C G X (.mm mx a b) loc Q m := h
theorem mmQ_ {mx : Bool} {a b : Int} (h : Q (.int (mmV mx a b)) m) : mmQ mx (.int a) (.int b) Q m := ⟨a, b, rfl, rfl, h⟩
theorem e_lst {es : Exs} (h : wpL C G X es loc (fun vs m1 => freshL m1 vs Q) m) : wpE C G X (.lst es) loc Q m := h
theorem e_tup {es : Exs} (h : wpL C G X es loc (fun vs m1 => vs.length < lid ∧ Q (.tup vs) m1) m) : wpE C G X (.tup es) loc Q m := h
theorem freshL_ {xs : List Val} (hl : xs.length < lid) (h : ∀ a, m a = none → Q (.ref a) (m.set a (.list xs))) : freshL m xs Q := ⟨hl, h⟩
theorem bin_add {x y : Int} (h : Q (.int (x + y)) m) : wpBin .add (.int x) (.int y) Q m := Or.inl ⟨x, y, rfl, rfl, h⟩
theorem bin_sub {x y : Int} (h : Q (.int (x - y)) m) : wpBin .sub (.int x) (.int y) Q m := Exists.intro x ⟨y, rfl, rfl, h⟩
theorem bin_mul {x y : Int} (hs : small x ∨ small y) (h : Q (.int (x * y)) m) : wpBin .mul (.int x) (.int y) Q m := Or.inl ⟨x, y, rfl, rfl, hs, h⟩
theorem bin_fdiv {x y : Int} (hy : y ≠ 0 ∧ tiny y) (h : Q (.int (x.fdiv y)) m) : wpBin .fdiv (.int x) (.int y) Q m := Exists.intro x ⟨y, rfl, rfl, hy, h⟩
theorem bin_mod {x y : Int} (hy : y ≠ 0 ∧ tiny y) (h : Q (.int (x.fmod y)) m) : wpBin .mod (.int x) (.int y) Q m := Exists.intro x ⟨y, rfl, rfl, hy, h⟩
theorem bin_addL {x y : Addr} {xs ys : List Val} (hx : lst m (.ref x) = some xs) (hy : lst m (.ref y) = some ys) (h : freshL m (xs ++ ys) Q) : wpBin .add (.ref x) (.ref y) Q m := Or.inr (Or.inl ⟨x, y, xs, ys, rfl, rfl, hx, hy, h⟩)
theorem cmp_lt {x y : Int} {P : Bool → Mem → Prop} (h : P (decide (x < y)) m) : wpCmp .lt (.int x) (.int y) P m := Exists.intro x ⟨y, rfl, rfl, h⟩
theorem cmp_le {x y : Int} {P : Bool → Mem → Prop} (h : P (decide (x ≤ y)) m) : wpCmp .le (.int x) (.int y) P m := Exists.intro x ⟨y, rfl, rfl, h⟩
theorem cmp_gt {x y : Int} {P : Bool → Mem → Prop} (h : P (decide (x > y)) m) : wpCmp .gt (.int x) (.int y) P m := Exists.intro x ⟨y, rfl, rfl, h⟩
theorem cmp_ge {x y : Int} {P : Bool → Mem → Prop} (h : P (decide (x ≥ y)) m) : wpCmp .ge (.int x) (.int y) P m := Exists.intro x ⟨y, rfl, rfl, h⟩
theorem cmp_eqI {x y : Int} {P : Bool → Mem → Prop} (h : P (decide (x = y)) m) : wpCmp .eq (.int x) (.int y) P m := Or.inr (Or.inr ⟨.int x, .int y, rfl, rfl, rfl, rfl, h⟩)
theorem cmp_neI {x y : Int} {P : Bool → Mem → Prop} (h : P (decide (x ≠ y)) m) : wpCmp .ne (.int x) (.int y) P m :=
  Or.inr (Or.inr ⟨.int x, .int y, rfl, rfl, rfl, rfl, by show P (!(x == y)) m; rw [show (!(x == y)) = decide (x ≠ y) by by_cases q : x = y <;> simp [q]]; exact h⟩)
theorem b1_len {v : Val} {xs : List Val} (e : seq m v = some xs) (hl : xs.length < lid) (h : Q (.int xs.length) m) : wpB1 .len v Q m := Exists.intro xs ⟨e, hl, h⟩
theorem b1_all {v : Val} {bs : List Bool} (e : lst m v = some (bs.map .bool)) (h : Q (.bool (bs.all id)) m) : wpB1 .all v Q m := Exists.intro bs ⟨e, h⟩
theorem b1_sum {v : Val} {is : List Int} (e : lst m v = some (is.map .int)) (hs : ∀ i ∈ is, small i) (hl : is.length < lid) (h : Q (.int is.sum) m) : wpB1 .sum v Q m := Exists.intro is ⟨e, hs, hl, h⟩
theorem b1_list {v : Val} {xs : List Val} (e : seq m v = some xs) (h : freshL m xs Q) : wpB1 .list v Q m := Exists.intro xs ⟨e, h⟩
theorem b1_lrange {n : Int} (hl : 0 ≤ n ∧ n < lid) (h : freshL m (rangeV n) Q) : wpB1 .lrange (.int n) Q m := Exists.intro n ⟨rfl, hl, h⟩
theorem b1_int {b : Bool} (h : Q (.int (if b then 1 else 0)) m) : wpB1 .int (.bool b) Q m := Exists.intro b ⟨rfl, h⟩
theorem b1_lenset {v : Val} {is : List Int} (e : lst m v = some (is.map .int)) (hl : is.length < 1000) (h : ∀ k : Nat, k ≤ is.length → (k = is.length ↔ is.Nodup) → Q (.int k) m) : wpB1 .lenset v Q m := Exists.intro is ⟨e, hl, h⟩

theorem s_nil (h : R .next loc m) : wpSs C G .nil R Y loc m := h
theorem s_cons {s : St} {ss : Sts} (h : wpS C G s (seqQ (fun l m1 => wpSs C G ss R Y l m1) R) Y loc m) : wpSs C G (.cons s ss) R Y loc m := h
theorem seqQ_next {W : Loc → Mem → Prop} (h : W loc m) : seqQ W R .next loc m := h
theorem seqQ_ret {W : Loc → Mem → Prop} {v : Val} (h : R (.ret v) loc m) : seqQ W R (.ret v) loc m := h
theorem retQ_ret {v : Val} (h : Q v m) : retQ Q (.ret v) loc m := h
theorem retQ_next (h : Q .none m) : retQ Q .next loc m := h
theorem s_expr {e : Ex} (h : wpE C G noX e loc (fun v m1 => plainV v ∧ R .next loc m1) m) : wpS C G (.expr e) R Y loc m := h
theorem s_ret {e : Ex} (h : wpE C G noX e loc (fun v m1 => R (.ret v) loc m1) m) : wpS C G (.ret e) R Y loc m := h
theorem s_asg {i : Nat} {e : Ex} (h : wpE C G noX e loc (fun v m1 => R .next (setV loc i v) m1) m) : wpS C G (.asg i e) R Y loc m := h
theorem s_ifs {c : Ex} {t e : Sts} (h : wpE C G noX c loc (asB (ifQ (wpSs C G t R Y loc) (wpSs C G e R Y loc))) m) : wpS C G (.ifs c t e) R Y loc m := h
theorem ifQ_true {T E : Mem → Prop} (h : T m) : ifQ T E true m := And.intro (fun _ => h) fun e => Bool.noConfusion e
theorem ifQ_false {T E : Mem → Prop} (h : E m) : ifQ T E false m := And.intro (fun e => Bool.noConfusion e) fun _ => h
theorem ifQ_dec {T E : Mem → Prop} {b : Bool} (h1 : b = true → T m) (h2 : b = false → E m) : ifQ T E b m := And.intro h1 h2
theorem s_newR {f : Nat} {args : Exs} (h : wpL C G noX args loc (fun vs m1 => ∀ x, m1 x = Option.none → C f (.ref x :: vs) (fun _ _ => False) (fun c m' => Y c loc m') m1) m) : wpS C G (.newR f args) R Y loc m := h
theorem s_raise {c : Cls} {g : String} (h : Y c.code loc m) : wpS C G (.raise c g) R Y loc m := h
theorem s_callR {f : Nat} {args : Exs} (h : wpL C G noX args loc (fun vs m1 => C f vs (fun v m2 => R (.ret v) loc m2) (fun c m' => Y c loc m') m1) m) : wpS C G (.callS true f args) R Y loc m := h
theorem s_callE {f : Nat} {args : Exs} (h : wpL C G noX args loc (fun vs m1 => C f vs (fun v m2 => plainV v ∧ R .next loc m2) (fun c m' => Y c loc m') m1) m) : wpS C G (.callS false f args) R Y loc m := h
theorem e_str {x : String} (h : Q (.str (Str.ofString x)) m) : wpE C G X (.str x) loc Q m := h
theorem plain_none {P : Prop} (h : P) : plainV .none ∧ P := ⟨trivial, h⟩

theorem s_fors {t : Tg} {k : ItK} {src : Ex} {b : Sts} (h : wpE C G noX src loc (fun v m1 => itemsW k v (fun xs => forLoop (bodyF t (fun Q' l m' => wpSs C G b Q' Y l m')) (stands k v m1) xs R loc m1) m1) m) : wpS C G (.fors t k src b) R Y loc m := h
theorem items_list {v : Val} {xs : List Val} {P : List Val → Prop} (e : seq m v = some xs) (hl : xs.length < lid) (h : P xs) : itemsW .plain v P m := Exists.intro xs ⟨e, hl, h⟩
theorem items_range {n : Int} {P : List Val → Prop} (hl : 0 ≤ n ∧ n < lid) (h : P (rangeV n)) : itemsW .range (.int n) P m := Exists.intro n ⟨rfl, hl, h⟩
theorem loopQ_next {I : Loc → Mem → Prop} (h : I loc m) : loopQ R I .next loc m := h
theorem loopQ_ret {I : Loc → Mem → Prop} {v : Val} (h : R (.ret v) loc m) : loopQ R I (.ret v) loc m := h

theorem for_inv {f : Val → (Flow → Loc → Mem → Prop) → Loc → Mem → Prop} {ok : Mem → Prop} {xs : List Val} (I : Nat → Loc → Mem → Prop) (h0 : I 0 loc m)
    (step : ∀ i x l m, xs[i]? = some x → I i l m → ∀ P : Loc → Mem → Prop, (∀ l' m', ok m' ∧ I (i + 1) l' m' → P l' m') → f x (loopQ R P) l m)
    (done : ∀ l m, I xs.length l m → R .next l m) : forLoop f ok xs R loc m := by
  induction xs generalizing I loc m with
  | nil => exact done _ _ h0
  | cons y r ih => exact step 0 y _ _ rfl h0 _ fun l' m' q => ⟨q.1, ih (fun i => I (i + 1)) q.2 (fun i x l m e hI => step (i + 1) x l m e hI) done⟩
end steps

end TD

namespace TD
open PySem (Str Addr)

noncomputable def pickB (k : Nat) (cs : List Cls) : List Bool := cs.map fun c => excIs k c.code
inductive TSt where
  | st (s : St) | tryp (f : Nat) (args : Exs) (i j q : Nat) (cs ds es : List Cls) (ws : List String) | retcmp (f : Nat) (args : Exs) (j : Nat) (es : Exs)
structure TFn where
  name : String
  np : Nat
  vars : List String
  body : List TSt

noncomputable def pickQ (c : Nat) (cs : List Cls) (ws : List String) (Q : Val → Mem → Prop) (m : Mem) : Prop := (7 ≤ c ∧ c ≤ 14) ∧ ((pickB c cs).filter id).length = 1 ∧ ∃ w, ws[(pickB c cs).idxOf true]? = some w ∧ ∀ m', (∀ a o, m a = some o → m' a = some o) → Q (.str (Str.ofString w)) m'
noncomputable def wpT (C CT : CallT) (G : String → Option Val) : TSt → (Flow → Loc → Mem → Prop) → Loc → Mem → Prop
  | .st s, Q, loc, m => wpS C G s Q noY loc m
  | .tryp f args i j q cs ds es ws, Q, loc, m => ((i < loc.length ∧ getV loc i = none) ∧ j < loc.length ∧ j ≠ i ∧ q < loc.length) ∧ wpL C G noX args loc (fun vs m1 => C f vs (fun v m2 => plainV v ∧ Q .next loc m2) (fun c m' => pickQ c (cs ++ ds ++ es) ws (fun v m2 => ∀ l, Q (.ret v) l m2) m') m1) m
  | .retcmp f args j es, Q, loc, m => wpL C G noX args loc (fun vs m1 => CT f vs (fun v m2 => ∃ u, getV loc j = some u ∧ wpCmp .eq v u (fun b m3 => bsQ true (wpBs C G noX true es loc (fun b m4 => Q (.ret (.bool b)) loc m4)) (fun b m4 => Q (.ret (.bool b)) loc m4) b m3) m2) noX m1) m
noncomputable def wpTs (C CT : CallT) (G : String → Option Val) : List TSt → (Flow → Loc → Mem → Prop) → Loc → Mem → Prop
  | [], Q, loc, m => Q .next loc m
  | s :: ss, Q, loc, m => wpT C CT G s (seqQ (fun l m1 => wpTs C CT G ss Q l m1) Q) loc m
noncomputable def callT (FT : Nat → Option Fn) (TT : Nat → Option TFn) (G : String → Option Val) : Nat → CallT
  | 0 => fun _ _ _ _ _ => False
  | n + 1 => fun f vs Q _ m => ∃ fn, TT f = some fn ∧ vs.length = fn.np ∧ wpTs (callN FT G n) (callT FT TT G n) G fn.body (retQ Q) (loc0 vs (fn.vars.length - fn.np)) m

section steps
variable {C CT : CallT} {G : String → Option Val} {loc : Loc} {Q : Val → Mem → Prop} {m : Mem} {R : Flow → Loc → Mem → Prop} {X : Nat → Mem → Prop}
theorem callT_eq {FT : Nat → Option Fn} {TT : Nat → Option TFn} {n f : Nat} {fn : TFn} {vs : List Val} (hf : TT f = some fn) (hn : vs.length = fn.np)
    (h : wpTs (callN FT G n) (callT FT TT G n) G fn.body (retQ Q) (loc0 vs (fn.vars.length - fn.np)) m) : callT FT TT G (n + 1) f vs Q X m := ⟨fn, hf, hn, h⟩
theorem t_cons {s : TSt} {ss : List TSt} (h : wpT C CT G s (seqQ (fun l m1 => wpTs C CT G ss R l m1) R) loc m) : wpTs C CT G (s :: ss) R loc m := h
theorem t_st {s : St} (h : wpS C G s R noY loc m) : wpT C CT G (.st s) R loc m := h
theorem t_retcmp {f j : Nat} {args es : Exs} (h : wpL C G noX args loc (fun vs m1 => CT f vs (fun v m2 => ∃ u, getV loc j = some u ∧ wpCmp .eq v u (fun b m3 => bsQ true (wpBs C G noX true es loc (fun b m4 => R (.ret (.bool b)) loc m4)) (fun b m4 => R (.ret (.bool b)) loc m4) b m3) m2) noX m1) m) : wpT C CT G (.retcmp f args j es) R loc m := h
end steps
end TD

namespace TD
open PySem PyProof.Rows

noncomputable def isLoc (sc : Scope) (x : Str) : Bool := match sc.names.lookup x with
  | some .local => true
  | some .cell => true
  | some .free => true
  | _ => false
noncomputable def isGlob (sc : Scope) (x : Str) : Bool := sc.names.lookup x == some .globalImplicit
noncomputable def okName (x : Str) : Bool := !(x == ("__debug__" : Str)) && !(x == ("__classdict__" : Str)) && !(x == ("" : Str))
noncomputable def gName (sc : Scope) (s : String) (x : Str) : Bool := x == Str.ofString s && isGlob sc x && okName x
noncomputable def Bop.op : Bop → Operator
  | .add => .Add
  | .sub => .Sub
  | .mul => .Mult
  | .fdiv => .FloorDiv
  | .mod => .Mod
noncomputable def Cop.op : Cop → CmpOp
  | .eq => .Eq
  | .ne => .NotEq
  | .lt => .Lt
  | .le => .LtE
  | .gt => .Gt
  | .ge => .GtE
  | .inn => .In
  | .notin => .NotIn
noncomputable def bopIs (op : Bop) (o : Operator) : Bool := o == op.op
noncomputable def copIs (op : Cop) (o : CmpOp) : Bool := o == op.op
theorem bopIs_eq {op : Bop} {o : Operator} (h : bopIs op o = true) : o = op.op := beq_iff_eq.mp h
theorem copIs_eq {op : Cop} {o : CmpOp} (h : copIs op o = true) : o = op.op := beq_iff_eq.mp h
noncomputable def B1.call : B1 → String
  | .len => "len" | .all => "all" | .sum => "sum" | .maxL => "max" | .minL => "min" | .list => "list" | .tuple => "tuple" | .sorted => "sorted" | .int => "int" | .lrange => "list" | .lrev => "list" | .lenset => "len" | .str => "str"
noncomputable def B1.inner : B1 → Option String
  | .lrange => some "range" | .lrev => some "reversed" | .lenset => some "set" | _ => none
noncomputable def Cls.name : Cls → String
  | .int => "int" | .bool => "bool" | .list => "list" | .tuple => "tuple" | .str => "str" | .ValueError => "ValueError" | .DealError => "DealError" | .BadTable => "BadTable" | .BadShares => "BadShares" | .BadHeir => "BadHeir" | .BadThing => "BadThing"
  | .BadRing => "BadRing" | .BadOrder => "BadOrder" | .Full => "Full" | .BadNote => "BadNote"
noncomputable def Cls.bi : Cls → String
  | .int => "int" | .bool => "bool" | .list => "list" | .tuple => "tuple" | .str => "str" | _ => ""
noncomputable def ItK.call : ItK → Option String
  | .plain => none | .range => some "range"

noncomputable def notCall (e : Expr) : Bool := !(e.ctorIdx == 16)
noncomputable def okAt (o : Expr) (ap p : Pos) : Bool := notCall o && ap.endLine == p.line

noncomputable def vOne {α : Type} (xs : List α) (k : α → Bool) : Bool := match xs with | [x] => k x | _ => false
noncomputable def vTwo {α : Type} (xs : List α) (k : α → α → Bool) : Bool := match xs with | [x, y] => k x y | _ => false
noncomputable def vIx (a b : Nat) (k : a = b → Bool) : Bool := if h : a = b then k h else false
theorem nb {p : Prop} (h : false = true) : p := Bool.noConfusion h
theorem vIx_inv {a b : Nat} {k : a = b → Bool} (h : vIx a b k = true) : ∃ e, k e = true := by
  unfold vIx at h
  by_cases q : a = b
  · rw [dif_pos q] at h; exact ⟨q, h⟩
  · rw [dif_neg q] at h; exact nb h
noncomputable def vName (e : Expr) (k : Str → Bool) : Bool := vIx e.ctorIdx 23 fun h => Expr.Name.elim (motive_1 := fun _ => Bool) e h fun x _ => k x
theorem vName_inv {e : Expr} {k : Str → Bool} (h : vName e k = true) : ∃ x p, e = .Name x p ∧ k x = true := by
  obtain ⟨hc, h⟩ := vIx_inv h
  exact Expr.Name.elim (motive_1 := fun e => ∀ hc : e.ctorIdx = 23, (Expr.Name.elim (motive_1 := fun _ => Bool) e hc fun x _ => k x) = true → ∃ x p, e = .Name x p ∧ k x = true) e hc (fun x p _ h => ⟨x, p, rfl, h⟩) hc h
noncomputable def vConst (e : Expr) (k : Const → Bool) : Bool := vIx e.ctorIdx 19 fun h => Expr.Constant.elim (motive_1 := fun _ => Bool) e h fun c _ _ => k c
theorem vConst_inv {e : Expr} {k : Const → Bool} (h : vConst e k = true) : ∃ c n p, e = .Constant c n p ∧ k c = true := by
  obtain ⟨hc, h⟩ := vIx_inv h
  exact Expr.Constant.elim (motive_1 := fun e => ∀ hc : e.ctorIdx = 19, (Expr.Constant.elim (motive_1 := fun _ => Bool) e hc fun c _ _ => k c) = true → ∃ c n p, e = .Constant c n p ∧ k c = true) e hc (fun c n p _ h => ⟨c, n, p, rfl, h⟩) hc h
noncomputable def vBin (e : Expr) (k : Expr → Operator → Expr → Bool) : Bool := vIx e.ctorIdx 2 fun h => Expr.BinOp.elim (motive_1 := fun _ => Bool) e h fun l o r _ => k l o r
theorem vBin_inv {e : Expr} {k : Expr → Operator → Expr → Bool} (h : vBin e k = true) : ∃ l o r p, e = .BinOp l o r p ∧ k l o r = true := by
  obtain ⟨hc, h⟩ := vIx_inv h
  exact Expr.BinOp.elim (motive_1 := fun e => ∀ hc : e.ctorIdx = 2, (Expr.BinOp.elim (motive_1 := fun _ => Bool) e hc fun l o r _ => k l o r) = true → ∃ l o r p, e = .BinOp l o r p ∧ k l o r = true) e hc (fun l o r p _ h => ⟨l, o, r, p, rfl, h⟩) hc h
noncomputable def vUn (e : Expr) (k : UnaryOp → Expr → Bool) : Bool := vIx e.ctorIdx 3 fun h => Expr.UnaryOp.elim (motive_1 := fun _ => Bool) e h fun o x _ => k o x
theorem vUn_inv {e : Expr} {k : UnaryOp → Expr → Bool} (h : vUn e k = true) : ∃ o x p, e = .UnaryOp o x p ∧ k o x = true := by
  obtain ⟨hc, h⟩ := vIx_inv h
  exact Expr.UnaryOp.elim (motive_1 := fun e => ∀ hc : e.ctorIdx = 3, (Expr.UnaryOp.elim (motive_1 := fun _ => Bool) e hc fun o x _ => k o x) = true → ∃ o x p, e = .UnaryOp o x p ∧ k o x = true) e hc (fun o x p _ h => ⟨o, x, p, rfl, h⟩) hc h
noncomputable def vBoolOp (e : Expr) (k : BoolOp → (List Expr) → Bool) : Bool := vIx e.ctorIdx 0 fun h => Expr.BoolOp.elim (motive_1 := fun _ => Bool) e h fun o x _ => k o x
theorem vBoolOp_inv {e : Expr} {k : BoolOp → (List Expr) → Bool} (h : vBoolOp e k = true) : ∃ o x p, e = .BoolOp o x p ∧ k o x = true := by
  obtain ⟨hc, h⟩ := vIx_inv h
  exact Expr.BoolOp.elim (motive_1 := fun e => ∀ hc : e.ctorIdx = 0, (Expr.BoolOp.elim (motive_1 := fun _ => Bool) e hc fun o x _ => k o x) = true → ∃ o x p, e = .BoolOp o x p ∧ k o x = true) e hc (fun o x p _ h => ⟨o, x, p, rfl, h⟩) hc h
noncomputable def vCmp (e : Expr) (k : Expr → (List CmpOp) → (List Expr) → Bool) : Bool := vIx e.ctorIdx 15 fun h => Expr.Compare.elim (motive_1 := fun _ => Bool) e h fun l o r _ => k l o r
theorem vCmp_inv {e : Expr} {k : Expr → (List CmpOp) → (List Expr) → Bool} (h : vCmp e k = true) : ∃ l o r p, e = .Compare l o r p ∧ k l o r = true := by
  obtain ⟨hc, h⟩ := vIx_inv h
  exact Expr.Compare.elim (motive_1 := fun e => ∀ hc : e.ctorIdx = 15, (Expr.Compare.elim (motive_1 := fun _ => Bool) e hc fun l o r _ => k l o r) = true → ∃ l o r p, e = .Compare l o r p ∧ k l o r = true) e hc (fun l o r p _ h => ⟨l, o, r, p, rfl, h⟩) hc h
noncomputable def vCall0 (e : Expr) (k : Expr → (List Expr) → (List Keyword) → Pos → Bool) : Bool := vIx e.ctorIdx 16 fun h => Expr.Call.elim (motive_1 := fun _ => Bool) e h fun f es ks p => k f es ks p
theorem vCall0_inv {e : Expr} {k : Expr → (List Expr) → (List Keyword) → Pos → Bool} (h : vCall0 e k = true) : ∃ f es ks p, e = .Call f es ks p ∧ k f es ks p = true := by
  obtain ⟨hc, h⟩ := vIx_inv h
  exact Expr.Call.elim (motive_1 := fun e => ∀ hc : e.ctorIdx = 16, (Expr.Call.elim (motive_1 := fun _ => Bool) e hc fun f es ks p => k f es ks p) = true → ∃ f es ks p, e = .Call f es ks p ∧ k f es ks p = true) e hc (fun f es ks p _ h => ⟨f, es, ks, p, rfl, h⟩) hc h
noncomputable def vAttr (e : Expr) (k : Expr → Str → Pos → Bool) : Bool := vIx e.ctorIdx 20 fun h => Expr.Attribute.elim (motive_1 := fun _ => Bool) e h fun o n p => k o n p
theorem vAttr_inv {e : Expr} {k : Expr → Str → Pos → Bool} (h : vAttr e k = true) : ∃ o n p, e = .Attribute o n p ∧ k o n p = true := by
  obtain ⟨hc, h⟩ := vIx_inv h
  exact Expr.Attribute.elim (motive_1 := fun e => ∀ hc : e.ctorIdx = 20, (Expr.Attribute.elim (motive_1 := fun _ => Bool) e hc fun o n p => k o n p) = true → ∃ o n p, e = .Attribute o n p ∧ k o n p = true) e hc (fun o n p _ h => ⟨o, n, p, rfl, h⟩) hc h
noncomputable def vSub (e : Expr) (k : Expr → Expr → Bool) : Bool := vIx e.ctorIdx 21 fun h => Expr.Subscript.elim (motive_1 := fun _ => Bool) e h fun a i _ => k a i
theorem vSub_inv {e : Expr} {k : Expr → Expr → Bool} (h : vSub e k = true) : ∃ a i p, e = .Subscript a i p ∧ k a i = true := by
  obtain ⟨hc, h⟩ := vIx_inv h
  exact Expr.Subscript.elim (motive_1 := fun e => ∀ hc : e.ctorIdx = 21, (Expr.Subscript.elim (motive_1 := fun _ => Bool) e hc fun a i _ => k a i) = true → ∃ a i p, e = .Subscript a i p ∧ k a i = true) e hc (fun a i p _ h => ⟨a, i, p, rfl, h⟩) hc h
noncomputable def vList (e : Expr) (k : (List Expr) → Bool) : Bool := vIx e.ctorIdx 24 fun h => Expr.List.elim (motive_1 := fun _ => Bool) e h fun a _ => k a
theorem vList_inv {e : Expr} {k : (List Expr) → Bool} (h : vList e k = true) : ∃ a p, e = .List a p ∧ k a = true := by
  obtain ⟨hc, h⟩ := vIx_inv h
  exact Expr.List.elim (motive_1 := fun e => ∀ hc : e.ctorIdx = 24, (Expr.List.elim (motive_1 := fun _ => Bool) e hc fun a _ => k a) = true → ∃ a p, e = .List a p ∧ k a = true) e hc (fun a p _ h => ⟨a, p, rfl, h⟩) hc h
noncomputable def vTup (e : Expr) (k : (List Expr) → Bool) : Bool := vIx e.ctorIdx 25 fun h => Expr.Tuple.elim (motive_1 := fun _ => Bool) e h fun a _ _ => k a
theorem vTup_inv {e : Expr} {k : (List Expr) → Bool} (h : vTup e k = true) : ∃ a n p, e = .Tuple a n p ∧ k a = true := by
  obtain ⟨hc, h⟩ := vIx_inv h
  exact Expr.Tuple.elim (motive_1 := fun e => ∀ hc : e.ctorIdx = 25, (Expr.Tuple.elim (motive_1 := fun _ => Bool) e hc fun a _ _ => k a) = true → ∃ a n p, e = .Tuple a n p ∧ k a = true) e hc (fun a n p _ h => ⟨a, n, p, rfl, h⟩) hc h
noncomputable def vLC (e : Expr) (k : Expr → (List Comprehension) → Scope → Bool) : Bool := vIx e.ctorIdx 8 fun h => Expr.ListComp.elim (motive_1 := fun _ => Bool) e h fun a gs sc _ => k a gs sc
theorem vLC_inv {e : Expr} {k : Expr → (List Comprehension) → Scope → Bool} (h : vLC e k = true) : ∃ a gs sc p, e = .ListComp a gs sc p ∧ k a gs sc = true := by
  obtain ⟨hc, h⟩ := vIx_inv h
  exact Expr.ListComp.elim (motive_1 := fun e => ∀ hc : e.ctorIdx = 8, (Expr.ListComp.elim (motive_1 := fun _ => Bool) e hc fun a gs sc _ => k a gs sc) = true → ∃ a gs sc p, e = .ListComp a gs sc p ∧ k a gs sc = true) e hc (fun a gs sc p _ h => ⟨a, gs, sc, p, rfl, h⟩) hc h
noncomputable def vJS (e : Expr) (k : (List Expr) → Bool) : Bool := vIx e.ctorIdx 18 fun h => Expr.JoinedStr.elim (motive_1 := fun _ => Bool) e h fun a _ => k a
theorem vJS_inv {e : Expr} {k : (List Expr) → Bool} (h : vJS e k = true) : ∃ a p, e = .JoinedStr a p ∧ k a = true := by
  obtain ⟨hc, h⟩ := vIx_inv h
  exact Expr.JoinedStr.elim (motive_1 := fun e => ∀ hc : e.ctorIdx = 18, (Expr.JoinedStr.elim (motive_1 := fun _ => Bool) e hc fun a _ => k a) = true → ∃ a p, e = .JoinedStr a p ∧ k a = true) e hc (fun a p _ h => ⟨a, p, rfl, h⟩) hc h
theorem vJS_ix {e : Expr} {k : (List Expr) → Bool} (h : vJS e k = true) : e.ctorIdx = 18 := (vIx_inv h).1
noncomputable def vFV (e : Expr) (k : Expr → Int → (Option Expr) → Bool) : Bool := vIx e.ctorIdx 17 fun h => Expr.FormattedValue.elim (motive_1 := fun _ => Bool) e h fun a c s _ => k a c s
theorem vFV_inv {e : Expr} {k : Expr → Int → (Option Expr) → Bool} (h : vFV e k = true) : ∃ a c s p, e = .FormattedValue a c s p ∧ k a c s = true := by
  obtain ⟨hc, h⟩ := vIx_inv h
  exact Expr.FormattedValue.elim (motive_1 := fun e => ∀ hc : e.ctorIdx = 17, (Expr.FormattedValue.elim (motive_1 := fun _ => Bool) e hc fun a c s _ => k a c s) = true → ∃ a c s p, e = .FormattedValue a c s p ∧ k a c s = true) e hc (fun a c s p _ h => ⟨a, c, s, p, rfl, h⟩) hc h
noncomputable def vDict (e : Expr) (k : (List (Option Expr)) → (List Expr) → Bool) : Bool := vIx e.ctorIdx 6 fun h => Expr.Dict.elim (motive_1 := fun _ => Bool) e h fun a b _ => k a b
theorem vDict_inv {e : Expr} {k : (List (Option Expr)) → (List Expr) → Bool} (h : vDict e k = true) : ∃ a b p, e = .Dict a b p ∧ k a b = true := by
  obtain ⟨hc, h⟩ := vIx_inv h
  exact Expr.Dict.elim (motive_1 := fun e => ∀ hc : e.ctorIdx = 6, (Expr.Dict.elim (motive_1 := fun _ => Bool) e hc fun a b _ => k a b) = true → ∃ a b p, e = .Dict a b p ∧ k a b = true) e hc (fun a b p _ h => ⟨a, b, p, rfl, h⟩) hc h
noncomputable def vDict0 (e : Expr) : Bool := vDict e fun a b => a.isEmpty && b.isEmpty
noncomputable def vSome {α : Type} (o : Option α) (k : α → Bool) : Bool := match o with | some x => k x | none => false
noncomputable def slIs (up : Bool) (l u : Option Expr) (k : Expr → Bool) : Bool := match up with | true => u.isNone && vSome l k | false => l.isNone && vSome u k
noncomputable def vSl (up : Bool) (e : Expr) (k : Expr → Bool) : Bool := vIx e.ctorIdx 26 fun h => Expr.Slice.elim (motive_1 := fun _ => Bool) e h fun l u st _ => st.isNone && slIs up l u k
noncomputable def vCall (e : Expr) (k : Expr → List Expr → Pos → Bool) : Bool := vCall0 e fun f es ks p => ks.isEmpty && k f es p
noncomputable def vCallN (e : Expr) (k : Str → List Expr → Bool) : Bool := vCall e fun f es _ => vName f fun x => k x es
noncomputable def vMeth (e : Expr) (n : String) (k : Expr → List Expr → Bool) : Bool := vCall e fun f es p => vAttr f fun o n' ap => okAt o ap p && (n' == Str.ofString n && k o es)
theorem vSome_inv {α : Type} {o : Option α} {k : α → Bool} (h : vSome o k = true) : ∃ x, o = some x ∧ k x = true := by
  cases o with
  | none => exact Bool.noConfusion (show false = true from h)
  | some x => exact ⟨x, rfl, h⟩
theorem no {α : Type} {x : α} {p : Prop} (h : none = some x) : p := nomatch h
theorem vOne_inv {α : Type} {xs : List α} {k : α → Bool} (h : vOne xs k = true) : ∃ x, xs = [x] ∧ k x = true := by
  cases xs with
  | nil => exact nb h
  | cons x r => cases r with
    | nil => exact ⟨x, rfl, h⟩
    | cons _ _ => exact nb h
theorem vTwo_inv {α : Type} {xs : List α} {k : α → α → Bool} (h : vTwo xs k = true) : ∃ x y, xs = [x, y] ∧ k x y = true := by
  cases xs with
  | nil => exact nb h
  | cons x r => cases r with
    | nil => exact nb h
    | cons y r => cases r with
      | nil => exact ⟨x, y, rfl, h⟩
      | cons _ _ => exact nb h
theorem vCall_inv {e : Expr} {k : Expr → List Expr → Pos → Bool} (h : vCall e k = true) : ∃ f es p, e = .Call f es [] p ∧ k f es p = true := by
  obtain ⟨f, es, ks, p, rfl, h⟩ := vCall0_inv h
  cases ks with
  | nil => exact ⟨f, es, p, rfl, h⟩
  | cons _ _ => exact nb h
theorem vName_ix {e : Expr} {k : Str → Bool} (h : vName e k = true) : e.ctorIdx = 23 := (vIx_inv h).1
theorem vConst_ix {e : Expr} {k : Const → Bool} (h : vConst e k = true) : e.ctorIdx = 19 := (vIx_inv h).1
theorem vBin_ix {e : Expr} {k : Expr → Operator → Expr → Bool} (h : vBin e k = true) : e.ctorIdx = 2 := (vIx_inv h).1
theorem vUn_ix {e : Expr} {k : UnaryOp → Expr → Bool} (h : vUn e k = true) : e.ctorIdx = 3 := (vIx_inv h).1
theorem vBoolOp_ix {e : Expr} {k : BoolOp → List Expr → Bool} (h : vBoolOp e k = true) : e.ctorIdx = 0 := (vIx_inv h).1
theorem vCmp_ix {e : Expr} {k : Expr → List CmpOp → List Expr → Bool} (h : vCmp e k = true) : e.ctorIdx = 15 := (vIx_inv h).1
theorem vCall_ix {e : Expr} {k : Expr → List Expr → Pos → Bool} (h : vCall e k = true) : e.ctorIdx = 16 := (vIx_inv h).1
theorem vSub_ix {e : Expr} {k : Expr → Expr → Bool} (h : vSub e k = true) : e.ctorIdx = 21 := (vIx_inv h).1
theorem vList_ix {e : Expr} {k : (List Expr) → Bool} (h : vList e k = true) : e.ctorIdx = 24 := (vIx_inv h).1
theorem vDict_ix {e : Expr} {k : (List (Option Expr)) → (List Expr) → Bool} (h : vDict e k = true) : e.ctorIdx = 6 := (vIx_inv h).1
theorem vTup_ix {e : Expr} {k : (List Expr) → Bool} (h : vTup e k = true) : e.ctorIdx = 25 := (vIx_inv h).1
theorem vLC_ix {e : Expr} {k : Expr → List Comprehension → Scope → Bool} (h : vLC e k = true) : e.ctorIdx = 8 := (vIx_inv h).1
theorem vCallN_inv {e : Expr} {k : Str → List Expr → Bool} (h : vCallN e k = true) : ∃ x px es p, e = .Call (.Name x px) es [] p ∧ k x es = true := by
  obtain ⟨f, es, p, rfl, h⟩ := vCall_inv h
  obtain ⟨x, px, rfl, h⟩ := vName_inv h
  exact ⟨x, px, es, p, rfl, h⟩
theorem and2 {a b : Bool} (h : (a && b) = true) : a = true ∧ b = true := Bool.and_eq_true_iff.mp h
theorem vMeth_inv {e : Expr} {n : String} {k : Expr → List Expr → Bool} (h : vMeth e n k = true) : ∃ o ap es p, e = .Call (.Attribute o (Str.ofString n) ap) es [] p ∧ okAt o ap p = true ∧ k o es = true := by
  obtain ⟨f, es, p, rfl, h⟩ := vCall_inv h
  obtain ⟨o, n', ap, rfl, h⟩ := vAttr_inv h
  obtain ⟨h1, h⟩ := and2 h
  obtain ⟨h2, h3⟩ := and2 h
  obtain rfl := beq_iff_eq.mp h2
  exact ⟨o, ap, es, p, rfl, h1, h3⟩
theorem isNone_inv {α : Type} {o : Option α} (h : o.isNone = true) : o = none := by
  cases o with
  | none => rfl
  | some _ => exact nb h
noncomputable def partE (up : Bool) (e : Expr) : Option Expr := match up with | true => some e | false => none
theorem vSl_inv {up : Bool} {e : Expr} {k : Expr → Bool} (h : vSl up e k = true) : ∃ x p, e = .Slice (partE up x) (partE (!up) x) none p ∧ k x = true := by
  obtain ⟨hc, h⟩ := vIx_inv h
  refine Expr.Slice.elim (motive_1 := fun e => ∀ hc : e.ctorIdx = 26, (Expr.Slice.elim (motive_1 := fun _ => Bool) e hc fun l u st _ => st.isNone && slIs up l u k) = true → ∃ x p, e = .Slice (partE up x) (partE (!up) x) none p ∧ k x = true) e hc (fun l u st p _ h => ?_) hc h
  obtain ⟨h1, h⟩ := and2 h
  obtain rfl := isNone_inv h1
  cases up with
  | true =>
    obtain ⟨h2, h⟩ := and2 h
    obtain rfl := isNone_inv h2
    obtain ⟨x, rfl, h⟩ := vSome_inv h
    exact ⟨x, p, rfl, h⟩
  | false =>
    obtain ⟨h2, h⟩ := and2 h
    obtain rfl := isNone_inv h2
    obtain ⟨x, rfl, h⟩ := vSome_inv h
    exact ⟨x, p, rfl, h⟩
noncomputable def mmName : Bool → String
  | true => "max"
  | false => "min"
noncomputable def xName (e : Expr) : Option Str := if h : e.ctorIdx = 23 then Expr.Name.elim (motive_1 := fun _ => Option Str) e h fun x _ => some x else none
noncomputable def xTup (e : Expr) : List Expr := if h : e.ctorIdx = 25 then Expr.Tuple.elim (motive_1 := fun _ => List Expr) e h fun xs _ _ => xs else []
noncomputable def chkTwo (i j : Nat) (x y : Option Str) : Option (List (Nat × Str)) := match x, y with
  | some x, some y => if x == y || i == j then none else some [(i, x), (j, y)]
  | _, _ => none
noncomputable def chkTs (i j : Nat) : List Expr → Option (List (Nat × Str))
  | [a, b] => chkTwo i j (xName a) (xName b)
  | _ => none
noncomputable def chkT (t : Tg) (e : Expr) : Option (List (Nat × Str)) := match t with
  | .one i => (xName e).map fun x => [(i, x)]
  | .two i j => chkTs i j (xTup e)
theorem xName_inv {e : Expr} {x : Str} (h : xName e = some x) : ∃ p, e = .Name x p := by
  unfold xName at h
  by_cases q : e.ctorIdx = 23
  · rw [dif_pos q] at h
    exact Expr.Name.elim (motive_1 := fun e => ∀ q : e.ctorIdx = 23, (Expr.Name.elim (motive_1 := fun _ => Option Str) e q fun x _ => some x) = some x → ∃ p, e = .Name x p) e q (fun y p _ h => ⟨p, by cases h; rfl⟩) q h
  · rw [dif_neg q] at h; exact no h
theorem xTup_inv {e : Expr} (h : xTup e ≠ []) : ∃ n p, e = .Tuple (xTup e) n p := by
  by_cases q : e.ctorIdx = 25
  · exact Expr.Tuple.elim (motive_1 := fun e => ∃ n p, e = .Tuple (xTup e) n p) e q fun xs n p => ⟨n, p, rfl⟩
  · exact absurd (show xTup e = [] by unfold xTup; rw [dif_neg q]) h
theorem chkT1_inv {i : Nat} {e : Expr} {new : List (Nat × Str)} (h : chkT (.one i) e = some new) : ∃ x p, e = .Name x p ∧ new = [(i, x)] := by
  obtain ⟨x, hx, rfl⟩ := Option.map_eq_some_iff.mp h
  obtain ⟨p, rfl⟩ := xName_inv hx
  exact ⟨x, p, rfl, rfl⟩
theorem chkT2_inv {i j : Nat} {e : Expr} {new : List (Nat × Str)} (h : chkT (.two i j) e = some new) : ∃ x px y py n p, e = .Tuple [.Name x px, .Name y py] n p ∧ x ≠ y ∧ i ≠ j ∧ new = [(i, x), (j, y)] := by
  have h : chkTs i j (xTup e) = some new := h
  cases hx : xTup e with
  | nil => rw [hx] at h; exact no h
  | cons a r => cases r with
    | nil => rw [hx] at h; exact no h
    | cons b r => cases r with
      | cons _ _ => rw [hx] at h; exact no h
      | nil =>
        rw [hx] at h
        have h : chkTwo i j (xName a) (xName b) = some new := h
        obtain ⟨n, p, he⟩ := xTup_inv (e := e) (by rw [hx]; exact List.cons_ne_nil _ _)
        rw [hx] at he
        cases ha : xName a with
        | none => rw [ha] at h; exact no h
        | some x => cases hb : xName b with
          | none => rw [ha, hb] at h; exact no h
          | some y =>
            rw [ha, hb] at h
            obtain ⟨px, ea⟩ := xName_inv ha
            obtain ⟨py, eb⟩ := xName_inv hb
            have h6 : (if (x == y || i == j) = true then none else some [(i, x), (j, y)]) = some new := h
            by_cases q1 : x = y
            · rw [if_pos (by rw [beq_iff_eq.mpr q1]; rfl)] at h6; exact no h6
            · by_cases q2 : i = j
              · rw [if_pos (by rw [beq_iff_eq.mpr q2, Bool.or_true])] at h6; exact no h6
              · rw [if_neg (by rw [beq_false_of_ne q1, beq_false_of_ne q2]; exact Bool.false_ne_true)] at h6
                exact ⟨x, px, y, py, n, p, by rw [he, ea, eb], q1, q2, (Option.some.inj h6).symm⟩
noncomputable def kindIs (sc : Scope) (x : Str) : Bool := match sc.names.lookup x with
  | some .cell => true
  | some .free => true
  | _ => false
noncomputable def chkScope (sc csc : Scope) (new : List (Nat × Str)) (vis : List (Nat × Str)) : Bool :=
  csc.kind == .function && !csc.isGenerator && !csc.isCoroutine &&
  csc.names.all (fun p => match p.2 with
    | .local => csc.names.lookup p.1 == some .local && (p.1 == (".0" : Str) || new.any fun q => q.2 == p.1)
    | .free => kindIs sc p.1
    | .cell => false
    | _ => true) &&
  new.all (fun q => csc.names.lookup q.2 == some .local) && vis.all (fun q => !(q.2 == (".0" : Str))) &&
  decide (csc.names.map (·.1)).Nodup && vis.all (fun p => new.all fun q => !(p.1 == q.1))
noncomputable def newVis (new vis : List (Nat × Str)) : List (Nat × Str) := new ++ vis.filter fun p => !(new.any fun q => q.2 == p.2)
noncomputable def notSet (e : Expr) : Bool := !(e.ctorIdx == 7)

noncomputable def notSlice (e : Expr) : Bool := !(e.ctorIdx == 26)
noncomputable def initIs (FT : Nat → Option Fn) (sc : Scope) (f : Nat) (x : Str) : Bool := vSome (FT f) fun fn => fn.own && (fn.name == "__init__" && gName sc "Estate" x)
noncomputable def fnIs (FT : Nat → Option Fn) (sc : Scope) (f : Nat) (x : Str) : Bool := match FT f with
  | some fn => !fn.own && gName sc fn.name x
  | none => false
noncomputable def clsIs (sc : Scope) (c : Cls) (e : Expr) : Bool := vName e fun y => gName sc c.bi y
noncomputable def isAnd : Bool → BoolOp
  | true => .And
  | false => .Or
noncomputable def litC : Option Bool → Const
  | none => .none
  | some b => .bool b
noncomputable def isIs : Bool → CmpOp
  | true => .Is
  | false => .IsNot
noncomputable def vIter (sc : Scope) (f : Option String) (e : Expr) (k : Expr → Bool) : Bool := match f with
  | none => k e
  | some f => vCallN e fun x es => gName sc f x && vOne es k
noncomputable def IterIs (sc : Scope) (f : Option String) (e e1 : Expr) : Prop := match f with | none => e = e1 | some f => ∃ x px p, e = .Call (.Name x px) [e1] [] p ∧ gName sc f x = true
mutual
noncomputable def chkE (FT : Nat → Option Fn) (ids : List Nat) (vis : List (Nat × Str)) (sc : Scope) : Ex → Expr → Bool
  | .nm i, e => vName e fun x => vis.lookup i == some x && (isLoc sc x && okName x)
  | .int i, e => vConst e fun c => c == .int i
  | .bool b, e => vConst e fun c => c == .bool b
  | .none, e => vConst e fun c => c == .none
  | .glob x, e => vName e (gName sc x)
  | .bin op a b, e => vBin e fun l o r => bopIs op o && (chkE FT ids vis sc a l && chkE FT ids vis sc b r)
  | .not a, e => vUn e fun o x => o == .Not && chkE FT ids vis sc a x
  | .neg a, e => vUn e fun o x => o == .USub && chkE FT ids vis sc a x
  | .boolop k es, e => vBoolOp e fun o vs => o == isAnd k && (!vs.isEmpty && chkL FT ids vis sc es vs)
  | .cmp op a b, e => vCmp e fun l os rs => vOne os fun o => vOne rs fun r => copIs op o && (notSet r && (chkE FT ids vis sc a l && chkE FT ids vis sc b r))
  | .cmp2 o1 o2 a b c, e => vCmp e fun l os rs => vTwo os fun p1 p2 => vTwo rs fun r1 r2 => copIs o1 p1 && (copIs o2 p2 && (notSet r1 && (notSet r2 && (chkE FT ids vis sc a l && (chkE FT ids vis sc b r1 && chkE FT ids vis sc c r2)))))
  | .isc p a c, e => vCmp e fun l os rs => vOne os fun o => vOne rs fun r => o == isIs p && (chkE FT ids vis sc a l && vConst r fun k => k == litC c)
  | .call f args, e => vCallN e fun x es => ids.contains f && (fnIs FT sc f x && (!es.isEmpty && chkL FT ids vis sc args es))
  | .b1 b a, e => vCallN e fun x es => gName sc b.call x && vOne es fun e1 => vIter sc b.inner e1 fun e2 => chkE FT ids vis sc a e2
  | .isinst a c, e => vCallN e fun x es => gName sc "isinstance" x && vTwo es fun e1 e2 => chkE FT ids vis sc a e1 && clsIs sc c e2
  | .append o a, e => vMeth e "append" fun e1 es => vOne es fun e2 => chkE FT ids vis sc o e1 && chkE FT ids vis sc a e2
  | .extend o a, e => vMeth e "extend" fun e1 es => vOne es fun e2 => chkE FT ids vis sc o e1 && chkE FT ids vis sc a e2
  | .pop o i, e => vMeth e "pop" fun e1 es => chkE FT ids vis sc o e1 && (chkL FT ids vis sc i es && decide (es.length ≤ 1))
  | .clear o, e => vMeth e "clear" fun e1 es => es.isEmpty && chkE FT ids vis sc o e1
  | .index o a, e => vMeth e "index" fun e1 es => vOne es fun e2 => chkE FT ids vis sc o e1 && chkE FT ids vis sc a e2
  | .sub a i, e => vSub e fun e1 e2 => chkE FT ids vis sc a e1 && chkE FT ids vis sc i e2
  | .slice up a i, e => vSub e fun e1 e2 => vSl up e2 fun e3 => chkE FT ids vis sc a e1 && chkE FT ids vis sc i e3
  | .mm mx a b, e => vCallN e fun x es => gName sc (mmName mx) x && vTwo es fun e1 e2 => chkE FT ids vis sc a e1 && chkE FT ids vis sc b e2
  | .lst es, e => vList e fun xs => chkL FT ids vis sc es xs
  | .tup es, e => vTup e fun xs => chkL FT ids vis sc es xs
  | .comp elt t k src cond, e => vLC e fun elt' gs csc => vOne gs fun g => vSome (chkT t g.target) fun new =>
      decide (g.is_async = 0) && (chkScope sc csc new vis && (notSet g.iter && (vIter sc k.call g.iter (fun e1 => chkE FT ids vis sc src e1) &&
          (chkE FT ids (newVis new vis) csc elt elt' && chkL FT ids (newVis new vis) csc cond g.ifs))))
  | .str x, e => vConst e fun c => c == .str (Str.ofString x)
  | .dict0, e => vDict0 e
  | .fstr a c, e => vJS e fun xs => vTwo xs fun e1 e2 => vFV e1 (fun v cv sp => decide (cv = -1) && (sp.isNone && chkE FT ids vis sc a v)) && vConst e2 fun k => k == .str (Str.ofString c)
  | .join sep a, e => vMeth e "join" fun o es => (vConst o fun k => k == .str (Str.ofString sep)) && vOne es fun e2 => chkE FT ids vis sc a e2
noncomputable def chkL (FT : Nat → Option Fn) (ids : List Nat) (vis : List (Nat × Str)) (sc : Scope) : Exs → List Expr → Bool
  | .nil, es => es.isEmpty
  | .cons e es, xs => match xs with | x :: r => chkE FT ids vis sc e x && chkL FT ids vis sc es r | [] => false
end

end TD

namespace TD
open PySem PyProof.Rows

noncomputable def PM (W : Cx) (mem : Mem) (s : Shared) (Q : Val → Mem → Prop) (y : Value) (s' : Shared) : Prop :=
  ∃ v mem', VRel W s'.heap v y ∧ MRel W mem' s' ∧ Step NoD mem s.heap mem' s'.heap ∧ Q v mem'

theorem MRel.toks {W : Cx} {mem : Mem} {s : Shared} (M : MRel W mem s) (t : Nat) : MRel W mem { s with toks := t } := ⟨M.stays, M.mems, M.gens, M.os⟩
theorem PM.val {W : Cx} {mem : Mem} {s : Shared} {Q : Val → Mem → Prop} {v : Val} {y : Value} (M : MRel W mem s) (hv : VRel W s.heap v y) (hq : Q v mem) (t : Nat) : PM W mem s Q y { s with toks := t } :=
  ⟨v, mem, hv, M.toks t, .refl, hq⟩
theorem PM.here {W : Cx} {mem : Mem} {s : Shared} {Q : Val → Mem → Prop} {v : Val} {y : Value} (M : MRel W mem s) (hv : VRel W s.heap v y) (hq : Q v mem) : PM W mem s Q y s := PM.val M hv hq s.toks
theorem PM.trans {W : Cx} {mem mem' : Mem} {s s' s'' : Shared} {Q : Val → Mem → Prop} {y : Value} (x : Step NoD mem s.heap mem' s'.heap) (p : PM W mem' s' Q y s'') : PM W mem s Q y s'' := by
  obtain ⟨v, m2, a, b, c, d⟩ := p; exact ⟨v, m2, a, b, x.trans c, d⟩

theorem VRel.int {W : Cx} {h : Heap} {i : Int} {v : Value} (r : VRel W h (.int i) v) : ∃ t, v = .int i t := r
theorem VRel.str {W : Cx} {h : Heap} {i : Str} {v : Value} (r : VRel W h (.str i) v) : ∃ t, v = .str i t := r
theorem VRel.mkStr {W : Cx} {h : Heap} {i : Str} {t : Tok} : VRel W h (.str i) (.str i t) := Exists.intro t rfl
theorem VRel.bool {W : Cx} {h : Heap} {i : Bool} {v : Value} (r : VRel W h (.bool i) v) : v = .bool i := r
theorem VRel.none' {W : Cx} {h : Heap} {v : Value} (r : VRel W h .none v) : v = .none := r
theorem VRel.ref {W : Cx} {h : Heap} {a : Addr} {v : Value} (r : VRel W h (.ref a) v) : v = .ref a := r
theorem VRel.mkInt {W : Cx} {h : Heap} {i : Int} {t : Tok} : VRel W h (.int i) (.int i t) := Exists.intro t rfl
theorem VRel.mkBool {W : Cx} {h : Heap} {i : Bool} : VRel W h (.bool i) (.bool i) := rfl
theorem VRel.mkNone {W : Cx} {h : Heap} : VRel W h .none .none := rfl
theorem VRel.mkRef {W : Cx} {h : Heap} {a : Addr} : VRel W h (.ref a) (.ref a) := rfl

theorem VRels.inv {W : Cx} {h : Heap} {v : Val} {vs : List Val} {xs : List Value} (r : VRels W h (v :: vs) xs) : ∃ y ys, xs = y :: ys ∧ VRel W h v y ∧ VRels W h vs ys := r
theorem VRels.inv0 {W : Cx} {h : Heap} {xs : List Value} (r : VRels W h [] xs) : xs = [] := r
theorem VRels.nil {W : Cx} {h : Heap} : VRels W h [] [] := rfl
theorem VRels.cons {W : Cx} {h : Heap} {v : Val} {vs : List Val} {y : Value} {ys : List Value} (a : VRel W h v y) (r : VRels W h vs ys) : VRels W h (v :: vs) (y :: ys) := Exists.intro y ⟨ys, rfl, a, r⟩
theorem VRels.length {W : Cx} {h : Heap} {vs : List Val} : ∀ {xs : List Value}, VRels W h vs xs → xs.length = vs.length := by
  induction vs with
  | nil => intro xs e; cases e.inv0; rfl
  | cons v vs ih => intro xs e; obtain ⟨y, ys, rfl, _, r⟩ := e.inv; exact congrArg Nat.succ (ih r)
theorem VRels.append {W : Cx} {h : Heap} {vs ws : List Val} {ys : List Value} (f : VRels W h ws ys) : ∀ {xs : List Value}, VRels W h vs xs → VRels W h (vs ++ ws) (xs ++ ys) := by
  induction vs with
  | nil => intro xs e; cases e.inv0; exact f
  | cons v vs ih => intro xs e; obtain ⟨y, ys, rfl, a, r⟩ := e.inv; exact .cons a (ih r)
theorem VRels.get {W : Cx} {h : Heap} {vs : List Val} : ∀ {xs : List Value} {i : Nat} {v : Val}, VRels W h vs xs → vs[i]? = some v → ∃ y, xs[i]? = some y ∧ VRel W h v y := by
  induction vs with
  | nil => intro xs i v _ e; cases e
  | cons w ws ih =>
    intro xs i v r e
    obtain ⟨y, ys, rfl, a, r⟩ := r.inv
    cases i with
    | zero => cases e; exact ⟨y, rfl, a⟩
    | succ i => obtain ⟨z, hz, q⟩ := ih (i := i) r e; exact ⟨z, hz, q⟩

theorem lst_ref {mem : Mem} {a : Addr} {xs : List Val} (e : lst mem (.ref a) = some xs) : mem a = some (.list xs) := by
  have e : itemsOf (mem a) = some xs := e
  cases q : mem a with
  | none => rw [q] at e; exact no e
  | some o =>
    rw [q] at e
    cases o with
    | list ys => cases e; rfl
    | dict0 => exact no e
theorem lst_rel {W : Cx} {mem : Mem} {s : Shared} (M : MRel W mem s) {v : Val} {y : Value} {xs : List Val} (hv : VRel W s.heap v y) (e : lst mem v = some xs) :
    ∃ a vs, y = .ref a ∧ s.heap.IsList a (List.toArray vs) ∧ VRels W s.heap xs vs := by
  cases v <;> first | exact no e | skip
  · rename_i a
    obtain ⟨⟨vs, ⟨n, hn⟩, r⟩, _⟩ := M.mems a _ (lst_ref e)
    exact ⟨a, vs, hv.ref, ⟨_, hn, rfl, n, rfl⟩, r⟩
  · cases e
    obtain ⟨a, vs, rfl, ⟨o, ho, q⟩, r⟩ := hv
    exact ⟨a, vs, rfl, ⟨o, M.stays a o ho, q⟩, r⟩
theorem IsTup.tuple {h : Heap} {a : Addr} {xs : Array Value} (x : IsTup h a xs) : h.IsTuple a xs := x

variable {W : Cx} {A : Around} {E : Value → Shared → Prop} {env : Env} {vis : List (Nat × Str)} {loc : Loc} {mem : Mem} {s : Shared} {Q : Val → Mem → Prop}

theorem KeepL.push {L : Addr} {h : Heap} (o : Obj) : KeepL L h (h.push o) := .of_keeps fun b x e => Heap.get?_push_of_some _ e

theorem freshL_sound (R : Rel W env vis loc mem s) {xs : List Val} {vs : List Value} {s' : Shared} {a : Addr} {n : Nat} (k : KeepL env.locals s.heap s'.heap) (ha : s.heap.get? a = none)
    (hl : s'.heap.get? a = some { cls := .type "list", data := .seq vs.toArray n }) (hr : VRels W s.heap xs vs) (h : freshL mem xs Q) (hg : s'.gens = s.gens := by rfl) (ho : s'.os = s.os := by rfl) : PM W mem s Q (.ref a) s' :=
  ⟨.ref a, mem.set a (.list xs), .mkRef, R.allocM k ha (fun kf => ⟨vs, ⟨n, hl⟩, hr.keep kf⟩) hg ho, R.allocS k ha, h.2 a (R.m.mems.fresh ha)⟩
theorem size_none (h : Heap) : h.get? h.objs.size = none := by
  cases e : h.get? h.objs.size with
  | none => rfl
  | some o => exact absurd (Heap.lt_size e) (Nat.lt_irrefl _)
theorem lid_line {n : Nat} (h : n < lid) : n ≤ sizeLine := by unfold lid at h; unfold sizeLine; walk_at "o"

theorem newList_sound (R : Rel W env vis loc mem s) {xs : List Val} {vs : List Value} (hr : VRels W s.heap xs vs) (h : freshL mem xs Q) : wpAny (model W.prog W.w) A (newList vs) (PM W mem s Q) E s := by
  have hsz : vs.length ≤ sizeLine := lid_line (hr.length ▸ h.1)
  refine wpAny_newObj_type ?_ (by show vs.toArray.size ≤ sizeLine; rw [List.size_toArray]; exact hsz)
  exact freshL_sound R (.push _) (size_none _) (Heap.get?_push_size _ rfl) hr h

theorem isTup_new {h : Heap} {vs : List Value} {n : Nat} : IsTup (h.push { cls := .type "tuple", data := .seq vs.toArray n }) h.objs.size vs.toArray := ⟨_, Heap.get?_push_size _ rfl, rfl, n, rfl⟩
theorem newTuple_sound (R : Rel W env vis loc mem s) {xs : List Val} {vs : List Value} (hr : VRels W s.heap xs vs) (hl : xs.length < lid) (h : Q (.tup xs) mem) : wpAny (model W.prog W.w) A (newTuple vs) (PM W mem s Q) E s := by
  have hsz : vs.length ≤ sizeLine := lid_line (hr.length ▸ hl)
  refine wpAny_newObj_type ?_ (by show vs.toArray.size ≤ sizeLine; rw [List.size_toArray]; exact hsz)
  have k : KeepL env.locals s.heap (s.heap.push { cls := .type "tuple", data := .seq vs.toArray }) := .push _
  refine ⟨.tup xs, mem, ?_, R.keepM k, R.keepS k, h⟩
  exact Exists.intro _ ⟨vs, rfl, isTup_new, hr.keep (R.keepF k)⟩

theorem small_ok {x y : Int} (h : small x ∨ small y) : IntMulOk x y := by
  rcases h with h | h
  · exact .of_left (intBits_le_64 (by have := h.1; walk_at "o") (by have := h.2; walk_at "o"))
  · exact .of_right (intBits_le_64 (by have := h.1; walk_at "o") (by have := h.2; walk_at "o"))
theorem tiny_log {i : Int} (h : tiny i) : i.natAbs.log2 < 1920 := by
  unfold tiny at h
  by_cases h0 : i.natAbs = 0
  · rw [h0]; decide
  · refine (Nat.log2_lt h0).mpr (Nat.lt_of_lt_of_le (m := 2 ^ 40) (by omega) (Nat.pow_le_pow_right (by decide) (by decide)))
theorem tiny_ok {x y : Int} (h : tiny y) : Builtin.divisionGoesByPylong x y = false := by
  unfold Builtin.divisionGoesByPylong
  simp only [Bool.and_eq_false_iff, decide_eq_false_iff_not]
  left
  split
  · walk_at "o"
  · rename_i q
    have hy : y.natAbs ≠ 0 := by simpa using q
    have : y.natAbs.log2 < 60 := (Nat.log2_lt hy).mpr (by unfold tiny at h; walk_at "o")
    walk_at "o"
theorem lst_plain (M : MRel W mem s) {a : Addr} {xs : List Val} (e : lst mem (.ref a) = some xs) : mem a = some (.list xs) ∧ ∃ vs n, s.heap.get? a = some { cls := .type "list", data := .seq (List.toArray vs) n } ∧ VRels W s.heap xs vs := by
  obtain ⟨⟨vs, ⟨n, hn⟩, r⟩, _⟩ := M.mems a _ (lst_ref e)
  exact ⟨lst_ref e, vs, n, hn, r⟩
theorem foldl_app (vs : List Value) : ∀ (n : Nat) (acc : List Value), List.foldl (fun (x1 x2 : Array Value) => x1 ++ x2) acc.toArray (List.replicate n vs.toArray) = (acc ++ (List.replicate n vs).flatten).toArray
  | 0, acc => by simp
  | n + 1, acc => by
    simp only [List.replicate_succ, List.foldl_cons, List.append_toArray, List.flatten_cons]
    rw [foldl_app vs n]
    simp
theorem VRels.rep {h : Heap} {xs : List Val} {vs : List Value} (r : VRels W h xs vs) : ∀ n : Nat, VRels W h (List.replicate n xs).flatten (List.replicate n vs).flatten
  | 0 => .nil
  | n + 1 => by simp only [List.replicate_succ, List.flatten_cons]; exact (r.rep n).append r

theorem bin_sound (R : Rel W env vis loc mem s) {op : Bop} {o : Operator} {x y : Val} {a b : Value} (hx : VRel W s.heap x a) (hy : VRel W s.heap y b) (ho : bopIs op o = true) (h : wpBin op x y Q mem) :
    wpAny (model W.prog W.w) A (binaryOp o a b) (PM W mem s Q) E s := by
  obtain rfl := bopIs_eq ho
  cases op with
  | add =>
    rcases h with ⟨i, j, rfl, rfl, h⟩ | ⟨_, _, xs, ys, rfl, rfl, ex, ey, hf⟩ | ⟨i, j, rfl, rfl, hl, h⟩
    · obtain ⟨t, rfl⟩ := hx.int; obtain ⟨u, rfl⟩ := hy.int
      exact add_int (PM.val R.m .mkInt h _)
    · obtain ⟨a1, v1, rfl, l1, r1⟩ := lst_rel R.m hx ex
      obtain ⟨a2, v2, rfl, l2, r2⟩ := lst_rel R.m hy ey
      obtain ⟨m, hn⟩ := R.hasNs
      obtain ⟨F, N⟩ := fr_all hn
      have hsz : v1.length + v2.length ≤ sizeLine := lid_line (by have := hf.1; rw [List.length_append] at this; rw [r1.length, r2.length]; exact this)
      refine add_lists F N l1 l2 (hsz := hsz) fun h' F' N' => ?_
      have k := KeepL.of_fr hn F' N' fun p hp => .tail _ hp
      exact freshL_sound R k (size_none _) (N' _ (.head _)).1 (r2.append r1) hf
    · obtain ⟨t, rfl⟩ := hx.str; obtain ⟨u, rfl⟩ := hy.str
      exact SB.add (fun t' k => PM.val R.m .mkStr h _) (lid_line hl)
  | sub =>
    obtain ⟨i, j, rfl, rfl, h⟩ := h
    obtain ⟨t, rfl⟩ := hx.int; obtain ⟨u, rfl⟩ := hy.int
    exact sub_int (PM.val R.m .mkInt h _)
  | mul =>
    rcases h with ⟨i, j, rfl, rfl, h⟩ | ⟨_, i, xs, rfl, rfl, ex, h0, hl, hf⟩
    · obtain ⟨t, rfl⟩ := hx.int; obtain ⟨u, rfl⟩ := hy.int
      exact mul_int (PM.val R.m .mkInt h.2 _) (small_ok h.1)
    · obtain rfl := hx.ref
      obtain ⟨em, v1, n1, l1, r1⟩ := lst_plain R.m ex
      obtain ⟨u, rfl⟩ := hy.int
      obtain ⟨m, hn⟩ := R.hasNs
      obtain ⟨F, N⟩ := fr_all hn
      have hlen : ∀ n : Nat, (List.replicate n v1).flatten.length = n * v1.length := fun n => by simp
      have hsz : v1.toArray.size * i.toNat ≤ 2 ^ 24 := by
        have h1 := lid_line hf.1
        rw [← (r1.rep i.toNat).length, hlen] at h1
        rw [List.size_toArray, Nat.mul_comm]; exact h1
      refine mul_list F N l1 (by walk_at "o") (by unfold lid at hl; walk_at "o") hsz fun h' F' N' => ?_
      have k := KeepL.of_fr hn F' N' fun p hp => .tail _ hp
      refine freshL_sound R k (size_none _) (n := 0) (vs := (List.replicate i.toNat v1).flatten) ?_ (r1.rep _) hf
      rw [(N' _ (.head _)).1]
      have e2 : List.foldl (fun (x1 x2 : Array Value) => x1 ++ x2) #[] (List.replicate (if v1.toArray.isEmpty = true then 0 else i.toNat) v1.toArray) = (List.replicate i.toNat v1).flatten.toArray := by
        split
        · rename_i q
          have : v1 = [] := by simpa using q
          subst this; simp
        · exact (foldl_app v1 i.toNat []).trans (by simp)
      rw [e2]
  | fdiv =>
    obtain ⟨i, j, rfl, rfl, h⟩ := h
    obtain ⟨t, rfl⟩ := hx.int; obtain ⟨u, rfl⟩ := hy.int
    exact floordiv_int h.1.1 (PM.val R.m .mkInt h.2 _) (.inl (tiny_ok h.1.2))
  | mod =>
    obtain ⟨i, j, rfl, rfl, h⟩ := h
    obtain ⟨t, rfl⟩ := hx.int; obtain ⟨u, rfl⟩ := hy.int
    exact mod_int' h.1.1 (PM.val R.m .mkInt h.2 _)

end TD

namespace TD
open PySem PyProof.Rows
variable {W : Cx} {A : Around} {E : Value → Shared → Prop} {env : Env} {vis : List (Nat × Str)} {loc : Loc} {mem : Mem} {s : Shared} {Q : Val → Mem → Prop}

mutual
noncomputable def toP : Dat → PyData
  | .none => .none
  | .int i => .int i
  | .list ds => .list (toPs ds)
  | .tup ds => .tuple (toPs ds)
  | .str x => .str x
noncomputable def toPs : List Dat → List PyData
  | [] => []
  | d :: ds => toP d :: toPs ds
end
theorem str_beq {x y : Str} : (x.cps.toList == y.cps.toList) = (x == y) := by
  rw [Bool.eq_iff_iff, beq_iff_eq, beq_iff_eq]
  constructor
  · intro h
    obtain ⟨a⟩ := x
    obtain ⟨b⟩ := y
    exact congrArg Str.mk (Array.toList_inj.mp h)
  · rintro rfl; rfl
mutual
theorem eqv_toP : ∀ d e : Dat, PyData.eqv (toP d) (toP e) = Dat.beq d e
  | .none, e => by cases e <;> rfl
  | .int _, e => by cases e <;> rfl
  | .list a, e => by cases e <;> first | rfl | exact eqvs_toP a _
  | .tup a, e => by cases e <;> first | rfl | exact eqvs_toP a _
  | .str a, e => by cases e <;> first | rfl | exact str_beq
theorem eqvs_toP : ∀ d e : List Dat, PyData.eqvAll (toPs d) (toPs e) = Dat.beqs d e
  | [], e => by cases e <;> rfl
  | a :: r, e => by
    cases e with
    | nil => rfl
    | cons b t =>
      show (PyData.eqv (toP a) (toP b) && PyData.eqvAll (toPs r) (toPs t)) = (Dat.beq a b && Dat.beqs r t)
      rw [eqv_toP a b, eqvs_toP r t]
end
theorem toPs_map (ds : List Dat) : toPs ds = ds.map toP := by
  induction ds with
  | nil => rfl
  | cons d ds ih => exact congrArg (toP d :: ·) ih

theorem okNL {n : Nat} {d : Dat} {ds : List Dat} (hd : d = .list ds ∨ d = .tup ds) (h : okN (n + 1) d = true) : ds.all (okN n) = true := by
  rcases hd with rfl | rfl
  · exact h
  · exact h
theorem lay_toP (n : Nat) : ∀ d : Dat, okN n d = true → (toP d).canLay0 = true ∧ (toP d).depth ≤ n := by
  induction n with
  | zero => intro d h; exact nb h
  | succ n ih =>
    have all : ∀ ds : List Dat, ds.all (okN n) = true → PyData.canLayAll0 (toPs ds) = true ∧ PyData.depthAll (toPs ds) ≤ n := by
      intro ds
      induction ds with
      | nil => intro _; exact ⟨rfl, Nat.zero_le _⟩
      | cons d ds ihd =>
        intro h
        obtain ⟨h1, h2⟩ := and2 (show (okN n d && ds.all (okN n)) = true from h)
        obtain ⟨a, b⟩ := ih d h1
        obtain ⟨c, e⟩ := ihd h2
        exact ⟨Bool.and_eq_true_iff.mpr ⟨a, c⟩, Nat.max_le.mpr ⟨b, e⟩⟩
    intro d h
    cases d with
    | none => exact ⟨rfl, Nat.zero_le _⟩
    | int i => exact ⟨rfl, Nat.zero_le _⟩
    | list ds =>
      obtain ⟨a, b⟩ := all ds (okNL (.inl rfl) h)
      exact ⟨a, Nat.succ_le_succ b⟩
    | tup ds =>
      obtain ⟨a, b⟩ := all ds (okNL (.inr rfl) h)
      exact ⟨a, Nat.succ_le_succ b⟩
    | str x => exact ⟨h, Nat.zero_le _⟩
theorem lays_toP (n : Nat) (ds : List Dat) (h : ds.all (okN n) = true) : PyData.canLayAll0 (toPs ds) = true ∧ PyData.depthAll (toPs ds) ≤ n := by
  obtain ⟨a, b⟩ := lay_toP (n + 1) (.list ds) h
  exact ⟨a, Nat.le_of_succ_le_succ b⟩

mutual
theorem reads_kit (M : MRel W mem s) : ∀ (d : Dat) (v : Val) (y : Value), Reads mem d v → VRel W s.heap v y → ∃ as, _root_.PySem.Reads s.heap y (toP d) as
  | .none, v, y, h, r => by obtain rfl : v = .none := h; obtain rfl := r.none'; exact ⟨_, .none⟩
  | .int i, v, y, h, r => by obtain rfl : v = .int i := h; obtain ⟨t, rfl⟩ := r.int; exact ⟨_, .int i t⟩
  | .list ds, v, y, h, r => by
    obtain ⟨xs, e, h⟩ := h
    obtain ⟨a, vs, rfl, ⟨o, ho, hc, n, hd⟩, q⟩ := lst_rel M r e
    obtain ⟨as, ra⟩ := readsL_kit M ds xs vs h q
    exact ⟨_, .list ho hc hd ra⟩
  | .tup ds, v, y, h, r => by
    obtain ⟨xs, rfl, h⟩ := h
    obtain ⟨a, vs, rfl, ⟨o, ho, hc, n, hd⟩, q⟩ := r
    obtain ⟨as, ra⟩ := readsL_kit M ds xs vs h q
    exact ⟨_, .tuple ho hc hd ra⟩
  | .str i, v, y, h, r => by obtain rfl : v = .str i := h; obtain ⟨t, rfl⟩ := r.str; exact ⟨_, .str i t⟩
theorem readsL_kit (M : MRel W mem s) : ∀ (ds : List Dat) (xs : List Val) (ys : List Value), ReadsL mem ds xs → VRels W s.heap xs ys → ∃ as, ReadsAll s.heap ys (toPs ds) as
  | [], xs, ys, h, r => by obtain rfl : xs = [] := h; obtain rfl := r.inv0; exact ⟨_, .nil⟩
  | d :: ds, xs, ys, h, r => by
    obtain ⟨z, zs, rfl, h1, h2⟩ := h
    obtain ⟨w, ws, rfl, r1, r2⟩ := r.inv
    obtain ⟨as, ra⟩ := reads_kit M d z w h1 r1
    obtain ⟨bs, rb⟩ := readsL_kit M ds zs ws h2 r2
    exact ⟨_, .cons ra rb⟩
end

theorem seq_or {mem : Mem} {v : Val} {xs : List Val} (e : seq mem v = some xs) : v = .tup xs ∨ lst mem v = some xs := by
  cases v <;> first | exact .inr e | (cases e; exact .inl rfl)
theorem seq_kit (M : MRel W mem s) {v : Val} {y : Value} {xs : List Val} {ds : List Dat} (e : seq mem v = some xs) (h : ReadsL mem ds xs) (r : VRel W s.heap v y) :
    ∃ as, _root_.PySem.Reads s.heap y (.list (toPs ds)) as ∨ _root_.PySem.Reads s.heap y (.tuple (toPs ds)) as := by
  rcases seq_or e with rfl | e
  · obtain ⟨as, ra⟩ := reads_kit M (.tup ds) _ y (Exists.intro xs ⟨rfl, h⟩) r
    exact ⟨as, .inr ra⟩
  · obtain ⟨as, ra⟩ := reads_kit M (.list ds) v y (Exists.intro xs ⟨e, h⟩) r
    exact ⟨as, .inl ra⟩

structure Room (n : Nat) (A : Around) : Prop where
  handled : A.handled = none
  units : A.units + 100 + 20 * n < cLine
  depth : A.depth + 5 + 5 * n < recursionLimit

noncomputable def PB (W : Cx) (mem : Mem) (s : Shared) (P : Bool → Mem → Prop) : Value → Shared → Prop := PM W mem s (asB P)

theorem any_toP {es : List Dat} {d : Dat} : ((toPs es).any fun y => PyData.eqv y (toP d)) = es.any fun e => Dat.beq e d := by
  rw [toPs_map, List.any_map]
  exact congrArg (es.any ·) (funext fun z => eqv_toP z d)
theorem shaped_of {d : Dat} (h : okN 8 d = true) : SeqAt.shaped (toP d) = true := by
  obtain ⟨l1, d1⟩ := lay_toP 8 d h
  simp only [SeqAt.shaped, l1, Bool.true_and]; exact decide_eq_true (by walk_at "o")
theorem cmp_sound (R : Rel W env vis loc mem s) {n : Nat} (hr : Room n A) {op : Cop} {o : CmpOp} {x y : Val} {a b : Value} {P : Bool → Mem → Prop} (hx : VRel W s.heap x a) (hy : VRel W s.heap y b) (ho : copIs op o = true) (h : wpCmp op x y P mem) :
    wpAny (model W.prog W.w) A (compareOp o a b) (PB W mem s P) E s := by
  have hu := hr.units
  obtain rfl := copIs_eq ho
  have pm : ∀ {b : Bool}, P b mem → PB W mem s P (.bool b) s := fun {b} h => PM.here R.m .mkBool (Exists.intro b ⟨rfl, h⟩)
  cases op with
  | eq =>
    rcases h with ⟨i, j, rfl, rfl, h⟩ | ⟨i, j, rfl, rfl, h⟩ | ⟨d, e, h1, h2, h3, h4, h5⟩
    · obtain rfl := hx.bool; obtain rfl := hy.bool
      exact eq_bool (pm h)
    · obtain ⟨t, rfl⟩ := hx.str; obtain ⟨u, rfl⟩ := hy.str
      exact PySem.P.eq_str (by rw [str_beq]; exact pm h)
    · obtain ⟨as, ra⟩ := reads_kit R.m d _ _ h1 hx
      obtain ⟨bs, rb⟩ := reads_kit R.m e _ _ h2 hy
      have d1 := (lay_toP 8 d h3).2
      have d2 := (lay_toP 8 e h4).2
      refine eq_dataH ra rb (shaped_of h3) (shaped_of h4) (by walk_at "o") ?_
      rw [eqv_toP]
      exact pm h5
  | ne =>
    rcases h with ⟨i, j, rfl, rfl, h⟩ | ⟨i, j, rfl, rfl, h⟩ | ⟨d, e, h1, h2, h3, h4, h5⟩
    · obtain rfl := hx.bool; obtain rfl := hy.bool
      exact ne_bool (pm h)
    · obtain ⟨t, rfl⟩ := hx.str; obtain ⟨u, rfl⟩ := hy.str
      exact PySem.P.ne_str (by unfold bne; rw [str_beq]; exact pm h)
    · obtain ⟨as, ra⟩ := reads_kit R.m d _ _ h1 hx
      obtain ⟨bs, rb⟩ := reads_kit R.m e _ _ h2 hy
      have d1 := (lay_toP 8 d h3).2
      have d2 := (lay_toP 8 e h4).2
      refine ne_dataH ra rb (shaped_of h3) (shaped_of h4) (by walk_at "o") ?_
      rw [eqv_toP]
      exact pm h5
  | lt =>
    obtain ⟨i, j, rfl, rfl, h⟩ := h
    obtain ⟨t, rfl⟩ := hx.int; obtain ⟨u, rfl⟩ := hy.int
    exact lt_int (pm h)
  | le =>
    obtain ⟨i, j, rfl, rfl, h⟩ := h
    obtain ⟨t, rfl⟩ := hx.int; obtain ⟨u, rfl⟩ := hy.int
    exact le_int (pm h)
  | gt =>
    obtain ⟨i, j, rfl, rfl, h⟩ := h
    obtain ⟨t, rfl⟩ := hx.int; obtain ⟨u, rfl⟩ := hy.int
    exact gt_int (pm h)
  | ge =>
    obtain ⟨i, j, rfl, rfl, h⟩ := h
    obtain ⟨t, rfl⟩ := hx.int; obtain ⟨u, rfl⟩ := hy.int
    exact ge_int (pm h)
  | inn =>
    obtain ⟨d, es, xs, e1, h1, h2, h3, h4, h5⟩ := h
    obtain ⟨as, ra⟩ := reads_kit R.m d _ _ h1 hx
    obtain ⟨l1, d1⟩ := lay_toP 8 d h3
    obtain ⟨l2, d2⟩ := lays_toP 7 es h4
    have hm := Nat.min_le_right (PyData.depthAll (toPs es)) (toP d).depth
    obtain ⟨bs, rb | rb⟩ := seq_kit R.m e1 h2 hy
    · refine SeqAt.in_list_reads rb ra l2 l1 (by walk_at "o") ?_
      rw [any_toP]; exact pm h5
    · refine SeqAt.in_tuple_reads rb ra l2 l1 (by walk_at "o") ?_
      rw [any_toP]; exact pm h5
  | notin =>
    obtain ⟨d, es, xs, e1, h1, h2, h3, h4, h5⟩ := h
    obtain ⟨as, ra⟩ := reads_kit R.m d _ _ h1 hx
    obtain ⟨l1, d1⟩ := lay_toP 8 d h3
    obtain ⟨l2, d2⟩ := lays_toP 7 es h4
    have hm := Nat.min_le_right (PyData.depthAll (toPs es)) (toP d).depth
    obtain ⟨bs, rb | rb⟩ := seq_kit R.m e1 h2 hy
    · refine SeqAt.notIn_list_reads rb ra l2 l1 (by walk_at "o") ?_
      rw [any_toP]; exact pm h5
    · refine SeqAt.notIn_tuple_reads rb ra l2 l1 (by walk_at "o") ?_
      rw [any_toP]; exact pm h5

end TD

namespace TD
open PySem PySem.W PyProof.Rows

noncomputable def ev {α : Type} (ans : Nat → Nat → Bool) : KasT α → α
  | .ret a => a
  | .ask i j k => ev ans (k (ans i j))
theorem ev_bind {α β : Type} {ans : Nat → Nat → Bool} {f : α → KasT β} : ∀ (t : KasT α), ev ans (t.bind f) = ev ans (f (ev ans t))
  | .ret _ => rfl
  | .ask i j k => ev_bind (k (ans i j))
section
variable {O : KeyOrd} (key : Nat → O.α)
noncomputable def ansO (i j : Nat) : Bool := O.blt (key i) (key j)
noncomputable def at_ (p : Array Nat) (i : Nat) : O.α := key (p.getD i 0)
noncomputable def Up (p : Array Nat) (k : Nat) : Prop := ∀ i j, i ≤ j → j < k → O.kle (at_ key p i) (at_ key p j)
noncomputable def Dn (p : Array Nat) (k : Nat) : Prop := ∀ i j, i ≤ j → j < k → O.kle (at_ key p j) (at_ key p i)
variable {key}
theorem at_rev {p : Array Nat} {i j : Nat} (hj : j ≤ p.size) (k : Nat) : at_ key (kas_rev p i j) k = if i ≤ k ∧ k < j then at_ key p (i + j - 1 - k) else at_ key p k := by
  have e := getElem?_mirror_all (xs := p) (i := i) hj k
  unfold at_ kas_rev
  rw [Array.getD_eq_getD_getElem?, e]
  by_cases h : i ≤ k ∧ k < j
  · rw [if_pos h, if_pos h, Array.getD_eq_getD_getElem?]
  · rw [if_neg h, if_neg h, Array.getD_eq_getD_getElem?]
theorem at_bub {p : Array Nat} {k d : Nat} (hs : k < p.size) (hd : d ≤ k) (i : Nat) : at_ key (bubble p k d) i = if i = k - d then at_ key p k else if k - d < i ∧ i ≤ k then at_ key p (i - 1) else at_ key p i := by
  have e := getElem?_bubble hs d hd i
  unfold at_
  rw [Array.getD_eq_getD_getElem?, e]
  by_cases h : i = k - d
  · rw [if_pos h, if_pos h, Array.getD_eq_getD_getElem?]
  · rw [if_neg h, if_neg h]
    by_cases h' : k - d < i ∧ i ≤ k
    · rw [if_pos h', if_pos h', Array.getD_eq_getD_getElem?]
    · rw [if_neg h', if_neg h', Array.getD_eq_getD_getElem?]
theorem Up.more {p : Array Nat} {n : Nat} (h : Up key p n) (h1 : 1 ≤ n) (q : O.kle (at_ key p (n - 1)) (at_ key p n)) : Up key p (n + 1) := fun i j hij hj => by
  by_cases e : j = n
  · subst e
    by_cases e' : i = j
    · subst e'; exact KeyOrd.kle_refl _
    · exact KeyOrd.kle_trans (h i (j - 1) (by walk_at "o") (by walk_at "o")) q
  · exact h i j hij (by walk_at "o")
theorem Dn.more {p : Array Nat} {n : Nat} (h : Dn key p n) (h1 : 1 ≤ n) (q : O.kle (at_ key p n) (at_ key p (n - 1))) : Dn key p (n + 1) := fun i j hij hj => by
  by_cases e : j = n
  · subst e
    by_cases e' : i = j
    · subst e'; exact KeyOrd.kle_refl _
    · exact KeyOrd.kle_trans q (h i (j - 1) (by walk_at "o") (by walk_at "o"))
  · exact h i j hij (by walk_at "o")
theorem asc_ok {p : Array Nat} : ∀ (f n : Nat), 1 ≤ n → Up key p n → n ≤ ev (ansO key) (kas_asc p f n) ∧ ev (ansO key) (kas_asc p f n) ≤ n + f ∧ Up key p (ev (ansO key) (kas_asc p f n)) ∧
    (ev (ansO key) (kas_asc p f n) < n + f → O.blt (at_ key p (ev (ansO key) (kas_asc p f n))) (at_ key p (ev (ansO key) (kas_asc p f n) - 1)) = true)
  | 0, n, h1, hu => ⟨Nat.le_refl _, Nat.le_refl _, hu, fun h => absurd h (Nat.lt_irrefl _)⟩
  | f + 1, n, h1, hu => by
    have e : ev (ansO key) (kas_asc p (f + 1) n) = ev (ansO key) (if O.blt (at_ key p n) (at_ key p (n - 1)) = true then .ret n else kas_asc p f (n + 1)) := rfl
    rw [e]
    cases q : O.blt (at_ key p n) (at_ key p (n - 1)) with
    | true =>
      rw [if_pos rfl]
      exact ⟨Nat.le_refl _, Nat.le_add_right _ _, hu, fun _ => q⟩
    | false =>
      rw [if_neg (by simp)]
      obtain ⟨a, b, c, d⟩ := asc_ok f (n + 1) (by walk_at "o") (hu.more h1 q)
      exact ⟨by walk_at "o", by walk_at "o", c, fun h => d (by walk_at "o")⟩
noncomputable def Same (key : Nat → O.α) (p : Array Nat) (n q : Nat) : Prop := q < n ∧ ∀ k, n - (q + 1) ≤ k → k < n → at_ key p k = at_ key p (n - 1)
theorem rev_same {p : Array Nat} {n q : Nat} (hn : n ≤ p.size) (h : Same key p n q) (k : Nat) : at_ key (kas_rev p (n - (q + 1)) n) k = at_ key p k := by
  rw [at_rev hn]
  by_cases e : n - (q + 1) ≤ k ∧ k < n
  · rw [if_pos e, h.2 k e.1 e.2, h.2 _ (by have := h.1; walk_at "o") (by have := h.1; walk_at "o")]
  · rw [if_neg e]
theorem Dn.congr {p p' : Array Nat} {n : Nat} (h : Dn key p n) (e : ∀ k, at_ key p' k = at_ key p k) : Dn key p' n := fun i j hij hj => by rw [e, e]; exact h i j hij hj
theorem same0 {p : Array Nat} {n : Nat} (h : 1 ≤ n) : Same key p n 0 := ⟨h, fun k h1 h2 => by rw [show k = n - 1 by walk_at "o"]⟩
theorem rev_size {p : Array Nat} {i j : Nat} : (kas_rev p i j).size = p.size := mirror_size _ _ _ _
theorem rev_perm {p : Array Nat} {i j : Nat} : (kas_rev p i j).Perm p := mirror_perm _ _ _ _
theorem desc_ok : ∀ (f : Nat) (p : Array Nat) (n q : Nat), n + f ≤ p.size → 1 ≤ n → Dn key p n → Same key p n q →
    ∃ p' n' q', ev (ansO key) (kas_desc f p n q) = (p', n', q') ∧ p'.Perm p ∧ n ≤ n' ∧ n' ≤ n + f ∧ Dn key p' n' ∧ Same key p' n' q'
  | 0, p, n, q, hs, h1, hd, hq => ⟨p, n, q, rfl, Array.Perm.refl _, Nat.le_refl _, Nat.le_refl _, hd, hq⟩
  | f + 1, p, n, q, hs, h1, hd, hq => by
    have e : ev (ansO key) (kas_desc (f + 1) p n q) = ev (ansO key) (if O.blt (at_ key p n) (at_ key p (n - 1)) = true then (if q > 0 then kas_desc f (kas_rev p (n - (q + 1)) n) (n + 1) 0 else kas_desc f p (n + 1) 0)
        else .ask (p.getD (n - 1) 0) (p.getD n 0) fun d => if d = true then .ret (p, n, q) else kas_desc f p (n + 1) (q + 1)) := rfl
    rw [e]
    cases c : O.blt (at_ key p n) (at_ key p (n - 1)) with
    | true =>
      rw [if_pos rfl]
      have hle : O.kle (at_ key p n) (at_ key p (n - 1)) := KeyOrd.kle_of_klt c
      by_cases hq0 : q > 0
      · rw [if_pos hq0]
        have er := rev_same (key := key) (p := p) (n := n) (q := q) (by walk_at "o") hq
        obtain ⟨p', n', q', e1, e2, e3, e4, e5, e6⟩ := desc_ok f (kas_rev p (n - (q + 1)) n) (n + 1) 0 (by rw [rev_size]; walk_at "o") (by walk_at "o") ((hd.congr er).more h1 (by rw [er, er]; exact hle)) (same0 (by walk_at "o"))
        exact ⟨p', n', q', e1, e2.trans rev_perm, by walk_at "o", by walk_at "o", e5, e6⟩
      · rw [if_neg hq0]
        obtain ⟨p', n', q', e1, e2, e3, e4, e5, e6⟩ := desc_ok f p (n + 1) 0 (by walk_at "o") (by walk_at "o") (hd.more h1 hle) (same0 (by walk_at "o"))
        exact ⟨p', n', q', e1, e2, by walk_at "o", by walk_at "o", e5, e6⟩
    | false =>
      rw [if_neg (by simp)]
      have e' : ev (ansO key) (.ask (p.getD (n - 1) 0) (p.getD n 0) fun d => if d = true then .ret (p, n, q) else kas_desc f p (n + 1) (q + 1)) = ev (ansO key) (if O.blt (at_ key p (n - 1)) (at_ key p n) = true then .ret (p, n, q) else kas_desc f p (n + 1) (q + 1)) := rfl
      rw [e']
      cases c' : O.blt (at_ key p (n - 1)) (at_ key p n) with
      | true => rw [if_pos rfl]; exact ⟨p, n, q, rfl, Array.Perm.refl _, Nat.le_refl _, by walk_at "o", hd, hq⟩
      | false =>
        rw [if_neg (by simp)]
        have eq : at_ key p n = at_ key p (n - 1) := O.total _ _ c c'
        obtain ⟨p', n', q', e1, e2, e3, e4, e5, e6⟩ := desc_ok f p (n + 1) (q + 1) (by walk_at "o") (by walk_at "o") (hd.more h1 c') ⟨by have := hq.1; walk_at "o", fun k h2 h3 => by
          rw [show n + 1 - 1 = n from rfl]
          by_cases hk : k = n
          · rw [hk]
          · rw [hq.2 k (by walk_at "o") (by walk_at "o"), eq]⟩
        exact ⟨p', n', q', e1, e2, by walk_at "o", by walk_at "o", e5, e6⟩
theorem Dn.turn {p : Array Nat} {n : Nat} (h : Dn key p n) (hn : n ≤ p.size) : Up key (kas_rev p 0 n) n := fun i j hij hj => by
  rw [at_rev hn, at_rev hn, if_pos ⟨Nat.zero_le _, by walk_at "o"⟩, if_pos ⟨Nat.zero_le _, hj⟩]
  exact h _ _ (by walk_at "o") (by walk_at "o")
noncomputable def CountOk (key : Nat → O.α) (p : Array Nat) (nrem : Nat) (r : Nat × Array Nat) : Prop := 1 ≤ r.1 ∧ r.1 ≤ nrem ∧ Up key r.2 r.1 ∧ r.2.Perm p
theorem tail3_ok {p : Array Nat} {n nrem : Nat} (h1 : 1 ≤ n) (hn : n ≤ nrem) (hz : nrem ≤ p.size) (hd : Dn key p n) : CountOk key p nrem (ev (ansO key) (kas_tail3 n nrem p)) := by
  have e : ev (ansO key) (kas_tail3 n nrem p) = (ev (ansO key) (kas_asc (kas_rev p 0 n) (nrem - n) n), kas_rev p 0 n) := by
    unfold kas_tail3; rw [ev_bind]; rfl
  rw [e]
  obtain ⟨a, b, c, _⟩ := asc_ok (key := key) (p := kas_rev p 0 n) (nrem - n) n h1 (hd.turn (by walk_at "o"))
  exact ⟨Nat.le_trans h1 a, by show _ ≤ nrem; walk_at "o", c, rev_perm⟩
theorem descPart_ok {p : Array Nat} {n nrem : Nat} (h1 : 1 ≤ n) (hn : n + 1 ≤ nrem) (hz : nrem ≤ p.size) (hd : Dn key p (n + 1)) : CountOk key p nrem (ev (ansO key) (kas_descPart n nrem p)) := by
  obtain ⟨p', n', q', e1, e2, e3, e4, e5, e6⟩ := desc_ok (nrem - (n + 1)) p (n + 1) 0 (by walk_at "o") (by walk_at "o") hd (same0 (by walk_at "o"))
  have hs : p'.size = p.size := e2.size_eq
  have e : ev (ansO key) (kas_descPart n nrem p) = ev (ansO key) (if q' > 0 then kas_tail3 n' nrem (kas_rev p' (n' - (q' + 1)) n') else kas_tail3 n' nrem p') := by
    unfold kas_descPart; rw [ev_bind, e1]
  rw [e]
  by_cases hq : q' > 0
  · rw [if_pos hq]
    have er := rev_same (key := key) (p := p') (n := n') (q := q') (by walk_at "o") e6
    obtain ⟨a, b, c, d⟩ := tail3_ok (key := key) (p := kas_rev p' (n' - (q' + 1)) n') (n := n') (nrem := nrem) (by walk_at "o") (by walk_at "o") (by rw [rev_size]; walk_at "o") (e5.congr er)
    exact ⟨a, b, c, d.trans (rev_perm.trans e2)⟩
  · rw [if_neg hq]
    obtain ⟨a, b, c, d⟩ := tail3_ok (key := key) (p := p') (n := n') (nrem := nrem) (by walk_at "o") (by walk_at "o") (by walk_at "o") e5
    exact ⟨a, b, c, d.trans e2⟩
theorem count_ok {p : Array Nat} {nrem : Nat} (h1 : 1 ≤ nrem) (hz : nrem ≤ p.size) : CountOk key p nrem (ev (ansO key) (kas_count nrem p)) := by
  obtain ⟨a, b, c, d⟩ := asc_ok (key := key) (p := p) (nrem - 1) 1 (Nat.le_refl _) (fun i j hij hj => by rw [show i = j by walk_at "o"]; exact KeyOrd.kle_refl _)
  unfold kas_count
  rw [ev_bind]
  generalize ev (ansO key) (kas_asc p (nrem - 1) 1) = n at a b c d
  by_cases e : n = nrem
  · subst e
    rw [if_pos (by simp)]
    exact ⟨a, Nat.le_refl _, c, Array.Perm.refl _⟩
  rw [if_neg (by simpa using e)]
  have hlt := d (by walk_at "o")
  have hle : O.kle (at_ key p n) (at_ key p (n - 1)) := KeyOrd.kle_of_klt hlt
  by_cases hn : n > 1
  · rw [if_pos hn]
    have e' : ev (ansO key) (.ask (p.getD 0 0) (p.getD (n - 1) 0) fun c => if c = true then .ret (n, p) else kas_descPart n nrem (kas_rev p 0 n)) = ev (ansO key) (if O.blt (at_ key p 0) (at_ key p (n - 1)) = true then .ret (n, p) else kas_descPart n nrem (kas_rev p 0 n)) := rfl
    rw [e']
    cases q : O.blt (at_ key p 0) (at_ key p (n - 1)) with
    | true => rw [if_pos rfl]; exact ⟨a, by show n ≤ nrem; walk_at "o", c, Array.Perm.refl _⟩
    | false =>
      rw [if_neg (by simp)]
      have alike : ∀ k, k < n → at_ key p k = at_ key p (n - 1) := fun k hk =>
        KeyOrd.kle_antisymm (c k (n - 1) (by walk_at "o") (by walk_at "o")) (KeyOrd.kle_trans (show O.kle (at_ key p (n - 1)) (at_ key p 0) from q) (c 0 k (Nat.zero_le _) hk))
      have er : ∀ k, at_ key (kas_rev p 0 n) k = at_ key p k := fun k => by
        have := rev_same (key := key) (p := p) (n := n) (q := n - 1) (by walk_at "o") ⟨by walk_at "o", fun k _ h => alike k h⟩ k
        rw [show n - (n - 1 + 1) = 0 by walk_at "o"] at this
        exact this
      have hd : Dn key (kas_rev p 0 n) (n + 1) := Dn.more (fun i j hij hj => by rw [er, er, alike i (by walk_at "o"), alike j hj]; exact KeyOrd.kle_refl _) a (by rw [er, er]; exact hle)
      obtain ⟨a', b', c', d'⟩ := descPart_ok (key := key) (p := kas_rev p 0 n) (n := n) (nrem := nrem) a (by walk_at "o") (by rw [rev_size]; exact hz) hd
      exact ⟨a', b', c', d'.trans rev_perm⟩
  · rw [if_neg hn]
    have hn1 : n = 1 := by walk_at "o"
    subst hn1
    exact descPart_ok (Nat.le_refl _) (by walk_at "o") hz (Dn.more (fun i j hij hj => by rw [show i = j by walk_at "o"]; exact KeyOrd.kle_refl _) (Nat.le_refl _) hle)
theorem place_ok {p : Array Nat} {k : Nat} (hu : Up key p k) : ∀ (f l r : Nat), l ≤ r → r ≤ k → r - l ≤ f → (∀ i, i < l → O.kle (at_ key p i) (at_ key p k)) → (∀ i, r ≤ i → i < k → O.klt (at_ key p k) (at_ key p i)) →
    ev (ansO key) (kas_place p k f l r) ≤ k ∧ (∀ i, i < ev (ansO key) (kas_place p k f l r) → O.kle (at_ key p i) (at_ key p k)) ∧ (∀ i, ev (ansO key) (kas_place p k f l r) ≤ i → i < k → O.klt (at_ key p k) (at_ key p i))
  | 0, l, r, hlr, hrk, hf, h1, h2 => ⟨by show l ≤ k; walk_at "o", h1, fun i hi => h2 i (by show r ≤ i; have : l ≤ i := hi; walk_at "o")⟩
  | f + 1, l, r, hlr, hrk, hf, h1, h2 => by
    have e : ev (ansO key) (kas_place p k (f + 1) l r) = ev (ansO key) (if l ≥ r then .ret l else .ask (p.getD k 0) (p.getD ((l + r) / 2) 0) fun c => if c = true then kas_place p k f l ((l + r) / 2) else kas_place p k f ((l + r) / 2 + 1) r) := rfl
    rw [e]
    by_cases hge : l ≥ r
    · rw [if_pos hge]
      exact ⟨by show l ≤ k; walk_at "o", h1, fun i hi => h2 i (by show r ≤ i; have : l ≤ i := hi; walk_at "o")⟩
    · rw [if_neg hge]
      have e' : ev (ansO key) (.ask (p.getD k 0) (p.getD ((l + r) / 2) 0) fun c => if c = true then kas_place p k f l ((l + r) / 2) else kas_place p k f ((l + r) / 2 + 1) r) = ev (ansO key) (if O.blt (at_ key p k) (at_ key p ((l + r) / 2)) = true then kas_place p k f l ((l + r) / 2) else kas_place p k f ((l + r) / 2 + 1) r) := rfl
      rw [e']
      cases c : O.blt (at_ key p k) (at_ key p ((l + r) / 2)) with
      | true =>
        rw [if_pos rfl]
        exact place_ok hu f l ((l + r) / 2) (by walk_at "o") (by walk_at "o") (by walk_at "o") h1 fun i hi hik => KeyOrd.klt_of_klt_of_kle c (hu _ i hi hik)
      | false =>
        rw [if_neg (by simp)]
        exact place_ok hu f ((l + r) / 2 + 1) r (by walk_at "o") hrk (by walk_at "o") (fun i hi => KeyOrd.kle_trans (hu i ((l + r) / 2) (by walk_at "o") (by walk_at "o")) c) h2
theorem bin_ok : ∀ (f : Nat) (p : Array Nat) (k : Nat), k + f ≤ p.size → Up key p k → Up key (ev (ansO key) (kas_bin f p k)) (k + f) ∧ (ev (ansO key) (kas_bin f p k)).Perm p
  | 0, p, k, hs, hu => ⟨hu, Array.Perm.refl _⟩
  | f + 1, p, k, hs, hu => by
    have e : ev (ansO key) (kas_bin (f + 1) p k) = ev (ansO key) (kas_bin f (bubble p k (k - ev (ansO key) (kas_place p k k 0 k))) (k + 1)) := by
      show ev (ansO key) ((kas_place p k k 0 k).bind fun l => kas_bin f (bubble p k (k - l)) (k + 1)) = _
      rw [ev_bind]
    rw [e]
    obtain ⟨a, b, c⟩ := place_ok (key := key) hu k 0 k (Nat.zero_le _) (Nat.le_refl _) (by walk_at "o") (fun i hi => absurd hi (Nat.not_lt_zero _)) (fun i hi hik => by walk_at "o")
    generalize ev (ansO key) (kas_place p k k 0 k) = l at a b c
    have hb := fun i => at_bub (key := key) (p := p) (k := k) (d := k - l) (by walk_at "o") (by walk_at "o") i
    have hkl : k - (k - l) = l := by walk_at "o"
    rw [hkl] at hb
    have hu' : Up key (bubble p k (k - l)) (k + 1) := fun i j hij hj => by
      rw [hb, hb]
      by_cases hi : i = l
      · rw [if_pos hi]
        by_cases hjl : j = l
        · rw [if_pos hjl]; exact KeyOrd.kle_refl _
        · rw [if_neg hjl, if_pos ⟨by walk_at "o", by walk_at "o"⟩]
          exact KeyOrd.kle_of_klt (c (j - 1) (by walk_at "o") (by walk_at "o"))
      · rw [if_neg hi]
        by_cases hil : l < i ∧ i ≤ k
        · rw [if_pos hil, if_neg (by walk_at "o"), if_pos ⟨by walk_at "o", by walk_at "o"⟩]
          exact hu _ _ (by walk_at "o") (by walk_at "o")
        · rw [if_neg hil]
          have hil' : i < l := by walk_at "o"
          by_cases hjl : j = l
          · rw [if_pos hjl]; exact b i hil'
          · rw [if_neg hjl]
            by_cases hjk : l < j ∧ j ≤ k
            · rw [if_pos hjk]; exact hu _ _ (by walk_at "o") (by walk_at "o")
            · rw [if_neg hjk]; exact hu _ _ hij (by walk_at "o")
    obtain ⟨x, y⟩ := bin_ok f (bubble p k (k - l)) (k + 1) (by rw [bubble_size]; walk_at "o") hu'
    rw [show k + 1 + f = k + (f + 1) by walk_at "o"] at x
    exact ⟨x, y.trans (bubble_perm _ _ _)⟩
theorem sort_ok {n : Nat} (h1 : 1 ≤ n) : Up key (ev (ansO key) (kas_sort n)) n ∧ (ev (ansO key) (kas_sort n)).Perm (List.toArray (List.range n)) := by
  have hz : (List.toArray (List.range n)).size = n := by simp
  obtain ⟨a, b, c, d⟩ := count_ok (key := key) (p := List.toArray (List.range n)) h1 (Nat.le_of_eq hz.symm)
  unfold kas_sort
  rw [ev_bind]
  generalize ev (ansO key) (kas_count n (List.toArray (List.range n))) = r at a b c d
  have hs : r.2.size = n := d.size_eq.trans hz
  by_cases hr : r.1 < n
  · rw [if_pos hr, Nat.max_eq_left a]
    obtain ⟨x, y⟩ := bin_ok (key := key) (n - r.1) r.2 r.1 (by walk_at "o") c
    rw [show r.1 + (n - r.1) = n by walk_at "o"] at x
    exact ⟨x, y.trans d⟩
  · rw [if_neg hr]
    rw [show r.1 = n by walk_at "o"] at c
    exact ⟨c, d⟩
end
end TD

namespace TD
open PySem PySem.W PyProof.Rows

theorem lex_irrefl : ∀ a, lexLt a a = false
  | [] => rfl
  | a :: as => by unfold lexLt; rw [if_pos rfl]; exact lex_irrefl as
theorem lex_total : ∀ a b, lexLt a b = false → lexLt b a = false → a = b
  | [], [], _, _ => rfl
  | [], b :: bs, h, _ => nomatch h
  | a :: as, [], _, h => nomatch h
  | a :: as, b :: bs, h1, h2 => by
    unfold lexLt at h1 h2
    by_cases e : a = b
    · subst e
      rw [if_pos rfl] at h1 h2
      rw [lex_total as bs h1 h2]
    · rw [if_neg e] at h1
      rw [if_neg (Ne.symm e)] at h2
      have := of_decide_eq_false h1
      have := of_decide_eq_false h2
      walk_at "o"
theorem lex_trans : ∀ a b c, lexLt a b = true → lexLt b c = true → lexLt a c = true
  | [], [], [], h1, _ => nomatch h1
  | [], _ :: _, [], _, h2 => nomatch h2
  | [], b, c :: cs, _, _ => rfl
  | a :: as, [], c, h1, _ => nomatch h1
  | a :: as, b :: bs, [], _, h2 => nomatch h2
  | a :: as, b :: bs, c :: cs, h1, h2 => by
    unfold lexLt at h1 h2 ⊢
    by_cases e : a = b
    · subst e
      rw [if_pos rfl] at h1
      by_cases e' : a = c
      · rw [if_pos e'] at h2 ⊢; exact lex_trans as bs cs h1 h2
      · rw [if_neg e'] at h2 ⊢; exact h2
    · rw [if_neg e] at h1
      have h1 := of_decide_eq_true h1
      by_cases e' : b = c
      · subst e'; rw [if_neg e]; exact decide_eq_true h1
      · rw [if_neg e'] at h2
        have h2 := of_decide_eq_true h2
        rw [if_neg (by walk_at "o")]; exact decide_eq_true (by walk_at "o")
theorem lex_neg : ∀ a b c, lexLt a c = true → lexLt a b = true ∨ lexLt b c = true
  | [], [], c, h => .inr h
  | [], b :: bs, c, _ => .inl rfl
  | a :: as, b, [], h => nomatch h
  | a :: as, [], c :: cs, _ => .inr rfl
  | a :: as, b :: bs, c :: cs, h => by
    unfold lexLt at h ⊢
    by_cases e : a = c
    · subst e
      rw [if_pos rfl] at h
      by_cases e' : a = b
      · subst e'; rw [if_pos rfl, if_pos rfl]; exact lex_neg as bs cs h
      · rw [if_neg e', if_neg (Ne.symm e')]
        by_cases q : a < b
        · exact .inl (decide_eq_true q)
        · exact .inr (decide_eq_true (by walk_at "o"))
    · rw [if_neg e] at h
      have h := of_decide_eq_true h
      by_cases e' : a = b
      · subst e'; rw [if_neg e]; exact .inr (decide_eq_true h)
      · rw [if_neg e']
        by_cases q : a < b
        · exact .inl (decide_eq_true q)
        · right; rw [if_neg (by walk_at "o")]; exact decide_eq_true (by walk_at "o")
noncomputable def lexO : KeyOrd := ⟨List Int, lexLt, lex_irrefl, lex_trans, lex_neg, lex_total⟩

theorem lex_end {a b : List Int} {i : Nat} (h1 : i ≤ a.length) (h2 : i ≤ b.length) (h : a.length = i ∨ b.length = i) : lexLt (a.drop i) (b.drop i) = decide (a.length < b.length) := by
  rcases Nat.lt_or_ge i a.length with q | q
  · have hb : b.length = i := h.resolve_left (by walk_at "o")
    rw [List.drop_of_length_le (l := b) (by walk_at "o"), List.drop_eq_getElem_cons q, decide_eq_false (by walk_at "o")]
    rfl
  · rw [List.drop_of_length_le (l := a) (by walk_at "o")]
    rcases Nat.lt_or_ge i b.length with q' | q'
    · rw [List.drop_eq_getElem_cons q', decide_eq_true (by walk_at "o")]; rfl
    · rw [List.drop_of_length_le (l := b) (by walk_at "o"), decide_eq_false (by walk_at "o")]; rfl
theorem ints_len {vs : List Value} {as : List Int} (h : IntsAre vs as) : vs.length = as.length := by
  induction h with
  | nil => rfl
  | cons _ _ _ ih => exact congrArg Nat.succ ih
theorem ints_get {vs : List Value} {as : List Int} (h : IntsAre vs as) : ∀ {i : Nat} {a : Int}, as[i]? = some a → ∃ t, vs[i]? = some (.int a t) := by
  induction h with
  | nil => intro i a e; cases e
  | cons n t _ ih =>
    intro i a e
    cases i with
    | zero => cases e; exact ⟨t, rfl⟩
    | succ i => exact ih (i := i) e
open PySem.SeqAt in
open MeetsSeq MeetsSeq2 MeetsSeq3 in
open AutoSeq1 (wpAny_loadPart') in
theorem lt_loop {l b : Addr} {vs ws : List Value} {as bs : List Int} {n n2 : Nat} (h1 : IntsAre vs as) (h2 : IntsAre ws bs) (k : Nat) :
    ∀ i : Nat, i ≤ as.length → i ≤ bs.length → as.length - i = k → Meets (Builtin.«list.__eq__.loop» ⟨[.ref l, .ref b, rawInt i, rawInt 0], []⟩)
      (fun A R s => s.heap.get? l = some { cls := .type "list", data := .seq vs.toArray n } ∧ s.heap.get? b = some { cls := .type "list", data := .seq ws.toArray n2 } ∧
        R (.ok (.ret (.bool (lexLt (as.drop i) (bs.drop i))))) s) := by
  have hv := ints_len h1
  have hw := ints_len h2
  induction k with
  | zero =>
    intro i hi1 hi2 hk prog w A R s h
    obtain ⟨hp, g, d, tk, os⟩ := s; obtain ⟨hl, hb, h⟩ := h
    wp_walk using wpAny_loadPart' hl, wpAny_loadPart' hb
    have e1 : vs.toArray[((i : Nat) : Int).toNat]? = none := by simp; walk_at "o"
    rw [e1]
    wp_walk using wpAny_loadPart' hl, wpAny_loadPart' hb
    show R (.ok (.ret (.bool (decide (vs.toArray.size < ws.toArray.size))))) _
    rw [lex_end hi1 hi2 (.inl (by walk_at "o"))] at h
    rw [List.size_toArray, List.size_toArray, hv, hw]
    exact h
  | succ k ih =>
    intro i hi1 hi2 hk prog w A R s h
    obtain ⟨hp, g, d, tk, os⟩ := s; obtain ⟨hl, hb, h⟩ := h
    wp_walk using wpAny_loadPart' hl, wpAny_loadPart' hb
    have hlt : i < as.length := by walk_at "o"
    obtain ⟨t, ht⟩ := ints_get h1 (List.getElem?_eq_getElem hlt)
    have e1 : vs.toArray[((i : Nat) : Int).toNat]? = some (.int as[i] t) := by simpa using ht
    rw [e1]
    rcases Nat.lt_or_ge i bs.length with hlt2 | hge
    · obtain ⟨u, hu⟩ := ints_get h2 (List.getElem?_eq_getElem hlt2)
      have e2 : ws.toArray[((i : Nat) : Int).toNat]? = some (.int bs[i] u) := by simpa using hu
      rw [e2]
      rw [List.drop_eq_getElem_cons hlt, List.drop_eq_getElem_cons hlt2] at h
      have hc : ((i : Int) + 1) = ((i + 1 : Nat) : Int) := by push_cast; rfl
      refine wpAny_bind (EqAt.int_int _ _ _ _ prog w _ _ ?_)
      by_cases q : as[i] = bs[i]
      · have hx : lexLt (as[i] :: as.drop (i + 1)) (bs[i] :: bs.drop (i + 1)) = lexLt (as.drop (i + 1)) (bs.drop (i + 1)) := by
          show (if as[i] = bs[i] then _ else _) = _
          rw [if_pos q]
        rw [hx] at h
        rw [show (as[i] == bs[i]) = true from beq_iff_eq.mpr q]
        wp_walk
        rw [hc]
        exact ⟨plainId_quiet plain_eq_loop _, codeAny_builtin entry_eq_loop (by
          rw [Around.under_plainId plain_eq_loop _]
          exact ih (i + 1) (by walk_at "o") (by walk_at "o") (by walk_at "o") prog w A R _ ⟨hl, hb, h⟩)⟩
      · have hx : lexLt (as[i] :: as.drop (i + 1)) (bs[i] :: bs.drop (i + 1)) = decide (as[i] < bs[i]) := by
          show (if as[i] = bs[i] then _ else _) = _
          rw [if_neg q]
        rw [hx] at h
        rw [show (as[i] == bs[i]) = false from beq_eq_false_iff_ne.mpr q]
        wp_walk using wpAny_loadPart' hl, wpAny_loadPart' hb
        rw [e1, e2]
        refine wpAny_bind (wpAny_lt_int ?_)
        wp_walk
        exact h
    · have e2 : ws.toArray[((i : Nat) : Int).toNat]? = none := by simp; walk_at "o"
      rw [e2]
      wp_walk using wpAny_loadPart' hl, wpAny_loadPart' hb
      show R (.ok (.ret (.bool (decide (vs.toArray.size < ws.toArray.size))))) _
      rw [lex_end hi1 hi2 (.inr (by walk_at "o"))] at h
      rw [List.size_toArray, List.size_toArray, hv, hw]
      exact h
end TD

namespace TD
open PySem PySem.W PyProof.Rows
section
variable {prog : Program} {w : World} {A : Around} {E : Value → Shared → Prop} {s : Shared}
open AutoSeq1 (wpAny_loadPart') in
open MeetsSeq MeetsSeq2 MeetsSeq3 in
theorem list_lt {l b : Addr} {vs ws : List Value} {as bs : List Int} {n n2 : Nat} (h1 : IntsAre vs as) (h2 : IntsAre ws bs) : Meets (Builtin.«list.__lt__» ⟨[.ref l, .ref b], []⟩)
      (fun A R s => s.heap.get? l = some { cls := .type "list", data := .seq vs.toArray n } ∧ s.heap.get? b = some { cls := .type "list", data := .seq ws.toArray n2 } ∧ R (.ok (.ret (.bool (lexLt as bs)))) s) := by
  intro prog w A R s h
  obtain ⟨hp, g, d, tk, os⟩ := s; obtain ⟨hl, hb, h⟩ := h
  have f3 := AutoSeq1.sub_list_list
  wp_walk using wpAny_loadPart' hl, wpAny_loadPart' hb
  exact ⟨plainId_quiet plain_eq_loop _, codeAny_builtin entry_eq_loop (by
    rw [Around.under_plainId plain_eq_loop _]
    exact lt_loop h1 h2 _ 0 (Nat.zero_le _) (Nat.zero_le _) rfl prog w A R _ ⟨hl, hb, by simpa using h⟩)⟩
theorem lt_lists (hu : A.units < cLine) {l b : Addr} {vs ws : List Value} {as bs : List Int} {n n2 : Nat} (h1 : IntsAre vs as) (h2 : IntsAre ws bs)
    (hl : s.heap.get? l = some { cls := .type "list", data := .seq vs.toArray n }) (hb : s.heap.get? b = some { cls := .type "list", data := .seq ws.toArray n2 }) {Q : Bool → Shared → Prop} (h : Q (lexLt as bs) s) :
    wpAny (model prog w) A (keyLt' oneType' (.ref l) (.ref b)) Q E s := by
  rw [keyLt'_oneType, oneLt'_eq]
  simp only [if_true]
  refine wpAny_bind (wpAny_cRoomFor hu ?_)
  refine wpAny_bind (wpAny_callSpecialIfBound?_slot (T := "list") ⟨_, hl, rfl⟩ PySem.F.slot_list_lt ?_)
  refine call_meets PySem.F.slot_list_lt ⟨_, hl, rfl⟩ PySem.F.entry_list_lt (PySem.F.args_list_lt_2 _ _) (list_lt h1 h2) ⟨hl, hb, ?_⟩
  exact wpAny_truthy_bool h
end

noncomputable def AskOk {α : Type} (ans : Nat → Nat → Bool) (n : Nat) : KasT α → Prop
  | .ret _ => True
  | .ask i j k => i < n ∧ j < n ∧ AskOk ans n (k (ans i j))
theorem askOk_bind {α β : Type} {ans : Nat → Nat → Bool} {n : Nat} {f : α → KasT β} : ∀ (t : KasT α), AskOk ans n t → AskOk ans n (f (ev ans t)) → AskOk ans n (t.bind f)
  | .ret _, _, h => h
  | .ask i j k, h, h' => ⟨h.1, h.2.1, askOk_bind (k (ans i j)) h.2.2 h'⟩
theorem ask_wp {α : Type} {ans : Nat → Nat → Bool} {n : Nat} {cmp : Nat → Nat → (Bool → Shared → Prop) → Shared → Prop} {s : Shared} (h : ∀ i j C, i < n → j < n → C (ans i j) s → cmp i j C s) {Q : α → Shared → Prop} : ∀ (t : KasT α), AskOk ans n t → Q (ev ans t) s → t.kasWp cmp Q s
  | .ret a, _, q => q
  | .ask i j k, a, q => h i j _ a.1 a.2.1 (ask_wp h (k (ans i j)) a.2.2 q)
section
variable {ans : Nat → Nat → Bool} {n : Nat}
noncomputable def In (n : Nat) (p : Array Nat) : Prop := ∀ i, p.getD i 0 < n
theorem In.of_mem {p : Array Nat} (h0 : 0 < n) (h : ∀ x ∈ p, x < n) : In n p := fun i => by
  rw [Array.getD_eq_getD_getElem?]
  cases e : p[i]? with
  | none => exact h0
  | some x => exact h x (Array.mem_of_getElem? e)
theorem In.mem {p : Array Nat} (h : In n p) : ∀ x ∈ p, x < n := fun x hx => by
  obtain ⟨i, hi, e⟩ := Array.getElem_of_mem hx
  have := h i
  rw [Array.getD_eq_getD_getElem?, Array.getElem?_eq_getElem hi, e] at this
  exact this
theorem In.perm {p p' : Array Nat} (h : In n p) (q : p'.Perm p) : In n p' := In.of_mem (Nat.lt_of_le_of_lt (Nat.zero_le _) (h 0)) fun x hx => h.mem x (q.mem_iff.mp hx)
theorem asc_ask {p : Array Nat} (h : In n p) : ∀ (f k : Nat), AskOk ans n (kas_asc p f k)
  | 0, _ => trivial
  | f + 1, k => by
    refine ⟨h _, h _, ?_⟩
    show AskOk ans n (if _ then _ else _)
    split
    · trivial
    · exact asc_ask h f _
theorem desc_ask : ∀ (f : Nat) (p : Array Nat) (k q : Nat), In n p → AskOk ans n (kas_desc f p k q) ∧ In n (ev ans (kas_desc f p k q)).1
  | 0, p, k, q, h => ⟨trivial, h⟩
  | f + 1, p, k, q, h => by
    have e : kas_desc (f + 1) p k q = .ask (p.getD k 0) (p.getD (k - 1) 0) fun c => if c = true then (if q > 0 then kas_desc f (kas_rev p (k - (q + 1)) k) (k + 1) 0 else kas_desc f p (k + 1) 0)
        else .ask (p.getD (k - 1) 0) (p.getD k 0) fun d => if d = true then .ret (p, k, q) else kas_desc f p (k + 1) (q + 1) := rfl
    rw [e]
    suffices hs : AskOk ans n (if ans (p.getD k 0) (p.getD (k - 1) 0) = true then (if q > 0 then kas_desc f (kas_rev p (k - (q + 1)) k) (k + 1) 0 else kas_desc f p (k + 1) 0)
        else .ask (p.getD (k - 1) 0) (p.getD k 0) fun d => if d = true then .ret (p, k, q) else kas_desc f p (k + 1) (q + 1)) ∧ In n (ev ans (if ans (p.getD k 0) (p.getD (k - 1) 0) = true then (if q > 0 then kas_desc f (kas_rev p (k - (q + 1)) k) (k + 1) 0 else kas_desc f p (k + 1) 0)
        else .ask (p.getD (k - 1) 0) (p.getD k 0) fun d => if d = true then .ret (p, k, q) else kas_desc f p (k + 1) (q + 1))).1 from ⟨⟨h _, h _, hs.1⟩, hs.2⟩
    split
    · split
      · exact desc_ask f _ _ _ (h.perm rev_perm)
      · exact desc_ask f _ _ _ h
    · suffices hs : AskOk ans n (if ans (p.getD (k - 1) 0) (p.getD k 0) = true then .ret (p, k, q) else kas_desc f p (k + 1) (q + 1)) ∧ In n (ev ans (if ans (p.getD (k - 1) 0) (p.getD k 0) = true then .ret (p, k, q) else kas_desc f p (k + 1) (q + 1))).1 from ⟨⟨h _, h _, hs.1⟩, hs.2⟩
      split
      · exact ⟨trivial, h⟩
      · exact desc_ask f _ _ _ h
theorem tail3_ask {p : Array Nat} {k m : Nat} (h : In n p) : AskOk ans n (kas_tail3 k m p) ∧ In n (ev ans (kas_tail3 k m p)).2 := by
  unfold kas_tail3
  have hr := h.perm (p' := kas_rev p 0 k) rev_perm
  refine ⟨askOk_bind _ (asc_ask hr _ _) trivial, ?_⟩
  rw [ev_bind]
  exact hr
theorem descPart_ask {p : Array Nat} {k m : Nat} (h : In n p) : AskOk ans n (kas_descPart k m p) ∧ In n (ev ans (kas_descPart k m p)).2 := by
  unfold kas_descPart
  obtain ⟨a, b⟩ := desc_ask (ans := ans) (m - (k + 1)) p (k + 1) 0 h
  rw [ev_bind]
  suffices hs : AskOk ans n ((fun r : Array Nat × Nat × Nat => if r.2.2 > 0 then kas_tail3 r.2.1 m (kas_rev r.1 (r.2.1 - (r.2.2 + 1)) r.2.1) else kas_tail3 r.2.1 m r.1) (ev ans (kas_desc (m - (k + 1)) p (k + 1) 0))) ∧ In n (ev ans ((fun r : Array Nat × Nat × Nat => if r.2.2 > 0 then kas_tail3 r.2.1 m (kas_rev r.1 (r.2.1 - (r.2.2 + 1)) r.2.1) else kas_tail3 r.2.1 m r.1) (ev ans (kas_desc (m - (k + 1)) p (k + 1) 0)))).2 from ⟨askOk_bind _ a hs.1, hs.2⟩
  dsimp only
  split
  · exact tail3_ask (b.perm rev_perm)
  · exact tail3_ask b
theorem count_ask {p : Array Nat} {m : Nat} (h : In n p) : AskOk ans n (kas_count m p) ∧ In n (ev ans (kas_count m p)).2 := by
  unfold kas_count
  rw [ev_bind]
  suffices hs : AskOk ans n ((fun k => if (k == m) = true then .ret (k, p) else if k > 1 then .ask (p.getD 0 0) (p.getD (k - 1) 0) fun c => if c = true then .ret (k, p) else kas_descPart k m (kas_rev p 0 k) else kas_descPart k m p) (ev ans (kas_asc p (m - 1) 1))) ∧ In n (ev ans ((fun k => if (k == m) = true then .ret (k, p) else if k > 1 then .ask (p.getD 0 0) (p.getD (k - 1) 0) fun c => if c = true then .ret (k, p) else kas_descPart k m (kas_rev p 0 k) else kas_descPart k m p) (ev ans (kas_asc p (m - 1) 1)))).2 from ⟨askOk_bind _ (asc_ask h _ _) hs.1, hs.2⟩
  dsimp only
  split
  · exact ⟨trivial, h⟩
  split
  · suffices hs : AskOk ans n (if ans (p.getD 0 0) (p.getD (ev ans (kas_asc p (m - 1) 1) - 1) 0) = true then .ret (ev ans (kas_asc p (m - 1) 1), p) else kas_descPart (ev ans (kas_asc p (m - 1) 1)) m (kas_rev p 0 (ev ans (kas_asc p (m - 1) 1)))) ∧ In n (ev ans (if ans (p.getD 0 0) (p.getD (ev ans (kas_asc p (m - 1) 1) - 1) 0) = true then .ret (ev ans (kas_asc p (m - 1) 1), p) else kas_descPart (ev ans (kas_asc p (m - 1) 1)) m (kas_rev p 0 (ev ans (kas_asc p (m - 1) 1))))).2 from ⟨⟨h _, h _, hs.1⟩, hs.2⟩
    split
    · exact ⟨trivial, h⟩
    · exact descPart_ask (h.perm rev_perm)
  · exact descPart_ask h
theorem place_ask {p : Array Nat} {k : Nat} (h : In n p) : ∀ (f l r : Nat), AskOk ans n (kas_place p k f l r)
  | 0, _, _ => trivial
  | f + 1, l, r => by
    show AskOk ans n (if l ≥ r then .ret l else .ask (p.getD k 0) (p.getD ((l + r) / 2) 0) fun c => if c = true then kas_place p k f l ((l + r) / 2) else kas_place p k f ((l + r) / 2 + 1) r)
    split
    · trivial
    · refine ⟨h _, h _, ?_⟩
      show AskOk ans n (if _ then _ else _)
      split
      · exact place_ask h f _ _
      · exact place_ask h f _ _
theorem bin_ask : ∀ (f : Nat) (p : Array Nat) (k : Nat), In n p → AskOk ans n (kas_bin f p k)
  | 0, _, _, _ => trivial
  | f + 1, p, k, h => askOk_bind _ (place_ask h _ _ _) (bin_ask f _ _ (h.perm (bubble_perm _ _ _)))
theorem sort_ask (h1 : 0 < n) : AskOk ans n (kas_sort n) := by
  unfold kas_sort
  have h : In n (List.toArray (List.range n)) := In.of_mem h1 fun x hx => List.mem_range.mp (by simpa using hx)
  obtain ⟨a, b⟩ := count_ask (ans := ans) (m := n) h
  refine askOk_bind _ a ?_
  split
  · exact bin_ask _ _ _ b
  · trivial
end
end TD

namespace TD
open PySem PySem.W PyProof.Rows
section
variable {W : Cx} {A : Around} {E : Value → Shared → Prop} {env : Env} {vis : List (Nat × Str)} {loc : Loc} {mem : Mem} {s : Shared} {Q : Val → Mem → Prop}
noncomputable abbrev pairD : Addr × List Int := ((0 : Nat), [])
theorem ints_ofR {h : Heap} {ns : List Int} : ∀ {vs : List Value}, VRels W h (ns.map .int) vs → IntsAre vs ns := by
  induction ns with
  | nil => intro vs r; obtain rfl := r.inv0; exact .nil
  | cons b bs ih =>
    intro vs r
    obtain ⟨y, ys, rfl, a, r'⟩ := r.inv
    obtain ⟨t, rfl⟩ := a.int
    exact .cons b t (ih r')
theorem refs_inv {h : Heap} : ∀ {qs : List (Addr × List Int)} {vs : List Value}, VRels W h (qs.map fun p => .ref p.1) vs → vs = qs.map fun p => Value.ref p.1
  | [], _, r => r.inv0
  | p :: qs, _, r => by
    obtain ⟨y, ys, rfl, a, r'⟩ := r.inv
    obtain rfl := a.ref
    rw [refs_inv r']; rfl
theorem refs_rel {h : Heap} (qs : List (Addr × List Int)) : VRels W h (qs.map fun p => .ref p.1) (qs.map fun p => Value.ref p.1) := by
  induction qs with
  | nil => rfl
  | cons p r ih => exact .cons .mkRef ih
theorem map_getD_range {α : Type} (d : α) (l : List α) : (List.range l.length).map (fun i => l.getD i d) = l := by
  apply List.ext_getElem?
  intro i
  rw [List.getElem?_map]
  by_cases h : i < l.length
  · rw [List.getElem?_range h, List.getElem?_eq_getElem h]
    show some (l.getD i d) = _
    rw [List.getD_eq_getElem?_getD, List.getElem?_eq_getElem h]; rfl
  · rw [List.getElem?_eq_none (by simpa using h), List.getElem?_eq_none (by walk_at "o")]; rfl
theorem sortedLL (R : Rel W env vis loc mem s) (hA : A.units + 10 < cLine) {l : Addr} {ps : List (Addr × List Int)} (hl : s.heap.IsList l (List.toArray (ps.map fun p => Value.ref p.1)))
    (hp : ∀ p ∈ ps, mem p.1 = some (.list (p.2.map .int))) (h2 : 2 ≤ ps.length) (h64 : ps.length < 64)
    (h : ∀ qs : List (Addr × List Int), qs.Perm ps → qs.Pairwise (fun p q => lexLt q.2 p.2 = false) → freshL mem (qs.map fun p => .ref p.1) Q) :
    wpAny (model W.prog W.w) A (call (.builtin "sorted") [.ref l]) (PM W mem s Q) E s := by
  obtain ⟨m, hn⟩ := R.hasNs
  obtain ⟨F, N⟩ := fr_all hn
  have lists : ∀ p ∈ ps, p.1 ≠ env.locals ∧ ∃ vs n, s.heap.get? p.1 = some { cls := .type "list", data := .seq (List.toArray vs) n } ∧ IntsAre vs p.2 := fun p q => by
    refine ⟨fun e => ?_, ?_⟩
    · have := hp p q; rw [e, R.sep _ (.inl rfl)] at this; cases this
    · obtain ⟨⟨vs, ⟨n, e⟩, r⟩, _⟩ := R.m.mems _ _ (hp p q)
      exact ⟨vs, n, e, ints_ofR r⟩
  have hlen : (ps.map fun p => Value.ref p.1).length = ps.length := List.length_map _
  have item : ∀ i, i < ps.length → ps.getD i pairD ∈ ps ∧ (ps.map fun p => Value.ref p.1).getD i .none = .ref (ps.getD i pairD).1 := fun i hi => by
    have e : ps[i]? = some (ps.getD i pairD) := by rw [List.getD_eq_getElem?_getD, List.getElem?_eq_getElem hi]; rfl
    refine ⟨List.mem_of_getElem? e, ?_⟩
    rw [List.getD_eq_getElem?_getD, List.getElem?_map, e]; rfl
  refine kas_sorted (T := .type "list") F N hl (by rw [hlen]; exact h2) (by rw [hlen]; exact h64) (fun h' F' N' v hv => ?_) rfl fun D e1 h' F' N' hD => ?_
  · obtain ⟨p, q, rfl⟩ := List.mem_map.mp hv
    have k := KeepL.of_fr hn F' N' fun p hp => hp
    obtain ⟨hne, vs, n, e, _⟩ := lists p q
    intro A' Q' E' s' hk hq
    exact wpAny_typeOf (T := "list") ⟨_, hk _ _ (k.keep _ _ hne e), rfl⟩ hq
  · have k := KeepL.of_fr hn F' N' fun p hp => .tail _ hp
    rw [hlen]
    let key : Nat → lexO.α := fun i => (ps.getD i pairD).2
    refine ask_wp (n := ps.length) (ans := ansO (O := lexO) key) (fun i j C hi hj hC => ?_) (kas_sort ps.length) (sort_ask (by walk_at "o")) ?_
    · obtain ⟨mi, ei⟩ := item i hi
      obtain ⟨mj, ej⟩ := item j hj
      obtain ⟨ni, vi, ci, xi, yi⟩ := lists _ mi
      obtain ⟨nj, vj, cj, xj, yj⟩ := lists _ mj
      show wpAny _ _ (keyLt' oneType' _ _) _ _ _
      rw [ei, ej]
      exact lt_lists (by show A.units + 1 + 1 < cLine; walk_at "o") yi yj (k.keep _ _ ni xi) (k.keep _ _ nj xj) hC
    · obtain ⟨hup, hpm⟩ := sort_ok (O := lexO) (key := key) (n := ps.length) (by walk_at "o")
      generalize ev (ansO (O := lexO) key) (kas_sort ps.length) = p at hup hpm
      have hpl : p.toList.Perm (List.range ps.length) := by simpa using hpm.toList
      have hin : ∀ i ∈ p.toList, i < ps.length := fun i hi => List.mem_range.mp (hpl.mem_iff.mp hi)
      have hsz : p.toList.length = ps.length := by rw [hpl.length_eq, List.length_range]
      refine KasFin.intro F' N' (.head fun q hq => Nat.ne_of_lt (hD q hq)) fun h'' c F'' N'' => ?_
      have k2 := KeepL.of_fr hn F'' N'' fun p hp => .tail _ hp
      have hnone : s.heap.get? D = none := by
        have hDn := N' _ (.head _)
        cases q : s.heap.get? D with
        | none => rfl
        | some o =>
          rcases Nat.lt_or_ge D env.locals with hlt | hge
          · have := hDn.2.2; rw [below_get hlt, q] at this; cases this
          · exact absurd (hD (D, o) (mem_others.mpr ⟨Nat.lt_of_le_of_ne hge (Ne.symm hDn.2.1), q⟩)) (Nat.lt_irrefl _)
      have hout : (p.toList.map fun i => (ps.map fun p => Value.ref p.1).getD i Value.none) = (p.toList.map fun i => ps.getD i pairD).map fun p => Value.ref p.1 := by
        rw [List.map_map]
        exact List.map_congr_left fun i hi => (item i (hin i hi)).2
      have hf := h (p.toList.map fun i => ps.getD i pairD) (by
        have := hpl.map fun i => ps.getD i pairD
        rw [map_getD_range] at this
        exact this) (by
        rw [List.pairwise_map, List.pairwise_iff_getElem]
        intro i j hi hj hij
        have hj' : j < ps.length := by rw [← hsz]; exact hj
        have := hup i j (Nat.le_of_lt hij) hj'
        unfold KeyOrd.kle at_ at this
        have gi : p.getD i 0 = p.toList[i] := by rw [Array.getD_eq_getD_getElem?, Array.getElem?_eq_getElem (by simpa using hi)]; simp
        have gj : p.getD j 0 = p.toList[j] := by rw [Array.getD_eq_getD_getElem?, Array.getElem?_eq_getElem (by simpa using hj)]; simp
        rw [gi, gj] at this
        exact this)
      have hD' := (N'' _ (.head _)).1
      rw [hout] at hD'
      exact freshL_sound (s' := { s with heap := h'' }) R k2 hnone hD' (refs_rel _) hf

section
variable {prog : Program} {w : World}
theorem sort_short {a : Addr} {vs : List Value} {n : Nat} {P : Fin → Shared → Prop} (ho : s.heap.get? a = some (seqObj "list" vs.toArray n)) (h2 : vs.length < 2)
    (h : P (.done (.ret .none)) { s with heap := sortedHeap s.heap a vs vs.toArray }) : wpAny (model prog w) A (Builtin.«list.sort» ⟨[.ref a], []⟩) P E s := by
  have ha : a < s.heap.objs.size := Heap.lt_size ho
  have hv : vs.toArray.size < 2 := by rw [List.size_toArray]; exact h2
  obtain ⟨e1, ho1⟩ : ∃ e1, (s.heap.update a (Obj.mapSeq fun _ => #[])).get? a = some (seqObj "list" #[] e1) := ⟨_, get?_update_seq ho (fun _ => #[])⟩
  have ho6 : (((s.heap.update a (Obj.mapSeq fun _ => #[])).push (seqObj "tuple" vs.toArray 0)).push (seqObj "list" #[] 0)).get? a = some (seqObj "list" #[] e1) :=
    Heap.get?_push_of_some _ (Heap.get?_push_of_some _ ho1)
  have hz : (vs.toArray.zip vs.toArray).map (·.2) = vs.toArray := by
    apply Array.toList_inj.mp
    rw [Array.toList_map, Array.toList_zip]
    show (vs.zip vs).map Prod.snd = vs
    rw [List.map_snd_zip (Nat.le_refl _)]
  rw [list_sort_plain]
  refine wpAny_bind (listItems_at ho rfl ?_)
  refine wpAny_bind (listUpdate_at ho rfl ?_ (by rw [sizeLine_eq]; walk_at "o") (Nat.zero_le _))
  refine wpAny_bind (seqEpoch_at ho1 rfl ?_)
  refine wpAny_bind (wpAny_newTuple ?_ (by show vs.length ≤ _; rw [sizeLine_eq]; walk_at "o"))
  refine wpAny_bind (wpAny_newList ?_ (Nat.zero_le _))
  refine wpAny_holding ?_
  show wpAny (model prog w) A _ P E { s with heap := ((s.heap.update a (Obj.mapSeq fun _ => #[])).push (seqObj "tuple" vs.toArray 0)).push (seqObj "list" #[] 0) }
  dsimp only
  rw [if_pos hv, if_pos hv]
  refine wpAny_bind (wpAny_pure ?_)
  rw [StateT.run_pure]
  refine wpAny_bind (wpAny_pure ?_)
  dsimp only
  refine wpAny_bind (seqEpoch_at ho6 rfl ?_)
  refine wpAny_bind (listUpdate_at ho6 rfl ?_ (hsz2 := by rw [Array.size_map]; show (pairsOf vs).size ≤ _; rw [pairsOf_size, sizeLine_eq]; walk_at "o"))
  simp only [bne_self_eq_false, Bool.false_eq_true, if_false]
  refine wpAny_pure ?_
  rw [hz]
  exact h
theorem sorted_short {l : Addr} {vs : List Value} {P : Value → Shared → Prop} (hl : s.heap.IsList l vs.toArray) (h2 : vs.length < 2)
    (h : P (.ref (s.heap.objs.size + 1)) { s with heap := sortedAll s.heap vs vs.toArray }) : wpAny (model prog w) A (call (.builtin "sorted") [.ref l]) P E s := by
  refine Calls.call_function_entry kind_sorted plain_sorted entry_sorted (args_sorted1 _) ?_
  unfold Builtin.«sorted»
  refine wpAny_bind (m := checkCount "sorted" 1 1 _) (wpAny_pure ?_)
  refine wpAny_bind (collect_list hl ?_ (by rw [sizeLine_eq]; walk_at "o"))
  refine wpAny_bind (wpAny_newList ?_ (by rw [sizeLine_eq]; walk_at "o"))
  have hsz : ((s.heap.push (seqObj "list" #[] 0)).update s.heap.objs.size (Obj.mapSeq (· ++ vs.toArray))).objs.size = s.heap.objs.size + 1 := by
    rw [Heap.size_update, size_push']
  have hoL : (((s.heap.push (seqObj "list" #[] 0)).update s.heap.objs.size (Obj.mapSeq (· ++ vs.toArray))).push (seqObj "list" vs.toArray 0)).get? (s.heap.objs.size + 1) = some (seqObj "list" vs.toArray 0) := by
    rw [← hsz]; exact Heap.get?_push_size _ rfl
  show wpAny _ _ _ _ _ { s with heap := ((s.heap.push (seqObj "list" #[] 0)).update s.heap.objs.size (Obj.mapSeq (· ++ vs.toArray))).push (seqObj "list" vs.toArray 0) }
  rw [hsz]
  refine wpAny_bind (wpAny_holding (wpAny_call_entry slot_list_sort ⟨_, hoL, rfl⟩ entry_list_sort (sort_short hoL h2 ⟨_, rfl, ?_⟩) (args_list_sort _)))
  exact wpAny_pure ⟨_, rfl, h⟩
end
theorem sortedLs (R : Rel W env vis loc mem s) (hA : A.units + 10 < cLine) {l : Addr} {ps : List (Addr × List Int)} (hl : s.heap.IsList l (List.toArray (ps.map fun p => Value.ref p.1)))
    (hp : ∀ p ∈ ps, mem p.1 = some (.list (p.2.map .int))) (h64 : ps.length < 64)
    (h : ∀ qs : List (Addr × List Int), qs.Perm ps → qs.Pairwise (fun p q => lexLt q.2 p.2 = false) → freshL mem (qs.map fun p => .ref p.1) Q) :
    wpAny (model W.prog W.w) A (call (.builtin "sorted") [.ref l]) (PM W mem s Q) E s := by
  rcases Nat.lt_or_ge ps.length 2 with h2 | h2
  · refine sorted_short hl (by rw [List.length_map]; exact h2) ?_
    have k : KeepL env.locals s.heap (sortedAll s.heap (ps.map fun p => Value.ref p.1) (List.toArray (ps.map fun p => Value.ref p.1))) := .of_keeps fun b o e => sortedAll_old e
    obtain ⟨e, he⟩ := sortedAll_at s.heap (ps.map fun p => Value.ref p.1) (List.toArray (ps.map fun p => Value.ref p.1))
    refine freshL_sound (s' := { s with heap := sortedAll s.heap (ps.map fun p => Value.ref p.1) (List.toArray (ps.map fun p => Value.ref p.1)) }) R k (Heap.get?_none_of_le (Nat.le_succ _)) he (refs_rel _) (h ps (List.Perm.refl _) ?_)
    match ps, h2 with
    | [], _ => exact .nil
    | [_], _ => exact List.pairwise_singleton _ _
    | _ :: _ :: _, h2 => exact absurd h2 (by simp)
  · exact sortedLL R hA hl hp h2 h64 h
end
end TD

namespace TD
open PySem PyProof.Rows
variable {W : Cx} {A : Around} {E : Value → Shared → Prop} {env : Env} {vis : List (Nat × Str)} {loc : Loc} {mem : Mem} {s : Shared} {Q : Val → Mem → Prop}

theorem seq_rel (M : MRel W mem s) {v : Val} {y : Value} {xs : List Val} (hv : VRel W s.heap v y) (e : seq mem v = some xs) :
    ∃ a vs, y = .ref a ∧ (s.heap.IsList a (List.toArray vs) ∨ IsTup s.heap a (List.toArray vs)) ∧ VRels W s.heap xs vs := by
  rcases seq_or e with rfl | e
  · obtain ⟨a, vs, rfl, h, r⟩ := hv
    exact ⟨a, vs, rfl, .inr h, r⟩
  · obtain ⟨a, vs, rfl, h, r⟩ := lst_rel M hv e; exact ⟨a, vs, rfl, .inl h, r⟩

theorem bools_of {h : Heap} {bs : List Bool} : ∀ {vs : List Value}, VRels W h (bs.map .bool) vs → LSm.BoolsAre vs bs := by
  induction bs with
  | nil => intro vs r; obtain rfl := r.inv0; exact .nil
  | cons b bs ih =>
    intro vs r
    obtain ⟨y, ys, rfl, a, r'⟩ := r.inv
    obtain rfl := a.bool
    exact .cons b (ih r')
theorem ints_of {h : Heap} {ns : List Int} : ∀ {vs : List Value}, VRels W h (ns.map .int) vs → IntsAre vs ns := by
  induction ns with
  | nil => intro vs r; obtain rfl := r.inv0; exact .nil
  | cons b bs ih =>
    intro vs r
    obtain ⟨y, ys, rfl, a, r'⟩ := r.inv
    obtain ⟨t, rfl⟩ := a.int
    exact .cons b t (ih r')
theorem of_ints {h : Heap} : ∀ {vs : List Value} {ns : List Int}, IntsAre vs ns → VRels W h (ns.map .int) vs := by
  intro vs ns r
  induction r with
  | nil => exact .nil
  | cons n t _ ih => exact .cons .mkInt ih

theorem lid63 {n : Nat} (h : n < lid) : ((n : Nat) : Int) < 2 ^ 63 := by unfold lid at h; walk_at "o"

theorem PM.kept (R : Rel W env vis loc mem s) {s' : Shared} {v : Val} {y : Value} (k : KeepL env.locals s.heap s'.heap) (hv : VRel W s'.heap v y) (hq : Q v mem) (hg : s'.gens = s.gens := by rfl) (ho : s'.os = s.os := by rfl) : PM W mem s Q y s' :=
  ⟨v, mem, hv, R.keepM k hg ho, R.keepS k, hq⟩

theorem ints_carried {ns : List Int} : ∀ {ys : List Value}, CarriedAll ys (ns.map PyData.int) → IntsAre ys ns := by
  induction ns with
  | nil => intro ys h; cases h; exact .nil
  | cons n ns ih =>
    intro ys h
    cases h with
    | cons h1 h2 => cases h1; exact .cons _ _ (ih h2)
theorem range_ints {h : Heap} (n : Nat) {ys : List Value} (c : CarriedAll ys ((rangeInts 0 1 n).map PyData.int)) : VRels W h (rangeV n) ys := by
  have e : rangeV (n : Int) = (rangeInts 0 1 n).map Val.int := by
    unfold rangeV rangeInts
    rw [List.map_map]
    simp [Function.comp_def]
  rw [e]
  exact of_ints (ints_carried c)

noncomputable def B1.val : B1 → Value
  | .len => .builtin "len"
  | .all => .builtin "all"
  | .sum => .builtin "sum"
  | .maxL => .builtin "max"
  | .minL => .builtin "min"
  | .list => .type "list"
  | .tuple => .type "tuple"
  | .sorted => .builtin "sorted"
  | .int => .type "int"
  | .lrange => .none
  | .lrev => .none
  | .lenset => .none
  | .str => .type "str"
theorem b1_sound (R : Rel W env vis loc mem s) {n : Nat} (hr : Room n A) {b : B1} {x : Val} {a : Value} (hb : b.inner = none) (hx : VRel W s.heap x a) (h : wpB1 b x Q mem) :
    wpAny (model W.prog W.w) A (call b.val [a]) (PM W mem s Q) E s := by
  obtain ⟨m, hn⟩ := R.hasNs
  obtain ⟨F, N⟩ := fr_all hn
  have hh := hr.handled
  cases b
  · obtain ⟨xs, e, hl, hq⟩ := h
    obtain ⟨a, vs, rfl, h | h, r⟩ := seq_rel R.m hx e
    · refine len_list h (by rw [List.size_toArray, r.length]; exact lid63 hl) ?_
      rw [List.size_toArray, r.length]; exact PM.val R.m .mkInt hq _
    · refine len_tuple h (by rw [List.size_toArray, r.length]; exact lid63 hl) ?_
      rw [List.size_toArray, r.length]; exact PM.val R.m .mkInt hq _
  · obtain ⟨bs, e, hq⟩ := h
    obtain ⟨a, vs, rfl, h, r⟩ := lst_rel R.m hx e
    refine LSm.all_bools F N hh h (bools_of r) fun h' tk F' N' => ?_
    exact PM.kept R (.of_fr hn F' N' fun p hp => hp) .mkBool hq
  · obtain ⟨is, e, _, _, hq⟩ := h
    obtain ⟨a, vs, rfl, h, r⟩ := lst_rel R.m hx e
    refine LSm.sum_ints F N hh h (ints_of r) fun h' tk t' F' N' => ?_
    exact PM.kept R (.of_fr hn F' N' fun p hp => hp) .mkInt hq
  · obtain ⟨is, e, hne, _, hq⟩ := h
    obtain ⟨a, vs, rfl, h, r⟩ := lst_rel R.m hx e
    refine max_list_N hh F N h (ints_of r) (List.length_pos_iff.mpr hne) fun h' M t tk F' N' h1 h2 => ?_
    exact PM.kept R (.of_fr hn F' N' fun p hp => hp) .mkInt (hq M h1 h2)
  · obtain ⟨is, e, hne, _, hq⟩ := h
    obtain ⟨a, vs, rfl, h, r⟩ := lst_rel R.m hx e
    refine min_list_N hh F N h (ints_of r) (List.length_pos_iff.mpr hne) fun h' M t tk F' N' h1 h2 => ?_
    exact PM.kept R (.of_fr hn F' N' fun p hp => hp) .mkInt (hq M h1 h2)
  · obtain ⟨xs, e, hf⟩ := h
    obtain ⟨a, vs, rfl, h, r⟩ := seq_rel R.m hx e
    have hsz : vs.toArray.size ≤ sizeLine := by rw [List.size_toArray, r.length]; exact lid_line hf.1
    have go : ∀ T, (T = "list" ∨ T = "tuple") → (∃ o, s.heap.get? a = some o ∧ o.cls = .type T ∧ ∃ n, o.data = .seq vs.toArray n) → wpAny (model W.prog W.w) A (call (.type "list") [.ref a]) (PM W mem s Q) E s := by
      rintro T hT ⟨o, ho, hc, n, hd⟩
      refine call_list_seq a hT ho hc hd (fun h' c' hk hD => ?_) hsz
      exact freshL_sound R (.of_keeps hk) (size_none _) hD r hf
    rcases h with h | h
    · exact go _ (.inl rfl) h
    · exact go _ (.inr rfl) h
  · obtain ⟨xs, e, hl, hq⟩ := h
    obtain ⟨a, vs, rfl, h, r⟩ := lst_rel R.m hx e
    have hsz : vs.toArray.size ≤ sizeLine := by rw [List.size_toArray, r.length]; exact lid_line hl
    refine call_tuple_list h (fun h' hk => ?_) hsz
    have k : KeepL env.locals s.heap (h'.push { cls := .type "tuple", data := .seq vs.toArray }) := .of_keeps fun b o e => Heap.get?_push_of_some _ (hk b o e)
    exact PM.kept R (v := .tup xs) k (Exists.intro _ ⟨vs, rfl, isTup_new, r.keep (R.keepF k)⟩) hq
  · obtain ⟨xs, e, ⟨is, rfl, h64, hq⟩ | ⟨ps, rfl, hp, h64, hq⟩⟩ := h
    rotate_left
    · obtain ⟨a, vs, rfl, h, r⟩ := lst_rel R.m hx e
      obtain rfl := refs_inv r
      exact sortedLs R (by have := hr.units; walk_at "o") h hp h64 hq
    obtain ⟨a, vs, rfl, h, r⟩ := lst_rel R.m hx e
    refine sorted_N F N h (ints_of r) (by have := r.length; rw [List.length_map] at this; walk_at "o") fun h' vs' ns' e' F' N' hi hp hs => ?_
    have k := KeepL.of_fr hn F' N' fun p hp => .tail _ hp
    have hnone : s.heap.get? (s.heap.objs.size + 1) = none := by
      cases q : s.heap.get? (s.heap.objs.size + 1) with
      | none => rfl
      | some o => exact absurd (Heap.lt_size q) (Nat.not_lt.mpr (Nat.le_succ _))
    exact freshL_sound R k hnone (N' _ (.head _)).1 (of_ints hi) (hq ns' hp hs)
  · obtain ⟨b, rfl, hq⟩ := h
    obtain rfl := hx.bool
    exact call_int_bool (PM.val R.m .mkInt hq _)
  · exact absurd hb (by decide)
  · exact absurd hb (by decide)
  · exact absurd hb (by decide)
  · obtain ⟨i, rfl, ht, hq⟩ := h
    obtain ⟨t, rfl⟩ := hx.int
    exact PySem.P.str_of_int (tiny_log ht) (PM.val R.m .mkStr hq _)
end TD

namespace TD
open PySem PyProof.Rows
section
variable {prog : Program} {w : World} {A : Around} {E : Value → Shared → Prop} {s : Shared}
theorem adjust_to (k n : Nat) (h : k ≤ n) : Builtin.Slice.sliceAdjust none (some (k : Int)) 1 (n : Int) = (0, (k : Int)) := by
  unfold Builtin.Slice.sliceAdjust
  have h1 : ¬ ((1 : Int) < 0) := by walk_at "o"
  have h2 : ¬ ((k : Int) < 0) := by walk_at "o"
  simp only [h1, h2, if_false]
  congr 1
  walk_at "o"
theorem places_to (k : Nat) : Builtin.Slice.slicePlaces 0 (k : Int) 1 = k := by
  unfold Builtin.Slice.slicePlaces
  have h1 : (1 : Int) > 0 := by walk_at "o"
  simp only [h1, if_true, Int.ediv_one]
  split <;> walk_at "o"
theorem sliceApplied_to {sl : Addr} {k n : Nat} {u : Tok} {Q : Int × Int × Nat → Shared → Prop} (hs : s.heap.IsSliceOf sl .none (.int k u) .none) (ha : k ≤ n) (h : Q (0, 1, k) s) :
    wpAny (model prog w) A (Builtin.Slice.sliceApplied (.ref sl) (pure (n : Int))) Q E s := by
  obtain ⟨os, hos, hcs, hds⟩ := id hs
  unfold Builtin.Slice.sliceApplied Builtin.Slice.sliceFields
  refine wpAny_bind (wpAny_bind (wpAny_field hos hds (x := .none) rfl (wpAny_bind (wpAny_field hos hds (x := .int k u) rfl (wpAny_bind (wpAny_field hos hds (x := .none) rfl (wpAny_pure ?_)))))))
  refine wpAny_bind (slicePart_none ?_)
  show wpAny _ _ (if ((1 : Int) == 0) = true then _ else _) _ _ s
  rw [if_neg (by decide)]
  refine wpAny_bind (slicePart_none (wpAny_bind (slicePart_int (wpAny_bind (wpAny_pure ?_)))))
  show wpAny _ _ (match Builtin.Slice.sliceAdjust none (some (k : Int)) 1 (n : Int) with | (lo, hi) => pure (lo, (1 : Int), Builtin.Slice.slicePlaces lo hi 1)) _ _ s
  rw [adjust_to k n ha]
  show wpAny _ _ (pure ((0 : Int), (1 : Int), Builtin.Slice.slicePlaces 0 (k : Int) 1)) _ _ s
  rw [places_to]
  exact wpAny_pure h
theorem pick_to (xs : Array Value) (k : Nat) (hk : k ≤ xs.size) : ((List.range k).filterMap fun (j : Nat) => xs[((0 : Int) + (j : Int) * 1).toNat]?).toArray = (xs.toList.take k).toArray := by
  congr 1
  have e : (fun (j : Nat) => xs[((0 : Int) + (j : Int) * 1).toNat]?) = fun j => xs.toList[j]? := by
    funext j
    have : ((0 : Int) + (j : Int) * 1).toNat = j := by walk_at "o"
    rw [this]; simp
  rw [e]
  have hk' : k ≤ xs.toList.length := by simpa using hk
  generalize xs.toList = l at hk'
  clear e hk xs
  induction k with
  | zero => rfl
  | succ k ih =>
    rw [List.range_succ, List.filterMap_append, ih (by walk_at "o"), List.take_add_one]
    congr 1
theorem getItem_tuple_to {t sl : Addr} {items : Array Value} {k : Nat} {u : Tok} {Q : Value → Shared → Prop} (ht : IsTup s.heap t items) (hs : s.heap.IsSliceOf sl .none (.int k u) .none) (hk : k < items.size)
    (h : Q (.ref s.heap.objs.size) { s with heap := s.heap.push { cls := .type "tuple", data := .seq (items.toList.take k).toArray } })
    (hsz : items.size ≤ sizeLine) : wpAny (model prog w) A (getItem (.ref t) (.ref sl)) Q E s := by
  have hcut : sizeOk (.seq (items.toList.take k).toArray) := by
    show (items.toList.take k).toArray.size ≤ sizeLine
    rw [List.size_toArray, List.length_take, Array.length_toList]
    walk_at "o"
  obtain ⟨os, hos, hcs, hds⟩ := id hs
  have hTs : s.TypeIs (.ref sl) "slice" := ⟨os, hos, hcs⟩
  unfold getItem
  try with_reducible refine wpAny_holding ?_
  first | refine wpAny_bind (wpAny_pure ?_) | skip
  refine wpAny_bind (wpAny_sequenceKey ht.typeIs (by decide) ?_)
  refine wpAny_bind (wpAny_callSpecial?_slot (name := Str.ofString "__getitem__") ht.typeIs slot_tuple_getitem
    (wpAny_call_entry slot_tuple_getitem ht.typeIs entry_tuple_getitem ?_ (args_tuple_getitem _ _)))
  show wpAny _ _ (Builtin.Tuple.tupleItemsOf (.ref t) >>= _) _ _ s
  refine wpAny_bind (tupleItemsOf_ ht ?_)
  refine wpAny_bind (wpAny_typeOf hTs ?_)
  rw [if_pos (by decide)]
  refine wpAny_bind (sliceApplied_to hs (Nat.le_of_lt hk) ?_)
  have hno : ¬ (((0 : Int) == 0 && (1 : Int) == 1 && k == items.size) = true) := by
    have : (k == items.size) = false := by rw [beq_eq_false_iff_ne]; walk_at "o"
    rw [this]; simp
  show wpAny _ _ (if ((0 : Int) == 0 && (1 : Int) == 1 && k == items.size) = true then _ else _) _ _ s
  rw [if_neg hno, pick_to items k (Nat.le_of_lt hk)]
  first
    | exact wpAny_bind (m := Builtin.Tuple.tupleExact _) (wpAny_newObj_type (wpAny_pure ⟨_, rfl, wpAny_pure h⟩) hcut)
    | exact wpAny_bind (m := Builtin.Tuple.tupleExact _) (wpAny_newObj_type (wpAny_bind (wpAny_pure (wpAny_pure ⟨_, rfl, wpAny_pure h⟩))) hcut)
    | exact wpAny_bind (wpAny_bind (m := Builtin.Tuple.tupleExact _) (wpAny_newObj_type (wpAny_pure (wpAny_pure ⟨_, rfl, wpAny_pure h⟩)) hcut))
    | exact wpAny_bind (wpAny_bind (m := Builtin.Tuple.tupleExact _) (wpAny_newObj_type (wpAny_pure ⟨_, rfl, wpAny_pure h⟩) hcut))
end
end TD

namespace TD
open PySem PyProof.Rows
variable {W : Cx} {A : Around} {E : Value → Shared → Prop} {env : Env} {vis : List (Nat × Str)} {loc : Loc} {mem : Mem} {s : Shared} {Q : Val → Mem → Prop}

theorem place_cases {k : Int} {n j : Nat} (h : place k n = some j) : (k = j ∧ j < n) ∨ ∃ p : Nat, k = -((p + 1 : Nat) : Int) ∧ p + 1 ≤ n ∧ j = n - (p + 1) := by
  unfold place at h
  by_cases h0 : 0 ≤ k
  · rw [if_pos h0] at h
    obtain ⟨i, rfl⟩ := Int.eq_ofNat_of_zero_le h0
    by_cases h1 : (i : Int).toNat < n
    · rw [if_pos h1] at h; cases h; exact .inl ⟨rfl, h1⟩
    · rw [if_neg h1] at h; exact no h
  · rw [if_neg h0] at h
    obtain ⟨p, hp⟩ := Int.eq_negSucc_of_lt_zero (Int.not_le.mp h0)
    subst hp
    by_cases h1 : (-(Int.negSucc p)).toNat ≤ n
    · rw [if_pos h1] at h; cases h; exact .inr ⟨p, rfl, h1, rfl⟩
    · rw [if_neg h1] at h; exact no h
theorem place_idx {k : Int} {n j : Nat} (h : place k n = some j) : seqIndex? k n = some j := by
  unfold seqIndex?
  rcases place_cases h with ⟨rfl, h1⟩ | ⟨p, rfl, h1, rfl⟩
  · have h0 : ¬ (j : Int) < 0 := Int.not_lt.mpr (Int.natCast_nonneg j)
    simp only [h0, if_false]
    rw [if_pos (by simp; walk_at "o")]
    rfl
  · have h0 : -((p + 1 : Nat) : Int) < 0 := by walk_at "o"
    simp only [h0, if_true]
    rw [if_pos (by simp; walk_at "o")]
    congr 1; walk_at "o"
theorem place_lt {k : Int} {n j : Nat} (h : place k n = some j) : j < n := by
  rcases place_cases h with ⟨rfl, h1⟩ | ⟨p, rfl, h1, rfl⟩
  · exact h1
  · walk_at "o"
theorem place_fit {k : Int} {n j : Nat} (h : place k n = some j) (hn : n < lid) : -(2 ^ 63) ≤ k ∧ k < 2 ^ 63 := by
  unfold lid at hn
  rcases place_cases h with ⟨rfl, h1⟩ | ⟨p, rfl, h1, rfl⟩ <;> walk_at "o"

theorem subscripted_plain {sl : Expr} (h : notSlice sl = true) (o i : Value) : subscripted sl false o i = operate [o, i] (getItem o i) := by
  cases sl <;> first | rfl | exact nb h

theorem getItem_sound (R : Rel W env vis loc mem s) {v : Val} {o : Value} {k : Int} {u : Tok} {xs : List Val} {j : Nat} {x : Val} (hv : VRel W s.heap v o) (e : seq mem v = some xs) (hp : place k xs.length = some j) (hx : xs[j]? = some x) (hl : xs.length < lid) (hq : Q x mem)
    {value sl : Expr} (hs : notSlice sl = true) : wpAny (model W.prog W.w) A (subscriptTail value sl o (.int k u)) (PM W mem s Q) E s := by
  obtain ⟨a, vs, rfl, h, r⟩ := seq_rel R.m hv e
  obtain ⟨y, hy, ry⟩ := r.get hx
  have hf := place_fit hp hl
  have hlen := r.length
  rcases h with h | h
  · refine tail_any (o := .ref a) h.typeIs slot_list_getitem.lookup ?_ (subscripted_plain hs _ _)
    rcases place_cases hp with ⟨rfl, h1⟩ | ⟨p, rfl, h1, rfl⟩
    · exact wpAny_getItem_list h (Int.natCast_nonneg j) hf.2 (by simpa using hy) (PM.here R.m ry hq)
    · refine wpAny_getItem_list_neg h (by walk_at "o") (by rw [List.size_toArray, hlen]; walk_at "o") hf.1 ?_ (PM.here R.m ry hq)
      rw [List.size_toArray, hlen, show (-((p + 1 : Nat) : Int) + (xs.length : Nat)).toNat = xs.length - (p + 1) by walk_at "o"]
      simpa using hy
  · exact item_tupleT h hf.1 hf.2 (by rw [hlen]; exact place_idx hp) hy (PM.here R.m ry hq) (subscripted_plain hs _ _)

theorem sub_sound (R : Rel W env vis loc mem s) {v i : Val} {o iv : Value} (hv : VRel W s.heap v o) (hi : VRel W s.heap i iv) (h : subW v i Q mem) {value sl : Expr} (hs : notSlice sl = true) :
    wpAny (model W.prog W.w) A (subscriptTail value sl o iv) (PM W mem s Q) E s := by
  obtain ⟨k, xs, j, x, rfl, e, hp, hx, hl, hq⟩ := h
  obtain ⟨u, rfl⟩ := hi.int
  exact getItem_sound R hv e hp hx hl hq hs

noncomputable def partV (up : Bool) (v : Value) : Value := match up with | true => v | false => .none
theorem slice_eval {M : Model} {A' : Around} {E' : Value → Shared → Prop} {s' : Shared} {env' : Env} {up : Bool} {e : Expr} {p : Pos} {P : Value → Shared → Prop}
    (h : wpAny M A' (eval e env') (fun v s2 => P (.ref s2.heap.objs.size) { s2 with heap := s2.heap.push { cls := .type "slice", data := .fields #[partV up v, partV (!up) v, .none] } }) E' s') :
    wpAny M A' (eval (.Slice (partE up e) (partE (!up) e) none p) env') P E' s' := by
  refine wpAny_Slice ?_
  cases up with
  | true => exact wpAny_mono h (fun v s2 h2 => wpAny_pure (wpAny_pure h2)) fun _ _ x => x
  | false => exact wpAny_pure (wpAny_mono h (fun v s2 h2 => wpAny_pure h2) fun _ _ x => x)
theorem VRels.cut {W : Cx} {h : Heap} {xs : List Val} : ∀ {vs : List Value}, VRels W h xs vs → ∀ n, VRels W h (xs.drop n) (vs.drop n) ∧ VRels W h (xs.take n) (vs.take n) := by
  induction xs with
  | nil => intro vs r n; obtain rfl := r.inv0; rw [List.drop_nil, List.drop_nil, List.take_nil, List.take_nil]; exact ⟨.nil, .nil⟩
  | cons x xs ih =>
    intro vs r n
    obtain ⟨y, ys, rfl, a, r⟩ := r.inv
    cases n with
    | zero => exact ⟨.cons a r, .nil⟩
    | succ n => exact ⟨(ih r n).1, .cons a (ih r n).2⟩
theorem clip_at (k : Int) (n : Nat) : clipAt n k = min (clip k n) n := by
  unfold clip
  by_cases h : 0 ≤ k
  · rw [if_pos h]
    obtain ⟨j, rfl⟩ := Int.eq_ofNat_of_zero_le h
    exact clipAt_nat n j
  · rw [if_neg h]
    obtain ⟨p, rfl⟩ := Int.eq_negSucc_of_lt_zero (Int.not_le.mp h)
    rw [show Int.negSucc p = -((p + 1 : Nat) : Int) from rfl, clipAt_neg n (p + 1) (Nat.succ_le_succ (Nat.zero_le p)), Int.neg_neg, Int.toNat_natCast]
    walk_at "o"
theorem pick_cut (vs : List Value) (k : Int) : slicePick vs.toArray (some k) none none = (vs.drop (clip k vs.length)).toArray ∧ slicePick vs.toArray none (some k) none = (vs.take (clip k vs.length)).toArray := by
  constructor
  · rw [slicePick_plain]
    simp only [Option.elim, List.size_toArray, clip_at]
    congr 1
    rcases Nat.le_total (clip k vs.length) vs.length with h | h
    · rw [Nat.min_eq_left h, List.take_of_length_le (by simp)]
    · rw [Nat.min_eq_right h, List.drop_of_length_le (by simp), List.drop_of_length_le h]; simp
  · rw [slicePick_plain]
    simp only [Option.elim, List.size_toArray, clip_at, List.drop_zero, Nat.sub_zero]
    congr 1
    rcases Nat.le_total (clip k vs.length) vs.length with h | h
    · rw [Nat.min_eq_left h]
    · rw [Nat.min_eq_right h, List.take_of_length_le (Nat.le_refl _), List.take_of_length_le h]
theorem slice_sound (R : Rel W env vis loc mem s) {up : Bool} {x y : Val} {xv yv : Value} (hx : VRel W s.heap x xv) (hy : VRel W s.heap y yv) (h : slQ up x y Q mem) {value : Expr} {l u : Option Expr} {p : Pos} :
    wpAny (model W.prog W.w) A (subscriptTail value (.Slice l u none p) xv (.ref s.heap.objs.size)) (PM W mem s Q) E { s with heap := s.heap.push { cls := .type "slice", data := .fields #[partV up yv, partV (!up) yv, .none] } } := by
  rcases h with h | ⟨vs, k, rfl, rfl, rfl, hk, hl, hq⟩
  rotate_left
  · obtain ⟨a, ws, rfl, ht, r⟩ := hx
    obtain ⟨t, rfl⟩ := hy.int
    have hlen := r.length
    have k1 : KeepL env.locals s.heap (s.heap.push { cls := .type "slice", data := .fields #[.none, .int k t, .none] }) := .push _
    have R' : Rel W env vis loc mem { s with heap := s.heap.push { cls := .type "slice", data := .fields #[.none, .int k t, .none] } } := R.step (R.keepM k1) (R.keepS k1)
    have ht' : IsTup (s.heap.push { cls := .type "slice", data := .fields #[.none, .int k t, .none] }) a ws.toArray := ht.keeps fun _ _ e => Heap.get?_push_of_some _ e
    refine tail_any (o := .ref a) ht'.typeIs slot_tuple_getitem.lookup ?_ rfl
    refine getItem_tuple_to ht' (Heap.IsSliceOf.new ..) (by rw [List.size_toArray, hlen]; exact hk) ?_ (by rw [List.size_toArray, hlen]; exact lid_line hl)
    refine PM.trans (s' := { s with heap := s.heap.push { cls := .type "slice", data := .fields #[.none, .int k t, .none] } }) (R.keepS k1) ?_
    have k2 : KeepL env.locals (s.heap.push { cls := .type "slice", data := .fields #[.none, .int k t, .none] }) ((s.heap.push { cls := .type "slice", data := .fields #[.none, .int k t, .none] }).push { cls := .type "tuple", data := .seq (ws.take k).toArray }) := .push _
    have r2 := ((r.keep (R.keepF k1)).cut k).2
    exact PM.kept R' (v := .tup (vs.take k)) k2 (Exists.intro _ ⟨ws.take k, rfl, isTup_new, r2.keep (R'.keepF k2)⟩) hq
  obtain ⟨a, xs, k, rfl, e, rfl, hl, hf⟩ := h
  obtain rfl := hx.ref
  obtain ⟨t, rfl⟩ := hy.int
  obtain ⟨⟨vs, ⟨n, hn⟩, r⟩, _⟩ := R.m.mems a _ e
  have hlen := r.length
  have hL : s.heap.IsList a vs.toArray := ⟨_, hn, rfl, n, rfl⟩
  have k1 : KeepL env.locals s.heap (s.heap.push { cls := .type "slice", data := .fields #[partV up (.int k t), partV (!up) (.int k t), .none] }) := .push _
  have R' : Rel W env vis loc mem { s with heap := s.heap.push { cls := .type "slice", data := .fields #[partV up (.int k t), partV (!up) (.int k t), .none] } } := R.step (R.keepM k1) (R.keepS k1)
  have hsz : vs.toArray.size ≤ sizeLine := by rw [List.size_toArray, hlen]; exact lid_line hl
  have r' := r.keep (R.keepF k1)
  refine tail_any (o := .ref a) (hL.push _).typeIs slot_list_getitem.lookup ?_ rfl
  cases up with
  | true =>
    refine wpAny_getItem_list_slice (hL.push _) (Heap.IsSliceOf.new ..) (.int k t) .none .none (by simp) ?_ hsz
    rw [(pick_cut vs k).1, hlen]
    exact PM.trans (s' := { s with heap := s.heap.push { cls := .type "slice", data := .fields #[.int k t, .none, .none] } }) (R.keepS k1) (freshL_sound R' (.push _) (size_none _) (Heap.get?_push_size _ rfl) (r'.cut _).1 hf)
  | false =>
    refine wpAny_getItem_list_slice (hL.push _) (Heap.IsSliceOf.new ..) .none (.int k t) .none (by simp) ?_ hsz
    rw [(pick_cut vs k).2, hlen]
    exact PM.trans (s' := { s with heap := s.heap.push { cls := .type "slice", data := .fields #[.none, .int k t, .none] } }) (R.keepS k1) (freshL_sound R' (.push _) (size_none _) (Heap.get?_push_size _ rfl) (r'.cut _).2 hf)
theorem mm_sound (R : Rel W env vis loc mem s) {k : Nat} (hr : Room k A) {mx : Bool} {x y : Val} {xv yv : Value} (hx : VRel W s.heap x xv) (hy : VRel W s.heap y yv) (h : mmQ mx x y Q mem) :
    wpAny (model W.prog W.w) A (call (.builtin (mmName mx)) [xv, yv]) (PM W mem s Q) E s := by
  obtain ⟨a, b, rfl, rfl, hq⟩ := h
  obtain ⟨t, rfl⟩ := hx.int
  obtain ⟨u, rfl⟩ := hy.int
  cases mx with
  | true =>
    refine max_two_ints hr.handled fun h' tk hk => ?_
    have k1 : KeepL env.locals s.heap h' := .of_keeps hk
    refine ⟨_, mem, ?_, R.keepM k1, R.keepS k1, hq⟩
    show VRel W h' (.int (if b > a then b else a)) _
    by_cases c : b > a
    · rw [if_pos c, if_pos c]; exact ⟨u, rfl⟩
    · rw [if_neg c, if_neg c]; exact ⟨t, rfl⟩
  | false =>
    refine min_two_ints hr.handled fun h' tk hk => ?_
    have k1 : KeepL env.locals s.heap h' := .of_keeps hk
    refine ⟨_, mem, ?_, R.keepM k1, R.keepS k1, hq⟩
    show VRel W h' (.int (if b < a then b else a)) _
    by_cases c : b < a
    · rw [if_pos c, if_pos c]; exact ⟨u, rfl⟩
    · rw [if_neg c, if_neg c]; exact ⟨t, rfl⟩

theorem getMethod_list (R : Rel W env vis loc mem s) {a : Addr} {xs : List Val} (e : mem a = some (.list xs)) {name : Str} {id : String} {pl : Sem Bool} (slot : Slot "list" name id) (hty : typeOf (.builtin id) = pure (.type "method_descriptor"))
    {P : Value × List Value → Shared → Prop} (h : P (.builtin id, [.ref a]) s) : wpAny (model W.prog W.w) A (getMethod (.ref a) name pl) P E s := by
  obtain ⟨⟨vs, ⟨n, hn⟩, r⟩, _⟩ := R.m.mems a _ e
  exact getMethod_builtin ⟨_, hn, rfl⟩ PySem.F.plainAttrs_list slot hty (fun b q => by cases q; exact ⟨_, hn, rfl⟩) h

theorem append_sound (R : Rel W env vis loc mem s) {a : Addr} {xs : List Val} {y : Val} {yv : Value} (e : mem a = some (.list xs)) (hl : xs.length < lid) (hy : VRel W s.heap y yv) (hq : Q .none (mem.set a (.list (xs ++ [y])))) :
    wpAny (model W.prog W.w) A (call (.builtin "list.append") [.ref a, yv]) (PM W mem s Q) E s := by
  obtain ⟨⟨vs, hn, r⟩, _⟩ := R.m.mems a _ e
  refine wpAny_list_append_plain hn (fun h' hl' hs' => ?_) (by rw [List.size_toArray, r.length]; exact lid_line hl)
  have hp : h'.PlainList a (vs ++ [yv]).toArray := by simpa using hl'
  refine ⟨.none, _, .mkNone, R.m.upd (s' := { s with heap := h' }) (o := .list (xs ++ [y])) e hs' (fun kf => ⟨vs ++ [yv], hp, (VRels.append (.cons hy .nil) r).keep kf⟩), Step.upd e hs' ?_, hq⟩
  obtain ⟨n, hn'⟩ := hp; rw [hn']; simp

theorem turned (R : Rel W env vis loc mem s) {a : Addr} {xs ys : List Val} {vs ws : List Value} {n : Nat} {v : Val} {y : Value} (f : Array Value → Array Value) (e : mem a = some (.list xs))
    (hn : s.heap.get? a = some { cls := .type "list", data := .seq vs.toArray n }) (he : f vs.toArray = ws.toArray) (hr : VRels W s.heap ys ws) (hv : VRel W s.heap v y) (hq : Q v (mem.set a (.list ys))) :
    PM W mem s Q y { s with heap := s.heap.update a (Obj.mapSeq f) } := by
  have q : ∃ n', (s.heap.update a (Obj.mapSeq f)).get? a = some { cls := .type "list", data := .seq ws.toArray n' } := by
    have := Heap.get?_update_self (Obj.mapSeq f) hn (by simp [Obj.mapSeq, Obj.isFreed])
    refine ⟨if ws.toArray.size == vs.toArray.size then n else n + 1, this.trans ?_⟩
    simp only [Obj.mapSeq, he]
  obtain ⟨n', q⟩ := q
  have hs : Heap.SameBut a s.heap (s.heap.update a (Obj.mapSeq f)) := Heap.SameBut.update ..
  have M := R.m.upd (s' := { s with heap := s.heap.update a (Obj.mapSeq f) }) (o := .list ys) e hs (fun kf => ⟨ws, ⟨n', q⟩, hr.keep kf⟩)
  have S : Step NoD mem s.heap (mem.set a (.list ys)) (s.heap.update a (Obj.mapSeq f)) := Step.upd e hs (by rw [q]; simp)
  exact ⟨v, _, hv.keep (S.keepF R.m.mems .none), M, S, hq⟩

theorem VRels.set {h : Heap} {v : Val} {y : Value} (hv : VRel W h v y) {xs : List Val} : ∀ {vs : List Value} (j : Nat), VRels W h xs vs → VRels W h (xs.set j v) (vs.set j y) := by
  induction xs with
  | nil => intro vs j r; obtain rfl := r.inv0; exact r
  | cons x xs ih =>
    intro vs j r
    obtain ⟨z, ys, rfl, a, q⟩ := r.inv
    cases j with
    | zero => exact VRels.cons hv q
    | succ j => exact VRels.cons a (ih j q)
theorem VRels.eraseIdx {h : Heap} {xs : List Val} : ∀ {vs : List Value} (j : Nat), VRels W h xs vs → VRels W h (xs.eraseIdx j) (vs.eraseIdx j) := by
  induction xs with
  | nil => intro vs j r; obtain rfl := r.inv0; exact r
  | cons x xs ih =>
    intro vs j r
    obtain ⟨y, ys, rfl, a, q⟩ := r.inv
    cases j with
    | zero => exact q
    | succ j => exact VRels.cons a (ih j q)

theorem fitsIdx {k : Int} (h : -(2 ^ 63) ≤ k ∧ k < 2 ^ 63) : Builtin.List.listFitsIndex k = true := by
  by_cases h0 : k < 0
  · exact fitsIndex_neg h0 h.1
  · simp [Builtin.List.listFitsIndex]; walk_at "o"

theorem pop_sound (R : Rel W env vis loc mem s) {a : Addr} {xs : List Val} {k : Int} {u : Tok} {j : Nat} {y : Val} (e : mem a = some (.list xs)) (hl : xs.length < lid) (hp : place k xs.length = some j) (hy : xs[j]? = some y) (hq : Q y (mem.set a (.list (xs.eraseIdx j)))) :
    wpAny (model W.prog W.w) A (call (.builtin "list.pop") [.ref a, .int k u]) (PM W mem s Q) E s := by
  obtain ⟨⟨vs, ⟨n, hn⟩, r⟩, _⟩ := R.m.mems a _ e
  obtain ⟨z, hz, rz⟩ := r.get hy
  refine call_meets PySem.F.slot_list_pop ⟨_, hn, rfl⟩ PySem.F.entry_list_pop (PySem.F.args_list_pop_2 _ _) (PySem.MeetsSeq.list_pop_at a _ n k u j z (fitsIdx (place_fit hp hl)) (by rw [List.size_toArray, r.length]; exact place_idx hp) (by simpa using hz) (by rw [List.size_toArray, r.length]; exact lid_line hl)) ⟨hn, ?_⟩
  refine turned R _ e hn (ws := vs.eraseIdx j) ?_ (r.eraseIdx j) rz hq
  have hj : j < vs.length := by rw [r.length]; exact place_lt hp
  simp [Array.eraseIdxIfInBounds, hj]
theorem pop0_sound (R : Rel W env vis loc mem s) {a : Addr} {xs : List Val} {j : Nat} {y : Val} (e : mem a = some (.list xs)) (hl : xs.length < lid) (hp : place (-1) xs.length = some j) (hy : xs[j]? = some y) (hq : Q y (mem.set a (.list (xs.eraseIdx j)))) :
    wpAny (model W.prog W.w) A (call (.builtin "list.pop") [.ref a]) (PM W mem s Q) E s := by
  obtain ⟨⟨vs, ⟨n, hn⟩, r⟩, _⟩ := R.m.mems a _ e
  obtain ⟨z, hz, rz⟩ := r.get hy
  have hj : j = vs.length - 1 := by
    rcases place_cases hp with ⟨h1, _⟩ | ⟨p, h1, _, rfl⟩
    · walk_at "o"
    · obtain rfl : p = 0 := by walk_at "o"
      rw [r.length]
  have hj2 : j < vs.length := by rw [r.length]; exact place_lt hp
  refine call_meets PySem.F.slot_list_pop ⟨_, hn, rfl⟩ PySem.F.entry_list_pop (PySem.F.args_list_pop_1 _) (PySem.MeetsSeq.list_pop_last a _ n z (by rw [List.size_toArray, ← hj]; simpa using hz) (by rw [List.size_toArray, r.length]; exact lid_line hl)) ⟨hn, ?_⟩
  refine turned R _ e hn (ws := vs.eraseIdx j) ?_ (r.eraseIdx j) rz hq
  simp only [List.size_toArray, ← hj]
  simp [Array.eraseIdxIfInBounds, hj2]
theorem clear_sound (R : Rel W env vis loc mem s) {a : Addr} {xs : List Val} (e : mem a = some (.list xs)) (hl : xs.length < lid) (hq : Q .none (mem.set a (.list []))) :
    wpAny (model W.prog W.w) A (call (.builtin "list.clear") [.ref a]) (PM W mem s Q) E s := by
  obtain ⟨⟨vs, ⟨n, hn⟩, r⟩, _⟩ := R.m.mems a _ e
  refine call_meets PySem.F.slot_list_clear ⟨_, hn, rfl⟩ PySem.F.entry_list_clear (PySem.F.args_list_clear_1 _) (PySem.AutoSeq1.list_clear_list_0 a _ n (by rw [List.size_toArray, r.length]; exact lid_line hl)) ⟨hn, ?_⟩
  exact turned R (fun _ => #[]) e hn (ws := []) rfl .nil .mkNone hq
theorem mem_plain (M : MRel W mem s) {a : Addr} {xs : List Val} (e : mem a = some (.list xs)) : ∃ vs n, s.heap.get? a = some { cls := .type "list", data := .seq (List.toArray vs) n } ∧ VRels W s.heap xs vs := by
  obtain ⟨⟨vs, ⟨n, hn⟩, r⟩, _⟩ := M.mems a _ e
  exact ⟨vs, n, hn, r⟩
theorem extend_sound (R : Rel W env vis loc mem s) {a b : Addr} {xs ys : List Val} (e : mem a = some (.list xs)) (eb : mem b = some (.list ys)) (hl : xs.length + ys.length < lid) (hq : Q .none (mem.set a (.list (xs ++ ys)))) :
    wpAny (model W.prog W.w) A (call (.builtin "list.extend") [.ref a, .ref b]) (PM W mem s Q) E s := by
  obtain ⟨vs, n, hn, r⟩ := mem_plain R.m e
  obtain ⟨ws, n2, hb, rb⟩ := mem_plain R.m eb
  have h1 := r.length; have h2 := rb.length
  have hsz := lid_line hl
  refine call_meets PySem.F.slot_list_extend ⟨_, hn, rfl⟩ PySem.F.entry_list_extend (PySem.F.args_list_extend_2 _ _) (PySem.AutoSeq1.list_extend_list_list_0 a _ n b _ n2 ?_ (by rw [List.size_toArray, h1]; exact lid_line (by walk_at "o")) (by rw [List.size_toArray, List.size_toArray, h1, h2]; walk_at "o")) ⟨hn, hb, ?_⟩
  · simp only [List.size_toArray, h1, h2, Builtin.List.listTooLong]
    unfold lid at hl
    simp [sizeLine]; walk_at "o"
  · exact turned R _ e hn (ws := vs ++ ws) (by simp) (rb.append r) .mkNone hq

set_option maxRecDepth 100000 in
theorem setitem_pos (R : Rel W env vis loc mem s) {a : Addr} {xs : List Val} {k : Int} {u : Tok} {y : Val} {yv : Value} {K : Mem → Prop} (e : mem a = some (.list xs)) (hl : xs.length < lid) (h0 : 0 ≤ k) (hk : k.toNat < xs.length) (hy : VRel W s.heap y yv) (hq : K (mem.set a (.list (xs.set k.toNat y)))) :
    wpAny (model W.prog W.w) A (setItem (.ref a) (.int k u) yv) (fun _ s' => PM W mem s (fun _ m' => K m') .none s') E s := by
  obtain ⟨vs, n, hn, r⟩ := mem_plain R.m e
  have hlen := r.length
  unfold lid at hl
  have ht : s.TypeIs (.ref a) "list" := ⟨_, hn, rfl⟩
  have hfit : Builtin.List.listFitsIndex k = true := fitsIndex_of h0 (by walk_at "o")
  unfold setItem
  refine wpAny_holding (wpAny_bind (wpAny_sequenceKey ht (by decide) ?_))
  refine wpAny_bind (wpAny_callSpecial?_slot (name := Str.ofString "__setitem__") ht slot_list_setitem
    (wpAny_call_entry slot_list_setitem ht entry_list_setitem ?_ (args_list_setitem _ _ _)))
  show wpAny _ _ (Builtin.List.listSubscript? (.int k u) >>= _) _ _ s
  refine wpAny_bind (wpAny_listSubscript_int hfit ?_)
  clear hfit
  obtain ⟨j, rfl⟩ := Int.eq_ofNat_of_zero_le h0
  have hj : j < vs.length := by walk_at "o"
  have hat : (vs.toArray)[j]? = some vs[j] := by rw [List.getElem?_toArray]; exact List.getElem?_eq_getElem hj
  show wpAny _ _ ((seqItemAt a j >>= fun r => pure (r.map (j, ·))) >>= _) _ _ s
  refine wpAny_bind (wpAny_bind (wpAny_seqItemAt hn rfl (wpAny_pure ?_)))
  rw [hat]
  show wpAny _ _ (setSeqItemAt a j yv >>= _) _ _ s
  refine wpAny_bind (wpAny_setSeqItemAt hn rfl ?_)
  refine wpAny_pure ⟨.none, rfl, wpAny_pure ?_⟩
  refine turned R _ e hn (ws := vs.set j yv) (by simp) (VRels.set hy j r) .mkNone hq
theorem setitem_neg (R : Rel W env vis loc mem s) {a : Addr} {xs : List Val} {k : Int} {u : Tok} {y : Val} {yv : Value} {K : Mem → Prop} (e : mem a = some (.list xs)) (hl : xs.length < lid) (h0 : k < 0) (h1 : -(xs.length : Int) ≤ k) (hy : VRel W s.heap y yv) (hq : K (mem.set a (.list (xs.set (k + xs.length).toNat y)))) :
    wpAny (model W.prog W.w) A (setItem (.ref a) (.int k u) yv) (fun _ s' => PM W mem s (fun _ m' => K m') .none s') E s := by
  obtain ⟨vs, n, hn, r⟩ := mem_plain R.m e
  have hlen := r.length
  unfold lid at hl
  have ht : s.TypeIs (.ref a) "list" := ⟨_, hn, rfl⟩
  unfold setItem
  refine wpAny_holding (wpAny_bind (wpAny_sequenceKey ht (by decide) ?_))
  refine wpAny_bind (wpAny_callSpecial?_slot (name := Str.ofString "__setitem__") ht slot_list_setitem
    (wpAny_call_entry slot_list_setitem ht entry_list_setitem ?_ (args_list_setitem _ _ _)))
  show wpAny _ _ (Builtin.List.listSubscript? (.int k u) >>= _) _ _ s
  refine wpAny_bind (wpAny_listSubscript_int (fitsIndex_neg h0 (by walk_at "o")) ?_)
  have hidx := seqIndex_neg (n := vs.length) h0 (by walk_at "o")
  have hj : (k + vs.length).toNat < vs.length := by walk_at "o"
  have hjj : (k + (xs.length : Int)).toNat = (k + vs.length).toNat := by walk_at "o"
  rw [hjj] at hq
  generalize (k + (vs.length : Int)).toNat = j at hidx hj hq
  obtain ⟨q, rfl⟩ : ∃ j : Nat, k = Int.negSucc j := by
    cases k with
    | ofNat n => exact absurd h0 (Int.not_lt.mpr (Int.natCast_nonneg n))
    | negSucc n => exact ⟨n, rfl⟩
  have hat : (vs.toArray)[j]? = some vs[j] := by rw [List.getElem?_toArray]; exact List.getElem?_eq_getElem hj
  show wpAny _ _ ((Builtin.List.listItems (.ref a) >>= fun xs => pure ((seqIndex? (Int.negSucc q) xs.size).bind fun i => xs[i]?.map (i, ·))) >>= _) _ _ s
  refine wpAny_bind (wpAny_bind ?_)
  show wpAny _ _ (seqItems? (.ref a) >>= _) _ _ s
  refine wpAny_bind (wpAny_seqItems hn rfl (wpAny_pure (wpAny_pure ?_)))
  have hsz : (vs.toArray).size = vs.length := List.size_toArray ..
  simp only [Option.getD_some, hsz, hidx, Option.bind_some, hat, Option.map_some]
  refine wpAny_bind (wpAny_setSeqItemAt hn rfl ?_)
  refine wpAny_pure ⟨.none, rfl, wpAny_pure ?_⟩
  refine turned R _ e hn (ws := vs.set j yv) (by simp) (VRels.set hy j r) .mkNone hq
theorem setitem_sound (R : Rel W env vis loc mem s) {a : Addr} {xs : List Val} {k : Int} {u : Tok} {j : Nat} {y : Val} {yv : Value} {K : Mem → Prop} (e : mem a = some (.list xs)) (hl : xs.length < lid) (hp : place k xs.length = some j) (hy : VRel W s.heap y yv) (hq : K (mem.set a (.list (xs.set j y)))) :
    wpAny (model W.prog W.w) A (setItem (.ref a) (.int k u) yv) (fun _ s' => PM W mem s (fun _ m' => K m') .none s') E s := by
  rcases place_cases hp with ⟨rfl, hj⟩ | ⟨p, rfl, hp', rfl⟩
  · exact setitem_pos R e hl (Int.natCast_nonneg j) (by simpa using hj) hy hq
  · refine setitem_neg R e hl (by walk_at "o") (by walk_at "o") hy ?_
    have : (-((p + 1 : Nat) : Int) + (xs.length : Int)).toNat = xs.length - (p + 1) := by walk_at "o"
    rw [this]; exact hq
theorem idxOf_ne {i : Int} (is : List Int) : ∀ {m : Nat}, m < is.idxOf i → (hm : m < is.length) → is[m] ≠ i := by
  induction is with
  | nil => intro m _ hm; exact absurd hm (Nat.not_lt_zero _)
  | cons a r ih =>
    intro m h hm
    rw [List.idxOf_cons] at h
    cases q : a == i with
    | true => rw [q] at h; exact absurd h (Nat.not_lt_zero _)
    | false =>
      rw [q] at h
      cases m with
      | zero => exact ne_of_beq_false q
      | succ m => exact ih (Nat.lt_of_succ_lt_succ h) (Nat.lt_of_succ_lt_succ hm)
theorem index_sound (R : Rel W env vis loc mem s) {a : Addr} {is : List Int} {i : Int} {u : Tok} (e : mem a = some (.list (is.map .int))) (hi : i ∈ is) (hl : is.length < lid) (hq : Q (.int (is.idxOf i : Nat)) mem) :
    wpAny (model W.prog W.w) A (call (.builtin "list.index") [.ref a, .int i u]) (PM W mem s Q) E s := by
  obtain ⟨vs, n, hn, r⟩ := mem_plain R.m e
  have hlen := r.length
  rw [List.length_map] at hlen
  have hj : is.idxOf i < is.length := List.idxOf_lt_length_of_mem hi
  have at' : ∀ m (hm : m < vs.length), ∃ t, vs[m] = .int (is[m]'(hlen ▸ hm)) t := fun m hm => by
    obtain ⟨y, hy, ry⟩ := r.get (i := m) (v := .int (is[m]'(hlen ▸ hm))) (by rw [List.getElem?_map, List.getElem?_eq_getElem (hlen ▸ hm)]; rfl)
    obtain ⟨t, rfl⟩ := ry.int
    rw [List.getElem?_eq_getElem hm] at hy
    exact ⟨t, Option.some.inj hy⟩
  let f : Value → Bool := fun y => match y with | .int b _ => b == i | _ => false
  refine call_meets PySem.F.slot_list_index ⟨_, hn, rfl⟩ PySem.F.entry_list_index (PySem.F.args_list_index_2 _ _) (PySem.MeetsSeq.list_index a vs.toArray n (.int i u) f (fun y hy => ?_) (is.idxOf i) (by rw [List.size_toArray, hlen]; exact hj) (by unfold lid at hl; walk_at "o") ?_ fun m hm hmj => ?_) ⟨hn, PM.val R.m .mkInt hq _⟩
  · obtain ⟨m, hm, rfl⟩ := List.getElem_of_mem (List.mem_toArray.mp hy)
    obtain ⟨t, q⟩ := at' m hm
    rw [q]
    exact PySem.MeetsSeq.EqGives.int _ _ _ _
  · obtain ⟨t, q⟩ := at' (is.idxOf i) (hlen.symm ▸ hj)
    show f vs[is.idxOf i] = true
    rw [q]
    exact beq_iff_eq.mpr (List.getElem_idxOf hj)
  · rw [List.size_toArray] at hm
    obtain ⟨t, q⟩ := at' m hm
    show f vs[m] = false
    rw [q]
    exact beq_false_of_ne (idxOf_ne is hmj (hlen ▸ hm))

theorem cls5 {P : Cls → Prop} (h1 : P .int) (h2 : P .bool) (h3 : P .list) (h4 : P .tuple) (h5 : P .str) {c : Cls} (hc : c.code < 5) : P c := by
  cases c <;> first | assumption | exact absurd hc (by decide)
theorem isinst_sound (R : Rel W env vis loc mem s) {x : Val} {a : Value} {c : Cls} (hc : c.code < 5) (hx : VRel W s.heap x a) {b : Bool} (h : isA mem x c = some b) (hq : Q (.bool b) mem) :
    wpAny (model W.prog W.w) A (call (.builtin "isinstance") [a, .type c.name]) (PM W mem s Q) E s := by
  have hk : ∀ tk, PM W mem s Q (.bool b) { s with toks := tk } := fun tk => PM.val R.m .mkBool hq tk
  revert hk
  clear hq
  revert h
  cases x with
  | none =>
    obtain rfl := hx.none'
    refine cls5 (P := fun c => isA mem .none c = some b → _ → wpAny (model W.prog W.w) A (call (.builtin "isinstance") [.none, .type c.name]) (PM W mem s Q) E s) ?_ ?_ ?_ ?_ ?_ hc
    all_goals (intro h hk; cases h)
    · exact IsiPair.NoneType_int (hk _)
    · exact IsiPair.NoneType_bool (hk _)
    · exact IsiPair.NoneType_list (hk _)
    · exact IsiPair.NoneType_tuple (hk _)
    · exact IsiPair.NoneType_str (hk _)
  | bool i =>
    obtain rfl := hx.bool
    refine cls5 (P := fun c => isA mem (.bool i) c = some b → _ → wpAny (model W.prog W.w) A (call (.builtin "isinstance") [.bool i, .type c.name]) (PM W mem s Q) E s) ?_ ?_ ?_ ?_ ?_ hc
    all_goals (intro h hk; cases h)
    · exact IsiPair.bool_int (hk s.toks)
    · exact IsiPair.bool_bool (hk s.toks)
    · exact IsiPair.bool_list (hk _)
    · exact IsiPair.bool_tuple (hk _)
    · exact IsiPair.bool_str (hk _)
  | int i =>
    obtain ⟨t, rfl⟩ := hx.int
    refine cls5 (P := fun c => isA mem (.int i) c = some b → _ → wpAny (model W.prog W.w) A (call (.builtin "isinstance") [.int i t, .type c.name]) (PM W mem s Q) E s) ?_ ?_ ?_ ?_ ?_ hc
    all_goals (intro h hk; cases h)
    · exact IsiPair.int_int (hk s.toks)
    · exact IsiPair.int_bool (hk _)
    · exact IsiPair.int_list (hk _)
    · exact IsiPair.int_tuple (hk _)
    · exact IsiPair.int_str (hk _)
  | tup vs =>
    obtain ⟨d, ws, rfl, ⟨o, ho, hcl, _⟩, _⟩ := hx
    refine cls5 (P := fun c => isA mem (.tup vs) c = some b → _ → wpAny (model W.prog W.w) A (call (.builtin "isinstance") [.ref d, .type c.name]) (PM W mem s Q) E s) ?_ ?_ ?_ ?_ ?_ hc
    all_goals (intro h hk; cases h)
    · exact IsiPair.tuple_int ho hcl (hk _)
    · exact IsiPair.tuple_bool ho hcl (hk _)
    · exact IsiPair.tuple_list ho hcl (hk _)
    · exact IsiPair.tuple_tuple ho hcl (hk s.toks)
    · exact IsiPair.tuple_str ho hcl (hk _)
  | ref d =>
    obtain rfl := hx.ref
    intro h
    have h : (mem d).bind (fun o => o.isA c.code) = some b := h
    obtain ⟨o, q, h⟩ := Option.bind_eq_some_iff.mp h
    cases o with
    | dict0 =>
      obtain rfl : false = b := Option.some.inj h
      obtain ⟨⟨o, es, n, hn, hcl, _⟩, _⟩ := R.m.mems d _ q
      refine cls5 (P := fun c => (∀ tk, PM W mem s Q (.bool false) { s with toks := tk }) → wpAny (model W.prog W.w) A (call (.builtin "isinstance") [.ref d, .type c.name]) (PM W mem s Q) E s) ?_ ?_ ?_ ?_ ?_ hc
      all_goals intro hk
      · exact IsiPair.dict_int hn hcl (hk _)
      · exact IsiPair.dict_bool hn hcl (hk _)
      · exact IsiPair.dict_list hn hcl (hk _)
      · exact IsiPair.dict_tuple hn hcl (hk _)
      · exact IsiPair.dict_str hn hcl (hk _)
    | list xs =>
    obtain rfl : (c.code == 2) = b := Option.some.inj h
    clear h
    obtain ⟨vs, n, hn, _⟩ := mem_plain R.m q
    refine cls5 (P := fun c => (∀ tk, PM W mem s Q (.bool (c.code == 2)) { s with toks := tk }) → wpAny (model W.prog W.w) A (call (.builtin "isinstance") [.ref d, .type c.name]) (PM W mem s Q) E s) ?_ ?_ ?_ ?_ ?_ hc
    all_goals intro hk
    · exact IsiPair.list_int hn rfl (hk _)
    · exact IsiPair.list_bool hn rfl (hk _)
    · exact IsiPair.list_list hn rfl (hk s.toks)
    · exact IsiPair.list_tuple hn rfl (hk _)
    · exact IsiPair.list_str hn rfl (hk _)
  | frz _ => intro h; exact no h
  | str i =>
    obtain ⟨t, rfl⟩ := hx.str
    refine cls5 (P := fun c => isA mem (.str i) c = some b → _ → wpAny (model W.prog W.w) A (call (.builtin "isinstance") [.str i t, .type c.name]) (PM W mem s Q) E s) ?_ ?_ ?_ ?_ ?_ hc
    all_goals (intro h hk; cases h)
    · exact IsiPair.str_int (hk _)
    · exact IsiPair.str_bool (hk _)
    · exact IsiPair.str_list (hk _)
    · exact IsiPair.str_tuple (hk _)
    · exact IsiPair.str_str (hk s.toks)

theorem small_range {n : Int} (h : 0 ≤ n ∧ n < lid) : Builtin.Range.small 0 n 1 = true ∧ Builtin.Range.rangeSize 0 n 1 = ((n.toNat : Nat) : Int) := by
  unfold lid at h
  have e : Builtin.Range.rangeSize 0 n 1 = ((n.toNat : Nat) : Int) := by
    unfold Builtin.Range.rangeSize
    simp
    walk_at "o"
  refine ⟨?_, e⟩
  unfold Builtin.Range.small
  rw [e]
  simp [Builtin.Range.rangeFitsLong]
  walk_at "o"

theorem lrange_sound (R : Rel W env vis loc mem s) {k : Nat} (hr : Room k A) {n : Int} {t : Tok} (hl : 0 ≤ n ∧ n < lid) (h : freshL mem (rangeV n) Q) :
    wpAny (model W.prog W.w) A (call (.type "range") [.int n t]) (fun r s' => wpAny (model W.prog W.w) A (call (.type "list") [r]) (PM W mem s Q) E s') E s := by
  refine call_range_1 ?_
  have hn' := small_range hl
  have k1 : KeepL env.locals s.heap (s.heap.push { cls := .type "range", data := .fields #[.int 0 s.toks, .int n t, .int 1 (s.toks + 1)] }) := .push _
  have R' : Rel W env vis loc mem { s with heap := s.heap.push { cls := .type "range", data := .fields #[.int 0 s.toks, .int n t, .int 1 (s.toks + 1)] }, toks := s.toks + 1 + 1 } := R.step (R.keepM k1) (R.keepS k1)
  obtain ⟨m, hn⟩ := R'.hasNs
  obtain ⟨F, N⟩ := fr_all hn
  refine list_rangeD hr.handled F N (IsRange.new ..) hn'.1 hn'.2 (by unfold lid at hl; walk_at "o") fun h' tk ys F' N' hk _ hl' hp hc => ?_
  have k2 := KeepL.of_fr hn F' N' fun p hp => hp
  obtain ⟨⟨c', hc'⟩, _⟩ := hp
  refine PM.trans (s' := { s with heap := s.heap.push { cls := .type "range", data := .fields #[.int 0 s.toks, .int n t, .int 1 (s.toks + 1)] }, toks := s.toks + 1 + 1 }) (R.keepS k1) ?_
  refine freshL_sound R' k2 (size_none _) hc' ?_ h
  have := range_ints (W := W) (h := s.heap.push { cls := .type "range", data := .fields #[.int 0 s.toks, .int n t, .int 1 (s.toks + 1)] }) n.toNat hc
  have e : rangeV (n.toNat : Nat) = rangeV n := by unfold rangeV; rw [Int.toNat_natCast]
  rw [e] at this; exact this

end TD

namespace TD
open PySem PyProof.Rows

theorem rev_len : typeLookup (.type "list_reverseiterator") "__len__" = pure none := by rw [typeLookup_type, builtinLookup_eq_fast]; kernel_rfl
theorem rev_hint : typeLookup (.type "list_reverseiterator") "__length_hint__" = pure (some (.builtin "list_reverseiterator.__length_hint__")) := by rw [typeLookup_type, builtinLookup_eq_fast]; kernel_rfl
theorem rev_self : isSubtype (.type "list_reverseiterator") (.type "list_reverseiterator") = pure true := by rw [isSubtype_type]; kernel_rfl

section
variable {prog : Program} {w : World} {A : Around} {E : Value → Shared → Prop} {s : Shared} {R : Result → Shared → Prop}

theorem rev_silent {I l : Addr} {i : Int} (hit : s.heap.IsRevIter I l i) {Q : Bool → Shared → Prop} (h : Q false s) : wpAny (model prog w) A (Builtin.List.listLengthHint (.ref I)) Q E s := by
  unfold Builtin.List.listLengthHint
  refine wpAny_bind (wpAny_specialOf hit.typeIs rev_len ?_)
  show wpAny _ A (specialOf (Value.ref I) (Str.ofString "__length_hint__") >>= _) _ _ _
  refine wpAny_bind (wpAny_specialOf hit.typeIs rev_hint ?_)
  generalize hid : ("list_reverseiterator.__length_hint__" : String) = id0
  wp_delta
  rw [show splitId id0 = some ("list_reverseiterator", "__length_hint__") from by subst hid; decide +kernel]
  subst hid
  refine wpAny_bind (wpAny_isInstance (T := "list_reverseiterator") (b := true) hit.typeIs rev_self ?_)
  refine wpAny_ite_split (fun hab => absurd hab (by decide)) (fun _ => ?_)
  refine wpAny_ite_split (fun _ => ?_) (fun hab => absurd (show _ = true by kernel_rfl) hab)
  refine wpAny_ite_split (fun hab => absurd hab (by decide +kernel)) (fun _ => wpAny_pure h)
theorem list_rev {I l : Addr} {items : Array Value} (hh : A.handled = none) (hne : l ≠ I) (hit : s.heap.IsRevIter I l ((items.size : Int) - 1)) (hl : s.heap.IsList l items) (hn : items.size ≤ sizeLine) {Q : Value → Shared → Prop}
    (hQ : ∀ h' tk acc' c', (∀ b o, b ≠ I → s.heap.get? b = some o → h'.get? b = some o) → h'.get? s.heap.objs.size = some { cls := .type "list", dict := none, data := .seq acc' c', slots := #[] } →
      ItemsOf (fun i v => items[items.size - 1 - i]? = some v) acc' items.size → Q (.ref s.heap.objs.size) { s with heap := h', toks := tk }) : wpAny (model prog w) A (call (.type "list") [.ref I]) Q E s := by
  have lt : ∀ {b : Addr} {o : Obj}, s.heap.get? b = some o → b ≠ s.heap.objs.size := fun e => Nat.ne_of_lt (Heap.lt_size e)
  have hIl : I ≠ s.heap.objs.size := by obtain ⟨o, e, _⟩ := hit; exact lt e
  have hll : l ≠ s.heap.objs.size := by obtain ⟨o, e, _⟩ := hl; exact lt e
  have WK := (Walks.listRev (prog := prog) (w := w) (A := A.in1.in1) hh I l hne items).toS
  have hfp : s.heap.objs.size ∉ [I, l] := fun q => by
    rcases List.mem_cons.mp q with q | q
    · exact hIl q.symm
    · exact hll (List.mem_singleton.mp q).symm
  refine callType_codes (Q₁ := fun obj s₁ => obj = .ref s.heap.objs.size ∧ s₁ = { s with heap := s.heap.push { cls := .type "list", data := .seq #[] } }) F.called_list (F.typeCall_list_1 _) F.entry_list_init (code_list_new _ ⟨rfl, rfl⟩) fun obj s₁ h₁ => ?_
  obtain ⟨rfl, rfl⟩ := h₁
  have hS : (s.heap.push { cls := .type "list", data := .seq #[] }).get? s.heap.objs.size = some { cls := .type "list", data := .seq #[] } := Heap.get?_push_size _ rfl
  refine ⟨⟨_, hS, rfl⟩, F.args_list_init_2 _ _, ?_⟩
  generalize hS0 : s.heap.objs.size = S at hS hfp hIl hll hQ ⊢
  have k0 : ∀ b o, s.heap.get? b = some o → (s.heap.push { cls := .type "list", data := .seq #[] }).get? b = some o := fun b o e => Heap.get?_push_of_some _ e
  generalize s.heap.push { cls := .type "list", data := .seq #[] } = h0 at hS k0
  show wpAny _ A.in1.in1 (do let old ← Builtin.List.listItems (.ref S); Builtin.List.listUpdate (.ref S) (fun _ => #[]); letGo old.toList.reverse; Builtin.List.listExtendWith (.ref S) (.ref I) .none) _ _ _
  refine wpAny_bind ?_
  unfold Builtin.List.listItems
  refine wpAny_bind (wpAny_seqItems hS rfl (wpAny_pure ?_))
  show wpAny _ A.in1.in1 (updateSeq S (fun _ => #[]) >>= fun _ => letGo (#[] : Array Value).toList.reverse >>= fun _ => Builtin.List.listExtendWith (.ref S) (.ref I) .none) _ _ _
  refine wpAny_bind (wpAny_updateSeq hS rfl ?_)
  have hS2 := Heap.get?_update_self (Obj.mapSeq (fun _ => (#[] : Array Value))) hS rfl
  have k2 : ∀ b o, b ≠ S → s.heap.get? b = some o → (h0.update S (Obj.mapSeq (fun _ => (#[] : Array Value)))).get? b = some o := fun b o hb e => (Heap.get?_update_other _ _ (Ne.symm hb)).trans (k0 b o e)
  refine wpAny_bind (wpAny_letGo ?_)
  have hit2 : (h0.update S (Obj.mapSeq (fun _ => (#[] : Array Value)))).IsRevIter I l ((items.size : Int) - 1) := hit.at fun o e => k2 I o hIl e
  have hl2 : (h0.update S (Obj.mapSeq (fun _ => (#[] : Array Value)))).IsList l items := hl.at fun o e => k2 l o hll e
  generalize h0.update S (Obj.mapSeq (fun _ => (#[] : Array Value))) = h2 at hS2 k2 hit2 hl2
  unfold Builtin.List.listExtendWith
  refine wpAny_bind (wpAny_typeOf (T := "list_reverseiterator") hit2.typeIs ?_)
  have h1 : Builtin.List.listSameRef (.ref S) (.ref I) = false := by simp [Builtin.List.listSameRef, Ne.symm hIl]
  simp only [h1, show (Value.type "list_reverseiterator" == Value.type "list") = false by decide, show (Value.type "list_reverseiterator" == Value.type "tuple") = false by decide, Bool.or_false, Bool.false_eq_true, if_false]
  have st0 : (0 : Nat) ≤ items.size ∧ h2.IsRevIter I l ((items.size : Int) - 1 - ((0 : Nat) : Int)) ∧ h2.IsList l items := ⟨Nat.zero_le _, by rw [show (items.size : Int) - 1 - ((0 : Nat) : Int) = (items.size : Int) - 1 by walk_at "o"]; exact hit2, hl2⟩
  refine wpAny_bind (WK.self 0 _ _ _ st0 ?_)
  refine wpAny_bind (wpAny_holding (rev_silent hit2 ?_))
  refine wpAny_ite_split (fun q => absurd q (by decide)) fun _ => ?_
  refine wpAny_pure ⟨plainId_quiet F.plain_extend_loop _, codeAny_extend_loopS WK hn S hfp _ items.size 0 _ _ _ rfl (Nat.zero_le _) st0 hS2 (ItemsOf.nil _) fun s' acc' c' hm hS' hacc => ?_⟩
  rw [Moved.eq_with hm]
  refine ⟨rfl, hQ s'.heap s'.toks acc' c' (fun b o hb e => hm.heap b o (fun hmem => ?_) (k2 b o (hS0 ▸ lt e) e)) hS' hacc⟩
  rcases List.mem_cons.mp hmem with q | q
  · exact lt e (q.trans hS0.symm)
  · exact hb (List.mem_singleton.mp q)
end
section
variable {W : Cx} {A : Around} {E : Value → Shared → Prop} {env : Env} {vis : List (Nat × Str)} {loc : Loc} {mem : Mem} {s : Shared} {Q : Val → Mem → Prop}
theorem VRels.rev {W : Cx} {h : Heap} : ∀ {xs : List Val} {vs : List Value}, VRels W h xs vs → VRels W h xs.reverse vs.reverse := by
  intro xs
  induction xs with
  | nil => intro vs r; obtain rfl := r.inv0; rfl
  | cons x xs ih =>
    intro vs r
    obtain ⟨y, ys, rfl, r1, r2⟩ := r.inv
    rw [List.reverse_cons, List.reverse_cons]
    have h1 : VRels W h [x] [y] := Exists.intro y ⟨[], rfl, r1, rfl⟩
    exact h1.append (ih r2)
theorem lrev_sound (R : Rel W env vis loc mem s) {k : Nat} (hr : Room k A) {a : Addr} {xs : List Val} (e : mem a = some (.list xs)) (hl : xs.length < lid) (h : freshL mem xs.reverse Q) :
    wpAny (model W.prog W.w) A (call (.type "reversed") [.ref a]) (fun r s' => wpAny (model W.prog W.w) A (call (.type "list") [r]) (PM W mem s Q) E s') E s := by
  obtain ⟨vs, n, ha, hv⟩ := mem_plain R.m e
  have hlen := hv.length
  have hL : s.heap.IsList a vs.toArray := ⟨_, ha, rfl, n, rfl⟩
  refine call_reversed_list hL ?_
  have hne : a ≠ s.heap.objs.size := Nat.ne_of_lt (Heap.lt_size ha)
  have kp : ∀ b o, s.heap.get? b = some o → (s.heap.push (revObj a ((vs.toArray.size : Int) - 1))).get? b = some o := fun b o e => Heap.get?_push_of_some _ e
  have hit : (s.heap.push (revObj a ((vs.toArray.size : Int) - 1))).IsRevIter s.heap.objs.size a ((vs.toArray.size : Int) - 1) := ⟨_, Heap.get?_push_size _ rfl, rfl, rfl⟩
  have hsz : (s.heap.push (revObj a ((vs.toArray.size : Int) - 1))).objs.size = s.heap.objs.size + 1 := Array.size_push ..
  refine list_rev (l := a) (items := vs.toArray) hr.handled hne hit (hL.at fun o e => kp a o e) (by rw [List.size_toArray, hlen]; exact lid_line hl) fun h' tk acc' c' hk hS hacc => ?_
  have hk' : ∀ b o, s.heap.get? b = some o → h'.get? b = some o := fun b o e => hk b o (Nat.ne_of_lt (Heap.lt_size e)) (kp b o e)
  have hac : acc' = vs.reverse.toArray := by
    obtain ⟨h1, h2⟩ := hacc
    have h1 : acc'.size = vs.length := h1
    refine Array.ext (by rw [h1, List.size_toArray, List.length_reverse]) fun i hi hi' => ?_
    have h3 := h2 i _ (Array.getElem?_eq_getElem hi)
    rw [h1] at hi
    rw [List.size_toArray, List.getElem?_toArray] at h3
    have h4 : vs.reverse[i]? = vs[vs.length - 1 - i]? := List.getElem?_reverse hi
    rw [h3] at h4
    rw [List.size_toArray] at hi'
    rw [List.getElem?_eq_getElem hi'] at h4
    exact (Option.some.inj h4).symm
  rw [hac] at hS
  exact freshL_sound R (.of_keeps hk') (by cases q : s.heap.get? (s.heap.push (revObj a ((vs.toArray.size : Int) - 1))).objs.size with | none => rfl | some o => have := Heap.lt_size q; exact absurd this (by rw [hsz]; exact Nat.not_lt.mpr (Nat.le_succ _))) hS hv.rev h
end
end TD

namespace TD
open PySem PyProof.Rows
variable {W : Cx} {A : Around} {E : Value → Shared → Prop} {env : Env} {vis : List (Nat × Str)} {loc : Loc} {mem : Mem} {s : Shared} {Q : Val → Mem → Prop}

theorem getMethod_str {name : Str} {id : String} {pl : Sem Bool} {x : Str} {t : Tok} (slot : Slot "str" name id) (hty : typeOf (.builtin id) = pure (.type "method_descriptor"))
    {P : Value × List Value → Shared → Prop} (h : P (.builtin id, [.str x t]) s) : wpAny (model W.prog W.w) A (getMethod (.str x t) name pl) P E s :=
  getMethod_builtin (typeIs_str _ _ _) PySem.F.plainAttrs_str slot hty (fun b q => by cases q) h
theorem strs_of {h : Heap} : ∀ {ts : List Str} {vs : List Value}, VRels W h (ts.map .str) vs → ∃ l : List (Str × Tok), vs = strValues l ∧ l.map (·.1) = ts
  | [], vs, r => ⟨[], r, rfl⟩
  | t :: ts, vs, r => by
    obtain ⟨y, ys, rfl, h1, h2⟩ := r
    obtain ⟨l, rfl, rfl⟩ := strs_of h2
    obtain ⟨k, rfl⟩ := VRel.str h1
    exact ⟨(t, k) :: l, rfl, rfl⟩
theorem join_sound (R : Rel W env vis loc mem s) {a : Addr} {ts : List Str} {c : Str} {t : Tok} (e : mem a = some (.list (ts.map .str))) (hw : (ts.map (·.length)).sum + ts.length < lid) (hs : c.length ≤ 16) (hq : Q (.str (Str.join c ts)) mem) :
    wpAny (model W.prog W.w) A (call (.builtin "str.join") [.str c t, .ref a]) (PM W mem s Q) E s := by
  obtain ⟨vs, n, hn, r⟩ := mem_plain R.m e
  obtain ⟨l, rfl, hl⟩ := strs_of r
  refine SC.join ⟨_, hn, rfl, n, rfl⟩ hl (joinOk_of_weight (by unfold lid at hw; walk_at "o") hs) fun t' k => ?_
  unfold Txt.join
  rw [StrLaws.glued_eq_join]
  exact PM.val R.m .mkStr hq k
theorem fstr_sound (R : Rel W env vis loc mem s) {i : Int} {t : Tok} {c : Str} {kc : Nat} {pc : Pos} {P : Value → Shared → Prop} (ht : tiny i) (hl : (Str.ofString (toString i)).length + c.length < lid) (h : ∀ t' tk, P (.str (Str.empty ++ Str.ofString (toString i) ++ c) t') { s with toks := tk }) :
    wpAny (model W.prog W.w) A (formatField (.int i t) Str.empty) (fun v s₁ => match v with | .str y _ => (Str.empty ++ y).length ≤ sizeLine ∧ wpAny (model W.prog W.w) A (joinParts (Str.empty ++ y) (eval (.Constant (.str c) kc pc) env :: evalEach [] env)) P E s₁ | _ => False) E s := by
  have hE : ∀ x : Str, (Str.empty ++ x) = x := fun x => Str.append_left_empty (x := Str.empty) (y := x) rfl
  refine formatField_int_small (tiny_log ht) ⟨?_, ?_⟩
  · rw [hE]; exact lid_line (by unfold lid at hl ⊢; walk_at "o")
  · refine joinParts_cons (wpAny_Constant_str ⟨?_, joinParts_nil (h _ _) ?_⟩)
    · rw [hE, strLen_append]; exact lid_line hl
    · rw [hE, strLen_append]; exact lid_line hl
end TD

namespace TD
open PySem PyProof.Rows
variable {W : Cx} {A : Around} {E : Value → Shared → Prop} {env : Env} {vis : List (Nat × Str)} {loc : Loc} {mem : Mem} {s : Shared} {Q : Val → Mem → Prop}

noncomputable def ScOk (sc : Scope) (env : Env) : Prop := ∀ x k, sc.names.lookup x = some k → (k = .free → env.kindOf x = some .free ∨ env.kindOf x = some .cell) ∧ (k ≠ .free → env.kindOf x = some k)
theorem ScOk.self (env : Env) : ScOk env.scope env := fun x k h => ⟨fun e => .inl (e ▸ h), fun _ => h⟩

noncomputable def biNames : List String := ["len", "all", "sum", "max", "min", "list", "tuple", "sorted", "int", "str", "range", "reversed", "set", "isinstance", "enumerate", "bool", "ValueError"]

structure CxOk (W : Cx) (G : String → Option Val) : Prop where
  g : W.base.Ns mainGlobals W.mg
  b : W.base.Ns builtinsNs W.mb
  nolimit : W.base.NoLimit
  bi : ∀ x : Str, x ≠ "__name__" → W.mb x = bootBuiltins x
  bmiss : ∀ x ∈ biNames, W.mg (Str.ofString x) = none
  gl : ∀ x v, G x = some v → ∃ i t, v = .int i ∧ W.mg (Str.ofString x) = some (.int i t)

theorem gName_spec {sc : Scope} {n : String} {x : Str} (h : gName sc n x = true) : x = Str.ofString n ∧ sc.names.lookup x = some .globalImplicit ∧ okName x = true := by
  unfold gName isGlob at h
  simp only [Bool.and_eq_true, beq_iff_eq] at h
  exact ⟨h.1.1, h.1.2, h.2⟩
theorem okName_spec {x : Str} (h : okName x = true) : (x == ("__debug__" : Str)) = false ∧ (x == ("__classdict__" : Str)) = false := by
  unfold okName at h
  simp only [Bool.and_eq_true, Bool.not_eq_true'] at h
  exact h.1
theorem gName_empty {sc : Scope} {x : Str} (h : gName sc "" x = true) : False := by
  obtain ⟨rfl, _, hn⟩ := gName_spec h
  unfold okName at hn
  simp only [Bool.and_eq_true, Bool.not_eq_true'] at hn
  exact absurd hn.2 (by decide)

theorem global_sound (R : Rel W env vis loc mem s) {G : String → Option Val} (ok : CxOk W G) {sc : Scope} (hsc : ScOk sc env) {n : String} {x : Str} (h : gName sc n x = true) {v : Value} (hv : W.mg (Str.ofString n) = some v) {P : Value → Shared → Prop} (hq : P v s) {pos : Pos} :
    wpAny (model W.prog W.w) A (eval (.Name x pos) env) P E s := by
  obtain ⟨rfl, hk, hn⟩ := gName_spec h
  refine Calls.Name_function_global R.e.kind ((hsc _ _ hk).2 (by simp)) ?_ (okName_spec hn).1
  exact Calls.loadGlobal_global (by rw [R.e.glob]; exact ok.g.keeps R.m.stays) hv hq
theorem builtin_sound (R : Rel W env vis loc mem s) {G : String → Option Val} (ok : CxOk W G) {sc : Scope} (hsc : ScOk sc env) {n : String} {x : Str} (h : gName sc n x = true) (hb : n ∈ biNames) {v : Value} (hv : bootBuiltins (Str.ofString n) = some v) {P : Value → Shared → Prop} (hq : P v s) {pos : Pos} :
    wpAny (model W.prog W.w) A (eval (.Name x pos) env) P E s := by
  obtain ⟨rfl, hk, hn⟩ := gName_spec h
  refine Calls.Name_function_global R.e.kind ((hsc _ _ hk).2 (by simp)) ?_ (okName_spec hn).1
  refine Calls.loadGlobal_builtin (by rw [R.e.glob]; exact ok.g.keeps R.m.stays) (ok.bmiss n hb) (by rw [R.e.blt]; exact ok.b.keeps R.m.stays) ?_ hq
  rw [ok.bi _ ?_, hv]
  rintro q
  have : n ≠ "__name__" := by rintro rfl; simp [biNames] at hb
  exact this (by
    revert q
    simp only [biNames, List.mem_cons, List.not_mem_nil, or_false] at hb
    rcases hb with rfl | rfl | rfl | rfl | rfl | rfl | rfl | rfl | rfl | rfl | rfl | rfl | rfl | rfl | rfl | rfl | rfl <;> decide +kernel)

theorem isLoc_spec {sc : Scope} {x : Str} (h : isLoc sc x = true) : sc.names.lookup x = some .local ∨ sc.names.lookup x = some .cell ∨ sc.names.lookup x = some .free := by
  unfold isLoc at h
  split at h <;> first | (simp_all; done) | cases h

theorem name_sound (R : Rel W env vis loc mem s) {sc : Scope} (hsc : ScOk sc env) {i : Nat} {x : Str} (hvis : vis.lookup i = some x) (hl : isLoc sc x = true) (hn : okName x = true) {v : Val} (hv : getV loc i = some v) (hq : Q v mem) {pos : Pos} :
    wpAny (model W.prog W.w) A (eval (.Name x pos) env) (PM W mem s Q) E s := by
  have hm : (i, x) ∈ vis := by
    clear R
    induction vis with
    | nil => simp at hvis
    | cons p r ih =>
      obtain ⟨j, y⟩ := p
      rw [List.lookup_cons] at hvis
      split at hvis
      · rename_i q; cases hvis; rw [beq_iff_eq] at q; subst q; exact .head _
      · exact .tail _ (ih hvis)
  refine wpAny_Name ?_ (okName_spec hn).1
  have cellCase : ∀ k, env.kindOf x = some k → k = .cell ∨ k = .free → wpAny (model W.prog W.w) A (loadName env x) (PM W mem s Q) E s := fun k hk hc => by
    obtain ⟨c, y, h1, h2, h3⟩ := R.e.cell i x v k hm hv hk hc
    rcases hc with rfl | rfl
    · exact wpAny_loadName_cell R.e.kind hk h1 h2 (PM.here R.m h3 hq)
    · exact wpAny_loadName_free R.e.kind hk h1 h2 (PM.here R.m h3 hq) (okName_spec hn).2
  rcases isLoc_spec hl with h | h | h
  · have hk := (hsc _ _ h).2 (by simp)
    obtain ⟨m, hns, hr⟩ := R.e.ns
    obtain ⟨y, h1, h2⟩ := hr i x v hm hv hk
    exact wpAny_loadName_local R.e.kind hk hns h1 (PM.here R.m h2 hq)
  · exact cellCase _ ((hsc _ _ h).2 (by simp)) (.inl rfl)
  · rcases (hsc _ _ h).1 rfl with hk | hk
    · exact cellCase _ hk (.inr rfl)
    · exact cellCase _ hk (.inl rfl)

theorem star_plain {e : Expr} {rest : List Expr} (h : ∀ a p, e ≠ .Starred a p) : starEach (e :: rest) env = (false, eval e env) :: starEach rest env := by
  cases e <;> first | rfl | (exact absurd rfl (h _ _))

end TD

namespace TD
open PySem PyProof.Rows PySem.W

noncomputable def ClsV (h : Heap) (c : Value) : Prop := c = .type "ValueError" ∨ ∃ C bm, c = .ref C ∧ XCls h C bm
theorem xcls_type {M : Model} {h : Heap} {C : Addr} {bm : List Value} (x : XCls h C bm) : Looks M h (typeOf (.ref C)) (.type "type") ∧ Looks M h (isType (.ref C)) true := by
  obtain ⟨nm, q, N, bs, hdct, sn, sub, ab, col, dd, k0, k1, k2, k3, k5, mN, hC, _⟩ := x
  refine ⟨?_, ?_⟩
  · intro A' Q' E' s' k z
    unfold typeOf
    exact wpAny_bind (wpAny_loadPart (k _ _ hC) (wpAny_pure z))
  · intro A' Q' E' s' k z
    unfold isType loadHead
    exact wpAny_bind (wpAny_loadPart (k _ _ hC) (wpAny_pure z))
theorem ClsV.looks {M : Model} {h : Heap} {c : Value} (x : ClsV h c) : Looks M h (typeOf c) (.type "type") ∧ Looks M h (isType c) true := by
  rcases x with rfl | ⟨C, bm, rfl, x⟩
  · exact ⟨Looks.of_pure (kitMeta_of (by decide +kernel)), Looks.of_pure rfl⟩
  · exact xcls_type x
theorem XAt.looks {M : Model} {h : Heap} {D C : Addr} (x : XAt h D C) (c : Value) : Looks M h (isSubtype (.ref C) c) ((Value.ref C :: .ref D :: bmV).contains c) := by
  obtain ⟨_, ⟨nm', q', N', bs', hdct', sn', sub', ab', col', dd', k0', k1', k2', k3', k5', mN, hC, hN, hmN⟩⟩ := x
  intro A' Q' E' s' k z
  obtain ⟨h', g, d, t, os⟩ := s'
  exact wpAny_isSubtype_exc (k _ _ hC) z
structure XObj (h : Heap) (D C a : Addr) : Prop where
  at_ : XAt h D C
  obj : ∃ o, h.get? a = some o ∧ o.cls = .ref C
theorem XObj.type {M : Model} {h : Heap} {D C a : Addr} (x : XObj h D C a) : Looks M h (typeOf (.ref a)) (.ref C) := by
  obtain ⟨_, o, ho, hc⟩ := x
  intro A' Q' E' s' k z
  unfold typeOf
  refine wpAny_bind (wpAny_loadPart (k _ _ ho) (wpAny_pure ?_))
  rw [hc]; exact z
theorem exc_answers {D C a : Addr} {c : Value} : Answers (fun s => XObj s.heap D C a ∧ ClsV s.heap c) (.ref a) c ((Value.ref C :: .ref D :: bmV).contains c) := by
  intro dep tk prog w A R s hs
  obtain ⟨h0, g, d, tt, os⟩ := s
  obtain ⟨⟨X, hc⟩, hq⟩ := hs
  have LT := X.type (M := model prog w)
  obtain ⟨hty, his⟩ := hc.looks (M := model prog w)
  have hsub := X.at_.looks (M := model prog w) c
  unfold Builtin.«isinstance.nested»
  refine wpAny_bind (LT.at ?_)
  by_cases q : (Value.ref C == c) = true
  · rw [if_pos q]
    have hv : (Value.ref C :: .ref D :: bmV).contains c = true := by
      rw [List.contains_cons, beq_iff_eq.mp q, beq_self_eq_true, Bool.true_or]
    rw [hv] at hq
    first
      | ((repeat lk); exact hq tt)
      | exact wpAny_bind (wpAny_rule (hq tt))
      | exact wpAny_bind (wpAny_rule (wpAny_pure (hq tt)))
  · rw [if_neg q]
    have LI : Looks (model prog w) h0 (isInstance (.ref a) c) ((Value.ref C :: .ref D :: bmV).contains c) := LT.andThen hsub
    refine wpAny_bind (hty.at ?_)
    rw [if_pos (by decide)]
    k_delta "plainIsInstance"
    refine wpAny_bind (wpAny_bind (his.at ?_))
    simp only [Bool.not_true, Bool.false_eq_true, if_false]
    refine wpAny_bind (LI.at ?_)
    generalize (Value.ref C :: .ref D :: bmV).contains c = v at hq hsub ⊢
    cases v with
    | true =>
      first
        | exact wpAny_pure (wpAny_pure (hq tt))
        | (simp only [if_true]; first | exact wpAny_pure (wpAny_pure (hq tt)) | exact wpAny_pure (hq tt) | exact wpAny_bind (wpAny_pure (wpAny_pure (hq tt))))
    | false =>
      simp only [Bool.false_eq_true, if_false]
      obtain ⟨o, ho, hoc⟩ := X.obj
      refine wpAny_bind (class_attr_exc X.at_ ho hoc ?_)
      refine wpAny_bind ((xcls_type X.at_.c).2.at ?_)
      simp only [Bool.not_true, Bool.false_eq_true, if_false]
      refine wpAny_bind (wpAny_rule ?_)
      refine hsub.at ?_
      first
        | exact wpAny_pure (hq _)
        | exact wpAny_pure (wpAny_pure (hq _))
        | exact wpAny_bind (wpAny_pure (wpAny_pure (hq _)))

section
variable {prog : Program} {w : World} {A : Around} {E : Value → Shared → Prop} {s : Shared} {Q : Value → Shared → Prop} {D C a : Addr}
theorem exc_isinst {c : Value} (X : XObj s.heap D C a) (hc : ClsV s.heap c) (h : ∀ tk, Q (.bool ((Value.ref C :: .ref D :: bmV).contains c)) { s with toks := tk }) : wpAny (model prog w) A (call (.builtin "isinstance") [.ref a, c]) Q E s :=
  call_isinstance (S := fun _ R s => (XObj s.heap D C a ∧ ClsV s.heap c) ∧ ∀ tk, R (.ok (.ret (.bool ((Value.ref C :: .ref D :: bmV).contains c)))) { s with toks := tk })
    (fun prog w A R s hs => isinstance_outer (exc_answers 0 _ prog w A R s hs) (by intro e; cases e)) ⟨⟨X, hc⟩, h⟩
end
end TD

namespace TD
open PySem PyProof.Rows PySem.W

section
variable {M : Model} {A : Around} {E : Value → Shared → Prop} {h : Heap} {g : Array GenState} {d : Drawn} {t : Nat} {os : OsState} {e D C : Addr} {oe : Obj}
theorem exc_matches (X : XAt h D C) (he : h.get? e = some oe) (hcls : oe.cls = .ref C) {Q : Bool → Shared → Prop} (hq : Q true ⟨h, g, d, t, os⟩) : wpAny M A (excMatches (.ref e) (.ref D)) Q E ⟨h, g, d, t, os⟩ := by
  obtain ⟨⟨nm, q, N, bs, hdct, sn, sub, ab, col, dd, k0, k1, k2, k3, k5, mD, hD, hND, hmD⟩, ⟨nm', q', N', bs', hdct', sn', sub', ab', col', dd', k0', k1', k2', k3', k5', mN, hC, hN, hmN⟩⟩ := X
  have hcB : (Value.ref D :: bmV).contains (.type "BaseException") = true := by rw [List.contains_cons, show bmV.contains (.type "BaseException") = true by decide +kernel, Bool.or_true]
  have hcC : (Value.ref C :: .ref D :: bmV).contains (.ref D) = true := by simp
  have f := tc_notTuple
  unfold excMatches
  repeat (first | (with_reducible refine wpAny_loadPart_at he ?_; rw [hcls]) | with_reducible refine wpAny_loadPart_at hD ?_ | (with_reducible refine wpAny_isSubtype_exc hD ?_; rw [hcB]) | (with_reducible refine wpAny_isSubtype_exc hC ?_; rw [hcC]) | wp_step)
  exact hq
end
theorem XAt.tail {h : Heap} {D C : Addr} (X : XAt h D C) : OwnTail h bmV (.ref D :: bmV) := by
  obtain ⟨nm, q, N, bs, hdct, sn, sub, ab, col, dd, k0, k1, k2, k3, k5, mD, hD, hND, hmD⟩ := X.d
  exact .own hD hND (hmD _ (.head _)) .base
theorem XAt.keeps {h h' : Heap} {D C : Addr} (X : XAt h D C) (hk : ∀ b o, h.get? b = some o → h'.get? b = some o) : XAt h' D C := ⟨X.d.keeps hk, X.c.keeps hk⟩

section
variable {prog : Program} {w : World} {A : Around} {E : Value → Shared → Prop} {s : Shared} {env : Env} {D C : Addr}
theorem raise_own {x : Str} {np cpos pos p1 : Pos} {k1 : Nat} {g : Str} {Q : PySem.Flow → Shared → Prop} (hh : A.handled = none) (X : XAt s.heap D C)
    (hev : ∀ {P : Value → Shared → Prop}, P (.ref C) s → wpAny (model prog w) A (eval (.Name x np) env) P E s)
    (h : ∀ h' e vs tk, Heap.MadeExcOf s.heap h' e (.ref C) vs → E (.ref e) { s with heap := h', toks := tk }) :
    wpAny (model prog w) A (exec (.Raise (some (.Call (.Name x np) [.Constant (.str g) k1 p1] [] cpos)) none pos) env) Q E s := by
  obtain ⟨nm', q', N', bs', hdct', sn', sub', ab', col', dd', k0', k1', k2', k3', k5', mN, hC, hN, hmN⟩ := X.c
  refine wpAny_Raise_call_subT (nm := nm') (q := q') (N := N') (bs := bs') (hdct := hdct') (sn := sn') (sub := sub') (ab := ab') (col := col') (dd := dd') (k0 := k0') (k1 := k1') (k2 := k2') (k3 := k3') (k5 := k5') F.excBase_ValueError (bm := .ref D :: bmV) (by rw [List.contains_cons, show bmV.contains (.type "BaseException") = true by decide +kernel, Bool.or_true]) hh rfl (hmN _ (.head _)) (hev ⟨rfl, ?_⟩)
  refine Calls.evalArgs_plain (Calls.spliced_cons ?_)
  refine wpAny_Constant_str (k := k1) (pos := p1) (Calls.spliced_nil ?_)
  exact ⟨rfl, Nat.le_of_ble_eq_true rfl, hC, hN, X.tail, fun h' e hm => h h' e _ _ hm⟩
end
end TD

namespace TD
open PySem PyProof.Rows PySem.W

section
variable {prog : Program} {w : World} {A : Around} {E : Value → Shared → Prop} {s : Shared} {env : Env} {D C a : Addr} {base h0 : Heap} {outer : List Env} {mem : Mem}
theorem exc_caught {t : Expr} {n : Str} {b₀ : Stmt} {suite : List Stmt} {pos : Pos} {Q : PySem.Flow → Shared → Prop} (hfr : A.frames = some (env :: outer)) (F : FrOk base (env :: outer) mem s.heap) (X : Exc h0 (.ref C) a s.heap)
    (al : ∀ b, s.heap.get? b = none → h0.get? b = none)
    (hX : ∀ h1, Kept (env :: outer) h0 s.heap h1 → XAt h1 D C)
    (hev : ∀ {h1 : Heap} {A' : Around} {P : Value → Shared → Prop} {E' : Value → Shared → Prop}, Kept (env :: outer) h0 s.heap h1 → P (.ref D) { s with heap := h1 } → wpAny (model prog w) A' (eval t env) P E' { s with heap := h1 })
    (k : ∀ h1, ExcT h0 (.ref C) a .none h1 → Kept (env :: outer) h0 s.heap h1 → wpAny (model prog w) (A.mark (some (.ref a))) (storeName env n (.ref a)) (fun _ s₃ =>
      wpAny (model prog w) (A.mark (some (.ref a))) (execs (b₀ :: suite) env) (fun f s₄ => wpAny (model prog w) A (do bindName env n .none; unbindBehindTheSuite env n pos) (fun _ s₅ => Q f s₅) E s₄) (fun _ _ => False) s₃) (fun _ _ => False) { s with heap := h1 }) :
    wpAny (model prog w) A (noteFrame (.ref a) env) (fun _ s₂ => wpAny (model prog w) A (setFlight (.ref a) none) (fun _ s₃ => wpAny (model prog w) A (handleBy (.ref a) env [.ExceptHandler (some t) (some n) (b₀ :: suite) pos]) Q E s₃) E s₂) E s := by
  refine exc_looked hfr F X al fun h1 x1 k1 => ?_
  refine wpAny_handleBy_cons (codeAny_handlers_test (hev k1 ?_)) (by intro q; cases q)
  obtain ⟨oe, ws, a0, T, oT, ts, e1, e2, e3, _⟩ := x1.obj
  refine exc_matches (hX h1 k1) e1 e2 ?_
  refine codeAny_handlers_suite_as ?_
  refine exc_land (s := { s with heap := h1 }) (F.kept k1) x1 (k1.al al) fun h2 x2 k2 => ?_
  refine wpAny_mono (k h2 x2 (k1.trans k2)) (fun _ s₃ h₃ => ?_) fun _ _ z => z.elim
  exact wpAny_mono h₃ (fun f s₄ h₄ => h₄) fun _ _ z => z.elim
end
end TD

namespace TD
open PySem PyProof.Rows

noncomputable def clsName : Nat → String
  | 6 => "DealError" | 7 => "BadTable" | 8 => "BadShares" | 9 => "BadHeir" | 10 => "BadThing" | 11 => "BadRing" | 12 => "BadOrder" | 13 => "Full" | 14 => "BadNote" | _ => ""
noncomputable def clsV (W : Cx) (k : Nat) : Value := (W.mg (Str.ofString (clsName k))).getD .none
noncomputable def ClsOk (W : Cx) : Prop := ∃ D, W.mg (Str.ofString "DealError") = some (.ref D) ∧ ∀ k, 7 ≤ k → k ≤ 14 → ∃ C, W.mg (Str.ofString (clsName k)) = some (.ref C) ∧ XAt W.base D C ∧ NamedAt W.base C (Str.ofString (clsName k))
noncomputable def XFr (W : Cx) (A : Around) (mem : Mem) (s : Shared) (X : Nat → Mem → Prop) (E : Value → Shared → Prop) : Prop :=
  (∃ fs, A.frames = some fs ∧ FrOk W.base fs mem s.heap) ∧ ClsOk W ∧ ∀ k m' a s', Exc s.heap (clsV W k) a s'.heap → MRel W m' s' → m' a = none → Step NoD mem s.heap m' s'.heap → X k m' → E (.ref a) s'
noncomputable def XOk (W : Cx) (A : Around) (mem : Mem) (s : Shared) (X : Nat → Mem → Prop) (E : Value → Shared → Prop) : Prop := (∀ k m, ¬ X k m) ∨ XFr W A mem s X E
noncomputable def EstAt (mg : Str → Option Value) (h : Heap) (C N : Addr) (mN : Str → Option Value) : Prop := mg (Str.ofString "Estate") = some (.ref C) ∧ PyProof.Rows.ClsAt h C N mN
noncomputable def FnAt (W : Cx) (fn : Fn) (a : Addr) (o : Obj) : Prop := (fn.own = false → W.mg (Str.ofString fn.name) = some (.ref a)) ∧ (fn.own = true → o.cls = .type "function" ∧ ∃ C N mN, EstAt W.mg W.base C N mN ∧ mN (Str.ofString fn.name) = some (.ref a))
noncomputable def Near (A A' : Around) : Prop := A' = A ∨ ∃ C vs, A' = A.under (.builtin "type.__call__" ⟨.ref C :: vs, []⟩)
noncomputable def CallOk (W : Cx) (FT : Nat → Option Fn) (ids : List Nat) (A : Around) (C : CallT) : Prop :=
  ∀ f ∈ ids, ∀ fn, FT f = some fn → ∃ a o fd, FnAt W fn a o ∧ W.base.get? a = some o ∧ o.data = .func fd ∧
    ∀ A', Near A A' → ∀ (vs : List Val) (args : List Value) (Q : Val → Mem → Prop) (X : Nat → Mem → Prop) (mem : Mem) (s : Shared) (E : Value → Shared → Prop), XOk W A' mem s X E → C f vs Q X mem → MRel W mem s → VRels W s.heap vs args →
      wpAny (model W.prog W.w) A' (call (.ref a) args) (PM W mem s Q) E s

structure SCx (W : Cx) (FT : Nat → Option Fn) (ids : List Nat) (G : String → Option Val) (n : Nat) (A : Around) (C : CallT) : Prop where
  ok : CxOk W G
  room : Room n A
  call : CallOk W FT ids A C

section
variable {W : Cx} {A : Around} {E : Value → Shared → Prop} {env : Env} {vis : List (Nat × Str)} {loc : Loc} {mem : Mem} {s : Shared} {Q : Val → Mem → Prop}

theorem then1 (R : Rel W env vis loc mem s) {t : Sem Value} {P : Value → Shared → Prop} (h : wpAny (model W.prog W.w) A t (PM W mem s Q) E s)
    (k : ∀ v y mem' s', VRel W s'.heap v y → Rel W env vis loc mem' s' → Step NoD mem s.heap mem' s'.heap → Q v mem' → P y s') : wpAny (model W.prog W.w) A t P E s :=
  wpAny_mono h (fun y s' p => by obtain ⟨v, mem', a, b, c, d⟩ := p; exact k v y mem' s' a (R.step b c) c d) fun _ _ x => x
theorem pmTrans {mem' : Mem} {s' s2 : Shared} {t : Sem Value} (x : Step NoD mem s.heap mem' s'.heap) (h : wpAny (model W.prog W.w) A t (PM W mem' s' Q) E s2) : wpAny (model W.prog W.w) A t (PM W mem s Q) E s2 :=
  wpAny_mono h (fun _ _ p => PM.trans x p) fun _ _ x => x
noncomputable def PT (W : Cx) (mem : Mem) (s : Shared) (P : Bool → Mem → Prop) (b : Bool) (s' : Shared) : Prop := ∃ mem', MRel W mem' s' ∧ Step NoD mem s.heap mem' s'.heap ∧ P b mem'
theorem PT.trans {mem' : Mem} {s' s'' : Shared} {P : Bool → Mem → Prop} {b : Bool} (x : Step NoD mem s.heap mem' s'.heap) (p : PT W mem' s' P b s'') : PT W mem s P b s'' := by
  obtain ⟨m2, a, c, d⟩ := p; exact ⟨m2, a, x.trans c, d⟩
theorem PM.test {P : Bool → Mem → Prop} {y : Value} {s' : Shared} (p : PM W mem s (asB P) y s') : ∃ b, y = .bool b ∧ PT W mem s P b s' := by
  obtain ⟨v, mem', a, b, c, d⟩ := p
  obtain ⟨t, rfl, d⟩ := d
  obtain rfl := a.bool
  exact ⟨t, rfl, mem', b, c, d⟩
theorem truth {P : Bool → Mem → Prop} {t : Sem Value} {P' : Bool → Shared → Prop} (h : wpAny (model W.prog W.w) A t (PM W mem s (asB P)) E s) (k : ∀ b s', PT W mem s P b s' → P' b s') :
    wpAny (model W.prog W.w) A t (fun v s₁ => wpAny (model W.prog W.w) A (truthy v) P' E s₁) E s :=
  wpAny_mono h (fun y s' p => by obtain ⟨b, rfl, q⟩ := p.test; exact wpAny_truthy_bool (k b s' q)) fun _ _ x => x
end

theorem behind_notSet {op : CmpOp} {e : Expr} (h : notSet e = true) : behindInMarks op e = false := by
  cases e <;> first | rfl | exact nb h

theorem notCall_base {o : Expr} {n : Str} {env : Env} {w : Sem Value} (h : notCall o = true) : attributeBase o n env w = w := by
  cases o <;> first | rfl | exact nb h

theorem method_call {M : Model} {A : Around} {E : Value → Shared → Prop} {s : Shared} {env : Env} {o : Expr} {name : Str} {ap p : Pos} {args : List Expr} {Q : Value → Shared → Prop} (hok : okAt o ap p = true) (hst : ∀ e ∈ args, ∀ a q, e ≠ .Starred a q) (hn : args.length < 29)
    (h : wpAny M A (eval o env) (fun ov s₁ => ∀ pl, wpAny M A (getMethod ov name pl) (fun fx s₂ => wpAny M A (callWith p fx.1 fx.2 (backTo p (starEach args env)) []) Q E s₂) E s₁) E s) :
    wpAny M A (eval (.Call (.Attribute o name ap) args [] p) env) Q E s := by
  unfold okAt at hok
  simp only [Bool.and_eq_true] at hok
  show wpAny M A (do
    let ov ← attributeBase o name env (eval o env)
    standAt ap.atName
    methodCall o name ap p env ov (args.length + 0) (backTo p (starEach args env)) []) Q E s
  rw [notCall_base hok.1]
  have hall : (backTo p (starEach args env)).all (!·.1) = true := by
    clear h hn
    induction args with
    | nil => rfl
    | cons e r ih =>
      rw [star_plain (hst e (.head _))]
      show ((!false) && (backTo p (starEach r env)).all (!·.1)) = true
      rw [ih fun e he => hst e (.tail _ he)]; rfl
  have hf : methodCallForm (args.length + 0) (backTo p (starEach args env)) [] = true := by
    unfold methodCallForm
    rw [hall]
    simp
    walk_at "o"
  refine wpAny_bind (wpAny_mono h (fun ov s₁ h₁ => wpAny_bind (wpAny_standAt ?_)) fun _ _ x => x)
  unfold methodCall
  rw [hf]
  refine wpAny_bind (wpAny_holding ?_)
  unfold calleeOf
  simp only [if_true]
  refine wpAny_mono (h₁ _) (fun fx s₂ h₂ => ?_) fun _ _ x => x
  unfold methodCallPos
  rw [if_pos (by rw [hok.2]; simp)]
  exact wpAny_bind (wpAny_pure h₂)

end TD

namespace TD
open PySem PyProof.Rows

section
variable {W : Cx} {A : Around} {E : Value → Shared → Prop} {env : Env} {vis : List (Nat × Str)} {loc : Loc} {mem : Mem} {s : Shared} {Q : Val → Mem → Prop}

theorem star_any {p : Pos} : ∀ {es : List Expr}, (∀ e ∈ es, ∀ a q, e ≠ .Starred a q) → (backTo p (starEach es env)).any (·.1) = false
  | [], _ => rfl
  | e :: r, h => by
    rw [star_plain (h e (.head _))]
    show (false || (backTo p (starEach r env)).any (·.1)) = false
    rw [star_any fun e he => h e (.tail _ he)]; rfl

section
variable {h : Heap} {g : Array GenState} {d : Drawn} {t : Nat} {os : OsState} {prog : Program} {w : World}
noncomputable abbrev mkHeap (h : Heap) (C : Addr) : Heap := (h.push { cls := .type "dict", data := .dict #[] }).push { cls := .ref C, dict := some h.objs.size, data := .plain }
theorem mk_x (h : Heap) (C : Addr) : (mkHeap h C).get? (h.objs.size + 1) = some { cls := .ref C, dict := some h.objs.size, data := .plain } := by
  have := Heap.get?_push_size (h := h.push { cls := .type "dict", data := .dict #[] }) (o := { cls := .ref C, dict := some h.objs.size, data := .plain }) rfl
  rw [Heap.size_push] at this
  exact this
theorem mk_keep (h : Heap) (C : Addr) (b : Addr) (o : Obj) (e : h.get? b = some o) : (mkHeap h C).get? b = some o := Heap.get?_push_of_some _ (Heap.get?_push_of_some _ e)
theorem make_body {C N : Addr} {mN : Str → Option Value} {rest : List Value} {fI : Addr} {oI : Obj} {P : Fin → Shared → Prop}
    (K : PyProof.Rows.ClsAt h C N mN) (hi : mN "__init__" = some (.ref fI)) (hfI : h.get? fI = some oI) (hfc : oI.cls = .type "function")
    (hq : wpAny (model prog w) A (call (.ref fI) (.ref (h.objs.size + 1) :: rest)) (fun r s' => r = .none ∧ P (.done (.ret (.ref (h.objs.size + 1)))) s') E ⟨mkHeap h C, g, d, t, os⟩) :
    wpAny (model prog w) A (Builtin.«type.__call__» ⟨.ref C :: rest, []⟩) P E ⟨h, g, d, t, os⟩ := by
  obtain ⟨nm, q, bs, sn, sub, col, dd, k0, k1, k2, k3, k5, hC⟩ := K.obj
  have K1 := K.keeps (mk_keep h C)
  have hC1 := mk_keep h C _ _ hC
  have hmro : mroOf (.type "object") = pure [.type "object"] := by kernel_rfl
  have hlk : typeLookup (.type "object") "__init__" = pure (some (.builtin "object.__init__")) := by rw [typeLookup_type, builtinLookup_eq_fast]; kernel_rfl
  repeat (first | with_reducible refine wpAny_loadPart_at hC ?_ | with_reducible refine wpAny_madeBy_exc hC ?_ | wp_step)
  refine codeAny_call_builtin_code (Code.quiet_builtin _ PySem.F.objNew.quiet) (wpAny_check_obj_new PySem.F.objNew hC ?_)
  refine codeAny_obj_new PySem.F.objNew hC K.ns hi ?_
  show wpAny _ _ _ _ _ _
  have hget := mk_x h C
  have hcC : (Value.ref C :: [Value.type "object"]).contains (.ref C) = true := by simp
  unfold isInstance
  repeat (first | with_reducible refine wpAny_loadPart_at hget ?_ | (with_reducible refine wpAny_isSubtype_exc hC1 ?_; rw [hcC]) | wp_step)
  show wpAny _ _ (typeLookup (.ref C) _) _ _ _
  refine wpAny_typeLookup_exc hC1 K1.ns hmro hlk ?_
  rw [hi]
  refine wpAny_holding (wpAny_bind ?_)
  unfold bindSpecial
  refine wpAny_bind (wpAny_typeOf (T := "function") ⟨_, mk_keep h C _ _ hfI, hfc⟩ ?_)
  rw [if_pos (by decide)]
  refine wpAny_pure (wpAny_bind (wpAny_mono hq (fun r s' hr => ?_) fun _ _ x => x))
  obtain ⟨rfl, hP⟩ := hr
  wp_walk
  exact hP
theorem make_call {C N : Addr} {mN : Str → Option Value} {rest : List Value} {fI : Addr} {oI : Obj} {P : Value → Shared → Prop}
    (K : PyProof.Rows.ClsAt h C N mN) (hi : mN "__init__" = some (.ref fI)) (hfI : h.get? fI = some oI) (hfc : oI.cls = .type "function")
    (hq : wpAny (model prog w) (A.under (.builtin "type.__call__" ⟨.ref C :: rest, []⟩)) (call (.ref fI) (.ref (h.objs.size + 1) :: rest)) (fun r s' => r = .none ∧ P (.ref (h.objs.size + 1)) s') E ⟨mkHeap h C, g, d, t, os⟩) :
    wpAny (model prog w) A (call (.ref C) rest) P E ⟨h, g, d, t, os⟩ := by
  obtain ⟨nm, q, bs, sn, sub, col, dd, k0, k1, k2, k3, k5, hC⟩ := K.obj
  have f1 := tc_lookup
  have f2 := tc_bind (.ref C)
  have hT : (⟨h, g, d, t, os⟩ : Shared).TypeIs (.ref C) "type" := ⟨_, hC, rfl⟩
  refine wpAny_call (codeAny_of_tree ?_)
  show wpAny _ _ (callAny (.ref C) _) _ _ _
  repeat (any_goals (first | assumption | with_reducible refine wpAny_loadPart_at hC ?_ | wp_step))
  refine ⟨rfl, ?_⟩
  exact codeAny_call_builtin_at (Code.quiet_builtin _ (by decide +kernel)) entry_typeCall (wpAny_check_type_call_sub hC (make_body K hi hfI hfc hq))
end
theorem newX_sound (M : MRel W mem s) {C N : Addr} {mN : Str → Option Value} (K : EstAt W.mg W.base C N mN) {fI : Addr} {oI : Obj} (hi : mN (Str.ofString "__init__") = some (.ref fI)) (hfI : W.base.get? fI = some oI) (hfc : oI.cls = .type "function")
    {us : List Val} {vs : List Value} (hr : VRels W s.heap us vs) {P : Value → Shared → Prop}
    (hcall : ∀ x s1, MRel W mem s1 → Step NoD mem s.heap mem s1.heap → mem x = none → VRels W s1.heap (.ref x :: us) (.ref x :: vs) → wpAny (model W.prog W.w) (A.under (.builtin "type.__call__" ⟨.ref C :: vs, []⟩)) (call (.ref fI) (.ref x :: vs)) (fun _ _ => False) E s1) :
    wpAny (model W.prog W.w) A (call (.ref C) vs) P E s := by
  have hx : s.heap.get? (s.heap.objs.size + 1) = none := Heap.get?_none_of_le (Nat.le_succ _)
  have kp := mk_keep s.heap C
  have hc := hcall (s.heap.objs.size + 1) { s with heap := mkHeap s.heap C } (M.of_keeps kp) (.of_keeps kp) (M.mems.fresh hx) (.cons .mkRef (hr.keep (.of_keeps kp)))
  have Kc := K.2.keeps M.stays
  have hfI := M.stays _ _ hfI
  obtain ⟨hh, g, dr, t, os⟩ := s
  exact make_call Kc hi hfI hfc (wpAny_mono hc (fun r s' q => q.elim) fun _ _ x => x)
end
end TD

namespace TD
open PySem PyProof.Rows
variable {W : Cx} {A : Around} {E : Value → Shared → Prop} {env : Env} {vis : List (Nat × Str)} {loc : Loc} {mem : Mem} {s : Shared} {Q : Val → Mem → Prop}

theorem getV_setV {v u : Val} {l : Loc} : ∀ {i j : Nat}, getV (setV l i v) j = some u → (j = i ∧ u = v) ∨ (j ≠ i ∧ getV l j = some u) := by
  induction l with
  | nil => intro i j h; exact no h
  | cons x r ih =>
    intro i j h
    cases i with
    | zero => cases j with
      | zero => exact .inl ⟨rfl, (Option.some.inj h).symm⟩
      | succ j => exact .inr ⟨Nat.succ_ne_zero j, h⟩
    | succ i => cases j with
      | zero => exact .inr ⟨(Nat.succ_ne_zero i).symm, h⟩
      | succ j =>
        rcases ih (i := i) (j := j) h with ⟨rfl, b⟩ | ⟨a, b⟩
        · exact .inl ⟨rfl, b⟩
        · exact .inr ⟨fun q => a (Nat.succ.inj q), b⟩

noncomputable def VisOk (vis : List (Nat × Str)) : Prop := ∀ i x j y, (i, x) ∈ vis → (j, y) ∈ vis → (i = j ↔ x = y)

theorem store_sound (R : Rel W env vis loc mem s) (hv : VisOk vis) {i : Nat} {x : Str} (hm : (i, x) ∈ vis) (hk : env.kindOf x = some .local ∨ env.kindOf x = some .cell) {v : Val} {y : Value} (hr : VRel W s.heap v y)
    {P : Unit → Shared → Prop} (hp : ∀ s', Rel W env vis (setV loc i v) mem s' → Step (FrD env) mem s.heap mem s'.heap → (∃ a, FrD env a ∧ (env.kindOf x = some .local → a = env.locals) ∧ Heap.SameBut a s.heap s'.heap) → P () s') : wpAny (model W.prog W.w) A (storeName env x y) P E s := by
  rcases hk with hk | hk
  · obtain ⟨m, hns, hr'⟩ := R.e.ns
    refine wpAny_storeName_local hk hns (fun h' hn' hs' => ?_) (by rw [R.e.kind]; rfl)
    have hL : ∃ o, h'.get? env.locals = some o := by obtain ⟨o, _, _, e, _⟩ := hn'; exact ⟨o, e⟩
    have kb : ∀ b o, b ≠ env.locals → s.heap.get? b = some o → h'.get? b = some o := fun b o hb e => (hs'.2 b hb).trans e
    have kf : KeepF s.heap h' := fun b o e hf => by
      refine kb b o ?_ e
      rintro rfl
      exact R.e.dok _ o (.inl rfl) e hf
    have St : Step (FrD env) mem s.heap mem h' := by
      refine ⟨fun b e => ?_, fun b o e hm' hd => ⟨o, kb b o (fun q => hd (.inl q)) e, .refl o⟩, fun _ a b => absurd a b⟩
      by_cases hb : b = env.locals
      · subst hb; obtain ⟨o, ho⟩ := hL; rw [ho] at e; cases e
      · rw [← hs'.2 b hb]; exact e
    refine hp _ ⟨⟨fun b o e => kb b o (by rintro rfl; rw [R.new _ (.inl rfl)] at e; cases e) (R.m.stays b o e), fun b o e => ?_, R.m.gens, R.m.os⟩, ?_, R.sep, R.new⟩ St ⟨_, .inl rfl, fun _ => rfl, hs'⟩
    · obtain ⟨r, nb⟩ := R.m.mems b o e
      have hb : b ≠ env.locals := by rintro rfl; rw [R.sep _ (.inl rfl)] at e; cases e
      exact ⟨r.at (fun _ e => kb _ _ hb e) kf, nb⟩
    · have kc : ∀ z c u, env.cells.lookup z = some c → s.heap.IsCell c u → h'.IsCell c u := fun z c u hz ⟨o, e, hd⟩ => by
        refine ⟨o, kb c o ?_ e, hd⟩
        rintro rfl
        obtain ⟨o', es, ep, e', hd', _⟩ := hns
        rw [e] at e'; cases e'; rw [hd] at hd'; cases hd'
      refine ⟨R.e.kind, R.e.glob, R.e.blt, ⟨_, hn', fun j z u hj hg hkz => ?_⟩, fun j z u k hj hg hkz hc => ?_, R.e.cellk, fun z c hz => let ⟨o, ho⟩ := R.e.cells z c hz; ⟨o, kc z c _ hz ho⟩, R.e.apart⟩
      · rcases getV_setV hg with ⟨rfl, rfl⟩ | ⟨hne, hg⟩
        · have : z = x := (hv _ _ _ _ hj hm).mp rfl
          subst this; exact ⟨y, by simp, hr.keep kf⟩
        · have : z ≠ x := fun q => hne ((hv _ _ _ _ hj hm).mpr q)
          obtain ⟨y', h1, h2⟩ := hr' j z u hj hg hkz
          exact ⟨y', by simp [this, h1], h2.keep kf⟩
      · rcases getV_setV hg with ⟨rfl, rfl⟩ | ⟨hne, hg⟩
        · have : z = x := (hv _ _ _ _ hj hm).mp rfl
          subst this; rw [hk] at hkz; cases hkz; rcases hc with hc | hc <;> cases hc
        · obtain ⟨c, y', h1, h2, h3⟩ := R.e.cell j z u k hj hg hkz hc
          exact ⟨c, y', h1, kc z c _ h1 h2, h3.keep kf⟩
  · obtain ⟨c, hc⟩ := R.e.cellk x _ hk (.inl rfl)
    obtain ⟨u₀, hu⟩ := R.e.cells x c hc
    refine wpAny_storeName_cell R.e.kind hk hc hu fun h' hc' hs' => ?_
    have kb : ∀ b o, b ≠ c → s.heap.get? b = some o → h'.get? b = some o := fun b o hb e => (hs'.2 b hb).trans e
    have hcd : FrD env c := .inr ⟨x, hc⟩
    have kf : KeepF s.heap h' := fun b o e hf => by
      refine kb b o ?_ e
      rintro rfl
      exact R.e.dok _ o hcd e hf
    have St : Step (FrD env) mem s.heap mem h' := by
      refine ⟨fun b e => ?_, fun b o e hm' hd => ⟨o, kb b o (fun q => hd (q ▸ hcd)) e, .refl o⟩, fun _ a b => absurd a b⟩
      by_cases hb : b = c
      · subst hb; obtain ⟨o, ho, _⟩ := hc'; rw [ho] at e; cases e
      · rw [← hs'.2 b hb]; exact e
    refine hp _ ⟨⟨fun b o e => kb b o (by rintro rfl; rw [R.new _ hcd] at e; cases e) (R.m.stays b o e), fun b o e => ?_, R.m.gens, R.m.os⟩, ?_, R.sep, R.new⟩ St ⟨_, hcd, (fun q => by rw [hk] at q; cases q), hs'⟩
    · obtain ⟨r, nb⟩ := R.m.mems b o e
      have hb : b ≠ c := by rintro rfl; rw [R.sep _ hcd] at e; cases e
      exact ⟨r.at (fun _ e => kb _ _ hb e) kf, nb⟩
    · have kc : ∀ z d u, z ≠ x → env.cells.lookup z = some d → s.heap.IsCell d u → h'.IsCell d u := fun z d u hzx hz ⟨o, e, hd⟩ =>
        ⟨o, kb d o (fun q => hzx (R.e.apart z x c (q ▸ hz) hc)) e, hd⟩
      obtain ⟨m, hns, hr'⟩ := R.e.ns
      have hns' : h'.Ns env.locals m := by
        obtain ⟨o, es, ep, e, hd, q⟩ := hns
        refine ⟨o, es, ep, kb _ o ?_ e, hd, q⟩
        rintro rfl
        obtain ⟨o', e', hd'⟩ := hu
        rw [e] at e'; cases e'; rw [hd] at hd'; cases hd'
      refine ⟨R.e.kind, R.e.glob, R.e.blt, ⟨m, hns', fun j z u hj hg hkz => ?_⟩, fun j z u k hj hg hkz hck => ?_, R.e.cellk, fun z d hz => ?_, R.e.apart⟩
      · rcases getV_setV hg with ⟨rfl, rfl⟩ | ⟨hne, hg⟩
        · have : z = x := (hv _ _ _ _ hj hm).mp rfl
          subst this; rw [hk] at hkz; cases hkz
        · obtain ⟨y', h1, h2⟩ := hr' j z u hj hg hkz
          exact ⟨y', h1, h2.keep kf⟩
      · rcases getV_setV hg with ⟨rfl, rfl⟩ | ⟨hne, hg⟩
        · have : z = x := (hv _ _ _ _ hj hm).mp rfl
          subst this; exact ⟨c, y, hc, hc', hr.keep kf⟩
        · have hzx : z ≠ x := fun q => hne ((hv _ _ _ _ hj hm).mpr q)
          obtain ⟨d, y', h1, h2, h3⟩ := R.e.cell j z u k hj hg hkz hck
          exact ⟨d, y', h1, kc z d _ hzx h1 h2, h3.keep kf⟩
      · by_cases hzx : z = x
        · subst hzx; rw [hc] at hz; cases hz; exact ⟨_, hc'⟩
        · obtain ⟨o, ho⟩ := R.e.cells z d hz
          exact ⟨o, kc z d o hzx hz ho⟩

end TD

namespace TD
open PySem PyProof.Rows

noncomputable def Han (A : Around) (mem : Mem) (h : Heap) : Prop := A.handled = none ∨ ∃ e o vs, A.handled = some (.ref e) ∧ h.get? e = some o ∧ o.data = .fields vs ∧ vs[2]? = some .none ∧ mem e = none
theorem Han.step {A : Around} {D : Addr → Prop} {mem mem' : Mem} {h h' : Heap} (H : Han A mem h) (S : Step D mem h mem' h') (hD : ∀ e, A.handled = some (.ref e) → ¬ D e) : Han A mem' h' := H.imp id fun ⟨e, o, vs, h1, h2, h3, h4, h5⟩ => by
  obtain ⟨o', e', al⟩ := S.keep e o h2 h5 (hD e h1)
  have : o' = o := al.eq fun es ep q => by rw [h3] at q; cases q
  subst this
  exact ⟨e, o', vs, h1, e', h3, h4, S.none' h2 h5⟩

section
variable {prog : Program} {w : World} {A : Around} {E : Value → Shared → Prop} {s : Shared} {mem : Mem}
theorem entry_unchain : entryFor table "proto.unchain" = some Builtin.«proto.unchain» := entryFor_of_tree (by kernel_rfl)
theorem raise_handled {α : Type} {e b : Addr} {o ob : Obj} {vs ws : Array Value} {Q : α → Shared → Prop} (hh : A.handled = some (.ref e)) (he : s.heap.get? e = some o) (hd : o.data = .fields vs) (h2 : vs[2]? = some .none)
    (hb : s.heap.get? b = some ob) (hdb : ob.data = .fields ws) (h2b : 2 < ws.size) (hne : e ≠ b) (h : E (.ref b) { s with heap := s.heap.update b (Obj.mapFields (·.setIfInBounds 2 (.ref e))) }) : wpAny (model prog w) A (raiseNew (α := α) (.ref b)) Q E s := by
  simp only [raiseNew]
  refine wpAny_bind (wpAny_handled ?_)
  rw [hh]
  have hq : (Value.ref e != Value.ref b) = true := by simpa using hne
  simp only [hq, if_true]
  refine wpAny_bind (wpAny_holding (wpAny_runValue (codeAny_builtin entry_unchain ?_)))
  show wpAny _ _ (field (.ref e) 2 >>= _) _ _ s
  refine wpAny_bind (wpAny_field he hd h2 ?_)
  rw [if_pos (show ((Value.none == Value.none) = true) from rfl)]
  refine wpAny_pure ?_
  show wpAny _ _ (setField (.ref b) 2 (.ref e) >>= _) _ _ s
  exact wpAny_bind (wpAny_setField hb hdb h2b (wpAny_throw h))
theorem list_end {it l : Addr} {i : Nat} {items : Array Value} {Q : Option Value → Shared → Prop} (hh : Han A mem s.heap) (hne : ∀ e, A.handled = some (.ref e) → e ≠ it)
    (hit : s.heap.IsListIter it l i) (hl : s.heap.IsList l items) (hx : items[i]? = none)
    (hQ : ∀ h', Heap.ExtBut it s.heap h' → Q none { s with heap := h' }) : wpAny (model prog w) A (pyNext (.ref it)) Q E s := by
  rcases hh with hh | ⟨e, oe, vs, hh, he, hde, h2, _⟩
  · exact wpAny_pyNext_list_end hh hit hl hx hQ
  obtain ⟨o, ho, hc, hd⟩ := id hit
  obtain ⟨ol, hol, _, nl, hdl⟩ := hl
  have hei := hne e hh
  unfold pyNext
  refine wpAny_bind (wpAny_attempt (wpAny_callSpecial?_slot (name := Str.ofString "__next__") hit.typeIs slot_listiter_next
    (wpAny_call_entry slot_listiter_next hit.typeIs entry_listiter_next ?_ (args_listiter_next _))))
  show wpAny _ _ (field (.ref it) 0 >>= _) _ _ s
  refine wpAny_bind (wpAny_field ho hd (x := .ref l) rfl ?_)
  show wpAny _ _ (if (Value.ref l == Value.none) = true then _ else _) _ _ s
  rw [if_neg (show ¬ ((Value.ref l == Value.none) = true) from Bool.false_ne_true)]
  show wpAny _ _ (field (.ref it) 1 >>= _) _ _ s
  refine wpAny_bind (wpAny_field ho hd (x := .int i 0) rfl ?_)
  show wpAny _ _ (seqItems? (.ref l) >>= _) _ _ s
  refine wpAny_bind (wpAny_seqItems hol hdl ?_)
  simp only [Int.toNat_natCast, hx]
  refine wpAny_bind (wpAny_rule (wpAny_bind (wpAny_setField ho hd (by simp) ?_)))
  show wpAny _ _ (newExc (.type "StopIteration") [] >>= _) _ _ _
  refine wpAny_bind ?_
  simp only [newExc, newTuple]
  refine wpAny_bind (wpAny_newObj_type ?_ (by size_fits))
  refine wpAny_bind (m := firstArgMember _ _) (wpAny_of_eq (a := Value.none) (by first | rfl | (simp only [firstArgMember]; rfl)) ?_)
  refine wpAny_newObj_type ?_ (by size_fits)
  generalize hH : s.heap.update it _ = H
  have k1 : Heap.ExtBut it s.heap H := by rw [← hH]; exact (Heap.SameBut.update ..).extBut
  generalize hO : ({ cls := .type "tuple", data := .seq ([] : List Value).toArray } : Obj) = oT
  have he1 : (H.push oT).get? e = some oe := Heap.get?_push_of_some _ (k1 e oe hei he)
  refine raise_handled (e := e) (show A.in1.handled = _ from hh) (Heap.get?_push_of_some _ he1) hde h2 (Heap.get?_push_size _ rfl) rfl (by rw [Array.size_append]; exact Nat.lt_of_lt_of_le (by decide : 2 < 6) (Nat.le_add_right _ _)) (Nat.ne_of_lt (Heap.lt_size he1)) ?_
  refine wpAny_bind (wpAny_isInstance (T := "StopIteration") (b := true) ⟨_, Heap.get?_update_self _ (Heap.get?_push_size _ rfl) rfl, rfl⟩ isSubtype_stop ?_)
  refine wpAny_pure (hQ _ fun b o hb eb => ?_)
  have e1 := Heap.get?_push_of_some oT (k1 b o hb eb)
  rw [Heap.get?_update_other _ _ (Nat.ne_of_gt (Heap.lt_size e1))]
  exact Heap.get?_push_of_some _ e1
end
end TD

namespace TD
open PySem PyProof.Rows
variable {W : Cx} {A : Around} {E : Value → Shared → Prop} {env : Env} {vis : List (Nat × Str)} {loc : Loc} {mem : Mem} {s : Shared} {Q : Val → Mem → Prop}

noncomputable def Cur (k : ItK) (v : Val) (xs : List Val) (mem : Mem) : Prop := match k with
  | .plain => seq mem v = some xs
  | .range => ∃ n : Int, (0 ≤ n ∧ n < lid) ∧ xs = rangeV n
noncomputable def IterAt (W : Cx) (k : ItK) (v : Val) (xs : List Val) (I : Addr) (i : Nat) (h : Heap) : Prop := match k with
  | .plain => (v = .tup xs ∧ ∃ a vs, IsTup h a (List.toArray vs) ∧ VRels W h xs vs ∧ h.IsTupleIter I a i) ∨ ((∀ us, v ≠ .tup us) ∧ ∃ a, VRel W h v (.ref a) ∧ h.IsListIter I a i)
  | .range => IsRangeIter h I i ((xs.length : Int) - i) 1

theorem IterAt.there {k : ItK} {v : Val} {xs : List Val} {I : Addr} {i : Nat} {h : Heap} (x : IterAt W k v xs I i h) : ∃ o fs, h.get? I = some o ∧ o.data = .fields fs := by
  cases k with
  | plain =>
    rcases x with ⟨_, a, vs, _, _, o, ho, _, hd⟩ | ⟨_, a, _, o, ho, _, hd⟩
    · exact ⟨o, _, ho, hd⟩
    · exact ⟨o, _, ho, hd⟩
  | range => exact ⟨_, _, x, rfl⟩
theorem IterAt.keep {k : ItK} {v : Val} {xs : List Val} {I : Addr} {i : Nat} {h h' : Heap} (x : IterAt W k v xs I i h) (kf : KeepF h h') (ki : ∀ o, h.get? I = some o → h'.get? I = some o) : IterAt W k v xs I i h' := by
  cases k with
  | plain =>
    rcases x with ⟨e, a, vs, ⟨o, ho, hc, n, hd⟩, r, o', ho', q⟩ | ⟨e, a, r, o, ho, q⟩
    · exact Or.inl ⟨e, a, vs, ⟨o, kf a o ho ⟨hc, _, n, hd⟩, hc, n, hd⟩, r.keep kf, o', ki _ ho', q⟩
    · exact Or.inr ⟨e, a, r.keep kf, o, ki _ ho, q⟩
  | range => exact ki _ x
theorem seq_lst {v : Val} {xs : List Val} (h : seq mem v = some xs) (e : ∀ us, v ≠ .tup us) : lst mem v = some xs := (seq_or h).resolve_left (e xs)

theorem rangeV_length (n : Int) : (rangeV n).length = n.toNat := by simp [rangeV]
theorem rangeV_get {n : Int} {i : Nat} (h : i < n.toNat) : (rangeV n)[i]? = some (.int i) := by simp [rangeV, h]

theorem iter_next (M : MRel W mem s) {k : ItK} {v : Val} {xs : List Val} {I : Addr} {i : Nat} (hc : Cur k v xs mem) (hi : IterAt W k v xs I i s.heap) (hm : mem I = none) (hlt : i < xs.length) {P : Option Value → Shared → Prop}
    (hp : ∀ x y h' tk, xs[i]? = some x → VRel W h' x y → IterAt W k v xs I (i + 1) h' → Heap.SameBut I s.heap h' → P (some y) { s with heap := h', toks := tk }) :
    wpAny (model W.prog W.w) A (pyNext (.ref I)) P E s := by
  have kfI : ∀ {h' : Heap}, Heap.SameBut I s.heap h' → KeepF s.heap h' := fun hs b o e hf => by
    obtain ⟨o', fs, ho', hd'⟩ := hi.there
    have : b ≠ I := by rintro rfl; rw [e] at ho'; cases ho'; obtain ⟨_, xs, n, q⟩ := hf; rw [hd'] at q; cases q
    rw [hs.2 b this]; exact e
  obtain ⟨x, hx⟩ : ∃ x, xs[i]? = some x := ⟨xs[i], by simp [hlt]⟩
  cases k with
  | plain =>
    rcases hi with ⟨rfl, a, vs, ht, r, hit⟩ | ⟨ne, a, ra, hit⟩
    · obtain ⟨y, hy, ry⟩ := r.get hx
      refine wpAny_pyNext_tuple_item hit (IsTup.tuple ht) (by simpa using hy) fun h' hit' hs' => ?_
      have kf := kfI hs'
      obtain ⟨o, ho, hcl, n, hd⟩ := ht
      exact hp x y h' s.toks hx (ry.keep kf) (Or.inl ⟨rfl, a, vs, ⟨o, kf a o ho ⟨hcl, _, n, hd⟩, hcl, n, hd⟩, r.keep kf, hit'⟩) hs'
    · obtain ⟨b, vs, e, hl, r⟩ := lst_rel M ra (seq_lst hc ne)
      cases e
      obtain ⟨y, hy, ry⟩ := r.get hx
      refine wpAny_pyNext_list_item hit hl (by simpa using hy) fun h' hit' hs' => ?_
      have kf := kfI hs'
      exact hp x y h' s.toks hx (ry.keep kf) (Or.inr ⟨ne, a, ra.keep kf, hit'⟩) hs'
  | range =>
    obtain ⟨n, hn, rfl⟩ := hc
    rw [rangeV_length] at hlt
    rw [rangeV_get hlt] at hx; cases hx
    have hi' : IsRangeIter s.heap I i (((rangeV n).length : Int) - i) 1 := hi
    refine wpAny_pyNext_range_item hi' (by rw [rangeV_length]; walk_at "o") fun h' hit' hs' => ?_
    refine hp _ _ h' _ (rangeV_get hlt) .mkInt ?_ hs'
    have e : ((rangeV n).length : Int) - i - 1 = ((rangeV n).length : Int) - ((i + 1 : Nat) : Int) := by walk_at "o"
    rw [e] at hit'
    exact hit'

noncomputable def HEnd (A : Around) (k : ItK) (v : Val) (mem : Mem) (h : Heap) (I : Addr) : Prop := A.handled = none ∨ k = .plain ∧ (∀ us, v ≠ .tup us) ∧ Han A mem h ∧ ∀ e, A.handled = some (.ref e) → e ≠ I
theorem Han.ne {A : Around} {mem : Mem} {h : Heap} {I : Addr} (H : Han A mem h) (hI : h.get? I = none) : ∀ e, A.handled = some (.ref e) → e ≠ I := fun e he q => by
  rcases H with H | ⟨e', o, vs, h1, h2, _⟩
  · rw [H] at he; cases he
  · rw [h1] at he; cases he
    rw [q, hI] at h2; cases h2
theorem iter_end (M : MRel W mem s) {k : ItK} {v : Val} {xs : List Val} {I : Addr} (hh : HEnd A k v mem s.heap I) (hc : Cur k v xs mem) (hi : IterAt W k v xs I xs.length s.heap) {P : Option Value → Shared → Prop}
    (hp : ∀ h', Heap.ExtBut I s.heap h' → P none { s with heap := h' }) : wpAny (model W.prog W.w) A (pyNext (.ref I)) P E s := by
  rcases hh with hh | ⟨rfl, ne0, H, hne⟩
  rotate_left
  · rcases hi with ⟨rfl, _⟩ | ⟨ne, a, ra, hit⟩
    · exact absurd rfl (ne0 _)
    · obtain ⟨b, vs, e, hl, r⟩ := lst_rel M ra (seq_lst hc ne)
      cases e
      exact list_end H hne hit hl (by simp [r.length]) hp
  cases k with
  | plain =>
    rcases hi with ⟨rfl, a, vs, ht, r, hit⟩ | ⟨ne, a, ra, hit⟩
    · exact wpAny_pyNext_tuple_end hh hit (IsTup.tuple ht) (by simp [r.length]) hp
    · obtain ⟨b, vs, e, hl, r⟩ := lst_rel M ra (seq_lst hc ne)
      cases e
      exact wpAny_pyNext_list_end hh hit hl (by simp [r.length]) hp
  | range =>
    have hi' : IsRangeIter s.heap I xs.length ((xs.length : Int) - xs.length) 1 := hi
    exact wpAny_pyNext_range_end hh hi' (by walk_at "o") hp

theorem iter_start (R : Rel W env vis loc mem s) {v : Val} {y : Value} {xs : List Val} (hv : VRel W s.heap v y) (e : seq mem v = some xs) {P : Value → Shared → Prop}
    (hp : ∀ I s', s.heap.get? I = none → IterAt W .plain v xs I 0 s'.heap → Rel W env vis loc mem s' → Step NoD mem s.heap mem s'.heap → P (.ref I) s') : wpAny (model W.prog W.w) A (pyIter y) P E s := by
  by_cases q : ∃ us, v = .tup us
  · obtain ⟨us, rfl⟩ := q
    cases e
    have hv' := hv
    obtain ⟨a, vs, rfl, ht, r⟩ := hv'
    refine wpAny_pyIter_tuple (IsTup.tuple ht) ?_
    have k : KeepL env.locals s.heap (s.heap.push { cls := .type "tuple_iterator", data := .fields #[.ref a, .int 0 0] }) := .push _
    refine hp _ _ (size_none _) ?_ (R.step (R.keepM k) (R.keepS k)) (R.keepS k)
    obtain ⟨o, ho, hcl, n, hd⟩ := ht
    exact Or.inl ⟨rfl, a, vs, ⟨o, Heap.get?_push_of_some _ ho, hcl, n, hd⟩, r.keep (R.keepF k), _, Heap.get?_push_size _ rfl, rfl, rfl⟩
  · have ne : ∀ us, v ≠ .tup us := fun us h => q ⟨us, h⟩
    obtain ⟨a, vs, rfl, hl, r⟩ := lst_rel R.m hv (seq_lst e ne)
    refine wpAny_pyIter_list hl ?_
    have k : KeepL env.locals s.heap (s.heap.push { cls := .type "list_iterator", data := .fields #[.ref a, .int 0 0] }) := .push _
    refine hp _ _ (size_none _) ?_ (R.step (R.keepM k) (R.keepS k)) (R.keepS k)
    exact Or.inr ⟨ne, a, hv.keep (R.keepF k), _, Heap.get?_push_size _ rfl, rfl, rfl⟩
theorem range_start (R : Rel W env vis loc mem s) {n : Int} {t : Tok} (hn : 0 ≤ n ∧ n < lid) {P : Value → Shared → Prop}
    (hp : ∀ I s', s.heap.get? I = none → IterAt W .range (.int n) (rangeV n) I 0 s'.heap → Rel W env vis loc mem s' → Step NoD mem s.heap mem s'.heap → P (.ref I) s') :
    wpAny (model W.prog W.w) A (call (.type "range") [.int n t]) (fun y s' => wpAny (model W.prog W.w) A (pyIter y) P E s') E s := by
  refine call_range_1 ?_
  obtain ⟨h1, h2⟩ := small_range hn
  have k1 : KeepL env.locals s.heap (s.heap.push { cls := .type "range", data := .fields #[.int 0 s.toks, .int n t, .int 1 (s.toks + 1)] }) := .push _
  have R1 : Rel W env vis loc mem { s with heap := s.heap.push { cls := .type "range", data := .fields #[.int 0 s.toks, .int n t, .int 1 (s.toks + 1)] }, toks := s.toks + 1 + 1 } := R.step (R.keepM k1) (R.keepS k1)
  refine wpAny_pyIter_range (IsRange.new ..) h1 ?_
  rw [h2]
  have k2 : KeepL env.locals (s.heap.push { cls := .type "range", data := .fields #[.int 0 s.toks, .int n t, .int 1 (s.toks + 1)] }) ((s.heap.push { cls := .type "range", data := .fields #[.int 0 s.toks, .int n t, .int 1 (s.toks + 1)] }).push { cls := .type "range_iterator", data := .fields #[rawInt 0, rawInt ((n.toNat : Nat) : Int), rawInt 1] }) := .push _
  refine hp _ _ ?_ ?_ (R1.step (R1.keepM k2) (R1.keepS k2)) ((R.keepS k1).trans (R1.keepS k2))
  · cases q : s.heap.get? (s.heap.push { cls := .type "range", data := .fields #[.int 0 s.toks, .int n t, .int 1 (s.toks + 1)] }).objs.size with
    | none => rfl
    | some o => have := Heap.lt_size q; rw [Heap.size_push] at this; exact absurd this (Nat.not_lt.mpr (Nat.le_succ _))
  · show IsRangeIter _ _ ((0 : Nat) : Int) (((rangeV n).length : Int) - ((0 : Nat) : Int)) 1
    rw [rangeV_length]
    simp only [Int.ofNat_zero, Int.sub_zero]
    exact Heap.get?_push_size _ rfl

end TD

namespace TD
open PySem PyProof.Rows
variable {W : Cx} {A : Around} {E : Value → Shared → Prop} {env : Env} {vis : List (Nat × Str)} {loc : Loc} {mem : Mem} {s : Shared} {Q : Val → Mem → Prop}

theorem Step.off {D : Addr → Prop} {m1 m2 : Mem} {h1 h2 h3 : Heap} (x : Step D m1 h1 m2 h2) (S : Addr → Prop) (hS : ∀ b, S b → h1.get? b = none) (k : ∀ b o, ¬ S b → h2.get? b = some o → h3.get? b = some o) : Step D m1 h1 m2 h3 where
  alive := fun b e => by
    by_cases hb : S b
    · exact hS b hb
    · refine x.alive b ?_
      cases q : h2.get? b with
      | none => rfl
      | some o => rw [k b o hb q] at e; cases e
  keep := fun b o e hm hd => by
    obtain ⟨o', e', a⟩ := x.keep b o e hm hd
    exact ⟨o', k b o' (fun hb => by rw [hS b hb] at e; cases e) e', a⟩
  grow := x.grow

theorem compLoop_any {prog : Program} {w : World} {R : Result → Shared → Prop} {elt target iter : Expr} {ifs : List Expr} {scope : Scope} {pos : Pos} {it acc : Value} {env : Env} (I : Nat → Shared → Prop)
    (turn : ∀ n s, I n s → wpAny (model prog w) A (pyNext it) (fun r s₁ => match r with
      | none => R (.ok .next) s₁
      | some v => wpAny (model prog w) A (letOwnedTupleGo target it v) (fun _ s₁' => wpAny (model prog w) A (assign target env v) (fun _ s₂ =>
          wpAny (model prog w) A (forIn ifs true fun c r => if r = true then do let ok ← isTrue c env (eval c env); pure (ForInStep.yield ok) else pure (ForInStep.yield r)) (fun ok s₃ =>
            if ok = true then wpAny (model prog w) A (eval elt env) (fun x s₄ =>
              wpAny (model prog w) A (call (.builtin "list.append") [acc, x]) (fun _ s₅ => ∃ m, m < n ∧ I m s₅) (notedBy (model prog w) A env fun e s' => R (.error e) s') s₄) (notedBy (model prog w) A env fun e s' => R (.error e) s') s₃
            else ∃ m, m < n ∧ I m s₃) (notedBy (model prog w) A env fun e s' => R (.error e) s') s₂) (notedBy (model prog w) A env fun e s' => R (.error e) s') s₁') (notedBy (model prog w) A env fun e s' => R (.error e) s') s₁) (notedBy (model prog w) A env fun e s' => R (.error e) s') s)
    (n : Nat) (h : I n s) :
    codeAny (model prog w) A (.compLoop (.ListComp elt [⟨target, iter, ifs, 0⟩] scope pos) 0 it acc env) R s := by
  refine codeAny_loop rfl I (fun n s hI => ?_) n h
  show wpAny _ A ((compTurn (.ListComp elt [⟨target, iter, ifs, 0⟩] scope pos) 0 it acc env).onRaise (fun x => do noteFrame x env; theTreesLotGoes x)) _ _ s
  refine wpAny_noted ?_
  rw [compTurn_list]
  refine wpAny_bind (wpAny_standAt (wpAny_bind (wpAny_mono (turn n s hI) (fun r s₁ h₁ => ?_) fun _ _ h' => h')))
  cases r with
  | none => exact wpAny_pure h₁
  | some v =>
    refine wpAny_bind (wpAny_mono h₁ (fun _ s₁' h₁' => ?_) fun _ _ h' => h')
    refine wpAny_bind (wpAny_mono h₁' (fun _ s₂ h₂ => ?_) fun _ _ h' => h')
    refine wpAny_bind (wpAny_mono h₂ (fun ok s₃ h₃ => ?_) fun _ _ h' => h')
    cases ok with
    | false => exact wpAny_pure ⟨rfl, h₃⟩
    | true =>
      refine wpAny_bind (wpAny_bind (wpAny_mono h₃ (fun x s₄ h₄ => ?_) fun _ _ h' => h'))
      exact wpAny_bind (wpAny_mono h₄ (fun _ s₅ h₅ => wpAny_pure (wpAny_pure ⟨rfl, h₅⟩)) fun _ _ h' => h')

noncomputable def freeCells (env : Env) : List (Str × NameKind) → List (Str × Addr) → List (Str × Addr)
  | [], acc => acc
  | (n, k) :: r, acc => if k == .free then freeCells env r ((n, (env.cells.lookup n).getD 0) :: acc) else freeCells env r acc
theorem closure_eq {env : Env} {scope : Scope} (h : ∀ p ∈ scope.names, p.2 = .free → ∃ c, env.cells.lookup p.1 = some c) : closureFor scope env = pure (freeCells env scope.names []) := by
  have go : ∀ (l : List (Str × NameKind)) (acc : List (Str × Addr)), (∀ p ∈ l, p.2 = .free → ∃ c, env.cells.lookup p.1 = some c) →
      (forIn l acc fun x r => match x with | (name, kind) => if (kind == NameKind.free) = true then do let a ← cellOf env name; pure (ForInStep.yield ((name, a) :: r)) else pure (ForInStep.yield r)) = (pure (freeCells env l acc) : Sem _) := by
    intro l
    induction l with
    | nil => intro acc _; rfl
    | cons p r ih =>
      intro acc hl
      obtain ⟨n, k⟩ := p
      rw [List.forIn_cons]
      by_cases hk : (k == NameKind.free) = true
      · obtain ⟨c, hc⟩ := hl (n, k) (.head _) (by simpa using hk)
        have hc' : env.cells.lookup n = some c := hc
        simp only [hk, if_true]
        unfold freeCells
        rw [if_pos hk, hc']
        have : cellOf env n = pure c := by unfold cellOf; rw [hc']
        rw [this]
        exact ih _ fun p hp => hl p (.tail _ hp)
      · simp only [hk]
        unfold freeCells
        rw [if_neg hk]
        exact ih _ fun p hp => hl p (.tail _ hp)
  show (do let r ← forIn scope.names ([] : List (Str × Addr)) _; pure r) = _
  rw [show (forIn scope.names ([] : List (Str × Addr)) _ : Sem _) = _ from go scope.names [] h]
  rfl
theorem freeCells_lookup {env : Env} {x : Str} : ∀ (l : List (Str × NameKind)) (acc : List (Str × Addr)), (∀ p ∈ l, p.2 = .free → ∃ c, env.cells.lookup p.1 = some c) → ∀ c, (freeCells env l acc).lookup x = some c → (acc.lookup x = some c) ∨ ((x, NameKind.free) ∈ l ∧ env.cells.lookup x = some c)
  | [], acc, _, c, h => .inl h
  | (n, k) :: r, acc, hl, c, h => by
    unfold freeCells at h
    split at h
    · rename_i hk
      have hk' : k = .free := by simpa using hk
      rcases freeCells_lookup r _ (fun p hp => hl p (.tail _ hp)) c h with q | ⟨q1, q2⟩
      · rw [List.lookup_cons] at q
        split at q
        · rename_i hx
          have hx' : x = n := by simpa using hx
          obtain ⟨c', hc'⟩ := hl (n, k) (.head _) hk'
          have hc'' : env.cells.lookup n = some c' := hc'
          rw [hc''] at q
          cases q
          subst hx' hk'
          exact .inr ⟨.head _, hc''⟩
        · exact .inl q
      · exact .inr ⟨.tail _ q1, q2⟩
    · rcases freeCells_lookup r _ (fun p hp => hl p (.tail _ hp)) c h with q | ⟨q1, q2⟩
      · exact .inl q
      · exact .inr ⟨.tail _ q1, q2⟩
theorem freeCells_some {env : Env} {x : Str} : ∀ (l : List (Str × NameKind)) (acc : List (Str × Addr)), (∀ p ∈ l, p.2 = .free → ∃ c, env.cells.lookup p.1 = some c) → (x, NameKind.free) ∈ l ∨ (∃ c, acc.lookup x = some c) → ∃ c, (freeCells env l acc).lookup x = some c
  | [], acc, _, h => by
    rcases h with h | h
    · cases h
    · exact h
  | (n, k) :: r, acc, hl, h => by
    unfold freeCells
    split
    · rename_i hk
      refine freeCells_some r _ (fun p hp => hl p (.tail _ hp)) ?_
      rcases h with h | ⟨c, h⟩
      · cases h with
        | head => exact .inr ⟨_, by simp [List.lookup_cons]; rfl⟩
        | tail _ q => exact .inl q
      · refine .inr ?_
        rw [List.lookup_cons]
        split
        · exact ⟨_, rfl⟩
        · exact ⟨c, h⟩
    · rename_i hk
      refine freeCells_some r _ (fun p hp => hl p (.tail _ hp)) ?_
      rcases h with h | h
      · cases h with
        | head => simp at hk
        | tail _ q => exact .inl q
      · exact .inr h

end TD

namespace TD
open PySem PyProof.Rows
variable {W : Cx} {A : Around} {E : Value → Shared → Prop} {env : Env} {vis : List (Nat × Str)} {loc : Loc} {mem : Mem} {s : Shared} {Q : Val → Mem → Prop}

noncomputable def KeepBut (L : Addr) (h h' : Heap) : Prop := ∀ b o, b ≠ L → h.get? b = some o → h'.get? b = some o

noncomputable def unset : Loc → Nat → Loc
  | [], _ => []
  | x :: r, n => match n with | 0 => Option.none :: r | n + 1 => x :: unset r n
theorem assignT (R : Rel W env vis loc mem s) {t : Tg} (hh : A.handled = none ∨ ∃ i, t = .one i) (hv : VisOk vis) {target : Expr} {new : List (Nat × Str)} (hn : chkT t target = some new) (hm : ∀ p ∈ new, p ∈ vis) (hk : ∀ p ∈ new, env.kindOf p.2 = some .local ∨ env.kindOf p.2 = some .cell)
    {x : Val} {y : Value} (hx : VRel W s.heap x y) {l : Loc} (hl : setT t x loc l) {P : Unit → Shared → Prop}
    (hp : ∀ s', Rel W env vis l mem s' → Step (FrD env) mem s.heap mem s'.heap → ((∀ p ∈ new, env.kindOf p.2 = some .local) → KeepBut env.locals s.heap s'.heap) → P () s') : wpAny (model W.prog W.w) A (assign target env y) P E s := by
  cases t with
  | one i =>
    obtain ⟨z, pz, rfl, rfl⟩ := chkT1_inv hn
    obtain rfl : l = setV loc i x := hl
    refine wpAny_assign_Name (store_sound R hv (hm _ (.head _)) (hk _ (.head _)) hx fun s' R' S' ⟨a, _, ha, hs⟩ => hp s' R' S' fun hloc b o hb e => ?_)
    have := ha (hloc _ (.head _)); subst this
    exact (hs.2 b hb).trans e
  | two i j =>
    obtain ⟨z, pz, z', pz', kk, pp, rfl, _, _, rfl⟩ := chkT2_inv hn
    obtain ⟨a, b, rfl, rfl⟩ := hl
    have hx' := hx
    obtain ⟨ta, vs, rfl, ht, r⟩ := hx'
    obtain ⟨y1, ys, rfl, r1, r2⟩ := r.inv
    obtain ⟨y2, ys', rfl, r3, r4⟩ := r2.inv
    obtain rfl := r4.inv0
    have hh : A.handled = none := hh.elim id fun ⟨_, q⟩ => nomatch q
    refine wpAny_assign_Tuple hh (IsTup.tuple ht) rfl rfl fun h' he => ?_
    have k1 : ∀ b o, s.heap.get? b = some o → h'.get? b = some o := fun b o e => he b o (Nat.ne_of_lt (Heap.lt_size e)) e
    have k : KeepL env.locals s.heap h' := .of_keeps k1
    have R1 : Rel W env vis loc mem { s with heap := h' } := R.step (R.keepM k) (R.keepS k)
    have S1 := R.keepS k
    show wpAny _ A (do holding [y2] (assign (.Name z pz) env y1); (do holding [] (assign (.Name z' pz') env y2); pure ())) _ _ _
    refine wpAny_bind (wpAny_holding (wpAny_assign_Name (store_sound R1 hv (hm _ (.head _)) (hk _ (.head _)) (r1.keep (R.keepF k)) fun s2 R2 S2 ⟨a2, _, ha2, hs2⟩ => ?_)))
    refine wpAny_bind (wpAny_holding (wpAny_assign_Name (store_sound R2 hv (hm _ (.tail _ (.head _))) (hk _ (.tail _ (.head _))) (r3.keep fun b o e hf => (S2.keepF R1.m.mems R1.e.dok) b o (R.keepF k b o e hf) hf) fun s3 R3 S3 ⟨a3, _, ha3, hs3⟩ => ?_)))
    refine wpAny_pure (hp s3 R3 ((S1.mono (fun _ q => q.elim)).trans (S2.trans S3)) fun hloc b o hb e => ?_)
    have h2 := ha2 (hloc _ (.head _)); have h3 := ha3 (hloc _ (.tail _ (.head _)))
    subst h2; subst h3
    exact (hs3.2 b hb).trans ((hs2.2 b hb).trans (k1 b o e))

noncomputable def unsetT (t : Tg) (l : Loc) : Loc := match t with
  | .one i => unset l i
  | .two i j => unset (unset l i) j
theorem getV_unset {u : Val} {l : Loc} : ∀ {i j : Nat}, getV (unset l i) j = some u → j ≠ i ∧ getV l j = some u := by
  induction l with
  | nil => intro i j h; exact no h
  | cons x r ih =>
    intro i j h
    cases i with
    | zero => cases j with
      | zero => exact no h
      | succ j => exact ⟨Nat.succ_ne_zero j, h⟩
    | succ i => cases j with
      | zero => exact ⟨(Nat.succ_ne_zero i).symm, h⟩
      | succ j => obtain ⟨a, b⟩ := ih (i := i) (j := j) h; exact ⟨fun q => a (Nat.succ.inj q), b⟩
theorem setV_setV {u v : Val} (l : Loc) : ∀ i, setV (setV l i u) i v = setV l i v := by
  induction l with
  | nil => intro i; rfl
  | cons x r ih => intro i; cases i with
    | zero => rfl
    | succ i => exact congrArg (x :: ·) (ih i)
theorem setV_unset {v : Val} (l : Loc) : ∀ i, setV (unset l i) i v = setV l i v := by
  induction l with
  | nil => intro i; rfl
  | cons x r ih => intro i; cases i with
    | zero => rfl
    | succ i => exact congrArg (x :: ·) (ih i)
theorem setV_comm {u v : Val} (l : Loc) : ∀ {i j : Nat}, i ≠ j → setV (setV l i u) j v = setV (setV l j v) i u := by
  induction l with
  | nil => intro i j _; rfl
  | cons x r ih => intro i j h; cases i with
    | zero => cases j with
      | zero => exact absurd rfl h
      | succ j => rfl
    | succ i => cases j with
      | zero => rfl
      | succ j => exact congrArg (x :: ·) (ih fun q => h (congrArg Nat.succ q))
theorem unset_setV_comm {u : Val} (l : Loc) : ∀ {i j : Nat}, i ≠ j → setV (unset l j) i u = unset (setV l i u) j := by
  induction l with
  | nil => intro i j _; rfl
  | cons x r ih => intro i j h; cases i with
    | zero => cases j with
      | zero => exact absurd rfl h
      | succ j => rfl
    | succ i => cases j with
      | zero => rfl
      | succ j => exact congrArg (x :: ·) (ih fun q => h (congrArg Nat.succ q))
noncomputable def SameT (t : Tg) (l' l : Loc) : Prop := ∀ x r, setT t x l r → setT t x l' r
noncomputable def TgOk : Tg → Prop
  | .one _ => True
  | .two i j => i ≠ j
theorem SameT.unset {t : Tg} {l : Loc} (ht : TgOk t) : SameT t (unsetT t l) l := fun x r h => by
  cases t with
  | one i => exact (show r = setV l i x from h).trans (setV_unset l i).symm
  | two i j =>
    have hij : i ≠ j := ht
    obtain ⟨a, b, e, h⟩ := h
    refine Exists.intro a ⟨b, e, h.trans ?_⟩
    show _ = setV (setV (TD.unset (TD.unset l i) j) i a) j b
    rw [unset_setV_comm _ hij, setV_unset, setV_unset]
theorem SameT.set {t : Tg} {x : Val} {l l' : Loc} (ht : TgOk t) (h : setT t x l l') : SameT t l' l := fun y r q => by
  cases t with
  | one i =>
    obtain rfl : l' = setV l i x := h
    exact (show r = setV l i y from q).trans (setV_setV l i).symm
  | two i j =>
    have hij : i ≠ j := ht
    obtain ⟨a, b, _, rfl⟩ := h
    obtain ⟨c, d, e, rfl⟩ := q
    refine Exists.intro c ⟨d, e, ?_⟩
    rw [setV_comm (setV l i a) (Ne.symm hij), setV_setV, setV_setV]

end TD

namespace TD
open PySem PyProof.Rows
variable {W : Cx} {A : Around} {E : Value → Shared → Prop} {env : Env} {vis : List (Nat × Str)} {loc : Loc} {mem : Mem} {s : Shared} {Q : Val → Mem → Prop}

theorem Rel.off (R : Rel W env vis loc mem s) {s' : Shared} (a : Addr) (ha : mem a = none) (hb : W.base.get? a = none) (hd : ¬ FrD env a) (hf : ∀ o, s.heap.get? a = some o → ¬ Fixed o)
    (k : KeepBut a s.heap s'.heap) (hg : s'.gens = s.gens := by rfl) (ho : s'.os = s.os := by rfl) : Rel W env vis loc mem s' ∧ KeepF s.heap s'.heap := by
  have kf : KeepF s.heap s'.heap := fun b o e hfx => k b o (by rintro rfl; exact hf o e hfx) e
  refine ⟨⟨⟨fun b o e => k b o (by rintro rfl; rw [hb] at e; cases e) (R.m.stays b o e), fun b o e => ?_, hg.trans R.m.gens, ho.trans R.m.os⟩, ?_, R.sep, R.new⟩, kf⟩
  · obtain ⟨r, nb⟩ := R.m.mems b o e
    have hba : b ≠ a := by rintro rfl; rw [ha] at e; cases e
    exact ⟨r.at (fun _ e => k _ _ hba e) kf, nb⟩
  · exact R.e.keep kf fun b o hbd e => ⟨o, k b o (by rintro rfl; exact hd hbd) e, .refl o⟩

theorem owned_sound {k : ItK} {v : Val} {xs : List Val} {I : Addr} {i : Nat} (hi : IterAt W k v xs I i s.heap) {target : Expr} {y : Value} {P : Unit → Shared → Prop} (hp : P () s) : wpAny (model W.prog W.w) A (letOwnedTupleGo target (.ref I) y) P E s := by
  have hcls : ∃ o fs T, s.heap.get? I = some o ∧ o.cls = .type T ∧ o.data = .fields fs ∧ (T = "list_iterator" ∨ T = "tuple_iterator" ∨ T = "range_iterator") := by
    cases k with
    | plain =>
      rcases hi with ⟨_, a, vs, _, _, o, ho, hc, hd⟩ | ⟨_, a, _, o, ho, hc, hd⟩
      · exact ⟨o, _, _, ho, hc, hd, .inr (.inl rfl)⟩
      · exact ⟨o, _, _, ho, hc, hd, .inl rfl⟩
    | range => exact ⟨_, _, _, hi, rfl, rfl, .inr (.inr rfl)⟩
  obtain ⟨o, fs, T, ho, hc, hd, hT⟩ := hcls
  have go : wpAny (model W.prog W.w) A (do
      let o ← load I
      match o.cls, o.data with
      | .type n, .fields vs =>
        if (["enumerate", "zip", "dict_itemiterator", "dict_reverseitemiterator", "odict_iterator", "itertools.zip_longest", "itertools.pairwise"].contains n && vs[0]? == some (rawInt (match y with | .ref a => a | _ => 0))) = true then do
          rule "for.unpacks-the-owned-tuple"
          updateField I 0 .none
        else pure ()
      | _, _ => pure ()) P E s := by
    refine wpAny_bind (wpAny_load ho ?_)
    rw [hc, hd]
    dsimp only
    rw [if_neg]
    · exact wpAny_pure hp
    · rcases hT with rfl | rfl | rfl <;> simp
  unfold letOwnedTupleGo
  cases target <;> first | exact wpAny_pure hp | (cases y <;> first | exact wpAny_pure hp | exact go)

theorem chkScope_spec {sc csc : Scope} {new vis : List (Nat × Str)} (h : chkScope sc csc new vis = true) :
    csc.kind = .function ∧ (∀ p ∈ csc.names, p.2 ≠ .cell) ∧ (∀ p ∈ csc.names, p.2 = .local → csc.names.lookup p.1 = some .local ∧ (p.1 = (".0" : Str) ∨ ∃ q ∈ new, q.2 = p.1)) ∧ (∀ p ∈ csc.names, p.2 = .free → kindIs sc p.1 = true) ∧
      (∀ q ∈ new, csc.names.lookup q.2 = some .local) ∧ (∀ q ∈ vis, q.2 ≠ (".0" : Str)) ∧ (∀ p ∈ vis, ∀ q ∈ new, p.1 ≠ q.1) := by
  unfold chkScope at h
  simp only [Bool.and_eq_true, List.all_eq_true, beq_iff_eq] at h
  obtain ⟨⟨⟨⟨⟨⟨⟨h1, _⟩, _⟩, h4⟩, h5⟩, h6⟩, _⟩, h7⟩ := h
  refine ⟨h1, fun p hp e => ?_, fun p hp e => ?_, fun p hp e => ?_, h5, fun q hq e => ?_, fun p hp q hq e => ?_⟩
  · have := h4 p hp; rw [e] at this; simp at this
  · have := h4 p hp
    rw [e] at this
    simp only [Bool.and_eq_true, beq_iff_eq, Bool.or_eq_true, List.any_eq_true] at this
    exact this
  · have := h4 p hp; rw [e] at this; exact this
  · have := h6 q hq
    rw [e] at this; simp at this
  · have := h7 p hp q hq
    rw [e] at this; simp at this

theorem lookup_relabel {env : Env} {x : Str} {k : NameKind} : ∀ {names : List (Str × NameKind)}, names.lookup x = some k →
    (names.map fun (n, k) => if (k == NameKind.free && env.scope.kind == .function && env.kindOf n == some .cell) then (n, NameKind.cell) else (n, k)).lookup x = some (if (k == NameKind.free && env.scope.kind == .function && env.kindOf x == some .cell) then .cell else k)
  | [], h => by simp at h
  | (n, k') :: r, h => by
    simp only [List.map_cons]
    rw [List.lookup_cons] at h
    split at h
    · rename_i q
      cases h
      have : x = n := by simpa using q
      subst this
      split <;> simp [List.lookup_cons]
    · rename_i q
      have ih := lookup_relabel (env := env) h
      split <;> (rw [List.lookup_cons, q]; exact ih)
theorem lookup_relabel_none {env : Env} {x : Str} : ∀ {names : List (Str × NameKind)}, names.lookup x = none →
    (names.map fun (n, k) => if (k == NameKind.free && env.scope.kind == .function && env.kindOf n == some .cell) then (n, NameKind.cell) else (n, k)).lookup x = none
  | [], h => rfl
  | (n, k') :: r, h => by
    simp only [List.map_cons]
    rw [List.lookup_cons] at h
    split at h
    · cases h
    · rename_i q
      have ih := lookup_relabel_none (env := env) h
      split <;> (rw [List.lookup_cons, q]; exact ih)
theorem mem_of_lookup {x : Str} {k : NameKind} : ∀ {l : List (Str × NameKind)}, l.lookup x = some k → (x, k) ∈ l
  | (n, k') :: r, h => by
    rw [List.lookup_cons] at h
    split at h
    · rename_i q; cases h; have : x = n := by simpa using q
      subst this; exact .head _
    · exact .tail _ (mem_of_lookup h)

noncomputable abbrev cEnv (csc : Scope) (C : Addr) (env : Env) : Env :=
  { scope := relabel csc env, locals := C, globals := env.globals, cells := freeCells env csc.names [], qual := env.qual, func := none, code := env.code, frame := env.frame, builtins := env.builtins }

theorem cEnv_kind {csc : Scope} {C : Addr} {x : Str} {k : NameKind} (h : (cEnv csc C env).kindOf x = some k) :
    ∃ k', csc.names.lookup x = some k' ∧ (k' ≠ .free → k = k') ∧ (k' = .free → k = .free ∨ k = .cell) := by
  have h' : (csc.names.map fun (n, k) => if (k == NameKind.free && env.scope.kind == .function && env.kindOf n == some .cell) then (n, NameKind.cell) else (n, k)).lookup x = some k := h
  cases q : csc.names.lookup x with
  | none => rw [lookup_relabel_none q] at h'; cases h'
  | some k' =>
    rw [lookup_relabel q] at h'
    refine ⟨k', rfl, fun hn => ?_, fun hf => ?_⟩
    · rw [if_neg (by simp [hn])] at h'; cases h'; rfl
    · subst hf
      split at h'
      · cases h'; exact .inr rfl
      · cases h'; exact .inl rfl
theorem cEnv_sc {csc : Scope} {C : Addr} : ScOk csc (cEnv csc C env) := fun x k h => by
  have h' : (cEnv csc C env).kindOf x = some (if (k == NameKind.free && env.scope.kind == .function && env.kindOf x == some .cell) then .cell else k) := lookup_relabel h
  refine ⟨fun hf => ?_, fun hn => ?_⟩
  · subst hf
    rw [h']
    split
    · exact .inr rfl
    · exact .inl rfl
  · rw [h', if_neg (by simp [hn])]

theorem free_cells {sc csc : Scope} {new : List (Nat × Str)} (R : Rel W env vis loc mem s) (hsc : ScOk sc env) (hc : chkScope sc csc new vis = true) : ∀ p ∈ csc.names, p.2 = .free → ∃ c, env.cells.lookup p.1 = some c := fun p hp hf => by
  have h := (chkScope_spec hc).2.2.2.1 p hp hf
  unfold kindIs at h
  split at h
  · rename_i q; exact R.e.cellk _ _ ((hsc _ _ q).2 (by simp)) (.inl rfl)
  · rename_i q
    rcases (hsc _ _ q).1 rfl with q' | q'
    · exact R.e.cellk _ _ q' (.inr rfl)
    · exact R.e.cellk _ _ q' (.inl rfl)
  · cases h

theorem cEnv_rel {sc csc : Scope} {new : List (Nat × Str)} {C : Addr} {t : Tg} {target : Expr} (R : Rel W env vis loc mem s) (hsc : ScOk sc env) (hc : chkScope sc csc new vis = true) (hT : chkT t target = some new)
    (hC : s.heap.Ns C fun _ => none) (hm : mem C = none) (hb : W.base.get? C = none) : Rel W (cEnv csc C env) (newVis new vis) (unsetT t loc) mem s := by
  obtain ⟨h1, h2, h3, h4, h5, h6, _⟩ := chkScope_spec hc
  have hfc := free_cells R hsc hc
  have hcl : ∀ x c, (freeCells env csc.names []).lookup x = some c → (x, NameKind.free) ∈ csc.names ∧ env.cells.lookup x = some c := fun x c h => by
    rcases freeCells_lookup csc.names [] hfc c h with q | q
    · cases q
    · exact q
  have hgv : ∀ i x v, (i, x) ∈ newVis new vis → getV (unsetT t loc) i = some v → (i, x) ∈ vis ∧ (∀ q ∈ new, q.2 ≠ x) ∧ getV loc i = some v := fun i x v hi hg => by
    unfold newVis at hi
    rcases List.mem_append.mp hi with hi | hi
    · exfalso
      cases t with
      | one j =>
        obtain ⟨z, pz, rfl, rfl⟩ := chkT1_inv hT
        have : i = j := by have := List.mem_singleton.mp hi; cases this; rfl
        subst this
        exact (getV_unset hg).1 rfl
      | two j j' =>
        obtain ⟨z, pz, z', pz', kk, pp, rfl, _, _, rfl⟩ := chkT2_inv hT
        have g1 := getV_unset (l := unset loc j) hg
        have g2 := getV_unset g1.2
        rcases List.mem_cons.mp hi with q | q
        · cases q; exact g2.1 rfl
        · have := List.mem_singleton.mp q; cases this; exact g1.1 rfl
    · rw [List.mem_filter] at hi
      have hnew : ∀ q ∈ new, q.2 ≠ x := fun q hq e => by
        have := hi.2
        simp only [Bool.not_eq_true', List.any_eq_false, beq_iff_eq] at this
        exact this q hq e
      refine ⟨hi.1, hnew, ?_⟩
      cases t with
      | one j => exact (getV_unset hg).2
      | two j j' => exact (getV_unset (getV_unset hg).2).2
  refine ⟨R.m, ⟨h1, R.e.glob, R.e.blt, ⟨_, hC, fun i x v hi hg hk => ?_⟩, fun i x v k hi hg hk hck => ?_, fun x k hk hck => ?_, fun x c hx => ?_, fun x y c hx hy => ?_⟩, fun b hbd => ?_, fun b hbd => ?_⟩
  · exfalso
    obtain ⟨g1, g2, g3⟩ := hgv i x v hi hg
    obtain ⟨k', e1, e2, e3⟩ := cEnv_kind hk
    have : k' = .local := by
      cases k' with
      | free => rcases e3 rfl with q | q <;> cases q
      | «local» => rfl
      | cell => have := e2 (by simp); cases this
      | globalExplicit => have := e2 (by simp); cases this
      | globalImplicit => have := e2 (by simp); cases this
    subst this
    rcases (h3 (x, .local) (mem_of_lookup e1) rfl).2 with q | ⟨q, hq, e⟩
    · exact h6 _ g1 q
    · exact g2 q hq e
  · obtain ⟨g1, g2, g3⟩ := hgv i x v hi hg
    obtain ⟨k', e1, e2, e3⟩ := cEnv_kind hk
    have hk' : k' = .free := by
      cases k' with
      | free => rfl
      | cell => exact absurd rfl (h2 _ (mem_of_lookup e1))
      | «local» => have := e2 (by simp); subst this; rcases hck with q | q <;> cases q
      | globalExplicit => have := e2 (by simp); subst this; rcases hck with q | q <;> cases q
      | globalImplicit => have := e2 (by simp); subst this; rcases hck with q | q <;> cases q
    subst hk'
    have hm' := mem_of_lookup e1
    obtain ⟨c, hc'⟩ := freeCells_some csc.names [] hfc (.inl hm')
    have hcc := (hcl x c hc').2
    have hks := h4 _ hm' rfl
    have hkk : ∃ kk, env.kindOf x = some kk ∧ (kk = .cell ∨ kk = .free) := by
      unfold kindIs at hks
      split at hks
      · rename_i q; exact ⟨_, (hsc _ _ q).2 (by simp), .inl rfl⟩
      · rename_i q
        rcases (hsc _ _ q).1 rfl with q' | q'
        · exact ⟨_, q', .inr rfl⟩
        · exact ⟨_, q', .inl rfl⟩
      · cases hks
    obtain ⟨kk, hk1, hk2⟩ := hkk
    obtain ⟨c', y, f1, f2, f3⟩ := R.e.cell i x v kk g1 g3 hk1 hk2
    rw [hcc] at f1; cases f1
    exact ⟨c, y, hc', f2, f3⟩
  · obtain ⟨k', e1, e2, e3⟩ := cEnv_kind hk
    have hk' : k' = .free := by
      cases k' with
      | free => rfl
      | cell => exact absurd rfl (h2 _ (mem_of_lookup e1))
      | «local» => have := e2 (by simp); subst this; rcases hck with q | q <;> cases q
      | globalExplicit => have := e2 (by simp); subst this; rcases hck with q | q <;> cases q
      | globalImplicit => have := e2 (by simp); subst this; rcases hck with q | q <;> cases q
    subst hk'
    exact freeCells_some csc.names [] hfc (.inl (mem_of_lookup e1))
  · exact R.e.cells x c (hcl x c hx).2
  · exact R.e.apart x y c (hcl x c hx).2 (hcl y c hy).2
  · rcases hbd with rfl | ⟨x, hx⟩
    · exact hm
    · exact R.sep _ (.inr ⟨x, (hcl x b hx).2⟩)
  · rcases hbd with rfl | ⟨x, hx⟩
    · exact hb
    · exact R.new _ (.inr ⟨x, (hcl x b hx).2⟩)

end TD

namespace TD
open PySem PyProof.Rows
variable {W : Cx} {A : Around} {E : Value → Shared → Prop} {env : Env} {vis : List (Nat × Str)} {loc : Loc} {mem : Mem} {s : Shared} {Q : Val → Mem → Prop}

theorem newVis_ok {new vis : List (Nat × Str)} {t : Tg} {target : Expr} (hT : chkT t target = some new) (hv : VisOk vis) (hi : ∀ p ∈ vis, ∀ q ∈ new, p.1 ≠ q.1) : VisOk (newVis new vis) := by
  have hnew : ∀ i x j y, (i, x) ∈ new → (j, y) ∈ new → (i = j ↔ x = y) := by
    cases t with
    | one j =>
      obtain ⟨z, pz, rfl, rfl⟩ := chkT1_inv hT
      intro i x j y h1 h2
      have a := List.mem_singleton.mp h1; have b := List.mem_singleton.mp h2
      cases a; cases b; exact ⟨fun _ => rfl, fun _ => rfl⟩
    | two j j' =>
      obtain ⟨z, pz, z', pz', kk, pp, rfl, hne1, hne2, rfl⟩ := chkT2_inv hT
      intro a x b y h1 h2
      rcases List.mem_cons.mp h1 with h1 | h1 <;> rcases List.mem_cons.mp h2 with h2 | h2
      · cases h1; cases h2; exact ⟨fun _ => rfl, fun _ => rfl⟩
      · have h2 := List.mem_singleton.mp h2; cases h1; cases h2; exact ⟨fun q => absurd q hne2, fun q => absurd q hne1⟩
      · have h1 := List.mem_singleton.mp h1; cases h1; cases h2; exact ⟨fun q => absurd q.symm hne2, fun q => absurd q.symm hne1⟩
      · have h1 := List.mem_singleton.mp h1; have h2 := List.mem_singleton.mp h2; cases h1; cases h2; exact ⟨fun _ => rfl, fun _ => rfl⟩
  intro i x j y h1 h2
  unfold newVis at h1 h2
  rcases List.mem_append.mp h1 with h1 | h1 <;> rcases List.mem_append.mp h2 with h2 | h2
  · exact hnew i x j y h1 h2
  · rw [List.mem_filter] at h2
    have hy : ∀ q ∈ new, q.2 ≠ y := fun q hq e => by
      have := h2.2
      simp only [Bool.not_eq_true', List.any_eq_false, beq_iff_eq] at this
      exact this q hq e
    exact ⟨fun e => absurd e (Ne.symm (hi _ h2.1 _ h1)), fun e => absurd e (hy _ h1)⟩
  · rw [List.mem_filter] at h1
    have hy : ∀ q ∈ new, q.2 ≠ x := fun q hq e => by
      have := h1.2
      simp only [Bool.not_eq_true', List.any_eq_false, beq_iff_eq] at this
      exact this q hq e
    exact ⟨fun e => absurd e (hi _ h1.1 _ h2), fun e => absurd e.symm (hy _ h2)⟩
  · rw [List.mem_filter] at h1 h2
    exact hv i x j y h1.1 h2.1

theorem tgOk_of {t : Tg} {target : Expr} {new : List (Nat × Str)} (hT : chkT t target = some new) : TgOk t := by
  cases t with
  | one _ => trivial
  | two i j =>
    obtain ⟨z, pz, z', pz', kk, pp, _, _, hne, _⟩ := chkT2_inv hT
    exact hne

theorem Cur.stands {k : ItK} {v : Val} {xs : List Val} {mem mem' : Mem} (h : Cur k v xs mem) (hs : stands k v mem mem') : Cur k v xs mem' := by
  cases k with
  | plain =>
    cases v with
    | tup _ => exact h
    | _ => exact (show lst mem' _ = _ from hs).trans h
  | range => exact h

theorem iter_self {k : ItK} {v : Val} {xs : List Val} {I : Addr} {i : Nat} (hi : IterAt W k v xs I i s.heap) {P : Value → Shared → Prop} (hp : P (.ref I) s) : wpAny (model W.prog W.w) A (pyIter (.ref I)) P E s := by
  cases k with
  | plain =>
    rcases hi with ⟨_, a, vs, _, _, hit⟩ | ⟨_, a, _, hit⟩
    · exact wpAny_pyIter_tupleiter hit hp
    · exact wpAny_pyIter_listiter hit hp
  | range => exact wpAny_pyIter_rangeiter hi hp

theorem turn_lt {n i : Nat} (h : i < n) : n + 1 - (i + 1) < n + 1 - i := by walk_at "o"
inductive CI (W : Cx) (csc : Scope) (env : Env) (vis' : List (Nat × Str)) (t : Tg) (loc : Loc) (mem : Mem) (h₀ : Heap) (k : ItK) (v : Val) (xs : List Val) (I D C' : Addr) (B : Loc → (Bool → Mem → Prop) → Mem → Prop) (V : Loc → (Val → Mem → Prop) → Mem → Prop) (QL : List Val → Mem → Prop) (n : Nat) (s' : Shared) : Prop
  | mk (i : Nat) (mem' : Mem) (l' : Loc) (ys : List Val) (vs : List Value) (h1 : n = xs.length + 1 - i) (h2 : i ≤ xs.length) (h3 : SameT t l' loc) (h4 : Rel W (cEnv csc C' env) vis' l' mem' s') (h5 : Step NoD mem h₀ mem' s'.heap) (h6 : IterAt W k v xs I i s'.heap)
      (h7 : stands k v mem mem') (h8 : s'.heap.PlainList D (List.toArray vs)) (h9 : VRels W s'.heap ys vs) (h10 : mem' D = none) (h11 : mem' I = none) (h12 : ys.length ≤ i) (h13 : compLoop (compF t loc B V) (stands k v mem) (xs.drop i) ys QL mem')
theorem comp_core {B : Loc → (Bool → Mem → Prop) → Mem → Prop} {V : Loc → (Val → Mem → Prop) → Mem → Prop} {k : ItK} {v : Val} {xs : List Val} {I : Addr} {s₂ : Shared} {sc csc : Scope} {new : List (Nat × Str)} {t : Tg} {target iter elt' : Expr} {ifs : List Expr} {pos : Pos}
    {QL : List Val → Mem → Prop} {RR : Value → Addr → Result → Shared → Prop} (hh : A.handled = none ∨ k = .plain ∧ (∀ us, v ≠ .tup us) ∧ (∃ i, t = .one i) ∧ Han A mem s.heap)
    (R : Rel W env vis loc mem s) (R2 : Rel W env vis loc mem s₂) (S2 : Step NoD mem s.heap mem s₂.heap) (hI : s.heap.get? I = none) (hit : IterAt W k v xs I 0 s₂.heap) (hcur : Cur k v xs mem) (hlen : xs.length < lid)
    (hsc : ScOk sc env) (hchk : chkScope sc csc new vis = true) (hT : chkT t target = some new) (hv : VisOk vis) (hi : ∀ p ∈ vis, ∀ q ∈ new, p.1 ≠ q.1)
    (htests : ∀ C' l P mem' s' E', Rel W (cEnv csc C' env) (newVis new vis) l mem' s' → B l P mem' →
      wpAny (model W.prog W.w) A (forIn ifs true fun c r => if r = true then do let ok ← isTrue c (cEnv csc C' env) (eval c (cEnv csc C' env)); pure (ForInStep.yield ok) else pure (ForInStep.yield r)) (PT W mem' s' P) E' s')
    (helt : ∀ D C' l P mem' s', s.heap.get? C' = none → mem' C' = none → Rel W (cEnv csc C' env) (newVis new vis) l mem' s' → Step NoD mem s.heap mem' s'.heap → V l P mem' → wpAny (model W.prog W.w) A (eval elt' (cEnv csc C' env)) (PM W mem' s' P) (notedBy (model W.prog W.w) A (cEnv csc C' env) fun e s' => RR (.ref D) C' (.error e) s') s')
    (hloop : compLoop (compF t loc B V) (stands k v mem) xs [] QL mem)
    (hRR : ∀ D C' s' mem' ys vs m, s.heap.get? D = none → s.heap.get? C' = none → C' ≠ D → s'.heap.Ns C' m → s'.heap.PlainList D (List.toArray vs) → VRels W s'.heap ys vs → MRel W mem' s' → Step NoD mem s.heap mem' s'.heap → mem' C' = none → mem' D = none → QL ys mem' →
      RR (.ref D) C' (.ok .next) s') :
    wpAny (model W.prog W.w) A (newList []) (fun acc s₃ => wpAny (model W.prog W.w) A (newFunctionEnv csc env.globals (freeCells env csc.names []) [] env.qual none .none (some env)) (fun cenv s₄ =>
      codeAny (model W.prog W.w) A (.compStart (.ListComp elt' [⟨target, iter, ifs, 0⟩] csc pos) 0 (.ref I) acc { cenv with scope := relabel csc env }) (RR acc cenv.locals) s₄) E s₃) E s₂ := by
  obtain ⟨c1, c2, c3, c4, c5, c6, _⟩ := chkScope_spec hchk
  have gone : ∀ b, s₂.heap.get? b = none → s.heap.get? b = none := S2.alive
  refine wpAny_newObj_type ?_ (by show ([] : List Value).toArray.size ≤ sizeLine; simp)
  refine wpAny_newFunctionEnv c2 (by intro x hx; cases hx) (fun h₄ hns hsb => ?_) c1
  dsimp only at hns hsb ⊢
  generalize hDdef : s₂.heap.objs.size = D at hns hsb ⊢
  generalize hH3 : s₂.heap.push { cls := .type "list", data := .seq ([] : List Value).toArray } = H3 at hns hsb ⊢
  generalize hCdef : H3.objs.size = C' at hns hsb ⊢
  have hCD : C' = D + 1 := by rw [← hCdef, ← hH3, Heap.size_push, hDdef]
  have hDne : C' ≠ D := by rw [hCD]; exact Nat.succ_ne_self D
  have hD2 : s₂.heap.get? D = none := hDdef ▸ size_none _
  have hC2 : s₂.heap.get? C' = none := by
    cases q : s₂.heap.get? C' with
    | none => rfl
    | some o => have := Heap.lt_size q; rw [hDdef, hCD] at this; exact absurd this (Nat.not_lt.mpr (Nat.le_succ _))
  have old : ∀ b o, s₂.heap.get? b = some o → h₄.get? b = some o := fun b o e => by
    have hb : b ≠ C' := by rintro rfl; rw [hC2] at e; cases e
    rw [hsb.2 b hb]
    exact Heap.get?_push_of_some _ (hH3 ▸ Heap.get?_push_of_some _ e)
  have hDobj : h₄.get? D = some { cls := .type "list", data := .seq ([] : List Value).toArray } := by
    rw [hsb.2 D (Ne.symm hDne)]
    refine Heap.get?_push_of_some _ ?_
    rw [← hH3, ← hDdef]; exact Heap.get?_push_size _ rfl
  have kL : KeepL env.locals s₂.heap h₄ := .of_keeps old
  have R4 : Rel W env vis loc mem { s₂ with heap := h₄, toks := s₂.toks + ([] : List (Str × Value)).length } := R2.step (R2.keepM kL) (R2.keepS kL)
  have S4 : Step NoD mem s.heap mem h₄ := S2.trans (R2.keepS kL)
  have hbase : ∀ b, s.heap.get? b = none → W.base.get? b = none := fun b e => by
    cases q : W.base.get? b with
    | none => rfl
    | some o => rw [R.m.stays b o q] at e; cases e
  have hsD := gone D hD2
  have hsC := gone C' hC2
  have RC := cEnv_rel (csc := csc) (C := C') R4 hsc hchk hT (by simpa using hns) (R.m.mems.fresh hsC) (hbase _ hsC)
  have hit4 : IterAt W k v xs I 0 h₄ := hit.keep (R2.keepF kL) fun o e => old I o e
  have hv' := newVis_ok hT hv hi
  have htg := tgOk_of hT
  have hkn : ∀ p ∈ new, (cEnv csc C' env).kindOf p.2 = some .local := fun p hp => (cEnv_sc (csc := csc) (C := C') (env := env) _ _ (c5 p hp)).2 (by simp)
  have hmn : ∀ p ∈ new, p ∈ newVis new vis := fun p hp => List.mem_append_left _ hp
  have hI2 : ∃ o, s₂.heap.get? I = some o := let ⟨o, _, e, _⟩ := hit.there; ⟨o, e⟩
  have hDI : I ≠ D := by rintro rfl; obtain ⟨o, e⟩ := hI2; rw [hD2] at e; cases e
  have hCI : I ≠ C' := by rintro rfl; obtain ⟨o, e⟩ := hI2; rw [hC2] at e; cases e
  have loop : codeAny (model W.prog W.w) A (.compLoop (.ListComp elt' [⟨target, iter, ifs, 0⟩] csc pos) 0 (.ref I) (.ref D) (cEnv csc C' env)) (RR (.ref D) C') { s₂ with heap := h₄, toks := s₂.toks + ([] : List (Str × Value)).length } := by
    refine compLoop_any (CI W csc env (newVis new vis) t loc mem s.heap k v xs I D C' B V QL) ?_ (xs.length + 1)
      (.mk 0 mem (unsetT t loc) [] [] rfl (Nat.zero_le _) (SameT.unset htg) RC S4 hit4 (by cases k <;> first | trivial | rfl) ⟨0, hDobj⟩ .nil (R.m.mems.fresh hsD) (R.m.mems.fresh hI) (Nat.le_refl _) hloop)
    rintro n s' ⟨i, mem', l', ys, vs, rfl, hi', hst, R', S', hit', hstd, hpl, hr, hmD, hmI, hys, hlp⟩
    have hnC : ∀ b, FrD (cEnv csc C' env) b → ∃ o, s'.heap.get? b = some o ∧ ((∃ es n, o.data = .dict es n) ∨ ∃ u, o.data = .cell u) := fun b hb => R'.e.there hb
    have hDnf : ¬ FrD (cEnv csc C' env) D := fun hb => by
      obtain ⟨o, e, hd⟩ := hnC D hb
      obtain ⟨n, hn⟩ := hpl
      rw [hn] at e; cases e
      rcases hd with ⟨_, _, q⟩ | ⟨_, q⟩ <;> cases q
    have hInf : ¬ FrD (cEnv csc C' env) I := fun hb => by
      obtain ⟨o, e, hd⟩ := hnC I hb
      obtain ⟨o', fs, e', hd'⟩ := hit'.there
      rw [e] at e'; cases e'
      rw [hd'] at hd
      rcases hd with ⟨_, _, q⟩ | ⟨_, q⟩ <;> cases q
    by_cases hlt : i < xs.length
    · refine iter_next R'.m (hcur.stands hstd) hit' hmI hlt fun x y h' tk hx hxr hit1 hs1 => ?_
      have kb1 : KeepBut I s'.heap h' := fun b o hb e => (hs1.2 b hb).trans e
      obtain ⟨R1, kf1⟩ := R'.off (s' := { s' with heap := h', toks := tk }) I hmI (hbase _ hI) hInf (fun o e hf => by
        obtain ⟨o', fs, e', hd'⟩ := hit'.there
        rw [e] at e'; cases e'
        obtain ⟨_, _, _, q⟩ := hf; rw [hd'] at q; cases q) kb1
      have S1 : Step NoD mem s.heap mem' h' := S'.off (· = I) (fun b hb => hb ▸ hI) fun b o hb e => kb1 b o hb e
      refine owned_sound hit1 ?_
      have hdrop : xs.drop i = x :: xs.drop (i + 1) := by
        rw [List.drop_eq_getElem_cons hlt]
        congr 1
        rw [List.getElem?_eq_getElem hlt] at hx
        exact Option.some.inj hx
      rw [hdrop] at hlp
      obtain ⟨l, hl, hlp'⟩ := hlp
      · refine assignT R1 (hh.imp id fun q => q.2.2.1) hv' hT hmn (fun p hp => .inl (hkn p hp)) hxr (hst x l hl) fun s2 R2' _ hkb2 => ?_
        have kb2 := hkb2 hkn
        have S2' : Step NoD mem s.heap mem' s2.heap := S1.off (· = C') (fun b hb => hb ▸ hsC) fun b o hb e => kb2 b o hb e
        have pl1 : h'.PlainList D (List.toArray vs) := let ⟨n, hn⟩ := hpl; ⟨n, kb1 D _ (Ne.symm hDI) hn⟩
        have pl2 : s2.heap.PlainList D (List.toArray vs) := let ⟨n, hn⟩ := pl1; ⟨n, kb2 D _ (Ne.symm hDne) hn⟩
        have kf2 : KeepF h' s2.heap := fun b o e hf => kb2 b o (by
          rintro rfl
          exact R1.e.dok _ o (.inl rfl) e hf) e
        have hit2 : IterAt W k v xs I (i + 1) s2.heap := hit1.keep kf2 fun o e => kb2 I o hCI e
        have hr2 : VRels W s2.heap ys vs := (hr.keep kf1).keep kf2
        refine wpAny_mono (htests C' l _ mem' s2 _ R2' hlp') (fun ok s3 h3 => ?_) fun _ _ e => e
        obtain ⟨mem3, M3, S3, h3⟩ := h3
        have R3 := R2'.step M3 S3
        have hI3 : ∃ o fs, s2.heap.get? I = some o ∧ o.data = .fields fs := hit2.there
        have keepI : ∀ (ma mb : Mem) (ha hb : Heap), Step NoD ma ha mb hb → ma I = none → (∃ o fs, ha.get? I = some o ∧ o.data = .fields fs) → ∀ o, ha.get? I = some o → hb.get? I = some o := fun ma mb ha hb S hm ⟨o', fs, e', hd'⟩ o e => by
          obtain ⟨o2, e2, a2⟩ := S.keep I o e hm id
          rw [e] at e'; cases e'
          rw [e2, a2.eq fun es ep q => by rw [hd'] at q; cases q]
        have keepD : ∀ (ma mb : Mem) (ha hb : Heap), Step NoD ma ha mb hb → ma D = none → ha.PlainList D (List.toArray vs) → hb.PlainList D (List.toArray vs) := fun ma mb ha hb S hm ⟨n, hn⟩ => by
          obtain ⟨o2, e2, a2⟩ := S.keep D _ hn hm id
          exact ⟨n, by rw [e2, a2.eq fun es ep q => by cases q]⟩
        have kf3 := S3.keepF R2'.m.mems .none
        have hit3 := hit2.keep kf3 (keepI _ _ _ _ S3 hmI hI3)
        have pl3 := keepD _ _ _ _ S3 hmD pl2
        obtain ⟨oI, fI, eI, dI⟩ := hI3
        have hmI3 := S3.none' eI hmI
        obtain ⟨nD, eD⟩ := id pl2
        have hmD3 := S3.none' eD hmD
        cases ok with
        | false =>
          simp only [Bool.false_eq_true, if_false]
          obtain ⟨q1, q2⟩ := h3.2 rfl
          exact ⟨xs.length + 1 - (i + 1), turn_lt hlt, .mk (i + 1) mem3 l (ys ++ []) vs rfl hlt (SameT.set htg hl) R3 (S2'.trans S3) hit3 q1 pl3 (by rw [List.append_nil]; exact hr2.keep kf3) hmD3 hmI3 (by rw [List.append_nil]; exact Nat.le_succ_of_le hys) q2⟩
        | true =>
          simp only [if_true]
          refine wpAny_mono (helt D C' l _ mem3 s3 hsC (R3.sep C' (.inl rfl)) R3 (S2'.trans S3) (h3.1 rfl)) (fun z s4 h4 => ?_) fun _ _ e => e
          obtain ⟨w, mem4, hw, M4, S4', q1, q2⟩ := h4
          have R4' := R3.step M4 S4'
          have kf4 := S4'.keepF R3.m.mems .none
          have hit4' := hit3.keep kf4 (keepI _ _ _ _ S4' hmI3 hit3.there)
          have pl4 := keepD _ _ _ _ S4' hmD3 pl3
          obtain ⟨oI4, fI4, eI4, dI4⟩ := hit3.there
          have hmI4 := S4'.none' eI4 hmI3
          obtain ⟨nD3, eD3⟩ := id pl3
          have hmD4 := S4'.none' eD3 hmD3
          have hr4 := (hr2.keep kf3).keep kf4
          refine wpAny_list_append_plain pl4 (fun h5 pl5 hs5 => ?_) (by rw [List.size_toArray, hr4.length]; exact lid_line (by walk_at "o"))
          have kb5 : KeepBut D s4.heap h5 := fun b o hb e => (hs5.2 b hb).trans e
          obtain ⟨nD4, eD4⟩ := id pl4
          obtain ⟨R5, kf5⟩ := R4'.off (s' := { s4 with heap := h5 }) D hmD4 (hbase _ hsD) (fun hb => by
            obtain ⟨o, e, hd⟩ := R4'.e.there hb
            rw [eD4] at e; cases e
            rcases hd with ⟨_, _, q⟩ | ⟨_, q⟩ <;> cases q) (fun o e hf => by
            rw [eD4] at e; cases e
            have := hf.1; simp at this) kb5
          have S5 : Step NoD mem s.heap mem4 h5 := ((S2'.trans S3).trans S4').off (· = D) (fun b hb => hb ▸ hsD) fun b o hb e => kb5 b o hb e
          exact ⟨xs.length + 1 - (i + 1), turn_lt hlt, .mk (i + 1) mem4 l (ys ++ [w]) (vs ++ [z]) rfl hlt (SameT.set htg hl) R5 S5 (hit4'.keep kf5 fun o e => kb5 I o hDI e) q1 (by simpa using pl5) ((VRels.append (.cons hw .nil) hr4).keep kf5) hmD4 hmI4 (by rw [List.length_append]; exact Nat.succ_le_succ hys) q2⟩
    · have hie : i = xs.length := by walk_at "o"
      subst hie
      refine iter_end R'.m (hh.imp id fun q => ⟨q.1, q.2.1, q.2.2.2.step S' (fun _ _ z => z), q.2.2.2.ne hI⟩) (hcur.stands hstd) hit' fun h' he => ?_
      have kb1 : KeepBut I s'.heap h' := fun b o hb e => he b o hb e
      obtain ⟨R1, kf1⟩ := R'.off (s' := { s' with heap := h' }) I hmI (hbase _ hI) hInf (fun o e hf => by
        obtain ⟨o', fs, e', hd'⟩ := hit'.there
        rw [e] at e'; cases e'
        obtain ⟨_, _, _, q⟩ := hf; rw [hd'] at q; cases q) kb1
      have S1 : Step NoD mem s.heap mem' h' := S'.off (· = I) (fun b hb => hb ▸ hI) fun b o hb e => kb1 b o hb e
      have hq : QL ys mem' := by rw [List.drop_length] at hlp; exact hlp
      obtain ⟨m, hm⟩ := R1.hasNs
      obtain ⟨nD, eD⟩ := hpl
      exact hRR D C' _ mem' ys vs m hsD hsC hDne hm ⟨nD, kb1 D _ (Ne.symm hDI) eD⟩ (hr.keep kf1) R1.m S1 (R1.sep _ (.inl rfl)) hmD hq
  exact codeAny_compStart_list loop (iter_self hit4 loop)

end TD

namespace TD
open PySem PyProof.Rows
variable {W : Cx} {A : Around} {E : Value → Shared → Prop} {env : Env} {vis : List (Nat × Str)} {loc : Loc} {mem : Mem} {s : Shared} {Q : Val → Mem → Prop}

theorem eval_call {x : Str} {px p : Pos} {args : List Expr} {M : Model} {P : Value → Shared → Prop} (h : wpAny M A (eval (.Name x px) env) (fun f s₁ => wpAny M A (callWith p f [] (backTo p (starEach args env)) []) P E s₁) E s) :
    wpAny M A (eval (.Call (.Name x px) args [] p) env) P E s := by
  show wpAny M A (do callWith p (← eval (.Name x px) env) [] (backTo p (starEach args env)) []) P E s
  exact wpAny_bind h
theorem back_cons {p : Pos} {e : Expr} {rest : List Expr} (h : ∀ a q, e ≠ .Starred a q) : backTo p (starEach (e :: rest) env) = (false, eval e env) :: backTo p (starEach rest env) := by
  rw [star_plain h]; rfl
theorem call1b {id : String} {p : Pos} {e : Expr} {P : Value → Shared → Prop} (he : ∀ a q, e ≠ .Starred a q) (h : wpAny (model W.prog W.w) A (eval e env) (fun v s₁ => wpAny (model W.prog W.w) A (call (.builtin id) [v]) P E s₁) E s) :
    wpAny (model W.prog W.w) A (callWith p (.builtin id) [] (backTo p (starEach [e] env)) []) P E s := by
  rw [back_cons he]
  refine Calls.callWith_builtin rfl (Calls.evalArgs_plain (Calls.spliced_cons ?_))
  exact wpAny_mono h (fun v s₁ h₁ => Calls.spliced_nil h₁) fun _ _ x => x
theorem call1t {T : String} {p : Pos} {e : Expr} {P : Value → Shared → Prop} (he : ∀ a q, e ≠ .Starred a q) (h : wpAny (model W.prog W.w) A (eval e env) (fun v s₁ => wpAny (model W.prog W.w) A (call (.type T) [v]) P E s₁) E s) :
    wpAny (model W.prog W.w) A (callWith p (.type T) [] (backTo p (starEach [e] env)) []) P E s := by
  rw [back_cons he]
  refine PySem.callWith_type rfl (Calls.evalArgs_plain (Calls.spliced_cons ?_))
  exact wpAny_mono h (fun v s₁ h₁ => Calls.spliced_nil h₁) fun _ _ x => x
theorem call2b {id : String} {p : Pos} {e e' : Expr} {P : Value → Shared → Prop} (he : ∀ a q, e ≠ .Starred a q) (he' : ∀ a q, e' ≠ .Starred a q)
    (h : wpAny (model W.prog W.w) A (eval e env) (fun v s₁ => wpAny (model W.prog W.w) A (eval e' env) (fun u s₂ => wpAny (model W.prog W.w) A (call (.builtin id) [v, u]) P E s₂) E s₁) E s) :
    wpAny (model W.prog W.w) A (callWith p (.builtin id) [] (backTo p (starEach [e, e'] env)) []) P E s := by
  rw [back_cons he, back_cons he']
  refine Calls.callWith_builtin rfl (Calls.evalArgs_plain (Calls.spliced_cons ?_))
  exact wpAny_mono h (fun v s₁ h₁ => Calls.spliced_cons (wpAny_mono h₁ (fun u s₂ h₂ => Calls.spliced_nil h₂) fun _ _ x => x)) fun _ _ x => x
theorem callM1 {id : String} {p : Pos} {o : Value} {e : Expr} {P : Value → Shared → Prop} (he : ∀ a q, e ≠ .Starred a q) (h : wpAny (model W.prog W.w) A (eval e env) (fun v s₁ => wpAny (model W.prog W.w) A (call (.builtin id) [o, v]) P E s₁) E s) :
    wpAny (model W.prog W.w) A (callWith p (.builtin id) [o] (backTo p (starEach [e] env)) []) P E s := by
  rw [back_cons he]
  refine Calls.callWith_builtin rfl (Calls.evalArgs_plain (Calls.spliced_cons ?_))
  exact wpAny_mono h (fun v s₁ h₁ => Calls.spliced_nil h₁) fun _ _ x => x
theorem callM0 {id : String} {p : Pos} {o : Value} {P : Value → Shared → Prop} (h : wpAny (model W.prog W.w) A (call (.builtin id) [o]) P E s) :
    wpAny (model W.prog W.w) A (callWith p (.builtin id) [o] (backTo p (starEach [] env)) []) P E s := by
  refine Calls.callWith_builtin rfl ?_
  have e : evalArgs (.builtin id) true [] [] = pure ⟨[], []⟩ := by rfl
  show wpAny _ A (evalArgs (.builtin id) true [] []) _ _ s
  rw [e]
  exact wpAny_pure h

theorem folded_notSet {e : Expr} (h : notSet e = true) (x : Value) : foldedSetIterable e env x = pure x := by
  cases e <;> first | rfl | exact nb h

theorem src_sound {G : String → Option Val} (ok : CxOk W G) {sc : Scope} (hsc : ScOk sc env) {k : ItK} {iter : Expr} {PX : Val → List Val → Mem → Prop} (R : Rel W env vis loc mem s)
    {ex : Expr} (hex : ∀ a q, ex ≠ .Starred a q) (hk : IterIs sc k.call iter ex)
    (hsrc : wpAny (model W.prog W.w) A (eval ex env) (PM W mem s (fun v m1 => itemsW k v (fun xs => PX v xs m1) m1)) E s) {P : Value → Shared → Prop}
    (hp : ∀ I v xs mem1 s1 s', Rel W env vis loc mem1 s1 → Step NoD mem s.heap mem1 s1.heap → s1.heap.get? I = none → IterAt W k v xs I 0 s'.heap → Rel W env vis loc mem1 s' → Step NoD mem1 s1.heap mem1 s'.heap → Cur k v xs mem1 → xs.length < lid → PX v xs mem1 → P (.ref I) s') :
    wpAny (model W.prog W.w) A (eval iter env) (fun y s₁ => wpAny (model W.prog W.w) A (pyIter y) P E s₁) E s := by
  cases k with
  | plain =>
    obtain rfl : iter = ex := hk
    refine then1 R hsrc fun v y mem1 s1 hv R1 S1 h1 => ?_
    obtain ⟨xs, e, hl, hq⟩ := h1
    exact iter_start R1 hv e fun I s' hI hit R' S' => hp I v xs mem1 s1 s' R1 S1 hI hit R' S' e hl hq
  | range =>
    obtain ⟨x, px, p, rfl, hg⟩ := hk
    refine eval_call (builtin_sound R ok hsc hg (by simp [biNames]) Boot.«range» (call1t hex ?_))
    refine then1 R hsrc fun v y mem1 s1 hv R1 S1 h1 => ?_
    obtain ⟨n, rfl, hn, hq⟩ := h1
    obtain ⟨t, rfl⟩ := hv.int
    exact range_start R1 hn fun I s' hI hit R' S' => hp I _ _ mem1 s1 s' R1 S1 hI hit R' S' ⟨n, hn, rfl⟩ (by rw [rangeV_length]; unfold lid at hn ⊢; walk_at "o") hq

theorem hnames_of {sc csc : Scope} {new vis : List (Nat × Str)} (h : chkScope sc csc new vis = true) : ∀ p ∈ csc.names, p.2 = .local → csc.names.lookup p.1 = some .local := fun p hp e => ((chkScope_spec h).2.2.1 p hp e).1

section
variable {B : Loc → (Bool → Mem → Prop) → Mem → Prop} {V : Loc → (Val → Mem → Prop) → Mem → Prop} {G : String → Option Val} {k : ItK} {sc csc : Scope} {new : List (Nat × Str)} {t : Tg} {target iter elt' : Expr} {ifs : List Expr} {pos : Pos} {QL : List Val → Mem → Prop}

noncomputable def CompLeft (W : Cx) (env : Env) (mem : Mem) (s : Shared) (QL : List Val → Mem → Prop) (D C' : Addr) (s' : Shared) : Prop :=
  ∃ mem' ys vs m, s.heap.get? D = none ∧ s.heap.get? C' = none ∧ C' ≠ D ∧ s'.heap.Ns C' m ∧ s'.heap.PlainList D (List.toArray vs) ∧ VRels W s'.heap ys vs ∧ MRel W mem' s' ∧ Step NoD mem s.heap mem' s'.heap ∧ mem' C' = none ∧ mem' D = none ∧ QL ys mem'

theorem comp_run {use : Option (Value → Sem Unit)} {PP : Value → Shared → Prop} (hh : A.handled = none) (ok : CxOk W G) (R : Rel W env vis loc mem s)
    (hsc : ScOk sc env) (hchk : chkScope sc csc new vis = true) (hns : notSet iter = true) (hT : chkT t target = some new) (hv : VisOk vis) (hi : ∀ p ∈ vis, ∀ q ∈ new, p.1 ≠ q.1)
    {ex : Expr} (hex : ∀ a q, ex ≠ .Starred a q) (hk : IterIs sc k.call iter ex)
    (hsrc : wpAny (model W.prog W.w) A (eval ex env) (PM W mem s (fun v m1 => itemsW k v (fun xs => compLoop (compF t loc B V) (stands k v m1) xs [] QL m1) m1)) E s)
    (htests : ∀ C' l P mem' s' E', Rel W (cEnv csc C' env) (newVis new vis) l mem' s' → B l P mem' →
      wpAny (model W.prog W.w) A (forIn ifs true fun c r => if r = true then do let ok ← isTrue c (cEnv csc C' env) (eval c (cEnv csc C' env)); pure (ForInStep.yield ok) else pure (ForInStep.yield r)) (PT W mem' s' P) E' s')
    (helt : ∀ D C' l P mem' s', s.heap.get? C' = none → mem' C' = none → Rel W (cEnv csc C' env) (newVis new vis) l mem' s' → Step NoD mem s.heap mem' s'.heap → V l P mem' → wpAny (model W.prog W.w) A (eval elt' (cEnv csc C' env)) (PM W mem' s' P) (notedBy (model W.prog W.w) A (cEnv csc C' env) fun e s' => compPost (model W.prog W.w) A E use PP (.ref D) C' (.error e) s') s')
    (hpost : ∀ D C' s', CompLeft W env mem s QL D C' s' → compPost (model W.prog W.w) A E use PP (.ref D) C' (.ok .next) s') :
    wpAny (model W.prog W.w) A (comprehension (.ListComp elt' [⟨target, iter, ifs, 0⟩] csc pos) csc env (firstIterPos [⟨target, iter, ifs, 0⟩] pos) (newList []) false (eval iter env) use) PP E s := by
  refine wpAny_comprehension_free (g := ⟨target, iter, ifs, 0⟩) (gs := []) rfl (fun x => folded_notSet hns x) (closure_eq (free_cells R hsc hchk)) (chkScope_spec hchk).1 (hnames_of hchk) ?_
  refine src_sound ok hsc R hex hk hsrc fun I v xs mem1 s1 s' R1 S1 hI hit R' S' hcur hlen hq => ?_
  refine comp_core (.inl hh) R1 R' S' hI hit hcur hlen hsc hchk hT hv hi htests (fun D C' l P mem' s' hn hm R' S' hV => helt D C' l P mem' s' (S1.alive C' hn) hm R' (S1.trans S') hV) hq fun D C' s'' mem' ys vs m hD hC hne hnsC hpl hr hM hS hmC hmD hQL => ?_
  exact hpost D C' s'' ⟨mem', ys, vs, m, S1.alive D hD, S1.alive C' hC, hne, hnsC, hpl, hr, hM, S1.trans hS, hmC, hmD, hQL⟩

theorem CompLeft.done {D C' : Addr} {s' : Shared} (R : Rel W env vis loc mem s) (h : CompLeft W env mem s (fun ys m' => freshL m' ys Q) D C' s') {h' : Heap} (hs : Heap.SameBut C' s'.heap h') : PM W mem s Q (.ref D) { s' with heap := h' } := by
  obtain ⟨mem', ys, vs, m, hD, hC, hne, hnsC, ⟨nD, eD⟩, hr, hM, hS, hmC, hmD, hf⟩ := h
  have hbase : ∀ b, s.heap.get? b = none → W.base.get? b = none := fun b e => by
    cases q : W.base.get? b with
    | none => rfl
    | some o => rw [R.m.stays b o q] at e; cases e
  have kb : KeepBut C' s'.heap h' := fun b o hb e => (hs.2 b hb).trans e
  have kf : KeepF s'.heap h' := fun b o e hfx => kb b o (by
    rintro rfl
    obtain ⟨o', es, ep, e', hd, _⟩ := hnsC
    rw [e] at e'; cases e'
    obtain ⟨_, _, _, q⟩ := hfx; rw [hd] at q; cases q) e
  have M' : MRel W mem' { s' with heap := h' } := by
    refine ⟨fun b o e => kb b o (by rintro rfl; rw [hbase _ hC] at e; cases e) (hM.stays b o e), fun b o e => ?_, hM.gens, hM.os⟩
    obtain ⟨r, nb⟩ := hM.mems b o e
    have hb : b ≠ C' := by rintro rfl; rw [hmC] at e; cases e
    exact ⟨r.at (fun _ e => kb _ _ hb e) kf, nb⟩
  have S' : Step NoD mem s.heap mem' h' := hS.off (· = C') (fun b hb => hb ▸ hC) fun b o hb e => kb b o hb e
  refine ⟨.ref D, mem'.set D (.list ys), .mkRef, ⟨M'.stays, fun b o e => ?_, M'.gens, M'.os⟩, ⟨S'.alive, S'.keep, fun b hb hb' => ?_⟩, hf.2 D hmD⟩
  · unfold Mem.set at e
    split at e
    · rename_i q; subst q; cases e
      exact ⟨⟨vs, ⟨nD, kb _ _ (Ne.symm hne) eD⟩, hr.keep kf⟩, hbase _ hD⟩
    · exact M'.mems b o e
  · unfold Mem.set at hb'
    split at hb'
    · rename_i q; subst q; exact hD
    · exact S'.grow b hb hb'
end

end TD

namespace TD
open PySem PyProof.Rows
variable {W : Cx} {A : Around} {E : Value → Shared → Prop} {env : Env} {vis : List (Nat × Str)} {loc : Loc} {mem : Mem} {s : Shared} {Q : Val → Mem → Prop}

theorem firstMet_nodup (val : Nat → Int) : ∀ i, (firstMet val i).length = i ↔ ((List.range i).map val).Nodup
  | 0 => by simp [firstMet_zero]
  | i + 1 => by
    rw [firstMet_succ, List.range_succ, List.map_append, List.nodup_append]
    have ih := firstMet_nodup val i
    have hle := firstMet_length_le val i
    have hany := firstMet_any val i (val i)
    unfold step_dedup
    split
    · rename_i hc
      rw [hany] at hc
      constructor
      · intro h; walk_at "o"
      · rintro ⟨_, _, h3⟩
        rw [List.any_eq_true] at hc
        obtain ⟨z, hz, e⟩ := hc
        exact absurd (by simpa using e) (h3 z hz (val i) (by simp))
    · rename_i hc
      rw [hany] at hc
      simp only [List.length_append, List.length_cons, List.length_nil]
      constructor
      · intro h
        refine ⟨ih.mp (by walk_at "o"), by simp, fun a ha b hb e => ?_⟩
        simp at hb; subst hb; subst e
        apply hc
        rw [List.any_eq_true]
        exact ⟨_, ha, by simp⟩
      · rintro ⟨h1, _, _⟩
        rw [ih.mpr h1]
theorem range_getD (ns : List Int) : (List.range ns.length).map (fun i => ns.getD i 0) = ns := by
  apply List.ext_getElem
  · simp
  · intro i h1 h2
    simp at h1
    simp [List.getD, h1]

theorem lenset_sound (R : Rel W env vis loc mem s) {n : Nat} (hr : Room n A) {v : Val} {a : Value} (hv : VRel W s.heap v a) (h : wpB1 .lenset v Q mem) :
    wpAny (model W.prog W.w) A (call (.type "set") [a]) (fun y s₁ => wpAny (model W.prog W.w) A (call (.builtin "len") [y]) (PM W mem s Q) E s₁) E s := by
  simp only [wpB1] at h
  obtain ⟨is, e, hl, hq⟩ := h
  obtain ⟨b, vs, rfl, hlist, r⟩ := lst_rel R.m hv e
  have hlen := r.length
  rw [List.length_map] at hlen
  refine call_set_list (items := vs.toArray) (ns := is) hr.handled hlist (by simpa using ints_of r) (by rw [List.size_toArray, hlen]; unfold scanBound; walk_at "o") fun h' tk hS hk => ?_
  obtain ⟨o, es, ep, t, ho, hex, hd, _, _, _, hf, hsz⟩ := hS
  replace hsz : es.size = (firstMet (fun i => is.getD i 0) is.length).length := by
    have e1 : vs.toArray.size = is.length := by rw [List.size_toArray]; exact hlen
    rw [e1] at hsz; exact hsz
  have hle := firstMet_length_le (fun i => is.getD i 0) is.length
  refine call_len_set ho hex hd hf (by rw [hsz]; walk_at "o") ?_
  have k : KeepL env.locals s.heap h' := .of_keeps fun b o e => hk b o (Heap.lt_size e) e
  refine PM.kept R (v := .int es.size) (s' := { s with heap := h', toks := _ }) k .mkInt ?_
  refine hq es.size (by rw [hsz]; exact hle) ?_
  rw [hsz, firstMet_nodup, range_getD]

end TD

namespace TD
open PySem PyProof.Rows

section inv
variable {FT : Nat → Option Fn} {ids : List Nat} {vis : List (Nat × Str)} {sc : Scope} {ex : Expr}
theorem inv_nm {i : Nat} (h : chkE FT ids vis sc (.nm i) ex = true) : ∃ x p, ex = .Name x p ∧ vis.lookup i = some x ∧ isLoc sc x = true ∧ okName x = true := by
  obtain ⟨x, p, rfl, h⟩ := vName_inv h
  obtain ⟨h1, h⟩ := and2 h
  exact ⟨x, p, rfl, beq_iff_eq.mp h1, and2 h⟩
theorem inv_int {i : Int} (h : chkE FT ids vis sc (.int i) ex = true) : ∃ k p, ex = .Constant (.int i) k p := by
  obtain ⟨c, k, p, rfl, h⟩ := vConst_inv h
  obtain rfl := beq_iff_eq.mp h
  exact ⟨k, p, rfl⟩
theorem inv_bool {i : Bool} (h : chkE FT ids vis sc (.bool i) ex = true) : ∃ k p, ex = .Constant (.bool i) k p := by
  obtain ⟨c, k, p, rfl, h⟩ := vConst_inv h
  obtain rfl := beq_iff_eq.mp h
  exact ⟨k, p, rfl⟩
theorem inv_str {i : String} (h : chkE FT ids vis sc (.str i) ex = true) : ∃ k p, ex = .Constant (.str (Str.ofString i)) k p := by
  obtain ⟨c, k, p, rfl, h⟩ := vConst_inv h
  obtain rfl := beq_iff_eq.mp h
  exact ⟨k, p, rfl⟩
theorem inv_none (h : chkE FT ids vis sc .none ex = true) : ∃ k p, ex = .Constant .none k p := by
  obtain ⟨c, k, p, rfl, h⟩ := vConst_inv h
  obtain rfl := beq_iff_eq.mp h
  exact ⟨k, p, rfl⟩
theorem inv_glob {i : String} (h : chkE FT ids vis sc (.glob i) ex = true) : ∃ x p, ex = .Name x p ∧ gName sc i x = true := vName_inv h
theorem inv_bin {op : Bop} {a b : Ex} (h : chkE FT ids vis sc (.bin op a b) ex = true) : ∃ l o r p, ex = .BinOp l o r p ∧ bopIs op o = true ∧ chkE FT ids vis sc a l = true ∧ chkE FT ids vis sc b r = true := by
  obtain ⟨l, o, r, p, rfl, h⟩ := vBin_inv h
  obtain ⟨h1, h⟩ := and2 h
  exact ⟨l, o, r, p, rfl, h1, and2 h⟩
theorem inv_not {a : Ex} (h : chkE FT ids vis sc (.not a) ex = true) : ∃ x p, ex = .UnaryOp .Not x p ∧ chkE FT ids vis sc a x = true := by
  obtain ⟨o, x, p, rfl, h⟩ := vUn_inv h
  obtain ⟨h1, h2⟩ := and2 h
  obtain rfl := beq_iff_eq.mp h1
  exact ⟨x, p, rfl, h2⟩
theorem inv_neg {a : Ex} (h : chkE FT ids vis sc (.neg a) ex = true) : ∃ x p, ex = .UnaryOp .USub x p ∧ chkE FT ids vis sc a x = true := by
  obtain ⟨o, x, p, rfl, h⟩ := vUn_inv h
  obtain ⟨h1, h2⟩ := and2 h
  obtain rfl := beq_iff_eq.mp h1
  exact ⟨x, p, rfl, h2⟩
theorem nonempty_of {α : Type} {l : List α} (h : (!l.isEmpty) = true) : l ≠ [] := by rintro rfl; exact nb h
theorem inv_boolop {k : Bool} {es : Exs} (h : chkE FT ids vis sc (.boolop k es) ex = true) : ∃ vs p, ex = .BoolOp (isAnd k) vs p ∧ vs ≠ [] ∧ chkL FT ids vis sc es vs = true := by
  obtain ⟨o, vs, p, rfl, h⟩ := vBoolOp_inv h
  obtain ⟨h1, h2⟩ := and2 h
  obtain ⟨h3, h4⟩ := and2 h2
  obtain rfl := beq_iff_eq.mp h1
  exact ⟨vs, p, rfl, nonempty_of h3, h4⟩
theorem inv_cmp {op : Cop} {a b : Ex} (h : chkE FT ids vis sc (.cmp op a b) ex = true) : ∃ l o r p, ex = .Compare l [o] [r] p ∧ copIs op o = true ∧ notSet r = true ∧ chkE FT ids vis sc a l = true ∧ chkE FT ids vis sc b r = true := by
  obtain ⟨l, os, rs, p, rfl, h⟩ := vCmp_inv h
  obtain ⟨o, rfl, h⟩ := vOne_inv h
  obtain ⟨r, rfl, h⟩ := vOne_inv h
  obtain ⟨h1, h⟩ := and2 h
  obtain ⟨h2, h⟩ := and2 h
  exact ⟨l, o, r, p, rfl, h1, h2, and2 h⟩
theorem inv_cmp2 {o1 o2 : Cop} {a b c : Ex} (h : chkE FT ids vis sc (.cmp2 o1 o2 a b c) ex = true) : ∃ l p1 p2 r1 r2 p, ex = .Compare l [p1, p2] [r1, r2] p ∧ copIs o1 p1 = true ∧ copIs o2 p2 = true ∧ notSet r1 = true ∧ notSet r2 = true ∧ chkE FT ids vis sc a l = true ∧ chkE FT ids vis sc b r1 = true ∧ chkE FT ids vis sc c r2 = true := by
  obtain ⟨l, os, rs, p, rfl, h⟩ := vCmp_inv h
  obtain ⟨p1, p2, rfl, h⟩ := vTwo_inv h
  obtain ⟨r1, r2, rfl, h⟩ := vTwo_inv h
  obtain ⟨h1, h⟩ := and2 h
  obtain ⟨h2, h⟩ := and2 h
  obtain ⟨h3, h⟩ := and2 h
  obtain ⟨h4, h⟩ := and2 h
  obtain ⟨h5, h⟩ := and2 h
  exact ⟨l, p1, p2, r1, r2, p, rfl, h1, h2, h3, h4, h5, and2 h⟩
theorem inv_isc {q : Bool} {a : Ex} {c : Option Bool} (h : chkE FT ids vis sc (.isc q a c) ex = true) : ∃ l k' p' p, ex = .Compare l [isIs q] [.Constant (litC c) k' p'] p ∧ chkE FT ids vis sc a l = true := by
  obtain ⟨l, os, rs, p, rfl, h⟩ := vCmp_inv h
  obtain ⟨o, rfl, h⟩ := vOne_inv h
  obtain ⟨r, rfl, h⟩ := vOne_inv h
  obtain ⟨h1, h2⟩ := and2 h
  obtain ⟨h3, h4⟩ := and2 h2
  obtain ⟨k, k', p', rfl, h5⟩ := vConst_inv h4
  have e1 := beq_iff_eq.mp h1
  have e2 := beq_iff_eq.mp h5
  subst e1 e2
  exact ⟨l, k', p', p, rfl, h3⟩
theorem not_t {b : Bool} (h : (!b) = true) : b = false := by cases b <;> first | rfl | exact nb h
theorem fnIs_inv {f : Nat} {x : Str} (h : fnIs FT sc f x = true) : ∃ fn, FT f = some fn ∧ fn.own = false ∧ gName sc fn.name x = true := by
  unfold fnIs at h
  cases q : FT f with
  | none => rw [q] at h; exact nb h
  | some fn => rw [q] at h; obtain ⟨h1, h2⟩ := and2 h; exact ⟨fn, rfl, not_t h1, h2⟩
theorem inv_call {f : Nat} {args : Exs} (h : chkE FT ids vis sc (.call f args) ex = true) : ∃ x px es p fn, ex = .Call (.Name x px) es [] p ∧ f ∈ ids ∧ FT f = some fn ∧ fn.own = false ∧ gName sc fn.name x = true ∧ es ≠ [] ∧ chkL FT ids vis sc args es = true := by
  obtain ⟨x, px, es, p, rfl, h⟩ := vCallN_inv h
  obtain ⟨h1, h⟩ := and2 h
  obtain ⟨h2, h⟩ := and2 h
  obtain ⟨h3, h⟩ := and2 h
  obtain ⟨fn, h4, h6, h5⟩ := fnIs_inv h2
  exact ⟨x, px, es, p, fn, rfl, List.contains_iff_mem.mp h1, h4, h6, h5, nonempty_of h3, h⟩
theorem vIter_none {e : Expr} {f : Option String} {k : Expr → Bool} (hf : f = none) (h : vIter sc f e k = true) : k e = true := by subst hf; exact h
theorem vIter_some {e : Expr} {g : Option String} {f : String} {k : Expr → Bool} (hf : g = some f) (h : vIter sc g e k = true) : ∃ x px e1 p, e = .Call (.Name x px) [e1] [] p ∧ gName sc f x = true ∧ k e1 = true := by
  subst hf
  obtain ⟨x, px, es, p, rfl, h⟩ := vCallN_inv h
  obtain ⟨h1, h⟩ := and2 h
  obtain ⟨e1, rfl, h⟩ := vOne_inv h
  exact ⟨x, px, e1, p, rfl, h1, h⟩
theorem vIter_inv {e : Expr} {f : Option String} {k : Expr → Bool} (h : vIter sc f e k = true) : ∃ e1, IterIs sc f e e1 ∧ k e1 = true := by
  cases q : f with
  | none => exact ⟨e, rfl, vIter_none q h⟩
  | some g =>
    obtain ⟨x, px, e1, p, a, b, c⟩ := vIter_some q h
    exact ⟨e1, ⟨x, px, p, a, b⟩, c⟩
theorem inv_b1 {b : B1} {a : Ex} (hb : b.inner = none) (h : chkE FT ids vis sc (.b1 b a) ex = true) : ∃ x px e1 p, ex = .Call (.Name x px) [e1] [] p ∧ gName sc b.call x = true ∧ chkE FT ids vis sc a e1 = true := by
  obtain ⟨x, px, es, p, rfl, h⟩ := vCallN_inv h
  obtain ⟨h1, h⟩ := and2 h
  obtain ⟨e1, rfl, h⟩ := vOne_inv h
  exact ⟨x, px, e1, p, rfl, h1, vIter_none hb h⟩
theorem inv_b1i {b : B1} {a : Ex} {f : String} (hb : b.inner = some f) (h : chkE FT ids vis sc (.b1 b a) ex = true) : ∃ x px y py e1 p p', ex = .Call (.Name x px) [.Call (.Name y py) [e1] [] p'] [] p ∧ gName sc b.call x = true ∧ gName sc f y = true ∧ chkE FT ids vis sc a e1 = true := by
  obtain ⟨x, px, es, p, rfl, h⟩ := vCallN_inv h
  obtain ⟨h1, h⟩ := and2 h
  obtain ⟨e1, rfl, h⟩ := vOne_inv h
  obtain ⟨y, py, e2, p', rfl, h2, h⟩ := vIter_some hb h
  exact ⟨x, px, y, py, e2, p, p', rfl, h1, h2, h⟩
theorem inv_isinst {a : Ex} {c : Cls} (h : chkE FT ids vis sc (.isinst a c) ex = true) : ∃ x px e1 y py p, ex = .Call (.Name x px) [e1, .Name y py] [] p ∧ gName sc "isinstance" x = true ∧ chkE FT ids vis sc a e1 = true ∧ gName sc c.bi y = true := by
  obtain ⟨x, px, es, p, rfl, h⟩ := vCallN_inv h
  obtain ⟨h1, h⟩ := and2 h
  obtain ⟨e1, e2, rfl, h⟩ := vTwo_inv h
  obtain ⟨h2, h⟩ := and2 h
  obtain ⟨y, py, rfl, h⟩ := vName_inv h
  exact ⟨x, px, e1, y, py, p, rfl, h1, h2, h⟩
theorem inv_append {o a : Ex} (h : chkE FT ids vis sc (.append o a) ex = true) : ∃ e1 ap e2 p, ex = .Call (.Attribute e1 (Str.ofString "append") ap) [e2] [] p ∧ okAt e1 ap p = true ∧ chkE FT ids vis sc o e1 = true ∧ chkE FT ids vis sc a e2 = true := by
  obtain ⟨e1, ap, es, p, rfl, h1, h⟩ := vMeth_inv h
  obtain ⟨e2, rfl, h⟩ := vOne_inv h
  exact ⟨e1, ap, e2, p, rfl, h1, and2 h⟩
theorem inv_extend {o a : Ex} (h : chkE FT ids vis sc (.extend o a) ex = true) : ∃ e1 ap e2 p, ex = .Call (.Attribute e1 (Str.ofString "extend") ap) [e2] [] p ∧ okAt e1 ap p = true ∧ chkE FT ids vis sc o e1 = true ∧ chkE FT ids vis sc a e2 = true := by
  obtain ⟨e1, ap, es, p, rfl, h1, h⟩ := vMeth_inv h
  obtain ⟨e2, rfl, h⟩ := vOne_inv h
  exact ⟨e1, ap, e2, p, rfl, h1, and2 h⟩
theorem inv_index {o a : Ex} (h : chkE FT ids vis sc (.index o a) ex = true) : ∃ e1 ap e2 p, ex = .Call (.Attribute e1 (Str.ofString "index") ap) [e2] [] p ∧ okAt e1 ap p = true ∧ chkE FT ids vis sc o e1 = true ∧ chkE FT ids vis sc a e2 = true := by
  obtain ⟨e1, ap, es, p, rfl, h1, h⟩ := vMeth_inv h
  obtain ⟨e2, rfl, h⟩ := vOne_inv h
  exact ⟨e1, ap, e2, p, rfl, h1, and2 h⟩
theorem inv_pop {o : Ex} {i : Exs} (h : chkE FT ids vis sc (.pop o i) ex = true) : ∃ e1 ap es p, ex = .Call (.Attribute e1 (Str.ofString "pop") ap) es [] p ∧ okAt e1 ap p = true ∧ chkE FT ids vis sc o e1 = true ∧ chkL FT ids vis sc i es = true ∧ es.length ≤ 1 := by
  obtain ⟨e1, ap, es, p, rfl, h1, h⟩ := vMeth_inv h
  obtain ⟨h2, h⟩ := and2 h
  obtain ⟨h3, h⟩ := and2 h
  exact ⟨e1, ap, es, p, rfl, h1, h2, h3, of_decide_eq_true h⟩
theorem inv_clear {o : Ex} (h : chkE FT ids vis sc (.clear o) ex = true) : ∃ e1 ap p, ex = .Call (.Attribute e1 (Str.ofString "clear") ap) [] [] p ∧ okAt e1 ap p = true ∧ chkE FT ids vis sc o e1 = true := by
  obtain ⟨e1, ap, es, p, rfl, h1, h⟩ := vMeth_inv h
  obtain ⟨h2, h3⟩ := and2 h
  obtain rfl := List.isEmpty_iff.mp h2
  exact ⟨e1, ap, p, rfl, h1, h3⟩
theorem inv_sub {a i : Ex} (h : chkE FT ids vis sc (.sub a i) ex = true) : ∃ e1 e2 p, ex = .Subscript e1 e2 p ∧ chkE FT ids vis sc a e1 = true ∧ chkE FT ids vis sc i e2 = true := by
  obtain ⟨e1, e2, p, rfl, h⟩ := vSub_inv h
  exact ⟨e1, e2, p, rfl, and2 h⟩
theorem inv_slice {up : Bool} {a i : Ex} (h : chkE FT ids vis sc (.slice up a i) ex = true) : ∃ e1 e2 p q, ex = .Subscript e1 (.Slice (partE up e2) (partE (!up) e2) none p) q ∧ chkE FT ids vis sc a e1 = true ∧ chkE FT ids vis sc i e2 = true := by
  obtain ⟨e1, e2, q, rfl, g⟩ := vSub_inv h
  obtain ⟨e3, p, rfl, g3⟩ := vSl_inv g
  exact ⟨e1, e3, p, q, rfl, and2 g3⟩
theorem inv_mm {mx : Bool} {a b : Ex} (h : chkE FT ids vis sc (.mm mx a b) ex = true) : ∃ x px e1 e2 p, ex = .Call (.Name x px) [e1, e2] [] p ∧ gName sc (mmName mx) x = true ∧ chkE FT ids vis sc a e1 = true ∧ chkE FT ids vis sc b e2 = true := by
  obtain ⟨x, px, es, p, rfl, h⟩ := vCallN_inv h
  obtain ⟨h1, h⟩ := and2 h
  obtain ⟨e1, e2, rfl, h⟩ := vTwo_inv h
  exact ⟨x, px, e1, e2, p, rfl, h1, and2 h⟩
theorem inv_lst {es : Exs} (h : chkE FT ids vis sc (.lst es) ex = true) : ∃ xs p, ex = .List xs p ∧ chkL FT ids vis sc es xs = true := vList_inv h
theorem inv_fstr {a : Ex} {c : String} (h : chkE FT ids vis sc (.fstr a c) ex = true) : ∃ v pv kc pc p, ex = .JoinedStr [.FormattedValue v (-1) none pv, .Constant (.str (Str.ofString c)) kc pc] p ∧ chkE FT ids vis sc a v = true := by
  obtain ⟨xs, p, rfl, h⟩ := vJS_inv h
  obtain ⟨e1, e2, rfl, h⟩ := vTwo_inv h
  obtain ⟨h1, h2⟩ := and2 h
  obtain ⟨v, cv, sp, pv, rfl, h3⟩ := vFV_inv h1
  obtain ⟨h4, h5⟩ := and2 h3
  obtain ⟨h6, h7⟩ := and2 h5
  obtain ⟨k, kc, pc, rfl, h8⟩ := vConst_inv h2
  obtain rfl := beq_iff_eq.mp h8
  obtain rfl := of_decide_eq_true h4
  obtain rfl := Option.isNone_iff_eq_none.mp h6
  exact ⟨v, pv, kc, pc, p, rfl, h7⟩
theorem inv_join {a : Ex} {c : String} (h : chkE FT ids vis sc (.join c a) ex = true) : ∃ kc pc ap e2 p, ex = .Call (.Attribute (.Constant (.str (Str.ofString c)) kc pc) (Str.ofString "join") ap) [e2] [] p ∧ okAt (.Constant (.str (Str.ofString c)) kc pc) ap p = true ∧ chkE FT ids vis sc a e2 = true := by
  obtain ⟨e1, ap, es, p, rfl, h1, h2⟩ := vMeth_inv h
  obtain ⟨h3, h4⟩ := and2 h2
  obtain ⟨k, kc, pc, rfl, h5⟩ := vConst_inv h3
  obtain rfl := beq_iff_eq.mp h5
  obtain ⟨e2, rfl, h6⟩ := vOne_inv h4
  exact ⟨kc, pc, ap, e2, p, rfl, h1, h6⟩
theorem inv_dict0 (h : chkE FT ids vis sc .dict0 ex = true) : ∃ p, ex = .Dict [] [] p := by
  obtain ⟨a, b, p, rfl, h⟩ := vDict_inv h
  obtain ⟨h1, h2⟩ := and2 h
  rw [List.isEmpty_iff.mp h1, List.isEmpty_iff.mp h2]
  exact ⟨p, rfl⟩
theorem inv_tup {es : Exs} (h : chkE FT ids vis sc (.tup es) ex = true) : ∃ xs k p, ex = .Tuple xs k p ∧ chkL FT ids vis sc es xs = true := vTup_inv h
theorem inv_comp {elt : Ex} {t : Tg} {k : ItK} {src : Ex} {cond : Exs} (h : chkE FT ids vis sc (.comp elt t k src cond) ex = true) : ∃ elt' target iter ifs csc p new e1, ex = .ListComp elt' [⟨target, iter, ifs, 0⟩] csc p ∧ chkT t target = some new ∧ chkScope sc csc new vis = true ∧ notSet iter = true ∧
    IterIs sc k.call iter e1 ∧ chkE FT ids vis sc src e1 = true ∧ chkE FT ids (newVis new vis) csc elt elt' = true ∧ chkL FT ids (newVis new vis) csc cond ifs = true := by
  obtain ⟨elt', gs, csc, p, rfl, h⟩ := vLC_inv h
  obtain ⟨⟨target, iter, ifs, n⟩, rfl, h⟩ := vOne_inv h
  obtain ⟨new, hT, h⟩ := vSome_inv h
  obtain ⟨h0, h⟩ := and2 h
  obtain ⟨h1, h⟩ := and2 h
  obtain ⟨h2, h⟩ := and2 h
  obtain ⟨h3, h4⟩ := and2 h
  obtain ⟨e1, hk, h5⟩ := vIter_inv h3
  obtain rfl : n = 0 := of_decide_eq_true h0
  exact ⟨elt', target, iter, ifs, csc, p, new, e1, rfl, hT, h1, h2, hk, h5, and2 h4⟩
theorem inv_cons {e : Ex} {es : Exs} {xs : List Expr} (h : chkL FT ids vis sc (.cons e es) xs = true) : ∃ x r, xs = x :: r ∧ chkE FT ids vis sc e x = true ∧ chkL FT ids vis sc es r = true := by
  cases xs with
  | nil => exact nb h
  | cons x r => exact ⟨x, r, rfl, and2 h⟩
theorem inv_nil {xs : List Expr} (h : chkL FT ids vis sc .nil xs = true) : xs = [] := List.isEmpty_iff.mp h
end inv
noncomputable def ixOf : Ex → Nat
  | .nm _ => 23 | .int _ => 19 | .bool _ => 19 | .none => 19 | .glob _ => 23 | .bin _ _ _ => 2 | .not _ => 3 | .neg _ => 3 | .boolop _ _ => 0 | .cmp _ _ _ => 15 | .cmp2 _ _ _ _ _ => 15 | .isc _ _ _ => 15
  | .call _ _ => 16 | .b1 _ _ => 16 | .isinst _ _ => 16 | .append _ _ => 16 | .extend _ _ => 16 | .pop _ _ => 16 | .clear _ => 16 | .index _ _ => 16 | .sub _ _ => 21 | .slice _ _ _ => 21 | .mm _ _ _ => 16 | .lst _ => 24 | .tup _ => 25 | .comp _ _ _ _ _ => 8 | .str _ => 19 | .dict0 => 6 | .fstr _ _ => 18 | .join _ _ => 16
theorem chk_ix {FT : Nat → Option Fn} {ids : List Nat} {vis : List (Nat × Str)} {sc : Scope} {e : Ex} {ex : Expr} (h : chkE FT ids vis sc e ex = true) : ex.ctorIdx = ixOf e := by
  cases e with
  | nm _ => exact vName_ix h
  | int _ => exact vConst_ix h
  | bool _ => exact vConst_ix h
  | none => exact vConst_ix h
  | glob _ => exact vName_ix h
  | bin _ _ _ => exact vBin_ix h
  | not _ => exact vUn_ix h
  | neg _ => exact vUn_ix h
  | boolop _ _ => exact vBoolOp_ix h
  | cmp _ _ _ => exact vCmp_ix h
  | cmp2 _ _ _ _ _ => exact vCmp_ix h
  | isc _ _ _ => exact vCmp_ix h
  | call _ _ => exact vCall_ix h
  | b1 _ _ => exact vCall_ix h
  | isinst _ _ => exact vCall_ix h
  | append _ _ => exact vCall_ix h
  | extend _ _ => exact vCall_ix h
  | pop _ _ => exact vCall_ix h
  | clear _ => exact vCall_ix h
  | index _ _ => exact vCall_ix h
  | sub _ _ => exact vSub_ix h
  | slice _ _ _ => exact vSub_ix h
  | mm _ _ _ => exact vCall_ix h
  | lst _ => exact vList_ix h
  | tup _ => exact vTup_ix h
  | comp _ _ _ _ _ => exact vLC_ix h
  | str _ => exact vConst_ix h
  | dict0 => exact vDict_ix h
  | fstr _ _ => exact vJS_ix h
  | join _ _ => exact vCall_ix h
theorem ix_in (e : Ex) : ixOf e = 8 ∨ [23, 19, 2, 3, 0, 15, 16, 21, 24, 25, 6, 18, 20].contains (ixOf e) = true := by
  cases e <;> first | exact .inr rfl | exact .inl rfl
theorem ix_ne {e : Ex} {n : Nat} (h : ixOf e = n) (h8 : n ≠ 8) (hn : [23, 19, 2, 3, 0, 15, 16, 21, 24, 25, 6, 18, 20].contains n = false) : False := by
  subst h
  rcases ix_in e with q | q
  · exact h8 q
  · rw [q] at hn; exact Bool.noConfusion hn
theorem chk_notStarred {FT : Nat → Option Fn} {ids : List Nat} {vis : List (Nat × Str)} {sc : Scope} {e : Ex} {a : Expr} {p : Pos} (h : chkE FT ids vis sc e (.Starred a p) = true) : False :=
  ix_ne (n := 22) (chk_ix h).symm (by decide) rfl
theorem not_ix {a b : Nat} (h : a ≠ b) : (!(a == b)) = true := by rw [beq_false_of_ne h]; rfl
theorem chk_notSlice {FT : Nat → Option Fn} {ids : List Nat} {vis : List (Nat × Str)} {sc : Scope} {e : Ex} {ex : Expr} (h : chkE FT ids vis sc e ex = true) : notSlice ex = true :=
  not_ix fun q => ix_ne (n := 26) ((chk_ix h).symm.trans q) (by decide) rfl
section inv
variable {FT : Nat → Option Fn} {ids : List Nat} {vis : List (Nat × Str)} {sc : Scope} {ex : Expr}
theorem chkL_star {es : Exs} {xs : List Expr} (h : chkL FT ids vis sc es xs = true) : ∀ e ∈ xs, ∀ a p, e ≠ .Starred a p := by
  induction xs generalizing es with
  | nil => intro e he; cases he
  | cons x r ih =>
    cases es with
    | nil => exact nb h
    | cons e es =>
      obtain ⟨h1, h2⟩ := and2 h
      intro e he a p q
      cases he with
      | head => subst q; exact chk_notStarred h1
      | tail _ he => exact ih h2 e he a p q
end inv
theorem chk_ns {FT : Nat → Option Fn} {ids : List Nat} {vis : List (Nat × Str)} {sc : Scope} {e : Ex} {ex : Expr} (h : chkE FT ids vis sc e ex = true) : ∀ a q, ex ≠ .Starred a q := fun a q e => chk_notStarred (e ▸ h)

end TD

namespace TD
open PySem PyProof.Rows

theorem vrel_keep {W : Cx} {env : Env} {vis : List (Nat × Str)} {loc : Loc} {m1 m2 : Mem} {s1 s2 : Shared} {v : Val} {y : Value} (R : Rel W env vis loc m1 s1) (S : Step NoD m1 s1.heap m2 s2.heap) (h : VRel W s1.heap v y) : VRel W s2.heap v y := h.keep (S.keepF R.m.mems .none)

theorem VRel.kinds {W : Cx} {h : Heap} {x : Val} {a : Value} (hx : VRel W h x a) : (x = .none ∧ a = .none) ∨ (∃ t, x = .bool t ∧ a = .bool t) ∨ (isNone x = false ∧ (∀ t, isBool t x = false) ∧ ((∃ i t, a = .int i t) ∨ (∃ c, a = .ref c) ∨ ∃ x t, a = .str x t)) := by
  cases x with
  | none => exact .inl ⟨rfl, hx.none'⟩
  | bool t => exact .inr (.inl ⟨t, rfl, hx.bool⟩)
  | int i => exact .inr (.inr ⟨rfl, fun _ => rfl, .inl ⟨i, hx.int⟩⟩)
  | ref c => exact .inr (.inr ⟨rfl, fun _ => rfl, .inr (.inl ⟨c, hx.ref⟩)⟩)
  | str x => obtain ⟨t, q⟩ := hx.str; exact .inr (.inr ⟨rfl, fun _ => rfl, .inr (.inr ⟨_, t, q⟩)⟩)
  | tup _ => obtain ⟨c, _, q, _⟩ := hx; exact .inr (.inr ⟨rfl, fun _ => rfl, .inr (.inl ⟨c, q⟩)⟩)
  | frz _ => obtain ⟨c, _, q, _⟩ := hx; exact .inr (.inr ⟨rfl, fun _ => rfl, .inr (.inl ⟨c, q⟩)⟩)
noncomputable def litV : Option Bool → Value
  | none => .none
  | some t => .bool t
theorem VRel.plain {W : Cx} {h : Heap} {x : Val} {a : Value} {c : Option Bool} (hx : VRel W h x a) : plainIs a (litV c) = true := by
  cases c <;> rcases hx.kinds with ⟨_, rfl⟩ | ⟨t, _, rfl⟩ | ⟨_, _, ⟨i, t, rfl⟩ | ⟨c, rfl⟩ | ⟨x, t, rfl⟩⟩ <;> rfl
theorem VRel.lit {W : Cx} {h : Heap} {x : Val} {a : Value} {c : Option Bool} (hx : VRel W h x a) : (isLit c x = true → a = litV c) ∧ (isLit c x = false → a ≠ litV c) := by
  cases c with
  | none =>
    rcases hx.kinds with ⟨rfl, rfl⟩ | ⟨t, rfl, rfl⟩ | ⟨h1, h2, ⟨i, t, rfl⟩ | ⟨c, rfl⟩ | ⟨x, t, rfl⟩⟩
    · exact ⟨fun _ => rfl, fun e => Bool.noConfusion e⟩
    · exact ⟨fun e => nb e, fun _ e => by cases e⟩
    · exact ⟨fun e => nb (h1.symm.trans e), fun _ e => by cases e⟩
    · exact ⟨fun e => nb (h1.symm.trans e), fun _ e => by cases e⟩
    · exact ⟨fun e => nb (h1.symm.trans e), fun _ e => by cases e⟩
  | some u =>
    rcases hx.kinds with ⟨rfl, rfl⟩ | ⟨t, rfl, rfl⟩ | ⟨h1, h2, ⟨i, t, rfl⟩ | ⟨c, rfl⟩ | ⟨x, t, rfl⟩⟩
    · exact ⟨fun e => nb e, fun _ e => by cases e⟩
    · refine ⟨fun e => congrArg Value.bool (beq_iff_eq.mp e), fun e q => ?_⟩
      cases q
      exact absurd ((beq_self_eq_true u).symm.trans e) (fun q => Bool.noConfusion q)
    · exact ⟨fun e => nb ((h2 u).symm.trans e), fun _ e => by cases e⟩
    · exact ⟨fun e => nb ((h2 u).symm.trans e), fun _ e => by cases e⟩
    · exact ⟨fun e => nb ((h2 u).symm.trans e), fun _ e => by cases e⟩
theorem isc_sound {W : Cx} {A : Around} {E : Value → Shared → Prop} {mem : Mem} {s : Shared} {Q : Val → Mem → Prop} (M : MRel W mem s) {p : Bool} {x : Val} {a : Value} {c : Option Bool} (hx : VRel W s.heap x a) (hq : Q (.bool (isLit c x == p)) mem) :
    wpAny (model W.prog W.w) A (compareOp (isIs p) a (litV c)) (PM W mem s Q) E s := by
  have hpl : plainIs a (litV c) = true := hx.plain
  obtain ⟨h1, h2⟩ := hx.lit (c := c)
  cases r : isLit c x with
  | false =>
    rw [r] at hq
    cases p with
    | false => exact wpAny_isNot_other hpl (h2 r) (PM.here M .mkBool hq)
    | true => exact wpAny_is_other hpl (h2 r) (PM.here M .mkBool hq)
  | true =>
    rw [r] at hq
    have e := h1 r
    rw [← e] at hpl ⊢
    cases p with
    | false => exact wpAny_isNot_self hpl (PM.here M .mkBool hq)
    | true => exact wpAny_is_self hpl (PM.here M .mkBool hq)

theorem forIn_false {M : Model} {A : Around} {E : Value → Shared → Prop} {s : Shared} {env : Env} {P : Bool → Shared → Prop} (h : P false s) : ∀ (l : List Expr),
    wpAny M A (forIn l false fun c r => if r = true then do let ok ← isTrue c env (eval c env); pure (ForInStep.yield ok) else pure (ForInStep.yield r)) P E s
  | [] => wpAny_pure h
  | c :: l => by
    rw [List.forIn_cons]
    simp only [Bool.false_eq_true, if_false]
    exact forIn_false h l

theorem bi_name {sc : Scope} {c : Cls} {y : Str} (h : gName sc c.bi y = true) : c.code < 5 ∧ gName sc c.name y = true ∧ c.name ∈ biNames ∧ bootBuiltins (Str.ofString c.name) = some (.type c.name) := by
  cases c <;> first | exact (gName_empty h).elim | skip
  · exact ⟨by decide, h, by repeat (first | exact List.Mem.head _ | refine List.Mem.tail _ ?_), Boot.«int»⟩
  · exact ⟨by decide, h, by repeat (first | exact List.Mem.head _ | refine List.Mem.tail _ ?_), Boot.«bool»⟩
  · exact ⟨by decide, h, by repeat (first | exact List.Mem.head _ | refine List.Mem.tail _ ?_), Boot.«list»⟩
  · exact ⟨by decide, h, by repeat (first | exact List.Mem.head _ | refine List.Mem.tail _ ?_), Boot.«tuple»⟩
  · exact ⟨by decide, h, by repeat (first | exact List.Mem.head _ | refine List.Mem.tail _ ?_), Boot.«str»⟩
theorem PM.mono {W : Cx} {mem : Mem} {s s' : Shared} {Q Q' : Val → Mem → Prop} {y : Value} (k : ∀ v m, Q v m → Q' v m) (h : PM W mem s Q y s') : PM W mem s Q' y s' := by
  obtain ⟨v, m, a, b, c, d⟩ := h
  exact ⟨v, m, a, b, c, k _ _ d⟩
theorem bsQ_end {k b : Bool} {P : Bool → Mem → Prop} {m : Mem} {W : Mem → Prop} (hW : W m → P k m) (h : bsQ k W P b m) : P b m := by
  cases b <;> cases k
  · exact hW (h.1 rfl)
  · exact h.2 rfl
  · exact h.2 rfl
  · exact hW (h.1 rfl)

noncomputable def EvP (W : Cx) (FT : Nat → Option Fn) (ids : List Nat) (G : String → Option Val) (A : Around) (C : CallT) (e : Ex) : Prop := ∀ {ex : Expr} {env : Env} {vis : List (Nat × Str)} {sc : Scope} {loc : Loc} {Q : Val → Mem → Prop} {X : Nat → Mem → Prop} {mem : Mem} {s : Shared} {E : Value → Shared → Prop},
    chkE FT ids vis sc e ex = true → ScOk sc env → VisOk vis → (∀ k m, ¬ X k m) → Rel W env vis loc mem s → wpE C G X e loc Q mem → wpAny (model W.prog W.w) A (eval ex env) (PM W mem s Q) E s
noncomputable def TsP (W : Cx) (FT : Nat → Option Fn) (ids : List Nat) (G : String → Option Val) (A : Around) (C : CallT) (e : Ex) : Prop := ∀ {ex : Expr} {env : Env} {vis : List (Nat × Str)} {sc : Scope} {loc : Loc} {P : Bool → Mem → Prop} {X : Nat → Mem → Prop} {mem : Mem} {s : Shared} {E : Value → Shared → Prop},
    chkE FT ids vis sc e ex = true → ScOk sc env → VisOk vis → (∀ k m, ¬ X k m) → Rel W env vis loc mem s → wpE C G X e loc (asB P) mem → wpAny (model W.prog W.w) A (isTrue ex env (eval ex env)) (PT W mem s P) E s
noncomputable def IsPlain (ex : Expr) : Prop := ∀ (env : Env) (w : Sem Value), isTrue ex env w = (do let v ← w; standAt ex.pos; holding [v] (truthy v))
theorem plain_isTrue {ex : Expr} (h : [0, 3, 5, 15].contains ex.ctorIdx = false) : IsPlain ex := fun env w => by
  cases ex <;> first | rfl | exact nb (show false = true from h.symm)
theorem gen {W : Cx} {FT : Nat → Option Fn} {ids : List Nat} {G : String → Option Val} {A : Around} {C : CallT} {e : Ex} (ev : EvP W FT ids G A C e) (hp : ∀ {ex : Expr} {vis : List (Nat × Str)} {sc : Scope}, chkE FT ids vis sc e ex = true → IsPlain ex) : EvP W FT ids G A C e ∧ TsP W FT ids G A C e :=
  ⟨ev, fun hc hsc hv hX R h => isTrue_plain (truth (ev hc hsc hv hX R h) fun b s' q => q) (hp hc _ _)⟩

theorem lit_pure {M : Model} {A : Around} {E : Value → Shared → Prop} {s : Shared} {env : Env} {c : Option Bool} {k : Nat} {p : Pos} {P : Value → Shared → Prop} (h : P (litV c) s) : wpAny M A (eval (.Constant (litC c) k p) env) P E s := by
  cases c <;> exact wpAny_pure h
theorem asB_bool {P : Bool → Mem → Prop} {b : Bool} {m : Mem} (h : asB P (.bool b) m) : P b m := by
  obtain ⟨b', e, h⟩ := h
  cases e
  exact h
theorem PT.plain {W : Cx} {mem : Mem} {s s' : Shared} {P : Bool → Mem → Prop} {b : Bool} (h : PT W mem s (fun b m => asB P (.bool b) m) b s') : PT W mem s P b s' := by
  obtain ⟨m, a, c, d⟩ := h
  exact ⟨m, a, c, asB_bool d⟩
theorem chk_plain {FT : Nat → Option Fn} {ids : List Nat} {vis : List (Nat × Str)} {sc : Scope} {e : Ex} {ex : Expr} (he : [0, 3, 5, 15].contains (ixOf e) = false) (h : chkE FT ids vis sc e ex = true) : IsPlain ex :=
  plain_isTrue (by rw [chk_ix h]; exact he)

theorem star1 {e1 : Expr} (h : ∀ a q, e1 ≠ .Starred a q) : ∀ e ∈ [e1], ∀ a q, e ≠ .Starred a q := fun e he => by
  cases List.mem_singleton.mp he
  exact h

mutual
theorem soundE {W : Cx} {FT : Nat → Option Fn} {ids : List Nat} {G : String → Option Val} {n : Nat} {A : Around} {C : CallT} (SC : SCx W FT ids G n A C) : ∀ (e : Ex), EvP W FT ids G A C e ∧ TsP W FT ids G A C e
  | .nm i => gen (fun {ex env vis sc loc Q X mem s E} hc hsc hv hX R h => by
    obtain ⟨x, p, rfl, h1, h2, h3⟩ := inv_nm hc
    obtain ⟨v, q, h'⟩ := h
    exact name_sound R hsc h1 h2 h3 q h') (fun {ex vis sc} h => chk_plain rfl h)
  | .int i => gen (fun {ex env vis sc loc Q X mem s E} hc hsc hv hX R h => by
    obtain ⟨k, p, rfl⟩ := inv_int hc
    exact wpAny_Constant_int (PM.val R.m .mkInt h _)) (fun {ex vis sc} h => chk_plain rfl h)
  | .bool i => gen (fun {ex env vis sc loc Q X mem s E} hc hsc hv hX R h => by
    obtain ⟨k, p, rfl⟩ := inv_bool hc
    exact wpAny_pure (PM.here R.m .mkBool h)) (fun {ex vis sc} h => chk_plain rfl h)
  | .none => gen (fun {ex env vis sc loc Q X mem s E} hc hsc hv hX R h => by
    obtain ⟨k, p, rfl⟩ := inv_none hc
    exact wpAny_pure (PM.here R.m .mkNone h)) (fun {ex vis sc} h => chk_plain rfl h)
  | .str i => gen (fun {ex env vis sc loc Q X mem s E} hc hsc hv hX R h => by
    obtain ⟨k, p, rfl⟩ := inv_str hc
    exact wpAny_Constant_str (PM.val R.m .mkStr h _)) (fun {ex vis sc} h => chk_plain rfl h)
  | .dict0 => gen (fun {ex env vis sc loc Q X mem s E} hc hsc hv hX R h => by
    obtain ⟨p, rfl⟩ := inv_dict0 hc
    have k : KeepL env.locals s.heap (s.heap.push { cls := .type "dict", data := .dict #[] }) := .push _
    have ha := size_none s.heap
    exact wpAny_Dict_empty ⟨.ref s.heap.objs.size, _, .mkRef, R.allocM (o := .dict0) k ha (fun kf => ⟨_, _, _, Heap.get?_push_size _ rfl, rfl, rfl⟩) rfl rfl, R.allocS (o := .dict0) k ha, h _ (R.m.mems.fresh ha)⟩) (fun {ex vis sc} h => chk_plain rfl h)
  | .fstr a c => gen (fun {ex env vis sc loc Q X mem s E} hc hsc hv hX R h => by
    obtain ⟨v, pv, kc, pc, p, rfl, h1⟩ := inv_fstr hc
    refine JoinedStr_many (joinParts_cons (FormattedValue_plain ?_))
    refine then1 R ((soundE SC a).1 h1 hsc hv hX R h) fun u y m1 s1 hy R1 S1 q1 => ?_
    obtain ⟨i, rfl, ht, hl, hq⟩ := q1
    obtain ⟨t, rfl⟩ := hy.int
    exact fstr_sound R1 ht hl (fun t' tk => PM.trans S1 (PM.val R1.m .mkStr hq tk))) (fun {ex vis sc} h => chk_plain rfl h)
  | .join c a => gen (fun {ex env vis sc loc Q X mem s E} hc hsc hv hX R h => by
    obtain ⟨kc, pc, ap, e2, p, rfl, hok, h1⟩ := inv_join hc
    refine method_call hok (star1 (chk_ns h1)) (show 1 < 29 by decide) ?_
    refine wpAny_Constant_str fun pl => ?_
    refine getMethod_str PySem.F.slot_str_join PySem.F.type_str_join (callM1 (chk_ns h1) ?_)
    have R0 : Rel W env vis loc mem { s with toks := s.toks + 1 } := R.step (R.m.toks _) .refl
    refine then1 R0 ((soundE SC a).1 h1 hsc hv hX R0 h) fun u y m1 s1 hy R1 S1 q1 => ?_
    obtain ⟨b, ts, rfl, em, hw, hs, hq⟩ := q1
    obtain rfl := hy.ref
    exact pmTrans S1 (join_sound R1 em hw hs hq)) (fun {ex vis sc} h => chk_plain rfl h)
  | .glob i => gen (fun {ex env vis sc loc Q X mem s E} hc hsc hv hX R h => by
    obtain ⟨x, p, rfl, h1⟩ := inv_glob hc
    obtain ⟨v, q, h'⟩ := h
    obtain ⟨j, t, rfl, hm⟩ := SC.ok.gl i v q
    exact global_sound R SC.ok hsc h1 hm (PM.here R.m .mkInt h')) (fun {ex vis sc} h => chk_plain rfl h)
  | .bin op a b => gen (fun {ex env vis sc loc Q X mem s E} hc hsc hv hX R h => by
    obtain ⟨l, o, r, p, rfl, h1, h2, h3⟩ := inv_bin hc
    refine wpAny_BinOp (then1 R ((soundE SC a).1 h2 hsc hv hX R h) fun x xv m1 s1 hx R1 S1 q1 => ?_)
    refine then1 R1 ((soundE SC b).1 h3 hsc hv hX R1 q1) fun y yv m2 s2 hy R2 S2 q2 => ?_
    exact pmTrans (S1.trans S2) (bin_sound R2 (vrel_keep R1 S2 hx) hy h1 q2)) (fun {ex vis sc} h => chk_plain rfl h)
  | .not a => ⟨(fun {ex env vis sc loc Q X mem s E} hc hsc hv hX R h => by
    obtain ⟨x, p, rfl, h1⟩ := inv_not hc
    refine wpAny_UnaryOp (wpAny_mono ((soundE SC a).1 h1 hsc hv hX R h) (fun y s1 q => ?_) fun _ _ x => x)
    obtain ⟨b, rfl, m1, M1, S1, q1⟩ := q.test
    exact not_of (wpAny_truthy_bool ⟨.bool !b, m1, .mkBool, M1, S1, q1⟩)), (fun {ex env vis sc loc P X mem s E} hc hsc hv hX R h => by
    obtain ⟨x, p, rfl, h1⟩ := inv_not hc
    refine isTrue_not (wpAny_mono ((soundE SC a).2 (P := fun b m => asB P (.bool !b) m) h1 hsc hv hX R h) (fun b s1 q => ?_) fun _ _ x => x)
    obtain ⟨m1, M1, S1, q1⟩ := q
    exact ⟨m1, M1, S1, asB_bool q1⟩)⟩
  | .neg a => gen (fun {ex env vis sc loc Q X mem s E} hc hsc hv hX R h => by
    obtain ⟨x, p, rfl, h1⟩ := inv_neg hc
    refine wpAny_UnaryOp (then1 R ((soundE SC a).1 h1 hsc hv hX R h) fun v y m1 s1 hy R1 S1 q1 => ?_)
    obtain ⟨i, rfl, q1⟩ := q1
    obtain ⟨t, rfl⟩ := hy.int
    exact neg_int (PM.trans S1 (PM.val R1.m .mkInt q1 _))) (fun {ex vis sc} h => by obtain ⟨x, p, rfl, _⟩ := inv_neg h; exact fun _ _ => rfl)
  | .boolop k es => ⟨(fun {ex env vis sc loc Q X mem s E} hc hsc hv hX R h => by
    obtain ⟨vs, p, rfl, hne, h1⟩ := inv_boolop hc
    refine wpAny_mono (soundB SC es (k := k) h1 hne hsc hv hX R h) (fun y s1 q => ?_) fun _ _ x => x
    obtain ⟨b, rfl, m1, M1, S1, q1⟩ := q.test
    exact ⟨.bool b, m1, .mkBool, M1, S1, q1⟩), (fun {ex env vis sc loc P X mem s E} hc hsc hv hX R h => by
    obtain ⟨vs, p, rfl, hne, h1⟩ := inv_boolop hc
    exact wpAny_mono (soundBI SC es h1 hsc hv hX R h) (fun _ _ q => q.plain) fun _ _ x => x)⟩
  | .cmp op a b => ⟨(fun {ex env vis sc loc Q X mem s E} hc hsc hv hX R h => by
    obtain ⟨l, o, r, p, rfl, h0, h1, h2, h3⟩ := inv_cmp hc
    refine wpAny_Compare1 (then1 R ((soundE SC a).1 h2 hsc hv hX R h) fun x xv m1 s1 hx R1 S1 q1 => ?_) (behind_notSet h1)
    refine then1 R1 ((soundE SC b).1 h3 hsc hv hX R1 q1) fun y yv m2 s2 hy R2 S2 q2 => ?_
    refine wpAny_mono (cmp_sound R2 SC.room (vrel_keep R1 S2 hx) hy h0 q2) (fun z s3 q => ?_) fun _ _ x => x
    obtain ⟨b, rfl, m3, M3, S3, q3⟩ := PM.test q
    exact ⟨.bool b, m3, .mkBool, M3, S1.trans (S2.trans S3), q3⟩), (fun {ex env vis sc loc P X mem s E} hc hsc hv hX R h => by
    obtain ⟨l, o, r, p, rfl, h0, h1, h2, h3⟩ := inv_cmp hc
    refine wpAny_isTrue_Compare1 (then1 R ((soundE SC a).1 h2 hsc hv hX R h) fun x xv m1 s1 hx R1 S1 q1 => ?_) (behind_notSet h1)
    refine then1 R1 ((soundE SC b).1 h3 hsc hv hX R1 q1) fun y yv m2 s2 hy R2 S2 q2 => ?_
    exact truth (cmp_sound R2 SC.room (vrel_keep R1 S2 hx) hy h0 q2) fun b s3 q => PT.trans S1 (PT.trans S2 (PT.plain q)))⟩
  | .cmp2 o1 o2 a b c => ⟨(fun {ex env vis sc loc Q X mem s E} hc hsc hv hX R h => by
    obtain ⟨l, p1, p2, r1, r2, p, rfl, h1, h2, h3, h4, h5, h6, h7⟩ := inv_cmp2 hc
    have hm : lastMarks [p1, p2] [r1, r2] = false := by
      show behindInMarks p2 r2 = false
      exact behind_notSet h4
    refine Compare_chain (rs := []) (ops := []) (then1 R ((soundE SC a).1 h5 hsc hv hX R h) fun x xv m1 s1 hx R1 S1 q1 => ?_) hm
    refine chain_link (then1 R1 ((soundE SC b).1 h6 hsc hv hX R1 q1) fun y yv m2 s2 hy R2 S2 q2 => ?_)
    refine wpAny_mono (cmp_sound R2 SC.room (vrel_keep R1 S2 hx) hy h1 q2) (fun z s3 q => ?_) fun _ _ x => x
    obtain ⟨t, rfl, m3, M3, S3, q3⟩ := PM.test q
    refine wpAny_truthy_bool ?_
    have R3 := R2.step M3 S3
    cases t with
    | false => exact ⟨.bool false, m3, .mkBool, M3, S1.trans (S2.trans S3), q3.2 rfl⟩
    | true =>
      simp only [if_true]
      refine chain_last ?_
      refine then1 R3 ((soundE SC c).1 h7 hsc hv hX R3 (q3.1 rfl)) fun u uv m4 s4 hu R4 S4 q4 => ?_
      refine wpAny_mono (cmp_sound R4 SC.room (vrel_keep R3 S4 (vrel_keep R2 S3 hy)) hu h2 q4) (fun z s5 q => ?_) fun _ _ x => x
      obtain ⟨b, rfl, m5, M5, S5, q5⟩ := PM.test q
      exact ⟨.bool b, m5, .mkBool, M5, S1.trans (S2.trans (S3.trans (S4.trans S5))), q5⟩), (fun {ex env vis sc loc P X mem s E} hc hsc hv hX R h => by
    obtain ⟨l, p1, p2, r1, r2, p, rfl, h1, h2, h3, h4, h5, h6, h7⟩ := inv_cmp2 hc
    have hm : lastMarks [p1, p2] [r1, r2] = false := by
      show behindInMarks p2 r2 = false
      exact behind_notSet h4
    refine isTrue_chain (rs := []) (ops := []) (then1 R ((soundE SC a).1 h5 hsc hv hX R h) fun x xv m1 s1 hx R1 S1 q1 => ?_) hm
    refine test_link (then1 R1 ((soundE SC b).1 h6 hsc hv hX R1 q1) fun y yv m2 s2 hy R2 S2 q2 => ?_)
    refine truth (cmp_sound R2 SC.room (vrel_keep R1 S2 hx) hy h1 q2) fun t s3 q => ?_
    obtain ⟨m3, M3, S3, q3⟩ := q
    have R3 := R2.step M3 S3
    cases t with
    | false => exact ⟨m3, M3, S1.trans (S2.trans S3), asB_bool (q3.2 rfl)⟩
    | true =>
      simp only [if_true]
      refine test_last ?_
      refine then1 R3 ((soundE SC c).1 h7 hsc hv hX R3 (q3.1 rfl)) fun u uv m4 s4 hu R4 S4 q4 => ?_
      exact truth (cmp_sound R4 SC.room (vrel_keep R3 S4 (vrel_keep R2 S3 hy)) hu h2 q4) fun b s5 q => PT.trans S1 (PT.trans S2 (PT.trans S3 (PT.trans S4 (PT.plain q)))))⟩
  | .isc q a c => ⟨(fun {ex env vis sc loc Q X mem s E} hc hsc hv hX R h => by
    obtain ⟨l, k', p', p, rfl, h2⟩ := inv_isc hc
    refine wpAny_Compare1 (then1 R ((soundE SC a).1 h2 hsc hv hX R h) fun x xv m1 s1 hx R1 S1 q1 => ?_) rfl
    exact lit_pure (pmTrans S1 (isc_sound R1.m hx q1))), (fun {ex env vis sc loc P X mem s E} hc hsc hv hX R h => by
    obtain ⟨l, k', p', p, rfl, h2⟩ := inv_isc hc
    refine wpAny_isTrue_Compare1 (then1 R ((soundE SC a).1 h2 hsc hv hX R h) fun x xv m1 s1 hx R1 S1 q1 => ?_) rfl
    exact lit_pure (truth (isc_sound R1.m hx q1) fun b s2 q => PT.trans S1 q))⟩
  | .call f args => gen (fun {ex env vis sc loc Q X mem s E} hc hsc hv hX R h => by
    obtain ⟨x, px, es, p, fn, rfl, h1, h2, h0, h3, h4, h5⟩ := inv_call hc
    obtain ⟨a, o, fd, hm, ho, hd, hcall⟩ := SC.call f h1 fn h2
    refine eval_call (global_sound R SC.ok hsc h3 (hm.1 h0) ?_)
    refine Calls.callWith_function (o := o) (fd := fd) ?_
    cases es with
    | nil => exact absurd rfl h4
    | cons e0 er =>
      rw [back_cons (chkL_star h5 e0 (.head _))]
      refine Calls.evalArgs_plain ?_
      rw [← back_cons (chkL_star h5 e0 (.head _))]
      refine wpAny_mono (soundL SC args h5 hsc hv hX R h) (fun vs s1 q => ?_) fun _ _ x => x
      obtain ⟨us, m1, hr, M1, S1, q1⟩ := q
      exact ⟨⟨M1.stays _ _ ho, hd⟩, pmTrans S1 (hcall A (.inl rfl) us vs Q X m1 s1 E (.inl hX) q1 M1 hr)⟩) (fun {ex vis sc} h => chk_plain rfl h)
  | .b1 b a => gen (fun {ex env vis sc loc Q X mem s E} hc hsc hv hX R h => by
    cases hb : b.inner with
    | none =>
      obtain ⟨x, px, e1, p, rfl, h1, h2⟩ := inv_b1 hb hc
      have he := chk_ns h2
      have ev := fun (K : Value → Sem Value) (hK : ∀ v y m1 s1, VRel W s1.heap v y → Rel W env vis loc m1 s1 → wpB1 b v Q m1 → wpAny (model W.prog W.w) A (K y) (PM W m1 s1 Q) E s1) =>
        then1 (E := E) R ((soundE SC a).1 h2 hsc hv hX R h) (P := fun y s1 => wpAny (model W.prog W.w) A (K y) (PM W mem s Q) E s1) fun v y m1 s1 hy R1 S1 q1 => pmTrans S1 (hK v y m1 s1 hy R1 q1)
      cases b with
      | len => exact eval_call (builtin_sound R SC.ok hsc h1 (by repeat (first | exact List.Mem.head _ | refine List.Mem.tail _ ?_)) Boot.«len» (call1b he (ev _ fun v y m1 s1 hy R1 q1 => b1_sound R1 SC.room hb hy q1)))
      | all => exact eval_call (builtin_sound R SC.ok hsc h1 (by repeat (first | exact List.Mem.head _ | refine List.Mem.tail _ ?_)) Boot.«all» (call1b he (ev _ fun v y m1 s1 hy R1 q1 => b1_sound R1 SC.room hb hy q1)))
      | sum => exact eval_call (builtin_sound R SC.ok hsc h1 (by repeat (first | exact List.Mem.head _ | refine List.Mem.tail _ ?_)) Boot.«sum» (call1b he (ev _ fun v y m1 s1 hy R1 q1 => b1_sound R1 SC.room hb hy q1)))
      | maxL => exact eval_call (builtin_sound R SC.ok hsc h1 (by repeat (first | exact List.Mem.head _ | refine List.Mem.tail _ ?_)) Boot.«max» (call1b he (ev _ fun v y m1 s1 hy R1 q1 => b1_sound R1 SC.room hb hy q1)))
      | minL => exact eval_call (builtin_sound R SC.ok hsc h1 (by repeat (first | exact List.Mem.head _ | refine List.Mem.tail _ ?_)) Boot.«min» (call1b he (ev _ fun v y m1 s1 hy R1 q1 => b1_sound R1 SC.room hb hy q1)))
      | list => exact eval_call (builtin_sound R SC.ok hsc h1 (by repeat (first | exact List.Mem.head _ | refine List.Mem.tail _ ?_)) Boot.«list» (call1t he (ev _ fun v y m1 s1 hy R1 q1 => b1_sound R1 SC.room hb hy q1)))
      | tuple => exact eval_call (builtin_sound R SC.ok hsc h1 (by repeat (first | exact List.Mem.head _ | refine List.Mem.tail _ ?_)) Boot.«tuple» (call1t he (ev _ fun v y m1 s1 hy R1 q1 => b1_sound R1 SC.room hb hy q1)))
      | sorted => exact eval_call (builtin_sound R SC.ok hsc h1 (by repeat (first | exact List.Mem.head _ | refine List.Mem.tail _ ?_)) Boot.«sorted» (call1b he (ev _ fun v y m1 s1 hy R1 q1 => b1_sound R1 SC.room hb hy q1)))
      | int => exact eval_call (builtin_sound R SC.ok hsc h1 (by repeat (first | exact List.Mem.head _ | refine List.Mem.tail _ ?_)) Boot.«int» (call1t he (ev _ fun v y m1 s1 hy R1 q1 => b1_sound R1 SC.room hb hy q1)))
      | lrange => cases hb
      | lrev => cases hb
      | lenset => cases hb
      | str => exact eval_call (builtin_sound R SC.ok hsc h1 (by repeat (first | exact List.Mem.head _ | refine List.Mem.tail _ ?_)) Boot.«str» (call1t he (ev _ fun v y m1 s1 hy R1 q1 => b1_sound R1 SC.room hb hy q1)))
    | some f =>
      obtain ⟨x, px, y, py, e1, p, p', rfl, h1, h2, h3⟩ := inv_b1i hb hc
      have he := chk_ns h3
      have hne : ∀ a q, (Expr.Call (.Name y py) [e1] [] p') ≠ .Starred a q := fun a q e => by cases e
      cases b with
      | lrange =>
        cases hb
        refine eval_call (builtin_sound R SC.ok hsc h1 (by repeat (first | exact List.Mem.head _ | refine List.Mem.tail _ ?_)) Boot.«list» (call1t hne ?_))
        refine eval_call (builtin_sound R SC.ok hsc h2 (by repeat (first | exact List.Mem.head _ | refine List.Mem.tail _ ?_)) Boot.«range» (call1t he ?_))
        refine then1 R ((soundE SC a).1 h3 hsc hv hX R h) fun v yv m1 s1 hy R1 S1 q1 => ?_
        obtain ⟨nn, rfl, hn, hf⟩ := q1
        obtain ⟨t, rfl⟩ := hy.int
        exact wpAny_mono (lrange_sound R1 SC.room hn hf) (fun r s2 q => pmTrans S1 q) fun _ _ x => x
      | lrev =>
        cases hb
        refine eval_call (builtin_sound R SC.ok hsc h1 (by repeat (first | exact List.Mem.head _ | refine List.Mem.tail _ ?_)) Boot.«list» (call1t hne ?_))
        refine eval_call (builtin_sound R SC.ok hsc h2 (by repeat (first | exact List.Mem.head _ | refine List.Mem.tail _ ?_)) boot_reversed (call1t he ?_))
        refine then1 R ((soundE SC a).1 h3 hsc hv hX R h) fun v yv m1 s1 hy R1 S1 q1 => ?_
        obtain ⟨a', xs, rfl, em, hl, hf⟩ := q1
        obtain rfl := hy.ref
        exact wpAny_mono (lrev_sound R1 SC.room em hl hf) (fun r s2 q => pmTrans S1 q) fun _ _ x => x
      | lenset =>
        cases hb
        refine eval_call (builtin_sound R SC.ok hsc h1 (by repeat (first | exact List.Mem.head _ | refine List.Mem.tail _ ?_)) Boot.«len» (call1b hne ?_))
        refine eval_call (builtin_sound R SC.ok hsc h2 (by repeat (first | exact List.Mem.head _ | refine List.Mem.tail _ ?_)) Boot.«set» (call1t he ?_))
        refine then1 R ((soundE SC a).1 h3 hsc hv hX R h) fun v yv m1 s1 hy R1 S1 q1 => ?_
        exact wpAny_mono (lenset_sound R1 SC.room hy q1) (fun r s2 q => pmTrans S1 q) fun _ _ x => x
      | len => cases hb
      | all => cases hb
      | sum => cases hb
      | maxL => cases hb
      | minL => cases hb
      | list => cases hb
      | tuple => cases hb
      | sorted => cases hb
      | int => cases hb
      | str => cases hb) (fun {ex vis sc} h => chk_plain rfl h)
  | .isinst a c => gen (fun {ex env vis sc loc Q X mem s E} hc hsc hv hX R h => by
    obtain ⟨x, px, e1, y, py, p, rfl, h1, h2, h3⟩ := inv_isinst hc
    refine eval_call (builtin_sound R SC.ok hsc h1 (by repeat (first | exact List.Mem.head _ | refine List.Mem.tail _ ?_)) Boot.«isinstance» (call2b (chk_ns h2) (fun a q e => by cases e) ?_))
    refine then1 R ((soundE SC a).1 h2 hsc hv hX R h) fun v yv m1 s1 hy R1 S1 q1 => ?_
    obtain ⟨b, hA, q1⟩ := q1
    obtain ⟨hcl, hg, hin, hw⟩ := bi_name h3
    exact builtin_sound R1 SC.ok hsc hg hin hw (pmTrans S1 (isinst_sound R1 hcl hy hA q1))) (fun {ex vis sc} h => chk_plain rfl h)
  | .append o a => gen (fun {ex env vis sc loc Q X mem s E} hc hsc hv hX R h => by
    obtain ⟨e1, ap, e2, p, rfl, hok, h1, h2⟩ := inv_append hc
    refine method_call hok (star1 (chk_ns h2)) (show 1 < 29 by decide) ?_
    refine then1 R ((soundE SC o).1 h1 hsc hv hX R h) fun v yv m1 s1 hy R1 S1 q1 pl => ?_
    obtain ⟨⟨a1, xs1, rfl, e1m⟩, q1⟩ := q1
    obtain rfl := hy.ref
    refine getMethod_list R1 e1m PySem.slot_list_append PySem.F.type_list_append (callM1 (chk_ns h2) ?_)
    refine then1 R1 ((soundE SC a).1 h2 hsc hv hX R1 q1) fun w wv m2 s2 hw R2 S2 q2 => ?_
    obtain ⟨_, xs, e, e2m, hl, hq⟩ := q2
    cases e
    exact pmTrans (S1.trans S2) (append_sound R2 e2m hl hw hq)) (fun {ex vis sc} h => chk_plain rfl h)
  | .extend o a => gen (fun {ex env vis sc loc Q X mem s E} hc hsc hv hX R h => by
    obtain ⟨e1, ap, e2, p, rfl, hok, h1, h2⟩ := inv_extend hc
    refine method_call hok (star1 (chk_ns h2)) (show 1 < 29 by decide) ?_
    refine then1 R ((soundE SC o).1 h1 hsc hv hX R h) fun v yv m1 s1 hy R1 S1 q1 pl => ?_
    obtain ⟨⟨a1, xs1, rfl, e1m⟩, q1⟩ := q1
    obtain rfl := hy.ref
    refine getMethod_list R1 e1m PySem.F.slot_list_extend PySem.F.type_list_extend (callM1 (chk_ns h2) ?_)
    refine then1 R1 ((soundE SC a).1 h2 hsc hv hX R1 q1) fun w wv m2 s2 hw R2 S2 q2 => ?_
    obtain ⟨_, b, xs, ys, e, rfl, hne, e2m, e3m, hl, hq⟩ := q2
    cases e
    obtain rfl := hw.ref
    exact pmTrans (S1.trans S2) (extend_sound R2 e2m e3m hl hq)) (fun {ex vis sc} h => chk_plain rfl h)
  | .pop o i => gen (fun {ex env vis sc loc Q X mem s E} hc hsc hv hX R h => by
    obtain ⟨e1, ap, es, p, rfl, hok, h1, h2, hle⟩ := inv_pop hc
    cases i with
    | nil =>
      obtain rfl := inv_nil h2
      refine method_call hok (fun _ he => nomatch he) (show 0 < 29 by decide) ?_
      refine then1 R ((soundE SC o).1 h1 hsc hv hX R h) fun v yv m1 s1 hy R1 S1 q1 pl => ?_
      obtain ⟨⟨a1, xs1, rfl, e1m⟩, q1⟩ := q1
      obtain rfl := hy.ref
      obtain ⟨_, xs, k, j, y, e, e2m, hl, hk, hp, hy', hq⟩ := q1
      cases e
      rcases hk with ⟨_, rfl⟩ | hk
      · exact getMethod_list R1 e1m PySem.F.slot_list_pop PySem.F.type_list_pop (callM0 (pmTrans S1 (pop0_sound R1 e2m hl hp hy' hq)))
      · cases hk
    | cons i1 ir =>
      obtain ⟨x, r, rfl, h3, h4⟩ := inv_cons h2
      cases ir with
      | cons _ _ => obtain ⟨x2, r2, rfl, _, _⟩ := inv_cons h4; simp at hle
      | nil =>
        obtain rfl := inv_nil h4
        refine method_call hok (star1 (chk_ns h3)) (show 1 < 29 by decide) ?_
        refine then1 R ((soundE SC o).1 h1 hsc hv hX R h) fun v yv m1 s1 hy R1 S1 q1 pl => ?_
        obtain ⟨⟨a1, xs1, rfl, e1m⟩, q1⟩ := q1
        obtain rfl := hy.ref
        refine getMethod_list R1 e1m PySem.F.slot_list_pop PySem.F.type_list_pop (callM1 (chk_ns h3) ?_)
        refine then1 R1 ((soundE SC i1).1 h3 hsc hv hX R1 q1) fun w wv m2 s2 hw R2 S2 q2 => ?_
        obtain ⟨_, xs, k, j, y, e, e2m, hl, hk, hp, hy', hq⟩ := q2
        cases e
        rcases hk with ⟨hk, _⟩ | hk
        · cases hk
        · cases hk
          obtain ⟨t, rfl⟩ := hw.int
          exact pmTrans (S1.trans S2) (pop_sound R2 e2m hl hp hy' hq)) (fun {ex vis sc} h => chk_plain rfl h)
  | .clear o => gen (fun {ex env vis sc loc Q X mem s E} hc hsc hv hX R h => by
    obtain ⟨e1, ap, p, rfl, hok, h1⟩ := inv_clear hc
    refine method_call hok (fun _ he => nomatch he) (show 0 < 29 by decide) ?_
    refine then1 R ((soundE SC o).1 h1 hsc hv hX R h) fun v yv m1 s1 hy R1 S1 q1 pl => ?_
    obtain ⟨_, xs, rfl, e1m, hl, hq⟩ := q1
    obtain rfl := hy.ref
    exact getMethod_list R1 e1m PySem.F.slot_list_clear PySem.F.type_list_clear (callM0 (pmTrans S1 (clear_sound R1 e1m hl hq)))) (fun {ex vis sc} h => chk_plain rfl h)
  | .index o a => gen (fun {ex env vis sc loc Q X mem s E} hc hsc hv hX R h => by
    obtain ⟨e1, ap, e2, p, rfl, hok, h1, h2⟩ := inv_index hc
    refine method_call hok (star1 (chk_ns h2)) (show 1 < 29 by decide) ?_
    refine then1 R ((soundE SC o).1 h1 hsc hv hX R h) fun v yv m1 s1 hy R1 S1 q1 pl => ?_
    obtain ⟨⟨a1, xs1, rfl, e1m⟩, q1⟩ := q1
    obtain rfl := hy.ref
    refine getMethod_list R1 e1m PySem.F.slot_list_index PySem.F.type_list_index (callM1 (chk_ns h2) ?_)
    refine then1 R1 ((soundE SC a).1 h2 hsc hv hX R1 q1) fun w wv m2 s2 hw R2 S2 q2 => ?_
    obtain ⟨_, is, i, e, e2m, rfl, hi, hl, hq⟩ := q2
    cases e
    obtain ⟨t, rfl⟩ := hw.int
    exact pmTrans (S1.trans S2) (index_sound R2 e2m hi hl hq)) (fun {ex vis sc} h => chk_plain rfl h)
  | .sub a i => gen (fun {ex env vis sc loc Q X mem s E} hc hsc hv hX R h => by
    obtain ⟨e1, e2, p, rfl, h1, h2⟩ := inv_sub hc
    refine Subscript_ (then1 R ((soundE SC a).1 h1 hsc hv hX R h) fun x xv m1 s1 hx R1 S1 q1 => ?_)
    refine then1 R1 ((soundE SC i).1 h2 hsc hv hX R1 q1) fun y yv m2 s2 hy R2 S2 q2 => ?_
    exact pmTrans (S1.trans S2) (sub_sound R2 (vrel_keep R1 S2 hx) hy q2 (chk_notSlice h2))) (fun {ex vis sc} h => chk_plain rfl h)
  | .slice up a i => gen (fun {ex env vis sc loc Q X mem s E} hc hsc hv hX R h => by
    obtain ⟨e1, e2, p, q, rfl, h1, h2⟩ := inv_slice hc
    refine Subscript_ (then1 R ((soundE SC a).1 h1 hsc hv hX R h) fun x xv m1 s1 hx R1 S1 q1 => ?_)
    refine slice_eval (then1 R1 ((soundE SC i).1 h2 hsc hv hX R1 q1) fun y yv m2 s2 hy R2 S2 q2 => ?_)
    exact pmTrans (S1.trans S2) (slice_sound R2 (vrel_keep R1 S2 hx) hy q2)) (fun {ex vis sc} h => chk_plain rfl h)
  | .mm mx a b => gen (fun {ex env vis sc loc Q X mem s E} hc hsc hv hX R h => by
    obtain ⟨x, px, e1, e2, p, rfl, h0, h1, h2⟩ := inv_mm hc
    have go : wpAny (model W.prog W.w) A (callWith p (.builtin (mmName mx)) [] (backTo p (starEach [e1, e2] env)) []) (PM W mem s Q) E s := by
      refine call2b (chk_ns h1) (chk_ns h2) ?_
      refine then1 R ((soundE SC a).1 h1 hsc hv hX R h) fun u uv m1 s1 hu R1 S1 q1 => ?_
      refine then1 R1 ((soundE SC b).1 h2 hsc hv hX R1 q1) fun y yv m2 s2 hy R2 S2 q2 => ?_
      exact pmTrans (S1.trans S2) (mm_sound R2 SC.room (vrel_keep R1 S2 hu) hy q2)
    cases mx with
    | true => exact eval_call (builtin_sound R SC.ok hsc h0 (by repeat (first | exact List.Mem.head _ | refine List.Mem.tail _ ?_)) Boot.«max» go)
    | false => exact eval_call (builtin_sound R SC.ok hsc h0 (by repeat (first | exact List.Mem.head _ | refine List.Mem.tail _ ?_)) Boot.«min» go)) (fun {ex vis sc} h => chk_plain rfl h)
  | .lst es => gen (fun {ex env vis sc loc Q X mem s E} hc hsc hv hX R h => by
    obtain ⟨xs, p, rfl, h1⟩ := inv_lst hc
    refine List_ (wpAny_mono (soundL SC es h1 hsc hv hX R h) (fun vs s1 q => ?_) fun _ _ x => x)
    obtain ⟨us, m1, hr, M1, S1, q1⟩ := q
    exact pmTrans S1 (newList_sound (R.step M1 S1) hr q1)) (fun {ex vis sc} h => chk_plain rfl h)
  | .tup es => gen (fun {ex env vis sc loc Q X mem s E} hc hsc hv hX R h => by
    obtain ⟨xs, k, p, rfl, h1⟩ := inv_tup hc
    refine Tuple_ (wpAny_mono (soundL SC es h1 hsc hv hX R h) (fun vs s1 q => ?_) fun _ _ x => x)
    obtain ⟨us, m1, hr, M1, S1, q1⟩ := q
    exact pmTrans S1 (newTuple_sound (R.step M1 S1) hr q1.1 q1.2)) (fun {ex vis sc} h => chk_plain rfl h)
  | .comp elt t k src cond => gen (fun {ex env vis sc loc Q X mem s E} hc hsc hv hX R h => by
    obtain ⟨elt', target, iter, ifs, csc, p, new, e1, rfl, hT, h1, h2, h3, h4, h5, h6⟩ := inv_comp hc
    have hi := (chkScope_spec h1).2.2.2.2.2.2
    have hv' := newVis_ok hT hv hi
    refine comp_run (use := none) SC.room.handled SC.ok R hsc h1 h2 hT hv hi (chk_ns h4) h3 ((soundE SC src).1 h4 hsc hv hX R h) (fun C' l P mem' s' E' R' hb => soundIfs SC cond h6 cEnv_sc hv' hX R' hb) (fun D C' l P mem' s' _ _ R' _ he => (soundE SC elt).1 h5 cEnv_sc hv' hX R' he) fun D C' s' hl => ?_
    obtain ⟨mem', ys, vs, m, q⟩ := id hl
    exact ⟨m, q.2.2.2.1, fun h' hs => hl.done R hs⟩) (fun {ex vis sc} h => chk_plain rfl h)
theorem soundB {W : Cx} {FT : Nat → Option Fn} {ids : List Nat} {G : String → Option Val} {n : Nat} {A : Around} {C : CallT} (SC : SCx W FT ids G n A C) : ∀ (es : Exs) {k : Bool} {xs : List Expr} {p : Pos} {env : Env} {vis : List (Nat × Str)} {sc : Scope} {loc : Loc} {P : Bool → Mem → Prop} {X : Nat → Mem → Prop} {mem : Mem} {s : Shared} {E : Value → Shared → Prop},
    chkL FT ids vis sc es xs = true → xs ≠ [] → ScOk sc env → VisOk vis → (∀ k m, ¬ X k m) → Rel W env vis loc mem s → wpBs C G X k es loc P mem → wpAny (model W.prog W.w) A (eval (.BoolOp (isAnd k) xs p) env) (PM W mem s (asB P)) E s
  | .nil, k, xs, p, env, vis, sc, loc, P, X, mem, s, E, hc, hne, hsc, hv, hX, R, h => absurd (inv_nil hc) hne
  | .cons e es, k, xs, p, env, vis, sc, loc, P, X, mem, s, E, hc, hne, hsc, hv, hX, R, h => by
    obtain ⟨x, r, rfl, h1, h2⟩ := inv_cons hc
    cases r with
    | nil =>
      have : es = .nil := by
        cases es with
        | nil => rfl
        | cons _ _ => obtain ⟨_, _, q, _⟩ := inv_cons h2; cases q
      subst this
      refine wpAny_mono (?_ : wpAny (model W.prog W.w) A _ (PM W mem s (asB (bsQ k (wpBs C G X k .nil loc P) P))) E s) (fun y s1 q => PM.mono (fun _ _ q => asB_mono (fun _ _ q => bsQ_end id q) q) q) fun _ _ x => x
      cases k
      · exact BoolOp_one ((soundE SC e).1 h1 hsc hv hX R h)
      · exact BoolOp_one ((soundE SC e).1 h1 hsc hv hX R h)
    | cons x2 r =>
      cases k with
      | true =>
        refine BoolOp_and (wpAny_mono ((soundE SC e).1 h1 hsc hv hX R h) (fun y s1 q => ?_) fun _ _ x => x)
        obtain ⟨b, rfl, m1, M1, S1, q1⟩ := q.test
        refine wpAny_truthy_bool ?_
        cases b with
        | true =>
          exact pmTrans S1 (soundB SC es (k := true) h2 (by simp) hsc hv hX (R.step M1 S1) (q1.1 rfl))
        | false =>
          exact ⟨.bool false, m1, .mkBool, M1, S1, _, rfl, q1.2 rfl⟩
      | false =>
        refine BoolOp_or (wpAny_mono ((soundE SC e).1 h1 hsc hv hX R h) (fun y s1 q => ?_) fun _ _ x => x)
        obtain ⟨b, rfl, m1, M1, S1, q1⟩ := q.test
        refine wpAny_truthy_bool ?_
        cases b with
        | true =>
          exact ⟨.bool true, m1, .mkBool, M1, S1, _, rfl, q1.2 rfl⟩
        | false =>
          exact pmTrans S1 (soundB SC es (k := false) h2 (by simp) hsc hv hX (R.step M1 S1) (q1.1 rfl))
theorem soundBI {W : Cx} {FT : Nat → Option Fn} {ids : List Nat} {G : String → Option Val} {n : Nat} {A : Around} {C : CallT} (SC : SCx W FT ids G n A C) : ∀ (es : Exs) {k : Bool} {xs : List Expr} {p : Pos} {env : Env} {vis : List (Nat × Str)} {sc : Scope} {loc : Loc} {P : Bool → Mem → Prop} {X : Nat → Mem → Prop} {mem : Mem} {s : Shared} {E : Value → Shared → Prop} {w : Sem Value},
    chkL FT ids vis sc es xs = true → ScOk sc env → VisOk vis → (∀ k m, ¬ X k m) → Rel W env vis loc mem s → wpBs C G X k es loc P mem → wpAny (model W.prog W.w) A (isTrue (.BoolOp (isAnd k) xs p) env w) (PT W mem s P) E s
  | .nil, k, xs, p, env, vis, sc, loc, P, X, mem, s, E, w, hc, hsc, hv, hX, R, h => by
    rw [inv_nil hc]
    cases k
    · exact isTrue_or_nil ⟨mem, R.m, .refl, h⟩
    · exact isTrue_and_nil ⟨mem, R.m, .refl, h⟩
  | .cons e es, k, xs, p, env, vis, sc, loc, P, X, mem, s, E, w, hc, hsc, hv, hX, R, h => by
    obtain ⟨x, r, rfl, h1, h2⟩ := inv_cons hc
    cases k with
    | true =>
      refine isTrue_and (wpAny_mono ((soundE SC e).2 h1 hsc hv hX R h) (fun b s1 q => ?_) fun _ _ x => x)
      obtain ⟨m1, M1, S1, q1⟩ := q
      cases b with
      | true =>
        exact wpAny_mono (soundBI SC es (k := true) h2 hsc hv hX (R.step M1 S1) (q1.1 rfl)) (fun b s2 q => PT.trans S1 q) fun _ _ x => x
      | false =>
        exact ⟨m1, M1, S1, q1.2 rfl⟩
    | false =>
      refine isTrue_or (wpAny_mono ((soundE SC e).2 h1 hsc hv hX R h) (fun b s1 q => ?_) fun _ _ x => x)
      obtain ⟨m1, M1, S1, q1⟩ := q
      cases b with
      | true =>
        exact ⟨m1, M1, S1, q1.2 rfl⟩
      | false =>
        exact wpAny_mono (soundBI SC es (k := false) h2 hsc hv hX (R.step M1 S1) (q1.1 rfl)) (fun b s2 q => PT.trans S1 q) fun _ _ x => x
theorem soundIfs {W : Cx} {FT : Nat → Option Fn} {ids : List Nat} {G : String → Option Val} {n : Nat} {A : Around} {C : CallT} (SC : SCx W FT ids G n A C) : ∀ (es : Exs) {xs : List Expr} {env : Env} {vis : List (Nat × Str)} {sc : Scope} {loc : Loc} {P : Bool → Mem → Prop} {X : Nat → Mem → Prop} {mem : Mem} {s : Shared} {E : Value → Shared → Prop},
    chkL FT ids vis sc es xs = true → ScOk sc env → VisOk vis → (∀ k m, ¬ X k m) → Rel W env vis loc mem s → wpBs C G X true es loc P mem →
      wpAny (model W.prog W.w) A (forIn xs true fun c r => if r = true then do let ok ← isTrue c env (eval c env); pure (ForInStep.yield ok) else pure (ForInStep.yield r)) (PT W mem s P) E s
  | .nil, xs, env, vis, sc, loc, P, X, mem, s, E, hc, hsc, hv, hX, R, h => by
    rw [inv_nil hc]
    exact wpAny_tests_nil ⟨mem, R.m, .refl, h⟩
  | .cons e es, xs, env, vis, sc, loc, P, X, mem, s, E, hc, hsc, hv, hX, R, h => by
    obtain ⟨x, r, rfl, h1, h2⟩ := inv_cons hc
    rw [List.forIn_cons]
    simp only [if_true]
    refine wpAny_bind (wpAny_bind (wpAny_mono ((soundE SC e).2 h1 hsc hv hX R h) (fun b s1 q => wpAny_pure ?_) fun _ _ x => x))
    obtain ⟨m1, M1, S1, q1⟩ := q
    cases b with
    | true =>
      exact wpAny_mono (soundIfs SC es h2 hsc hv hX (R.step M1 S1) (q1.1 rfl)) (fun b s2 q => PT.trans S1 q) fun _ _ x => x
    | false =>
      exact forIn_false ⟨m1, M1, S1, q1.2 rfl⟩ r
theorem soundL {W : Cx} {FT : Nat → Option Fn} {ids : List Nat} {G : String → Option Val} {n : Nat} {A : Around} {C : CallT} (SC : SCx W FT ids G n A C) : ∀ (es : Exs) {xs : List Expr} {p : Pos} {env : Env} {vis : List (Nat × Str)} {sc : Scope} {loc : Loc} {P : List Val → Mem → Prop} {X : Nat → Mem → Prop} {mem : Mem} {s : Shared} {E : Value → Shared → Prop},
    chkL FT ids vis sc es xs = true → ScOk sc env → VisOk vis → (∀ k m, ¬ X k m) → Rel W env vis loc mem s → wpL C G X es loc P mem →
      wpAny (model W.prog W.w) A (spliced (backTo p (starEach xs env))) (fun vs s' => ∃ us mem', VRels W s'.heap us vs ∧ MRel W mem' s' ∧ Step NoD mem s.heap mem' s'.heap ∧ P us mem') E s
  | .nil, xs, p, env, vis, sc, loc, P, X, mem, s, E, hc, hsc, hv, hX, R, h => by
    rw [inv_nil hc]
    exact Calls.spliced_nil ⟨[], mem, .nil, R.m, .refl, h⟩
  | .cons e es, xs, p, env, vis, sc, loc, P, X, mem, s, E, hc, hsc, hv, hX, R, h => by
    obtain ⟨x, r, rfl, h1, h2⟩ := inv_cons hc
    rw [back_cons (chk_ns h1)]
    refine Calls.spliced_cons (then1 R ((soundE SC e).1 h1 hsc hv hX R h) fun v yv m1 s1 hy R1 S1 q1 => ?_)
    refine wpAny_mono (soundL SC es h2 hsc hv hX R1 q1) (fun vs s2 q => ?_) fun _ _ x => x
    obtain ⟨us, m2, hr, M2, S2, q2⟩ := q
    exact ⟨v :: us, m2, .cons (vrel_keep R1 S2 hy) hr, M2, S1.trans S2, q2⟩
end

end TD

namespace TD
open PySem PyProof.Rows

noncomputable def notComp (e : Expr) : Bool := !(e.ctorIdx == 8 || (e.ctorIdx == 9 || e.ctorIdx == 10))
noncomputable def storable (sc : Scope) (x : Str) : Bool := sc.names.lookup x == some .local || sc.names.lookup x == some .cell
noncomputable def chkStore (vis : List (Nat × Str)) (sc : Scope) (i : Nat) (x : Str) : Bool := vis.lookup i == some x && storable sc x

noncomputable def vExpr (e : Stmt) (k : Expr → Bool) : Bool := vIx e.ctorIdx 24 fun h => Stmt.Expr.elim (motive_2 := fun _ => Bool) e h fun v _ => k v
theorem vExpr_inv {e : Stmt} {k : Expr → Bool} (h : vExpr e k = true) : ∃ v p, e = .Expr v p ∧ k v = true := by
  obtain ⟨hc, h⟩ := vIx_inv h
  exact Stmt.Expr.elim (motive_2 := fun e => ∀ hc : e.ctorIdx = 24, (Stmt.Expr.elim (motive_2 := fun _ => Bool) e hc fun v _ => k v) = true → ∃ v p, e = .Expr v p ∧ k v = true) e hc (fun v p _ h => ⟨v, p, rfl, h⟩) hc h
noncomputable def vRet0 (e : Stmt) (k : (Option Expr) → Bool) : Bool := vIx e.ctorIdx 3 fun h => Stmt.Return.elim (motive_2 := fun _ => Bool) e h fun v _ => k v
theorem vRet0_inv {e : Stmt} {k : (Option Expr) → Bool} (h : vRet0 e k = true) : ∃ v p, e = .Return v p ∧ k v = true := by
  obtain ⟨hc, h⟩ := vIx_inv h
  exact Stmt.Return.elim (motive_2 := fun e => ∀ hc : e.ctorIdx = 3, (Stmt.Return.elim (motive_2 := fun _ => Bool) e hc fun v _ => k v) = true → ∃ v p, e = .Return v p ∧ k v = true) e hc (fun v p _ h => ⟨v, p, rfl, h⟩) hc h
noncomputable def vAsg0 (e : Stmt) (k : (List Expr) → Expr → Bool) : Bool := vIx e.ctorIdx 5 fun h => Stmt.Assign.elim (motive_2 := fun _ => Bool) e h fun ts v _ => k ts v
theorem vAsg0_inv {e : Stmt} {k : (List Expr) → Expr → Bool} (h : vAsg0 e k = true) : ∃ ts v p, e = .Assign ts v p ∧ k ts v = true := by
  obtain ⟨hc, h⟩ := vIx_inv h
  exact Stmt.Assign.elim (motive_2 := fun e => ∀ hc : e.ctorIdx = 5, (Stmt.Assign.elim (motive_2 := fun _ => Bool) e hc fun ts v _ => k ts v) = true → ∃ ts v p, e = .Assign ts v p ∧ k ts v = true) e hc (fun ts v p _ h => ⟨ts, v, p, rfl, h⟩) hc h
noncomputable def vIf (e : Stmt) (k : Expr → (List Stmt) → (List Stmt) → Bool) : Bool := vIx e.ctorIdx 12 fun h => Stmt.If.elim (motive_2 := fun _ => Bool) e h fun a b o _ => k a b o
theorem vIf_inv {e : Stmt} {k : Expr → (List Stmt) → (List Stmt) → Bool} (h : vIf e k = true) : ∃ a b o p, e = .If a b o p ∧ k a b o = true := by
  obtain ⟨hc, h⟩ := vIx_inv h
  exact Stmt.If.elim (motive_2 := fun e => ∀ hc : e.ctorIdx = 12, (Stmt.If.elim (motive_2 := fun _ => Bool) e hc fun a b o _ => k a b o) = true → ∃ a b o p, e = .If a b o p ∧ k a b o = true) e hc (fun a b o p _ h => ⟨a, b, o, p, rfl, h⟩) hc h
noncomputable def vFor0 (e : Stmt) (k : Expr → Expr → (List Stmt) → (List Stmt) → Bool) : Bool := vIx e.ctorIdx 9 fun h => Stmt.For.elim (motive_2 := fun _ => Bool) e h fun t i b o _ => k t i b o
theorem vFor0_inv {e : Stmt} {k : Expr → Expr → (List Stmt) → (List Stmt) → Bool} (h : vFor0 e k = true) : ∃ t i b o p, e = .For t i b o p ∧ k t i b o = true := by
  obtain ⟨hc, h⟩ := vIx_inv h
  exact Stmt.For.elim (motive_2 := fun e => ∀ hc : e.ctorIdx = 9, (Stmt.For.elim (motive_2 := fun _ => Bool) e hc fun t i b o _ => k t i b o) = true → ∃ t i b o p, e = .For t i b o p ∧ k t i b o = true) e hc (fun t i b o p _ h => ⟨t, i, b, o, p, rfl, h⟩) hc h
noncomputable def vWhile0 (e : Stmt) (k : Expr → (List Stmt) → (List Stmt) → Bool) : Bool := vIx e.ctorIdx 11 fun h => Stmt.While.elim (motive_2 := fun _ => Bool) e h fun a b o _ => k a b o
theorem vWhile0_inv {e : Stmt} {k : Expr → (List Stmt) → (List Stmt) → Bool} (h : vWhile0 e k = true) : ∃ a b o p, e = .While a b o p ∧ k a b o = true := by
  obtain ⟨hc, h⟩ := vIx_inv h
  exact Stmt.While.elim (motive_2 := fun e => ∀ hc : e.ctorIdx = 11, (Stmt.While.elim (motive_2 := fun _ => Bool) e hc fun a b o _ => k a b o) = true → ∃ a b o p, e = .While a b o p ∧ k a b o = true) e hc (fun a b o p _ h => ⟨a, b, o, p, rfl, h⟩) hc h
noncomputable def vRaise0 (e : Stmt) (k : (Option Expr) → (Option Expr) → Bool) : Bool := vIx e.ctorIdx 16 fun h => Stmt.Raise.elim (motive_2 := fun _ => Bool) e h fun x c _ => k x c
theorem vRaise0_inv {e : Stmt} {k : (Option Expr) → (Option Expr) → Bool} (h : vRaise0 e k = true) : ∃ x c p, e = .Raise x c p ∧ k x c = true := by
  obtain ⟨hc, h⟩ := vIx_inv h
  exact Stmt.Raise.elim (motive_2 := fun e => ∀ hc : e.ctorIdx = 16, (Stmt.Raise.elim (motive_2 := fun _ => Bool) e hc fun x c _ => k x c) = true → ∃ x c p, e = .Raise x c p ∧ k x c = true) e hc (fun x c p _ h => ⟨x, c, p, rfl, h⟩) hc h
noncomputable def vPass0 (e : Stmt) (k : Pos → Bool) : Bool := vIx e.ctorIdx 25 fun h => Stmt.Pass.elim (motive_2 := fun _ => Bool) e h fun p => k p
theorem vPass0_inv {e : Stmt} {k : Pos → Bool} (h : vPass0 e k = true) : ∃ p, e = .Pass p ∧ k p = true := by
  obtain ⟨hc, h⟩ := vIx_inv h
  exact Stmt.Pass.elim (motive_2 := fun e => ∀ hc : e.ctorIdx = 25, (Stmt.Pass.elim (motive_2 := fun _ => Bool) e hc fun p => k p) = true → ∃ p, e = .Pass p ∧ k p = true) e hc (fun p _ h => ⟨p, rfl, h⟩) hc h
noncomputable def vRet (st : Stmt) (k : Expr → Bool) : Bool := vRet0 st fun v => vSome v k
noncomputable def vAsg (st : Stmt) (k : Expr → Expr → Bool) : Bool := vAsg0 st fun ts v => vOne ts fun t => k t v
noncomputable def vFor (st : Stmt) (k : Expr → Expr → List Stmt → Bool) : Bool := vFor0 st fun t i b o => o.isEmpty && k t i b
noncomputable def vWhile (st : Stmt) (k : Expr → List Stmt → Bool) : Bool := vWhile0 st fun a b o => o.isEmpty && k a b
noncomputable def vRaise (st : Stmt) (k : Expr → Bool) : Bool := vRaise0 st fun e c => c.isNone && vSome e k
noncomputable def vPass (st : Stmt) : Bool := vPass0 st fun _ => true
theorem vRet_inv {st : Stmt} {k : Expr → Bool} (h : vRet st k = true) : ∃ v p, st = .Return (some v) p ∧ k v = true := by
  obtain ⟨v, p, rfl, h⟩ := vRet0_inv h
  obtain ⟨x, rfl, h⟩ := vSome_inv h
  exact ⟨x, p, rfl, h⟩
theorem vAsg_inv {st : Stmt} {k : Expr → Expr → Bool} (h : vAsg st k = true) : ∃ t v p, st = .Assign [t] v p ∧ k t v = true := by
  obtain ⟨ts, v, p, rfl, h⟩ := vAsg0_inv h
  obtain ⟨x, rfl, h⟩ := vOne_inv h
  exact ⟨x, v, p, rfl, h⟩
theorem vFor_inv {st : Stmt} {k : Expr → Expr → List Stmt → Bool} (h : vFor st k = true) : ∃ t i b p, st = .For t i b [] p ∧ k t i b = true := by
  obtain ⟨t, i, b, o, p, rfl, h⟩ := vFor0_inv h
  cases o with
  | nil => exact ⟨t, i, b, p, rfl, h⟩
  | cons _ _ => exact nb h
theorem vWhile_inv {st : Stmt} {k : Expr → List Stmt → Bool} (h : vWhile st k = true) : ∃ a b p, st = .While a b [] p ∧ k a b = true := by
  obtain ⟨a, b, o, p, rfl, h⟩ := vWhile0_inv h
  cases o with
  | nil => exact ⟨a, b, p, rfl, h⟩
  | cons _ _ => exact nb h
theorem vPass_inv {st : Stmt} (h : vPass st = true) : ∃ p, st = .Pass p := by
  obtain ⟨p, rfl, _⟩ := vPass0_inv h
  exact ⟨p, rfl⟩
mutual
noncomputable def chkS (FT : Nat → Option Fn) (ids : List Nat) (vis : List (Nat × Str)) (sc : Scope) : St → Stmt → Bool
  | .expr e, st => vExpr st fun v => notComp v && chkE FT ids vis sc e v
  | .ret e, st => vRet st fun v => chkE FT ids vis sc e v
  | .asg i e, st => vAsg st fun t v => vName t fun x => chkStore vis sc i x && chkE FT ids vis sc e v
  | .asgSub o i e, st => vAsg st fun t v => vSub t fun e1 e2 => notComp v && (chkE FT ids vis sc e v && (chkE FT ids vis sc o e1 && chkE FT ids vis sc i e2))
  | .ifs c t e, st => vIf st fun a b o => chkE FT ids vis sc c a && (chkSs FT ids vis sc t b && chkSs FT ids vis sc e o)
  | .fors t k src b, st => vFor st fun target iter body => vSome (chkT t target) fun new => new.all (fun q => chkStore vis sc q.1 q.2) && (notSet iter && (vIter sc k.call iter (fun e1 => chkE FT ids vis sc src e1) && chkSs FT ids vis sc b body))
  | .whiles c b, st => vWhile st fun a body => chkE FT ids vis sc c a && chkSs FT ids vis sc b body
  | .raise c g, st => vRaise st fun e => vCallN e fun x es => (decide (7 ≤ c.code ∧ c.code ≤ 14) && gName sc (clsName c.code) x) && vOne es fun e1 => vConst e1 fun t => t == .str (Str.ofString g)
  | .pass, st => vPass st
  | .newR f args, st => vRet st fun v => vCallN v fun x es => ids.contains f && (initIs FT sc f x && (!es.isEmpty && chkL FT ids vis sc args es))
  | .dead, _ => true
  | .callS r f args, st => cond r (vRet st fun v => chkE FT ids vis sc (.call f args) v) (vExpr st fun v => chkE FT ids vis sc (.call f args) v)
noncomputable def chkSs (FT : Nat → Option Fn) (ids : List Nat) (vis : List (Nat × Str)) (sc : Scope) : Sts → List Stmt → Bool
  | .nil, l => l.isEmpty
  | .cons s ss, l => match l with | x :: r => chkS FT ids vis sc s x && chkSs FT ids vis sc ss r | [] => false
end

noncomputable def FlowRel (W : Cx) (h : Heap) : Flow → PySem.Flow → Prop
  | .next, f => f = .next
  | .brk, f => f = .brk
  | .cont, f => f = .cont
  | .ret v, f => ∃ y, f = .ret y ∧ VRel W h v y

noncomputable def PS (W : Cx) (env : Env) (vis : List (Nat × Str)) (mem : Mem) (s : Shared) (R : Flow → Loc → Mem → Prop) (f : PySem.Flow) (s' : Shared) : Prop :=
  ∃ fl loc' mem', FlowRel W s'.heap fl f ∧ Rel W env vis loc' mem' s' ∧ Step (FrD env) mem s.heap mem' s'.heap ∧ R fl loc' mem'

section
variable {W : Cx} {A : Around} {E : Value → Shared → Prop} {env : Env} {vis : List (Nat × Str)} {loc : Loc} {mem : Mem} {s : Shared} {R : Flow → Loc → Mem → Prop}
theorem Step.toFr {m1 m2 : Mem} {h1 h2 : Heap} (x : Step NoD m1 h1 m2 h2) : Step (FrD env) m1 h1 m2 h2 := x.mono fun _ q => q.elim
theorem PS.trans {mem' : Mem} {s' s'' : Shared} {f : PySem.Flow} (x : Step (FrD env) mem s.heap mem' s'.heap) (p : PS W env vis mem' s' R f s'') : PS W env vis mem s R f s'' := by
  obtain ⟨fl, l, m2, a, b, c, d⟩ := p; exact ⟨fl, l, m2, a, b, x.trans c, d⟩
theorem psTrans {mem' : Mem} {s' s2 : Shared} {t : Sem PySem.Flow} (x : Step (FrD env) mem s.heap mem' s'.heap) (h : wpAny (model W.prog W.w) A t (PS W env vis mem' s' R) E s2) : wpAny (model W.prog W.w) A t (PS W env vis mem s R) E s2 :=
  wpAny_mono h (fun _ _ p => PS.trans x p) fun _ _ x => x
end

theorem chkStore_spec {vis : List (Nat × Str)} {sc : Scope} {i : Nat} {x : Str} {env : Env} (hsc : ScOk sc env) (h : chkStore vis sc i x = true) : (i, x) ∈ vis ∧ (env.kindOf x = some .local ∨ env.kindOf x = some .cell) := by
  unfold chkStore storable at h
  simp only [Bool.and_eq_true, Bool.or_eq_true, beq_iff_eq] at h
  refine ⟨?_, h.2.imp (fun q => (hsc _ _ q).2 (by simp)) fun q => (hsc _ _ q).2 (by simp)⟩
  have h1 := h.1
  clear h
  induction vis with
  | nil => simp at h1
  | cons p r ih =>
    obtain ⟨j, y⟩ := p
    rw [List.lookup_cons] at h1
    split at h1
    · rename_i q; cases h1; rw [beq_iff_eq] at q; subst q; exact .head _
    · exact .tail _ (ih h1)
theorem interactive_no {env : Env} (h : env.scope.kind = .function) : interactive env = false := by
  unfold interactive; rw [h]; rfl
theorem swaps_no {e : Expr} {t : Option Expr} {n : Nat} {env : Env} (h : notComp e = true) : swapsWith e t n env = pure false := by
  cases e <;> first | rfl | exact nb h

inductive FI (W : Cx) (env : Env) (vis : List (Nat × Str)) (t : Tg) (mem : Mem) (h₀ : Heap) (k : ItK) (v : Val) (xs : List Val) (I : Addr) (f : (Flow → Loc → Mem → Prop) → Loc → Mem → Prop) (R : Flow → Loc → Mem → Prop) (n : Nat) (s' : Shared) : Prop
  | mk (i : Nat) (loc' : Loc) (mem' : Mem) (h1 : n = xs.length + 1 - i) (h2 : i ≤ xs.length) (h3 : Rel W env vis loc' mem' s') (h4 : Step (FrD env) mem h₀ mem' s'.heap) (h5 : IterAt W k v xs I i s'.heap) (h6 : stands k v mem mem') (h7 : mem' I = none)
      (h8 : forLoop (bodyF t f) (stands k v mem) (xs.drop i) R loc' mem')
theorem for_sound {W : Cx} {A : Around} {E : Value → Shared → Prop} {env : Env} {vis : List (Nat × Str)} {loc : Loc} {mem : Mem} {s s₂ : Shared} {R : Flow → Loc → Mem → Prop} {k : ItK} {v : Val} {xs : List Val} {I : Addr} {target : Expr} {new : List (Nat × Str)} {t : Tg} {body : List Stmt}
    {f : (Flow → Loc → Mem → Prop) → Loc → Mem → Prop} {RR : Result → Shared → Prop} (hh : A.handled = none) (hv : VisOk vis)
    (R1 : Rel W env vis loc mem s) (R2 : Rel W env vis loc mem s₂) (S2 : Step NoD mem s.heap mem s₂.heap) (hI : s.heap.get? I = none) (hit : IterAt W k v xs I 0 s₂.heap) (hcur : Cur k v xs mem)
    (hT : chkT t target = some new) (hm : ∀ p ∈ new, p ∈ vis) (hk : ∀ p ∈ new, env.kindOf p.2 = some .local ∨ env.kindOf p.2 = some .cell)
    (hbody : ∀ l P mem' s', Rel W env vis l mem' s' → Step (FrD env) mem s.heap mem' s'.heap → f P l mem' → wpAny (model W.prog W.w) A (execs body env) (PS W env vis mem' s' P) (notedBy (model W.prog W.w) A env fun e s' => RR (.error e) s') s')
    (hloop : forLoop (bodyF t f) (stands k v mem) xs R loc mem)
    (hRR : ∀ fl s', PS W env vis mem s R fl s' → RR (.ok fl) s') :
    codeAny (model W.prog W.w) A (.forLoop target (.ref I) body [] env) RR s₂ := by
  have hbase : W.base.get? I = none := by
    cases q : W.base.get? I with
    | none => rfl
    | some o => rw [R1.m.stays I o q] at hI; cases hI
  refine codeAny_forLoop_any (FI W env vis t mem s.heap k v xs I f R) ?_ (xs.length + 1)
    (.mk 0 loc mem rfl (Nat.zero_le _) R2 S2.toFr hit (by cases k <;> first | trivial | rfl) (R1.m.mems.fresh hI) hloop)
  rintro n s' ⟨i, loc', mem', rfl, hi', R', S', hit', hstd, hmI, hlp⟩
  have hInf : ¬ FrD env I := fun hb => by
    obtain ⟨o, e, hd⟩ := R'.e.there hb
    obtain ⟨o', fs, e', hd'⟩ := hit'.there
    rw [e] at e'; cases e'
    rw [hd'] at hd
    rcases hd with ⟨_, _, q⟩ | ⟨_, q⟩ <;> cases q
  have hIfx : ∀ o, s'.heap.get? I = some o → ¬ Fixed o := fun o e hf => by
    obtain ⟨o', fs, e', hd'⟩ := hit'.there
    rw [e] at e'; cases e'
    obtain ⟨_, _, _, q⟩ := hf; rw [hd'] at q; cases q
  by_cases hlt : i < xs.length
  · refine iter_next R'.m (hcur.stands hstd) hit' hmI hlt fun x y h' tk hx hxr hit1 hs1 => ?_
    have kb1 : KeepBut I s'.heap h' := fun b o hb e => (hs1.2 b hb).trans e
    obtain ⟨R1', kf1⟩ := R'.off (s' := { s' with heap := h', toks := tk }) I hmI hbase hInf hIfx kb1
    have S1 : Step (FrD env) mem s.heap mem' h' := S'.off (· = I) (fun b hb => hb ▸ hI) fun b o hb e => kb1 b o hb e
    refine owned_sound hit1 ?_
    have hdrop : xs.drop i = x :: xs.drop (i + 1) := by
      rw [List.drop_eq_getElem_cons hlt]
      congr 1
      rw [List.getElem?_eq_getElem hlt] at hx
      exact Option.some.inj hx
    rw [hdrop] at hlp
    obtain ⟨l, hl, hlp'⟩ := hlp
    · refine assignT R1' (.inl hh) hv hT hm hk hxr hl fun s2 R2' S2' _ => ?_
      refine wpAny_mono (hbody l _ mem' s2 R2' (S1.trans S2') hlp') (fun fl s3 h3 => ?_) fun _ _ e => e
      obtain ⟨fl', l3, mem3, hfl, R3, S3, q⟩ := h3
      have keepI : ∀ (ma mb : Mem) (ha hb : Heap), Step (FrD env) ma ha mb hb → ma I = none → (∃ o fs, ha.get? I = some o ∧ o.data = .fields fs) → ∀ o, ha.get? I = some o → hb.get? I = some o := fun ma mb ha hb S hm ⟨o', fs, e', hd'⟩ o e => by
        obtain ⟨o2, e2, a2⟩ := S.keep I o e hm hInf
        rw [e] at e'; cases e'
        rw [e2, a2.eq fun es ep q => by rw [hd'] at q; cases q]
      have kf2 := S2'.keepF R1'.m.mems R1'.e.dok
      have hit2 := hit1.keep kf2 (keepI _ _ _ _ S2' hmI hit1.there)
      have kf3 := S3.keepF R2'.m.mems R2'.e.dok
      have hit3 := hit2.keep kf3 (keepI _ _ _ _ S3 hmI hit2.there)
      obtain ⟨oI, fI, eI, dI⟩ := hit2.there
      have hmI3 := S3.none' eI hmI
      have Sall := S1.trans (S2'.trans S3)
      have go : (stands k v mem mem3 ∧ forLoop (bodyF t f) (stands k v mem) (xs.drop (i + 1)) R l3 mem3) → ∃ m, m < xs.length + 1 - i ∧ FI W env vis t mem s.heap k v xs I f R m s3 := fun q =>
        ⟨xs.length + 1 - (i + 1), turn_lt hlt, .mk (i + 1) l3 mem3 rfl hlt R3 Sall hit3 q.1 hmI3 q.2⟩
      cases fl' with
      | next => obtain rfl : fl = .next := hfl; exact go q
      | cont => obtain rfl : fl = .cont := hfl; exact go q
      | brk => obtain rfl : fl = .brk := hfl; exact hRR _ _ ⟨.next, l3, mem3, rfl, R3, Sall, q⟩
      | ret u =>
        obtain ⟨y', rfl, hy'⟩ : ∃ y, fl = .ret y ∧ VRel W s3.heap u y := hfl
        exact hRR _ _ ⟨.ret u, l3, mem3, ⟨y', rfl, hy'⟩, R3, Sall, q⟩
  · have hie : i = xs.length := by walk_at "o"
    subst hie
    refine iter_end R'.m (.inl hh) (hcur.stands hstd) hit' fun h' he => ?_
    have kb1 : KeepBut I s'.heap h' := fun b o hb e => he b o hb e
    obtain ⟨R1', kf1⟩ := R'.off (s' := { s' with heap := h' }) I hmI hbase hInf hIfx kb1
    have S1 : Step (FrD env) mem s.heap mem' h' := S'.off (· = I) (fun b hb => hb ▸ hI) fun b o hb e => kb1 b o hb e
    have hq : R .next loc' mem' := by rw [List.drop_length] at hlp; exact hlp
    exact wpAny_execs_nil (hRR _ _ ⟨.next, loc', mem', rfl, R1', S1, hq⟩)

end TD

namespace TD
open PySem PyProof.Rows

section inv
variable {FT : Nat → Option Fn} {ids : List Nat} {vis : List (Nat × Str)} {sc : Scope} {st : Stmt}
theorem inv_expr {e : Ex} (h : chkS FT ids vis sc (.expr e) st = true) : ∃ v p, st = .Expr v p ∧ notComp v = true ∧ chkE FT ids vis sc e v = true := by
  obtain ⟨v, p, rfl, h⟩ := vExpr_inv h
  exact ⟨v, p, rfl, and2 h⟩
theorem inv_ret {e : Ex} (h : chkS FT ids vis sc (.ret e) st = true) : ∃ v p, st = .Return (some v) p ∧ chkE FT ids vis sc e v = true := vRet_inv h
theorem inv_asg {i : Nat} {e : Ex} (h : chkS FT ids vis sc (.asg i e) st = true) : ∃ x px v p, st = .Assign [.Name x px] v p ∧ chkStore vis sc i x = true ∧ chkE FT ids vis sc e v = true := by
  obtain ⟨t, v, p, rfl, h⟩ := vAsg_inv h
  obtain ⟨x, px, rfl, h⟩ := vName_inv h
  exact ⟨x, px, v, p, rfl, and2 h⟩
theorem inv_asgSub {o i e : Ex} (h : chkS FT ids vis sc (.asgSub o i e) st = true) : ∃ e1 e2 ps v p, st = .Assign [.Subscript e1 e2 ps] v p ∧ notComp v = true ∧ chkE FT ids vis sc e v = true ∧ chkE FT ids vis sc o e1 = true ∧ chkE FT ids vis sc i e2 = true := by
  obtain ⟨t, v, p, rfl, h⟩ := vAsg_inv h
  obtain ⟨e1, e2, ps, rfl, h⟩ := vSub_inv h
  obtain ⟨h1, h⟩ := and2 h
  obtain ⟨h2, h⟩ := and2 h
  exact ⟨e1, e2, ps, v, p, rfl, h1, h2, and2 h⟩
theorem inv_ifs {c : Ex} {t e : Sts} (h : chkS FT ids vis sc (.ifs c t e) st = true) : ∃ a b o p, st = .If a b o p ∧ chkE FT ids vis sc c a = true ∧ chkSs FT ids vis sc t b = true ∧ chkSs FT ids vis sc e o = true := by
  obtain ⟨a, b, o, p, rfl, h⟩ := vIf_inv h
  obtain ⟨h1, h⟩ := and2 h
  exact ⟨a, b, o, p, rfl, h1, and2 h⟩
theorem inv_fors {t : Tg} {k : ItK} {src : Ex} {b : Sts} (h : chkS FT ids vis sc (.fors t k src b) st = true) : ∃ target iter body p new e1, st = .For target iter body [] p ∧ chkT t target = some new ∧ (∀ q ∈ new, chkStore vis sc q.1 q.2 = true) ∧ notSet iter = true ∧
    IterIs sc k.call iter e1 ∧ chkE FT ids vis sc src e1 = true ∧ chkSs FT ids vis sc b body = true := by
  obtain ⟨target, iter, body, p, rfl, h⟩ := vFor_inv h
  obtain ⟨new, hT, h⟩ := vSome_inv h
  obtain ⟨h1, h⟩ := and2 h
  obtain ⟨h2, h⟩ := and2 h
  obtain ⟨h3, h4⟩ := and2 h
  obtain ⟨e1, hk, h5⟩ := vIter_inv h3
  exact ⟨target, iter, body, p, new, e1, rfl, hT, List.all_eq_true.mp h1, h2, hk, h5, h4⟩
theorem inv_whiles {c : Ex} {b : Sts} (h : chkS FT ids vis sc (.whiles c b) st = true) : ∃ a body p, st = .While a body [] p ∧ chkE FT ids vis sc c a = true ∧ chkSs FT ids vis sc b body = true := by
  obtain ⟨a, b, p, rfl, h⟩ := vWhile_inv h
  exact ⟨a, b, p, rfl, and2 h⟩
theorem inv_raise {c : Cls} {g : String} (h : chkS FT ids vis sc (.raise c g) st = true) : ∃ x px k1 p1 cp p, st = .Raise (some (.Call (.Name x px) [.Constant (.str (Str.ofString g)) k1 p1] [] cp)) none p ∧ (7 ≤ c.code ∧ c.code ≤ 14) ∧ gName sc (clsName c.code) x = true := by
  obtain ⟨e, c', p, rfl, h3⟩ := vRaise0_inv h
  clear h
  obtain ⟨h0, h4⟩ := and2 h3
  obtain ⟨e, rfl, h5⟩ := vSome_inv h4
  obtain ⟨x, px, es, cp, rfl, h6⟩ := vCallN_inv h5
  obtain ⟨h1, h7⟩ := and2 h6
  obtain ⟨h1, h2⟩ := and2 h1
  obtain ⟨e1, rfl, h8⟩ := vOne_inv h7
  obtain ⟨t, k1, p1, rfl, h9⟩ := vConst_inv h8
  cases Option.isNone_iff_eq_none.mp h0
  obtain rfl := eq_of_beq h9
  exact ⟨x, px, k1, p1, cp, p, rfl, of_decide_eq_true h1, h2⟩
theorem inv_pass (h : chkS FT ids vis sc .pass st = true) : ∃ p, st = .Pass p := vPass_inv h
theorem inv_scons {s : St} {ss : Sts} {l : List Stmt} (h : chkSs FT ids vis sc (.cons s ss) l = true) : ∃ x r, l = x :: r ∧ chkS FT ids vis sc s x = true ∧ chkSs FT ids vis sc ss r = true := by
  cases l with
  | nil => exact nb h
  | cons x r => exact ⟨x, r, rfl, and2 h⟩
theorem inv_snil {l : List Stmt} (h : chkSs FT ids vis sc .nil l = true) : l = [] := List.isEmpty_iff.mp h
end inv

theorem CompLeft.rel {W : Cx} {env : Env} {vis : List (Nat × Str)} {loc : Loc} {mem : Mem} {s : Shared} {Q : Val → Mem → Prop} {D C' : Addr} {s' : Shared} (R : Rel W env vis loc mem s) (h : CompLeft W env mem s (fun ys m' => freshL m' ys Q) D C' s') :
    ∃ mem2, Rel W env vis loc mem2 s' ∧ Step NoD mem s.heap mem2 s'.heap ∧ Q (.ref D) mem2 ∧ mem2 C' = none ∧ s.heap.get? C' = none ∧ ∃ m, s'.heap.Ns C' m := by
  obtain ⟨mem', ys, vs, m, hD, hC, hne, hnsC, ⟨nD, eD⟩, hr, hM, hS, hmC, hmD, hf⟩ := h
  have hbase : ∀ b, s.heap.get? b = none → W.base.get? b = none := fun b e => by
    cases q : W.base.get? b with
    | none => rfl
    | some o => rw [R.m.stays b o q] at e; cases e
  have M2 : MRel W (mem'.set D (.list ys)) s' := by
    refine ⟨hM.stays, fun b o e => ?_, hM.gens, hM.os⟩
    unfold Mem.set at e
    split at e
    · rename_i q; subst q; cases e
      exact ⟨⟨vs, ⟨nD, eD⟩, hr⟩, hbase _ hD⟩
    · exact hM.mems b o e
  have S2 : Step NoD mem s.heap (mem'.set D (.list ys)) s'.heap := ⟨hS.alive, hS.keep, fun b hb hb' => by
    unfold Mem.set at hb'
    split at hb'
    · rename_i q; subst q; exact hD
    · exact hS.grow b hb hb'⟩
  refine ⟨_, R.step M2 S2, S2, hf.2 D hmD, ?_, hC, m, hnsC⟩
  unfold Mem.set
  rw [if_neg hne]; exact hmC

theorem chk_notComp {FT : Nat → Option Fn} {ids : List Nat} {vis : List (Nat × Str)} {sc : Scope} {e : Ex} {ex : Expr} (h : chkE FT ids vis sc e ex = true) (he : (ixOf e == 8) = false) : notComp ex = true := by
  unfold notComp
  rw [chk_ix h, he, beq_false_of_ne fun q => ix_ne (n := 9) q (by decide) rfl, beq_false_of_ne fun q => ix_ne (n := 10) q (by decide) rfl]
  rfl

theorem comp_of {e : Ex} (h : ixOf e = 8) : ∃ elt t k src cond, e = .comp elt t k src cond := by
  cases e with
  | comp elt t k src cond => exact ⟨elt, t, k, src, cond, rfl⟩
  | _ => exact absurd h (fun q => nb (show false = true from congrArg (fun n => n == 8) q))

noncomputable def YFr (W : Cx) (A : Around) (env : Env) (vis : List (Nat × Str)) (mem : Mem) (s : Shared) (Y : Nat → Loc → Mem → Prop) (E : Value → Shared → Prop) : Prop :=
  ∃ outer, (A.frames = some (env :: outer) ∧ FrOk W.base (env :: outer) mem s.heap ∧ ∀ b ∈ frs outer, ¬ FrD env b) ∧ ClsOk W ∧
    ∀ k l m' a s', ExcA s.heap (clsV W k) a s'.heap → MRel W m' s' → FrOk W.base (env :: outer) m' s'.heap → m' a = none → Step (FrD env) mem s.heap m' s'.heap → Y k l m' → E (.ref a) s'
noncomputable def YOk (W : Cx) (A : Around) (env : Env) (vis : List (Nat × Str)) (mem : Mem) (s : Shared) (Y : Nat → Loc → Mem → Prop) (E : Value → Shared → Prop) : Prop := (∀ k l m, ¬ Y k l m) ∨ YFr W A env vis mem s Y E
theorem FrOk.step {W : Cx} {D : Addr → Prop} {fs : List Env} {mem m1 : Mem} {h h1 : Heap} (F : FrOk W.base fs mem h) (S : Step D mem h m1 h1) (hd : ∀ b ∈ frs fs, ¬ D b) : FrOk W.base fs m1 h1 := fun env he => by
  obtain ⟨a1, a2, a3, a4, m, o, es, ep, e, r⟩ := F env he
  obtain ⟨o', e', a⟩ := S.keep _ o e a4 (hd _ (List.mem_filterMap.mpr ⟨env, he, a2⟩))
  obtain ⟨es', ep', r'⟩ := a.ns ⟨es, ep, r⟩
  exact ⟨a1, a2, a3, S.none' e a4, m, o', es', ep', e', r'⟩
theorem FrOk.cons {W : Cx} {env : Env} {vis : List (Nat × Str)} {loc : Loc} {fs : List Env} {mem : Mem} {s : Shared} (R : Rel W env vis loc mem s) (hf : env.frame = some env.locals) (F : FrOk W.base fs mem s.heap) : FrOk W.base (env :: fs) mem s.heap := fun e he => by
  rcases List.mem_cons.mp he with rfl | he
  · exact ⟨R.e.kind, hf, R.new _ (.inl rfl), R.sep _ (.inl rfl), R.hasNs⟩
  · exact F e he
theorem FrOk.tail {W : Cx} {env : Env} {fs : List Env} {mem : Mem} {h : Heap} (F : FrOk W.base (env :: fs) mem h) : FrOk W.base fs mem h := fun e he => F e (.tail _ he)
theorem YFr.step {W : Cx} {A : Around} {env : Env} {vis : List (Nat × Str)} {loc : Loc} {mem m1 : Mem} {s s1 : Shared} {Y : Nat → Loc → Mem → Prop} {E : Value → Shared → Prop} (h : YFr W A env vis mem s Y E) (R : Rel W env vis loc m1 s1) (S : Step (FrD env) mem s.heap m1 s1.heap) : YFr W A env vis m1 s1 Y E := by
  obtain ⟨outer, ⟨hf, F, ap⟩, hC, hE⟩ := h
  refine ⟨outer, ⟨hf, FrOk.cons R (F env (.head _)).2.1 (F.tail.step S ap), ap⟩, hC, fun k l m' a s' X M' F' hm S' hy => ?_⟩
  exact hE k l m' a s' (X.back S.alive) M' F' hm (S.trans S') hy
theorem YOk.step {W : Cx} {A : Around} {env : Env} {vis : List (Nat × Str)} {loc : Loc} {mem m1 : Mem} {s s1 : Shared} {Y : Nat → Loc → Mem → Prop} {E : Value → Shared → Prop} (h : YOk W A env vis mem s Y E) (R : Rel W env vis loc m1 s1) (S : Step (FrD env) mem s.heap m1 s1.heap) : YOk W A env vis m1 s1 Y E := h.imp id fun h => h.step R S
theorem YFr.call {W : Cx} {A : Around} {env : Env} {vis : List (Nat × Str)} {loc : Loc} {mem m1 : Mem} {s s1 : Shared} {Y : Nat → Loc → Mem → Prop} {E : Value → Shared → Prop} (h : YFr W A env vis mem s Y E) (R : Rel W env vis loc mem s) (M1 : MRel W m1 s1) (S1 : Step NoD mem s.heap m1 s1.heap) : XFr W A m1 s1 (fun c m' => Y c loc m') E := by
  obtain ⟨outer, ⟨hf, F, ap⟩, hC, hE⟩ := h.step (R.step M1 S1) S1.toFr
  exact ⟨⟨_, hf, F⟩, hC, fun k m' a s' X M' hm S' hy => hE k loc m' a s' (.inl X) M' (F.step S' fun _ _ z => z) hm S'.toFr hy⟩
theorem YOk.call {W : Cx} {A : Around} {env : Env} {vis : List (Nat × Str)} {loc : Loc} {mem m1 : Mem} {s s1 : Shared} {Y : Nat → Loc → Mem → Prop} {E : Value → Shared → Prop} (h : YOk W A env vis mem s Y E) (R : Rel W env vis loc mem s) (M1 : MRel W m1 s1) (S1 : Step NoD mem s.heap m1 s1.heap) : XOk W A m1 s1 (fun c m' => Y c loc m') E :=
  h.imp (fun h k m => h k loc m) fun h => h.call R M1 S1
theorem YOk.loop {W : Cx} {A : Around} {env : Env} {vis : List (Nat × Str)} {loc : Loc} {mem m1 : Mem} {s s1 : Shared} {Y : Nat → Loc → Mem → Prop} {E : Value → Shared → Prop} (h : YOk W A env vis mem s Y E) (R : Rel W env vis loc m1 s1) (S : Step (FrD env) mem s.heap m1 s1.heap) :
    YOk W A env vis m1 s1 Y (notedBy (model W.prog W.w) A env fun e s' => cameBackBy (model W.prog W.w) A env E e s') := h.imp id fun h => by
  obtain ⟨outer, ⟨hf, F, ap⟩, hC, hE⟩ := h
  refine ⟨outer, ⟨hf, FrOk.cons R (F env (.head _)).2.1 (F.tail.step S ap), ap⟩, hC, fun k l m' a s' X M' F' hm S' hy => ?_⟩
  refine excA_note hf F' X S'.alive fun h1 x1 k1 => ?_
  refine exc_cameBack (s := { s' with heap := h1 }) (F'.kept k1) x1 (k1.al S'.alive) fun fl h2 x2 k2 => ?_
  have K := k1.trans k2
  exact hE k l m' a _ (.inr ⟨fl, x2.back S.alive⟩) (M'.kept K F' R.m.stays) (F'.kept K) hm (S.trans (S'.kept K)) hy
theorem callX {W : Cx} {FT : Nat → Option Fn} {ids : List Nat} {G : String → Option Val} {n : Nat} {A : Around} {C : CallT} (SC : SCx W FT ids G n A C) {f : Nat} {args : Exs} {ex : Expr} {env : Env} {vis : List (Nat × Str)} {sc : Scope} {loc : Loc} {Q : Val → Mem → Prop} {X : Nat → Mem → Prop} {mem : Mem} {s : Shared} {E : Value → Shared → Prop}
    (hc : chkE FT ids vis sc (.call f args) ex = true) (hsc : ScOk sc env) (hv : VisOk vis) (R : Rel W env vis loc mem s) (h : wpL C G noX args loc (fun vs m1 => C f vs Q X m1) mem) (hX : ∀ m1 s1, MRel W m1 s1 → Step NoD mem s.heap m1 s1.heap → XOk W A m1 s1 X E) :
    wpAny (model W.prog W.w) A (eval ex env) (PM W mem s Q) E s := by
  obtain ⟨x, px, es, p, fn, rfl, h1, h2, h0, h3, h4, h5⟩ := inv_call hc
  obtain ⟨a, o, fd, hm, ho, hd, hcall⟩ := SC.call f h1 fn h2
  refine eval_call (global_sound R SC.ok hsc h3 (hm.1 h0) ?_)
  refine Calls.callWith_function (o := o) (fd := fd) ?_
  cases es with
  | nil => exact absurd rfl h4
  | cons e0 er =>
    rw [back_cons (chkL_star h5 e0 (.head _))]
    refine Calls.evalArgs_plain ?_
    rw [← back_cons (chkL_star h5 e0 (.head _))]
    refine wpAny_mono (soundL SC args h5 hsc hv (fun _ _ z => z) R h) (fun vs s1 q => ?_) fun _ _ x => x
    obtain ⟨us, m1, hr, M1, S1, q1⟩ := q
    exact ⟨⟨M1.stays _ _ ho, hd⟩, pmTrans S1 (hcall A (.inl rfl) us vs Q X m1 s1 E (hX m1 s1 M1 S1) q1 M1 hr)⟩

mutual
theorem soundS {W : Cx} {FT : Nat → Option Fn} {ids : List Nat} {G : String → Option Val} {n : Nat} {A : Around} {C : CallT} (SC : SCx W FT ids G n A C) : ∀ (st : St) {sx : Stmt} {env : Env} {vis : List (Nat × Str)} {sc : Scope} {loc : Loc} {P : Flow → Loc → Mem → Prop} {Y : Nat → Loc → Mem → Prop} {mem : Mem} {s : Shared} {E : Value → Shared → Prop},
    chkS FT ids vis sc st sx = true → ScOk sc env → VisOk vis → YOk W A env vis mem s Y E → Rel W env vis loc mem s → wpS C G st P Y loc mem → wpAny (model W.prog W.w) A (exec sx env) (PS W env vis mem s P) E s
  | .expr e, sx, env, vis, sc, loc, P, Y, mem, s, E, hc, hsc, hv, hY, R, h => by
    obtain ⟨v, p, rfl, h1, h2⟩ := inv_expr hc
    refine wpAny_Expr (then1 R ((soundE SC e).1 h2 hsc hv (fun _ _ z => z) R h) fun u y m1 s1 hy R1 S1 q1 => ?_) (interactive_no R.e.kind) (swaps_no h1)
    obtain ⟨q1, q2⟩ := q1
    have : ∀ a, y ≠ .ref a := fun a e => by
      subst e
      cases u <;> first | exact q1.elim | skip
      · have := hy.none'; cases this
      · have := hy.bool; cases this
      · obtain ⟨_, q⟩ := hy.int; cases q
    split
    · exact absurd rfl (this _)
    · exact ⟨.next, loc, m1, rfl, R1, S1.toFr, q2⟩
  | .ret e, sx, env, vis, sc, loc, P, Y, mem, s, E, hc, hsc, hv, hY, R, h => by
    obtain ⟨v, p, rfl, h2⟩ := inv_ret hc
    exact wpAny_Return_some (then1 R ((soundE SC e).1 h2 hsc hv (fun _ _ z => z) R h) fun u y m1 s1 hy R1 S1 q1 => ⟨.ret u, loc, m1, ⟨y, rfl, hy⟩, R1, S1.toFr, q1⟩)
  | .asg i e, sx, env, vis, sc, loc, P, Y, mem, s, E, hc, hsc, hv, hY, R, h => by
    obtain ⟨x, px, v, p, rfl, h1, h2⟩ := inv_asg hc
    obtain ⟨hm, hk⟩ := chkStore_spec hsc h1
    have plain : ∀ (hs : swapsWith v (some (.Name x px)) p.line env = pure false), wpAny (model W.prog W.w) A (exec (.Assign [.Name x px] v p) env) (PS W env vis mem s P) E s := fun hs => by
      refine wpAny_Assign_Name (then1 R ((soundE SC e).1 h2 hsc hv (fun _ _ z => z) R h) fun u y m1 s1 hy R1 S1 q1 => ?_) hs
      exact store_sound R1 hv hm hk hy fun s2 R2 S2 _ => ⟨.next, _, m1, rfl, R2, S1.toFr.trans S2, q1⟩
    cases hb8 : (ixOf e == 8) with
    | false => exact plain (swaps_no (chk_notComp h2 hb8))
    | true =>
      obtain ⟨elt, t, k, src, cond, rfl⟩ := comp_of (beq_iff_eq.mp hb8)
      obtain ⟨elt', target, iter, ifs, csc, pc, new, e1, rfl, hT, c1, c2, c3, c4, c5, c6⟩ := inv_comp h2
      have hsw : swapsWith (.ListComp elt' [⟨target, iter, ifs, 0⟩] csc pc) (some (.Name x px)) p.line env = pure (env.blockKind == .function && env.kindOf x == some .local && px.line == pc.line && !(csc.names.any fun (n, k) => n == x && (k == .local || k == .cell))) := rfl
      cases hb : (env.blockKind == .function && env.kindOf x == some .local && px.line == pc.line && !(csc.names.any fun (n, k) => n == x && (k == .local || k == .cell))) with
      | false => rw [hb] at hsw; exact plain hsw
      | true =>
        rw [hb] at hsw
        have hloc : env.kindOf x = some .local := by
          simp only [Bool.and_eq_true, beq_iff_eq] at hb
          exact hb.1.1.2
        rw [exec_Assign_Name_used _ _ _ _ hsw]
        refine wpAny_bind (wpAny_standAt (wpAny_bind ?_))
        show wpAny _ A (do let _ ← comprehension (.ListComp elt' [⟨target, iter, ifs, 0⟩] csc pc) csc env (firstIterPos [⟨target, iter, ifs, 0⟩] pc) (newList []) false (eval iter env) (some (assign (.Name x px) env))) _ _ s
        have hi := (chkScope_spec c1).2.2.2.2.2.2
        have hv' := newVis_ok hT hv hi
        have hX : ∀ k m, ¬ noX k m := fun _ _ z => z
        refine wpAny_bind (wpAny_mono (comp_run (PP := fun _ s' => PS W env vis mem s P .next s') (use := some (assign (.Name x px) env)) SC.room.handled SC.ok R hsc c1 c2 hT hv hi (chk_ns c4) c3 ((soundE SC src).1 c4 hsc hv hX R h) (fun C' l P mem' s' E' R' hb => soundIfs SC cond c6 cEnv_sc hv' hX R' hb) (fun D C' l P mem' s' _ _ R' _ he => (soundE SC elt).1 c5 cEnv_sc hv' hX R' he) fun D C' s' hl => ?_) (fun _ s' q => wpAny_pure (wpAny_pure q)) fun _ _ x => x)
        obtain ⟨mem2, R2, S2, hq, hmC, hsC, m, hnC⟩ := hl.rel R
        refine wpAny_assign_Name (store_sound R2 hv hm (.inl hloc) .mkRef fun s3 R3 S3 ⟨a, _, ha, hs⟩ => ?_)
        obtain rfl := ha hloc
        have hCL : C' ≠ env.locals := by rintro rfl; obtain ⟨o, e⟩ := R.hasNs; obtain ⟨o, _, _, e, _⟩ := e; rw [hsC] at e; cases e
        have hn3 : s3.heap.Ns C' m := by
          obtain ⟨o, es, ep, e, r⟩ := hnC
          exact ⟨o, es, ep, (hs.2 C' hCL).trans e, r⟩
        refine ⟨m, hn3, fun h' hs' => ?_⟩
        have hbC : W.base.get? C' = none := by
          cases q : W.base.get? C' with
          | none => rfl
          | some o => rw [R.m.stays C' o q] at hsC; cases hsC
        have hfrC : ¬ FrD env C' := fun hb => by obtain ⟨o, e, _⟩ := R.e.there hb; rw [hsC] at e; cases e
        have kb : KeepBut C' s3.heap h' := fun b o hb e => (hs'.2 b hb).trans e
        obtain ⟨R4, _⟩ := R3.off (s' := { s3 with heap := h' }) C' hmC hbC hfrC (fun o e hf => by
          obtain ⟨o', es, ep, e', hd, _⟩ := hn3
          rw [e] at e'; cases e'
          obtain ⟨_, _, _, q⟩ := hf; rw [hd] at q; cases q) kb
        exact ⟨.next, _, mem2, rfl, R4, (S2.toFr.trans S3).off (· = C') (fun b hb => hb ▸ hsC) (fun b o hb e => kb b o hb e), hq⟩
  | .asgSub o i e, sx, env, vis, sc, loc, P, Y, mem, s, E, hc, hsc, hv, hY, R, h => by
    obtain ⟨e1, e2, ps, v, p, rfl, h0, h1, h2, h3⟩ := inv_asgSub hc
    have hX : ∀ k m, ¬ noX k m := fun _ _ z => z
    refine wpAny_Assign_Subscript (then1 R ((soundE SC e).1 h1 hsc hv hX R h) fun u y m1 s1 hy R1 S1 q1 => ?_) (swaps_no h0)
    refine then1 R1 ((soundE SC o).1 h2 hsc hv hX R1 q1) fun x xv m2 s2 hx R2 S2 q2 => ?_
    refine then1 R2 ((soundE SC i).1 h3 hsc hv hX R2 q2) fun z zv m3 s3 hz R3 S3 q3 => ?_
    obtain ⟨a, k, xs, jj, rfl, rfl, em, hl, hp, hq⟩ := q3
    obtain rfl := hx.ref
    obtain ⟨t, rfl⟩ := hz.int
    refine wpAny_mono (setitem_sound R3 em hl hp (vrel_keep R2 S3 (vrel_keep R1 S2 hy)) hq) (fun _ s4 q => ?_) fun _ _ x => x
    obtain ⟨_, m4, _, M4, S4, q4⟩ := q
    exact ⟨.next, loc, m4, rfl, R3.step M4 S4, (S1.trans (S2.trans (S3.trans S4))).toFr, q4⟩
  | .ifs c t e, sx, env, vis, sc, loc, P, Y, mem, s, E, hc, hsc, hv, hY, R, h => by
    obtain ⟨a, b, o, p, rfl, h1, h2, h3⟩ := inv_ifs hc
    refine wpAny_If (wpAny_mono ((soundE SC c).2 h1 hsc hv (fun _ _ z => z) R h) (fun b s1 q => ?_) fun _ _ x => x)
    obtain ⟨m1, M1, S1, q1⟩ := q
    have R1 := R.step M1 S1
    cases b with
    | true => exact psTrans S1.toFr (soundSs SC t h2 hsc hv (hY.step R1 S1.toFr) R1 (q1.1 rfl))
    | false => exact psTrans S1.toFr (soundSs SC e h3 hsc hv (hY.step R1 S1.toFr) R1 (q1.2 rfl))
  | .fors t k src b, sx, env, vis, sc, loc, P, Y, mem, s, E, hc, hsc, hv, hY, R, h => by
    obtain ⟨target, iter, body, p, new, e1, rfl, hT, hst, hns, hk, h1, h2⟩ := inv_fors hc
    refine wpAny_For ?_ (fun x => folded_notSet hns x)
    refine src_sound SC.ok hsc R (chk_ns h1) hk ((soundE SC src).1 h1 hsc hv (fun _ _ z => z) R h) fun I v xs mem1 s1 s' R1 S1 hI hit R' S' hcur hlen hq => ?_
    refine for_sound (E := E) (f := fun Q' l m' => wpSs C G b Q' Y l m') SC.room.handled hv R1 R' S' hI hit hcur hT (fun q hq => (chkStore_spec hsc (hst q hq)).1) (fun q hq => (chkStore_spec hsc (hst q hq)).2) (fun l P' mem' s'' R'' S'' hb => soundSs SC b h2 hsc hv (hY.loop R'' (S1.toFr.trans S'')) R'' hb) hq fun fl s'' q => PS.trans S1.toFr q
  | .whiles c b, sx, env, vis, sc, loc, P, Y, mem, s, E, hc, hsc, hv, hY, R, h => by
    obtain ⟨a, body, p, rfl, h1, h2⟩ := inv_whiles hc
    obtain ⟨nn, hw⟩ := h
    refine wpAny_While (codeAny_whileLoop (fun n' s' => ∃ loc' mem', Rel W env vis loc' mem' s' ∧ Step (FrD env) mem s.heap mem' s'.heap ∧
      whileLoop (fun Q' l' m' => wpE C G noX c l' (asB Q') m') (fun Q' l' m' => wpSs C G b Q' noY l' m') n' P loc' mem') ?_ nn ⟨loc, mem, R, .refl, hw⟩)
    rintro n' s' ⟨loc', mem', R', S', hl⟩
    cases n' with
    | zero => exact hl.elim
    | succ n' =>
      refine wpAny_mono ((soundE SC c).2 h1 hsc hv (fun _ _ z => z) R' hl) (fun t s1 q => ?_) fun _ _ x => x
      obtain ⟨m1, M1, S1, q1⟩ := q
      have R1 := R'.step M1 S1
      cases t with
      | false => exact wpAny_execs_nil ⟨.next, loc', m1, rfl, R1, S'.trans S1.toFr, q1.2 rfl⟩
      | true =>
        refine wpAny_mono (soundSs SC b h2 hsc hv (.inl fun _ _ _ z => z) R1 (q1.1 rfl)) (fun fl s2 q => ?_) fun _ _ x => x
        obtain ⟨fl', l2, m2, hfl, R2, S2, q2⟩ := q
        have Sall := S'.trans (S1.toFr.trans S2)
        cases fl' with
        | next => obtain rfl : fl = .next := hfl; exact ⟨n', Nat.lt_succ_self _, l2, m2, R2, Sall, q2⟩
        | cont => obtain rfl : fl = .cont := hfl; exact ⟨n', Nat.lt_succ_self _, l2, m2, R2, Sall, q2⟩
        | brk => obtain rfl : fl = .brk := hfl; exact ⟨.next, l2, m2, rfl, R2, Sall, q2⟩
        | ret u =>
          obtain ⟨y', rfl, hy'⟩ : ∃ y, fl = .ret y ∧ VRel W s2.heap u y := hfl
          exact ⟨.ret u, l2, m2, ⟨y', rfl, hy'⟩, R2, Sall, q2⟩
  | .raise c g, sx, env, vis, sc, loc, P, Y, mem, s, E, hc, hsc, hv, hY, R, h => by
    rcases hY with hY | ⟨outer, ⟨hF, F, ap⟩, hC, hE⟩
    · exact (hY _ _ _ h).elim
    · obtain ⟨x, px, k1, p1, cp, p, rfl, h1, h2⟩ := inv_raise hc
      obtain ⟨D, hD, hC⟩ := hC
      obtain ⟨C', hm, X, _⟩ := hC _ h1.1 h1.2
      have hcv : clsV W c.code = .ref C' := by unfold clsV; rw [hm]; rfl
      refine raise_own SC.room.handled (X.keeps R.m.stays) (fun hP => global_sound R SC.ok hsc h2 hm hP) fun h' e vs tk M => ?_
      have S : Step NoD mem s.heap mem h' := .of_keeps M.keeps
      refine hE _ loc mem e _ (.inl ⟨M.new, ?_⟩) (R.m.of_keeps M.keeps) (F.step S fun _ _ z => z) (R.m.mems.fresh M.new) S.toFr h
      obtain ⟨t, he, _, _⟩ := M.there
      exact ⟨_, _, _, he, hcv.symm, rfl, rfl, rfl, .inl rfl⟩
  | .callS r f args, sx, env, vis, sc, loc, P, Y, mem, s, E, hc, hsc, hv, hY, R, h => by
    cases r with
    | true =>
      obtain ⟨v, p, rfl, h2⟩ := vRet_inv hc
      exact wpAny_Return_some (then1 R (callX SC h2 hsc hv R h fun m1 s1 M1 S1 => hY.call R M1 S1) fun u y m1 s1 hy R1 S1 q1 => ⟨.ret u, loc, m1, ⟨y, rfl, hy⟩, R1, S1.toFr, q1⟩)
    | false =>
      obtain ⟨v, p, rfl, h2⟩ := vExpr_inv hc
      refine wpAny_Expr (then1 R (callX SC h2 hsc hv R h fun m1 s1 M1 S1 => hY.call R M1 S1) fun u y m1 s1 hy R1 S1 q1 => ?_) (interactive_no R.e.kind) (swaps_no (chk_notComp h2 rfl))
      obtain ⟨q1, q2⟩ := q1
      have : ∀ a, y ≠ .ref a := fun a e => by
        subst e
        cases u <;> first | exact q1.elim | skip
        · have := hy.none'; cases this
        · have := hy.bool; cases this
        · obtain ⟨_, q⟩ := hy.int; cases q
      split
      · exact absurd rfl (this _)
      · exact ⟨.next, loc, m1, rfl, R1, S1.toFr, q2⟩
  | .dead, sx, env, vis, sc, loc, P, Y, mem, s, E, hc, hsc, hv, hY, R, h => h.elim
  | .newR f args, sx, env, vis, sc, loc, P, Y, mem, s, E, hc, hsc, hv, hY, R, h => by
    obtain ⟨v, p, rfl, hc⟩ := vRet_inv hc
    obtain ⟨x, px, es, p', rfl, hc⟩ := vCallN_inv hc
    obtain ⟨h1, hc⟩ := and2 hc
    obtain ⟨h2, hc⟩ := and2 hc
    obtain ⟨h3, h7⟩ := and2 hc
    obtain ⟨fn, hfn, h2⟩ := vSome_inv h2
    obtain ⟨h4, h2⟩ := and2 h2
    obtain ⟨h5, h6⟩ := and2 h2
    obtain ⟨a, ob, fd, hm, ho, hd, hcall⟩ := SC.call f (List.contains_iff_mem.mp h1) fn hfn
    obtain ⟨hcl, C', N, mN, K, hf⟩ := hm.2 h4
    rw [beq_iff_eq.mp h5] at hf
    refine wpAny_Return_some (eval_call (global_sound R SC.ok hsc h6 K.1 ?_))
    cases es with
    | nil => exact nb h3
    | cons e0 er =>
      refine callWith_cls K.2 ?_ (star_plain (chkL_star h7 e0 (.head _))) (star_any fun e he => chkL_star h7 e (.tail _ he))
      refine wpAny_mono (soundL SC args h7 hsc hv (fun _ _ z => z) R h) (fun vs s1 q => ?_) fun _ _ x => x
      obtain ⟨us, m1, hr, M1, S1, q1⟩ := q
      refine ⟨M1.stays, newX_sound M1 K hf ho hcl hr fun x s2 M2 S2 hx hr2 => ?_⟩
      refine wpAny_mono (hcall _ (.inr ⟨_, _, rfl⟩) (.ref x :: us) _ _ _ m1 s2 E ((hY.call R M2 (S1.trans S2)).imp id fun z => z) (q1 x hx) M2 hr2) (fun y s3 q => ?_) fun _ _ x => x
      obtain ⟨_, _, _, _, _, q⟩ := q
      exact q
  | .pass, sx, env, vis, sc, loc, P, Y, mem, s, E, hc, hsc, hv, hY, R, h => by
    obtain ⟨p, rfl⟩ := inv_pass hc
    exact wpAny_Pass ⟨.next, loc, mem, rfl, R, .refl, h⟩
theorem soundSs {W : Cx} {FT : Nat → Option Fn} {ids : List Nat} {G : String → Option Val} {n : Nat} {A : Around} {C : CallT} (SC : SCx W FT ids G n A C) : ∀ (ss : Sts) {sx : List Stmt} {env : Env} {vis : List (Nat × Str)} {sc : Scope} {loc : Loc} {P : Flow → Loc → Mem → Prop} {Y : Nat → Loc → Mem → Prop} {mem : Mem} {s : Shared} {E : Value → Shared → Prop},
    chkSs FT ids vis sc ss sx = true → ScOk sc env → VisOk vis → YOk W A env vis mem s Y E → Rel W env vis loc mem s → wpSs C G ss P Y loc mem → wpAny (model W.prog W.w) A (execs sx env) (PS W env vis mem s P) E s
  | .nil, sx, env, vis, sc, loc, P, Y, mem, s, E, hc, hsc, hv, hY, R, h => by
    rw [inv_snil hc]
    exact wpAny_execs_nil ⟨.next, loc, mem, rfl, R, .refl, h⟩
  | .cons st ss, sx, env, vis, sc, loc, P, Y, mem, s, E, hc, hsc, hv, hY, R, h => by
    obtain ⟨x, r, rfl, h1, h2⟩ := inv_scons hc
    refine wpAny_execs_cons (wpAny_mono (soundS SC st h1 hsc hv hY R h) (fun fl s1 q => ?_) fun _ _ x => x)
    obtain ⟨fl', l1, m1, hfl, R1, S1, q1⟩ := q
    cases fl' with
    | next =>
      obtain rfl : fl = .next := hfl
      exact psTrans S1 (soundSs SC ss h2 hsc hv (hY.step R1 S1) R1 q1)
    | cont => obtain rfl : fl = .cont := hfl; exact ⟨.cont, l1, m1, rfl, R1, S1, q1⟩
    | brk => obtain rfl : fl = .brk := hfl; exact ⟨.brk, l1, m1, rfl, R1, S1, q1⟩
    | ret u =>
      obtain ⟨y', rfl, hy'⟩ : ∃ y, fl = .ret y ∧ VRel W s1.heap u y := hfl
      exact ⟨.ret u, l1, m1, ⟨y', rfl, hy'⟩, R1, S1, q1⟩
end

end TD

namespace TD
open PySem PyProof.Rows

theorem zip_lookup {α : Type} : ∀ {ps : List Str} {vs : List α}, ps.length = vs.length → ∀ {i : Nat} {x : Str} {v : α}, ps.Nodup → ps[i]? = some x → vs[i]? = some v → (ps.zip vs).lookup x = some v
  | p :: ps, w :: vs, hl, 0, x, v, hn, h1, h2 => by
    simp only [List.getElem?_cons_zero, Option.some.injEq] at h1 h2
    subst h1; subst h2
    simp
  | p :: ps, w :: vs, hl, i + 1, x, v, hn, h1, h2 => by
    simp only [List.getElem?_cons_succ] at h1 h2
    rw [List.nodup_cons] at hn
    have hx : x ∈ ps := List.mem_of_getElem? h1
    have : (x == p) = false := by rw [beq_eq_false_iff_ne]; rintro rfl; exact hn.1 hx
    rw [List.zip_cons_cons, List.lookup_cons, this]
    exact zip_lookup (by simpa using hl) hn.2 h1 h2
  | [], _, _, i, x, v, _, h, _ => by simp at h
  | _ :: _, [], hl, _, _, _, _, _, _ => by simp at hl
theorem zip_filterMap {α : Type} (ps : List Str) (vs : List α) (hl : ps.length = vs.length) (hn : ps.Nodup) : ps.filterMap (fun n => ((ps.zip vs).lookup n).map (n, ·)) = ps.zip vs := by
  have key : ∀ (pre : List (Str × α)) (ps : List Str) (vs : List α), ps.length = vs.length → (pre.map (·.1) ++ ps).Nodup → ps.filterMap (fun n => ((pre ++ ps.zip vs).lookup n).map (n, ·)) = ps.zip vs := by
    intro pre ps
    induction ps generalizing pre with
    | nil => intro vs _ _; rfl
    | cons p ps ih =>
      intro vs hl hn
      cases vs with
      | nil => simp at hl
      | cons v vs =>
        have hp : (pre ++ (p, v) :: ps.zip vs).lookup p = some v := by
          have hnp : p ∉ pre.map (·.1) := fun q => by
            rw [List.nodup_append] at hn
            exact hn.2.2 p q p (.head _) rfl
          clear ih hn hl
          induction pre with
          | nil => simp
          | cons q r ih =>
            rw [List.map_cons, List.mem_cons, not_or] at hnp
            rw [List.cons_append, List.lookup_cons, beq_eq_false_iff_ne.mpr hnp.1]
            exact ih hnp.2
        rw [List.zip_cons_cons, List.filterMap_cons, hp]
        simp only [Option.map_some]
        congr 1
        have := ih (pre ++ [(p, v)]) vs (by simpa using hl) (by simpa using hn)
        simpa using this
  simpa using key [] ps vs hl (by simpa using hn)

noncomputable def plainParams (p : Arguments) : Bool := p.posonlyargs.isEmpty && p.vararg.isNone && p.kwonlyargs.isEmpty && p.kwarg.isNone
theorem bind_plain {fd : FuncData} (hp : plainParams fd.params = true) (hd : fd.defaults = .none) {vals : List Value} (hl : (fd.params.args.map (·.arg)).length = vals.length) (hn : (fd.params.args.map (·.arg)).Nodup) :
    bindArgs fd ⟨vals, []⟩ = pure ((fd.params.args.map (·.arg)).zip vals) := by
  unfold plainParams at hp
  simp only [Bool.and_eq_true, List.isEmpty_iff, Option.isNone_iff_eq_none] at hp
  obtain ⟨⟨⟨h1, h2⟩, h3⟩, h4⟩ := hp
  have hseq : seqItems? fd.defaults = pure none := by rw [hd]; rfl
  have hmiss : (List.take (fd.params.args.map (·.arg)).length (fd.params.args.map (·.arg))).filter (fun n => (((fd.params.args.map (·.arg)).zip vals).lookup n).isNone) = [] := by
    rw [List.take_length, List.filter_eq_nil_iff]
    intro n hm
    obtain ⟨i, hi⟩ := List.getElem?_of_mem hm
    have hlt : i < vals.length := by
      have := (List.getElem?_eq_some_iff.mp hi).1
      walk_at "o"
    rw [zip_lookup hl hn hi (List.getElem?_eq_getElem hlt)]
    simp
  have hz := zip_filterMap (fd.params.args.map (·.arg)) vals hl hn
  unfold bindArgs
  simp only [h1, h2, h3, h4, hseq, List.map_nil, List.nil_append, List.append_nil, List.forIn_nil, pure_bind, Option.getD_none, List.length_nil]
  simp only [hl, gt_iff_lt, Nat.lt_irrefl, decide_false, Bool.false_and, Bool.false_eq_true, if_false, pure_bind]
  simp only [Nat.zero_sub, List.drop_nil, Array.toList_empty, List.length_nil, Nat.sub_zero, List.drop_zero, List.zip_nil_right, List.forIn_nil, pure_bind]
  rw [← hl, hmiss]
  simp only [List.isEmpty_nil, Bool.not_true, Bool.false_eq_true, if_false, pure_bind, List.forIn_nil]
  rw [hz]

noncomputable def visOf (sc : Scope) : Nat → List String → List Str → List (Nat × Str)
  | _, [], _ => []
  | i, x :: r, seen => if storable sc (Str.ofString x) && !seen.contains (Str.ofString x) then (i, Str.ofString x) :: visOf sc (i + 1) r (Str.ofString x :: seen) else visOf sc (i + 1) r seen

noncomputable def chkHead (np : Nat) (vars : List String) (fd : FuncData) : Bool :=
  plainParams fd.params && (fd.params.args.map (·.arg) == (vars.take np).map Str.ofString) && decide (np ≤ vars.length) && decide ((fd.params.args.map (·.arg)).Nodup) &&
  (fd.scope.kind == .function) && !fd.scope.isCoroutine && !fd.scope.isGenerator && fd.scope.names.all (fun p => p.2 != .free) && (fd.params.args.all fun a => storable fd.scope a.arg)
noncomputable def vStmts (b : FuncBody) (k : List Stmt → Bool) : Bool := match b with | .stmts b => k b | _ => false
theorem vStmts_inv {b : FuncBody} {k : List Stmt → Bool} (h : vStmts b k = true) : ∃ l, b = .stmts l ∧ k l = true := by
  cases b <;> first | exact ⟨_, rfl, h⟩ | exact nb h
noncomputable def chkFn (FT : Nat → Option Fn) (ids : List Nat) (fn : Fn) (fd : FuncData) : Bool :=
  chkHead fn.np fn.vars fd && vStmts fd.body fun b => chkSs FT ids (visOf fd.scope 0 fn.vars []) fd.scope fn.body b

theorem visOf_mem {sc : Scope} : ∀ {vars : List String} {k : Nat} {seen : List Str} {i : Nat} {x : Str}, (i, x) ∈ visOf sc k vars seen → k ≤ i ∧ (vars.map Str.ofString)[i - k]? = some x ∧ x ∉ seen
  | [], k, seen, i, x, h => by simp [visOf] at h
  | y :: r, k, seen, i, x, h => by
    unfold visOf at h
    split at h
    · rename_i hc
      rw [List.mem_cons] at h
      rcases h with h | h
      · cases h
        simp only [Bool.and_eq_true, Bool.not_eq_true', List.contains_eq_mem, decide_eq_false_iff_not] at hc
        refine ⟨Nat.le_refl _, ?_, hc.2⟩
        simp
      · obtain ⟨a, b, c⟩ := visOf_mem h
        refine ⟨by walk_at "o", ?_, fun q => c (.tail _ q)⟩
        rw [show i - k = (i - (k + 1)) + 1 by walk_at "o"]
        simpa using b
    · obtain ⟨a, b, c⟩ := visOf_mem h
      refine ⟨by walk_at "o", ?_, c⟩
      rw [show i - k = (i - (k + 1)) + 1 by walk_at "o"]
      simpa using b
theorem visOf_ok {sc : Scope} : ∀ (vars : List String) (k : Nat) (seen : List Str), VisOk (visOf sc k vars seen)
  | [], k, seen => fun i x j y h => by simp [visOf] at h
  | y :: r, k, seen => by
    unfold visOf
    split
    · intro i x j z h1 h2
      rw [List.mem_cons] at h1 h2
      rcases h1 with h1 | h1 <;> rcases h2 with h2 | h2
      · cases h1; cases h2; simp
      · cases h1
        obtain ⟨a, b, c⟩ := visOf_mem h2
        exact ⟨fun e => by walk_at "o", fun e => by subst e; exact absurd (.head _) c⟩
      · cases h2
        obtain ⟨a, b, c⟩ := visOf_mem h1
        exact ⟨fun e => by walk_at "o", fun e => by subst e; exact absurd (.head _) c⟩
      · exact visOf_ok r _ _ i x j z h1 h2
    · exact visOf_ok r _ _

theorem getV_rep {n i : Nat} {v : Val} (h : getV (List.replicate n none) i = some v) : False := by
  induction n generalizing i with
  | zero => exact no h
  | succ n ih => cases i with
    | zero => exact no h
    | succ i => exact ih (i := i) h
theorem getV_loc0 {vs : List Val} {n : Nat} : ∀ {i : Nat} {v : Val}, getV (loc0 vs n) i = some v → vs[i]? = some v := by
  induction vs with
  | nil => intro i v h; exact (getV_rep h).elim
  | cons u vs ih => intro i v h; cases i with
    | zero => exact h
    | succ i => exact ih (i := i) h

theorem bindL_get {kd : Str → Option NameKind} {x : Str} (hx : kd x = some .local) : ∀ {binds : List (Str × Value)} {m : Str → Option Value} {y : Value}, (binds.map (·.1)).Nodup → (binds.lookup x = some y ∨ (x ∉ binds.map (·.1) ∧ m x = some y)) → bindL kd binds m x = some y
  | [], m, y, hn, h => by
    rcases h with h | h
    · simp at h
    · exact h.2
  | (n, v) :: r, m, y, hn, h => by
    unfold bindL
    rw [List.map_cons, List.nodup_cons] at hn
    refine bindL_get hx hn.2 ?_
    by_cases hxn : x = n
    · subst hxn
      rcases h with h | h
      · rw [List.lookup_cons] at h
        simp only [beq_self_eq_true] at h
        cases h
        exact .inr ⟨hn.1, by rw [if_pos hx]; simp⟩
      · exact absurd (.head _) h.1
    · rcases h with h | h
      · rw [List.lookup_cons, beq_eq_false_iff_ne.mpr hxn] at h
        exact .inl h
      · refine .inr ⟨fun q => h.1 (.tail _ q), ?_⟩
        split
        · show (if x = n then some v else m x) = some y
          rw [if_neg hxn]; exact h.2
        · exact h.2
theorem bindC_get {kd : Str → Option NameKind} {x : Str} (hx : kd x ≠ some .local) : ∀ {binds : List (Str × Value)} {m : Str → Option Value} {y : Value}, (binds.map (·.1)).Nodup → (binds.lookup x = some y ∨ (x ∉ binds.map (·.1) ∧ m x = some y)) → bindC kd binds m x = some y
  | [], m, y, hn, h => by
    rcases h with h | h
    · simp at h
    · exact h.2
  | (n, v) :: r, m, y, hn, h => by
    unfold bindC
    rw [List.map_cons, List.nodup_cons] at hn
    refine bindC_get hx hn.2 ?_
    by_cases hxn : x = n
    · subst hxn
      rcases h with h | h
      · rw [List.lookup_cons] at h
        simp only [beq_self_eq_true] at h
        cases h
        exact .inr ⟨hn.1, by rw [if_neg hx]; simp⟩
      · exact absurd (.head _) h.1
    · rcases h with h | h
      · rw [List.lookup_cons, beq_eq_false_iff_ne.mpr hxn] at h
        exact .inl h
      · refine .inr ⟨fun q => h.1 (.tail _ q), ?_⟩
        split
        · exact h.2
        · show (if x = n then some v else m x) = some y
          rw [if_neg hxn]; exact h.2

theorem Room.down {n : Nat} {A : Around} (h : Room (n + 1) A) (env : Env) : Room n (A.deeper env) := by
  obtain ⟨a, b, c⟩ := h
  refine ⟨a, ?_, ?_⟩
  · show A.units + 3 + 100 + 20 * n < cLine
    walk_at "o"
  · show A.depth + 1 + 5 + 5 * n < recursionLimit
    walk_at "o"

theorem Room.near {n : Nat} {A A' : Around} (h : Room (n + 1) A) (hA : Near A A') : A'.depth + 5 < recursionLimit ∧ ∀ env, Room n (A'.deeper env) := by
  rcases hA with rfl | ⟨C, vs, rfl⟩
  · exact ⟨by have := h.depth; walk_at "o", h.down⟩
  · obtain ⟨a, b, c⟩ := h
    have e1 : (A.under (.builtin "type.__call__" ⟨.ref C :: vs, []⟩)).depth = A.depth + 1 := rfl
    have e3 : (Code.builtin "type.__call__" ⟨.ref C :: vs, []⟩).cUnits = 1 := rfl
    have e2 : (A.under (.builtin "type.__call__" ⟨.ref C :: vs, []⟩)).units = A.units + 1 := congrArg (A.units + ·) e3
    refine ⟨by rw [e1]; walk_at "o", fun env => ⟨a, ?_, ?_⟩⟩
    · show (A.under (.builtin "type.__call__" ⟨.ref C :: vs, []⟩)).units + 3 + 100 + 20 * n < cLine
      walk_at "o"
    · show A.depth + 1 + 1 + 5 + 5 * n < recursionLimit
      walk_at "o"
theorem cells_mem {x : Str} : ∀ (names : List (Str × NameKind)) (n : Nat) (acc : List (Str × Addr)), ((x, NameKind.cell) ∈ names ∨ ∃ b, (x, b) ∈ acc) → ∃ b, (x, b) ∈ cellsFrom n names acc := by
  intro names
  induction names with
  | nil => intro n acc h; exact h.resolve_left List.not_mem_nil
  | cons p r ih =>
    intro n acc h
    obtain ⟨y, k⟩ := p
    show ∃ b, (x, b) ∈ if k == NameKind.cell then cellsFrom (n + 1) r ((y, n) :: acc) else cellsFrom n r acc
    by_cases hk : (k == NameKind.cell) = true
    · rw [if_pos hk]
      refine ih _ _ ?_
      rcases h with h | ⟨b, h⟩
      · rcases List.mem_cons.mp h with q | q
        · obtain rfl : x = y := congrArg Prod.fst q
          exact .inr ⟨n, .head _⟩
        · exact .inl q
      · exact .inr ⟨b, .tail _ h⟩
    · rw [if_neg hk]
      refine ih _ _ (h.imp_left fun h => ?_)
      rcases List.mem_cons.mp h with q | q
      · obtain rfl : NameKind.cell = k := congrArg Prod.snd q
        exact absurd rfl hk
      · exact q
theorem look_of_mem {β : Type} {x : Str} {b : β} : ∀ {l : List (Str × β)}, (x, b) ∈ l → (l.lookup x).isSome = true := by
  intro l
  induction l with
  | nil => intro h; cases h
  | cons p r ih =>
    intro h
    obtain ⟨y, c⟩ := p
    rw [List.lookup_cons]
    cases q : x == y with
    | true => rfl
    | false =>
      rcases List.mem_cons.mp h with e | e
      · obtain rfl : x = y := congrArg Prod.fst e
        rw [beq_self_eq_true] at q; cases q
      · exact ih e
theorem cell_here {x : Str} {names : List (Str × NameKind)} (n : Nat) (h : names.lookup x = some .cell) : ((cellsFrom n names []).lookup x).isSome = true := by
  obtain ⟨b, hb⟩ := cells_mem names n [] (.inl (PySem.mem_of_lookup h))
  exact look_of_mem hb

structure DefAt (W : Cx) (a : Addr) (o : Obj) (fd : FuncData) : Prop where
  at_ : W.base.get? a = some o
  data : o.data = .func fd
  dflt : fd.defaults = .none
  glob : fd.globals = mainGlobals
  blt : fd.builtins = builtinsNs
  clos : fd.closure = []
  code : W.base.CodeRec fd.code fd.qualname

theorem call_run {W : Cx} {G : String → Option Val} (ok : CxOk W G) {A : Around} (hdep : A.depth + 5 < recursionLimit) {a : Addr} {o : Obj} {fd : FuncData} (Df : DefAt W a o fd) {np : Nat} {vars : List String} (hchk : chkHead np vars fd = true) {body : List Stmt} (hb : fd.body = .stmts body)
    {vs : List Val} {args : List Value} {Q : Val → Mem → Prop} {mem : Mem} {s : Shared} {E : Value → Shared → Prop} (hlen : vs.length = np) (M : MRel W mem s) (hv : VRels W s.heap vs args)
    (run : ∀ env s₁ E', ScOk fd.scope env → Rel W env (visOf fd.scope 0 vars []) (loc0 vs (vars.length - np)) mem s₁ → (∀ b o, s.heap.get? b = some o → s₁.heap.get? b = some o) →
      (∀ X, XFr W A mem s X E → YFr W (A.deeper env) env (visOf fd.scope 0 vars []) mem s₁ (fun c _ m' => X c m') E') → wpAny (model W.prog W.w) (A.deeper env) (execs body env) (PS W env (visOf fd.scope 0 vars []) mem s₁ (retQ Q)) E' s₁) :
    wpAny (model W.prog W.w) A (call (.ref a) args) (PM W mem s Q) E s := by
      obtain ⟨h2, h3, hdef, hgl, hbl, hcl, hcd⟩ := Df
      unfold chkHead at hchk
      simp only [Bool.and_eq_true, Bool.not_eq_true', decide_eq_true_eq, beq_iff_eq] at hchk
      obtain ⟨⟨⟨⟨⟨⟨⟨⟨c1, c2⟩, c3⟩, c4⟩, c5⟩, c6⟩, c7⟩, c8⟩, c9⟩ := hchk
      have hal := hv.length
      have hpl : (fd.params.args.map (·.arg)).length = args.length := by
        rw [c2, List.length_map, List.length_take]; walk_at "o"
      have hbnd := bind_plain c1 hdef hpl c4
      have hmap : ((fd.params.args.map (·.arg)).zip args).map (·.1) = fd.params.args.map (·.arg) := by
        rw [List.map_fst_zip]; walk_at "o"
      have hkind : ∀ n, ∀ y ∈ (fd.params.args.map (·.arg)).zip args, fd.scope.names.lookup y.1 = some .local ∨ (fd.scope.names.lookup y.1 = some .cell ∧ ((cellsFrom n fd.scope.names []).lookup y.1).isSome = true) := fun n y hy => by
        have hm : y.1 ∈ fd.params.args.map (·.arg) := by rw [← hmap]; exact List.mem_map_of_mem hy
        obtain ⟨p, hp, e⟩ := List.mem_map.mp hm
        have hs := List.all_eq_true.mp c9 p hp
        rw [e] at hs
        rcases Bool.or_eq_true_iff.mp hs with q | q
        · exact .inl (eq_of_beq q)
        · exact .inr ⟨eq_of_beq q, cell_here n (eq_of_beq q)⟩
      refine wpAny_call (codeAny_call_cells (by walk_at "o") (M.stays _ _ h2) h3 (ok.nolimit.keeps M.stays) (hcd.keeps M.stays) hb hbnd hcl (hkind _) (fun s₁ I => ?_) c6 c7 c5)
      have hsc : ScOk fd.scope (callEnvC fd s.heap.objs.size a) := ScOk.self (callEnvC fd s.heap.objs.size a)
      have hloc : (callEnvC fd s.heap.objs.size a).locals = s.heap.objs.size := rfl
      have hsco : (callEnvC fd s.heap.objs.size a).scope = fd.scope := rfl
      have hglo : (callEnvC fd s.heap.objs.size a).globals = mainGlobals := hgl
      have hblo : (callEnvC fd s.heap.objs.size a).builtins = builtinsNs := hbl
      have hframe : (callEnvC fd s.heap.objs.size a).frame = some (callEnvC fd s.heap.objs.size a).locals := rfl
      have hcells : (callEnvC fd s.heap.objs.size a).cells = cellsFrom (s.heap.objs.size + 1) fd.scope.names [] := rfl
      have hko : ∀ x, (callEnvC fd s.heap.objs.size a).kindOf x = fd.scope.names.lookup x := fun _ => rfl
      generalize henv : callEnvC fd s.heap.objs.size a = env at I hsc hloc hsco hglo hblo hframe hcells hko ⊢
      have hFr : ∀ b, FrD env b → s.heap.objs.size ≤ b := fun b hb => by
        rcases hb with rfl | ⟨x, hx⟩
        · exact Nat.le_of_eq hloc.symm
        · have := I.above x b (PySem.mem_of_lookup hx)
          rw [hloc] at this
          exact Nat.le_of_lt this
      have hnone : ∀ b, s.heap.objs.size ≤ b → s.heap.get? b = none := fun b hb => by
        cases q : s.heap.get? b with
        | none => rfl
        | some o => exact absurd (Heap.lt_size q) (Nat.not_lt.mpr hb)
      have hbase : ∀ b, s.heap.get? b = none → W.base.get? b = none := fun b e => by
        cases q : W.base.get? b with
        | none => rfl
        | some o => rw [M.stays b o q] at e; cases e
      have kf : KeepF s.heap s₁.heap := .of_keeps I.toInCall.keep
      have hsame : s₁.gens = s.gens ∧ s₁.os = s.os := by
        obtain ⟨h', tk, e⟩ := I.toInCall.same; rw [e]; exact ⟨rfl, rfl⟩
      have M1 : MRel W mem s₁ := M.of_keeps I.toInCall.keep hsame.1 hsame.2
      have look : ∀ i x v, (i, x) ∈ visOf fd.scope 0 vars [] → getV (loc0 vs (vars.length - np)) i = some v → ∃ y, ((fd.params.args.map (·.arg)).zip args).lookup x = some y ∧ VRel W s₁.heap v y := fun i x v h1 h2 => by
        have h2' := getV_loc0 h2
        obtain ⟨y, hy, hr⟩ := hv.get h2'
        obtain ⟨_, hx, _⟩ := visOf_mem h1
        have hi : i < np := by
          have := (List.getElem?_eq_some_iff.mp h2').1
          walk_at "o"
        refine ⟨y, zip_lookup hpl c4 ?_ hy, hr.keep kf⟩
        rw [c2, List.map_take, List.getElem?_take_of_lt hi]
        simpa using hx
      have hnd : (((fd.params.args.map (·.arg)).zip args).map (·.1)).Nodup := by rw [hmap]; exact c4
      have R0 : Rel W env (visOf fd.scope 0 vars []) (loc0 vs (vars.length - np)) mem s₁ := by
        refine ⟨M1, ⟨by rw [hsco]; exact c5, hglo, hblo, ⟨_, I.toInCall.ns, fun i x v h1 h2 h3 => ?_⟩, fun i x v k h1 h2 h3 h4 => ?_, fun x k h1 h2 => ?_, fun x c hx => ⟨_, I.cell x c hx⟩, fun x y c hx hy => ?_⟩, fun b hb => ?_, fun b hb => ?_⟩
        · obtain ⟨y, e, r⟩ := look i x v h1 h2
          exact ⟨y, bindL_get h3 hnd (.inl e), r⟩
        · obtain ⟨y, e, r⟩ := look i x v h1 h2
          have hnl : env.kindOf x ≠ some .local := by rw [h3]; rcases h4 with rfl | rfl <;> simp
          have hkc : k = .cell := by
            rcases h4 with q | q
            · exact q
            · rw [hko] at h3
              have := List.all_eq_true.mp c8 _ (PySem.mem_of_lookup h3)
              subst q; simp at this
          subst hkc
          rw [hko] at h3
          have := cell_here (s.heap.objs.size + 1) h3
          obtain ⟨c, hc⟩ := Option.isSome_iff_exists.mp this
          refine ⟨c, y, by rw [hcells]; exact hc, ?_, r⟩
          have := I.cell x c (by rw [hcells]; exact hc)
          rw [bindC_get hnl hnd (.inl e)] at this
          exact this
        · rw [hko] at h1
          have hkc : k = .cell := by
            rcases h2 with q | q
            · exact q
            · have := List.all_eq_true.mp c8 _ (PySem.mem_of_lookup h1)
              subst q; simp at this
          subst hkc
          have := cell_here (s.heap.objs.size + 1) h1
          rw [hcells]
          exact Option.isSome_iff_exists.mp this
        · exact name_of_addr I.apart (PySem.mem_of_lookup hx) (PySem.mem_of_lookup hy)
        · exact M.mems.fresh (hnone b (hFr b hb))
        · exact hbase b (hnone b (hFr b hb))
      have stepUp : ∀ {m' : Mem} {h' : Heap}, Step (FrD env) mem s₁.heap m' h' → Step NoD mem s.heap m' h' := fun S' => by
        refine ⟨fun b e => ?_, fun b o' e hm _ => ?_, fun b hm hm' => ?_⟩
        · exact alive_of I.toInCall.keep b (S'.alive b e)
        · exact S'.keep b o' (I.toInCall.keep b o' e) hm fun hb => by rw [hnone b (hFr b hb)] at e; cases e
        · exact alive_of I.toInCall.keep b (S'.grow b hm hm')
      refine wpAny_mono (run env s₁ _ hsc R0 I.toInCall.keep fun X hX => ?_) (fun fl s' p => ?_) fun _ _ x => x
      · obtain ⟨⟨fs, hfr, F⟩, hC, hE⟩ := hX
        have ap : ∀ b ∈ frs fs, ¬ FrD env b := fun b hb hd => by
          obtain ⟨_, _, m, o, es, ep, e, _⟩ := F.mem hb
          rw [hnone b (hFr b hd)] at e; cases e
        have F1 : FrOk W.base fs mem s₁.heap := F.step (D := NoD) (.of_keeps I.toInCall.keep) fun _ _ z => z
        refine ⟨fs, ⟨Around.frames_deeper hfr, FrOk.cons R0 hframe F1, ap⟩, hC, fun k l m' a s' X M' F' hm S' hy => ?_⟩
        have S := stepUp S'
        refine excA_leaves (Around.frames_deeper hfr) F' (X.back (alive_of I.toInCall.keep)) S.alive fun h' x K => ?_
        exact hE k m' a _ x.exc (M'.kept K F' M.stays) hm (S.kept K) hy
      obtain ⟨fl', l, mem', hfl, R', S', q⟩ := p
      have S : Step NoD mem s.heap mem' s'.heap := stepUp S'
      cases fl' with
      | next => obtain rfl : fl = .next := hfl; exact ⟨.none, mem', .mkNone, R'.m, S, q⟩
      | ret u =>
        obtain ⟨y', rfl, hy'⟩ : ∃ y, fl = .ret y ∧ VRel W s'.heap u y := hfl
        exact ⟨u, mem', hy', R'.m, S, q⟩
      | brk => exact q.elim
      | cont => exact q.elim

noncomputable def Defs (W : Cx) (FT : Nat → Option Fn) (ids : List Nat) : Prop :=
  ∀ f ∈ ids, ∀ fn, FT f = some fn → ∃ a o fd, FnAt W fn a o ∧ DefAt W a o fd ∧ chkFn FT ids fn fd = true

theorem callOk {W : Cx} {FT : Nat → Option Fn} {ids : List Nat} {G : String → Option Val} (ok : CxOk W G) (D : Defs W FT ids) : ∀ (n : Nat) {A : Around}, Room n A → CallOk W FT ids A (callN FT G n)
  | 0, A, hr => fun f hf fn hfn => by
    obtain ⟨a, o, fd, h1, Df, _⟩ := D f hf fn hfn
    exact ⟨a, o, fd, h1, Df.at_, Df.data, fun _ _ _ _ _ _ _ _ _ _ h => h.elim⟩
  | n + 1, A, hr => fun f hf fn hfn => by
    obtain ⟨a, o, fd, h1, Df, hchk⟩ := D f hf fn hfn
    refine ⟨a, o, fd, h1, Df.at_, Df.data, fun A' hA vs args Q X mem s E hX hc M hv => ?_⟩
    obtain ⟨hh, hb⟩ := and2 hchk
    obtain ⟨body, hb, hc10⟩ := vStmts_inv hb
    obtain ⟨fn', e, hlen, hbody⟩ := hc
    obtain rfl : fn = fn' := Option.some.inj (hfn.symm.trans e)
    refine call_run ok (hr.near hA).1 Df hh hb hlen M hv fun env s₁ E' hsc R0 hk hY => ?_
    have SC : SCx W FT ids G n (A'.deeper env) (callN FT G n) := ⟨ok, (hr.near hA).2 env, callOk ok D n ((hr.near hA).2 env)⟩
    refine soundSs SC fn.body hc10 hsc (visOf_ok _ _ _) ?_ R0 hbody
    rcases hX with hX | hX
    · exact .inl fun k l m => hX k m
    · exact .inr (hY X hX)

end TD

namespace TD
open PySem (Str Addr)

noncomputable def globOf (gs : List (String × Int)) (x : String) : Option Val := (gs.lookup x).map .int
noncomputable def Ext (m m' : Mem) : Prop := ∀ a o, m a = some o → m' a = some o
theorem Ext.refl {m : Mem} : Ext m m := fun _ _ e => e
theorem Ext.trans {m1 m2 m3 : Mem} (x : Ext m1 m2) (y : Ext m2 m3) : Ext m1 m3 := fun a o e => y a o (x a o e)
theorem Ext.set {m : Mem} {a : Addr} {o : AObj} (h : m a = none) : Ext m (m.set a o) := fun b o' e => by
  unfold Mem.set; split
  · rename_i q; subst q; rw [h] at e; cases e
  · exact e
theorem set_eq {m : Mem} {a : Addr} {o : AObj} : (m.set a o) a = some o := by simp [Mem.set]
theorem freshL_x {m : Mem} {Q : Val → Mem → Prop} {xs : List Val} (hl : xs.length < lid) (h : ∀ a m', m a = none → Ext m m' → m' a = some (.list xs) → Q (.ref a) m') : freshL m xs Q := freshL_ hl fun a ha => h a _ ha (Ext.set ha) set_eq
theorem e_dictx {C : CallT} {G : String → Option Val} {X : Nat → Mem → Prop} {loc : Loc} {m : Mem} {Q : Val → Mem → Prop} (h : ∀ a m', m a = none → Ext m m' → m' a = some .dict0 → Q (.ref a) m') : wpE C G X .dict0 loc Q m := fun a ha => h a _ ha (Ext.set ha) set_eq
theorem set_ne {m : Mem} {a b : Addr} {o : AObj} (h : b ≠ a) : (m.set a o) b = m b := by simp [Mem.set, h]
theorem set_set {m : Mem} {a : Addr} {o o' : AObj} : (m.set a o).set a o' = m.set a o' := by
  funext b; unfold Mem.set; split <;> rfl
noncomputable def Mem.del (m : Mem) (a : Addr) : Mem := fun b => if b = a then none else m b
theorem del_eq {m : Mem} {a : Addr} : (m.del a) a = none := by simp [Mem.del]
theorem del_ne {m : Mem} {a b : Addr} (h : b ≠ a) : (m.del a) b = m b := by simp [Mem.del, h]
theorem del_set {m : Mem} {a : Addr} {o : AObj} : (m.del a).set a o = m.set a o := by
  funext b; unfold Mem.set Mem.del; split <;> rfl
theorem set_same {m : Mem} {a : Addr} {o : AObj} (h : m a = some o) : m.set a o = m := by
  funext b; unfold Mem.set; split
  · rename_i q; subst q; exact h.symm
  · rfl
theorem Ext.del {m m2 : Mem} {a : Addr} {o : AObj} (h : m a = none) (x : Ext (m.set a o) m2) : Ext m (m2.del a) := fun b o' e => by
  have hb : b ≠ a := by rintro rfl; rw [h] at e; cases e
  rw [del_ne hb]
  exact x b o' (by rw [set_ne hb]; exact e)
theorem Ext.del_back {m m2 : Mem} {a : Addr} {o : AObj} (h : m2 a = some o) : m2 = (m2.del a).set a o := by
  rw [del_set, set_same h]
theorem ne_of {m : Mem} {a b : Addr} {o : AObj} (h : m a = none) (e : m b = some o) : b ≠ a := by rintro rfl; rw [h] at e; cases e

theorem grow_set {mr m3 : Mem} {f : Addr} {L L' : AObj} (hrf : mr f = none) (x : Ext (mr.set f L) m3) : ∃ mr', Ext mr mr' ∧ mr' f = none ∧ m3.set f L' = mr'.set f L' := ⟨m3.del f, Ext.del hrf x, del_eq, del_set.symm⟩
inductive All2 {α β : Type} (R : α → β → Prop) : List α → List β → Prop
  | nil : All2 R [] []
  | cons {a : α} {b : β} {as : List α} {bs : List β} : R a b → All2 R as bs → All2 R (a :: as) (b :: bs)
theorem All2.length {α β : Type} {R : α → β → Prop} {as : List α} {bs : List β} (h : All2 R as bs) : as.length = bs.length := by
  induction h with
  | nil => rfl
  | cons _ _ ih => exact congrArg Nat.succ ih
theorem All2.mono {α β : Type} {R R' : α → β → Prop} (k : ∀ a b, R a b → R' a b) {as : List α} {bs : List β} (h : All2 R as bs) : All2 R' as bs := by
  induction h with
  | nil => exact .nil
  | cons h _ ih => exact .cons (k _ _ h) ih
theorem All2.get {α β : Type} {R : α → β → Prop} {as : List α} {bs : List β} (h : All2 R as bs) : ∀ {i : Nat} {a : α}, as[i]? = some a → ∃ b, bs[i]? = some b ∧ R a b := by
  induction h with
  | nil => intro i a e; cases e
  | cons h _ ih => intro i a e; cases i with
    | zero => cases e; exact ⟨_, rfl, h⟩
    | succ i => obtain ⟨b, hb⟩ := ih (i := i) e; exact ⟨b, hb⟩
theorem All2.get' {α β : Type} {R : α → β → Prop} {as : List α} {bs : List β} (h : All2 R as bs) : ∀ {i : Nat} {b : β}, bs[i]? = some b → ∃ a, as[i]? = some a ∧ R a b := by
  induction h with
  | nil => intro i a e; cases e
  | cons h _ ih => intro i a e; cases i with
    | zero => cases e; exact ⟨_, rfl, h⟩
    | succ i => obtain ⟨b, hb⟩ := ih (i := i) e; exact ⟨b, hb⟩
theorem All2.append {α β : Type} {R : α → β → Prop} {as : List α} {bs : List β} {as' : List α} {bs' : List β} (h : All2 R as bs) (h' : All2 R as' bs') : All2 R (as ++ as') (bs ++ bs') := by
  induction h with
  | nil => exact h'
  | cons h _ ih => exact .cons h ih
theorem All2.of_get {α β : Type} {R : α → β → Prop} {as : List α} : ∀ {bs : List β}, as.length = bs.length → (∀ (i : Nat) a b, as[i]? = some a → bs[i]? = some b → R a b) → All2 R as bs := by
  induction as with
  | nil => intro bs hl _; cases bs with
    | nil => exact .nil
    | cons _ _ => cases hl
  | cons a as ih => intro bs hl h; cases bs with
    | nil => cases hl
    | cons b bs => exact .cons (h 0 a b rfl rfl) (ih (Nat.succ.inj hl) fun i a b h1 h2 => h (i + 1) a b h1 h2)

noncomputable def IsL (m : Mem) (v : Val) (xs : List Val) : Prop := ∃ a, v = .ref a ∧ m a = some (.list xs)
noncomputable def IsI (m : Mem) (v : Val) (is : List Int) : Prop := IsL m v (is.map .int)
noncomputable def IsLL {β : Type} (R : Mem → Val → β → Prop) (m : Mem) (v : Val) (t : List β) : Prop := ∃ xs, IsL m v xs ∧ All2 (R m) xs t
noncomputable abbrev IsT := IsLL IsI
theorem IsL.ext {m m' : Mem} (x : Ext m m') {v : Val} {xs : List Val} (h : IsL m v xs) : IsL m' v xs := by
  obtain ⟨a, rfl, e⟩ := h; exact ⟨a, rfl, x a _ e⟩
theorem IsI.ext {m m' : Mem} (x : Ext m m') {v : Val} {xs : List Int} (h : IsI m v xs) : IsI m' v xs := IsL.ext x h
theorem IsLL.ext {β : Type} {R : Mem → Val → β → Prop} {m m' : Mem} (x : Ext m m') (k : ∀ v b, R m v b → R m' v b) {v : Val} {t : List β} (h : IsLL R m v t) : IsLL R m' v t := by
  obtain ⟨xs, a, b⟩ := h; exact ⟨xs, a.ext x, b.mono k⟩
theorem IsT.ext {m m' : Mem} (x : Ext m m') {v : Val} {t : List (List Int)} (h : IsT m v t) : IsT m' v t := IsLL.ext x (fun _ _ => IsI.ext x) h
theorem IsL.lst {m : Mem} {v : Val} {xs : List Val} (h : IsL m v xs) : lst m v = some xs := by
  obtain ⟨a, rfl, e⟩ := h; show itemsOf (m a) = _; rw [e]; rfl
theorem IsL.seq {m : Mem} {v : Val} {xs : List Val} (h : IsL m v xs) : seq m v = some xs := by
  obtain ⟨a, rfl, e⟩ := h; show itemsOf (m a) = _; rw [e]; rfl
theorem IsL.list {m : Mem} {v : Val} {xs : List Val} (h : IsL m v xs) : isA m v .list = some true := by
  obtain ⟨a, rfl, e⟩ := h; show (m a).bind _ = _; rw [e]; rfl
theorem IsL.stands {m m' : Mem} {v : Val} {xs : List Val} {k : ItK} (h : IsL m v xs) (h' : IsL m' v xs) : stands k v m m' := by
  cases k <;> first | trivial | exact h'.lst.trans h.lst.symm
theorem IsI.seq {m : Mem} {v : Val} {xs : List Int} (h : IsI m v xs) : TD.seq m v = some (xs.map .int) := IsL.seq h
theorem IsI.lst {m : Mem} {v : Val} {xs : List Int} (h : IsI m v xs) : TD.lst m v = some (xs.map .int) := IsL.lst h
theorem IsL.new {m : Mem} {a : Addr} {xs : List Val} : IsL (m.set a (.list xs)) (.ref a) xs := ⟨a, rfl, set_eq⟩
noncomputable abbrev dInts (is : List Int) : Dat := .list (is.map .int)
noncomputable abbrev dTab (t : List (List Int)) : Dat := .list (t.map dInts)
theorem readsL_ints {m : Mem} {is : List Int} : ReadsL m (is.map .int) (is.map .int) := by
  induction is with
  | nil => rfl
  | cons i is ih => exact Exists.intro _ ⟨_, rfl, rfl, ih⟩
theorem IsI.reads {m : Mem} {v : Val} {is : List Int} (h : IsI m v is) : Reads m (dInts is) v := Exists.intro _ ⟨h.lst, readsL_ints⟩
theorem readsL_of {β : Type} {R : Val → β → Prop} {d : β → Dat} {m : Mem} (k : ∀ v b, R v b → Reads m (d b) v) {xs : List Val} {t : List β} (h : All2 R xs t) : ReadsL m (t.map d) xs := by
  induction h with
  | nil => rfl
  | cons h _ ih => exact Exists.intro _ ⟨_, rfl, k _ _ h, ih⟩
theorem IsLL.reads {β : Type} {R : Mem → Val → β → Prop} {d : β → Dat} {m : Mem} (k : ∀ v b, R m v b → Reads m (d b) v) {v : Val} {t : List β} (h : IsLL R m v t) : Reads m (.list (t.map d)) v := by
  obtain ⟨xs, a, b⟩ := h
  exact Exists.intro xs ⟨a.lst, readsL_of k b⟩
theorem IsT.reads {m : Mem} {v : Val} {t : List (List Int)} (h : IsT m v t) : Reads m (dTab t) v := IsLL.reads (fun _ _ => IsI.reads) h

theorem beqs_map {β : Type} [DecidableEq β] {d : β → Dat} (k : ∀ a b, Dat.beq (d a) (d b) = decide (a = b)) (a : List β) : ∀ b : List β, Dat.beqs (a.map d) (b.map d) = decide (a = b) := by
  induction a with
  | nil => intro b; cases b with
    | nil => rfl
    | cons _ _ => exact (decide_eq_false (by intro h; cases h)).symm
  | cons x a ih => intro b; cases b with
    | nil => exact (decide_eq_false (by intro h; cases h)).symm
    | cons y b =>
      show (Dat.beq (d x) (d y) && Dat.beqs (a.map d) (b.map d)) = _
      rw [k, ih]
      by_cases h : x = y <;> by_cases h' : a = b <;> simp [h, h']
theorem beq_ints (a b : List Int) : Dat.beq (dInts a) (dInts b) = decide (a = b) := beqs_map (d := Dat.int) (fun _ _ => rfl) a b
theorem beq_tab (a b : List (List Int)) : Dat.beq (dTab a) (dTab b) = decide (a = b) := beqs_map beq_ints a b
theorem okN_ints {n : Nat} (is : List Int) : okN (n + 2) (dInts is) = true := by
  show (is.map Dat.int).all (okN (n + 1)) = true
  rw [List.all_eq_true]
  intro d hd
  obtain ⟨x, _, rfl⟩ := List.mem_map.mp hd
  rfl
theorem okN_tab {n : Nat} (t : List (List Int)) : okN (n + 3) (dTab t) = true := by
  show (t.map dInts).all (okN (n + 2)) = true
  rw [List.all_eq_true]
  intro d hd
  obtain ⟨x, _, rfl⟩ := List.mem_map.mp hd
  exact okN_ints x

noncomputable def pvBin (op : Bop) (a b : Int) : Option Val := match op with
  | .add => some (.int (a + b))
  | .sub => some (.int (a - b))
  | _ => none
noncomputable def pvCmp (op : Cop) (a b : Int) : Option Val := match op with
  | .eq => some (.bool (decide (a = b)))
  | .ne => some (.bool (decide (a ≠ b)))
  | .lt => some (.bool (decide (a < b)))
  | .le => some (.bool (decide (a ≤ b)))
  | .gt => some (.bool (decide (a > b)))
  | .ge => some (.bool (decide (a ≥ b)))
  | _ => none
noncomputable def asInt : Option Val → Option Int
  | some (.int i) => some i
  | _ => none
noncomputable def pv (G : String → Option Val) (loc : Loc) : Ex → Option Val
  | .nm i => getV loc i
  | .int i => some (.int i)
  | .bool b => some (.bool b)
  | .none => some .none
  | .glob x => G x
  | .str x => some (.str x)
  | .bin op a b => (asInt (pv G loc a)).bind fun x => (asInt (pv G loc b)).bind fun y => pvBin op x y
  | .cmp op a b => (asInt (pv G loc a)).bind fun x => (asInt (pv G loc b)).bind fun y => pvCmp op x y
  | _ => none
theorem asInt_inv {o : Option Val} {i : Int} (h : asInt o = some i) : o = some (.int i) := by
  cases o with
  | none => cases h
  | some v => cases v <;> first | (cases h; rfl) | cases h
theorem e_pv0 {C : CallT} {G : String → Option Val} {X : Nat → Mem → Prop} {loc : Loc} {m : Mem} (e : Ex) : ∀ (v : Val) (Q : Val → Mem → Prop), pv G loc e = some v → Q v m → wpE C G X e loc Q m := by
  have two : ∀ {a b : Ex} {f : Int → Int → Option Val} {v : Val}, ((asInt (pv G loc a)).bind fun x => (asInt (pv G loc b)).bind fun y => f x y) = some v → ∃ x y, pv G loc a = some (.int x) ∧ pv G loc b = some (.int y) ∧ f x y = some v := fun h => by
    obtain ⟨x, hx, h⟩ := Option.bind_eq_some_iff.mp h
    obtain ⟨y, hy, h⟩ := Option.bind_eq_some_iff.mp h
    exact ⟨x, y, asInt_inv hx, asInt_inv hy, h⟩
  refine Ex.rec (motive_1 := fun e => ∀ (v : Val) (Q : Val → Mem → Prop), pv G loc e = some v → Q v m → wpE C G X e loc Q m) (motive_2 := fun _ => True) ?_ ?_ ?_ ?_ ?_ ?_ ?_ ?_ ?_ ?_ ?_ ?_ ?_ ?_ ?_ ?_ ?_ ?_ ?_ ?_ ?_ ?_ ?_ ?_ ?_ ?_ ?_ ?_ ?_ ?_ trivial (fun _ _ _ _ => trivial) e
  case refine_1 => intro i v Q h hq; exact Exists.intro v ⟨h, hq⟩
  case refine_2 => intro i v Q h hq; cases h; exact hq
  case refine_3 => intro i v Q h hq; cases h; exact hq
  case refine_4 => intro v Q h hq; cases h; exact hq
  case refine_5 => intro i v Q h hq; exact Exists.intro v ⟨h, hq⟩
  case refine_6 =>
    intro op a b iha ihb v Q h hq
    obtain ⟨x, y, hx, hy, h⟩ := two h
    refine iha _ _ hx (ihb _ _ hy ?_)
    cases op <;> first | (exact nomatch (show none = some v from h)) | skip
    · cases h; exact bin_add hq
    · cases h; exact bin_sub hq
  case refine_10 =>
    intro op a b iha ihb v Q h hq
    obtain ⟨x, y, hx, hy, h⟩ := two h
    refine iha _ _ hx (ihb _ _ hy ?_)
    cases op <;> first | (exact nomatch (show none = some v from h)) | skip
    · cases h; exact cmp_eqI hq
    · cases h; exact cmp_neI hq
    · cases h; exact cmp_lt hq
    · cases h; exact cmp_le hq
    · cases h; exact cmp_gt hq
    · cases h; exact cmp_ge hq
  case refine_27 => intro i v Q h hq; cases h; exact hq
  all_goals (intros; rename_i h _; cases h)
theorem e_pv {C : CallT} {G : String → Option Val} {X : Nat → Mem → Prop} {loc : Loc} {m : Mem} (e : Ex) {v : Val} {Q : Val → Mem → Prop} (h : pv G loc e = some v) (hq : Q v m) : wpE C G X e loc Q m := e_pv0 e v Q h hq
noncomputable def pvL (G : String → Option Val) (loc : Loc) : Exs → Option (List Val)
  | .nil => some []
  | .cons e es => (pv G loc e).bind fun v => (pvL G loc es).bind fun vs => some (v :: vs)
theorem l_pv0 {C : CallT} {G : String → Option Val} {X : Nat → Mem → Prop} {loc : Loc} {m : Mem} (es : Exs) : ∀ (vs : List Val) (P : List Val → Mem → Prop), pvL G loc es = some vs → P vs m → wpL C G X es loc P m := by
  refine Exs.rec (motive_1 := fun _ => True) (motive_2 := fun es => ∀ (vs : List Val) (P : List Val → Mem → Prop), pvL G loc es = some vs → P vs m → wpL C G X es loc P m) ?_ ?_ ?_ ?_ ?_ ?_ ?_ ?_ ?_ ?_ ?_ ?_ ?_ ?_ ?_ ?_ ?_ ?_ ?_ ?_ ?_ ?_ ?_ ?_ ?_ ?_ ?_ ?_ ?_ ?_ ?_ ?_ es
  case refine_31 => intro vs P h hp; cases h; exact hp
  case refine_32 =>
    intro e es _ ih vs P h hp
    obtain ⟨v, hv, h⟩ := Option.bind_eq_some_iff.mp h
    obtain ⟨ws, hw, h⟩ := Option.bind_eq_some_iff.mp h
    cases h
    exact e_pv e hv (ih _ _ hw hp)
  all_goals (intros; trivial)
theorem l_pv {C : CallT} {G : String → Option Val} {X : Nat → Mem → Prop} {loc : Loc} {m : Mem} (es : Exs) {vs : List Val} {P : List Val → Mem → Prop} (h : pvL G loc es = some vs) (hp : P vs m) : wpL C G X es loc P m := l_pv0 es vs P h hp

section
variable {C : CallT} {G : String → Option Val} {X : Nat → Mem → Prop} {Y : Nat → Loc → Mem → Prop} {loc : Loc} {Q : Val → Mem → Prop} {m : Mem} {R : Flow → Loc → Mem → Prop} {P : Bool → Mem → Prop}
theorem eqW_of {v w : Val} {d e : Dat} {Q : Bool → Prop} (hd : Reads m d v) (he : Reads m e w) (h1 : okN 8 d = true) (h2 : okN 8 e = true) (h : Q (Dat.beq d e)) (hv : ∃ a, v = .ref a) : eqW v w Q m := by
  exact Or.inr (Or.inr ⟨d, e, hd, he, h1, h2, h⟩)
theorem cmp_neII {v w : Val} {a b : List Int} (hv : IsI m v a) (hw : IsI m w b) (h : P (decide (a ≠ b)) m) : wpCmp .ne v w P m := by
  show eqW v w (fun r => P (!r) m) m
  exact eqW_of hv.reads hw.reads (okN_ints a) (okN_ints b) (by rw [beq_ints]; simpa using h) ⟨_, hv.choose_spec.1⟩
theorem cmp_eqTT {v w : Val} {a b : List (List Int)} (hv : IsT m v a) (hw : IsT m w b) (h : P (decide (a = b)) m) : wpCmp .eq v w P m := by
  show eqW v w (fun r => P r m) m
  exact eqW_of hv.reads hw.reads (okN_tab a) (okN_tab b) (by rw [beq_tab]; exact h) ⟨_, hv.choose_spec.1.choose_spec.1⟩
theorem place_nat {k : Int} {n : Nat} (h0 : 0 ≤ k) (h : k.toNat < n) : place k n = some k.toNat := by unfold place; rw [if_pos h0, if_pos h]
theorem sub_ints {v : Val} {k : Int} {is : List Int} {x : Int} (e : IsI m v is) (h0 : 0 ≤ k) (hx : is[k.toNat]? = some x) (hl : is.length < lid) (h : Q (.int x) m) : subW v (.int k) Q m := by
  have hlt : k.toNat < is.length := (List.getElem?_eq_some_iff.mp hx).1
  exact subW_ e.seq (place_nat h0 (by simpa using hlt)) (by rw [List.getElem?_map, hx]; rfl) (by simpa using hl) h
theorem sub_ll {β : Type} {S : Mem → Val → β → Prop} {v : Val} {k : Int} {t : List β} {x : β} (e : IsLL S m v t) (h0 : 0 ≤ k) (hx : t[k.toNat]? = some x) (hl : t.length < lid) (h : ∀ y, S m y x → Q y m) : subW v (.int k) Q m := by
  have hlt : k.toNat < t.length := (List.getElem?_eq_some_iff.mp hx).1
  obtain ⟨xs, e1, e2⟩ := e
  obtain ⟨y, hy, hs⟩ := e2.get' hx
  exact subW_ e1.seq (place_nat h0 (by rw [e2.length]; exact hlt)) hy (by rw [e2.length]; exact hl) (h y hs)
theorem len_ints {v : Val} {is : List Int} (e : IsI m v is) (hl : is.length < lid) (h : Q (.int is.length) m) : wpB1 .len v Q m := b1_len e.seq (by simpa using hl) (by simpa using h)
theorem len_ll {β : Type} {S : Mem → Val → β → Prop} {v : Val} {t : List β} (e : IsLL S m v t) (hl : t.length < lid) (h : Q (.int t.length) m) : wpB1 .len v Q m := by
  obtain ⟨xs, e1, e2⟩ := e
  exact b1_len e1.seq (by rw [e2.length]; exact hl) (by rw [e2.length]; exact h)
theorem isList_ints {v : Val} {is : List Int} (e : IsI m v is) (h : Q (.bool true) m) : optQ Q m (isA m v .list) := optQ_ e.list h
theorem isList_ll {β : Type} {S : Mem → Val → β → Prop} {v : Val} {t : List β} (e : IsLL S m v t) (h : Q (.bool true) m) : optQ Q m (isA m v .list) := by
  obtain ⟨xs, e1, e2⟩ := e; exact optQ_ e1.list h

theorem optQ_t {o : Option Bool} (e : o = some true) (h : Q (.bool true) m) : optQ Q m o := optQ_ e h
theorem optQ_f {o : Option Bool} (e : o = some false) (h : Q (.bool false) m) : optQ Q m o := optQ_ e h
theorem ifQ_t {T E : Mem → Prop} {b : Bool} (hb : b = true) (h : T m) : ifQ T E b m := by subst hb; exact ifQ_true h
theorem ifQ_f {T E : Mem → Prop} {b : Bool} (hb : b = false) (h : E m) : ifQ T E b m := by subst hb; exact ifQ_false h
theorem fm (a : Int) {b : Int} (h : 0 < b) : 0 ≤ a.fmod b ∧ a.fmod b < b := ⟨Int.fmod_nonneg_of_pos a h, Int.fmod_lt_of_pos a h⟩
theorem Qb {b b' : Bool} (h : Q (.bool b') m) (e : b = b') : Q (.bool b) m := by subst e; exact h
theorem Qi {b b' : Int} (h : Q (.int b') m) (e : b = b') : Q (.int b) m := by subst e; exact h
theorem comp_inv {f : Val → (List Val → Mem → Prop) → Mem → Prop} {ok : Mem → Prop} {xs : List Val} {Q' : List Val → Mem → Prop} (I : Nat → List Val → Mem → Prop) (h0 : I 0 [] m)
    (step : ∀ i x acc m, xs[i]? = some x → I i acc m → ∀ P : List Val → Mem → Prop, (∀ vs m', ok m' ∧ I (i + 1) (acc ++ vs) m' → P vs m') → f x P m)
    (done : ∀ acc m, I xs.length acc m → Q' acc m) : compLoop f ok xs [] Q' m := by
  suffices h : ∀ (acc : List Val) (m : Mem) (I : Nat → List Val → Mem → Prop), I 0 acc m → (∀ i x acc m, xs[i]? = some x → I i acc m → ∀ P : List Val → Mem → Prop, (∀ vs m', ok m' ∧ I (i + 1) (acc ++ vs) m' → P vs m') → f x P m) → (∀ acc m, I xs.length acc m → Q' acc m) → compLoop f ok xs acc Q' m from h [] m I h0 step done
  clear step done h0 I
  induction xs with
  | nil => intro acc m I h0 _ done; exact done _ _ h0
  | cons y r ih =>
    intro acc m I h0 step done
    exact step 0 y _ _ rfl h0 _ fun vs m' q => ⟨q.1, ih _ m' (fun i => I (i + 1)) q.2 (fun i x acc m e hI => step (i + 1) x acc m e hI) done⟩

noncomputable abbrev cF (C : CallT) (G : String → Option Val) (X : Nat → Mem → Prop) (elt : Ex) (t : Tg) (cond : Exs) (loc : Loc) : Val → (List Val → Mem → Prop) → Mem → Prop := compF t loc (fun l P m => wpBs C G X true cond l P m) (fun l P m => wpE C G X elt l P m)
theorem e_comp {elt : Ex} {t : Tg} {k : ItK} {src : Ex} {cond : Exs} (h : wpE C G X src loc (fun v m1 => itemsW k v (fun xs => compLoop (cF C G X elt t cond loc) (stands k v m1) xs [] (fun ys m' => freshL m' ys Q) m1) m1) m) :
    wpE C G X (.comp elt t k src cond) loc Q m := h
theorem compF_one {elt : Ex} {i : Nat} {x : Val} {P : List Val → Mem → Prop} (h : wpE C G X elt (setV loc i x) (fun y m3 => P [y] m3) m) : cF C G X elt (.one i) .nil loc x P m := Exists.intro _ ⟨rfl, ifQ_true h⟩
theorem comp_pure {elt : Ex} {i : Nat} {xs : List Val} {ok : Mem → Prop} {Q' : List Val → Mem → Prop} {g : Val → Val} (hok : ok m)
    (hstep : ∀ x ∈ xs, ∀ P : Val → Mem → Prop, P (g x) m → wpE C G X elt (setV loc i x) P m) (h : Q' (xs.map g) m) : compLoop (cF C G X elt (.one i) .nil loc) ok xs [] Q' m := by
  refine comp_inv (fun k acc m' => m' = m ∧ acc = (xs.take k).map g) ⟨rfl, by simp⟩ (fun k x acc m' hx hI P hP => ?_) fun acc m' hI => ?_
  · obtain ⟨rfl, rfl⟩ := hI
    refine compF_one (hstep x (List.mem_of_getElem? hx) _ (hP _ _ ⟨hok, rfl, ?_⟩))
    rw [List.take_add_one, hx]; simp
  · obtain ⟨rfl, rfl⟩ := hI
    rw [List.take_length]; exact h
noncomputable abbrev bF (C : CallT) (G : String → Option Val) (t : Tg) (b : Sts) (Y : Nat → Loc → Mem → Prop) : Val → (Flow → Loc → Mem → Prop) → Loc → Mem → Prop := bodyF t (fun Q' l m' => wpSs C G b Q' Y l m')
theorem bodyF_one {i : Nat} {b : Sts} {x : Val} {P : Flow → Loc → Mem → Prop} (h : wpSs C G b P Y (setV loc i x) m) : bF C G (.one i) b Y x P loc m := Exists.intro _ ⟨rfl, h⟩
end
theorem range_len (n : Int) : (rangeV n).length = n.toNat := by simp [rangeV]
theorem range_get {n : Int} {i : Nat} {x : Val} (h : (rangeV n)[i]? = some x) : i < n.toNat ∧ x = .int i := by
  unfold rangeV at h
  rw [List.getElem?_map] at h
  cases q : (List.range n.toNat)[i]? with
  | none => rw [q] at h; cases h
  | some j =>
    rw [q] at h
    obtain ⟨hl, rfl⟩ := List.getElem?_eq_some_iff.mp q
    simp at hl h
    exact ⟨by walk_at "o", h.symm⟩

end TD

namespace TD
open PySem PySem.W PyProof.Rows PySem.Calls PySem.Spec

noncomputable def chkRec (p : Program) (FT : Nat → Option Fn) (ids : List Nat) (f : Nat) : Bool := vSome (FT f) fun fn => !fn.own &&
  vSome ((recsOf p).find? fun d => d.name == Str.ofString fn.name) fun d => chkFn FT ids fn (docDef d.name d.params d.body d.scope .none .none .none)
noncomputable def chkMeth (p : Program) (loose : List Str) (FT : Nat → Option Fn) (ids : List Nat) (f : Nat) : Bool := vSome (FT f) fun fn => fn.own &&
  vSome ((plainsOf p loose).find? fun c => c.name == Str.ofString "Estate") fun c => vSome (c.meths.find? fun m => m.name == Str.ofString fn.name) fun m => chkFn FT ids fn (methDef m.name (c.name ++ "." ++ m.name) m.params m.body m.scope .none .none .none)
noncomputable def isI (d : PyData) (i : Int) : Bool := match d with
  | .int j => j == i
  | _ => false
noncomputable def chkVal (p : Program) (x : String) (i : Int) : Bool := vSome (valOf p (Str.ofString x)) fun d => isI d i
noncomputable def chkFree (p : Program) (loose : List Str) (x : Str) : Bool :=
  !startupNames.contains x && (!loose.contains x && (!((recsOf p).map (·.name)).contains x && (!((litsOf p).map (·.1)).contains x && !((clssOf p loose).map (·.name)).contains x)))

section
variable {p : Program} {loose : List Str} {mean : ExcName → Option Value} {W : Cx}
noncomputable def chkEst (p : Program) (loose : List Str) : Bool := ((plainsOf p loose).find? fun c => c.name == Str.ofString "Estate").isSome
theorem est_of {mg : Str → Option Value} {h : Heap} (TE : TopE p loose mg h) (hq : chkEst p loose = true) : ∃ c C N mN, (plainsOf p loose).find? (fun c => c.name == Str.ofString "Estate") = some c ∧ EstAt mg h C N mN ∧ PlainAt h c.withCmp C N mN := by
  obtain ⟨c, hc⟩ := Option.isSome_iff_exists.mp hq
  have hn : c.name = Str.ofString "Estate" := beq_iff_eq.mp (List.find?_some (p := fun c : ClsRec => c.name == Str.ofString "Estate") hc)
  obtain ⟨C, N, mN, h1, P⟩ := TE c (List.mem_of_find?_eq_some hc)
  exact ⟨c, C, N, mN, hc, ⟨hn ▸ h1, P.cls⟩, P⟩
theorem defs_ofO {FT : Nat → Option Fn} {ids ids2 : List Nat} (T : Top p loose mean W.mg W.mb W.base) (TE : TopE p loose W.mg W.base) (hq : chkEst p loose = true) (h : ids.all (fun f => (cond (ids2.contains f) (chkMeth p loose FT ids f) (chkRec p FT ids f))) = true) : Defs W FT ids := fun f hf fn hfn => by
  have h1 := List.all_eq_true.mp h f hf
  cases hi : ids2.contains f with
  | false =>
    rw [hi] at h1
    obtain ⟨fn', e, h2⟩ := vSome_inv h1
    obtain rfl : fn' = fn := Option.some.inj (e.symm.trans hfn)
    obtain ⟨h0, h2⟩ := and2 h2
    have h0 := not_t h0
    obtain ⟨d, hd, h3⟩ := vSome_inv h2
    have hn : d.name = Str.ofString fn'.name := beq_iff_eq.mp (List.find?_some (p := fun d : DefRec => d.name == Str.ofString fn'.name) hd)
    obtain ⟨a, o, pm, code, doc, h4, h5, h6, h7⟩ := T.fn d (List.mem_of_find?_eq_some hd)
    exact ⟨a, o, _, ⟨fun _ => hn ▸ h4, fun q => nb (h0.symm.trans q)⟩, ⟨h5, h6, rfl, rfl, rfl, rfl, h7⟩, h3⟩
  | true =>
    rw [hi] at h1
    obtain ⟨fn', e, h2⟩ := vSome_inv h1
    obtain rfl : fn' = fn := Option.some.inj (e.symm.trans hfn)
    obtain ⟨h0, h2⟩ := and2 h2
    obtain ⟨c, hc, h2⟩ := vSome_inv h2
    obtain ⟨m, hm, h3⟩ := vSome_inv h2
    obtain ⟨c', C, N, mN, hc', K, P⟩ := est_of TE hq
    obtain rfl : c = c' := Option.some.inj (hc.symm.trans hc')
    have hn : m.name = Str.ofString fn'.name := beq_iff_eq.mp (List.find?_some (p := fun m : MethRec => m.name == Str.ofString fn'.name) hm)
    obtain ⟨a, o, pm, cd, doc, h4, h5, h6, h7, h8⟩ := P.meths m (List.mem_of_find?_eq_some hm)
    exact ⟨a, o, _, ⟨fun q => nb (q.symm.trans h0), fun _ => ⟨h6, C, N, mN, K, hn ▸ h4⟩⟩, ⟨h5, h7, rfl, rfl, rfl, rfl, h8⟩, h3⟩
theorem glob_of (T : Top p loose mean W.mg W.mb W.base) {x : String} {i : Int} (h : chkVal p x i = true) : ∃ t, W.mg (Str.ofString x) = some (.int i t) := by
  obtain ⟨d, hd, h⟩ := vSome_inv h
  obtain ⟨v, hv, r⟩ := T.const _ _ hd
  cases d <;> first | exact nb h | skip
  obtain rfl := beq_iff_eq.mp h
  have r := r W.base
  cases r with
  | int _ t => exact ⟨t, hv⟩
theorem nc {α : Type} [BEq α] [LawfulBEq α] {l : List α} {x : α} (h : (!l.contains x) = true) : x ∉ l := fun q => by rw [List.contains_iff_mem.mpr q] at h; exact nb h
theorem miss_of (T : Top p loose mean W.mg W.mb W.base) {x : Str} (h : chkFree p loose x = true) : W.mg x = none := by
  obtain ⟨h1, h⟩ := and2 h
  obtain ⟨h2, h⟩ := and2 h
  obtain ⟨h3, h⟩ := and2 h
  obtain ⟨h4, h⟩ := and2 h
  exact T.free x (nc h1) (nc h2) (nc h3) (nc h4) (nc h)

theorem cxOk_of {gs : List (String × Int)} (T : Top p loose mean W.mg W.mb W.base) (hm : biNames.all (fun x => chkFree p loose (Str.ofString x)) = true) (hg : gs.all (fun q => chkVal p q.1 q.2) = true) : CxOk W (globOf gs) where
  g := T.g
  b := T.b
  nolimit := T.nolimit
  bi := T.builtins
  bmiss := fun x hx => miss_of T (List.all_eq_true.mp hm x hx)
  gl := fun x v h => by
    unfold globOf at h
    cases q : gs.lookup x with
    | none => rw [q] at h; cases h
    | some i =>
      rw [q] at h; cases h
      have hp : (x, i) ∈ gs := by
        clear hg
        induction gs with
        | nil => cases q
        | cons p r ih =>
          obtain ⟨y, j⟩ := p
          rw [List.lookup_cons] at q
          cases e : x == y with
          | true => rw [e] at q; cases q; rw [beq_iff_eq] at e; subst e; exact .head _
          | false => rw [e] at q; exact .tail _ (ih q)
      obtain ⟨t, ht⟩ := glob_of T (List.all_eq_true.mp hg _ hp)
      exact ⟨i, t, rfl, ht⟩
end

theorem ints_rel {W : Cx} {h : Heap} : ∀ {vs : List Value} {ns : List Int}, IntsAre vs ns → VRels W h (ns.map .int) vs := by
  intro vs ns e
  induction e with
  | nil => rfl
  | cons n t _ ih => exact ⟨_, _, rfl, ⟨t, rfl⟩, ih⟩

theorem Room.caller {n : Nat} (h : n ≤ 100) : Room n callerA := by
  refine ⟨rfl, ?_, ?_⟩
  · show 4 + 100 + 20 * n < 9900
    walk_at "o"
  · show 1 + 300 + 5 + 5 * n < 1000
    walk_at "o"

end TD

namespace TD
open PySem PyProof.Rows

structure XInv (W : Cx) (k : Nat) (a : Addr) (mem : Mem) (h : Heap) : Prop where
  cls : ClsOk W
  rng : 7 ≤ k ∧ k ≤ 14
  none' : mem a = none
  obj : ∃ o vs, h.get? a = some o ∧ o.cls = clsV W k ∧ o.data = .fields vs ∧ vs[2]? = some .none
theorem XInv.step {W : Cx} {k : Nat} {a : Addr} {mem mem' : Mem} {h h' : Heap} {D : Addr → Prop} (X : XInv W k a mem h) (S : Step D mem h mem' h') (hD : ¬ D a) : XInv W k a mem' h' := by
  obtain ⟨o, vs, e, hc, hd, h2⟩ := X.obj
  obtain ⟨o', e', al⟩ := S.keep a o e X.none' hD
  have : o' = o := al.eq fun es ep q => by rw [hd] at q; cases q
  subst this
  exact ⟨X.cls, X.rng, S.none' e X.none', o', vs, e', hc, hd, h2⟩

noncomputable def qcls (W : Cx) (c : Nat) : Value := if c = 5 then .type "ValueError" else clsV W c
noncomputable def qname (c : Nat) : String := if c = 5 then "ValueError" else clsName c
noncomputable def okC (c : Nat) : Bool := c == 5 || (Nat.ble 7 c && Nat.ble c 14)
theorem okC_spec {c : Nat} (h : okC c = true) : c = 5 ∨ (c ≠ 5 ∧ 7 ≤ c ∧ c ≤ 14) := by
  unfold okC at h
  simp only [Bool.or_eq_true, Bool.and_eq_true, beq_iff_eq, Nat.ble_eq] at h
  walk_at "o"
theorem cls_ne0 : ((List.range 15).all fun c => (List.range 15).all fun k => !(Nat.ble 7 c && (Nat.ble 7 k && c != k)) || Str.ofString (clsName c) != Str.ofString (clsName k)) = true := by decide +kernel
theorem cls_ne (c : Nat) (hc : c < 15) (k : Nat) (hk : k < 15) (h7 : 7 ≤ c) (h7' : 7 ≤ k) (hn : c ≠ k) : Str.ofString (clsName c) ≠ Str.ofString (clsName k) := by
  have := List.all_eq_true.mp (List.all_eq_true.mp cls_ne0 c (List.mem_range.mpr hc)) k (List.mem_range.mpr hk)
  simp [Nat.ble_eq.mpr h7, Nat.ble_eq.mpr h7', hn] at this
  exact this
noncomputable def mroLen (o : Obj) : Nat := match o.data with
  | .cls cd => cd.mro.length
  | _ => 0
theorem XAt.ne {h : Heap} {D C C' : Addr} (x : XAt h D C) (y : XAt h D C') : C ≠ D := fun q => by
  obtain ⟨nm, q1, N, bs, hdct, sn, sub, ab, col, dd, k0, k1, k2, k3, k5, mD, hD, _⟩ := x.d
  obtain ⟨nm', q', N', bs', hdct', sn', sub', ab', col', dd', k0', k1', k2', k3', k5', mN, hC, _⟩ := x.c
  rw [q, hD] at hC
  have := congrArg mroLen (Option.some.inj hC)
  simp [mroLen, bmV] at this
theorem XInv.look {W : Cx} {k : Nat} {a : Addr} {mem : Mem} {h : Heap} (X : XInv W k a mem h) (hst : W.base.StaysIn h) :
    ∃ D C, XObj h D C a ∧ ∀ c, okC c = true → ClsV h (qcls W c) ∧ (Value.ref C :: .ref D :: bmV).contains (qcls W c) = excIs k c := by
  obtain ⟨D, hD, hC⟩ := X.cls
  obtain ⟨C, hm, xa, hn⟩ := hC k X.rng.1 X.rng.2
  have hcv : clsV W k = .ref C := by unfold clsV; rw [hm]; rfl
  obtain ⟨o, vs, e, hc, hd, _⟩ := X.obj
  refine ⟨D, C, ⟨xa.keeps hst, o, e, hc.trans hcv⟩, fun c hok => ?_⟩
  rcases okC_spec hok with rfl | ⟨h5, h7, h14⟩
  · refine ⟨.inl rfl, ?_⟩
    show (Value.ref C :: .ref D :: bmV).contains (.type "ValueError") = _
    rw [has_type (b := true) (by decide +kernel)]
    unfold excIs; simp
  · obtain ⟨C', hm', xa', hn'⟩ := hC c h7 h14
    have hq : qcls W c = .ref C' := by unfold qcls clsV; rw [if_neg h5, hm']; rfl
    rw [hq]
    refine ⟨.inr ⟨C', _, rfl, xa'.c.keeps hst⟩, ?_⟩
    have hD' : (Value.ref C' == .ref D) = false := by
      rw [beq_eq_false_iff_ne]; intro q; injection q with q; exact xa'.ne xa q
    have hb : bmV.contains (.ref C') = false := rfl
    rw [List.contains_cons, List.contains_cons, hD', hb, Bool.or_false, Bool.or_false]
    unfold excIs
    by_cases hck : c = k
    · subst hck
      rw [hm] at hm'; cases hm'
      simp
    · have : (Value.ref C' == .ref C) = false := by
        rw [beq_eq_false_iff_ne]; intro q; injection q with q
        exact (hn'.ne hn (cls_ne c (by walk_at "o") k (by have := X.rng; walk_at "o") h7 X.rng.1 hck)) q
      rw [this]
      have h6 : c ≠ 6 := by walk_at "o"
      rw [beq_false_of_ne hck, beq_false_of_ne h5, beq_false_of_ne h6]; rfl

noncomputable def chkNm (vis : List (Nat × Str)) (sc : Scope) (i : Nat) (e : Expr) : Bool := vName e fun x => vis.lookup i == some x && (isLoc sc x && okName x)
noncomputable def clsRef (sc : Scope) (c : Cls) (e : Expr) : Bool := vName e fun y => okC c.code && gName sc (qname c.code) y
noncomputable def chkIsc (vis : List (Nat × Str)) (sc : Scope) (i : Nat) (c : Cls) (e : Expr) : Bool := vCallN e fun x es => gName sc "isinstance" x && vTwo es fun e1 e2 => chkNm vis sc i e1 && clsRef sc c e2
noncomputable def chkCs (vis : List (Nat × Str)) (sc : Scope) (i : Nat) : List Cls → List Expr → Bool
  | [], l => l.isEmpty
  | c :: cs, l => match l with | e :: es => chkIsc vis sc i c e && chkCs vis sc i cs es | [] => false
noncomputable def chkWs : List String → List Expr → Bool
  | [], l => l.isEmpty
  | w :: ws, l => match l with | e :: es => vConst e (fun c => c == .str (Str.ofString w)) && chkWs ws es | [] => false
noncomputable def vFive {α : Type} (xs : List α) (k : α → α → α → α → α → Bool) : Bool := match xs with | [a, b, c, d, e] => k a b c d e | _ => false
theorem vFive_inv {α : Type} {xs : List α} {k : α → α → α → α → α → Bool} (h : vFive xs k = true) : ∃ a b c d e, xs = [a, b, c, d, e] ∧ k a b c d e = true := by
  unfold vFive at h
  split at h
  · exact ⟨_, _, _, _, _, rfl, h⟩
  · cases h
section chk
variable (vis : List (Nat × Str)) (sc : Scope) (i j q : Nat)
noncomputable def chkP1 (cs : List Cls) (st : Stmt) : Bool := vAsg st fun t v => vName t (fun x => chkStore vis sc j x) && vList v fun xs => chkCs vis sc i cs xs
noncomputable def chkP2 (cs : List Cls) (st : Stmt) : Bool := vAsg st fun t v => vName t (fun x => chkStore vis sc j x) && vBin v fun l o r => (o == .Add && chkNm vis sc j l) && vList r fun xs => chkCs vis sc i cs xs
noncomputable def chkPT (e : Expr) : Bool := vCmp e fun l os rs => vOne os (fun o => o == .NotEq) && (vOne rs (fun r => vConst r fun c => c == .int 1) && vCallN l fun x es => gName sc "len" x && vOne es fun e => chkE (fun _ => none) [] vis sc (.comp (.nm q) (.one q) .plain (.nm j) (.cons (.nm q) .nil)) e)
noncomputable def chkP4 (st : Stmt) : Bool := vIf st fun a _ o => o.isEmpty && vBoolOp a fun op vs => op == .Or && vTwo vs fun v1 v2 => vUn v1 (fun o x => o == .Not && chkIsc vis sc i .ValueError x) && chkPT vis sc j q v2
noncomputable def chkP5 (ws : List String) (st : Stmt) : Bool := vRet st fun v => vSub v fun a b => vList a (fun xs => chkWs ws xs) && vMeth b "index" fun o es => chkNm vis sc j o && vOne es fun e => vConst e fun c => c == .bool true
noncomputable def chkPick (cs ds es : List Cls) (ws : List String) (l : List Stmt) : Bool := vFive l fun s1 s2 s3 s4 s5 => chkP1 vis sc i j cs s1 && (chkP2 vis sc i j ds s2 && (chkP2 vis sc i j es s3 && (chkP4 vis sc i j q s4 && chkP5 vis sc j ws s5)))
end chk

noncomputable def QP (W : Cx) (mem : Mem) (s : Shared) (b : Bool) (v : Value) (s' : Shared) : Prop := v = .bool b ∧ MRel W mem s' ∧ Step NoD mem s.heap mem s'.heap
theorem QP.trans {W : Cx} {mem : Mem} {s s' s2 : Shared} {b : Bool} {v : Value} (S : Step NoD mem s.heap mem s'.heap) (h : QP W mem s' b v s2) : QP W mem s b v s2 := ⟨h.1, h.2.1, S.trans h.2.2⟩

section
variable {W : Cx} {G : String → Option Val} {A : Around} {env : Env} {vis : List (Nat × Str)} {sc : Scope} {loc : Loc} {mem : Mem} {s : Shared} {E : Value → Shared → Prop} {k i : Nat} {a : Addr}
theorem cls_sound (ok : CxOk W G) (hsc : ScOk sc env) (R : Rel W env vis loc mem s) (hC : ClsOk W) {c : Cls} {e : Expr} (h : clsRef sc c e = true) {P : Value → Shared → Prop} (hq : P (qcls W c.code) s) : wpAny (model W.prog W.w) A (eval e env) P E s := by
  obtain ⟨y, py, rfl, h⟩ := vName_inv h
  obtain ⟨h1, h2⟩ := and2 h
  rcases okC_spec h1 with h5 | ⟨h5, h7, h14⟩
  · rw [h5] at h2 hq
    exact builtin_sound R ok hsc h2 (by repeat (first | exact List.Mem.head _ | refine List.Mem.tail _ ?_)) Boot.«ValueError» hq
  · obtain ⟨D, hD, hC⟩ := hC
    obtain ⟨C, hm, _⟩ := hC c.code h7 h14
    have hn : qname c.code = clsName c.code := by unfold qname; rw [if_neg h5]
    have hv : qcls W c.code = .ref C := by unfold qcls clsV; rw [if_neg h5, hm]; rfl
    rw [hn] at h2
    rw [hv] at hq
    exact global_sound R ok hsc h2 hm hq
theorem nm_sound (hsc : ScOk sc env) (R : Rel W env vis loc mem s) (hi : getV loc i = some (.ref a)) {e : Expr} (h : chkNm vis sc i e = true) {P : Value → Shared → Prop} (hq : ∀ s', MRel W mem s' → Step NoD mem s.heap mem s'.heap → P (.ref a) s') : wpAny (model W.prog W.w) A (eval e env) P E s := by
  obtain ⟨x, px, rfl, h⟩ := vName_inv h
  obtain ⟨h1, h⟩ := and2 h
  obtain ⟨h2, h3⟩ := and2 h
  refine wpAny_mono (name_sound (Q := fun v m => v = .ref a ∧ m = mem) R hsc (beq_iff_eq.mp h1) h2 h3 hi ⟨rfl, rfl⟩) (fun y s' q => ?_) fun _ _ z => z
  obtain ⟨v, m', hr, M, S, rfl, rfl⟩ := q
  obtain rfl := hr.ref
  exact hq s' M S
theorem nm_ns {e : Expr} (h : chkNm vis sc i e = true) : ∀ a q, e ≠ .Starred a q := fun a q z => by obtain ⟨y, py, rfl, _⟩ := vName_inv h; cases z
theorem cls_ns {c : Cls} {e : Expr} (h : clsRef sc c e = true) : ∀ a q, e ≠ .Starred a q := fun a q z => by obtain ⟨y, py, rfl, _⟩ := vName_inv h; cases z
theorem exc_code (X : XInv W k a mem s.heap) (M : MRel W mem s) {c : Cls} (hc : okC c.code = true) : wpAny (model W.prog W.w) A (call (.builtin "isinstance") [.ref a, qcls W c.code]) (QP W mem s (excIs k c.code)) E s := by
  obtain ⟨D, C, xo, hl⟩ := X.look M.stays
  obtain ⟨h1, h2⟩ := hl c.code hc
  refine exc_isinst xo h1 fun tk => ?_
  rw [h2]
  exact ⟨rfl, ⟨M.stays, M.mems, M.gens, M.os⟩, .refl⟩
theorem iscx_ns {c : Cls} {e : Expr} (h : chkIsc vis sc i c e = true) : ∀ a q, e ≠ .Starred a q := fun a q z => by obtain ⟨x, px, es, p, rfl, _⟩ := vCallN_inv h; cases z
theorem iscx_sound (ok : CxOk W G) (hsc : ScOk sc env) (hi : getV loc i = some (.ref a)) {c : Cls} {ex : Expr} (h : chkIsc vis sc i c ex = true) (R : Rel W env vis loc mem s) (X : XInv W k a mem s.heap) :
    wpAny (model W.prog W.w) A (eval ex env) (QP W mem s (excIs k c.code)) E s := by
  obtain ⟨x, px, es, p, rfl, h⟩ := vCallN_inv h
  obtain ⟨h1, h⟩ := and2 h
  obtain ⟨e1, e2, rfl, h⟩ := vTwo_inv h
  obtain ⟨h2, h3⟩ := and2 h
  refine eval_call (builtin_sound R ok hsc h1 (by repeat (first | exact List.Mem.head _ | refine List.Mem.tail _ ?_)) Boot.«isinstance» (call2b (nm_ns h2) (cls_ns h3) ?_))
  refine nm_sound hsc R hi h2 fun s1 M1 S1 => ?_
  have R1 := R.step M1 S1
  refine cls_sound ok hsc R1 X.cls h3 ?_
  have hok : okC c.code = true := by obtain ⟨y, py, e1', hh⟩ := vName_inv h3; exact (and2 hh).1
  exact wpAny_mono (exc_code (X.step S1 id) M1 hok) (fun _ _ q => QP.trans S1 q) fun _ _ z => z
theorem cs_sound (ok : CxOk W G) (hsc : ScOk sc env) (hi : getV loc i = some (.ref a)) {p : Pos} : ∀ {cs : List Cls} {xs : List Expr} {s : Shared}, chkCs vis sc i cs xs = true → Rel W env vis loc mem s → XInv W k a mem s.heap →
    wpAny (model W.prog W.w) A (spliced (backTo p (starEach xs env))) (fun vs s' => vs = (pickB k cs).map .bool ∧ MRel W mem s' ∧ Step NoD mem s.heap mem s'.heap) E s
  | [], xs, s, h, R, X => by
    rw [List.isEmpty_iff.mp h]
    exact Calls.spliced_nil ⟨rfl, R.m, .refl⟩
  | c :: cs, [], s, h, R, X => nb h
  | c :: cs, e :: es, s, h, R, X => by
    obtain ⟨h1, h2⟩ := and2 h
    rw [back_cons (iscx_ns h1)]
    refine Calls.spliced_cons (wpAny_mono (iscx_sound ok hsc hi h1 R X) (fun v s1 q => ?_) fun _ _ z => z)
    obtain ⟨rfl, M1, S1⟩ := q
    refine wpAny_mono (cs_sound ok hsc hi h2 (R.step M1 S1) (X.step S1 id)) (fun vs s2 q => ?_) fun _ _ z => z
    obtain ⟨rfl, M2, S2⟩ := q
    exact ⟨rfl, M2, S1.trans S2⟩
theorem ws_sound {p : Pos} : ∀ {ws : List String} {xs : List Expr} {s : Shared}, chkWs ws xs = true → MRel W mem s →
    wpAny (model W.prog W.w) A (spliced (backTo p (starEach xs env))) (fun vs s' => VRels W s'.heap (ws.map fun w => .str (Str.ofString w)) vs ∧ MRel W mem s' ∧ Step NoD mem s.heap mem s'.heap) E s
  | [], xs, s, h, M => by
    rw [List.isEmpty_iff.mp h]
    exact Calls.spliced_nil ⟨.nil, M, .refl⟩
  | w :: ws, [], s, h, M => nb h
  | w :: ws, e :: es, s, h, M => by
    obtain ⟨h1, h2⟩ := and2 h
    obtain ⟨c, n, pc, rfl, h1⟩ := vConst_inv h1
    obtain rfl := beq_iff_eq.mp h1
    rw [back_cons (fun _ _ z => by cases z)]
    refine Calls.spliced_cons (wpAny_Constant_str (k := n) (pos := pc) ?_)
    refine wpAny_mono (ws_sound h2 (M.toks _)) (fun vs s2 q => ?_) fun _ _ z => z
    obtain ⟨r, M2, S2⟩ := q
    exact ⟨.cons .mkStr r, M2, S2⟩
theorem bools_vr {h : Heap} : ∀ {bs : List Bool}, VRels W h (bs.map .bool) (bs.map .bool)
  | [] => .nil
  | b :: bs => .cons .mkBool bools_vr
theorem csl_sound (ok : CxOk W G) (hsc : ScOk sc env) (hi : getV loc i = some (.ref a)) {cs : List Cls} {e : Expr} (hl : cs.length < lid) (h : vList e (fun xs => chkCs vis sc i cs xs) = true) (R : Rel W env vis loc mem s) (X : XInv W k a mem s.heap) :
    wpAny (model W.prog W.w) A (eval e env) (PM W mem s fun v m => ∃ b, v = .ref b ∧ mem b = none ∧ m = mem.set b (.list ((pickB k cs).map .bool))) E s := by
  obtain ⟨xs, p, rfl, h⟩ := vList_inv h
  refine List_ (wpAny_mono (cs_sound ok hsc hi h R X) (fun vs s1 q => ?_) fun _ _ x => x)
  obtain ⟨rfl, M1, S1⟩ := q
  refine pmTrans S1 (newList_sound (R.step M1 S1) bools_vr ⟨by unfold pickB; rw [List.length_map, List.length_map]; exact hl, fun b hb => ⟨b, rfl, hb, rfl⟩⟩)
end
end TD

namespace TD
open PySem PyProof.Rows

section
variable {W : Cx} {G : String → Option Val} {A : Around} {env : Env} {vis : List (Nat × Str)} {sc : Scope} {loc : Loc} {mem : Mem} {s : Shared} {E : Value → Shared → Prop} {k i j q : Nat} {a : Addr}
theorem XInv.han (X : XInv W k a mem s.heap) (hA : A.handled = some (.ref a)) : Han A mem s.heap := by
  obtain ⟨o, vs, e, _, hd, h2⟩ := X.obj
  exact .inr ⟨a, o, vs, hA, e, hd, h2, X.none'⟩
theorem eqGives_bool (c d : Bool) : PySem.MeetsSeq.EqGives (.bool c) (.bool d) (c == d) := fun _ _ _ _ _ _ h => by
  unfold eqBool
  show wpAny _ _ (if (Value.bool c == Value.bool d) = true then _ else _) _ _ _
  by_cases hab : (Value.bool c == Value.bool d) = true
  · rw [if_pos hab]
    have e : c = d := by have := eq_of_beq hab; injection this
    subst e
    exact wpAny_bind (wpAny_rule (wpAny_pure (by simpa using h)))
  · rw [if_neg hab]
    exact wpAny_bind (eq_bool (wpAny_truthy_bool h))
theorem filt_loop {B : Loc → (Bool → Mem → Prop) → Mem → Prop} {V : Loc → (Val → Mem → Prop) → Mem → Prop} (hB : ∀ c P, P c mem → B (setV loc q (.bool c)) P mem) (hV : ∀ c P, P (.bool c) mem → V (setV loc q (.bool c)) P mem) {okk : Mem → Prop} (ho : okk mem) {QL : List Val → Mem → Prop} :
    ∀ (bs : List Bool) (acc : List Val), QL (acc ++ (bs.filter id).map .bool) mem → compLoop (compF (.one q) loc B V) okk (bs.map .bool) acc QL mem
  | [], acc, h => by
    show QL acc mem
    simpa using h
  | c :: bs, acc, h => by
    refine ⟨_, rfl, hB c _ ?_⟩
    cases c with
    | true => exact ⟨fun _ => hV true _ ⟨ho, filt_loop hB hV ho bs _ (by simpa using h)⟩, fun e => by cases e⟩
    | false => exact ⟨(fun e => by cases e), fun _ => ⟨ho, filt_loop hB hV ho bs _ (by simpa using h)⟩⟩
theorem filt_sound (ok : CxOk W G) (hsc : ScOk sc env) (hv : VisOk vis) (R : Rel W env vis loc mem s) (H : Han A mem s.heap) {b : Addr} {bs : List Bool} (hq : q < loc.length) (hj : getV loc j = some (.ref b)) (hb : mem b = some (.list (bs.map .bool))) (hl : bs.length < lid) {e : Expr}
    (hc : chkE (fun _ => none) [] vis sc (.comp (.nm q) (.one q) .plain (.nm j) (.cons (.nm q) .nil)) e = true) :
    wpAny (model W.prog W.w) A (eval e env) (PM W mem s fun v m => ∃ d, v = .ref d ∧ mem d = none ∧ m = mem.set d (.list ((bs.filter id).map .bool))) E s := by
  obtain ⟨elt', target, iter, ifs, csc, p, new, e1, rfl, hT, h1, h2, h3, h4, h5, h6⟩ := inv_comp hc
  have hi := (chkScope_spec h1).2.2.2.2.2.2
  have hv' := newVis_ok hT hv hi
  obtain ⟨xq, pq, rfl, l1, l2, l3⟩ := inv_nm h5
  obtain ⟨ei, r, rfl, h7, h8⟩ := inv_cons h6
  obtain rfl := inv_nil h8
  obtain ⟨xi, pi, rfl, i1, i2, i3⟩ := inv_nm h7
  have hns := chk_ns h4
  obtain ⟨xj, pj, rfl, j1, j2, j3⟩ := inv_nm h4
  show wpAny _ A (comprehension (.ListComp (.Name xq pq) [⟨target, iter, [.Name xi pi], 0⟩] csc p) csc env (firstIterPos [⟨target, iter, [.Name xi pi], 0⟩] p) (newList []) false (eval iter env) none) _ _ s
  refine wpAny_comprehension_free (g := ⟨target, iter, [.Name xi pi], 0⟩) (gs := []) rfl (fun x => folded_notSet h2 x) (closure_eq (free_cells R hsc h1)) (chkScope_spec h1).1 (hnames_of h1) ?_
  have hbl : (bs.map Val.bool).length < lid := by rw [List.length_map]; exact hl
  have hseq : seq mem (.ref b) = some (bs.map .bool) := by show itemsOf (mem b) = _; rw [hb]; rfl
  refine src_sound (PX := fun v xs m1 => v = .ref b ∧ xs = bs.map .bool ∧ m1 = mem) ok hsc R hns h3 (name_sound R hsc j1 j2 j3 hj ⟨bs.map .bool, hseq, hbl, rfl, rfl, rfl⟩) fun I v xs mem1 s1 s' R1 S1 hI hit R' S' hcur hlen hpx => ?_
  obtain ⟨rfl, rfl, rfl⟩ := hpx
  refine comp_core (B := fun l P m => ∃ c, getV l q = some (.bool c) ∧ P c m) (V := fun l P m => ∃ v, getV l q = some v ∧ P v m) (QL := fun ys m' => freshL m' ys fun v m => ∃ d, v = .ref d ∧ mem1 d = none ∧ m = mem1.set d (.list ((bs.filter id).map .bool))) (RR := compPost (model W.prog W.w) A E none _) (.inr ⟨rfl, (fun us z => by cases z), ⟨q, rfl⟩, H.step S1 (fun _ _ z => z)⟩) R1 R' S' hI hit hcur hlen hsc h1 hT hv hi (fun C' l P' mem' s'' E' R'' hb => ?_) (fun D C' l P' mem' s'' _ _ R'' _ hV => ?_) ?_ fun D C' s'' mem' ys vs m hD hC hne hnsC hpl hr hM hS hmC hmD hQL => ?_
  · obtain ⟨c, hc1, hc2⟩ := hb
    rw [List.forIn_cons]
    simp only [if_true]
    refine wpAny_bind (wpAny_bind (isTrue_plain (truth (name_sound (Q := asB fun c m => P' c m) R'' cEnv_sc i1 i2 i3 hc1 ⟨c, rfl, hc2⟩) fun c' s2 q => wpAny_pure ?_)))
    obtain ⟨m1, M1, S1', q1⟩ := q
    cases c' with
    | true => exact wpAny_tests_nil ⟨m1, M1, S1', q1⟩
    | false => exact forIn_false ⟨m1, M1, S1', q1⟩ []
  · obtain ⟨v, hv1, hv2⟩ := hV
    exact name_sound R'' cEnv_sc l1 l2 l3 hv1 hv2
  · refine filt_loop (fun c P h => ⟨c, gv_set hq, h⟩) (fun c P h => ⟨_, gv_set hq, h⟩) (show lst mem1 (.ref b) = lst mem1 (.ref b) from rfl) bs [] ⟨?_, fun d hd => ⟨d, rfl, hd, rfl⟩⟩
    rw [List.nil_append, List.length_map]
    exact Nat.lt_of_le_of_lt (List.length_filter_le _ _) hl
  · have hl : CompLeft W env mem1 s (fun ys m' => freshL m' ys fun v m => ∃ d, v = .ref d ∧ mem1 d = none ∧ m = mem1.set d (.list ((bs.filter id).map .bool))) D C' s'' := ⟨mem', ys, vs, m, S1.alive D hD, S1.alive C' hC, hne, hnsC, hpl, hr, hM, S1.trans hS, hmC, hmD, hQL⟩
    exact ⟨m, hnsC, fun h' hs => hl.done R hs⟩
noncomputable def PkS (W : Cx) (env : Env) (vis : List (Nat × Str)) (n : Nat) (mem : Mem) (h0 : Heap) (k : Nat) (a : Addr) (i j : Nat) (bs : List Bool) (s' : Shared) : Prop :=
  ∃ l' mem' b, Rel W env vis l' mem' s' ∧ XInv W k a mem' s'.heap ∧ getV l' i = some (.ref a) ∧ (getV l' j = some (.ref b) ∧ mem' b = some (.list (bs.map .bool))) ∧ l'.length = n ∧ (∀ c o, mem c = some o → mem' c = some o) ∧ Step (FrD env) mem h0 mem' s'.heap
theorem setV_len {l : Loc} {v : Val} : ∀ {i : Nat}, (setV l i v).length = l.length := by
  induction l with
  | nil => intro i; rfl
  | cons x r ih =>
    intro i
    cases i with
    | zero => rfl
    | succ i => exact congrArg Nat.succ (ih (i := i))
theorem getV_back {v u : Val} {l : Loc} : ∀ {i j : Nat}, getV l j = some u → j ≠ i → getV (setV l i v) j = some u := by
  induction l with
  | nil => intro i j h; exact no h
  | cons x r ih =>
    intro i j h hn
    cases i with
    | zero => cases j with
      | zero => exact absurd rfl hn
      | succ j => exact h
    | succ i => cases j with
      | zero => exact h
      | succ j => exact ih (i := i) (j := j) h fun q => hn (congrArg Nat.succ q)
theorem pk_put (hsc : ScOk sc env) (hv : VisOk vis) (hfr : ¬ FrD env a) (hij : i ≠ j) {l : Loc} {mem1 : Mem} {s1 : Shared} {h0 : Heap} (hj : j < l.length) (R : Rel W env vis l mem1 s1) (X : XInv W k a mem1 s1.heap) (hi : getV l i = some (.ref a)) (hx : ∀ c o, mem c = some o → mem1 c = some o) (S : Step (FrD env) mem h0 mem1 s1.heap)
    {x : Str} {px p : Pos} {e : Expr} {bs : List Bool} (hst : chkStore vis sc j x = true) (hn : notComp e = true)
    (h : wpAny (model W.prog W.w) A (eval e env) (PM W mem1 s1 fun v m => ∃ b, v = .ref b ∧ m b = some (.list (bs.map .bool)) ∧ ∀ c o, mem1 c = some o → m c = some o) E s1) :
    wpAny (model W.prog W.w) A (exec (.Assign [.Name x px] e p) env) (fun f s' => f = .next ∧ PkS W env vis l.length mem h0 k a i j bs s') E s1 := by
  obtain ⟨hm, hk⟩ := chkStore_spec hsc hst
  refine wpAny_Assign_Name (then1 R h fun u y m2 s2 hy R2 S2 q2 => ?_) (swaps_no hn)
  obtain ⟨b, rfl, hb, hx2⟩ := q2
  refine store_sound R2 hv hm hk hy fun s3 R3 S3 _ => ⟨rfl, _, m2, b, R3, (X.step S2 id).step S3 hfr, getV_back hi hij, ⟨gv_set hj, hb⟩, setV_len, fun c o e => hx2 c o (hx c o e), (S.trans S2.toFr).trans S3⟩
theorem set_keep {m : Mem} {b : Addr} {o : AObj} (hb : m b = none) : ∀ c o', m c = some o' → (m.set b o) c = some o' := fun c o' e => by
  unfold Mem.set
  rw [if_neg (fun q => by rw [q, hb] at e; cases e)]; exact e
theorem set_at {m : Mem} {b : Addr} {o : AObj} : (m.set b o) b = some o := by unfold Mem.set; rw [if_pos rfl]
theorem lst_at {m : Mem} {b : Addr} {xs : List Val} (h : m b = some (.list xs)) : lst m (.ref b) = some xs := by show itemsOf (m b) = _; rw [h]; rfl
theorem p1_sound (ok : CxOk W G) (hsc : ScOk sc env) (hv : VisOk vis) (hfr : ¬ FrD env a) (hij : i ≠ j) (hj : j < loc.length) (R : Rel W env vis loc mem s) (X : XInv W k a mem s.heap) (hi : getV loc i = some (.ref a)) {cs : List Cls} {st : Stmt} (hl : cs.length < lid) (hc : chkP1 vis sc i j cs st = true) :
    wpAny (model W.prog W.w) A (exec st env) (fun f s' => f = .next ∧ PkS W env vis loc.length mem s.heap k a i j (pickB k cs) s') E s := by
  obtain ⟨t, e, p, rfl, hc⟩ := vAsg_inv hc
  obtain ⟨h1, h2⟩ := and2 hc
  obtain ⟨x, px, rfl, h1⟩ := vName_inv h1
  have hn : notComp e = true := by obtain ⟨xs, p, rfl, _⟩ := vList_inv h2; rfl
  refine pk_put hsc hv hfr hij hj R X hi (fun _ _ z => z) .refl h1 hn (wpAny_mono (csl_sound ok hsc hi hl h2 R X) (fun y s1 q => PM.mono (fun v m q => ?_) q) fun _ _ z => z)
  obtain ⟨b, rfl, hb, rfl⟩ := q
  exact ⟨b, rfl, set_at, set_keep hb⟩
theorem p2_sound (ok : CxOk W G) (hsc : ScOk sc env) (hv : VisOk vis) (hfr : ¬ FrD env a) (hij : i ≠ j) {n : Nat} {h0 : Heap} (hj : j < n) {bs : List Bool} (K : PkS W env vis n mem h0 k a i j bs s) {cs : List Cls} {st : Stmt} (hl : bs.length + cs.length < lid) (hc : chkP2 vis sc i j cs st = true) :
    wpAny (model W.prog W.w) A (exec st env) (fun f s' => f = .next ∧ PkS W env vis n mem h0 k a i j (bs ++ pickB k cs) s') E s := by
  obtain ⟨l, m1, b, R, X, hi, ⟨hjv, hb⟩, rfl, hx, S⟩ := K
  obtain ⟨t, e, p, rfl, hc⟩ := vAsg_inv hc
  obtain ⟨h1, h2⟩ := and2 hc
  obtain ⟨x, px, rfl, h1⟩ := vName_inv h1
  obtain ⟨e1, o, e2, pb, rfl, h2⟩ := vBin_inv h2
  obtain ⟨h3, h5⟩ := and2 h2
  obtain ⟨h3, h4⟩ := and2 h3
  obtain rfl := beq_iff_eq.mp h3
  obtain ⟨xj, pj, rfl, h4⟩ := vName_inv h4
  obtain ⟨h6, h7⟩ := and2 h4
  obtain ⟨h7, h8⟩ := and2 h7
  refine pk_put hsc hv hfr hij hj R X hi hx S h1 rfl ?_
  refine wpAny_BinOp (then1 R (name_sound (Q := fun v m => v = .ref b ∧ m = m1) R hsc (beq_iff_eq.mp h6) h7 h8 hjv ⟨rfl, rfl⟩) fun v y m2 s2 hy R2 S2 q2 => ?_)
  obtain ⟨rfl, rfl⟩ := q2
  refine then1 R2 (csl_sound ok hsc hi (by walk_at "o") h5 R2 (X.step S2 id)) fun w z m3 s3 hz R3 S3 q3 => ?_
  obtain ⟨d, rfl, hd, rfl⟩ := q3
  refine pmTrans (S2.trans S3) (bin_sound (op := .add) R3 (vrel_keep R2 S3 hy) hz rfl (.inr (.inl ⟨b, d, _, _, rfl, rfl, lst_at (set_keep hd b _ hb), lst_at set_at, ?_, fun c hc => ⟨c, rfl, ?_, fun c' o e => set_keep hc c' o (set_keep hd c' o e)⟩⟩)))
  · rw [List.length_append, List.length_map, List.length_map]; unfold pickB; rw [List.length_map]; exact hl
  · rw [List.map_append]; exact set_at
theorem len_of (M : MRel W mem s) {d : Addr} {bs : List Bool} (hd : mem d = some (.list (bs.map .bool))) (hl : bs.length < lid) {P : Value → Shared → Prop} (hp : ∀ t tk, P (.int (bs.length : Nat) t) { s with toks := tk }) : wpAny (model W.prog W.w) A (call (.builtin "len") [.ref d]) P E s := by
  obtain ⟨a', vs, e, h, r⟩ := lst_rel M (.mkRef : VRel W s.heap (.ref d) (.ref d)) (lst_at hd)
  cases e
  have hlen := r.length
  rw [List.length_map] at hlen
  refine len_list h (by rw [List.size_toArray, hlen]; exact lid63 hl) ?_
  rw [List.size_toArray, hlen]; exact hp _ _
theorem p4_sound (ok : CxOk W G) (hsc : ScOk sc env) (hv : VisOk vis) (hA : A.handled = some (.ref a)) {n : Nat} {h0 : Heap} (hq : q < n) {bs : List Bool} (K : PkS W env vis n mem h0 k a i j bs s) (hl : bs.length < lid) (h1 : (bs.filter id).length = 1) {st : Stmt} (hc : chkP4 vis sc i j q st = true) :
    wpAny (model W.prog W.w) A (exec st env) (fun f s' => f = .next ∧ PkS W env vis n mem h0 k a i j bs s') E s := by
  obtain ⟨l, m1, b, R, X, hi, ⟨hjv, hb⟩, rfl, hx, S⟩ := K
  obtain ⟨test, body, o, p, rfl, hc⟩ := vIf_inv hc
  obtain ⟨ho, hc⟩ := and2 hc
  obtain rfl := List.isEmpty_iff.mp ho
  obtain ⟨op, vs, pb, rfl, hc⟩ := vBoolOp_inv hc
  obtain ⟨h2, hc⟩ := and2 hc
  obtain rfl := beq_iff_eq.mp h2
  obtain ⟨v1, v2, rfl, hc⟩ := vTwo_inv hc
  obtain ⟨c1, c2⟩ := and2 hc
  obtain ⟨uo, ux, pu, rfl, c1⟩ := vUn_inv c1
  obtain ⟨c3, c4⟩ := and2 c1
  obtain rfl := beq_iff_eq.mp c3
  obtain ⟨le, os, rs, pc, rfl, c2⟩ := vCmp_inv c2
  obtain ⟨c5, c2⟩ := and2 c2
  obtain ⟨c6, c7⟩ := and2 c2
  obtain ⟨o1, rfl, c5⟩ := vOne_inv c5
  obtain rfl := beq_iff_eq.mp c5
  obtain ⟨r1, rfl, c6⟩ := vOne_inv c6
  obtain ⟨kc, nc, pk, rfl, c6⟩ := vConst_inv c6
  obtain rfl := beq_iff_eq.mp c6
  obtain ⟨xl, pxl, es, pl, rfl, c7⟩ := vCallN_inv c7
  obtain ⟨c8, c9⟩ := and2 c7
  obtain ⟨ce, rfl, c9⟩ := vOne_inv c9
  have hpl : IsPlain ux := by obtain ⟨y, py, es, pp, rfl, _⟩ := vCallN_inv c4; exact fun _ _ => rfl
  refine wpAny_If (isTrue_or (isTrue_not (isTrue_plain (wpAny_mono (iscx_sound ok hsc hi c4 R X) (fun y s1 q1 => ?_) fun _ _ z => z) (hpl _ _))))
  obtain ⟨rfl, M1, S1⟩ := q1
  refine wpAny_truthy_bool ?_
  rw [show excIs k Cls.ValueError.code = true by unfold excIs; simp [Cls.code]]
  simp only [Bool.not_true, Bool.false_eq_true, if_false]
  have R1 := R.step M1 S1
  have X1 := X.step S1 id
  refine isTrue_or (wpAny_isTrue_Compare1 (eval_call (builtin_sound R1 ok hsc c8 (by repeat (first | exact List.Mem.head _ | refine List.Mem.tail _ ?_)) Boot.«len» (call1b (chk_ns c9) ?_))) (behind_notSet rfl))
  refine then1 R1 (filt_sound ok hsc hv R1 (X1.han hA) hq hjv hb hl c9) fun v y m2 s2 hy R2 S2 q2 => ?_
  obtain ⟨d, rfl, hd, rfl⟩ := q2
  obtain rfl := hy.ref
  refine len_of R2.m set_at (Nat.lt_of_le_of_lt (List.length_filter_le _ _) hl) fun t tk => ?_
  refine wpAny_Constant_int (k := nc) (pos := pk) (ne_int (wpAny_truthy_bool ?_))
  rw [h1]
  simp only [show (((1 : Nat) : Int) != 1) = false from rfl, Bool.false_eq_true, if_false]
  refine isTrue_or_nil (wpAny_execs_nil ⟨rfl, l, _, b, R2.step (R2.m.toks _) .refl, X1.step S2 id, hi, ⟨hjv, set_keep hd b _ hb⟩, rfl, fun c o e => set_keep hd c o (hx c o e), S.trans (S1.trans S2).toFr⟩)
theorem index_bool (R : Rel W env vis loc mem s) {b : Addr} {bs : List Bool} (e : mem b = some (.list (bs.map .bool))) (hi : true ∈ bs) (hl : bs.length < lid) {Q : Val → Mem → Prop} (hq : Q (.int (bs.idxOf true : Nat)) mem) :
    wpAny (model W.prog W.w) A (call (.builtin "list.index") [.ref b, .bool true]) (PM W mem s Q) E s := by
  obtain ⟨vs, n, hn, r⟩ := mem_plain R.m e
  have hlen := r.length
  rw [List.length_map] at hlen
  have hj : bs.idxOf true < bs.length := List.idxOf_lt_length_of_mem hi
  have at' : ∀ m (hm : m < vs.length), vs[m] = .bool (bs[m]'(hlen ▸ hm)) := fun m hm => by
    obtain ⟨y, hy, ry⟩ := r.get (i := m) (v := .bool (bs[m]'(hlen ▸ hm))) (by rw [List.getElem?_map, List.getElem?_eq_getElem (hlen ▸ hm)]; rfl)
    obtain rfl := ry.bool
    rw [List.getElem?_eq_getElem hm] at hy
    exact Option.some.inj hy
  let f : Value → Bool := fun y => match y with | .bool c => c == true | _ => false
  refine call_meets PySem.F.slot_list_index ⟨_, hn, rfl⟩ PySem.F.entry_list_index (PySem.F.args_list_index_2 _ _) (PySem.MeetsSeq.list_index b vs.toArray n (.bool true) f (fun y hy => ?_) (bs.idxOf true) (by rw [List.size_toArray, hlen]; exact hj) (by unfold lid at hl; walk_at "o") ?_ fun m hm hmj => ?_) ⟨hn, PM.val R.m .mkInt hq _⟩
  · obtain ⟨m, hm, rfl⟩ := List.getElem_of_mem (List.mem_toArray.mp hy)
    rw [at' m hm]
    exact eqGives_bool _ _
  · show f vs[bs.idxOf true] = true
    rw [at' (bs.idxOf true) (hlen.symm ▸ hj)]
    exact beq_iff_eq.mpr (List.getElem_idxOf hj)
  · rw [List.size_toArray] at hm
    show f vs[m] = false
    rw [at' m hm]
    exact beq_false_of_ne fun q => by
      have hm' : m < bs.length := hlen ▸ hm
      have : bs.idxOf true ≤ m := by
        have h1 : bs = bs.take m ++ bs[m] :: bs.drop (m + 1) := by rw [← List.drop_eq_getElem_cons hm', List.take_append_drop]
        rw [h1, List.idxOf_append]
        split
        · rename_i hin
          have := List.idxOf_lt_length_of_mem hin
          rw [List.length_take] at this; walk_at "o"
        · rw [q, List.idxOf_cons_self, List.length_take]; walk_at "o"
      walk_at "o"
theorem p5_sound (hsc : ScOk sc env) {n : Nat} {h0 : Heap} {bs : List Bool} (K : PkS W env vis n mem h0 k a i j bs s) (hl : bs.length < lid) (ht : true ∈ bs) {ws : List String} {w : String} (hw : ws[bs.idxOf true]? = some w) (hlw : ws.length < lid) {st : Stmt} (hc : chkP5 vis sc j ws st = true) :
    wpAny (model W.prog W.w) A (exec st env) (fun f s' => ∃ y l' mem', f = .ret y ∧ VRel W s'.heap (.str (Str.ofString w)) y ∧ Rel W env vis l' mem' s' ∧ Step (FrD env) mem h0 mem' s'.heap ∧ ∀ c o, mem c = some o → mem' c = some o) E s := by
  obtain ⟨l, m1, b, R, X, hi, ⟨hjv, hb⟩, rfl, hx, S⟩ := K
  obtain ⟨v, p, rfl, hc⟩ := vRet_inv hc
  obtain ⟨e1, e2, ps, rfl, hc⟩ := vSub_inv hc
  obtain ⟨c1, c2⟩ := and2 hc
  obtain ⟨xs, pl, rfl, c1⟩ := vList_inv c1
  obtain ⟨ob, ap, es, p', rfl, hok, c2⟩ := vMeth_inv c2
  obtain ⟨c3, c4⟩ := and2 c2
  obtain ⟨e3, rfl, c4⟩ := vOne_inv c4
  obtain ⟨kc, nc, pk, rfl, c4⟩ := vConst_inv c4
  obtain rfl := beq_iff_eq.mp c4
  obtain ⟨xj, pj, rfl, c3⟩ := vName_inv c3
  obtain ⟨h6, h7⟩ := and2 c3
  obtain ⟨h7, h8⟩ := and2 h7
  refine wpAny_Return_some (Subscript_ (List_ (wpAny_mono (ws_sound c1 R.m) (fun vs s1 q1 => ?_) fun _ _ z => z)))
  obtain ⟨r, M1, S1⟩ := q1
  have R1 := R.step M1 S1
  refine then1 R1 (newList_sound (Q := fun v m => ∃ d, v = .ref d ∧ m1 d = none ∧ m = m1.set d (.list (ws.map fun w => .str (Str.ofString w)))) R1 r ⟨by rw [List.length_map]; exact hlw, fun d hd => ⟨d, rfl, hd, rfl⟩⟩) fun v y m2 s2 hy R2 S2 q2 => ?_
  obtain ⟨d, rfl, hd, rfl⟩ := q2
  refine method_call hok (star1 fun _ _ z => by cases z) (show 1 < 29 by decide) ?_
  refine then1 R2 (name_sound (Q := fun v m => v = .ref b ∧ m = m1.set d (.list (ws.map fun w => .str (Str.ofString w)))) R2 hsc (beq_iff_eq.mp h6) h7 h8 hjv ⟨rfl, rfl⟩) fun v y3 m3 s3 hy3 R3 S3 q3 pl => ?_
  obtain ⟨rfl, rfl⟩ := q3
  obtain rfl := hy3.ref
  have hb3 := set_keep (o := .list (ws.map fun w => Val.str (Str.ofString w))) hd b _ hb
  refine getMethod_list R3 hb3 PySem.F.slot_list_index PySem.F.type_list_index (callM1 (fun _ _ z => by cases z) (wpAny_Constant_bool (k := nc) (pos := pk) ?_))
  refine then1 R3 (index_bool (Q := fun v m => v = .int (bs.idxOf true : Nat) ∧ m = m1.set d (.list (ws.map fun w => .str (Str.ofString w)))) R3 hb3 ht hl ⟨rfl, rfl⟩) fun v y4 m4 s4 hy4 R4 S4 q4 => ?_
  obtain ⟨rfl, rfl⟩ := q4
  have hlt : bs.idxOf true < ws.length := (List.getElem?_eq_some_iff.mp hw).1
  refine then1 R4 (sub_sound (Q := fun v m => v = .str (Str.ofString w) ∧ m = m1.set d (.list (ws.map fun w => .str (Str.ofString w)))) R4 (vrel_keep R3 S4 (vrel_keep R2 S3 hy)) hy4 ⟨_, _, bs.idxOf true, .str (Str.ofString w), rfl, (show itemsOf _ = _ by rw [set_at]; rfl), ?_, ?_, ?_, rfl, rfl⟩ rfl) fun v y5 m5 s5 hy5 R5 S5 q5 => ?_
  · unfold place; rw [if_pos (Int.natCast_nonneg _), List.length_map, Int.toNat_natCast, if_pos hlt]
  · rw [List.getElem?_map, hw]; rfl
  · rw [List.length_map]; exact hlw
  obtain ⟨rfl, rfl⟩ := q5
  exact ⟨y5, l, _, rfl, hy5, R5, S.trans (S1.trans (S2.trans (S3.trans (S4.trans S5)))).toFr, fun c o e => set_keep hd c o (hx c o e)⟩
theorem pick_sound (ok : CxOk W G) (hsc : ScOk sc env) (hv : VisOk vis) (hA : A.handled = some (.ref a)) (hfr : ¬ FrD env a) (hij : i ≠ j) (hj : j < loc.length) (hq : q < loc.length) (R : Rel W env vis loc mem s) (X : XInv W k a mem s.heap) (hi : getV loc i = some (.ref a)) {cs ds es : List Cls} {ws : List String} {w : String} {l : List Stmt}
    (hl : (cs ++ ds ++ es).length < 1000) (hlw : ws.length < 1000) (h1 : ((pickB k (cs ++ ds ++ es)).filter id).length = 1) (hw : ws[(pickB k (cs ++ ds ++ es)).idxOf true]? = some w) (hc : chkPick vis sc i j q cs ds es ws l = true) :
    wpAny (model W.prog W.w) A (execs l env) (fun f s' => ∃ y l' mem', f = .ret y ∧ VRel W s'.heap (.str (Str.ofString w)) y ∧ Rel W env vis l' mem' s' ∧ Step (FrD env) mem s.heap mem' s'.heap ∧ ∀ c o, mem c = some o → mem' c = some o) E s := by
  have lid1 : ∀ m : Nat, m < 1000 → m < lid := fun m h => by unfold lid; walk_at "o"
  rw [List.length_append, List.length_append] at hl
  obtain ⟨s1, s2, s3, s4, s5, rfl, hc⟩ := vFive_inv hc
  obtain ⟨c1, hc⟩ := and2 hc
  obtain ⟨c2, hc⟩ := and2 hc
  obtain ⟨c3, hc⟩ := and2 hc
  obtain ⟨c4, c5⟩ := and2 hc
  have plen : ∀ cs : List Cls, (pickB k cs).length = cs.length := fun cs => by unfold pickB; rw [List.length_map]
  have hpk : pickB k (cs ++ ds ++ es) = pickB k cs ++ pickB k ds ++ pickB k es := by unfold pickB; rw [List.map_append, List.map_append]
  rw [hpk] at h1 hw
  have hlp : (pickB k cs ++ pickB k ds ++ pickB k es).length < lid := by rw [List.length_append, List.length_append, plen, plen, plen]; exact lid1 _ hl
  have ht : true ∈ pickB k cs ++ pickB k ds ++ pickB k es := by
    have : (pickB k cs ++ pickB k ds ++ pickB k es).filter id ≠ [] := fun q => by rw [q] at h1; cases h1
    obtain ⟨c, hcm⟩ := List.exists_mem_of_ne_nil _ this
    obtain ⟨h3, h4⟩ := List.mem_filter.mp hcm
    have : c = true := h4
    rw [← this]; exact h3
  refine wpAny_execs_cons (wpAny_mono (p1_sound ok hsc hv hfr hij hj R X hi (lid1 _ (by walk_at "o")) c1) (fun f s1 q => ?_) fun _ _ z => z)
  obtain ⟨rfl, K1⟩ := q
  refine wpAny_execs_cons (wpAny_mono (p2_sound ok hsc hv hfr hij hj K1 (by rw [plen]; exact lid1 _ (by walk_at "o")) c2) (fun f s1 q => ?_) fun _ _ z => z)
  obtain ⟨rfl, K2⟩ := q
  refine wpAny_execs_cons (wpAny_mono (p2_sound ok hsc hv hfr hij hj K2 (by rw [List.length_append, plen, plen]; exact lid1 _ (by walk_at "o")) c3) (fun f s1 q => ?_) fun _ _ z => z)
  obtain ⟨rfl, K3⟩ := q
  refine wpAny_execs_cons (wpAny_mono (p4_sound ok hsc hv hA hq K3 hlp h1 c4) (fun f s1 q => ?_) fun _ _ z => z)
  obtain ⟨rfl, K4⟩ := q
  refine wpAny_execs_cons (wpAny_mono (p5_sound hsc K4 hlp ht hw (lid1 _ hlw) c5) (fun f s1 q => ?_) fun _ _ z => z)
  obtain ⟨y, l', mem', rfl, q⟩ := q
  exact ⟨y, l', mem', rfl, q⟩
end
end TD

namespace TD
open PySem PyProof.Rows

noncomputable def vTry0 (e : Stmt) (k : (List Stmt) → (List ExceptHandler) → (List Stmt) → (List Stmt) → Bool) : Bool := vIx e.ctorIdx 17 fun h => Stmt.Try.elim (motive_2 := fun _ => Bool) e h fun b hs o f _ => k b hs o f
theorem vTry0_inv {e : Stmt} {k : (List Stmt) → (List ExceptHandler) → (List Stmt) → (List Stmt) → Bool} (h : vTry0 e k = true) : ∃ b hs o f p, e = .Try b hs o f p ∧ k b hs o f = true := by
  obtain ⟨hc, h⟩ := vIx_inv h
  exact Stmt.Try.elim (motive_2 := fun e => ∀ hc : e.ctorIdx = 17, (Stmt.Try.elim (motive_2 := fun _ => Bool) e hc fun b hs o f _ => k b hs o f) = true → ∃ b hs o f p, e = .Try b hs o f p ∧ k b hs o f = true) e hc (fun b hs o f p _ h => ⟨b, hs, o, f, p, rfl, h⟩) hc h
noncomputable def vHand (e : ExceptHandler) (k : Expr → Str → List Stmt → Bool) : Bool := match e with
  | .ExceptHandler t n b _ => vSome t fun t => vSome n fun n => !b.isEmpty && k t n b
theorem vHand_inv {e : ExceptHandler} {k : Expr → Str → List Stmt → Bool} (h : vHand e k = true) : ∃ t n b₀ b p, e = .ExceptHandler (some t) (some n) (b₀ :: b) p ∧ k t n (b₀ :: b) = true := by
  obtain ⟨t, n, b, p⟩ := e
  obtain ⟨t, rfl, h⟩ := vSome_inv h
  obtain ⟨n, rfl, h⟩ := vSome_inv h
  obtain ⟨h1, h⟩ := and2 h
  cases b with
  | nil => exact nb h1
  | cons b₀ b => exact ⟨t, n, b₀, b, p, rfl, h⟩
noncomputable def vCons {α : Type} (xs : List α) (k : α → List α → Bool) : Bool := match xs with | x :: r => k x r | [] => false
theorem vCons_inv {α : Type} {xs : List α} {k : α → List α → Bool} (h : vCons xs k = true) : ∃ x r, xs = x :: r ∧ k x r = true := by
  cases xs with
  | nil => cases h
  | cons x r => exact ⟨x, r, rfl, h⟩
noncomputable def tnIs (TT : Nat → Option TFn) (sc : Scope) (f : Nat) (x : Str) : Bool := vSome (TT f) fun fn => gName sc fn.name x
section chk
variable (FT : Nat → Option Fn) (ids : List Nat) (TT : Nat → Option TFn) (tids : List Nat) (vis : List (Nat × Str)) (sc : Scope)
noncomputable def chkTc (f : Nat) (args : Exs) (e : Expr) : Bool := vCallN e fun x es => tids.contains f && (tnIs TT sc f x && (!es.isEmpty && chkL FT ids vis sc args es))
noncomputable def chkTS : TSt → Stmt → Bool
  | .st s, st => chkS FT ids vis sc s st
  | .tryp f args i j q cs ds es ws, st => vTry0 st fun body hs o fin => (o.isEmpty && fin.isEmpty) && (vOne body (fun s0 => vExpr s0 fun v => chkE FT ids vis sc (.call f args) v) &&
      vOne hs fun h => vHand h fun t n hb => vName t (gName sc "DealError") && (((vis.lookup i == some n) && (sc.names.lookup n == some .local)) && ((decide ((cs ++ ds ++ es).length < 1000) && decide (ws.length < 1000)) && chkPick vis sc i j q cs ds es ws hb)))
  | .retcmp f args j es, st => vRet st fun v => vBoolOp v fun o vs => o == .And && vCons vs fun v1 r => vCmp v1 (fun l os rs => vOne os (fun o => o == .Eq) && (vOne rs (fun e => chkNm vis sc j e) && chkTc FT ids TT tids vis sc f args l)) && (!r.isEmpty && chkL FT ids vis sc es r)
noncomputable def chkTSs : List TSt → List Stmt → Bool
  | [], l => l.isEmpty
  | s :: ss, l => match l with | x :: r => chkTS FT ids TT tids vis sc s x && chkTSs ss r | [] => false
end chk
noncomputable def chkTFn (FT : Nat → Option Fn) (ids : List Nat) (TT : Nat → Option TFn) (tids : List Nat) (fn : TFn) (fd : FuncData) : Bool :=
  chkHead fn.np fn.vars fd && vStmts fd.body fun b => chkTSs FT ids TT tids (visOf fd.scope 0 fn.vars []) fd.scope fn.body b

noncomputable def TCallOk (W : Cx) (TT : Nat → Option TFn) (tids : List Nat) (A : Around) (CT : CallT) : Prop :=
  ∀ f ∈ tids, ∀ fn, TT f = some fn → ∃ a o fd, W.mg (Str.ofString fn.name) = some (.ref a) ∧ W.base.get? a = some o ∧ o.data = .func fd ∧
    ∀ (vs : List Val) (args : List Value) (Q : Val → Mem → Prop) (X : Nat → Mem → Prop) (mem : Mem) (s : Shared) (E : Value → Shared → Prop), XFr W A mem s noX E → CT f vs Q X mem → MRel W mem s → VRels W s.heap vs args →
      wpAny (model W.prog W.w) A (call (.ref a) args) (PM W mem s Q) E s

section
variable {W : Cx} {FT : Nat → Option Fn} {ids : List Nat} {TT : Nat → Option TFn} {tids : List Nat} {G : String → Option Val} {n : Nat} {A : Around} {C CT : CallT} {env : Env} {vis : List (Nat × Str)} {sc : Scope} {loc : Loc} {mem : Mem} {s : Shared} {E : Value → Shared → Prop}
theorem tcallX (SC : SCx W FT ids G n A C) (TC : TCallOk W TT tids A CT) {f : Nat} {args : Exs} {ex : Expr} {Q : Val → Mem → Prop} {X : Nat → Mem → Prop}
    (hc : chkTc FT ids TT tids vis sc f args ex = true) (hsc : ScOk sc env) (hv : VisOk vis) (R : Rel W env vis loc mem s) (hY : YFr W A env vis mem s noY E) (h : wpL C G noX args loc (fun vs m1 => CT f vs Q X m1) mem) :
    wpAny (model W.prog W.w) A (eval ex env) (PM W mem s Q) E s := by
  obtain ⟨x, px, es, p, rfl, h1⟩ := vCallN_inv hc
  obtain ⟨h1, h2⟩ := and2 h1
  obtain ⟨h2, h3⟩ := and2 h2
  obtain ⟨h3, h5⟩ := and2 h3
  obtain ⟨fn, hfn, h2⟩ := vSome_inv h2
  obtain ⟨a, o, fd, hm, ho, hd, hcall⟩ := TC f (List.contains_iff_mem.mp h1) fn hfn
  refine eval_call (global_sound R SC.ok hsc h2 hm ?_)
  refine Calls.callWith_function (o := o) (fd := fd) ?_
  cases es with
  | nil => exact nb h3
  | cons e0 er =>
    rw [back_cons (chkL_star h5 e0 (.head _))]
    refine Calls.evalArgs_plain ?_
    rw [← back_cons (chkL_star h5 e0 (.head _))]
    refine wpAny_mono (soundL SC args h5 hsc hv (fun _ _ z => z) R h) (fun vs s1 q => ?_) fun _ _ x => x
    obtain ⟨us, m1, hr, M1, S1, q1⟩ := q
    exact ⟨⟨M1.stays _ _ ho, hd⟩, pmTrans S1 (hcall us vs Q X m1 s1 E (hY.call R M1 S1) q1 M1 hr)⟩
theorem goes_rel {i : Nat} {x : Str} {v : Val} {h' : Heap} {m : Str → Option Value} {y : Option Value} {tk : Nat} (R : Rel W env vis (setV loc i v) mem s) (hv : VisOk vis) (hx : (i, x) ∈ vis) (hk : env.kindOf x = some .local) (hi : getV loc i = none)
    (hm : ∀ j z u, (j, z) ∈ vis → getV (setV loc i v) j = some u → env.kindOf z = some .local → ∃ y, m z = some y ∧ VRel W s.heap u y)
    (hns : s.heap.Ns env.locals m) (hn : h'.Ns env.locals (fun z => if z = x then y else m z)) (hs : Heap.SameBut env.locals s.heap h') : Rel W env vis loc mem { s with heap := h', toks := tk } ∧ Step (FrD env) mem s.heap mem h' := by
  have hL : ∃ o, h'.get? env.locals = some o := by obtain ⟨o, _, _, e, _⟩ := hn; exact ⟨o, e⟩
  have kb : ∀ b o, b ≠ env.locals → s.heap.get? b = some o → h'.get? b = some o := fun b o hb e => (hs.2 b hb).trans e
  have kf : KeepF s.heap h' := fun b o e hf => by
    refine kb b o ?_ e
    rintro rfl
    exact R.e.dok _ o (.inl rfl) e hf
  have St : Step (FrD env) mem s.heap mem h' := by
    refine ⟨fun b e => ?_, fun b o e hm' hd => ⟨o, kb b o (fun q => hd (.inl q)) e, .refl o⟩, fun _ a b => absurd a b⟩
    by_cases hb : b = env.locals
    · subst hb; obtain ⟨o, ho⟩ := hL; rw [ho] at e; cases e
    · rw [← hs.2 b hb]; exact e
  refine ⟨⟨⟨fun b o e => kb b o (by rintro rfl; rw [R.new _ (.inl rfl)] at e; cases e) (R.m.stays b o e), fun b o e => ?_, R.m.gens, R.m.os⟩, ?_, R.sep, R.new⟩, St⟩
  · obtain ⟨r, nb⟩ := R.m.mems b o e
    have hb : b ≠ env.locals := by rintro rfl; rw [R.sep _ (.inl rfl)] at e; cases e
    exact ⟨r.at (fun _ e => kb _ _ hb e) kf, nb⟩
  · have kc : ∀ z c u, env.cells.lookup z = some c → s.heap.IsCell c u → h'.IsCell c u := fun z c u hz ⟨o, e, hd⟩ => by
      refine ⟨o, kb c o ?_ e, hd⟩
      rintro rfl
      obtain ⟨o', es, ep, e', hd', _⟩ := hns
      rw [e] at e'; cases e'; rw [hd] at hd'; cases hd'
    have ne : ∀ j u, getV loc j = some u → j ≠ i := fun j u q e => by rw [e, hi] at q; cases q
    refine ⟨R.e.kind, R.e.glob, R.e.blt, ⟨_, hn, fun j z u hj hg hkz => ?_⟩, fun j z u k hj hg hkz hc => ?_, R.e.cellk, fun z c hz => let ⟨o, ho⟩ := R.e.cells z c hz; ⟨o, kc z c _ hz ho⟩, R.e.apart⟩
    · have hne := ne j u hg
      have : z ≠ x := fun q => hne ((hv _ _ _ _ hj hx).mpr q)
      obtain ⟨y', h1, h2⟩ := hm j z u hj (getV_back hg hne) hkz
      exact ⟨y', by simp [this, h1], h2.keep kf⟩
    · obtain ⟨c, y', h1, h2, h3⟩ := R.e.cell j z u k hj (getV_back hg (ne j u hg)) hkz hc
      exact ⟨c, y', h1, kc z c _ h1 h2, h3.keep kf⟩
theorem Rel.off0 (R : Rel W env vis loc mem s) : Rel W env vis [] mem s := by
  obtain ⟨m, hns, _⟩ := R.e.ns
  exact ⟨R.m, ⟨R.e.kind, R.e.glob, R.e.blt, ⟨m, hns, fun _ _ _ _ q => by cases q⟩, (fun _ _ _ _ _ q => by cases q), R.e.cellk, R.e.cells, R.e.apart⟩, R.sep, R.new⟩

theorem soundT (SC : SCx W FT ids G n A C) (TC : TCallOk W TT tids A CT) (hsc : ScOk sc env) (hv : VisOk vis) : ∀ (st : TSt) {sx : Stmt} {P : Flow → Loc → Mem → Prop},
    chkTS FT ids TT tids vis sc st sx = true → YFr W A env vis mem s noY E → Rel W env vis loc mem s → wpT C CT G st P loc mem → wpAny (model W.prog W.w) A (exec sx env) (PS W env vis mem s P) E s
  | .st st, sx, P, hc, hY, R, h => soundS SC st hc hsc hv (.inl fun _ _ _ z => z) R h
  | .retcmp f args j es, sx, P, hc, hY, R, h => by
    obtain ⟨v, p, rfl, c1⟩ := vRet_inv hc
    obtain ⟨o, vs, pb, rfl, c2⟩ := vBoolOp_inv c1
    obtain ⟨h0, c3⟩ := and2 c2
    obtain rfl := beq_iff_eq.mp h0
    obtain ⟨v1, r, rfl, c4⟩ := vCons_inv c3
    obtain ⟨c5, c6⟩ := and2 c4
    obtain ⟨hne, h2⟩ := and2 c6
    obtain ⟨l, os, rs, pc, rfl, c5⟩ := vCmp_inv c5
    obtain ⟨c7, c8⟩ := and2 c5
    obtain ⟨c8, h1⟩ := and2 c8
    obtain ⟨o1, rfl, c7⟩ := vOne_inv c7
    obtain rfl := beq_iff_eq.mp c7
    obtain ⟨e, rfl, c8⟩ := vOne_inv c8
    obtain ⟨xj, pj, rfl, c8⟩ := vName_inv c8
    obtain ⟨j1, j2⟩ := and2 c8
    obtain ⟨j2, j3⟩ := and2 j2
    cases r with
    | nil => exact nb hne
    | cons e0 er =>
    refine wpAny_Return_some (BoolOp_and (wpAny_Compare1 (then1 R (tcallX SC TC h1 hsc hv R hY h) fun x xv m1 s1 hx R1 S1 q1 => ?_) (behind_notSet rfl)))
    obtain ⟨u, hu, q1⟩ := q1
    refine then1 R1 (name_sound (Q := fun w m => w = u ∧ m = m1) R1 hsc (beq_iff_eq.mp j1) j2 j3 hu ⟨rfl, rfl⟩) fun y yv m2 s2 hy R2 S2 q2 => ?_
    obtain ⟨rfl, rfl⟩ := q2
    refine wpAny_mono (cmp_sound (op := .eq) R2 SC.room (vrel_keep R1 S2 hx) hy rfl q1) (fun z s3 q => ?_) fun _ _ x => x
    obtain ⟨b, rfl, m3, M3, S3, q3⟩ := PM.test q
    refine wpAny_truthy_bool ?_
    have R3 := R2.step M3 S3
    have S13 := S1.trans (S2.trans S3)
    cases b with
    | false => exact ⟨.ret (.bool false), loc, m3, ⟨_, rfl, .mkBool⟩, R3, S13.toFr, q3.2 rfl⟩
    | true =>
      refine then1 R3 (soundB SC es (k := true) h2 (by simp) hsc hv (fun _ _ z => z) R3 (q3.1 rfl)) fun w y4 m4 s4 hy4 R4 S4 q4 => ?_
      obtain ⟨b, rfl, q4⟩ := q4
      exact ⟨.ret (.bool b), loc, m4, ⟨y4, rfl, hy4⟩, R4, (S13.trans S4).toFr, q4⟩
  | .tryp f args i j q cs ds es ws, sx, P, hc, hY, R, h => by
    obtain ⟨body, hs, o, fin, p, rfl, c1⟩ := vTry0_inv hc
    obtain ⟨c2, c3⟩ := and2 c1
    obtain ⟨ho, hf⟩ := and2 c2
    obtain rfl := List.isEmpty_iff.mp ho
    obtain rfl := List.isEmpty_iff.mp hf
    obtain ⟨c4, c5⟩ := and2 c3
    obtain ⟨s0, rfl, c6⟩ := vOne_inv c4
    obtain ⟨v, pe, rfl, h1⟩ := vExpr_inv c6
    obtain ⟨hd, rfl, c7⟩ := vOne_inv c5
    obtain ⟨t, x, b₀, suite, ph, rfl, c8⟩ := vHand_inv c7
    obtain ⟨c9, c10⟩ := and2 c8
    obtain ⟨c11, c12⟩ := and2 c10
    obtain ⟨c13, hq⟩ := and2 c12
    obtain ⟨c14, c15⟩ := and2 c13
    obtain ⟨hx, hl⟩ := and2 c11
    obtain ⟨tx, tp, rfl, ht⟩ := vName_inv c9
    obtain ⟨⟨⟨hil, hin⟩, hjl, hji, hql⟩, h⟩ := h
    have hst : chkStore vis sc i x = true := by unfold chkStore storable; rw [hx, hl]; rfl
    obtain ⟨hxm, hxk⟩ := chkStore_spec hsc hst
    have hloc : env.kindOf x = some .local := (hsc _ _ (beq_iff_eq.mp hl)).2 (by simp)
    refine wpAny_Try_except (wpAny_execs_cons (wpAny_Expr (then1 R (callX SC h1 hsc hv R h fun m1 s1 M1 S1 => .inr ?_) fun u y m1 s1 hy R1 S1 q1 => ?_) (interactive_no R.e.kind) (swaps_no (chk_notComp h1 rfl))))
    · have hY1 := hY.step (R.step M1 S1) S1.toFr
      obtain ⟨outer, ⟨hfr, F1, ap⟩, hC, _⟩ := hY1
      refine ⟨⟨_, hfr, F1⟩, hC, fun k m' a s' X M' hm S' hx' => ?_⟩
      obtain ⟨⟨h7, h14⟩, hone, w, hw, hP⟩ := hx'
      obtain ⟨D, hD, hCs⟩ := id hC
      obtain ⟨C', hm', xa, _⟩ := hCs k h7 h14
      have hcv : clsV W k = .ref C' := by unfold clsV; rw [hm']; rfl
      have F' : FrOk W.base (env :: outer) m' s'.heap := F1.step S' fun _ _ z => z
      have X' : Exc s1.heap (.ref C') a s'.heap := hcv ▸ X
      have Rk : ∀ h1, Kept (env :: outer) s1.heap s'.heap h1 → Rel W env vis loc m' { s' with heap := h1 } := fun h1 K =>
        (R.step M1 S1).step (M'.kept K F' M1.stays) (S'.kept K)
      refine exc_caught hfr F' X' S'.alive (fun h1 K => xa.keeps (Rk h1 K).m.stays) (fun K hP => global_sound (Rk _ K) SC.ok hsc ht hD hP) fun h1 xt K => ?_
      have Rh := Rk h1 K
      refine store_sound Rh hv hxm hxk .mkRef fun s3 R3 S3 _ => ?_
      have hgi : getV (setV loc i (.ref a)) i = some (.ref a) := gv_set hil
      obtain ⟨oe, ws, a0, T, oT, ts, e1, e2, e3, e4, e5, _⟩ := xt.obj
      have X1 : XInv W k a m' h1 := ⟨hC, ⟨h7, h14⟩, hm, oe, ws, e1, e2.trans hcv.symm, e3, e5⟩
      have hnfr : ¬ FrD env a := fun hb => by
        obtain ⟨o', e', hd⟩ := Rh.e.there hb
        have e1' : ({ s' with heap := h1 } : Shared).heap.get? a = some oe := e1
        rw [e1'] at e'; cases e'
        rw [e3] at hd
        rcases hd with ⟨_, _, q⟩ | ⟨_, q⟩ <;> cases q
      have X3 := X1.step S3 hnfr
      refine wpAny_mono (pick_sound (A := A.mark (some (.ref a))) SC.ok hsc hv rfl hnfr (Ne.symm hji) (by rw [setV_len]; exact hjl) (by rw [setV_len]; exact hql) R3 X3 hgi (of_decide_eq_true c14) (of_decide_eq_true c15) hone hw hq) (fun fl s4 q4 => ?_) fun _ _ z => z
      obtain ⟨y, l4, m4, rfl, hy4, R4, S4, hx4⟩ := q4
      obtain ⟨mN, hns, _⟩ := R4.e.ns
      refine wpAny_nameGoes_keeps hloc hns (by rw [R4.e.kind]; rfl) fun h' y' hn' hs' => ?_
      obtain ⟨R5, S5⟩ := goes_rel (loc := []) (v := .none) (tk := s4.toks + 1) R4.off0 hv hxm hloc rfl (fun _ _ _ _ z => by cases z) hns hn' hs'
      have Sk : Step NoD mem s.heap m' h1 := S1.trans (S'.kept K)
      have kf5 := S5.keepF R4.m.mems R4.e.dok
      exact ⟨.ret (.str (Str.ofString w)), [], m4, ⟨y, rfl, hy4.keep kf5⟩, R5, ((Sk.toFr.trans S3).trans S4).trans S5, hP m4 hx4 []⟩
    · obtain ⟨q1, q2⟩ := q1
      have : ∀ a, y ≠ .ref a := fun a e => by
        subst e
        cases u <;> first | exact q1.elim | skip
        · have := hy.none'; cases this
        · have := hy.bool; cases this
        · obtain ⟨_, q⟩ := hy.int; cases q
      split
      · exact absurd rfl (this _)
      · exact wpAny_execs_nil (wpAny_execs_nil ⟨.next, loc, m1, rfl, R1, S1.toFr, q2⟩)
end
theorem soundTs {W : Cx} {FT : Nat → Option Fn} {ids : List Nat} {TT : Nat → Option TFn} {tids : List Nat} {G : String → Option Val} {n : Nat} {A : Around} {C CT : CallT} {env : Env} {vis : List (Nat × Str)} {sc : Scope} {E : Value → Shared → Prop}
    (SC : SCx W FT ids G n A C) (TC : TCallOk W TT tids A CT) (hsc : ScOk sc env) (hv : VisOk vis) : ∀ (ss : List TSt) {sx : List Stmt} {P : Flow → Loc → Mem → Prop} {loc : Loc} {mem : Mem} {s : Shared},
    chkTSs FT ids TT tids vis sc ss sx = true → YFr W A env vis mem s noY E → Rel W env vis loc mem s → wpTs C CT G ss P loc mem → wpAny (model W.prog W.w) A (execs sx env) (PS W env vis mem s P) E s
  | [], sx, P, loc, mem, s, hc, hY, R, h => by
    rw [List.isEmpty_iff.mp hc]
    exact wpAny_execs_nil ⟨.next, loc, mem, rfl, R, .refl, h⟩
  | st :: ss, [], P, loc, mem, s, hc, hY, R, h => nb hc
  | st :: ss, x :: r, P, loc, mem, s, hc, hY, R, h => by
    obtain ⟨h1, h2⟩ := and2 hc
    refine wpAny_execs_cons (wpAny_mono (soundT SC TC hsc hv st h1 hY R h) (fun fl s1 q => ?_) fun _ _ x => x)
    obtain ⟨fl', l1, m1, hfl, R1, S1, q1⟩ := q
    cases fl' with
    | next =>
      obtain rfl : fl = .next := hfl
      exact psTrans S1 (soundTs SC TC hsc hv ss h2 (hY.step R1 S1) R1 q1)
    | cont => obtain rfl : fl = .cont := hfl; exact ⟨.cont, l1, m1, rfl, R1, S1, q1⟩
    | brk => obtain rfl : fl = .brk := hfl; exact ⟨.brk, l1, m1, rfl, R1, S1, q1⟩
    | ret u =>
      obtain ⟨y', rfl, hy'⟩ : ∃ y, fl = .ret y ∧ VRel W s1.heap u y := hfl
      exact ⟨.ret u, l1, m1, ⟨y', rfl, hy'⟩, R1, S1, q1⟩

noncomputable def TDefs (W : Cx) (FT : Nat → Option Fn) (ids : List Nat) (TT : Nat → Option TFn) (tids : List Nat) : Prop :=
  ∀ f ∈ tids, ∀ fn, TT f = some fn → ∃ a o fd, W.mg (Str.ofString fn.name) = some (.ref a) ∧ DefAt W a o fd ∧ chkTFn FT ids TT tids fn fd = true
theorem callTOk {W : Cx} {FT : Nat → Option Fn} {ids : List Nat} {TT : Nat → Option TFn} {tids : List Nat} {G : String → Option Val} (ok : CxOk W G) (D : Defs W FT ids) (TD : TDefs W FT ids TT tids) : ∀ (n : Nat) {A : Around}, Room n A → TCallOk W TT tids A (callT FT TT G n)
  | 0, A, hr => fun f hf fn hfn => by
    obtain ⟨a, o, fd, h1, Df, _⟩ := TD f hf fn hfn
    exact ⟨a, o, fd, h1, Df.at_, Df.data, fun _ _ _ _ _ _ _ _ h => h.elim⟩
  | n + 1, A, hr => fun f hf fn hfn => by
    obtain ⟨a, o, fd, h1, Df, hchk⟩ := TD f hf fn hfn
    refine ⟨a, o, fd, h1, Df.at_, Df.data, fun vs args Q X mem s E hX hc M hv => ?_⟩
    obtain ⟨hh, hb⟩ := and2 hchk
    obtain ⟨body, hb, hc10⟩ := vStmts_inv hb
    obtain ⟨fn', e, hlen, hbody⟩ := hc
    obtain rfl : fn = fn' := Option.some.inj (hfn.symm.trans e)
    refine call_run ok (by have := hr.depth; walk_at "o") Df hh hb hlen M hv fun env s₁ E' hsc R0 hk hY => ?_
    have hr' := hr.down env
    have SC : SCx W FT ids G n (A.deeper env) (callN FT G n) := ⟨ok, hr', callOk ok D n hr'⟩
    exact soundTs SC (callTOk ok D TD n hr') hsc (visOf_ok _ _ _) fn.body hc10 (hY noX hX) R0 hbody
end TD

namespace TD
open PySem PySem.W PyProof.Rows PySem.Calls PySem.Spec

noncomputable def chkTRec (p : Program) (FT : Nat → Option Fn) (ids : List Nat) (TT : Nat → Option TFn) (tids : List Nat) (f : Nat) : Bool := vSome (TT f) fun fn =>
  vSome ((recsOf p).find? fun d => d.name == Str.ofString fn.name) fun d => chkTFn FT ids TT tids fn (docDef d.name d.params d.body d.scope .none .none .none)

section
variable {p : Program} {loose : List Str} {mean : ExcName → Option Value} {W : Cx}
theorem tdefs_of {FT : Nat → Option Fn} {ids : List Nat} {TT : Nat → Option TFn} {tids : List Nat} (T : Top p loose mean W.mg W.mb W.base) (h : tids.all (chkTRec p FT ids TT tids) = true) : TDefs W FT ids TT tids := fun f hf fn hfn => by
  have h1 := List.all_eq_true.mp h f hf
  obtain ⟨fn', e, h2⟩ := vSome_inv h1
  obtain rfl : fn' = fn := Option.some.inj (e.symm.trans hfn)
  obtain ⟨d, hd, h3⟩ := vSome_inv h2
  have hn : d.name = Str.ofString fn'.name := beq_iff_eq.mp (List.find?_some (p := fun d : DefRec => d.name == Str.ofString fn'.name) hd)
  obtain ⟨a, o, pm, code, doc, h4, h5, h6, h7⟩ := T.fn d (List.mem_of_find?_eq_some hd)
  exact ⟨a, o, _, hn ▸ h4, ⟨h5, h6, rfl, rfl, rfl, rfl, h7⟩, h3⟩

theorem sub_name : ∀ k < 15, 7 ≤ k → clsName k ∈ subNames := by decide
theorem clsOk_of (h : ClsAt W.mg W.base) : ClsOk W := by
  obtain ⟨D, h1, h2, h3⟩ := h
  refine ⟨D, h1, fun k h7 h14 => ?_⟩
  obtain ⟨C, a, b, c⟩ := h3 (clsName k) (sub_name k (by walk_at "o") h7)
  exact ⟨C, a, ⟨h2, b⟩, c⟩
end
theorem law_runT {prog p : Program} {loose : List Str} {mean : ExcName → Option Value} {w : World} {s₁ : Shared} {mg mb : Str → Option Value} {FT : Nat → Option Fn} {ids ids2 : List Nat} {TT : Nat → Option TFn} {tids : List Nat} {gs : List (String × Int)} {f n : Nat} {fn : TFn} {fa a : Addr} {vs : List Value} {ns : List Int} {Q : Value → Shared → Prop} {E : Value → Shared → Prop}
    (T : Top p loose mean mg mb s₁.heap) (hC : ClsAt mg s₁.heap) (hg : s₁.gens = #[])
    (hm : biNames.all (fun x => chkFree p loose (Str.ofString x)) = true) (hgs : gs.all (fun q => chkVal p q.1 q.2) = true) (TE : TopE p loose mg s₁.heap) (hest : chkEst p loose = true) (hids : ids.all (fun f => (cond (ids2.contains f) (chkMeth p loose FT ids f) (chkRec p FT ids f))) = true) (htids : tids.all (chkTRec p FT ids TT tids) = true) (hn : n ≤ 100) (hf : f ∈ tids) (hfn : TT f = some fn) (hfa : mg (Str.ofString fn.name) = some (.ref fa))
    (hL : s₁.heap.IsList a vs.toArray) (hI : IntsAre vs ns)
    (hlaw : callT FT TT (globOf gs) n f [.frz (ns.map .int)] (fun v _ => v = .bool true) noX (fun _ => none))
    (hQ : ∀ s', s₁.heap.StaysIn s'.heap → s'.gens = #[] → s'.os = s₁.os → Q (.bool true) s') :
    wpAny (model prog w) callerA (call (.ref fa) [.ref a]) Q E s₁ := by
  let W : Cx := ⟨prog, w, s₁.heap, mg, mb, #[], s₁.os⟩
  have ok : CxOk W (globOf gs) := cxOk_of (W := W) T hm hgs
  have D : Defs W FT ids := defs_ofO (W := W) T TE hest hids
  have TD : TDefs W FT ids TT tids := tdefs_of (W := W) T htids
  obtain ⟨a', o, fd, h1, _, _, h4⟩ := callTOk ok D TD n (Room.caller hn) f hf fn hfn
  have : a' = fa := by
    have := h1.symm.trans hfa
    cases this; rfl
  subst this
  have M : MRel W (fun _ => none) s₁ := ⟨fun _ _ e => e, (fun _ _ e => by cases e), hg, rfl⟩
  refine wpAny_mono (h4 _ [.ref a] _ _ _ s₁ E ⟨⟨[], rfl, fun _ h => nomatch h⟩, clsOk_of (W := W) hC, fun _ _ _ _ _ _ _ _ h => h.elim⟩ hlaw M ?_) (fun v s' p => ?_) fun _ _ x => x
  · refine ⟨_, _, rfl, ⟨a, vs, rfl, hL, ints_rel hI⟩, rfl⟩
  · obtain ⟨u, mem', hu, M, S, rfl⟩ := p
    obtain rfl := hu.bool
    exact hQ s' M.stays M.gens M.os
end TD

namespace TD
noncomputable def f_is_among : Fn := { name := "is_among", np := 3, vars := ["thing", "least", "most"], body := (sts [
    .ret (.boolop true (.cons (.isinst (.nm 0) .int) (.cons (.not (.isinst (.nm 0) .bool)) (.cons (.cmp2 .le .le (.nm 1) (.nm 0) (.nm 2)) .nil))))]) }
noncomputable def f_is_row : Fn := { name := "is_row", np := 2, vars := ["thing", "many", "one"], body := (sts [
    .ifs (.boolop false (.cons (.not (.isinst (.nm 0) .list)) (.cons (.cmp .ne (.b1 .len (.nm 0)) (.nm 1)) .nil))) (sts [
      .ret (.bool false)]) .nil,
    .ret (.b1 .all (.comp (.call 0 (.cons (.nm 2) (.cons (.int 0) (.cons (.glob "MOST_WORTH") .nil)))) (.one 2) .plain (.nm 0) .nil))]) }
noncomputable def f_is_table : Fn := { name := "is_table", np := 1, vars := ["thing", "row"], body := (sts [
    .ifs (.boolop false (.cons (.not (.isinst (.nm 0) .list)) (.cons (.not (.cmp2 .le .le (.int 1) (.b1 .len (.nm 0)) (.glob "MOST_HEIRS"))) .nil))) (sts [
      .ret (.bool false)]) .nil,
    .ifs (.boolop false (.cons (.not (.isinst (.sub (.nm 0) (.int 0)) .list)) (.cons (.cmp .gt (.b1 .len (.sub (.nm 0) (.int 0))) (.glob "MOST_THINGS")) .nil))) (sts [
      .ret (.bool false)]) .nil,
    .ret (.b1 .all (.comp (.call 1 (.cons (.nm 1) (.cons (.b1 .len (.sub (.nm 0) (.int 0))) .nil))) (.one 1) .plain (.nm 0) .nil))]) }
noncomputable def f_are_things : Fn := { name := "are_things", np := 2, vars := ["thing", "many", "one"], body := (sts [
    .ifs (.boolop false (.cons (.not (.isinst (.nm 0) .list)) (.cons (.not (.b1 .all (.comp (.call 0 (.cons (.nm 2) (.cons (.int 0) (.cons (.bin .sub (.nm 1) (.int 1)) .nil)))) (.one 2) .plain (.nm 0) .nil))) .nil))) (sts [
      .ret (.bool false)]) .nil,
    .ret (.cmp .eq (.b1 .lenset (.nm 0)) (.b1 .len (.nm 0)))]) }
noncomputable def f_are_shares : Fn := { name := "are_shares", np := 3, vars := ["thing", "heirs", "many", "found", "share"], body := (sts [
    .ifs (.boolop false (.cons (.not (.isinst (.nm 0) .list)) (.cons (.cmp .ne (.b1 .len (.nm 0)) (.nm 1)) .nil))) (sts [
      .ret (.bool false)]) .nil,
    .asg 3 (.lst .nil),
    .fors (.one 4) .plain (.nm 0) (sts [
      .ifs (.boolop false (.cons (.not (.call 3 (.cons (.nm 4) (.cons (.nm 2) .nil)))) (.cons (.cmp .ne (.b1 .sorted (.nm 4)) (.nm 4)) .nil))) (sts [
        .ret (.bool false)]) .nil,
      .expr (.extend (.nm 3) (.nm 4))]),
    .ret (.cmp .eq (.b1 .lenset (.nm 3)) (.b1 .len (.nm 3)))]) }
noncomputable def f_need_table : Fn := { name := "need_table", np := 1, vars := ["table"], body := (sts [
    .ifs (.not (.call 2 (.cons (.nm 0) .nil))) (sts [
      .raise .BadTable "no table of worths"]) .nil]) }
noncomputable def f_need_shares : Fn := { name := "need_shares", np := 2, vars := ["table", "shares"], body := (sts [
    .callS false 5 (.cons (.nm 0) .nil),
    .ifs (.not (.call 4 (.cons (.nm 1) (.cons (.b1 .len (.nm 0)) (.cons (.b1 .len (.sub (.nm 0) (.int 0))) .nil))))) (sts [
      .raise .BadShares "no shares"]) .nil]) }
noncomputable def f_need_heir : Fn := { name := "need_heir", np := 2, vars := ["table", "heir"], body := (sts [
    .ifs (.not (.call 0 (.cons (.nm 1) (.cons (.int 0) (.cons (.bin .sub (.b1 .len (.nm 0)) (.int 1)) .nil))))) (sts [
      .raise .BadHeir "no such heir"]) .nil]) }
noncomputable def f_sum_of : Fn := { name := "sum_of", np := 2, vars := ["row", "things", "thing"], body := (sts [
    .ret (.b1 .sum (.comp (.sub (.nm 0) (.nm 2)) (.one 2) .plain (.nm 1) .nil))]) }
noncomputable def f_worth : Fn := { name := "worth", np := 3, vars := ["table", "heir", "things"], body := (sts [
    .callS false 5 (.cons (.nm 0) .nil),
    .callS false 7 (.cons (.nm 0) (.cons (.nm 1) .nil)),
    .ifs (.not (.call 3 (.cons (.nm 2) (.cons (.b1 .len (.sub (.nm 0) (.int 0))) .nil)))) (sts [
      .raise .BadThing "no list of things"]) .nil,
    .dead]) }
noncomputable def f_L_at : Fn := { name := "_law_at", np := 2, vars := ["_law_script", "_law_k"], body := (sts [
    .ifs (.cmp .lt (.nm 1) (.b1 .len (.nm 0))) (sts [
      .ret (.sub (.nm 0) (.nm 1))]) .nil,
    .ret (.int 0)]) }
noncomputable def f_L_mixed : Fn := { name := "_law_mixed", np := 2, vars := ["_law_cell", "_law_k"], body := (sts [
    .ret (.bin .mod (.bin .mul (.bin .add (.bin .add (.nm 0) (.bin .mul (.int 7919) (.nm 1))) (.int 17)) (.int 48271)) (.int 2147483647))]) }
noncomputable def f_L_heirs : Fn := { name := "_law_heirs", np := 1, vars := ["_law_cell"], body := (sts [
    .ifs (.cmp .eq (.bin .mod (.bin .fdiv (.nm 0) (.int 5)) (.int 8)) (.int 1)) (sts [
      .ret (.bin .add (.int 1) (.bin .mod (.bin .fdiv (.nm 0) (.int 40)) (.int 8)))]) .nil,
    .ret (.bin .add (.int 1) (.bin .mod (.nm 0) (.int 5)))]) }
noncomputable def f_L_things : Fn := { name := "_law_things", np := 1, vars := ["_law_cell"], body := (sts [
    .ifs (.cmp .eq (.bin .mod (.bin .fdiv (.nm 0) (.int 9)) (.int 8)) (.int 1)) (sts [
      .ret (.bin .add (.int 9) (.bin .mod (.bin .fdiv (.nm 0) (.int 72)) (.int 6)))]) .nil,
    .ret (.bin .mod (.nm 0) (.int 9))]) }
noncomputable def f_L_worth : Fn := { name := "_law_worth", np := 2, vars := ["_law_number", "_law_mode"], body := (sts [
    .ifs (.cmp .eq (.nm 1) (.int 0)) (sts [
      .ret (.bin .mod (.nm 0) (.int 1000001))]) .nil,
    .ifs (.cmp .eq (.nm 1) (.int 1)) (sts [
      .ret (.bin .sub (.int 1000000) (.bin .mod (.nm 0) (.int 3)))]) .nil,
    .ret (.bin .mod (.nm 0) (.sub (.lst (.cons (.int 7) (.cons (.int 2) (.cons (.int 40) .nil)))) (.bin .sub (.nm 1) (.int 2))))]) }
noncomputable def f_L_table : Fn := { name := "_law_table", np := 3, vars := ["_law_script", "_law_heirs_here", "_law_many", "_law_mode", "_law_rows", "_law_heir", "_law_row", "_law_thing", "_law_k"], body := (sts [
    .asg 3 (.bin .mod (.call 10 (.cons (.nm 0) (.cons (.int 2) .nil))) (.int 5)),
    .asg 4 (.lst .nil),
    .fors (.one 5) .range (.nm 1) (sts [
      .asg 6 (.lst .nil),
      .fors (.one 7) .range (.nm 2) (sts [
        .asg 8 (.bin .add (.bin .mul (.nm 5) (.nm 2)) (.nm 7)),
        .expr (.append (.nm 6) (.call 14 (.cons (.bin .fdiv (.call 11 (.cons (.call 10 (.cons (.nm 0) (.cons (.bin .add (.int 4) (.bin .mod (.nm 8) (.int 36))) .nil))) (.cons (.nm 8) .nil))) (.int 3)) (.cons (.nm 3) .nil))))]),
      .expr (.append (.nm 4) (.nm 6))]),
    .ret (.nm 4)]) }
noncomputable def f_L_shares : Fn := { name := "_law_shares", np := 3, vars := ["_law_script", "_law_heirs_here", "_law_many", "_law_found", "_law_thing", "_law_to", "_law_heir"], body := (sts [
    .asg 3 (.comp (.lst .nil) (.one 6) .range (.nm 1) .nil),
    .fors (.one 4) .range (.nm 2) (sts [
      .asg 5 (.bin .mod (.bin .fdiv (.call 11 (.cons (.call 10 (.cons (.nm 0) (.cons (.bin .add (.int 40) (.bin .mod (.nm 4) (.int 8))) .nil))) (.cons (.nm 4) .nil))) (.int 5)) (.bin .sub (.bin .add (.nm 1) (.int 1)) (.b1 .int (.cmp .eq (.bin .mod (.call 10 (.cons (.nm 0) (.cons (.int 3) .nil))) (.int 3)) (.int 1))))),
      .ifs (.cmp .lt (.nm 5) (.nm 1)) (sts [
        .expr (.append (.sub (.nm 3) (.nm 5)) (.nm 4))]) .nil]),
    .ret (.nm 3)]) }
noncomputable def f_L_sum : Fn := { name := "_law_sum", np := 2, vars := ["_law_row", "_law_things_here", "_law_found", "_law_thing"], body := (sts [
    .asg 2 (.int 0),
    .fors (.one 3) .plain (.nm 1) (sts [
      .asg 2 (.bin .add (.nm 2) (.sub (.nm 0) (.nm 3)))]),
    .ret (.nm 2)]) }
noncomputable def f_L_copy : Fn := { name := "_law_copy", np := 1, vars := ["_law_rows", "_law_row"], body := (sts [
    .ret (.comp (.b1 .list (.nm 1)) (.one 1) .plain (.nm 0) .nil)]) }
noncomputable def f_is_envious : Fn := { name := "is_envious", np := 4, vars := ["table", "shares", "heir", "other"], body := (sts [
    .ret (.cmp .gt (.call 8 (.cons (.sub (.nm 0) (.nm 2)) (.cons (.sub (.nm 1) (.nm 3)) .nil))) (.call 8 (.cons (.sub (.nm 0) (.nm 2)) (.cons (.sub (.nm 1) (.nm 2)) .nil))))]) }
noncomputable def f_pairs_of : Fn := { name := "pairs_of", np := 2, vars := ["table", "shares", "found", "heir", "other"], body := (sts [
    .asg 2 (.lst .nil),
    .fors (.one 3) .range (.b1 .len (.nm 0)) (sts [
      .fors (.one 4) .range (.b1 .len (.nm 0)) (sts [
        .ifs (.call 22 (.cons (.nm 0) (.cons (.nm 1) (.cons (.nm 3) (.cons (.nm 4) .nil))))) (sts [
          .expr (.append (.nm 2) (.tup (.cons (.nm 3) (.cons (.nm 4) .nil))))]) .nil])]),
    .ret (.nm 2)]) }
noncomputable def f_spare : Fn := { name := "spare", np := 4, vars := ["table", "shares", "heir", "other"], body := (sts [
    .callS false 6 (.cons (.nm 0) (.cons (.nm 1) .nil)),
    .callS false 7 (.cons (.nm 0) (.cons (.nm 2) .nil)),
    .callS false 7 (.cons (.nm 0) (.cons (.nm 3) .nil)),
    .ifs (.cmp .eq (.nm 2) (.nm 3)) (sts [
      .raise .BadHeir "one heir twice"]) .nil,
    .dead]) }
noncomputable def f_is_ring : Fn := { name := "is_ring", np := 3, vars := ["table", "shares", "heirs", "pairs", "heir", "place"], body := (sts [
    .ifs (.boolop false (.cons (.not (.isinst (.nm 2) .list)) (.cons (.cmp .lt (.b1 .len (.nm 2)) (.int 2)) .nil))) (sts [
      .ret (.bool false)]) .nil,
    .ifs (.boolop false (.cons (.not (.b1 .all (.comp (.call 0 (.cons (.nm 4) (.cons (.int 0) (.cons (.bin .sub (.b1 .len (.nm 0)) (.int 1)) .nil)))) (.one 4) .plain (.nm 2) .nil))) (.cons (.cmp .ne (.b1 .lenset (.nm 2)) (.b1 .len (.nm 2))) .nil))) (sts [
      .ret (.bool false)]) .nil,
    .asg 3 (.call 23 (.cons (.nm 0) (.cons (.nm 1) .nil))),
    .ret (.b1 .all (.comp (.cmp .inn (.tup (.cons (.sub (.nm 2) (.nm 5)) (.cons (.sub (.nm 2) (.bin .mod (.bin .add (.nm 5) (.int 1)) (.b1 .len (.nm 2)))) .nil))) (.nm 3)) (.one 5) .range (.b1 .len (.nm 2)) .nil))]) }
noncomputable def f_turned : Fn := { name := "turned", np := 3, vars := ["table", "shares", "heirs"], body := (sts [
    .callS false 6 (.cons (.nm 0) (.cons (.nm 1) .nil)),
    .ifs (.not (.call 38 (.cons (.nm 0) (.cons (.nm 1) (.cons (.nm 2) .nil))))) (sts [
      .raise .BadRing "no ring"]) .nil,
    .dead]) }
noncomputable def f_need_aside : Fn := { name := "need_aside", np := 3, vars := ["table", "shares", "thing", "share"], body := (sts [
    .ifs (.not (.call 0 (.cons (.nm 2) (.cons (.int 0) (.cons (.bin .sub (.b1 .len (.sub (.nm 0) (.int 0))) (.int 1)) .nil))))) (sts [
      .raise .BadThing "no such thing"]) .nil,
    .fors (.one 3) .plain (.nm 1) (sts [
      .ifs (.cmp .inn (.nm 2) (.nm 3)) (sts [
        .raise .BadThing "the thing does not lie aside"]) .nil])]) }
noncomputable def f_steps : Fn := { name := "steps", np := 3, vars := ["table", "shares", "thing"], body := (sts [
    .callS false 6 (.cons (.nm 0) (.cons (.nm 1) .nil)),
    .callS false 40 (.cons (.nm 0) (.cons (.nm 1) (.cons (.nm 2) .nil))),
    .dead]) }
noncomputable def f_awarded : Fn := { name := "awarded", np := 3, vars := ["table", "shares", "thing"], body := (sts [
    .callS false 6 (.cons (.nm 0) (.cons (.nm 1) .nil)),
    .callS false 40 (.cons (.nm 0) (.cons (.nm 1) (.cons (.nm 2) .nil))),
    .dead]) }
noncomputable def f_is_order : Fn := { name := "is_order", np := 2, vars := ["table", "order", "heir"], body := (sts [
    .ifs (.boolop false (.cons (.not (.isinst (.nm 1) .list)) (.cons (.cmp .ne (.b1 .len (.nm 1)) (.b1 .len (.nm 0))) .nil))) (sts [
      .ret (.bool false)]) .nil,
    .ret (.boolop true (.cons (.b1 .all (.comp (.call 0 (.cons (.nm 2) (.cons (.int 0) (.cons (.bin .sub (.b1 .len (.nm 0)) (.int 1)) .nil)))) (.one 2) .plain (.nm 1) .nil)) (.cons (.cmp .eq (.b1 .lenset (.nm 1)) (.b1 .len (.nm 1))) .nil)))]) }
noncomputable def f_picked : Fn := { name := "picked", np := 2, vars := ["table", "order", "shares", "aside", "turn", "heir", "thing"], body := (sts [
    .callS false 5 (.cons (.nm 0) .nil),
    .ifs (.not (.call 46 (.cons (.nm 0) (.cons (.nm 1) .nil)))) (sts [
      .raise .BadOrder "no order"]) .nil,
    .dead,
    .dead,
    .dead,
    .dead,
    .dead]) }
noncomputable def f_Estate___init__ : Fn := { own := true, name := "__init__", np := 2, vars := ["self", "heirs"], body := (sts [
    .ifs (.not (.call 0 (.cons (.nm 1) (.cons (.int 1) (.cons (.glob "MOST_HEIRS") .nil))))) (sts [
      .raise .BadHeir "no such number of heirs"]) .nil,
    .dead,
    .dead]) }
noncomputable def f_L_envies : Fn := { name := "_law_envies", np := 2, vars := ["_law_rows", "_law_held", "_law_found", "_law_one", "_law_other"], body := (sts [
    .asg 2 (.lst .nil),
    .fors (.one 3) .range (.b1 .len (.nm 0)) (sts [
      .fors (.one 4) .range (.b1 .len (.nm 0)) (sts [
        .ifs (.cmp .gt (.call 17 (.cons (.sub (.nm 0) (.nm 3)) (.cons (.sub (.nm 1) (.nm 4)) .nil))) (.call 17 (.cons (.sub (.nm 0) (.nm 3)) (.cons (.sub (.nm 1) (.nm 3)) .nil)))) (sts [
          .expr (.append (.nm 2) (.tup (.cons (.nm 3) (.cons (.nm 4) .nil))))]) .nil])]),
    .ret (.nm 2)]) }
noncomputable def f_L_asked_3 : Fn := { name := "_law_asked", np := 5, vars := ["_law_kind", "_law_rows", "_law_held", "_law_bad_here", "_law_good"], body := (sts [
    .ifs (.cmp .eq (.nm 0) (.int 0)) (sts [
      .callS true 9 (.cons (.nm 1) (.cons (.nm 3) (.cons .none .nil)))]) .nil,
    .ifs (.cmp .eq (.nm 0) (.int 1)) (sts [
      .callS true 28 (.cons (.nm 1) (.cons (.nm 2) (.cons (.nm 3) (.cons (.nm 4) .nil))))]) .nil,
    .ifs (.cmp .eq (.nm 0) (.int 2)) (sts [
      .callS true 28 (.cons (.nm 1) (.cons (.nm 2) (.cons (.nm 4) (.cons (.nm 3) .nil))))]) .nil,
    .ifs (.cmp .eq (.nm 0) (.int 3)) (sts [
      .callS true 9 (.cons (.nm 1) (.cons (.nm 4) (.cons (.nm 3) .nil)))]) .nil,
    .ifs (.cmp .eq (.nm 0) (.int 4)) (sts [
      .callS true 42 (.cons (.nm 1) (.cons (.nm 2) (.cons (.nm 3) .nil)))]) .nil,
    .ifs (.cmp .eq (.nm 0) (.int 5)) (sts [
      .callS true 43 (.cons (.nm 1) (.cons (.nm 2) (.cons (.nm 3) .nil)))]) .nil,
    .ifs (.cmp .eq (.nm 0) (.int 6)) (sts [
      .callS true 39 (.cons (.nm 1) (.cons (.nm 2) (.cons (.nm 3) .nil)))]) .nil,
    .ifs (.cmp .eq (.nm 0) (.int 7)) (sts [
      .callS true 47 (.cons (.nm 1) (.cons (.nm 3) .nil))]) .nil,
    .newR 59 (.cons (.nm 3) .nil)]) }
noncomputable def f_L_word : TFn := { name := "_law_word", np := 5, vars := ["_law_kind", "_law_rows", "_law_held", "_law_bad_here", "_law_good", "error", "_law_found", "_law_one"], body := [
    .tryp 66 (.cons (.nm 0) (.cons (.nm 1) (.cons (.nm 2) (.cons (.nm 3) (.cons (.nm 4) .nil))))) 5 6 7 [.BadHeir, .BadThing, .BadRing] [.BadOrder, .BadTable, .BadShares] [.BadNote, .Full] ["heir", "thing", "ring", "order", "other", "other", "other", "other"],
    .st (.ret (.str "none"))] }
noncomputable def f_L_odd : Fn := { name := "_law_odd", np := 2, vars := ["_law_number", "_law_many"], body := (sts [
    .ret (.sub (.lst (.cons (.bool true) (.cons (.bool false) (.cons (.neg (.int 1)) (.cons (.nm 1) (.cons (.str "0") (.cons .none (.cons (.lst (.cons (.int 0) .nil)) (.cons .dict0 (.cons (.bin .add (.nm 1) (.int 7)) (.cons (.bin .sub (.neg (.nm 1)) (.int 1)) .nil))))))))))) (.bin .mod (.nm 0) (.int 10)))]) }
noncomputable def f_L_bad_list : Fn := { name := "_law_bad_list", np := 3, vars := ["_law_number", "_law_many", "_law_size", "_law_row", "_law_at_here", "_law_odd_here", "_law_one"], body := (sts [
    .asg 3 (.b1 .lrange (.nm 2)),
    .asg 4 (.bin .mod (.bin .fdiv (.nm 0) (.int 10)) (.bin .add (.nm 2) (.int 1))),
    .asg 5 (.call 68 (.cons (.bin .fdiv (.nm 0) (.int 100)) (.cons (.nm 1) .nil))),
    .ifs (.cmp .lt (.bin .mod (.nm 0) (.int 10)) (.int 5)) (sts [
      .ifs (.boolop false (.cons (.isc true (.nm 5) (some true)) (.cons (.isc true (.nm 5) (some false)) .nil))) (sts [
        .asg 3 (.comp (.nm 6) (.one 6) .plain (.nm 3) (.cons (.cmp .ne (.nm 6) (.b1 .int (.nm 5))) .nil))]) .nil,
      .ret (.bin .add (.bin .add (.slice false (.nm 3) (.nm 4)) (.lst (.cons (.nm 5) .nil))) (.slice true (.nm 3) (.nm 4)))]) .nil,
    .ifs (.boolop true (.cons (.cmp .lt (.bin .mod (.nm 0) (.int 10)) (.int 7)) (.cons (.cmp .gt (.nm 2) (.int 0)) .nil))) (sts [
      .ret (.bin .add (.nm 3) (.lst (.cons (.sub (.nm 3) (.bin .mod (.nm 4) (.nm 2))) .nil)))]) .nil,
    .ret (.sub (.lst (.cons (.b1 .tuple (.nm 3)) (.cons .none (.cons (.int 5) (.cons (.str "0") (.cons .dict0 .nil)))))) (.bin .mod (.bin .fdiv (.nm 0) (.int 10)) (.int 5)))]) }
noncomputable def f_L_bad_ring : Fn := { name := "_law_bad_ring", np := 3, vars := ["_law_number", "_law_rows", "_law_held", "_law_heirs_here", "_law_way", "_law_pairs", "_law_k", "_law_k"], body := (sts [
    .asg 3 (.b1 .len (.nm 1)),
    .ifs (.cmp .eq (.bin .mod (.nm 0) (.int 3)) (.int 0)) (sts [
      .callS true 69 (.cons (.bin .fdiv (.nm 0) (.int 3)) (.cons (.nm 3) (.cons (.nm 3) .nil)))]) .nil,
    .ifs (.cmp .eq (.bin .mod (.nm 0) (.int 3)) (.int 1)) (sts [
      .ret (.sub (.lst (.cons (.lst .nil) (.cons (.lst (.cons (.bin .mod (.bin .fdiv (.nm 0) (.int 3)) (.nm 3)) .nil)) .nil))) (.bin .mod (.bin .fdiv (.nm 0) (.int 60)) (.int 2)))]) .nil,
    .asg 4 (.comp (.bin .mod (.bin .add (.bin .fdiv (.nm 0) (.int 3)) (.nm 6)) (.nm 3)) (.one 6) .range (.mm false (.nm 3) (.bin .add (.int 2) (.bin .mod (.bin .fdiv (.nm 0) (.int 40)) (.int 3)))) .nil),
    .asg 5 (.call 65 (.cons (.nm 1) (.cons (.nm 2) .nil))),
    .ifs (.boolop true (.cons (.cmp .gt (.b1 .len (.nm 4)) (.int 1)) (.cons (.b1 .all (.comp (.cmp .inn (.tup (.cons (.sub (.nm 4) (.bin .sub (.nm 7) (.int 1))) (.cons (.sub (.nm 4) (.nm 7)) .nil))) (.nm 5)) (.one 7) .range (.b1 .len (.nm 4)) .nil)) .nil))) (sts [
      .ret (.bin .add (.nm 4) (.lst (.cons (.sub (.nm 4) (.int 0)) .nil)))]) .nil,
    .ret (.nm 4)]) }
noncomputable def f_L_bad : Fn := { name := "_law_bad", np := 4, vars := ["_law_kind", "_law_number", "_law_rows", "_law_held", "_law_heirs_here", "_law_many", "_law_told", "_law_share"], body := (sts [
    .asg 4 (.b1 .len (.nm 2)),
    .asg 5 (.b1 .len (.sub (.nm 2) (.int 0))),
    .ifs (.cmp .lt (.nm 0) (.int 3)) (sts [
      .callS true 68 (.cons (.nm 1) (.cons (.nm 4) .nil))]) .nil,
    .ifs (.cmp .eq (.nm 0) (.int 3)) (sts [
      .callS true 69 (.cons (.nm 1) (.cons (.nm 5) (.cons (.nm 5) .nil)))]) .nil,
    .ifs (.cmp .lt (.nm 0) (.int 6)) (sts [
      .asg 6 (.lst .nil),
      .fors (.one 7) .plain (.nm 3) (sts [
        .asg 6 (.bin .add (.nm 6) (.nm 7))]),
      .ifs (.boolop true (.cons (.cmp .eq (.bin .mod (.nm 1) (.int 3)) (.int 0)) (.cons (.cmp .gt (.b1 .len (.nm 6)) (.int 0)) .nil))) (sts [
        .ret (.sub (.nm 6) (.bin .mod (.bin .fdiv (.nm 1) (.int 3)) (.b1 .len (.nm 6))))]) .nil,
      .callS true 68 (.cons (.bin .fdiv (.nm 1) (.int 3)) (.cons (.nm 5) .nil))]) .nil,
    .ifs (.cmp .eq (.nm 0) (.int 6)) (sts [
      .callS true 70 (.cons (.nm 1) (.cons (.nm 2) (.cons (.nm 3) .nil)))]) .nil,
    .ifs (.cmp .eq (.nm 0) (.int 7)) (sts [
      .ret (.sub (.lst (.cons (.call 69 (.cons (.bin .fdiv (.nm 1) (.int 2)) (.cons (.nm 4) (.cons (.nm 4) .nil)))) (.cons (.b1 .lrange (.bin .sub (.nm 4) (.int 1))) .nil))) (.bin .mod (.nm 1) (.int 2)))]) .nil,
    .ret (.sub (.lst (.cons (.int 0) (.cons (.neg (.int 1)) (.cons (.int 9) (.cons (.bool true) (.cons (.bool false) (.cons (.str "3") (.cons .none (.cons (.lst (.cons (.int 2) .nil)) (.cons .dict0 (.cons (.bin .add (.int 9) (.bin .mod (.bin .fdiv (.nm 1) (.int 10)) (.int 1000))) .nil))))))))))) (.bin .mod (.nm 1) (.int 10)))]) }
noncomputable def f_law_4 : TFn := { name := "law", np := 1, vars := ["_law_script", "_law_heirs_here", "_law_many", "_law_rows", "_law_held", "_law_number", "_law_kind", "_law_good", "_law_bad_here", "_law_word_here", "_law_handed", "_law_given_to"], body := [
    .st (.asg 1 (.call 12 (.cons (.call 10 (.cons (.nm 0) (.cons (.int 0) .nil))) .nil))),
    .st (.asg 2 (.call 13 (.cons (.call 10 (.cons (.nm 0) (.cons (.int 1) .nil))) .nil))),
    .st (.asg 3 (.call 15 (.cons (.nm 0) (.cons (.nm 1) (.cons (.nm 2) .nil))))),
    .st (.asg 4 (.call 16 (.cons (.nm 0) (.cons (.nm 1) (.cons (.nm 2) .nil))))),
    .st (.asg 5 (.call 11 (.cons (.call 10 (.cons (.nm 0) (.cons (.int 48) .nil))) (.cons (.int 1) .nil)))),
    .st (.asg 6 (.bin .mod (.call 10 (.cons (.nm 0) (.cons (.int 49) .nil))) (.int 9))),
    .st (.asg 7 (.bin .mod (.call 10 (.cons (.nm 0) (.cons (.int 50) .nil))) (.nm 1))),
    .st (.asg 8 (.call 71 (.cons (.nm 6) (.cons (.nm 5) (.cons (.nm 3) (.cons (.nm 4) .nil)))))),
    .st (.ifs (.boolop true (.cons (.cmp .inn (.nm 6) (.tup (.cons (.int 1) (.cons (.int 2) .nil)))) (.cons (.cmp .eq (.bin .mod (.bin .fdiv (.nm 5) (.int 50)) (.int 4)) (.int 1)) .nil))) (sts [
        .asg 8 (.nm 7)]) .nil),
    .st (.asg 9 (.sub (.lst (.cons (.str "heir") (.cons (.str "heir") (.cons (.str "heir") (.cons (.str "thing") (.cons (.str "thing") (.cons (.str "thing") (.cons (.str "ring") (.cons (.str "order") (.cons (.str "heir") .nil)))))))))) (.nm 6))),
    .st (.asg 10 (.call 18 (.cons (.nm 3) .nil))),
    .st (.asg 11 (.call 18 (.cons (.nm 4) .nil))),
    .retcmp 67 (.cons (.nm 6) (.cons (.nm 10) (.cons (.nm 11) (.cons (.nm 8) (.cons (.nm 7) .nil))))) 9 (.cons (.cmp .eq (.nm 10) (.nm 3)) (.cons (.cmp .eq (.nm 11) (.nm 4)) .nil))] }
noncomputable def FT : Nat → Option Fn
  | 0 => some f_is_among
  | 1 => some f_is_row
  | 2 => some f_is_table
  | 3 => some f_are_things
  | 4 => some f_are_shares
  | 5 => some f_need_table
  | 6 => some f_need_shares
  | 7 => some f_need_heir
  | 8 => some f_sum_of
  | 9 => some f_worth
  | 10 => some f_L_at
  | 11 => some f_L_mixed
  | 12 => some f_L_heirs
  | 13 => some f_L_things
  | 14 => some f_L_worth
  | 15 => some f_L_table
  | 16 => some f_L_shares
  | 17 => some f_L_sum
  | 18 => some f_L_copy
  | 22 => some f_is_envious
  | 23 => some f_pairs_of
  | 28 => some f_spare
  | 38 => some f_is_ring
  | 39 => some f_turned
  | 40 => some f_need_aside
  | 42 => some f_steps
  | 43 => some f_awarded
  | 46 => some f_is_order
  | 47 => some f_picked
  | 59 => some f_Estate___init__
  | 65 => some f_L_envies
  | 66 => some f_L_asked_3
  | 68 => some f_L_odd
  | 69 => some f_L_bad_list
  | 70 => some f_L_bad_ring
  | 71 => some f_L_bad
  | _ => none
noncomputable def TT : Nat → Option TFn
  | 67 => some f_L_word
  | 72 => some f_law_4
  | _ => none

end TD

namespace TD
open PySem PySem.W PyProof.Rows
noncomputable def ids04 : List Nat := [0, 1, 2, 3, 4, 5, 6, 7, 8, 9, 10, 11, 12, 13, 14, 15, 16, 17, 18, 22, 23, 28, 38, 39, 40, 42, 43, 46, 47, 59, 65, 66, 68, 69, 70, 71]
theorem est_ok : chkEst (viewOf PySem.Challenge.rw_uf020018_04.row.prog) [] = true := by kernel_rfl
theorem ids_ok : ids04.all (fun f => (cond ([59].contains f) (chkMeth (viewOf PySem.Challenge.rw_uf020018_04.row.prog) [] FT ids04 f) (chkRec (viewOf PySem.Challenge.rw_uf020018_04.row.prog) FT ids04 f))) = true := by kernel_rfl
theorem tids_ok : [67, 72].all (chkTRec (viewOf PySem.Challenge.rw_uf020018_04.row.prog) FT ids04 TT [67, 72]) = true := by kernel_rfl
theorem bi_ok : biNames.all (fun x => chkFree (viewOf PySem.Challenge.rw_uf020018_04.row.prog) [] (Str.ofString x)) = true := by kernel_rfl
end TD

namespace TD
open PySem (Str Addr)

noncomputable def GS : List (String × Int) := [("MOST_HEIRS", 8), ("MOST_THINGS", 40), ("MOST_WORTH", 1000000)]
noncomputable abbrev CT (n : Nat) : CallT := callT FT TT (globOf GS) n
noncomputable abbrev CN (n : Nat) : CallT := callN FT (globOf GS) n

set_option hygiene false in
set_option compiler.extract_closed false in
local macro_rules | `(tactic| walk_at "s") => `(tactic| with_reducible (first
  | refine s_cons ?_ | refine s_callR ?_ | refine s_callE ?_ | refine s_raise ?_ | refine t_cons ?_ | refine t_st ?_ | refine t_nil ?_ | refine t_retcmp ?_ | refine e_str ?_ | refine s_newR ?_ | refine seqQ_next ?_ | refine seqQ_ret ?_ | refine retQ_ret ?_ | refine retQ_next ?_ | refine s_nil ?_ | refine s_ret ?_ | refine s_asg ?_ | refine s_ifs ?_ | refine s_expr ?_ | refine s_fors ?_
  | refine e_pv _ (by with_unfolding_all rfl) ?_ | refine l_pv _ (by with_unfolding_all rfl) ?_
  | refine e_bin ?_ | refine e_negI ?_ | refine e_not ?_ | refine asB_ ?_ | refine e_boolop ?_ | refine bs_cons ?_ | refine bs_nil ?_ | refine e_cmp ?_ | refine e_cmp2 ?_ | refine e_isN ?_ | refine e_call ?_ | refine l_nil ?_ | refine l_cons ?_
  | refine e_b1 ?_ | refine e_isinst ?_ | refine e_append ?_ | refine e_extend ?_ | refine e_pop ?_ | refine e_index ?_ | refine s_asgSub ?_ | refine e_sub ?_ | refine e_slice ?_ | refine e_mm ?_ | refine mmQ_ ?_ | refine e_lst ?_ | refine e_tup ?_ | refine e_comp ?_
  | refine bin_add ?_ | refine bin_sub ?_ | refine bin_mod (by unfold tiny; walk_at "o") ?_ | refine bin_fdiv (by unfold tiny; walk_at "o") ?_
  | refine cmp_lt ?_ | refine cmp_le ?_ | refine cmp_gt ?_ | refine cmp_ge ?_ | refine cmp_eqI ?_ | refine cmp_neI ?_
  | refine bsQ_nil ?_ | refine bsQ_and_true ?_ | refine bsQ_and_false ?_ | refine bsQ_or_true ?_ | refine bsQ_or_false ?_ | refine ifQ_true ?_ | refine ifQ_false ?_ | refine plain_none ?_ | refine optQ_t (by with_unfolding_all rfl) ?_ | refine optQ_f (by with_unfolding_all rfl) ?_ | simp only [Bool.not_false, Bool.not_true]))
set_option hygiene false in
set_option compiler.extract_closed false in
local macro_rules | `(tactic| walk_at "ss") => `(tactic| repeat walk_at "s")

theorem lid_of {n : Nat} (h : n < 1000) : n < lid := Nat.lt_of_lt_of_le h (by decide)
theorem rng_lid {n : Int} (h : 0 ≤ n ∧ n ≤ 100) : 0 ≤ n ∧ n < lid := ⟨h.1, by unfold lid; walk_at "o"⟩

section
variable {Q : Val → Mem → Prop} {X : Nat → Mem → Prop} {m : Mem} {n : Nat}

theorem is_among_spec {v lo hi : Int} (h : Q (.bool (decide (lo ≤ v ∧ v ≤ hi))) m) : CN (n + 1) 0 [.int v, .int lo, .int hi] Q X m := by
  (refine call_eq rfl rfl ?_; dsimp only [f_is_among, sts, loc0, List.map, List.replicate, List.cons_append, List.nil_append, List.length, Nat.reduceAdd, Nat.reduceSub])
  walk_at "ss"
  with_reducible refine ifQ_dec (fun q => ?_) (fun q => ?_)
  · walk_at "ss"
    simp at q
    simpa [q] using h
  · walk_at "ss"
    simp at q
    have : ¬ (lo ≤ v ∧ v ≤ hi) := by walk_at "o"
    simpa [this] using h

noncomputable def inW01 (x : Int) : Bool := decide (0 ≤ x ∧ x ≤ 1000000)
theorem is_row_spec {v : Val} {r : List Int} {many : Int} (hv : IsI m v r) (hl : r.length < 1000) (h : ∀ m', Ext m m' → Q (.bool (decide ((r.length : Int) = many) && r.all inW01)) m') : CN (n + 2) 1 [v, .int many] Q X m := by
  (refine call_eq rfl rfl ?_; dsimp only [f_is_row, sts, loc0, List.map, List.replicate, List.cons_append, List.nil_append, List.length, Nat.reduceAdd, Nat.reduceSub])
  walk_at "ss"
  refine isList_ints hv ?_
  walk_at "ss"
  refine len_ints hv (lid_of (by first | assumption | walk_at "o")) ?_
  walk_at "ss"
  with_reducible refine ifQ_dec (fun q => ?_) (fun q => ?_)
  · walk_at "ss"
    simp at q
    have := h m .refl
    simpa [q] using this
  · walk_at "ss"
    simp at q
    refine items_list hv.seq (by unfold lid; simp; walk_at "o") ?_
    refine comp_pure (g := fun x => match x with | .int i => .bool (inW01 i) | _ => .none) rfl (fun x hx P hP => ?_) ?_
    · obtain ⟨i, _, rfl⟩ := List.mem_map.mp hx
      walk_at "ss"
      exact is_among_spec hP
    · refine freshL_ (by unfold lid; simp; walk_at "o") (fun a ha => ?_)
      refine b1_all (bs := r.map inW01) (by rw [IsL.new.lst]; simp) ?_
      walk_at "ss"
      exact Qb (h _ (Ext.set ha)) (by simp [q, List.all_map, Function.comp_def])

noncomputable def rowOk (k : Nat) (r : List Int) : Bool := decide (r.length = k) && r.all inW01
noncomputable def tabOk (t : List (List Int)) : Bool := match t with
  | [] => false
  | r :: _ => decide (t.length ≤ 8) && (decide (r.length ≤ 40) && t.all (rowOk r.length))
theorem is_table_spec {v : Val} {t : List (List Int)} (hv : IsT m v t) (hl : t.length < 1000) (hr : ∀ r ∈ t, r.length < 1000) (h : ∀ m', Ext m m' → Q (.bool (tabOk t)) m') : CN (n + 3) 2 [v] Q X m := by
  (refine call_eq rfl rfl ?_; dsimp only [f_is_table, sts, loc0, List.map, List.replicate, List.cons_append, List.nil_append, List.length, Nat.reduceAdd, Nat.reduceSub])
  walk_at "ss"
  refine isList_ll hv ?_
  walk_at "ss"
  refine len_ll hv (lid_of (by first | assumption | walk_at "o")) ?_
  walk_at "ss"
  have noneg : tabOk t = true → 1 ≤ t.length ∧ t.length ≤ 8 := fun q => by
    cases t with
    | nil => cases q
    | cons r t => simp [tabOk] at q; exact ⟨by simp, by simpa using q.1⟩
  with_reducible refine ifQ_dec (fun q1 => ?_) (fun q1 => ?_)
  rotate_left
  · walk_at "ss"
    exact Qb (h m .refl) (by simp at q1; cases e : tabOk t with | false => rfl | true => have := noneg e; walk_at "o")
  walk_at "ss"
  with_reducible refine ifQ_dec (fun q => ?_) (fun q => ?_)
  · walk_at "ss"
    exact Qb (h m .refl) (by simp at q; cases e : tabOk t with | false => rfl | true => have := noneg e; walk_at "o")
  simp at q q1
  cases t with
  | nil => simp at q1
  | cons r t =>
  have hr0 := hr r (.head _)
  walk_at "ss"
  refine sub_ll hv (by walk_at "o") (x := r) (by simp) (lid_of (by first | assumption | walk_at "o")) fun y hy => ?_
  refine isList_ints hy ?_
  walk_at "ss"
  refine sub_ll hv (by walk_at "o") (x := r) (by simp) (lid_of (by first | assumption | walk_at "o")) fun y hy => ?_
  refine len_ints hy (lid_of (by first | assumption | walk_at "o")) ?_
  walk_at "ss"
  with_reducible refine ifQ_dec (fun q2 => ?_) (fun q2 => ?_)
  · walk_at "ss"
    exact Qb (h m .refl) (by simp at q2; simp [tabOk]; intro _ h1; walk_at "o")
  simp at q2
  walk_at "ss"
  obtain ⟨xs, e1, e2⟩ := hv
  refine items_list e1.seq (by rw [e2.length]; unfold lid; walk_at "o") ?_
  have hv : IsT m v (r :: t) := ⟨xs, e1, e2⟩
  refine comp_inv (fun k acc m' => Ext m m' ∧ acc = ((r :: t).take k).map fun x => .bool (rowOk r.length x)) ⟨.refl, by simp⟩ (fun k x acc m' hx hI P hP => ?_) fun acc m' hI => ?_
  · obtain ⟨E, rfl⟩ := hI
    obtain ⟨z, hz, hxz⟩ := e2.get hx
    refine compF_one ?_
    walk_at "ss"
    refine sub_ll (hv.ext E) (by walk_at "o") (x := r) (by simp) (lid_of (by first | assumption | walk_at "o")) fun y hy => ?_
    refine len_ints hy (lid_of (by first | assumption | walk_at "o")) ?_
    walk_at "ss"
    refine is_row_spec (hxz.ext E) (hr z (List.mem_of_getElem? hz)) fun m2 E2 => ?_
    refine hP _ _ ⟨?_, E.trans E2, ?_⟩
    · exact e1.stands (e1.ext (E.trans E2))
    · rw [List.take_add_one, hz]; simp [rowOk, show ((z.length : Int) = r.length) = (z.length = r.length) by simp only [eq_iff_iff]; walk_at "o"]
  · obtain ⟨E, rfl⟩ := hI
    rw [e2.length, List.take_length]
    refine freshL_ (by unfold lid; simp at hl ⊢; walk_at "o") (fun a ha => ?_)
    refine b1_all (bs := (r :: t).map (rowOk r.length)) (by rw [IsL.new.lst]; simp) ?_
    walk_at "ss"
    exact Qb (h _ (E.trans (Ext.set ha))) (by
      have h1 : (r :: t).length ≤ 8 := by walk_at "o"
      have h2 : r.length ≤ 40 := by walk_at "o"
      simp only [tabOk, List.all_map, Function.comp_def, h1, h2, decide_true, Bool.true_and, id])

theorem are_things_spec {v : Val} {is : List Int} {many : Int} (hv : IsI m v is) (hl : is.length < 1000) (h : ∀ m', Ext m m' → Q (.bool (is.all (fun x => decide (0 ≤ x ∧ x ≤ many - 1)) && decide is.Nodup)) m') : CN (n + 2) 3 [v, .int many] Q X m := by
  (refine call_eq rfl rfl ?_; dsimp only [f_are_things, sts, loc0, List.map, List.replicate, List.cons_append, List.nil_append, List.length, Nat.reduceAdd, Nat.reduceSub])
  walk_at "ss"
  refine isList_ints hv ?_
  walk_at "ss"
  refine items_list hv.seq (by unfold lid; simp; walk_at "o") ?_
  refine comp_pure (g := fun x => match x with | .int i => .bool (decide (0 ≤ i ∧ i ≤ many - 1)) | _ => .none) rfl (fun x hx P hP => ?_) ?_
  · obtain ⟨i, _, rfl⟩ := List.mem_map.mp hx
    walk_at "ss"
    exact is_among_spec hP
  refine freshL_ (by unfold lid; simp; walk_at "o") (fun a ha => ?_)
  refine b1_all (bs := is.map (fun i => decide (0 ≤ i ∧ i ≤ many - 1))) (by rw [IsL.new.lst]; simp) ?_
  walk_at "ss"
  have E : Ext m _ := Ext.set ha (o := AObj.list (List.map (fun x => match x with | .int i => .bool (decide (0 ≤ i ∧ i ≤ many - 1)) | _ => .none) (List.map Val.int is)))
  with_reducible refine ifQ_dec (fun q => ?_) (fun q => ?_)
  · walk_at "ss"
    exact Qb (h _ E) (by simp [List.all_map, Function.comp_def] at q ⊢; obtain ⟨x, h1, h2⟩ := q; intro h3; have := h3 x h1; walk_at "o")
  · walk_at "ss"
    refine b1_lenset (hv.ext E).lst hl fun k hk hn => ?_
    walk_at "ss"
    refine len_ints (hv.ext E) (lid_of (by first | assumption | walk_at "o")) ?_
    walk_at "ss"
    exact Qb (h _ E) (by
      have h1 : (is.all fun i => decide (0 ≤ i ∧ i ≤ many - 1)) = true := by simpa [List.all_map, Function.comp_def] using q
      rw [h1, Bool.true_and]
      by_cases hd : is.Nodup
      · simp [hd, hn.mpr hd]
      · have : ¬ (k : Int) = is.length := fun e => hd (hn.mp (by walk_at "o"))
        simp [hd, this])

theorem sorted_eq {a b : List Int} (hp : a.Perm b) (ha : a.Pairwise (· ≤ ·)) (hb : b.Pairwise (· ≤ ·)) : a = b :=
  hp.eq_of_pairwise (fun x y _ _ h1 h2 => by walk_at "o") ha hb

theorem b1_sorted {v : Val} {is : List Int} (hv : IsI m v is) (hl : is.length < 64) (h : ∀ js : List Int, js.Perm is → js.Pairwise (· ≤ ·) → freshL m (js.map .int) Q) : wpB1 .sorted v Q m := ⟨_, hv.lst, .inl ⟨is, rfl, hl, h⟩⟩
noncomputable def thingsOk (many : Int) (is : List Int) : Bool := is.all (fun x => decide (0 ≤ x ∧ x ≤ many - 1)) && decide is.Nodup
noncomputable def shareOk (many : Int) (is : List Int) : Bool := thingsOk many is && decide (is.Pairwise (· ≤ ·))
theorem are_shares_spec {v : Val} {t : List (List Int)} {heirs many : Int} (hv : IsT m v t) (hl : t.length < 100) (hr : ∀ r ∈ t, r.length < 64) (hf : t.flatten.length < 900)
    (h : ∀ m', Ext m m' → Q (.bool (decide ((t.length : Int) = heirs) && (t.all (shareOk many) && decide t.flatten.Nodup))) m') : CN (n + 3) 4 [v, .int heirs, .int many] Q X m := by
  (refine call_eq rfl rfl ?_; dsimp only [f_are_shares, sts, loc0, List.map, List.replicate, List.cons_append, List.nil_append, List.length, Nat.reduceAdd, Nat.reduceSub])
  walk_at "ss"
  refine isList_ll hv ?_
  walk_at "ss"
  refine len_ll hv (lid_of (by first | assumption | walk_at "o")) ?_
  walk_at "ss"
  with_reducible refine ifQ_dec (fun q => ?_) (fun q => ?_)
  · walk_at "ss"
    simp at q
    exact Qb (h _ .refl) (by simp [q])
  simp at q
  walk_at "ss"
  refine freshL_ (lid_of (by decide)) fun f hf0 => ?_
  walk_at "ss"
  obtain ⟨xs, e1, e2⟩ := hv
  have E0 : Ext m (m.set f (.list [])) := Ext.set hf0
  refine items_list (e1.ext E0).seq (by rw [e2.length]; unfold lid; walk_at "o") ?_
  refine for_inv (fun k l m' => ∃ y, l = [some v, some (.int heirs), some (.int many), some (.ref f), y] ∧ (∃ mr, Ext m mr ∧ mr f = none ∧ m' = mr.set f (.list ((t.take k).flatten.map .int))) ∧ (t.take k).all (shareOk many) = true)
    ⟨none, rfl, ⟨m, .refl, hf0, by simp⟩, by simp⟩ (fun k x l m' hx hI P hP => ?_) fun l m' hI => ?_
  · obtain ⟨y, rfl, ⟨mr, Er, hrf, rfl⟩, hall⟩ := hI
    obtain ⟨z, hz, hxz⟩ := e2.get hx
    refine bodyF_one ?_
    dsimp only [setV]
    have Em : Ext m (mr.set f (.list ((t.take k).flatten.map .int))) := Er.trans (Ext.set hrf)
    have hzt := List.mem_of_getElem? hz
    walk_at "ss"
    refine are_things_spec (hxz.ext Em) (by have := hr z hzt; walk_at "o") fun m2 E2 => ?_
    walk_at "ss"
    have no : shareOk many z = false → (t.all (shareOk many)) = false := fun q => by
      rw [List.all_eq_false]; exact ⟨z, hzt, by simp [q]⟩
    with_reducible refine bsQ_dec (fun q1 => ?_) (fun q1 => ?_)
    rotate_left
    · walk_at "ss"
      with_reducible refine ifQ_t (by simpa using q1) ?_
      walk_at "ss"
      with_reducible refine loopQ_ret ?_
      walk_at "ss"
      exact Qb (h _ (Em.trans E2)) (by
        have hq : (!thingsOk many z) = true := q1
        rw [no (by simp at hq; simp [shareOk, hq])]; simp)
    have hth : thingsOk many z = true := by unfold thingsOk; simpa using q1
    walk_at "ss"
    refine b1_sorted ((hxz.ext Em).ext E2) (hr z hzt) fun js hp hs => ?_
    refine freshL_ (by rw [List.length_map, hp.length_eq]; have := hr z hzt; unfold lid; walk_at "o") fun c hc => ?_
    have E3 := E2.trans (Ext.set hc (o := .list (js.map .int)))
    walk_at "ss"
    refine cmp_neII (a := js) (b := z) IsL.new ((hxz.ext Em).ext E3) ?_
    walk_at "ss"
    with_reducible refine ifQ_dec (fun q2 => ?_) (fun q2 => ?_)
    · walk_at "ss"
      with_reducible refine loopQ_ret ?_
      walk_at "ss"
      exact Qb (h _ (Em.trans E3)) (by
        rw [no (by unfold shareOk; simp at q2; simp; intro _; exact fun hz' => absurd (sorted_eq hp hs hz') q2)]; simp)
    have hjz : js = z := by simpa using q2
    subst hjz
    have hok : shareOk many js = true := by unfold shareOk; rw [hth]; simpa using hs
    walk_at "ss"
    have hmf := E3 f _ set_eq
    refine isL_ hmf ?_
    walk_at "ss"
    obtain ⟨b, rfl, hb⟩ := hxz
    have hb3 := E3 b _ (Em b _ hb)
    have hlen : (List.map Val.int (List.take k t).flatten).length + (List.map Val.int js).length < lid := by
      have h1 : (t.take (k + 1)).flatten.length ≤ t.flatten.length := by
        conv => rhs; rw [← List.take_append_drop (k + 1) t]
        rw [List.flatten_append, List.length_append]; walk_at "o"
      rw [List.take_add_one, hz] at h1
      simp only [Option.toList_some, List.flatten_append, List.length_append, List.flatten_singleton] at h1
      unfold lid; simp only [List.length_map]; walk_at "o"
    refine extQ_ (ne_of hf0 hb) hmf hb3 hlen ?_
    walk_at "ss"
    with_reducible refine loopQ_next (hP _ _ ?_)
    obtain ⟨mr', E4, hrf', e4⟩ := grow_set (L' := .list (List.map Val.int (List.take k t).flatten ++ List.map Val.int js)) hrf E3
    rw [e4]
    have E5 : Ext m (mr'.set f (.list (List.map Val.int (List.take k t).flatten ++ List.map Val.int js))) := (Er.trans E4).trans (Ext.set hrf')
    refine ⟨(e1.ext E0).stands (e1.ext E5), some (.ref b), rfl, ⟨mr', Er.trans E4, hrf', ?_⟩, ?_⟩
    · rw [List.take_add_one, hz]; simp
    · rw [List.take_add_one, hz]; simp only [List.all_append, hall]; simp [hok]
  · obtain ⟨y, rfl, ⟨mr, Er, hrf, rfl⟩, hall⟩ := hI
    rw [e2.length, List.take_length] at hall ⊢
    walk_at "ss"
    refine b1_lenset (is := t.flatten) IsL.new.lst (by walk_at "o") fun k hk hn => ?_
    walk_at "ss"
    refine len_ints (is := t.flatten) IsL.new (lid_of (by first | assumption | walk_at "o")) ?_
    walk_at "ss"
    exact Qb (h _ (Er.trans (Ext.set hrf))) (by
      rw [hall]; simp only [q, decide_true, Bool.true_and]
      by_cases hd : t.flatten.Nodup
      · simp [hd, hn.mpr hd]
      · have : ¬ (k : Int) = t.flatten.length := fun e => hd (hn.mp (by walk_at "o"))
        rw [decide_eq_false this, decide_eq_false hd])

theorem need_table_spec {v : Val} {t : List (List Int)} (hv : IsT m v t) (hl : t.length < 1000) (hr : ∀ r ∈ t, r.length < 1000) (ht : tabOk t = true) (h : ∀ m', Ext m m' → Q .none m') : CN (n + 4) 5 [v] Q X m := by
  (refine call_eq rfl rfl ?_; dsimp only [f_need_table, sts, loc0, List.map, List.replicate, List.cons_append, List.nil_append, List.length, Nat.reduceAdd, Nat.reduceSub])
  walk_at "ss"
  refine is_table_spec hv hl hr fun m' E => ?_
  rw [ht]
  walk_at "ss"
  exact h _ E
theorem need_shares_spec {v w : Val} {t : List (List Int)} {u : List (List Int)} {r : List Int} {t' : List (List Int)} (hv : IsT m v t) (hw : IsT m w u) (et : t = r :: t') (hl : t.length < 1000) (hr : ∀ r ∈ t, r.length < 1000) (ht : tabOk t = true)
    (hl' : u.length < 100) (hr' : ∀ r ∈ u, r.length < 64) (hf : u.flatten.length < 900) (hu : u.length = t.length) (hs : u.all (shareOk r.length) = true) (hn : u.flatten.Nodup) (h : ∀ m', Ext m m' → Q .none m') : CN (n + 5) 6 [v, w] Q X m := by
  (refine call_eq rfl rfl ?_; dsimp only [f_need_shares, sts, loc0, List.map, List.replicate, List.cons_append, List.nil_append, List.length, Nat.reduceAdd, Nat.reduceSub])
  walk_at "ss"
  refine need_table_spec hv hl hr ht fun m' E => ?_
  walk_at "ss"
  refine len_ll (hv.ext E) (lid_of (by first | assumption | walk_at "o")) ?_
  walk_at "ss"
  have hr0 := hr r (by rw [et]; exact .head _)
  refine sub_ll (hv.ext E) (by walk_at "o") (x := r) (by rw [et]; simp) (lid_of (by first | assumption | walk_at "o")) fun y hy => ?_
  walk_at "ss"
  refine len_ints hy (lid_of (by first | assumption | walk_at "o")) ?_
  walk_at "ss"
  refine are_shares_spec (hw.ext E) hl' hr' hf fun m2 E2 => ?_
  rw [hs, hu, decide_eq_true hn, decide_eq_true rfl]
  walk_at "ss"
  refine ifQ_f rfl ?_
  walk_at "ss"
  exact h _ (E.trans E2)
theorem need_heir_spec {v : Val} {t : List (List Int)} {k : Int} (hv : IsT m v t) (hl : t.length < 1000) (hk : 0 ≤ k ∧ k < t.length) (h : Q .none m) : CN (n + 2) 7 [v, .int k] Q X m := by
  (refine call_eq rfl rfl ?_; dsimp only [f_need_heir, sts, loc0, List.map, List.replicate, List.cons_append, List.nil_append, List.length, Nat.reduceAdd, Nat.reduceSub])
  walk_at "ss"
  refine len_ll hv (lid_of (by first | assumption | walk_at "o")) ?_
  walk_at "ss"
  refine is_among_spec ?_
  rw [decide_eq_true (by walk_at "o")]
  walk_at "ss"
  exact h

noncomputable def sumAt (r : List Int) (is : List Int) : Int := (is.map fun i => r.getD i.toNat 0).sum
theorem getD_some {r : List Int} {k : Nat} (h : k < r.length) : r[k]? = some (r.getD k 0) := by
  rw [List.getD_eq_getElem?_getD, List.getElem?_eq_getElem h]; rfl
theorem sum_of_spec {v w : Val} {r is : List Int} (hv : IsI m v r) (hw : IsI m w is) (hl : r.length < 1000) (hl' : is.length < 1000) (hr : ∀ x ∈ r, small x) (hi : ∀ i ∈ is, 0 ≤ i ∧ i.toNat < r.length) (h : ∀ m', Ext m m' → Q (.int (sumAt r is)) m') : CN (n + 1) 8 [v, w] Q X m := by
  (refine call_eq rfl rfl ?_; dsimp only [f_sum_of, sts, loc0, List.map, List.replicate, List.cons_append, List.nil_append, List.length, Nat.reduceAdd, Nat.reduceSub])
  walk_at "ss"
  refine items_list hw.seq (by unfold lid; simp; walk_at "o") ?_
  refine comp_pure (g := fun x => match x with | .int i => .int (r.getD i.toNat 0) | _ => .none) rfl (fun x hx P hP => ?_) ?_
  · obtain ⟨i, hi', rfl⟩ := List.mem_map.mp hx
    walk_at "ss"
    exact sub_ints hv (hi i hi').1 (getD_some (hi i hi').2) (lid_of (by first | assumption | walk_at "o")) hP
  refine freshL_ (by unfold lid; simp; walk_at "o") (fun a ha => ?_)
  refine b1_sum (is := is.map fun i => r.getD i.toNat 0) (by rw [IsL.new.lst]; simp) (fun x hx => ?_) (by simp; unfold lid; walk_at "o") ?_
  · obtain ⟨i, hi', rfl⟩ := List.mem_map.mp hx
    exact hr _ (List.mem_of_getElem? (getD_some (hi i hi').2))
  walk_at "ss"
  exact h _ (Ext.set ha)
theorem tabOk_row {t : List (List Int)} (ht : tabOk t = true) : ∃ r t', t = r :: t' ∧ t.length ≤ 8 ∧ r.length ≤ 40 ∧ ∀ x ∈ t, x.length = r.length ∧ ∀ i ∈ x, 0 ≤ i ∧ i ≤ 1000000 := by
  cases t with
  | nil => cases ht
  | cons r t' =>
    simp only [tabOk, Bool.and_eq_true, decide_eq_true_eq, List.all_eq_true] at ht
    refine ⟨r, t', rfl, ht.1, ht.2.1, fun x hx => ?_⟩
    have := ht.2.2 x hx
    simp only [rowOk, Bool.and_eq_true, decide_eq_true_eq, List.all_eq_true, inW01] at this
    exact this
noncomputable def cell (ns : List Int) (k : Nat) : Int := ns.getD k 0
theorem at_spec {ns : List Int} {k : Int} (h0 : 0 ≤ k) (hl : ns.length < 1000) (h : Q (.int (cell ns k.toNat)) m) : CN (n + 1) 10 [.frz (ns.map .int), .int k] Q X m := by
  (refine call_eq rfl rfl ?_; dsimp only [f_L_at, sts, loc0, List.map, List.replicate, List.cons_append, List.nil_append, List.length, Nat.reduceAdd, Nat.reduceSub])
  walk_at "ss"
  refine b1_len (xs := ns.map .int) rfl (by unfold lid; simp; walk_at "o") ?_
  walk_at "ss"
  with_reducible refine ifQ_dec (fun q => ?_) (fun q => ?_)
  · walk_at "ss"
    simp at q
    have hk : k.toNat < ns.length := by walk_at "o"
    refine subW_ (xs := ns.map .int) rfl (place_nat h0 (by simpa using hk)) (x := .int (cell ns k.toNat)) (by rw [List.getElem?_map, getD_some hk]; rfl) (by unfold lid; simp; walk_at "o") ?_
    walk_at "ss"
    exact h
  · walk_at "ss"
    simp at q
    exact Qi h (by unfold cell; rw [List.getD_eq_getElem?_getD, List.getElem?_eq_none (by walk_at "o")]; rfl)
noncomputable def mixed (c k : Int) : Int := ((c + 7919 * k + 17) * 48271).fmod 2147483647
theorem mixed_spec {c k : Int} (h : Q (.int (mixed c k)) m) : CN (n + 1) 11 [.int c, .int k] Q X m := by
  (refine call_eq rfl rfl ?_; dsimp only [f_L_mixed, sts, loc0, List.map, List.replicate, List.cons_append, List.nil_append, List.length, Nat.reduceAdd, Nat.reduceSub])
  walk_at "ss"
  refine bin_mul (.inl (by unfold small; walk_at "o")) ?_
  walk_at "ss"
  refine bin_mul (.inr (by unfold small; walk_at "o")) ?_
  walk_at "ss"
  exact h
noncomputable def heirsOf (c : Int) : Int := if (c.fdiv 5).fmod 8 = 1 then 1 + (c.fdiv 40).fmod 8 else 1 + c.fmod 5
theorem heirsOf_in (c : Int) : 1 ≤ heirsOf c ∧ heirsOf c ≤ 8 := by
  unfold heirsOf
  have h1 := fm (c.fdiv 40) (b := 8) (by decide)
  have h2 := fm c (b := 5) (by decide)
  split <;> walk_at "o"
theorem heirs_spec {c : Int} (h : Q (.int (heirsOf c)) m) : CN (n + 1) 12 [.int c] Q X m := by
  (refine call_eq rfl rfl ?_; dsimp only [f_L_heirs, sts, loc0, List.map, List.replicate, List.cons_append, List.nil_append, List.length, Nat.reduceAdd, Nat.reduceSub])
  walk_at "ss"
  with_reducible refine ifQ_dec (fun q => ?_) (fun q => ?_)
  · walk_at "ss"
    simp at q
    exact Qi h (by unfold heirsOf; rw [if_pos q])
  · walk_at "ss"
    simp at q
    exact Qi h (by unfold heirsOf; rw [if_neg q])
noncomputable def thingsOf (c : Int) : Int := if (c.fdiv 9).fmod 8 = 1 then 9 + (c.fdiv 72).fmod 6 else c.fmod 9
theorem thingsOf_in (c : Int) : 0 ≤ thingsOf c ∧ thingsOf c ≤ 14 := by
  unfold thingsOf
  have h1 := fm (c.fdiv 72) (b := 6) (by decide)
  have h2 := fm c (b := 9) (by decide)
  split <;> walk_at "o"
theorem things_spec {c : Int} (h : Q (.int (thingsOf c)) m) : CN (n + 1) 13 [.int c] Q X m := by
  (refine call_eq rfl rfl ?_; dsimp only [f_L_things, sts, loc0, List.map, List.replicate, List.cons_append, List.nil_append, List.length, Nat.reduceAdd, Nat.reduceSub])
  walk_at "ss"
  with_reducible refine ifQ_dec (fun q => ?_) (fun q => ?_)
  · walk_at "ss"
    simp at q
    exact Qi h (by unfold thingsOf; rw [if_pos q])
  · walk_at "ss"
    simp at q
    exact Qi h (by unfold thingsOf; rw [if_neg q])
noncomputable def worthOf (k mode : Int) : Int := if mode = 0 then k.fmod 1000001 else if mode = 1 then 1000000 - k.fmod 3 else k.fmod (([7, 2, 40] : List Int).getD (mode - 2).toNat 1)
theorem fm_le (k : Int) {b c : Int} (hb : 0 < b) (hc : b ≤ c + 1) : 0 ≤ k.fmod b ∧ k.fmod b ≤ c := ⟨(fm k hb).1, Int.le_of_lt_add_one (Int.lt_of_lt_of_le (fm k hb).2 hc)⟩
theorem worthOf_in (k mode : Int) : 0 ≤ worthOf k mode ∧ worthOf k mode ≤ 1000000 := by
  unfold worthOf
  by_cases h0 : mode = 0
  · rw [if_pos h0]; exact fm_le k (by decide) (by decide)
  · rw [if_neg h0]
    by_cases h1 : mode = 1
    · rw [if_pos h1]
      have h2 := fm_le k (b := 3) (c := 2) (by decide) (by decide)
      walk_at "o"
    · rw [if_neg h1]
      generalize (mode - 2).toNat = j
      match j with
      | 0 => exact fm_le k (b := 7) (by decide) (by decide)
      | 1 => exact fm_le k (b := 2) (by decide) (by decide)
      | 2 => exact fm_le k (b := 40) (by decide) (by decide)
      | j + 3 => exact fm_le k (b := 1) (by decide) (by decide)
theorem worthOf_spec {k mode : Int} (hm : 0 ≤ mode ∧ mode < 5) (h : ∀ m', Ext m m' → Q (.int (worthOf k mode)) m') : CN (n + 1) 14 [.int k, .int mode] Q X m := by
  (refine call_eq rfl rfl ?_; dsimp only [f_L_worth, sts, loc0, List.map, List.replicate, List.cons_append, List.nil_append, List.length, Nat.reduceAdd, Nat.reduceSub])
  walk_at "ss"
  with_reducible refine ifQ_dec (fun q => ?_) (fun q => ?_)
  · walk_at "ss"
    simp at q
    exact Qi (h _ .refl) (by unfold worthOf; rw [if_pos q])
  simp at q
  walk_at "ss"
  with_reducible refine ifQ_dec (fun q1 => ?_) (fun q1 => ?_)
  · walk_at "ss"
    simp at q1
    exact Qi (h _ .refl) (by unfold worthOf; rw [if_neg q, if_pos q1])
  simp at q1
  walk_at "ss"
  refine freshL_ (lid_of (by decide)) fun a ha => ?_
  walk_at "ss"
  have hj : (mode - 2).toNat < 3 := by walk_at "o"
  refine sub_ints (is := [7, 2, 40]) IsL.new (by walk_at "o") (getD_some (r := [7, 2, 40]) (by simpa using hj)) (lid_of (by decide)) ?_
  have hb : ([7, 2, 40] : List Int).getD (mode - 2).toNat 0 = ([7, 2, 40] : List Int).getD (mode - 2).toNat 1 ∧ 0 < ([7, 2, 40] : List Int).getD (mode - 2).toNat 0 ∧ ([7, 2, 40] : List Int).getD (mode - 2).toNat 0 ≤ 40 := by
    generalize (mode - 2).toNat = j at hj
    match j with
    | 0 => simp
    | 1 => simp
    | 2 => simp
    | j + 3 => walk_at "o"
  refine bin_mod ⟨by walk_at "o", by unfold tiny; walk_at "o"⟩ ?_
  walk_at "ss"
  exact Qi (h _ (Ext.set ha)) (by unfold worthOf; rw [if_neg q, if_neg q1, hb.1])

theorem take_succ_map {α β : Type} (f : Nat → β) (N k : Nat) (h : k < N) : ((List.range N).map f).take (k + 1) = ((List.range N).map f).take k ++ [f k] := by
  rw [List.take_add_one, List.getElem?_map, List.getElem?_range h]; rfl
noncomputable def numOf (k : Int) (i j : Nat) : Int := (i : Int) * k + j
noncomputable def entry (ns : List Int) (k : Int) (i j : Nat) : Int := worthOf ((mixed (cell ns (4 + (numOf k i j).fmod 36).toNat) (numOf k i j)).fdiv 3) ((cell ns 2).fmod 5)
noncomputable def rowOf (ns : List Int) (k : Int) (i : Nat) : List Int := (List.range k.toNat).map (entry ns k i)
noncomputable def tabOf (ns : List Int) (h k : Int) : List (List Int) := (List.range h.toNat).map (rowOf ns k)
theorem table_spec {ns : List Int} {h k : Int} (hl : ns.length < 1000) (hh : 0 ≤ h ∧ h ≤ 100) (hk : 0 ≤ k ∧ k ≤ 100) (hQ : ∀ v m', Ext m m' → IsT m' v (tabOf ns h k) → Q v m') : CN (n + 2) 15 [.frz (ns.map .int), .int h, .int k] Q X m := by
  have hmode := fm (cell ns 2) (b := 5) (by decide)
  (refine call_eq rfl rfl ?_; dsimp only [f_L_table, sts, loc0, List.map, List.replicate, List.cons_append, List.nil_append, List.length, Nat.reduceAdd, Nat.reduceSub])
  walk_at "ss"
  refine at_spec (by walk_at "o") hl ?_
  walk_at "ss"
  refine freshL_ (lid_of (by decide)) fun a ha => ?_
  walk_at "ss"
  refine items_range (rng_lid (by walk_at "o")) ?_
  dsimp only [setV]
  refine for_inv (fun i l m' => ∃ y5 y6 y7 y8, l = [some (.frz (ns.map .int)), some (.int h), some (.int k), some (.int ((cell ns 2).fmod 5)), some (.ref a), y5, y6, y7, y8] ∧ ∃ mr xs, Ext m mr ∧ mr a = none ∧ m' = mr.set a (.list xs) ∧ All2 (IsI mr) xs ((tabOf ns h k).take i))
    ⟨none, none, none, none, rfl, m, [], .refl, ha, rfl, All2.nil⟩ (fun i x l m' hx hI P hP => ?_) fun l m' hI => ?_
  · obtain ⟨y5, y6, y7, y8, rfl, mr, xs, Er, hra, rfl, hall⟩ := hI
    obtain ⟨hi, rfl⟩ := range_get hx
    refine bodyF_one ?_
    dsimp only [setV]
    walk_at "ss"
    refine freshL_ (lid_of (by decide)) fun b hb => ?_
    have hab : a ≠ b := ne_of hb set_eq
    walk_at "ss"
    refine items_range (rng_lid (by walk_at "o")) ?_
    dsimp only [setV]
    refine for_inv (fun j l m' => ∃ y7 y8, l = [some (.frz (ns.map .int)), some (.int h), some (.int k), some (.int ((cell ns 2).fmod 5)), some (.ref a), some (.int i), some (.ref b), y7, y8] ∧ ∃ mr2, Ext (mr.set a (.list xs)) mr2 ∧ mr2 b = none ∧ m' = mr2.set b (.list (((rowOf ns k i).take j).map .int)))
      ⟨y7, y8, rfl, _, .refl, hb, by simp⟩ (fun j x l m' hx hI P hP => ?_) fun l m' hI => ?_
    · obtain ⟨y7, y8, rfl, mr2, E2, hrb, rfl⟩ := hI
      obtain ⟨hj, rfl⟩ := range_get hx
      refine bodyF_one ?_
      dsimp only [setV]
      walk_at "ss"
      refine bin_mul (.inr (by unfold small; walk_at "o")) ?_
      walk_at "ss"
      dsimp only [setV]
      refine isL_ set_eq ?_
      walk_at "ss"
      have hf36 := fm ((i : Int) * k + j) (b := 36) (by decide)
      refine at_spec (by walk_at "o") hl ?_
      walk_at "ss"
      refine mixed_spec ?_
      walk_at "ss"
      refine worthOf_spec hmode fun m3 E3 => ?_
      refine appQ_ (E3 b _ set_eq) (by unfold lid; simp [rowOf]; walk_at "o") ?_
      walk_at "ss"
      with_reducible refine loopQ_next (hP _ _ ?_)
      refine ⟨trivial, some (.int j), some (.int ((i : Int) * k + j)), rfl, ?_⟩
      obtain ⟨mr', E4, hrf', e4⟩ := grow_set (L' := .list (List.map Val.int (List.take j (rowOf ns k i)) ++ [.int (entry ns k i j)])) hrb E3
      refine ⟨mr', E2.trans E4, hrf', ?_⟩
      have : rowOf ns k i = (List.range k.toNat).map (entry ns k i) := rfl
      rw [this, take_succ_map (α := Nat) _ _ _ hj, ← this, List.map_append]
      exact e4
    · obtain ⟨y7, y8, rfl, mr2, E2, hrb, rfl⟩ := hI
      have hrow : (rowOf ns k i).take (rangeV k).length = rowOf ns k i := by rw [range_len, List.take_of_length_le]; simp [rowOf]
      rw [hrow]
      walk_at "ss"
      have hma : (mr2.set b (.list ((rowOf ns k i).map .int))) a = some (.list xs) := by rw [set_ne hab]; exact E2 a _ set_eq
      refine isL_ hma ?_
      walk_at "ss"
      have hlx : xs.length < lid := by rw [hall.length]; simp only [List.length_take, tabOf, List.length_map, List.length_range]; unfold lid; walk_at "o"
      refine appQ_ hma hlx ?_
      walk_at "ss"
      with_reducible refine loopQ_next (hP _ _ ?_)
      refine ⟨trivial, some (.int i), some (.ref b), y7, y8, rfl, ?_⟩
      have E3 : Ext (mr.set a (.list xs)) (mr2.set b (.list ((rowOf ns k i).map .int))) := E2.trans (Ext.set hrb)
      refine ⟨(mr2.set b (.list ((rowOf ns k i).map .int))).del a, xs ++ [.ref b], Er.trans (Ext.del hra E3), del_eq, del_set.symm, ?_⟩
      have : tabOf ns h k = (List.range h.toNat).map (rowOf ns k) := rfl
      rw [this, take_succ_map (α := Nat) _ _ _ hi, ← this]
      refine (hall.mono fun _ _ => IsI.ext (Ext.del hra E3)).append (.cons ⟨b, rfl, ?_⟩ .nil)
      rw [del_ne (Ne.symm hab), set_eq]
  · obtain ⟨y5, y6, y7, y8, rfl, mr, xs, Er, hra, rfl, hall⟩ := hI
    walk_at "ss"
    have ht : (tabOf ns h k).take (rangeV h).length = tabOf ns h k := by rw [range_len, List.take_of_length_le]; simp [tabOf]
    rw [ht] at hall
    exact hQ _ _ (Er.trans (Ext.set hra)) ⟨xs, IsL.new, hall.mono fun _ _ => IsI.ext (Ext.set hra)⟩

theorem sum_spec {v w : Val} {r is : List Int} (hv : IsI m v r) (hw : IsI m w is) (hl : r.length < 1000) (hl' : is.length < 1000) (hi : ∀ i ∈ is, 0 ≤ i ∧ i.toNat < r.length) (h : Q (.int (sumAt r is)) m) : CN (n + 1) 17 [v, w] Q X m := by
  (refine call_eq rfl rfl ?_; dsimp only [f_L_sum, sts, loc0, List.map, List.replicate, List.cons_append, List.nil_append, List.length, Nat.reduceAdd, Nat.reduceSub])
  walk_at "ss"
  refine items_list hw.seq (by unfold lid; simp; walk_at "o") ?_
  dsimp only [setV]
  refine for_inv (fun k l m' => ∃ y, l = [some v, some w, some (.int (sumAt r (is.take k))), y] ∧ m' = m) ⟨none, by simp [sumAt], rfl⟩ (fun k x l m' hx hI P hP => ?_) fun l m' hI => ?_
  · obtain ⟨y, rfl, rfl⟩ := hI
    rw [List.getElem?_map] at hx
    obtain ⟨i, hi', rfl⟩ := Option.map_eq_some_iff.mp hx
    have hii := hi i (List.mem_of_getElem? hi')
    refine bodyF_one ?_
    dsimp only [setV]
    walk_at "ss"
    refine sub_ints hv hii.1 (getD_some hii.2) (lid_of (by first | assumption | walk_at "o")) ?_
    walk_at "ss"
    with_reducible refine loopQ_next (hP _ _ ?_)
    refine ⟨rfl, some (.int i), ?_, rfl⟩
    dsimp only [setV]
    rw [List.take_add_one, hi']
    simp [sumAt]
  · obtain ⟨y, rfl, rfl⟩ := hI
    walk_at "ss"
    rw [List.length_map, List.take_length]
    exact h

noncomputable def toOf (ns : List Int) (h : Int) (t : Nat) : Int := ((mixed (cell ns (40 + (t : Int).fmod 8).toNat) t).fdiv 5).fmod (h + 1 - (if (decide ((cell ns 3).fmod 3 = 1)) = true then 1 else 0))
noncomputable def shareOf (ns : List Int) (h : Int) (k j : Nat) : List Int := ((List.range k).filter (fun t => decide (toOf ns h t = j))).map fun (t : Nat) => (t : Int)
noncomputable def sharesOf (ns : List Int) (h k : Int) : List (List Int) := (List.range h.toNat).map (shareOf ns h k.toNat)
theorem shareOf_succ (ns : List Int) (h : Int) (k j : Nat) : shareOf ns h (k + 1) j = shareOf ns h k j ++ (if toOf ns h k = j then [(k : Int)] else []) := by
  unfold shareOf
  rw [List.range_succ, List.filter_append, List.map_append]
  congr 1
  by_cases q : toOf ns h k = j <;> simp [q]
theorem shareOf_len (ns : List Int) (h : Int) (k j : Nat) : (shareOf ns h k j).length ≤ k := by
  unfold shareOf
  rw [List.length_map]
  refine Nat.le_trans (List.length_filter_le _ _) ?_
  simp
theorem map_refs {bs : List Addr} {i : Nat} {b : Addr} (h : bs[i]? = some b) : (bs.map Val.ref)[i]? = some (.ref b) := by rw [List.getElem?_map, h]; rfl

theorem shares_spec {ns : List Int} {h k : Int} (hl : ns.length < 1000) (hh : 1 ≤ h ∧ h ≤ 100) (hk : 0 ≤ k ∧ k ≤ 100) (hQ : ∀ v m', Ext m m' → IsT m' v (sharesOf ns h k) → Q v m') : CN (n + 2) 16 [.frz (ns.map .int), .int h, .int k] Q X m := by
  (refine call_eq rfl rfl ?_; dsimp only [f_L_shares, sts, loc0, List.map, List.replicate, List.cons_append, List.nil_append, List.length, Nat.reduceAdd, Nat.reduceSub])
  walk_at "ss"
  refine items_range (rng_lid ⟨Int.le_trans (by decide) hh.1, hh.2⟩) ?_
  refine comp_inv (fun i acc m' => ∃ bs : List Addr, acc = bs.map .ref ∧ bs.length = i ∧ bs.Nodup ∧ Ext m m' ∧ ∀ b ∈ bs, m b = none ∧ m' b = some (.list [])) ⟨[], rfl, rfl, by simp, .refl, by simp⟩ (fun i x acc m' hx hI P hP => ?_) fun acc m' hI => ?_
  · obtain ⟨bs, rfl, hbl, hbn, E, hb⟩ := hI
    refine compF_one ?_
    walk_at "ss"
    refine freshL_ (lid_of (by decide)) fun c hc => ?_
    refine hP _ _ ⟨trivial, bs ++ [c], by simp, by simp [hbl], ?_, E.trans (Ext.set hc), fun b hb' => ?_⟩
    · rw [List.nodup_append]
      refine ⟨hbn, by simp, fun x hx y hy => ?_⟩
      simp at hy; subst hy
      exact ne_of hc (hb x hx).2
    · rw [List.mem_append] at hb'
      rcases hb' with q | q
      · exact ⟨(hb b q).1, Ext.set hc b _ (hb b q).2⟩
      · simp at q; subst q
        refine ⟨?_, set_eq⟩
        cases e : m b with
        | none => rfl
        | some o => rw [E b o e] at hc; cases hc
  obtain ⟨bs, rfl, hbl, hbn, E, hb⟩ := hI
  rw [range_len] at hbl
  have hbs : bs.length < 1000 := by rw [hbl]; walk_at "o"
  have hkn : k.toNat < 1000 := by walk_at "o"
  refine freshL_ (by rw [List.length_map]; exact lid_of hbs) fun a ha => ?_
  walk_at "ss"
  dsimp only [setV]
  have hma : m a = none := by
    cases e : m a with
    | none => rfl
    | some o => rw [E a o e] at ha; cases ha
  have hne : ∀ b ∈ bs, b ≠ a := fun b hb' => ne_of ha (hb b hb').2
  refine items_range (rng_lid hk) ?_
  refine for_inv (fun i l m' => ∃ y4 y5, l = [some (.frz (ns.map .int)), some (.int h), some (.int k), some (.ref a), y4, y5, none] ∧ Ext m m' ∧ m' a = some (.list (bs.map .ref)) ∧ ∀ (j : Nat) b, bs[j]? = some b → m' b = some (.list ((shareOf ns h i j).map .int)))
    ⟨none, none, rfl, E.trans (Ext.set ha), set_eq, fun j b hj => ?_⟩ (fun i x l m' hx hI P hP => ?_) fun l m' hI => ?_
  · have := List.mem_of_getElem? hj
    rw [set_ne (hne b this), (hb b this).2]
    rfl
  · obtain ⟨y4, y5, rfl, Em, hma', hsh⟩ := hI
    obtain ⟨hi, rfl⟩ := range_get hx
    refine bodyF_one ?_
    dsimp only [setV]
    walk_at "ss"
    have hf8 := fm (i : Int) (b := 8) (by decide)
    refine at_spec (Int.le_trans (by decide) (Int.add_le_add_left hf8.1 40)) hl ?_
    walk_at "ss"
    refine mixed_spec ?_
    walk_at "ss"
    refine at_spec (by decide) hl ?_
    walk_at "ss"
    refine b1_int ?_
    walk_at "ss"
    have hdiv : 0 < h + 1 - (if (decide ((cell ns 3).fmod 3 = 1)) = true then 1 else 0) := by split <;> walk_at "o"
    dsimp only [setV]
    obtain ⟨j0, hj0⟩ := Int.eq_ofNat_of_zero_le (fm ((mixed (cell ns (40 + (i : Int).fmod 8).toNat) i).fdiv 5) hdiv).1
    have hto : toOf ns h i = j0 := hj0
    clear hdiv hf8
    rw [show ((mixed (cell ns (Int.toNat (40 + (i : Int).fmod 8))) i).fdiv 5).fmod (h + 1 - (if (decide ((cell ns (Int.toNat 3)).fmod 3 = 1)) = true then 1 else 0)) = (j0 : Int) from hj0]
    with_reducible refine ifQ_dec (fun q => ?_) (fun q => ?_)
    · have q := of_decide_eq_true q
      walk_at "ss"
      have hlt : j0 < bs.length := by rw [hbl]; exact Int.lt_toNat.mpr q
      have hget := List.getElem?_eq_getElem hlt
      refine subW_ (xs := bs.map .ref) (IsL.seq ⟨a, rfl, hma'⟩) (place_nat (Int.natCast_nonneg j0) (by rw [List.length_map]; exact hlt)) (map_refs hget) (by rw [List.length_map]; exact lid_of hbs) ?_
      have hmb := hsh _ _ hget
      refine isL_ hmb ?_
      walk_at "ss"
      refine appQ_ hmb (by rw [List.length_map]; exact lid_of (Nat.lt_of_le_of_lt (shareOf_len ns h i j0) (Nat.lt_trans hi hkn))) ?_
      walk_at "ss"
      with_reducible refine loopQ_next (hP _ _ ?_)
      have hbm := List.mem_of_getElem? hget
      refine ⟨trivial, some (.int i), some (.int j0), rfl, ?_, ?_, fun j b' hj => ?_⟩
      · intro c o e
        have : c ≠ bs[j0] := ne_of (hb _ hbm).1 e
        rw [set_ne this]; exact Em c o e
      · rw [set_ne (Ne.symm (hne _ hbm))]; exact hma'
      · rw [shareOf_succ, hto]
        by_cases hjt : j = j0
        · subst hjt
          rw [hget] at hj; cases hj
          rw [set_eq, if_pos rfl, List.map_append]; rfl
        · have hne' : b' ≠ bs[j0] := fun e => by
            subst e
            exact hjt ((List.getElem?_inj (List.getElem?_eq_some_iff.mp hj).1 hbn).mp (hj.trans hget.symm))
          rw [set_ne hne', hsh j b' hj, if_neg (show ¬ ((j0 : Nat) : Int) = (j : Nat) from fun q => hjt (Int.ofNat.inj q).symm), List.append_nil]
    · have q := of_decide_eq_false q
      walk_at "ss"
      with_reducible refine loopQ_next (hP _ _ ?_)
      refine ⟨trivial, some (.int i), some (.int j0), rfl, Em, hma', fun j b' hj => ?_⟩
      have hjl := (List.getElem?_eq_some_iff.mp hj).1
      rw [hbl] at hjl
      rw [hsh j b' hj, shareOf_succ, hto, if_neg (show ¬ ((j0 : Nat) : Int) = (j : Nat) from fun e => q (e ▸ Int.lt_toNat.mp hjl)), List.append_nil]
  · obtain ⟨y4, y5, rfl, Em, hma', hsh⟩ := hI
    walk_at "ss"
    refine hQ _ _ Em ⟨bs.map .ref, ⟨a, rfl, hma'⟩, ?_⟩
    refine All2.of_get (by rw [List.length_map, hbl]; unfold sharesOf; rw [List.length_map, List.length_range]) fun j x r h1 h2 => ?_
    rw [List.getElem?_map] at h1
    obtain ⟨b, hb1, rfl⟩ := Option.map_eq_some_iff.mp h1
    refine ⟨b, rfl, ?_⟩
    rw [hsh j b hb1, range_len]
    unfold sharesOf at h2
    rw [List.getElem?_map] at h2
    obtain ⟨j', hj', rfl⟩ := Option.map_eq_some_iff.mp h2
    obtain ⟨_, rfl⟩ := List.getElem?_eq_some_iff.mp hj'
    simp

theorem tabOf_ok (ns : List Int) {h k : Int} (hh : 1 ≤ h ∧ h ≤ 8) (hk : 0 ≤ k ∧ k ≤ 40) : tabOk (tabOf ns h k) = true := by
  have hlen : (tabOf ns h k).length = h.toNat := by simp [tabOf]
  have hrow : ∀ r ∈ tabOf ns h k, r.length = k.toNat ∧ r.all inW01 = true := fun r hr => by
    unfold tabOf at hr
    obtain ⟨i, _, rfl⟩ := List.mem_map.mp hr
    refine ⟨by simp [rowOf], ?_⟩
    simp only [List.all_eq_true, rowOf, List.mem_map]
    rintro x ⟨j, _, rfl⟩
    have := worthOf_in ((mixed (cell ns (4 + (numOf k i j).fmod 36).toNat) (numOf k i j)).fdiv 3) ((cell ns 2).fmod 5)
    simp only [inW01, decide_eq_true_eq]
    exact this
  cases e : tabOf ns h k with
  | nil => rw [e] at hlen; simp at hlen; walk_at "o"
  | cons r t =>
    rw [e] at hlen hrow
    have h0 := hrow r (.head _)
    simp only [tabOk, Bool.and_eq_true, decide_eq_true_eq, List.all_eq_true]
    refine ⟨by walk_at "o", by walk_at "o", fun x hx => ?_⟩
    have := hrow x hx
    simp only [rowOk, Bool.and_eq_true, decide_eq_true_eq]
    exact ⟨by walk_at "o", this.2⟩
theorem rowOf_len (ns : List Int) (k : Int) (i : Nat) : (rowOf ns k i).length = k.toNat := by simp [rowOf]
theorem flatten_len {t : List (List Int)} {c : Nat} (h : ∀ r ∈ t, r.length ≤ c) : t.flatten.length ≤ t.length * c := by
  induction t with
  | nil => simp
  | cons r t ih =>
    have h1 := ih fun x hx => h x (.tail _ hx)
    have h2 := h r (.head _)
    rw [List.flatten_cons, List.length_append, List.length_cons, Nat.succ_mul]; walk_at "o"
theorem sharesOf_ok (ns : List Int) (h k : Int) : (∀ r ∈ sharesOf ns h k, r.length ≤ k.toNat) ∧ (sharesOf ns h k).all (shareOk k) = true ∧ (sharesOf ns h k).flatten.Nodup := by
  have hs : ∀ j : Nat, (shareOf ns h k.toNat j).Pairwise (· < ·) := fun j => by
    unfold shareOf
    rw [List.pairwise_map]
    exact (List.pairwise_lt_range.filter _).imp fun h => by walk_at "o"
  have hm : ∀ (j : Nat) x, x ∈ shareOf ns h k.toNat j → ∃ t : Nat, x = t ∧ t < k.toNat ∧ toOf ns h t = j := fun j x hx => by
    unfold shareOf at hx
    simp only [List.mem_map, List.mem_filter, List.mem_range, decide_eq_true_eq] at hx
    obtain ⟨t, ⟨h1, h2⟩, rfl⟩ := hx
    exact ⟨t, rfl, h1, h2⟩
  refine ⟨fun r hr => ?_, ?_, ?_⟩
  · obtain ⟨j, _, rfl⟩ := List.mem_map.mp hr
    exact shareOf_len ns h _ j
  · rw [List.all_eq_true]
    intro r hr
    obtain ⟨j, _, rfl⟩ := List.mem_map.mp hr
    simp only [shareOk, thingsOk, Bool.and_eq_true, List.all_eq_true, decide_eq_true_eq]
    refine ⟨⟨fun x hx => ?_, ?_⟩, (hs j).imp fun h => by walk_at "o"⟩
    · obtain ⟨t, rfl, h1, _⟩ := hm j x hx
      walk_at "o"
    · exact (hs j).imp fun h => by walk_at "o"
  · rw [List.nodup_iff_pairwise_ne, List.pairwise_flatten]
    refine ⟨fun l hl => ?_, ?_⟩
    · obtain ⟨j, _, rfl⟩ := List.mem_map.mp hl
      exact (hs j).imp fun h => by walk_at "o"
    · unfold sharesOf
      rw [List.pairwise_map]
      refine List.nodup_range.imp fun hne x hx y hy e => ?_
      subst e
      obtain ⟨t, rfl, _, h1⟩ := hm _ _ hx
      obtain ⟨t', e', _, h2⟩ := hm _ _ hy
      have : t = t' := by walk_at "o"
      subst this
      walk_at "o"

end

noncomputable def At (m : Mem) (f : Addr) (L : List Val) (m' : Mem) : Prop := ∃ mr, Ext m mr ∧ mr f = none ∧ m' = mr.set f (.list L)
theorem At.start {m : Mem} {f : Addr} {L : List Val} (h : m f = none) : At m f L (m.set f (.list L)) := ⟨m, .refl, h, rfl⟩
theorem At.get {m m' : Mem} {f : Addr} {L : List Val} (h : At m f L m') : m' f = some (.list L) := by
  obtain ⟨mr, _, _, rfl⟩ := h; exact set_eq
theorem At.ext {m m' : Mem} {f : Addr} {L : List Val} (h : At m f L m') : Ext m m' := by
  obtain ⟨mr, E, e, rfl⟩ := h; exact E.trans (Ext.set e)
theorem At.grow {m m' m'' : Mem} {f : Addr} {L : List Val} (h : At m f L m') (E : Ext m' m'') : At m f L m'' := by
  obtain ⟨mr, E0, e, rfl⟩ := h
  exact ⟨m''.del f, E0.trans (Ext.del e E), del_eq, Ext.del_back (m := m) (E f _ set_eq)⟩
theorem At.put {m m' : Mem} {f : Addr} {L L' : List Val} (h : At m f L m') : At m f L' (m'.set f (.list L')) := by
  obtain ⟨mr, E0, e, rfl⟩ := h
  exact ⟨mr, E0, e, set_set⟩

structure Ok (t u : List (List Int)) (k : Nat) : Prop where
  tab : tabOk t = true
  row : ∀ r ∈ t, r.length = k
  k40 : k ≤ 40
  len : u.length = t.length
  fit : ∀ s ∈ u, s.length ≤ k
  sh : u.all (shareOk k) = true
  nd : u.flatten.Nodup
noncomputable def sm (t u : List (List Int)) (i j : Nat) : Int := sumAt (t.getD i []) (u.getD j [])
theorem getDL {t : List (List Int)} {i : Nat} (h : i < t.length) : t[i]? = some (t.getD i []) := by rw [List.getD_eq_getElem?_getD, List.getElem?_eq_getElem h]; rfl
theorem getDL_mem {t : List (List Int)} {i : Nat} (h : i < t.length) : t.getD i [] ∈ t := List.mem_of_getElem? (getDL h)
section ok
variable {t u : List (List Int)} {k : Nat}
theorem Ok.t8 (O : Ok t u k) : t.length ≤ 8 := by obtain ⟨r, t', _, h, _⟩ := tabOk_row O.tab; exact h
theorem Ok.tl (O : Ok t u k) : t.length < 1000 := Nat.lt_of_le_of_lt O.t8 (by decide)
theorem Ok.ul (O : Ok t u k) : u.length < 1000 := O.len ▸ O.tl
theorem Ok.worth (O : Ok t u k) {r : List Int} (hr : r ∈ t) : ∀ x ∈ r, 0 ≤ x ∧ x ≤ 1000000 := by obtain ⟨r0, t', _, _, _, h⟩ := tabOk_row O.tab; exact (h r hr).2
theorem Ok.rl (O : Ok t u k) {r : List Int} (hr : r ∈ t) : r.length < 1000 := by rw [O.row r hr]; exact Nat.lt_of_le_of_lt O.k40 (by decide)
theorem Ok.share (O : Ok t u k) {s : List Int} (hs : s ∈ u) : shareOk k s = true := List.all_eq_true.mp O.sh s hs
theorem Ok.thing (O : Ok t u k) {s : List Int} (hs : s ∈ u) : ∀ x ∈ s, 0 ≤ x ∧ x.toNat < k := fun x hx => by
  have h := O.share hs
  simp only [shareOk, thingsOk, Bool.and_eq_true, List.all_eq_true, decide_eq_true_eq] at h
  have := h.1.1 x hx
  walk_at "o"
theorem Ok.sl (O : Ok t u k) {s : List Int} (hs : s ∈ u) : s.length < 64 := Nat.lt_of_le_of_lt (Nat.le_trans (O.fit s hs) O.k40) (by decide)
end ok
theorem small_of {x : Int} (h : 0 ≤ x ∧ x ≤ 1000000) : small x := ⟨by have := h.1; walk_at "o", by have := h.2; walk_at "o"⟩
theorem nn (i : Nat) : (0 : Int) ≤ (i : Int) := Int.natCast_nonneg i

section
variable {Q : Val → Mem → Prop} {X : Nat → Mem → Prop} {m : Mem} {n : Nat} {t u : List (List Int)} {k : Nat} {v w : Val}

theorem sum_ok (O : Ok t u k) {i : Nat} (hi : i < t.length) {y z : Val} {is : List Int} (hy : IsI m y (t.getD i [])) (hz : IsI m z is) (hl : is.length < 1000) (h : ∀ x ∈ is, 0 ≤ x ∧ x.toNat < k) (hq : ∀ m', Ext m m' → Q (.int (sumAt (t.getD i []) is)) m') : CN (n + 1) 8 [y, z] Q X m :=
  sum_of_spec hy hz (O.rl (getDL_mem hi)) hl (fun x hx => small_of (O.worth (getDL_mem hi) x hx)) (fun x hx => by rw [O.row _ (getDL_mem hi)]; exact h x hx) hq
theorem lsum_ok (O : Ok t u k) {i : Nat} (hi : i < t.length) {y z : Val} {is : List Int} (hy : IsI m y (t.getD i [])) (hz : IsI m z is) (hl : is.length < 1000) (h : ∀ x ∈ is, 0 ≤ x ∧ x.toNat < k) (hq : Q (.int (sumAt (t.getD i []) is)) m) : CN (n + 1) 17 [y, z] Q X m :=
  sum_spec hy hz (O.rl (getDL_mem hi)) hl (fun x hx => by rw [O.row _ (getDL_mem hi)]; exact h x hx) hq
theorem sl1 {n : Nat} (h : n < 64) : n < 1000 := Nat.lt_trans h (by decide)
theorem row_at (O : Ok t u k) (hv : IsT m v t) {i : Nat} (hi : i < t.length) (h : ∀ y, IsI m y (t.getD i []) → Q y m) : subW v (.int i) Q m := sub_ll hv (nn i) (getDL hi) (lid_of O.tl) h
theorem share_at (O : Ok t u k) (hw : IsT m w u) {i : Nat} (hi : i < t.length) (h : ∀ y, IsI m y (u.getD i []) → Q y m) : subW w (.int i) Q m := sub_ll hw (nn i) (getDL (O.len ▸ hi)) (lid_of O.ul) h

theorem envious_spec (O : Ok t u k) (hv : IsT m v t) (hw : IsT m w u) {i j : Nat} (hi : i < t.length) (hj : j < t.length) (h : ∀ m', Ext m m' → Q (.bool (decide (sm t u i j > sm t u i i))) m') : CN (n + 2) 22 [v, w, .int i, .int j] Q X m := by
  (refine call_eq rfl rfl ?_; dsimp only [f_is_envious, sts, loc0, List.map, List.replicate, List.cons_append, List.nil_append, List.length, Nat.reduceAdd, Nat.reduceSub])
  walk_at "ss"
  refine row_at O hv hi fun y hy => ?_
  walk_at "ss"
  refine share_at O hw hj fun z hz => ?_
  walk_at "ss"
  have hmj := getDL_mem (O.len.symm ▸ hj)
  have hmi := getDL_mem (O.len.symm ▸ hi)
  refine sum_ok O hi hy hz (sl1 (O.sl hmj)) (O.thing hmj) fun m2 E2 => ?_
  walk_at "ss"
  refine row_at O (hv.ext E2) hi fun y hy => ?_
  walk_at "ss"
  refine share_at O (hw.ext E2) hi fun z hz => ?_
  walk_at "ss"
  refine sum_ok O hi hy hz (sl1 (O.sl hmi)) (O.thing hmi) fun m3 E3 => ?_
  walk_at "ss"
  exact h _ (E2.trans E3)

noncomputable def tupV (p : Nat × Nat) : Val := .tup [.int p.1, .int p.2]
noncomputable def rowPairs (t u : List (List Int)) (i N : Nat) : List (Nat × Nat) := ((List.range N).filter fun j => decide (sm t u i j > sm t u i i)).map fun j => (i, j)
noncomputable def pairsTo (t u : List (List Int)) (N : Nat) : List (Nat × Nat) := (List.range N).flatMap fun i => rowPairs t u i t.length
noncomputable def pairs (t u : List (List Int)) : List (Nat × Nat) := pairsTo t u t.length
theorem rowPairs_succ (i N : Nat) : rowPairs t u i (N + 1) = rowPairs t u i N ++ (if sm t u i N > sm t u i i then [(i, N)] else []) := by
  unfold rowPairs
  rw [List.range_succ, List.filter_append, List.map_append]
  congr 1
  by_cases h : sm t u i N > sm t u i i
  · rw [if_pos h]; simp [h]
  · rw [if_neg h]; simp [h]
theorem pairsTo_succ (N : Nat) : pairsTo t u (N + 1) = pairsTo t u N ++ rowPairs t u N t.length := by
  unfold pairsTo
  rw [List.range_succ, List.flatMap_append, List.flatMap_singleton]
theorem rowPairs_len (i N : Nat) : (rowPairs t u i N).length ≤ N := by
  unfold rowPairs
  rw [List.length_map]
  exact Nat.le_trans (List.length_filter_le _ _) (Nat.le_of_eq List.length_range)
theorem pairsTo_len (N : Nat) : (pairsTo t u N).length ≤ N * t.length := by
  induction N with
  | zero => exact Nat.zero_le _
  | succ N ih =>
    rw [pairsTo_succ, List.length_append, Nat.succ_mul]
    exact Nat.add_le_add ih (rowPairs_len _ _)
theorem pairs_small (O : Ok t u k) (i j : Nat) (hi : i < t.length) (hj : j ≤ t.length) : ((pairsTo t u i ++ rowPairs t u i j).map tupV).length < lid := by
  have h1 := pairsTo_len (t := t) (u := u) i
  have h2 := rowPairs_len (t := t) (u := u) i j
  have h3 := O.t8
  have h4 : i * t.length ≤ 8 * 8 := Nat.mul_le_mul (by walk_at "o") h3
  rw [List.length_map, List.length_append]
  exact lid_of (by walk_at "o")
theorem rng8 {N : Nat} (h : N ≤ 8) : (0 : Int) ≤ (N : Int) ∧ (N : Int) < lid := rng_lid ⟨nn N, by walk_at "o"⟩

theorem pairs_spec (O : Ok t u k) (hv : IsT m v t) (hw : IsT m w u) (h : ∀ a m', Ext m m' → m a = none → m' a = some (.list ((pairs t u).map tupV)) → Q (.ref a) m') : CN (n + 3) 23 [v, w] Q X m := by
  (refine call_eq rfl rfl ?_; dsimp only [f_pairs_of, sts, loc0, List.map, List.replicate, List.cons_append, List.nil_append, List.length, Nat.reduceAdd, Nat.reduceSub])
  walk_at "ss"
  refine freshL_ (lid_of (by decide)) fun f hf => ?_
  walk_at "ss"
  dsimp only [setV]
  have hv0 := hv.ext (Ext.set (o := .list []) hf)
  refine len_ll hv0 (lid_of O.tl) ?_
  refine items_range (rng8 O.t8) ?_
  refine for_inv (fun i l m' => ∃ y3 y4, l = [some v, some w, some (.ref f), y3, y4] ∧ At m f ((pairsTo t u i).map tupV) m') ⟨none, none, rfl, At.start hf⟩ (fun i x l m' hx hI P hP => ?_) fun l m' hI => ?_
  · obtain ⟨y3, y4, rfl, A⟩ := hI
    obtain ⟨hi, rfl⟩ := range_get hx
    have hi : i < t.length := hi
    refine bodyF_one ?_
    dsimp only [setV]
    walk_at "ss"
    refine len_ll (hv.ext A.ext) (lid_of O.tl) ?_
    refine items_range (rng8 O.t8) ?_
    refine for_inv (fun j l m' => ∃ y4, l = [some v, some w, some (.ref f), some (.int i), y4] ∧ At m f ((pairsTo t u i ++ rowPairs t u i j).map tupV) m') ⟨y4, rfl, by rw [show rowPairs t u i 0 = [] from rfl, List.append_nil]; exact A⟩ (fun j x l m2 hx hI P2 hP2 => ?_) fun l m2 hI => ?_
    · obtain ⟨y4, rfl, A2⟩ := hI
      obtain ⟨hj, rfl⟩ := range_get hx
      have hj : j < t.length := hj
      refine bodyF_one ?_
      dsimp only [setV]
      walk_at "ss"
      refine envious_spec O (hv.ext A2.ext) (hw.ext A2.ext) hi hj fun m3 E3 => ?_
      walk_at "ss"
      have A3 := A2.grow E3
      with_reducible refine ifQ_dec (fun q => ?_) (fun q => ?_)
      · have q := of_decide_eq_true q
        walk_at "ss"
        refine isL_ A3.get ?_
        walk_at "ss"
        refine ⟨lid_of (show 2 < 1000 by decide), ?_⟩
        refine appQ_ A3.get (pairs_small O i j hi (Nat.le_of_lt hj)) ?_
        walk_at "ss"
        with_reducible refine loopQ_next (hP2 _ _ ?_)
        refine ⟨trivial, some (.int j), rfl, ?_⟩
        rw [rowPairs_succ, if_pos q, ← List.append_assoc, List.map_append (l₂ := [(i, j)])]
        exact A3.put
      · have q := of_decide_eq_false q
        walk_at "ss"
        with_reducible refine loopQ_next (hP2 _ _ ?_)
        refine ⟨trivial, some (.int j), rfl, ?_⟩
        rw [rowPairs_succ, if_neg q, List.append_nil]
        exact A3
    · obtain ⟨y4, rfl, A2⟩ := hI
      walk_at "ss"
      with_reducible refine loopQ_next (hP _ _ ?_)
      refine ⟨trivial, some (.int i), y4, rfl, ?_⟩
      rw [pairsTo_succ]
      rw [range_len] at A2
      exact A2
  · obtain ⟨y3, y4, rfl, A⟩ := hI
    walk_at "ss"
    rw [range_len] at A
    exact h _ _ A.ext hf A.get

end

section
variable {C : CallT} {G : String → Option Val} {Q : Val → Mem → Prop} {X : Nat → Mem → Prop} {m : Mem} {n : Nat} {t u : List (List Int)} {k : Nat} {v w : Val} {loc : Loc} {R : Flow → Loc → Mem → Prop} {Y : Nat → Loc → Mem → Prop}

theorem comp_filter {elt ct : Ex} {i : Nat} {xs : List Val} {ok : Mem → Prop} {Q' : List Val → Mem → Prop} {g : Val → Val} {c : Val → Bool} (hok : ok m)
    (hcond : ∀ x ∈ xs, ∀ P : Val → Mem → Prop, P (.bool (c x)) m → wpE C G X ct (setV loc i x) P m) (helt : ∀ x ∈ xs, ∀ P : Val → Mem → Prop, P (g x) m → wpE C G X elt (setV loc i x) P m)
    (h : Q' ((xs.filter c).map g) m) : compLoop (cF C G X elt (.one i) (.cons ct .nil) loc) ok xs [] Q' m := by
  refine comp_inv (fun k acc m' => m' = m ∧ acc = ((xs.take k).filter c).map g) ⟨rfl, by simp⟩ (fun k x acc m' hx hI P hP => ?_) fun acc m' hI => ?_
  · obtain ⟨rfl, rfl⟩ := hI
    have hm := List.mem_of_getElem? hx
    refine Exists.intro _ ⟨rfl, bs_cons (hcond x hm _ (asB_ (bsQ_nil (ifQ_dec (fun e => ?_) fun e => ?_))))⟩
    · refine helt x hm _ (hP _ _ ⟨hok, rfl, ?_⟩)
      rw [List.take_add_one, hx]; simp [e]
    · refine hP _ _ ⟨hok, rfl, ?_⟩
      rw [List.take_add_one, hx]; simp [e]
  · obtain ⟨rfl, rfl⟩ := hI
    rw [List.take_length]; exact h
theorem Ok.row0 (O : Ok t u k) : ∃ r t', t = r :: t' ∧ r.length = k := by
  obtain ⟨r, t', e, _⟩ := tabOk_row O.tab
  exact ⟨r, t', e, O.row r (by rw [e]; exact .head _)⟩
theorem Ok.flat (O : Ok t u k) : u.flatten.length < 900 := by
  have h1 := flatten_len O.fit
  have h2 : u.length * k ≤ 8 * 40 := Nat.mul_le_mul (O.len ▸ O.t8) O.k40
  walk_at "o"
theorem need_ok (O : Ok t u k) (hv : IsT m v t) (hw : IsT m w u) (h : ∀ m', Ext m m' → Q .none m') : CN (n + 5) 6 [v, w] Q X m := by
  obtain ⟨r, t', e, hr⟩ := O.row0
  exact need_shares_spec hv hw e O.tl (fun r hr => O.rl hr) O.tab (Nat.lt_of_le_of_lt (O.len ▸ O.t8) (by decide)) (fun s hs => O.sl hs) O.flat O.len (by rw [hr]; exact O.sh) O.nd h
theorem take_more {α : Type} {l : List α} {i : Nat} {x : α} {P : α → Prop} (h : ∀ p ∈ l.take i, P p) (hx : l[i]? = some x) (h' : P x) : ∀ p ∈ l.take (i + 1), P p := fun p hp => by
  rw [List.take_add_one, hx] at hp
  rcases List.mem_append.mp hp with q | q
  · exact h p q
  · rcases List.mem_singleton.mp q with rfl; exact h'

end

section
variable {C : CallT} {G : String → Option Val} {Q : Val → Mem → Prop} {X : Nat → Mem → Prop} {m : Mem} {n : Nat} {t u : List (List Int)} {k : Nat} {v w : Val} {loc : Loc} {R : Flow → Loc → Mem → Prop} {Y : Nat → Loc → Mem → Prop}

theorem lsum_at (O : Ok t u k) (hv : IsT m v t) (hw : IsT m w u) {i j : Nat} (hi : i < t.length) (hj : j < t.length) {y z : Val} (hy : IsI m y (t.getD i [])) (hz : IsI m z (u.getD j [])) (h : Q (.int (sm t u i j)) m) : CN (n + 1) 17 [y, z] Q X m :=
  have hmj := getDL_mem (O.len.symm ▸ hj)
  lsum_ok O hi hy hz (sl1 (O.sl hmj)) (O.thing hmj) h

theorem lenvies_spec (O : Ok t u k) (hv : IsT m v t) (hw : IsT m w u) (h : ∀ a m', Ext m m' → m' a = some (.list ((pairs t u).map tupV)) → Q (.ref a) m') : CN (n + 2) 65 [v, w] Q X m := by
  (refine call_eq rfl rfl ?_; dsimp only [f_L_envies, sts, loc0, List.map, List.replicate, List.cons_append, List.nil_append, List.length, Nat.reduceAdd, Nat.reduceSub])
  walk_at "ss"
  refine freshL_ (lid_of (by decide)) fun f hf => ?_
  walk_at "ss"
  dsimp only [setV]
  have hv0 := hv.ext (Ext.set (o := .list []) hf)
  refine len_ll hv0 (lid_of O.tl) ?_
  refine items_range (rng8 O.t8) ?_
  refine for_inv (fun i l m' => ∃ y3 y4, l = [some v, some w, some (.ref f), y3, y4] ∧ At m f ((pairsTo t u i).map tupV) m') ⟨none, none, rfl, At.start hf⟩ (fun i x l m' hx hI P hP => ?_) fun l m' hI => ?_
  · obtain ⟨y3, y4, rfl, A⟩ := hI
    obtain ⟨hi, rfl⟩ := range_get hx
    have hi : i < t.length := hi
    refine bodyF_one ?_
    dsimp only [setV]
    walk_at "ss"
    refine len_ll (hv.ext A.ext) (lid_of O.tl) ?_
    refine items_range (rng8 O.t8) ?_
    refine for_inv (fun j l m' => ∃ y4, l = [some v, some w, some (.ref f), some (.int i), y4] ∧ At m f ((pairsTo t u i ++ rowPairs t u i j).map tupV) m') ⟨y4, rfl, by rw [show rowPairs t u i 0 = [] from rfl, List.append_nil]; exact A⟩ (fun j x l m2 hx hI P2 hP2 => ?_) fun l m2 hI => ?_
    · obtain ⟨y4, rfl, A2⟩ := hI
      obtain ⟨hj, rfl⟩ := range_get hx
      have hj : j < t.length := hj
      have hv2 := hv.ext A2.ext
      have hw2 := hw.ext A2.ext
      refine bodyF_one ?_
      dsimp only [setV]
      walk_at "ss"
      refine row_at O hv2 hi fun y hy => ?_
      walk_at "ss"
      refine share_at O hw2 hj fun z hz => ?_
      walk_at "ss"
      refine lsum_at O hv2 hw2 hi hj hy hz ?_
      walk_at "ss"
      refine row_at O hv2 hi fun y hy => ?_
      walk_at "ss"
      refine share_at O hw2 hi fun z hz => ?_
      walk_at "ss"
      refine lsum_at O hv2 hw2 hi hi hy hz ?_
      walk_at "ss"
      with_reducible refine ifQ_dec (fun q => ?_) (fun q => ?_)
      · have q := of_decide_eq_true q
        walk_at "ss"
        refine isL_ A2.get ?_
        walk_at "ss"
        refine ⟨lid_of (show 2 < 1000 by decide), ?_⟩
        refine appQ_ A2.get (pairs_small O i j hi (Nat.le_of_lt hj)) ?_
        walk_at "ss"
        with_reducible refine loopQ_next (hP2 _ _ ?_)
        refine ⟨trivial, some (.int j), rfl, ?_⟩
        rw [rowPairs_succ, if_pos q, ← List.append_assoc, List.map_append (l₂ := [(i, j)])]
        exact A2.put
      · have q := of_decide_eq_false q
        walk_at "ss"
        with_reducible refine loopQ_next (hP2 _ _ ?_)
        refine ⟨trivial, some (.int j), rfl, ?_⟩
        rw [rowPairs_succ, if_neg q, List.append_nil]
        exact A2
    · obtain ⟨y4, rfl, A2⟩ := hI
      walk_at "ss"
      with_reducible refine loopQ_next (hP _ _ ?_)
      refine ⟨trivial, some (.int i), y4, rfl, ?_⟩
      rw [pairsTo_succ]
      rw [range_len] at A2
      exact A2
  · obtain ⟨y3, y4, rfl, A⟩ := hI
    walk_at "ss"
    rw [range_len] at A
    exact h _ _ A.ext A.get

end

section
variable {C : CallT} {G : String → Option Val} {Q : Val → Mem → Prop} {X : Nat → Mem → Prop} {m : Mem} {n : Nat} {t u : List (List Int)} {k : Nat} {v w : Val} {loc : Loc} {R : Flow → Loc → Mem → Prop} {Y : Nat → Loc → Mem → Prop}

theorem none_of {m0 m' : Mem} (E : Ext m0 m') {b : Addr} (h : m' b = none) : m0 b = none := by
  cases e : m0 b with
  | none => rfl
  | some o => rw [E b o e] at h; cases h

end

section
variable {C : CallT} {G : String → Option Val} {Q : Val → Mem → Prop} {X : Nat → Mem → Prop} {m : Mem} {n : Nat} {t u : List (List Int)} {k : Nat} {v w : Val} {loc : Loc} {R : Flow → Loc → Mem → Prop} {Y : Nat → Loc → Mem → Prop}

noncomputable def Own (m0 m : Mem) (v : Val) (t : List (List Int)) : Prop := ∃ (a : Addr) (bs : List Addr), v = .ref a ∧ m a = some (.list (bs.map .ref)) ∧ bs.Nodup ∧ bs.length = t.length ∧ m0 a = none ∧ (∀ b ∈ bs, m0 b = none ∧ b ≠ a) ∧ ∀ (j : Nat) b r, bs[j]? = some b → t[j]? = some r → m b = some (.list (r.map .int))
theorem Own.isT {m0 : Mem} (h : Own m0 m v t) : IsT m v t := by
  obtain ⟨a, bs, rfl, ha, _, hl, _, _, hr⟩ := h
  refine ⟨bs.map .ref, ⟨a, rfl, ha⟩, All2.of_get (by rw [List.length_map]; exact hl) fun j x r h1 h2 => ?_⟩
  rw [List.getElem?_map] at h1
  obtain ⟨b, hb, rfl⟩ := Option.map_eq_some_iff.mp h1
  exact ⟨b, rfl, hr j b r hb h2⟩
theorem copy_own {v : Val} {t : List (List Int)} (hv : IsT m v t) (hl : t.length < 1000) (hr : ∀ r ∈ t, r.length < 1000) (hQ : ∀ v m', Ext m m' → Own m m' v t → Q v m') : CN (n + 1) 18 [v] Q X m := by
  (refine call_eq rfl rfl ?_; dsimp only [f_L_copy, sts, loc0, List.map, List.replicate, List.cons_append, List.nil_append, List.length, Nat.reduceAdd, Nat.reduceSub])
  walk_at "ss"
  obtain ⟨xs, e1, e2⟩ := hv
  refine items_list e1.seq (by rw [e2.length]; exact lid_of hl) ?_
  refine comp_inv (fun k acc m' => Ext m m' ∧ ∃ bs : List Addr, acc = bs.map .ref ∧ bs.length = k ∧ bs.Nodup ∧ ∀ (j : Nat) b, bs[j]? = some b → m b = none ∧ ∀ r, t[j]? = some r → m' b = some (.list (r.map .int))) ⟨.refl, [], rfl, rfl, List.nodup_nil, fun j b h => by cases h⟩ (fun k x acc m' hx hI P hP => ?_) fun acc m' hI => ?_
  · obtain ⟨E, bs, rfl, hbl, hbn, hb⟩ := hI
    obtain ⟨z, hz, hxz⟩ := e2.get hx
    refine compF_one ?_
    walk_at "ss"
    refine b1_list (hxz.ext E).seq (freshL_ (by rw [List.length_map]; exact lid_of (hr z (List.mem_of_getElem? hz))) fun c hc => ?_)
    have E2 := E.trans (Ext.set (o := .list (z.map .int)) hc)
    have hcm := none_of E hc
    have hcb : ∀ (j : Nat) b, bs[j]? = some b → b ≠ c := fun j b h => by
      have hj : j < t.length := by
        have h1 := (List.getElem?_eq_some_iff.mp h).1
        have h2 := (List.getElem?_eq_some_iff.mp hz).1
        walk_at "o"
      exact ne_of hc ((hb j b h).2 _ (List.getElem?_eq_getElem hj))
    refine hP _ _ ⟨e1.stands (e1.ext E2), E2, bs ++ [c], by rw [List.map_append]; rfl, by rw [List.length_append, hbl]; rfl, ?_, fun j b h => ?_⟩
    · rw [List.nodup_append]
      refine ⟨hbn, List.nodup_cons.mpr ⟨by simp, List.nodup_nil⟩, fun x hx y hy => ?_⟩
      rcases List.mem_singleton.mp hy with rfl
      obtain ⟨j, hj⟩ := List.mem_iff_getElem?.mp hx
      exact hcb j x hj
    · by_cases hj : j < bs.length
      · rw [List.getElem?_append_left hj] at h
        exact ⟨(hb j b h).1, fun r hr' => by rw [set_ne (hcb j b h)]; exact (hb j b h).2 r hr'⟩
      · rw [List.getElem?_append_right (Nat.le_of_not_lt hj)] at h
        have h0 : j - bs.length = 0 := by
          have := (List.getElem?_eq_some_iff.mp h).1
          rw [List.length_singleton] at this
          walk_at "o"
        rw [h0] at h
        cases h
        have hjk : j = k := by walk_at "o"
        subst hjk
        refine ⟨hcm, fun r hr' => ?_⟩
        rw [hz] at hr'
        cases hr'
        exact set_eq
  · obtain ⟨E, bs, rfl, hbl, hbn, hb⟩ := hI
    rw [e2.length] at hbl
    refine freshL_ (by rw [List.length_map]; exact lid_of (hbl ▸ hl)) fun a ha => ?_
    walk_at "ss"
    have hne : ∀ b ∈ bs, m b = none ∧ b ≠ a := fun b hb' => by
      obtain ⟨j, hj⟩ := List.mem_iff_getElem?.mp hb'
      have hjt : j < t.length := hbl ▸ (List.getElem?_eq_some_iff.mp hj).1
      exact ⟨(hb j b hj).1, ne_of ha ((hb j b hj).2 _ (List.getElem?_eq_getElem hjt))⟩
    refine hQ _ _ (E.trans (Ext.set ha)) ⟨a, bs, rfl, set_eq, hbn, hbl, none_of E ha, hne, fun j b r h1 h2 => ?_⟩
    rw [set_ne (hne b (List.mem_of_getElem? h1)).2]
    exact (hb j b h1).2 r h2

end

section
variable {Q : Val → Mem → Prop} {X : Nat → Mem → Prop} {m : Mem} {n : Nat} {t u : List (List Int)} {k : Nat} {v w : Val}

end

section
variable {C : CallT} {G : String → Option Val} {Q : Val → Mem → Prop} {X : Nat → Mem → Prop} {m : Mem} {n : Nat} {t u : List (List Int)} {k : Nat} {v w : Val} {loc : Loc} {R : Flow → Loc → Mem → Prop} {Y : Nat → Loc → Mem → Prop}

end

section
variable {C : CallT} {G : String → Option Val} {Q : Val → Mem → Prop} {X : Nat → Mem → Prop} {m : Mem} {n : Nat} {t u : List (List Int)} {k : Nat} {v w : Val} {loc : Loc} {R : Flow → Loc → Mem → Prop} {Y : Nat → Loc → Mem → Prop}

noncomputable def dPair (p : Nat × Nat) : Dat := .tup [.int p.1, .int p.2]
theorem tup_reads (v : Val) (p : Nat × Nat) (h : v = tupV p) : Reads m (dPair p) v := by
  subst h
  exact ⟨_, rfl, _, _, rfl, rfl, _, _, rfl, rfl, rfl⟩
theorem pairs_readsL {ps : List (Nat × Nat)} : ReadsL m (ps.map dPair) (ps.map tupV) := by
  refine readsL_of (R := fun v p => v = tupV p) (fun v p h => tup_reads v p h) ?_
  induction ps with
  | nil => exact .nil
  | cons p ps ih => exact .cons rfl ih
theorem beq_pair (a b : Nat × Nat) : Dat.beq (dPair a) (dPair b) = decide (a = b) := by
  obtain ⟨a1, a2⟩ := a
  obtain ⟨b1, b2⟩ := b
  show (((a1 : Int) == b1) && (((a2 : Int) == b2) && true)) = _
  by_cases h1 : a1 = b1
  · subst h1
    by_cases h2 : a2 = b2
    · subst h2; simp
    · rw [decide_eq_false (by rintro ⟨⟩; exact h2 rfl), show ((a2 : Int) == b2) = false from beq_eq_false_iff_ne.mpr fun e => h2 (Int.ofNat.inj e)]; simp
  · rw [decide_eq_false (by rintro ⟨⟩; exact h1 rfl), show ((a1 : Int) == b1) = false from beq_eq_false_iff_ne.mpr fun e => h1 (Int.ofNat.inj e)]; rfl
end

section
variable {Q : Val → Mem → Prop} {X : Nat → Mem → Prop} {m : Mem} {n : Nat} {v : Val}

noncomputable def Known (m : Mem) : Val → Prop
  | .ref a => ∃ o, m a = some o
  | .frz _ => False
  | _ => True
theorem Known.ext {m m' : Mem} (x : Ext m m') {v : Val} (h : Known m v) : Known m' v := by
  cases v <;> first | exact h | skip
  obtain ⟨o, e⟩ := h; exact ⟨o, x _ _ e⟩
noncomputable def itemsAt (m : Mem) : Val → Option (List Val)
  | .ref a => itemsOf (m a)
  | _ => none
theorem itemsAt_ext {m m' : Mem} (x : Ext m m') {v : Val} (h : Known m v) : itemsAt m' v = itemsAt m v := by
  cases v <;> first | rfl | skip
  obtain ⟨o, e⟩ := h
  show itemsOf (m' _) = itemsOf (m _)
  rw [e, x _ _ e]
theorem itemsAt_lst {m : Mem} {v : Val} {xs : List Val} (h : itemsAt m v = some xs) : IsL m v xs := by
  cases v with
  | ref a =>
    refine ⟨a, rfl, ?_⟩
    have h : itemsOf (m a) = some xs := h
    cases q : m a with
    | none => rw [q] at h; cases h
    | some o => cases o with
      | list ys => rw [q] at h; cases h; rfl
      | dict0 => rw [q] at h; cases h
  | none => cases h
  | bool _ => cases h
  | int _ => cases h
  | tup _ => cases h
  | frz _ => cases h
  | str _ => cases h
theorem isList_at {v : Val} (h : Known m v) (hq : Q (.bool (itemsAt m v).isSome) m) : optQ Q m (isA m v .list) := by
  cases v <;> first | exact h.elim | exact optQ_ rfl hq | skip
  rename_i a
  obtain ⟨o, e⟩ := h
  have e' : itemsAt m (.ref a) = itemsOf (some o) := congrArg itemsOf e
  rw [e'] at hq
  cases o with
  | list xs => exact optQ_ (b := true) (by show (m a).bind _ = _; rw [e]; rfl) hq
  | dict0 => exact optQ_ (b := false) (by show (m a).bind _ = _; rw [e]; rfl) hq
noncomputable def amV (lo hi : Int) : Val → Bool
  | .int i => decide (lo ≤ i ∧ i ≤ hi)
  | _ => false
theorem is_among_any {v : Val} {lo hi : Int} (h : Known m v) (hq : Q (.bool (amV lo hi v)) m) : CN (n + 1) 0 [v, .int lo, .int hi] Q X m := by
  cases v with
  | int i => exact is_among_spec hq
  | bool b => (refine call_eq rfl rfl ?_; dsimp only [f_is_among, sts, loc0, List.map, List.replicate, List.cons_append, List.nil_append, List.length, Nat.reduceAdd, Nat.reduceSub]); walk_at "ss"; exact hq
  | none => (refine call_eq rfl rfl ?_; dsimp only [f_is_among, sts, loc0, List.map, List.replicate, List.cons_append, List.nil_append, List.length, Nat.reduceAdd, Nat.reduceSub]); walk_at "ss"; exact hq
  | str x => (refine call_eq rfl rfl ?_; dsimp only [f_is_among, sts, loc0, List.map, List.replicate, List.cons_append, List.nil_append, List.length, Nat.reduceAdd, Nat.reduceSub]); walk_at "ss"; exact hq
  | tup x => (refine call_eq rfl rfl ?_; dsimp only [f_is_among, sts, loc0, List.map, List.replicate, List.cons_append, List.nil_append, List.length, Nat.reduceAdd, Nat.reduceSub]); walk_at "ss"; exact hq
  | frz x => exact h.elim
  | ref a =>
    (refine call_eq rfl rfl ?_; dsimp only [f_is_among, sts, loc0, List.map, List.replicate, List.cons_append, List.nil_append, List.length, Nat.reduceAdd, Nat.reduceSub])
    walk_at "ss"
    obtain ⟨o, e⟩ := h
    refine optQ_ (b := false) (by show (m a).bind _ = _; rw [e]; cases o <;> rfl) ?_
    walk_at "ss"
    exact hq
noncomputable def KnownR (m : Mem) (v : Val) : Prop := Known m v ∧ ∀ xs, itemsAt m v = some xs → xs.length < 1000 ∧ ∀ x ∈ xs, Known m x
theorem KnownR.ext {m m' : Mem} (e : Ext m m') {v : Val} (h : KnownR m v) : KnownR m' v := by
  refine ⟨h.1.ext e, fun xs q => ?_⟩
  rw [itemsAt_ext e h.1] at q
  exact ⟨(h.2 xs q).1, fun x hx => ((h.2 xs q).2 x hx).ext e⟩
theorem itemsAt_of {xs : List Val} (h : IsL m v xs) : itemsAt m v = some xs := by
  obtain ⟨a, rfl, e⟩ := h
  show itemsOf (m a) = _
  rw [e]; rfl
theorem KnownR.list {xs : List Val} (h : IsL m v xs) (hl : xs.length < 1000) (hk : ∀ x ∈ xs, Known m x) : KnownR m v := by
  refine ⟨?_, fun ys q => ?_⟩
  · obtain ⟨a, rfl, e⟩ := h; exact ⟨_, e⟩
  · rw [itemsAt_of h] at q; cases q; exact ⟨hl, hk⟩
theorem known_ints {is : List Int} : ∀ x ∈ is.map Val.int, Known m x := fun x hx => by
  obtain ⟨i, _, rfl⟩ := List.mem_map.mp hx; trivial
theorem KnownR.ints {is : List Int} (h : IsI m v is) (hl : is.length < 1000) : KnownR m v := .list h (by simpa using hl) known_ints
theorem KnownR.nolist (h : Known m v) (hn : itemsAt m v = none) : KnownR m v := ⟨h, fun xs q => by rw [hn] at q; cases q⟩
noncomputable def intOf : Val → Option Int
  | .int i => some i
  | _ => none
noncomputable def intsOf (xs : List Val) : List Int := xs.filterMap intOf
theorem ints_back : ∀ {xs : List Val} {lo hi : Int}, xs.all (amV lo hi) = true → xs = (intsOf xs).map .int
  | [], _, _, _ => rfl
  | x :: xs, lo, hi, h => by
    rw [List.all_cons, Bool.and_eq_true] at h
    cases x with
    | int i =>
      show _ = (intsOf (.int i :: xs)).map Val.int
      have : intsOf (.int i :: xs) = i :: intsOf xs := rfl
      rw [this, List.map_cons, ← ints_back h.2]
    | _ => exact Bool.noConfusion (show false = true from h.1)
theorem intsOf_map (is : List Int) : intsOf (is.map .int) = is := by
  induction is with
  | nil => rfl
  | cons i is ih => show intsOf (.int i :: is.map .int) = _; have : intsOf (.int i :: is.map Val.int) = i :: intsOf (is.map .int) := rfl; rw [this, ih]
theorem all_am {is : List Int} {lo hi : Int} : (is.map Val.int).all (amV lo hi) = is.all fun x => decide (lo ≤ x ∧ x ≤ hi) := by
  rw [List.all_map]; rfl
noncomputable def itemsD (m : Mem) (v : Val) : List Val := (itemsAt m v).getD []
noncomputable def thV (m : Mem) (many : Int) (v : Val) : Bool := (itemsAt m v).isSome && ((itemsD m v).all (amV 0 (many - 1)) && decide (intsOf (itemsD m v)).Nodup)
theorem are_things_any {many : Int} (hv : KnownR m v) (h : ∀ m', Ext m m' → Q (.bool (thV m many v)) m') : CN (n + 2) 3 [v, .int many] Q X m := by
  (refine call_eq rfl rfl ?_; dsimp only [f_are_things, sts, loc0, List.map, List.replicate, List.cons_append, List.nil_append, List.length, Nat.reduceAdd, Nat.reduceSub])
  walk_at "ss"
  refine isList_at hv.1 ?_
  unfold thV itemsD at h
  cases e : itemsAt m v with
  | none =>
    dsimp only [Option.isSome]
    walk_at "ss"
    exact Qb (h m .refl) (by rw [e]; rfl)
  | some xs =>
  dsimp only [Option.isSome]
  rw [e] at h
  dsimp only [Option.isSome, Option.getD_some] at h
  obtain ⟨hl, hk⟩ := hv.2 xs e
  have hL := itemsAt_lst e
  walk_at "ss"
  refine items_list hL.seq (lid_of hl) ?_
  refine comp_pure (g := fun x => .bool (amV 0 (many - 1) x)) rfl (fun x hx P hP => ?_) ?_
  · walk_at "ss"
    exact is_among_any (hk x hx) hP
  refine freshL_ (by rw [List.length_map]; exact lid_of hl) (fun a ha => ?_)
  refine b1_all (bs := xs.map (amV 0 (many - 1))) (by rw [IsL.new.lst, List.map_map]; rfl) ?_
  walk_at "ss"
  have E : Ext m _ := Ext.set ha (o := AObj.list (xs.map fun x => .bool (amV 0 (many - 1) x)))
  have eall : (xs.map (amV 0 (many - 1))).all id = xs.all (amV 0 (many - 1)) := by simp [List.all_map, Function.comp_def]
  rw [eall]
  cases hal : xs.all (amV 0 (many - 1)) with
  | false =>
    walk_at "ss"
    exact Qb (h _ E) (by rw [hal]; rfl)
  | true =>
    have hx := ints_back hal
    have hI : IsI m v (intsOf xs) := by unfold IsI; rw [← hx]; exact hL
    have hl' : (intsOf xs).length < 1000 := by have := congrArg List.length hx; rw [List.length_map] at this; walk_at "o"
    walk_at "ss"
    refine b1_lenset (hI.ext E).lst hl' fun k hk hn => ?_
    walk_at "ss"
    refine len_ints (hI.ext E) (lid_of hl') ?_
    walk_at "ss"
    exact Qb (h _ E) (by
      rw [hal, Bool.true_and, Bool.true_and]
      by_cases hd : (intsOf xs).Nodup
      · simp [hd, hn.mpr hd]
      · have : ¬ (k : Int) = (intsOf xs).length := fun e => hd (hn.mp (by walk_at "o"))
        simp [hd, this])

end

section
variable {Q : Val → Mem → Prop} {X : Nat → Mem → Prop} {m : Mem} {n : Nat} {v w x : Val} {t u : List (List Int)} {k : Nat}
theorem cmp_inI {x : Int} {z : Val} {is : List Int} {P : Bool → Mem → Prop} (hz : IsI m z is) (h : P (decide (x ∈ is)) m) : wpCmp .inn (.int x) z P m := by
  refine Exists.intro (Dat.int x) ⟨is.map .int, is.map .int, hz.seq, rfl, readsL_ints, rfl, ?_, ?_⟩
  · rw [List.all_eq_true]
    intro d hd
    obtain ⟨y, _, rfl⟩ := List.mem_map.mp hd
    rfl
  · rw [show ((is.map Dat.int).any fun e => Dat.beq e (.int x)) = decide (x ∈ is) by
      rw [List.any_map]
      by_cases hx : x ∈ is
      · rw [decide_eq_true hx, List.any_eq_true]; exact ⟨x, hx, beq_self_eq_true x⟩
      · rw [decide_eq_false hx, List.any_eq_false]; intro y hy e; exact hx (beq_iff_eq.mp e ▸ hy)]
    exact h
theorem cmp_inPd {p : Nat × Nat} {a : Addr} {ps : List (Nat × Nat)} {P : Bool → Mem → Prop} (ha : m a = some (.list (ps.map tupV))) (h : P (decide (p ∈ ps)) m) : wpCmp .inn (.tup [.int (p.1 : Nat), .int (p.2 : Nat)]) (.ref a) P m := by
  refine ⟨dPair p, ps.map dPair, ps.map tupV, IsL.seq ⟨a, rfl, ha⟩, tup_reads _ p rfl, pairs_readsL, rfl, ?_, ?_⟩
  · rw [List.all_eq_true]
    intro d hd
    obtain ⟨x, _, rfl⟩ := List.mem_map.mp hd
    rfl
  · have : ((ps.map dPair).any fun e => Dat.beq e (dPair p)) = decide (p ∈ ps) := by
      rw [List.any_map, Bool.eq_iff_iff, List.any_eq_true, decide_eq_true_iff]
      constructor
      · rintro ⟨q, hq, e⟩
        have e : Dat.beq (dPair q) (dPair p) = true := e
        rw [beq_pair] at e
        rw [← of_decide_eq_true e]; exact hq
      · intro hp
        exact ⟨p, hp, by show Dat.beq (dPair p) (dPair p) = true; rw [beq_pair, decide_eq_true rfl]⟩
    rw [this]; exact h
theorem thV_ext {m m' : Mem} (x : Ext m m') {v : Val} {many : Int} (h : Known m v) : thV m' many v = thV m many v := by unfold thV itemsD; rw [itemsAt_ext x h]
theorem need_heir_bad (hv : IsT m v t) (hl : t.length < 1000) (hx : Known m x) (hb : amV 0 ((t.length : Int) - 1) x = false) (h : X 9 m) : CN (n + 2) 7 [v, x] Q X m := by
  (refine call_eq rfl rfl ?_; dsimp only [f_need_heir, sts, loc0, List.map, List.replicate, List.cons_append, List.nil_append, List.length, Nat.reduceAdd, Nat.reduceSub])
  walk_at "ss"
  refine len_ll hv (lid_of hl) ?_
  walk_at "ss"
  refine is_among_any hx ?_
  rw [hb]
  walk_at "ss"
  exact h
theorem need_tab (O : Ok t u k) (hv : IsT m v t) (h : ∀ m', Ext m m' → Q .none m') : CN (n + 4) 5 [v] Q X m := need_table_spec hv O.tl (fun r hr => O.rl hr) O.tab h
theorem worth_heir (O : Ok t u k) (hv : IsT m v t) (hx : Known m x) (hb : amV 0 ((t.length : Int) - 1) x = false) (h : ∀ m', Ext m m' → X 9 m') : CN (n + 5) 9 [v, x, .none] Q X m := by
  (refine call_eq rfl rfl ?_; dsimp only [f_worth, sts, loc0, List.map, List.replicate, List.cons_append, List.nil_append, List.length, Nat.reduceAdd, Nat.reduceSub])
  walk_at "ss"
  refine need_tab O hv fun m1 E1 => ?_
  walk_at "ss"
  exact need_heir_bad (hv.ext E1) O.tl (hx.ext E1) hb (h _ E1)
theorem len0 (O : Ok t u k) (hv : IsT m v t) (h : Q (.int k) m) : subW v (.int 0) (fun y m1 => wpB1 .len y Q m1) m := by
  obtain ⟨r, t', et, hr⟩ := O.row0
  refine sub_ll hv (by walk_at "o") (x := r) (by rw [et]; rfl) (lid_of O.tl) fun y hy => ?_
  refine len_ints hy (lid_of (by rw [hr]; have := O.k40; walk_at "o")) ?_
  rw [hr]; exact h
theorem worth_thing (O : Ok t u k) (hv : IsT m v t) {i : Int} (hi : 0 ≤ i ∧ i < t.length) (hx : KnownR m x) (hb : thV m k x = false) (h : ∀ m', Ext m m' → X 10 m') : CN (n + 5) 9 [v, .int i, x] Q X m := by
  (refine call_eq rfl rfl ?_; dsimp only [f_worth, sts, loc0, List.map, List.replicate, List.cons_append, List.nil_append, List.length, Nat.reduceAdd, Nat.reduceSub])
  walk_at "ss"
  refine need_tab O hv fun m1 E1 => ?_
  walk_at "ss"
  refine need_heir_spec (hv.ext E1) O.tl hi ?_
  walk_at "ss"
  refine len0 O (hv.ext E1) ?_
  walk_at "ss"
  refine are_things_any (hx.ext E1) fun m2 E2 => ?_
  rw [thV_ext E1 hx.1, hb]
  walk_at "ss"
  exact h _ (E1.trans E2)
theorem spare_1 (O : Ok t u k) (hv : IsT m v t) (hw : IsT m w u) {y : Val} (hx : Known m x) (hb : amV 0 ((t.length : Int) - 1) x = false) (h : ∀ m', Ext m m' → X 9 m') : CN (n + 6) 28 [v, w, x, y] Q X m := by
  (refine call_eq rfl rfl ?_; dsimp only [f_spare, sts, loc0, List.map, List.replicate, List.cons_append, List.nil_append, List.length, Nat.reduceAdd, Nat.reduceSub])
  walk_at "ss"
  refine need_ok O hv hw fun m1 E1 => ?_
  walk_at "ss"
  exact need_heir_bad (hv.ext E1) O.tl (hx.ext E1) hb (h _ E1)
theorem spare_2 (O : Ok t u k) (hv : IsT m v t) (hw : IsT m w u) {i : Int} (hi : 0 ≤ i ∧ i < t.length) (hx : Known m x) (hb : amV 0 ((t.length : Int) - 1) x = false) (h : ∀ m', Ext m m' → X 9 m') : CN (n + 6) 28 [v, w, .int i, x] Q X m := by
  (refine call_eq rfl rfl ?_; dsimp only [f_spare, sts, loc0, List.map, List.replicate, List.cons_append, List.nil_append, List.length, Nat.reduceAdd, Nat.reduceSub])
  walk_at "ss"
  refine need_ok O hv hw fun m1 E1 => ?_
  walk_at "ss"
  refine need_heir_spec (hv.ext E1) O.tl hi ?_
  walk_at "ss"
  exact need_heir_bad (hv.ext E1) O.tl (hx.ext E1) hb (h _ E1)
theorem spare_eq (O : Ok t u k) (hv : IsT m v t) (hw : IsT m w u) {i : Int} (hi : 0 ≤ i ∧ i < t.length) (h : ∀ m', Ext m m' → X 9 m') : CN (n + 6) 28 [v, w, .int i, .int i] Q X m := by
  (refine call_eq rfl rfl ?_; dsimp only [f_spare, sts, loc0, List.map, List.replicate, List.cons_append, List.nil_append, List.length, Nat.reduceAdd, Nat.reduceSub])
  walk_at "ss"
  refine need_ok O hv hw fun m1 E1 => ?_
  walk_at "ss"
  refine need_heir_spec (hv.ext E1) O.tl hi ?_
  walk_at "ss"
  refine need_heir_spec (hv.ext E1) O.tl hi ?_
  walk_at "ss"
  refine ifQ_t (by simp) ?_
  walk_at "ss"
  exact h _ E1
noncomputable def Held (k : Nat) (u : List (List Int)) (m : Mem) (x : Val) : Prop := Known m x ∧ (amV 0 ((k : Int) - 1) x = false ∨ ∃ y, x = .int y ∧ y ∈ u.flatten)
theorem Held.ext {m' : Mem} (H : Held k u m x) (E : Ext m m') : Held k u m' x := ⟨H.1.ext E, H.2⟩
theorem need_aside_bad (O : Ok t u k) (hv : IsT m v t) (hw : IsT m w u) (hx : Held k u m x) (h : X 10 m) : CN (n + 2) 40 [v, w, x] Q X m := by
  (refine call_eq rfl rfl ?_; dsimp only [f_need_aside, sts, loc0, List.map, List.replicate, List.cons_append, List.nil_append, List.length, Nat.reduceAdd, Nat.reduceSub])
  walk_at "ss"
  refine len0 O hv ?_
  walk_at "ss"
  refine is_among_any hx.1 ?_
  cases ha : amV 0 ((k : Int) - 1) x with
  | false =>
    walk_at "ss"
    exact h
  | true =>
  obtain ⟨y, rfl, hy⟩ := hx.2.resolve_left (by rw [ha]; exact fun q => by cases q)
  walk_at "ss"
  obtain ⟨xs, ⟨a, rfl, ea⟩, e2⟩ := hw
  have hlx : xs.length < lid := by rw [e2.length]; exact lid_of O.ul
  refine items_list (IsL.seq ⟨a, rfl, ea⟩) hlx ?_
  refine for_inv (fun i l m' => m' = m ∧ (∃ y3, l = [some v, some (.ref a), some (.int y), y3]) ∧ ∀ r ∈ u.take i, y ∉ r) ⟨rfl, ⟨none, rfl⟩, fun r hr => by cases hr⟩ (fun i z l m' hz hI P hP => ?_) fun l m' hI => ?_
  · obtain ⟨rfl, ⟨y3, rfl⟩, hn⟩ := hI
    obtain ⟨r, hr, hzr⟩ := e2.get hz
    refine bodyF_one ?_
    dsimp only [setV]
    walk_at "ss"
    refine cmp_inI hzr ?_
    walk_at "ss"
    with_reducible refine ifQ_dec (fun q => ?_) (fun q => ?_)
    · walk_at "ss"
      exact h
    · walk_at "ss"
      with_reducible refine loopQ_next (hP _ _ ?_)
      refine ⟨IsL.stands ⟨a, rfl, ea⟩ ⟨a, rfl, ea⟩, rfl, ⟨_, rfl⟩, ?_⟩
      exact take_more hn hr (of_decide_eq_false q)
  · obtain ⟨rfl, ⟨y3, rfl⟩, hn⟩ := hI
    rw [e2.length, List.take_length] at hn
    obtain ⟨r, hr, hyr⟩ := List.mem_flatten.mp hy
    exact absurd hyr (hn r hr)
theorem steps_bad (O : Ok t u k) (hv : IsT m v t) (hw : IsT m w u) (hx : Held k u m x) (h : ∀ m', Ext m m' → X 10 m') : CN (n + 6) 42 [v, w, x] Q X m := by
  (refine call_eq rfl rfl ?_; dsimp only [f_steps, sts, loc0, List.map, List.replicate, List.cons_append, List.nil_append, List.length, Nat.reduceAdd, Nat.reduceSub])
  walk_at "ss"
  refine need_ok O hv hw fun m1 E1 => ?_
  walk_at "ss"
  exact need_aside_bad O (hv.ext E1) (hw.ext E1) (hx.ext E1) (h _ E1)
theorem awarded_bad (O : Ok t u k) (hv : IsT m v t) (hw : IsT m w u) (hx : Held k u m x) (h : ∀ m', Ext m m' → X 10 m') : CN (n + 6) 43 [v, w, x] Q X m := by
  (refine call_eq rfl rfl ?_; dsimp only [f_awarded, sts, loc0, List.map, List.replicate, List.cons_append, List.nil_append, List.length, Nat.reduceAdd, Nat.reduceSub])
  walk_at "ss"
  refine need_ok O hv hw fun m1 E1 => ?_
  walk_at "ss"
  exact need_aside_bad O (hv.ext E1) (hw.ext E1) (hx.ext E1) (h _ E1)
theorem init_bad {y : Val} (hx : Known m x) (hb : amV 1 8 x = false) (h : X 9 m) : CN (n + 2) 59 [y, x] Q X m := by
  (refine call_eq rfl rfl ?_; dsimp only [f_Estate___init__, sts, loc0, List.map, List.replicate, List.cons_append, List.nil_append, List.length, Nat.reduceAdd, Nat.reduceSub])
  walk_at "ss"
  refine is_among_any hx ?_
  rw [hb]
  walk_at "ss"
  exact h
end

section
variable {Q : Val → Mem → Prop} {X : Nat → Mem → Prop} {m : Mem} {n : Nat} {v w x : Val} {t u : List (List Int)} {k : Nat}
theorem fmod_nat (a b : Nat) : (a : Int).fmod (b : Int) = ((a % b : Nat) : Int) := by rw [Int.fmod_eq_emod_of_nonneg _ (Int.natCast_nonneg b)]; rfl
theorem thV_of {xs : List Val} {many : Int} (e : itemsAt m x = some xs) (h1 : xs.all (amV 0 (many - 1)) = true) (h2 : (intsOf xs).Nodup) : thV m many x = true := by
  unfold thV itemsD; rw [e]; show (true && (xs.all _ && decide (intsOf xs).Nodup)) = true
  rw [h1, decide_eq_true h2]; rfl
theorem is_order_bad (O : Ok t u k) (hv : IsT m v t) (hx : KnownR m x) (hb : thV m t.length x = false ∨ ∃ xs, itemsAt m x = some xs ∧ xs.length ≠ t.length) (h : ∀ m', Ext m m' → Q (.bool false) m') : CN (n + 2) 46 [v, x] Q X m := by
  (refine call_eq rfl rfl ?_; dsimp only [f_is_order, sts, loc0, List.map, List.replicate, List.cons_append, List.nil_append, List.length, Nat.reduceAdd, Nat.reduceSub])
  walk_at "ss"
  refine isList_at hx.1 ?_
  cases e : itemsAt m x with
  | none =>
    dsimp only [Option.isSome]
    walk_at "ss"
    exact h _ .refl
  | some xs =>
  dsimp only [Option.isSome]
  obtain ⟨hl, hk⟩ := hx.2 xs e
  have hL := itemsAt_lst e
  walk_at "ss"
  refine b1_len hL.seq (lid_of hl) ?_
  walk_at "ss"
  refine len_ll hv (lid_of O.tl) ?_
  walk_at "ss"
  with_reducible refine ifQ_dec (fun q => ?_) (fun q => ?_)
  · walk_at "ss"
    exact h _ .refl
  walk_at "ss"
  have hlen : xs.length = t.length := by simp at q; walk_at "o"
  have hb : thV m t.length x = false := hb.resolve_right fun ⟨ys, e', hn⟩ => by rw [e] at e'; cases e'; exact hn hlen
  refine items_list hL.seq (lid_of hl) ?_
  refine comp_pure (g := fun z => .bool (amV 0 ((t.length : Int) - 1) z)) rfl (fun z hz P hP => ?_) ?_
  · walk_at "ss"
    refine len_ll hv (lid_of O.tl) ?_
    walk_at "ss"
    exact is_among_any (hk z hz) hP
  refine freshL_ (by rw [List.length_map]; exact lid_of hl) (fun a ha => ?_)
  refine b1_all (bs := xs.map (amV 0 ((t.length : Int) - 1))) (by rw [IsL.new.lst, List.map_map]; rfl) ?_
  have E : Ext m _ := Ext.set ha (o := AObj.list (xs.map fun z => .bool (amV 0 ((t.length : Int) - 1) z)))
  have eall : (xs.map (amV 0 ((t.length : Int) - 1))).all id = xs.all (amV 0 ((t.length : Int) - 1)) := by simp [List.all_map, Function.comp_def]
  rw [eall]
  cases hal : xs.all (amV 0 ((t.length : Int) - 1)) with
  | false =>
    walk_at "ss"
    exact h _ E
  | true =>
    have hxs := ints_back hal
    have hI : IsI m x (intsOf xs) := by unfold IsI; rw [← hxs]; exact hL
    have hl' : (intsOf xs).length < 1000 := by have := congrArg List.length hxs; rw [List.length_map] at this; walk_at "o"
    have hnd : ¬ (intsOf xs).Nodup := fun q => by rw [thV_of e hal q] at hb; cases hb
    walk_at "ss"
    refine b1_lenset (hI.ext E).lst hl' fun c hc hn => ?_
    walk_at "ss"
    refine len_ints (hI.ext E) (lid_of hl') ?_
    walk_at "ss"
    refine Qb (h _ E) ?_
    have : ¬ (c : Int) = (intsOf xs).length := fun e => hnd (hn.mp (by walk_at "o"))
    simp [this]
theorem picked_bad (O : Ok t u k) (hv : IsT m v t) (hx : KnownR m x) (hb : thV m t.length x = false ∨ ∃ xs, itemsAt m x = some xs ∧ xs.length ≠ t.length) (h : ∀ m', Ext m m' → X 12 m') : CN (n + 5) 47 [v, x] Q X m := by
  (refine call_eq rfl rfl ?_; dsimp only [f_picked, sts, loc0, List.map, List.replicate, List.cons_append, List.nil_append, List.length, Nat.reduceAdd, Nat.reduceSub])
  walk_at "ss"
  refine need_tab O hv fun m1 E1 => ?_
  walk_at "ss"
  refine is_order_bad O (hv.ext E1) (hx.ext E1) (by rw [thV_ext E1 hx.1, itemsAt_ext E1 hx.1]; exact hb) fun m2 E2 => ?_
  walk_at "ss"
  exact h _ (E1.trans E2)
noncomputable def prOf (is : List Int) (p : Nat) : Nat × Nat := ((is.getD p 0).toNat, (is.getD ((p + 1) % is.length) 0).toNat)
noncomputable def RingBad (t u : List (List Int)) (m : Mem) (x : Val) : Prop := KnownR m x ∧ (thV m t.length x = false ∨ ∃ is, IsI m x is ∧ (is.length < 2 ∨ ∃ p, p < is.length ∧ prOf is p ∉ pairs t u))
theorem RingBad.ext {m' : Mem} (H : RingBad t u m x) (E : Ext m m') : RingBad t u m' x := ⟨H.1.ext E, H.2.imp (fun q => by rw [thV_ext E H.1.1]; exact q) fun ⟨is, h, q⟩ => ⟨is, h.ext E, q⟩⟩
theorem is_ring_bad (O : Ok t u k) (hv : IsT m v t) (hw : IsT m w u) (hx : RingBad t u m x) (h : ∀ m', Ext m m' → Q (.bool false) m') : CN (n + 4) 38 [v, w, x] Q X m := by
  obtain ⟨hx, hb⟩ := hx
  (refine call_eq rfl rfl ?_; dsimp only [f_is_ring, sts, loc0, List.map, List.replicate, List.cons_append, List.nil_append, List.length, Nat.reduceAdd, Nat.reduceSub])
  walk_at "ss"
  refine isList_at hx.1 ?_
  cases e : itemsAt m x with
  | none =>
    dsimp only [Option.isSome]
    walk_at "ss"
    exact h _ .refl
  | some xs =>
  dsimp only [Option.isSome]
  obtain ⟨hl, hk⟩ := hx.2 xs e
  have hL := itemsAt_lst e
  walk_at "ss"
  refine b1_len hL.seq (lid_of hl) ?_
  walk_at "ss"
  with_reducible refine ifQ_dec (fun q => ?_) (fun q => ?_)
  · walk_at "ss"
    exact h _ .refl
  have hlen : 2 ≤ xs.length := by simp at q; walk_at "o"
  walk_at "ss"
  refine items_list hL.seq (lid_of hl) ?_
  refine comp_pure (g := fun z => .bool (amV 0 ((t.length : Int) - 1) z)) rfl (fun z hz P hP => ?_) ?_
  · walk_at "ss"
    refine len_ll hv (lid_of O.tl) ?_
    walk_at "ss"
    exact is_among_any (hk z hz) hP
  refine freshL_ (by rw [List.length_map]; exact lid_of hl) (fun a ha => ?_)
  refine b1_all (bs := xs.map (amV 0 ((t.length : Int) - 1))) (by rw [IsL.new.lst, List.map_map]; rfl) ?_
  have E : Ext m _ := Ext.set ha (o := AObj.list (xs.map fun z => .bool (amV 0 ((t.length : Int) - 1) z)))
  have eall : (xs.map (amV 0 ((t.length : Int) - 1))).all id = xs.all (amV 0 ((t.length : Int) - 1)) := by simp [List.all_map, Function.comp_def]
  rw [eall]
  cases hal : xs.all (amV 0 ((t.length : Int) - 1)) with
  | false =>
    walk_at "ss"
    exact h _ E
  | true =>
  have hxs := ints_back hal
  have hI : IsI m x (intsOf xs) := by unfold IsI; rw [← hxs]; exact hL
  have hil : (intsOf xs).length = xs.length := by have := congrArg List.length hxs; rw [List.length_map] at this; walk_at "o"
  have hl' : (intsOf xs).length < 1000 := by walk_at "o"
  walk_at "ss"
  refine b1_lenset (hI.ext E).lst hl' fun c hc hn => ?_
  walk_at "ss"
  refine len_ints (hI.ext E) (lid_of hl') ?_
  walk_at "ss"
  with_reducible refine ifQ_dec (fun q2 => ?_) (fun q2 => ?_)
  · walk_at "ss"
    exact h _ E
  have hnd : (intsOf xs).Nodup := hn.mp (by simp at q2; walk_at "o")
  have hp : ∃ p, p < (intsOf xs).length ∧ prOf (intsOf xs) p ∉ pairs t u := by
    rcases hb with hb | ⟨is, hi, hb⟩
    · rw [thV_of e hal hnd] at hb; cases hb
    · have : is = intsOf xs := by
        have h1 := itemsAt_of hi
        rw [e] at h1; cases h1
        rw [intsOf_map]
      subst this
      exact hb.resolve_left (by walk_at "o")
  have hpos : ∀ z ∈ intsOf xs, 0 ≤ z := fun z hz => by
    rw [hxs, all_am] at hal
    exact (of_decide_eq_true (List.all_eq_true.mp hal z hz)).1
  clear hal hn hk hL hb hc
  generalize intsOf xs = is at *
  walk_at "ss"
  refine pairs_spec O (hv.ext E) (hw.ext E) fun b m2 E2 hb2 eb2 => ?_
  have EE := E.trans E2
  have hI2 := hI.ext EE
  walk_at "ss"
  try dsimp only [setV]
  refine len_ints hI2 (lid_of hl') ?_
  refine items_range ⟨by walk_at "o", by unfold lid; walk_at "o"⟩ ?_
  refine comp_pure (g := fun z => match z with | .int p => .bool (decide (prOf is p.toNat ∈ pairs t u)) | _ => .none) trivial (fun z hz P hP => ?_) ?_
  · obtain ⟨p, hpm⟩ := List.mem_iff_getElem?.mp hz
    obtain ⟨hp1, rfl⟩ := range_get hpm
    have hp1 : p < is.length := by simpa using hp1
    have hp2 : (p + 1) % is.length < is.length := Nat.mod_lt _ (by walk_at "o")
    try dsimp only [setV]
    walk_at "ss"
    refine sub_ints hI2 (by walk_at "o") (by rw [Int.toNat_natCast]; exact getD_some hp1) (lid_of hl') ?_
    walk_at "ss"
    refine len_ints hI2 (lid_of hl') ?_
    walk_at "ss"
    rw [show ((p : Int) + 1).fmod (is.length : Int) = (((p + 1) % is.length : Nat) : Int) from fmod_nat (p + 1) is.length]
    refine sub_ints hI2 (by walk_at "o") (by rw [Int.toNat_natCast]; exact getD_some hp2) (lid_of hl') ?_
    walk_at "ss"
    refine ⟨lid_of (show 2 < 1000 by decide), ?_⟩
    walk_at "ss"
    have e1 : is.getD p 0 = (((prOf is p).1 : Nat) : Int) := (Int.toNat_of_nonneg (hpos _ (List.mem_of_getElem? (getD_some hp1)))).symm
    have e2 : is.getD ((p + 1) % is.length) 0 = (((prOf is p).2 : Nat) : Int) := (Int.toNat_of_nonneg (hpos _ (List.mem_of_getElem? (getD_some hp2)))).symm
    rw [e1, e2]
    refine cmp_inPd eb2 ?_
    walk_at "ss"
    exact hP
  · refine freshL_ (by rw [List.length_map, range_len]; unfold lid; walk_at "o") (fun a3 ha3 => ?_)
    refine b1_all (bs := (List.range is.length).map fun p => decide (prOf is p ∈ pairs t u)) (by rw [IsL.new.lst, List.map_map]; congr 1; simp [rangeV, Function.comp_def]) ?_
    walk_at "ss"
    refine Qb (h _ (EE.trans (Ext.set ha3))) ?_
    obtain ⟨p, h1, h2⟩ := hp
    rw [List.all_eq_false]
    exact ⟨false, List.mem_map.mpr ⟨p, List.mem_range.mpr h1, decide_eq_false h2⟩, by decide⟩
theorem turned_bad (O : Ok t u k) (hv : IsT m v t) (hw : IsT m w u) (hx : RingBad t u m x) (h : ∀ m', Ext m m' → X 11 m') : CN (n + 6) 39 [v, w, x] Q X m := by
  (refine call_eq rfl rfl ?_; dsimp only [f_turned, sts, loc0, List.map, List.replicate, List.cons_append, List.nil_append, List.length, Nat.reduceAdd, Nat.reduceSub])
  walk_at "ss"
  refine need_ok O hv hw fun m1 E1 => ?_
  walk_at "ss"
  refine is_ring_bad O (hv.ext E1) (hw.ext E1) (hx.ext E1) fun m2 E2 => ?_
  walk_at "ss"
  exact h _ (E1.trans E2)
end

section
variable {Q : Val → Mem → Prop} {X : Nat → Mem → Prop} {m : Mem} {n : Nat} {v w x : Val} {t u : List (List Int)} {k : Nat} {good kind : Int}
inductive BadFor (t u : List (List Int)) (k : Nat) (good : Int) (m : Mem) (kind : Int) (x : Val) : Prop
  | heir (hk : kind = 0 ∨ kind = 1 ∨ kind = 2) (h1 : Known m x) (h2 : amV 0 ((t.length : Int) - 1) x = false)
  | same (hk : kind = 1 ∨ kind = 2) (h1 : x = .int good)
  | thing (hk : kind = 3) (h1 : KnownR m x) (h2 : thV m k x = false)
  | held (hk : kind = 4 ∨ kind = 5) (h1 : Held k u m x)
  | ring (hk : kind = 6) (h1 : RingBad t u m x)
  | order (hk : kind = 7) (h1 : KnownR m x) (h2 : thV m t.length x = false ∨ ∃ xs, itemsAt m x = some xs ∧ xs.length ≠ t.length)
  | est (hk : kind = 8) (h1 : Known m x) (h2 : amV 1 8 x = false)
theorem BadFor.ext {m' : Mem} (H : BadFor t u k good m kind x) (E : Ext m m') : BadFor t u k good m' kind x := by
  cases H with
  | heir hk h1 h2 => exact .heir hk (h1.ext E) h2
  | same hk h1 => exact .same hk h1
  | thing hk h1 h2 => exact .thing hk (h1.ext E) (by rw [thV_ext E h1.1]; exact h2)
  | held hk h1 => exact .held hk (h1.ext E)
  | ring hk h1 => exact .ring hk (h1.ext E)
  | order hk h1 h2 => exact .order hk (h1.ext E) (by rw [thV_ext E h1.1, itemsAt_ext E h1.1]; exact h2)
  | est hk h1 h2 => exact .est hk (h1.ext E) h2
noncomputable def codeOf (kind : Int) : Nat := if kind ≤ 2 then 9 else if kind ≤ 5 then 10 else if kind = 6 then 11 else if kind = 7 then 12 else 9
theorem asked_spec (O : Ok t u k) (hv : IsT m v t) (hw : IsT m w u) (hg : 0 ≤ good ∧ good < t.length) (hb : BadFor t u k good m kind x) (h : ∀ m', Ext m m' → X (codeOf kind) m') : CN (n + 7) 66 [.int kind, v, w, x, .int good] Q X m := by
  (refine call_eq rfl rfl ?_; dsimp only [f_L_asked_3, sts, loc0, List.map, List.replicate, List.cons_append, List.nil_append, List.length, Nat.reduceAdd, Nat.reduceSub])
  walk_at "ss"
  cases hb with
  | heir hk h1 h2 =>
    rcases hk with rfl | rfl | rfl
    · with_reducible refine ifQ_t (by decide) ?_
      walk_at "ss"
      exact worth_heir O hv h1 h2 h
    · (repeat (with_reducible refine ifQ_f (by decide) ?_; walk_at "ss")); (try (with_reducible refine ifQ_t (by decide) ?_; walk_at "ss")); exact spare_1 O hv hw h1 h2 h
    · (repeat (with_reducible refine ifQ_f (by decide) ?_; walk_at "ss")); (try (with_reducible refine ifQ_t (by decide) ?_; walk_at "ss")); exact spare_2 O hv hw hg h1 h2 h
  | same hk h1 =>
    subst h1
    rcases hk with rfl | rfl
    · (repeat (with_reducible refine ifQ_f (by decide) ?_; walk_at "ss")); (try (with_reducible refine ifQ_t (by decide) ?_; walk_at "ss")); exact spare_eq O hv hw hg h
    · (repeat (with_reducible refine ifQ_f (by decide) ?_; walk_at "ss")); (try (with_reducible refine ifQ_t (by decide) ?_; walk_at "ss")); exact spare_eq O hv hw hg h
  | thing hk h1 h2 => subst hk; (repeat (with_reducible refine ifQ_f (by decide) ?_; walk_at "ss")); (try (with_reducible refine ifQ_t (by decide) ?_; walk_at "ss")); exact worth_thing O hv hg h1 h2 h
  | held hk h1 =>
    rcases hk with rfl | rfl
    · (repeat (with_reducible refine ifQ_f (by decide) ?_; walk_at "ss")); (try (with_reducible refine ifQ_t (by decide) ?_; walk_at "ss")); exact steps_bad O hv hw h1 h
    · (repeat (with_reducible refine ifQ_f (by decide) ?_; walk_at "ss")); (try (with_reducible refine ifQ_t (by decide) ?_; walk_at "ss")); exact awarded_bad O hv hw h1 h
  | ring hk h1 => subst hk; (repeat (with_reducible refine ifQ_f (by decide) ?_; walk_at "ss")); (try (with_reducible refine ifQ_t (by decide) ?_; walk_at "ss")); exact turned_bad O hv hw h1 h
  | order hk h1 h2 => subst hk; (repeat (with_reducible refine ifQ_f (by decide) ?_; walk_at "ss")); (try (with_reducible refine ifQ_t (by decide) ?_; walk_at "ss")); exact picked_bad O hv h1 h2 h
  | est hk h1 h2 => subst hk; (repeat (with_reducible refine ifQ_f (by decide) ?_; walk_at "ss")); (try (with_reducible refine ifQ_t (by decide) ?_; walk_at "ss")); exact fun y _ => init_bad h1 h2 (h _ .refl)
noncomputable def wordOf (kind : Int) : String := if kind ≤ 2 then "heir" else if kind ≤ 5 then "thing" else if kind = 6 then "ring" else if kind = 7 then "order" else "heir"
theorem kind_cases {P : Int → Prop} (h0 : 0 ≤ kind ∧ kind < 9) (h : P 0 ∧ P 1 ∧ P 2 ∧ P 3 ∧ P 4 ∧ P 5 ∧ P 6 ∧ P 7 ∧ P 8) : P kind := by
  have : kind = 0 ∨ kind = 1 ∨ kind = 2 ∨ kind = 3 ∨ kind = 4 ∨ kind = 5 ∨ kind = 6 ∨ kind = 7 ∨ kind = 8 := by walk_at "o"
  obtain ⟨a0, a1, a2, a3, a4, a5, a6, a7, a8⟩ := h
  rcases this with rfl | rfl | rfl | rfl | rfl | rfl | rfl | rfl | rfl <;> assumption
theorem pick_kind (h0 : 0 ≤ kind ∧ kind < 9) : (7 ≤ codeOf kind ∧ codeOf kind ≤ 14) ∧ ((pickB (codeOf kind) ([.BadHeir, .BadThing, .BadRing] ++ [.BadOrder, .BadTable, .BadShares] ++ [.BadNote, .Full])).filter id).length = 1 ∧ (["heir", "thing", "ring", "order", "other", "other", "other", "other"] : List String)[(pickB (codeOf kind) ([.BadHeir, .BadThing, .BadRing] ++ [.BadOrder, .BadTable, .BadShares] ++ [.BadNote, .Full])).idxOf true]? = some (wordOf kind) :=
  kind_cases (P := fun kind => (7 ≤ codeOf kind ∧ codeOf kind ≤ 14) ∧ ((pickB (codeOf kind) ([.BadHeir, .BadThing, .BadRing] ++ [.BadOrder, .BadTable, .BadShares] ++ [.BadNote, .Full])).filter id).length = 1 ∧ (["heir", "thing", "ring", "order", "other", "other", "other", "other"] : List String)[(pickB (codeOf kind) ([.BadHeir, .BadThing, .BadRing] ++ [.BadOrder, .BadTable, .BadShares] ++ [.BadNote, .Full])).idxOf true]? = some (wordOf kind)) h0 (by decide)
theorem word_spec {R : Val → Mem → Prop} (O : Ok t u k) (hv : IsT m v t) (hw : IsT m w u) (hg : 0 ≤ good ∧ good < t.length) (h0 : 0 ≤ kind ∧ kind < 9) (hb : BadFor t u k good m kind x) (h : ∀ m', Ext m m' → R (.str (Str.ofString (wordOf kind))) m') : CT (n + 8) 67 [.int kind, v, w, x, .int good] R X m := by
  (refine callT_eq rfl rfl ?_; dsimp only [f_L_word, sts, loc0, List.map, List.replicate, List.cons_append, List.nil_append, List.length, Nat.reduceAdd, Nat.reduceSub])
  walk_at "ss"
  refine ⟨⟨⟨show 5 < 8 by decide, rfl⟩, show 6 < 8 by decide, by decide, show 7 < 8 by decide⟩, ?_⟩
  walk_at "ss"
  obtain ⟨p1, p2, p3⟩ := pick_kind h0
  exact asked_spec O hv hw hg hb fun m' E => ⟨p1, p2, _, p3, fun m2 hx l => h _ (E.trans hx)⟩
end

section
variable {Q : Val → Mem → Prop} {X : Nat → Mem → Prop} {m : Mem} {n : Nat} {v w x : Val} {t u : List (List Int)} {k : Nat}
theorem am_int {lo hi i : Int} : amV lo hi (.int i) = decide (lo ≤ i ∧ i ≤ hi) := rfl
theorem odd_spec {num many : Int} (hm : 0 ≤ many) (h : ∀ v m', Ext m m' → Known m' v → amV 0 (many - 1) v = false → Q v m') : CN (n + 1) 68 [.int num, .int many] Q X m := by
  (refine call_eq rfl rfl ?_; dsimp only [f_L_odd, sts, loc0, List.map, List.replicate, List.cons_append, List.nil_append, List.length, Nat.reduceAdd, Nat.reduceSub])
  walk_at "ss"
  refine freshL_x (lid_of (show 1 < 1000 by decide)) fun c1 m1 hc1 E1 e1 => ?_
  walk_at "ss"
  refine e_dictx fun d m2 hd E2 e2 => ?_
  walk_at "ss"
  refine ⟨_, rfl, many, rfl, ?_⟩
  walk_at "ss"
  refine freshL_x (lid_of (show 10 < 1000 by decide)) fun c3 m3 hc3 E3 e3 => ?_
  walk_at "ss"
  obtain ⟨h0, h10⟩ := fm num (b := 10) (by decide)
  generalize num.fmod 10 = j at h0 h10 ⊢
  have hj : j.toNat < 10 := by walk_at "o"
  refine subW_ (IsL.seq ⟨c3, rfl, e3⟩) (place_nat h0 hj) (List.getElem?_eq_getElem hj) (by exact lid_of (show 10 < 1000 by decide)) ?_
  walk_at "ss"
  have key : ∀ z ∈ [Val.bool true, .bool false, .int (-1), .int many, .str (Str.ofString "0"), .none, .ref c1, .ref d, .int (many + 7), .int (-many - 1)], Known m3 z ∧ amV 0 (many - 1) z = false := fun z hz => by
    simp only [List.mem_cons, List.not_mem_nil, or_false] at hz
    rcases hz with rfl | rfl | rfl | rfl | rfl | rfl | rfl | rfl | rfl | rfl
    · exact ⟨trivial, rfl⟩
    · exact ⟨trivial, rfl⟩
    · exact ⟨trivial, by rw [am_int]; exact decide_eq_false (by walk_at "o")⟩
    · exact ⟨trivial, by rw [am_int]; exact decide_eq_false (by walk_at "o")⟩
    · exact ⟨trivial, rfl⟩
    · exact ⟨trivial, rfl⟩
    · exact ⟨⟨_, (E2.trans E3) _ _ e1⟩, rfl⟩
    · exact ⟨⟨_, E3 _ _ e2⟩, rfl⟩
    · exact ⟨trivial, by rw [am_int]; exact decide_eq_false (by walk_at "o")⟩
    · exact ⟨trivial, by rw [am_int]; exact decide_eq_false (by walk_at "o")⟩
  obtain ⟨k1, k2⟩ := key _ (List.getElem_mem hj)
  exact h _ _ (E1.trans (E2.trans E3)) k1 k2
theorem thV_none {many : Int} (h : itemsAt m x = none) : thV m many x = false := by unfold thV; rw [h]; rfl
theorem thV_bad {many : Int} {xs : List Val} {z : Val} (h : IsL m x xs) (hz : z ∈ xs) (hb : amV 0 (many - 1) z = false) : thV m many x = false := by
  unfold thV itemsD
  rw [itemsAt_of h]
  show (true && (xs.all _ && _)) = false
  rw [show xs.all (amV 0 (many - 1)) = false from List.all_eq_false.mpr ⟨z, hz, by rw [hb]; exact Bool.false_ne_true⟩]
  rfl
theorem thV_dup {many : Int} {is : List Int} (h : IsI m x is) (hd : ¬ is.Nodup) : thV m many x = false := by
  unfold thV itemsD
  rw [itemsAt_of h]
  show (true && (_ && decide (intsOf (is.map Val.int)).Nodup)) = false
  rw [intsOf_map, decide_eq_false hd, Bool.and_false, Bool.and_false]
theorem rangeN_ints (N : Nat) : rangeV (N : Int) = ((List.range N).map fun (p : Nat) => (p : Int)).map Val.int := by simp [rangeV]
theorem cut_sub {up : Bool} {is : List Int} {j : Int} {z : Val} (h : z ∈ cutL up (is.map Val.int) j) : ∃ i, z = .int i := by
  have : z ∈ is.map Val.int := by
    unfold cutL at h
    cases up
    · exact List.mem_of_mem_take h
    · exact List.mem_of_mem_drop h
  obtain ⟨i, _, rfl⟩ := List.mem_map.mp this
  exact ⟨i, rfl⟩
theorem cut_len {up : Bool} {xs : List Val} {k : Int} : (cutL up xs k).length ≤ xs.length := by
  unfold cutL
  cases up
  · show (xs.take _).length ≤ _; rw [List.length_take]; exact Nat.min_le_right _ _
  · show (xs.drop _).length ≤ _; rw [List.length_drop]; exact Nat.sub_le _ _
theorem put_odd {N at' : Int} {r : Val} {is : List Int} {o : Val} {R : Flow → Loc → Mem → Prop} {Y : Nat → Loc → Mem → Prop} {l0 l1 l2 l6 : Option Val} (hr : IsI m r is) (hl : is.length ≤ 100) (ho : Known m o) (hb : amV 0 (N - 1) o = false)
    (h : ∀ v m', Ext m m' → KnownR m' v → thV m' N v = false → R (.ret v) [l0, l1, l2, some r, some (.int at'), some o, l6] m') :
    wpS (CN n) (globOf GS) (.ret (.bin .add (.bin .add (.slice false (.nm 3) (.nm 4)) (.lst (.cons (.nm 5) .nil))) (.slice true (.nm 3) (.nm 4)))) R Y [l0, l1, l2, some r, some (.int at'), some o, l6] m := by
  obtain ⟨a, rfl, ea⟩ := hr
  have hl' : (is.map Val.int).length < lid := by rw [List.length_map]; exact lid_of (by walk_at "o")
  have c1 := cut_len (up := false) (xs := is.map Val.int) (k := at')
  have c2 := cut_len (up := true) (xs := is.map Val.int) (k := at')
  rw [List.length_map] at c1 c2
  walk_at "ss"
  refine slQ_ ea hl' ?_
  refine freshL_x (lid_of (by walk_at "o")) fun b1 m1 hb1 E1 e1 => ?_
  walk_at "ss"
  refine freshL_x (lid_of (show 1 < 1000 by decide)) fun b2 m2 hb2 E2 e2 => ?_
  refine bin_addL (IsL.lst ⟨b1, rfl, E2 _ _ e1⟩) (IsL.lst ⟨b2, rfl, e2⟩) ?_
  refine freshL_x (lid_of (by rw [List.length_append]; simp; walk_at "o")) fun b3 m3 hb3 E3 e3 => ?_
  walk_at "ss"
  have E13 := E1.trans (E2.trans E3)
  refine slQ_ (E13 _ _ ea) hl' ?_
  refine freshL_x (lid_of (by walk_at "o")) fun b4 m4 hb4 E4 e4 => ?_
  refine bin_addL (IsL.lst ⟨b3, rfl, E4 _ _ e3⟩) (IsL.lst ⟨b4, rfl, e4⟩) ?_
  refine freshL_x (lid_of (by rw [List.length_append, List.length_append]; simp; walk_at "o")) fun b5 m5 hb5 E5 e5 => ?_
  walk_at "ss"
  have E15 := E13.trans (E4.trans E5)
  have hL : IsL m5 (.ref b5) _ := ⟨b5, rfl, e5⟩
  refine h _ _ E15 (.list hL (by rw [List.length_append, List.length_append]; simp; walk_at "o") fun z hz => ?_) (thV_bad hL (z := o) (by simp) hb)
  rw [List.mem_append, List.mem_append, List.mem_singleton] at hz
  rcases hz with (hz | rfl) | hz
  · obtain ⟨i, rfl⟩ := cut_sub hz; trivial
  · exact ho.ext E15
  · obtain ⟨i, rfl⟩ := cut_sub hz; trivial
end

section
variable {Q : Val → Mem → Prop} {X : Nat → Mem → Prop} {m : Mem} {n : Nat} {v w x : Val} {t u : List (List Int)} {k : Nat}
theorem isBool_eq {b : Bool} {o : Val} (h : isLit (some b) o = true) : o = .bool b := by
  cases o with
  | bool c => have : (c == b) = true := h; rw [eq_of_beq this]
  | _ => exact Bool.noConfusion (show false = true from h)
theorem filter_ints {is : List Int} {c : Val → Bool} : ∃ js : List Int, (is.map Val.int).filter c = js.map .int ∧ js.length ≤ is.length := by
  rw [List.filter_map]
  exact ⟨_, rfl, List.length_filter_le _ _⟩
theorem bad_list_spec {num : Int} {N : Nat} (hN : N ≤ 40) (h : ∀ v m', Ext m m' → KnownR m' v → thV m' N v = false → Q v m') : CN (n + 2) 69 [.int num, .int N, .int N] Q X m := by
  (refine call_eq rfl rfl ?_; dsimp only [f_L_bad_list, sts, loc0, List.map, List.replicate, List.cons_append, List.nil_append, List.length, Nat.reduceAdd, Nat.reduceSub])
  walk_at "ss"
  refine b1_lrange ⟨by walk_at "o", by unfold lid; walk_at "o"⟩ ?_
  rw [rangeN_ints]
  have hrl : ((List.range N).map fun (p : Nat) => (p : Int)).length = N := by simp
  refine freshL_x (by rw [List.length_map, hrl]; exact lid_of (by walk_at "o")) fun a m1 ha E1 e1 => ?_
  walk_at "ss"
  try dsimp only [setV]
  have hat := fm (num.fdiv 10) (b := (N : Int) + 1) (by walk_at "o")
  refine odd_spec (by walk_at "o") fun o m2 E2 ho hb => ?_
  walk_at "ss"
  try dsimp only [setV]
  generalize (num.fdiv 10).fmod ((N : Int) + 1) = at' at hat ⊢
  have hI : IsI m2 (.ref a) ((List.range N).map fun (p : Nat) => (p : Int)) := ⟨a, rfl, E2 _ _ e1⟩
  have E12 := E1.trans E2
  with_reducible refine ifQ_dec (fun q1 => ?_) (fun q1 => ?_)
  · have fin : ∀ (r : Val) (is : List Int) (m3 : Mem) (l6 : Option Val) (R : Flow → Loc → Mem → Prop) (Y : Nat → Loc → Mem → Prop), Ext m2 m3 → IsI m3 r is → is.length ≤ 100 → (∀ v m', Q v m' → R (.ret v) [some (.int num), some (.int N), some (.int N), some r, some (.int at'), some o, l6] m') →
        wpS (CN (n + 1)) (globOf GS) (.ret (.bin .add (.bin .add (.slice false (.nm 3) (.nm 4)) (.lst (.cons (.nm 5) .nil))) (.slice true (.nm 3) (.nm 4)))) R Y [some (.int num), some (.int N), some (.int N), some r, some (.int at'), some o, l6] m3 := fun r is m3 l6 R Y E3 hr hl hR =>
      put_odd hr hl (ho.ext E3) hb fun v m' E' k1 k2 => hR v m' (h v m' (E12.trans (E3.trans E')) k1 k2)
    have filt : ∀ b : Bool, o = .bool b → ∀ {P : List Val → Mem → Prop} {okk : Mem → Prop}, okk m2 → (∀ js : List Int, js.length ≤ 100 → P (js.map .int) m2) → compLoop (cF (CN (n + 1)) (globOf GS) noX (.nm 6) (.one 6) (.cons (.cmp .ne (.nm 6) (.b1 .int (.nm 5))) .nil) [some (.int num), some (.int N), some (.int N), some (.ref a), some (.int at'), some o, none]) okk (((List.range N).map fun (p : Nat) => (p : Int)).map Val.int) [] P m2 := fun b hob P okk hok hP => by
      subst hob
      refine comp_filter (g := id) (c := fun z => match z with | .int i => decide (i ≠ (if b then 1 else 0)) | _ => false) hok (fun z hz P hP => ?_) (fun z hz P hP => ?_) ?_
      · obtain ⟨i, _, rfl⟩ := List.mem_map.mp hz
        dsimp only [setV]
        walk_at "ss"
        refine b1_int ?_
        walk_at "ss"
        exact hP
      · obtain ⟨i, _, rfl⟩ := List.mem_map.mp hz
        dsimp only [setV]
        walk_at "ss"
        exact hP
      · rw [List.map_id]
        obtain ⟨js, e, hl⟩ := filter_ints (is := (List.range N).map fun (p : Nat) => (p : Int)) (c := fun z => match z with | .int i => decide (i ≠ (if b then 1 else 0)) | _ => false)
        rw [e]
        exact hP js (by rw [hrl] at hl; walk_at "o")
    walk_at "ss"
    have go : ∀ b : Bool, o = .bool b → ∀ {R : Flow → Loc → Mem → Prop} {Y : Nat → Loc → Mem → Prop}, (∀ r js m3, Ext m2 m3 → IsI m3 r js → js.length ≤ 100 → R .next [some (.int num), some (.int N), some (.int N), some r, some (.int at'), some o, none] m3) → wpS (CN (n + 1)) (globOf GS) (.asg 3 (.comp (.nm 6) (.one 6) .plain (.nm 3) (.cons (.cmp .ne (.nm 6) (.b1 .int (.nm 5))) .nil))) R Y [some (.int num), some (.int N), some (.int N), some (.ref a), some (.int at'), some o, none] m2 := fun b hob R Y hR => by
      walk_at "ss"
      refine items_list hI.seq (by rw [List.length_map, hrl]; exact lid_of (by walk_at "o")) ?_
      refine filt b hob (IsL.stands hI hI) fun js hjl => ?_
      refine freshL_x (by rw [List.length_map]; exact lid_of (by walk_at "o")) fun a3 m3 ha3 E3 e3 => ?_
      exact hR (.ref a3) js m3 E3 ⟨a3, rfl, e3⟩ hjl
    cases q2 : (isLit (some true) o == true) with
    | true =>
      have hob := isBool_eq (eq_of_beq q2)
      with_reducible refine bsQ_or_true ?_
      with_reducible refine asB_ ?_
      with_reducible refine ifQ_true ?_
      with_reducible refine s_cons ?_
      refine go _ hob fun r js m3 E3 hr hjl => ?_
      repeat (with_reducible first | refine seqQ_next ?_ | refine s_nil ?_)
      with_reducible refine s_cons ?_
      refine fin r js m3 _ _ _ E3 hr hjl fun v m' hv => ?_
      walk_at "ss"
      exact hv
    | false =>
      walk_at "ss"
      cases q3 : (isLit (some false) o == true) with
      | true =>
        have hob := isBool_eq (eq_of_beq q3)
        with_reducible refine ifQ_true ?_
        with_reducible refine s_cons ?_
        refine go _ hob fun r js m3 E3 hr hjl => ?_
        repeat (with_reducible first | refine seqQ_next ?_ | refine s_nil ?_)
        with_reducible refine s_cons ?_
        refine fin r js m3 _ _ _ E3 hr hjl fun v m' hv => ?_
        walk_at "ss"
        exact hv
      | false =>
        with_reducible refine ifQ_false ?_
        repeat (with_reducible first | refine seqQ_next ?_ | refine s_nil ?_)
        with_reducible refine s_cons ?_
        refine fin _ _ m2 _ _ _ .refl hI (by rw [hrl]; walk_at "o") fun v m' hv => ?_
        walk_at "ss"
        exact hv
  have oth : ∀ (R : Flow → Loc → Mem → Prop) (Y : Nat → Loc → Mem → Prop), (∀ v m', Q v m' → R (.ret v) [some (.int num), some (.int N), some (.int N), some (.ref a), some (.int at'), some o, none] m') →
      wpS (CN (n + 1)) (globOf GS) (.ret (.sub (.lst (.cons (.b1 .tuple (.nm 3)) (.cons .none (.cons (.int 5) (.cons (.str "0") (.cons .dict0 .nil)))))) (.bin .mod (.bin .fdiv (.nm 0) (.int 10)) (.int 5)))) R Y [some (.int num), some (.int N), some (.int N), some (.ref a), some (.int at'), some o, none] m2 := fun R Y hR => by
    walk_at "ss"
    refine ⟨_, hI.lst, by rw [List.length_map, hrl]; exact lid_of (by walk_at "o"), ?_⟩
    walk_at "ss"
    refine e_dictx fun d m3 hd E3 e3 => ?_
    walk_at "ss"
    refine freshL_x (lid_of (show 5 < 1000 by decide)) fun c4 m4 hc4 E4 e4 => ?_
    walk_at "ss"
    obtain ⟨h0, h5⟩ := fm (num.fdiv 10) (b := 5) (by decide)
    generalize (num.fdiv 10).fmod 5 = j at h0 h5 ⊢
    have hj : j.toNat < 5 := by walk_at "o"
    refine subW_ (IsL.seq ⟨c4, rfl, e4⟩) (place_nat h0 hj) (List.getElem?_eq_getElem hj) (by exact lid_of (show 5 < 1000 by decide)) ?_
    walk_at "ss"
    have key : ∀ z ∈ [Val.tup (((List.range N).map fun (p : Nat) => (p : Int)).map Val.int), .none, .int 5, .str (Str.ofString "0"), .ref d], Known m4 z ∧ itemsAt m4 z = none := fun z hz => by
      simp only [List.mem_cons, List.not_mem_nil, or_false] at hz
      rcases hz with rfl | rfl | rfl | rfl | rfl
      · exact ⟨trivial, rfl⟩
      · exact ⟨trivial, rfl⟩
      · exact ⟨trivial, rfl⟩
      · exact ⟨trivial, rfl⟩
      · have := E4 _ _ e3
        exact ⟨⟨_, this⟩, by show itemsOf (m4 d) = none; rw [this]; rfl⟩
    obtain ⟨k1, k2⟩ := key _ (List.getElem_mem hj)
    exact hR _ _ (h _ _ (E12.trans (E3.trans E4)) (.nolist k1 k2) (thV_none k2))
  walk_at "ss"
  cases q2 : decide (num.fmod 10 < 7) with
  | false =>
    with_reducible refine bsQ_and_false ?_
    with_reducible refine asB_ ?_
    with_reducible refine ifQ_false ?_
    repeat (with_reducible first | refine seqQ_next ?_ | refine s_nil ?_)
    with_reducible refine s_cons ?_
    refine oth _ _ fun v m' hv => ?_
    walk_at "ss"
    exact hv
  | true =>
  walk_at "ss"
  cases q3 : decide ((N : Int) > 0) with
  | false =>
    with_reducible refine ifQ_false ?_
    repeat (with_reducible first | refine seqQ_next ?_ | refine s_nil ?_)
    with_reducible refine s_cons ?_
    refine oth _ _ fun v m' hv => ?_
    walk_at "ss"
    exact hv
  | true =>
    have hpos : 0 < N := by have := of_decide_eq_true q3; walk_at "o"
    walk_at "ss"
    obtain ⟨h0, h5⟩ := fm at' (b := (N : Int)) (by walk_at "o")
    generalize at'.fmod (N : Int) = j at h0 h5 ⊢
    have hj : j.toNat < N := by walk_at "o"
    have hjr : ((List.range N).map fun (p : Nat) => (p : Int))[j.toNat]? = some j := by
      rw [List.getElem?_map, List.getElem?_range hj]
      exact congrArg some (Int.toNat_of_nonneg h0)
    refine sub_ints hI h0 hjr (by rw [hrl]; exact lid_of (by walk_at "o")) ?_
    walk_at "ss"
    refine freshL_x (lid_of (show 1 < 1000 by decide)) fun a3 m3 ha3 E3 e3 => ?_
    refine bin_addL (hI.ext E3).lst (IsL.lst ⟨a3, rfl, e3⟩) ?_
    rw [show [Val.int j] = [j].map Val.int from rfl, ← List.map_append]
    refine freshL_x (by rw [List.length_map, List.length_append, hrl]; exact lid_of (by simp; walk_at "o")) fun a4 m4 ha4 E4 e4 => ?_
    walk_at "ss"
    have hI4 : IsI m4 (.ref a4) (((List.range N).map fun (p : Nat) => (p : Int)) ++ [j]) := ⟨a4, rfl, e4⟩
    refine h _ _ (E12.trans (E3.trans E4)) (.ints hI4 (by rw [List.length_append, hrl]; simp; walk_at "o")) (thV_dup hI4 fun hnd => ?_)
    rw [List.nodup_append] at hnd
    exact hnd.2.2 j (List.mem_of_getElem? hjr) j (List.mem_singleton.mpr rfl) rfl
end

section
variable {Q : Val → Mem → Prop} {X : Nat → Mem → Prop} {m : Mem} {n : Nat} {v w x : Val} {t u : List (List Int)} {k : Nat}
noncomputable def prevI (L k : Nat) : Nat := if k = 0 then L - 1 else k - 1
theorem prevI_lt {L k : Nat} (h : k < L) : prevI L k < L := by unfold prevI; split <;> walk_at "o"
theorem prevI_next {L k : Nat} (h : k < L) : (prevI L k + 1) % L = k := by
  unfold prevI
  split
  · rename_i q; subst q; rw [Nat.sub_add_cancel (by walk_at "o"), Nat.mod_self]
  · rw [Nat.sub_add_cancel (by walk_at "o"), Nat.mod_eq_of_lt h]
theorem place_prev {L k : Nat} (h : k < L) : place ((k : Int) - 1) L = some (prevI L k) := by
  unfold place prevI
  by_cases q : k = 0
  · subst q
    rw [if_neg (by walk_at "o"), if_pos rfl]
    first | (rw [if_pos (by walk_at "o")]; rfl) | (rw [if_pos (by walk_at "o")]; congr 1; walk_at "o") | (split <;> first | walk_at "o" | (congr 1; walk_at "o"))
  · rw [if_pos (by walk_at "o"), if_neg q, if_pos (by walk_at "o")]
    first | done | (congr 1; walk_at "o")
theorem bad_ring_spec {num : Int} (O : Ok t u k) (hv : IsT m v t) (hw : IsT m w u) (h : ∀ x m', Ext m m' → RingBad t u m' x → Q x m') : CN (n + 3) 70 [.int num, v, w] Q X m := by
  have h8 := O.t8
  have h1 : 1 ≤ t.length := by obtain ⟨r, t', e, _⟩ := O.row0; rw [e, List.length_cons]; walk_at "o"
  (refine call_eq rfl rfl ?_; dsimp only [f_L_bad_ring, sts, loc0, List.map, List.replicate, List.cons_append, List.nil_append, List.length, Nat.reduceAdd, Nat.reduceSub])
  walk_at "ss"
  refine len_ll hv (lid_of O.tl) ?_
  walk_at "ss"
  try dsimp only [setV]
  with_reducible refine ifQ_dec (fun q1 => ?_) (fun q1 => ?_)
  · walk_at "ss"
    refine bad_list_spec (by walk_at "o") fun x m' E k1 k2 => ?_
    walk_at "ss"
    exact h _ _ E ⟨k1, .inl k2⟩
  walk_at "ss"
  with_reducible refine ifQ_dec (fun q2 => ?_) (fun q2 => ?_)
  · walk_at "ss"
    refine freshL_x (lid_of (show 0 < 1000 by decide)) fun a1 m1 ha1 E1 e1 => ?_
    walk_at "ss"
    refine freshL_x (lid_of (show 1 < 1000 by decide)) fun a2 m2 ha2 E2 e2 => ?_
    walk_at "ss"
    refine freshL_x (lid_of (show 2 < 1000 by decide)) fun a3 m3 ha3 E3 e3 => ?_
    walk_at "ss"
    obtain ⟨h0, h2⟩ := fm (num.fdiv 60) (b := 2) (by decide)
    generalize (num.fdiv 60).fmod 2 = j at h0 h2 ⊢
    have E13 := E1.trans (E2.trans E3)
    have hA : ∀ (a : Addr) (is : List Int), m3 a = some (.list (is.map .int)) → is.length < 2 → Q (.ref a) m3 := fun a is ea hl => h _ _ E13 ⟨.ints ⟨a, rfl, ea⟩ (by walk_at "o"), .inr ⟨is, ⟨a, rfl, ea⟩, .inl hl⟩⟩
    have hj : j = 0 ∨ j = 1 := by walk_at "o"
    rcases hj with rfl | rfl
    · refine subW_ (IsL.seq ⟨a3, rfl, e3⟩) (j := 0) rfl rfl (by exact lid_of (show 2 < 1000 by decide)) ?_
      walk_at "ss"
      exact hA a1 [] ((E2.trans E3) _ _ e1) (by decide)
    · refine subW_ (IsL.seq ⟨a3, rfl, e3⟩) (j := 1) rfl rfl (by exact lid_of (show 2 < 1000 by decide)) ?_
      walk_at "ss"
      exact hA a2 [_] (E3 _ _ e2) (show 1 < 2 by decide)
  walk_at "ss"
  obtain ⟨hm0, hm3⟩ := fm (num.fdiv 40) (b := 3) (by decide)
  generalize (num.fdiv 40).fmod 3 = c at hm0 hm3 ⊢
  obtain ⟨L, hL, hL1, hL8⟩ : ∃ L : Nat, mmV false (t.length : Int) (2 + c) = (L : Int) ∧ 1 ≤ L ∧ L ≤ t.length := by
    refine ⟨(mmV false (t.length : Int) (2 + c)).toNat, ?_⟩
    unfold mmV
    simp only [Bool.false_eq_true, if_false]
    first | walk_at "o" | (split <;> walk_at "o")
  rw [hL]
  clear hL hm0 hm3
  have hLr := range_len (L : Int)
  rw [Int.toNat_natCast] at hLr
  refine items_range (rng_lid ⟨by walk_at "o", by walk_at "o"⟩) ?_
  refine comp_pure (g := fun z => match z with | .int p => .int ((num.fdiv 3 + p).fmod (t.length : Int)) | _ => .none) trivial (fun z hz P hP => ?_) ?_
  · obtain ⟨p, hpm⟩ := List.mem_iff_getElem?.mp hz
    obtain ⟨_, rfl⟩ := range_get hpm
    try dsimp only [setV]
    walk_at "ss"
    exact hP
  have hmap : (rangeV (L : Int)).map (fun z => match z with | .int p => Val.int ((num.fdiv 3 + p).fmod (t.length : Int)) | _ => .none) = ((List.range L).map fun (p : Nat) => (num.fdiv 3 + (p : Int)).fmod (t.length : Int)).map Val.int := by simp [rangeV, Function.comp_def]
  rw [hmap]
  have hwl : ((List.range L).map fun (p : Nat) => (num.fdiv 3 + (p : Int)).fmod (t.length : Int)).length = L := by simp
  have hpos : ∀ z ∈ ((List.range L).map fun (p : Nat) => (num.fdiv 3 + (p : Int)).fmod (t.length : Int)), 0 ≤ z := fun z hz => by
    obtain ⟨p, _, rfl⟩ := List.mem_map.mp hz
    exact (fm _ (by walk_at "o")).1
  generalize ((List.range L).map fun (p : Nat) => (num.fdiv 3 + (p : Int)).fmod (t.length : Int)) = is at hwl hpos ⊢
  clear hmap
  refine freshL_x (by rw [List.length_map, hwl]; exact lid_of (by walk_at "o")) fun a m1 ha E1 e1 => ?_
  walk_at "ss"
  try dsimp only [setV]
  refine lenvies_spec O (hv.ext E1) (hw.ext E1) fun b m2 E2 eb => ?_
  walk_at "ss"
  try dsimp only [setV]
  have hI : IsI m2 (.ref a) is := ⟨a, rfl, E2 _ _ e1⟩
  have E12 := E1.trans E2
  have hil : is.length < lid := by rw [hwl]; exact lid_of (by walk_at "o")
  refine len_ints hI hil ?_
  walk_at "ss"
  have kr : KnownR m2 (.ref a) := .ints hI (by walk_at "o")
  cases q3 : decide ((is.length : Int) > 1) with
  | false =>
    walk_at "ss"
    have := of_decide_eq_false q3
    exact h _ _ E12 ⟨kr, .inr ⟨is, hI, .inl (by walk_at "o")⟩⟩
  | true =>
  have hL2 := of_decide_eq_true q3
  walk_at "ss"
  refine len_ints hI hil ?_
  refine items_range (rng_lid ⟨by walk_at "o", by walk_at "o"⟩) ?_
  refine comp_pure (g := fun z => match z with | .int p => .bool (decide (prOf is (prevI is.length p.toNat) ∈ pairs t u)) | _ => .none) trivial (fun z hz P hP => ?_) ?_
  · obtain ⟨p, hpm⟩ := List.mem_iff_getElem?.mp hz
    obtain ⟨hp1, rfl⟩ := range_get hpm
    have hp1 : p < is.length := by simpa using hp1
    have hp2 := prevI_lt hp1
    try dsimp only [setV]
    walk_at "ss"
    refine subW_ hI.seq (j := prevI is.length p) (by rw [List.length_map]; exact place_prev hp1) (by rw [List.getElem?_map, getD_some hp2]; rfl) (by rw [List.length_map]; exact hil) ?_
    walk_at "ss"
    refine sub_ints hI (by walk_at "o") (by rw [Int.toNat_natCast]; exact getD_some hp1) hil ?_
    walk_at "ss"
    refine ⟨lid_of (show 2 < 1000 by decide), ?_⟩
    walk_at "ss"
    have e1' : is.getD (prevI is.length p) 0 = (((prOf is (prevI is.length p)).1 : Nat) : Int) := (Int.toNat_of_nonneg (hpos _ (List.mem_of_getElem? (getD_some hp2)))).symm
    have e2' : is.getD p 0 = (((prOf is (prevI is.length p)).2 : Nat) : Int) := by
      show _ = (((is.getD ((prevI is.length p + 1) % is.length) 0).toNat : Nat) : Int)
      rw [prevI_next hp1]
      exact (Int.toNat_of_nonneg (hpos _ (List.mem_of_getElem? (getD_some hp1)))).symm
    rw [e1', e2']
    refine cmp_inPd eb ?_
    walk_at "ss"
    exact hP
  · refine freshL_x (by rw [List.length_map, range_len]; rw [hwl]; exact lid_of (by walk_at "o")) (fun a3 m3 ha3 E3 e3 => ?_)
    have E13 := E12.trans E3
    have hI3 := hI.ext E3
    refine b1_all (bs := (List.range is.length).map fun p => decide (prOf is (prevI is.length p) ∈ pairs t u)) (by rw [IsL.lst ⟨a3, rfl, e3⟩, List.map_map]; congr 1; simp [rangeV, Function.comp_def]) ?_
    walk_at "ss"
    cases q4 : ((List.range is.length).map fun p => decide (prOf is (prevI is.length p) ∈ pairs t u)).all id with
    | true =>
      walk_at "ss"
      refine sub_ints hI3 (by walk_at "o") (x := is.getD 0 0) (getD_some (by walk_at "o")) hil ?_
      walk_at "ss"
      refine freshL_x (lid_of (show 1 < 1000 by decide)) fun a4 m4 ha4 E4 e4 => ?_
      refine bin_addL (hI3.ext E4).lst (IsL.lst ⟨a4, rfl, e4⟩) ?_
      rw [show [Val.int (is.getD 0 0)] = [is.getD 0 0].map Val.int from rfl, ← List.map_append]
      refine freshL_x (by rw [List.length_map, List.length_append, hwl]; exact lid_of (by simp; walk_at "o")) fun a5 m5 ha5 E5 e5 => ?_
      walk_at "ss"
      have hI5 : IsI m5 (.ref a5) (is ++ [is.getD 0 0]) := ⟨a5, rfl, e5⟩
      refine h _ _ (E13.trans (E4.trans E5)) ⟨.ints hI5 (by rw [List.length_append, hwl]; simp; walk_at "o"), .inl (thV_dup hI5 fun hnd => ?_)⟩
      rw [List.nodup_append] at hnd
      exact hnd.2.2 (is.getD 0 0) (List.mem_of_getElem? (getD_some (by walk_at "o"))) _ (List.mem_singleton.mpr rfl) rfl
    | false =>
      walk_at "ss"
      rw [List.all_eq_false] at q4
      obtain ⟨c', hc', hc2⟩ := q4
      obtain ⟨p, hp, rfl⟩ := List.mem_map.mp hc'
      have hp := List.mem_range.mp hp
      refine h _ _ E13 ⟨kr.ext E3, .inr ⟨is, hI3, .inr ⟨prevI is.length p, prevI_lt hp, fun q => hc2 (decide_eq_true q)⟩⟩⟩
end

section
variable {Q : Val → Mem → Prop} {X : Nat → Mem → Prop} {m : Mem} {n : Nat} {v w x : Val} {t u : List (List Int)} {k : Nat} {good kind : Int}
theorem bad_spec {num : Int} (O : Ok t u k) (hv : IsT m v t) (hw : IsT m w u) (h0 : 0 ≤ kind ∧ kind < 9) (h : ∀ x m', Ext m m' → BadFor t u k good m' kind x → Q x m') : CN (n + 4) 71 [.int kind, .int num, v, w] Q X m := by
  have h8 := O.t8
  have h1 : 1 ≤ t.length := by obtain ⟨r, t', e, _⟩ := O.row0; rw [e, List.length_cons]; walk_at "o"
  have hk40 := O.k40
  have hfl := O.flat
  (refine call_eq rfl rfl ?_; dsimp only [f_L_bad, sts, loc0, List.map, List.replicate, List.cons_append, List.nil_append, List.length, Nat.reduceAdd, Nat.reduceSub])
  walk_at "ss"
  refine len_ll hv (lid_of O.tl) ?_
  walk_at "ss"
  refine len0 O hv ?_
  walk_at "ss"
  try dsimp only [setV]
  with_reducible refine ifQ_dec (fun q1 => ?_) (fun q1 => ?_)
  · walk_at "ss"
    have := of_decide_eq_true q1
    refine odd_spec (by walk_at "o") fun x m' E k1 k2 => ?_
    walk_at "ss"
    exact h _ _ E (.heir (by walk_at "o") k1 k2)
  walk_at "ss"
  with_reducible refine ifQ_dec (fun q2 => ?_) (fun q2 => ?_)
  · walk_at "ss"
    refine bad_list_spec hk40 fun x m' E k1 k2 => ?_
    walk_at "ss"
    exact h _ _ E (.thing (of_decide_eq_true q2) k1 k2)
  have q1 := of_decide_eq_false q1
  have q2 := of_decide_eq_false q2
  walk_at "ss"
  with_reducible refine ifQ_dec (fun q3 => ?_) (fun q3 => ?_)
  · have q3 := of_decide_eq_true q3
    have hk45 : kind = 4 ∨ kind = 5 := by walk_at "o"
    walk_at "ss"
    refine freshL_x (lid_of (show 0 < 1000 by decide)) fun a m1 ha E1 e1 => ?_
    walk_at "ss"
    try dsimp only [setV]
    obtain ⟨xs, ⟨b, rfl, eb⟩, e2⟩ := hw
    refine items_list (IsL.seq ⟨b, rfl, E1 _ _ eb⟩) (by rw [e2.length]; exact lid_of O.ul) ?_
    refine for_inv (fun i l m' => ∃ c y7, l = [some (.int kind), some (.int num), some v, some (.ref b), some (.int t.length), some (.int k), some (.ref c), y7] ∧ Ext m m' ∧ m' c = some (.list ((u.take i).flatten.map .int))) ⟨a, none, rfl, E1, e1⟩ (fun i z l m' hz hI P hP => ?_) fun l m' hI => ?_
    · obtain ⟨c, y7, rfl, E, ec⟩ := hI
      obtain ⟨r, hr, hzr⟩ := e2.get hz
      have hzr' := hzr.ext E
      obtain ⟨d, rfl, ed⟩ := hzr'
      refine bodyF_one ?_
      try dsimp only [setV]
      walk_at "ss"
      refine bin_addL (IsL.lst ⟨c, rfl, ec⟩) (IsL.lst ⟨d, rfl, ed⟩) ?_
      have hnext : ((u.take i).flatten.map Val.int) ++ r.map Val.int = (u.take (i + 1)).flatten.map Val.int := by
        rw [List.take_add_one, hr]; simp
      have hle : (u.take (i + 1)).flatten.length ≤ u.flatten.length := by
        conv => rhs; rw [← List.take_append_drop (i + 1) u, List.flatten_append, List.length_append]
        walk_at "o"
      rw [hnext]
      refine freshL_x (by rw [List.length_map]; exact lid_of (by walk_at "o")) fun c2 m2 hc2 E2 ec2 => ?_
      walk_at "ss"
      with_reducible refine loopQ_next (hP _ _ ?_)
      exact ⟨IsL.stands ⟨b, rfl, E1 _ _ eb⟩ ⟨b, rfl, (E.trans E2) _ _ eb⟩, c2, _, rfl, E.trans E2, ec2⟩
    · obtain ⟨c, y7, rfl, E, ec⟩ := hI
      rw [e2.length, List.take_length] at ec
      have hIc : IsI m' (.ref c) u.flatten := ⟨c, rfl, ec⟩
      walk_at "ss"
      have oth : CN (n + 3) 68 [.int (num.fdiv 3), .int (k : Int)] Q X m' := odd_spec (by walk_at "o") fun x m2 E2 k1 k2 => h _ _ (E.trans E2) (.held hk45 ⟨k1, .inl k2⟩)
      cases q4 : decide (num.fmod 3 = 0) with
      | false =>
        walk_at "ss"
        exact oth
      | true =>
      walk_at "ss"
      refine len_ints hIc (lid_of (by walk_at "o")) ?_
      walk_at "ss"
      cases q5 : decide ((u.flatten.length : Int) > 0) with
      | false =>
        walk_at "ss"
        exact oth
      | true =>
        have q5 := of_decide_eq_true q5
        walk_at "ss"
        refine len_ints hIc (lid_of (by walk_at "o")) ?_
        walk_at "ss"
        obtain ⟨g0, g1⟩ := fm (num.fdiv 3) (b := (u.flatten.length : Int)) (by walk_at "o")
        generalize (num.fdiv 3).fmod (u.flatten.length : Int) = j at g0 g1 ⊢
        have hj : j.toNat < u.flatten.length := by walk_at "o"
        refine sub_ints hIc g0 (getD_some hj) (lid_of (by walk_at "o")) ?_
        walk_at "ss"
        exact h _ _ E (.held hk45 ⟨trivial, .inr ⟨_, rfl, List.mem_of_getElem? (getD_some hj)⟩⟩)
  have q3 := of_decide_eq_false q3
  walk_at "ss"
  with_reducible refine ifQ_dec (fun q4 => ?_) (fun q4 => ?_)
  · walk_at "ss"
    exact bad_ring_spec O hv hw fun x m' E hb => h _ _ E (.ring (of_decide_eq_true q4) hb)
  have q4 := of_decide_eq_false q4
  walk_at "ss"
  with_reducible refine ifQ_dec (fun q5 => ?_) (fun q5 => ?_)
  · have q5 := of_decide_eq_true q5
    walk_at "ss"
    refine bad_list_spec (by walk_at "o") fun x m1 E1 k1 k2 => ?_
    walk_at "ss"
    refine b1_lrange ⟨by walk_at "o", by unfold lid; walk_at "o"⟩ ?_
    refine freshL_x (by rw [range_len]; exact lid_of (by walk_at "o")) fun a2 m2 ha2 E2 e2 => ?_
    walk_at "ss"
    refine freshL_x (lid_of (show 2 < 1000 by decide)) fun a3 m3 ha3 E3 e3 => ?_
    walk_at "ss"
    obtain ⟨g0, g2⟩ := fm num (b := 2) (by decide)
    generalize num.fmod 2 = j at g0 g2 ⊢
    have hj : j = 0 ∨ j = 1 := by walk_at "o"
    have E23 := E2.trans E3
    rcases hj with rfl | rfl
    · refine subW_ (IsL.seq ⟨a3, rfl, e3⟩) (j := 0) rfl rfl (by exact lid_of (show 2 < 1000 by decide)) ?_
      walk_at "ss"
      exact h _ _ (E1.trans E23) (.order q5 (k1.ext E23) (.inl (by rw [thV_ext E23 k1.1]; exact k2)))
    · refine subW_ (IsL.seq ⟨a3, rfl, e3⟩) (j := 1) rfl rfl (by exact lid_of (show 2 < 1000 by decide)) ?_
      walk_at "ss"
      have hL : IsL m3 (.ref a2) (rangeV ((t.length : Int) - 1)) := ⟨a2, rfl, E3 _ _ e2⟩
      have hlen := range_len ((t.length : Int) - 1)
      refine h _ _ (E1.trans E23) (.order q5 (.list hL (by walk_at "o") fun z hz => ?_) (.inr ⟨_, itemsAt_of hL, by walk_at "o"⟩))
      obtain ⟨p, hpm⟩ := List.mem_iff_getElem?.mp hz
      obtain ⟨_, rfl⟩ := range_get hpm
      trivial
  have q5 := of_decide_eq_false q5
  walk_at "ss"
  refine freshL_x (lid_of (show 1 < 1000 by decide)) fun c1 m1 hc1 E1 e1 => ?_
  walk_at "ss"
  refine e_dictx fun d m2 hd E2 e2 => ?_
  walk_at "ss"
  have hm := fm (num.fdiv 10) (b := 1000) (by decide)
  refine freshL_x (lid_of (show 10 < 1000 by decide)) fun c3 m3 hc3 E3 e3 => ?_
  walk_at "ss"
  generalize (num.fdiv 10).fmod 1000 = z0 at hm e3 ⊢
  obtain ⟨g0, g10⟩ := fm num (b := 10) (by decide)
  generalize num.fmod 10 = j at g0 g10 ⊢
  have hj : j.toNat < 10 := by walk_at "o"
  refine subW_ (IsL.seq ⟨c3, rfl, e3⟩) (place_nat g0 hj) (List.getElem?_eq_getElem hj) (by exact lid_of (show 10 < 1000 by decide)) ?_
  walk_at "ss"
  have key : ∀ z ∈ [Val.int 0, .int (-1), .int 9, .bool true, .bool false, .str (Str.ofString "3"), .none, .ref c1, .ref d, .int (9 + z0)], Known m3 z ∧ amV 1 8 z = false := fun z hz => by
    simp only [List.mem_cons, List.not_mem_nil, or_false] at hz
    rcases hz with rfl | rfl | rfl | rfl | rfl | rfl | rfl | rfl | rfl | rfl
    · exact ⟨trivial, rfl⟩
    · exact ⟨trivial, rfl⟩
    · exact ⟨trivial, rfl⟩
    · exact ⟨trivial, rfl⟩
    · exact ⟨trivial, rfl⟩
    · exact ⟨trivial, rfl⟩
    · exact ⟨trivial, rfl⟩
    · exact ⟨⟨_, (E2.trans E3) _ _ e1⟩, rfl⟩
    · exact ⟨⟨_, E3 _ _ e2⟩, rfl⟩
    · exact ⟨trivial, by rw [am_int]; exact decide_eq_false (by walk_at "o")⟩
  obtain ⟨k1, k2⟩ := key _ (List.getElem_mem hj)
  exact h _ _ (E1.trans (E2.trans E3)) (.est (by walk_at "o") k1 k2)
end

section
variable {Q : Val → Mem → Prop} {X : Nat → Mem → Prop} {m : Mem} {n : Nat} {v w x : Val} {t u : List (List Int)} {k : Nat} {good kind : Int}
theorem inn_12 {k : Int} {P : Bool → Mem → Prop} (h : ∀ b, (b = true → k = 1 ∨ k = 2) → P b m) : wpCmp .inn (.int k) (.tup [.int 1, .int 2]) P m :=
  ⟨.int k, [.int 1, .int 2], [.int 1, .int 2], rfl, rfl, readsL_ints (is := [1, 2]), rfl, rfl, h _ fun e => by
    have : ([1, 2] : List Int).any (fun y => decide (y = k)) = true := e
    rw [List.any_eq_true] at this
    obtain ⟨y, hy, e⟩ := this
    have e := of_decide_eq_true e
    simp at hy
    walk_at "o"⟩
theorem cmp_eqS {x y : Str} {P : Bool → Mem → Prop} (h : P (x == y) m) : wpCmp .eq (.str x) (.str y) P m := Or.inr (Or.inl ⟨x, y, rfl, rfl, h⟩)
theorem ok_draw (ns : List Int) {h K : Int} (hh : 1 ≤ h ∧ h ≤ 8) (hk : 0 ≤ K ∧ K ≤ 40) : Ok (tabOf ns h K) (sharesOf ns h K) K.toNat where
  tab := tabOf_ok ns hh hk
  row := fun r hr => by
    obtain ⟨i, _, rfl⟩ := List.mem_map.mp hr
    exact rowOf_len ns K i
  k40 := by walk_at "o"
  len := by simp [tabOf, sharesOf]
  fit := (sharesOf_ok ns h K).1
  sh := by rw [Int.toNat_of_nonneg hk.1]; exact (sharesOf_ok ns h K).2.1
  nd := (sharesOf_ok ns h K).2.2
theorem word_at (h0 : 0 ≤ kind ∧ kind < 9) : (["heir", "heir", "heir", "thing", "thing", "thing", "ring", "order", "heir"] : List String)[kind.toNat]? = some (wordOf kind) :=
  kind_cases (P := fun kind => (["heir", "heir", "heir", "thing", "thing", "thing", "ring", "order", "heir"] : List String)[kind.toNat]? = some (wordOf kind)) h0 (by decide)
theorem law04 {ns : List Int} (hl : ns.length ≤ 63) (hQ : ∀ m', Q (.bool true) m') : CT (n + 12) 72 [.frz (ns.map .int)] Q X m := by
  have hl' : ns.length < 1000 := by walk_at "o"
  (refine callT_eq rfl rfl ?_; dsimp only [f_law_4, sts, loc0, List.map, List.replicate, List.cons_append, List.nil_append, List.length, Nat.reduceAdd, Nat.reduceSub])
  walk_at "ss"
  refine at_spec (by decide) hl' ?_
  walk_at "ss"
  refine heirs_spec ?_
  have hh := heirsOf_in (cell ns (Int.toNat 0))
  generalize heirsOf (cell ns (Int.toNat 0)) = h at hh ⊢
  walk_at "ss"
  refine at_spec (by decide) hl' ?_
  walk_at "ss"
  refine things_spec ?_
  have hk := thingsOf_in (cell ns (Int.toNat 1))
  generalize thingsOf (cell ns (Int.toNat 1)) = K at hk ⊢
  walk_at "ss"
  try dsimp only [setV]
  refine table_spec hl' (by walk_at "o") (by walk_at "o") fun vt m1 E1 hvt => ?_
  walk_at "ss"
  try dsimp only [setV]
  refine shares_spec hl' (by walk_at "o") (by walk_at "o") fun vu m2 E2 hvu => ?_
  have O := ok_draw ns hh (K := K) (by walk_at "o")
  have htl : (tabOf ns h K).length = h.toNat := by simp [tabOf]
  have hvt := hvt.ext E2
  generalize tabOf ns h K = t at O htl hvt
  generalize sharesOf ns h K = u at O hvu
  walk_at "ss"
  try dsimp only [setV]
  refine at_spec (by decide) hl' ?_
  walk_at "ss"
  refine mixed_spec ?_
  generalize mixed (cell ns (Int.toNat 48)) 1 = num
  walk_at "ss"
  refine at_spec (by decide) hl' ?_
  walk_at "ss"
  have h0 := fm (cell ns (Int.toNat 49)) (b := 9) (by decide)
  generalize (cell ns (Int.toNat 49)).fmod 9 = kind at h0 ⊢
  refine at_spec (by decide) hl' ?_
  have hg := fm (cell ns (Int.toNat 50)) (b := h) (by walk_at "o")
  walk_at "ss"
  generalize (cell ns (Int.toNat 50)).fmod h = good at hg ⊢
  try dsimp only [setV]
  have hg' : 0 ≤ good ∧ good < t.length := by walk_at "o"
  refine bad_spec (good := good) O hvt hvu h0 fun x m3 E3 hb => ?_
  walk_at "ss"
  try dsimp only [setV]
  have hvt := hvt.ext E3
  have hvu := hvu.ext E3
  have rest : ∀ y, BadFor t u K.toNat good m3 kind y → wpTs (CN (n + 11)) (CT (n + 11)) (globOf GS) (f_law_4.body.drop 9) (retQ Q) [some (.frz (ns.map .int)), some (.int h), some (.int K), some vt, some vu, some (.int num), some (.int kind), some (.int good), some y, none, none, none] m3 := fun y hb => by
    dsimp only [f_law_4, List.drop]
    walk_at "ss"
    refine freshL_x (lid_of (show 9 < 1000 by decide)) fun c4 m4 hc4 E4 e4 => ?_
    have e4 : m4 c4 = some (.list ((["heir", "heir", "heir", "thing", "thing", "thing", "ring", "order", "heir"] : List String).map fun s => .str (Str.ofString s))) := e4
    walk_at "ss"
    refine subW_ (IsL.seq ⟨c4, rfl, e4⟩) (place_nat h0.1 (by show kind.toNat < 9; walk_at "o")) (by rw [List.getElem?_map, word_at h0]; rfl) (by exact lid_of (show 9 < 1000 by decide)) ?_
    walk_at "ss"
    try dsimp only [setV]
    refine copy_own (hvt.ext E4) O.tl (fun r hr => O.rl hr) fun vt' m5 E5 hvt' => ?_
    walk_at "ss"
    try dsimp only [setV]
    have E45 := E4.trans E5
    refine copy_own (hvu.ext E45) O.ul (fun r hr => sl1 (O.sl hr)) fun vu' m6 E6 hvu' => ?_
    walk_at "ss"
    try dsimp only [setV]
    have E46 := E45.trans E6
    refine word_spec O (hvt'.isT.ext E6) hvu'.isT hg' h0 (hb.ext E46) fun m7 E7 => ?_
    refine ⟨_, rfl, ?_⟩
    refine cmp_eqS ?_
    rw [beq_self_eq_true]
    walk_at "ss"
    refine cmp_eqTT (hvt'.isT.ext (E6.trans E7)) (hvt.ext (E46.trans E7)) ?_
    rw [decide_eq_true rfl]
    walk_at "ss"
    refine cmp_eqTT (hvu'.isT.ext E7) (hvu.ext (E46.trans E7)) ?_
    rw [decide_eq_true rfl]
    walk_at "ss"
    exact hQ _
  refine ⟨lid_of (show 2 < 1000 by decide), inn_12 fun b hbk => ?_⟩
  cases b with
  | false =>
    with_reducible refine asB_ ?_
    with_reducible refine bsQ_and_false ?_
    with_reducible refine asB_ ?_
    with_reducible refine ifQ_false ?_
    repeat (with_reducible first | refine seqQ_next ?_ | refine s_nil ?_)
    exact rest _ hb
  | true =>
    walk_at "ss"
    with_reducible refine ifQ_dec (fun q => ?_) (fun q => ?_)
    · with_reducible refine s_cons ?_
      with_reducible refine s_asg ?_
      refine ⟨_, rfl, ?_⟩
      repeat (with_reducible first | refine seqQ_next ?_ | refine s_nil ?_)
      exact rest _ (.same (hbk rfl) rfl)
    · repeat (with_reducible first | refine seqQ_next ?_ | refine s_nil ?_)
      exact rest _ hb
end

end TD
open PySem PySem.W PyProof.Rows
namespace TD
theorem law_good {c : ClaimW} {cl : Str → Option Addr} {mean : ExcName → Option Value} {args : List WData} {s₁ s' : Shared} (h1 : ∀ cls, c.raises args cls = false) (h2 : c.post args (.bool true) args = true)
    (k : s₁.heap.StaysIn s'.heap) (hg : s'.gens = #[]) (ho : s'.os = s₁.os) : GoodWG c cl mean args s₁ (.ok (.ret (.bool true))) s' := by
  exact GoodW.toG ⟨.inl ⟨_, .bool true, [], rfl, h1, .bool true, h2, fun _ => ⟨List.nodup_nil, fun _ h => nomatch h⟩⟩, k, ho, hg⟩
end TD
open TD
theorem PySem.Challenge.cw_uf020018_04_holds : PySem.Challenge.rw_uf020018_04.Holds := by
  w_on; refine holds_law law_said fun said => ?_
  refine open_headX head_run hd0 hd1 hd2 hd3 (by kernel_rfl) (by assumption) hd4 ⟨rfl, rfl, rfl, rfl, rfl, by decide +kernel⟩ ?hw fun d kwd hdn => ?_
  case hw => w_witness2
  intro w s₀ s₁ mg mb G Y fa o pm cd doc dV kV ho hd hcd hD hmg hg args vals as hpre hlay hrd hwl hlo
  have hCls : ClsAt mg s₁.heap := G.X.2
  refine Ground.open G ?_
  intro T B D TE TW
  clear D TW B
  wrow_args hpre hlay hrd hwl hlo
  rename_i ns _ _ _ _ _ _ a vs _ hL _ _ _ hI _ hc _
  refine law_runT (FT := FT) (ids := ids04) (ids2 := [59]) (TT := TT) (tids := [67, 72]) (gs := GS) (f := 72) (n := 12) (fn := f_law_4) T hCls hg bi_ok (by kernel_rfl) TE est_ok ids_ok tids_ok (by walk_at "o") (by decide) rfl ((congrArg mg hdn).symm.trans hmg) hL hI ?_ ?_
  · refine law04 (n := 0) ?_ fun m' => rfl
    walk_at "o"
  · intro s' k hg' ho'
    clear Y hd hcd hD hmg T G TE
    refine law_good (fun _ => rfl) ?_ k hg' ho'
    wrow_post
