import PyProof.Rows.All
import PyProof.Calls
import PyProof.AssignAttr
import PyProof.AutoSeq1
import PyProof.CallStr
import PyProof.Cells
import PyProof.CompFree
import PyProof.MeetsSeq
import PyProof.ListOps
import PyProof.IsiBase
import PyProof.ExcArgsOwn
import PyProof.ExcBaseAll.ValueError
import PyProof.ExcAttrAll.ValueError
import PyProof.StationsW
import PyProof.WalksMore
import PyProof.InstLoad
import PyProof.IsiH_list
import PyProof.LetGo
import PyProof.ListIndexNeg
import PyProof.WalkInts
import PyProof.RulesAs
import PyProof.Rows.News
import PyProof.Rows.Tup
import PyProof.StrCalls2
import PyProof.Rows.Catch
import PyProof.Rows.FStr
import PyProof.StrCalls3
import PyProof.Rows.StrWeight2
import PyProof.Rows.RuleN_isinstance
import PyProof.SliceMore
import PyProof.Rows.Walk
import PyProof.RulesAssignMore
import PyProof.Rows.PlainObj
import PyProof.Rows.PlainEq
import ObjForm.Fk.InstStore
import ObjForm.Fk.ObjNew
import ObjForm.Fk.InstLoad
import ObjForm.Fk.PlainObj
import OpenK.KCall
import Open.Line
import OpenK.KMore
import OpenK.KMeth
import OpenK.KDict
import OpenK.KCell
import KE.LcSums
import KE.KIsAll
import KE.KRevIter
import PySem.Challenge.RW_uf020018_15
set_option Elab.async false
set_option autoImplicit false
set_option linter.all false
set_option genSizeOf false
set_option genInjectivity false
set_option maxRecDepth 100000
set_option maxHeartbeats 8000000

namespace TD
open PySem PySem.W PyProof.Rows
noncomputable def isDunder (e : Expr) : Bool := if h : e.ctorIdx = 23 then Expr.Name.elim (motive_1 := fun _ => Bool) e h fun x _ => x == ("__name__" : Str) else false
noncomputable def isMod (s : Stmt) : Bool := if h : s.ctorIdx = 5 then Stmt.Assign.elim (motive_2 := fun _ => Bool) s h fun ts _ _ => ts.all isDunder else false
noncomputable def viewOf (p : Program) : Program := { p with main := { p.main with body := p.main.body.filter fun s => !isMod s } }
noncomputable abbrev HeadRun (r : OpenRow) : Prop := LeftO r.prog (viewOf r.prog) [] (fun s => xlAt (viewOf r.prog) [] s && recOk (RowW.records r.toRowW) s) (Hook.obs Hook.none) (Hook.val Hook.none) 4000
theorem open_head {r : OpenRow} (hl : HeadRun r)
    (h1 : (defOf (viewOf r.prog) r.name).isSome = true) (h2 : (defOf (viewOf r.prog) r.name).map (fun x => (x.1.params, x.1.body, x.1.scope)) = r.prog.theDef r.name)
    (h3 : (defOf (viewOf r.prog) r.name).bind (fun x => kwWritten? x.1.params.kwonlyargs x.1.params.kw_defaults) = (defOf (viewOf r.prog) r.name).map (·.2))
    (hwr : (!r.writes || r.records.isEmpty) = true) (k1 : r.wellSaid = true) (ok : (chainsOk (viewOf r.prog) && opensWell r.prog && (frees r.toRowW && r.within.isEmpty)) = true) (hb : r.prog.bare) (hw : r.toRowW.promised)
    (call : ∀ d kwd, d.name = r.name → WalkO (viewOf r.prog) [] (XL (viewOf r.prog) []) (Hook.says Hook.none) r.toRowW d kwd fun f vs => PySem.call f vs) : r.Holds := by
  obtain ⟨⟨d, kwd⟩, hd⟩ := Option.isSome_iff_exists.mp h1
  rw [hd] at h2 h3
  exact holds_open (XP := XL (viewOf r.prog) []) (YP := Hook.says Hook.none) hl (Hook.of Hook.none) (Hook.keeps Hook.none) (fun s e => xl_of s (Bool.and_eq_true_iff.mp e).1) XL.keeps hd h2.symm h3 (fun s e => recFacts_of (Bool.and_eq_true_iff.mp e).2) hwr k1 ok hb hw (call d kwd (defOf_name hd))
end TD

namespace TD
theorem head_run : HeadRun PySem.Challenge.rw_uf020018_15.row := fun w => by kernel_rfl
end TD

namespace TD
open PySem (Str Addr)

inductive Val where
  | none | bool (b : Bool) | int (i : Int) | tup (vs : List Val) | ref (a : Addr) | frz (xs : List Val) | str (x : Str)

inductive AObj where
  | list (xs : List Val) | dict0 | inst (d : Addr) | flds (fs : List (Option Val))
noncomputable def AObj.isA : AObj → Nat → Option Bool
  | .list _, c => some (c == 2)
  | .dict0, _ => some false
  | .inst _, _ => Option.none
  | .flds _, _ => Option.none

noncomputable abbrev Mem := Addr → Option AObj
noncomputable def Mem.set (m : Mem) (a : Addr) (o : AObj) : Mem := fun b => if b = a then some o else m b

inductive Cls where
  | int | bool | list | tuple | str | ValueError | DealError | BadTable | BadShares | BadHeir | BadThing | BadRing | BadOrder | Full | BadNote
noncomputable def Cls.code : Cls → Nat
  | .int => 0 | .bool => 1 | .list => 2 | .tuple => 3 | .str => 4 | .ValueError => 5 | .DealError => 6 | .BadTable => 7 | .BadShares => 8 | .BadHeir => 9 | .BadThing => 10
  | .BadRing => 11 | .BadOrder => 12 | .Full => 13 | .BadNote => 14

inductive Bop where | add | sub | mul | fdiv | mod
inductive Cop where | eq | ne | lt | le | gt | ge | inn | notin
inductive B1 where
  | len | all | sum | maxL | minL | list | tuple | sorted | int | lrange | lrev | lenset | str
inductive ItK where | plain | range
inductive Tg where | one (i : Nat) | two (i j : Nat)

mutual
inductive Ex where
  | nm (i : Nat) | int (i : Int) | bool (b : Bool) | none | glob (x : String)
  | bin (op : Bop) (a b : Ex) | not (a : Ex) | neg (a : Ex) | boolop (isAnd : Bool) (es : Exs)
  | cmp (op : Cop) (a b : Ex) | cmp2 (op1 op2 : Cop) (a b c : Ex) | isc (pos : Bool) (a : Ex) (c : Option Bool)
  | call (f : Nat) (args : Exs) | b1 (b : B1) (a : Ex) | isinst (a : Ex) (c : Cls)
  | append (o e : Ex) | extend (o e : Ex) | pop (o : Ex) (i : Exs) | clear (o : Ex) | index (o e : Ex)
  | sub (a i : Ex) | slice (up : Bool) (a i : Ex) | mm (mx : Bool) (a b : Ex) | lst (es : Exs) | tup (es : Exs)
  | comp (elt : Ex) (t : Tg) (k : ItK) (src : Ex) (cond : Exs)
  | str (x : String) | dict0 | fstr (a : Ex) (c : String) | join (sep : String) (a : Ex)
  | attr (o : Ex) (f : Nat) | meth (o : Ex) (f : Nat) (args : Exs) | new (f : Nat) (args : Exs) | cut (a : Ex) (i j : Int)
inductive Exs where
  | nil | cons (e : Ex) (es : Exs)
end

inductive Flow where | next | brk | cont | ret (v : Val)

mutual
inductive St where
  | expr (e : Ex) | ret (e : Ex) | asg (i : Nat) (e : Ex) | asgSub (o i e : Ex)
  | ifs (c : Ex) (t e : Sts) | fors (t : Tg) (k : ItK) (src : Ex) (b : Sts) | whiles (c : Ex) (b : Sts)
  | raise (c : Cls) (msg : String) | pass
  | callS (r : Bool) (f : Nat) (args : Exs) | asgAttr (o : Ex) (f : Nat) (e : Ex)
inductive Sts where
  | nil | cons (s : St) (ss : Sts)
end

noncomputable def sts : List St → Sts
  | [] => .nil
  | s :: r => .cons s (sts r)

noncomputable abbrev Loc := List (Option Val)
noncomputable def getV : Loc → Nat → Option Val
  | [], _ => Option.none
  | v :: r, n => match n with | 0 => v | n + 1 => getV r n
noncomputable def setV : Loc → Nat → Val → Loc
  | [], _, _ => []
  | x :: r, n, v => match n with | 0 => some v :: r | n + 1 => x :: setV r n v

noncomputable def itemsOf : Option AObj → Option (List Val)
  | Option.none => Option.none
  | some (.list xs) => some xs
  | some _ => Option.none
noncomputable def lst (m : Mem) : Val → Option (List Val)
  | .ref a => itemsOf (m a)
  | .frz xs => some xs
  | _ => Option.none
noncomputable def seq (m : Mem) : Val → Option (List Val)
  | .tup vs => some vs
  | v => lst m v

inductive Dat where
  | none | int (i : Int) | list (ds : List Dat) | tup (ds : List Dat) | str (x : Str)
mutual
noncomputable def Dat.beq : Dat → Dat → Bool
  | .none, e => match e with | .none => true | _ => false
  | .int i, e => match e with | .int j => i == j | _ => false
  | .list a, e => match e with | .list b => Dat.beqs a b | _ => false
  | .tup a, e => match e with | .tup b => Dat.beqs a b | _ => false
  | .str x, e => match e with | .str y => x == y | _ => false
noncomputable def Dat.beqs : List Dat → List Dat → Bool
  | [], l => l.isEmpty
  | a :: r, l => match l with | b :: t => Dat.beq a b && Dat.beqs r t | [] => false
end
mutual
noncomputable def Reads (m : Mem) : Dat → Val → Prop
  | .none, v => v = .none
  | .int i, v => v = .int i
  | .list ds, v => ∃ xs, lst m v = some xs ∧ ReadsL m ds xs
  | .tup ds, v => ∃ xs, v = .tup xs ∧ ReadsL m ds xs
  | .str x, v => v = .str x
noncomputable def ReadsL (m : Mem) : List Dat → List Val → Prop
  | [], xs => xs = []
  | d :: ds, xs => ∃ y ys, xs = y :: ys ∧ Reads m d y ∧ ReadsL m ds ys
end

noncomputable def lid : Nat := 1000000
noncomputable def small (i : Int) : Prop := -(2 ^ 62) < i ∧ i < 2 ^ 62
noncomputable def tiny (i : Int) : Prop := -1000000000000 < i ∧ i < 1000000000000

noncomputable def freshL (m : Mem) (xs : List Val) (Q : Val → Mem → Prop) : Prop := xs.length < lid ∧ ∀ a, m a = Option.none → Q (.ref a) (m.set a (.list xs))

noncomputable def wpBin (op : Bop) (a b : Val) (Q : Val → Mem → Prop) (m : Mem) : Prop :=
  match op with
  | .add => (∃ x y, a = .int x ∧ b = .int y ∧ Q (.int (x + y)) m) ∨ (∃ x y xs ys, a = .ref x ∧ b = .ref y ∧ lst m (.ref x) = some xs ∧ lst m (.ref y) = some ys ∧ freshL m (xs ++ ys) Q) ∨ (∃ x y, a = .str x ∧ b = .str y ∧ x.length + y.length < lid ∧ Q (.str (x ++ y)) m)
  | .sub => ∃ x y, a = .int x ∧ b = .int y ∧ Q (.int (x - y)) m
  | .mul => (∃ x y, a = .int x ∧ b = .int y ∧ (small x ∨ small y) ∧ Q (.int (x * y)) m) ∨ (∃ x n xs, a = .ref x ∧ b = .int n ∧ lst m (.ref x) = some xs ∧ 0 ≤ n ∧ n < lid ∧ freshL m (List.replicate n.toNat xs).flatten Q)
  | .fdiv => ∃ x y, a = .int x ∧ b = .int y ∧ (y ≠ 0 ∧ tiny y) ∧ Q (.int (x.fdiv y)) m
  | .mod => ∃ x y, a = .int x ∧ b = .int y ∧ (y ≠ 0 ∧ tiny y) ∧ Q (.int (x.fmod y)) m

noncomputable def okN : Nat → Dat → Bool
  | 0, _ => false
  | n + 1, d => match d with
    | .list ds => ds.all (okN n)
    | .tup ds => ds.all (okN n)
    | .str x => x.cps.all (· < 0x110000)
    | _ => true

noncomputable def eqW (a b : Val) (Q : Bool → Prop) (m : Mem) : Prop :=
  (∃ x y, a = .bool x ∧ b = .bool y ∧ Q (x == y)) ∨ (∃ x y : Str, a = .str x ∧ b = .str y ∧ Q (x == y)) ∨ (∃ d e, Reads m d a ∧ Reads m e b ∧ okN 8 d = true ∧ okN 8 e = true ∧ Q (Dat.beq d e))

noncomputable def inW (a b : Val) (Q : Bool → Prop) (m : Mem) : Prop :=
  ∃ d es xs, seq m b = some xs ∧ Reads m d a ∧ ReadsL m es xs ∧ okN 8 d = true ∧ es.all (okN 7) = true ∧ Q (es.any fun e => Dat.beq e d)

noncomputable def wpCmp (op : Cop) (a b : Val) (Q : Bool → Mem → Prop) (m : Mem) : Prop :=
  match op with
  | .eq => eqW a b (fun r => Q r m) m
  | .ne => eqW a b (fun r => Q (!r) m) m
  | .inn => inW a b (fun r => Q r m) m
  | .notin => inW a b (fun r => Q (!r) m) m
  | .lt => ∃ x y, a = .int x ∧ b = .int y ∧ Q (decide (x < y)) m
  | .le => ∃ x y, a = .int x ∧ b = .int y ∧ Q (decide (x ≤ y)) m
  | .gt => ∃ x y, a = .int x ∧ b = .int y ∧ Q (decide (x > y)) m
  | .ge => ∃ x y, a = .int x ∧ b = .int y ∧ Q (decide (x ≥ y)) m

noncomputable def isA (m : Mem) : Val → Cls → Option Bool
  | .none, _ => some false
  | .bool _, c => some (c.code.ble 1)
  | .int _, c => some (c.code == 0)
  | .tup _, c => some (c.code == 3)
  | .ref a, c => (m a).bind fun o => o.isA c.code
  | .frz _, _ => Option.none
  | .str _, c => some (c.code == 4)

noncomputable def excIs (k c : Nat) : Bool := c == k || (c == 5 || c == 6)
noncomputable abbrev noX : Nat → Mem → Prop := fun _ _ => False
noncomputable abbrev noY : Nat → Loc → Mem → Prop := fun _ _ _ => False

noncomputable def rangeV (n : Int) : List Val := (List.range n.toNat).map fun (k : Nat) => .int k

noncomputable def sortedW (xs : List Val) (Q : Val → Mem → Prop) (m : Mem) : Prop :=
  (∃ is : List Int, xs = is.map .int ∧ is.length < 64 ∧ ∀ js : List Int, js.Perm is → js.Pairwise (· ≤ ·) → freshL m (js.map .int) Q)

noncomputable def wpB1 (b : B1) (v : Val) (Q : Val → Mem → Prop) (m : Mem) : Prop :=
  match b with
  | .len => ∃ xs, seq m v = some xs ∧ xs.length < lid ∧ Q (.int xs.length) m
  | .all => ∃ bs : List Bool, lst m v = some (bs.map .bool) ∧ Q (.bool (bs.all id)) m
  | .sum => ∃ is : List Int, lst m v = some (is.map .int) ∧ (∀ i ∈ is, small i) ∧ is.length < lid ∧ Q (.int is.sum) m
  | .maxL => ∃ (is : List Int), lst m v = some (is.map .int) ∧ is ≠ [] ∧ is.length < lid ∧ ∀ M : Int, M ∈ is → (∀ a ∈ is, a ≤ M) → Q (.int M) m
  | .minL => ∃ (is : List Int), lst m v = some (is.map .int) ∧ is ≠ [] ∧ is.length < lid ∧ ∀ M : Int, M ∈ is → (∀ a ∈ is, M ≤ a) → Q (.int M) m
  | .list => ∃ xs, seq m v = some xs ∧ freshL m xs Q
  | .tuple => ∃ xs, lst m v = some xs ∧ xs.length < lid ∧ Q (.tup xs) m
  | .sorted => ∃ xs, lst m v = some xs ∧ sortedW xs Q m
  | .int => ∃ x, v = .bool x ∧ Q (.int (if x then 1 else 0)) m
  | .lrange => ∃ n, v = .int n ∧ (0 ≤ n ∧ n < lid) ∧ freshL m (rangeV n) Q
  | .lrev => ∃ a xs, v = .ref a ∧ m a = some (.list xs) ∧ xs.length < lid ∧ freshL m xs.reverse Q
  | .str => ∃ i : Int, v = .int i ∧ tiny i ∧ Q (.str (Str.ofString (toString i))) m
  | .lenset => ∃ is : List Int, lst m v = some (is.map .int) ∧ is.length < 1000 ∧ ∀ k : Nat, k ≤ is.length → (k = is.length ↔ is.Nodup) → Q (.int k) m

noncomputable def place (i : Int) (n : Nat) : Option Nat :=
  if 0 ≤ i then (if i.toNat < n then some i.toNat else Option.none) else (if (-i).toNat ≤ n then some (n - (-i).toNat) else Option.none)
noncomputable def subW (v : Val) (i : Val) (Q : Val → Mem → Prop) (m : Mem) : Prop :=
  ∃ k xs j x, i = .int k ∧ seq m v = some xs ∧ place k xs.length = some j ∧ xs[j]? = some x ∧ xs.length < lid ∧ Q x m

noncomputable def clip (k : Int) (n : Nat) : Nat := if 0 ≤ k then k.toNat else n - (-k).toNat
noncomputable def cutL (up : Bool) (xs : List Val) (k : Int) : List Val := match up with
  | true => xs.drop (clip k xs.length)
  | false => xs.take (clip k xs.length)
noncomputable def slQ (up : Bool) (x y : Val) (Q : Val → Mem → Prop) (m : Mem) : Prop := ∃ a xs k, x = .ref a ∧ m a = some (.list xs) ∧ y = .int k ∧ xs.length < lid ∧ freshL m (cutL up xs k) Q
noncomputable def mmV (mx : Bool) (a b : Int) : Int := match mx with
  | true => if b > a then b else a
  | false => if b < a then b else a
noncomputable def mmQ (mx : Bool) (x y : Val) (Q : Val → Mem → Prop) (m : Mem) : Prop := ∃ a b, x = .int a ∧ y = .int b ∧ Q (.int (mmV mx a b)) m

noncomputable def itemsW (k : ItK) (v : Val) (Q : List Val → Prop) (m : Mem) : Prop :=
  match k with
  | .plain => ∃ xs, seq m v = some xs ∧ xs.length < lid ∧ Q xs
  | .range => ∃ n, v = .int n ∧ (0 ≤ n ∧ n < lid) ∧ Q (rangeV n)
noncomputable def stands (k : ItK) (v : Val) (m m' : Mem) : Prop :=
  match k with
  | .range => True
  | .plain => lst m' v = lst m v

noncomputable def setT (t : Tg) (x : Val) (loc : Loc) (l : Loc) : Prop :=
  match t with
  | .one i => l = setV loc i x
  | .two i j => ∃ a b, x = .tup [a, b] ∧ l = setV (setV loc i a) j b
noncomputable def bindT (t : Tg) (x : Val) (loc : Loc) (k : Loc → Prop) : Prop := ∃ l, setT t x loc l ∧ k l

noncomputable def compLoop (f : Val → (List Val → Mem → Prop) → Mem → Prop) (ok : Mem → Prop) : List Val → List Val → (List Val → Mem → Prop) → Mem → Prop
  | [], acc, Q, m => Q acc m
  | x :: xs, acc, Q, m => f x (fun vs m' => ok m' ∧ compLoop f ok xs (acc ++ vs) Q m') m

noncomputable def loopQ (R : Flow → Loc → Mem → Prop) (I : Loc → Mem → Prop) (fl : Flow) (l : Loc) (m : Mem) : Prop := match fl with
  | .next => I l m
  | .cont => I l m
  | .brk => R .next l m
  | .ret v => R (.ret v) l m

noncomputable def forLoop (f : Val → (Flow → Loc → Mem → Prop) → Loc → Mem → Prop) (ok : Mem → Prop) : List Val → (Flow → Loc → Mem → Prop) → Loc → Mem → Prop
  | [], Q, l, m => Q .next l m
  | x :: xs, Q, l, m => f x (loopQ Q fun l' m' => ok m' ∧ forLoop f ok xs Q l' m') l m

noncomputable def whileLoop (c : (Bool → Mem → Prop) → Loc → Mem → Prop) (f : (Flow → Loc → Mem → Prop) → Loc → Mem → Prop) : Nat → (Flow → Loc → Mem → Prop) → Loc → Mem → Prop
  | 0, _, _, _ => False
  | n + 1, Q, l, m => c (fun t m' => (t = true → f (loopQ Q fun l' m'' => whileLoop c f n Q l' m'') l m') ∧ (t = false → Q .next l m')) l m

noncomputable abbrev CallT := Nat → List Val → (Val → Mem → Prop) → (Nat → Mem → Prop) → Mem → Prop

noncomputable def isL (m : Mem) (x : Val) : Prop := ∃ a xs, x = .ref a ∧ m a = some (.list xs)
noncomputable def isNone : Val → Bool
  | .none => true
  | _ => false
noncomputable def isBool (t : Bool) : Val → Bool
  | .bool u => u == t
  | _ => false
noncomputable def isLit : Option Bool → Val → Bool
  | Option.none => isNone
  | some t => isBool t

noncomputable def asB (Q : Bool → Mem → Prop) (v : Val) (m : Mem) : Prop := ∃ b, v = .bool b ∧ Q b m
noncomputable def bsQ (k : Bool) (W : Mem → Prop) (P : Bool → Mem → Prop) (b : Bool) (m : Mem) : Prop := (b = k → W m) ∧ (b = (!k) → P b m)
noncomputable def ifQ (T E : Mem → Prop) (b : Bool) (m : Mem) : Prop := (b = true → T m) ∧ (b = false → E m)
noncomputable def appQ (Q : Val → Mem → Prop) (x y : Val) (m2 : Mem) : Prop := ∃ a xs, x = .ref a ∧ m2 a = some (.list xs) ∧ xs.length < lid ∧ Q .none (m2.set a (.list (xs ++ [y])))
noncomputable def extQ (Q : Val → Mem → Prop) (x y : Val) (m2 : Mem) : Prop := ∃ a b xs ys, x = .ref a ∧ y = .ref b ∧ b ≠ a ∧ m2 a = some (.list xs) ∧ m2 b = some (.list ys) ∧ xs.length + ys.length < lid ∧ Q .none (m2.set a (.list (xs ++ ys)))
noncomputable def popQ (Q : Val → Mem → Prop) (x : Val) (ks : List Val) (m2 : Mem) : Prop := ∃ a xs k j y, x = .ref a ∧ m2 a = some (.list xs) ∧ xs.length < lid ∧ (ks = [] ∧ k = -1 ∨ ks = [.int k]) ∧ place k xs.length = some j ∧ xs[j]? = some y ∧ Q y (m2.set a (.list (xs.eraseIdx j)))
noncomputable def clrQ (Q : Val → Mem → Prop) (x : Val) (m1 : Mem) : Prop := ∃ a xs, x = .ref a ∧ m1 a = some (.list xs) ∧ xs.length < lid ∧ Q .none (m1.set a (.list []))

noncomputable def idxQ (Q : Val → Mem → Prop) (x y : Val) (m2 : Mem) : Prop := ∃ (a : Addr) (is : List Int) (i : Int), x = .ref a ∧ m2 a = some (.list (is.map .int)) ∧ y = .int i ∧ i ∈ is ∧ is.length < lid ∧ Q (.int (is.idxOf i : Nat)) m2
noncomputable def setQ (x y v : Val) (K : Mem → Prop) (m : Mem) : Prop := ∃ a k xs j, x = .ref a ∧ y = .int k ∧ m a = some (.list xs) ∧ xs.length < lid ∧ place k xs.length = some j ∧ K (m.set a (.list (xs.set j v)))
noncomputable def fldName : Nat → String
  | 0 => "rows" | 1 => "held" | _ => ""
noncomputable def fldsAt (m : Mem) (x : Val) (d : Addr) (fs : List (Option Val)) : Prop := ∃ a, x = .ref a ∧ m a = some (.inst d) ∧ m d = some (.flds fs)
noncomputable def attrQ (x : Val) (f : Nat) (Q : Val → Mem → Prop) (m : Mem) : Prop := ∃ d fs v, f < 2 ∧ fldsAt m x d fs ∧ getV fs f = some v ∧ Q v m
noncomputable def setA (x : Val) (f : Nat) (v : Val) (K : Mem → Prop) (m : Mem) : Prop := ∃ d fs, f < 2 ∧ fldsAt m x d fs ∧ fs.length = 2 ∧ K (m.set d (.flds (setV fs f v)))
noncomputable def isO (m : Mem) (x : Val) : Prop := ∃ a d fs, x = .ref a ∧ m a = some (.inst d) ∧ m d = some (.flds fs)
noncomputable def newQ (K : Val → Mem → Prop) (m : Mem) : Prop := ∀ a d, m a = Option.none → m d = Option.none → a ≠ d → K (.ref a) ((m.set d (.flds [Option.none, Option.none])).set a (.inst d))
noncomputable def cutQ (x : Val) (i j : Int) (Q : Val → Mem → Prop) (m : Mem) : Prop := ∃ xs, lst m x = some xs ∧ xs.length < lid ∧ freshL m ((xs.drop (clip i xs.length)).take (clip j xs.length - clip i xs.length)) Q
noncomputable def fstrQ (v : Val) (c : String) (Q : Val → Mem → Prop) (m : Mem) : Prop := ∃ i : Int, v = .int i ∧ tiny i ∧ (Str.ofString (toString i)).length + (Str.ofString c).length < lid ∧ Q (.str (Str.empty ++ Str.ofString (toString i) ++ Str.ofString c)) m
noncomputable def joinQ (sep : String) (v : Val) (Q : Val → Mem → Prop) (m : Mem) : Prop := ∃ (a : Addr) (ts : List Str), v = .ref a ∧ m a = some (.list (ts.map .str)) ∧ (ts.map (·.length)).sum + ts.length < lid ∧ (Str.ofString sep).length ≤ 16 ∧ Q (.str (Str.join (Str.ofString sep) ts)) m
noncomputable def compF (t : Tg) (loc : Loc) (B : Loc → (Bool → Mem → Prop) → Mem → Prop) (V : Loc → (Val → Mem → Prop) → Mem → Prop) (x : Val) (Q' : List Val → Mem → Prop) (m' : Mem) : Prop :=
  bindT t x loc (fun l => B l (ifQ (fun m2 => V l (fun y m3 => Q' [y] m3) m2) (fun m2 => Q' [] m2)) m')
mutual
noncomputable def wpE (C : CallT) (G : String → Option Val) (X : Nat → Mem → Prop) : Ex → Loc → (Val → Mem → Prop) → Mem → Prop
  | .nm i, loc, Q, m => ∃ v, getV loc i = some v ∧ Q v m
  | .int i, _, Q, m => Q (.int i) m
  | .bool b, _, Q, m => Q (.bool b) m
  | .none, _, Q, m => Q .none m
  | .glob x, _, Q, m => ∃ v, G x = some v ∧ Q v m
  | .bin op a b, loc, Q, m => wpE C G X a loc (fun x m1 => wpE C G X b loc (fun y m2 => wpBin op x y Q m2) m1) m
  | .not a, loc, Q, m => wpE C G X a loc (asB fun b m1 => Q (.bool !b) m1) m
  | .neg a, loc, Q, m => wpE C G X a loc (fun x m1 => ∃ i, x = .int i ∧ Q (.int (-i)) m1) m
  | .boolop k es, loc, Q, m => wpBs C G X k es loc (fun b m1 => Q (.bool b) m1) m
  | .cmp op a b, loc, Q, m => wpE C G X a loc (fun x m1 => wpE C G X b loc (fun y m2 => wpCmp op x y (fun r m3 => Q (.bool r) m3) m2) m1) m
  | .cmp2 o1 o2 a b c, loc, Q, m => wpE C G X a loc (fun x m1 => wpE C G X b loc (fun y m2 => wpCmp o1 x y (ifQ (fun m3 => wpE C G X c loc (fun z m4 => wpCmp o2 y z (fun r' m5 => Q (.bool r') m5) m4) m3) (fun m3 => Q (.bool false) m3)) m2) m1) m
  | .isc p a c, loc, Q, m => wpE C G X a loc (fun x m1 => Q (.bool (isLit c x == p)) m1) m
  | .call f args, loc, Q, m => wpL C G X args loc (fun vs m1 => C f vs Q X m1) m
  | .b1 b a, loc, Q, m => wpE C G X a loc (fun x m1 => wpB1 b x Q m1) m
  | .isinst a c, loc, Q, m => wpE C G X a loc (fun x m1 => ∃ b, isA m1 x c = some b ∧ Q (.bool b) m1) m
  | .append o e, loc, Q, m => wpE C G X o loc (fun x m1 => isL m1 x ∧ wpE C G X e loc (fun y m2 => appQ Q x y m2) m1) m
  | .extend o e, loc, Q, m => wpE C G X o loc (fun x m1 => isL m1 x ∧ wpE C G X e loc (fun y m2 => extQ Q x y m2) m1) m
  | .pop o i, loc, Q, m => wpE C G X o loc (fun x m1 => isL m1 x ∧ wpL C G X i loc (fun ks m2 => popQ Q x ks m2) m1) m
  | .clear o, loc, Q, m => wpE C G X o loc (clrQ Q) m
  | .index o e, loc, Q, m => wpE C G X o loc (fun x m1 => isL m1 x ∧ wpE C G X e loc (fun y m2 => idxQ Q x y m2) m1) m
  | .sub a i, loc, Q, m => wpE C G X a loc (fun x m1 => wpE C G X i loc (fun y m2 => subW x y Q m2) m1) m
  | .slice up a i, loc, Q, m => wpE C G X a loc (fun x m1 => wpE C G X i loc (fun y m2 => slQ up x y Q m2) m1) m
  | .mm mx a b, loc, Q, m => wpE C G X a loc (fun x m1 => wpE C G X b loc (fun y m2 => mmQ mx x y Q m2) m1) m
  | .lst es, loc, Q, m => wpL C G X es loc (fun vs m1 => freshL m1 vs Q) m
  | .tup es, loc, Q, m => wpL C G X es loc (fun vs m1 => vs.length < lid ∧ Q (.tup vs) m1) m
  | .comp elt t k src cond, loc, Q, m => wpE C G X src loc (fun v m1 => itemsW k v (fun xs =>
      compLoop (compF t loc (fun l P m => wpBs C G X true cond l P m) (fun l P m => wpE C G X elt l P m)) (stands k v m1) xs [] (fun ys m' => freshL m' ys Q) m1) m1) m
  | .str x, _, Q, m => Q (.str (Str.ofString x)) m
  | .fstr a c, loc, Q, m => wpE C G X a loc (fun v m1 => fstrQ v c Q m1) m
  | .join sep a, loc, Q, m => wpE C G X a loc (fun v m1 => joinQ sep v Q m1) m
  | .dict0, _, Q, m => ∀ a, m a = Option.none → Q (.ref a) (m.set a .dict0)
  | .attr o f, loc, Q, m => wpE C G X o loc (fun x m1 => attrQ x f Q m1) m
  | .meth o f args, loc, Q, m => wpE C G X o loc (fun x m1 => isO m1 x ∧ wpL C G X args loc (fun vs m2 => C f (x :: vs) Q X m2) m1) m
  | .new f args, loc, Q, m => wpL C G X args loc (fun vs m1 => newQ (fun x m2 => C f (x :: vs) (fun r m3 => r = .none ∧ Q x m3) X m2) m1) m
  | .cut a i j, loc, Q, m => wpE C G X a loc (fun x m1 => cutQ x i j Q m1) m
noncomputable def wpBs (C : CallT) (G : String → Option Val) (X : Nat → Mem → Prop) (isAnd : Bool) : Exs → Loc → (Bool → Mem → Prop) → Mem → Prop
  | .nil, _, Q, m => Q isAnd m
  | .cons e es, loc, Q, m => wpE C G X e loc (asB (bsQ isAnd (wpBs C G X isAnd es loc Q) Q)) m
noncomputable def wpL (C : CallT) (G : String → Option Val) (X : Nat → Mem → Prop) : Exs → Loc → (List Val → Mem → Prop) → Mem → Prop
  | .nil, _, Q, m => Q [] m
  | .cons e es, loc, Q, m => wpE C G X e loc (fun v m1 => wpL C G X es loc (fun vs m2 => Q (v :: vs) m2) m1) m
end

noncomputable def plainV : Val → Prop
  | .none => True
  | .bool _ => True
  | .int _ => True
  | _ => False

noncomputable def bodyF (t : Tg) (B : (Flow → Loc → Mem → Prop) → Loc → Mem → Prop) (x : Val) (Q' : Flow → Loc → Mem → Prop) (l' : Loc) (m' : Mem) : Prop := bindT t x l' (fun l => B Q' l m')
noncomputable def seqQ (W : Loc → Mem → Prop) (R : Flow → Loc → Mem → Prop) (fl : Flow) (l : Loc) (m : Mem) : Prop := match fl with
  | .next => W l m
  | .brk => R .brk l m
  | .cont => R .cont l m
  | .ret v => R (.ret v) l m
noncomputable def retQ (Q : Val → Mem → Prop) (fl : Flow) (_ : Loc) (m : Mem) : Prop := match fl with
  | .ret v => Q v m
  | .next => Q .none m
  | .brk => False
  | .cont => False

mutual
noncomputable def wpS (C : CallT) (G : String → Option Val) : St → (Flow → Loc → Mem → Prop) → (Nat → Loc → Mem → Prop) → Loc → Mem → Prop
  | .expr e, Q, X, loc, m => wpE C G noX e loc (fun v m1 => plainV v ∧ Q .next loc m1) m
  | .ret e, Q, X, loc, m => wpE C G noX e loc (fun v m1 => Q (.ret v) loc m1) m
  | .asg i e, Q, X, loc, m => wpE C G noX e loc (fun v m1 => Q .next (setV loc i v) m1) m
  | .asgSub o i e, Q, X, loc, m => wpE C G noX e loc (fun v m1 => wpE C G noX o loc (fun x m2 => wpE C G noX i loc (fun y m3 => setQ x y v (fun m4 => Q .next loc m4) m3) m2) m1) m
  | .ifs c t e, Q, X, loc, m => wpE C G noX c loc (asB (ifQ (wpSs C G t Q X loc) (wpSs C G e Q X loc))) m
  | .fors t k src b, Q, X, loc, m => wpE C G noX src loc (fun v m1 => itemsW k v (fun xs =>
      forLoop (bodyF t (fun Q' l m' => wpSs C G b Q' noY l m')) (stands k v m1) xs Q loc m1) m1) m
  | .whiles c b, Q, X, loc, m => ∃ n, whileLoop (fun Q' l' m' => wpE C G noX c l' (asB Q') m') (fun Q' l' m' => wpSs C G b Q' noY l' m') n Q loc m
  | .raise c _, _, X, loc, m => X c.code loc m
  | .pass, Q, _, loc, m => Q .next loc m
  | .callS r f args, Q, X, loc, m => wpL C G noX args loc (fun vs m1 => C f vs (cond r (fun v m2 => Q (.ret v) loc m2) (fun v m2 => plainV v ∧ Q .next loc m2)) (fun c m' => X c loc m') m1) m
  | .asgAttr o f e, Q, X, loc, m => wpE C G noX e loc (fun v m1 => wpE C G noX o loc (fun x m2 => setA x f v (fun m3 => Q .next loc m3) m2) m1) m
noncomputable def wpSs (C : CallT) (G : String → Option Val) : Sts → (Flow → Loc → Mem → Prop) → (Nat → Loc → Mem → Prop) → Loc → Mem → Prop
  | .nil, Q, _, loc, m => Q .next loc m
  | .cons s ss, Q, X, loc, m => wpS C G s (seqQ (fun l m1 => wpSs C G ss Q X l m1) Q) X loc m
end

structure Fn where
  name : String
  np : Nat
  vars : List String
  body : Sts
  own : Bool := false

noncomputable def loc0 (vs : List Val) (n : Nat) : Loc := vs.map some ++ List.replicate n Option.none

noncomputable def callN (FT : Nat → Option Fn) (G : String → Option Val) : Nat → CallT
  | 0 => fun _ _ _ _ _ => False
  | n + 1 => fun f vs Q X m => ∃ fn, FT f = some fn ∧ vs.length = fn.np ∧ wpSs (callN FT G n) G fn.body (retQ Q) (fun c _ m' => X c m') (loc0 vs (fn.vars.length - fn.np)) m

end TD

namespace TD
open PySem (Str Addr)

theorem asB_mono {P P' : Bool → Mem → Prop} (k : ∀ b m, P b m → P' b m) {v : Val} {m : Mem} (h : asB P v m) : asB P' v m := by
  obtain ⟨b, e, p⟩ := h; exact Exists.intro b ⟨e, k _ _ p⟩
theorem gv_set {loc : Loc} {i : Nat} {x : Val} (h : i < loc.length) : getV (setV loc i x) i = some x := by
  induction loc generalizing i with
  | nil => cases h
  | cons y r ih => cases i with
    | zero => rfl
    | succ i => exact ih (Nat.lt_of_succ_lt_succ h)
theorem sv_set {loc : Loc} {i : Nat} {x y : Val} : setV (setV loc i x) i y = setV loc i y := by
  induction loc generalizing i with
  | nil => rfl
  | cons z r ih => cases i with
    | zero => rfl
    | succ i => exact congrArg (z :: ·) ih
section steps
variable {C : CallT} {G : String → Option Val} {X : Nat → Mem → Prop} {Y : Nat → Loc → Mem → Prop} {loc : Loc} {Q : Val → Mem → Prop} {m : Mem} {R : Flow → Loc → Mem → Prop}

theorem call_eq {FT : Nat → Option Fn} {n f : Nat} {fn : Fn} {vs : List Val} (hf : FT f = some fn) (hn : vs.length = fn.np)
    (h : wpSs (callN FT G n) G fn.body (retQ Q) (fun c _ m' => X c m') (loc0 vs (fn.vars.length - fn.np)) m) : callN FT G (n + 1) f vs Q X m := ⟨fn, hf, hn, h⟩

theorem e_nm {i : Nat} {v : Val} (hv : getV loc i = some v) (h : Q v m) : wpE C G X (.nm i) loc Q m := Exists.intro v ⟨hv, h⟩
theorem e_bin {op : Bop} {a b : Ex} (h : wpE C G X a loc (fun x m1 => wpE C G X b loc (fun y m2 => wpBin op x y Q m2) m1) m) : wpE C G X (.bin op a b) loc Q m := h
theorem e_not {a : Ex} (h : wpE C G X a loc (asB fun b m1 => Q (.bool !b) m1) m) : wpE C G X (.not a) loc Q m := h
theorem asB_ {P : Bool → Mem → Prop} {b : Bool} (h : P b m) : asB P (.bool b) m := Exists.intro b ⟨rfl, h⟩
theorem e_negI {i : Int} (h : Q (.int (-i)) m) : wpE C G X (.neg (.int i)) loc Q m := Exists.intro i ⟨rfl, h⟩
theorem e_boolop {k : Bool} {es : Exs} (h : wpBs C G X k es loc (fun b m1 => Q (.bool b) m1) m) : wpE C G X (.boolop k es) loc Q m := h
theorem bs_cons {k : Bool} {e : Ex} {es : Exs} {P : Bool → Mem → Prop} (h : wpE C G X e loc (asB (bsQ k (wpBs C G X k es loc P) P)) m) : wpBs C G X k (.cons e es) loc P m := h
theorem bsQ_nil {k b : Bool} {P : Bool → Mem → Prop} (h : P b m) : bsQ k (wpBs C G X k .nil loc P) P b m := And.intro (fun e => e ▸ h) fun _ => h
theorem bsQ_and_true {W : Mem → Prop} {P : Bool → Mem → Prop} (h : W m) : bsQ true W P true m := And.intro (fun _ => h) fun e => Bool.noConfusion e
theorem bsQ_and_false {W : Mem → Prop} {P : Bool → Mem → Prop} (h : P false m) : bsQ true W P false m := And.intro (fun e => Bool.noConfusion e) fun _ => h
theorem bsQ_or_false {W : Mem → Prop} {P : Bool → Mem → Prop} (h : W m) : bsQ false W P false m := And.intro (fun _ => h) fun e => Bool.noConfusion e
theorem bsQ_dec {k : Bool} {W : Mem → Prop} {P : Bool → Mem → Prop} {b : Bool} (h1 : b = k → W m) (h2 : b = !k → P b m) : bsQ k W P b m := And.intro h1 h2
theorem e_cmp {op : Cop} {a b : Ex} (h : wpE C G X a loc (fun x m1 => wpE C G X b loc (fun y m2 => wpCmp op x y (fun r m3 => Q (.bool r) m3) m2) m1) m) : wpE C G X (.cmp op a b) loc Q m := h
theorem e_cmp2 {o1 o2 : Cop} {a b c : Ex} (h : wpE C G X a loc (fun x m1 => wpE C G X b loc (fun y m2 => wpCmp o1 x y (ifQ (fun m3 => wpE C G X c loc (fun z m4 => wpCmp o2 y z (fun r' m5 => Q (.bool r') m5) m4) m3) (fun m3 => Q (.bool false) m3)) m2) m1) m) : wpE C G X (.cmp2 o1 o2 a b c) loc Q m := h
theorem e_isN {p : Bool} {a : Ex} {c : Option Bool} (h : wpE C G X a loc (fun x m1 => Q (.bool (isLit c x == p)) m1) m) : wpE C G X (.isc p a c) loc Q m := h
theorem e_call {f : Nat} {args : Exs} (h : wpL C G X args loc (fun vs m1 => C f vs Q X m1) m) : wpE C G X (.call f args) loc Q m := h
theorem l_cons {e : Ex} {es : Exs} {P : List Val → Mem → Prop} (h : wpE C G X e loc (fun v m1 => wpL C G X es loc (fun vs m2 => P (v :: vs) m2) m1) m) : wpL C G X (.cons e es) loc P m := h
theorem e_b1 {b : B1} {a : Ex} (h : wpE C G X a loc (fun x m1 => wpB1 b x Q m1) m) : wpE C G X (.b1 b a) loc Q m := h
noncomputable def optQ (Q : Val → Mem → Prop) (m : Mem) (o : Option Bool) : Prop := ∃ b, o = some b ∧ Q (.bool b) m
theorem e_isinst {a : Ex} {c : Cls} (h : wpE C G X a loc (fun x m1 => optQ Q m1 (isA m1 x c)) m) : wpE C G X (.isinst a c) loc Q m := h
theorem optQ_ {o : Option Bool} {b : Bool} (e : o = some b) (h : Q (.bool b) m) : optQ Q m o := Exists.intro b ⟨e, h⟩
theorem e_append {o e : Ex} (h : wpE C G X o loc (fun x m1 => isL m1 x ∧ wpE C G X e loc (fun y m2 => appQ Q x y m2) m1) m) : wpE C G X (.append o e) loc Q m := h
theorem isL_ {P : Prop} {a : Addr} {xs : List Val} (e : m a = some (.list xs)) (h : P) : isL m (.ref a) ∧ P := ⟨⟨a, xs, rfl, e⟩, h⟩
theorem appQ_ {a : Addr} {y : Val} {xs : List Val} (e : m a = some (.list xs)) (hl : xs.length < lid) (h : Q .none (m.set a (.list (xs ++ [y])))) : appQ Q (.ref a) y m := ⟨a, xs, rfl, e, hl, h⟩
theorem e_extend {o e : Ex} (h : wpE C G X o loc (fun x m1 => isL m1 x ∧ wpE C G X e loc (fun y m2 => extQ Q x y m2) m1) m) : wpE C G X (.extend o e) loc Q m := h
theorem extQ_ {a b : Addr} {xs ys : List Val} (hn : b ≠ a) (e : m a = some (.list xs)) (e' : m b = some (.list ys)) (hl : xs.length + ys.length < lid) (h : Q .none (m.set a (.list (xs ++ ys)))) : extQ Q (.ref a) (.ref b) m := ⟨a, b, xs, ys, rfl, rfl, hn, e, e', hl, h⟩
theorem e_index {o e : Ex} (h : wpE C G X o loc (fun x m1 => isL m1 x ∧ wpE C G X e loc (fun y m2 => idxQ Q x y m2) m1) m) : wpE C G X (.index o e) loc Q m := h
theorem idxQ_ {a : Addr} {is : List Int} {i : Int} (e : m a = some (.list (is.map .int))) (hi : i ∈ is) (hl : is.length < lid) (h : Q (.int (is.idxOf i : Nat)) m) : idxQ Q (.ref a) (.int i) m := ⟨a, is, i, rfl, e, rfl, hi, hl, h⟩
theorem e_sub {a i : Ex} (h : wpE C G X a loc (fun x m1 => wpE C G X i loc (fun y m2 => subW x y Q m2) m1) m) : wpE C G X (.sub a i) loc Q m := h
theorem subW_ {v : Val} {k : Int} {xs : List Val} {j : Nat} {x : Val} (e : seq m v = some xs) (hp : place k xs.length = some j) (hx : xs[j]? = some x) (hl : xs.length < lid) (h : Q x m) : subW v (.int k) Q m := ⟨k, xs, j, x, rfl, e, hp, hx, hl, h⟩
theorem e_slice {up : Bool} {a i : Ex} (h : wpE C G X a loc (fun x m1 => wpE C G X i loc (fun y m2 => slQ up x y Q m2) m1) m) : wpE C G X (.slice up a i) loc Q m := h
theorem slQ_ {up : Bool} {a : Addr} {xs : List Val} {k : Int} (e : m a = some (.list xs)) (hl : xs.length < lid) (h : freshL m (cutL up xs k) Q) : slQ up (.ref a) (.int k) Q m := ⟨a, xs, k, rfl, e, rfl, hl, h⟩
theorem e_lst {es : Exs} (h : wpL C G X es loc (fun vs m1 => freshL m1 vs Q) m) : wpE C G X (.lst es) loc Q m := h
theorem e_tup {es : Exs} (h : wpL C G X es loc (fun vs m1 => vs.length < lid ∧ Q (.tup vs) m1) m) : wpE C G X (.tup es) loc Q m := h
theorem freshL_ {xs : List Val} (hl : xs.length < lid) (h : ∀ a, m a = none → Q (.ref a) (m.set a (.list xs))) : freshL m xs Q := ⟨hl, h⟩
theorem bin_add {x y : Int} (h : Q (.int (x + y)) m) : wpBin .add (.int x) (.int y) Q m := Or.inl ⟨x, y, rfl, rfl, h⟩
theorem bin_sub {x y : Int} (h : Q (.int (x - y)) m) : wpBin .sub (.int x) (.int y) Q m := Exists.intro x ⟨y, rfl, rfl, h⟩
theorem bin_mul {x y : Int} (hs : small x ∨ small y) (h : Q (.int (x * y)) m) : wpBin .mul (.int x) (.int y) Q m := Or.inl ⟨x, y, rfl, rfl, hs, h⟩
theorem bin_fdiv {x y : Int} (hy : y ≠ 0 ∧ tiny y) (h : Q (.int (x.fdiv y)) m) : wpBin .fdiv (.int x) (.int y) Q m := Exists.intro x ⟨y, rfl, rfl, hy, h⟩
theorem bin_mod {x y : Int} (hy : y ≠ 0 ∧ tiny y) (h : Q (.int (x.fmod y)) m) : wpBin .mod (.int x) (.int y) Q m := Exists.intro x ⟨y, rfl, rfl, hy, h⟩
theorem bin_addL {x y : Addr} {xs ys : List Val} (hx : lst m (.ref x) = some xs) (hy : lst m (.ref y) = some ys) (h : freshL m (xs ++ ys) Q) : wpBin .add (.ref x) (.ref y) Q m := Or.inr (Or.inl ⟨x, y, xs, ys, rfl, rfl, hx, hy, h⟩)
theorem cmp_lt {x y : Int} {P : Bool → Mem → Prop} (h : P (decide (x < y)) m) : wpCmp .lt (.int x) (.int y) P m := Exists.intro x ⟨y, rfl, rfl, h⟩
theorem cmp_le {x y : Int} {P : Bool → Mem → Prop} (h : P (decide (x ≤ y)) m) : wpCmp .le (.int x) (.int y) P m := Exists.intro x ⟨y, rfl, rfl, h⟩
theorem cmp_gt {x y : Int} {P : Bool → Mem → Prop} (h : P (decide (x > y)) m) : wpCmp .gt (.int x) (.int y) P m := Exists.intro x ⟨y, rfl, rfl, h⟩
theorem cmp_ge {x y : Int} {P : Bool → Mem → Prop} (h : P (decide (x ≥ y)) m) : wpCmp .ge (.int x) (.int y) P m := Exists.intro x ⟨y, rfl, rfl, h⟩
theorem cmp_eqI {x y : Int} {P : Bool → Mem → Prop} (h : P (decide (x = y)) m) : wpCmp .eq (.int x) (.int y) P m := Or.inr (Or.inr ⟨.int x, .int y, rfl, rfl, rfl, rfl, h⟩)
theorem cmp_neI {x y : Int} {P : Bool → Mem → Prop} (h : P (decide (x ≠ y)) m) : wpCmp .ne (.int x) (.int y) P m :=
  Or.inr (Or.inr ⟨.int x, .int y, rfl, rfl, rfl, rfl, by show P (!(x == y)) m; rw [show (!(x == y)) = decide (x ≠ y) by by_cases q : x = y <;> simp [q]]; exact h⟩)
theorem b1_len {v : Val} {xs : List Val} (e : seq m v = some xs) (hl : xs.length < lid) (h : Q (.int xs.length) m) : wpB1 .len v Q m := Exists.intro xs ⟨e, hl, h⟩
theorem b1_all {v : Val} {bs : List Bool} (e : lst m v = some (bs.map .bool)) (h : Q (.bool (bs.all id)) m) : wpB1 .all v Q m := Exists.intro bs ⟨e, h⟩
theorem b1_sum {v : Val} {is : List Int} (e : lst m v = some (is.map .int)) (hs : ∀ i ∈ is, small i) (hl : is.length < lid) (h : Q (.int is.sum) m) : wpB1 .sum v Q m := Exists.intro is ⟨e, hs, hl, h⟩
theorem b1_list {v : Val} {xs : List Val} (e : seq m v = some xs) (h : freshL m xs Q) : wpB1 .list v Q m := Exists.intro xs ⟨e, h⟩
theorem b1_lrange {n : Int} (hl : 0 ≤ n ∧ n < lid) (h : freshL m (rangeV n) Q) : wpB1 .lrange (.int n) Q m := Exists.intro n ⟨rfl, hl, h⟩
theorem b1_lrev {a : Addr} {xs : List Val} (e : m a = some (.list xs)) (hl : xs.length < lid) (h : freshL m xs.reverse Q) : wpB1 .lrev (.ref a) Q m := Exists.intro a ⟨xs, rfl, e, hl, h⟩
theorem b1_lenset {v : Val} {is : List Int} (e : lst m v = some (is.map .int)) (hl : is.length < 1000) (h : ∀ k : Nat, k ≤ is.length → (k = is.length ↔ is.Nodup) → Q (.int k) m) : wpB1 .lenset v Q m := Exists.intro is ⟨e, hl, h⟩

theorem s_nil (h : R .next loc m) : wpSs C G .nil R Y loc m := h
theorem s_cons {s : St} {ss : Sts} (h : wpS C G s (seqQ (fun l m1 => wpSs C G ss R Y l m1) R) Y loc m) : wpSs C G (.cons s ss) R Y loc m := h
theorem seqQ_next {W : Loc → Mem → Prop} (h : W loc m) : seqQ W R .next loc m := h
theorem seqQ_ret {W : Loc → Mem → Prop} {v : Val} (h : R (.ret v) loc m) : seqQ W R (.ret v) loc m := h
theorem retQ_ret {v : Val} (h : Q v m) : retQ Q (.ret v) loc m := h
theorem retQ_next (h : Q .none m) : retQ Q .next loc m := h
theorem s_expr {e : Ex} (h : wpE C G noX e loc (fun v m1 => plainV v ∧ R .next loc m1) m) : wpS C G (.expr e) R Y loc m := h
theorem s_ret {e : Ex} (h : wpE C G noX e loc (fun v m1 => R (.ret v) loc m1) m) : wpS C G (.ret e) R Y loc m := h
theorem s_asg {i : Nat} {e : Ex} (h : wpE C G noX e loc (fun v m1 => R .next (setV loc i v) m1) m) : wpS C G (.asg i e) R Y loc m := h
theorem s_asgSub {o i e : Ex} (h : wpE C G noX e loc (fun v m1 => wpE C G noX o loc (fun x m2 => wpE C G noX i loc (fun y m3 => setQ x y v (fun m4 => R .next loc m4) m3) m2) m1) m) : wpS C G (.asgSub o i e) R Y loc m := h
theorem setQ_ {a : Addr} {k : Int} {v : Val} {xs : List Val} {K : Mem → Prop} (e : m a = some (.list xs)) (hl : xs.length < lid) (h0 : 0 ≤ k) (hk : k.toNat < xs.length) (h : K (m.set a (.list (xs.set k.toNat v)))) : setQ (.ref a) (.int k) v K m := ⟨a, k, xs, k.toNat, rfl, rfl, e, hl, by unfold place; rw [if_pos h0, if_pos hk], h⟩
theorem s_ifs {c : Ex} {t e : Sts} (h : wpE C G noX c loc (asB (ifQ (wpSs C G t R Y loc) (wpSs C G e R Y loc))) m) : wpS C G (.ifs c t e) R Y loc m := h
theorem ifQ_true {T E : Mem → Prop} (h : T m) : ifQ T E true m := And.intro (fun _ => h) fun e => Bool.noConfusion e
theorem ifQ_false {T E : Mem → Prop} (h : E m) : ifQ T E false m := And.intro (fun e => Bool.noConfusion e) fun _ => h
theorem ifQ_dec {T E : Mem → Prop} {b : Bool} (h1 : b = true → T m) (h2 : b = false → E m) : ifQ T E b m := And.intro h1 h2
theorem e_attr {o : Ex} {f : Nat} (h : wpE C G X o loc (fun x m1 => attrQ x f Q m1) m) : wpE C G X (.attr o f) loc Q m := h
theorem e_meth {o : Ex} {f : Nat} {args : Exs} (h : wpE C G X o loc (fun x m1 => isO m1 x ∧ wpL C G X args loc (fun vs m2 => C f (x :: vs) Q X m2) m1) m) : wpE C G X (.meth o f args) loc Q m := h
theorem e_new {f : Nat} {args : Exs} (h : wpL C G X args loc (fun vs m1 => newQ (fun x m2 => C f (x :: vs) (fun r m3 => r = .none ∧ Q x m3) X m2) m1) m) : wpE C G X (.new f args) loc Q m := h
theorem e_cut {a : Ex} {i j : Int} (h : wpE C G X a loc (fun x m1 => cutQ x i j Q m1) m) : wpE C G X (.cut a i j) loc Q m := h
theorem s_asgAttr {o e : Ex} {f : Nat} (h : wpE C G noX e loc (fun v m1 => wpE C G noX o loc (fun x m2 => setA x f v (fun m3 => R .next loc m3) m2) m1) m) : wpS C G (.asgAttr o f e) R Y loc m := h
theorem attrQ_ {a d : Addr} {fs : List (Option Val)} {f : Nat} {v : Val} (h1 : m a = some (.inst d)) (h2 : m d = some (.flds fs)) (hf : f < 2) (hv : getV fs f = some v) (h : Q v m) : attrQ (.ref a) f Q m := ⟨d, fs, v, hf, ⟨a, rfl, h1, h2⟩, hv, h⟩
theorem setA_ {a d : Addr} {fs : List (Option Val)} {f : Nat} {v : Val} {K : Mem → Prop} (h1 : m a = some (.inst d)) (h2 : m d = some (.flds fs)) (hf : f < 2) (hl : fs.length = 2) (h : K (m.set d (.flds (setV fs f v)))) : setA (.ref a) f v K m := ⟨d, fs, hf, ⟨a, rfl, h1, h2⟩, hl, h⟩
theorem isO_ {a d : Addr} {fs : List (Option Val)} {P : Prop} (h1 : m a = some (.inst d)) (h2 : m d = some (.flds fs)) (h : P) : isO m (.ref a) ∧ P := ⟨⟨a, d, fs, rfl, h1, h2⟩, h⟩
theorem plain_none {P : Prop} (h : P) : plainV .none ∧ P := ⟨trivial, h⟩

theorem s_fors {t : Tg} {k : ItK} {src : Ex} {b : Sts} (h : wpE C G noX src loc (fun v m1 => itemsW k v (fun xs => forLoop (bodyF t (fun Q' l m' => wpSs C G b Q' noY l m')) (stands k v m1) xs R loc m1) m1) m) : wpS C G (.fors t k src b) R Y loc m := h
theorem items_list {v : Val} {xs : List Val} {P : List Val → Prop} (e : seq m v = some xs) (hl : xs.length < lid) (h : P xs) : itemsW .plain v P m := Exists.intro xs ⟨e, hl, h⟩
theorem items_range {n : Int} {P : List Val → Prop} (hl : 0 ≤ n ∧ n < lid) (h : P (rangeV n)) : itemsW .range (.int n) P m := Exists.intro n ⟨rfl, hl, h⟩
theorem loopQ_next {I : Loc → Mem → Prop} (h : I loc m) : loopQ R I .next loc m := h
theorem loopQ_ret {I : Loc → Mem → Prop} {v : Val} (h : R (.ret v) loc m) : loopQ R I (.ret v) loc m := h

theorem for_inv {f : Val → (Flow → Loc → Mem → Prop) → Loc → Mem → Prop} {ok : Mem → Prop} {xs : List Val} (I : Nat → Loc → Mem → Prop) (h0 : I 0 loc m)
    (step : ∀ i x l m, xs[i]? = some x → I i l m → ∀ P : Loc → Mem → Prop, (∀ l' m', ok m' ∧ I (i + 1) l' m' → P l' m') → f x (loopQ R P) l m)
    (done : ∀ l m, I xs.length l m → R .next l m) : forLoop f ok xs R loc m := by
  induction xs generalizing I loc m with
  | nil => exact done _ _ h0
  | cons y r ih => exact step 0 y _ _ rfl h0 _ fun l' m' q => ⟨q.1, ih (fun i => I (i + 1)) q.2 (fun i x l m e hI => step (i + 1) x l m e hI) done⟩
end steps

end TD

namespace TD
open PySem PyProof.Rows

structure Cx where
  prog : Program
  w : World
  base : Heap
  mg : Str → Option Value
  mb : Str → Option Value
  gens : Array GenState
  os : OsState

mutual
noncomputable def VRel (W : Cx) (h : Heap) : Val → Value → Prop
  | .none, v => v = .none
  | .bool b, v => v = .bool b
  | .int i, v => ∃ t, v = .int i t
  | .tup vs, v => ∃ a xs, v = .ref a ∧ IsTup h a (List.toArray xs) ∧ VRels W h vs xs
  | .ref a, v => v = .ref a
  | .frz vs, v => ∃ a xs, v = .ref a ∧ W.base.IsList a (List.toArray xs) ∧ VRels W h vs xs
  | .str x, v => ∃ t, v = .str x t
noncomputable def VRels (W : Cx) (h : Heap) : List Val → List Value → Prop
  | [], xs => xs = []
  | v :: vs, xs => ∃ y ys, xs = y :: ys ∧ VRel W h v y ∧ VRels W h vs ys
end

noncomputable def Fixed (o : Obj) : Prop := o.cls = .type "tuple" ∧ ∃ xs n, o.data = .seq xs n
noncomputable def NsObj (o : Obj) (m : Str → Option Value) : Prop := ∃ es ep, o.data = .dict es ep ∧ StrKeys es ∧ ∀ name, nsFind es name = m name
noncomputable def Alike (o o' : Obj) : Prop := o' = o ∨ ((∃ m, NsObj o m) ∧ ∀ m, NsObj o m → NsObj o' m)
theorem Alike.refl (o : Obj) : Alike o o := .inl rfl
theorem Alike.trans {a b c : Obj} (x : Alike a b) (y : Alike b c) : Alike a c := by
  rcases x with rfl | ⟨hx, kx⟩
  · exact y
  · rcases y with rfl | ⟨_, ky⟩
    · exact .inr ⟨hx, kx⟩
    · exact .inr ⟨hx, fun m q => ky m (kx m q)⟩
theorem Alike.ns {a b : Obj} {m : Str → Option Value} (x : Alike a b) (h : NsObj a m) : NsObj b m := by
  rcases x with rfl | ⟨_, k⟩
  · exact h
  · exact k m h
theorem Alike.eq {a b : Obj} (x : Alike a b) (h : ∀ es ep, a.data ≠ .dict es ep) : b = a := by
  rcases x with rfl | ⟨⟨m, es, ep, hd, _⟩, _⟩
  · rfl
  · exact absurd hd (h es ep)
noncomputable def KeepF (h h' : Heap) : Prop := ∀ b o, h.get? b = some o → Fixed o → h'.get? b = some o

mutual
theorem VRel.keep {W : Cx} {h h' : Heap} (k : KeepF h h') : ∀ {v : Val} {x : Value}, VRel W h v x → VRel W h' v x
  | .none, _, e => e
  | .bool _, _, e => e
  | .int _, _, e => e
  | .ref _, _, e => e
  | .tup vs, _, ⟨a, xs, e, ⟨o, ho, hc, n, hd⟩, r⟩ => by
      exact ⟨a, xs, e, ⟨_, k a o ho ⟨hc, _, n, hd⟩, hc, n, hd⟩, VRels.keep k r⟩
  | .frz vs, _, ⟨a, xs, e, hl, r⟩ => ⟨a, xs, e, hl, VRels.keep k r⟩
  | .str _, _, e => e
theorem VRels.keep {W : Cx} {h h' : Heap} (k : KeepF h h') : ∀ {vs : List Val} {xs : List Value}, VRels W h vs xs → VRels W h' vs xs
  | [], _, e => e
  | _ :: _, _, ⟨y, ys, e, a, b⟩ => ⟨y, ys, e, VRel.keep k a, VRels.keep k b⟩
end

noncomputable def ORel (W : Cx) (h : Heap) (a : Addr) : AObj → Prop
  | .list xs => ∃ vs, h.PlainList a (List.toArray vs) ∧ VRels W h xs vs
  | .dict0 => ∃ o es n, h.get? a = some o ∧ o.cls = .type "dict" ∧ o.data = .dict es n
  | .inst d => ∃ o C, h.get? a = some o ∧ W.mg (Str.ofString "Estate") = some (.ref C) ∧ o.cls = .ref C ∧ o.dict = some d ∧ (∀ c, o.data ≠ .cls c) ∧ (∀ vs, o.data ≠ .fields vs) ∧ d ≠ a
  | .flds fs => ∃ mA, h.Ns1 a mA ∧ h.ExactDictFk a ∧ Within mA [Str.ofString "rows", Str.ofString "held"] ∧ ∀ i v, i < 2 → getV fs i = some v → ∃ y, mA (Str.ofString (fldName i)) = some y ∧ VRel W h v y
theorem ORel.at {W : Cx} {h h' : Heap} {a : Addr} {o : AObj} (r : ORel W h a o) (k : ∀ x, h.get? a = some x → h'.get? a = some x) (kf : KeepF h h') : ORel W h' a o := by
  cases o with
  | list xs => obtain ⟨vs, ⟨n, hn⟩, q⟩ := r; exact ⟨vs, ⟨n, k _ hn⟩, q.keep kf⟩
  | dict0 => obtain ⟨o, es, n, hn, q⟩ := r; exact ⟨o, es, n, k _ hn, q⟩
  | inst d => obtain ⟨o, C, hn, q⟩ := r; exact ⟨o, C, k _ hn, q⟩
  | flds fs => obtain ⟨mA, h1, h2, h3, h4⟩ := r; exact ⟨mA, h1.at k, h2.at k, h3, fun i v hi hv => let ⟨y, a, b⟩ := h4 i v hi hv; ⟨y, a, b.keep kf⟩⟩

noncomputable def MemRel (W : Cx) (mem : Mem) (h : Heap) : Prop := ∀ a o, mem a = some o → ORel W h a o ∧ W.base.get? a = none

structure MRel (W : Cx) (mem : Mem) (s : Shared) : Prop where
  stays : W.base.StaysIn s.heap
  mems : MemRel W mem s.heap
  gens : s.gens = W.gens
  os : s.os = W.os

structure Step (D : Addr → Prop) (mem : Mem) (h : Heap) (mem' : Mem) (h' : Heap) : Prop where
  alive : ∀ b, h'.get? b = none → h.get? b = none
  keep : ∀ b o, h.get? b = some o → mem b = none → ¬ D b → ∃ o', h'.get? b = some o' ∧ Alike o o'
  grow : ∀ b, mem b = none → mem' b ≠ none → h.get? b = none

theorem Step.refl {D : Addr → Prop} {mem : Mem} {h : Heap} : Step D mem h mem h := ⟨fun _ e => e, fun _ o e _ _ => ⟨o, e, .refl o⟩, fun _ a b => absurd a b⟩
theorem Step.none' {D : Addr → Prop} {m1 m2 : Mem} {h1 h2 : Heap} (x : Step D m1 h1 m2 h2) {b : Addr} {o : Obj} (e : h1.get? b = some o) (hm : m1 b = none) : m2 b = none := by
  cases q : m2 b with
  | none => rfl
  | some o' => have := x.grow b hm (by rw [q]; simp); rw [this] at e; cases e
theorem Step.trans {D : Addr → Prop} {m1 m2 m3 : Mem} {h1 h2 h3 : Heap} (x : Step D m1 h1 m2 h2) (y : Step D m2 h2 m3 h3) : Step D m1 h1 m3 h3 where
  alive := fun b e => x.alive b (y.alive b e)
  keep := fun b o e hm hD => by
    obtain ⟨o2, e2, a2⟩ := x.keep b o e hm hD
    obtain ⟨o3, e3, a3⟩ := y.keep b _ e2 (x.none' e hm) hD
    exact ⟨o3, e3, a2.trans a3⟩
  grow := fun b hm h3' => by
    cases q : m2 b with
    | some o' => exact x.grow b hm (by rw [q]; simp)
    | none => exact x.alive b (y.grow b q h3')
theorem Step.mono {D D' : Addr → Prop} {m1 m2 : Mem} {h1 h2 : Heap} (x : Step D m1 h1 m2 h2) (k : ∀ b, D b → D' b) : Step D' m1 h1 m2 h2 :=
  ⟨x.alive, fun b o e hm hD => x.keep b o e hm fun q => hD (k b q), x.grow⟩
noncomputable abbrev NoD : Addr → Prop := fun _ => False

theorem alive_of {h h' : Heap} (k : ∀ b o, h.get? b = some o → h'.get? b = some o) (b : Addr) (e : h'.get? b = none) : h.get? b = none := by
  cases q : h.get? b with
  | none => rfl
  | some o => rw [k b o q] at e; cases e
theorem Step.of_keeps {D : Addr → Prop} {mem : Mem} {h h' : Heap} (k : ∀ b o, h.get? b = some o → h'.get? b = some o) : Step D mem h mem h' :=
  ⟨alive_of k, fun b o e _ _ => ⟨o, k b o e, .refl o⟩, fun _ a b => absurd a b⟩

theorem ORel.notFixed {W : Cx} {h : Heap} {b : Addr} {a : AObj} {o : Obj} (r : ORel W h b a) (e : h.get? b = some o) : ¬ Fixed o := by
  rintro ⟨hf, _⟩
  cases a with
  | list xs => obtain ⟨vs, ⟨n, hn⟩, _⟩ := r; rw [e] at hn; cases hn; simp at hf
  | dict0 => obtain ⟨o, es, n, hn, hc, _⟩ := r; rw [e] at hn; cases hn; rw [hf] at hc; exact absurd hc (by simp)
  | inst d => obtain ⟨o, C, hn, _, hc, _⟩ := r; rw [e] at hn; cases hn; rw [hf] at hc; exact absurd hc (by simp)
  | flds fs => obtain ⟨mA, _, ⟨o, hn, hc, _⟩, _⟩ := r; rw [e] at hn; cases hn; rw [hf] at hc; exact absurd hc (by simp)
theorem MemRel.notFixed {W : Cx} {mem : Mem} {h : Heap} (M : MemRel W mem h) {b : Addr} {o : Obj} (e : h.get? b = some o) (hf : Fixed o) : mem b = none := by
  cases q : mem b with
  | none => rfl
  | some a => exact absurd hf ((M b a q).1.notFixed e)

noncomputable def DOk (D : Addr → Prop) (h : Heap) : Prop := ∀ b o, D b → h.get? b = some o → ¬ Fixed o

theorem Fixed.notDict {o : Obj} (h : Fixed o) : ∀ es ep, o.data ≠ .dict es ep := fun es ep q => by obtain ⟨_, xs, n, hd⟩ := h; rw [hd] at q; cases q
theorem Step.keepF {W : Cx} {D : Addr → Prop} {mem mem' : Mem} {h h' : Heap} (x : Step D mem h mem' h') (M : MemRel W mem h) (hD : DOk D h) : KeepF h h' :=
  fun b o e hf => by
    obtain ⟨o', e', a⟩ := x.keep b o e (M.notFixed e hf) fun d => hD b o d e hf
    rw [e', a.eq hf.notDict]

theorem KeepF.of_keeps {h h' : Heap} (k : ∀ b o, h.get? b = some o → h'.get? b = some o) : KeepF h h' := fun b o e _ => k b o e

theorem ORel.of_keeps {W : Cx} {h h' : Heap} (k : ∀ b o, h.get? b = some o → h'.get? b = some o) {a : Addr} {o : AObj} (r : ORel W h a o) : ORel W h' a o := r.at (k a) (.of_keeps k)
theorem MemRel.of_keeps {W : Cx} {mem : Mem} {h h' : Heap} (M : MemRel W mem h) (k : ∀ b o, h.get? b = some o → h'.get? b = some o) : MemRel W mem h' :=
  fun a o e => ⟨(M a o e).1.of_keeps k, (M a o e).2⟩
theorem ORel.there {W : Cx} {h : Heap} {b : Addr} {a : AObj} (r : ORel W h b a) : ∃ o, h.get? b = some o := by
  cases a with
  | list xs => obtain ⟨vs, ⟨n, hn⟩, _⟩ := r; exact ⟨_, hn⟩
  | dict0 => obtain ⟨o, es, n, hn, _⟩ := r; exact ⟨_, hn⟩
  | inst d => obtain ⟨o, C, hn, _⟩ := r; exact ⟨_, hn⟩
  | flds fs => obtain ⟨mA, _, ⟨o, hn, _⟩, _⟩ := r; exact ⟨_, hn⟩

theorem MemRel.fresh {W : Cx} {mem : Mem} {h : Heap} (M : MemRel W mem h) {a : Addr} (ha : h.get? a = none) : mem a = none := by
  cases q : mem a with
  | none => rfl
  | some o => obtain ⟨o', e⟩ := (M a o q).1.there; rw [ha] at e; cases e
theorem MRel.of_keeps {W : Cx} {mem : Mem} {s s' : Shared} (M : MRel W mem s) (k : ∀ b o, s.heap.get? b = some o → s'.heap.get? b = some o) (hg : s'.gens = s.gens := by rfl) (ho : s'.os = s.os := by rfl) : MRel W mem s' :=
  ⟨fun b x e => k _ _ (M.stays b x e), M.mems.of_keeps k, hg.trans M.gens, ho.trans M.os⟩

theorem MRel.upd {W : Cx} {mem : Mem} {s s' : Shared} (M : MRel W mem s) {a : Addr} {o o₀ : AObj} (ha : mem a = some o₀) (hs : Heap.SameBut a s.heap s'.heap)
    (r : KeepF s.heap s'.heap → ORel W s'.heap a o) (hg : s'.gens = s.gens := by rfl) (ho : s'.os = s.os := by rfl) : MRel W (mem.set a o) s' := by
  have hb := (M.mems a o₀ ha)
  have kf : KeepF s.heap s'.heap := fun b x e hf => by
    by_cases hba : b = a
    · subst hba; exact absurd hf (hb.1.notFixed e)
    · rw [hs.2 b hba]; exact e
  refine ⟨fun b x e => ?_, fun b x e => ?_, hg.trans M.gens, ho.trans M.os⟩
  · by_cases hba : b = a
    · subst hba; rw [hb.2] at e; cases e
    · rw [hs.2 b hba]; exact M.stays b x e
  · unfold Mem.set at e
    split at e
    · rename_i q; subst q; cases e; exact ⟨r kf, hb.2⟩
    · rename_i q
      obtain ⟨r', n'⟩ := M.mems b x e
      exact ⟨r'.at (fun _ e => (hs.2 b q).trans e) kf, n'⟩
theorem Step.upd {D : Addr → Prop} {mem : Mem} {h h' : Heap} {a : Addr} {o o₀ : AObj} (ha : mem a = some o₀) (hs : Heap.SameBut a h h') (hl : h'.get? a ≠ none) : Step D mem h (mem.set a o) h' :=
  ⟨fun b e => by
    by_cases hb : b = a
    · subst hb; exact absurd e hl
    · rw [← hs.2 b hb]; exact e, fun b x e hm _ => ⟨x, by
    have hb : b ≠ a := by rintro rfl; rw [ha] at hm; cases hm
    rw [hs.2 b hb]; exact e, .refl x⟩, fun b hm h' => by
    unfold Mem.set at h'
    split at h'
    · rename_i hb; subst hb; rw [ha] at hm; cases hm
    · exact absurd hm h'⟩

structure EnvRel (W : Cx) (env : Env) (vis : List (Nat × Str)) (loc : Loc) (h : Heap) : Prop where
  kind : env.scope.kind = .function
  glob : env.globals = mainGlobals
  blt : env.builtins = builtinsNs
  ns : ∃ m, h.Ns env.locals m ∧ ∀ i x v, (i, x) ∈ vis → getV loc i = some v → env.kindOf x = some .local → ∃ y, m x = some y ∧ VRel W h v y
  cell : ∀ i x v k, (i, x) ∈ vis → getV loc i = some v → env.kindOf x = some k → k = .cell ∨ k = .free → ∃ c y, env.cells.lookup x = some c ∧ h.IsCell c (some y) ∧ VRel W h v y
  cellk : ∀ x k, env.kindOf x = some k → k = .cell ∨ k = .free → ∃ c, env.cells.lookup x = some c
  cells : ∀ x c, env.cells.lookup x = some c → ∃ o, h.IsCell c o
  apart : ∀ x y c, env.cells.lookup x = some c → env.cells.lookup y = some c → x = y

noncomputable def FrD (env : Env) (b : Addr) : Prop := b = env.locals ∨ ∃ x, env.cells.lookup x = some b

theorem EnvRel.there {W : Cx} {env : Env} {vis : List (Nat × Str)} {loc : Loc} {h : Heap} (R : EnvRel W env vis loc h) {b : Addr} (hb : FrD env b) : ∃ o, h.get? b = some o ∧ ((∃ es n, o.data = .dict es n) ∨ ∃ v, o.data = .cell v) := by
  rcases hb with rfl | ⟨x, hx⟩
  · obtain ⟨m, ⟨o, es, ep, e, hd, _⟩, _⟩ := R.ns
    exact ⟨o, e, .inl ⟨es, ep, hd⟩⟩
  · obtain ⟨o, o', e, hd⟩ := R.cells x b hx
    exact ⟨o', e, .inr ⟨o, hd⟩⟩
theorem EnvRel.dok {W : Cx} {env : Env} {vis : List (Nat × Str)} {loc : Loc} {h : Heap} (R : EnvRel W env vis loc h) : DOk (FrD env) h := fun b o hb e hf => by
  obtain ⟨o', e', hd⟩ := R.there hb
  rw [e] at e'; cases e'
  obtain ⟨_, xs, n, hx⟩ := hf
  rcases hd with ⟨es, n', hd⟩ | ⟨v, hd⟩ <;> rw [hx] at hd <;> cases hd
theorem DOk.none {h : Heap} : DOk NoD h := fun _ _ hb => hb.elim

theorem EnvRel.keep {W : Cx} {env : Env} {vis : List (Nat × Str)} {loc : Loc} {h h' : Heap} (R : EnvRel W env vis loc h) (k : KeepF h h')
    (kd : ∀ b o, FrD env b → h.get? b = some o → ∃ o', h'.get? b = some o' ∧ Alike o o') : EnvRel W env vis loc h' := by
  have kc : ∀ x c v, env.cells.lookup x = some c → h.IsCell c v → h'.IsCell c v := fun x c v hx ⟨o, e, hd⟩ => by
    obtain ⟨o', e', hd'⟩ := kd c o (.inr ⟨x, hx⟩) e
    rw [hd'.eq fun es ep q => by rw [hd] at q; cases q] at e'
    exact ⟨o, e', hd⟩
  refine ⟨R.kind, R.glob, R.blt, ?_, fun i x v k' h1 h2 h3 h4 => ?_, R.cellk, fun x c hx => ?_, R.apart⟩
  · obtain ⟨m, ⟨o, es, ep, e, hd, r⟩, q⟩ := R.ns
    obtain ⟨o', e', hd'⟩ := kd _ o (.inl rfl) e
    obtain ⟨es', ep', r'⟩ := hd'.ns ⟨es, ep, hd, r⟩
    exact ⟨m, ⟨o', es', ep', e', r'⟩, fun i x v h1 h2 h3 => let ⟨y, a, b⟩ := q i x v h1 h2 h3; ⟨y, a, b.keep k⟩⟩
  · obtain ⟨c, y, a, b, d⟩ := R.cell i x v k' h1 h2 h3 h4
    exact ⟨c, y, a, kc x c _ a b, d.keep k⟩
  · obtain ⟨o, ho⟩ := R.cells x c hx
    exact ⟨o, kc x c _ hx ho⟩

structure Rel (W : Cx) (env : Env) (vis : List (Nat × Str)) (loc : Loc) (mem : Mem) (s : Shared) : Prop where
  m : MRel W mem s
  e : EnvRel W env vis loc s.heap
  sep : ∀ b, FrD env b → mem b = none
  new : ∀ b, FrD env b → W.base.get? b = none

theorem Rel.step {W : Cx} {env : Env} {vis : List (Nat × Str)} {loc : Loc} {mem mem' : Mem} {s s' : Shared} (R : Rel W env vis loc mem s) (M : MRel W mem' s') (x : Step NoD mem s.heap mem' s'.heap) : Rel W env vis loc mem' s' where
  m := M
  e := R.e.keep (x.keepF R.m.mems .none) fun b o hb e => let ⟨o', e', a⟩ := x.keep b o e (R.sep b hb) id; ⟨o', e', a⟩
  sep := fun b hb => let ⟨_, e, _⟩ := R.e.there hb; x.none' e (R.sep b hb)
  new := R.new

noncomputable def below (h : Heap) (L : Addr) : Heap := ⟨(h.objs.toList.take L).toArray, h.life⟩
theorem below_get {h : Heap} {L b : Addr} (hb : b < L) : (below h L).get? b = h.get? b := by
  unfold Heap.get? below
  simp only [List.getElem?_toArray]
  rw [List.getElem?_take_of_lt hb]
  simp
theorem below_none {h : Heap} {L b : Addr} (hb : L ≤ b) : (below h L).get? b = none := by
  unfold Heap.get? below
  simp only [List.getElem?_toArray]
  have hb' : @LE.le Nat _ L b := hb
  rw [List.getElem?_eq_none (by simp only [List.length_take]; omega)]
noncomputable def others (h : Heap) (L : Addr) : List (Addr × Obj) := (List.range h.objs.size).filterMap fun b => if L < b then (h.get? b).map fun o => (b, o) else none
theorem mem_others {h : Heap} {L b : Addr} {o : Obj} : (b, o) ∈ others h L ↔ L < b ∧ h.get? b = some o := by
  unfold others
  rw [List.mem_filterMap]
  constructor
  · rintro ⟨c, hc, e⟩
    split at e
    · rename_i hl
      obtain ⟨o', ho, e'⟩ := Option.map_eq_some_iff.mp e
      cases e'; exact ⟨hl, ho⟩
    · cases e
  · rintro ⟨hl, ho⟩
    exact ⟨b, List.mem_range.mpr (Heap.lt_size ho), by rw [if_pos hl, ho]; rfl⟩
theorem fr_all {h : Heap} {L : Addr} {m : Str → Option Value} (hn : h.Ns L m) : Fr (below h L) L h m ∧ News (below h L) L h (others h L) := by
  refine ⟨⟨hn, fun b o e => ?_, ?_⟩, fun p hp => ?_⟩
  · by_cases hb : b < L
    · rw [below_get hb] at e; exact e
    · rw [below_none (Nat.le_of_not_lt hb)] at e; cases e
  · show (h.objs.toList.take L).toArray.size ≤ L
    simp only [List.size_toArray, List.length_take]; exact Nat.min_le_left _ _
  · obtain ⟨b, o⟩ := p
    obtain ⟨hl, ho⟩ := mem_others.mp hp
    exact ⟨ho, Nat.ne_of_gt hl, below_none (Nat.le_of_lt hl)⟩

structure KeepL (L : Addr) (h h' : Heap) : Prop where
  keep : ∀ b o, b ≠ L → h.get? b = some o → h'.get? b = some o
  ns : ∀ m, h.Ns L m → h'.Ns L m
theorem KeepL.of_fr {h h' : Heap} {L : Addr} {m : Str → Option Value} (hn : h.Ns L m) {news : List (Addr × Obj)} (F : Fr (below h L) L h' m) (N : News (below h L) L h' news) (hs : ∀ p ∈ others h L, p ∈ news) : KeepL L h h' where
  keep := fun b o hb e => by
    rcases Nat.lt_or_gt_of_ne hb with q | q
    · exact F.keep b o (by rw [below_get q]; exact e)
    · exact (N (b, o) (hs _ (mem_others.mpr ⟨q, e⟩))).1
  ns := fun m' hn' => by
    obtain ⟨o, es, ep, e, hd, hk, hf⟩ := hn
    obtain ⟨o', es', ep', e', hd', hk', hf'⟩ := hn'
    rw [e] at e'; cases e'; rw [hd] at hd'; cases hd'
    have : m' = m := funext fun x => (hf' x).symm.trans (hf x)
    subst this; exact F.ns
theorem KeepL.of_keeps {L : Addr} {h h' : Heap} (k : ∀ b o, h.get? b = some o → h'.get? b = some o) : KeepL L h h' := ⟨fun b o _ e => k b o e, fun _ hn => hn.keeps k⟩
theorem KeepL.alike {L : Addr} {h h' : Heap} (k : KeepL L h h') (hL : ∃ m, h.Ns L m) (b : Addr) (o : Obj) (e : h.get? b = some o) : ∃ o', h'.get? b = some o' ∧ Alike o o' := by
  by_cases hb : b = L
  · subst hb
    obtain ⟨m, hn⟩ := hL
    obtain ⟨o', es, ep, e', r⟩ := k.ns m hn
    refine ⟨o', e', .inr ⟨⟨m, ?_⟩, fun m' q => ?_⟩⟩
    · obtain ⟨o2, es2, ep2, e2, r2⟩ := hn; rw [e] at e2; cases e2; exact ⟨es2, ep2, r2⟩
    · obtain ⟨es3, ep3, r3⟩ := q
      obtain ⟨o4, es4, ep4, e4, r4⟩ := k.ns m' ⟨o, es3, ep3, e, r3⟩
      rw [e'] at e4; cases e4; exact ⟨es4, ep4, r4⟩
  · exact ⟨o, k.keep b o hb e, .refl o⟩
theorem Rel.hasNs {W : Cx} {env : Env} {vis : List (Nat × Str)} {loc : Loc} {mem : Mem} {s : Shared} (R : Rel W env vis loc mem s) : ∃ m, s.heap.Ns env.locals m := let ⟨m, h, _⟩ := R.e.ns; ⟨m, h⟩
theorem Rel.keepF {W : Cx} {env : Env} {vis : List (Nat × Str)} {loc : Loc} {mem : Mem} {s : Shared} (R : Rel W env vis loc mem s) {h' : Heap} (k : KeepL env.locals s.heap h') : KeepF s.heap h' := fun b o e hf => by
  obtain ⟨o', e', a⟩ := k.alike R.hasNs b o e
  rw [e', a.eq hf.notDict]
theorem Rel.keepM {W : Cx} {env : Env} {vis : List (Nat × Str)} {loc : Loc} {mem : Mem} {s s' : Shared} (R : Rel W env vis loc mem s) (k : KeepL env.locals s.heap s'.heap) (hg : s'.gens = s.gens := by rfl) (ho : s'.os = s.os := by rfl) : MRel W mem s' where
  stays := fun b x e => k.keep b x (by rintro rfl; rw [R.new _ (.inl rfl)] at e; cases e) (R.m.stays b x e)
  mems := fun b x e => by
    obtain ⟨r, n⟩ := R.m.mems b x e
    have hb : b ≠ env.locals := by rintro rfl; rw [R.sep _ (.inl rfl)] at e; cases e
    exact ⟨r.at (fun x e => k.keep _ _ hb e) (R.keepF k), n⟩
  gens := hg.trans R.m.gens
  os := ho.trans R.m.os
theorem Rel.keepS {W : Cx} {env : Env} {vis : List (Nat × Str)} {loc : Loc} {mem : Mem} {s : Shared} {h' : Heap} (R : Rel W env vis loc mem s) (k : KeepL env.locals s.heap h') : Step NoD mem s.heap mem h' where
  alive := fun b e => by
    cases q : s.heap.get? b with
    | none => rfl
    | some o => obtain ⟨o', e', _⟩ := k.alike R.hasNs b o q; rw [e] at e'; cases e'
  keep := fun b o e _ _ => k.alike R.hasNs b o e
  grow := fun _ a b => absurd a b
theorem Rel.allocM {W : Cx} {env : Env} {vis : List (Nat × Str)} {loc : Loc} {mem : Mem} {s s' : Shared} (R : Rel W env vis loc mem s) (k : KeepL env.locals s.heap s'.heap) {a : Addr} {o : AObj} (ha : s.heap.get? a = none)
    (r : KeepF s.heap s'.heap → ORel W s'.heap a o) (hg : s'.gens = s.gens := by rfl) (ho : s'.os = s.os := by rfl) : MRel W (mem.set a o) s' := by
  have M := R.keepM k hg ho
  refine ⟨M.stays, fun b x e => ?_, M.gens, M.os⟩
  unfold Mem.set at e
  split at e
  · rename_i hb; subst hb; cases e
    refine ⟨r (R.keepF k), ?_⟩
    cases q : W.base.get? b with
    | none => rfl
    | some y => rw [R.m.stays b y q] at ha; cases ha
  · exact M.mems b x e
theorem Rel.allocS {W : Cx} {env : Env} {vis : List (Nat × Str)} {loc : Loc} {mem : Mem} {s : Shared} {h' : Heap} (R : Rel W env vis loc mem s) (k : KeepL env.locals s.heap h') {a : Addr} {o : AObj} (ha : s.heap.get? a = none) : Step NoD mem s.heap (mem.set a o) h' := by
  have S := R.keepS k
  refine ⟨S.alive, S.keep, fun b hm h' => ?_⟩
  unfold Mem.set at h'
  split at h'
  · rename_i hb; subst hb; exact ha
  · exact absurd hm h'

end TD

namespace TD
open PySem PyProof.Rows

noncomputable def isLoc (sc : Scope) (x : Str) : Bool := match sc.names.lookup x with
  | some .local => true
  | some .cell => true
  | some .free => true
  | _ => false
noncomputable def isGlob (sc : Scope) (x : Str) : Bool := sc.names.lookup x == some .globalImplicit
noncomputable def okName (x : Str) : Bool := !(x == ("__debug__" : Str)) && !(x == ("__classdict__" : Str)) && !(x == ("" : Str))
noncomputable def gName (sc : Scope) (s : String) (x : Str) : Bool := x == Str.ofString s && isGlob sc x && okName x
noncomputable def Bop.op : Bop → Operator
  | .add => .Add
  | .sub => .Sub
  | .mul => .Mult
  | .fdiv => .FloorDiv
  | .mod => .Mod
noncomputable def Cop.op : Cop → CmpOp
  | .eq => .Eq
  | .ne => .NotEq
  | .lt => .Lt
  | .le => .LtE
  | .gt => .Gt
  | .ge => .GtE
  | .inn => .In
  | .notin => .NotIn
noncomputable def bopIs (op : Bop) (o : Operator) : Bool := o == op.op
noncomputable def copIs (op : Cop) (o : CmpOp) : Bool := o == op.op
theorem bopIs_eq {op : Bop} {o : Operator} (h : bopIs op o = true) : o = op.op := beq_iff_eq.mp h
theorem copIs_eq {op : Cop} {o : CmpOp} (h : copIs op o = true) : o = op.op := beq_iff_eq.mp h
noncomputable def B1.call : B1 → String
  | .len => "len" | .all => "all" | .sum => "sum" | .maxL => "max" | .minL => "min" | .list => "list" | .tuple => "tuple" | .sorted => "sorted" | .int => "int" | .lrange => "list" | .lrev => "list" | .lenset => "len" | .str => "str"
noncomputable def B1.inner : B1 → Option String
  | .lrange => some "range" | .lrev => some "reversed" | .lenset => some "set" | _ => none
noncomputable def Cls.name : Cls → String
  | .int => "int" | .bool => "bool" | .list => "list" | .tuple => "tuple" | .str => "str" | .ValueError => "ValueError" | .DealError => "DealError" | .BadTable => "BadTable" | .BadShares => "BadShares" | .BadHeir => "BadHeir" | .BadThing => "BadThing"
  | .BadRing => "BadRing" | .BadOrder => "BadOrder" | .Full => "Full" | .BadNote => "BadNote"
noncomputable def Cls.bi : Cls → String
  | .int => "int" | .bool => "bool" | .list => "list" | .tuple => "tuple" | .str => "str" | _ => ""
noncomputable def ItK.call : ItK → Option String
  | .plain => none | .range => some "range"

noncomputable def notCall (e : Expr) : Bool := !(e.ctorIdx == 16)
noncomputable def okAt (o : Expr) (ap p : Pos) : Bool := notCall o && ap.endLine == p.line

noncomputable def vOne {α : Type} (xs : List α) (k : α → Bool) : Bool := match xs with | [x] => k x | _ => false
noncomputable def vTwo {α : Type} (xs : List α) (k : α → α → Bool) : Bool := match xs with | [x, y] => k x y | _ => false
noncomputable def vIx (a b : Nat) (k : a = b → Bool) : Bool := if h : a = b then k h else false
theorem nb {p : Prop} (h : false = true) : p := Bool.noConfusion h
theorem vIx_inv {a b : Nat} {k : a = b → Bool} (h : vIx a b k = true) : ∃ e, k e = true := by
  unfold vIx at h
  by_cases q : a = b
  · rw [dif_pos q] at h; exact ⟨q, h⟩
  · rw [dif_neg q] at h; exact nb h
noncomputable def vName (e : Expr) (k : Str → Bool) : Bool := vIx e.ctorIdx 23 fun h => Expr.Name.elim (motive_1 := fun _ => Bool) e h fun x _ => k x
theorem vName_inv {e : Expr} {k : Str → Bool} (h : vName e k = true) : ∃ x p, e = .Name x p ∧ k x = true := by
  obtain ⟨hc, h⟩ := vIx_inv h
  exact Expr.Name.elim (motive_1 := fun e => ∀ hc : e.ctorIdx = 23, (Expr.Name.elim (motive_1 := fun _ => Bool) e hc fun x _ => k x) = true → ∃ x p, e = .Name x p ∧ k x = true) e hc (fun x p _ h => ⟨x, p, rfl, h⟩) hc h
noncomputable def vConst (e : Expr) (k : Const → Bool) : Bool := vIx e.ctorIdx 19 fun h => Expr.Constant.elim (motive_1 := fun _ => Bool) e h fun c _ _ => k c
theorem vConst_inv {e : Expr} {k : Const → Bool} (h : vConst e k = true) : ∃ c n p, e = .Constant c n p ∧ k c = true := by
  obtain ⟨hc, h⟩ := vIx_inv h
  exact Expr.Constant.elim (motive_1 := fun e => ∀ hc : e.ctorIdx = 19, (Expr.Constant.elim (motive_1 := fun _ => Bool) e hc fun c _ _ => k c) = true → ∃ c n p, e = .Constant c n p ∧ k c = true) e hc (fun c n p _ h => ⟨c, n, p, rfl, h⟩) hc h
noncomputable def vBin (e : Expr) (k : Expr → Operator → Expr → Bool) : Bool := vIx e.ctorIdx 2 fun h => Expr.BinOp.elim (motive_1 := fun _ => Bool) e h fun l o r _ => k l o r
theorem vBin_inv {e : Expr} {k : Expr → Operator → Expr → Bool} (h : vBin e k = true) : ∃ l o r p, e = .BinOp l o r p ∧ k l o r = true := by
  obtain ⟨hc, h⟩ := vIx_inv h
  exact Expr.BinOp.elim (motive_1 := fun e => ∀ hc : e.ctorIdx = 2, (Expr.BinOp.elim (motive_1 := fun _ => Bool) e hc fun l o r _ => k l o r) = true → ∃ l o r p, e = .BinOp l o r p ∧ k l o r = true) e hc (fun l o r p _ h => ⟨l, o, r, p, rfl, h⟩) hc h
noncomputable def vUn (e : Expr) (k : UnaryOp → Expr → Bool) : Bool := vIx e.ctorIdx 3 fun h => Expr.UnaryOp.elim (motive_1 := fun _ => Bool) e h fun o x _ => k o x
theorem vUn_inv {e : Expr} {k : UnaryOp → Expr → Bool} (h : vUn e k = true) : ∃ o x p, e = .UnaryOp o x p ∧ k o x = true := by
  obtain ⟨hc, h⟩ := vIx_inv h
  exact Expr.UnaryOp.elim (motive_1 := fun e => ∀ hc : e.ctorIdx = 3, (Expr.UnaryOp.elim (motive_1 := fun _ => Bool) e hc fun o x _ => k o x) = true → ∃ o x p, e = .UnaryOp o x p ∧ k o x = true) e hc (fun o x p _ h => ⟨o, x, p, rfl, h⟩) hc h
noncomputable def vBoolOp (e : Expr) (k : BoolOp → (List Expr) → Bool) : Bool := vIx e.ctorIdx 0 fun h => Expr.BoolOp.elim (motive_1 := fun _ => Bool) e h fun o x _ => k o x
theorem vBoolOp_inv {e : Expr} {k : BoolOp → (List Expr) → Bool} (h : vBoolOp e k = true) : ∃ o x p, e = .BoolOp o x p ∧ k o x = true := by
  obtain ⟨hc, h⟩ := vIx_inv h
  exact Expr.BoolOp.elim (motive_1 := fun e => ∀ hc : e.ctorIdx = 0, (Expr.BoolOp.elim (motive_1 := fun _ => Bool) e hc fun o x _ => k o x) = true → ∃ o x p, e = .BoolOp o x p ∧ k o x = true) e hc (fun o x p _ h => ⟨o, x, p, rfl, h⟩) hc h
noncomputable def vCmp (e : Expr) (k : Expr → (List CmpOp) → (List Expr) → Bool) : Bool := vIx e.ctorIdx 15 fun h => Expr.Compare.elim (motive_1 := fun _ => Bool) e h fun l o r _ => k l o r
theorem vCmp_inv {e : Expr} {k : Expr → (List CmpOp) → (List Expr) → Bool} (h : vCmp e k = true) : ∃ l o r p, e = .Compare l o r p ∧ k l o r = true := by
  obtain ⟨hc, h⟩ := vIx_inv h
  exact Expr.Compare.elim (motive_1 := fun e => ∀ hc : e.ctorIdx = 15, (Expr.Compare.elim (motive_1 := fun _ => Bool) e hc fun l o r _ => k l o r) = true → ∃ l o r p, e = .Compare l o r p ∧ k l o r = true) e hc (fun l o r p _ h => ⟨l, o, r, p, rfl, h⟩) hc h
noncomputable def vCall0 (e : Expr) (k : Expr → (List Expr) → (List Keyword) → Pos → Bool) : Bool := vIx e.ctorIdx 16 fun h => Expr.Call.elim (motive_1 := fun _ => Bool) e h fun f es ks p => k f es ks p
theorem vCall0_inv {e : Expr} {k : Expr → (List Expr) → (List Keyword) → Pos → Bool} (h : vCall0 e k = true) : ∃ f es ks p, e = .Call f es ks p ∧ k f es ks p = true := by
  obtain ⟨hc, h⟩ := vIx_inv h
  exact Expr.Call.elim (motive_1 := fun e => ∀ hc : e.ctorIdx = 16, (Expr.Call.elim (motive_1 := fun _ => Bool) e hc fun f es ks p => k f es ks p) = true → ∃ f es ks p, e = .Call f es ks p ∧ k f es ks p = true) e hc (fun f es ks p _ h => ⟨f, es, ks, p, rfl, h⟩) hc h
noncomputable def vAttr (e : Expr) (k : Expr → Str → Pos → Bool) : Bool := vIx e.ctorIdx 20 fun h => Expr.Attribute.elim (motive_1 := fun _ => Bool) e h fun o n p => k o n p
theorem vAttr_inv {e : Expr} {k : Expr → Str → Pos → Bool} (h : vAttr e k = true) : ∃ o n p, e = .Attribute o n p ∧ k o n p = true := by
  obtain ⟨hc, h⟩ := vIx_inv h
  exact Expr.Attribute.elim (motive_1 := fun e => ∀ hc : e.ctorIdx = 20, (Expr.Attribute.elim (motive_1 := fun _ => Bool) e hc fun o n p => k o n p) = true → ∃ o n p, e = .Attribute o n p ∧ k o n p = true) e hc (fun o n p _ h => ⟨o, n, p, rfl, h⟩) hc h
noncomputable def vSub (e : Expr) (k : Expr → Expr → Bool) : Bool := vIx e.ctorIdx 21 fun h => Expr.Subscript.elim (motive_1 := fun _ => Bool) e h fun a i _ => k a i
theorem vSub_inv {e : Expr} {k : Expr → Expr → Bool} (h : vSub e k = true) : ∃ a i p, e = .Subscript a i p ∧ k a i = true := by
  obtain ⟨hc, h⟩ := vIx_inv h
  exact Expr.Subscript.elim (motive_1 := fun e => ∀ hc : e.ctorIdx = 21, (Expr.Subscript.elim (motive_1 := fun _ => Bool) e hc fun a i _ => k a i) = true → ∃ a i p, e = .Subscript a i p ∧ k a i = true) e hc (fun a i p _ h => ⟨a, i, p, rfl, h⟩) hc h
noncomputable def vList (e : Expr) (k : (List Expr) → Bool) : Bool := vIx e.ctorIdx 24 fun h => Expr.List.elim (motive_1 := fun _ => Bool) e h fun a _ => k a
theorem vList_inv {e : Expr} {k : (List Expr) → Bool} (h : vList e k = true) : ∃ a p, e = .List a p ∧ k a = true := by
  obtain ⟨hc, h⟩ := vIx_inv h
  exact Expr.List.elim (motive_1 := fun e => ∀ hc : e.ctorIdx = 24, (Expr.List.elim (motive_1 := fun _ => Bool) e hc fun a _ => k a) = true → ∃ a p, e = .List a p ∧ k a = true) e hc (fun a p _ h => ⟨a, p, rfl, h⟩) hc h
noncomputable def vTup (e : Expr) (k : (List Expr) → Bool) : Bool := vIx e.ctorIdx 25 fun h => Expr.Tuple.elim (motive_1 := fun _ => Bool) e h fun a _ _ => k a
theorem vTup_inv {e : Expr} {k : (List Expr) → Bool} (h : vTup e k = true) : ∃ a n p, e = .Tuple a n p ∧ k a = true := by
  obtain ⟨hc, h⟩ := vIx_inv h
  exact Expr.Tuple.elim (motive_1 := fun e => ∀ hc : e.ctorIdx = 25, (Expr.Tuple.elim (motive_1 := fun _ => Bool) e hc fun a _ _ => k a) = true → ∃ a n p, e = .Tuple a n p ∧ k a = true) e hc (fun a n p _ h => ⟨a, n, p, rfl, h⟩) hc h
noncomputable def vLC (e : Expr) (k : Expr → (List Comprehension) → Scope → Bool) : Bool := vIx e.ctorIdx 8 fun h => Expr.ListComp.elim (motive_1 := fun _ => Bool) e h fun a gs sc _ => k a gs sc
theorem vLC_inv {e : Expr} {k : Expr → (List Comprehension) → Scope → Bool} (h : vLC e k = true) : ∃ a gs sc p, e = .ListComp a gs sc p ∧ k a gs sc = true := by
  obtain ⟨hc, h⟩ := vIx_inv h
  exact Expr.ListComp.elim (motive_1 := fun e => ∀ hc : e.ctorIdx = 8, (Expr.ListComp.elim (motive_1 := fun _ => Bool) e hc fun a gs sc _ => k a gs sc) = true → ∃ a gs sc p, e = .ListComp a gs sc p ∧ k a gs sc = true) e hc (fun a gs sc p _ h => ⟨a, gs, sc, p, rfl, h⟩) hc h
noncomputable def vJS (e : Expr) (k : (List Expr) → Bool) : Bool := vIx e.ctorIdx 18 fun h => Expr.JoinedStr.elim (motive_1 := fun _ => Bool) e h fun a _ => k a
theorem vJS_inv {e : Expr} {k : (List Expr) → Bool} (h : vJS e k = true) : ∃ a p, e = .JoinedStr a p ∧ k a = true := by
  obtain ⟨hc, h⟩ := vIx_inv h
  exact Expr.JoinedStr.elim (motive_1 := fun e => ∀ hc : e.ctorIdx = 18, (Expr.JoinedStr.elim (motive_1 := fun _ => Bool) e hc fun a _ => k a) = true → ∃ a p, e = .JoinedStr a p ∧ k a = true) e hc (fun a p _ h => ⟨a, p, rfl, h⟩) hc h
theorem vJS_ix {e : Expr} {k : (List Expr) → Bool} (h : vJS e k = true) : e.ctorIdx = 18 := (vIx_inv h).1
noncomputable def vFV (e : Expr) (k : Expr → Int → (Option Expr) → Bool) : Bool := vIx e.ctorIdx 17 fun h => Expr.FormattedValue.elim (motive_1 := fun _ => Bool) e h fun a c s _ => k a c s
theorem vFV_inv {e : Expr} {k : Expr → Int → (Option Expr) → Bool} (h : vFV e k = true) : ∃ a c s p, e = .FormattedValue a c s p ∧ k a c s = true := by
  obtain ⟨hc, h⟩ := vIx_inv h
  exact Expr.FormattedValue.elim (motive_1 := fun e => ∀ hc : e.ctorIdx = 17, (Expr.FormattedValue.elim (motive_1 := fun _ => Bool) e hc fun a c s _ => k a c s) = true → ∃ a c s p, e = .FormattedValue a c s p ∧ k a c s = true) e hc (fun a c s p _ h => ⟨a, c, s, p, rfl, h⟩) hc h
noncomputable def vDict (e : Expr) (k : (List (Option Expr)) → (List Expr) → Bool) : Bool := vIx e.ctorIdx 6 fun h => Expr.Dict.elim (motive_1 := fun _ => Bool) e h fun a b _ => k a b
theorem vDict_inv {e : Expr} {k : (List (Option Expr)) → (List Expr) → Bool} (h : vDict e k = true) : ∃ a b p, e = .Dict a b p ∧ k a b = true := by
  obtain ⟨hc, h⟩ := vIx_inv h
  exact Expr.Dict.elim (motive_1 := fun e => ∀ hc : e.ctorIdx = 6, (Expr.Dict.elim (motive_1 := fun _ => Bool) e hc fun a b _ => k a b) = true → ∃ a b p, e = .Dict a b p ∧ k a b = true) e hc (fun a b p _ h => ⟨a, b, p, rfl, h⟩) hc h
noncomputable def vDict0 (e : Expr) : Bool := vDict e fun a b => a.isEmpty && b.isEmpty
noncomputable def vSome {α : Type} (o : Option α) (k : α → Bool) : Bool := match o with | some x => k x | none => false
noncomputable def slIs (up : Bool) (l u : Option Expr) (k : Expr → Bool) : Bool := match up with | true => u.isNone && vSome l k | false => l.isNone && vSome u k
noncomputable def vSl (up : Bool) (e : Expr) (k : Expr → Bool) : Bool := vIx e.ctorIdx 26 fun h => Expr.Slice.elim (motive_1 := fun _ => Bool) e h fun l u st _ => st.isNone && slIs up l u k
noncomputable def vCall (e : Expr) (k : Expr → List Expr → Pos → Bool) : Bool := vCall0 e fun f es ks p => ks.isEmpty && k f es p
noncomputable def vCallN (e : Expr) (k : Str → List Expr → Bool) : Bool := vCall e fun f es _ => vName f fun x => k x es
noncomputable def vMeth (e : Expr) (n : String) (k : Expr → List Expr → Bool) : Bool := vCall e fun f es p => vAttr f fun o n' ap => okAt o ap p && (n' == Str.ofString n && k o es)
theorem vSome_inv {α : Type} {o : Option α} {k : α → Bool} (h : vSome o k = true) : ∃ x, o = some x ∧ k x = true := by
  cases o with
  | none => exact Bool.noConfusion (show false = true from h)
  | some x => exact ⟨x, rfl, h⟩
theorem no {α : Type} {x : α} {p : Prop} (h : none = some x) : p := nomatch h
theorem vOne_inv {α : Type} {xs : List α} {k : α → Bool} (h : vOne xs k = true) : ∃ x, xs = [x] ∧ k x = true := by
  cases xs with
  | nil => exact nb h
  | cons x r => cases r with
    | nil => exact ⟨x, rfl, h⟩
    | cons _ _ => exact nb h
theorem vTwo_inv {α : Type} {xs : List α} {k : α → α → Bool} (h : vTwo xs k = true) : ∃ x y, xs = [x, y] ∧ k x y = true := by
  cases xs with
  | nil => exact nb h
  | cons x r => cases r with
    | nil => exact nb h
    | cons y r => cases r with
      | nil => exact ⟨x, y, rfl, h⟩
      | cons _ _ => exact nb h
theorem vCall_inv {e : Expr} {k : Expr → List Expr → Pos → Bool} (h : vCall e k = true) : ∃ f es p, e = .Call f es [] p ∧ k f es p = true := by
  obtain ⟨f, es, ks, p, rfl, h⟩ := vCall0_inv h
  cases ks with
  | nil => exact ⟨f, es, p, rfl, h⟩
  | cons _ _ => exact nb h
theorem vName_ix {e : Expr} {k : Str → Bool} (h : vName e k = true) : e.ctorIdx = 23 := (vIx_inv h).1
theorem vConst_ix {e : Expr} {k : Const → Bool} (h : vConst e k = true) : e.ctorIdx = 19 := (vIx_inv h).1
theorem vBin_ix {e : Expr} {k : Expr → Operator → Expr → Bool} (h : vBin e k = true) : e.ctorIdx = 2 := (vIx_inv h).1
theorem vUn_ix {e : Expr} {k : UnaryOp → Expr → Bool} (h : vUn e k = true) : e.ctorIdx = 3 := (vIx_inv h).1
theorem vBoolOp_ix {e : Expr} {k : BoolOp → List Expr → Bool} (h : vBoolOp e k = true) : e.ctorIdx = 0 := (vIx_inv h).1
theorem vCmp_ix {e : Expr} {k : Expr → List CmpOp → List Expr → Bool} (h : vCmp e k = true) : e.ctorIdx = 15 := (vIx_inv h).1
theorem vCall_ix {e : Expr} {k : Expr → List Expr → Pos → Bool} (h : vCall e k = true) : e.ctorIdx = 16 := (vIx_inv h).1
theorem vSub_ix {e : Expr} {k : Expr → Expr → Bool} (h : vSub e k = true) : e.ctorIdx = 21 := (vIx_inv h).1
theorem vList_ix {e : Expr} {k : (List Expr) → Bool} (h : vList e k = true) : e.ctorIdx = 24 := (vIx_inv h).1
theorem vDict_ix {e : Expr} {k : (List (Option Expr)) → (List Expr) → Bool} (h : vDict e k = true) : e.ctorIdx = 6 := (vIx_inv h).1
theorem vTup_ix {e : Expr} {k : (List Expr) → Bool} (h : vTup e k = true) : e.ctorIdx = 25 := (vIx_inv h).1
theorem vLC_ix {e : Expr} {k : Expr → List Comprehension → Scope → Bool} (h : vLC e k = true) : e.ctorIdx = 8 := (vIx_inv h).1
theorem vCallN_inv {e : Expr} {k : Str → List Expr → Bool} (h : vCallN e k = true) : ∃ x px es p, e = .Call (.Name x px) es [] p ∧ k x es = true := by
  obtain ⟨f, es, p, rfl, h⟩ := vCall_inv h
  obtain ⟨x, px, rfl, h⟩ := vName_inv h
  exact ⟨x, px, es, p, rfl, h⟩
theorem and2 {a b : Bool} (h : (a && b) = true) : a = true ∧ b = true := Bool.and_eq_true_iff.mp h
theorem vMeth_inv {e : Expr} {n : String} {k : Expr → List Expr → Bool} (h : vMeth e n k = true) : ∃ o ap es p, e = .Call (.Attribute o (Str.ofString n) ap) es [] p ∧ okAt o ap p = true ∧ k o es = true := by
  obtain ⟨f, es, p, rfl, h⟩ := vCall_inv h
  obtain ⟨o, n', ap, rfl, h⟩ := vAttr_inv h
  obtain ⟨h1, h⟩ := and2 h
  obtain ⟨h2, h3⟩ := and2 h
  obtain rfl := beq_iff_eq.mp h2
  exact ⟨o, ap, es, p, rfl, h1, h3⟩
theorem isNone_inv {α : Type} {o : Option α} (h : o.isNone = true) : o = none := by
  cases o with
  | none => rfl
  | some _ => exact nb h
noncomputable def partE (up : Bool) (e : Expr) : Option Expr := match up with | true => some e | false => none
theorem vSl_inv {up : Bool} {e : Expr} {k : Expr → Bool} (h : vSl up e k = true) : ∃ x p, e = .Slice (partE up x) (partE (!up) x) none p ∧ k x = true := by
  obtain ⟨hc, h⟩ := vIx_inv h
  refine Expr.Slice.elim (motive_1 := fun e => ∀ hc : e.ctorIdx = 26, (Expr.Slice.elim (motive_1 := fun _ => Bool) e hc fun l u st _ => st.isNone && slIs up l u k) = true → ∃ x p, e = .Slice (partE up x) (partE (!up) x) none p ∧ k x = true) e hc (fun l u st p _ h => ?_) hc h
  obtain ⟨h1, h⟩ := and2 h
  obtain rfl := isNone_inv h1
  cases up with
  | true =>
    obtain ⟨h2, h⟩ := and2 h
    obtain rfl := isNone_inv h2
    obtain ⟨x, rfl, h⟩ := vSome_inv h
    exact ⟨x, p, rfl, h⟩
  | false =>
    obtain ⟨h2, h⟩ := and2 h
    obtain rfl := isNone_inv h2
    obtain ⟨x, rfl, h⟩ := vSome_inv h
    exact ⟨x, p, rfl, h⟩
noncomputable def mmName : Bool → String
  | true => "max"
  | false => "min"
noncomputable def xName (e : Expr) : Option Str := if h : e.ctorIdx = 23 then Expr.Name.elim (motive_1 := fun _ => Option Str) e h fun x _ => some x else none
noncomputable def xTup (e : Expr) : List Expr := if h : e.ctorIdx = 25 then Expr.Tuple.elim (motive_1 := fun _ => List Expr) e h fun xs _ _ => xs else []
noncomputable def chkTwo (i j : Nat) (x y : Option Str) : Option (List (Nat × Str)) := match x, y with
  | some x, some y => if x == y || i == j then none else some [(i, x), (j, y)]
  | _, _ => none
noncomputable def chkTs (i j : Nat) : List Expr → Option (List (Nat × Str))
  | [a, b] => chkTwo i j (xName a) (xName b)
  | _ => none
noncomputable def chkT (t : Tg) (e : Expr) : Option (List (Nat × Str)) := match t with
  | .one i => (xName e).map fun x => [(i, x)]
  | .two i j => chkTs i j (xTup e)
theorem xName_inv {e : Expr} {x : Str} (h : xName e = some x) : ∃ p, e = .Name x p := by
  unfold xName at h
  by_cases q : e.ctorIdx = 23
  · rw [dif_pos q] at h
    exact Expr.Name.elim (motive_1 := fun e => ∀ q : e.ctorIdx = 23, (Expr.Name.elim (motive_1 := fun _ => Option Str) e q fun x _ => some x) = some x → ∃ p, e = .Name x p) e q (fun y p _ h => ⟨p, by cases h; rfl⟩) q h
  · rw [dif_neg q] at h; exact no h
theorem xTup_inv {e : Expr} (h : xTup e ≠ []) : ∃ n p, e = .Tuple (xTup e) n p := by
  by_cases q : e.ctorIdx = 25
  · exact Expr.Tuple.elim (motive_1 := fun e => ∃ n p, e = .Tuple (xTup e) n p) e q fun xs n p => ⟨n, p, rfl⟩
  · exact absurd (show xTup e = [] by unfold xTup; rw [dif_neg q]) h
theorem chkT1_inv {i : Nat} {e : Expr} {new : List (Nat × Str)} (h : chkT (.one i) e = some new) : ∃ x p, e = .Name x p ∧ new = [(i, x)] := by
  obtain ⟨x, hx, rfl⟩ := Option.map_eq_some_iff.mp h
  obtain ⟨p, rfl⟩ := xName_inv hx
  exact ⟨x, p, rfl, rfl⟩
theorem chkT2_inv {i j : Nat} {e : Expr} {new : List (Nat × Str)} (h : chkT (.two i j) e = some new) : ∃ x px y py n p, e = .Tuple [.Name x px, .Name y py] n p ∧ x ≠ y ∧ i ≠ j ∧ new = [(i, x), (j, y)] := by
  have h : chkTs i j (xTup e) = some new := h
  cases hx : xTup e with
  | nil => rw [hx] at h; exact no h
  | cons a r => cases r with
    | nil => rw [hx] at h; exact no h
    | cons b r => cases r with
      | cons _ _ => rw [hx] at h; exact no h
      | nil =>
        rw [hx] at h
        have h : chkTwo i j (xName a) (xName b) = some new := h
        obtain ⟨n, p, he⟩ := xTup_inv (e := e) (by rw [hx]; exact List.cons_ne_nil _ _)
        rw [hx] at he
        cases ha : xName a with
        | none => rw [ha] at h; exact no h
        | some x => cases hb : xName b with
          | none => rw [ha, hb] at h; exact no h
          | some y =>
            rw [ha, hb] at h
            obtain ⟨px, ea⟩ := xName_inv ha
            obtain ⟨py, eb⟩ := xName_inv hb
            have h6 : (if (x == y || i == j) = true then none else some [(i, x), (j, y)]) = some new := h
            by_cases q1 : x = y
            · rw [if_pos (by rw [beq_iff_eq.mpr q1]; rfl)] at h6; exact no h6
            · by_cases q2 : i = j
              · rw [if_pos (by rw [beq_iff_eq.mpr q2, Bool.or_true])] at h6; exact no h6
              · rw [if_neg (by rw [beq_false_of_ne q1, beq_false_of_ne q2]; exact Bool.false_ne_true)] at h6
                exact ⟨x, px, y, py, n, p, by rw [he, ea, eb], q1, q2, (Option.some.inj h6).symm⟩
noncomputable def kindIs (sc : Scope) (x : Str) : Bool := match sc.names.lookup x with
  | some .cell => true
  | some .free => true
  | _ => false
noncomputable def chkScope (sc csc : Scope) (new : List (Nat × Str)) (vis : List (Nat × Str)) : Bool :=
  csc.kind == .function && !csc.isGenerator && !csc.isCoroutine &&
  csc.names.all (fun p => match p.2 with
    | .local => csc.names.lookup p.1 == some .local && (p.1 == (".0" : Str) || new.any fun q => q.2 == p.1)
    | .free => kindIs sc p.1
    | .cell => false
    | _ => true) &&
  new.all (fun q => csc.names.lookup q.2 == some .local) && vis.all (fun q => !(q.2 == (".0" : Str))) &&
  decide (csc.names.map (·.1)).Nodup && vis.all (fun p => new.all fun q => !(p.1 == q.1))
noncomputable def newVis (new vis : List (Nat × Str)) : List (Nat × Str) := new ++ vis.filter fun p => !(new.any fun q => q.2 == p.2)
noncomputable def notSet (e : Expr) : Bool := !(e.ctorIdx == 7)

noncomputable def notSlice (e : Expr) : Bool := !(e.ctorIdx == 26)
noncomputable def methNames : List String := ["come", "go", "join", "shares", "table"]
noncomputable def methIs (FT : Nat → Option Fn) (f : Nat) (n : Str) : Bool := vSome (FT f) fun fn => fn.own && (methNames.contains fn.name && n == Str.ofString fn.name)
noncomputable def initIs (FT : Nat → Option Fn) (sc : Scope) (f : Nat) (x : Str) : Bool := vSome (FT f) fun fn => fn.own && (fn.name == "__init__" && gName sc "Estate" x)
noncomputable def vSl2 (e : Expr) (k : Expr → Expr → Bool) : Bool := vIx e.ctorIdx 26 fun h => Expr.Slice.elim (motive_1 := fun _ => Bool) e h fun l u st _ => st.isNone && vSome l fun l => vSome u fun u => k l u
theorem vSl2_inv {e : Expr} {k : Expr → Expr → Bool} (h : vSl2 e k = true) : ∃ x y p, e = .Slice (some x) (some y) none p ∧ k x y = true := by
  obtain ⟨hc, h⟩ := vIx_inv h
  refine Expr.Slice.elim (motive_1 := fun e => ∀ hc : e.ctorIdx = 26, (Expr.Slice.elim (motive_1 := fun _ => Bool) e hc fun l u st _ => st.isNone && vSome l fun l => vSome u fun u => k l u) = true → ∃ x y p, e = .Slice (some x) (some y) none p ∧ k x y = true) e hc (fun l u st p _ h => ?_) hc h
  obtain ⟨h1, h⟩ := and2 h
  obtain rfl := isNone_inv h1
  obtain ⟨x, rfl, h⟩ := vSome_inv h
  obtain ⟨y, rfl, h⟩ := vSome_inv h
  exact ⟨x, y, p, rfl, h⟩
noncomputable def fnIs (FT : Nat → Option Fn) (sc : Scope) (f : Nat) (x : Str) : Bool := match FT f with
  | some fn => !fn.own && gName sc fn.name x
  | none => false
noncomputable def clsIs (sc : Scope) (c : Cls) (e : Expr) : Bool := vName e fun y => gName sc c.bi y
noncomputable def isAnd : Bool → BoolOp
  | true => .And
  | false => .Or
noncomputable def litC : Option Bool → Const
  | none => .none
  | some b => .bool b
noncomputable def isIs : Bool → CmpOp
  | true => .Is
  | false => .IsNot
noncomputable def vIter (sc : Scope) (f : Option String) (e : Expr) (k : Expr → Bool) : Bool := match f with
  | none => k e
  | some f => vCallN e fun x es => gName sc f x && vOne es k
noncomputable def IterIs (sc : Scope) (f : Option String) (e e1 : Expr) : Prop := match f with | none => e = e1 | some f => ∃ x px p, e = .Call (.Name x px) [e1] [] p ∧ gName sc f x = true
mutual
noncomputable def chkE (FT : Nat → Option Fn) (ids : List Nat) (vis : List (Nat × Str)) (sc : Scope) : Ex → Expr → Bool
  | .nm i, e => vName e fun x => vis.lookup i == some x && (isLoc sc x && okName x)
  | .int i, e => vConst e fun c => c == .int i
  | .bool b, e => vConst e fun c => c == .bool b
  | .none, e => vConst e fun c => c == .none
  | .glob x, e => vName e (gName sc x)
  | .bin op a b, e => vBin e fun l o r => bopIs op o && (chkE FT ids vis sc a l && chkE FT ids vis sc b r)
  | .not a, e => vUn e fun o x => o == .Not && chkE FT ids vis sc a x
  | .neg a, e => vUn e fun o x => o == .USub && chkE FT ids vis sc a x
  | .boolop k es, e => vBoolOp e fun o vs => o == isAnd k && (!vs.isEmpty && chkL FT ids vis sc es vs)
  | .cmp op a b, e => vCmp e fun l os rs => vOne os fun o => vOne rs fun r => copIs op o && (notSet r && (chkE FT ids vis sc a l && chkE FT ids vis sc b r))
  | .cmp2 o1 o2 a b c, e => vCmp e fun l os rs => vTwo os fun p1 p2 => vTwo rs fun r1 r2 => copIs o1 p1 && (copIs o2 p2 && (notSet r1 && (notSet r2 && (chkE FT ids vis sc a l && (chkE FT ids vis sc b r1 && chkE FT ids vis sc c r2)))))
  | .isc p a c, e => vCmp e fun l os rs => vOne os fun o => vOne rs fun r => o == isIs p && (chkE FT ids vis sc a l && vConst r fun k => k == litC c)
  | .call f args, e => vCallN e fun x es => ids.contains f && (fnIs FT sc f x && (!es.isEmpty && chkL FT ids vis sc args es))
  | .b1 b a, e => vCallN e fun x es => gName sc b.call x && vOne es fun e1 => vIter sc b.inner e1 fun e2 => chkE FT ids vis sc a e2
  | .isinst a c, e => vCallN e fun x es => gName sc "isinstance" x && vTwo es fun e1 e2 => chkE FT ids vis sc a e1 && clsIs sc c e2
  | .append o a, e => vMeth e "append" fun e1 es => vOne es fun e2 => chkE FT ids vis sc o e1 && chkE FT ids vis sc a e2
  | .extend o a, e => vMeth e "extend" fun e1 es => vOne es fun e2 => chkE FT ids vis sc o e1 && chkE FT ids vis sc a e2
  | .pop o i, e => vMeth e "pop" fun e1 es => chkE FT ids vis sc o e1 && (chkL FT ids vis sc i es && decide (es.length ≤ 1))
  | .clear o, e => vMeth e "clear" fun e1 es => es.isEmpty && chkE FT ids vis sc o e1
  | .index o a, e => vMeth e "index" fun e1 es => vOne es fun e2 => chkE FT ids vis sc o e1 && chkE FT ids vis sc a e2
  | .sub a i, e => vSub e fun e1 e2 => chkE FT ids vis sc a e1 && chkE FT ids vis sc i e2
  | .slice up a i, e => vSub e fun e1 e2 => vSl up e2 fun e3 => chkE FT ids vis sc a e1 && chkE FT ids vis sc i e3
  | .mm mx a b, e => vCallN e fun x es => gName sc (mmName mx) x && vTwo es fun e1 e2 => chkE FT ids vis sc a e1 && chkE FT ids vis sc b e2
  | .lst es, e => vList e fun xs => chkL FT ids vis sc es xs
  | .tup es, e => vTup e fun xs => chkL FT ids vis sc es xs
  | .comp elt t k src cond, e => vLC e fun elt' gs csc => vOne gs fun g => vSome (chkT t g.target) fun new =>
      decide (g.is_async = 0) && (chkScope sc csc new vis && (notSet g.iter && (vIter sc k.call g.iter (fun e1 => chkE FT ids vis sc src e1) &&
          (chkE FT ids (newVis new vis) csc elt elt' && chkL FT ids (newVis new vis) csc cond g.ifs))))
  | .str x, e => vConst e fun c => c == .str (Str.ofString x)
  | .dict0, e => vDict0 e
  | .fstr a c, e => vJS e fun xs => vTwo xs fun e1 e2 => vFV e1 (fun v cv sp => decide (cv = -1) && (sp.isNone && chkE FT ids vis sc a v)) && vConst e2 fun k => k == .str (Str.ofString c)
  | .join sep a, e => vMeth e "join" fun o es => (vConst o fun k => k == .str (Str.ofString sep)) && vOne es fun e2 => chkE FT ids vis sc a e2
  | .attr o f, e => vAttr e fun e1 n _ => decide (f < 2) && (n == Str.ofString (fldName f) && (notCall e1 && chkE FT ids vis sc o e1))
  | .meth o f args, e => vCall e fun fe es p => vAttr fe fun e1 n ap => okAt e1 ap p && (ids.contains f && (methIs FT f n && (decide (es.length < 29) && (chkE FT ids vis sc o e1 && chkL FT ids vis sc args es))))
  | .new f args, e => vCallN e fun x es => ids.contains f && (initIs FT sc f x && (!es.isEmpty && chkL FT ids vis sc args es))
  | .cut a i j, e => vSub e fun e1 e2 => vSl2 e2 fun l u => (vConst l fun c => c == .int i) && ((vConst u fun c => c == .int j) && chkE FT ids vis sc a e1)
noncomputable def chkL (FT : Nat → Option Fn) (ids : List Nat) (vis : List (Nat × Str)) (sc : Scope) : Exs → List Expr → Bool
  | .nil, es => es.isEmpty
  | .cons e es, xs => match xs with | x :: r => chkE FT ids vis sc e x && chkL FT ids vis sc es r | [] => false
end

end TD

namespace TD
open PySem PyProof.Rows

noncomputable def PM (W : Cx) (mem : Mem) (s : Shared) (Q : Val → Mem → Prop) (y : Value) (s' : Shared) : Prop :=
  ∃ v mem', VRel W s'.heap v y ∧ MRel W mem' s' ∧ Step NoD mem s.heap mem' s'.heap ∧ Q v mem'

theorem MRel.toks {W : Cx} {mem : Mem} {s : Shared} (M : MRel W mem s) (t : Nat) : MRel W mem { s with toks := t } := ⟨M.stays, M.mems, M.gens, M.os⟩
theorem PM.val {W : Cx} {mem : Mem} {s : Shared} {Q : Val → Mem → Prop} {v : Val} {y : Value} (M : MRel W mem s) (hv : VRel W s.heap v y) (hq : Q v mem) (t : Nat) : PM W mem s Q y { s with toks := t } :=
  ⟨v, mem, hv, M.toks t, .refl, hq⟩
theorem PM.here {W : Cx} {mem : Mem} {s : Shared} {Q : Val → Mem → Prop} {v : Val} {y : Value} (M : MRel W mem s) (hv : VRel W s.heap v y) (hq : Q v mem) : PM W mem s Q y s := PM.val M hv hq s.toks
theorem PM.trans {W : Cx} {mem mem' : Mem} {s s' s'' : Shared} {Q : Val → Mem → Prop} {y : Value} (x : Step NoD mem s.heap mem' s'.heap) (p : PM W mem' s' Q y s'') : PM W mem s Q y s'' := by
  obtain ⟨v, m2, a, b, c, d⟩ := p; exact ⟨v, m2, a, b, x.trans c, d⟩

theorem VRel.int {W : Cx} {h : Heap} {i : Int} {v : Value} (r : VRel W h (.int i) v) : ∃ t, v = .int i t := r
theorem VRel.str {W : Cx} {h : Heap} {i : Str} {v : Value} (r : VRel W h (.str i) v) : ∃ t, v = .str i t := r
theorem VRel.mkStr {W : Cx} {h : Heap} {i : Str} {t : Tok} : VRel W h (.str i) (.str i t) := Exists.intro t rfl
theorem VRel.bool {W : Cx} {h : Heap} {i : Bool} {v : Value} (r : VRel W h (.bool i) v) : v = .bool i := r
theorem VRel.none' {W : Cx} {h : Heap} {v : Value} (r : VRel W h .none v) : v = .none := r
theorem VRel.ref {W : Cx} {h : Heap} {a : Addr} {v : Value} (r : VRel W h (.ref a) v) : v = .ref a := r
theorem VRel.mkInt {W : Cx} {h : Heap} {i : Int} {t : Tok} : VRel W h (.int i) (.int i t) := Exists.intro t rfl
theorem VRel.mkBool {W : Cx} {h : Heap} {i : Bool} : VRel W h (.bool i) (.bool i) := rfl
theorem VRel.mkNone {W : Cx} {h : Heap} : VRel W h .none .none := rfl
theorem VRel.mkRef {W : Cx} {h : Heap} {a : Addr} : VRel W h (.ref a) (.ref a) := rfl

theorem VRels.inv {W : Cx} {h : Heap} {v : Val} {vs : List Val} {xs : List Value} (r : VRels W h (v :: vs) xs) : ∃ y ys, xs = y :: ys ∧ VRel W h v y ∧ VRels W h vs ys := r
theorem VRels.inv0 {W : Cx} {h : Heap} {xs : List Value} (r : VRels W h [] xs) : xs = [] := r
theorem VRels.nil {W : Cx} {h : Heap} : VRels W h [] [] := rfl
theorem VRels.cons {W : Cx} {h : Heap} {v : Val} {vs : List Val} {y : Value} {ys : List Value} (a : VRel W h v y) (r : VRels W h vs ys) : VRels W h (v :: vs) (y :: ys) := Exists.intro y ⟨ys, rfl, a, r⟩
theorem VRels.length {W : Cx} {h : Heap} {vs : List Val} : ∀ {xs : List Value}, VRels W h vs xs → xs.length = vs.length := by
  induction vs with
  | nil => intro xs e; cases e.inv0; rfl
  | cons v vs ih => intro xs e; obtain ⟨y, ys, rfl, _, r⟩ := e.inv; exact congrArg Nat.succ (ih r)
theorem VRels.append {W : Cx} {h : Heap} {vs ws : List Val} {ys : List Value} (f : VRels W h ws ys) : ∀ {xs : List Value}, VRels W h vs xs → VRels W h (vs ++ ws) (xs ++ ys) := by
  induction vs with
  | nil => intro xs e; cases e.inv0; exact f
  | cons v vs ih => intro xs e; obtain ⟨y, ys, rfl, a, r⟩ := e.inv; exact .cons a (ih r)
theorem VRels.get {W : Cx} {h : Heap} {vs : List Val} : ∀ {xs : List Value} {i : Nat} {v : Val}, VRels W h vs xs → vs[i]? = some v → ∃ y, xs[i]? = some y ∧ VRel W h v y := by
  induction vs with
  | nil => intro xs i v _ e; cases e
  | cons w ws ih =>
    intro xs i v r e
    obtain ⟨y, ys, rfl, a, r⟩ := r.inv
    cases i with
    | zero => cases e; exact ⟨y, rfl, a⟩
    | succ i => obtain ⟨z, hz, q⟩ := ih (i := i) r e; exact ⟨z, hz, q⟩

theorem lst_ref {mem : Mem} {a : Addr} {xs : List Val} (e : lst mem (.ref a) = some xs) : mem a = some (.list xs) := by
  have e : itemsOf (mem a) = some xs := e
  cases q : mem a with
  | none => rw [q] at e; exact no e
  | some o =>
    rw [q] at e
    cases o with
    | list ys => cases e; rfl
    | dict0 => exact no e
    | inst _ => exact no e
    | flds _ => exact no e
theorem lst_rel {W : Cx} {mem : Mem} {s : Shared} (M : MRel W mem s) {v : Val} {y : Value} {xs : List Val} (hv : VRel W s.heap v y) (e : lst mem v = some xs) :
    ∃ a vs, y = .ref a ∧ s.heap.IsList a (List.toArray vs) ∧ VRels W s.heap xs vs := by
  cases v <;> first | exact no e | skip
  · rename_i a
    obtain ⟨⟨vs, ⟨n, hn⟩, r⟩, _⟩ := M.mems a _ (lst_ref e)
    exact ⟨a, vs, hv.ref, ⟨_, hn, rfl, n, rfl⟩, r⟩
  · cases e
    obtain ⟨a, vs, rfl, ⟨o, ho, q⟩, r⟩ := hv
    exact ⟨a, vs, rfl, ⟨o, M.stays a o ho, q⟩, r⟩
theorem IsTup.tuple {h : Heap} {a : Addr} {xs : Array Value} (x : IsTup h a xs) : h.IsTuple a xs := x

variable {W : Cx} {A : Around} {E : Value → Shared → Prop} {env : Env} {vis : List (Nat × Str)} {loc : Loc} {mem : Mem} {s : Shared} {Q : Val → Mem → Prop}

theorem KeepL.push {L : Addr} {h : Heap} (o : Obj) : KeepL L h (h.push o) := .of_keeps fun b x e => Heap.get?_push_of_some _ e

theorem freshL_sound (R : Rel W env vis loc mem s) {xs : List Val} {vs : List Value} {s' : Shared} {a : Addr} {n : Nat} (k : KeepL env.locals s.heap s'.heap) (ha : s.heap.get? a = none)
    (hl : s'.heap.get? a = some { cls := .type "list", data := .seq vs.toArray n }) (hr : VRels W s.heap xs vs) (h : freshL mem xs Q) (hg : s'.gens = s.gens := by rfl) (ho : s'.os = s.os := by rfl) : PM W mem s Q (.ref a) s' :=
  ⟨.ref a, mem.set a (.list xs), .mkRef, R.allocM k ha (fun kf => ⟨vs, ⟨n, hl⟩, hr.keep kf⟩) hg ho, R.allocS k ha, h.2 a (R.m.mems.fresh ha)⟩
theorem size_none (h : Heap) : h.get? h.objs.size = none := by
  cases e : h.get? h.objs.size with
  | none => rfl
  | some o => exact absurd (Heap.lt_size e) (Nat.lt_irrefl _)
theorem lid_line {n : Nat} (h : n < lid) : n ≤ sizeLine := by unfold lid at h; unfold sizeLine; omega

theorem newList_sound (R : Rel W env vis loc mem s) {xs : List Val} {vs : List Value} (hr : VRels W s.heap xs vs) (h : freshL mem xs Q) : wpAny (model W.prog W.w) A (newList vs) (PM W mem s Q) E s := by
  have hsz : vs.length ≤ sizeLine := lid_line (hr.length ▸ h.1)
  refine wpAny_newObj_type ?_ (by show vs.toArray.size ≤ sizeLine; rw [List.size_toArray]; exact hsz)
  exact freshL_sound R (.push _) (size_none _) (Heap.get?_push_size _ rfl) hr h

theorem isTup_new {h : Heap} {vs : List Value} {n : Nat} : IsTup (h.push { cls := .type "tuple", data := .seq vs.toArray n }) h.objs.size vs.toArray := ⟨_, Heap.get?_push_size _ rfl, rfl, n, rfl⟩
theorem newTuple_sound (R : Rel W env vis loc mem s) {xs : List Val} {vs : List Value} (hr : VRels W s.heap xs vs) (hl : xs.length < lid) (h : Q (.tup xs) mem) : wpAny (model W.prog W.w) A (newTuple vs) (PM W mem s Q) E s := by
  have hsz : vs.length ≤ sizeLine := lid_line (hr.length ▸ hl)
  refine wpAny_newObj_type ?_ (by show vs.toArray.size ≤ sizeLine; rw [List.size_toArray]; exact hsz)
  have k : KeepL env.locals s.heap (s.heap.push { cls := .type "tuple", data := .seq vs.toArray }) := .push _
  refine ⟨.tup xs, mem, ?_, R.keepM k, R.keepS k, h⟩
  exact Exists.intro _ ⟨vs, rfl, isTup_new, hr.keep (R.keepF k)⟩

theorem small_ok {x y : Int} (h : small x ∨ small y) : IntMulOk x y := by
  rcases h with h | h
  · exact .of_left (intBits_le_64 (by have := h.1; omega) (by have := h.2; omega))
  · exact .of_right (intBits_le_64 (by have := h.1; omega) (by have := h.2; omega))
theorem tiny_log {i : Int} (h : tiny i) : i.natAbs.log2 < 1920 := by
  unfold tiny at h
  by_cases h0 : i.natAbs = 0
  · rw [h0]; decide
  · refine (Nat.log2_lt h0).mpr (Nat.lt_of_lt_of_le (m := 2 ^ 40) (by omega) (Nat.pow_le_pow_right (by decide) (by decide)))
theorem tiny_ok {x y : Int} (h : tiny y) : Builtin.divisionGoesByPylong x y = false := by
  unfold Builtin.divisionGoesByPylong
  simp only [Bool.and_eq_false_iff, decide_eq_false_iff_not]
  left
  split
  · omega
  · rename_i q
    have hy : y.natAbs ≠ 0 := by simpa using q
    have : y.natAbs.log2 < 60 := (Nat.log2_lt hy).mpr (by unfold tiny at h; omega)
    omega
theorem lst_plain (M : MRel W mem s) {a : Addr} {xs : List Val} (e : lst mem (.ref a) = some xs) : mem a = some (.list xs) ∧ ∃ vs n, s.heap.get? a = some { cls := .type "list", data := .seq (List.toArray vs) n } ∧ VRels W s.heap xs vs := by
  obtain ⟨⟨vs, ⟨n, hn⟩, r⟩, _⟩ := M.mems a _ (lst_ref e)
  exact ⟨lst_ref e, vs, n, hn, r⟩
theorem foldl_app (vs : List Value) : ∀ (n : Nat) (acc : List Value), List.foldl (fun (x1 x2 : Array Value) => x1 ++ x2) acc.toArray (List.replicate n vs.toArray) = (acc ++ (List.replicate n vs).flatten).toArray
  | 0, acc => by simp
  | n + 1, acc => by
    simp only [List.replicate_succ, List.foldl_cons, List.append_toArray, List.flatten_cons]
    rw [foldl_app vs n]
    simp
theorem VRels.rep {h : Heap} {xs : List Val} {vs : List Value} (r : VRels W h xs vs) : ∀ n : Nat, VRels W h (List.replicate n xs).flatten (List.replicate n vs).flatten
  | 0 => .nil
  | n + 1 => by simp only [List.replicate_succ, List.flatten_cons]; exact (r.rep n).append r

theorem bin_sound (R : Rel W env vis loc mem s) {op : Bop} {o : Operator} {x y : Val} {a b : Value} (hx : VRel W s.heap x a) (hy : VRel W s.heap y b) (ho : bopIs op o = true) (h : wpBin op x y Q mem) :
    wpAny (model W.prog W.w) A (binaryOp o a b) (PM W mem s Q) E s := by
  obtain rfl := bopIs_eq ho
  cases op with
  | add =>
    rcases h with ⟨i, j, rfl, rfl, h⟩ | ⟨_, _, xs, ys, rfl, rfl, ex, ey, hf⟩ | ⟨i, j, rfl, rfl, hl, h⟩
    · obtain ⟨t, rfl⟩ := hx.int; obtain ⟨u, rfl⟩ := hy.int
      exact add_int (PM.val R.m .mkInt h _)
    · obtain ⟨a1, v1, rfl, l1, r1⟩ := lst_rel R.m hx ex
      obtain ⟨a2, v2, rfl, l2, r2⟩ := lst_rel R.m hy ey
      obtain ⟨m, hn⟩ := R.hasNs
      obtain ⟨F, N⟩ := fr_all hn
      have hsz : v1.length + v2.length ≤ sizeLine := lid_line (by have := hf.1; rw [List.length_append] at this; rw [r1.length, r2.length]; exact this)
      refine add_lists F N l1 l2 (hsz := hsz) fun h' F' N' => ?_
      have k := KeepL.of_fr hn F' N' fun p hp => .tail _ hp
      exact freshL_sound R k (size_none _) (N' _ (.head _)).1 (r2.append r1) hf
    · obtain ⟨t, rfl⟩ := hx.str; obtain ⟨u, rfl⟩ := hy.str
      exact SB.add (fun t' k => PM.val R.m .mkStr h _) (lid_line hl)
  | sub =>
    obtain ⟨i, j, rfl, rfl, h⟩ := h
    obtain ⟨t, rfl⟩ := hx.int; obtain ⟨u, rfl⟩ := hy.int
    exact sub_int (PM.val R.m .mkInt h _)
  | mul =>
    rcases h with ⟨i, j, rfl, rfl, h⟩ | ⟨_, i, xs, rfl, rfl, ex, h0, hl, hf⟩
    · obtain ⟨t, rfl⟩ := hx.int; obtain ⟨u, rfl⟩ := hy.int
      exact mul_int (PM.val R.m .mkInt h.2 _) (small_ok h.1)
    · obtain rfl := hx.ref
      obtain ⟨em, v1, n1, l1, r1⟩ := lst_plain R.m ex
      obtain ⟨u, rfl⟩ := hy.int
      obtain ⟨m, hn⟩ := R.hasNs
      obtain ⟨F, N⟩ := fr_all hn
      have hlen : ∀ n : Nat, (List.replicate n v1).flatten.length = n * v1.length := fun n => by simp
      have hsz : v1.toArray.size * i.toNat ≤ 2 ^ 24 := by
        have h1 := lid_line hf.1
        rw [← (r1.rep i.toNat).length, hlen] at h1
        rw [List.size_toArray, Nat.mul_comm]; exact h1
      refine mul_list F N l1 (by omega) (by unfold lid at hl; omega) hsz fun h' F' N' => ?_
      have k := KeepL.of_fr hn F' N' fun p hp => .tail _ hp
      refine freshL_sound R k (size_none _) (n := 0) (vs := (List.replicate i.toNat v1).flatten) ?_ (r1.rep _) hf
      rw [(N' _ (.head _)).1]
      have e2 : List.foldl (fun (x1 x2 : Array Value) => x1 ++ x2) #[] (List.replicate (if v1.toArray.isEmpty = true then 0 else i.toNat) v1.toArray) = (List.replicate i.toNat v1).flatten.toArray := by
        split
        · rename_i q
          have : v1 = [] := by simpa using q
          subst this; simp
        · exact (foldl_app v1 i.toNat []).trans (by simp)
      rw [e2]
  | fdiv =>
    obtain ⟨i, j, rfl, rfl, h⟩ := h
    obtain ⟨t, rfl⟩ := hx.int; obtain ⟨u, rfl⟩ := hy.int
    exact floordiv_int h.1.1 (PM.val R.m .mkInt h.2 _) (.inl (tiny_ok h.1.2))
  | mod =>
    obtain ⟨i, j, rfl, rfl, h⟩ := h
    obtain ⟨t, rfl⟩ := hx.int; obtain ⟨u, rfl⟩ := hy.int
    exact mod_int' h.1.1 (PM.val R.m .mkInt h.2 _)

end TD

namespace TD
open PySem PyProof.Rows
variable {W : Cx} {A : Around} {E : Value → Shared → Prop} {env : Env} {vis : List (Nat × Str)} {loc : Loc} {mem : Mem} {s : Shared} {Q : Val → Mem → Prop}

mutual
noncomputable def toP : Dat → PyData
  | .none => .none
  | .int i => .int i
  | .list ds => .list (toPs ds)
  | .tup ds => .tuple (toPs ds)
  | .str x => .str x
noncomputable def toPs : List Dat → List PyData
  | [] => []
  | d :: ds => toP d :: toPs ds
end
theorem str_beq {x y : Str} : (x.cps.toList == y.cps.toList) = (x == y) := by
  rw [Bool.eq_iff_iff, beq_iff_eq, beq_iff_eq]
  constructor
  · intro h
    obtain ⟨a⟩ := x
    obtain ⟨b⟩ := y
    exact congrArg Str.mk (Array.toList_inj.mp h)
  · rintro rfl; rfl
mutual
theorem eqv_toP : ∀ d e : Dat, PyData.eqv (toP d) (toP e) = Dat.beq d e
  | .none, e => by cases e <;> rfl
  | .int _, e => by cases e <;> rfl
  | .list a, e => by cases e <;> first | rfl | exact eqvs_toP a _
  | .tup a, e => by cases e <;> first | rfl | exact eqvs_toP a _
  | .str a, e => by cases e <;> first | rfl | exact str_beq
theorem eqvs_toP : ∀ d e : List Dat, PyData.eqvAll (toPs d) (toPs e) = Dat.beqs d e
  | [], e => by cases e <;> rfl
  | a :: r, e => by
    cases e with
    | nil => rfl
    | cons b t =>
      show (PyData.eqv (toP a) (toP b) && PyData.eqvAll (toPs r) (toPs t)) = (Dat.beq a b && Dat.beqs r t)
      rw [eqv_toP a b, eqvs_toP r t]
end
theorem toPs_map (ds : List Dat) : toPs ds = ds.map toP := by
  induction ds with
  | nil => rfl
  | cons d ds ih => exact congrArg (toP d :: ·) ih

theorem okNL {n : Nat} {d : Dat} {ds : List Dat} (hd : d = .list ds ∨ d = .tup ds) (h : okN (n + 1) d = true) : ds.all (okN n) = true := by
  rcases hd with rfl | rfl
  · exact h
  · exact h
theorem lay_toP (n : Nat) : ∀ d : Dat, okN n d = true → (toP d).canLay0 = true ∧ (toP d).depth ≤ n := by
  induction n with
  | zero => intro d h; exact nb h
  | succ n ih =>
    have all : ∀ ds : List Dat, ds.all (okN n) = true → PyData.canLayAll0 (toPs ds) = true ∧ PyData.depthAll (toPs ds) ≤ n := by
      intro ds
      induction ds with
      | nil => intro _; exact ⟨rfl, Nat.zero_le _⟩
      | cons d ds ihd =>
        intro h
        obtain ⟨h1, h2⟩ := and2 (show (okN n d && ds.all (okN n)) = true from h)
        obtain ⟨a, b⟩ := ih d h1
        obtain ⟨c, e⟩ := ihd h2
        exact ⟨Bool.and_eq_true_iff.mpr ⟨a, c⟩, Nat.max_le.mpr ⟨b, e⟩⟩
    intro d h
    cases d with
    | none => exact ⟨rfl, Nat.zero_le _⟩
    | int i => exact ⟨rfl, Nat.zero_le _⟩
    | list ds =>
      obtain ⟨a, b⟩ := all ds (okNL (.inl rfl) h)
      exact ⟨a, Nat.succ_le_succ b⟩
    | tup ds =>
      obtain ⟨a, b⟩ := all ds (okNL (.inr rfl) h)
      exact ⟨a, Nat.succ_le_succ b⟩
    | str x => exact ⟨h, Nat.zero_le _⟩
theorem lays_toP (n : Nat) (ds : List Dat) (h : ds.all (okN n) = true) : PyData.canLayAll0 (toPs ds) = true ∧ PyData.depthAll (toPs ds) ≤ n := by
  obtain ⟨a, b⟩ := lay_toP (n + 1) (.list ds) h
  exact ⟨a, Nat.le_of_succ_le_succ b⟩

mutual
theorem reads_kit (M : MRel W mem s) : ∀ (d : Dat) (v : Val) (y : Value), Reads mem d v → VRel W s.heap v y → ∃ as, _root_.PySem.Reads s.heap y (toP d) as
  | .none, v, y, h, r => by obtain rfl : v = .none := h; obtain rfl := r.none'; exact ⟨_, .none⟩
  | .int i, v, y, h, r => by obtain rfl : v = .int i := h; obtain ⟨t, rfl⟩ := r.int; exact ⟨_, .int i t⟩
  | .list ds, v, y, h, r => by
    obtain ⟨xs, e, h⟩ := h
    obtain ⟨a, vs, rfl, ⟨o, ho, hc, n, hd⟩, q⟩ := lst_rel M r e
    obtain ⟨as, ra⟩ := readsL_kit M ds xs vs h q
    exact ⟨_, .list ho hc hd ra⟩
  | .tup ds, v, y, h, r => by
    obtain ⟨xs, rfl, h⟩ := h
    obtain ⟨a, vs, rfl, ⟨o, ho, hc, n, hd⟩, q⟩ := r
    obtain ⟨as, ra⟩ := readsL_kit M ds xs vs h q
    exact ⟨_, .tuple ho hc hd ra⟩
  | .str i, v, y, h, r => by obtain rfl : v = .str i := h; obtain ⟨t, rfl⟩ := r.str; exact ⟨_, .str i t⟩
theorem readsL_kit (M : MRel W mem s) : ∀ (ds : List Dat) (xs : List Val) (ys : List Value), ReadsL mem ds xs → VRels W s.heap xs ys → ∃ as, ReadsAll s.heap ys (toPs ds) as
  | [], xs, ys, h, r => by obtain rfl : xs = [] := h; obtain rfl := r.inv0; exact ⟨_, .nil⟩
  | d :: ds, xs, ys, h, r => by
    obtain ⟨z, zs, rfl, h1, h2⟩ := h
    obtain ⟨w, ws, rfl, r1, r2⟩ := r.inv
    obtain ⟨as, ra⟩ := reads_kit M d z w h1 r1
    obtain ⟨bs, rb⟩ := readsL_kit M ds zs ws h2 r2
    exact ⟨_, .cons ra rb⟩
end

theorem seq_or {mem : Mem} {v : Val} {xs : List Val} (e : seq mem v = some xs) : v = .tup xs ∨ lst mem v = some xs := by
  cases v <;> first | exact .inr e | (cases e; exact .inl rfl)
theorem seq_kit (M : MRel W mem s) {v : Val} {y : Value} {xs : List Val} {ds : List Dat} (e : seq mem v = some xs) (h : ReadsL mem ds xs) (r : VRel W s.heap v y) :
    ∃ as, _root_.PySem.Reads s.heap y (.list (toPs ds)) as ∨ _root_.PySem.Reads s.heap y (.tuple (toPs ds)) as := by
  rcases seq_or e with rfl | e
  · obtain ⟨as, ra⟩ := reads_kit M (.tup ds) _ y (Exists.intro xs ⟨rfl, h⟩) r
    exact ⟨as, .inr ra⟩
  · obtain ⟨as, ra⟩ := reads_kit M (.list ds) v y (Exists.intro xs ⟨e, h⟩) r
    exact ⟨as, .inl ra⟩

structure Room (n : Nat) (A : Around) : Prop where
  handled : A.handled = none
  units : A.units + 100 + 20 * n < cLine
  depth : A.depth + 5 + 5 * n < recursionLimit

noncomputable def PB (W : Cx) (mem : Mem) (s : Shared) (P : Bool → Mem → Prop) : Value → Shared → Prop := PM W mem s (asB P)

theorem any_toP {es : List Dat} {d : Dat} : ((toPs es).any fun y => PyData.eqv y (toP d)) = es.any fun e => Dat.beq e d := by
  rw [toPs_map, List.any_map]
  exact congrArg (es.any ·) (funext fun z => eqv_toP z d)
theorem shaped_of {d : Dat} (h : okN 8 d = true) : SeqAt.shaped (toP d) = true := by
  obtain ⟨l1, d1⟩ := lay_toP 8 d h
  simp only [SeqAt.shaped, l1, Bool.true_and]; exact decide_eq_true (by omega)
theorem cmp_sound (R : Rel W env vis loc mem s) {n : Nat} (hr : Room n A) {op : Cop} {o : CmpOp} {x y : Val} {a b : Value} {P : Bool → Mem → Prop} (hx : VRel W s.heap x a) (hy : VRel W s.heap y b) (ho : copIs op o = true) (h : wpCmp op x y P mem) :
    wpAny (model W.prog W.w) A (compareOp o a b) (PB W mem s P) E s := by
  have hu := hr.units
  obtain rfl := copIs_eq ho
  have pm : ∀ {b : Bool}, P b mem → PB W mem s P (.bool b) s := fun {b} h => PM.here R.m .mkBool (Exists.intro b ⟨rfl, h⟩)
  cases op with
  | eq =>
    rcases h with ⟨i, j, rfl, rfl, h⟩ | ⟨i, j, rfl, rfl, h⟩ | ⟨d, e, h1, h2, h3, h4, h5⟩
    · obtain rfl := hx.bool; obtain rfl := hy.bool
      exact eq_bool (pm h)
    · obtain ⟨t, rfl⟩ := hx.str; obtain ⟨u, rfl⟩ := hy.str
      exact PySem.P.eq_str (by rw [str_beq]; exact pm h)
    · obtain ⟨as, ra⟩ := reads_kit R.m d _ _ h1 hx
      obtain ⟨bs, rb⟩ := reads_kit R.m e _ _ h2 hy
      have d1 := (lay_toP 8 d h3).2
      have d2 := (lay_toP 8 e h4).2
      refine eq_dataH ra rb (shaped_of h3) (shaped_of h4) (by omega) ?_
      rw [eqv_toP]
      exact pm h5
  | ne =>
    rcases h with ⟨i, j, rfl, rfl, h⟩ | ⟨i, j, rfl, rfl, h⟩ | ⟨d, e, h1, h2, h3, h4, h5⟩
    · obtain rfl := hx.bool; obtain rfl := hy.bool
      exact ne_bool (pm h)
    · obtain ⟨t, rfl⟩ := hx.str; obtain ⟨u, rfl⟩ := hy.str
      exact PySem.P.ne_str (by unfold bne; rw [str_beq]; exact pm h)
    · obtain ⟨as, ra⟩ := reads_kit R.m d _ _ h1 hx
      obtain ⟨bs, rb⟩ := reads_kit R.m e _ _ h2 hy
      have d1 := (lay_toP 8 d h3).2
      have d2 := (lay_toP 8 e h4).2
      refine ne_dataH ra rb (shaped_of h3) (shaped_of h4) (by omega) ?_
      rw [eqv_toP]
      exact pm h5
  | lt =>
    obtain ⟨i, j, rfl, rfl, h⟩ := h
    obtain ⟨t, rfl⟩ := hx.int; obtain ⟨u, rfl⟩ := hy.int
    exact lt_int (pm h)
  | le =>
    obtain ⟨i, j, rfl, rfl, h⟩ := h
    obtain ⟨t, rfl⟩ := hx.int; obtain ⟨u, rfl⟩ := hy.int
    exact le_int (pm h)
  | gt =>
    obtain ⟨i, j, rfl, rfl, h⟩ := h
    obtain ⟨t, rfl⟩ := hx.int; obtain ⟨u, rfl⟩ := hy.int
    exact gt_int (pm h)
  | ge =>
    obtain ⟨i, j, rfl, rfl, h⟩ := h
    obtain ⟨t, rfl⟩ := hx.int; obtain ⟨u, rfl⟩ := hy.int
    exact ge_int (pm h)
  | inn =>
    obtain ⟨d, es, xs, e1, h1, h2, h3, h4, h5⟩ := h
    obtain ⟨as, ra⟩ := reads_kit R.m d _ _ h1 hx
    obtain ⟨l1, d1⟩ := lay_toP 8 d h3
    obtain ⟨l2, d2⟩ := lays_toP 7 es h4
    have hm := Nat.min_le_right (PyData.depthAll (toPs es)) (toP d).depth
    obtain ⟨bs, rb | rb⟩ := seq_kit R.m e1 h2 hy
    · refine SeqAt.in_list_reads rb ra l2 l1 (by omega) ?_
      rw [any_toP]; exact pm h5
    · refine SeqAt.in_tuple_reads rb ra l2 l1 (by omega) ?_
      rw [any_toP]; exact pm h5
  | notin =>
    obtain ⟨d, es, xs, e1, h1, h2, h3, h4, h5⟩ := h
    obtain ⟨as, ra⟩ := reads_kit R.m d _ _ h1 hx
    obtain ⟨l1, d1⟩ := lay_toP 8 d h3
    obtain ⟨l2, d2⟩ := lays_toP 7 es h4
    have hm := Nat.min_le_right (PyData.depthAll (toPs es)) (toP d).depth
    obtain ⟨bs, rb | rb⟩ := seq_kit R.m e1 h2 hy
    · refine SeqAt.notIn_list_reads rb ra l2 l1 (by omega) ?_
      rw [any_toP]; exact pm h5
    · refine SeqAt.notIn_tuple_reads rb ra l2 l1 (by omega) ?_
      rw [any_toP]; exact pm h5

end TD

namespace TD
open PySem PyProof.Rows
variable {W : Cx} {A : Around} {E : Value → Shared → Prop} {env : Env} {vis : List (Nat × Str)} {loc : Loc} {mem : Mem} {s : Shared} {Q : Val → Mem → Prop}

theorem seq_rel (M : MRel W mem s) {v : Val} {y : Value} {xs : List Val} (hv : VRel W s.heap v y) (e : seq mem v = some xs) :
    ∃ a vs, y = .ref a ∧ (s.heap.IsList a (List.toArray vs) ∨ IsTup s.heap a (List.toArray vs)) ∧ VRels W s.heap xs vs := by
  rcases seq_or e with rfl | e
  · obtain ⟨a, vs, rfl, h, r⟩ := hv
    exact ⟨a, vs, rfl, .inr h, r⟩
  · obtain ⟨a, vs, rfl, h, r⟩ := lst_rel M hv e; exact ⟨a, vs, rfl, .inl h, r⟩

theorem bools_of {h : Heap} {bs : List Bool} : ∀ {vs : List Value}, VRels W h (bs.map .bool) vs → LSm.BoolsAre vs bs := by
  induction bs with
  | nil => intro vs r; obtain rfl := r.inv0; exact .nil
  | cons b bs ih =>
    intro vs r
    obtain ⟨y, ys, rfl, a, r'⟩ := r.inv
    obtain rfl := a.bool
    exact .cons b (ih r')
theorem ints_of {h : Heap} {ns : List Int} : ∀ {vs : List Value}, VRels W h (ns.map .int) vs → IntsAre vs ns := by
  induction ns with
  | nil => intro vs r; obtain rfl := r.inv0; exact .nil
  | cons b bs ih =>
    intro vs r
    obtain ⟨y, ys, rfl, a, r'⟩ := r.inv
    obtain ⟨t, rfl⟩ := a.int
    exact .cons b t (ih r')
theorem of_ints {h : Heap} : ∀ {vs : List Value} {ns : List Int}, IntsAre vs ns → VRels W h (ns.map .int) vs := by
  intro vs ns r
  induction r with
  | nil => exact .nil
  | cons n t _ ih => exact .cons .mkInt ih

theorem lid63 {n : Nat} (h : n < lid) : ((n : Nat) : Int) < 2 ^ 63 := by unfold lid at h; omega

theorem PM.kept (R : Rel W env vis loc mem s) {s' : Shared} {v : Val} {y : Value} (k : KeepL env.locals s.heap s'.heap) (hv : VRel W s'.heap v y) (hq : Q v mem) (hg : s'.gens = s.gens := by rfl) (ho : s'.os = s.os := by rfl) : PM W mem s Q y s' :=
  ⟨v, mem, hv, R.keepM k hg ho, R.keepS k, hq⟩

theorem ints_carried {ns : List Int} : ∀ {ys : List Value}, CarriedAll ys (ns.map PyData.int) → IntsAre ys ns := by
  induction ns with
  | nil => intro ys h; cases h; exact .nil
  | cons n ns ih =>
    intro ys h
    cases h with
    | cons h1 h2 => cases h1; exact .cons _ _ (ih h2)
theorem range_ints {h : Heap} (n : Nat) {ys : List Value} (c : CarriedAll ys ((rangeInts 0 1 n).map PyData.int)) : VRels W h (rangeV n) ys := by
  have e : rangeV (n : Int) = (rangeInts 0 1 n).map Val.int := by
    unfold rangeV rangeInts
    rw [List.map_map]
    simp [Function.comp_def]
  rw [e]
  exact of_ints (ints_carried c)

noncomputable def B1.val : B1 → Value
  | .len => .builtin "len"
  | .all => .builtin "all"
  | .sum => .builtin "sum"
  | .maxL => .builtin "max"
  | .minL => .builtin "min"
  | .list => .type "list"
  | .tuple => .type "tuple"
  | .sorted => .builtin "sorted"
  | .int => .type "int"
  | .lrange => .none
  | .lrev => .none
  | .lenset => .none
  | .str => .type "str"
theorem b1_sound (R : Rel W env vis loc mem s) {n : Nat} (hr : Room n A) {b : B1} {x : Val} {a : Value} (hb : b.inner = none) (hx : VRel W s.heap x a) (h : wpB1 b x Q mem) :
    wpAny (model W.prog W.w) A (call b.val [a]) (PM W mem s Q) E s := by
  obtain ⟨m, hn⟩ := R.hasNs
  obtain ⟨F, N⟩ := fr_all hn
  have hh := hr.handled
  cases b
  · obtain ⟨xs, e, hl, hq⟩ := h
    obtain ⟨a, vs, rfl, h | h, r⟩ := seq_rel R.m hx e
    · refine len_list h (by rw [List.size_toArray, r.length]; exact lid63 hl) ?_
      rw [List.size_toArray, r.length]; exact PM.val R.m .mkInt hq _
    · refine len_tuple h (by rw [List.size_toArray, r.length]; exact lid63 hl) ?_
      rw [List.size_toArray, r.length]; exact PM.val R.m .mkInt hq _
  · obtain ⟨bs, e, hq⟩ := h
    obtain ⟨a, vs, rfl, h, r⟩ := lst_rel R.m hx e
    refine LSm.all_bools F N hh h (bools_of r) fun h' tk F' N' => ?_
    exact PM.kept R (.of_fr hn F' N' fun p hp => hp) .mkBool hq
  · obtain ⟨is, e, _, _, hq⟩ := h
    obtain ⟨a, vs, rfl, h, r⟩ := lst_rel R.m hx e
    refine LSm.sum_ints F N hh h (ints_of r) fun h' tk t' F' N' => ?_
    exact PM.kept R (.of_fr hn F' N' fun p hp => hp) .mkInt hq
  · obtain ⟨is, e, hne, _, hq⟩ := h
    obtain ⟨a, vs, rfl, h, r⟩ := lst_rel R.m hx e
    refine max_list_N hh F N h (ints_of r) (List.length_pos_iff.mpr hne) fun h' M t tk F' N' h1 h2 => ?_
    exact PM.kept R (.of_fr hn F' N' fun p hp => hp) .mkInt (hq M h1 h2)
  · obtain ⟨is, e, hne, _, hq⟩ := h
    obtain ⟨a, vs, rfl, h, r⟩ := lst_rel R.m hx e
    refine min_list_N hh F N h (ints_of r) (List.length_pos_iff.mpr hne) fun h' M t tk F' N' h1 h2 => ?_
    exact PM.kept R (.of_fr hn F' N' fun p hp => hp) .mkInt (hq M h1 h2)
  · obtain ⟨xs, e, hf⟩ := h
    obtain ⟨a, vs, rfl, h, r⟩ := seq_rel R.m hx e
    have hsz : vs.toArray.size ≤ sizeLine := by rw [List.size_toArray, r.length]; exact lid_line hf.1
    have go : ∀ T, (T = "list" ∨ T = "tuple") → (∃ o, s.heap.get? a = some o ∧ o.cls = .type T ∧ ∃ n, o.data = .seq vs.toArray n) → wpAny (model W.prog W.w) A (call (.type "list") [.ref a]) (PM W mem s Q) E s := by
      rintro T hT ⟨o, ho, hc, n, hd⟩
      refine call_list_seq a hT ho hc hd (fun h' c' hk hD => ?_) hsz
      exact freshL_sound R (.of_keeps hk) (size_none _) hD r hf
    rcases h with h | h
    · exact go _ (.inl rfl) h
    · exact go _ (.inr rfl) h
  · obtain ⟨xs, e, hl, hq⟩ := h
    obtain ⟨a, vs, rfl, h, r⟩ := lst_rel R.m hx e
    have hsz : vs.toArray.size ≤ sizeLine := by rw [List.size_toArray, r.length]; exact lid_line hl
    refine call_tuple_list h (fun h' hk => ?_) hsz
    have k : KeepL env.locals s.heap (h'.push { cls := .type "tuple", data := .seq vs.toArray }) := .of_keeps fun b o e => Heap.get?_push_of_some _ (hk b o e)
    exact PM.kept R (v := .tup xs) k (Exists.intro _ ⟨vs, rfl, isTup_new, r.keep (R.keepF k)⟩) hq
  · obtain ⟨xs, e, is, rfl, h64, hq⟩ := h
    obtain ⟨a, vs, rfl, h, r⟩ := lst_rel R.m hx e
    refine sorted_N F N h (ints_of r) (by have := r.length; rw [List.length_map] at this; omega) fun h' vs' ns' e' F' N' hi hp hs => ?_
    have k := KeepL.of_fr hn F' N' fun p hp => .tail _ hp
    have hnone : s.heap.get? (s.heap.objs.size + 1) = none := by
      cases q : s.heap.get? (s.heap.objs.size + 1) with
      | none => rfl
      | some o => exact absurd (Heap.lt_size q) (Nat.not_lt.mpr (Nat.le_succ _))
    exact freshL_sound R k hnone (N' _ (.head _)).1 (of_ints hi) (hq ns' hp hs)
  · obtain ⟨b, rfl, hq⟩ := h
    obtain rfl := hx.bool
    exact call_int_bool (PM.val R.m .mkInt hq _)
  · exact absurd hb (by decide)
  · exact absurd hb (by decide)
  · exact absurd hb (by decide)
  · obtain ⟨i, rfl, ht, hq⟩ := h
    obtain ⟨t, rfl⟩ := hx.int
    exact PySem.P.str_of_int (tiny_log ht) (PM.val R.m .mkStr hq _)
end TD

namespace TD
open PySem PyProof.Rows
variable {W : Cx} {A : Around} {E : Value → Shared → Prop} {env : Env} {vis : List (Nat × Str)} {loc : Loc} {mem : Mem} {s : Shared} {Q : Val → Mem → Prop}

theorem place_cases {k : Int} {n j : Nat} (h : place k n = some j) : (k = j ∧ j < n) ∨ ∃ p : Nat, k = -((p + 1 : Nat) : Int) ∧ p + 1 ≤ n ∧ j = n - (p + 1) := by
  unfold place at h
  by_cases h0 : 0 ≤ k
  · rw [if_pos h0] at h
    obtain ⟨i, rfl⟩ := Int.eq_ofNat_of_zero_le h0
    by_cases h1 : (i : Int).toNat < n
    · rw [if_pos h1] at h; cases h; exact .inl ⟨rfl, h1⟩
    · rw [if_neg h1] at h; exact no h
  · rw [if_neg h0] at h
    obtain ⟨p, hp⟩ := Int.eq_negSucc_of_lt_zero (Int.not_le.mp h0)
    subst hp
    by_cases h1 : (-(Int.negSucc p)).toNat ≤ n
    · rw [if_pos h1] at h; cases h; exact .inr ⟨p, rfl, h1, rfl⟩
    · rw [if_neg h1] at h; exact no h
theorem place_idx {k : Int} {n j : Nat} (h : place k n = some j) : seqIndex? k n = some j := by
  unfold seqIndex?
  rcases place_cases h with ⟨rfl, h1⟩ | ⟨p, rfl, h1, rfl⟩
  · have h0 : ¬ (j : Int) < 0 := Int.not_lt.mpr (Int.natCast_nonneg j)
    simp only [h0, if_false]
    rw [if_pos (by simp; omega)]
    rfl
  · have h0 : -((p + 1 : Nat) : Int) < 0 := by omega
    simp only [h0, if_true]
    rw [if_pos (by simp; omega)]
    congr 1; omega
theorem place_lt {k : Int} {n j : Nat} (h : place k n = some j) : j < n := by
  rcases place_cases h with ⟨rfl, h1⟩ | ⟨p, rfl, h1, rfl⟩
  · exact h1
  · omega
theorem place_fit {k : Int} {n j : Nat} (h : place k n = some j) (hn : n < lid) : -(2 ^ 63) ≤ k ∧ k < 2 ^ 63 := by
  unfold lid at hn
  rcases place_cases h with ⟨rfl, h1⟩ | ⟨p, rfl, h1, rfl⟩ <;> omega

theorem subscripted_plain {sl : Expr} (h : notSlice sl = true) (o i : Value) : subscripted sl false o i = operate [o, i] (getItem o i) := by
  cases sl <;> first | rfl | exact nb h

theorem getItem_sound (R : Rel W env vis loc mem s) {v : Val} {o : Value} {k : Int} {u : Tok} {xs : List Val} {j : Nat} {x : Val} (hv : VRel W s.heap v o) (e : seq mem v = some xs) (hp : place k xs.length = some j) (hx : xs[j]? = some x) (hl : xs.length < lid) (hq : Q x mem)
    {value sl : Expr} (hs : notSlice sl = true) : wpAny (model W.prog W.w) A (subscriptTail value sl o (.int k u)) (PM W mem s Q) E s := by
  obtain ⟨a, vs, rfl, h, r⟩ := seq_rel R.m hv e
  obtain ⟨y, hy, ry⟩ := r.get hx
  have hf := place_fit hp hl
  have hlen := r.length
  rcases h with h | h
  · refine tail_any (o := .ref a) h.typeIs slot_list_getitem.lookup ?_ (subscripted_plain hs _ _)
    rcases place_cases hp with ⟨rfl, h1⟩ | ⟨p, rfl, h1, rfl⟩
    · exact wpAny_getItem_list h (Int.natCast_nonneg j) hf.2 (by simpa using hy) (PM.here R.m ry hq)
    · refine wpAny_getItem_list_neg h (by omega) (by rw [List.size_toArray, hlen]; omega) hf.1 ?_ (PM.here R.m ry hq)
      rw [List.size_toArray, hlen, show (-((p + 1 : Nat) : Int) + (xs.length : Nat)).toNat = xs.length - (p + 1) by omega]
      simpa using hy
  · exact item_tupleT h hf.1 hf.2 (by rw [hlen]; exact place_idx hp) hy (PM.here R.m ry hq) (subscripted_plain hs _ _)

theorem sub_sound (R : Rel W env vis loc mem s) {v i : Val} {o iv : Value} (hv : VRel W s.heap v o) (hi : VRel W s.heap i iv) (h : subW v i Q mem) {value sl : Expr} (hs : notSlice sl = true) :
    wpAny (model W.prog W.w) A (subscriptTail value sl o iv) (PM W mem s Q) E s := by
  obtain ⟨k, xs, j, x, rfl, e, hp, hx, hl, hq⟩ := h
  obtain ⟨u, rfl⟩ := hi.int
  exact getItem_sound R hv e hp hx hl hq hs

noncomputable def partV (up : Bool) (v : Value) : Value := match up with | true => v | false => .none
theorem slice_eval {M : Model} {A' : Around} {E' : Value → Shared → Prop} {s' : Shared} {env' : Env} {up : Bool} {e : Expr} {p : Pos} {P : Value → Shared → Prop}
    (h : wpAny M A' (eval e env') (fun v s2 => P (.ref s2.heap.objs.size) { s2 with heap := s2.heap.push { cls := .type "slice", data := .fields #[partV up v, partV (!up) v, .none] } }) E' s') :
    wpAny M A' (eval (.Slice (partE up e) (partE (!up) e) none p) env') P E' s' := by
  refine wpAny_Slice ?_
  cases up with
  | true => exact wpAny_mono h (fun v s2 h2 => wpAny_pure (wpAny_pure h2)) fun _ _ x => x
  | false => exact wpAny_pure (wpAny_mono h (fun v s2 h2 => wpAny_pure h2) fun _ _ x => x)
theorem VRels.cut {W : Cx} {h : Heap} {xs : List Val} : ∀ {vs : List Value}, VRels W h xs vs → ∀ n, VRels W h (xs.drop n) (vs.drop n) ∧ VRels W h (xs.take n) (vs.take n) := by
  induction xs with
  | nil => intro vs r n; obtain rfl := r.inv0; rw [List.drop_nil, List.drop_nil, List.take_nil, List.take_nil]; exact ⟨.nil, .nil⟩
  | cons x xs ih =>
    intro vs r n
    obtain ⟨y, ys, rfl, a, r⟩ := r.inv
    cases n with
    | zero => exact ⟨.cons a r, .nil⟩
    | succ n => exact ⟨(ih r n).1, .cons a (ih r n).2⟩
theorem clip_at (k : Int) (n : Nat) : clipAt n k = min (clip k n) n := by
  unfold clip
  by_cases h : 0 ≤ k
  · rw [if_pos h]
    obtain ⟨j, rfl⟩ := Int.eq_ofNat_of_zero_le h
    exact clipAt_nat n j
  · rw [if_neg h]
    obtain ⟨p, rfl⟩ := Int.eq_negSucc_of_lt_zero (Int.not_le.mp h)
    rw [show Int.negSucc p = -((p + 1 : Nat) : Int) from rfl, clipAt_neg n (p + 1) (Nat.succ_le_succ (Nat.zero_le p)), Int.neg_neg, Int.toNat_natCast]
    omega
theorem pick_cut (vs : List Value) (k : Int) : slicePick vs.toArray (some k) none none = (vs.drop (clip k vs.length)).toArray ∧ slicePick vs.toArray none (some k) none = (vs.take (clip k vs.length)).toArray := by
  constructor
  · rw [slicePick_plain]
    simp only [Option.elim, List.size_toArray, clip_at]
    congr 1
    rcases Nat.le_total (clip k vs.length) vs.length with h | h
    · rw [Nat.min_eq_left h, List.take_of_length_le (by simp)]
    · rw [Nat.min_eq_right h, List.drop_of_length_le (by simp), List.drop_of_length_le h]; simp
  · rw [slicePick_plain]
    simp only [Option.elim, List.size_toArray, clip_at, List.drop_zero, Nat.sub_zero]
    congr 1
    rcases Nat.le_total (clip k vs.length) vs.length with h | h
    · rw [Nat.min_eq_left h]
    · rw [Nat.min_eq_right h, List.take_of_length_le (Nat.le_refl _), List.take_of_length_le h]
theorem slice_sound (R : Rel W env vis loc mem s) {up : Bool} {x y : Val} {xv yv : Value} (hx : VRel W s.heap x xv) (hy : VRel W s.heap y yv) (h : slQ up x y Q mem) {value : Expr} {l u : Option Expr} {p : Pos} :
    wpAny (model W.prog W.w) A (subscriptTail value (.Slice l u none p) xv (.ref s.heap.objs.size)) (PM W mem s Q) E { s with heap := s.heap.push { cls := .type "slice", data := .fields #[partV up yv, partV (!up) yv, .none] } } := by
  obtain ⟨a, xs, k, rfl, e, rfl, hl, hf⟩ := h
  obtain rfl := hx.ref
  obtain ⟨t, rfl⟩ := hy.int
  obtain ⟨⟨vs, ⟨n, hn⟩, r⟩, _⟩ := R.m.mems a _ e
  have hlen := r.length
  have hL : s.heap.IsList a vs.toArray := ⟨_, hn, rfl, n, rfl⟩
  have k1 : KeepL env.locals s.heap (s.heap.push { cls := .type "slice", data := .fields #[partV up (.int k t), partV (!up) (.int k t), .none] }) := .push _
  have R' : Rel W env vis loc mem { s with heap := s.heap.push { cls := .type "slice", data := .fields #[partV up (.int k t), partV (!up) (.int k t), .none] } } := R.step (R.keepM k1) (R.keepS k1)
  have hsz : vs.toArray.size ≤ sizeLine := by rw [List.size_toArray, hlen]; exact lid_line hl
  have r' := r.keep (R.keepF k1)
  refine tail_any (o := .ref a) (hL.push _).typeIs slot_list_getitem.lookup ?_ rfl
  cases up with
  | true =>
    refine wpAny_getItem_list_slice (hL.push _) (Heap.IsSliceOf.new ..) (.int k t) .none .none (by simp) ?_ hsz
    rw [(pick_cut vs k).1, hlen]
    exact PM.trans (s' := { s with heap := s.heap.push { cls := .type "slice", data := .fields #[.int k t, .none, .none] } }) (R.keepS k1) (freshL_sound R' (.push _) (size_none _) (Heap.get?_push_size _ rfl) (r'.cut _).1 hf)
  | false =>
    refine wpAny_getItem_list_slice (hL.push _) (Heap.IsSliceOf.new ..) .none (.int k t) .none (by simp) ?_ hsz
    rw [(pick_cut vs k).2, hlen]
    exact PM.trans (s' := { s with heap := s.heap.push { cls := .type "slice", data := .fields #[.none, .int k t, .none] } }) (R.keepS k1) (freshL_sound R' (.push _) (size_none _) (Heap.get?_push_size _ rfl) (r'.cut _).2 hf)
theorem mm_sound (R : Rel W env vis loc mem s) {k : Nat} (hr : Room k A) {mx : Bool} {x y : Val} {xv yv : Value} (hx : VRel W s.heap x xv) (hy : VRel W s.heap y yv) (h : mmQ mx x y Q mem) :
    wpAny (model W.prog W.w) A (call (.builtin (mmName mx)) [xv, yv]) (PM W mem s Q) E s := by
  obtain ⟨a, b, rfl, rfl, hq⟩ := h
  obtain ⟨t, rfl⟩ := hx.int
  obtain ⟨u, rfl⟩ := hy.int
  cases mx with
  | true =>
    refine max_two_ints hr.handled fun h' tk hk => ?_
    have k1 : KeepL env.locals s.heap h' := .of_keeps hk
    refine ⟨_, mem, ?_, R.keepM k1, R.keepS k1, hq⟩
    show VRel W h' (.int (if b > a then b else a)) _
    by_cases c : b > a
    · rw [if_pos c, if_pos c]; exact ⟨u, rfl⟩
    · rw [if_neg c, if_neg c]; exact ⟨t, rfl⟩
  | false =>
    refine min_two_ints hr.handled fun h' tk hk => ?_
    have k1 : KeepL env.locals s.heap h' := .of_keeps hk
    refine ⟨_, mem, ?_, R.keepM k1, R.keepS k1, hq⟩
    show VRel W h' (.int (if b < a then b else a)) _
    by_cases c : b < a
    · rw [if_pos c, if_pos c]; exact ⟨u, rfl⟩
    · rw [if_neg c, if_neg c]; exact ⟨t, rfl⟩

theorem getMethod_list (R : Rel W env vis loc mem s) {a : Addr} {xs : List Val} (e : mem a = some (.list xs)) {name : Str} {id : String} {pl : Sem Bool} (slot : Slot "list" name id) (hty : typeOf (.builtin id) = pure (.type "method_descriptor"))
    {P : Value × List Value → Shared → Prop} (h : P (.builtin id, [.ref a]) s) : wpAny (model W.prog W.w) A (getMethod (.ref a) name pl) P E s := by
  obtain ⟨⟨vs, ⟨n, hn⟩, r⟩, _⟩ := R.m.mems a _ e
  exact getMethod_builtin ⟨_, hn, rfl⟩ PySem.F.plainAttrs_list slot hty (fun b q => by cases q; exact ⟨_, hn, rfl⟩) h

theorem append_sound (R : Rel W env vis loc mem s) {a : Addr} {xs : List Val} {y : Val} {yv : Value} (e : mem a = some (.list xs)) (hl : xs.length < lid) (hy : VRel W s.heap y yv) (hq : Q .none (mem.set a (.list (xs ++ [y])))) :
    wpAny (model W.prog W.w) A (call (.builtin "list.append") [.ref a, yv]) (PM W mem s Q) E s := by
  obtain ⟨⟨vs, hn, r⟩, _⟩ := R.m.mems a _ e
  refine wpAny_list_append_plain hn (fun h' hl' hs' => ?_) (by rw [List.size_toArray, r.length]; exact lid_line hl)
  have hp : h'.PlainList a (vs ++ [yv]).toArray := by simpa using hl'
  refine ⟨.none, _, .mkNone, R.m.upd (s' := { s with heap := h' }) (o := .list (xs ++ [y])) e hs' (fun kf => ⟨vs ++ [yv], hp, (VRels.append (.cons hy .nil) r).keep kf⟩), Step.upd e hs' ?_, hq⟩
  obtain ⟨n, hn'⟩ := hp; rw [hn']; simp

theorem turned (R : Rel W env vis loc mem s) {a : Addr} {xs ys : List Val} {vs ws : List Value} {n : Nat} {v : Val} {y : Value} (f : Array Value → Array Value) (e : mem a = some (.list xs))
    (hn : s.heap.get? a = some { cls := .type "list", data := .seq vs.toArray n }) (he : f vs.toArray = ws.toArray) (hr : VRels W s.heap ys ws) (hv : VRel W s.heap v y) (hq : Q v (mem.set a (.list ys))) :
    PM W mem s Q y { s with heap := s.heap.update a (Obj.mapSeq f) } := by
  have q : ∃ n', (s.heap.update a (Obj.mapSeq f)).get? a = some { cls := .type "list", data := .seq ws.toArray n' } := by
    have := Heap.get?_update_self (Obj.mapSeq f) hn (by simp [Obj.mapSeq, Obj.isFreed])
    refine ⟨if ws.toArray.size == vs.toArray.size then n else n + 1, this.trans ?_⟩
    simp only [Obj.mapSeq, he]
  obtain ⟨n', q⟩ := q
  have hs : Heap.SameBut a s.heap (s.heap.update a (Obj.mapSeq f)) := Heap.SameBut.update ..
  have M := R.m.upd (s' := { s with heap := s.heap.update a (Obj.mapSeq f) }) (o := .list ys) e hs (fun kf => ⟨ws, ⟨n', q⟩, hr.keep kf⟩)
  have S : Step NoD mem s.heap (mem.set a (.list ys)) (s.heap.update a (Obj.mapSeq f)) := Step.upd e hs (by rw [q]; simp)
  exact ⟨v, _, hv.keep (S.keepF R.m.mems .none), M, S, hq⟩

theorem VRels.set {h : Heap} {v : Val} {y : Value} (hv : VRel W h v y) {xs : List Val} : ∀ {vs : List Value} (j : Nat), VRels W h xs vs → VRels W h (xs.set j v) (vs.set j y) := by
  induction xs with
  | nil => intro vs j r; obtain rfl := r.inv0; exact r
  | cons x xs ih =>
    intro vs j r
    obtain ⟨z, ys, rfl, a, q⟩ := r.inv
    cases j with
    | zero => exact VRels.cons hv q
    | succ j => exact VRels.cons a (ih j q)
theorem VRels.eraseIdx {h : Heap} {xs : List Val} : ∀ {vs : List Value} (j : Nat), VRels W h xs vs → VRels W h (xs.eraseIdx j) (vs.eraseIdx j) := by
  induction xs with
  | nil => intro vs j r; obtain rfl := r.inv0; exact r
  | cons x xs ih =>
    intro vs j r
    obtain ⟨y, ys, rfl, a, q⟩ := r.inv
    cases j with
    | zero => exact q
    | succ j => exact VRels.cons a (ih j q)

theorem fitsIdx {k : Int} (h : -(2 ^ 63) ≤ k ∧ k < 2 ^ 63) : Builtin.List.listFitsIndex k = true := by
  by_cases h0 : k < 0
  · exact fitsIndex_neg h0 h.1
  · simp [Builtin.List.listFitsIndex]; omega

theorem pop_sound (R : Rel W env vis loc mem s) {a : Addr} {xs : List Val} {k : Int} {u : Tok} {j : Nat} {y : Val} (e : mem a = some (.list xs)) (hl : xs.length < lid) (hp : place k xs.length = some j) (hy : xs[j]? = some y) (hq : Q y (mem.set a (.list (xs.eraseIdx j)))) :
    wpAny (model W.prog W.w) A (call (.builtin "list.pop") [.ref a, .int k u]) (PM W mem s Q) E s := by
  obtain ⟨⟨vs, ⟨n, hn⟩, r⟩, _⟩ := R.m.mems a _ e
  obtain ⟨z, hz, rz⟩ := r.get hy
  refine call_meets PySem.F.slot_list_pop ⟨_, hn, rfl⟩ PySem.F.entry_list_pop (PySem.F.args_list_pop_2 _ _) (PySem.MeetsSeq.list_pop_at a _ n k u j z (fitsIdx (place_fit hp hl)) (by rw [List.size_toArray, r.length]; exact place_idx hp) (by simpa using hz) (by rw [List.size_toArray, r.length]; exact lid_line hl)) ⟨hn, ?_⟩
  refine turned R _ e hn (ws := vs.eraseIdx j) ?_ (r.eraseIdx j) rz hq
  have hj : j < vs.length := by rw [r.length]; exact place_lt hp
  simp [Array.eraseIdxIfInBounds, hj]
theorem pop0_sound (R : Rel W env vis loc mem s) {a : Addr} {xs : List Val} {j : Nat} {y : Val} (e : mem a = some (.list xs)) (hl : xs.length < lid) (hp : place (-1) xs.length = some j) (hy : xs[j]? = some y) (hq : Q y (mem.set a (.list (xs.eraseIdx j)))) :
    wpAny (model W.prog W.w) A (call (.builtin "list.pop") [.ref a]) (PM W mem s Q) E s := by
  obtain ⟨⟨vs, ⟨n, hn⟩, r⟩, _⟩ := R.m.mems a _ e
  obtain ⟨z, hz, rz⟩ := r.get hy
  have hj : j = vs.length - 1 := by
    rcases place_cases hp with ⟨h1, _⟩ | ⟨p, h1, _, rfl⟩
    · omega
    · obtain rfl : p = 0 := by omega
      rw [r.length]
  have hj2 : j < vs.length := by rw [r.length]; exact place_lt hp
  refine call_meets PySem.F.slot_list_pop ⟨_, hn, rfl⟩ PySem.F.entry_list_pop (PySem.F.args_list_pop_1 _) (PySem.MeetsSeq.list_pop_last a _ n z (by rw [List.size_toArray, ← hj]; simpa using hz) (by rw [List.size_toArray, r.length]; exact lid_line hl)) ⟨hn, ?_⟩
  refine turned R _ e hn (ws := vs.eraseIdx j) ?_ (r.eraseIdx j) rz hq
  simp only [List.size_toArray, ← hj]
  simp [Array.eraseIdxIfInBounds, hj2]
theorem clear_sound (R : Rel W env vis loc mem s) {a : Addr} {xs : List Val} (e : mem a = some (.list xs)) (hl : xs.length < lid) (hq : Q .none (mem.set a (.list []))) :
    wpAny (model W.prog W.w) A (call (.builtin "list.clear") [.ref a]) (PM W mem s Q) E s := by
  obtain ⟨⟨vs, ⟨n, hn⟩, r⟩, _⟩ := R.m.mems a _ e
  refine call_meets PySem.F.slot_list_clear ⟨_, hn, rfl⟩ PySem.F.entry_list_clear (PySem.F.args_list_clear_1 _) (PySem.AutoSeq1.list_clear_list_0 a _ n (by rw [List.size_toArray, r.length]; exact lid_line hl)) ⟨hn, ?_⟩
  exact turned R (fun _ => #[]) e hn (ws := []) rfl .nil .mkNone hq
theorem mem_plain (M : MRel W mem s) {a : Addr} {xs : List Val} (e : mem a = some (.list xs)) : ∃ vs n, s.heap.get? a = some { cls := .type "list", data := .seq (List.toArray vs) n } ∧ VRels W s.heap xs vs := by
  obtain ⟨⟨vs, ⟨n, hn⟩, r⟩, _⟩ := M.mems a _ e
  exact ⟨vs, n, hn, r⟩
theorem extend_sound (R : Rel W env vis loc mem s) {a b : Addr} {xs ys : List Val} (e : mem a = some (.list xs)) (eb : mem b = some (.list ys)) (hl : xs.length + ys.length < lid) (hq : Q .none (mem.set a (.list (xs ++ ys)))) :
    wpAny (model W.prog W.w) A (call (.builtin "list.extend") [.ref a, .ref b]) (PM W mem s Q) E s := by
  obtain ⟨vs, n, hn, r⟩ := mem_plain R.m e
  obtain ⟨ws, n2, hb, rb⟩ := mem_plain R.m eb
  have h1 := r.length; have h2 := rb.length
  have hsz := lid_line hl
  refine call_meets PySem.F.slot_list_extend ⟨_, hn, rfl⟩ PySem.F.entry_list_extend (PySem.F.args_list_extend_2 _ _) (PySem.AutoSeq1.list_extend_list_list_0 a _ n b _ n2 ?_ (by rw [List.size_toArray, h1]; exact lid_line (by omega)) (by rw [List.size_toArray, List.size_toArray, h1, h2]; omega)) ⟨hn, hb, ?_⟩
  · simp only [List.size_toArray, h1, h2, Builtin.List.listTooLong]
    unfold lid at hl
    simp [sizeLine]; omega
  · exact turned R _ e hn (ws := vs ++ ws) (by simp) (rb.append r) .mkNone hq

theorem setitem_pos (R : Rel W env vis loc mem s) {a : Addr} {xs : List Val} {k : Int} {u : Tok} {y : Val} {yv : Value} {K : Mem → Prop} (e : mem a = some (.list xs)) (hl : xs.length < lid) (h0 : 0 ≤ k) (hk : k.toNat < xs.length) (hy : VRel W s.heap y yv) (hq : K (mem.set a (.list (xs.set k.toNat y)))) :
    wpAny (model W.prog W.w) A (setItem (.ref a) (.int k u) yv) (fun _ s' => PM W mem s (fun _ m' => K m') .none s') E s := by
  obtain ⟨vs, n, hn, r⟩ := mem_plain R.m e
  have hlen := r.length
  unfold lid at hl
  have ht : s.TypeIs (.ref a) "list" := ⟨_, hn, rfl⟩
  have hfit : Builtin.List.listFitsIndex k = true := fitsIndex_of h0 (by omega)
  unfold setItem
  refine wpAny_holding (wpAny_bind (wpAny_sequenceKey ht (by decide) ?_))
  refine wpAny_bind (wpAny_callSpecial?_slot (name := Str.ofString "__setitem__") ht slot_list_setitem
    (wpAny_call_entry slot_list_setitem ht entry_list_setitem ?_ (args_list_setitem _ _ _)))
  show wpAny _ _ (Builtin.List.listSubscript? (.int k u) >>= _) _ _ s
  refine wpAny_bind (wpAny_listSubscript_int hfit ?_)
  clear hfit
  obtain ⟨j, rfl⟩ := Int.eq_ofNat_of_zero_le h0
  have hj : j < vs.length := by omega
  have hat : (vs.toArray)[j]? = some vs[j] := by rw [List.getElem?_toArray]; exact List.getElem?_eq_getElem hj
  show wpAny _ _ ((seqItemAt a j >>= fun r => pure (r.map (j, ·))) >>= _) _ _ s
  refine wpAny_bind (wpAny_bind (wpAny_seqItemAt hn rfl (wpAny_pure ?_)))
  rw [hat]
  show wpAny _ _ (setSeqItemAt a j yv >>= _) _ _ s
  refine wpAny_bind (wpAny_setSeqItemAt hn rfl ?_)
  refine wpAny_pure ⟨.none, rfl, wpAny_pure ?_⟩
  refine turned R _ e hn (ws := vs.set j yv) (by simp) (VRels.set hy j r) .mkNone hq
theorem setitem_neg (R : Rel W env vis loc mem s) {a : Addr} {xs : List Val} {k : Int} {u : Tok} {y : Val} {yv : Value} {K : Mem → Prop} (e : mem a = some (.list xs)) (hl : xs.length < lid) (h0 : k < 0) (h1 : -(xs.length : Int) ≤ k) (hy : VRel W s.heap y yv) (hq : K (mem.set a (.list (xs.set (k + xs.length).toNat y)))) :
    wpAny (model W.prog W.w) A (setItem (.ref a) (.int k u) yv) (fun _ s' => PM W mem s (fun _ m' => K m') .none s') E s := by
  obtain ⟨vs, n, hn, r⟩ := mem_plain R.m e
  have hlen := r.length
  unfold lid at hl
  have ht : s.TypeIs (.ref a) "list" := ⟨_, hn, rfl⟩
  unfold setItem
  refine wpAny_holding (wpAny_bind (wpAny_sequenceKey ht (by decide) ?_))
  refine wpAny_bind (wpAny_callSpecial?_slot (name := Str.ofString "__setitem__") ht slot_list_setitem
    (wpAny_call_entry slot_list_setitem ht entry_list_setitem ?_ (args_list_setitem _ _ _)))
  show wpAny _ _ (Builtin.List.listSubscript? (.int k u) >>= _) _ _ s
  refine wpAny_bind (wpAny_listSubscript_int (fitsIndex_neg h0 (by omega)) ?_)
  have hidx := seqIndex_neg (n := vs.length) h0 (by omega)
  have hj : (k + vs.length).toNat < vs.length := by omega
  have hjj : (k + (xs.length : Int)).toNat = (k + vs.length).toNat := by omega
  rw [hjj] at hq
  generalize (k + (vs.length : Int)).toNat = j at hidx hj hq
  obtain ⟨q, rfl⟩ : ∃ j : Nat, k = Int.negSucc j := by
    cases k with
    | ofNat n => exact absurd h0 (Int.not_lt.mpr (Int.natCast_nonneg n))
    | negSucc n => exact ⟨n, rfl⟩
  have hat : (vs.toArray)[j]? = some vs[j] := by rw [List.getElem?_toArray]; exact List.getElem?_eq_getElem hj
  show wpAny _ _ ((Builtin.List.listItems (.ref a) >>= fun xs => pure ((seqIndex? (Int.negSucc q) xs.size).bind fun i => xs[i]?.map (i, ·))) >>= _) _ _ s
  refine wpAny_bind (wpAny_bind ?_)
  show wpAny _ _ (seqItems? (.ref a) >>= _) _ _ s
  refine wpAny_bind (wpAny_seqItems hn rfl (wpAny_pure (wpAny_pure ?_)))
  have hsz : (vs.toArray).size = vs.length := List.size_toArray ..
  simp only [Option.getD_some, hsz, hidx, Option.bind_some, hat, Option.map_some]
  refine wpAny_bind (wpAny_setSeqItemAt hn rfl ?_)
  refine wpAny_pure ⟨.none, rfl, wpAny_pure ?_⟩
  refine turned R _ e hn (ws := vs.set j yv) (by simp) (VRels.set hy j r) .mkNone hq
theorem setitem_sound (R : Rel W env vis loc mem s) {a : Addr} {xs : List Val} {k : Int} {u : Tok} {j : Nat} {y : Val} {yv : Value} {K : Mem → Prop} (e : mem a = some (.list xs)) (hl : xs.length < lid) (hp : place k xs.length = some j) (hy : VRel W s.heap y yv) (hq : K (mem.set a (.list (xs.set j y)))) :
    wpAny (model W.prog W.w) A (setItem (.ref a) (.int k u) yv) (fun _ s' => PM W mem s (fun _ m' => K m') .none s') E s := by
  rcases place_cases hp with ⟨rfl, hj⟩ | ⟨p, rfl, hp', rfl⟩
  · exact setitem_pos R e hl (Int.natCast_nonneg j) (by simpa using hj) hy hq
  · refine setitem_neg R e hl (by omega) (by omega) hy ?_
    have : (-((p + 1 : Nat) : Int) + (xs.length : Int)).toNat = xs.length - (p + 1) := by omega
    rw [this]; exact hq
theorem idxOf_ne {i : Int} (is : List Int) : ∀ {m : Nat}, m < is.idxOf i → (hm : m < is.length) → is[m] ≠ i := by
  induction is with
  | nil => intro m _ hm; exact absurd hm (Nat.not_lt_zero _)
  | cons a r ih =>
    intro m h hm
    rw [List.idxOf_cons] at h
    cases q : a == i with
    | true => rw [q] at h; exact absurd h (Nat.not_lt_zero _)
    | false =>
      rw [q] at h
      cases m with
      | zero => exact ne_of_beq_false q
      | succ m => exact ih (Nat.lt_of_succ_lt_succ h) (Nat.lt_of_succ_lt_succ hm)
theorem index_sound (R : Rel W env vis loc mem s) {a : Addr} {is : List Int} {i : Int} {u : Tok} (e : mem a = some (.list (is.map .int))) (hi : i ∈ is) (hl : is.length < lid) (hq : Q (.int (is.idxOf i : Nat)) mem) :
    wpAny (model W.prog W.w) A (call (.builtin "list.index") [.ref a, .int i u]) (PM W mem s Q) E s := by
  obtain ⟨vs, n, hn, r⟩ := mem_plain R.m e
  have hlen := r.length
  rw [List.length_map] at hlen
  have hj : is.idxOf i < is.length := List.idxOf_lt_length_of_mem hi
  have at' : ∀ m (hm : m < vs.length), ∃ t, vs[m] = .int (is[m]'(hlen ▸ hm)) t := fun m hm => by
    obtain ⟨y, hy, ry⟩ := r.get (i := m) (v := .int (is[m]'(hlen ▸ hm))) (by rw [List.getElem?_map, List.getElem?_eq_getElem (hlen ▸ hm)]; rfl)
    obtain ⟨t, rfl⟩ := ry.int
    rw [List.getElem?_eq_getElem hm] at hy
    exact ⟨t, Option.some.inj hy⟩
  let f : Value → Bool := fun y => match y with | .int b _ => b == i | _ => false
  refine call_meets PySem.F.slot_list_index ⟨_, hn, rfl⟩ PySem.F.entry_list_index (PySem.F.args_list_index_2 _ _) (PySem.MeetsSeq.list_index a vs.toArray n (.int i u) f (fun y hy => ?_) (is.idxOf i) (by rw [List.size_toArray, hlen]; exact hj) (by unfold lid at hl; omega) ?_ fun m hm hmj => ?_) ⟨hn, PM.val R.m .mkInt hq _⟩
  · obtain ⟨m, hm, rfl⟩ := List.getElem_of_mem (List.mem_toArray.mp hy)
    obtain ⟨t, q⟩ := at' m hm
    rw [q]
    exact PySem.MeetsSeq.EqGives.int _ _ _ _
  · obtain ⟨t, q⟩ := at' (is.idxOf i) (hlen.symm ▸ hj)
    show f vs[is.idxOf i] = true
    rw [q]
    exact beq_iff_eq.mpr (List.getElem_idxOf hj)
  · rw [List.size_toArray] at hm
    obtain ⟨t, q⟩ := at' m hm
    show f vs[m] = false
    rw [q]
    exact beq_false_of_ne (idxOf_ne is hmj (hlen ▸ hm))

theorem cls5 {P : Cls → Prop} (h1 : P .int) (h2 : P .bool) (h3 : P .list) (h4 : P .tuple) (h5 : P .str) {c : Cls} (hc : c.code < 5) : P c := by
  cases c <;> first | assumption | exact absurd hc (by decide)
theorem isinst_sound (R : Rel W env vis loc mem s) {x : Val} {a : Value} {c : Cls} (hc : c.code < 5) (hx : VRel W s.heap x a) {b : Bool} (h : isA mem x c = some b) (hq : Q (.bool b) mem) :
    wpAny (model W.prog W.w) A (call (.builtin "isinstance") [a, .type c.name]) (PM W mem s Q) E s := by
  have hk : ∀ tk, PM W mem s Q (.bool b) { s with toks := tk } := fun tk => PM.val R.m .mkBool hq tk
  revert hk
  clear hq
  revert h
  cases x with
  | none =>
    obtain rfl := hx.none'
    refine cls5 (P := fun c => isA mem .none c = some b → _ → wpAny (model W.prog W.w) A (call (.builtin "isinstance") [.none, .type c.name]) (PM W mem s Q) E s) ?_ ?_ ?_ ?_ ?_ hc
    all_goals (intro h hk; cases h)
    · exact IsiPair.NoneType_int (hk _)
    · exact IsiPair.NoneType_bool (hk _)
    · exact IsiPair.NoneType_list (hk _)
    · exact IsiPair.NoneType_tuple (hk _)
    · exact IsiPair.NoneType_str (hk _)
  | bool i =>
    obtain rfl := hx.bool
    refine cls5 (P := fun c => isA mem (.bool i) c = some b → _ → wpAny (model W.prog W.w) A (call (.builtin "isinstance") [.bool i, .type c.name]) (PM W mem s Q) E s) ?_ ?_ ?_ ?_ ?_ hc
    all_goals (intro h hk; cases h)
    · exact IsiPair.bool_int (hk s.toks)
    · exact IsiPair.bool_bool (hk s.toks)
    · exact IsiPair.bool_list (hk _)
    · exact IsiPair.bool_tuple (hk _)
    · exact IsiPair.bool_str (hk _)
  | int i =>
    obtain ⟨t, rfl⟩ := hx.int
    refine cls5 (P := fun c => isA mem (.int i) c = some b → _ → wpAny (model W.prog W.w) A (call (.builtin "isinstance") [.int i t, .type c.name]) (PM W mem s Q) E s) ?_ ?_ ?_ ?_ ?_ hc
    all_goals (intro h hk; cases h)
    · exact IsiPair.int_int (hk s.toks)
    · exact IsiPair.int_bool (hk _)
    · exact IsiPair.int_list (hk _)
    · exact IsiPair.int_tuple (hk _)
    · exact IsiPair.int_str (hk _)
  | tup vs =>
    obtain ⟨d, ws, rfl, ⟨o, ho, hcl, _⟩, _⟩ := hx
    refine cls5 (P := fun c => isA mem (.tup vs) c = some b → _ → wpAny (model W.prog W.w) A (call (.builtin "isinstance") [.ref d, .type c.name]) (PM W mem s Q) E s) ?_ ?_ ?_ ?_ ?_ hc
    all_goals (intro h hk; cases h)
    · exact IsiPair.tuple_int ho hcl (hk _)
    · exact IsiPair.tuple_bool ho hcl (hk _)
    · exact IsiPair.tuple_list ho hcl (hk _)
    · exact IsiPair.tuple_tuple ho hcl (hk s.toks)
    · exact IsiPair.tuple_str ho hcl (hk _)
  | ref d =>
    obtain rfl := hx.ref
    intro h
    have h : (mem d).bind (fun o => o.isA c.code) = some b := h
    obtain ⟨o, q, h⟩ := Option.bind_eq_some_iff.mp h
    cases o with
    | inst _ => exact no h
    | flds _ => exact no h
    | dict0 =>
      obtain rfl : false = b := Option.some.inj h
      obtain ⟨⟨o, es, n, hn, hcl, _⟩, _⟩ := R.m.mems d _ q
      refine cls5 (P := fun c => (∀ tk, PM W mem s Q (.bool false) { s with toks := tk }) → wpAny (model W.prog W.w) A (call (.builtin "isinstance") [.ref d, .type c.name]) (PM W mem s Q) E s) ?_ ?_ ?_ ?_ ?_ hc
      all_goals intro hk
      · exact IsiPair.dict_int hn hcl (hk _)
      · exact IsiPair.dict_bool hn hcl (hk _)
      · exact IsiPair.dict_list hn hcl (hk _)
      · exact IsiPair.dict_tuple hn hcl (hk _)
      · exact IsiPair.dict_str hn hcl (hk _)
    | list xs =>
    obtain rfl : (c.code == 2) = b := Option.some.inj h
    clear h
    obtain ⟨vs, n, hn, _⟩ := mem_plain R.m q
    refine cls5 (P := fun c => (∀ tk, PM W mem s Q (.bool (c.code == 2)) { s with toks := tk }) → wpAny (model W.prog W.w) A (call (.builtin "isinstance") [.ref d, .type c.name]) (PM W mem s Q) E s) ?_ ?_ ?_ ?_ ?_ hc
    all_goals intro hk
    · exact IsiPair.list_int hn rfl (hk _)
    · exact IsiPair.list_bool hn rfl (hk _)
    · exact IsiPair.list_list hn rfl (hk s.toks)
    · exact IsiPair.list_tuple hn rfl (hk _)
    · exact IsiPair.list_str hn rfl (hk _)
  | frz _ => intro h; exact no h
  | str i =>
    obtain ⟨t, rfl⟩ := hx.str
    refine cls5 (P := fun c => isA mem (.str i) c = some b → _ → wpAny (model W.prog W.w) A (call (.builtin "isinstance") [.str i t, .type c.name]) (PM W mem s Q) E s) ?_ ?_ ?_ ?_ ?_ hc
    all_goals (intro h hk; cases h)
    · exact IsiPair.str_int (hk _)
    · exact IsiPair.str_bool (hk _)
    · exact IsiPair.str_list (hk _)
    · exact IsiPair.str_tuple (hk _)
    · exact IsiPair.str_str (hk s.toks)

theorem small_range {n : Int} (h : 0 ≤ n ∧ n < lid) : Builtin.Range.small 0 n 1 = true ∧ Builtin.Range.rangeSize 0 n 1 = ((n.toNat : Nat) : Int) := by
  unfold lid at h
  have e : Builtin.Range.rangeSize 0 n 1 = ((n.toNat : Nat) : Int) := by
    unfold Builtin.Range.rangeSize
    simp
    omega
  refine ⟨?_, e⟩
  unfold Builtin.Range.small
  rw [e]
  simp [Builtin.Range.rangeFitsLong]
  omega

theorem lrange_sound (R : Rel W env vis loc mem s) {k : Nat} (hr : Room k A) {n : Int} {t : Tok} (hl : 0 ≤ n ∧ n < lid) (h : freshL mem (rangeV n) Q) :
    wpAny (model W.prog W.w) A (call (.type "range") [.int n t]) (fun r s' => wpAny (model W.prog W.w) A (call (.type "list") [r]) (PM W mem s Q) E s') E s := by
  refine call_range_1 ?_
  have hn' := small_range hl
  have k1 : KeepL env.locals s.heap (s.heap.push { cls := .type "range", data := .fields #[.int 0 s.toks, .int n t, .int 1 (s.toks + 1)] }) := .push _
  have R' : Rel W env vis loc mem { s with heap := s.heap.push { cls := .type "range", data := .fields #[.int 0 s.toks, .int n t, .int 1 (s.toks + 1)] }, toks := s.toks + 1 + 1 } := R.step (R.keepM k1) (R.keepS k1)
  obtain ⟨m, hn⟩ := R'.hasNs
  obtain ⟨F, N⟩ := fr_all hn
  refine list_rangeD hr.handled F N (IsRange.new ..) hn'.1 hn'.2 (by unfold lid at hl; omega) fun h' tk ys F' N' hk _ hl' hp hc => ?_
  have k2 := KeepL.of_fr hn F' N' fun p hp => hp
  obtain ⟨⟨c', hc'⟩, _⟩ := hp
  refine PM.trans (s' := { s with heap := s.heap.push { cls := .type "range", data := .fields #[.int 0 s.toks, .int n t, .int 1 (s.toks + 1)] }, toks := s.toks + 1 + 1 }) (R.keepS k1) ?_
  refine freshL_sound R' k2 (size_none _) hc' ?_ h
  have := range_ints (W := W) (h := s.heap.push { cls := .type "range", data := .fields #[.int 0 s.toks, .int n t, .int 1 (s.toks + 1)] }) n.toNat hc
  have e : rangeV (n.toNat : Nat) = rangeV n := by unfold rangeV; rw [Int.toNat_natCast]
  rw [e] at this; exact this

end TD

namespace TD
open PySem PyProof.Rows

theorem rev_len : typeLookup (.type "list_reverseiterator") "__len__" = pure none := by rw [typeLookup_type, builtinLookup_eq_fast]; kernel_rfl
theorem rev_hint : typeLookup (.type "list_reverseiterator") "__length_hint__" = pure (some (.builtin "list_reverseiterator.__length_hint__")) := by rw [typeLookup_type, builtinLookup_eq_fast]; kernel_rfl
theorem rev_self : isSubtype (.type "list_reverseiterator") (.type "list_reverseiterator") = pure true := by rw [isSubtype_type]; kernel_rfl

section
variable {prog : Program} {w : World} {A : Around} {E : Value → Shared → Prop} {s : Shared} {R : Result → Shared → Prop}

theorem rev_silent {I l : Addr} {i : Int} (hit : s.heap.IsRevIter I l i) {Q : Bool → Shared → Prop} (h : Q false s) : wpAny (model prog w) A (Builtin.List.listLengthHint (.ref I)) Q E s := by
  unfold Builtin.List.listLengthHint
  refine wpAny_bind (wpAny_specialOf hit.typeIs rev_len ?_)
  show wpAny _ A (specialOf (Value.ref I) (Str.ofString "__length_hint__") >>= _) _ _ _
  refine wpAny_bind (wpAny_specialOf hit.typeIs rev_hint ?_)
  generalize hid : ("list_reverseiterator.__length_hint__" : String) = id0
  wp_delta
  rw [show splitId id0 = some ("list_reverseiterator", "__length_hint__") from by subst hid; decide +kernel]
  subst hid
  refine wpAny_bind (wpAny_isInstance (T := "list_reverseiterator") (b := true) hit.typeIs rev_self ?_)
  refine wpAny_ite_split (fun hab => absurd hab (by decide)) (fun _ => ?_)
  refine wpAny_ite_split (fun _ => ?_) (fun hab => absurd (show _ = true by kernel_rfl) hab)
  refine wpAny_ite_split (fun hab => absurd hab (by decide +kernel)) (fun _ => wpAny_pure h)
theorem list_rev {I l : Addr} {items : Array Value} (hh : A.handled = none) (hne : l ≠ I) (hit : s.heap.IsRevIter I l ((items.size : Int) - 1)) (hl : s.heap.IsList l items) (hn : items.size ≤ sizeLine) {Q : Value → Shared → Prop}
    (hQ : ∀ h' tk acc' c', (∀ b o, b ≠ I → s.heap.get? b = some o → h'.get? b = some o) → h'.get? s.heap.objs.size = some { cls := .type "list", dict := none, data := .seq acc' c', slots := #[] } →
      ItemsOf (fun i v => items[items.size - 1 - i]? = some v) acc' items.size → Q (.ref s.heap.objs.size) { s with heap := h', toks := tk }) : wpAny (model prog w) A (call (.type "list") [.ref I]) Q E s := by
  have lt : ∀ {b : Addr} {o : Obj}, s.heap.get? b = some o → b ≠ s.heap.objs.size := fun e => Nat.ne_of_lt (Heap.lt_size e)
  have hIl : I ≠ s.heap.objs.size := by obtain ⟨o, e, _⟩ := hit; exact lt e
  have hll : l ≠ s.heap.objs.size := by obtain ⟨o, e, _⟩ := hl; exact lt e
  have WK := (Walks.listRev (prog := prog) (w := w) (A := A.in1.in1) hh I l hne items).toS
  have hfp : s.heap.objs.size ∉ [I, l] := fun q => by
    rcases List.mem_cons.mp q with q | q
    · exact hIl q.symm
    · exact hll (List.mem_singleton.mp q).symm
  refine callType_codes (Q₁ := fun obj s₁ => obj = .ref s.heap.objs.size ∧ s₁ = { s with heap := s.heap.push { cls := .type "list", data := .seq #[] } }) F.called_list (F.typeCall_list_1 _) F.entry_list_init (code_list_new _ ⟨rfl, rfl⟩) fun obj s₁ h₁ => ?_
  obtain ⟨rfl, rfl⟩ := h₁
  have hS : (s.heap.push { cls := .type "list", data := .seq #[] }).get? s.heap.objs.size = some { cls := .type "list", data := .seq #[] } := Heap.get?_push_size _ rfl
  refine ⟨⟨_, hS, rfl⟩, F.args_list_init_2 _ _, ?_⟩
  generalize hS0 : s.heap.objs.size = S at hS hfp hIl hll hQ ⊢
  have k0 : ∀ b o, s.heap.get? b = some o → (s.heap.push { cls := .type "list", data := .seq #[] }).get? b = some o := fun b o e => Heap.get?_push_of_some _ e
  generalize s.heap.push { cls := .type "list", data := .seq #[] } = h0 at hS k0
  show wpAny _ A.in1.in1 (do let old ← Builtin.List.listItems (.ref S); Builtin.List.listUpdate (.ref S) (fun _ => #[]); letGo old.toList.reverse; Builtin.List.listExtendWith (.ref S) (.ref I) .none) _ _ _
  refine wpAny_bind ?_
  unfold Builtin.List.listItems
  refine wpAny_bind (wpAny_seqItems hS rfl (wpAny_pure ?_))
  show wpAny _ A.in1.in1 (updateSeq S (fun _ => #[]) >>= fun _ => letGo (#[] : Array Value).toList.reverse >>= fun _ => Builtin.List.listExtendWith (.ref S) (.ref I) .none) _ _ _
  refine wpAny_bind (wpAny_updateSeq hS rfl ?_)
  have hS2 := Heap.get?_update_self (Obj.mapSeq (fun _ => (#[] : Array Value))) hS rfl
  have k2 : ∀ b o, b ≠ S → s.heap.get? b = some o → (h0.update S (Obj.mapSeq (fun _ => (#[] : Array Value)))).get? b = some o := fun b o hb e => (Heap.get?_update_other _ _ (Ne.symm hb)).trans (k0 b o e)
  refine wpAny_bind (wpAny_letGo ?_)
  have hit2 : (h0.update S (Obj.mapSeq (fun _ => (#[] : Array Value)))).IsRevIter I l ((items.size : Int) - 1) := hit.at fun o e => k2 I o hIl e
  have hl2 : (h0.update S (Obj.mapSeq (fun _ => (#[] : Array Value)))).IsList l items := hl.at fun o e => k2 l o hll e
  generalize h0.update S (Obj.mapSeq (fun _ => (#[] : Array Value))) = h2 at hS2 k2 hit2 hl2
  unfold Builtin.List.listExtendWith
  refine wpAny_bind (wpAny_typeOf (T := "list_reverseiterator") hit2.typeIs ?_)
  have h1 : Builtin.List.listSameRef (.ref S) (.ref I) = false := by simp [Builtin.List.listSameRef, Ne.symm hIl]
  simp only [h1, show (Value.type "list_reverseiterator" == Value.type "list") = false by decide, show (Value.type "list_reverseiterator" == Value.type "tuple") = false by decide, Bool.or_false, Bool.false_eq_true, if_false]
  have st0 : (0 : Nat) ≤ items.size ∧ h2.IsRevIter I l ((items.size : Int) - 1 - ((0 : Nat) : Int)) ∧ h2.IsList l items := ⟨Nat.zero_le _, by rw [show (items.size : Int) - 1 - ((0 : Nat) : Int) = (items.size : Int) - 1 by omega]; exact hit2, hl2⟩
  refine wpAny_bind (WK.self 0 _ _ _ st0 ?_)
  refine wpAny_bind (wpAny_holding (rev_silent hit2 ?_))
  refine wpAny_ite_split (fun q => absurd q (by decide)) fun _ => ?_
  refine wpAny_pure ⟨plainId_quiet F.plain_extend_loop _, codeAny_extend_loopS WK hn S hfp _ items.size 0 _ _ _ rfl (Nat.zero_le _) st0 hS2 (ItemsOf.nil _) fun s' acc' c' hm hS' hacc => ?_⟩
  rw [Moved.eq_with hm]
  refine ⟨rfl, hQ s'.heap s'.toks acc' c' (fun b o hb e => hm.heap b o (fun hmem => ?_) (k2 b o (hS0 ▸ lt e) e)) hS' hacc⟩
  rcases List.mem_cons.mp hmem with q | q
  · exact lt e (q.trans hS0.symm)
  · exact hb (List.mem_singleton.mp q)
end
section
variable {W : Cx} {A : Around} {E : Value → Shared → Prop} {env : Env} {vis : List (Nat × Str)} {loc : Loc} {mem : Mem} {s : Shared} {Q : Val → Mem → Prop}
theorem VRels.rev {W : Cx} {h : Heap} : ∀ {xs : List Val} {vs : List Value}, VRels W h xs vs → VRels W h xs.reverse vs.reverse := by
  intro xs
  induction xs with
  | nil => intro vs r; obtain rfl := r.inv0; rfl
  | cons x xs ih =>
    intro vs r
    obtain ⟨y, ys, rfl, r1, r2⟩ := r.inv
    rw [List.reverse_cons, List.reverse_cons]
    have h1 : VRels W h [x] [y] := Exists.intro y ⟨[], rfl, r1, rfl⟩
    exact h1.append (ih r2)
theorem lrev_sound (R : Rel W env vis loc mem s) {k : Nat} (hr : Room k A) {a : Addr} {xs : List Val} (e : mem a = some (.list xs)) (hl : xs.length < lid) (h : freshL mem xs.reverse Q) :
    wpAny (model W.prog W.w) A (call (.type "reversed") [.ref a]) (fun r s' => wpAny (model W.prog W.w) A (call (.type "list") [r]) (PM W mem s Q) E s') E s := by
  obtain ⟨vs, n, ha, hv⟩ := mem_plain R.m e
  have hlen := hv.length
  have hL : s.heap.IsList a vs.toArray := ⟨_, ha, rfl, n, rfl⟩
  refine call_reversed_list hL ?_
  have hne : a ≠ s.heap.objs.size := Nat.ne_of_lt (Heap.lt_size ha)
  have kp : ∀ b o, s.heap.get? b = some o → (s.heap.push (revObj a ((vs.toArray.size : Int) - 1))).get? b = some o := fun b o e => Heap.get?_push_of_some _ e
  have hit : (s.heap.push (revObj a ((vs.toArray.size : Int) - 1))).IsRevIter s.heap.objs.size a ((vs.toArray.size : Int) - 1) := ⟨_, Heap.get?_push_size _ rfl, rfl, rfl⟩
  have hsz : (s.heap.push (revObj a ((vs.toArray.size : Int) - 1))).objs.size = s.heap.objs.size + 1 := Array.size_push ..
  refine list_rev (l := a) (items := vs.toArray) hr.handled hne hit (hL.at fun o e => kp a o e) (by rw [List.size_toArray, hlen]; exact lid_line hl) fun h' tk acc' c' hk hS hacc => ?_
  have hk' : ∀ b o, s.heap.get? b = some o → h'.get? b = some o := fun b o e => hk b o (Nat.ne_of_lt (Heap.lt_size e)) (kp b o e)
  have hac : acc' = vs.reverse.toArray := by
    obtain ⟨h1, h2⟩ := hacc
    have h1 : acc'.size = vs.length := h1
    refine Array.ext (by rw [h1, List.size_toArray, List.length_reverse]) fun i hi hi' => ?_
    have h3 := h2 i _ (Array.getElem?_eq_getElem hi)
    rw [h1] at hi
    rw [List.size_toArray, List.getElem?_toArray] at h3
    have h4 : vs.reverse[i]? = vs[vs.length - 1 - i]? := List.getElem?_reverse hi
    rw [h3] at h4
    rw [List.size_toArray] at hi'
    rw [List.getElem?_eq_getElem hi'] at h4
    exact (Option.some.inj h4).symm
  rw [hac] at hS
  exact freshL_sound R (.of_keeps hk') (by cases q : s.heap.get? (s.heap.push (revObj a ((vs.toArray.size : Int) - 1))).objs.size with | none => rfl | some o => have := Heap.lt_size q; exact absurd this (by rw [hsz]; exact Nat.not_lt.mpr (Nat.le_succ _))) hS hv.rev h
end
end TD

namespace TD
open PySem PyProof.Rows
variable {W : Cx} {A : Around} {E : Value → Shared → Prop} {env : Env} {vis : List (Nat × Str)} {loc : Loc} {mem : Mem} {s : Shared} {Q : Val → Mem → Prop}

theorem getMethod_str {name : Str} {id : String} {pl : Sem Bool} {x : Str} {t : Tok} (slot : Slot "str" name id) (hty : typeOf (.builtin id) = pure (.type "method_descriptor"))
    {P : Value × List Value → Shared → Prop} (h : P (.builtin id, [.str x t]) s) : wpAny (model W.prog W.w) A (getMethod (.str x t) name pl) P E s :=
  getMethod_builtin (typeIs_str _ _ _) PySem.F.plainAttrs_str slot hty (fun b q => by cases q) h
theorem strs_of {h : Heap} : ∀ {ts : List Str} {vs : List Value}, VRels W h (ts.map .str) vs → ∃ l : List (Str × Tok), vs = strValues l ∧ l.map (·.1) = ts
  | [], vs, r => ⟨[], r, rfl⟩
  | t :: ts, vs, r => by
    obtain ⟨y, ys, rfl, h1, h2⟩ := r
    obtain ⟨l, rfl, rfl⟩ := strs_of h2
    obtain ⟨k, rfl⟩ := VRel.str h1
    exact ⟨(t, k) :: l, rfl, rfl⟩
theorem join_sound (R : Rel W env vis loc mem s) {a : Addr} {ts : List Str} {c : Str} {t : Tok} (e : mem a = some (.list (ts.map .str))) (hw : (ts.map (·.length)).sum + ts.length < lid) (hs : c.length ≤ 16) (hq : Q (.str (Str.join c ts)) mem) :
    wpAny (model W.prog W.w) A (call (.builtin "str.join") [.str c t, .ref a]) (PM W mem s Q) E s := by
  obtain ⟨vs, n, hn, r⟩ := mem_plain R.m e
  obtain ⟨l, rfl, hl⟩ := strs_of r
  refine SC.join ⟨_, hn, rfl, n, rfl⟩ hl (joinOk_of_weight (by unfold lid at hw; omega) hs) fun t' k => ?_
  unfold Txt.join
  rw [StrLaws.glued_eq_join]
  exact PM.val R.m .mkStr hq k
theorem fstr_sound (R : Rel W env vis loc mem s) {i : Int} {t : Tok} {c : Str} {kc : Nat} {pc : Pos} {P : Value → Shared → Prop} (ht : tiny i) (hl : (Str.ofString (toString i)).length + c.length < lid) (h : ∀ t' tk, P (.str (Str.empty ++ Str.ofString (toString i) ++ c) t') { s with toks := tk }) :
    wpAny (model W.prog W.w) A (formatField (.int i t) Str.empty) (fun v s₁ => match v with | .str y _ => (Str.empty ++ y).length ≤ sizeLine ∧ wpAny (model W.prog W.w) A (joinParts (Str.empty ++ y) (eval (.Constant (.str c) kc pc) env :: evalEach [] env)) P E s₁ | _ => False) E s := by
  have hE : ∀ x : Str, (Str.empty ++ x) = x := fun x => Str.append_left_empty (x := Str.empty) (y := x) rfl
  refine formatField_int_small (tiny_log ht) ⟨?_, ?_⟩
  · rw [hE]; exact lid_line (by unfold lid at hl ⊢; omega)
  · refine joinParts_cons (wpAny_Constant_str ⟨?_, joinParts_nil (h _ _) ?_⟩)
    · rw [hE, strLen_append]; exact lid_line hl
    · rw [hE, strLen_append]; exact lid_line hl
end TD

namespace TD
open PySem PyProof.Rows
variable {W : Cx} {A : Around} {E : Value → Shared → Prop} {env : Env} {vis : List (Nat × Str)} {loc : Loc} {mem : Mem} {s : Shared} {Q : Val → Mem → Prop}

noncomputable def ScOk (sc : Scope) (env : Env) : Prop := ∀ x k, sc.names.lookup x = some k → (k = .free → env.kindOf x = some .free ∨ env.kindOf x = some .cell) ∧ (k ≠ .free → env.kindOf x = some k)
theorem ScOk.self (env : Env) : ScOk env.scope env := fun x k h => ⟨fun e => .inl (e ▸ h), fun _ => h⟩

noncomputable def biNames : List String := ["len", "all", "sum", "max", "min", "list", "tuple", "sorted", "int", "str", "range", "reversed", "set", "isinstance", "enumerate", "bool", "ValueError"]

structure CxOk (W : Cx) (G : String → Option Val) : Prop where
  g : W.base.Ns mainGlobals W.mg
  b : W.base.Ns builtinsNs W.mb
  nolimit : W.base.NoLimit
  bi : ∀ x : Str, x ≠ "__name__" → W.mb x = bootBuiltins x
  bmiss : ∀ x ∈ biNames, W.mg (Str.ofString x) = none
  gl : ∀ x v, G x = some v → ∃ i t, v = .int i ∧ W.mg (Str.ofString x) = some (.int i t)

theorem gName_spec {sc : Scope} {n : String} {x : Str} (h : gName sc n x = true) : x = Str.ofString n ∧ sc.names.lookup x = some .globalImplicit ∧ okName x = true := by
  unfold gName isGlob at h
  simp only [Bool.and_eq_true, beq_iff_eq] at h
  exact ⟨h.1.1, h.1.2, h.2⟩
theorem okName_spec {x : Str} (h : okName x = true) : (x == ("__debug__" : Str)) = false ∧ (x == ("__classdict__" : Str)) = false := by
  unfold okName at h
  simp only [Bool.and_eq_true, Bool.not_eq_true'] at h
  exact h.1
theorem gName_empty {sc : Scope} {x : Str} (h : gName sc "" x = true) : False := by
  obtain ⟨rfl, _, hn⟩ := gName_spec h
  unfold okName at hn
  simp only [Bool.and_eq_true, Bool.not_eq_true'] at hn
  exact absurd hn.2 (by decide)

theorem global_sound (R : Rel W env vis loc mem s) {G : String → Option Val} (ok : CxOk W G) {sc : Scope} (hsc : ScOk sc env) {n : String} {x : Str} (h : gName sc n x = true) {v : Value} (hv : W.mg (Str.ofString n) = some v) {P : Value → Shared → Prop} (hq : P v s) {pos : Pos} :
    wpAny (model W.prog W.w) A (eval (.Name x pos) env) P E s := by
  obtain ⟨rfl, hk, hn⟩ := gName_spec h
  refine Calls.Name_function_global R.e.kind ((hsc _ _ hk).2 (by simp)) ?_ (okName_spec hn).1
  exact Calls.loadGlobal_global (by rw [R.e.glob]; exact ok.g.keeps R.m.stays) hv hq
theorem builtin_sound (R : Rel W env vis loc mem s) {G : String → Option Val} (ok : CxOk W G) {sc : Scope} (hsc : ScOk sc env) {n : String} {x : Str} (h : gName sc n x = true) (hb : n ∈ biNames) {v : Value} (hv : bootBuiltins (Str.ofString n) = some v) {P : Value → Shared → Prop} (hq : P v s) {pos : Pos} :
    wpAny (model W.prog W.w) A (eval (.Name x pos) env) P E s := by
  obtain ⟨rfl, hk, hn⟩ := gName_spec h
  refine Calls.Name_function_global R.e.kind ((hsc _ _ hk).2 (by simp)) ?_ (okName_spec hn).1
  refine Calls.loadGlobal_builtin (by rw [R.e.glob]; exact ok.g.keeps R.m.stays) (ok.bmiss n hb) (by rw [R.e.blt]; exact ok.b.keeps R.m.stays) ?_ hq
  rw [ok.bi _ ?_, hv]
  rintro q
  have : n ≠ "__name__" := by rintro rfl; simp [biNames] at hb
  exact this (by
    revert q
    simp only [biNames, List.mem_cons, List.not_mem_nil, or_false] at hb
    rcases hb with rfl | rfl | rfl | rfl | rfl | rfl | rfl | rfl | rfl | rfl | rfl | rfl | rfl | rfl | rfl | rfl | rfl <;> decide +kernel)

theorem isLoc_spec {sc : Scope} {x : Str} (h : isLoc sc x = true) : sc.names.lookup x = some .local ∨ sc.names.lookup x = some .cell ∨ sc.names.lookup x = some .free := by
  unfold isLoc at h
  split at h <;> first | (simp_all; done) | cases h

theorem name_sound (R : Rel W env vis loc mem s) {sc : Scope} (hsc : ScOk sc env) {i : Nat} {x : Str} (hvis : vis.lookup i = some x) (hl : isLoc sc x = true) (hn : okName x = true) {v : Val} (hv : getV loc i = some v) (hq : Q v mem) {pos : Pos} :
    wpAny (model W.prog W.w) A (eval (.Name x pos) env) (PM W mem s Q) E s := by
  have hm : (i, x) ∈ vis := by
    clear R
    induction vis with
    | nil => simp at hvis
    | cons p r ih =>
      obtain ⟨j, y⟩ := p
      rw [List.lookup_cons] at hvis
      split at hvis
      · rename_i q; cases hvis; rw [beq_iff_eq] at q; subst q; exact .head _
      · exact .tail _ (ih hvis)
  refine wpAny_Name ?_ (okName_spec hn).1
  have cellCase : ∀ k, env.kindOf x = some k → k = .cell ∨ k = .free → wpAny (model W.prog W.w) A (loadName env x) (PM W mem s Q) E s := fun k hk hc => by
    obtain ⟨c, y, h1, h2, h3⟩ := R.e.cell i x v k hm hv hk hc
    rcases hc with rfl | rfl
    · exact wpAny_loadName_cell R.e.kind hk h1 h2 (PM.here R.m h3 hq)
    · exact wpAny_loadName_free R.e.kind hk h1 h2 (PM.here R.m h3 hq) (okName_spec hn).2
  rcases isLoc_spec hl with h | h | h
  · have hk := (hsc _ _ h).2 (by simp)
    obtain ⟨m, hns, hr⟩ := R.e.ns
    obtain ⟨y, h1, h2⟩ := hr i x v hm hv hk
    exact wpAny_loadName_local R.e.kind hk hns h1 (PM.here R.m h2 hq)
  · exact cellCase _ ((hsc _ _ h).2 (by simp)) (.inl rfl)
  · rcases (hsc _ _ h).1 rfl with hk | hk
    · exact cellCase _ hk (.inr rfl)
    · exact cellCase _ hk (.inl rfl)

theorem star_plain {e : Expr} {rest : List Expr} (h : ∀ a p, e ≠ .Starred a p) : starEach (e :: rest) env = (false, eval e env) :: starEach rest env := by
  cases e <;> first | rfl | (exact absurd rfl (h _ _))

end TD

namespace TD
open PySem PyProof.Rows PySem.W

structure Exc (h0 : Heap) (cls : Value) (a : Addr) (h : Heap) : Prop where
  new : h0.get? a = none
  obj : ∃ oe vs a0, h.get? a = some oe ∧ oe.cls = cls ∧ oe.data = .fields vs ∧ vs[0]? = some a0 ∧
    (vs[1]? = some .none ∨ ∃ T oT ts, h0.get? T = none ∧ vs[1]? = some (.ref T) ∧ T ≠ a ∧ h.get? T = some oT ∧ oT.data = .fields ts ∧ ts[3]? = some .none)
theorem Exc.back {h0 h1 h : Heap} {cls : Value} {a : Addr} (x : Exc h1 cls a h) (k : ∀ b, h1.get? b = none → h0.get? b = none) : Exc h0 cls a h := by
  obtain ⟨n, oe, vs, a0, e1, e2, e3, e4, q⟩ := x
  refine ⟨k _ n, oe, vs, a0, e1, e2, e3, e4, ?_⟩
  rcases q with q | ⟨T, oT, ts, q1, q⟩
  · exact .inl q
  · exact .inr ⟨T, oT, ts, k _ q1, q⟩

noncomputable def FrOk (base : Heap) (fs : List Env) (mem : Mem) (h : Heap) : Prop :=
  ∀ env ∈ fs, env.scope.kind = .function ∧ env.frame = some env.locals ∧ base.get? env.locals = none ∧ mem env.locals = none ∧ ∃ m, h.Ns env.locals m
noncomputable def frs (fs : List Env) : List Addr := fs.filterMap (·.frame)
theorem FrOk.mem {base : Heap} {fs : List Env} {mem : Mem} {h : Heap} (F : FrOk base fs mem h) {b : Addr} (hb : b ∈ frs fs) : base.get? b = none ∧ mem b = none ∧ ∃ m, h.Ns b m := by
  obtain ⟨env, he, hf⟩ := List.mem_filterMap.mp hb
  obtain ⟨_, h2, h3, h4, h5⟩ := F env he
  rw [h2] at hf
  cases hf
  exact ⟨h3, h4, h5⟩
theorem FrOk.funs {base B : Heap} {mem : Mem} {h : Heap} : ∀ {fs : List Env}, FrOk base fs mem h → (∀ b ∈ frs fs, B.get? b = none) → h.FunFrames B fs
  | [], _, _ => trivial
  | env :: r, F, k => by
    obtain ⟨h1, h2, h3, h4, m, hn⟩ := F env (.head _)
    refine Heap.FunFrames.cons (by rw [h1]; decide) h2 hn (k _ ?_) (FrOk.funs (fun e he => F e (.tail _ he)) fun b hb => k b ?_)
    · exact List.mem_filterMap.mpr ⟨env, .head _, h2⟩
    · obtain ⟨e, he, hf⟩ := List.mem_filterMap.mp hb
      exact List.mem_filterMap.mpr ⟨e, .tail _ he, hf⟩
theorem ns_alike {h : Heap} {b : Addr} {o : Obj} {m : Str → Option Value} (hn : h.Ns b m) (e : h.get? b = some o) (sl : Array (Option Value)) : Alike o { o with slots := sl } := by
  obtain ⟨o', es, ep, e', hd, r⟩ := hn
  rw [e] at e'
  cases e'
  exact .inr ⟨⟨m, es, ep, hd, r⟩, fun m' ⟨es', ep', hd', r'⟩ => ⟨es', ep', hd', r'⟩⟩
theorem ns_notFields {h : Heap} {b : Addr} {o : Obj} {m : Str → Option Value} (hn : h.Ns b m) (e : h.get? b = some o) : ∀ vs, o.data ≠ .fields vs := fun vs q => by
  obtain ⟨o', es, ep, e', hd, r⟩ := hn
  rw [e] at e'
  cases e'
  rw [hd] at q
  cases q

structure Kept (fs : List Env) (h0 h h' : Heap) : Prop where
  same : ∀ b o, h.get? b = some o → ((∀ vs, o.data ≠ .fields vs) ∨ h0.get? b ≠ none) → b ∉ frs fs → h'.get? b = some o
  fr : ∀ b o, h.get? b = some o → b ∈ frs fs → ∃ o', h'.get? b = some o' ∧ Alike o o'
theorem Kept.alike {fs : List Env} {h0 h h' : Heap} (K : Kept fs h0 h h') {b : Addr} {o : Obj} (e : h.get? b = some o) (k : (∀ vs, o.data ≠ .fields vs) ∨ h0.get? b ≠ none) : ∃ o', h'.get? b = some o' ∧ Alike o o' := by
  by_cases hb : b ∈ frs fs
  · exact K.fr b o e hb
  · exact ⟨o, K.same b o e k hb, .refl o⟩
theorem FrOk.kept {base : Heap} {fs gs : List Env} {mem : Mem} {h0 h h' : Heap} (F : FrOk base fs mem h) (K : Kept gs h0 h h') : FrOk base fs mem h' := fun env he => by
  obtain ⟨h1, h2, h3, h4, m, hn⟩ := F env he
  refine ⟨h1, h2, h3, h4, m, ?_⟩
  obtain ⟨o, es, ep, e, r⟩ := hn
  obtain ⟨o', e', a⟩ := K.alike e (.inl (ns_notFields ⟨o, es, ep, e, r⟩ e))
  obtain ⟨es', ep', r'⟩ := a.ns ⟨es, ep, r⟩
  exact ⟨o', es', ep', e', r'⟩
theorem Step.kept {D : Addr → Prop} {mem m' : Mem} {h0 h h' : Heap} {fs : List Env} (S : Step D mem h0 m' h) (K : Kept fs h0 h h') : Step D mem h0 m' h' := by
  refine ⟨fun b e => ?_, fun b o e hm hD => ?_, S.grow⟩
  · cases q : h0.get? b with
    | none => rfl
    | some o =>
      exfalso
      cases q1 : h.get? b with
      | none => rw [S.alive b q1] at q; cases q
      | some o1 =>
        obtain ⟨o', e', _⟩ := K.alike q1 (.inr (by rw [q]; exact fun z => nomatch z))
        rw [e] at e'; cases e'
  · obtain ⟨o1, e1, a1⟩ := S.keep b o e hm hD
    obtain ⟨o2, e2, a2⟩ := K.alike e1 (.inr (by rw [e]; exact fun z => nomatch z))
    exact ⟨o2, e2, a1.trans a2⟩
theorem ORel.notFields {W : Cx} {h : Heap} {b : Addr} {o : AObj} {x : Obj} (r : ORel W h b o) (e : h.get? b = some x) : ∀ vs, x.data ≠ .fields vs := by
  cases o with
  | list xs => obtain ⟨vs, ⟨n, hn⟩, _⟩ := r; rw [e] at hn; cases hn; exact fun _ q => nomatch q
  | dict0 => obtain ⟨o, es, n, hn, _, hd⟩ := r; rw [e] at hn; cases hn; exact fun _ q => by rw [hd] at q; cases q
  | inst d => obtain ⟨o, C, hn, _, _, _, _, hd, _⟩ := r; rw [e] at hn; cases hn; exact hd
  | flds fs => obtain ⟨mA, ⟨o, es, ep, hn, hd, _⟩, _⟩ := r; rw [e] at hn; cases hn; exact fun _ q => by rw [hd] at q; cases q
theorem MRel.kept {W : Cx} {m' : Mem} {s : Shared} {h0 h' : Heap} {fs : List Env} (M : MRel W m' s) (K : Kept fs h0 s.heap h') (F : FrOk W.base fs m' s.heap) (hb : W.base.StaysIn h0) : MRel W m' { s with heap := h' } := by
  have kf : KeepF s.heap h' := fun b o e hf => by
    have hd : ∀ vs, o.data ≠ .fields vs := fun vs q => by obtain ⟨_, xs, n, hx⟩ := hf; rw [hx] at q; cases q
    obtain ⟨o', e', a⟩ := K.alike e (.inl hd)
    rw [e', a.eq hf.notDict]
  refine ⟨fun b o e => ?_, fun b o e => ?_, M.gens, M.os⟩
  · exact K.same b o (M.stays b o e) (.inr (by rw [hb b o e]; exact fun z => nomatch z)) fun q => by rw [(F.mem q).1] at e; cases e
  · obtain ⟨r, n⟩ := M.mems b o e
    refine ⟨r.at (fun x hx => K.same b x hx (.inl (r.notFields hx)) fun q => by rw [(F.mem q).2.1] at e; cases e) kf, n⟩

end TD

namespace TD
open PySem PyProof.Rows PySem.W

theorem Kept.trans {fs : List Env} {h0 h h1 h2 : Heap} (x : Kept fs h0 h h1) (y : Kept fs h0 h1 h2) : Kept fs h0 h h2 := by
  refine ⟨fun b o e k hb => y.same b o (x.same b o e k hb) k hb, fun b o e hb => ?_⟩
  obtain ⟨o1, e1, a1⟩ := x.fr b o e hb
  obtain ⟨o2, e2, a2⟩ := y.fr b o1 e1 hb
  exact ⟨o2, e2, a1.trans a2⟩
structure ExcT (h0 : Heap) (cls : Value) (a : Addr) (fl : Value) (h : Heap) : Prop where
  new : h0.get? a = none
  obj : ∃ oe vs a0 T oT ts, h.get? a = some oe ∧ oe.cls = cls ∧ oe.data = .fields vs ∧ vs[0]? = some a0 ∧ h0.get? T = none ∧ vs[1]? = some (.ref T) ∧ T ≠ a ∧ h.get? T = some oT ∧ oT.data = .fields ts ∧ ts[3]? = some fl
theorem ExcT.exc {h0 h : Heap} {cls : Value} {a : Addr} (x : ExcT h0 cls a .none h) : Exc h0 cls a h := by
  obtain ⟨n, oe, vs, a0, T, oT, ts, e1, e2, e3, e4, q⟩ := x
  exact ⟨n, oe, vs, a0, e1, e2, e3, e4, .inr ⟨T, oT, ts, q⟩⟩

section
variable {M : Model} {A : Around} {E : Value → Shared → Prop} {s : Shared} {base h0 : Heap} {env : Env} {outer : List Env} {mem : Mem} {a : Addr} {cls : Value} {Q : Unit → Shared → Prop}

theorem noted_kept {fs : List Env} {l : List Addr} {a0 fl : Value} {h' : Heap} (F : FrOk base fs mem s.heap) (hnew : h0.get? a = none) (al : ∀ b, s.heap.get? b = none → h0.get? b = none)
    (hl : ∀ b ∈ l, ∃ ws o, s.heap.get? b = some o ∧ o.data = .fields ws ∧ h0.get? b = none) (k1 : (hideAll s.heap (l ++ frs fs)).StaysIn h') (k2 : h'.FunFrames (hideAll s.heap (l ++ frs fs)) fs)
    (k3 : h'.TracedAtW (hideAll s.heap (l ++ frs fs)) a cls a0 fl) (k4 : ∀ b o, s.heap.get? b = some o → (∀ vs, o.data ≠ .fields vs) → ∃ sl, h'.get? b = some { o with slots := sl }) :
    ExcT h0 cls a fl h' ∧ Kept fs h0 s.heap h' := by
  obtain ⟨oe', vs', T, oT, ts, t1, ⟨t2, t3⟩, t4, t5, t6, t7, t8, t9, t10⟩ := k3
  have hT0 : h0.get? T = none := by
    by_cases hm : T ∈ l ++ frs fs
    · rcases List.mem_append.mp hm with hm | hm
      · obtain ⟨_, _, _, _, hn⟩ := hl T hm
        exact hn
      · obtain ⟨_, o, e, hd⟩ := k2.mem hm
        rw [t8] at e
        cases e
        exact (hd ts t9).elim
    · refine al T ?_
      cases q : s.heap.get? T with
      | none => rfl
      | some o => rw [hideAll_get _ q hm] at t6; cases t6
  refine ⟨⟨hnew, oe', vs', a0, T, oT, ts, t1, t2, t4, t3, hT0, t5, t7, t8, t9, t10⟩, ⟨fun b o e hk hb => ?_, fun b o e hb => ?_⟩⟩
  · refine k1 b o (hideAll_get _ e fun hm => ?_)
    rcases List.mem_append.mp hm with hm | hm
    · obtain ⟨ws, o', e', hd, hn⟩ := hl b hm
      rw [e] at e'
      cases e'
      rcases hk with hk | hk
      · exact hk ws hd
      · exact hk hn
    · exact hb hm
  · obtain ⟨_, _, m, hn⟩ := F.mem hb
    obtain ⟨sl, hs⟩ := k4 b o e (ns_notFields hn e)
    exact ⟨_, hs, ns_alike hn e sl⟩

theorem exc_note (hfr : A.frames = some (env :: outer)) (F : FrOk base (env :: outer) mem s.heap) (X : Exc h0 cls a s.heap) (al : ∀ b, s.heap.get? b = none → h0.get? b = none)
    (hQ : ∀ h', ExcT h0 cls a (rawInt env.locals) h' → Kept (env :: outer) h0 s.heap h' → Q () { s with heap := h' }) : wpAny M A (noteFrame (.ref a) env) Q E s := by
  obtain ⟨hnew, oe, vs, a0, e1, e2, e3, e4, q⟩ := X
  have hf := (F env (.head _)).2.1
  subst e2
  have hB : ∀ l : List Addr, (hideAll s.heap l).StaysIn s.heap := fun l b o e => of_hideAll l e
  rcases q with q | ⟨T, oT, ts, t1, t2, t3, t4, t5, t6⟩
  · have hF := F.funs (B := hideAll s.heap ([a] ++ frs (env :: outer))) fun b hb => hideAll_none _ (List.mem_append_right _ hb)
    unfold noteFrame
    simp only [hf]
    refine wpAny_bind (wpAny_field e1 e3 q ?_)
    rw [if_neg (by decide)]
    refine wpAny_entryW hfr hF hf e1 (hB _) (hideAll_none _ (.head _)) e3 (Array.getElem?_eq_some_iff.mp q).1 e4 fun h' ⟨k1, k2, k3, k4⟩ => ?_
    obtain ⟨x, y⟩ := noted_kept (l := [a]) F hnew al (fun b hb => by
      cases List.mem_singleton.mp hb
      exact ⟨vs, oe, e1, e3, hnew⟩) k1 k2 k3 k4
    exact hQ h' x y
  · have hF := F.funs (B := hideAll s.heap ([a, T] ++ frs (env :: outer))) fun b hb => hideAll_none _ (List.mem_append_right _ hb)
    refine wpAny_noteFrame_onW hfr hF hf ⟨oe, vs, T, oT, ts, e1, ⟨rfl, e4⟩, e3, t2, hideAll_none _ (.tail _ (.head _)), t3, t4, t5, t6⟩ (hB _) (hideAll_none _ (.head _)) fun h' ⟨k1, k2, k3, k4⟩ => ?_
    obtain ⟨x, y⟩ := noted_kept (l := [a, T]) F hnew al (fun b hb => by
      rcases List.mem_cons.mp hb with rfl | hb
      · exact ⟨vs, oe, e1, e3, hnew⟩
      · cases List.mem_singleton.mp hb
        exact ⟨ts, oT, t4, t5, t1⟩) k1 k2 k3 k4
    exact hQ h' x y
theorem exc_land {fs : List Env} {fl : Value} (F : FrOk base fs mem s.heap) (X : ExcT h0 cls a fl s.heap) (al : ∀ b, s.heap.get? b = none → h0.get? b = none)
    (hQ : ∀ h', ExcT h0 cls a .none h' → Kept fs h0 s.heap h' → Q () { s with heap := h' }) : wpAny M A (setFlight (.ref a) none) Q E s := by
  obtain ⟨hnew, oe, vs, a0, T, oT, ts, e1, e2, e3, e4, t1, t2, t3, t4, t5, t6⟩ := X
  have hF := F.funs (B := hideAll s.heap ([a, T] ++ frs fs)) fun b hb => hideAll_none _ (List.mem_append_right _ hb)
  refine wpAny_setFlight_noneW (base := hideAll s.heap ([a, T] ++ frs fs)) (fun b o e => of_hideAll _ e) hF ⟨oe, vs, T, oT, ts, e1, ⟨e2, e4⟩, e3, t2, hideAll_none _ (.tail _ (.head _)), t3, t4, t5, t6⟩ fun h' k1 k2 k3 k4 => ?_
  obtain ⟨x, y⟩ := noted_kept (l := [a, T]) (fl := .none) F hnew al (fun b hb => by
    rcases List.mem_cons.mp hb with rfl | hb
    · exact ⟨vs, oe, e1, e3, hnew⟩
    · cases List.mem_singleton.mp hb
      exact ⟨ts, oT, t4, t5, t1⟩) k1 k2 k3 (fun b o e h => ⟨o.slots, k4 b o e h⟩)
  exact hQ h' x y
theorem Kept.al {fs : List Env} {h h' : Heap} (K : Kept fs h0 h h') (al : ∀ b, h.get? b = none → h0.get? b = none) : ∀ b, h'.get? b = none → h0.get? b = none := fun b e => by
  cases q : h0.get? b with
  | none => rfl
  | some o =>
    exfalso
    cases q1 : h.get? b with
    | none => rw [al b q1] at q; cases q
    | some o1 =>
      obtain ⟨o', e', _⟩ := K.alike q1 (.inr (by rw [q]; exact fun z => nomatch z))
      rw [e] at e'; cases e'
theorem exc_looked (hfr : A.frames = some (env :: outer)) (F : FrOk base (env :: outer) mem s.heap) (X : Exc h0 cls a s.heap) (al : ∀ b, s.heap.get? b = none → h0.get? b = none)
    (hQ : ∀ h', ExcT h0 cls a .none h' → Kept (env :: outer) h0 s.heap h' → Q () { s with heap := h' }) : wpAny M A (noteFrame (.ref a) env) (fun _ s₂ => wpAny M A (setFlight (.ref a) none) Q E s₂) E s :=
  exc_note hfr F X al fun h1 x1 k1 => exc_land (s := { s with heap := h1 }) (F.kept k1) x1 (k1.al al) fun h2 x2 k2 => hQ h2 x2 (k1.trans k2)
theorem exc_leaves (hfr : A.frames = some (env :: outer)) (F : FrOk base (env :: outer) mem s.heap) (X : Exc h0 cls a s.heap) (al : ∀ b, s.heap.get? b = none → h0.get? b = none)
    (hQ : ∀ h', ExcT h0 cls a .none h' → Kept (env :: outer) h0 s.heap h' → Q () { s with heap := h' }) : wpAny M A (leaving env (.ref a)) Q E s := by
  unfold leaving
  exact wpAny_bind (exc_looked hfr F X al hQ)
end
end TD

namespace TD
open PySem PyProof.Rows

noncomputable def bmV : List Value := [.type "ValueError", .type "Exception", .type "BaseException", .type "object"]
noncomputable def stillN : List Str := ["__init__", "__getattribute__", "__getattr__", "__class__"]
noncomputable def XCls (h : Heap) (C : Addr) (bm : List Value) : Prop :=
  ∃ nm q N bs hdct sn sub ab col dd k0 k1 k2 k3 k5, ∃ mN : Str → Option Value, h.get? C = some (excClassObj nm q C N bs bm hdct sn sub ab col dd k0 k1 k2 k3 k5 "ValueError.__new__") ∧ h.Ns N mN ∧ ∀ n ∈ stillN, mN n = none
theorem XCls.keeps {h h' : Heap} {C : Addr} {bm : List Value} (x : XCls h C bm) (hk : ∀ b o, h.get? b = some o → h'.get? b = some o) : XCls h' C bm := by
  obtain ⟨nm, q, N, bs, hdct, sn, sub, ab, col, dd, k0, k1, k2, k3, k5, mN, a, b, c⟩ := x
  exact ⟨nm, q, N, bs, hdct, sn, sub, ab, col, dd, k0, k1, k2, k3, k5, mN, hk _ _ a, b.keeps hk, c⟩
noncomputable def NamedAt (h : Heap) (C : Addr) (n : Str) : Prop := ∃ o cd, h.get? C = some o ∧ o.data = .cls cd ∧ cd.name = n
structure XAt (h : Heap) (D C : Addr) : Prop where
  d : XCls h D bmV
  c : XCls h C (.ref D :: bmV)

section
variable {M : Model} {prog : Program} {w : World} {A : Around} {E : Value → Shared → Prop} {h : Heap} {g : Array GenState} {d : Drawn} {t : Nat} {os : OsState} {a D C : Addr} {o : Obj}

end
end TD

namespace TD
open PySem PyProof.Rows PySem.W

noncomputable def ClsV (h : Heap) (c : Value) : Prop := c = .type "ValueError" ∨ ∃ C bm, c = .ref C ∧ XCls h C bm
structure XObj (h : Heap) (D C a : Addr) : Prop where
  at_ : XAt h D C
  obj : ∃ o, h.get? a = some o ∧ o.cls = .ref C
section
variable {prog : Program} {w : World} {A : Around} {E : Value → Shared → Prop} {s : Shared} {Q : Value → Shared → Prop} {D C a : Addr}
end
end TD

namespace TD
open PySem PyProof.Rows PySem.W

section
variable {M : Model} {A : Around} {E : Value → Shared → Prop} {h : Heap} {g : Array GenState} {d : Drawn} {t : Nat} {os : OsState} {e D C : Addr} {oe : Obj}
end
theorem XAt.tail {h : Heap} {D C : Addr} (X : XAt h D C) : OwnTail h bmV (.ref D :: bmV) := by
  obtain ⟨nm, q, N, bs, hdct, sn, sub, ab, col, dd, k0, k1, k2, k3, k5, mD, hD, hND, hmD⟩ := X.d
  exact .own hD hND (hmD _ (.head _)) .base
theorem XAt.keeps {h h' : Heap} {D C : Addr} (X : XAt h D C) (hk : ∀ b o, h.get? b = some o → h'.get? b = some o) : XAt h' D C := ⟨X.d.keeps hk, X.c.keeps hk⟩

section
variable {prog : Program} {w : World} {A : Around} {E : Value → Shared → Prop} {s : Shared} {env : Env} {D C : Addr}
theorem raise_own {x : Str} {np cpos pos p1 : Pos} {k1 : Nat} {g : Str} {Q : PySem.Flow → Shared → Prop} (hh : A.handled = none) (X : XAt s.heap D C)
    (hev : ∀ {P : Value → Shared → Prop}, P (.ref C) s → wpAny (model prog w) A (eval (.Name x np) env) P E s)
    (h : ∀ h' e vs tk, Heap.MadeExcOf s.heap h' e (.ref C) vs → E (.ref e) { s with heap := h', toks := tk }) :
    wpAny (model prog w) A (exec (.Raise (some (.Call (.Name x np) [.Constant (.str g) k1 p1] [] cpos)) none pos) env) Q E s := by
  obtain ⟨nm', q', N', bs', hdct', sn', sub', ab', col', dd', k0', k1', k2', k3', k5', mN, hC, hN, hmN⟩ := X.c
  refine wpAny_Raise_call_subT (nm := nm') (q := q') (N := N') (bs := bs') (hdct := hdct') (sn := sn') (sub := sub') (ab := ab') (col := col') (dd := dd') (k0 := k0') (k1 := k1') (k2 := k2') (k3 := k3') (k5 := k5') F.excBase_ValueError (bm := .ref D :: bmV) (by rw [List.contains_cons, show bmV.contains (.type "BaseException") = true by decide +kernel, Bool.or_true]) hh rfl (hmN _ (.head _)) (hev ⟨rfl, ?_⟩)
  refine Calls.evalArgs_plain (Calls.spliced_cons ?_)
  refine wpAny_Constant_str (k := k1) (pos := p1) (Calls.spliced_nil ?_)
  exact ⟨rfl, Nat.le_of_ble_eq_true rfl, hC, hN, X.tail, fun h' e hm => h h' e _ _ hm⟩
end
end TD

namespace TD
open PySem PyProof.Rows PySem.W

section
variable {prog : Program} {w : World} {A : Around} {E : Value → Shared → Prop} {s : Shared} {env : Env} {D C a : Addr} {base h0 : Heap} {outer : List Env} {mem : Mem}
end
end TD

namespace TD
open PySem PyProof.Rows

noncomputable def clsName : Nat → String
  | 6 => "DealError" | 7 => "BadTable" | 8 => "BadShares" | 9 => "BadHeir" | 10 => "BadThing" | 11 => "BadRing" | 12 => "BadOrder" | 13 => "Full" | 14 => "BadNote" | _ => ""
noncomputable def clsV (W : Cx) (k : Nat) : Value := (W.mg (Str.ofString (clsName k))).getD .none
noncomputable def ClsOk (W : Cx) : Prop := ∃ D, W.mg (Str.ofString "DealError") = some (.ref D) ∧ ∀ k, 7 ≤ k → k ≤ 14 → ∃ C, W.mg (Str.ofString (clsName k)) = some (.ref C) ∧ XAt W.base D C ∧ NamedAt W.base C (Str.ofString (clsName k))
noncomputable def XFr (W : Cx) (A : Around) (mem : Mem) (s : Shared) (X : Nat → Mem → Prop) (E : Value → Shared → Prop) : Prop :=
  (∃ fs, A.frames = some fs ∧ FrOk W.base fs mem s.heap) ∧ ClsOk W ∧ ∀ k m' a s', Exc s.heap (clsV W k) a s'.heap → MRel W m' s' → m' a = none → Step NoD mem s.heap m' s'.heap → X k m' → E (.ref a) s'
noncomputable def XOk (W : Cx) (A : Around) (mem : Mem) (s : Shared) (X : Nat → Mem → Prop) (E : Value → Shared → Prop) : Prop := (∀ k m, ¬ X k m) ∨ XFr W A mem s X E
noncomputable def quietE : List Str := [Str.ofString "__setattr__", Str.ofString "__getattribute__", Str.ofString "__getattr__", Str.ofString "rows", Str.ofString "held"]
noncomputable def EstAt (mg : Str → Option Value) (h : Heap) (C N : Addr) (mN : Str → Option Value) : Prop := mg (Str.ofString "Estate") = some (.ref C) ∧ PyProof.Rows.ClsAt h C N mN ∧ ∀ n ∈ quietE, mN n = none
noncomputable def EstC (mg : Str → Option Value) (h : Heap) : Prop := ∀ C, mg (Str.ofString "Estate") = some (.ref C) → ∃ N mN, EstAt mg h C N mN
noncomputable def FnAt (W : Cx) (fn : Fn) (a : Addr) (o : Obj) : Prop := (fn.own = false → W.mg (Str.ofString fn.name) = some (.ref a)) ∧ (fn.own = true → o.cls = .type "function" ∧ ∃ C N mN, EstAt W.mg W.base C N mN ∧ mN (Str.ofString fn.name) = some (.ref a))
noncomputable def Near (A A' : Around) : Prop := A' = A ∨ ∃ C vs, A' = A.under (.builtin "type.__call__" ⟨.ref C :: vs, []⟩)
noncomputable def CallOk (W : Cx) (FT : Nat → Option Fn) (ids : List Nat) (A : Around) (C : CallT) : Prop :=
  ∀ f ∈ ids, ∀ fn, FT f = some fn → ∃ a o fd, FnAt W fn a o ∧ W.base.get? a = some o ∧ o.data = .func fd ∧
    ∀ A', Near A A' → ∀ (vs : List Val) (args : List Value) (Q : Val → Mem → Prop) (X : Nat → Mem → Prop) (mem : Mem) (s : Shared) (E : Value → Shared → Prop), XOk W A' mem s X E → C f vs Q X mem → MRel W mem s → VRels W s.heap vs args →
      wpAny (model W.prog W.w) A' (call (.ref a) args) (PM W mem s Q) E s

structure SCx (W : Cx) (FT : Nat → Option Fn) (ids : List Nat) (G : String → Option Val) (n : Nat) (A : Around) (C : CallT) : Prop where
  ok : CxOk W G
  room : Room n A
  call : CallOk W FT ids A C
  est : EstC W.mg W.base

section
variable {W : Cx} {A : Around} {E : Value → Shared → Prop} {env : Env} {vis : List (Nat × Str)} {loc : Loc} {mem : Mem} {s : Shared} {Q : Val → Mem → Prop}

theorem then1 (R : Rel W env vis loc mem s) {t : Sem Value} {P : Value → Shared → Prop} (h : wpAny (model W.prog W.w) A t (PM W mem s Q) E s)
    (k : ∀ v y mem' s', VRel W s'.heap v y → Rel W env vis loc mem' s' → Step NoD mem s.heap mem' s'.heap → Q v mem' → P y s') : wpAny (model W.prog W.w) A t P E s :=
  wpAny_mono h (fun y s' p => by obtain ⟨v, mem', a, b, c, d⟩ := p; exact k v y mem' s' a (R.step b c) c d) fun _ _ x => x
theorem pmTrans {mem' : Mem} {s' s2 : Shared} {t : Sem Value} (x : Step NoD mem s.heap mem' s'.heap) (h : wpAny (model W.prog W.w) A t (PM W mem' s' Q) E s2) : wpAny (model W.prog W.w) A t (PM W mem s Q) E s2 :=
  wpAny_mono h (fun _ _ p => PM.trans x p) fun _ _ x => x
noncomputable def PT (W : Cx) (mem : Mem) (s : Shared) (P : Bool → Mem → Prop) (b : Bool) (s' : Shared) : Prop := ∃ mem', MRel W mem' s' ∧ Step NoD mem s.heap mem' s'.heap ∧ P b mem'
theorem PT.trans {mem' : Mem} {s' s'' : Shared} {P : Bool → Mem → Prop} {b : Bool} (x : Step NoD mem s.heap mem' s'.heap) (p : PT W mem' s' P b s'') : PT W mem s P b s'' := by
  obtain ⟨m2, a, c, d⟩ := p; exact ⟨m2, a, x.trans c, d⟩
theorem PM.test {P : Bool → Mem → Prop} {y : Value} {s' : Shared} (p : PM W mem s (asB P) y s') : ∃ b, y = .bool b ∧ PT W mem s P b s' := by
  obtain ⟨v, mem', a, b, c, d⟩ := p
  obtain ⟨t, rfl, d⟩ := d
  obtain rfl := a.bool
  exact ⟨t, rfl, mem', b, c, d⟩
theorem truth {P : Bool → Mem → Prop} {t : Sem Value} {P' : Bool → Shared → Prop} (h : wpAny (model W.prog W.w) A t (PM W mem s (asB P)) E s) (k : ∀ b s', PT W mem s P b s' → P' b s') :
    wpAny (model W.prog W.w) A t (fun v s₁ => wpAny (model W.prog W.w) A (truthy v) P' E s₁) E s :=
  wpAny_mono h (fun y s' p => by obtain ⟨b, rfl, q⟩ := p.test; exact wpAny_truthy_bool (k b s' q)) fun _ _ x => x
end

theorem behind_notSet {op : CmpOp} {e : Expr} (h : notSet e = true) : behindInMarks op e = false := by
  cases e <;> first | rfl | exact nb h

theorem notCall_base {o : Expr} {n : Str} {env : Env} {w : Sem Value} (h : notCall o = true) : attributeBase o n env w = w := by
  cases o <;> first | rfl | exact nb h

theorem method_call {M : Model} {A : Around} {E : Value → Shared → Prop} {s : Shared} {env : Env} {o : Expr} {name : Str} {ap p : Pos} {args : List Expr} {Q : Value → Shared → Prop} (hok : okAt o ap p = true) (hst : ∀ e ∈ args, ∀ a q, e ≠ .Starred a q) (hn : args.length < 29)
    (h : wpAny M A (eval o env) (fun ov s₁ => ∀ pl, wpAny M A (getMethod ov name pl) (fun fx s₂ => wpAny M A (callWith p fx.1 fx.2 (backTo p (starEach args env)) []) Q E s₂) E s₁) E s) :
    wpAny M A (eval (.Call (.Attribute o name ap) args [] p) env) Q E s := by
  unfold okAt at hok
  simp only [Bool.and_eq_true] at hok
  show wpAny M A (do
    let ov ← attributeBase o name env (eval o env)
    standAt ap.atName
    methodCall o name ap p env ov (args.length + 0) (backTo p (starEach args env)) []) Q E s
  rw [notCall_base hok.1]
  have hall : (backTo p (starEach args env)).all (!·.1) = true := by
    clear h hn
    induction args with
    | nil => rfl
    | cons e r ih =>
      rw [star_plain (hst e (.head _))]
      show ((!false) && (backTo p (starEach r env)).all (!·.1)) = true
      rw [ih fun e he => hst e (.tail _ he)]; rfl
  have hf : methodCallForm (args.length + 0) (backTo p (starEach args env)) [] = true := by
    unfold methodCallForm
    rw [hall]
    simp
    omega
  refine wpAny_bind (wpAny_mono h (fun ov s₁ h₁ => wpAny_bind (wpAny_standAt ?_)) fun _ _ x => x)
  unfold methodCall
  rw [hf]
  refine wpAny_bind (wpAny_holding ?_)
  unfold calleeOf
  simp only [if_true]
  refine wpAny_mono (h₁ _) (fun fx s₂ h₂ => ?_) fun _ _ x => x
  unfold methodCallPos
  rw [if_pos (by rw [hok.2]; simp)]
  exact wpAny_bind (wpAny_pure h₂)

end TD

namespace TD
open PySem PyProof.Rows

section
variable {W : Cx} {A : Around} {E : Value → Shared → Prop} {env : Env} {vis : List (Nat × Str)} {loc : Loc} {mem : Mem} {s : Shared} {Q : Val → Mem → Prop}

theorem inst_fk (M : MRel W mem s) {a d : Addr} {fs : List (Option Val)} (h1 : mem a = some (.inst d)) (h2 : mem d = some (.flds fs)) :
    ∃ C mA, W.mg (Str.ofString "Estate") = some (.ref C) ∧ s.heap.InstFk a C mA ∧ (∃ o, s.heap.get? a = some o ∧ o.dict = some d) ∧ Within mA [Str.ofString "rows", Str.ofString "held"] ∧ ∀ i v, i < 2 → getV fs i = some v → ∃ y, mA (Str.ofString (fldName i)) = some y ∧ VRel W s.heap v y := by
  obtain ⟨⟨o, C, e1, e2, e3, e4, e5, e6, e7⟩, _⟩ := M.mems a _ h1
  obtain ⟨⟨mA, f1, f2, f3, f4⟩, _⟩ := M.mems d _ h2
  exact ⟨C, mA, e2, ⟨o, e1, e3, e5, .inr ⟨d, e4, e7, f1, f2⟩⟩, ⟨o, e1, e4⟩, f3, f4⟩
theorem lk_fld {f : Nat} (h : f < 2) : typeLookup (.type "object") (Str.ofString (fldName f)) = pure none := by
  have : f = 0 ∨ f = 1 := by omega
  rcases this with rfl | rfl
  · rw [typeLookup_type, builtinLookup_eq_fast]; kernel_rfl
  · rw [typeLookup_type, builtinLookup_eq_fast]; kernel_rfl
theorem lk_meth {n : String} (h : n ∈ methNames) : typeLookup (.type "object") (Str.ofString n) = pure none := by
  unfold methNames at h
  simp only [List.mem_cons, List.not_mem_nil, or_false] at h
  rcases h with rfl | rfl | rfl | rfl | rfl <;> (rw [typeLookup_type, builtinLookup_eq_fast]; kernel_rfl)
theorem meth_ne {n : String} (h : n ∈ methNames) : Str.ofString n ∉ [Str.ofString "rows", Str.ofString "held"] := by
  unfold methNames at h
  simp only [List.mem_cons, List.not_mem_nil, or_false] at h
  rcases h with rfl | rfl | rfl | rfl | rfl <;> decide +kernel
theorem quiet_fld {f : Nat} (h : f < 2) : Str.ofString (fldName f) ∈ quietE := by
  have : f = 0 ∨ f = 1 := by omega
  rcases this with rfl | rfl
  · exact .tail _ (.tail _ (.tail _ (.head _)))
  · exact .tail _ (.tail _ (.tail _ (.tail _ (.head _))))
theorem quiet_ga : Str.ofString "__getattribute__" ∈ quietE := .tail _ (.head _)
theorem quiet_gb : Str.ofString "__getattr__" ∈ quietE := .tail _ (.tail _ (.head _))
theorem quiet_sa : Str.ofString "__setattr__" ∈ quietE := .head _
theorem VRel.handed {W : Cx} {h : Heap} {x : Val} {a : Value} (hx : VRel W h x a) : handedOut a = pure a := by
  cases x with
  | none => obtain rfl := hx.none'; rfl
  | bool t => obtain rfl := hx.bool; rfl
  | int i => obtain ⟨t, rfl⟩ := hx.int; rfl
  | ref c => obtain rfl := hx.ref; rfl
  | str x => obtain ⟨t, rfl⟩ := hx.str; rfl
  | tup _ => obtain ⟨c, _, rfl, _⟩ := hx; rfl
  | frz _ => obtain ⟨c, _, rfl, _⟩ := hx; rfl
theorem attr_sound (R : Rel W env vis loc mem s) (EC : EstC W.mg W.base) {x : Val} {xv : Value} {f : Nat} (hx : VRel W s.heap x xv) (h : attrQ x f Q mem) {b : Bool} :
    wpAny (model W.prog W.w) A (getAttr xv (Str.ofString (fldName f)) b) (PM W mem s Q) E s := by
  obtain ⟨d, fs, v, hf, ⟨a, rfl, h1, h2⟩, hv, hq⟩ := h
  obtain rfl := hx.ref
  obtain ⟨C, mA, hm, I, _, _, hF⟩ := inst_fk R.m h1 h2
  obtain ⟨y, hy, hr⟩ := hF f v hf hv
  obtain ⟨N, mN, _, K, hQ⟩ := EC C hm
  have K := K.keeps R.m.stays
  obtain ⟨nm, q, bs, sn, sub, col, dd, k0, k1, k2, k3, k5, hC⟩ := K.obj
  obtain ⟨hh, g, dr, t, os⟩ := s
  exact load_attrFk hC K.ns (hQ _ quiet_ga) (hQ _ (quiet_fld hf)) (lk_fld hf) I hy hr.handed (PM.val R.m hr hq _)
theorem meth_sound (M : MRel W mem s) {x : Val} {xv : Value} (hx : VRel W s.heap x xv) (h : isO mem x) {n : String} (hn : n ∈ methNames) {C N : Addr} {mN : Str → Option Value} (K : EstAt W.mg W.base C N mN) {f : Addr} {o : Obj} (hf : mN (Str.ofString n) = some (.ref f)) (ho : W.base.get? f = some o) (hc : o.cls = .type "function") {pl : Sem Bool} {P : Value × List Value → Shared → Prop} (hp : P (.ref f, [xv]) s) :
    wpAny (model W.prog W.w) A (getMethod xv (Str.ofString n) pl) P E s := by
  obtain ⟨a, d, fs, rfl, h1, h2⟩ := h
  obtain rfl := hx.ref
  obtain ⟨C', mA, hm, I, _, hw, _⟩ := inst_fk M h1 h2
  obtain ⟨hC0, K, hQ⟩ := K
  obtain rfl : C = C' := by rw [hC0] at hm; cases hm; rfl
  have K := K.keeps M.stays
  obtain ⟨nm, q, bs, sn, sub, col, dd, k0, k1, k2, k3, k5, hC⟩ := K.obj
  have hz : mA (Str.ofString n) = none := by
    cases e : mA (Str.ofString n) with
    | none => rfl
    | some z => exact absurd (hw _ (by rw [e]; exact fun z => nomatch z)) (meth_ne hn)
  have hst := M.stays _ _ ho
  obtain ⟨hh, g, dr, t, os⟩ := s
  exact method_ofFk hC K.ns (hQ _ quiet_ga) (hQ _ quiet_gb) hf hst hc (lk_meth hn) I hz hp
theorem getV_set2 {fs : List (Option Val)} {f : Nat} {v : Val} {i : Nat} {u : Val} (h : getV (setV fs f v) i = some u) : (i = f ∧ u = v) ∨ (i ≠ f ∧ getV fs i = some u) := by
  induction fs generalizing f i with
  | nil => cases i <;> cases f <;> exact no h
  | cons x r ih =>
    cases f with
    | zero =>
      cases i with
      | zero => exact .inl ⟨rfl, (Option.some.inj h).symm⟩
      | succ i => exact .inr ⟨Nat.succ_ne_zero _, h⟩
    | succ f =>
      cases i with
      | zero => exact .inr ⟨(Nat.succ_ne_zero _).symm, h⟩
      | succ i =>
        rcases ih (f := f) (i := i) h with ⟨rfl, e⟩ | ⟨e, e'⟩
        · exact .inl ⟨rfl, e⟩
        · exact .inr ⟨fun q => e (Nat.succ.inj q), e'⟩
theorem fld_ne {i f : Nat} (hi : i < 2) (hf : f < 2) (h : i ≠ f) : Str.ofString (fldName i) ≠ Str.ofString (fldName f) := by
  have h1 : i = 0 ∨ i = 1 := by omega
  have h2 : f = 0 ∨ f = 1 := by omega
  rcases h1 with rfl | rfl <;> rcases h2 with rfl | rfl <;> first | exact absurd rfl h | decide +kernel
theorem fld_in {f : Nat} (hf : f < 2) : Str.ofString (fldName f) ∈ [Str.ofString "rows", Str.ofString "held"] := by
  have h2 : f = 0 ∨ f = 1 := by omega
  rcases h2 with rfl | rfl
  · exact .head _
  · exact .tail _ (.head _)
theorem MRel.updK {s s' : Shared} (M : MRel W mem s) {a : Addr} {o o₀ : AObj} (ha : mem a = some o₀) (k : ∀ b o, b ≠ a → s.heap.get? b = some o → s'.heap.get? b = some o)
    (r : KeepF s.heap s'.heap → ORel W s'.heap a o) (hg : s'.gens = s.gens := by rfl) (ho : s'.os = s.os := by rfl) : MRel W (mem.set a o) s' := by
  have hb := (M.mems a o₀ ha)
  have kf : KeepF s.heap s'.heap := fun b x e hf => by
    by_cases hba : b = a
    · subst hba; exact absurd hf (hb.1.notFixed e)
    · exact k b x hba e
  refine ⟨fun b x e => ?_, fun b x e => ?_, hg.trans M.gens, ho.trans M.os⟩
  · by_cases hba : b = a
    · subst hba; rw [hb.2] at e; cases e
    · exact k b x hba (M.stays b x e)
  · unfold Mem.set at e
    split at e
    · rename_i q; subst q; cases e; exact ⟨r kf, hb.2⟩
    · rename_i q
      obtain ⟨r', n'⟩ := M.mems b x e
      exact ⟨r'.at (fun _ e => k _ _ q e) kf, n'⟩
theorem Step.updK {D : Addr → Prop} {h h' : Heap} {a : Addr} {o o₀ : AObj} (ha : mem a = some o₀) (k : ∀ b o, b ≠ a → h.get? b = some o → h'.get? b = some o) (hl : h'.get? a ≠ none) : Step D mem h (mem.set a o) h' :=
  by
  refine ⟨fun b e => ?_, fun b x e hm _ => ?_, fun b hm hm' => ?_⟩
  · by_cases hb : b = a
    · subst hb; exact absurd e hl
    · cases q : h.get? b with
      | none => rfl
      | some x => rw [k b x hb q] at e; cases e
  · have hb : b ≠ a := by rintro rfl; rw [ha] at hm; cases hm
    exact ⟨x, k b x hb e, .refl x⟩
  · unfold Mem.set at hm'
    split at hm'
    · rename_i hb; subst hb; rw [ha] at hm; cases hm
    · exact absurd hm hm'
theorem setattr_sound (R : Rel W env vis loc mem s) (EC : EstC W.mg W.base) {x v : Val} {xv y : Value} {f : Nat} (hx : VRel W s.heap x xv) (hv : VRel W s.heap v y) {K : Mem → Prop} (h : setA x f v K mem) :
    wpAny (model W.prog W.w) A (setAttr xv (Str.ofString (fldName f)) y) (fun _ s' => ∃ mem', MRel W mem' s' ∧ Step NoD mem s.heap mem' s'.heap ∧ K mem') E s := by
  obtain ⟨d, fs, hf, ⟨a, rfl, h1, h2⟩, hl, hk⟩ := h
  obtain rfl := hx.ref
  obtain ⟨C, mA, hm, I, ⟨o, ho, hd⟩, hw, hF⟩ := inst_fk R.m h1 h2
  obtain ⟨N, mN, _, Kc, hQ⟩ := EC C hm
  have hbC : ∃ oC, W.base.get? C = some oC := by
    obtain ⟨nm, q, bs, sn, sub, col, dd, k0, k1, k2, k3, k5, hC⟩ := Kc.obj; exact ⟨_, hC⟩
  have Kc := Kc.keeps R.m.stays
  obtain ⟨nm, q, bs, sn, sub, col, dd, k0, k1, k2, k3, k5, hC⟩ := Kc.obj
  have hxC : a ≠ C := by
    rintro rfl
    obtain ⟨oC, e⟩ := hbC
    rw [(R.m.mems _ _ h1).2] at e; cases e
  have hd2 := (R.m.mems _ _ h2).1
  have hi2 := (R.m.mems _ _ h1).1
  have M := R.m
  obtain ⟨hh, g, dr, t, os⟩ := s
  refine store_attrFk PySem.F.store_object hC Kc.ns (hQ _ quiet_sa) (hQ _ (quiet_fld hf)) (lk_fld hf) hxC I (fun h' tk' I' hkeep hsame => ?_) hw (by unfold sizeLine; simp)
  have hne : d ≠ a := by obtain ⟨_, _, _, _, _, _, _, _, q⟩ := hi2; exact q
  -- the object itself stands
  obtain ⟨o1, e1, c1, dt1, sl1, dk1⟩ := hsame o ho
  have o1d := dk1 d hd
  have ho1 : o1 = o := by
    obtain ⟨a1, a2, a3, a4⟩ := o1
    obtain ⟨b1, b2, b3, b4⟩ := o
    simp only at c1 dt1 sl1 o1d hd
    rw [c1, dt1, sl1, o1d, hd]
  rw [ho1] at e1
  have kb : ∀ b o, b ≠ d → hh.get? b = some o → h'.get? b = some o := fun b ob hb e => by
    by_cases hba : b = a
    · subst hba; rw [ho] at e; cases e; exact e1
    · exact hkeep b ob hba (fun o₀ dx q1 q2 => by rw [ho] at q1; cases q1; rw [hd] at q2; cases q2; exact hb) e
  obtain ⟨o2, g1, g2, g3, g4⟩ := I'
  obtain rfl : o = o2 := Option.some.inj (e1.symm.trans g1)
  rcases g4 with ⟨g4, _⟩ | ⟨d', g4, g5, g6, g7⟩
  · rw [hd] at g4; cases g4
  obtain rfl : d = d' := by rw [hd] at g4; cases g4; rfl
  have hlive : h'.get? d ≠ none := by obtain ⟨od, e, _⟩ := g7; rw [e]; exact fun q => nomatch q
  refine ⟨_, MRel.updK (s' := ⟨h', g, dr, tk', os⟩) M h2 kb (fun kf => ?_), Step.updK h2 kb hlive, hk⟩
  refine ⟨_, g6, g7, fun n hn => ?_, fun i u hi hu => ?_⟩
  · by_cases e : n = Str.ofString (fldName f)
    · rw [e]; exact fld_in hf
    · refine hw n ?_
      simp only [if_neg e] at hn; exact hn
  · rcases getV_set2 hu with ⟨rfl, rfl⟩ | ⟨hne', hu⟩
    · exact ⟨y, if_pos rfl, hv.keep kf⟩
    · obtain ⟨z, hz, hr⟩ := hF i u hi hu
      exact ⟨z, (if_neg (fld_ne hi hf hne')).trans hz, hr.keep kf⟩

theorem new_made {C : Addr} (M : MRel W mem s) (hm : W.mg (Str.ofString "Estate") = some (.ref C)) {h1 : Heap} {x d : Addr} (k : ∀ b o, s.heap.get? b = some o → h1.get? b = some o) (hx : s.heap.get? x = none) (hd : s.heap.get? d = none) (hne : x ≠ d)
    (ox : h1.get? x = some { cls := .ref C, dict := some d, data := .plain }) (od : h1.get? d = some { cls := .type "dict", data := .dict #[] }) :
    MRel W ((mem.set d (.flds [none, none])).set x (.inst d)) { s with heap := h1 } ∧ Step NoD mem s.heap ((mem.set d (.flds [none, none])).set x (.inst d)) h1 := by
  have hbase : ∀ b, s.heap.get? b = none → W.base.get? b = none := fun b e => by
    cases q : W.base.get? b with
    | none => rfl
    | some o => rw [M.stays b o q] at e; cases e
  refine ⟨⟨fun b o e => k _ _ (M.stays b o e), fun b o e => ?_, M.gens, M.os⟩, alive_of k, fun b o e _ _ => ⟨o, k b o e, .refl o⟩, fun b hb hb' => ?_⟩
  · unfold Mem.set at e
    split at e
    · rename_i q; subst q; cases e
      exact ⟨⟨_, C, ox, hm, rfl, rfl, (fun _ q => nomatch q), (fun _ q => nomatch q), hne.symm⟩, hbase _ hx⟩
    · split at e
      · rename_i q; subst q; cases e
        refine ⟨⟨fun _ => none, Heap.Ns1.of_empty ⟨_, #[], _, od, rfl, fun e he => absurd he (by simp), fun _ => rfl⟩, ⟨_, od, rfl, rfl⟩, fun y hy => absurd rfl hy, fun i v hi hv => ?_⟩, hbase _ hd⟩
        have : i = 0 ∨ i = 1 := by omega
        rcases this with rfl | rfl <;> exact no hv
      · exact (M.mems.of_keeps k) b o e
  · unfold Mem.set at hb'
    split at hb'
    · rename_i q; subst q; exact hx
    · split at hb'
      · rename_i q; subst q; exact hd
      · exact absurd hb hb'

theorem pick_cut2 (vs : List Value) (i j : Int) : slicePick vs.toArray (some i) (some j) none = ((vs.drop (clip i vs.length)).take (clip j vs.length - clip i vs.length)).toArray := by
  rw [slicePick_plain]
  simp only [Option.elim, List.size_toArray, clip_at]
  congr 1
  rcases Nat.le_total (clip i vs.length) vs.length with h | h
  · rw [Nat.min_eq_left h]
    rcases Nat.le_total (clip j vs.length) vs.length with h' | h'
    · rw [Nat.min_eq_left h']
    · rw [Nat.min_eq_right h', List.take_of_length_le (by simp), List.take_of_length_le (by simp; omega)]
  · rw [Nat.min_eq_right h, List.drop_of_length_le (by simp), List.drop_of_length_le h]; simp
theorem cut_sound (R : Rel W env vis loc mem s) {x : Val} {xv : Value} {i j : Int} {t u : Tok} (hx : VRel W s.heap x xv) (h : cutQ x i j Q mem) {value : Expr} {l r : Option Expr} {p : Pos} :
    wpAny (model W.prog W.w) A (subscriptTail value (.Slice l r none p) xv (.ref s.heap.objs.size)) (PM W mem s Q) E { s with heap := s.heap.push { cls := .type "slice", data := .fields #[.int i t, .int j u, .none] } } := by
  obtain ⟨xs, e, hl, hf⟩ := h
  obtain ⟨a, vs, rfl, hL, rl⟩ := lst_rel R.m hx e
  have hlen := rl.length
  have k1 : KeepL env.locals s.heap (s.heap.push { cls := .type "slice", data := .fields #[.int i t, .int j u, .none] }) := .push _
  have R' : Rel W env vis loc mem { s with heap := s.heap.push { cls := .type "slice", data := .fields #[.int i t, .int j u, .none] } } := R.step (R.keepM k1) (R.keepS k1)
  have hsz : vs.toArray.size ≤ sizeLine := by rw [List.size_toArray, hlen]; exact lid_line hl
  have r' := rl.keep (R.keepF k1)
  refine tail_any (o := .ref a) (hL.push _).typeIs slot_list_getitem.lookup ?_ rfl
  refine wpAny_getItem_list_slice (hL.push _) (Heap.IsSliceOf.new ..) (.int i t) (.int j u) .none (by simp) ?_ hsz
  rw [pick_cut2 vs i j, hlen]
  exact PM.trans (s' := { s with heap := s.heap.push { cls := .type "slice", data := .fields #[.int i t, .int j u, .none] } }) (R.keepS k1) (freshL_sound R' (.push _) (size_none _) (Heap.get?_push_size _ rfl) ((r'.cut _).1.cut _).2 hf)
theorem eval_attr {value : Expr} {n : Str} {p : Pos} {P : Value → Shared → Prop} (hn : notCall value = true) (h : wpAny (model W.prog W.w) A (eval value env) (fun o s1 => wpAny (model W.prog W.w) A (getAttr o n true) P E s1) E s) :
    wpAny (model W.prog W.w) A (eval (.Attribute value n p) env) P E s := by
  show wpAny _ _ (do
    let o ← attributeBase value n env (eval value env)
    standAt p.atName
    let r ← holding [o] (getAttr o n true)
    letTemporaryGo value o r
    pure r) _ _ _
  rw [notCall_base hn]
  refine wpAny_bind (wpAny_mono h (fun o s1 h1 => wpAny_bind (wpAny_standAt (wpAny_bind (wpAny_holding (wpAny_mono h1 (fun r s2 h2 => ?_) fun _ _ x => x))))) fun _ _ x => x)
  exact wpAny_bind (wpAny_letTemporaryGo (wpAny_pure h2))
theorem swaps_attr {v o : Expr} {n : Str} {p : Pos} {k : Nat} : swapsWith v (some (.Attribute o n p)) k env = pure false := by cases v <;> rfl
theorem star_any {p : Pos} : ∀ {es : List Expr}, (∀ e ∈ es, ∀ a q, e ≠ .Starred a q) → (backTo p (starEach es env)).any (·.1) = false
  | [], _ => rfl
  | e :: r, h => by
    rw [star_plain (h e (.head _))]
    show (false || (backTo p (starEach r env)).any (·.1)) = false
    rw [star_any fun e he => h e (.tail _ he)]; rfl

section
variable {h : Heap} {g : Array GenState} {d : Drawn} {t : Nat} {os : OsState} {prog : Program} {w : World}
noncomputable abbrev mkHeap (h : Heap) (C : Addr) : Heap := (h.push { cls := .type "dict", data := .dict #[] }).push { cls := .ref C, dict := some h.objs.size, data := .plain }
theorem mk_x (h : Heap) (C : Addr) : (mkHeap h C).get? (h.objs.size + 1) = some { cls := .ref C, dict := some h.objs.size, data := .plain } := by
  have := Heap.get?_push_size (h := h.push { cls := .type "dict", data := .dict #[] }) (o := { cls := .ref C, dict := some h.objs.size, data := .plain }) rfl
  rw [Heap.size_push] at this
  exact this
theorem mk_d (h : Heap) (C : Addr) : (mkHeap h C).get? h.objs.size = some { cls := .type "dict", data := .dict #[] } := Heap.get?_push_of_some _ (Heap.get?_push_size _ rfl)
theorem mk_keep (h : Heap) (C : Addr) (b : Addr) (o : Obj) (e : h.get? b = some o) : (mkHeap h C).get? b = some o := Heap.get?_push_of_some _ (Heap.get?_push_of_some _ e)
theorem make_body {C N : Addr} {mN : Str → Option Value} {rest : List Value} {fI : Addr} {oI : Obj} {P : Fin → Shared → Prop}
    (K : PyProof.Rows.ClsAt h C N mN) (hi : mN "__init__" = some (.ref fI)) (hfI : h.get? fI = some oI) (hfc : oI.cls = .type "function")
    (hq : wpAny (model prog w) A (call (.ref fI) (.ref (h.objs.size + 1) :: rest)) (fun r s' => r = .none ∧ P (.done (.ret (.ref (h.objs.size + 1)))) s') E ⟨mkHeap h C, g, d, t, os⟩) :
    wpAny (model prog w) A (Builtin.«type.__call__» ⟨.ref C :: rest, []⟩) P E ⟨h, g, d, t, os⟩ := by
  obtain ⟨nm, q, bs, sn, sub, col, dd, k0, k1, k2, k3, k5, hC⟩ := K.obj
  have K1 := K.keeps (mk_keep h C)
  have hC1 := mk_keep h C _ _ hC
  have hmro : mroOf (.type "object") = pure [.type "object"] := by kernel_rfl
  have hlk : typeLookup (.type "object") "__init__" = pure (some (.builtin "object.__init__")) := by rw [typeLookup_type, builtinLookup_eq_fast]; kernel_rfl
  repeat (first | with_reducible refine wpAny_loadPart_at hC ?_ | with_reducible refine wpAny_madeBy_exc hC ?_ | wp_step)
  refine codeAny_call_builtin_code (Code.quiet_builtin _ PySem.F.objNew.quiet) (wpAny_check_obj_new PySem.F.objNew hC ?_)
  refine codeAny_obj_new PySem.F.objNew hC K.ns hi ?_
  show wpAny _ _ _ _ _ _
  have hget := mk_x h C
  have hcC : (Value.ref C :: [Value.type "object"]).contains (.ref C) = true := by simp
  unfold isInstance
  repeat (first | with_reducible refine wpAny_loadPart_at hget ?_ | (with_reducible refine wpAny_isSubtype_exc hC1 ?_; rw [hcC]) | wp_step)
  show wpAny _ _ (typeLookup (.ref C) _) _ _ _
  refine wpAny_typeLookup_exc hC1 K1.ns hmro hlk ?_
  rw [hi]
  refine wpAny_holding (wpAny_bind ?_)
  unfold bindSpecial
  refine wpAny_bind (wpAny_typeOf (T := "function") ⟨_, mk_keep h C _ _ hfI, hfc⟩ ?_)
  rw [if_pos (by decide)]
  refine wpAny_pure (wpAny_bind (wpAny_mono hq (fun r s' hr => ?_) fun _ _ x => x))
  obtain ⟨rfl, hP⟩ := hr
  wp_walk
  exact hP
theorem make_call {C N : Addr} {mN : Str → Option Value} {rest : List Value} {fI : Addr} {oI : Obj} {P : Value → Shared → Prop}
    (K : PyProof.Rows.ClsAt h C N mN) (hi : mN "__init__" = some (.ref fI)) (hfI : h.get? fI = some oI) (hfc : oI.cls = .type "function")
    (hq : wpAny (model prog w) (A.under (.builtin "type.__call__" ⟨.ref C :: rest, []⟩)) (call (.ref fI) (.ref (h.objs.size + 1) :: rest)) (fun r s' => r = .none ∧ P (.ref (h.objs.size + 1)) s') E ⟨mkHeap h C, g, d, t, os⟩) :
    wpAny (model prog w) A (call (.ref C) rest) P E ⟨h, g, d, t, os⟩ := by
  obtain ⟨nm, q, bs, sn, sub, col, dd, k0, k1, k2, k3, k5, hC⟩ := K.obj
  have f1 := tc_lookup
  have f2 := tc_bind (.ref C)
  have hT : (⟨h, g, d, t, os⟩ : Shared).TypeIs (.ref C) "type" := ⟨_, hC, rfl⟩
  refine wpAny_call (codeAny_of_tree ?_)
  show wpAny _ _ (callAny (.ref C) _) _ _ _
  repeat (any_goals (first | assumption | with_reducible refine wpAny_loadPart_at hC ?_ | wp_step))
  refine ⟨rfl, ?_⟩
  exact codeAny_call_builtin_at (Code.quiet_builtin _ (by decide +kernel)) entry_typeCall (wpAny_check_type_call_sub hC (make_body K hi hfI hfc hq))
end
theorem new_sound (M : MRel W mem s) {C N : Addr} {mN : Str → Option Value} (K : EstAt W.mg W.base C N mN) {fI : Addr} {oI : Obj} (hi : mN (Str.ofString "__init__") = some (.ref fI)) (hfI : W.base.get? fI = some oI) (hfc : oI.cls = .type "function")
    {us : List Val} {vs : List Value} (hr : VRels W s.heap us vs) {T : Val → Mem → Prop} (hn : newQ T mem)
    (hcall : ∀ x xs m1 s1, T x m1 → MRel W m1 s1 → VRels W s1.heap (x :: us) xs → wpAny (model W.prog W.w) (A.under (.builtin "type.__call__" ⟨.ref C :: vs, []⟩)) (call (.ref fI) xs) (PM W m1 s1 fun r m3 => r = .none ∧ Q x m3) E s1) :
    wpAny (model W.prog W.w) A (call (.ref C) vs) (PM W mem s Q) E s := by
  have hne : s.heap.objs.size + 1 ≠ s.heap.objs.size := Nat.succ_ne_self _
  have hx : s.heap.get? (s.heap.objs.size + 1) = none := Heap.get?_none_of_le (Nat.le_succ _)
  have hd := size_none s.heap
  obtain ⟨M1, S1⟩ := new_made M K.1 (h1 := mkHeap s.heap C) (mk_keep s.heap C) hx hd hne (mk_x _ _) (mk_d _ _)
  have hT := hn (s.heap.objs.size + 1) s.heap.objs.size (M.mems.fresh hx) (M.mems.fresh hd) hne
  have hc := hcall _ (.ref (s.heap.objs.size + 1) :: vs) _ _ hT M1 (.cons .mkRef (hr.keep (.of_keeps (mk_keep s.heap C))))
  have Kc := K.2.1.keeps M.stays
  have hfI := M.stays _ _ hfI
  obtain ⟨hh, g, dr, t, os⟩ := s
  refine make_call Kc hi hfI hfc (wpAny_mono hc (fun r s' q => ?_) fun _ _ x => x)
  obtain ⟨v, m3, hv, M3, S3, rfl, hq⟩ := q
  exact ⟨hv.none', .ref (hh.objs.size + 1), m3, .mkRef, M3, S1.trans S3, hq⟩
end
end TD

namespace TD
open PySem PyProof.Rows
variable {W : Cx} {A : Around} {E : Value → Shared → Prop} {env : Env} {vis : List (Nat × Str)} {loc : Loc} {mem : Mem} {s : Shared} {Q : Val → Mem → Prop}

theorem getV_setV {v u : Val} {l : Loc} : ∀ {i j : Nat}, getV (setV l i v) j = some u → (j = i ∧ u = v) ∨ (j ≠ i ∧ getV l j = some u) := by
  induction l with
  | nil => intro i j h; exact no h
  | cons x r ih =>
    intro i j h
    cases i with
    | zero => cases j with
      | zero => exact .inl ⟨rfl, (Option.some.inj h).symm⟩
      | succ j => exact .inr ⟨Nat.succ_ne_zero j, h⟩
    | succ i => cases j with
      | zero => exact .inr ⟨(Nat.succ_ne_zero i).symm, h⟩
      | succ j =>
        rcases ih (i := i) (j := j) h with ⟨rfl, b⟩ | ⟨a, b⟩
        · exact .inl ⟨rfl, b⟩
        · exact .inr ⟨fun q => a (Nat.succ.inj q), b⟩

noncomputable def VisOk (vis : List (Nat × Str)) : Prop := ∀ i x j y, (i, x) ∈ vis → (j, y) ∈ vis → (i = j ↔ x = y)

theorem store_sound (R : Rel W env vis loc mem s) (hv : VisOk vis) {i : Nat} {x : Str} (hm : (i, x) ∈ vis) (hk : env.kindOf x = some .local ∨ env.kindOf x = some .cell) {v : Val} {y : Value} (hr : VRel W s.heap v y)
    {P : Unit → Shared → Prop} (hp : ∀ s', Rel W env vis (setV loc i v) mem s' → Step (FrD env) mem s.heap mem s'.heap → (∃ a, FrD env a ∧ (env.kindOf x = some .local → a = env.locals) ∧ Heap.SameBut a s.heap s'.heap) → P () s') : wpAny (model W.prog W.w) A (storeName env x y) P E s := by
  rcases hk with hk | hk
  · obtain ⟨m, hns, hr'⟩ := R.e.ns
    refine wpAny_storeName_local hk hns (fun h' hn' hs' => ?_) (by rw [R.e.kind]; rfl)
    have hL : ∃ o, h'.get? env.locals = some o := by obtain ⟨o, _, _, e, _⟩ := hn'; exact ⟨o, e⟩
    have kb : ∀ b o, b ≠ env.locals → s.heap.get? b = some o → h'.get? b = some o := fun b o hb e => (hs'.2 b hb).trans e
    have kf : KeepF s.heap h' := fun b o e hf => by
      refine kb b o ?_ e
      rintro rfl
      exact R.e.dok _ o (.inl rfl) e hf
    have St : Step (FrD env) mem s.heap mem h' := by
      refine ⟨fun b e => ?_, fun b o e hm' hd => ⟨o, kb b o (fun q => hd (.inl q)) e, .refl o⟩, fun _ a b => absurd a b⟩
      by_cases hb : b = env.locals
      · subst hb; obtain ⟨o, ho⟩ := hL; rw [ho] at e; cases e
      · rw [← hs'.2 b hb]; exact e
    refine hp _ ⟨⟨fun b o e => kb b o (by rintro rfl; rw [R.new _ (.inl rfl)] at e; cases e) (R.m.stays b o e), fun b o e => ?_, R.m.gens, R.m.os⟩, ?_, R.sep, R.new⟩ St ⟨_, .inl rfl, fun _ => rfl, hs'⟩
    · obtain ⟨r, nb⟩ := R.m.mems b o e
      have hb : b ≠ env.locals := by rintro rfl; rw [R.sep _ (.inl rfl)] at e; cases e
      exact ⟨r.at (fun _ e => kb _ _ hb e) kf, nb⟩
    · have kc : ∀ z c u, env.cells.lookup z = some c → s.heap.IsCell c u → h'.IsCell c u := fun z c u hz ⟨o, e, hd⟩ => by
        refine ⟨o, kb c o ?_ e, hd⟩
        rintro rfl
        obtain ⟨o', es, ep, e', hd', _⟩ := hns
        rw [e] at e'; cases e'; rw [hd] at hd'; cases hd'
      refine ⟨R.e.kind, R.e.glob, R.e.blt, ⟨_, hn', fun j z u hj hg hkz => ?_⟩, fun j z u k hj hg hkz hc => ?_, R.e.cellk, fun z c hz => let ⟨o, ho⟩ := R.e.cells z c hz; ⟨o, kc z c _ hz ho⟩, R.e.apart⟩
      · rcases getV_setV hg with ⟨rfl, rfl⟩ | ⟨hne, hg⟩
        · have : z = x := (hv _ _ _ _ hj hm).mp rfl
          subst this; exact ⟨y, by simp, hr.keep kf⟩
        · have : z ≠ x := fun q => hne ((hv _ _ _ _ hj hm).mpr q)
          obtain ⟨y', h1, h2⟩ := hr' j z u hj hg hkz
          exact ⟨y', by simp [this, h1], h2.keep kf⟩
      · rcases getV_setV hg with ⟨rfl, rfl⟩ | ⟨hne, hg⟩
        · have : z = x := (hv _ _ _ _ hj hm).mp rfl
          subst this; rw [hk] at hkz; cases hkz; rcases hc with hc | hc <;> cases hc
        · obtain ⟨c, y', h1, h2, h3⟩ := R.e.cell j z u k hj hg hkz hc
          exact ⟨c, y', h1, kc z c _ h1 h2, h3.keep kf⟩
  · obtain ⟨c, hc⟩ := R.e.cellk x _ hk (.inl rfl)
    obtain ⟨u₀, hu⟩ := R.e.cells x c hc
    refine wpAny_storeName_cell R.e.kind hk hc hu fun h' hc' hs' => ?_
    have kb : ∀ b o, b ≠ c → s.heap.get? b = some o → h'.get? b = some o := fun b o hb e => (hs'.2 b hb).trans e
    have hcd : FrD env c := .inr ⟨x, hc⟩
    have kf : KeepF s.heap h' := fun b o e hf => by
      refine kb b o ?_ e
      rintro rfl
      exact R.e.dok _ o hcd e hf
    have St : Step (FrD env) mem s.heap mem h' := by
      refine ⟨fun b e => ?_, fun b o e hm' hd => ⟨o, kb b o (fun q => hd (q ▸ hcd)) e, .refl o⟩, fun _ a b => absurd a b⟩
      by_cases hb : b = c
      · subst hb; obtain ⟨o, ho, _⟩ := hc'; rw [ho] at e; cases e
      · rw [← hs'.2 b hb]; exact e
    refine hp _ ⟨⟨fun b o e => kb b o (by rintro rfl; rw [R.new _ hcd] at e; cases e) (R.m.stays b o e), fun b o e => ?_, R.m.gens, R.m.os⟩, ?_, R.sep, R.new⟩ St ⟨_, hcd, (fun q => by rw [hk] at q; cases q), hs'⟩
    · obtain ⟨r, nb⟩ := R.m.mems b o e
      have hb : b ≠ c := by rintro rfl; rw [R.sep _ hcd] at e; cases e
      exact ⟨r.at (fun _ e => kb _ _ hb e) kf, nb⟩
    · have kc : ∀ z d u, z ≠ x → env.cells.lookup z = some d → s.heap.IsCell d u → h'.IsCell d u := fun z d u hzx hz ⟨o, e, hd⟩ =>
        ⟨o, kb d o (fun q => hzx (R.e.apart z x c (q ▸ hz) hc)) e, hd⟩
      obtain ⟨m, hns, hr'⟩ := R.e.ns
      have hns' : h'.Ns env.locals m := by
        obtain ⟨o, es, ep, e, hd, q⟩ := hns
        refine ⟨o, es, ep, kb _ o ?_ e, hd, q⟩
        rintro rfl
        obtain ⟨o', e', hd'⟩ := hu
        rw [e] at e'; cases e'; rw [hd] at hd'; cases hd'
      refine ⟨R.e.kind, R.e.glob, R.e.blt, ⟨m, hns', fun j z u hj hg hkz => ?_⟩, fun j z u k hj hg hkz hck => ?_, R.e.cellk, fun z d hz => ?_, R.e.apart⟩
      · rcases getV_setV hg with ⟨rfl, rfl⟩ | ⟨hne, hg⟩
        · have : z = x := (hv _ _ _ _ hj hm).mp rfl
          subst this; rw [hk] at hkz; cases hkz
        · obtain ⟨y', h1, h2⟩ := hr' j z u hj hg hkz
          exact ⟨y', h1, h2.keep kf⟩
      · rcases getV_setV hg with ⟨rfl, rfl⟩ | ⟨hne, hg⟩
        · have : z = x := (hv _ _ _ _ hj hm).mp rfl
          subst this; exact ⟨c, y, hc, hc', hr.keep kf⟩
        · have hzx : z ≠ x := fun q => hne ((hv _ _ _ _ hj hm).mpr q)
          obtain ⟨d, y', h1, h2, h3⟩ := R.e.cell j z u k hj hg hkz hck
          exact ⟨d, y', h1, kc z d _ hzx h1 h2, h3.keep kf⟩
      · by_cases hzx : z = x
        · subst hzx; rw [hc] at hz; cases hz; exact ⟨_, hc'⟩
        · obtain ⟨o, ho⟩ := R.e.cells z d hz
          exact ⟨o, kc z d o hzx hz ho⟩

end TD

namespace TD
open PySem PyProof.Rows
variable {W : Cx} {A : Around} {E : Value → Shared → Prop} {env : Env} {vis : List (Nat × Str)} {loc : Loc} {mem : Mem} {s : Shared} {Q : Val → Mem → Prop}

noncomputable def Cur (k : ItK) (v : Val) (xs : List Val) (mem : Mem) : Prop := match k with
  | .plain => seq mem v = some xs
  | .range => ∃ n : Int, (0 ≤ n ∧ n < lid) ∧ xs = rangeV n
noncomputable def IterAt (W : Cx) (k : ItK) (v : Val) (xs : List Val) (I : Addr) (i : Nat) (h : Heap) : Prop := match k with
  | .plain => (v = .tup xs ∧ ∃ a vs, IsTup h a (List.toArray vs) ∧ VRels W h xs vs ∧ h.IsTupleIter I a i) ∨ ((∀ us, v ≠ .tup us) ∧ ∃ a, VRel W h v (.ref a) ∧ h.IsListIter I a i)
  | .range => IsRangeIter h I i ((xs.length : Int) - i) 1

theorem IterAt.there {k : ItK} {v : Val} {xs : List Val} {I : Addr} {i : Nat} {h : Heap} (x : IterAt W k v xs I i h) : ∃ o fs, h.get? I = some o ∧ o.data = .fields fs := by
  cases k with
  | plain =>
    rcases x with ⟨_, a, vs, _, _, o, ho, _, hd⟩ | ⟨_, a, _, o, ho, _, hd⟩
    · exact ⟨o, _, ho, hd⟩
    · exact ⟨o, _, ho, hd⟩
  | range => exact ⟨_, _, x, rfl⟩
theorem IterAt.keep {k : ItK} {v : Val} {xs : List Val} {I : Addr} {i : Nat} {h h' : Heap} (x : IterAt W k v xs I i h) (kf : KeepF h h') (ki : ∀ o, h.get? I = some o → h'.get? I = some o) : IterAt W k v xs I i h' := by
  cases k with
  | plain =>
    rcases x with ⟨e, a, vs, ⟨o, ho, hc, n, hd⟩, r, o', ho', q⟩ | ⟨e, a, r, o, ho, q⟩
    · exact Or.inl ⟨e, a, vs, ⟨o, kf a o ho ⟨hc, _, n, hd⟩, hc, n, hd⟩, r.keep kf, o', ki _ ho', q⟩
    · exact Or.inr ⟨e, a, r.keep kf, o, ki _ ho, q⟩
  | range => exact ki _ x
theorem seq_lst {v : Val} {xs : List Val} (h : seq mem v = some xs) (e : ∀ us, v ≠ .tup us) : lst mem v = some xs := (seq_or h).resolve_left (e xs)

theorem rangeV_length (n : Int) : (rangeV n).length = n.toNat := by simp [rangeV]
theorem rangeV_get {n : Int} {i : Nat} (h : i < n.toNat) : (rangeV n)[i]? = some (.int i) := by simp [rangeV, h]

theorem iter_next (M : MRel W mem s) {k : ItK} {v : Val} {xs : List Val} {I : Addr} {i : Nat} (hc : Cur k v xs mem) (hi : IterAt W k v xs I i s.heap) (hm : mem I = none) (hlt : i < xs.length) {P : Option Value → Shared → Prop}
    (hp : ∀ x y h' tk, xs[i]? = some x → VRel W h' x y → IterAt W k v xs I (i + 1) h' → Heap.SameBut I s.heap h' → P (some y) { s with heap := h', toks := tk }) :
    wpAny (model W.prog W.w) A (pyNext (.ref I)) P E s := by
  have kfI : ∀ {h' : Heap}, Heap.SameBut I s.heap h' → KeepF s.heap h' := fun hs b o e hf => by
    obtain ⟨o', fs, ho', hd'⟩ := hi.there
    have : b ≠ I := by rintro rfl; rw [e] at ho'; cases ho'; obtain ⟨_, xs, n, q⟩ := hf; rw [hd'] at q; cases q
    rw [hs.2 b this]; exact e
  obtain ⟨x, hx⟩ : ∃ x, xs[i]? = some x := ⟨xs[i], by simp [hlt]⟩
  cases k with
  | plain =>
    rcases hi with ⟨rfl, a, vs, ht, r, hit⟩ | ⟨ne, a, ra, hit⟩
    · obtain ⟨y, hy, ry⟩ := r.get hx
      refine wpAny_pyNext_tuple_item hit (IsTup.tuple ht) (by simpa using hy) fun h' hit' hs' => ?_
      have kf := kfI hs'
      obtain ⟨o, ho, hcl, n, hd⟩ := ht
      exact hp x y h' s.toks hx (ry.keep kf) (Or.inl ⟨rfl, a, vs, ⟨o, kf a o ho ⟨hcl, _, n, hd⟩, hcl, n, hd⟩, r.keep kf, hit'⟩) hs'
    · obtain ⟨b, vs, e, hl, r⟩ := lst_rel M ra (seq_lst hc ne)
      cases e
      obtain ⟨y, hy, ry⟩ := r.get hx
      refine wpAny_pyNext_list_item hit hl (by simpa using hy) fun h' hit' hs' => ?_
      have kf := kfI hs'
      exact hp x y h' s.toks hx (ry.keep kf) (Or.inr ⟨ne, a, ra.keep kf, hit'⟩) hs'
  | range =>
    obtain ⟨n, hn, rfl⟩ := hc
    rw [rangeV_length] at hlt
    rw [rangeV_get hlt] at hx; cases hx
    have hi' : IsRangeIter s.heap I i (((rangeV n).length : Int) - i) 1 := hi
    refine wpAny_pyNext_range_item hi' (by rw [rangeV_length]; omega) fun h' hit' hs' => ?_
    refine hp _ _ h' _ (rangeV_get hlt) .mkInt ?_ hs'
    have e : ((rangeV n).length : Int) - i - 1 = ((rangeV n).length : Int) - ((i + 1 : Nat) : Int) := by omega
    rw [e] at hit'
    exact hit'

theorem iter_end (M : MRel W mem s) (hh : A.handled = none) {k : ItK} {v : Val} {xs : List Val} {I : Addr} (hc : Cur k v xs mem) (hi : IterAt W k v xs I xs.length s.heap) {P : Option Value → Shared → Prop}
    (hp : ∀ h', Heap.ExtBut I s.heap h' → P none { s with heap := h' }) : wpAny (model W.prog W.w) A (pyNext (.ref I)) P E s := by
  cases k with
  | plain =>
    rcases hi with ⟨rfl, a, vs, ht, r, hit⟩ | ⟨ne, a, ra, hit⟩
    · exact wpAny_pyNext_tuple_end hh hit (IsTup.tuple ht) (by simp [r.length]) hp
    · obtain ⟨b, vs, e, hl, r⟩ := lst_rel M ra (seq_lst hc ne)
      cases e
      exact wpAny_pyNext_list_end hh hit hl (by simp [r.length]) hp
  | range =>
    have hi' : IsRangeIter s.heap I xs.length ((xs.length : Int) - xs.length) 1 := hi
    exact wpAny_pyNext_range_end hh hi' (by omega) hp

theorem iter_start (R : Rel W env vis loc mem s) {v : Val} {y : Value} {xs : List Val} (hv : VRel W s.heap v y) (e : seq mem v = some xs) {P : Value → Shared → Prop}
    (hp : ∀ I s', s.heap.get? I = none → IterAt W .plain v xs I 0 s'.heap → Rel W env vis loc mem s' → Step NoD mem s.heap mem s'.heap → P (.ref I) s') : wpAny (model W.prog W.w) A (pyIter y) P E s := by
  by_cases q : ∃ us, v = .tup us
  · obtain ⟨us, rfl⟩ := q
    cases e
    have hv' := hv
    obtain ⟨a, vs, rfl, ht, r⟩ := hv'
    refine wpAny_pyIter_tuple (IsTup.tuple ht) ?_
    have k : KeepL env.locals s.heap (s.heap.push { cls := .type "tuple_iterator", data := .fields #[.ref a, .int 0 0] }) := .push _
    refine hp _ _ (size_none _) ?_ (R.step (R.keepM k) (R.keepS k)) (R.keepS k)
    obtain ⟨o, ho, hcl, n, hd⟩ := ht
    exact Or.inl ⟨rfl, a, vs, ⟨o, Heap.get?_push_of_some _ ho, hcl, n, hd⟩, r.keep (R.keepF k), _, Heap.get?_push_size _ rfl, rfl, rfl⟩
  · have ne : ∀ us, v ≠ .tup us := fun us h => q ⟨us, h⟩
    obtain ⟨a, vs, rfl, hl, r⟩ := lst_rel R.m hv (seq_lst e ne)
    refine wpAny_pyIter_list hl ?_
    have k : KeepL env.locals s.heap (s.heap.push { cls := .type "list_iterator", data := .fields #[.ref a, .int 0 0] }) := .push _
    refine hp _ _ (size_none _) ?_ (R.step (R.keepM k) (R.keepS k)) (R.keepS k)
    exact Or.inr ⟨ne, a, hv.keep (R.keepF k), _, Heap.get?_push_size _ rfl, rfl, rfl⟩
theorem range_start (R : Rel W env vis loc mem s) {n : Int} {t : Tok} (hn : 0 ≤ n ∧ n < lid) {P : Value → Shared → Prop}
    (hp : ∀ I s', s.heap.get? I = none → IterAt W .range (.int n) (rangeV n) I 0 s'.heap → Rel W env vis loc mem s' → Step NoD mem s.heap mem s'.heap → P (.ref I) s') :
    wpAny (model W.prog W.w) A (call (.type "range") [.int n t]) (fun y s' => wpAny (model W.prog W.w) A (pyIter y) P E s') E s := by
  refine call_range_1 ?_
  obtain ⟨h1, h2⟩ := small_range hn
  have k1 : KeepL env.locals s.heap (s.heap.push { cls := .type "range", data := .fields #[.int 0 s.toks, .int n t, .int 1 (s.toks + 1)] }) := .push _
  have R1 : Rel W env vis loc mem { s with heap := s.heap.push { cls := .type "range", data := .fields #[.int 0 s.toks, .int n t, .int 1 (s.toks + 1)] }, toks := s.toks + 1 + 1 } := R.step (R.keepM k1) (R.keepS k1)
  refine wpAny_pyIter_range (IsRange.new ..) h1 ?_
  rw [h2]
  have k2 : KeepL env.locals (s.heap.push { cls := .type "range", data := .fields #[.int 0 s.toks, .int n t, .int 1 (s.toks + 1)] }) ((s.heap.push { cls := .type "range", data := .fields #[.int 0 s.toks, .int n t, .int 1 (s.toks + 1)] }).push { cls := .type "range_iterator", data := .fields #[rawInt 0, rawInt ((n.toNat : Nat) : Int), rawInt 1] }) := .push _
  refine hp _ _ ?_ ?_ (R1.step (R1.keepM k2) (R1.keepS k2)) ((R.keepS k1).trans (R1.keepS k2))
  · cases q : s.heap.get? (s.heap.push { cls := .type "range", data := .fields #[.int 0 s.toks, .int n t, .int 1 (s.toks + 1)] }).objs.size with
    | none => rfl
    | some o => have := Heap.lt_size q; rw [Heap.size_push] at this; exact absurd this (Nat.not_lt.mpr (Nat.le_succ _))
  · show IsRangeIter _ _ ((0 : Nat) : Int) (((rangeV n).length : Int) - ((0 : Nat) : Int)) 1
    rw [rangeV_length]
    simp only [Int.ofNat_zero, Int.sub_zero]
    exact Heap.get?_push_size _ rfl

end TD

namespace TD
open PySem PyProof.Rows
variable {W : Cx} {A : Around} {E : Value → Shared → Prop} {env : Env} {vis : List (Nat × Str)} {loc : Loc} {mem : Mem} {s : Shared} {Q : Val → Mem → Prop}

theorem Step.off {D : Addr → Prop} {m1 m2 : Mem} {h1 h2 h3 : Heap} (x : Step D m1 h1 m2 h2) (S : Addr → Prop) (hS : ∀ b, S b → h1.get? b = none) (k : ∀ b o, ¬ S b → h2.get? b = some o → h3.get? b = some o) : Step D m1 h1 m2 h3 where
  alive := fun b e => by
    by_cases hb : S b
    · exact hS b hb
    · refine x.alive b ?_
      cases q : h2.get? b with
      | none => rfl
      | some o => rw [k b o hb q] at e; cases e
  keep := fun b o e hm hd => by
    obtain ⟨o', e', a⟩ := x.keep b o e hm hd
    exact ⟨o', k b o' (fun hb => by rw [hS b hb] at e; cases e) e', a⟩
  grow := x.grow

theorem compLoop_any {prog : Program} {w : World} {R : Result → Shared → Prop} {elt target iter : Expr} {ifs : List Expr} {scope : Scope} {pos : Pos} {it acc : Value} {env : Env} (I : Nat → Shared → Prop)
    (turn : ∀ n s, I n s → wpAny (model prog w) A (pyNext it) (fun r s₁ => match r with
      | none => R (.ok .next) s₁
      | some v => wpAny (model prog w) A (letOwnedTupleGo target it v) (fun _ s₁' => wpAny (model prog w) A (assign target env v) (fun _ s₂ =>
          wpAny (model prog w) A (forIn ifs true fun c r => if r = true then do let ok ← isTrue c env (eval c env); pure (ForInStep.yield ok) else pure (ForInStep.yield r)) (fun ok s₃ =>
            if ok = true then wpAny (model prog w) A (eval elt env) (fun x s₄ =>
              wpAny (model prog w) A (call (.builtin "list.append") [acc, x]) (fun _ s₅ => ∃ m, m < n ∧ I m s₅) (notedBy (model prog w) A env fun e s' => R (.error e) s') s₄) (notedBy (model prog w) A env fun e s' => R (.error e) s') s₃
            else ∃ m, m < n ∧ I m s₃) (notedBy (model prog w) A env fun e s' => R (.error e) s') s₂) (notedBy (model prog w) A env fun e s' => R (.error e) s') s₁') (notedBy (model prog w) A env fun e s' => R (.error e) s') s₁) (notedBy (model prog w) A env fun e s' => R (.error e) s') s)
    (n : Nat) (h : I n s) :
    codeAny (model prog w) A (.compLoop (.ListComp elt [⟨target, iter, ifs, 0⟩] scope pos) 0 it acc env) R s := by
  refine codeAny_loop rfl I (fun n s hI => ?_) n h
  show wpAny _ A ((compTurn (.ListComp elt [⟨target, iter, ifs, 0⟩] scope pos) 0 it acc env).onRaise (fun x => do noteFrame x env; theTreesLotGoes x)) _ _ s
  refine wpAny_noted ?_
  rw [compTurn_list]
  refine wpAny_bind (wpAny_standAt (wpAny_bind (wpAny_mono (turn n s hI) (fun r s₁ h₁ => ?_) fun _ _ h' => h')))
  cases r with
  | none => exact wpAny_pure h₁
  | some v =>
    refine wpAny_bind (wpAny_mono h₁ (fun _ s₁' h₁' => ?_) fun _ _ h' => h')
    refine wpAny_bind (wpAny_mono h₁' (fun _ s₂ h₂ => ?_) fun _ _ h' => h')
    refine wpAny_bind (wpAny_mono h₂ (fun ok s₃ h₃ => ?_) fun _ _ h' => h')
    cases ok with
    | false => exact wpAny_pure ⟨rfl, h₃⟩
    | true =>
      refine wpAny_bind (wpAny_bind (wpAny_mono h₃ (fun x s₄ h₄ => ?_) fun _ _ h' => h'))
      exact wpAny_bind (wpAny_mono h₄ (fun _ s₅ h₅ => wpAny_pure (wpAny_pure ⟨rfl, h₅⟩)) fun _ _ h' => h')

noncomputable def freeCells (env : Env) : List (Str × NameKind) → List (Str × Addr) → List (Str × Addr)
  | [], acc => acc
  | (n, k) :: r, acc => if k == .free then freeCells env r ((n, (env.cells.lookup n).getD 0) :: acc) else freeCells env r acc
theorem closure_eq {env : Env} {scope : Scope} (h : ∀ p ∈ scope.names, p.2 = .free → ∃ c, env.cells.lookup p.1 = some c) : closureFor scope env = pure (freeCells env scope.names []) := by
  have go : ∀ (l : List (Str × NameKind)) (acc : List (Str × Addr)), (∀ p ∈ l, p.2 = .free → ∃ c, env.cells.lookup p.1 = some c) →
      (forIn l acc fun x r => match x with | (name, kind) => if (kind == NameKind.free) = true then do let a ← cellOf env name; pure (ForInStep.yield ((name, a) :: r)) else pure (ForInStep.yield r)) = (pure (freeCells env l acc) : Sem _) := by
    intro l
    induction l with
    | nil => intro acc _; rfl
    | cons p r ih =>
      intro acc hl
      obtain ⟨n, k⟩ := p
      rw [List.forIn_cons]
      by_cases hk : (k == NameKind.free) = true
      · obtain ⟨c, hc⟩ := hl (n, k) (.head _) (by simpa using hk)
        have hc' : env.cells.lookup n = some c := hc
        simp only [hk, if_true]
        unfold freeCells
        rw [if_pos hk, hc']
        have : cellOf env n = pure c := by unfold cellOf; rw [hc']
        rw [this]
        exact ih _ fun p hp => hl p (.tail _ hp)
      · simp only [hk]
        unfold freeCells
        rw [if_neg hk]
        exact ih _ fun p hp => hl p (.tail _ hp)
  show (do let r ← forIn scope.names ([] : List (Str × Addr)) _; pure r) = _
  rw [show (forIn scope.names ([] : List (Str × Addr)) _ : Sem _) = _ from go scope.names [] h]
  rfl
theorem freeCells_lookup {env : Env} {x : Str} : ∀ (l : List (Str × NameKind)) (acc : List (Str × Addr)), (∀ p ∈ l, p.2 = .free → ∃ c, env.cells.lookup p.1 = some c) → ∀ c, (freeCells env l acc).lookup x = some c → (acc.lookup x = some c) ∨ ((x, NameKind.free) ∈ l ∧ env.cells.lookup x = some c)
  | [], acc, _, c, h => .inl h
  | (n, k) :: r, acc, hl, c, h => by
    unfold freeCells at h
    split at h
    · rename_i hk
      have hk' : k = .free := by simpa using hk
      rcases freeCells_lookup r _ (fun p hp => hl p (.tail _ hp)) c h with q | ⟨q1, q2⟩
      · rw [List.lookup_cons] at q
        split at q
        · rename_i hx
          have hx' : x = n := by simpa using hx
          obtain ⟨c', hc'⟩ := hl (n, k) (.head _) hk'
          have hc'' : env.cells.lookup n = some c' := hc'
          rw [hc''] at q
          cases q
          subst hx' hk'
          exact .inr ⟨.head _, hc''⟩
        · exact .inl q
      · exact .inr ⟨.tail _ q1, q2⟩
    · rcases freeCells_lookup r _ (fun p hp => hl p (.tail _ hp)) c h with q | ⟨q1, q2⟩
      · exact .inl q
      · exact .inr ⟨.tail _ q1, q2⟩
theorem freeCells_some {env : Env} {x : Str} : ∀ (l : List (Str × NameKind)) (acc : List (Str × Addr)), (∀ p ∈ l, p.2 = .free → ∃ c, env.cells.lookup p.1 = some c) → (x, NameKind.free) ∈ l ∨ (∃ c, acc.lookup x = some c) → ∃ c, (freeCells env l acc).lookup x = some c
  | [], acc, _, h => by
    rcases h with h | h
    · cases h
    · exact h
  | (n, k) :: r, acc, hl, h => by
    unfold freeCells
    split
    · rename_i hk
      refine freeCells_some r _ (fun p hp => hl p (.tail _ hp)) ?_
      rcases h with h | ⟨c, h⟩
      · cases h with
        | head => exact .inr ⟨_, by simp [List.lookup_cons]; rfl⟩
        | tail _ q => exact .inl q
      · refine .inr ?_
        rw [List.lookup_cons]
        split
        · exact ⟨_, rfl⟩
        · exact ⟨c, h⟩
    · rename_i hk
      refine freeCells_some r _ (fun p hp => hl p (.tail _ hp)) ?_
      rcases h with h | h
      · cases h with
        | head => simp at hk
        | tail _ q => exact .inl q
      · exact .inr h

end TD

namespace TD
open PySem PyProof.Rows
variable {W : Cx} {A : Around} {E : Value → Shared → Prop} {env : Env} {vis : List (Nat × Str)} {loc : Loc} {mem : Mem} {s : Shared} {Q : Val → Mem → Prop}

noncomputable def KeepBut (L : Addr) (h h' : Heap) : Prop := ∀ b o, b ≠ L → h.get? b = some o → h'.get? b = some o

noncomputable def unset : Loc → Nat → Loc
  | [], _ => []
  | x :: r, n => match n with | 0 => Option.none :: r | n + 1 => x :: unset r n
theorem assignT (R : Rel W env vis loc mem s) (hh : A.handled = none) (hv : VisOk vis) {t : Tg} {target : Expr} {new : List (Nat × Str)} (hn : chkT t target = some new) (hm : ∀ p ∈ new, p ∈ vis) (hk : ∀ p ∈ new, env.kindOf p.2 = some .local ∨ env.kindOf p.2 = some .cell)
    {x : Val} {y : Value} (hx : VRel W s.heap x y) {l : Loc} (hl : setT t x loc l) {P : Unit → Shared → Prop}
    (hp : ∀ s', Rel W env vis l mem s' → Step (FrD env) mem s.heap mem s'.heap → ((∀ p ∈ new, env.kindOf p.2 = some .local) → KeepBut env.locals s.heap s'.heap) → P () s') : wpAny (model W.prog W.w) A (assign target env y) P E s := by
  cases t with
  | one i =>
    obtain ⟨z, pz, rfl, rfl⟩ := chkT1_inv hn
    obtain rfl : l = setV loc i x := hl
    refine wpAny_assign_Name (store_sound R hv (hm _ (.head _)) (hk _ (.head _)) hx fun s' R' S' ⟨a, _, ha, hs⟩ => hp s' R' S' fun hloc b o hb e => ?_)
    have := ha (hloc _ (.head _)); subst this
    exact (hs.2 b hb).trans e
  | two i j =>
    obtain ⟨z, pz, z', pz', kk, pp, rfl, _, _, rfl⟩ := chkT2_inv hn
    obtain ⟨a, b, rfl, rfl⟩ := hl
    have hx' := hx
    obtain ⟨ta, vs, rfl, ht, r⟩ := hx'
    obtain ⟨y1, ys, rfl, r1, r2⟩ := r.inv
    obtain ⟨y2, ys', rfl, r3, r4⟩ := r2.inv
    obtain rfl := r4.inv0
    refine wpAny_assign_Tuple hh (IsTup.tuple ht) rfl rfl fun h' he => ?_
    have k1 : ∀ b o, s.heap.get? b = some o → h'.get? b = some o := fun b o e => he b o (Nat.ne_of_lt (Heap.lt_size e)) e
    have k : KeepL env.locals s.heap h' := .of_keeps k1
    have R1 : Rel W env vis loc mem { s with heap := h' } := R.step (R.keepM k) (R.keepS k)
    have S1 := R.keepS k
    show wpAny _ A (do holding [y2] (assign (.Name z pz) env y1); (do holding [] (assign (.Name z' pz') env y2); pure ())) _ _ _
    refine wpAny_bind (wpAny_holding (wpAny_assign_Name (store_sound R1 hv (hm _ (.head _)) (hk _ (.head _)) (r1.keep (R.keepF k)) fun s2 R2 S2 ⟨a2, _, ha2, hs2⟩ => ?_)))
    refine wpAny_bind (wpAny_holding (wpAny_assign_Name (store_sound R2 hv (hm _ (.tail _ (.head _))) (hk _ (.tail _ (.head _))) (r3.keep fun b o e hf => (S2.keepF R1.m.mems R1.e.dok) b o (R.keepF k b o e hf) hf) fun s3 R3 S3 ⟨a3, _, ha3, hs3⟩ => ?_)))
    refine wpAny_pure (hp s3 R3 ((S1.mono (fun _ q => q.elim)).trans (S2.trans S3)) fun hloc b o hb e => ?_)
    have h2 := ha2 (hloc _ (.head _)); have h3 := ha3 (hloc _ (.tail _ (.head _)))
    subst h2; subst h3
    exact (hs3.2 b hb).trans ((hs2.2 b hb).trans (k1 b o e))

noncomputable def unsetT (t : Tg) (l : Loc) : Loc := match t with
  | .one i => unset l i
  | .two i j => unset (unset l i) j
theorem getV_unset {u : Val} {l : Loc} : ∀ {i j : Nat}, getV (unset l i) j = some u → j ≠ i ∧ getV l j = some u := by
  induction l with
  | nil => intro i j h; exact no h
  | cons x r ih =>
    intro i j h
    cases i with
    | zero => cases j with
      | zero => exact no h
      | succ j => exact ⟨Nat.succ_ne_zero j, h⟩
    | succ i => cases j with
      | zero => exact ⟨(Nat.succ_ne_zero i).symm, h⟩
      | succ j => obtain ⟨a, b⟩ := ih (i := i) (j := j) h; exact ⟨fun q => a (Nat.succ.inj q), b⟩
theorem setV_setV {u v : Val} (l : Loc) : ∀ i, setV (setV l i u) i v = setV l i v := by
  induction l with
  | nil => intro i; rfl
  | cons x r ih => intro i; cases i with
    | zero => rfl
    | succ i => exact congrArg (x :: ·) (ih i)
theorem setV_unset {v : Val} (l : Loc) : ∀ i, setV (unset l i) i v = setV l i v := by
  induction l with
  | nil => intro i; rfl
  | cons x r ih => intro i; cases i with
    | zero => rfl
    | succ i => exact congrArg (x :: ·) (ih i)
theorem setV_comm {u v : Val} (l : Loc) : ∀ {i j : Nat}, i ≠ j → setV (setV l i u) j v = setV (setV l j v) i u := by
  induction l with
  | nil => intro i j _; rfl
  | cons x r ih => intro i j h; cases i with
    | zero => cases j with
      | zero => exact absurd rfl h
      | succ j => rfl
    | succ i => cases j with
      | zero => rfl
      | succ j => exact congrArg (x :: ·) (ih fun q => h (congrArg Nat.succ q))
theorem unset_setV_comm {u : Val} (l : Loc) : ∀ {i j : Nat}, i ≠ j → setV (unset l j) i u = unset (setV l i u) j := by
  induction l with
  | nil => intro i j _; rfl
  | cons x r ih => intro i j h; cases i with
    | zero => cases j with
      | zero => exact absurd rfl h
      | succ j => rfl
    | succ i => cases j with
      | zero => rfl
      | succ j => exact congrArg (x :: ·) (ih fun q => h (congrArg Nat.succ q))
noncomputable def SameT (t : Tg) (l' l : Loc) : Prop := ∀ x r, setT t x l r → setT t x l' r
noncomputable def TgOk : Tg → Prop
  | .one _ => True
  | .two i j => i ≠ j
theorem SameT.unset {t : Tg} {l : Loc} (ht : TgOk t) : SameT t (unsetT t l) l := fun x r h => by
  cases t with
  | one i => exact (show r = setV l i x from h).trans (setV_unset l i).symm
  | two i j =>
    have hij : i ≠ j := ht
    obtain ⟨a, b, e, h⟩ := h
    refine Exists.intro a ⟨b, e, h.trans ?_⟩
    show _ = setV (setV (TD.unset (TD.unset l i) j) i a) j b
    rw [unset_setV_comm _ hij, setV_unset, setV_unset]
theorem SameT.set {t : Tg} {x : Val} {l l' : Loc} (ht : TgOk t) (h : setT t x l l') : SameT t l' l := fun y r q => by
  cases t with
  | one i =>
    obtain rfl : l' = setV l i x := h
    exact (show r = setV l i y from q).trans (setV_setV l i).symm
  | two i j =>
    have hij : i ≠ j := ht
    obtain ⟨a, b, _, rfl⟩ := h
    obtain ⟨c, d, e, rfl⟩ := q
    refine Exists.intro c ⟨d, e, ?_⟩
    rw [setV_comm (setV l i a) (Ne.symm hij), setV_setV, setV_setV]

end TD

namespace TD
open PySem PyProof.Rows
variable {W : Cx} {A : Around} {E : Value → Shared → Prop} {env : Env} {vis : List (Nat × Str)} {loc : Loc} {mem : Mem} {s : Shared} {Q : Val → Mem → Prop}

theorem Rel.off (R : Rel W env vis loc mem s) {s' : Shared} (a : Addr) (ha : mem a = none) (hb : W.base.get? a = none) (hd : ¬ FrD env a) (hf : ∀ o, s.heap.get? a = some o → ¬ Fixed o)
    (k : KeepBut a s.heap s'.heap) (hg : s'.gens = s.gens := by rfl) (ho : s'.os = s.os := by rfl) : Rel W env vis loc mem s' ∧ KeepF s.heap s'.heap := by
  have kf : KeepF s.heap s'.heap := fun b o e hfx => k b o (by rintro rfl; exact hf o e hfx) e
  refine ⟨⟨⟨fun b o e => k b o (by rintro rfl; rw [hb] at e; cases e) (R.m.stays b o e), fun b o e => ?_, hg.trans R.m.gens, ho.trans R.m.os⟩, ?_, R.sep, R.new⟩, kf⟩
  · obtain ⟨r, nb⟩ := R.m.mems b o e
    have hba : b ≠ a := by rintro rfl; rw [ha] at e; cases e
    exact ⟨r.at (fun _ e => k _ _ hba e) kf, nb⟩
  · exact R.e.keep kf fun b o hbd e => ⟨o, k b o (by rintro rfl; exact hd hbd) e, .refl o⟩

theorem owned_sound {k : ItK} {v : Val} {xs : List Val} {I : Addr} {i : Nat} (hi : IterAt W k v xs I i s.heap) {target : Expr} {y : Value} {P : Unit → Shared → Prop} (hp : P () s) : wpAny (model W.prog W.w) A (letOwnedTupleGo target (.ref I) y) P E s := by
  have hcls : ∃ o fs T, s.heap.get? I = some o ∧ o.cls = .type T ∧ o.data = .fields fs ∧ (T = "list_iterator" ∨ T = "tuple_iterator" ∨ T = "range_iterator") := by
    cases k with
    | plain =>
      rcases hi with ⟨_, a, vs, _, _, o, ho, hc, hd⟩ | ⟨_, a, _, o, ho, hc, hd⟩
      · exact ⟨o, _, _, ho, hc, hd, .inr (.inl rfl)⟩
      · exact ⟨o, _, _, ho, hc, hd, .inl rfl⟩
    | range => exact ⟨_, _, _, hi, rfl, rfl, .inr (.inr rfl)⟩
  obtain ⟨o, fs, T, ho, hc, hd, hT⟩ := hcls
  have go : wpAny (model W.prog W.w) A (do
      let o ← load I
      match o.cls, o.data with
      | .type n, .fields vs =>
        if (["enumerate", "zip", "dict_itemiterator", "dict_reverseitemiterator", "odict_iterator", "itertools.zip_longest", "itertools.pairwise"].contains n && vs[0]? == some (rawInt (match y with | .ref a => a | _ => 0))) = true then do
          rule "for.unpacks-the-owned-tuple"
          updateField I 0 .none
        else pure ()
      | _, _ => pure ()) P E s := by
    refine wpAny_bind (wpAny_load ho ?_)
    rw [hc, hd]
    dsimp only
    rw [if_neg]
    · exact wpAny_pure hp
    · rcases hT with rfl | rfl | rfl <;> simp
  unfold letOwnedTupleGo
  cases target <;> first | exact wpAny_pure hp | (cases y <;> first | exact wpAny_pure hp | exact go)

theorem chkScope_spec {sc csc : Scope} {new vis : List (Nat × Str)} (h : chkScope sc csc new vis = true) :
    csc.kind = .function ∧ (∀ p ∈ csc.names, p.2 ≠ .cell) ∧ (∀ p ∈ csc.names, p.2 = .local → csc.names.lookup p.1 = some .local ∧ (p.1 = (".0" : Str) ∨ ∃ q ∈ new, q.2 = p.1)) ∧ (∀ p ∈ csc.names, p.2 = .free → kindIs sc p.1 = true) ∧
      (∀ q ∈ new, csc.names.lookup q.2 = some .local) ∧ (∀ q ∈ vis, q.2 ≠ (".0" : Str)) ∧ (∀ p ∈ vis, ∀ q ∈ new, p.1 ≠ q.1) := by
  unfold chkScope at h
  simp only [Bool.and_eq_true, List.all_eq_true, beq_iff_eq] at h
  obtain ⟨⟨⟨⟨⟨⟨⟨h1, _⟩, _⟩, h4⟩, h5⟩, h6⟩, _⟩, h7⟩ := h
  refine ⟨h1, fun p hp e => ?_, fun p hp e => ?_, fun p hp e => ?_, h5, fun q hq e => ?_, fun p hp q hq e => ?_⟩
  · have := h4 p hp; rw [e] at this; simp at this
  · have := h4 p hp
    rw [e] at this
    simp only [Bool.and_eq_true, beq_iff_eq, Bool.or_eq_true, List.any_eq_true] at this
    exact this
  · have := h4 p hp; rw [e] at this; exact this
  · have := h6 q hq
    rw [e] at this; simp at this
  · have := h7 p hp q hq
    rw [e] at this; simp at this

theorem lookup_relabel {env : Env} {x : Str} {k : NameKind} : ∀ {names : List (Str × NameKind)}, names.lookup x = some k →
    (names.map fun (n, k) => if (k == NameKind.free && env.scope.kind == .function && env.kindOf n == some .cell) then (n, NameKind.cell) else (n, k)).lookup x = some (if (k == NameKind.free && env.scope.kind == .function && env.kindOf x == some .cell) then .cell else k)
  | [], h => by simp at h
  | (n, k') :: r, h => by
    simp only [List.map_cons]
    rw [List.lookup_cons] at h
    split at h
    · rename_i q
      cases h
      have : x = n := by simpa using q
      subst this
      split <;> simp [List.lookup_cons]
    · rename_i q
      have ih := lookup_relabel (env := env) h
      split <;> (rw [List.lookup_cons, q]; exact ih)
theorem lookup_relabel_none {env : Env} {x : Str} : ∀ {names : List (Str × NameKind)}, names.lookup x = none →
    (names.map fun (n, k) => if (k == NameKind.free && env.scope.kind == .function && env.kindOf n == some .cell) then (n, NameKind.cell) else (n, k)).lookup x = none
  | [], h => rfl
  | (n, k') :: r, h => by
    simp only [List.map_cons]
    rw [List.lookup_cons] at h
    split at h
    · cases h
    · rename_i q
      have ih := lookup_relabel_none (env := env) h
      split <;> (rw [List.lookup_cons, q]; exact ih)
theorem mem_of_lookup {x : Str} {k : NameKind} : ∀ {l : List (Str × NameKind)}, l.lookup x = some k → (x, k) ∈ l
  | (n, k') :: r, h => by
    rw [List.lookup_cons] at h
    split at h
    · rename_i q; cases h; have : x = n := by simpa using q
      subst this; exact .head _
    · exact .tail _ (mem_of_lookup h)

noncomputable abbrev cEnv (csc : Scope) (C : Addr) (env : Env) : Env :=
  { scope := relabel csc env, locals := C, globals := env.globals, cells := freeCells env csc.names [], qual := env.qual, func := none, code := env.code, frame := env.frame, builtins := env.builtins }

theorem cEnv_kind {csc : Scope} {C : Addr} {x : Str} {k : NameKind} (h : (cEnv csc C env).kindOf x = some k) :
    ∃ k', csc.names.lookup x = some k' ∧ (k' ≠ .free → k = k') ∧ (k' = .free → k = .free ∨ k = .cell) := by
  have h' : (csc.names.map fun (n, k) => if (k == NameKind.free && env.scope.kind == .function && env.kindOf n == some .cell) then (n, NameKind.cell) else (n, k)).lookup x = some k := h
  cases q : csc.names.lookup x with
  | none => rw [lookup_relabel_none q] at h'; cases h'
  | some k' =>
    rw [lookup_relabel q] at h'
    refine ⟨k', rfl, fun hn => ?_, fun hf => ?_⟩
    · rw [if_neg (by simp [hn])] at h'; cases h'; rfl
    · subst hf
      split at h'
      · cases h'; exact .inr rfl
      · cases h'; exact .inl rfl
theorem cEnv_sc {csc : Scope} {C : Addr} : ScOk csc (cEnv csc C env) := fun x k h => by
  have h' : (cEnv csc C env).kindOf x = some (if (k == NameKind.free && env.scope.kind == .function && env.kindOf x == some .cell) then .cell else k) := lookup_relabel h
  refine ⟨fun hf => ?_, fun hn => ?_⟩
  · subst hf
    rw [h']
    split
    · exact .inr rfl
    · exact .inl rfl
  · rw [h', if_neg (by simp [hn])]

theorem free_cells {sc csc : Scope} {new : List (Nat × Str)} (R : Rel W env vis loc mem s) (hsc : ScOk sc env) (hc : chkScope sc csc new vis = true) : ∀ p ∈ csc.names, p.2 = .free → ∃ c, env.cells.lookup p.1 = some c := fun p hp hf => by
  have h := (chkScope_spec hc).2.2.2.1 p hp hf
  unfold kindIs at h
  split at h
  · rename_i q; exact R.e.cellk _ _ ((hsc _ _ q).2 (by simp)) (.inl rfl)
  · rename_i q
    rcases (hsc _ _ q).1 rfl with q' | q'
    · exact R.e.cellk _ _ q' (.inr rfl)
    · exact R.e.cellk _ _ q' (.inl rfl)
  · cases h

theorem cEnv_rel {sc csc : Scope} {new : List (Nat × Str)} {C : Addr} {t : Tg} {target : Expr} (R : Rel W env vis loc mem s) (hsc : ScOk sc env) (hc : chkScope sc csc new vis = true) (hT : chkT t target = some new)
    (hC : s.heap.Ns C fun _ => none) (hm : mem C = none) (hb : W.base.get? C = none) : Rel W (cEnv csc C env) (newVis new vis) (unsetT t loc) mem s := by
  obtain ⟨h1, h2, h3, h4, h5, h6, _⟩ := chkScope_spec hc
  have hfc := free_cells R hsc hc
  have hcl : ∀ x c, (freeCells env csc.names []).lookup x = some c → (x, NameKind.free) ∈ csc.names ∧ env.cells.lookup x = some c := fun x c h => by
    rcases freeCells_lookup csc.names [] hfc c h with q | q
    · cases q
    · exact q
  have hgv : ∀ i x v, (i, x) ∈ newVis new vis → getV (unsetT t loc) i = some v → (i, x) ∈ vis ∧ (∀ q ∈ new, q.2 ≠ x) ∧ getV loc i = some v := fun i x v hi hg => by
    unfold newVis at hi
    rcases List.mem_append.mp hi with hi | hi
    · exfalso
      cases t with
      | one j =>
        obtain ⟨z, pz, rfl, rfl⟩ := chkT1_inv hT
        have : i = j := by have := List.mem_singleton.mp hi; cases this; rfl
        subst this
        exact (getV_unset hg).1 rfl
      | two j j' =>
        obtain ⟨z, pz, z', pz', kk, pp, rfl, _, _, rfl⟩ := chkT2_inv hT
        have g1 := getV_unset (l := unset loc j) hg
        have g2 := getV_unset g1.2
        rcases List.mem_cons.mp hi with q | q
        · cases q; exact g2.1 rfl
        · have := List.mem_singleton.mp q; cases this; exact g1.1 rfl
    · rw [List.mem_filter] at hi
      have hnew : ∀ q ∈ new, q.2 ≠ x := fun q hq e => by
        have := hi.2
        simp only [Bool.not_eq_true', List.any_eq_false, beq_iff_eq] at this
        exact this q hq e
      refine ⟨hi.1, hnew, ?_⟩
      cases t with
      | one j => exact (getV_unset hg).2
      | two j j' => exact (getV_unset (getV_unset hg).2).2
  refine ⟨R.m, ⟨h1, R.e.glob, R.e.blt, ⟨_, hC, fun i x v hi hg hk => ?_⟩, fun i x v k hi hg hk hck => ?_, fun x k hk hck => ?_, fun x c hx => ?_, fun x y c hx hy => ?_⟩, fun b hbd => ?_, fun b hbd => ?_⟩
  · exfalso
    obtain ⟨g1, g2, g3⟩ := hgv i x v hi hg
    obtain ⟨k', e1, e2, e3⟩ := cEnv_kind hk
    have : k' = .local := by
      cases k' with
      | free => rcases e3 rfl with q | q <;> cases q
      | «local» => rfl
      | cell => have := e2 (by simp); cases this
      | globalExplicit => have := e2 (by simp); cases this
      | globalImplicit => have := e2 (by simp); cases this
    subst this
    rcases (h3 (x, .local) (mem_of_lookup e1) rfl).2 with q | ⟨q, hq, e⟩
    · exact h6 _ g1 q
    · exact g2 q hq e
  · obtain ⟨g1, g2, g3⟩ := hgv i x v hi hg
    obtain ⟨k', e1, e2, e3⟩ := cEnv_kind hk
    have hk' : k' = .free := by
      cases k' with
      | free => rfl
      | cell => exact absurd rfl (h2 _ (mem_of_lookup e1))
      | «local» => have := e2 (by simp); subst this; rcases hck with q | q <;> cases q
      | globalExplicit => have := e2 (by simp); subst this; rcases hck with q | q <;> cases q
      | globalImplicit => have := e2 (by simp); subst this; rcases hck with q | q <;> cases q
    subst hk'
    have hm' := mem_of_lookup e1
    obtain ⟨c, hc'⟩ := freeCells_some csc.names [] hfc (.inl hm')
    have hcc := (hcl x c hc').2
    have hks := h4 _ hm' rfl
    have hkk : ∃ kk, env.kindOf x = some kk ∧ (kk = .cell ∨ kk = .free) := by
      unfold kindIs at hks
      split at hks
      · rename_i q; exact ⟨_, (hsc _ _ q).2 (by simp), .inl rfl⟩
      · rename_i q
        rcases (hsc _ _ q).1 rfl with q' | q'
        · exact ⟨_, q', .inr rfl⟩
        · exact ⟨_, q', .inl rfl⟩
      · cases hks
    obtain ⟨kk, hk1, hk2⟩ := hkk
    obtain ⟨c', y, f1, f2, f3⟩ := R.e.cell i x v kk g1 g3 hk1 hk2
    rw [hcc] at f1; cases f1
    exact ⟨c, y, hc', f2, f3⟩
  · obtain ⟨k', e1, e2, e3⟩ := cEnv_kind hk
    have hk' : k' = .free := by
      cases k' with
      | free => rfl
      | cell => exact absurd rfl (h2 _ (mem_of_lookup e1))
      | «local» => have := e2 (by simp); subst this; rcases hck with q | q <;> cases q
      | globalExplicit => have := e2 (by simp); subst this; rcases hck with q | q <;> cases q
      | globalImplicit => have := e2 (by simp); subst this; rcases hck with q | q <;> cases q
    subst hk'
    exact freeCells_some csc.names [] hfc (.inl (mem_of_lookup e1))
  · exact R.e.cells x c (hcl x c hx).2
  · exact R.e.apart x y c (hcl x c hx).2 (hcl y c hy).2
  · rcases hbd with rfl | ⟨x, hx⟩
    · exact hm
    · exact R.sep _ (.inr ⟨x, (hcl x b hx).2⟩)
  · rcases hbd with rfl | ⟨x, hx⟩
    · exact hb
    · exact R.new _ (.inr ⟨x, (hcl x b hx).2⟩)

end TD

namespace TD
open PySem PyProof.Rows
variable {W : Cx} {A : Around} {E : Value → Shared → Prop} {env : Env} {vis : List (Nat × Str)} {loc : Loc} {mem : Mem} {s : Shared} {Q : Val → Mem → Prop}

theorem newVis_ok {new vis : List (Nat × Str)} {t : Tg} {target : Expr} (hT : chkT t target = some new) (hv : VisOk vis) (hi : ∀ p ∈ vis, ∀ q ∈ new, p.1 ≠ q.1) : VisOk (newVis new vis) := by
  have hnew : ∀ i x j y, (i, x) ∈ new → (j, y) ∈ new → (i = j ↔ x = y) := by
    cases t with
    | one j =>
      obtain ⟨z, pz, rfl, rfl⟩ := chkT1_inv hT
      intro i x j y h1 h2
      have a := List.mem_singleton.mp h1; have b := List.mem_singleton.mp h2
      cases a; cases b; exact ⟨fun _ => rfl, fun _ => rfl⟩
    | two j j' =>
      obtain ⟨z, pz, z', pz', kk, pp, rfl, hne1, hne2, rfl⟩ := chkT2_inv hT
      intro a x b y h1 h2
      rcases List.mem_cons.mp h1 with h1 | h1 <;> rcases List.mem_cons.mp h2 with h2 | h2
      · cases h1; cases h2; exact ⟨fun _ => rfl, fun _ => rfl⟩
      · have h2 := List.mem_singleton.mp h2; cases h1; cases h2; exact ⟨fun q => absurd q hne2, fun q => absurd q hne1⟩
      · have h1 := List.mem_singleton.mp h1; cases h1; cases h2; exact ⟨fun q => absurd q.symm hne2, fun q => absurd q.symm hne1⟩
      · have h1 := List.mem_singleton.mp h1; have h2 := List.mem_singleton.mp h2; cases h1; cases h2; exact ⟨fun _ => rfl, fun _ => rfl⟩
  intro i x j y h1 h2
  unfold newVis at h1 h2
  rcases List.mem_append.mp h1 with h1 | h1 <;> rcases List.mem_append.mp h2 with h2 | h2
  · exact hnew i x j y h1 h2
  · rw [List.mem_filter] at h2
    have hy : ∀ q ∈ new, q.2 ≠ y := fun q hq e => by
      have := h2.2
      simp only [Bool.not_eq_true', List.any_eq_false, beq_iff_eq] at this
      exact this q hq e
    exact ⟨fun e => absurd e (Ne.symm (hi _ h2.1 _ h1)), fun e => absurd e (hy _ h1)⟩
  · rw [List.mem_filter] at h1
    have hy : ∀ q ∈ new, q.2 ≠ x := fun q hq e => by
      have := h1.2
      simp only [Bool.not_eq_true', List.any_eq_false, beq_iff_eq] at this
      exact this q hq e
    exact ⟨fun e => absurd e (hi _ h1.1 _ h2), fun e => absurd e.symm (hy _ h2)⟩
  · rw [List.mem_filter] at h1 h2
    exact hv i x j y h1.1 h2.1

theorem tgOk_of {t : Tg} {target : Expr} {new : List (Nat × Str)} (hT : chkT t target = some new) : TgOk t := by
  cases t with
  | one _ => trivial
  | two i j =>
    obtain ⟨z, pz, z', pz', kk, pp, _, _, hne, _⟩ := chkT2_inv hT
    exact hne

theorem Cur.stands {k : ItK} {v : Val} {xs : List Val} {mem mem' : Mem} (h : Cur k v xs mem) (hs : stands k v mem mem') : Cur k v xs mem' := by
  cases k with
  | plain =>
    cases v with
    | tup _ => exact h
    | _ => exact (show lst mem' _ = _ from hs).trans h
  | range => exact h

theorem iter_self {k : ItK} {v : Val} {xs : List Val} {I : Addr} {i : Nat} (hi : IterAt W k v xs I i s.heap) {P : Value → Shared → Prop} (hp : P (.ref I) s) : wpAny (model W.prog W.w) A (pyIter (.ref I)) P E s := by
  cases k with
  | plain =>
    rcases hi with ⟨_, a, vs, _, _, hit⟩ | ⟨_, a, _, hit⟩
    · exact wpAny_pyIter_tupleiter hit hp
    · exact wpAny_pyIter_listiter hit hp
  | range => exact wpAny_pyIter_rangeiter hi hp

theorem turn_lt {n i : Nat} (h : i < n) : n + 1 - (i + 1) < n + 1 - i := by omega
inductive CI (W : Cx) (csc : Scope) (env : Env) (vis' : List (Nat × Str)) (t : Tg) (loc : Loc) (mem : Mem) (h₀ : Heap) (k : ItK) (v : Val) (xs : List Val) (I D C' : Addr) (B : Loc → (Bool → Mem → Prop) → Mem → Prop) (V : Loc → (Val → Mem → Prop) → Mem → Prop) (QL : List Val → Mem → Prop) (n : Nat) (s' : Shared) : Prop
  | mk (i : Nat) (mem' : Mem) (l' : Loc) (ys : List Val) (vs : List Value) (h1 : n = xs.length + 1 - i) (h2 : i ≤ xs.length) (h3 : SameT t l' loc) (h4 : Rel W (cEnv csc C' env) vis' l' mem' s') (h5 : Step NoD mem h₀ mem' s'.heap) (h6 : IterAt W k v xs I i s'.heap)
      (h7 : stands k v mem mem') (h8 : s'.heap.PlainList D (List.toArray vs)) (h9 : VRels W s'.heap ys vs) (h10 : mem' D = none) (h11 : mem' I = none) (h12 : ys.length ≤ i) (h13 : compLoop (compF t loc B V) (stands k v mem) (xs.drop i) ys QL mem')
theorem comp_core {B : Loc → (Bool → Mem → Prop) → Mem → Prop} {V : Loc → (Val → Mem → Prop) → Mem → Prop} {k : ItK} {v : Val} {xs : List Val} {I : Addr} {s₂ : Shared} {sc csc : Scope} {new : List (Nat × Str)} {t : Tg} {target iter elt' : Expr} {ifs : List Expr} {pos : Pos}
    {QL : List Val → Mem → Prop} {RR : Value → Addr → Result → Shared → Prop} (hh : A.handled = none)
    (R : Rel W env vis loc mem s) (R2 : Rel W env vis loc mem s₂) (S2 : Step NoD mem s.heap mem s₂.heap) (hI : s.heap.get? I = none) (hit : IterAt W k v xs I 0 s₂.heap) (hcur : Cur k v xs mem) (hlen : xs.length < lid)
    (hsc : ScOk sc env) (hchk : chkScope sc csc new vis = true) (hT : chkT t target = some new) (hv : VisOk vis) (hi : ∀ p ∈ vis, ∀ q ∈ new, p.1 ≠ q.1)
    (htests : ∀ C' l P mem' s' E', Rel W (cEnv csc C' env) (newVis new vis) l mem' s' → B l P mem' →
      wpAny (model W.prog W.w) A (forIn ifs true fun c r => if r = true then do let ok ← isTrue c (cEnv csc C' env) (eval c (cEnv csc C' env)); pure (ForInStep.yield ok) else pure (ForInStep.yield r)) (PT W mem' s' P) E' s')
    (helt : ∀ C' l P mem' s' E', Rel W (cEnv csc C' env) (newVis new vis) l mem' s' → V l P mem' → wpAny (model W.prog W.w) A (eval elt' (cEnv csc C' env)) (PM W mem' s' P) E' s')
    (hloop : compLoop (compF t loc B V) (stands k v mem) xs [] QL mem)
    (hRR : ∀ D C' s' mem' ys vs m, s.heap.get? D = none → s.heap.get? C' = none → C' ≠ D → s'.heap.Ns C' m → s'.heap.PlainList D (List.toArray vs) → VRels W s'.heap ys vs → MRel W mem' s' → Step NoD mem s.heap mem' s'.heap → mem' C' = none → mem' D = none → QL ys mem' →
      RR (.ref D) C' (.ok .next) s') :
    wpAny (model W.prog W.w) A (newList []) (fun acc s₃ => wpAny (model W.prog W.w) A (newFunctionEnv csc env.globals (freeCells env csc.names []) [] env.qual none .none (some env)) (fun cenv s₄ =>
      codeAny (model W.prog W.w) A (.compStart (.ListComp elt' [⟨target, iter, ifs, 0⟩] csc pos) 0 (.ref I) acc { cenv with scope := relabel csc env }) (RR acc cenv.locals) s₄) E s₃) E s₂ := by
  obtain ⟨c1, c2, c3, c4, c5, c6, _⟩ := chkScope_spec hchk
  have gone : ∀ b, s₂.heap.get? b = none → s.heap.get? b = none := S2.alive
  refine wpAny_newObj_type ?_ (by show ([] : List Value).toArray.size ≤ sizeLine; simp)
  refine wpAny_newFunctionEnv c2 (by intro x hx; cases hx) (fun h₄ hns hsb => ?_) c1
  dsimp only at hns hsb ⊢
  generalize hDdef : s₂.heap.objs.size = D at hns hsb ⊢
  generalize hH3 : s₂.heap.push { cls := .type "list", data := .seq ([] : List Value).toArray } = H3 at hns hsb ⊢
  generalize hCdef : H3.objs.size = C' at hns hsb ⊢
  have hCD : C' = D + 1 := by rw [← hCdef, ← hH3, Heap.size_push, hDdef]
  have hDne : C' ≠ D := by rw [hCD]; exact Nat.succ_ne_self D
  have hD2 : s₂.heap.get? D = none := hDdef ▸ size_none _
  have hC2 : s₂.heap.get? C' = none := by
    cases q : s₂.heap.get? C' with
    | none => rfl
    | some o => have := Heap.lt_size q; rw [hDdef, hCD] at this; exact absurd this (Nat.not_lt.mpr (Nat.le_succ _))
  have old : ∀ b o, s₂.heap.get? b = some o → h₄.get? b = some o := fun b o e => by
    have hb : b ≠ C' := by rintro rfl; rw [hC2] at e; cases e
    rw [hsb.2 b hb]
    exact Heap.get?_push_of_some _ (hH3 ▸ Heap.get?_push_of_some _ e)
  have hDobj : h₄.get? D = some { cls := .type "list", data := .seq ([] : List Value).toArray } := by
    rw [hsb.2 D (Ne.symm hDne)]
    refine Heap.get?_push_of_some _ ?_
    rw [← hH3, ← hDdef]; exact Heap.get?_push_size _ rfl
  have kL : KeepL env.locals s₂.heap h₄ := .of_keeps old
  have R4 : Rel W env vis loc mem { s₂ with heap := h₄, toks := s₂.toks + ([] : List (Str × Value)).length } := R2.step (R2.keepM kL) (R2.keepS kL)
  have S4 : Step NoD mem s.heap mem h₄ := S2.trans (R2.keepS kL)
  have hbase : ∀ b, s.heap.get? b = none → W.base.get? b = none := fun b e => by
    cases q : W.base.get? b with
    | none => rfl
    | some o => rw [R.m.stays b o q] at e; cases e
  have hsD := gone D hD2
  have hsC := gone C' hC2
  have RC := cEnv_rel (csc := csc) (C := C') R4 hsc hchk hT (by simpa using hns) (R.m.mems.fresh hsC) (hbase _ hsC)
  have hit4 : IterAt W k v xs I 0 h₄ := hit.keep (R2.keepF kL) fun o e => old I o e
  have hv' := newVis_ok hT hv hi
  have htg := tgOk_of hT
  have hkn : ∀ p ∈ new, (cEnv csc C' env).kindOf p.2 = some .local := fun p hp => (cEnv_sc (csc := csc) (C := C') (env := env) _ _ (c5 p hp)).2 (by simp)
  have hmn : ∀ p ∈ new, p ∈ newVis new vis := fun p hp => List.mem_append_left _ hp
  have hI2 : ∃ o, s₂.heap.get? I = some o := let ⟨o, _, e, _⟩ := hit.there; ⟨o, e⟩
  have hDI : I ≠ D := by rintro rfl; obtain ⟨o, e⟩ := hI2; rw [hD2] at e; cases e
  have hCI : I ≠ C' := by rintro rfl; obtain ⟨o, e⟩ := hI2; rw [hC2] at e; cases e
  have loop : codeAny (model W.prog W.w) A (.compLoop (.ListComp elt' [⟨target, iter, ifs, 0⟩] csc pos) 0 (.ref I) (.ref D) (cEnv csc C' env)) (RR (.ref D) C') { s₂ with heap := h₄, toks := s₂.toks + ([] : List (Str × Value)).length } := by
    refine compLoop_any (CI W csc env (newVis new vis) t loc mem s.heap k v xs I D C' B V QL) ?_ (xs.length + 1)
      (.mk 0 mem (unsetT t loc) [] [] rfl (Nat.zero_le _) (SameT.unset htg) RC S4 hit4 (by cases k <;> first | trivial | rfl) ⟨0, hDobj⟩ .nil (R.m.mems.fresh hsD) (R.m.mems.fresh hI) (Nat.le_refl _) hloop)
    rintro n s' ⟨i, mem', l', ys, vs, rfl, hi', hst, R', S', hit', hstd, hpl, hr, hmD, hmI, hys, hlp⟩
    have hnC : ∀ b, FrD (cEnv csc C' env) b → ∃ o, s'.heap.get? b = some o ∧ ((∃ es n, o.data = .dict es n) ∨ ∃ u, o.data = .cell u) := fun b hb => R'.e.there hb
    have hDnf : ¬ FrD (cEnv csc C' env) D := fun hb => by
      obtain ⟨o, e, hd⟩ := hnC D hb
      obtain ⟨n, hn⟩ := hpl
      rw [hn] at e; cases e
      rcases hd with ⟨_, _, q⟩ | ⟨_, q⟩ <;> cases q
    have hInf : ¬ FrD (cEnv csc C' env) I := fun hb => by
      obtain ⟨o, e, hd⟩ := hnC I hb
      obtain ⟨o', fs, e', hd'⟩ := hit'.there
      rw [e] at e'; cases e'
      rw [hd'] at hd
      rcases hd with ⟨_, _, q⟩ | ⟨_, q⟩ <;> cases q
    by_cases hlt : i < xs.length
    · refine iter_next R'.m (hcur.stands hstd) hit' hmI hlt fun x y h' tk hx hxr hit1 hs1 => ?_
      have kb1 : KeepBut I s'.heap h' := fun b o hb e => (hs1.2 b hb).trans e
      obtain ⟨R1, kf1⟩ := R'.off (s' := { s' with heap := h', toks := tk }) I hmI (hbase _ hI) hInf (fun o e hf => by
        obtain ⟨o', fs, e', hd'⟩ := hit'.there
        rw [e] at e'; cases e'
        obtain ⟨_, _, _, q⟩ := hf; rw [hd'] at q; cases q) kb1
      have S1 : Step NoD mem s.heap mem' h' := S'.off (· = I) (fun b hb => hb ▸ hI) fun b o hb e => kb1 b o hb e
      refine owned_sound hit1 ?_
      have hdrop : xs.drop i = x :: xs.drop (i + 1) := by
        rw [List.drop_eq_getElem_cons hlt]
        congr 1
        rw [List.getElem?_eq_getElem hlt] at hx
        exact Option.some.inj hx
      rw [hdrop] at hlp
      obtain ⟨l, hl, hlp'⟩ := hlp
      · refine assignT R1 hh hv' hT hmn (fun p hp => .inl (hkn p hp)) hxr (hst x l hl) fun s2 R2' _ hkb2 => ?_
        have kb2 := hkb2 hkn
        have S2' : Step NoD mem s.heap mem' s2.heap := S1.off (· = C') (fun b hb => hb ▸ hsC) fun b o hb e => kb2 b o hb e
        have pl1 : h'.PlainList D (List.toArray vs) := let ⟨n, hn⟩ := hpl; ⟨n, kb1 D _ (Ne.symm hDI) hn⟩
        have pl2 : s2.heap.PlainList D (List.toArray vs) := let ⟨n, hn⟩ := pl1; ⟨n, kb2 D _ (Ne.symm hDne) hn⟩
        have kf2 : KeepF h' s2.heap := fun b o e hf => kb2 b o (by
          rintro rfl
          exact R1.e.dok _ o (.inl rfl) e hf) e
        have hit2 : IterAt W k v xs I (i + 1) s2.heap := hit1.keep kf2 fun o e => kb2 I o hCI e
        have hr2 : VRels W s2.heap ys vs := (hr.keep kf1).keep kf2
        refine wpAny_mono (htests C' l _ mem' s2 _ R2' hlp') (fun ok s3 h3 => ?_) fun _ _ e => e
        obtain ⟨mem3, M3, S3, h3⟩ := h3
        have R3 := R2'.step M3 S3
        have hI3 : ∃ o fs, s2.heap.get? I = some o ∧ o.data = .fields fs := hit2.there
        have keepI : ∀ (ma mb : Mem) (ha hb : Heap), Step NoD ma ha mb hb → ma I = none → (∃ o fs, ha.get? I = some o ∧ o.data = .fields fs) → ∀ o, ha.get? I = some o → hb.get? I = some o := fun ma mb ha hb S hm ⟨o', fs, e', hd'⟩ o e => by
          obtain ⟨o2, e2, a2⟩ := S.keep I o e hm id
          rw [e] at e'; cases e'
          rw [e2, a2.eq fun es ep q => by rw [hd'] at q; cases q]
        have keepD : ∀ (ma mb : Mem) (ha hb : Heap), Step NoD ma ha mb hb → ma D = none → ha.PlainList D (List.toArray vs) → hb.PlainList D (List.toArray vs) := fun ma mb ha hb S hm ⟨n, hn⟩ => by
          obtain ⟨o2, e2, a2⟩ := S.keep D _ hn hm id
          exact ⟨n, by rw [e2, a2.eq fun es ep q => by cases q]⟩
        have kf3 := S3.keepF R2'.m.mems .none
        have hit3 := hit2.keep kf3 (keepI _ _ _ _ S3 hmI hI3)
        have pl3 := keepD _ _ _ _ S3 hmD pl2
        obtain ⟨oI, fI, eI, dI⟩ := hI3
        have hmI3 := S3.none' eI hmI
        obtain ⟨nD, eD⟩ := id pl2
        have hmD3 := S3.none' eD hmD
        cases ok with
        | false =>
          simp only [Bool.false_eq_true, if_false]
          obtain ⟨q1, q2⟩ := h3.2 rfl
          exact ⟨xs.length + 1 - (i + 1), turn_lt hlt, .mk (i + 1) mem3 l (ys ++ []) vs rfl hlt (SameT.set htg hl) R3 (S2'.trans S3) hit3 q1 pl3 (by rw [List.append_nil]; exact hr2.keep kf3) hmD3 hmI3 (by rw [List.append_nil]; exact Nat.le_succ_of_le hys) q2⟩
        | true =>
          simp only [if_true]
          refine wpAny_mono (helt C' l _ mem3 s3 _ R3 (h3.1 rfl)) (fun z s4 h4 => ?_) fun _ _ e => e
          obtain ⟨w, mem4, hw, M4, S4', q1, q2⟩ := h4
          have R4' := R3.step M4 S4'
          have kf4 := S4'.keepF R3.m.mems .none
          have hit4' := hit3.keep kf4 (keepI _ _ _ _ S4' hmI3 hit3.there)
          have pl4 := keepD _ _ _ _ S4' hmD3 pl3
          obtain ⟨oI4, fI4, eI4, dI4⟩ := hit3.there
          have hmI4 := S4'.none' eI4 hmI3
          obtain ⟨nD3, eD3⟩ := id pl3
          have hmD4 := S4'.none' eD3 hmD3
          have hr4 := (hr2.keep kf3).keep kf4
          refine wpAny_list_append_plain pl4 (fun h5 pl5 hs5 => ?_) (by rw [List.size_toArray, hr4.length]; exact lid_line (by omega))
          have kb5 : KeepBut D s4.heap h5 := fun b o hb e => (hs5.2 b hb).trans e
          obtain ⟨nD4, eD4⟩ := id pl4
          obtain ⟨R5, kf5⟩ := R4'.off (s' := { s4 with heap := h5 }) D hmD4 (hbase _ hsD) (fun hb => by
            obtain ⟨o, e, hd⟩ := R4'.e.there hb
            rw [eD4] at e; cases e
            rcases hd with ⟨_, _, q⟩ | ⟨_, q⟩ <;> cases q) (fun o e hf => by
            rw [eD4] at e; cases e
            have := hf.1; simp at this) kb5
          have S5 : Step NoD mem s.heap mem4 h5 := ((S2'.trans S3).trans S4').off (· = D) (fun b hb => hb ▸ hsD) fun b o hb e => kb5 b o hb e
          exact ⟨xs.length + 1 - (i + 1), turn_lt hlt, .mk (i + 1) mem4 l (ys ++ [w]) (vs ++ [z]) rfl hlt (SameT.set htg hl) R5 S5 (hit4'.keep kf5 fun o e => kb5 I o hDI e) q1 (by simpa using pl5) ((VRels.append (.cons hw .nil) hr4).keep kf5) hmD4 hmI4 (by rw [List.length_append]; exact Nat.succ_le_succ hys) q2⟩
    · have hie : i = xs.length := by omega
      subst hie
      refine iter_end R'.m hh (hcur.stands hstd) hit' fun h' he => ?_
      have kb1 : KeepBut I s'.heap h' := fun b o hb e => he b o hb e
      obtain ⟨R1, kf1⟩ := R'.off (s' := { s' with heap := h' }) I hmI (hbase _ hI) hInf (fun o e hf => by
        obtain ⟨o', fs, e', hd'⟩ := hit'.there
        rw [e] at e'; cases e'
        obtain ⟨_, _, _, q⟩ := hf; rw [hd'] at q; cases q) kb1
      have S1 : Step NoD mem s.heap mem' h' := S'.off (· = I) (fun b hb => hb ▸ hI) fun b o hb e => kb1 b o hb e
      have hq : QL ys mem' := by rw [List.drop_length] at hlp; exact hlp
      obtain ⟨m, hm⟩ := R1.hasNs
      obtain ⟨nD, eD⟩ := hpl
      exact hRR D C' _ mem' ys vs m hsD hsC hDne hm ⟨nD, kb1 D _ (Ne.symm hDI) eD⟩ (hr.keep kf1) R1.m S1 (R1.sep _ (.inl rfl)) hmD hq
  exact codeAny_compStart_list loop (iter_self hit4 loop)

end TD

namespace TD
open PySem PyProof.Rows
variable {W : Cx} {A : Around} {E : Value → Shared → Prop} {env : Env} {vis : List (Nat × Str)} {loc : Loc} {mem : Mem} {s : Shared} {Q : Val → Mem → Prop}

theorem eval_call {x : Str} {px p : Pos} {args : List Expr} {M : Model} {P : Value → Shared → Prop} (h : wpAny M A (eval (.Name x px) env) (fun f s₁ => wpAny M A (callWith p f [] (backTo p (starEach args env)) []) P E s₁) E s) :
    wpAny M A (eval (.Call (.Name x px) args [] p) env) P E s := by
  show wpAny M A (do callWith p (← eval (.Name x px) env) [] (backTo p (starEach args env)) []) P E s
  exact wpAny_bind h
theorem back_cons {p : Pos} {e : Expr} {rest : List Expr} (h : ∀ a q, e ≠ .Starred a q) : backTo p (starEach (e :: rest) env) = (false, eval e env) :: backTo p (starEach rest env) := by
  rw [star_plain h]; rfl
theorem call1b {id : String} {p : Pos} {e : Expr} {P : Value → Shared → Prop} (he : ∀ a q, e ≠ .Starred a q) (h : wpAny (model W.prog W.w) A (eval e env) (fun v s₁ => wpAny (model W.prog W.w) A (call (.builtin id) [v]) P E s₁) E s) :
    wpAny (model W.prog W.w) A (callWith p (.builtin id) [] (backTo p (starEach [e] env)) []) P E s := by
  rw [back_cons he]
  refine Calls.callWith_builtin rfl (Calls.evalArgs_plain (Calls.spliced_cons ?_))
  exact wpAny_mono h (fun v s₁ h₁ => Calls.spliced_nil h₁) fun _ _ x => x
theorem call1t {T : String} {p : Pos} {e : Expr} {P : Value → Shared → Prop} (he : ∀ a q, e ≠ .Starred a q) (h : wpAny (model W.prog W.w) A (eval e env) (fun v s₁ => wpAny (model W.prog W.w) A (call (.type T) [v]) P E s₁) E s) :
    wpAny (model W.prog W.w) A (callWith p (.type T) [] (backTo p (starEach [e] env)) []) P E s := by
  rw [back_cons he]
  refine PySem.callWith_type rfl (Calls.evalArgs_plain (Calls.spliced_cons ?_))
  exact wpAny_mono h (fun v s₁ h₁ => Calls.spliced_nil h₁) fun _ _ x => x
theorem call2b {id : String} {p : Pos} {e e' : Expr} {P : Value → Shared → Prop} (he : ∀ a q, e ≠ .Starred a q) (he' : ∀ a q, e' ≠ .Starred a q)
    (h : wpAny (model W.prog W.w) A (eval e env) (fun v s₁ => wpAny (model W.prog W.w) A (eval e' env) (fun u s₂ => wpAny (model W.prog W.w) A (call (.builtin id) [v, u]) P E s₂) E s₁) E s) :
    wpAny (model W.prog W.w) A (callWith p (.builtin id) [] (backTo p (starEach [e, e'] env)) []) P E s := by
  rw [back_cons he, back_cons he']
  refine Calls.callWith_builtin rfl (Calls.evalArgs_plain (Calls.spliced_cons ?_))
  exact wpAny_mono h (fun v s₁ h₁ => Calls.spliced_cons (wpAny_mono h₁ (fun u s₂ h₂ => Calls.spliced_nil h₂) fun _ _ x => x)) fun _ _ x => x
theorem callM1 {id : String} {p : Pos} {o : Value} {e : Expr} {P : Value → Shared → Prop} (he : ∀ a q, e ≠ .Starred a q) (h : wpAny (model W.prog W.w) A (eval e env) (fun v s₁ => wpAny (model W.prog W.w) A (call (.builtin id) [o, v]) P E s₁) E s) :
    wpAny (model W.prog W.w) A (callWith p (.builtin id) [o] (backTo p (starEach [e] env)) []) P E s := by
  rw [back_cons he]
  refine Calls.callWith_builtin rfl (Calls.evalArgs_plain (Calls.spliced_cons ?_))
  exact wpAny_mono h (fun v s₁ h₁ => Calls.spliced_nil h₁) fun _ _ x => x
theorem callM0 {id : String} {p : Pos} {o : Value} {P : Value → Shared → Prop} (h : wpAny (model W.prog W.w) A (call (.builtin id) [o]) P E s) :
    wpAny (model W.prog W.w) A (callWith p (.builtin id) [o] (backTo p (starEach [] env)) []) P E s := by
  refine Calls.callWith_builtin rfl ?_
  have e : evalArgs (.builtin id) true [] [] = pure ⟨[], []⟩ := by rfl
  show wpAny _ A (evalArgs (.builtin id) true [] []) _ _ s
  rw [e]
  exact wpAny_pure h

theorem folded_notSet {e : Expr} (h : notSet e = true) (x : Value) : foldedSetIterable e env x = pure x := by
  cases e <;> first | rfl | exact nb h

theorem src_sound {G : String → Option Val} (ok : CxOk W G) {sc : Scope} (hsc : ScOk sc env) {k : ItK} {iter : Expr} {PX : Val → List Val → Mem → Prop} (R : Rel W env vis loc mem s)
    {ex : Expr} (hex : ∀ a q, ex ≠ .Starred a q) (hk : IterIs sc k.call iter ex)
    (hsrc : wpAny (model W.prog W.w) A (eval ex env) (PM W mem s (fun v m1 => itemsW k v (fun xs => PX v xs m1) m1)) E s) {P : Value → Shared → Prop}
    (hp : ∀ I v xs mem1 s1 s', Rel W env vis loc mem1 s1 → Step NoD mem s.heap mem1 s1.heap → s1.heap.get? I = none → IterAt W k v xs I 0 s'.heap → Rel W env vis loc mem1 s' → Step NoD mem1 s1.heap mem1 s'.heap → Cur k v xs mem1 → xs.length < lid → PX v xs mem1 → P (.ref I) s') :
    wpAny (model W.prog W.w) A (eval iter env) (fun y s₁ => wpAny (model W.prog W.w) A (pyIter y) P E s₁) E s := by
  cases k with
  | plain =>
    obtain rfl : iter = ex := hk
    refine then1 R hsrc fun v y mem1 s1 hv R1 S1 h1 => ?_
    obtain ⟨xs, e, hl, hq⟩ := h1
    exact iter_start R1 hv e fun I s' hI hit R' S' => hp I v xs mem1 s1 s' R1 S1 hI hit R' S' e hl hq
  | range =>
    obtain ⟨x, px, p, rfl, hg⟩ := hk
    refine eval_call (builtin_sound R ok hsc hg (by simp [biNames]) Boot.«range» (call1t hex ?_))
    refine then1 R hsrc fun v y mem1 s1 hv R1 S1 h1 => ?_
    obtain ⟨n, rfl, hn, hq⟩ := h1
    obtain ⟨t, rfl⟩ := hv.int
    exact range_start R1 hn fun I s' hI hit R' S' => hp I _ _ mem1 s1 s' R1 S1 hI hit R' S' ⟨n, hn, rfl⟩ (by rw [rangeV_length]; unfold lid at hn ⊢; omega) hq

theorem hnames_of {sc csc : Scope} {new vis : List (Nat × Str)} (h : chkScope sc csc new vis = true) : ∀ p ∈ csc.names, p.2 = .local → csc.names.lookup p.1 = some .local := fun p hp e => ((chkScope_spec h).2.2.1 p hp e).1

section
variable {B : Loc → (Bool → Mem → Prop) → Mem → Prop} {V : Loc → (Val → Mem → Prop) → Mem → Prop} {G : String → Option Val} {k : ItK} {sc csc : Scope} {new : List (Nat × Str)} {t : Tg} {target iter elt' : Expr} {ifs : List Expr} {pos : Pos} {QL : List Val → Mem → Prop}

noncomputable def CompLeft (W : Cx) (env : Env) (mem : Mem) (s : Shared) (QL : List Val → Mem → Prop) (D C' : Addr) (s' : Shared) : Prop :=
  ∃ mem' ys vs m, s.heap.get? D = none ∧ s.heap.get? C' = none ∧ C' ≠ D ∧ s'.heap.Ns C' m ∧ s'.heap.PlainList D (List.toArray vs) ∧ VRels W s'.heap ys vs ∧ MRel W mem' s' ∧ Step NoD mem s.heap mem' s'.heap ∧ mem' C' = none ∧ mem' D = none ∧ QL ys mem'

theorem comp_run {use : Option (Value → Sem Unit)} {PP : Value → Shared → Prop} (hh : A.handled = none) (ok : CxOk W G) (R : Rel W env vis loc mem s)
    (hsc : ScOk sc env) (hchk : chkScope sc csc new vis = true) (hns : notSet iter = true) (hT : chkT t target = some new) (hv : VisOk vis) (hi : ∀ p ∈ vis, ∀ q ∈ new, p.1 ≠ q.1)
    {ex : Expr} (hex : ∀ a q, ex ≠ .Starred a q) (hk : IterIs sc k.call iter ex)
    (hsrc : wpAny (model W.prog W.w) A (eval ex env) (PM W mem s (fun v m1 => itemsW k v (fun xs => compLoop (compF t loc B V) (stands k v m1) xs [] QL m1) m1)) E s)
    (htests : ∀ C' l P mem' s' E', Rel W (cEnv csc C' env) (newVis new vis) l mem' s' → B l P mem' →
      wpAny (model W.prog W.w) A (forIn ifs true fun c r => if r = true then do let ok ← isTrue c (cEnv csc C' env) (eval c (cEnv csc C' env)); pure (ForInStep.yield ok) else pure (ForInStep.yield r)) (PT W mem' s' P) E' s')
    (helt : ∀ C' l P mem' s' E', Rel W (cEnv csc C' env) (newVis new vis) l mem' s' → V l P mem' → wpAny (model W.prog W.w) A (eval elt' (cEnv csc C' env)) (PM W mem' s' P) E' s')
    (hpost : ∀ D C' s', CompLeft W env mem s QL D C' s' → compPost (model W.prog W.w) A E use PP (.ref D) C' (.ok .next) s') :
    wpAny (model W.prog W.w) A (comprehension (.ListComp elt' [⟨target, iter, ifs, 0⟩] csc pos) csc env (firstIterPos [⟨target, iter, ifs, 0⟩] pos) (newList []) false (eval iter env) use) PP E s := by
  refine wpAny_comprehension_free (g := ⟨target, iter, ifs, 0⟩) (gs := []) rfl (fun x => folded_notSet hns x) (closure_eq (free_cells R hsc hchk)) (chkScope_spec hchk).1 (hnames_of hchk) ?_
  refine src_sound ok hsc R hex hk hsrc fun I v xs mem1 s1 s' R1 S1 hI hit R' S' hcur hlen hq => ?_
  refine comp_core hh R1 R' S' hI hit hcur hlen hsc hchk hT hv hi htests helt hq fun D C' s'' mem' ys vs m hD hC hne hnsC hpl hr hM hS hmC hmD hQL => ?_
  exact hpost D C' s'' ⟨mem', ys, vs, m, S1.alive D hD, S1.alive C' hC, hne, hnsC, hpl, hr, hM, S1.trans hS, hmC, hmD, hQL⟩

theorem CompLeft.done {D C' : Addr} {s' : Shared} (R : Rel W env vis loc mem s) (h : CompLeft W env mem s (fun ys m' => freshL m' ys Q) D C' s') {h' : Heap} (hs : Heap.SameBut C' s'.heap h') : PM W mem s Q (.ref D) { s' with heap := h' } := by
  obtain ⟨mem', ys, vs, m, hD, hC, hne, hnsC, ⟨nD, eD⟩, hr, hM, hS, hmC, hmD, hf⟩ := h
  have hbase : ∀ b, s.heap.get? b = none → W.base.get? b = none := fun b e => by
    cases q : W.base.get? b with
    | none => rfl
    | some o => rw [R.m.stays b o q] at e; cases e
  have kb : KeepBut C' s'.heap h' := fun b o hb e => (hs.2 b hb).trans e
  have kf : KeepF s'.heap h' := fun b o e hfx => kb b o (by
    rintro rfl
    obtain ⟨o', es, ep, e', hd, _⟩ := hnsC
    rw [e] at e'; cases e'
    obtain ⟨_, _, _, q⟩ := hfx; rw [hd] at q; cases q) e
  have M' : MRel W mem' { s' with heap := h' } := by
    refine ⟨fun b o e => kb b o (by rintro rfl; rw [hbase _ hC] at e; cases e) (hM.stays b o e), fun b o e => ?_, hM.gens, hM.os⟩
    obtain ⟨r, nb⟩ := hM.mems b o e
    have hb : b ≠ C' := by rintro rfl; rw [hmC] at e; cases e
    exact ⟨r.at (fun _ e => kb _ _ hb e) kf, nb⟩
  have S' : Step NoD mem s.heap mem' h' := hS.off (· = C') (fun b hb => hb ▸ hC) fun b o hb e => kb b o hb e
  refine ⟨.ref D, mem'.set D (.list ys), .mkRef, ⟨M'.stays, fun b o e => ?_, M'.gens, M'.os⟩, ⟨S'.alive, S'.keep, fun b hb hb' => ?_⟩, hf.2 D hmD⟩
  · unfold Mem.set at e
    split at e
    · rename_i q; subst q; cases e
      exact ⟨⟨vs, ⟨nD, kb _ _ (Ne.symm hne) eD⟩, hr.keep kf⟩, hbase _ hD⟩
    · exact M'.mems b o e
  · unfold Mem.set at hb'
    split at hb'
    · rename_i q; subst q; exact hD
    · exact S'.grow b hb hb'
end

end TD

namespace TD
open PySem PyProof.Rows
variable {W : Cx} {A : Around} {E : Value → Shared → Prop} {env : Env} {vis : List (Nat × Str)} {loc : Loc} {mem : Mem} {s : Shared} {Q : Val → Mem → Prop}

theorem firstMet_nodup (val : Nat → Int) : ∀ i, (firstMet val i).length = i ↔ ((List.range i).map val).Nodup
  | 0 => by simp [firstMet_zero]
  | i + 1 => by
    rw [firstMet_succ, List.range_succ, List.map_append, List.nodup_append]
    have ih := firstMet_nodup val i
    have hle := firstMet_length_le val i
    have hany := firstMet_any val i (val i)
    unfold step_dedup
    split
    · rename_i hc
      rw [hany] at hc
      constructor
      · intro h; omega
      · rintro ⟨_, _, h3⟩
        rw [List.any_eq_true] at hc
        obtain ⟨z, hz, e⟩ := hc
        exact absurd (by simpa using e) (h3 z hz (val i) (by simp))
    · rename_i hc
      rw [hany] at hc
      simp only [List.length_append, List.length_cons, List.length_nil]
      constructor
      · intro h
        refine ⟨ih.mp (by omega), by simp, fun a ha b hb e => ?_⟩
        simp at hb; subst hb; subst e
        apply hc
        rw [List.any_eq_true]
        exact ⟨_, ha, by simp⟩
      · rintro ⟨h1, _, _⟩
        rw [ih.mpr h1]
theorem range_getD (ns : List Int) : (List.range ns.length).map (fun i => ns.getD i 0) = ns := by
  apply List.ext_getElem
  · simp
  · intro i h1 h2
    simp at h1
    simp [List.getD, h1]

theorem lenset_sound (R : Rel W env vis loc mem s) {n : Nat} (hr : Room n A) {v : Val} {a : Value} (hv : VRel W s.heap v a) (h : wpB1 .lenset v Q mem) :
    wpAny (model W.prog W.w) A (call (.type "set") [a]) (fun y s₁ => wpAny (model W.prog W.w) A (call (.builtin "len") [y]) (PM W mem s Q) E s₁) E s := by
  simp only [wpB1] at h
  obtain ⟨is, e, hl, hq⟩ := h
  obtain ⟨b, vs, rfl, hlist, r⟩ := lst_rel R.m hv e
  have hlen := r.length
  rw [List.length_map] at hlen
  refine call_set_list (items := vs.toArray) (ns := is) hr.handled hlist (by simpa using ints_of r) (by rw [List.size_toArray, hlen]; unfold scanBound; omega) fun h' tk hS hk => ?_
  obtain ⟨o, es, ep, t, ho, hex, hd, _, _, _, hf, hsz⟩ := hS
  replace hsz : es.size = (firstMet (fun i => is.getD i 0) is.length).length := by
    have e1 : vs.toArray.size = is.length := by rw [List.size_toArray]; exact hlen
    rw [e1] at hsz; exact hsz
  have hle := firstMet_length_le (fun i => is.getD i 0) is.length
  refine call_len_set ho hex hd hf (by rw [hsz]; omega) ?_
  have k : KeepL env.locals s.heap h' := .of_keeps fun b o e => hk b o (Heap.lt_size e) e
  refine PM.kept R (v := .int es.size) (s' := { s with heap := h', toks := _ }) k .mkInt ?_
  refine hq es.size (by rw [hsz]; exact hle) ?_
  rw [hsz, firstMet_nodup, range_getD]

end TD

namespace TD
open PySem PyProof.Rows

section inv
variable {FT : Nat → Option Fn} {ids : List Nat} {vis : List (Nat × Str)} {sc : Scope} {ex : Expr}
theorem inv_nm {i : Nat} (h : chkE FT ids vis sc (.nm i) ex = true) : ∃ x p, ex = .Name x p ∧ vis.lookup i = some x ∧ isLoc sc x = true ∧ okName x = true := by
  obtain ⟨x, p, rfl, h⟩ := vName_inv h
  obtain ⟨h1, h⟩ := and2 h
  exact ⟨x, p, rfl, beq_iff_eq.mp h1, and2 h⟩
theorem inv_int {i : Int} (h : chkE FT ids vis sc (.int i) ex = true) : ∃ k p, ex = .Constant (.int i) k p := by
  obtain ⟨c, k, p, rfl, h⟩ := vConst_inv h
  obtain rfl := beq_iff_eq.mp h
  exact ⟨k, p, rfl⟩
theorem inv_bool {i : Bool} (h : chkE FT ids vis sc (.bool i) ex = true) : ∃ k p, ex = .Constant (.bool i) k p := by
  obtain ⟨c, k, p, rfl, h⟩ := vConst_inv h
  obtain rfl := beq_iff_eq.mp h
  exact ⟨k, p, rfl⟩
theorem inv_str {i : String} (h : chkE FT ids vis sc (.str i) ex = true) : ∃ k p, ex = .Constant (.str (Str.ofString i)) k p := by
  obtain ⟨c, k, p, rfl, h⟩ := vConst_inv h
  obtain rfl := beq_iff_eq.mp h
  exact ⟨k, p, rfl⟩
theorem inv_none (h : chkE FT ids vis sc .none ex = true) : ∃ k p, ex = .Constant .none k p := by
  obtain ⟨c, k, p, rfl, h⟩ := vConst_inv h
  obtain rfl := beq_iff_eq.mp h
  exact ⟨k, p, rfl⟩
theorem inv_glob {i : String} (h : chkE FT ids vis sc (.glob i) ex = true) : ∃ x p, ex = .Name x p ∧ gName sc i x = true := vName_inv h
theorem inv_bin {op : Bop} {a b : Ex} (h : chkE FT ids vis sc (.bin op a b) ex = true) : ∃ l o r p, ex = .BinOp l o r p ∧ bopIs op o = true ∧ chkE FT ids vis sc a l = true ∧ chkE FT ids vis sc b r = true := by
  obtain ⟨l, o, r, p, rfl, h⟩ := vBin_inv h
  obtain ⟨h1, h⟩ := and2 h
  exact ⟨l, o, r, p, rfl, h1, and2 h⟩
theorem inv_not {a : Ex} (h : chkE FT ids vis sc (.not a) ex = true) : ∃ x p, ex = .UnaryOp .Not x p ∧ chkE FT ids vis sc a x = true := by
  obtain ⟨o, x, p, rfl, h⟩ := vUn_inv h
  obtain ⟨h1, h2⟩ := and2 h
  obtain rfl := beq_iff_eq.mp h1
  exact ⟨x, p, rfl, h2⟩
theorem inv_neg {a : Ex} (h : chkE FT ids vis sc (.neg a) ex = true) : ∃ x p, ex = .UnaryOp .USub x p ∧ chkE FT ids vis sc a x = true := by
  obtain ⟨o, x, p, rfl, h⟩ := vUn_inv h
  obtain ⟨h1, h2⟩ := and2 h
  obtain rfl := beq_iff_eq.mp h1
  exact ⟨x, p, rfl, h2⟩
theorem nonempty_of {α : Type} {l : List α} (h : (!l.isEmpty) = true) : l ≠ [] := by rintro rfl; exact nb h
theorem inv_boolop {k : Bool} {es : Exs} (h : chkE FT ids vis sc (.boolop k es) ex = true) : ∃ vs p, ex = .BoolOp (isAnd k) vs p ∧ vs ≠ [] ∧ chkL FT ids vis sc es vs = true := by
  obtain ⟨o, vs, p, rfl, h⟩ := vBoolOp_inv h
  obtain ⟨h1, h2⟩ := and2 h
  obtain ⟨h3, h4⟩ := and2 h2
  obtain rfl := beq_iff_eq.mp h1
  exact ⟨vs, p, rfl, nonempty_of h3, h4⟩
theorem inv_cmp {op : Cop} {a b : Ex} (h : chkE FT ids vis sc (.cmp op a b) ex = true) : ∃ l o r p, ex = .Compare l [o] [r] p ∧ copIs op o = true ∧ notSet r = true ∧ chkE FT ids vis sc a l = true ∧ chkE FT ids vis sc b r = true := by
  obtain ⟨l, os, rs, p, rfl, h⟩ := vCmp_inv h
  obtain ⟨o, rfl, h⟩ := vOne_inv h
  obtain ⟨r, rfl, h⟩ := vOne_inv h
  obtain ⟨h1, h⟩ := and2 h
  obtain ⟨h2, h⟩ := and2 h
  exact ⟨l, o, r, p, rfl, h1, h2, and2 h⟩
theorem inv_cmp2 {o1 o2 : Cop} {a b c : Ex} (h : chkE FT ids vis sc (.cmp2 o1 o2 a b c) ex = true) : ∃ l p1 p2 r1 r2 p, ex = .Compare l [p1, p2] [r1, r2] p ∧ copIs o1 p1 = true ∧ copIs o2 p2 = true ∧ notSet r1 = true ∧ notSet r2 = true ∧ chkE FT ids vis sc a l = true ∧ chkE FT ids vis sc b r1 = true ∧ chkE FT ids vis sc c r2 = true := by
  obtain ⟨l, os, rs, p, rfl, h⟩ := vCmp_inv h
  obtain ⟨p1, p2, rfl, h⟩ := vTwo_inv h
  obtain ⟨r1, r2, rfl, h⟩ := vTwo_inv h
  obtain ⟨h1, h⟩ := and2 h
  obtain ⟨h2, h⟩ := and2 h
  obtain ⟨h3, h⟩ := and2 h
  obtain ⟨h4, h⟩ := and2 h
  obtain ⟨h5, h⟩ := and2 h
  exact ⟨l, p1, p2, r1, r2, p, rfl, h1, h2, h3, h4, h5, and2 h⟩
theorem inv_isc {q : Bool} {a : Ex} {c : Option Bool} (h : chkE FT ids vis sc (.isc q a c) ex = true) : ∃ l k' p' p, ex = .Compare l [isIs q] [.Constant (litC c) k' p'] p ∧ chkE FT ids vis sc a l = true := by
  obtain ⟨l, os, rs, p, rfl, h⟩ := vCmp_inv h
  obtain ⟨o, rfl, h⟩ := vOne_inv h
  obtain ⟨r, rfl, h⟩ := vOne_inv h
  obtain ⟨h1, h2⟩ := and2 h
  obtain ⟨h3, h4⟩ := and2 h2
  obtain ⟨k, k', p', rfl, h5⟩ := vConst_inv h4
  have e1 := beq_iff_eq.mp h1
  have e2 := beq_iff_eq.mp h5
  subst e1 e2
  exact ⟨l, k', p', p, rfl, h3⟩
theorem not_t {b : Bool} (h : (!b) = true) : b = false := by cases b <;> first | rfl | exact nb h
theorem fnIs_inv {f : Nat} {x : Str} (h : fnIs FT sc f x = true) : ∃ fn, FT f = some fn ∧ fn.own = false ∧ gName sc fn.name x = true := by
  unfold fnIs at h
  cases q : FT f with
  | none => rw [q] at h; exact nb h
  | some fn => rw [q] at h; obtain ⟨h1, h2⟩ := and2 h; exact ⟨fn, rfl, not_t h1, h2⟩
theorem inv_call {f : Nat} {args : Exs} (h : chkE FT ids vis sc (.call f args) ex = true) : ∃ x px es p fn, ex = .Call (.Name x px) es [] p ∧ f ∈ ids ∧ FT f = some fn ∧ fn.own = false ∧ gName sc fn.name x = true ∧ es ≠ [] ∧ chkL FT ids vis sc args es = true := by
  obtain ⟨x, px, es, p, rfl, h⟩ := vCallN_inv h
  obtain ⟨h1, h⟩ := and2 h
  obtain ⟨h2, h⟩ := and2 h
  obtain ⟨h3, h⟩ := and2 h
  obtain ⟨fn, h4, h6, h5⟩ := fnIs_inv h2
  exact ⟨x, px, es, p, fn, rfl, List.contains_iff_mem.mp h1, h4, h6, h5, nonempty_of h3, h⟩
theorem inv_attr {o : Ex} {f : Nat} (h : chkE FT ids vis sc (.attr o f) ex = true) : ∃ e1 p, ex = .Attribute e1 (Str.ofString (fldName f)) p ∧ f < 2 ∧ notCall e1 = true ∧ chkE FT ids vis sc o e1 = true := by
  obtain ⟨e1, n, p, rfl, h⟩ := vAttr_inv h
  obtain ⟨h1, g⟩ := and2 h
  obtain ⟨h2, g2⟩ := and2 g
  obtain rfl := beq_iff_eq.mp h2
  exact ⟨e1, p, rfl, of_decide_eq_true h1, and2 g2⟩
theorem inv_meth {o : Ex} {f : Nat} {args : Exs} (h : chkE FT ids vis sc (.meth o f args) ex = true) : ∃ e1 ap es p fn, ex = .Call (.Attribute e1 (Str.ofString fn.name) ap) es [] p ∧ okAt e1 ap p = true ∧ f ∈ ids ∧ FT f = some fn ∧ fn.own = true ∧ fn.name ∈ methNames ∧ es.length < 29 ∧ chkE FT ids vis sc o e1 = true ∧ chkL FT ids vis sc args es = true := by
  obtain ⟨fe, es, p, rfl, h⟩ := vCall_inv h
  obtain ⟨e1, n, ap, rfl, h⟩ := vAttr_inv h
  obtain ⟨h1, g1⟩ := and2 h
  obtain ⟨h2, g2⟩ := and2 g1
  obtain ⟨h3, g3⟩ := and2 g2
  obtain ⟨h4, g4⟩ := and2 g3
  obtain ⟨fn, h5, h6⟩ := vSome_inv h3
  obtain ⟨h7, g7⟩ := and2 h6
  obtain ⟨h8, g8⟩ := and2 g7
  obtain rfl := beq_iff_eq.mp g8
  exact ⟨e1, ap, es, p, fn, rfl, h1, List.contains_iff_mem.mp h2, h5, h7, List.contains_iff_mem.mp h8, of_decide_eq_true h4, and2 g4⟩
theorem inv_new {f : Nat} {args : Exs} (h : chkE FT ids vis sc (.new f args) ex = true) : ∃ x px es p fn, ex = .Call (.Name x px) es [] p ∧ f ∈ ids ∧ FT f = some fn ∧ fn.own = true ∧ fn.name = "__init__" ∧ gName sc "Estate" x = true ∧ es ≠ [] ∧ chkL FT ids vis sc args es = true := by
  obtain ⟨x, px, es, p, rfl, h⟩ := vCallN_inv h
  obtain ⟨h1, h⟩ := and2 h
  obtain ⟨h2, h⟩ := and2 h
  obtain ⟨h3, h⟩ := and2 h
  obtain ⟨fn, h4, h5⟩ := vSome_inv h2
  obtain ⟨h6, h5⟩ := and2 h5
  obtain ⟨h7, h5⟩ := and2 h5
  exact ⟨x, px, es, p, fn, rfl, List.contains_iff_mem.mp h1, h4, h6, beq_iff_eq.mp h7, h5, nonempty_of h3, h⟩
theorem inv_cut {a : Ex} {i j : Int} (h : chkE FT ids vis sc (.cut a i j) ex = true) : ∃ e1 k1 p1 k2 p2 p q, ex = .Subscript e1 (.Slice (some (.Constant (.int i) k1 p1)) (some (.Constant (.int j) k2 p2)) none p) q ∧ chkE FT ids vis sc a e1 = true := by
  obtain ⟨e1, e2, q, rfl, h⟩ := vSub_inv h
  obtain ⟨l, u, p, rfl, h⟩ := vSl2_inv h
  obtain ⟨h1, g1⟩ := and2 h
  obtain ⟨h2, g2⟩ := and2 g1
  obtain ⟨c, k1, p1, rfl, h3⟩ := vConst_inv h1
  obtain ⟨c', k2, p2, rfl, h4⟩ := vConst_inv h2
  obtain rfl := beq_iff_eq.mp h3
  obtain rfl := beq_iff_eq.mp h4
  exact ⟨e1, k1, p1, k2, p2, p, q, rfl, g2⟩
theorem vIter_none {e : Expr} {f : Option String} {k : Expr → Bool} (hf : f = none) (h : vIter sc f e k = true) : k e = true := by subst hf; exact h
theorem vIter_some {e : Expr} {g : Option String} {f : String} {k : Expr → Bool} (hf : g = some f) (h : vIter sc g e k = true) : ∃ x px e1 p, e = .Call (.Name x px) [e1] [] p ∧ gName sc f x = true ∧ k e1 = true := by
  subst hf
  obtain ⟨x, px, es, p, rfl, h⟩ := vCallN_inv h
  obtain ⟨h1, h⟩ := and2 h
  obtain ⟨e1, rfl, h⟩ := vOne_inv h
  exact ⟨x, px, e1, p, rfl, h1, h⟩
theorem vIter_inv {e : Expr} {f : Option String} {k : Expr → Bool} (h : vIter sc f e k = true) : ∃ e1, IterIs sc f e e1 ∧ k e1 = true := by
  cases q : f with
  | none => exact ⟨e, rfl, vIter_none q h⟩
  | some g =>
    obtain ⟨x, px, e1, p, a, b, c⟩ := vIter_some q h
    exact ⟨e1, ⟨x, px, p, a, b⟩, c⟩
theorem inv_b1 {b : B1} {a : Ex} (hb : b.inner = none) (h : chkE FT ids vis sc (.b1 b a) ex = true) : ∃ x px e1 p, ex = .Call (.Name x px) [e1] [] p ∧ gName sc b.call x = true ∧ chkE FT ids vis sc a e1 = true := by
  obtain ⟨x, px, es, p, rfl, h⟩ := vCallN_inv h
  obtain ⟨h1, h⟩ := and2 h
  obtain ⟨e1, rfl, h⟩ := vOne_inv h
  exact ⟨x, px, e1, p, rfl, h1, vIter_none hb h⟩
theorem inv_b1i {b : B1} {a : Ex} {f : String} (hb : b.inner = some f) (h : chkE FT ids vis sc (.b1 b a) ex = true) : ∃ x px y py e1 p p', ex = .Call (.Name x px) [.Call (.Name y py) [e1] [] p'] [] p ∧ gName sc b.call x = true ∧ gName sc f y = true ∧ chkE FT ids vis sc a e1 = true := by
  obtain ⟨x, px, es, p, rfl, h⟩ := vCallN_inv h
  obtain ⟨h1, h⟩ := and2 h
  obtain ⟨e1, rfl, h⟩ := vOne_inv h
  obtain ⟨y, py, e2, p', rfl, h2, h⟩ := vIter_some hb h
  exact ⟨x, px, y, py, e2, p, p', rfl, h1, h2, h⟩
theorem inv_isinst {a : Ex} {c : Cls} (h : chkE FT ids vis sc (.isinst a c) ex = true) : ∃ x px e1 y py p, ex = .Call (.Name x px) [e1, .Name y py] [] p ∧ gName sc "isinstance" x = true ∧ chkE FT ids vis sc a e1 = true ∧ gName sc c.bi y = true := by
  obtain ⟨x, px, es, p, rfl, h⟩ := vCallN_inv h
  obtain ⟨h1, h⟩ := and2 h
  obtain ⟨e1, e2, rfl, h⟩ := vTwo_inv h
  obtain ⟨h2, h⟩ := and2 h
  obtain ⟨y, py, rfl, h⟩ := vName_inv h
  exact ⟨x, px, e1, y, py, p, rfl, h1, h2, h⟩
theorem inv_append {o a : Ex} (h : chkE FT ids vis sc (.append o a) ex = true) : ∃ e1 ap e2 p, ex = .Call (.Attribute e1 (Str.ofString "append") ap) [e2] [] p ∧ okAt e1 ap p = true ∧ chkE FT ids vis sc o e1 = true ∧ chkE FT ids vis sc a e2 = true := by
  obtain ⟨e1, ap, es, p, rfl, h1, h⟩ := vMeth_inv h
  obtain ⟨e2, rfl, h⟩ := vOne_inv h
  exact ⟨e1, ap, e2, p, rfl, h1, and2 h⟩
theorem inv_extend {o a : Ex} (h : chkE FT ids vis sc (.extend o a) ex = true) : ∃ e1 ap e2 p, ex = .Call (.Attribute e1 (Str.ofString "extend") ap) [e2] [] p ∧ okAt e1 ap p = true ∧ chkE FT ids vis sc o e1 = true ∧ chkE FT ids vis sc a e2 = true := by
  obtain ⟨e1, ap, es, p, rfl, h1, h⟩ := vMeth_inv h
  obtain ⟨e2, rfl, h⟩ := vOne_inv h
  exact ⟨e1, ap, e2, p, rfl, h1, and2 h⟩
theorem inv_index {o a : Ex} (h : chkE FT ids vis sc (.index o a) ex = true) : ∃ e1 ap e2 p, ex = .Call (.Attribute e1 (Str.ofString "index") ap) [e2] [] p ∧ okAt e1 ap p = true ∧ chkE FT ids vis sc o e1 = true ∧ chkE FT ids vis sc a e2 = true := by
  obtain ⟨e1, ap, es, p, rfl, h1, h⟩ := vMeth_inv h
  obtain ⟨e2, rfl, h⟩ := vOne_inv h
  exact ⟨e1, ap, e2, p, rfl, h1, and2 h⟩
theorem inv_pop {o : Ex} {i : Exs} (h : chkE FT ids vis sc (.pop o i) ex = true) : ∃ e1 ap es p, ex = .Call (.Attribute e1 (Str.ofString "pop") ap) es [] p ∧ okAt e1 ap p = true ∧ chkE FT ids vis sc o e1 = true ∧ chkL FT ids vis sc i es = true ∧ es.length ≤ 1 := by
  obtain ⟨e1, ap, es, p, rfl, h1, h⟩ := vMeth_inv h
  obtain ⟨h2, h⟩ := and2 h
  obtain ⟨h3, h⟩ := and2 h
  exact ⟨e1, ap, es, p, rfl, h1, h2, h3, of_decide_eq_true h⟩
theorem inv_clear {o : Ex} (h : chkE FT ids vis sc (.clear o) ex = true) : ∃ e1 ap p, ex = .Call (.Attribute e1 (Str.ofString "clear") ap) [] [] p ∧ okAt e1 ap p = true ∧ chkE FT ids vis sc o e1 = true := by
  obtain ⟨e1, ap, es, p, rfl, h1, h⟩ := vMeth_inv h
  obtain ⟨h2, h3⟩ := and2 h
  obtain rfl := List.isEmpty_iff.mp h2
  exact ⟨e1, ap, p, rfl, h1, h3⟩
theorem inv_sub {a i : Ex} (h : chkE FT ids vis sc (.sub a i) ex = true) : ∃ e1 e2 p, ex = .Subscript e1 e2 p ∧ chkE FT ids vis sc a e1 = true ∧ chkE FT ids vis sc i e2 = true := by
  obtain ⟨e1, e2, p, rfl, h⟩ := vSub_inv h
  exact ⟨e1, e2, p, rfl, and2 h⟩
theorem inv_slice {up : Bool} {a i : Ex} (h : chkE FT ids vis sc (.slice up a i) ex = true) : ∃ e1 e2 p q, ex = .Subscript e1 (.Slice (partE up e2) (partE (!up) e2) none p) q ∧ chkE FT ids vis sc a e1 = true ∧ chkE FT ids vis sc i e2 = true := by
  obtain ⟨e1, e2, q, rfl, g⟩ := vSub_inv h
  obtain ⟨e3, p, rfl, g3⟩ := vSl_inv g
  exact ⟨e1, e3, p, q, rfl, and2 g3⟩
theorem inv_mm {mx : Bool} {a b : Ex} (h : chkE FT ids vis sc (.mm mx a b) ex = true) : ∃ x px e1 e2 p, ex = .Call (.Name x px) [e1, e2] [] p ∧ gName sc (mmName mx) x = true ∧ chkE FT ids vis sc a e1 = true ∧ chkE FT ids vis sc b e2 = true := by
  obtain ⟨x, px, es, p, rfl, h⟩ := vCallN_inv h
  obtain ⟨h1, h⟩ := and2 h
  obtain ⟨e1, e2, rfl, h⟩ := vTwo_inv h
  exact ⟨x, px, e1, e2, p, rfl, h1, and2 h⟩
theorem inv_lst {es : Exs} (h : chkE FT ids vis sc (.lst es) ex = true) : ∃ xs p, ex = .List xs p ∧ chkL FT ids vis sc es xs = true := vList_inv h
theorem inv_fstr {a : Ex} {c : String} (h : chkE FT ids vis sc (.fstr a c) ex = true) : ∃ v pv kc pc p, ex = .JoinedStr [.FormattedValue v (-1) none pv, .Constant (.str (Str.ofString c)) kc pc] p ∧ chkE FT ids vis sc a v = true := by
  obtain ⟨xs, p, rfl, h⟩ := vJS_inv h
  obtain ⟨e1, e2, rfl, h⟩ := vTwo_inv h
  obtain ⟨h1, h2⟩ := and2 h
  obtain ⟨v, cv, sp, pv, rfl, h3⟩ := vFV_inv h1
  obtain ⟨h4, h5⟩ := and2 h3
  obtain ⟨h6, h7⟩ := and2 h5
  obtain ⟨k, kc, pc, rfl, h8⟩ := vConst_inv h2
  obtain rfl := beq_iff_eq.mp h8
  obtain rfl := of_decide_eq_true h4
  obtain rfl := Option.isNone_iff_eq_none.mp h6
  exact ⟨v, pv, kc, pc, p, rfl, h7⟩
theorem inv_join {a : Ex} {c : String} (h : chkE FT ids vis sc (.join c a) ex = true) : ∃ kc pc ap e2 p, ex = .Call (.Attribute (.Constant (.str (Str.ofString c)) kc pc) (Str.ofString "join") ap) [e2] [] p ∧ okAt (.Constant (.str (Str.ofString c)) kc pc) ap p = true ∧ chkE FT ids vis sc a e2 = true := by
  obtain ⟨e1, ap, es, p, rfl, h1, h2⟩ := vMeth_inv h
  obtain ⟨h3, h4⟩ := and2 h2
  obtain ⟨k, kc, pc, rfl, h5⟩ := vConst_inv h3
  obtain rfl := beq_iff_eq.mp h5
  obtain ⟨e2, rfl, h6⟩ := vOne_inv h4
  exact ⟨kc, pc, ap, e2, p, rfl, h1, h6⟩
theorem inv_dict0 (h : chkE FT ids vis sc .dict0 ex = true) : ∃ p, ex = .Dict [] [] p := by
  obtain ⟨a, b, p, rfl, h⟩ := vDict_inv h
  obtain ⟨h1, h2⟩ := and2 h
  rw [List.isEmpty_iff.mp h1, List.isEmpty_iff.mp h2]
  exact ⟨p, rfl⟩
theorem inv_tup {es : Exs} (h : chkE FT ids vis sc (.tup es) ex = true) : ∃ xs k p, ex = .Tuple xs k p ∧ chkL FT ids vis sc es xs = true := vTup_inv h
theorem inv_comp {elt : Ex} {t : Tg} {k : ItK} {src : Ex} {cond : Exs} (h : chkE FT ids vis sc (.comp elt t k src cond) ex = true) : ∃ elt' target iter ifs csc p new e1, ex = .ListComp elt' [⟨target, iter, ifs, 0⟩] csc p ∧ chkT t target = some new ∧ chkScope sc csc new vis = true ∧ notSet iter = true ∧
    IterIs sc k.call iter e1 ∧ chkE FT ids vis sc src e1 = true ∧ chkE FT ids (newVis new vis) csc elt elt' = true ∧ chkL FT ids (newVis new vis) csc cond ifs = true := by
  obtain ⟨elt', gs, csc, p, rfl, h⟩ := vLC_inv h
  obtain ⟨⟨target, iter, ifs, n⟩, rfl, h⟩ := vOne_inv h
  obtain ⟨new, hT, h⟩ := vSome_inv h
  obtain ⟨h0, h⟩ := and2 h
  obtain ⟨h1, h⟩ := and2 h
  obtain ⟨h2, h⟩ := and2 h
  obtain ⟨h3, h4⟩ := and2 h
  obtain ⟨e1, hk, h5⟩ := vIter_inv h3
  obtain rfl : n = 0 := of_decide_eq_true h0
  exact ⟨elt', target, iter, ifs, csc, p, new, e1, rfl, hT, h1, h2, hk, h5, and2 h4⟩
theorem inv_cons {e : Ex} {es : Exs} {xs : List Expr} (h : chkL FT ids vis sc (.cons e es) xs = true) : ∃ x r, xs = x :: r ∧ chkE FT ids vis sc e x = true ∧ chkL FT ids vis sc es r = true := by
  cases xs with
  | nil => exact nb h
  | cons x r => exact ⟨x, r, rfl, and2 h⟩
theorem inv_nil {xs : List Expr} (h : chkL FT ids vis sc .nil xs = true) : xs = [] := List.isEmpty_iff.mp h
end inv
noncomputable def ixOf : Ex → Nat
  | .nm _ => 23 | .int _ => 19 | .bool _ => 19 | .none => 19 | .glob _ => 23 | .bin _ _ _ => 2 | .not _ => 3 | .neg _ => 3 | .boolop _ _ => 0 | .cmp _ _ _ => 15 | .cmp2 _ _ _ _ _ => 15 | .isc _ _ _ => 15
  | .call _ _ => 16 | .b1 _ _ => 16 | .isinst _ _ => 16 | .append _ _ => 16 | .extend _ _ => 16 | .pop _ _ => 16 | .clear _ => 16 | .index _ _ => 16 | .sub _ _ => 21 | .slice _ _ _ => 21 | .mm _ _ _ => 16 | .lst _ => 24 | .tup _ => 25 | .comp _ _ _ _ _ => 8 | .str _ => 19 | .dict0 => 6 | .fstr _ _ => 18 | .join _ _ => 16 | .attr _ _ => 20 | .meth _ _ _ => 16 | .new _ _ => 16 | .cut _ _ _ => 21
theorem chk_ix {FT : Nat → Option Fn} {ids : List Nat} {vis : List (Nat × Str)} {sc : Scope} {e : Ex} {ex : Expr} (h : chkE FT ids vis sc e ex = true) : ex.ctorIdx = ixOf e := by
  cases e with
  | nm _ => exact vName_ix h
  | int _ => exact vConst_ix h
  | bool _ => exact vConst_ix h
  | none => exact vConst_ix h
  | glob _ => exact vName_ix h
  | bin _ _ _ => exact vBin_ix h
  | not _ => exact vUn_ix h
  | neg _ => exact vUn_ix h
  | boolop _ _ => exact vBoolOp_ix h
  | cmp _ _ _ => exact vCmp_ix h
  | cmp2 _ _ _ _ _ => exact vCmp_ix h
  | isc _ _ _ => exact vCmp_ix h
  | call _ _ => exact vCall_ix h
  | b1 _ _ => exact vCall_ix h
  | isinst _ _ => exact vCall_ix h
  | append _ _ => exact vCall_ix h
  | extend _ _ => exact vCall_ix h
  | pop _ _ => exact vCall_ix h
  | clear _ => exact vCall_ix h
  | index _ _ => exact vCall_ix h
  | sub _ _ => exact vSub_ix h
  | slice _ _ _ => exact vSub_ix h
  | mm _ _ _ => exact vCall_ix h
  | lst _ => exact vList_ix h
  | tup _ => exact vTup_ix h
  | comp _ _ _ _ _ => exact vLC_ix h
  | str _ => exact vConst_ix h
  | dict0 => exact vDict_ix h
  | fstr _ _ => exact vJS_ix h
  | join _ _ => exact vCall_ix h
  | attr _ _ => exact (vIx_inv h).1
  | meth _ _ _ => exact vCall_ix h
  | new _ _ => exact vCall_ix h
  | cut _ _ _ => exact vSub_ix h
theorem ix_in (e : Ex) : ixOf e = 8 ∨ [23, 19, 2, 3, 0, 15, 16, 21, 24, 25, 6, 18, 20].contains (ixOf e) = true := by
  cases e <;> first | exact .inr rfl | exact .inl rfl
theorem ix_ne {e : Ex} {n : Nat} (h : ixOf e = n) (h8 : n ≠ 8) (hn : [23, 19, 2, 3, 0, 15, 16, 21, 24, 25, 6, 18, 20].contains n = false) : False := by
  subst h
  rcases ix_in e with q | q
  · exact h8 q
  · rw [q] at hn; exact Bool.noConfusion hn
theorem chk_notStarred {FT : Nat → Option Fn} {ids : List Nat} {vis : List (Nat × Str)} {sc : Scope} {e : Ex} {a : Expr} {p : Pos} (h : chkE FT ids vis sc e (.Starred a p) = true) : False :=
  ix_ne (n := 22) (chk_ix h).symm (by decide) rfl
theorem not_ix {a b : Nat} (h : a ≠ b) : (!(a == b)) = true := by rw [beq_false_of_ne h]; rfl
theorem chk_notSlice {FT : Nat → Option Fn} {ids : List Nat} {vis : List (Nat × Str)} {sc : Scope} {e : Ex} {ex : Expr} (h : chkE FT ids vis sc e ex = true) : notSlice ex = true :=
  not_ix fun q => ix_ne (n := 26) ((chk_ix h).symm.trans q) (by decide) rfl
section inv
variable {FT : Nat → Option Fn} {ids : List Nat} {vis : List (Nat × Str)} {sc : Scope} {ex : Expr}
theorem chkL_star {es : Exs} {xs : List Expr} (h : chkL FT ids vis sc es xs = true) : ∀ e ∈ xs, ∀ a p, e ≠ .Starred a p := by
  induction xs generalizing es with
  | nil => intro e he; cases he
  | cons x r ih =>
    cases es with
    | nil => exact nb h
    | cons e es =>
      obtain ⟨h1, h2⟩ := and2 h
      intro e he a p q
      cases he with
      | head => subst q; exact chk_notStarred h1
      | tail _ he => exact ih h2 e he a p q
end inv
theorem chk_ns {FT : Nat → Option Fn} {ids : List Nat} {vis : List (Nat × Str)} {sc : Scope} {e : Ex} {ex : Expr} (h : chkE FT ids vis sc e ex = true) : ∀ a q, ex ≠ .Starred a q := fun a q e => chk_notStarred (e ▸ h)

end TD

namespace TD
open PySem PyProof.Rows

theorem vrel_keep {W : Cx} {env : Env} {vis : List (Nat × Str)} {loc : Loc} {m1 m2 : Mem} {s1 s2 : Shared} {v : Val} {y : Value} (R : Rel W env vis loc m1 s1) (S : Step NoD m1 s1.heap m2 s2.heap) (h : VRel W s1.heap v y) : VRel W s2.heap v y := h.keep (S.keepF R.m.mems .none)

theorem VRel.kinds {W : Cx} {h : Heap} {x : Val} {a : Value} (hx : VRel W h x a) : (x = .none ∧ a = .none) ∨ (∃ t, x = .bool t ∧ a = .bool t) ∨ (isNone x = false ∧ (∀ t, isBool t x = false) ∧ ((∃ i t, a = .int i t) ∨ (∃ c, a = .ref c) ∨ ∃ x t, a = .str x t)) := by
  cases x with
  | none => exact .inl ⟨rfl, hx.none'⟩
  | bool t => exact .inr (.inl ⟨t, rfl, hx.bool⟩)
  | int i => exact .inr (.inr ⟨rfl, fun _ => rfl, .inl ⟨i, hx.int⟩⟩)
  | ref c => exact .inr (.inr ⟨rfl, fun _ => rfl, .inr (.inl ⟨c, hx.ref⟩)⟩)
  | str x => obtain ⟨t, q⟩ := hx.str; exact .inr (.inr ⟨rfl, fun _ => rfl, .inr (.inr ⟨_, t, q⟩)⟩)
  | tup _ => obtain ⟨c, _, q, _⟩ := hx; exact .inr (.inr ⟨rfl, fun _ => rfl, .inr (.inl ⟨c, q⟩)⟩)
  | frz _ => obtain ⟨c, _, q, _⟩ := hx; exact .inr (.inr ⟨rfl, fun _ => rfl, .inr (.inl ⟨c, q⟩)⟩)
noncomputable def litV : Option Bool → Value
  | none => .none
  | some t => .bool t
theorem VRel.plain {W : Cx} {h : Heap} {x : Val} {a : Value} {c : Option Bool} (hx : VRel W h x a) : plainIs a (litV c) = true := by
  cases c <;> rcases hx.kinds with ⟨_, rfl⟩ | ⟨t, _, rfl⟩ | ⟨_, _, ⟨i, t, rfl⟩ | ⟨c, rfl⟩ | ⟨x, t, rfl⟩⟩ <;> rfl
theorem VRel.lit {W : Cx} {h : Heap} {x : Val} {a : Value} {c : Option Bool} (hx : VRel W h x a) : (isLit c x = true → a = litV c) ∧ (isLit c x = false → a ≠ litV c) := by
  cases c with
  | none =>
    rcases hx.kinds with ⟨rfl, rfl⟩ | ⟨t, rfl, rfl⟩ | ⟨h1, h2, ⟨i, t, rfl⟩ | ⟨c, rfl⟩ | ⟨x, t, rfl⟩⟩
    · exact ⟨fun _ => rfl, fun e => Bool.noConfusion e⟩
    · exact ⟨fun e => nb e, fun _ e => by cases e⟩
    · exact ⟨fun e => nb (h1.symm.trans e), fun _ e => by cases e⟩
    · exact ⟨fun e => nb (h1.symm.trans e), fun _ e => by cases e⟩
    · exact ⟨fun e => nb (h1.symm.trans e), fun _ e => by cases e⟩
  | some u =>
    rcases hx.kinds with ⟨rfl, rfl⟩ | ⟨t, rfl, rfl⟩ | ⟨h1, h2, ⟨i, t, rfl⟩ | ⟨c, rfl⟩ | ⟨x, t, rfl⟩⟩
    · exact ⟨fun e => nb e, fun _ e => by cases e⟩
    · refine ⟨fun e => congrArg Value.bool (beq_iff_eq.mp e), fun e q => ?_⟩
      cases q
      exact absurd ((beq_self_eq_true u).symm.trans e) (fun q => Bool.noConfusion q)
    · exact ⟨fun e => nb ((h2 u).symm.trans e), fun _ e => by cases e⟩
    · exact ⟨fun e => nb ((h2 u).symm.trans e), fun _ e => by cases e⟩
    · exact ⟨fun e => nb ((h2 u).symm.trans e), fun _ e => by cases e⟩
theorem isc_sound {W : Cx} {A : Around} {E : Value → Shared → Prop} {mem : Mem} {s : Shared} {Q : Val → Mem → Prop} (M : MRel W mem s) {p : Bool} {x : Val} {a : Value} {c : Option Bool} (hx : VRel W s.heap x a) (hq : Q (.bool (isLit c x == p)) mem) :
    wpAny (model W.prog W.w) A (compareOp (isIs p) a (litV c)) (PM W mem s Q) E s := by
  have hpl : plainIs a (litV c) = true := hx.plain
  obtain ⟨h1, h2⟩ := hx.lit (c := c)
  cases r : isLit c x with
  | false =>
    rw [r] at hq
    cases p with
    | false => exact wpAny_isNot_other hpl (h2 r) (PM.here M .mkBool hq)
    | true => exact wpAny_is_other hpl (h2 r) (PM.here M .mkBool hq)
  | true =>
    rw [r] at hq
    have e := h1 r
    rw [← e] at hpl ⊢
    cases p with
    | false => exact wpAny_isNot_self hpl (PM.here M .mkBool hq)
    | true => exact wpAny_is_self hpl (PM.here M .mkBool hq)

theorem forIn_false {M : Model} {A : Around} {E : Value → Shared → Prop} {s : Shared} {env : Env} {P : Bool → Shared → Prop} (h : P false s) : ∀ (l : List Expr),
    wpAny M A (forIn l false fun c r => if r = true then do let ok ← isTrue c env (eval c env); pure (ForInStep.yield ok) else pure (ForInStep.yield r)) P E s
  | [] => wpAny_pure h
  | c :: l => by
    rw [List.forIn_cons]
    simp only [Bool.false_eq_true, if_false]
    exact forIn_false h l

theorem bi_name {sc : Scope} {c : Cls} {y : Str} (h : gName sc c.bi y = true) : c.code < 5 ∧ gName sc c.name y = true ∧ c.name ∈ biNames ∧ bootBuiltins (Str.ofString c.name) = some (.type c.name) := by
  cases c <;> first | exact (gName_empty h).elim | skip
  · exact ⟨by decide, h, by repeat (first | exact List.Mem.head _ | refine List.Mem.tail _ ?_), Boot.«int»⟩
  · exact ⟨by decide, h, by repeat (first | exact List.Mem.head _ | refine List.Mem.tail _ ?_), Boot.«bool»⟩
  · exact ⟨by decide, h, by repeat (first | exact List.Mem.head _ | refine List.Mem.tail _ ?_), Boot.«list»⟩
  · exact ⟨by decide, h, by repeat (first | exact List.Mem.head _ | refine List.Mem.tail _ ?_), Boot.«tuple»⟩
  · exact ⟨by decide, h, by repeat (first | exact List.Mem.head _ | refine List.Mem.tail _ ?_), Boot.«str»⟩
theorem PM.mono {W : Cx} {mem : Mem} {s s' : Shared} {Q Q' : Val → Mem → Prop} {y : Value} (k : ∀ v m, Q v m → Q' v m) (h : PM W mem s Q y s') : PM W mem s Q' y s' := by
  obtain ⟨v, m, a, b, c, d⟩ := h
  exact ⟨v, m, a, b, c, k _ _ d⟩
theorem bsQ_end {k b : Bool} {P : Bool → Mem → Prop} {m : Mem} {W : Mem → Prop} (hW : W m → P k m) (h : bsQ k W P b m) : P b m := by
  cases b <;> cases k
  · exact hW (h.1 rfl)
  · exact h.2 rfl
  · exact h.2 rfl
  · exact hW (h.1 rfl)

noncomputable def EvP (W : Cx) (FT : Nat → Option Fn) (ids : List Nat) (G : String → Option Val) (A : Around) (C : CallT) (e : Ex) : Prop := ∀ {ex : Expr} {env : Env} {vis : List (Nat × Str)} {sc : Scope} {loc : Loc} {Q : Val → Mem → Prop} {X : Nat → Mem → Prop} {mem : Mem} {s : Shared} {E : Value → Shared → Prop},
    chkE FT ids vis sc e ex = true → ScOk sc env → VisOk vis → (∀ k m, ¬ X k m) → Rel W env vis loc mem s → wpE C G X e loc Q mem → wpAny (model W.prog W.w) A (eval ex env) (PM W mem s Q) E s
noncomputable def TsP (W : Cx) (FT : Nat → Option Fn) (ids : List Nat) (G : String → Option Val) (A : Around) (C : CallT) (e : Ex) : Prop := ∀ {ex : Expr} {env : Env} {vis : List (Nat × Str)} {sc : Scope} {loc : Loc} {P : Bool → Mem → Prop} {X : Nat → Mem → Prop} {mem : Mem} {s : Shared} {E : Value → Shared → Prop},
    chkE FT ids vis sc e ex = true → ScOk sc env → VisOk vis → (∀ k m, ¬ X k m) → Rel W env vis loc mem s → wpE C G X e loc (asB P) mem → wpAny (model W.prog W.w) A (isTrue ex env (eval ex env)) (PT W mem s P) E s
noncomputable def IsPlain (ex : Expr) : Prop := ∀ (env : Env) (w : Sem Value), isTrue ex env w = (do let v ← w; standAt ex.pos; holding [v] (truthy v))
theorem plain_isTrue {ex : Expr} (h : [0, 3, 5, 15].contains ex.ctorIdx = false) : IsPlain ex := fun env w => by
  cases ex <;> first | rfl | exact nb (show false = true from h.symm)
theorem gen {W : Cx} {FT : Nat → Option Fn} {ids : List Nat} {G : String → Option Val} {A : Around} {C : CallT} {e : Ex} (ev : EvP W FT ids G A C e) (hp : ∀ {ex : Expr} {vis : List (Nat × Str)} {sc : Scope}, chkE FT ids vis sc e ex = true → IsPlain ex) : EvP W FT ids G A C e ∧ TsP W FT ids G A C e :=
  ⟨ev, fun hc hsc hv hX R h => isTrue_plain (truth (ev hc hsc hv hX R h) fun b s' q => q) (hp hc _ _)⟩

theorem lit_pure {M : Model} {A : Around} {E : Value → Shared → Prop} {s : Shared} {env : Env} {c : Option Bool} {k : Nat} {p : Pos} {P : Value → Shared → Prop} (h : P (litV c) s) : wpAny M A (eval (.Constant (litC c) k p) env) P E s := by
  cases c <;> exact wpAny_pure h
theorem asB_bool {P : Bool → Mem → Prop} {b : Bool} {m : Mem} (h : asB P (.bool b) m) : P b m := by
  obtain ⟨b', e, h⟩ := h
  cases e
  exact h
theorem PT.plain {W : Cx} {mem : Mem} {s s' : Shared} {P : Bool → Mem → Prop} {b : Bool} (h : PT W mem s (fun b m => asB P (.bool b) m) b s') : PT W mem s P b s' := by
  obtain ⟨m, a, c, d⟩ := h
  exact ⟨m, a, c, asB_bool d⟩
theorem chk_plain {FT : Nat → Option Fn} {ids : List Nat} {vis : List (Nat × Str)} {sc : Scope} {e : Ex} {ex : Expr} (he : [0, 3, 5, 15].contains (ixOf e) = false) (h : chkE FT ids vis sc e ex = true) : IsPlain ex :=
  plain_isTrue (by rw [chk_ix h]; exact he)

theorem star1 {e1 : Expr} (h : ∀ a q, e1 ≠ .Starred a q) : ∀ e ∈ [e1], ∀ a q, e ≠ .Starred a q := fun e he => by
  cases List.mem_singleton.mp he
  exact h

mutual
theorem soundE {W : Cx} {FT : Nat → Option Fn} {ids : List Nat} {G : String → Option Val} {n : Nat} {A : Around} {C : CallT} (SC : SCx W FT ids G n A C) : ∀ (e : Ex), EvP W FT ids G A C e ∧ TsP W FT ids G A C e
  | .nm i => gen (fun {ex env vis sc loc Q X mem s E} hc hsc hv hX R h => by
    obtain ⟨x, p, rfl, h1, h2, h3⟩ := inv_nm hc
    obtain ⟨v, q, h'⟩ := h
    exact name_sound R hsc h1 h2 h3 q h') (fun {ex vis sc} h => chk_plain rfl h)
  | .int i => gen (fun {ex env vis sc loc Q X mem s E} hc hsc hv hX R h => by
    obtain ⟨k, p, rfl⟩ := inv_int hc
    exact wpAny_Constant_int (PM.val R.m .mkInt h _)) (fun {ex vis sc} h => chk_plain rfl h)
  | .bool i => gen (fun {ex env vis sc loc Q X mem s E} hc hsc hv hX R h => by
    obtain ⟨k, p, rfl⟩ := inv_bool hc
    exact wpAny_pure (PM.here R.m .mkBool h)) (fun {ex vis sc} h => chk_plain rfl h)
  | .none => gen (fun {ex env vis sc loc Q X mem s E} hc hsc hv hX R h => by
    obtain ⟨k, p, rfl⟩ := inv_none hc
    exact wpAny_pure (PM.here R.m .mkNone h)) (fun {ex vis sc} h => chk_plain rfl h)
  | .str i => gen (fun {ex env vis sc loc Q X mem s E} hc hsc hv hX R h => by
    obtain ⟨k, p, rfl⟩ := inv_str hc
    exact wpAny_Constant_str (PM.val R.m .mkStr h _)) (fun {ex vis sc} h => chk_plain rfl h)
  | .dict0 => gen (fun {ex env vis sc loc Q X mem s E} hc hsc hv hX R h => by
    obtain ⟨p, rfl⟩ := inv_dict0 hc
    have k : KeepL env.locals s.heap (s.heap.push { cls := .type "dict", data := .dict #[] }) := .push _
    have ha := size_none s.heap
    exact wpAny_Dict_empty ⟨.ref s.heap.objs.size, _, .mkRef, R.allocM (o := .dict0) k ha (fun kf => ⟨_, _, _, Heap.get?_push_size _ rfl, rfl, rfl⟩) rfl rfl, R.allocS (o := .dict0) k ha, h _ (R.m.mems.fresh ha)⟩) (fun {ex vis sc} h => chk_plain rfl h)
  | .fstr a c => gen (fun {ex env vis sc loc Q X mem s E} hc hsc hv hX R h => by
    obtain ⟨v, pv, kc, pc, p, rfl, h1⟩ := inv_fstr hc
    refine JoinedStr_many (joinParts_cons (FormattedValue_plain ?_))
    refine then1 R ((soundE SC a).1 h1 hsc hv hX R h) fun u y m1 s1 hy R1 S1 q1 => ?_
    obtain ⟨i, rfl, ht, hl, hq⟩ := q1
    obtain ⟨t, rfl⟩ := hy.int
    exact fstr_sound R1 ht hl (fun t' tk => PM.trans S1 (PM.val R1.m .mkStr hq tk))) (fun {ex vis sc} h => chk_plain rfl h)
  | .join c a => gen (fun {ex env vis sc loc Q X mem s E} hc hsc hv hX R h => by
    obtain ⟨kc, pc, ap, e2, p, rfl, hok, h1⟩ := inv_join hc
    refine method_call hok (star1 (chk_ns h1)) (show 1 < 29 by decide) ?_
    refine wpAny_Constant_str fun pl => ?_
    refine getMethod_str PySem.F.slot_str_join PySem.F.type_str_join (callM1 (chk_ns h1) ?_)
    have R0 : Rel W env vis loc mem { s with toks := s.toks + 1 } := R.step (R.m.toks _) .refl
    refine then1 R0 ((soundE SC a).1 h1 hsc hv hX R0 h) fun u y m1 s1 hy R1 S1 q1 => ?_
    obtain ⟨b, ts, rfl, em, hw, hs, hq⟩ := q1
    obtain rfl := hy.ref
    exact pmTrans S1 (join_sound R1 em hw hs hq)) (fun {ex vis sc} h => chk_plain rfl h)
  | .glob i => gen (fun {ex env vis sc loc Q X mem s E} hc hsc hv hX R h => by
    obtain ⟨x, p, rfl, h1⟩ := inv_glob hc
    obtain ⟨v, q, h'⟩ := h
    obtain ⟨j, t, rfl, hm⟩ := SC.ok.gl i v q
    exact global_sound R SC.ok hsc h1 hm (PM.here R.m .mkInt h')) (fun {ex vis sc} h => chk_plain rfl h)
  | .bin op a b => gen (fun {ex env vis sc loc Q X mem s E} hc hsc hv hX R h => by
    obtain ⟨l, o, r, p, rfl, h1, h2, h3⟩ := inv_bin hc
    refine wpAny_BinOp (then1 R ((soundE SC a).1 h2 hsc hv hX R h) fun x xv m1 s1 hx R1 S1 q1 => ?_)
    refine then1 R1 ((soundE SC b).1 h3 hsc hv hX R1 q1) fun y yv m2 s2 hy R2 S2 q2 => ?_
    exact pmTrans (S1.trans S2) (bin_sound R2 (vrel_keep R1 S2 hx) hy h1 q2)) (fun {ex vis sc} h => chk_plain rfl h)
  | .not a => ⟨(fun {ex env vis sc loc Q X mem s E} hc hsc hv hX R h => by
    obtain ⟨x, p, rfl, h1⟩ := inv_not hc
    refine wpAny_UnaryOp (wpAny_mono ((soundE SC a).1 h1 hsc hv hX R h) (fun y s1 q => ?_) fun _ _ x => x)
    obtain ⟨b, rfl, m1, M1, S1, q1⟩ := q.test
    exact not_of (wpAny_truthy_bool ⟨.bool !b, m1, .mkBool, M1, S1, q1⟩)), (fun {ex env vis sc loc P X mem s E} hc hsc hv hX R h => by
    obtain ⟨x, p, rfl, h1⟩ := inv_not hc
    refine isTrue_not (wpAny_mono ((soundE SC a).2 (P := fun b m => asB P (.bool !b) m) h1 hsc hv hX R h) (fun b s1 q => ?_) fun _ _ x => x)
    obtain ⟨m1, M1, S1, q1⟩ := q
    exact ⟨m1, M1, S1, asB_bool q1⟩)⟩
  | .neg a => gen (fun {ex env vis sc loc Q X mem s E} hc hsc hv hX R h => by
    obtain ⟨x, p, rfl, h1⟩ := inv_neg hc
    refine wpAny_UnaryOp (then1 R ((soundE SC a).1 h1 hsc hv hX R h) fun v y m1 s1 hy R1 S1 q1 => ?_)
    obtain ⟨i, rfl, q1⟩ := q1
    obtain ⟨t, rfl⟩ := hy.int
    exact neg_int (PM.trans S1 (PM.val R1.m .mkInt q1 _))) (fun {ex vis sc} h => by obtain ⟨x, p, rfl, _⟩ := inv_neg h; exact fun _ _ => rfl)
  | .boolop k es => ⟨(fun {ex env vis sc loc Q X mem s E} hc hsc hv hX R h => by
    obtain ⟨vs, p, rfl, hne, h1⟩ := inv_boolop hc
    refine wpAny_mono (soundB SC es (k := k) h1 hne hsc hv hX R h) (fun y s1 q => ?_) fun _ _ x => x
    obtain ⟨b, rfl, m1, M1, S1, q1⟩ := q.test
    exact ⟨.bool b, m1, .mkBool, M1, S1, q1⟩), (fun {ex env vis sc loc P X mem s E} hc hsc hv hX R h => by
    obtain ⟨vs, p, rfl, hne, h1⟩ := inv_boolop hc
    exact wpAny_mono (soundBI SC es h1 hsc hv hX R h) (fun _ _ q => q.plain) fun _ _ x => x)⟩
  | .cmp op a b => ⟨(fun {ex env vis sc loc Q X mem s E} hc hsc hv hX R h => by
    obtain ⟨l, o, r, p, rfl, h0, h1, h2, h3⟩ := inv_cmp hc
    refine wpAny_Compare1 (then1 R ((soundE SC a).1 h2 hsc hv hX R h) fun x xv m1 s1 hx R1 S1 q1 => ?_) (behind_notSet h1)
    refine then1 R1 ((soundE SC b).1 h3 hsc hv hX R1 q1) fun y yv m2 s2 hy R2 S2 q2 => ?_
    refine wpAny_mono (cmp_sound R2 SC.room (vrel_keep R1 S2 hx) hy h0 q2) (fun z s3 q => ?_) fun _ _ x => x
    obtain ⟨b, rfl, m3, M3, S3, q3⟩ := PM.test q
    exact ⟨.bool b, m3, .mkBool, M3, S1.trans (S2.trans S3), q3⟩), (fun {ex env vis sc loc P X mem s E} hc hsc hv hX R h => by
    obtain ⟨l, o, r, p, rfl, h0, h1, h2, h3⟩ := inv_cmp hc
    refine wpAny_isTrue_Compare1 (then1 R ((soundE SC a).1 h2 hsc hv hX R h) fun x xv m1 s1 hx R1 S1 q1 => ?_) (behind_notSet h1)
    refine then1 R1 ((soundE SC b).1 h3 hsc hv hX R1 q1) fun y yv m2 s2 hy R2 S2 q2 => ?_
    exact truth (cmp_sound R2 SC.room (vrel_keep R1 S2 hx) hy h0 q2) fun b s3 q => PT.trans S1 (PT.trans S2 (PT.plain q)))⟩
  | .cmp2 o1 o2 a b c => ⟨(fun {ex env vis sc loc Q X mem s E} hc hsc hv hX R h => by
    obtain ⟨l, p1, p2, r1, r2, p, rfl, h1, h2, h3, h4, h5, h6, h7⟩ := inv_cmp2 hc
    have hm : lastMarks [p1, p2] [r1, r2] = false := by
      show behindInMarks p2 r2 = false
      exact behind_notSet h4
    refine Compare_chain (rs := []) (ops := []) (then1 R ((soundE SC a).1 h5 hsc hv hX R h) fun x xv m1 s1 hx R1 S1 q1 => ?_) hm
    refine chain_link (then1 R1 ((soundE SC b).1 h6 hsc hv hX R1 q1) fun y yv m2 s2 hy R2 S2 q2 => ?_)
    refine wpAny_mono (cmp_sound R2 SC.room (vrel_keep R1 S2 hx) hy h1 q2) (fun z s3 q => ?_) fun _ _ x => x
    obtain ⟨t, rfl, m3, M3, S3, q3⟩ := PM.test q
    refine wpAny_truthy_bool ?_
    have R3 := R2.step M3 S3
    cases t with
    | false => exact ⟨.bool false, m3, .mkBool, M3, S1.trans (S2.trans S3), q3.2 rfl⟩
    | true =>
      simp only [if_true]
      refine chain_last ?_
      refine then1 R3 ((soundE SC c).1 h7 hsc hv hX R3 (q3.1 rfl)) fun u uv m4 s4 hu R4 S4 q4 => ?_
      refine wpAny_mono (cmp_sound R4 SC.room (vrel_keep R3 S4 (vrel_keep R2 S3 hy)) hu h2 q4) (fun z s5 q => ?_) fun _ _ x => x
      obtain ⟨b, rfl, m5, M5, S5, q5⟩ := PM.test q
      exact ⟨.bool b, m5, .mkBool, M5, S1.trans (S2.trans (S3.trans (S4.trans S5))), q5⟩), (fun {ex env vis sc loc P X mem s E} hc hsc hv hX R h => by
    obtain ⟨l, p1, p2, r1, r2, p, rfl, h1, h2, h3, h4, h5, h6, h7⟩ := inv_cmp2 hc
    have hm : lastMarks [p1, p2] [r1, r2] = false := by
      show behindInMarks p2 r2 = false
      exact behind_notSet h4
    refine isTrue_chain (rs := []) (ops := []) (then1 R ((soundE SC a).1 h5 hsc hv hX R h) fun x xv m1 s1 hx R1 S1 q1 => ?_) hm
    refine test_link (then1 R1 ((soundE SC b).1 h6 hsc hv hX R1 q1) fun y yv m2 s2 hy R2 S2 q2 => ?_)
    refine truth (cmp_sound R2 SC.room (vrel_keep R1 S2 hx) hy h1 q2) fun t s3 q => ?_
    obtain ⟨m3, M3, S3, q3⟩ := q
    have R3 := R2.step M3 S3
    cases t with
    | false => exact ⟨m3, M3, S1.trans (S2.trans S3), asB_bool (q3.2 rfl)⟩
    | true =>
      simp only [if_true]
      refine test_last ?_
      refine then1 R3 ((soundE SC c).1 h7 hsc hv hX R3 (q3.1 rfl)) fun u uv m4 s4 hu R4 S4 q4 => ?_
      exact truth (cmp_sound R4 SC.room (vrel_keep R3 S4 (vrel_keep R2 S3 hy)) hu h2 q4) fun b s5 q => PT.trans S1 (PT.trans S2 (PT.trans S3 (PT.trans S4 (PT.plain q)))))⟩
  | .isc q a c => ⟨(fun {ex env vis sc loc Q X mem s E} hc hsc hv hX R h => by
    obtain ⟨l, k', p', p, rfl, h2⟩ := inv_isc hc
    refine wpAny_Compare1 (then1 R ((soundE SC a).1 h2 hsc hv hX R h) fun x xv m1 s1 hx R1 S1 q1 => ?_) rfl
    exact lit_pure (pmTrans S1 (isc_sound R1.m hx q1))), (fun {ex env vis sc loc P X mem s E} hc hsc hv hX R h => by
    obtain ⟨l, k', p', p, rfl, h2⟩ := inv_isc hc
    refine wpAny_isTrue_Compare1 (then1 R ((soundE SC a).1 h2 hsc hv hX R h) fun x xv m1 s1 hx R1 S1 q1 => ?_) rfl
    exact lit_pure (truth (isc_sound R1.m hx q1) fun b s2 q => PT.trans S1 q))⟩
  | .call f args => gen (fun {ex env vis sc loc Q X mem s E} hc hsc hv hX R h => by
    obtain ⟨x, px, es, p, fn, rfl, h1, h2, h0, h3, h4, h5⟩ := inv_call hc
    obtain ⟨a, o, fd, hm, ho, hd, hcall⟩ := SC.call f h1 fn h2
    refine eval_call (global_sound R SC.ok hsc h3 (hm.1 h0) ?_)
    refine Calls.callWith_function (o := o) (fd := fd) ?_
    cases es with
    | nil => exact absurd rfl h4
    | cons e0 er =>
      rw [back_cons (chkL_star h5 e0 (.head _))]
      refine Calls.evalArgs_plain ?_
      rw [← back_cons (chkL_star h5 e0 (.head _))]
      refine wpAny_mono (soundL SC args h5 hsc hv hX R h) (fun vs s1 q => ?_) fun _ _ x => x
      obtain ⟨us, m1, hr, M1, S1, q1⟩ := q
      exact ⟨⟨M1.stays _ _ ho, hd⟩, pmTrans S1 (hcall A (.inl rfl) us vs Q X m1 s1 E (.inl hX) q1 M1 hr)⟩) (fun {ex vis sc} h => chk_plain rfl h)
  | .attr o f => gen (fun {ex env vis sc loc Q X mem s E} hc hsc hv hX R h => by
    obtain ⟨e1, p, rfl, hf, h1, h2⟩ := inv_attr hc
    refine eval_attr h1 (then1 R ((soundE SC o).1 h2 hsc hv hX R h) fun x xv m1 s1 hx R1 S1 q1 => ?_)
    exact pmTrans S1 (attr_sound R1 SC.est hx q1)) (fun {ex vis sc} h => chk_plain rfl h)
  | .meth o f args => gen (fun {ex env vis sc loc Q X mem s E} hc hsc hv hX R h => by
    obtain ⟨e1, ap, es, p, fn, rfl, hok, h1, h2, h3, h4, h5, h6, h7⟩ := inv_meth hc
    obtain ⟨a, ob, fd, hm, ho, hd, hcall⟩ := SC.call f h1 fn h2
    obtain ⟨hcl, K⟩ := hm.2 h3
    obtain ⟨C', N, mN, K, hf⟩ := K
    refine method_call hok (chkL_star h7) h5 (then1 R ((soundE SC o).1 h6 hsc hv hX R h) fun x xv m1 s1 hx R1 S1 q1 => fun pl => ?_)
    obtain ⟨hi, q1⟩ := q1
    refine meth_sound R1.m hx hi h4 K hf ho hcl ?_
    refine Calls.callWith_function (o := ob) (fd := fd) ?_
    cases es with
    | nil =>
      cases args with
      | cons _ _ => exact nb h7
      | nil => exact PyProof.Rows.evalArgs_none ⟨⟨R1.m.stays _ _ ho, hd⟩, pmTrans S1 (hcall A (.inl rfl) [x] [xv] Q X m1 s1 E (.inl hX) q1 R1.m (.cons hx .nil))⟩
    | cons e0 er =>
      rw [back_cons (chkL_star h7 e0 (.head _))]
      refine Calls.evalArgs_plain ?_
      rw [← back_cons (chkL_star h7 e0 (.head _))]
      refine wpAny_mono (soundL SC args h7 hsc hv hX R1 q1) (fun vs s2 q => ?_) fun _ _ x => x
      obtain ⟨us, m2, hr, M2, S2, q2⟩ := q
      exact ⟨⟨M2.stays _ _ ho, hd⟩, pmTrans (S1.trans S2) (hcall A (.inl rfl) (x :: us) (xv :: vs) Q X m2 s2 E (.inl hX) q2 M2 (.cons (vrel_keep R1 S2 hx) hr))⟩) (fun {ex vis sc} h => chk_plain rfl h)
  | .new f args => gen (fun {ex env vis sc loc Q X mem s E} hc hsc hv hX R h => by
    obtain ⟨x, px, es, p, fn, rfl, h1, h2, h3, h4, h5, h6, h7⟩ := inv_new hc
    obtain ⟨a, ob, fd, hm, ho, hd, hcall⟩ := SC.call f h1 fn h2
    obtain ⟨hcl, K⟩ := hm.2 h3
    obtain ⟨C', N, mN, K, hf⟩ := K
    rw [h4] at hf
    refine eval_call (global_sound R SC.ok hsc h5 K.1 ?_)
    cases es with
    | nil => exact absurd rfl h6
    | cons e0 er =>
      refine callWith_cls K.2.1 ?_ (star_plain (chkL_star h7 e0 (.head _))) (star_any fun e he => chkL_star h7 e (.tail _ he))
      refine wpAny_mono (soundL SC args h7 hsc hv hX R h) (fun vs s1 q => ?_) fun _ _ x => x
      obtain ⟨us, m1, hr, M1, S1, q1⟩ := q
      refine ⟨M1.stays, pmTrans S1 (new_sound M1 K hf ho hcl hr q1 fun x xs m2 s2 hT M2 hr2 => ?_)⟩
      exact hcall _ (.inr ⟨_, _, rfl⟩) (x :: us) xs _ X m2 s2 E (.inl hX) hT M2 hr2) (fun {ex vis sc} h => chk_plain rfl h)
  | .cut a i j => gen (fun {ex env vis sc loc Q X mem s E} hc hsc hv hX R h => by
    obtain ⟨e1, k1, p1, k2, p2, p, q, rfl, h1⟩ := inv_cut hc
    refine Subscript_ (then1 R ((soundE SC a).1 h1 hsc hv hX R h) fun x xv m1 s1 hx R1 S1 q1 => ?_)
    refine wpAny_Slice (wpAny_Constant_int (k := k1) (pos := p1) (wpAny_Constant_int (k := k2) (pos := p2) (wpAny_pure ?_)))
    refine pmTrans S1 ?_
    have R2 : Rel W env vis loc m1 { s1 with toks := s1.toks + 1 + 1 } := R1.step (R1.m.toks _) .refl
    exact cut_sound (s := { s1 with toks := s1.toks + 1 + 1 }) R2 hx q1) (fun {ex vis sc} h => chk_plain rfl h)
  | .b1 b a => gen (fun {ex env vis sc loc Q X mem s E} hc hsc hv hX R h => by
    cases hb : b.inner with
    | none =>
      obtain ⟨x, px, e1, p, rfl, h1, h2⟩ := inv_b1 hb hc
      have he := chk_ns h2
      have ev := fun (K : Value → Sem Value) (hK : ∀ v y m1 s1, VRel W s1.heap v y → Rel W env vis loc m1 s1 → wpB1 b v Q m1 → wpAny (model W.prog W.w) A (K y) (PM W m1 s1 Q) E s1) =>
        then1 (E := E) R ((soundE SC a).1 h2 hsc hv hX R h) (P := fun y s1 => wpAny (model W.prog W.w) A (K y) (PM W mem s Q) E s1) fun v y m1 s1 hy R1 S1 q1 => pmTrans S1 (hK v y m1 s1 hy R1 q1)
      cases b with
      | len => exact eval_call (builtin_sound R SC.ok hsc h1 (by repeat (first | exact List.Mem.head _ | refine List.Mem.tail _ ?_)) Boot.«len» (call1b he (ev _ fun v y m1 s1 hy R1 q1 => b1_sound R1 SC.room hb hy q1)))
      | all => exact eval_call (builtin_sound R SC.ok hsc h1 (by repeat (first | exact List.Mem.head _ | refine List.Mem.tail _ ?_)) Boot.«all» (call1b he (ev _ fun v y m1 s1 hy R1 q1 => b1_sound R1 SC.room hb hy q1)))
      | sum => exact eval_call (builtin_sound R SC.ok hsc h1 (by repeat (first | exact List.Mem.head _ | refine List.Mem.tail _ ?_)) Boot.«sum» (call1b he (ev _ fun v y m1 s1 hy R1 q1 => b1_sound R1 SC.room hb hy q1)))
      | maxL => exact eval_call (builtin_sound R SC.ok hsc h1 (by repeat (first | exact List.Mem.head _ | refine List.Mem.tail _ ?_)) Boot.«max» (call1b he (ev _ fun v y m1 s1 hy R1 q1 => b1_sound R1 SC.room hb hy q1)))
      | minL => exact eval_call (builtin_sound R SC.ok hsc h1 (by repeat (first | exact List.Mem.head _ | refine List.Mem.tail _ ?_)) Boot.«min» (call1b he (ev _ fun v y m1 s1 hy R1 q1 => b1_sound R1 SC.room hb hy q1)))
      | list => exact eval_call (builtin_sound R SC.ok hsc h1 (by repeat (first | exact List.Mem.head _ | refine List.Mem.tail _ ?_)) Boot.«list» (call1t he (ev _ fun v y m1 s1 hy R1 q1 => b1_sound R1 SC.room hb hy q1)))
      | tuple => exact eval_call (builtin_sound R SC.ok hsc h1 (by repeat (first | exact List.Mem.head _ | refine List.Mem.tail _ ?_)) Boot.«tuple» (call1t he (ev _ fun v y m1 s1 hy R1 q1 => b1_sound R1 SC.room hb hy q1)))
      | sorted => exact eval_call (builtin_sound R SC.ok hsc h1 (by repeat (first | exact List.Mem.head _ | refine List.Mem.tail _ ?_)) Boot.«sorted» (call1b he (ev _ fun v y m1 s1 hy R1 q1 => b1_sound R1 SC.room hb hy q1)))
      | int => exact eval_call (builtin_sound R SC.ok hsc h1 (by repeat (first | exact List.Mem.head _ | refine List.Mem.tail _ ?_)) Boot.«int» (call1t he (ev _ fun v y m1 s1 hy R1 q1 => b1_sound R1 SC.room hb hy q1)))
      | lrange => cases hb
      | lrev => cases hb
      | lenset => cases hb
      | str => exact eval_call (builtin_sound R SC.ok hsc h1 (by repeat (first | exact List.Mem.head _ | refine List.Mem.tail _ ?_)) Boot.«str» (call1t he (ev _ fun v y m1 s1 hy R1 q1 => b1_sound R1 SC.room hb hy q1)))
    | some f =>
      obtain ⟨x, px, y, py, e1, p, p', rfl, h1, h2, h3⟩ := inv_b1i hb hc
      have he := chk_ns h3
      have hne : ∀ a q, (Expr.Call (.Name y py) [e1] [] p') ≠ .Starred a q := fun a q e => by cases e
      cases b with
      | lrange =>
        cases hb
        refine eval_call (builtin_sound R SC.ok hsc h1 (by repeat (first | exact List.Mem.head _ | refine List.Mem.tail _ ?_)) Boot.«list» (call1t hne ?_))
        refine eval_call (builtin_sound R SC.ok hsc h2 (by repeat (first | exact List.Mem.head _ | refine List.Mem.tail _ ?_)) Boot.«range» (call1t he ?_))
        refine then1 R ((soundE SC a).1 h3 hsc hv hX R h) fun v yv m1 s1 hy R1 S1 q1 => ?_
        obtain ⟨nn, rfl, hn, hf⟩ := q1
        obtain ⟨t, rfl⟩ := hy.int
        exact wpAny_mono (lrange_sound R1 SC.room hn hf) (fun r s2 q => pmTrans S1 q) fun _ _ x => x
      | lrev =>
        cases hb
        refine eval_call (builtin_sound R SC.ok hsc h1 (by repeat (first | exact List.Mem.head _ | refine List.Mem.tail _ ?_)) Boot.«list» (call1t hne ?_))
        refine eval_call (builtin_sound R SC.ok hsc h2 (by repeat (first | exact List.Mem.head _ | refine List.Mem.tail _ ?_)) boot_reversed (call1t he ?_))
        refine then1 R ((soundE SC a).1 h3 hsc hv hX R h) fun v yv m1 s1 hy R1 S1 q1 => ?_
        obtain ⟨a', xs, rfl, em, hl, hf⟩ := q1
        obtain rfl := hy.ref
        exact wpAny_mono (lrev_sound R1 SC.room em hl hf) (fun r s2 q => pmTrans S1 q) fun _ _ x => x
      | lenset =>
        cases hb
        refine eval_call (builtin_sound R SC.ok hsc h1 (by repeat (first | exact List.Mem.head _ | refine List.Mem.tail _ ?_)) Boot.«len» (call1b hne ?_))
        refine eval_call (builtin_sound R SC.ok hsc h2 (by repeat (first | exact List.Mem.head _ | refine List.Mem.tail _ ?_)) Boot.«set» (call1t he ?_))
        refine then1 R ((soundE SC a).1 h3 hsc hv hX R h) fun v yv m1 s1 hy R1 S1 q1 => ?_
        exact wpAny_mono (lenset_sound R1 SC.room hy q1) (fun r s2 q => pmTrans S1 q) fun _ _ x => x
      | len => cases hb
      | all => cases hb
      | sum => cases hb
      | maxL => cases hb
      | minL => cases hb
      | list => cases hb
      | tuple => cases hb
      | sorted => cases hb
      | int => cases hb
      | str => cases hb) (fun {ex vis sc} h => chk_plain rfl h)
  | .isinst a c => gen (fun {ex env vis sc loc Q X mem s E} hc hsc hv hX R h => by
    obtain ⟨x, px, e1, y, py, p, rfl, h1, h2, h3⟩ := inv_isinst hc
    refine eval_call (builtin_sound R SC.ok hsc h1 (by repeat (first | exact List.Mem.head _ | refine List.Mem.tail _ ?_)) Boot.«isinstance» (call2b (chk_ns h2) (fun a q e => by cases e) ?_))
    refine then1 R ((soundE SC a).1 h2 hsc hv hX R h) fun v yv m1 s1 hy R1 S1 q1 => ?_
    obtain ⟨b, hA, q1⟩ := q1
    obtain ⟨hcl, hg, hin, hw⟩ := bi_name h3
    exact builtin_sound R1 SC.ok hsc hg hin hw (pmTrans S1 (isinst_sound R1 hcl hy hA q1))) (fun {ex vis sc} h => chk_plain rfl h)
  | .append o a => gen (fun {ex env vis sc loc Q X mem s E} hc hsc hv hX R h => by
    obtain ⟨e1, ap, e2, p, rfl, hok, h1, h2⟩ := inv_append hc
    refine method_call hok (star1 (chk_ns h2)) (show 1 < 29 by decide) ?_
    refine then1 R ((soundE SC o).1 h1 hsc hv hX R h) fun v yv m1 s1 hy R1 S1 q1 pl => ?_
    obtain ⟨⟨a1, xs1, rfl, e1m⟩, q1⟩ := q1
    obtain rfl := hy.ref
    refine getMethod_list R1 e1m PySem.slot_list_append PySem.F.type_list_append (callM1 (chk_ns h2) ?_)
    refine then1 R1 ((soundE SC a).1 h2 hsc hv hX R1 q1) fun w wv m2 s2 hw R2 S2 q2 => ?_
    obtain ⟨_, xs, e, e2m, hl, hq⟩ := q2
    cases e
    exact pmTrans (S1.trans S2) (append_sound R2 e2m hl hw hq)) (fun {ex vis sc} h => chk_plain rfl h)
  | .extend o a => gen (fun {ex env vis sc loc Q X mem s E} hc hsc hv hX R h => by
    obtain ⟨e1, ap, e2, p, rfl, hok, h1, h2⟩ := inv_extend hc
    refine method_call hok (star1 (chk_ns h2)) (show 1 < 29 by decide) ?_
    refine then1 R ((soundE SC o).1 h1 hsc hv hX R h) fun v yv m1 s1 hy R1 S1 q1 pl => ?_
    obtain ⟨⟨a1, xs1, rfl, e1m⟩, q1⟩ := q1
    obtain rfl := hy.ref
    refine getMethod_list R1 e1m PySem.F.slot_list_extend PySem.F.type_list_extend (callM1 (chk_ns h2) ?_)
    refine then1 R1 ((soundE SC a).1 h2 hsc hv hX R1 q1) fun w wv m2 s2 hw R2 S2 q2 => ?_
    obtain ⟨_, b, xs, ys, e, rfl, hne, e2m, e3m, hl, hq⟩ := q2
    cases e
    obtain rfl := hw.ref
    exact pmTrans (S1.trans S2) (extend_sound R2 e2m e3m hl hq)) (fun {ex vis sc} h => chk_plain rfl h)
  | .pop o i => gen (fun {ex env vis sc loc Q X mem s E} hc hsc hv hX R h => by
    obtain ⟨e1, ap, es, p, rfl, hok, h1, h2, hle⟩ := inv_pop hc
    cases i with
    | nil =>
      obtain rfl := inv_nil h2
      refine method_call hok (fun _ he => nomatch he) (show 0 < 29 by decide) ?_
      refine then1 R ((soundE SC o).1 h1 hsc hv hX R h) fun v yv m1 s1 hy R1 S1 q1 pl => ?_
      obtain ⟨⟨a1, xs1, rfl, e1m⟩, q1⟩ := q1
      obtain rfl := hy.ref
      obtain ⟨_, xs, k, j, y, e, e2m, hl, hk, hp, hy', hq⟩ := q1
      cases e
      rcases hk with ⟨_, rfl⟩ | hk
      · exact getMethod_list R1 e1m PySem.F.slot_list_pop PySem.F.type_list_pop (callM0 (pmTrans S1 (pop0_sound R1 e2m hl hp hy' hq)))
      · cases hk
    | cons i1 ir =>
      obtain ⟨x, r, rfl, h3, h4⟩ := inv_cons h2
      cases ir with
      | cons _ _ => obtain ⟨x2, r2, rfl, _, _⟩ := inv_cons h4; simp at hle
      | nil =>
        obtain rfl := inv_nil h4
        refine method_call hok (star1 (chk_ns h3)) (show 1 < 29 by decide) ?_
        refine then1 R ((soundE SC o).1 h1 hsc hv hX R h) fun v yv m1 s1 hy R1 S1 q1 pl => ?_
        obtain ⟨⟨a1, xs1, rfl, e1m⟩, q1⟩ := q1
        obtain rfl := hy.ref
        refine getMethod_list R1 e1m PySem.F.slot_list_pop PySem.F.type_list_pop (callM1 (chk_ns h3) ?_)
        refine then1 R1 ((soundE SC i1).1 h3 hsc hv hX R1 q1) fun w wv m2 s2 hw R2 S2 q2 => ?_
        obtain ⟨_, xs, k, j, y, e, e2m, hl, hk, hp, hy', hq⟩ := q2
        cases e
        rcases hk with ⟨hk, _⟩ | hk
        · cases hk
        · cases hk
          obtain ⟨t, rfl⟩ := hw.int
          exact pmTrans (S1.trans S2) (pop_sound R2 e2m hl hp hy' hq)) (fun {ex vis sc} h => chk_plain rfl h)
  | .clear o => gen (fun {ex env vis sc loc Q X mem s E} hc hsc hv hX R h => by
    obtain ⟨e1, ap, p, rfl, hok, h1⟩ := inv_clear hc
    refine method_call hok (fun _ he => nomatch he) (show 0 < 29 by decide) ?_
    refine then1 R ((soundE SC o).1 h1 hsc hv hX R h) fun v yv m1 s1 hy R1 S1 q1 pl => ?_
    obtain ⟨_, xs, rfl, e1m, hl, hq⟩ := q1
    obtain rfl := hy.ref
    exact getMethod_list R1 e1m PySem.F.slot_list_clear PySem.F.type_list_clear (callM0 (pmTrans S1 (clear_sound R1 e1m hl hq)))) (fun {ex vis sc} h => chk_plain rfl h)
  | .index o a => gen (fun {ex env vis sc loc Q X mem s E} hc hsc hv hX R h => by
    obtain ⟨e1, ap, e2, p, rfl, hok, h1, h2⟩ := inv_index hc
    refine method_call hok (star1 (chk_ns h2)) (show 1 < 29 by decide) ?_
    refine then1 R ((soundE SC o).1 h1 hsc hv hX R h) fun v yv m1 s1 hy R1 S1 q1 pl => ?_
    obtain ⟨⟨a1, xs1, rfl, e1m⟩, q1⟩ := q1
    obtain rfl := hy.ref
    refine getMethod_list R1 e1m PySem.F.slot_list_index PySem.F.type_list_index (callM1 (chk_ns h2) ?_)
    refine then1 R1 ((soundE SC a).1 h2 hsc hv hX R1 q1) fun w wv m2 s2 hw R2 S2 q2 => ?_
    obtain ⟨_, is, i, e, e2m, rfl, hi, hl, hq⟩ := q2
    cases e
    obtain ⟨t, rfl⟩ := hw.int
    exact pmTrans (S1.trans S2) (index_sound R2 e2m hi hl hq)) (fun {ex vis sc} h => chk_plain rfl h)
  | .sub a i => gen (fun {ex env vis sc loc Q X mem s E} hc hsc hv hX R h => by
    obtain ⟨e1, e2, p, rfl, h1, h2⟩ := inv_sub hc
    refine Subscript_ (then1 R ((soundE SC a).1 h1 hsc hv hX R h) fun x xv m1 s1 hx R1 S1 q1 => ?_)
    refine then1 R1 ((soundE SC i).1 h2 hsc hv hX R1 q1) fun y yv m2 s2 hy R2 S2 q2 => ?_
    exact pmTrans (S1.trans S2) (sub_sound R2 (vrel_keep R1 S2 hx) hy q2 (chk_notSlice h2))) (fun {ex vis sc} h => chk_plain rfl h)
  | .slice up a i => gen (fun {ex env vis sc loc Q X mem s E} hc hsc hv hX R h => by
    obtain ⟨e1, e2, p, q, rfl, h1, h2⟩ := inv_slice hc
    refine Subscript_ (then1 R ((soundE SC a).1 h1 hsc hv hX R h) fun x xv m1 s1 hx R1 S1 q1 => ?_)
    refine slice_eval (then1 R1 ((soundE SC i).1 h2 hsc hv hX R1 q1) fun y yv m2 s2 hy R2 S2 q2 => ?_)
    exact pmTrans (S1.trans S2) (slice_sound R2 (vrel_keep R1 S2 hx) hy q2)) (fun {ex vis sc} h => chk_plain rfl h)
  | .mm mx a b => gen (fun {ex env vis sc loc Q X mem s E} hc hsc hv hX R h => by
    obtain ⟨x, px, e1, e2, p, rfl, h0, h1, h2⟩ := inv_mm hc
    have go : wpAny (model W.prog W.w) A (callWith p (.builtin (mmName mx)) [] (backTo p (starEach [e1, e2] env)) []) (PM W mem s Q) E s := by
      refine call2b (chk_ns h1) (chk_ns h2) ?_
      refine then1 R ((soundE SC a).1 h1 hsc hv hX R h) fun u uv m1 s1 hu R1 S1 q1 => ?_
      refine then1 R1 ((soundE SC b).1 h2 hsc hv hX R1 q1) fun y yv m2 s2 hy R2 S2 q2 => ?_
      exact pmTrans (S1.trans S2) (mm_sound R2 SC.room (vrel_keep R1 S2 hu) hy q2)
    cases mx with
    | true => exact eval_call (builtin_sound R SC.ok hsc h0 (by repeat (first | exact List.Mem.head _ | refine List.Mem.tail _ ?_)) Boot.«max» go)
    | false => exact eval_call (builtin_sound R SC.ok hsc h0 (by repeat (first | exact List.Mem.head _ | refine List.Mem.tail _ ?_)) Boot.«min» go)) (fun {ex vis sc} h => chk_plain rfl h)
  | .lst es => gen (fun {ex env vis sc loc Q X mem s E} hc hsc hv hX R h => by
    obtain ⟨xs, p, rfl, h1⟩ := inv_lst hc
    refine List_ (wpAny_mono (soundL SC es h1 hsc hv hX R h) (fun vs s1 q => ?_) fun _ _ x => x)
    obtain ⟨us, m1, hr, M1, S1, q1⟩ := q
    exact pmTrans S1 (newList_sound (R.step M1 S1) hr q1)) (fun {ex vis sc} h => chk_plain rfl h)
  | .tup es => gen (fun {ex env vis sc loc Q X mem s E} hc hsc hv hX R h => by
    obtain ⟨xs, k, p, rfl, h1⟩ := inv_tup hc
    refine Tuple_ (wpAny_mono (soundL SC es h1 hsc hv hX R h) (fun vs s1 q => ?_) fun _ _ x => x)
    obtain ⟨us, m1, hr, M1, S1, q1⟩ := q
    exact pmTrans S1 (newTuple_sound (R.step M1 S1) hr q1.1 q1.2)) (fun {ex vis sc} h => chk_plain rfl h)
  | .comp elt t k src cond => gen (fun {ex env vis sc loc Q X mem s E} hc hsc hv hX R h => by
    obtain ⟨elt', target, iter, ifs, csc, p, new, e1, rfl, hT, h1, h2, h3, h4, h5, h6⟩ := inv_comp hc
    have hi := (chkScope_spec h1).2.2.2.2.2.2
    have hv' := newVis_ok hT hv hi
    refine comp_run (use := none) SC.room.handled SC.ok R hsc h1 h2 hT hv hi (chk_ns h4) h3 ((soundE SC src).1 h4 hsc hv hX R h) (fun C' l P mem' s' E' R' hb => soundIfs SC cond h6 cEnv_sc hv' hX R' hb) (fun C' l P mem' s' E' R' he => (soundE SC elt).1 h5 cEnv_sc hv' hX R' he) fun D C' s' hl => ?_
    obtain ⟨mem', ys, vs, m, q⟩ := id hl
    exact ⟨m, q.2.2.2.1, fun h' hs => hl.done R hs⟩) (fun {ex vis sc} h => chk_plain rfl h)
theorem soundB {W : Cx} {FT : Nat → Option Fn} {ids : List Nat} {G : String → Option Val} {n : Nat} {A : Around} {C : CallT} (SC : SCx W FT ids G n A C) : ∀ (es : Exs) {k : Bool} {xs : List Expr} {p : Pos} {env : Env} {vis : List (Nat × Str)} {sc : Scope} {loc : Loc} {P : Bool → Mem → Prop} {X : Nat → Mem → Prop} {mem : Mem} {s : Shared} {E : Value → Shared → Prop},
    chkL FT ids vis sc es xs = true → xs ≠ [] → ScOk sc env → VisOk vis → (∀ k m, ¬ X k m) → Rel W env vis loc mem s → wpBs C G X k es loc P mem → wpAny (model W.prog W.w) A (eval (.BoolOp (isAnd k) xs p) env) (PM W mem s (asB P)) E s
  | .nil, k, xs, p, env, vis, sc, loc, P, X, mem, s, E, hc, hne, hsc, hv, hX, R, h => absurd (inv_nil hc) hne
  | .cons e es, k, xs, p, env, vis, sc, loc, P, X, mem, s, E, hc, hne, hsc, hv, hX, R, h => by
    obtain ⟨x, r, rfl, h1, h2⟩ := inv_cons hc
    cases r with
    | nil =>
      have : es = .nil := by
        cases es with
        | nil => rfl
        | cons _ _ => obtain ⟨_, _, q, _⟩ := inv_cons h2; cases q
      subst this
      refine wpAny_mono (?_ : wpAny (model W.prog W.w) A _ (PM W mem s (asB (bsQ k (wpBs C G X k .nil loc P) P))) E s) (fun y s1 q => PM.mono (fun _ _ q => asB_mono (fun _ _ q => bsQ_end id q) q) q) fun _ _ x => x
      cases k
      · exact BoolOp_one ((soundE SC e).1 h1 hsc hv hX R h)
      · exact BoolOp_one ((soundE SC e).1 h1 hsc hv hX R h)
    | cons x2 r =>
      cases k with
      | true =>
        refine BoolOp_and (wpAny_mono ((soundE SC e).1 h1 hsc hv hX R h) (fun y s1 q => ?_) fun _ _ x => x)
        obtain ⟨b, rfl, m1, M1, S1, q1⟩ := q.test
        refine wpAny_truthy_bool ?_
        cases b with
        | true =>
          exact pmTrans S1 (soundB SC es (k := true) h2 (by simp) hsc hv hX (R.step M1 S1) (q1.1 rfl))
        | false =>
          exact ⟨.bool false, m1, .mkBool, M1, S1, _, rfl, q1.2 rfl⟩
      | false =>
        refine BoolOp_or (wpAny_mono ((soundE SC e).1 h1 hsc hv hX R h) (fun y s1 q => ?_) fun _ _ x => x)
        obtain ⟨b, rfl, m1, M1, S1, q1⟩ := q.test
        refine wpAny_truthy_bool ?_
        cases b with
        | true =>
          exact ⟨.bool true, m1, .mkBool, M1, S1, _, rfl, q1.2 rfl⟩
        | false =>
          exact pmTrans S1 (soundB SC es (k := false) h2 (by simp) hsc hv hX (R.step M1 S1) (q1.1 rfl))
theorem soundBI {W : Cx} {FT : Nat → Option Fn} {ids : List Nat} {G : String → Option Val} {n : Nat} {A : Around} {C : CallT} (SC : SCx W FT ids G n A C) : ∀ (es : Exs) {k : Bool} {xs : List Expr} {p : Pos} {env : Env} {vis : List (Nat × Str)} {sc : Scope} {loc : Loc} {P : Bool → Mem → Prop} {X : Nat → Mem → Prop} {mem : Mem} {s : Shared} {E : Value → Shared → Prop} {w : Sem Value},
    chkL FT ids vis sc es xs = true → ScOk sc env → VisOk vis → (∀ k m, ¬ X k m) → Rel W env vis loc mem s → wpBs C G X k es loc P mem → wpAny (model W.prog W.w) A (isTrue (.BoolOp (isAnd k) xs p) env w) (PT W mem s P) E s
  | .nil, k, xs, p, env, vis, sc, loc, P, X, mem, s, E, w, hc, hsc, hv, hX, R, h => by
    rw [inv_nil hc]
    cases k
    · exact isTrue_or_nil ⟨mem, R.m, .refl, h⟩
    · exact isTrue_and_nil ⟨mem, R.m, .refl, h⟩
  | .cons e es, k, xs, p, env, vis, sc, loc, P, X, mem, s, E, w, hc, hsc, hv, hX, R, h => by
    obtain ⟨x, r, rfl, h1, h2⟩ := inv_cons hc
    cases k with
    | true =>
      refine isTrue_and (wpAny_mono ((soundE SC e).2 h1 hsc hv hX R h) (fun b s1 q => ?_) fun _ _ x => x)
      obtain ⟨m1, M1, S1, q1⟩ := q
      cases b with
      | true =>
        exact wpAny_mono (soundBI SC es (k := true) h2 hsc hv hX (R.step M1 S1) (q1.1 rfl)) (fun b s2 q => PT.trans S1 q) fun _ _ x => x
      | false =>
        exact ⟨m1, M1, S1, q1.2 rfl⟩
    | false =>
      refine isTrue_or (wpAny_mono ((soundE SC e).2 h1 hsc hv hX R h) (fun b s1 q => ?_) fun _ _ x => x)
      obtain ⟨m1, M1, S1, q1⟩ := q
      cases b with
      | true =>
        exact ⟨m1, M1, S1, q1.2 rfl⟩
      | false =>
        exact wpAny_mono (soundBI SC es (k := false) h2 hsc hv hX (R.step M1 S1) (q1.1 rfl)) (fun b s2 q => PT.trans S1 q) fun _ _ x => x
theorem soundIfs {W : Cx} {FT : Nat → Option Fn} {ids : List Nat} {G : String → Option Val} {n : Nat} {A : Around} {C : CallT} (SC : SCx W FT ids G n A C) : ∀ (es : Exs) {xs : List Expr} {env : Env} {vis : List (Nat × Str)} {sc : Scope} {loc : Loc} {P : Bool → Mem → Prop} {X : Nat → Mem → Prop} {mem : Mem} {s : Shared} {E : Value → Shared → Prop},
    chkL FT ids vis sc es xs = true → ScOk sc env → VisOk vis → (∀ k m, ¬ X k m) → Rel W env vis loc mem s → wpBs C G X true es loc P mem →
      wpAny (model W.prog W.w) A (forIn xs true fun c r => if r = true then do let ok ← isTrue c env (eval c env); pure (ForInStep.yield ok) else pure (ForInStep.yield r)) (PT W mem s P) E s
  | .nil, xs, env, vis, sc, loc, P, X, mem, s, E, hc, hsc, hv, hX, R, h => by
    rw [inv_nil hc]
    exact wpAny_tests_nil ⟨mem, R.m, .refl, h⟩
  | .cons e es, xs, env, vis, sc, loc, P, X, mem, s, E, hc, hsc, hv, hX, R, h => by
    obtain ⟨x, r, rfl, h1, h2⟩ := inv_cons hc
    rw [List.forIn_cons]
    simp only [if_true]
    refine wpAny_bind (wpAny_bind (wpAny_mono ((soundE SC e).2 h1 hsc hv hX R h) (fun b s1 q => wpAny_pure ?_) fun _ _ x => x))
    obtain ⟨m1, M1, S1, q1⟩ := q
    cases b with
    | true =>
      exact wpAny_mono (soundIfs SC es h2 hsc hv hX (R.step M1 S1) (q1.1 rfl)) (fun b s2 q => PT.trans S1 q) fun _ _ x => x
    | false =>
      exact forIn_false ⟨m1, M1, S1, q1.2 rfl⟩ r
theorem soundL {W : Cx} {FT : Nat → Option Fn} {ids : List Nat} {G : String → Option Val} {n : Nat} {A : Around} {C : CallT} (SC : SCx W FT ids G n A C) : ∀ (es : Exs) {xs : List Expr} {p : Pos} {env : Env} {vis : List (Nat × Str)} {sc : Scope} {loc : Loc} {P : List Val → Mem → Prop} {X : Nat → Mem → Prop} {mem : Mem} {s : Shared} {E : Value → Shared → Prop},
    chkL FT ids vis sc es xs = true → ScOk sc env → VisOk vis → (∀ k m, ¬ X k m) → Rel W env vis loc mem s → wpL C G X es loc P mem →
      wpAny (model W.prog W.w) A (spliced (backTo p (starEach xs env))) (fun vs s' => ∃ us mem', VRels W s'.heap us vs ∧ MRel W mem' s' ∧ Step NoD mem s.heap mem' s'.heap ∧ P us mem') E s
  | .nil, xs, p, env, vis, sc, loc, P, X, mem, s, E, hc, hsc, hv, hX, R, h => by
    rw [inv_nil hc]
    exact Calls.spliced_nil ⟨[], mem, .nil, R.m, .refl, h⟩
  | .cons e es, xs, p, env, vis, sc, loc, P, X, mem, s, E, hc, hsc, hv, hX, R, h => by
    obtain ⟨x, r, rfl, h1, h2⟩ := inv_cons hc
    rw [back_cons (chk_ns h1)]
    refine Calls.spliced_cons (then1 R ((soundE SC e).1 h1 hsc hv hX R h) fun v yv m1 s1 hy R1 S1 q1 => ?_)
    refine wpAny_mono (soundL SC es h2 hsc hv hX R1 q1) (fun vs s2 q => ?_) fun _ _ x => x
    obtain ⟨us, m2, hr, M2, S2, q2⟩ := q
    exact ⟨v :: us, m2, .cons (vrel_keep R1 S2 hy) hr, M2, S1.trans S2, q2⟩
end

end TD

namespace TD
open PySem PyProof.Rows

noncomputable def notComp (e : Expr) : Bool := !(e.ctorIdx == 8 || (e.ctorIdx == 9 || e.ctorIdx == 10))
noncomputable def storable (sc : Scope) (x : Str) : Bool := sc.names.lookup x == some .local || sc.names.lookup x == some .cell
noncomputable def chkStore (vis : List (Nat × Str)) (sc : Scope) (i : Nat) (x : Str) : Bool := vis.lookup i == some x && storable sc x

noncomputable def vExpr (e : Stmt) (k : Expr → Bool) : Bool := vIx e.ctorIdx 24 fun h => Stmt.Expr.elim (motive_2 := fun _ => Bool) e h fun v _ => k v
theorem vExpr_inv {e : Stmt} {k : Expr → Bool} (h : vExpr e k = true) : ∃ v p, e = .Expr v p ∧ k v = true := by
  obtain ⟨hc, h⟩ := vIx_inv h
  exact Stmt.Expr.elim (motive_2 := fun e => ∀ hc : e.ctorIdx = 24, (Stmt.Expr.elim (motive_2 := fun _ => Bool) e hc fun v _ => k v) = true → ∃ v p, e = .Expr v p ∧ k v = true) e hc (fun v p _ h => ⟨v, p, rfl, h⟩) hc h
noncomputable def vRet0 (e : Stmt) (k : (Option Expr) → Bool) : Bool := vIx e.ctorIdx 3 fun h => Stmt.Return.elim (motive_2 := fun _ => Bool) e h fun v _ => k v
theorem vRet0_inv {e : Stmt} {k : (Option Expr) → Bool} (h : vRet0 e k = true) : ∃ v p, e = .Return v p ∧ k v = true := by
  obtain ⟨hc, h⟩ := vIx_inv h
  exact Stmt.Return.elim (motive_2 := fun e => ∀ hc : e.ctorIdx = 3, (Stmt.Return.elim (motive_2 := fun _ => Bool) e hc fun v _ => k v) = true → ∃ v p, e = .Return v p ∧ k v = true) e hc (fun v p _ h => ⟨v, p, rfl, h⟩) hc h
noncomputable def vAsg0 (e : Stmt) (k : (List Expr) → Expr → Bool) : Bool := vIx e.ctorIdx 5 fun h => Stmt.Assign.elim (motive_2 := fun _ => Bool) e h fun ts v _ => k ts v
theorem vAsg0_inv {e : Stmt} {k : (List Expr) → Expr → Bool} (h : vAsg0 e k = true) : ∃ ts v p, e = .Assign ts v p ∧ k ts v = true := by
  obtain ⟨hc, h⟩ := vIx_inv h
  exact Stmt.Assign.elim (motive_2 := fun e => ∀ hc : e.ctorIdx = 5, (Stmt.Assign.elim (motive_2 := fun _ => Bool) e hc fun ts v _ => k ts v) = true → ∃ ts v p, e = .Assign ts v p ∧ k ts v = true) e hc (fun ts v p _ h => ⟨ts, v, p, rfl, h⟩) hc h
noncomputable def vIf (e : Stmt) (k : Expr → (List Stmt) → (List Stmt) → Bool) : Bool := vIx e.ctorIdx 12 fun h => Stmt.If.elim (motive_2 := fun _ => Bool) e h fun a b o _ => k a b o
theorem vIf_inv {e : Stmt} {k : Expr → (List Stmt) → (List Stmt) → Bool} (h : vIf e k = true) : ∃ a b o p, e = .If a b o p ∧ k a b o = true := by
  obtain ⟨hc, h⟩ := vIx_inv h
  exact Stmt.If.elim (motive_2 := fun e => ∀ hc : e.ctorIdx = 12, (Stmt.If.elim (motive_2 := fun _ => Bool) e hc fun a b o _ => k a b o) = true → ∃ a b o p, e = .If a b o p ∧ k a b o = true) e hc (fun a b o p _ h => ⟨a, b, o, p, rfl, h⟩) hc h
noncomputable def vFor0 (e : Stmt) (k : Expr → Expr → (List Stmt) → (List Stmt) → Bool) : Bool := vIx e.ctorIdx 9 fun h => Stmt.For.elim (motive_2 := fun _ => Bool) e h fun t i b o _ => k t i b o
theorem vFor0_inv {e : Stmt} {k : Expr → Expr → (List Stmt) → (List Stmt) → Bool} (h : vFor0 e k = true) : ∃ t i b o p, e = .For t i b o p ∧ k t i b o = true := by
  obtain ⟨hc, h⟩ := vIx_inv h
  exact Stmt.For.elim (motive_2 := fun e => ∀ hc : e.ctorIdx = 9, (Stmt.For.elim (motive_2 := fun _ => Bool) e hc fun t i b o _ => k t i b o) = true → ∃ t i b o p, e = .For t i b o p ∧ k t i b o = true) e hc (fun t i b o p _ h => ⟨t, i, b, o, p, rfl, h⟩) hc h
noncomputable def vWhile0 (e : Stmt) (k : Expr → (List Stmt) → (List Stmt) → Bool) : Bool := vIx e.ctorIdx 11 fun h => Stmt.While.elim (motive_2 := fun _ => Bool) e h fun a b o _ => k a b o
theorem vWhile0_inv {e : Stmt} {k : Expr → (List Stmt) → (List Stmt) → Bool} (h : vWhile0 e k = true) : ∃ a b o p, e = .While a b o p ∧ k a b o = true := by
  obtain ⟨hc, h⟩ := vIx_inv h
  exact Stmt.While.elim (motive_2 := fun e => ∀ hc : e.ctorIdx = 11, (Stmt.While.elim (motive_2 := fun _ => Bool) e hc fun a b o _ => k a b o) = true → ∃ a b o p, e = .While a b o p ∧ k a b o = true) e hc (fun a b o p _ h => ⟨a, b, o, p, rfl, h⟩) hc h
noncomputable def vRaise0 (e : Stmt) (k : (Option Expr) → (Option Expr) → Bool) : Bool := vIx e.ctorIdx 16 fun h => Stmt.Raise.elim (motive_2 := fun _ => Bool) e h fun x c _ => k x c
theorem vRaise0_inv {e : Stmt} {k : (Option Expr) → (Option Expr) → Bool} (h : vRaise0 e k = true) : ∃ x c p, e = .Raise x c p ∧ k x c = true := by
  obtain ⟨hc, h⟩ := vIx_inv h
  exact Stmt.Raise.elim (motive_2 := fun e => ∀ hc : e.ctorIdx = 16, (Stmt.Raise.elim (motive_2 := fun _ => Bool) e hc fun x c _ => k x c) = true → ∃ x c p, e = .Raise x c p ∧ k x c = true) e hc (fun x c p _ h => ⟨x, c, p, rfl, h⟩) hc h
noncomputable def vPass0 (e : Stmt) (k : Pos → Bool) : Bool := vIx e.ctorIdx 25 fun h => Stmt.Pass.elim (motive_2 := fun _ => Bool) e h fun p => k p
theorem vPass0_inv {e : Stmt} {k : Pos → Bool} (h : vPass0 e k = true) : ∃ p, e = .Pass p ∧ k p = true := by
  obtain ⟨hc, h⟩ := vIx_inv h
  exact Stmt.Pass.elim (motive_2 := fun e => ∀ hc : e.ctorIdx = 25, (Stmt.Pass.elim (motive_2 := fun _ => Bool) e hc fun p => k p) = true → ∃ p, e = .Pass p ∧ k p = true) e hc (fun p _ h => ⟨p, rfl, h⟩) hc h
noncomputable def vRet (st : Stmt) (k : Expr → Bool) : Bool := vRet0 st fun v => vSome v k
noncomputable def vAsg (st : Stmt) (k : Expr → Expr → Bool) : Bool := vAsg0 st fun ts v => vOne ts fun t => k t v
noncomputable def vFor (st : Stmt) (k : Expr → Expr → List Stmt → Bool) : Bool := vFor0 st fun t i b o => o.isEmpty && k t i b
noncomputable def vWhile (st : Stmt) (k : Expr → List Stmt → Bool) : Bool := vWhile0 st fun a b o => o.isEmpty && k a b
noncomputable def vRaise (st : Stmt) (k : Expr → Bool) : Bool := vRaise0 st fun e c => c.isNone && vSome e k
noncomputable def vPass (st : Stmt) : Bool := vPass0 st fun _ => true
theorem vRet_inv {st : Stmt} {k : Expr → Bool} (h : vRet st k = true) : ∃ v p, st = .Return (some v) p ∧ k v = true := by
  obtain ⟨v, p, rfl, h⟩ := vRet0_inv h
  obtain ⟨x, rfl, h⟩ := vSome_inv h
  exact ⟨x, p, rfl, h⟩
theorem vAsg_inv {st : Stmt} {k : Expr → Expr → Bool} (h : vAsg st k = true) : ∃ t v p, st = .Assign [t] v p ∧ k t v = true := by
  obtain ⟨ts, v, p, rfl, h⟩ := vAsg0_inv h
  obtain ⟨x, rfl, h⟩ := vOne_inv h
  exact ⟨x, v, p, rfl, h⟩
theorem vFor_inv {st : Stmt} {k : Expr → Expr → List Stmt → Bool} (h : vFor st k = true) : ∃ t i b p, st = .For t i b [] p ∧ k t i b = true := by
  obtain ⟨t, i, b, o, p, rfl, h⟩ := vFor0_inv h
  cases o with
  | nil => exact ⟨t, i, b, p, rfl, h⟩
  | cons _ _ => exact nb h
theorem vWhile_inv {st : Stmt} {k : Expr → List Stmt → Bool} (h : vWhile st k = true) : ∃ a b p, st = .While a b [] p ∧ k a b = true := by
  obtain ⟨a, b, o, p, rfl, h⟩ := vWhile0_inv h
  cases o with
  | nil => exact ⟨a, b, p, rfl, h⟩
  | cons _ _ => exact nb h
theorem vPass_inv {st : Stmt} (h : vPass st = true) : ∃ p, st = .Pass p := by
  obtain ⟨p, rfl, _⟩ := vPass0_inv h
  exact ⟨p, rfl⟩
noncomputable def notTup (e : Expr) : Bool := !(e.ctorIdx == 25)
mutual
noncomputable def chkS (FT : Nat → Option Fn) (ids : List Nat) (vis : List (Nat × Str)) (sc : Scope) : St → Stmt → Bool
  | .expr e, st => vExpr st fun v => notComp v && chkE FT ids vis sc e v
  | .ret e, st => vRet st fun v => chkE FT ids vis sc e v
  | .asg i e, st => vAsg st fun t v => vName t fun x => chkStore vis sc i x && chkE FT ids vis sc e v
  | .asgSub o i e, st => vAsg st fun t v => vSub t fun e1 e2 => notComp v && (chkE FT ids vis sc e v && (chkE FT ids vis sc o e1 && chkE FT ids vis sc i e2))
  | .ifs c t e, st => vIf st fun a b o => chkE FT ids vis sc c a && (chkSs FT ids vis sc t b && chkSs FT ids vis sc e o)
  | .fors t k src b, st => vFor st fun target iter body => vSome (chkT t target) fun new => new.all (fun q => chkStore vis sc q.1 q.2) && (notSet iter && (vIter sc k.call iter (fun e1 => chkE FT ids vis sc src e1) && chkSs FT ids vis sc b body))
  | .whiles c b, st => vWhile st fun a body => chkE FT ids vis sc c a && chkSs FT ids vis sc b body
  | .raise c g, st => vRaise st fun e => vCallN e fun x es => (decide (7 ≤ c.code ∧ c.code ≤ 14) && gName sc (clsName c.code) x) && vOne es fun e1 => vConst e1 fun t => t == .str (Str.ofString g)
  | .pass, st => vPass st
  | .callS r f args, st => cond r (vRet st fun v => chkE FT ids vis sc (.call f args) v) (vExpr st fun v => chkE FT ids vis sc (.call f args) v)
  | .asgAttr o f e, st => vAsg st fun t v => vAttr t fun e1 n _ => decide (f < 2) && (n == Str.ofString (fldName f) && (chkE FT ids vis sc e v && chkE FT ids vis sc o e1))
noncomputable def chkSs (FT : Nat → Option Fn) (ids : List Nat) (vis : List (Nat × Str)) (sc : Scope) : Sts → List Stmt → Bool
  | .nil, l => l.isEmpty
  | .cons s ss, l => match l with | x :: r => chkS FT ids vis sc s x && chkSs FT ids vis sc ss r | [] => false
end

noncomputable def FlowRel (W : Cx) (h : Heap) : Flow → PySem.Flow → Prop
  | .next, f => f = .next
  | .brk, f => f = .brk
  | .cont, f => f = .cont
  | .ret v, f => ∃ y, f = .ret y ∧ VRel W h v y

noncomputable def PS (W : Cx) (env : Env) (vis : List (Nat × Str)) (mem : Mem) (s : Shared) (R : Flow → Loc → Mem → Prop) (f : PySem.Flow) (s' : Shared) : Prop :=
  ∃ fl loc' mem', FlowRel W s'.heap fl f ∧ Rel W env vis loc' mem' s' ∧ Step (FrD env) mem s.heap mem' s'.heap ∧ R fl loc' mem'

section
variable {W : Cx} {A : Around} {E : Value → Shared → Prop} {env : Env} {vis : List (Nat × Str)} {loc : Loc} {mem : Mem} {s : Shared} {R : Flow → Loc → Mem → Prop}
theorem Step.toFr {m1 m2 : Mem} {h1 h2 : Heap} (x : Step NoD m1 h1 m2 h2) : Step (FrD env) m1 h1 m2 h2 := x.mono fun _ q => q.elim
theorem PS.trans {mem' : Mem} {s' s'' : Shared} {f : PySem.Flow} (x : Step (FrD env) mem s.heap mem' s'.heap) (p : PS W env vis mem' s' R f s'') : PS W env vis mem s R f s'' := by
  obtain ⟨fl, l, m2, a, b, c, d⟩ := p; exact ⟨fl, l, m2, a, b, x.trans c, d⟩
theorem psTrans {mem' : Mem} {s' s2 : Shared} {t : Sem PySem.Flow} (x : Step (FrD env) mem s.heap mem' s'.heap) (h : wpAny (model W.prog W.w) A t (PS W env vis mem' s' R) E s2) : wpAny (model W.prog W.w) A t (PS W env vis mem s R) E s2 :=
  wpAny_mono h (fun _ _ p => PS.trans x p) fun _ _ x => x
end

theorem chkStore_spec {vis : List (Nat × Str)} {sc : Scope} {i : Nat} {x : Str} {env : Env} (hsc : ScOk sc env) (h : chkStore vis sc i x = true) : (i, x) ∈ vis ∧ (env.kindOf x = some .local ∨ env.kindOf x = some .cell) := by
  unfold chkStore storable at h
  simp only [Bool.and_eq_true, Bool.or_eq_true, beq_iff_eq] at h
  refine ⟨?_, h.2.imp (fun q => (hsc _ _ q).2 (by simp)) fun q => (hsc _ _ q).2 (by simp)⟩
  have h1 := h.1
  clear h
  induction vis with
  | nil => simp at h1
  | cons p r ih =>
    obtain ⟨j, y⟩ := p
    rw [List.lookup_cons] at h1
    split at h1
    · rename_i q; cases h1; rw [beq_iff_eq] at q; subst q; exact .head _
    · exact .tail _ (ih h1)
theorem interactive_no {env : Env} (h : env.scope.kind = .function) : interactive env = false := by
  unfold interactive; rw [h]; rfl
theorem swaps_no {e : Expr} {t : Option Expr} {n : Nat} {env : Env} (h : notComp e = true) : swapsWith e t n env = pure false := by
  cases e <;> first | rfl | exact nb h

inductive FI (W : Cx) (env : Env) (vis : List (Nat × Str)) (t : Tg) (mem : Mem) (h₀ : Heap) (k : ItK) (v : Val) (xs : List Val) (I : Addr) (f : (Flow → Loc → Mem → Prop) → Loc → Mem → Prop) (R : Flow → Loc → Mem → Prop) (n : Nat) (s' : Shared) : Prop
  | mk (i : Nat) (loc' : Loc) (mem' : Mem) (h1 : n = xs.length + 1 - i) (h2 : i ≤ xs.length) (h3 : Rel W env vis loc' mem' s') (h4 : Step (FrD env) mem h₀ mem' s'.heap) (h5 : IterAt W k v xs I i s'.heap) (h6 : stands k v mem mem') (h7 : mem' I = none)
      (h8 : forLoop (bodyF t f) (stands k v mem) (xs.drop i) R loc' mem')
theorem for_sound {W : Cx} {A : Around} {E : Value → Shared → Prop} {env : Env} {vis : List (Nat × Str)} {loc : Loc} {mem : Mem} {s s₂ : Shared} {R : Flow → Loc → Mem → Prop} {k : ItK} {v : Val} {xs : List Val} {I : Addr} {target : Expr} {new : List (Nat × Str)} {t : Tg} {body : List Stmt}
    {f : (Flow → Loc → Mem → Prop) → Loc → Mem → Prop} {RR : Result → Shared → Prop} (hh : A.handled = none) (hv : VisOk vis)
    (R1 : Rel W env vis loc mem s) (R2 : Rel W env vis loc mem s₂) (S2 : Step NoD mem s.heap mem s₂.heap) (hI : s.heap.get? I = none) (hit : IterAt W k v xs I 0 s₂.heap) (hcur : Cur k v xs mem)
    (hT : chkT t target = some new) (hm : ∀ p ∈ new, p ∈ vis) (hk : ∀ p ∈ new, env.kindOf p.2 = some .local ∨ env.kindOf p.2 = some .cell)
    (hbody : ∀ l P mem' s' E', Rel W env vis l mem' s' → f P l mem' → wpAny (model W.prog W.w) A (execs body env) (PS W env vis mem' s' P) E' s')
    (hloop : forLoop (bodyF t f) (stands k v mem) xs R loc mem)
    (hRR : ∀ fl s', PS W env vis mem s R fl s' → RR (.ok fl) s') :
    codeAny (model W.prog W.w) A (.forLoop target (.ref I) body [] env) RR s₂ := by
  have hbase : W.base.get? I = none := by
    cases q : W.base.get? I with
    | none => rfl
    | some o => rw [R1.m.stays I o q] at hI; cases hI
  refine codeAny_forLoop_any (FI W env vis t mem s.heap k v xs I f R) ?_ (xs.length + 1)
    (.mk 0 loc mem rfl (Nat.zero_le _) R2 S2.toFr hit (by cases k <;> first | trivial | rfl) (R1.m.mems.fresh hI) hloop)
  rintro n s' ⟨i, loc', mem', rfl, hi', R', S', hit', hstd, hmI, hlp⟩
  have hInf : ¬ FrD env I := fun hb => by
    obtain ⟨o, e, hd⟩ := R'.e.there hb
    obtain ⟨o', fs, e', hd'⟩ := hit'.there
    rw [e] at e'; cases e'
    rw [hd'] at hd
    rcases hd with ⟨_, _, q⟩ | ⟨_, q⟩ <;> cases q
  have hIfx : ∀ o, s'.heap.get? I = some o → ¬ Fixed o := fun o e hf => by
    obtain ⟨o', fs, e', hd'⟩ := hit'.there
    rw [e] at e'; cases e'
    obtain ⟨_, _, _, q⟩ := hf; rw [hd'] at q; cases q
  by_cases hlt : i < xs.length
  · refine iter_next R'.m (hcur.stands hstd) hit' hmI hlt fun x y h' tk hx hxr hit1 hs1 => ?_
    have kb1 : KeepBut I s'.heap h' := fun b o hb e => (hs1.2 b hb).trans e
    obtain ⟨R1', kf1⟩ := R'.off (s' := { s' with heap := h', toks := tk }) I hmI hbase hInf hIfx kb1
    have S1 : Step (FrD env) mem s.heap mem' h' := S'.off (· = I) (fun b hb => hb ▸ hI) fun b o hb e => kb1 b o hb e
    refine owned_sound hit1 ?_
    have hdrop : xs.drop i = x :: xs.drop (i + 1) := by
      rw [List.drop_eq_getElem_cons hlt]
      congr 1
      rw [List.getElem?_eq_getElem hlt] at hx
      exact Option.some.inj hx
    rw [hdrop] at hlp
    obtain ⟨l, hl, hlp'⟩ := hlp
    · refine assignT R1' hh hv hT hm hk hxr hl fun s2 R2' S2' _ => ?_
      refine wpAny_mono (hbody l _ mem' s2 _ R2' hlp') (fun fl s3 h3 => ?_) fun _ _ e => e
      obtain ⟨fl', l3, mem3, hfl, R3, S3, q⟩ := h3
      have keepI : ∀ (ma mb : Mem) (ha hb : Heap), Step (FrD env) ma ha mb hb → ma I = none → (∃ o fs, ha.get? I = some o ∧ o.data = .fields fs) → ∀ o, ha.get? I = some o → hb.get? I = some o := fun ma mb ha hb S hm ⟨o', fs, e', hd'⟩ o e => by
        obtain ⟨o2, e2, a2⟩ := S.keep I o e hm hInf
        rw [e] at e'; cases e'
        rw [e2, a2.eq fun es ep q => by rw [hd'] at q; cases q]
      have kf2 := S2'.keepF R1'.m.mems R1'.e.dok
      have hit2 := hit1.keep kf2 (keepI _ _ _ _ S2' hmI hit1.there)
      have kf3 := S3.keepF R2'.m.mems R2'.e.dok
      have hit3 := hit2.keep kf3 (keepI _ _ _ _ S3 hmI hit2.there)
      obtain ⟨oI, fI, eI, dI⟩ := hit2.there
      have hmI3 := S3.none' eI hmI
      have Sall := S1.trans (S2'.trans S3)
      have go : (stands k v mem mem3 ∧ forLoop (bodyF t f) (stands k v mem) (xs.drop (i + 1)) R l3 mem3) → ∃ m, m < xs.length + 1 - i ∧ FI W env vis t mem s.heap k v xs I f R m s3 := fun q =>
        ⟨xs.length + 1 - (i + 1), turn_lt hlt, .mk (i + 1) l3 mem3 rfl hlt R3 Sall hit3 q.1 hmI3 q.2⟩
      cases fl' with
      | next => obtain rfl : fl = .next := hfl; exact go q
      | cont => obtain rfl : fl = .cont := hfl; exact go q
      | brk => obtain rfl : fl = .brk := hfl; exact hRR _ _ ⟨.next, l3, mem3, rfl, R3, Sall, q⟩
      | ret u =>
        obtain ⟨y', rfl, hy'⟩ : ∃ y, fl = .ret y ∧ VRel W s3.heap u y := hfl
        exact hRR _ _ ⟨.ret u, l3, mem3, ⟨y', rfl, hy'⟩, R3, Sall, q⟩
  · have hie : i = xs.length := by omega
    subst hie
    refine iter_end R'.m hh (hcur.stands hstd) hit' fun h' he => ?_
    have kb1 : KeepBut I s'.heap h' := fun b o hb e => he b o hb e
    obtain ⟨R1', kf1⟩ := R'.off (s' := { s' with heap := h' }) I hmI hbase hInf hIfx kb1
    have S1 : Step (FrD env) mem s.heap mem' h' := S'.off (· = I) (fun b hb => hb ▸ hI) fun b o hb e => kb1 b o hb e
    have hq : R .next loc' mem' := by rw [List.drop_length] at hlp; exact hlp
    exact wpAny_execs_nil (hRR _ _ ⟨.next, loc', mem', rfl, R1', S1, hq⟩)

end TD

namespace TD
open PySem PyProof.Rows

section inv
variable {FT : Nat → Option Fn} {ids : List Nat} {vis : List (Nat × Str)} {sc : Scope} {st : Stmt}
theorem inv_expr {e : Ex} (h : chkS FT ids vis sc (.expr e) st = true) : ∃ v p, st = .Expr v p ∧ notComp v = true ∧ chkE FT ids vis sc e v = true := by
  obtain ⟨v, p, rfl, h⟩ := vExpr_inv h
  exact ⟨v, p, rfl, and2 h⟩
theorem inv_ret {e : Ex} (h : chkS FT ids vis sc (.ret e) st = true) : ∃ v p, st = .Return (some v) p ∧ chkE FT ids vis sc e v = true := vRet_inv h
theorem inv_asg {i : Nat} {e : Ex} (h : chkS FT ids vis sc (.asg i e) st = true) : ∃ x px v p, st = .Assign [.Name x px] v p ∧ chkStore vis sc i x = true ∧ chkE FT ids vis sc e v = true := by
  obtain ⟨t, v, p, rfl, h⟩ := vAsg_inv h
  obtain ⟨x, px, rfl, h⟩ := vName_inv h
  exact ⟨x, px, v, p, rfl, and2 h⟩
theorem inv_asgSub {o i e : Ex} (h : chkS FT ids vis sc (.asgSub o i e) st = true) : ∃ e1 e2 ps v p, st = .Assign [.Subscript e1 e2 ps] v p ∧ notComp v = true ∧ chkE FT ids vis sc e v = true ∧ chkE FT ids vis sc o e1 = true ∧ chkE FT ids vis sc i e2 = true := by
  obtain ⟨t, v, p, rfl, h⟩ := vAsg_inv h
  obtain ⟨e1, e2, ps, rfl, h⟩ := vSub_inv h
  obtain ⟨h1, h⟩ := and2 h
  obtain ⟨h2, h⟩ := and2 h
  exact ⟨e1, e2, ps, v, p, rfl, h1, h2, and2 h⟩
theorem inv_asgAttr {o e : Ex} {f : Nat} (h : chkS FT ids vis sc (.asgAttr o f e) st = true) : ∃ e1 pa v p, st = .Assign [.Attribute e1 (Str.ofString (fldName f)) pa] v p ∧ f < 2 ∧ chkE FT ids vis sc e v = true ∧ chkE FT ids vis sc o e1 = true := by
  obtain ⟨t, v, p, rfl, h⟩ := vAsg_inv h
  obtain ⟨e1, n, pa, rfl, h⟩ := vAttr_inv h
  obtain ⟨h1, g1⟩ := and2 h
  obtain ⟨h2, g2⟩ := and2 g1
  obtain rfl := beq_iff_eq.mp h2
  exact ⟨e1, pa, v, p, rfl, of_decide_eq_true h1, and2 g2⟩
theorem inv_ifs {c : Ex} {t e : Sts} (h : chkS FT ids vis sc (.ifs c t e) st = true) : ∃ a b o p, st = .If a b o p ∧ chkE FT ids vis sc c a = true ∧ chkSs FT ids vis sc t b = true ∧ chkSs FT ids vis sc e o = true := by
  obtain ⟨a, b, o, p, rfl, h⟩ := vIf_inv h
  obtain ⟨h1, h⟩ := and2 h
  exact ⟨a, b, o, p, rfl, h1, and2 h⟩
theorem inv_fors {t : Tg} {k : ItK} {src : Ex} {b : Sts} (h : chkS FT ids vis sc (.fors t k src b) st = true) : ∃ target iter body p new e1, st = .For target iter body [] p ∧ chkT t target = some new ∧ (∀ q ∈ new, chkStore vis sc q.1 q.2 = true) ∧ notSet iter = true ∧
    IterIs sc k.call iter e1 ∧ chkE FT ids vis sc src e1 = true ∧ chkSs FT ids vis sc b body = true := by
  obtain ⟨target, iter, body, p, rfl, h⟩ := vFor_inv h
  obtain ⟨new, hT, h⟩ := vSome_inv h
  obtain ⟨h1, h⟩ := and2 h
  obtain ⟨h2, h⟩ := and2 h
  obtain ⟨h3, h4⟩ := and2 h
  obtain ⟨e1, hk, h5⟩ := vIter_inv h3
  exact ⟨target, iter, body, p, new, e1, rfl, hT, List.all_eq_true.mp h1, h2, hk, h5, h4⟩
theorem inv_whiles {c : Ex} {b : Sts} (h : chkS FT ids vis sc (.whiles c b) st = true) : ∃ a body p, st = .While a body [] p ∧ chkE FT ids vis sc c a = true ∧ chkSs FT ids vis sc b body = true := by
  obtain ⟨a, b, p, rfl, h⟩ := vWhile_inv h
  exact ⟨a, b, p, rfl, and2 h⟩
theorem inv_raise {c : Cls} {g : String} (h : chkS FT ids vis sc (.raise c g) st = true) : ∃ x px k1 p1 cp p, st = .Raise (some (.Call (.Name x px) [.Constant (.str (Str.ofString g)) k1 p1] [] cp)) none p ∧ (7 ≤ c.code ∧ c.code ≤ 14) ∧ gName sc (clsName c.code) x = true := by
  obtain ⟨e, c', p, rfl, h3⟩ := vRaise0_inv h
  clear h
  obtain ⟨h0, h4⟩ := and2 h3
  obtain ⟨e, rfl, h5⟩ := vSome_inv h4
  obtain ⟨x, px, es, cp, rfl, h6⟩ := vCallN_inv h5
  obtain ⟨h1, h7⟩ := and2 h6
  obtain ⟨h1, h2⟩ := and2 h1
  obtain ⟨e1, rfl, h8⟩ := vOne_inv h7
  obtain ⟨t, k1, p1, rfl, h9⟩ := vConst_inv h8
  cases Option.isNone_iff_eq_none.mp h0
  obtain rfl := eq_of_beq h9
  exact ⟨x, px, k1, p1, cp, p, rfl, of_decide_eq_true h1, h2⟩
theorem inv_pass (h : chkS FT ids vis sc .pass st = true) : ∃ p, st = .Pass p := vPass_inv h
theorem inv_scons {s : St} {ss : Sts} {l : List Stmt} (h : chkSs FT ids vis sc (.cons s ss) l = true) : ∃ x r, l = x :: r ∧ chkS FT ids vis sc s x = true ∧ chkSs FT ids vis sc ss r = true := by
  cases l with
  | nil => exact nb h
  | cons x r => exact ⟨x, r, rfl, and2 h⟩
theorem inv_snil {l : List Stmt} (h : chkSs FT ids vis sc .nil l = true) : l = [] := List.isEmpty_iff.mp h
end inv

theorem CompLeft.rel {W : Cx} {env : Env} {vis : List (Nat × Str)} {loc : Loc} {mem : Mem} {s : Shared} {Q : Val → Mem → Prop} {D C' : Addr} {s' : Shared} (R : Rel W env vis loc mem s) (h : CompLeft W env mem s (fun ys m' => freshL m' ys Q) D C' s') :
    ∃ mem2, Rel W env vis loc mem2 s' ∧ Step NoD mem s.heap mem2 s'.heap ∧ Q (.ref D) mem2 ∧ mem2 C' = none ∧ s.heap.get? C' = none ∧ ∃ m, s'.heap.Ns C' m := by
  obtain ⟨mem', ys, vs, m, hD, hC, hne, hnsC, ⟨nD, eD⟩, hr, hM, hS, hmC, hmD, hf⟩ := h
  have hbase : ∀ b, s.heap.get? b = none → W.base.get? b = none := fun b e => by
    cases q : W.base.get? b with
    | none => rfl
    | some o => rw [R.m.stays b o q] at e; cases e
  have M2 : MRel W (mem'.set D (.list ys)) s' := by
    refine ⟨hM.stays, fun b o e => ?_, hM.gens, hM.os⟩
    unfold Mem.set at e
    split at e
    · rename_i q; subst q; cases e
      exact ⟨⟨vs, ⟨nD, eD⟩, hr⟩, hbase _ hD⟩
    · exact hM.mems b o e
  have S2 : Step NoD mem s.heap (mem'.set D (.list ys)) s'.heap := ⟨hS.alive, hS.keep, fun b hb hb' => by
    unfold Mem.set at hb'
    split at hb'
    · rename_i q; subst q; exact hD
    · exact hS.grow b hb hb'⟩
  refine ⟨_, R.step M2 S2, S2, hf.2 D hmD, ?_, hC, m, hnsC⟩
  unfold Mem.set
  rw [if_neg hne]; exact hmC

theorem chk_notComp {FT : Nat → Option Fn} {ids : List Nat} {vis : List (Nat × Str)} {sc : Scope} {e : Ex} {ex : Expr} (h : chkE FT ids vis sc e ex = true) (he : (ixOf e == 8) = false) : notComp ex = true := by
  unfold notComp
  rw [chk_ix h, he, beq_false_of_ne fun q => ix_ne (n := 9) q (by decide) rfl, beq_false_of_ne fun q => ix_ne (n := 10) q (by decide) rfl]
  rfl

theorem comp_of {e : Ex} (h : ixOf e = 8) : ∃ elt t k src cond, e = .comp elt t k src cond := by
  cases e with
  | comp elt t k src cond => exact ⟨elt, t, k, src, cond, rfl⟩
  | _ => exact absurd h (fun q => nb (show false = true from congrArg (fun n => n == 8) q))

noncomputable def YFr (W : Cx) (A : Around) (env : Env) (vis : List (Nat × Str)) (mem : Mem) (s : Shared) (Y : Nat → Loc → Mem → Prop) (E : Value → Shared → Prop) : Prop :=
  (∃ outer, A.frames = some (env :: outer) ∧ FrOk W.base (env :: outer) mem s.heap ∧ ∀ b ∈ frs outer, ¬ FrD env b) ∧ ClsOk W ∧
    ∀ k l m' a s', Exc s.heap (clsV W k) a s'.heap → Rel W env vis l m' s' → m' a = none → Step (FrD env) mem s.heap m' s'.heap → Y k l m' → E (.ref a) s'
noncomputable def YOk (W : Cx) (A : Around) (env : Env) (vis : List (Nat × Str)) (mem : Mem) (s : Shared) (Y : Nat → Loc → Mem → Prop) (E : Value → Shared → Prop) : Prop := (∀ k l m, ¬ Y k l m) ∨ YFr W A env vis mem s Y E
theorem FrOk.step {W : Cx} {D : Addr → Prop} {fs : List Env} {mem m1 : Mem} {h h1 : Heap} (F : FrOk W.base fs mem h) (S : Step D mem h m1 h1) (hd : ∀ b ∈ frs fs, ¬ D b) : FrOk W.base fs m1 h1 := fun env he => by
  obtain ⟨a1, a2, a3, a4, m, o, es, ep, e, r⟩ := F env he
  obtain ⟨o', e', a⟩ := S.keep _ o e a4 (hd _ (List.mem_filterMap.mpr ⟨env, he, a2⟩))
  obtain ⟨es', ep', r'⟩ := a.ns ⟨es, ep, r⟩
  exact ⟨a1, a2, a3, S.none' e a4, m, o', es', ep', e', r'⟩
theorem FrOk.cons {W : Cx} {env : Env} {vis : List (Nat × Str)} {loc : Loc} {fs : List Env} {mem : Mem} {s : Shared} (R : Rel W env vis loc mem s) (hf : env.frame = some env.locals) (F : FrOk W.base fs mem s.heap) : FrOk W.base (env :: fs) mem s.heap := fun e he => by
  rcases List.mem_cons.mp he with rfl | he
  · exact ⟨R.e.kind, hf, R.new _ (.inl rfl), R.sep _ (.inl rfl), R.hasNs⟩
  · exact F e he
theorem FrOk.tail {W : Cx} {env : Env} {fs : List Env} {mem : Mem} {h : Heap} (F : FrOk W.base (env :: fs) mem h) : FrOk W.base fs mem h := fun e he => F e (.tail _ he)
theorem YFr.step {W : Cx} {A : Around} {env : Env} {vis : List (Nat × Str)} {loc : Loc} {mem m1 : Mem} {s s1 : Shared} {Y : Nat → Loc → Mem → Prop} {E : Value → Shared → Prop} (h : YFr W A env vis mem s Y E) (R : Rel W env vis loc m1 s1) (S : Step (FrD env) mem s.heap m1 s1.heap) : YFr W A env vis m1 s1 Y E := by
  obtain ⟨⟨outer, hf, F, ap⟩, hC, hE⟩ := h
  refine ⟨⟨outer, hf, FrOk.cons R (F env (.head _)).2.1 (F.tail.step S ap), ap⟩, hC, fun k l m' a s' X R' hm S' hy => ?_⟩
  exact hE k l m' a s' (X.back S.alive) R' hm (S.trans S') hy
theorem YOk.step {W : Cx} {A : Around} {env : Env} {vis : List (Nat × Str)} {loc : Loc} {mem m1 : Mem} {s s1 : Shared} {Y : Nat → Loc → Mem → Prop} {E : Value → Shared → Prop} (h : YOk W A env vis mem s Y E) (R : Rel W env vis loc m1 s1) (S : Step (FrD env) mem s.heap m1 s1.heap) : YOk W A env vis m1 s1 Y E := h.imp id fun h => h.step R S
theorem YFr.call {W : Cx} {A : Around} {env : Env} {vis : List (Nat × Str)} {loc : Loc} {mem m1 : Mem} {s s1 : Shared} {Y : Nat → Loc → Mem → Prop} {E : Value → Shared → Prop} (h : YFr W A env vis mem s Y E) (R : Rel W env vis loc mem s) (M1 : MRel W m1 s1) (S1 : Step NoD mem s.heap m1 s1.heap) : XFr W A m1 s1 (fun c m' => Y c loc m') E := by
  obtain ⟨⟨outer, hf, F, ap⟩, hC, hE⟩ := h.step (R.step M1 S1) S1.toFr
  exact ⟨⟨_, hf, F⟩, hC, fun k m' a s' X M' hm S' hy => hE k loc m' a s' X ((R.step M1 S1).step M' S') hm S'.toFr hy⟩
theorem YOk.call {W : Cx} {A : Around} {env : Env} {vis : List (Nat × Str)} {loc : Loc} {mem m1 : Mem} {s s1 : Shared} {Y : Nat → Loc → Mem → Prop} {E : Value → Shared → Prop} (h : YOk W A env vis mem s Y E) (R : Rel W env vis loc mem s) (M1 : MRel W m1 s1) (S1 : Step NoD mem s.heap m1 s1.heap) : XOk W A m1 s1 (fun c m' => Y c loc m') E :=
  h.imp (fun h k m => h k loc m) fun h => h.call R M1 S1
theorem callX {W : Cx} {FT : Nat → Option Fn} {ids : List Nat} {G : String → Option Val} {n : Nat} {A : Around} {C : CallT} (SC : SCx W FT ids G n A C) {f : Nat} {args : Exs} {ex : Expr} {env : Env} {vis : List (Nat × Str)} {sc : Scope} {loc : Loc} {Q : Val → Mem → Prop} {X : Nat → Mem → Prop} {mem : Mem} {s : Shared} {E : Value → Shared → Prop}
    (hc : chkE FT ids vis sc (.call f args) ex = true) (hsc : ScOk sc env) (hv : VisOk vis) (R : Rel W env vis loc mem s) (h : wpL C G noX args loc (fun vs m1 => C f vs Q X m1) mem) (hX : ∀ m1 s1, MRel W m1 s1 → Step NoD mem s.heap m1 s1.heap → XOk W A m1 s1 X E) :
    wpAny (model W.prog W.w) A (eval ex env) (PM W mem s Q) E s := by
  obtain ⟨x, px, es, p, fn, rfl, h1, h2, h0, h3, h4, h5⟩ := inv_call hc
  obtain ⟨a, o, fd, hm, ho, hd, hcall⟩ := SC.call f h1 fn h2
  refine eval_call (global_sound R SC.ok hsc h3 (hm.1 h0) ?_)
  refine Calls.callWith_function (o := o) (fd := fd) ?_
  cases es with
  | nil => exact absurd rfl h4
  | cons e0 er =>
    rw [back_cons (chkL_star h5 e0 (.head _))]
    refine Calls.evalArgs_plain ?_
    rw [← back_cons (chkL_star h5 e0 (.head _))]
    refine wpAny_mono (soundL SC args h5 hsc hv (fun _ _ z => z) R h) (fun vs s1 q => ?_) fun _ _ x => x
    obtain ⟨us, m1, hr, M1, S1, q1⟩ := q
    exact ⟨⟨M1.stays _ _ ho, hd⟩, pmTrans S1 (hcall A (.inl rfl) us vs Q X m1 s1 E (hX m1 s1 M1 S1) q1 M1 hr)⟩

mutual
theorem soundS {W : Cx} {FT : Nat → Option Fn} {ids : List Nat} {G : String → Option Val} {n : Nat} {A : Around} {C : CallT} (SC : SCx W FT ids G n A C) : ∀ (st : St) {sx : Stmt} {env : Env} {vis : List (Nat × Str)} {sc : Scope} {loc : Loc} {P : Flow → Loc → Mem → Prop} {Y : Nat → Loc → Mem → Prop} {mem : Mem} {s : Shared} {E : Value → Shared → Prop},
    chkS FT ids vis sc st sx = true → ScOk sc env → VisOk vis → YOk W A env vis mem s Y E → Rel W env vis loc mem s → wpS C G st P Y loc mem → wpAny (model W.prog W.w) A (exec sx env) (PS W env vis mem s P) E s
  | .expr e, sx, env, vis, sc, loc, P, Y, mem, s, E, hc, hsc, hv, hY, R, h => by
    obtain ⟨v, p, rfl, h1, h2⟩ := inv_expr hc
    refine wpAny_Expr (then1 R ((soundE SC e).1 h2 hsc hv (fun _ _ z => z) R h) fun u y m1 s1 hy R1 S1 q1 => ?_) (interactive_no R.e.kind) (swaps_no h1)
    obtain ⟨q1, q2⟩ := q1
    have : ∀ a, y ≠ .ref a := fun a e => by
      subst e
      cases u <;> first | exact q1.elim | skip
      · have := hy.none'; cases this
      · have := hy.bool; cases this
      · obtain ⟨_, q⟩ := hy.int; cases q
    split
    · exact absurd rfl (this _)
    · exact ⟨.next, loc, m1, rfl, R1, S1.toFr, q2⟩
  | .ret e, sx, env, vis, sc, loc, P, Y, mem, s, E, hc, hsc, hv, hY, R, h => by
    obtain ⟨v, p, rfl, h2⟩ := inv_ret hc
    exact wpAny_Return_some (then1 R ((soundE SC e).1 h2 hsc hv (fun _ _ z => z) R h) fun u y m1 s1 hy R1 S1 q1 => ⟨.ret u, loc, m1, ⟨y, rfl, hy⟩, R1, S1.toFr, q1⟩)
  | .asg i e, sx, env, vis, sc, loc, P, Y, mem, s, E, hc, hsc, hv, hY, R, h => by
    obtain ⟨x, px, v, p, rfl, h1, h2⟩ := inv_asg hc
    obtain ⟨hm, hk⟩ := chkStore_spec hsc h1
    have plain : ∀ (hs : swapsWith v (some (.Name x px)) p.line env = pure false), wpAny (model W.prog W.w) A (exec (.Assign [.Name x px] v p) env) (PS W env vis mem s P) E s := fun hs => by
      refine wpAny_Assign_Name (then1 R ((soundE SC e).1 h2 hsc hv (fun _ _ z => z) R h) fun u y m1 s1 hy R1 S1 q1 => ?_) hs
      exact store_sound R1 hv hm hk hy fun s2 R2 S2 _ => ⟨.next, _, m1, rfl, R2, S1.toFr.trans S2, q1⟩
    cases hb8 : (ixOf e == 8) with
    | false => exact plain (swaps_no (chk_notComp h2 hb8))
    | true =>
      obtain ⟨elt, t, k, src, cond, rfl⟩ := comp_of (beq_iff_eq.mp hb8)
      obtain ⟨elt', target, iter, ifs, csc, pc, new, e1, rfl, hT, c1, c2, c3, c4, c5, c6⟩ := inv_comp h2
      have hsw : swapsWith (.ListComp elt' [⟨target, iter, ifs, 0⟩] csc pc) (some (.Name x px)) p.line env = pure (env.blockKind == .function && env.kindOf x == some .local && px.line == pc.line && !(csc.names.any fun (n, k) => n == x && (k == .local || k == .cell))) := rfl
      cases hb : (env.blockKind == .function && env.kindOf x == some .local && px.line == pc.line && !(csc.names.any fun (n, k) => n == x && (k == .local || k == .cell))) with
      | false => rw [hb] at hsw; exact plain hsw
      | true =>
        rw [hb] at hsw
        have hloc : env.kindOf x = some .local := by
          simp only [Bool.and_eq_true, beq_iff_eq] at hb
          exact hb.1.1.2
        rw [exec_Assign_Name_used _ _ _ _ hsw]
        refine wpAny_bind (wpAny_standAt (wpAny_bind ?_))
        show wpAny _ A (do let _ ← comprehension (.ListComp elt' [⟨target, iter, ifs, 0⟩] csc pc) csc env (firstIterPos [⟨target, iter, ifs, 0⟩] pc) (newList []) false (eval iter env) (some (assign (.Name x px) env))) _ _ s
        have hi := (chkScope_spec c1).2.2.2.2.2.2
        have hv' := newVis_ok hT hv hi
        have hX : ∀ k m, ¬ noX k m := fun _ _ z => z
        refine wpAny_bind (wpAny_mono (comp_run (PP := fun _ s' => PS W env vis mem s P .next s') (use := some (assign (.Name x px) env)) SC.room.handled SC.ok R hsc c1 c2 hT hv hi (chk_ns c4) c3 ((soundE SC src).1 c4 hsc hv hX R h) (fun C' l P mem' s' E' R' hb => soundIfs SC cond c6 cEnv_sc hv' hX R' hb) (fun C' l P mem' s' E' R' he => (soundE SC elt).1 c5 cEnv_sc hv' hX R' he) fun D C' s' hl => ?_) (fun _ s' q => wpAny_pure (wpAny_pure q)) fun _ _ x => x)
        obtain ⟨mem2, R2, S2, hq, hmC, hsC, m, hnC⟩ := hl.rel R
        refine wpAny_assign_Name (store_sound R2 hv hm (.inl hloc) .mkRef fun s3 R3 S3 ⟨a, _, ha, hs⟩ => ?_)
        obtain rfl := ha hloc
        have hCL : C' ≠ env.locals := by rintro rfl; obtain ⟨o, e⟩ := R.hasNs; obtain ⟨o, _, _, e, _⟩ := e; rw [hsC] at e; cases e
        have hn3 : s3.heap.Ns C' m := by
          obtain ⟨o, es, ep, e, r⟩ := hnC
          exact ⟨o, es, ep, (hs.2 C' hCL).trans e, r⟩
        refine ⟨m, hn3, fun h' hs' => ?_⟩
        have hbC : W.base.get? C' = none := by
          cases q : W.base.get? C' with
          | none => rfl
          | some o => rw [R.m.stays C' o q] at hsC; cases hsC
        have hfrC : ¬ FrD env C' := fun hb => by obtain ⟨o, e, _⟩ := R.e.there hb; rw [hsC] at e; cases e
        have kb : KeepBut C' s3.heap h' := fun b o hb e => (hs'.2 b hb).trans e
        obtain ⟨R4, _⟩ := R3.off (s' := { s3 with heap := h' }) C' hmC hbC hfrC (fun o e hf => by
          obtain ⟨o', es, ep, e', hd, _⟩ := hn3
          rw [e] at e'; cases e'
          obtain ⟨_, _, _, q⟩ := hf; rw [hd] at q; cases q) kb
        exact ⟨.next, _, mem2, rfl, R4, (S2.toFr.trans S3).off (· = C') (fun b hb => hb ▸ hsC) (fun b o hb e => kb b o hb e), hq⟩
  | .asgSub o i e, sx, env, vis, sc, loc, P, Y, mem, s, E, hc, hsc, hv, hY, R, h => by
    obtain ⟨e1, e2, ps, v, p, rfl, h0, h1, h2, h3⟩ := inv_asgSub hc
    have hX : ∀ k m, ¬ noX k m := fun _ _ z => z
    refine wpAny_Assign_Subscript (then1 R ((soundE SC e).1 h1 hsc hv hX R h) fun u y m1 s1 hy R1 S1 q1 => ?_) (swaps_no h0)
    refine then1 R1 ((soundE SC o).1 h2 hsc hv hX R1 q1) fun x xv m2 s2 hx R2 S2 q2 => ?_
    refine then1 R2 ((soundE SC i).1 h3 hsc hv hX R2 q2) fun z zv m3 s3 hz R3 S3 q3 => ?_
    obtain ⟨a, k, xs, jj, rfl, rfl, em, hl, hp, hq⟩ := q3
    obtain rfl := hx.ref
    obtain ⟨t, rfl⟩ := hz.int
    refine wpAny_mono (setitem_sound R3 em hl hp (vrel_keep R2 S3 (vrel_keep R1 S2 hy)) hq) (fun _ s4 q => ?_) fun _ _ x => x
    obtain ⟨_, m4, _, M4, S4, q4⟩ := q
    exact ⟨.next, loc, m4, rfl, R3.step M4 S4, (S1.trans (S2.trans (S3.trans S4))).toFr, q4⟩
  | .asgAttr o f e, sx, env, vis, sc, loc, P, Y, mem, s, E, hc, hsc, hv, hY, R, h => by
    obtain ⟨e1, pa, v, p, rfl, hf, h1, h2⟩ := inv_asgAttr hc
    have hX : ∀ k m, ¬ noX k m := fun _ _ z => z
    refine plainObj_wpAny_Assign_Attribute (then1 R ((soundE SC e).1 h1 hsc hv hX R h) fun u y m1 s1 hy R1 S1 q1 => ?_) swaps_attr
    refine then1 R1 ((soundE SC o).1 h2 hsc hv hX R1 q1) fun x xv m2 s2 hx R2 S2 q2 => ?_
    refine wpAny_mono (setattr_sound R2 SC.est hx (vrel_keep R1 S2 hy) q2) (fun _ s3 q => ?_) fun _ _ x => x
    obtain ⟨m3, M3, S3, q3⟩ := q
    exact ⟨.next, loc, m3, rfl, R2.step M3 S3, (S1.trans (S2.trans S3)).toFr, q3⟩
  | .ifs c t e, sx, env, vis, sc, loc, P, Y, mem, s, E, hc, hsc, hv, hY, R, h => by
    obtain ⟨a, b, o, p, rfl, h1, h2, h3⟩ := inv_ifs hc
    refine wpAny_If (wpAny_mono ((soundE SC c).2 h1 hsc hv (fun _ _ z => z) R h) (fun b s1 q => ?_) fun _ _ x => x)
    obtain ⟨m1, M1, S1, q1⟩ := q
    have R1 := R.step M1 S1
    cases b with
    | true => exact psTrans S1.toFr (soundSs SC t h2 hsc hv (hY.step R1 S1.toFr) R1 (q1.1 rfl))
    | false => exact psTrans S1.toFr (soundSs SC e h3 hsc hv (hY.step R1 S1.toFr) R1 (q1.2 rfl))
  | .fors t k src b, sx, env, vis, sc, loc, P, Y, mem, s, E, hc, hsc, hv, hY, R, h => by
    obtain ⟨target, iter, body, p, new, e1, rfl, hT, hst, hns, hk, h1, h2⟩ := inv_fors hc
    refine wpAny_For ?_ (fun x => folded_notSet hns x)
    refine src_sound SC.ok hsc R (chk_ns h1) hk ((soundE SC src).1 h1 hsc hv (fun _ _ z => z) R h) fun I v xs mem1 s1 s' R1 S1 hI hit R' S' hcur hlen hq => ?_
    refine for_sound (E := E) (f := fun Q' l m' => wpSs C G b Q' noY l m') SC.room.handled hv R1 R' S' hI hit hcur hT (fun q hq => (chkStore_spec hsc (hst q hq)).1) (fun q hq => (chkStore_spec hsc (hst q hq)).2) (fun l P' mem' s'' E' R'' hb => soundSs SC b h2 hsc hv (.inl fun _ _ _ z => z) R'' hb) hq fun fl s'' q => PS.trans S1.toFr q
  | .whiles c b, sx, env, vis, sc, loc, P, Y, mem, s, E, hc, hsc, hv, hY, R, h => by
    obtain ⟨a, body, p, rfl, h1, h2⟩ := inv_whiles hc
    obtain ⟨nn, hw⟩ := h
    refine wpAny_While (codeAny_whileLoop (fun n' s' => ∃ loc' mem', Rel W env vis loc' mem' s' ∧ Step (FrD env) mem s.heap mem' s'.heap ∧
      whileLoop (fun Q' l' m' => wpE C G noX c l' (asB Q') m') (fun Q' l' m' => wpSs C G b Q' noY l' m') n' P loc' mem') ?_ nn ⟨loc, mem, R, .refl, hw⟩)
    rintro n' s' ⟨loc', mem', R', S', hl⟩
    cases n' with
    | zero => exact hl.elim
    | succ n' =>
      refine wpAny_mono ((soundE SC c).2 h1 hsc hv (fun _ _ z => z) R' hl) (fun t s1 q => ?_) fun _ _ x => x
      obtain ⟨m1, M1, S1, q1⟩ := q
      have R1 := R'.step M1 S1
      cases t with
      | false => exact wpAny_execs_nil ⟨.next, loc', m1, rfl, R1, S'.trans S1.toFr, q1.2 rfl⟩
      | true =>
        refine wpAny_mono (soundSs SC b h2 hsc hv (.inl fun _ _ _ z => z) R1 (q1.1 rfl)) (fun fl s2 q => ?_) fun _ _ x => x
        obtain ⟨fl', l2, m2, hfl, R2, S2, q2⟩ := q
        have Sall := S'.trans (S1.toFr.trans S2)
        cases fl' with
        | next => obtain rfl : fl = .next := hfl; exact ⟨n', Nat.lt_succ_self _, l2, m2, R2, Sall, q2⟩
        | cont => obtain rfl : fl = .cont := hfl; exact ⟨n', Nat.lt_succ_self _, l2, m2, R2, Sall, q2⟩
        | brk => obtain rfl : fl = .brk := hfl; exact ⟨.next, l2, m2, rfl, R2, Sall, q2⟩
        | ret u =>
          obtain ⟨y', rfl, hy'⟩ : ∃ y, fl = .ret y ∧ VRel W s2.heap u y := hfl
          exact ⟨.ret u, l2, m2, ⟨y', rfl, hy'⟩, R2, Sall, q2⟩
  | .raise c g, sx, env, vis, sc, loc, P, Y, mem, s, E, hc, hsc, hv, hY, R, h => by
    rcases hY with hY | ⟨hF, hC, hE⟩
    · exact (hY _ _ _ h).elim
    · obtain ⟨x, px, k1, p1, cp, p, rfl, h1, h2⟩ := inv_raise hc
      obtain ⟨D, hD, hC⟩ := hC
      obtain ⟨C', hm, X, _⟩ := hC _ h1.1 h1.2
      have hcv : clsV W c.code = .ref C' := by unfold clsV; rw [hm]; rfl
      refine raise_own SC.room.handled (X.keeps R.m.stays) (fun hP => global_sound R SC.ok hsc h2 hm hP) fun h' e vs tk M => ?_
      have S : Step NoD mem s.heap mem h' := .of_keeps M.keeps
      refine hE _ loc mem e _ ⟨M.new, ?_⟩ (R.step (R.m.of_keeps M.keeps) S) (R.m.mems.fresh M.new) S.toFr h
      obtain ⟨t, he, _, _⟩ := M.there
      exact ⟨_, _, _, he, hcv.symm, rfl, rfl, .inl rfl⟩
  | .callS r f args, sx, env, vis, sc, loc, P, Y, mem, s, E, hc, hsc, hv, hY, R, h => by
    cases r with
    | true =>
      obtain ⟨v, p, rfl, h2⟩ := vRet_inv hc
      exact wpAny_Return_some (then1 R (callX SC h2 hsc hv R h fun m1 s1 M1 S1 => hY.call R M1 S1) fun u y m1 s1 hy R1 S1 q1 => ⟨.ret u, loc, m1, ⟨y, rfl, hy⟩, R1, S1.toFr, q1⟩)
    | false =>
      obtain ⟨v, p, rfl, h2⟩ := vExpr_inv hc
      refine wpAny_Expr (then1 R (callX SC h2 hsc hv R h fun m1 s1 M1 S1 => hY.call R M1 S1) fun u y m1 s1 hy R1 S1 q1 => ?_) (interactive_no R.e.kind) (swaps_no (chk_notComp h2 rfl))
      obtain ⟨q1, q2⟩ := q1
      have : ∀ a, y ≠ .ref a := fun a e => by
        subst e
        cases u <;> first | exact q1.elim | skip
        · have := hy.none'; cases this
        · have := hy.bool; cases this
        · obtain ⟨_, q⟩ := hy.int; cases q
      split
      · exact absurd rfl (this _)
      · exact ⟨.next, loc, m1, rfl, R1, S1.toFr, q2⟩
  | .pass, sx, env, vis, sc, loc, P, Y, mem, s, E, hc, hsc, hv, hY, R, h => by
    obtain ⟨p, rfl⟩ := inv_pass hc
    exact wpAny_Pass ⟨.next, loc, mem, rfl, R, .refl, h⟩
theorem soundSs {W : Cx} {FT : Nat → Option Fn} {ids : List Nat} {G : String → Option Val} {n : Nat} {A : Around} {C : CallT} (SC : SCx W FT ids G n A C) : ∀ (ss : Sts) {sx : List Stmt} {env : Env} {vis : List (Nat × Str)} {sc : Scope} {loc : Loc} {P : Flow → Loc → Mem → Prop} {Y : Nat → Loc → Mem → Prop} {mem : Mem} {s : Shared} {E : Value → Shared → Prop},
    chkSs FT ids vis sc ss sx = true → ScOk sc env → VisOk vis → YOk W A env vis mem s Y E → Rel W env vis loc mem s → wpSs C G ss P Y loc mem → wpAny (model W.prog W.w) A (execs sx env) (PS W env vis mem s P) E s
  | .nil, sx, env, vis, sc, loc, P, Y, mem, s, E, hc, hsc, hv, hY, R, h => by
    rw [inv_snil hc]
    exact wpAny_execs_nil ⟨.next, loc, mem, rfl, R, .refl, h⟩
  | .cons st ss, sx, env, vis, sc, loc, P, Y, mem, s, E, hc, hsc, hv, hY, R, h => by
    obtain ⟨x, r, rfl, h1, h2⟩ := inv_scons hc
    refine wpAny_execs_cons (wpAny_mono (soundS SC st h1 hsc hv hY R h) (fun fl s1 q => ?_) fun _ _ x => x)
    obtain ⟨fl', l1, m1, hfl, R1, S1, q1⟩ := q
    cases fl' with
    | next =>
      obtain rfl : fl = .next := hfl
      exact psTrans S1 (soundSs SC ss h2 hsc hv (hY.step R1 S1) R1 q1)
    | cont => obtain rfl : fl = .cont := hfl; exact ⟨.cont, l1, m1, rfl, R1, S1, q1⟩
    | brk => obtain rfl : fl = .brk := hfl; exact ⟨.brk, l1, m1, rfl, R1, S1, q1⟩
    | ret u =>
      obtain ⟨y', rfl, hy'⟩ : ∃ y, fl = .ret y ∧ VRel W s1.heap u y := hfl
      exact ⟨.ret u, l1, m1, ⟨y', rfl, hy'⟩, R1, S1, q1⟩
end

end TD

namespace TD
open PySem PyProof.Rows

theorem zip_lookup {α : Type} : ∀ {ps : List Str} {vs : List α}, ps.length = vs.length → ∀ {i : Nat} {x : Str} {v : α}, ps.Nodup → ps[i]? = some x → vs[i]? = some v → (ps.zip vs).lookup x = some v
  | p :: ps, w :: vs, hl, 0, x, v, hn, h1, h2 => by
    simp only [List.getElem?_cons_zero, Option.some.injEq] at h1 h2
    subst h1; subst h2
    simp
  | p :: ps, w :: vs, hl, i + 1, x, v, hn, h1, h2 => by
    simp only [List.getElem?_cons_succ] at h1 h2
    rw [List.nodup_cons] at hn
    have hx : x ∈ ps := List.mem_of_getElem? h1
    have : (x == p) = false := by rw [beq_eq_false_iff_ne]; rintro rfl; exact hn.1 hx
    rw [List.zip_cons_cons, List.lookup_cons, this]
    exact zip_lookup (by simpa using hl) hn.2 h1 h2
  | [], _, _, i, x, v, _, h, _ => by simp at h
  | _ :: _, [], hl, _, _, _, _, _, _ => by simp at hl
theorem zip_filterMap {α : Type} (ps : List Str) (vs : List α) (hl : ps.length = vs.length) (hn : ps.Nodup) : ps.filterMap (fun n => ((ps.zip vs).lookup n).map (n, ·)) = ps.zip vs := by
  have key : ∀ (pre : List (Str × α)) (ps : List Str) (vs : List α), ps.length = vs.length → (pre.map (·.1) ++ ps).Nodup → ps.filterMap (fun n => ((pre ++ ps.zip vs).lookup n).map (n, ·)) = ps.zip vs := by
    intro pre ps
    induction ps generalizing pre with
    | nil => intro vs _ _; rfl
    | cons p ps ih =>
      intro vs hl hn
      cases vs with
      | nil => simp at hl
      | cons v vs =>
        have hp : (pre ++ (p, v) :: ps.zip vs).lookup p = some v := by
          have hnp : p ∉ pre.map (·.1) := fun q => by
            rw [List.nodup_append] at hn
            exact hn.2.2 p q p (.head _) rfl
          clear ih hn hl
          induction pre with
          | nil => simp
          | cons q r ih =>
            rw [List.map_cons, List.mem_cons, not_or] at hnp
            rw [List.cons_append, List.lookup_cons, beq_eq_false_iff_ne.mpr hnp.1]
            exact ih hnp.2
        rw [List.zip_cons_cons, List.filterMap_cons, hp]
        simp only [Option.map_some]
        congr 1
        have := ih (pre ++ [(p, v)]) vs (by simpa using hl) (by simpa using hn)
        simpa using this
  simpa using key [] ps vs hl (by simpa using hn)

noncomputable def plainParams (p : Arguments) : Bool := p.posonlyargs.isEmpty && p.vararg.isNone && p.kwonlyargs.isEmpty && p.kwarg.isNone
theorem bind_plain {fd : FuncData} (hp : plainParams fd.params = true) (hd : fd.defaults = .none) {vals : List Value} (hl : (fd.params.args.map (·.arg)).length = vals.length) (hn : (fd.params.args.map (·.arg)).Nodup) :
    bindArgs fd ⟨vals, []⟩ = pure ((fd.params.args.map (·.arg)).zip vals) := by
  unfold plainParams at hp
  simp only [Bool.and_eq_true, List.isEmpty_iff, Option.isNone_iff_eq_none] at hp
  obtain ⟨⟨⟨h1, h2⟩, h3⟩, h4⟩ := hp
  have hseq : seqItems? fd.defaults = pure none := by rw [hd]; rfl
  have hmiss : (List.take (fd.params.args.map (·.arg)).length (fd.params.args.map (·.arg))).filter (fun n => (((fd.params.args.map (·.arg)).zip vals).lookup n).isNone) = [] := by
    rw [List.take_length, List.filter_eq_nil_iff]
    intro n hm
    obtain ⟨i, hi⟩ := List.getElem?_of_mem hm
    have hlt : i < vals.length := by
      have := (List.getElem?_eq_some_iff.mp hi).1
      omega
    rw [zip_lookup hl hn hi (List.getElem?_eq_getElem hlt)]
    simp
  have hz := zip_filterMap (fd.params.args.map (·.arg)) vals hl hn
  unfold bindArgs
  simp only [h1, h2, h3, h4, hseq, List.map_nil, List.nil_append, List.append_nil, List.forIn_nil, pure_bind, Option.getD_none, List.length_nil]
  simp only [hl, gt_iff_lt, Nat.lt_irrefl, decide_false, Bool.false_and, Bool.false_eq_true, if_false, pure_bind]
  simp only [Nat.zero_sub, List.drop_nil, Array.toList_empty, List.length_nil, Nat.sub_zero, List.drop_zero, List.zip_nil_right, List.forIn_nil, pure_bind]
  rw [← hl, hmiss]
  simp only [List.isEmpty_nil, Bool.not_true, Bool.false_eq_true, if_false, pure_bind, List.forIn_nil]
  rw [hz]

noncomputable def visOf (sc : Scope) : Nat → List String → List Str → List (Nat × Str)
  | _, [], _ => []
  | i, x :: r, seen => if storable sc (Str.ofString x) && !seen.contains (Str.ofString x) then (i, Str.ofString x) :: visOf sc (i + 1) r (Str.ofString x :: seen) else visOf sc (i + 1) r seen

noncomputable def chkHead (np : Nat) (vars : List String) (fd : FuncData) : Bool :=
  plainParams fd.params && (fd.params.args.map (·.arg) == (vars.take np).map Str.ofString) && decide (np ≤ vars.length) && decide ((fd.params.args.map (·.arg)).Nodup) &&
  (fd.scope.kind == .function) && !fd.scope.isCoroutine && !fd.scope.isGenerator && fd.scope.names.all (fun p => p.2 != .free) && (fd.params.args.all fun a => storable fd.scope a.arg)
noncomputable def vStmts (b : FuncBody) (k : List Stmt → Bool) : Bool := match b with | .stmts b => k b | _ => false
theorem vStmts_inv {b : FuncBody} {k : List Stmt → Bool} (h : vStmts b k = true) : ∃ l, b = .stmts l ∧ k l = true := by
  cases b <;> first | exact ⟨_, rfl, h⟩ | exact nb h
noncomputable def chkFn (FT : Nat → Option Fn) (ids : List Nat) (fn : Fn) (fd : FuncData) : Bool :=
  chkHead fn.np fn.vars fd && vStmts fd.body fun b => chkSs FT ids (visOf fd.scope 0 fn.vars []) fd.scope fn.body b

theorem visOf_mem {sc : Scope} : ∀ {vars : List String} {k : Nat} {seen : List Str} {i : Nat} {x : Str}, (i, x) ∈ visOf sc k vars seen → k ≤ i ∧ (vars.map Str.ofString)[i - k]? = some x ∧ x ∉ seen
  | [], k, seen, i, x, h => by simp [visOf] at h
  | y :: r, k, seen, i, x, h => by
    unfold visOf at h
    split at h
    · rename_i hc
      rw [List.mem_cons] at h
      rcases h with h | h
      · cases h
        simp only [Bool.and_eq_true, Bool.not_eq_true', List.contains_eq_mem, decide_eq_false_iff_not] at hc
        refine ⟨Nat.le_refl _, ?_, hc.2⟩
        simp
      · obtain ⟨a, b, c⟩ := visOf_mem h
        refine ⟨by omega, ?_, fun q => c (.tail _ q)⟩
        rw [show i - k = (i - (k + 1)) + 1 by omega]
        simpa using b
    · obtain ⟨a, b, c⟩ := visOf_mem h
      refine ⟨by omega, ?_, c⟩
      rw [show i - k = (i - (k + 1)) + 1 by omega]
      simpa using b
theorem visOf_ok {sc : Scope} : ∀ (vars : List String) (k : Nat) (seen : List Str), VisOk (visOf sc k vars seen)
  | [], k, seen => fun i x j y h => by simp [visOf] at h
  | y :: r, k, seen => by
    unfold visOf
    split
    · intro i x j z h1 h2
      rw [List.mem_cons] at h1 h2
      rcases h1 with h1 | h1 <;> rcases h2 with h2 | h2
      · cases h1; cases h2; simp
      · cases h1
        obtain ⟨a, b, c⟩ := visOf_mem h2
        exact ⟨fun e => by omega, fun e => by subst e; exact absurd (.head _) c⟩
      · cases h2
        obtain ⟨a, b, c⟩ := visOf_mem h1
        exact ⟨fun e => by omega, fun e => by subst e; exact absurd (.head _) c⟩
      · exact visOf_ok r _ _ i x j z h1 h2
    · exact visOf_ok r _ _

theorem getV_rep {n i : Nat} {v : Val} (h : getV (List.replicate n none) i = some v) : False := by
  induction n generalizing i with
  | zero => exact no h
  | succ n ih => cases i with
    | zero => exact no h
    | succ i => exact ih (i := i) h
theorem getV_loc0 {vs : List Val} {n : Nat} : ∀ {i : Nat} {v : Val}, getV (loc0 vs n) i = some v → vs[i]? = some v := by
  induction vs with
  | nil => intro i v h; exact (getV_rep h).elim
  | cons u vs ih => intro i v h; cases i with
    | zero => exact h
    | succ i => exact ih (i := i) h

theorem bindL_get {kd : Str → Option NameKind} {x : Str} (hx : kd x = some .local) : ∀ {binds : List (Str × Value)} {m : Str → Option Value} {y : Value}, (binds.map (·.1)).Nodup → (binds.lookup x = some y ∨ (x ∉ binds.map (·.1) ∧ m x = some y)) → bindL kd binds m x = some y
  | [], m, y, hn, h => by
    rcases h with h | h
    · simp at h
    · exact h.2
  | (n, v) :: r, m, y, hn, h => by
    unfold bindL
    rw [List.map_cons, List.nodup_cons] at hn
    refine bindL_get hx hn.2 ?_
    by_cases hxn : x = n
    · subst hxn
      rcases h with h | h
      · rw [List.lookup_cons] at h
        simp only [beq_self_eq_true] at h
        cases h
        exact .inr ⟨hn.1, by rw [if_pos hx]; simp⟩
      · exact absurd (.head _) h.1
    · rcases h with h | h
      · rw [List.lookup_cons, beq_eq_false_iff_ne.mpr hxn] at h
        exact .inl h
      · refine .inr ⟨fun q => h.1 (.tail _ q), ?_⟩
        split
        · show (if x = n then some v else m x) = some y
          rw [if_neg hxn]; exact h.2
        · exact h.2
theorem bindC_get {kd : Str → Option NameKind} {x : Str} (hx : kd x ≠ some .local) : ∀ {binds : List (Str × Value)} {m : Str → Option Value} {y : Value}, (binds.map (·.1)).Nodup → (binds.lookup x = some y ∨ (x ∉ binds.map (·.1) ∧ m x = some y)) → bindC kd binds m x = some y
  | [], m, y, hn, h => by
    rcases h with h | h
    · simp at h
    · exact h.2
  | (n, v) :: r, m, y, hn, h => by
    unfold bindC
    rw [List.map_cons, List.nodup_cons] at hn
    refine bindC_get hx hn.2 ?_
    by_cases hxn : x = n
    · subst hxn
      rcases h with h | h
      · rw [List.lookup_cons] at h
        simp only [beq_self_eq_true] at h
        cases h
        exact .inr ⟨hn.1, by rw [if_neg hx]; simp⟩
      · exact absurd (.head _) h.1
    · rcases h with h | h
      · rw [List.lookup_cons, beq_eq_false_iff_ne.mpr hxn] at h
        exact .inl h
      · refine .inr ⟨fun q => h.1 (.tail _ q), ?_⟩
        split
        · exact h.2
        · show (if x = n then some v else m x) = some y
          rw [if_neg hxn]; exact h.2

theorem Room.down {n : Nat} {A : Around} (h : Room (n + 1) A) (env : Env) : Room n (A.deeper env) := by
  obtain ⟨a, b, c⟩ := h
  refine ⟨a, ?_, ?_⟩
  · show A.units + 3 + 100 + 20 * n < cLine
    omega
  · show A.depth + 1 + 5 + 5 * n < recursionLimit
    omega

theorem Room.near {n : Nat} {A A' : Around} (h : Room (n + 1) A) (hA : Near A A') : A'.depth + 5 < recursionLimit ∧ ∀ env, Room n (A'.deeper env) := by
  rcases hA with rfl | ⟨C, vs, rfl⟩
  · exact ⟨by have := h.depth; omega, h.down⟩
  · obtain ⟨a, b, c⟩ := h
    have e1 : (A.under (.builtin "type.__call__" ⟨.ref C :: vs, []⟩)).depth = A.depth + 1 := rfl
    have e3 : (Code.builtin "type.__call__" ⟨.ref C :: vs, []⟩).cUnits = 1 := rfl
    have e2 : (A.under (.builtin "type.__call__" ⟨.ref C :: vs, []⟩)).units = A.units + 1 := congrArg (A.units + ·) e3
    refine ⟨by rw [e1]; omega, fun env => ⟨a, ?_, ?_⟩⟩
    · show (A.under (.builtin "type.__call__" ⟨.ref C :: vs, []⟩)).units + 3 + 100 + 20 * n < cLine
      omega
    · show A.depth + 1 + 1 + 5 + 5 * n < recursionLimit
      omega
theorem cells_mem {x : Str} : ∀ (names : List (Str × NameKind)) (n : Nat) (acc : List (Str × Addr)), ((x, NameKind.cell) ∈ names ∨ ∃ b, (x, b) ∈ acc) → ∃ b, (x, b) ∈ cellsFrom n names acc := by
  intro names
  induction names with
  | nil => intro n acc h; exact h.resolve_left List.not_mem_nil
  | cons p r ih =>
    intro n acc h
    obtain ⟨y, k⟩ := p
    show ∃ b, (x, b) ∈ if k == NameKind.cell then cellsFrom (n + 1) r ((y, n) :: acc) else cellsFrom n r acc
    by_cases hk : (k == NameKind.cell) = true
    · rw [if_pos hk]
      refine ih _ _ ?_
      rcases h with h | ⟨b, h⟩
      · rcases List.mem_cons.mp h with q | q
        · obtain rfl : x = y := congrArg Prod.fst q
          exact .inr ⟨n, .head _⟩
        · exact .inl q
      · exact .inr ⟨b, .tail _ h⟩
    · rw [if_neg hk]
      refine ih _ _ (h.imp_left fun h => ?_)
      rcases List.mem_cons.mp h with q | q
      · obtain rfl : NameKind.cell = k := congrArg Prod.snd q
        exact absurd rfl hk
      · exact q
theorem look_of_mem {β : Type} {x : Str} {b : β} : ∀ {l : List (Str × β)}, (x, b) ∈ l → (l.lookup x).isSome = true := by
  intro l
  induction l with
  | nil => intro h; cases h
  | cons p r ih =>
    intro h
    obtain ⟨y, c⟩ := p
    rw [List.lookup_cons]
    cases q : x == y with
    | true => rfl
    | false =>
      rcases List.mem_cons.mp h with e | e
      · obtain rfl : x = y := congrArg Prod.fst e
        rw [beq_self_eq_true] at q; cases q
      · exact ih e
theorem cell_here {x : Str} {names : List (Str × NameKind)} (n : Nat) (h : names.lookup x = some .cell) : ((cellsFrom n names []).lookup x).isSome = true := by
  obtain ⟨b, hb⟩ := cells_mem names n [] (.inl (PySem.mem_of_lookup h))
  exact look_of_mem hb

structure DefAt (W : Cx) (a : Addr) (o : Obj) (fd : FuncData) : Prop where
  at_ : W.base.get? a = some o
  data : o.data = .func fd
  dflt : fd.defaults = .none
  glob : fd.globals = mainGlobals
  blt : fd.builtins = builtinsNs
  clos : fd.closure = []
  code : W.base.CodeRec fd.code fd.qualname

theorem call_run {W : Cx} {G : String → Option Val} (ok : CxOk W G) {A : Around} (hdep : A.depth + 5 < recursionLimit) {a : Addr} {o : Obj} {fd : FuncData} (Df : DefAt W a o fd) {np : Nat} {vars : List String} (hchk : chkHead np vars fd = true) {body : List Stmt} (hb : fd.body = .stmts body)
    {vs : List Val} {args : List Value} {Q : Val → Mem → Prop} {mem : Mem} {s : Shared} {E : Value → Shared → Prop} (hlen : vs.length = np) (M : MRel W mem s) (hv : VRels W s.heap vs args)
    (run : ∀ env s₁ E', ScOk fd.scope env → Rel W env (visOf fd.scope 0 vars []) (loc0 vs (vars.length - np)) mem s₁ → (∀ b o, s.heap.get? b = some o → s₁.heap.get? b = some o) →
      (∀ X, XFr W A mem s X E → YFr W (A.deeper env) env (visOf fd.scope 0 vars []) mem s₁ (fun c _ m' => X c m') E') → wpAny (model W.prog W.w) (A.deeper env) (execs body env) (PS W env (visOf fd.scope 0 vars []) mem s₁ (retQ Q)) E' s₁) :
    wpAny (model W.prog W.w) A (call (.ref a) args) (PM W mem s Q) E s := by
      obtain ⟨h2, h3, hdef, hgl, hbl, hcl, hcd⟩ := Df
      unfold chkHead at hchk
      simp only [Bool.and_eq_true, Bool.not_eq_true', decide_eq_true_eq, beq_iff_eq] at hchk
      obtain ⟨⟨⟨⟨⟨⟨⟨⟨c1, c2⟩, c3⟩, c4⟩, c5⟩, c6⟩, c7⟩, c8⟩, c9⟩ := hchk
      have hal := hv.length
      have hpl : (fd.params.args.map (·.arg)).length = args.length := by
        rw [c2, List.length_map, List.length_take]; omega
      have hbnd := bind_plain c1 hdef hpl c4
      have hmap : ((fd.params.args.map (·.arg)).zip args).map (·.1) = fd.params.args.map (·.arg) := by
        rw [List.map_fst_zip]; omega
      have hkind : ∀ n, ∀ y ∈ (fd.params.args.map (·.arg)).zip args, fd.scope.names.lookup y.1 = some .local ∨ (fd.scope.names.lookup y.1 = some .cell ∧ ((cellsFrom n fd.scope.names []).lookup y.1).isSome = true) := fun n y hy => by
        have hm : y.1 ∈ fd.params.args.map (·.arg) := by rw [← hmap]; exact List.mem_map_of_mem hy
        obtain ⟨p, hp, e⟩ := List.mem_map.mp hm
        have hs := List.all_eq_true.mp c9 p hp
        rw [e] at hs
        rcases Bool.or_eq_true_iff.mp hs with q | q
        · exact .inl (eq_of_beq q)
        · exact .inr ⟨eq_of_beq q, cell_here n (eq_of_beq q)⟩
      refine wpAny_call (codeAny_call_cells (by omega) (M.stays _ _ h2) h3 (ok.nolimit.keeps M.stays) (hcd.keeps M.stays) hb hbnd hcl (hkind _) (fun s₁ I => ?_) c6 c7 c5)
      have hsc : ScOk fd.scope (callEnvC fd s.heap.objs.size a) := ScOk.self (callEnvC fd s.heap.objs.size a)
      have hloc : (callEnvC fd s.heap.objs.size a).locals = s.heap.objs.size := rfl
      have hsco : (callEnvC fd s.heap.objs.size a).scope = fd.scope := rfl
      have hglo : (callEnvC fd s.heap.objs.size a).globals = mainGlobals := hgl
      have hblo : (callEnvC fd s.heap.objs.size a).builtins = builtinsNs := hbl
      have hframe : (callEnvC fd s.heap.objs.size a).frame = some (callEnvC fd s.heap.objs.size a).locals := rfl
      have hcells : (callEnvC fd s.heap.objs.size a).cells = cellsFrom (s.heap.objs.size + 1) fd.scope.names [] := rfl
      have hko : ∀ x, (callEnvC fd s.heap.objs.size a).kindOf x = fd.scope.names.lookup x := fun _ => rfl
      generalize henv : callEnvC fd s.heap.objs.size a = env at I hsc hloc hsco hglo hblo hframe hcells hko ⊢
      have hFr : ∀ b, FrD env b → s.heap.objs.size ≤ b := fun b hb => by
        rcases hb with rfl | ⟨x, hx⟩
        · exact Nat.le_of_eq hloc.symm
        · have := I.above x b (PySem.mem_of_lookup hx)
          rw [hloc] at this
          exact Nat.le_of_lt this
      have hnone : ∀ b, s.heap.objs.size ≤ b → s.heap.get? b = none := fun b hb => by
        cases q : s.heap.get? b with
        | none => rfl
        | some o => exact absurd (Heap.lt_size q) (Nat.not_lt.mpr hb)
      have hbase : ∀ b, s.heap.get? b = none → W.base.get? b = none := fun b e => by
        cases q : W.base.get? b with
        | none => rfl
        | some o => rw [M.stays b o q] at e; cases e
      have kf : KeepF s.heap s₁.heap := .of_keeps I.toInCall.keep
      have hsame : s₁.gens = s.gens ∧ s₁.os = s.os := by
        obtain ⟨h', tk, e⟩ := I.toInCall.same; rw [e]; exact ⟨rfl, rfl⟩
      have M1 : MRel W mem s₁ := M.of_keeps I.toInCall.keep hsame.1 hsame.2
      have look : ∀ i x v, (i, x) ∈ visOf fd.scope 0 vars [] → getV (loc0 vs (vars.length - np)) i = some v → ∃ y, ((fd.params.args.map (·.arg)).zip args).lookup x = some y ∧ VRel W s₁.heap v y := fun i x v h1 h2 => by
        have h2' := getV_loc0 h2
        obtain ⟨y, hy, hr⟩ := hv.get h2'
        obtain ⟨_, hx, _⟩ := visOf_mem h1
        have hi : i < np := by
          have := (List.getElem?_eq_some_iff.mp h2').1
          omega
        refine ⟨y, zip_lookup hpl c4 ?_ hy, hr.keep kf⟩
        rw [c2, List.map_take, List.getElem?_take_of_lt hi]
        simpa using hx
      have hnd : (((fd.params.args.map (·.arg)).zip args).map (·.1)).Nodup := by rw [hmap]; exact c4
      have R0 : Rel W env (visOf fd.scope 0 vars []) (loc0 vs (vars.length - np)) mem s₁ := by
        refine ⟨M1, ⟨by rw [hsco]; exact c5, hglo, hblo, ⟨_, I.toInCall.ns, fun i x v h1 h2 h3 => ?_⟩, fun i x v k h1 h2 h3 h4 => ?_, fun x k h1 h2 => ?_, fun x c hx => ⟨_, I.cell x c hx⟩, fun x y c hx hy => ?_⟩, fun b hb => ?_, fun b hb => ?_⟩
        · obtain ⟨y, e, r⟩ := look i x v h1 h2
          exact ⟨y, bindL_get h3 hnd (.inl e), r⟩
        · obtain ⟨y, e, r⟩ := look i x v h1 h2
          have hnl : env.kindOf x ≠ some .local := by rw [h3]; rcases h4 with rfl | rfl <;> simp
          have hkc : k = .cell := by
            rcases h4 with q | q
            · exact q
            · rw [hko] at h3
              have := List.all_eq_true.mp c8 _ (PySem.mem_of_lookup h3)
              subst q; simp at this
          subst hkc
          rw [hko] at h3
          have := cell_here (s.heap.objs.size + 1) h3
          obtain ⟨c, hc⟩ := Option.isSome_iff_exists.mp this
          refine ⟨c, y, by rw [hcells]; exact hc, ?_, r⟩
          have := I.cell x c (by rw [hcells]; exact hc)
          rw [bindC_get hnl hnd (.inl e)] at this
          exact this
        · rw [hko] at h1
          have hkc : k = .cell := by
            rcases h2 with q | q
            · exact q
            · have := List.all_eq_true.mp c8 _ (PySem.mem_of_lookup h1)
              subst q; simp at this
          subst hkc
          have := cell_here (s.heap.objs.size + 1) h1
          rw [hcells]
          exact Option.isSome_iff_exists.mp this
        · exact name_of_addr I.apart (PySem.mem_of_lookup hx) (PySem.mem_of_lookup hy)
        · exact M.mems.fresh (hnone b (hFr b hb))
        · exact hbase b (hnone b (hFr b hb))
      have stepUp : ∀ {m' : Mem} {h' : Heap}, Step (FrD env) mem s₁.heap m' h' → Step NoD mem s.heap m' h' := fun S' => by
        refine ⟨fun b e => ?_, fun b o' e hm _ => ?_, fun b hm hm' => ?_⟩
        · exact alive_of I.toInCall.keep b (S'.alive b e)
        · exact S'.keep b o' (I.toInCall.keep b o' e) hm fun hb => by rw [hnone b (hFr b hb)] at e; cases e
        · exact alive_of I.toInCall.keep b (S'.grow b hm hm')
      refine wpAny_mono (run env s₁ _ hsc R0 I.toInCall.keep fun X hX => ?_) (fun fl s' p => ?_) fun _ _ x => x
      · obtain ⟨⟨fs, hfr, F⟩, hC, hE⟩ := hX
        have ap : ∀ b ∈ frs fs, ¬ FrD env b := fun b hb hd => by
          obtain ⟨_, _, m, o, es, ep, e, _⟩ := F.mem hb
          rw [hnone b (hFr b hd)] at e; cases e
        have F1 : FrOk W.base fs mem s₁.heap := F.step (D := NoD) (.of_keeps I.toInCall.keep) fun _ _ z => z
        refine ⟨⟨fs, Around.frames_deeper hfr, FrOk.cons R0 hframe F1, ap⟩, hC, fun k l m' a s' X R' hm S' hy => ?_⟩
        have F' : FrOk W.base (env :: fs) m' s'.heap := FrOk.cons R' hframe (F1.step S' ap)
        have S := stepUp S'
        refine exc_leaves (Around.frames_deeper hfr) F' (X.back (alive_of I.toInCall.keep)) S.alive fun h' x K => ?_
        exact hE k m' a _ x.exc (R'.m.kept K F' M.stays) hm (S.kept K) hy
      obtain ⟨fl', l, mem', hfl, R', S', q⟩ := p
      have S : Step NoD mem s.heap mem' s'.heap := stepUp S'
      cases fl' with
      | next => obtain rfl : fl = .next := hfl; exact ⟨.none, mem', .mkNone, R'.m, S, q⟩
      | ret u =>
        obtain ⟨y', rfl, hy'⟩ : ∃ y, fl = .ret y ∧ VRel W s'.heap u y := hfl
        exact ⟨u, mem', hy', R'.m, S, q⟩
      | brk => exact q.elim
      | cont => exact q.elim

noncomputable def Defs (W : Cx) (FT : Nat → Option Fn) (ids : List Nat) : Prop :=
  ∀ f ∈ ids, ∀ fn, FT f = some fn → ∃ a o fd, FnAt W fn a o ∧ DefAt W a o fd ∧ chkFn FT ids fn fd = true

theorem callOk {W : Cx} {FT : Nat → Option Fn} {ids : List Nat} {G : String → Option Val} (ok : CxOk W G) (EC : EstC W.mg W.base) (D : Defs W FT ids) : ∀ (n : Nat) {A : Around}, Room n A → CallOk W FT ids A (callN FT G n)
  | 0, A, hr => fun f hf fn hfn => by
    obtain ⟨a, o, fd, h1, Df, _⟩ := D f hf fn hfn
    exact ⟨a, o, fd, h1, Df.at_, Df.data, fun _ _ _ _ _ _ _ _ _ _ h => h.elim⟩
  | n + 1, A, hr => fun f hf fn hfn => by
    obtain ⟨a, o, fd, h1, Df, hchk⟩ := D f hf fn hfn
    refine ⟨a, o, fd, h1, Df.at_, Df.data, fun A' hA vs args Q X mem s E hX hc M hv => ?_⟩
    obtain ⟨hh, hb⟩ := and2 hchk
    obtain ⟨body, hb, hc10⟩ := vStmts_inv hb
    obtain ⟨fn', e, hlen, hbody⟩ := hc
    obtain rfl : fn = fn' := Option.some.inj (hfn.symm.trans e)
    refine call_run ok (hr.near hA).1 Df hh hb hlen M hv fun env s₁ E' hsc R0 hk hY => ?_
    have SC : SCx W FT ids G n (A'.deeper env) (callN FT G n) := ⟨ok, (hr.near hA).2 env, callOk ok EC D n ((hr.near hA).2 env), EC⟩
    refine soundSs SC fn.body hc10 hsc (visOf_ok _ _ _) ?_ R0 hbody
    rcases hX with hX | hX
    · exact .inl fun k l m => hX k m
    · exact .inr (hY X hX)

end TD

namespace TD
open PySem (Str Addr)

noncomputable def globOf (gs : List (String × Int)) (x : String) : Option Val := (gs.lookup x).map .int
noncomputable def Ext (m m' : Mem) : Prop := ∀ a o, m a = some o → m' a = some o
theorem Ext.refl {m : Mem} : Ext m m := fun _ _ e => e
theorem Ext.trans {m1 m2 m3 : Mem} (x : Ext m1 m2) (y : Ext m2 m3) : Ext m1 m3 := fun a o e => y a o (x a o e)
theorem Ext.set {m : Mem} {a : Addr} {o : AObj} (h : m a = none) : Ext m (m.set a o) := fun b o' e => by
  unfold Mem.set; split
  · rename_i q; subst q; rw [h] at e; cases e
  · exact e
theorem set_eq {m : Mem} {a : Addr} {o : AObj} : (m.set a o) a = some o := by simp [Mem.set]
theorem freshL_x {m : Mem} {Q : Val → Mem → Prop} {xs : List Val} (hl : xs.length < lid) (h : ∀ a m', m a = none → Ext m m' → m' a = some (.list xs) → Q (.ref a) m') : freshL m xs Q := freshL_ hl fun a ha => h a _ ha (Ext.set ha) set_eq
theorem set_ne {m : Mem} {a b : Addr} {o : AObj} (h : b ≠ a) : (m.set a o) b = m b := by simp [Mem.set, h]
theorem set_set {m : Mem} {a : Addr} {o o' : AObj} : (m.set a o).set a o' = m.set a o' := by
  funext b; unfold Mem.set; split <;> rfl
noncomputable def Mem.del (m : Mem) (a : Addr) : Mem := fun b => if b = a then none else m b
theorem del_eq {m : Mem} {a : Addr} : (m.del a) a = none := by simp [Mem.del]
theorem del_ne {m : Mem} {a b : Addr} (h : b ≠ a) : (m.del a) b = m b := by simp [Mem.del, h]
theorem del_set {m : Mem} {a : Addr} {o : AObj} : (m.del a).set a o = m.set a o := by
  funext b; unfold Mem.set Mem.del; split <;> rfl
theorem set_same {m : Mem} {a : Addr} {o : AObj} (h : m a = some o) : m.set a o = m := by
  funext b; unfold Mem.set; split
  · rename_i q; subst q; exact h.symm
  · rfl
theorem Ext.del {m m2 : Mem} {a : Addr} {o : AObj} (h : m a = none) (x : Ext (m.set a o) m2) : Ext m (m2.del a) := fun b o' e => by
  have hb : b ≠ a := by rintro rfl; rw [h] at e; cases e
  rw [del_ne hb]
  exact x b o' (by rw [set_ne hb]; exact e)
theorem Ext.del_back {m m2 : Mem} {a : Addr} {o : AObj} (h : m2 a = some o) : m2 = (m2.del a).set a o := by
  rw [del_set, set_same h]
theorem ne_of {m : Mem} {a b : Addr} {o : AObj} (h : m a = none) (e : m b = some o) : b ≠ a := by rintro rfl; rw [h] at e; cases e

theorem grow_set {mr m3 : Mem} {f : Addr} {L L' : AObj} (hrf : mr f = none) (x : Ext (mr.set f L) m3) : ∃ mr', Ext mr mr' ∧ mr' f = none ∧ m3.set f L' = mr'.set f L' := ⟨m3.del f, Ext.del hrf x, del_eq, del_set.symm⟩
inductive All2 {α β : Type} (R : α → β → Prop) : List α → List β → Prop
  | nil : All2 R [] []
  | cons {a : α} {b : β} {as : List α} {bs : List β} : R a b → All2 R as bs → All2 R (a :: as) (b :: bs)
theorem All2.length {α β : Type} {R : α → β → Prop} {as : List α} {bs : List β} (h : All2 R as bs) : as.length = bs.length := by
  induction h with
  | nil => rfl
  | cons _ _ ih => exact congrArg Nat.succ ih
theorem All2.mono {α β : Type} {R R' : α → β → Prop} (k : ∀ a b, R a b → R' a b) {as : List α} {bs : List β} (h : All2 R as bs) : All2 R' as bs := by
  induction h with
  | nil => exact .nil
  | cons h _ ih => exact .cons (k _ _ h) ih
theorem All2.get {α β : Type} {R : α → β → Prop} {as : List α} {bs : List β} (h : All2 R as bs) : ∀ {i : Nat} {a : α}, as[i]? = some a → ∃ b, bs[i]? = some b ∧ R a b := by
  induction h with
  | nil => intro i a e; cases e
  | cons h _ ih => intro i a e; cases i with
    | zero => cases e; exact ⟨_, rfl, h⟩
    | succ i => obtain ⟨b, hb⟩ := ih (i := i) e; exact ⟨b, hb⟩
theorem All2.get' {α β : Type} {R : α → β → Prop} {as : List α} {bs : List β} (h : All2 R as bs) : ∀ {i : Nat} {b : β}, bs[i]? = some b → ∃ a, as[i]? = some a ∧ R a b := by
  induction h with
  | nil => intro i a e; cases e
  | cons h _ ih => intro i a e; cases i with
    | zero => cases e; exact ⟨_, rfl, h⟩
    | succ i => obtain ⟨b, hb⟩ := ih (i := i) e; exact ⟨b, hb⟩
theorem All2.append {α β : Type} {R : α → β → Prop} {as : List α} {bs : List β} {as' : List α} {bs' : List β} (h : All2 R as bs) (h' : All2 R as' bs') : All2 R (as ++ as') (bs ++ bs') := by
  induction h with
  | nil => exact h'
  | cons h _ ih => exact .cons h ih
theorem All2.of_get {α β : Type} {R : α → β → Prop} {as : List α} : ∀ {bs : List β}, as.length = bs.length → (∀ (i : Nat) a b, as[i]? = some a → bs[i]? = some b → R a b) → All2 R as bs := by
  induction as with
  | nil => intro bs hl _; cases bs with
    | nil => exact .nil
    | cons _ _ => cases hl
  | cons a as ih => intro bs hl h; cases bs with
    | nil => cases hl
    | cons b bs => exact .cons (h 0 a b rfl rfl) (ih (Nat.succ.inj hl) fun i a b h1 h2 => h (i + 1) a b h1 h2)

noncomputable def IsL (m : Mem) (v : Val) (xs : List Val) : Prop := ∃ a, v = .ref a ∧ m a = some (.list xs)
noncomputable def IsI (m : Mem) (v : Val) (is : List Int) : Prop := IsL m v (is.map .int)
noncomputable def IsLL {β : Type} (R : Mem → Val → β → Prop) (m : Mem) (v : Val) (t : List β) : Prop := ∃ xs, IsL m v xs ∧ All2 (R m) xs t
noncomputable abbrev IsT := IsLL IsI
theorem IsL.ext {m m' : Mem} (x : Ext m m') {v : Val} {xs : List Val} (h : IsL m v xs) : IsL m' v xs := by
  obtain ⟨a, rfl, e⟩ := h; exact ⟨a, rfl, x a _ e⟩
theorem IsI.ext {m m' : Mem} (x : Ext m m') {v : Val} {xs : List Int} (h : IsI m v xs) : IsI m' v xs := IsL.ext x h
theorem IsLL.ext {β : Type} {R : Mem → Val → β → Prop} {m m' : Mem} (x : Ext m m') (k : ∀ v b, R m v b → R m' v b) {v : Val} {t : List β} (h : IsLL R m v t) : IsLL R m' v t := by
  obtain ⟨xs, a, b⟩ := h; exact ⟨xs, a.ext x, b.mono k⟩
theorem IsT.ext {m m' : Mem} (x : Ext m m') {v : Val} {t : List (List Int)} (h : IsT m v t) : IsT m' v t := IsLL.ext x (fun _ _ => IsI.ext x) h
theorem IsL.lst {m : Mem} {v : Val} {xs : List Val} (h : IsL m v xs) : lst m v = some xs := by
  obtain ⟨a, rfl, e⟩ := h; show itemsOf (m a) = _; rw [e]; rfl
theorem IsL.seq {m : Mem} {v : Val} {xs : List Val} (h : IsL m v xs) : seq m v = some xs := by
  obtain ⟨a, rfl, e⟩ := h; show itemsOf (m a) = _; rw [e]; rfl
theorem IsL.list {m : Mem} {v : Val} {xs : List Val} (h : IsL m v xs) : isA m v .list = some true := by
  obtain ⟨a, rfl, e⟩ := h; show (m a).bind _ = _; rw [e]; rfl
theorem IsL.stands {m m' : Mem} {v : Val} {xs : List Val} {k : ItK} (h : IsL m v xs) (h' : IsL m' v xs) : stands k v m m' := by
  cases k <;> first | trivial | exact h'.lst.trans h.lst.symm
theorem IsI.seq {m : Mem} {v : Val} {xs : List Int} (h : IsI m v xs) : TD.seq m v = some (xs.map .int) := IsL.seq h
theorem IsI.lst {m : Mem} {v : Val} {xs : List Int} (h : IsI m v xs) : TD.lst m v = some (xs.map .int) := IsL.lst h
theorem IsL.new {m : Mem} {a : Addr} {xs : List Val} : IsL (m.set a (.list xs)) (.ref a) xs := ⟨a, rfl, set_eq⟩
noncomputable abbrev dInts (is : List Int) : Dat := .list (is.map .int)
noncomputable abbrev dTab (t : List (List Int)) : Dat := .list (t.map dInts)
theorem readsL_ints {m : Mem} {is : List Int} : ReadsL m (is.map .int) (is.map .int) := by
  induction is with
  | nil => rfl
  | cons i is ih => exact Exists.intro _ ⟨_, rfl, rfl, ih⟩
theorem IsI.reads {m : Mem} {v : Val} {is : List Int} (h : IsI m v is) : Reads m (dInts is) v := Exists.intro _ ⟨h.lst, readsL_ints⟩
theorem readsL_of {β : Type} {R : Val → β → Prop} {d : β → Dat} {m : Mem} (k : ∀ v b, R v b → Reads m (d b) v) {xs : List Val} {t : List β} (h : All2 R xs t) : ReadsL m (t.map d) xs := by
  induction h with
  | nil => rfl
  | cons h _ ih => exact Exists.intro _ ⟨_, rfl, k _ _ h, ih⟩
theorem IsLL.reads {β : Type} {R : Mem → Val → β → Prop} {d : β → Dat} {m : Mem} (k : ∀ v b, R m v b → Reads m (d b) v) {v : Val} {t : List β} (h : IsLL R m v t) : Reads m (.list (t.map d)) v := by
  obtain ⟨xs, a, b⟩ := h
  exact Exists.intro xs ⟨a.lst, readsL_of k b⟩
theorem IsT.reads {m : Mem} {v : Val} {t : List (List Int)} (h : IsT m v t) : Reads m (dTab t) v := IsLL.reads (fun _ _ => IsI.reads) h

theorem beqs_map {β : Type} [DecidableEq β] {d : β → Dat} (k : ∀ a b, Dat.beq (d a) (d b) = decide (a = b)) (a : List β) : ∀ b : List β, Dat.beqs (a.map d) (b.map d) = decide (a = b) := by
  induction a with
  | nil => intro b; cases b with
    | nil => rfl
    | cons _ _ => exact (decide_eq_false (by intro h; cases h)).symm
  | cons x a ih => intro b; cases b with
    | nil => exact (decide_eq_false (by intro h; cases h)).symm
    | cons y b =>
      show (Dat.beq (d x) (d y) && Dat.beqs (a.map d) (b.map d)) = _
      rw [k, ih]
      by_cases h : x = y <;> by_cases h' : a = b <;> simp [h, h']
theorem beq_ints (a b : List Int) : Dat.beq (dInts a) (dInts b) = decide (a = b) := beqs_map (d := Dat.int) (fun _ _ => rfl) a b
theorem beq_tab (a b : List (List Int)) : Dat.beq (dTab a) (dTab b) = decide (a = b) := beqs_map beq_ints a b
theorem okN_ints {n : Nat} (is : List Int) : okN (n + 2) (dInts is) = true := by
  show (is.map Dat.int).all (okN (n + 1)) = true
  rw [List.all_eq_true]
  intro d hd
  obtain ⟨x, _, rfl⟩ := List.mem_map.mp hd
  rfl
theorem okN_tab {n : Nat} (t : List (List Int)) : okN (n + 3) (dTab t) = true := by
  show (t.map dInts).all (okN (n + 2)) = true
  rw [List.all_eq_true]
  intro d hd
  obtain ⟨x, _, rfl⟩ := List.mem_map.mp hd
  exact okN_ints x

noncomputable def pvBin (op : Bop) (a b : Int) : Option Val := match op with
  | .add => some (.int (a + b))
  | .sub => some (.int (a - b))
  | _ => none
noncomputable def pvCmp (op : Cop) (a b : Int) : Option Val := match op with
  | .eq => some (.bool (decide (a = b)))
  | .ne => some (.bool (decide (a ≠ b)))
  | .lt => some (.bool (decide (a < b)))
  | .le => some (.bool (decide (a ≤ b)))
  | .gt => some (.bool (decide (a > b)))
  | .ge => some (.bool (decide (a ≥ b)))
  | _ => none
noncomputable def asInt : Option Val → Option Int
  | some (.int i) => some i
  | _ => none
noncomputable def pv (G : String → Option Val) (loc : Loc) : Ex → Option Val
  | .nm i => getV loc i
  | .int i => some (.int i)
  | .bool b => some (.bool b)
  | .none => some .none
  | .glob x => G x
  | .str x => some (.str x)
  | .bin op a b => (asInt (pv G loc a)).bind fun x => (asInt (pv G loc b)).bind fun y => pvBin op x y
  | .cmp op a b => (asInt (pv G loc a)).bind fun x => (asInt (pv G loc b)).bind fun y => pvCmp op x y
  | _ => none
theorem asInt_inv {o : Option Val} {i : Int} (h : asInt o = some i) : o = some (.int i) := by
  cases o with
  | none => cases h
  | some v => cases v <;> first | (cases h; rfl) | cases h
theorem e_pv0 {C : CallT} {G : String → Option Val} {X : Nat → Mem → Prop} {loc : Loc} {m : Mem} (e : Ex) : ∀ (v : Val) (Q : Val → Mem → Prop), pv G loc e = some v → Q v m → wpE C G X e loc Q m := by
  have two : ∀ {a b : Ex} {f : Int → Int → Option Val} {v : Val}, ((asInt (pv G loc a)).bind fun x => (asInt (pv G loc b)).bind fun y => f x y) = some v → ∃ x y, pv G loc a = some (.int x) ∧ pv G loc b = some (.int y) ∧ f x y = some v := fun h => by
    obtain ⟨x, hx, h⟩ := Option.bind_eq_some_iff.mp h
    obtain ⟨y, hy, h⟩ := Option.bind_eq_some_iff.mp h
    exact ⟨x, y, asInt_inv hx, asInt_inv hy, h⟩
  refine Ex.rec (motive_1 := fun e => ∀ (v : Val) (Q : Val → Mem → Prop), pv G loc e = some v → Q v m → wpE C G X e loc Q m) (motive_2 := fun _ => True) ?_ ?_ ?_ ?_ ?_ ?_ ?_ ?_ ?_ ?_ ?_ ?_ ?_ ?_ ?_ ?_ ?_ ?_ ?_ ?_ ?_ ?_ ?_ ?_ ?_ ?_ ?_ ?_ ?_ ?_ ?_ ?_ ?_ ?_ trivial (fun _ _ _ _ => trivial) e
  case refine_1 => intro i v Q h hq; exact Exists.intro v ⟨h, hq⟩
  case refine_2 => intro i v Q h hq; cases h; exact hq
  case refine_3 => intro i v Q h hq; cases h; exact hq
  case refine_4 => intro v Q h hq; cases h; exact hq
  case refine_5 => intro i v Q h hq; exact Exists.intro v ⟨h, hq⟩
  case refine_6 =>
    intro op a b iha ihb v Q h hq
    obtain ⟨x, y, hx, hy, h⟩ := two h
    refine iha _ _ hx (ihb _ _ hy ?_)
    cases op <;> first | (exact nomatch (show none = some v from h)) | skip
    · cases h; exact bin_add hq
    · cases h; exact bin_sub hq
  case refine_10 =>
    intro op a b iha ihb v Q h hq
    obtain ⟨x, y, hx, hy, h⟩ := two h
    refine iha _ _ hx (ihb _ _ hy ?_)
    cases op <;> first | (exact nomatch (show none = some v from h)) | skip
    · cases h; exact cmp_eqI hq
    · cases h; exact cmp_neI hq
    · cases h; exact cmp_lt hq
    · cases h; exact cmp_le hq
    · cases h; exact cmp_gt hq
    · cases h; exact cmp_ge hq
  case refine_27 => intro i v Q h hq; cases h; exact hq
  all_goals (intros; rename_i h _; cases h)
theorem e_pv {C : CallT} {G : String → Option Val} {X : Nat → Mem → Prop} {loc : Loc} {m : Mem} (e : Ex) {v : Val} {Q : Val → Mem → Prop} (h : pv G loc e = some v) (hq : Q v m) : wpE C G X e loc Q m := e_pv0 e v Q h hq
noncomputable def pvL (G : String → Option Val) (loc : Loc) : Exs → Option (List Val)
  | .nil => some []
  | .cons e es => (pv G loc e).bind fun v => (pvL G loc es).bind fun vs => some (v :: vs)
theorem l_pv0 {C : CallT} {G : String → Option Val} {X : Nat → Mem → Prop} {loc : Loc} {m : Mem} (es : Exs) : ∀ (vs : List Val) (P : List Val → Mem → Prop), pvL G loc es = some vs → P vs m → wpL C G X es loc P m := by
  refine Exs.rec (motive_1 := fun _ => True) (motive_2 := fun es => ∀ (vs : List Val) (P : List Val → Mem → Prop), pvL G loc es = some vs → P vs m → wpL C G X es loc P m) ?_ ?_ ?_ ?_ ?_ ?_ ?_ ?_ ?_ ?_ ?_ ?_ ?_ ?_ ?_ ?_ ?_ ?_ ?_ ?_ ?_ ?_ ?_ ?_ ?_ ?_ ?_ ?_ ?_ ?_ ?_ ?_ ?_ ?_ ?_ ?_ es
  case refine_35 => intro vs P h hp; cases h; exact hp
  case refine_36 =>
    intro e es _ ih vs P h hp
    obtain ⟨v, hv, h⟩ := Option.bind_eq_some_iff.mp h
    obtain ⟨ws, hw, h⟩ := Option.bind_eq_some_iff.mp h
    cases h
    exact e_pv e hv (ih _ _ hw hp)
  all_goals (intros; trivial)
theorem l_pv {C : CallT} {G : String → Option Val} {X : Nat → Mem → Prop} {loc : Loc} {m : Mem} (es : Exs) {vs : List Val} {P : List Val → Mem → Prop} (h : pvL G loc es = some vs) (hp : P vs m) : wpL C G X es loc P m := l_pv0 es vs P h hp

section
variable {C : CallT} {G : String → Option Val} {X : Nat → Mem → Prop} {Y : Nat → Loc → Mem → Prop} {loc : Loc} {Q : Val → Mem → Prop} {m : Mem} {R : Flow → Loc → Mem → Prop} {P : Bool → Mem → Prop}
theorem eqW_of {v w : Val} {d e : Dat} {Q : Bool → Prop} (hd : Reads m d v) (he : Reads m e w) (h1 : okN 8 d = true) (h2 : okN 8 e = true) (h : Q (Dat.beq d e)) (hv : ∃ a, v = .ref a) : eqW v w Q m := by
  exact Or.inr (Or.inr ⟨d, e, hd, he, h1, h2, h⟩)
theorem cmp_eqII {v w : Val} {a b : List Int} (hv : IsI m v a) (hw : IsI m w b) (h : P (decide (a = b)) m) : wpCmp .eq v w P m := by
  show eqW v w (fun r => P r m) m
  exact eqW_of hv.reads hw.reads (okN_ints a) (okN_ints b) (by rw [beq_ints]; exact h) ⟨_, hv.choose_spec.1⟩
theorem cmp_neII {v w : Val} {a b : List Int} (hv : IsI m v a) (hw : IsI m w b) (h : P (decide (a ≠ b)) m) : wpCmp .ne v w P m := by
  show eqW v w (fun r => P (!r) m) m
  exact eqW_of hv.reads hw.reads (okN_ints a) (okN_ints b) (by rw [beq_ints]; simpa using h) ⟨_, hv.choose_spec.1⟩
theorem cmp_eqTT {v w : Val} {a b : List (List Int)} (hv : IsT m v a) (hw : IsT m w b) (h : P (decide (a = b)) m) : wpCmp .eq v w P m := by
  show eqW v w (fun r => P r m) m
  exact eqW_of hv.reads hw.reads (okN_tab a) (okN_tab b) (by rw [beq_tab]; exact h) ⟨_, hv.choose_spec.1.choose_spec.1⟩
theorem cmp_neTT {v w : Val} {a b : List (List Int)} (hv : IsT m v a) (hw : IsT m w b) (h : P (decide (a ≠ b)) m) : wpCmp .ne v w P m := by
  show eqW v w (fun r => P (!r) m) m
  exact eqW_of hv.reads hw.reads (okN_tab a) (okN_tab b) (by rw [beq_tab]; simpa using h) ⟨_, hv.choose_spec.1.choose_spec.1⟩

theorem place_nat {k : Int} {n : Nat} (h0 : 0 ≤ k) (h : k.toNat < n) : place k n = some k.toNat := by unfold place; rw [if_pos h0, if_pos h]
theorem sub_ints {v : Val} {k : Int} {is : List Int} {x : Int} (e : IsI m v is) (h0 : 0 ≤ k) (hx : is[k.toNat]? = some x) (hl : is.length < lid) (h : Q (.int x) m) : subW v (.int k) Q m := by
  have hlt : k.toNat < is.length := (List.getElem?_eq_some_iff.mp hx).1
  exact subW_ e.seq (place_nat h0 (by simpa using hlt)) (by rw [List.getElem?_map, hx]; rfl) (by simpa using hl) h
theorem sub_ll {β : Type} {S : Mem → Val → β → Prop} {v : Val} {k : Int} {t : List β} {x : β} (e : IsLL S m v t) (h0 : 0 ≤ k) (hx : t[k.toNat]? = some x) (hl : t.length < lid) (h : ∀ y, S m y x → Q y m) : subW v (.int k) Q m := by
  have hlt : k.toNat < t.length := (List.getElem?_eq_some_iff.mp hx).1
  obtain ⟨xs, e1, e2⟩ := e
  obtain ⟨y, hy, hs⟩ := e2.get' hx
  exact subW_ e1.seq (place_nat h0 (by rw [e2.length]; exact hlt)) hy (by rw [e2.length]; exact hl) (h y hs)
theorem len_ints {v : Val} {is : List Int} (e : IsI m v is) (hl : is.length < lid) (h : Q (.int is.length) m) : wpB1 .len v Q m := b1_len e.seq (by simpa using hl) (by simpa using h)
theorem len_ll {β : Type} {S : Mem → Val → β → Prop} {v : Val} {t : List β} (e : IsLL S m v t) (hl : t.length < lid) (h : Q (.int t.length) m) : wpB1 .len v Q m := by
  obtain ⟨xs, e1, e2⟩ := e
  exact b1_len e1.seq (by rw [e2.length]; exact hl) (by rw [e2.length]; exact h)
theorem isList_ints {v : Val} {is : List Int} (e : IsI m v is) (h : Q (.bool true) m) : optQ Q m (isA m v .list) := optQ_ e.list h
theorem isList_ll {β : Type} {S : Mem → Val → β → Prop} {v : Val} {t : List β} (e : IsLL S m v t) (h : Q (.bool true) m) : optQ Q m (isA m v .list) := by
  obtain ⟨xs, e1, e2⟩ := e; exact optQ_ e1.list h

theorem optQ_t {o : Option Bool} (e : o = some true) (h : Q (.bool true) m) : optQ Q m o := optQ_ e h
theorem optQ_f {o : Option Bool} (e : o = some false) (h : Q (.bool false) m) : optQ Q m o := optQ_ e h
theorem ifQ_t {T E : Mem → Prop} {b : Bool} (hb : b = true) (h : T m) : ifQ T E b m := by subst hb; exact ifQ_true h
theorem ifQ_f {T E : Mem → Prop} {b : Bool} (hb : b = false) (h : E m) : ifQ T E b m := by subst hb; exact ifQ_false h
theorem fm (a : Int) {b : Int} (h : 0 < b) : 0 ≤ a.fmod b ∧ a.fmod b < b := ⟨Int.fmod_nonneg_of_pos a h, Int.fmod_lt_of_pos a h⟩
theorem Qb {b b' : Bool} (h : Q (.bool b') m) (e : b = b') : Q (.bool b) m := by subst e; exact h
theorem Qi {b b' : Int} (h : Q (.int b') m) (e : b = b') : Q (.int b) m := by subst e; exact h
theorem comp_inv {f : Val → (List Val → Mem → Prop) → Mem → Prop} {ok : Mem → Prop} {xs : List Val} {Q' : List Val → Mem → Prop} (I : Nat → List Val → Mem → Prop) (h0 : I 0 [] m)
    (step : ∀ i x acc m, xs[i]? = some x → I i acc m → ∀ P : List Val → Mem → Prop, (∀ vs m', ok m' ∧ I (i + 1) (acc ++ vs) m' → P vs m') → f x P m)
    (done : ∀ acc m, I xs.length acc m → Q' acc m) : compLoop f ok xs [] Q' m := by
  suffices h : ∀ (acc : List Val) (m : Mem) (I : Nat → List Val → Mem → Prop), I 0 acc m → (∀ i x acc m, xs[i]? = some x → I i acc m → ∀ P : List Val → Mem → Prop, (∀ vs m', ok m' ∧ I (i + 1) (acc ++ vs) m' → P vs m') → f x P m) → (∀ acc m, I xs.length acc m → Q' acc m) → compLoop f ok xs acc Q' m from h [] m I h0 step done
  clear step done h0 I
  induction xs with
  | nil => intro acc m I h0 _ done; exact done _ _ h0
  | cons y r ih =>
    intro acc m I h0 step done
    exact step 0 y _ _ rfl h0 _ fun vs m' q => ⟨q.1, ih _ m' (fun i => I (i + 1)) q.2 (fun i x acc m e hI => step (i + 1) x acc m e hI) done⟩

noncomputable abbrev cF (C : CallT) (G : String → Option Val) (X : Nat → Mem → Prop) (elt : Ex) (t : Tg) (cond : Exs) (loc : Loc) : Val → (List Val → Mem → Prop) → Mem → Prop := compF t loc (fun l P m => wpBs C G X true cond l P m) (fun l P m => wpE C G X elt l P m)
theorem e_comp {elt : Ex} {t : Tg} {k : ItK} {src : Ex} {cond : Exs} (h : wpE C G X src loc (fun v m1 => itemsW k v (fun xs => compLoop (cF C G X elt t cond loc) (stands k v m1) xs [] (fun ys m' => freshL m' ys Q) m1) m1) m) :
    wpE C G X (.comp elt t k src cond) loc Q m := h
theorem compF_one {elt : Ex} {i : Nat} {x : Val} {P : List Val → Mem → Prop} (h : wpE C G X elt (setV loc i x) (fun y m3 => P [y] m3) m) : cF C G X elt (.one i) .nil loc x P m := Exists.intro _ ⟨rfl, ifQ_true h⟩
theorem comp_pure {elt : Ex} {i : Nat} {xs : List Val} {ok : Mem → Prop} {Q' : List Val → Mem → Prop} {g : Val → Val} (hok : ok m)
    (hstep : ∀ x ∈ xs, ∀ P : Val → Mem → Prop, P (g x) m → wpE C G X elt (setV loc i x) P m) (h : Q' (xs.map g) m) : compLoop (cF C G X elt (.one i) .nil loc) ok xs [] Q' m := by
  refine comp_inv (fun k acc m' => m' = m ∧ acc = (xs.take k).map g) ⟨rfl, by simp⟩ (fun k x acc m' hx hI P hP => ?_) fun acc m' hI => ?_
  · obtain ⟨rfl, rfl⟩ := hI
    refine compF_one (hstep x (List.mem_of_getElem? hx) _ (hP _ _ ⟨hok, rfl, ?_⟩))
    rw [List.take_add_one, hx]; simp
  · obtain ⟨rfl, rfl⟩ := hI
    rw [List.take_length]; exact h
noncomputable abbrev bF (C : CallT) (G : String → Option Val) (t : Tg) (b : Sts) (Y : Nat → Loc → Mem → Prop) : Val → (Flow → Loc → Mem → Prop) → Loc → Mem → Prop := bodyF t (fun Q' l m' => wpSs C G b Q' Y l m')
theorem bodyF_one {i : Nat} {b : Sts} {x : Val} {P : Flow → Loc → Mem → Prop} (h : wpSs C G b P Y (setV loc i x) m) : bF C G (.one i) b Y x P loc m := Exists.intro _ ⟨rfl, h⟩
end
theorem range_len (n : Int) : (rangeV n).length = n.toNat := by simp [rangeV]
theorem range_get {n : Int} {i : Nat} {x : Val} (h : (rangeV n)[i]? = some x) : i < n.toNat ∧ x = .int i := by
  unfold rangeV at h
  rw [List.getElem?_map] at h
  cases q : (List.range n.toNat)[i]? with
  | none => rw [q] at h; cases h
  | some j =>
    rw [q] at h
    obtain ⟨hl, rfl⟩ := List.getElem?_eq_some_iff.mp q
    simp at hl h
    exact ⟨by omega, h.symm⟩

end TD

namespace TD
open PySem PySem.W PyProof.Rows PySem.Calls PySem.Spec

noncomputable def chkRec (p : Program) (FT : Nat → Option Fn) (ids : List Nat) (f : Nat) : Bool := vSome (FT f) fun fn => !fn.own &&
  vSome ((recsOf p).find? fun d => d.name == Str.ofString fn.name) fun d => chkFn FT ids fn (docDef d.name d.params d.body d.scope .none .none .none)
noncomputable def chkMeth (p : Program) (loose : List Str) (FT : Nat → Option Fn) (ids : List Nat) (f : Nat) : Bool := vSome (FT f) fun fn => fn.own &&
  vSome ((plainsOf p loose).find? fun c => c.name == Str.ofString "Estate") fun c => vSome (c.meths.find? fun m => m.name == Str.ofString fn.name) fun m => chkFn FT ids fn (methDef m.name (c.name ++ "." ++ m.name) m.params m.body m.scope .none .none .none)
noncomputable def chkEst (p : Program) (loose : List Str) : Bool := vSome ((plainsOf p loose).find? fun c => c.name == Str.ofString "Estate") fun c => quietE.all fun n => c.withCmp.quiet.contains n
noncomputable def isI (d : PyData) (i : Int) : Bool := match d with
  | .int j => j == i
  | _ => false
noncomputable def chkVal (p : Program) (x : String) (i : Int) : Bool := vSome (valOf p (Str.ofString x)) fun d => isI d i
noncomputable def chkFree (p : Program) (loose : List Str) (x : Str) : Bool :=
  !startupNames.contains x && (!loose.contains x && (!((recsOf p).map (·.name)).contains x && (!((litsOf p).map (·.1)).contains x && !((clssOf p loose).map (·.name)).contains x)))

section
variable {p : Program} {loose : List Str} {mean : ExcName → Option Value} {W : Cx}
theorem est_of {mg : Str → Option Value} {h : Heap} (TE : TopE p loose mg h) (hq : chkEst p loose = true) : ∃ c C N mN, (plainsOf p loose).find? (fun c => c.name == Str.ofString "Estate") = some c ∧ EstAt mg h C N mN ∧ PlainAt h c.withCmp C N mN := by
  obtain ⟨c, hc, hq⟩ := vSome_inv hq
  have hn : c.name = Str.ofString "Estate" := beq_iff_eq.mp (List.find?_some (p := fun c : ClsRec => c.name == Str.ofString "Estate") hc)
  obtain ⟨C, N, mN, h1, P⟩ := TE c (List.mem_of_find?_eq_some hc)
  exact ⟨c, C, N, mN, hc, ⟨hn ▸ h1, P.cls, fun n hn => P.quiet n (List.contains_iff_mem.mp (List.all_eq_true.mp hq n hn))⟩, P⟩
theorem estC_of {mg : Str → Option Value} {h : Heap} (TE : TopE p loose mg h) (hq : chkEst p loose = true) : EstC mg h := fun C hC => by
  obtain ⟨c, C', N, mN, _, K, _⟩ := est_of TE hq
  obtain rfl : C' = C := by have := K.1.symm.trans hC; cases this; rfl
  exact ⟨N, mN, K⟩
theorem defs_ofO {FT : Nat → Option Fn} {ids ids2 : List Nat} (T : Top p loose mean W.mg W.mb W.base) (TE : TopE p loose W.mg W.base) (hq : chkEst p loose = true) (h : ids.all (fun f => (cond (ids2.contains f) (chkMeth p loose FT ids f) (chkRec p FT ids f))) = true) : Defs W FT ids := fun f hf fn hfn => by
  have h1 := List.all_eq_true.mp h f hf
  cases hi : ids2.contains f with
  | false =>
    rw [hi] at h1
    obtain ⟨fn', e, h2⟩ := vSome_inv h1
    obtain rfl : fn' = fn := Option.some.inj (e.symm.trans hfn)
    obtain ⟨h0, h2⟩ := and2 h2
    have h0 := not_t h0
    obtain ⟨d, hd, h3⟩ := vSome_inv h2
    have hn : d.name = Str.ofString fn'.name := beq_iff_eq.mp (List.find?_some (p := fun d : DefRec => d.name == Str.ofString fn'.name) hd)
    obtain ⟨a, o, pm, code, doc, h4, h5, h6, h7⟩ := T.fn d (List.mem_of_find?_eq_some hd)
    exact ⟨a, o, _, ⟨fun _ => hn ▸ h4, fun q => nb (h0.symm.trans q)⟩, ⟨h5, h6, rfl, rfl, rfl, rfl, h7⟩, h3⟩
  | true =>
    rw [hi] at h1
    obtain ⟨fn', e, h2⟩ := vSome_inv h1
    obtain rfl : fn' = fn := Option.some.inj (e.symm.trans hfn)
    obtain ⟨h0, h2⟩ := and2 h2
    obtain ⟨c, hc, h2⟩ := vSome_inv h2
    obtain ⟨m, hm, h3⟩ := vSome_inv h2
    obtain ⟨c', C, N, mN, hc', K, P⟩ := est_of TE hq
    obtain rfl : c = c' := Option.some.inj (hc.symm.trans hc')
    have hn : m.name = Str.ofString fn'.name := beq_iff_eq.mp (List.find?_some (p := fun m : MethRec => m.name == Str.ofString fn'.name) hm)
    obtain ⟨a, o, pm, cd, doc, h4, h5, h6, h7, h8⟩ := P.meths m (List.mem_of_find?_eq_some hm)
    exact ⟨a, o, _, ⟨fun q => nb (q.symm.trans h0), fun _ => ⟨h6, C, N, mN, K, hn ▸ h4⟩⟩, ⟨h5, h7, rfl, rfl, rfl, rfl, h8⟩, h3⟩
theorem glob_of (T : Top p loose mean W.mg W.mb W.base) {x : String} {i : Int} (h : chkVal p x i = true) : ∃ t, W.mg (Str.ofString x) = some (.int i t) := by
  obtain ⟨d, hd, h⟩ := vSome_inv h
  obtain ⟨v, hv, r⟩ := T.const _ _ hd
  cases d <;> first | exact nb h | skip
  obtain rfl := beq_iff_eq.mp h
  have r := r W.base
  cases r with
  | int _ t => exact ⟨t, hv⟩
theorem nc {α : Type} [BEq α] [LawfulBEq α] {l : List α} {x : α} (h : (!l.contains x) = true) : x ∉ l := fun q => by rw [List.contains_iff_mem.mpr q] at h; exact nb h
theorem miss_of (T : Top p loose mean W.mg W.mb W.base) {x : Str} (h : chkFree p loose x = true) : W.mg x = none := by
  obtain ⟨h1, h⟩ := and2 h
  obtain ⟨h2, h⟩ := and2 h
  obtain ⟨h3, h⟩ := and2 h
  obtain ⟨h4, h⟩ := and2 h
  exact T.free x (nc h1) (nc h2) (nc h3) (nc h4) (nc h)

theorem cxOk_of {gs : List (String × Int)} (T : Top p loose mean W.mg W.mb W.base) (hm : biNames.all (fun x => chkFree p loose (Str.ofString x)) = true) (hg : gs.all (fun q => chkVal p q.1 q.2) = true) : CxOk W (globOf gs) where
  g := T.g
  b := T.b
  nolimit := T.nolimit
  bi := T.builtins
  bmiss := fun x hx => miss_of T (List.all_eq_true.mp hm x hx)
  gl := fun x v h => by
    unfold globOf at h
    cases q : gs.lookup x with
    | none => rw [q] at h; cases h
    | some i =>
      rw [q] at h; cases h
      have hp : (x, i) ∈ gs := by
        clear hg
        induction gs with
        | nil => cases q
        | cons p r ih =>
          obtain ⟨y, j⟩ := p
          rw [List.lookup_cons] at q
          cases e : x == y with
          | true => rw [e] at q; cases q; rw [beq_iff_eq] at e; subst e; exact .head _
          | false => rw [e] at q; exact .tail _ (ih q)
      obtain ⟨t, ht⟩ := glob_of T (List.all_eq_true.mp hg _ hp)
      exact ⟨i, t, rfl, ht⟩
end

theorem ints_rel {W : Cx} {h : Heap} : ∀ {vs : List Value} {ns : List Int}, IntsAre vs ns → VRels W h (ns.map .int) vs := by
  intro vs ns e
  induction e with
  | nil => rfl
  | cons n t _ ih => exact ⟨_, _, rfl, ⟨t, rfl⟩, ih⟩

theorem Room.caller {n : Nat} (h : n ≤ 100) : Room n callerA := by
  refine ⟨rfl, ?_, ?_⟩
  · show 4 + 100 + 20 * n < 9900
    omega
  · show 1 + 300 + 5 + 5 * n < 1000
    omega

theorem law_run {prog p : Program} {loose : List Str} {mean : ExcName → Option Value} {w : World} {s₁ : Shared} {mg mb : Str → Option Value} {FT : Nat → Option Fn} {ids : List Nat} {gs : List (String × Int)} {f n : Nat} {fn : Fn} {fa a : Addr} {vs : List Value} {ns : List Int} {Q : Value → Shared → Prop} {E : Value → Shared → Prop}
    (T : Top p loose mean mg mb s₁.heap) (hg : s₁.gens = #[])
    (hm : biNames.all (fun x => chkFree p loose (Str.ofString x)) = true) (hgs : gs.all (fun q => chkVal p q.1 q.2) = true) (EC : EstC mg s₁.heap) (D : Defs ⟨prog, w, s₁.heap, mg, mb, #[], s₁.os⟩ FT ids) (hn : n ≤ 100) (hf : f ∈ ids) (hfn : FT f = some fn) (how : fn.own = false) (hfa : mg (Str.ofString fn.name) = some (.ref fa))
    (hL : s₁.heap.IsList a vs.toArray) (hI : IntsAre vs ns)
    (hlaw : callN FT (globOf gs) n f [.frz (ns.map .int)] (fun v _ => v = .bool true) (fun _ _ => False) (fun _ => none))
    (hQ : ∀ s', s₁.heap.StaysIn s'.heap → s'.gens = #[] → s'.os = s₁.os → Q (.bool true) s') :
    wpAny (model prog w) callerA (call (.ref fa) [.ref a]) Q E s₁ := by
  let W : Cx := ⟨prog, w, s₁.heap, mg, mb, #[], s₁.os⟩
  have ok : CxOk W (globOf gs) := cxOk_of (W := W) T hm hgs
  obtain ⟨a', o, fd, h1, _, _, h4⟩ := callOk ok EC D n (Room.caller hn) f hf fn hfn
  have : a' = fa := by
    have := (h1.1 how).symm.trans hfa
    cases this; rfl
  subst this
  refine wpAny_mono (h4 _ (.inl rfl) _ [.ref a] _ _ _ s₁ E (.inl fun _ _ q => q) hlaw ⟨fun _ _ e => e, (fun _ _ e => by cases e), hg, rfl⟩ ?_) (fun v s' p => ?_) fun _ _ x => x
  · refine ⟨_, _, rfl, ⟨a, vs, rfl, hL, ints_rel hI⟩, rfl⟩
  · obtain ⟨u, mem', hu, M, S, rfl⟩ := p
    obtain rfl := hu.bool
    exact hQ s' M.stays M.gens M.os

end TD

namespace TD
noncomputable def f_is_among : Fn := { name := "is_among", np := 3, vars := ["thing", "least", "most"], body := (sts [
    .ret (.boolop true (.cons (.isinst (.nm 0) .int) (.cons (.not (.isinst (.nm 0) .bool)) (.cons (.cmp2 .le .le (.nm 1) (.nm 0) (.nm 2)) .nil))))]) }
noncomputable def f_is_row : Fn := { name := "is_row", np := 2, vars := ["thing", "many", "one"], body := (sts [
    .ifs (.boolop false (.cons (.not (.isinst (.nm 0) .list)) (.cons (.cmp .ne (.b1 .len (.nm 0)) (.nm 1)) .nil))) (sts [
      .ret (.bool false)]) .nil,
    .ret (.b1 .all (.comp (.call 0 (.cons (.nm 2) (.cons (.int 0) (.cons (.glob "MOST_WORTH") .nil)))) (.one 2) .plain (.nm 0) .nil))]) }
noncomputable def f_is_table : Fn := { name := "is_table", np := 1, vars := ["thing", "row"], body := (sts [
    .ifs (.boolop false (.cons (.not (.isinst (.nm 0) .list)) (.cons (.not (.cmp2 .le .le (.int 1) (.b1 .len (.nm 0)) (.glob "MOST_HEIRS"))) .nil))) (sts [
      .ret (.bool false)]) .nil,
    .ifs (.boolop false (.cons (.not (.isinst (.sub (.nm 0) (.int 0)) .list)) (.cons (.cmp .gt (.b1 .len (.sub (.nm 0) (.int 0))) (.glob "MOST_THINGS")) .nil))) (sts [
      .ret (.bool false)]) .nil,
    .ret (.b1 .all (.comp (.call 1 (.cons (.nm 1) (.cons (.b1 .len (.sub (.nm 0) (.int 0))) .nil))) (.one 1) .plain (.nm 0) .nil))]) }
noncomputable def f_are_things : Fn := { name := "are_things", np := 2, vars := ["thing", "many", "one"], body := (sts [
    .ifs (.boolop false (.cons (.not (.isinst (.nm 0) .list)) (.cons (.not (.b1 .all (.comp (.call 0 (.cons (.nm 2) (.cons (.int 0) (.cons (.bin .sub (.nm 1) (.int 1)) .nil)))) (.one 2) .plain (.nm 0) .nil))) .nil))) (sts [
      .ret (.bool false)]) .nil,
    .ret (.cmp .eq (.b1 .lenset (.nm 0)) (.b1 .len (.nm 0)))]) }
noncomputable def f_are_shares : Fn := { name := "are_shares", np := 3, vars := ["thing", "heirs", "many", "found", "share"], body := (sts [
    .ifs (.boolop false (.cons (.not (.isinst (.nm 0) .list)) (.cons (.cmp .ne (.b1 .len (.nm 0)) (.nm 1)) .nil))) (sts [
      .ret (.bool false)]) .nil,
    .asg 3 (.lst .nil),
    .fors (.one 4) .plain (.nm 0) (sts [
      .ifs (.boolop false (.cons (.not (.call 3 (.cons (.nm 4) (.cons (.nm 2) .nil)))) (.cons (.cmp .ne (.b1 .sorted (.nm 4)) (.nm 4)) .nil))) (sts [
        .ret (.bool false)]) .nil,
      .expr (.extend (.nm 3) (.nm 4))]),
    .ret (.cmp .eq (.b1 .lenset (.nm 3)) (.b1 .len (.nm 3)))]) }
noncomputable def f_need_table : Fn := { name := "need_table", np := 1, vars := ["table"], body := (sts [
    .ifs (.not (.call 2 (.cons (.nm 0) .nil))) (sts [
      .raise .BadTable "no table of worths"]) .nil]) }
noncomputable def f_need_shares : Fn := { name := "need_shares", np := 2, vars := ["table", "shares"], body := (sts [
    .expr (.call 5 (.cons (.nm 0) .nil)),
    .ifs (.not (.call 4 (.cons (.nm 1) (.cons (.b1 .len (.nm 0)) (.cons (.b1 .len (.sub (.nm 0) (.int 0))) .nil))))) (sts [
      .raise .BadShares "no shares"]) .nil]) }
noncomputable def f_need_heir : Fn := { name := "need_heir", np := 2, vars := ["table", "heir"], body := (sts [
    .ifs (.not (.call 0 (.cons (.nm 1) (.cons (.int 0) (.cons (.bin .sub (.b1 .len (.nm 0)) (.int 1)) .nil))))) (sts [
      .raise .BadHeir "no such heir"]) .nil]) }
noncomputable def f_sum_of : Fn := { name := "sum_of", np := 2, vars := ["row", "things", "thing"], body := (sts [
    .ret (.b1 .sum (.comp (.sub (.nm 0) (.nm 2)) (.one 2) .plain (.nm 1) .nil))]) }
noncomputable def f_L_at : Fn := { name := "_law_at", np := 2, vars := ["_law_script", "_law_k"], body := (sts [
    .ifs (.cmp .lt (.nm 1) (.b1 .len (.nm 0))) (sts [
      .ret (.sub (.nm 0) (.nm 1))]) .nil,
    .ret (.int 0)]) }
noncomputable def f_L_mixed : Fn := { name := "_law_mixed", np := 2, vars := ["_law_cell", "_law_k"], body := (sts [
    .ret (.bin .mod (.bin .mul (.bin .add (.bin .add (.nm 0) (.bin .mul (.int 7919) (.nm 1))) (.int 17)) (.int 48271)) (.int 2147483647))]) }
noncomputable def f_L_copy : Fn := { name := "_law_copy", np := 1, vars := ["_law_rows", "_law_row"], body := (sts [
    .ret (.comp (.b1 .list (.nm 1)) (.one 1) .plain (.nm 0) .nil)]) }
noncomputable def f_is_envious : Fn := { name := "is_envious", np := 4, vars := ["table", "shares", "heir", "other"], body := (sts [
    .ret (.cmp .gt (.call 8 (.cons (.sub (.nm 0) (.nm 2)) (.cons (.sub (.nm 1) (.nm 3)) .nil))) (.call 8 (.cons (.sub (.nm 0) (.nm 2)) (.cons (.sub (.nm 1) (.nm 2)) .nil))))]) }
noncomputable def f_pairs_of : Fn := { name := "pairs_of", np := 2, vars := ["table", "shares", "found", "heir", "other"], body := (sts [
    .asg 2 (.lst .nil),
    .fors (.one 3) .range (.b1 .len (.nm 0)) (sts [
      .fors (.one 4) .range (.b1 .len (.nm 0)) (sts [
        .ifs (.call 22 (.cons (.nm 0) (.cons (.nm 1) (.cons (.nm 3) (.cons (.nm 4) .nil))))) (sts [
          .expr (.append (.nm 2) (.tup (.cons (.nm 3) (.cons (.nm 4) .nil))))]) .nil])]),
    .ret (.nm 2)]) }
noncomputable def f_enviers : Fn := { name := "enviers", np := 3, vars := ["pairs", "heir", "left", "pair"], body := (sts [
    .ret (.comp (.sub (.nm 3) (.int 0)) (.one 3) .plain (.nm 0) (.cons (.boolop true (.cons (.cmp .eq (.sub (.nm 3) (.int 1)) (.nm 1)) (.cons (.cmp .inn (.sub (.nm 3) (.int 0)) (.nm 2)) .nil))) .nil))]) }
noncomputable def f_first_free : Fn := { name := "first_free", np := 2, vars := ["pairs", "left", "heir"], body := (sts [
    .fors (.one 2) .plain (.nm 1) (sts [
      .ifs (.cmp .eq (.call 30 (.cons (.nm 0) (.cons (.nm 2) (.cons (.nm 1) .nil)))) (.lst .nil)) (sts [
        .ret (.nm 2)]) .nil]),
    .ret .none]) }
noncomputable def f_parted : Fn := { name := "parted", np := 2, vars := ["pairs", "many", "found", "left", "heir", "one"], body := (sts [
    .asg 2 (.lst .nil),
    .asg 3 (.b1 .lrange (.nm 1)),
    .asg 4 (.call 31 (.cons (.nm 0) (.cons (.nm 3) .nil))),
    .whiles (.isc false (.nm 4) .none) (sts [
      .expr (.append (.nm 2) (.nm 4)),
      .asg 3 (.comp (.nm 5) (.one 5) .plain (.nm 3) (.cons (.cmp .ne (.nm 5) (.nm 4)) .nil)),
      .asg 4 (.call 31 (.cons (.nm 0) (.cons (.nm 3) .nil)))]),
    .ret (.tup (.cons (.nm 2) (.cons (.nm 3) .nil)))]) }
noncomputable def f_ring_among : Fn := { name := "ring_among", np := 2, vars := ["pairs", "left", "chain", "heir"], body := (sts [
    .asg 2 (.lst (.cons (.sub (.nm 1) (.int 0)) .nil)),
    .asg 3 (.sub (.call 30 (.cons (.nm 0) (.cons (.sub (.nm 1) (.int 0)) (.cons (.nm 1) .nil)))) (.int 0)),
    .whiles (.cmp .notin (.nm 3) (.nm 2)) (sts [
      .expr (.append (.nm 2) (.nm 3)),
      .asg 3 (.sub (.call 30 (.cons (.nm 0) (.cons (.nm 3) (.cons (.nm 1) .nil)))) (.int 0))]),
    .ret (.b1 .lrev (.slice true (.nm 2) (.index (.nm 2) (.nm 3))))]) }
noncomputable def f_ring_of : Fn := { name := "ring_of", np := 2, vars := ["table", "shares", "pairs", "left"], body := (sts [
    .asg 2 (.call 23 (.cons (.nm 0) (.cons (.nm 1) .nil))),
    .asg 3 (.sub (.call 32 (.cons (.nm 2) (.cons (.b1 .len (.nm 0)) .nil))) (.int 1)),
    .ifs (.cmp .eq (.nm 3) (.lst .nil)) (sts [
      .ret .none]) .nil,
    .ret (.call 33 (.cons (.nm 2) (.cons (.nm 3) .nil)))]) }
noncomputable def f_turned_by : Fn := { name := "turned_by", np := 2, vars := ["shares", "heirs", "found", "place", "share"], body := (sts [
    .asg 2 (.comp (.b1 .list (.nm 4)) (.one 4) .plain (.nm 0) .nil),
    .fors (.one 3) .range (.b1 .len (.nm 1)) (sts [
      .asgSub (.nm 2) (.sub (.nm 1) (.nm 3)) (.b1 .list (.sub (.nm 0) (.sub (.nm 1) (.bin .mod (.bin .add (.nm 3) (.int 1)) (.b1 .len (.nm 1))))))]),
    .ret (.nm 2)]) }
noncomputable def f_need_aside : Fn := { name := "need_aside", np := 3, vars := ["table", "shares", "thing", "share"], body := (sts [
    .ifs (.not (.call 0 (.cons (.nm 2) (.cons (.int 0) (.cons (.bin .sub (.b1 .len (.sub (.nm 0) (.int 0))) (.int 1)) .nil))))) (sts [
      .raise .BadThing "no such thing"]) .nil,
    .fors (.one 3) .plain (.nm 1) (sts [
      .ifs (.cmp .inn (.nm 2) (.nm 3)) (sts [
        .raise .BadThing "the thing does not lie aside"]) .nil])]) }
noncomputable def f_given : Fn := { name := "given", np := 3, vars := ["table", "shares", "thing", "found", "now", "heirs", "heir", "share"], body := (sts [
    .asg 3 (.lst .nil),
    .asg 4 (.comp (.b1 .list (.nm 7)) (.one 7) .plain (.nm 1) .nil),
    .asg 5 (.call 34 (.cons (.nm 0) (.cons (.nm 4) .nil))),
    .whiles (.isc false (.nm 5) .none) (sts [
      .expr (.append (.nm 3) (.tup (.cons (.str "ring") (.cons (.b1 .tuple (.nm 5)) .nil)))),
      .asg 4 (.call 37 (.cons (.nm 4) (.cons (.nm 5) .nil))),
      .asg 5 (.call 34 (.cons (.nm 0) (.cons (.nm 4) .nil)))]),
    .asg 6 (.call 31 (.cons (.call 23 (.cons (.nm 0) (.cons (.nm 4) .nil))) (.cons (.b1 .lrange (.b1 .len (.nm 0))) .nil))),
    .expr (.append (.nm 3) (.tup (.cons (.str "give") (.cons (.nm 2) (.cons (.nm 6) .nil))))),
    .asgSub (.nm 4) (.nm 6) (.b1 .sorted (.bin .add (.sub (.nm 4) (.nm 6)) (.lst (.cons (.nm 2) .nil)))),
    .ret (.tup (.cons (.nm 3) (.cons (.nm 4) .nil)))]) }
noncomputable def f_steps : Fn := { name := "steps", np := 3, vars := ["table", "shares", "thing"], body := (sts [
    .expr (.call 6 (.cons (.nm 0) (.cons (.nm 1) .nil))),
    .expr (.call 40 (.cons (.nm 0) (.cons (.nm 1) (.cons (.nm 2) .nil)))),
    .ret (.sub (.call 41 (.cons (.nm 0) (.cons (.nm 1) (.cons (.nm 2) .nil)))) (.int 0))]) }
noncomputable def f_awarded : Fn := { name := "awarded", np := 3, vars := ["table", "shares", "thing"], body := (sts [
    .expr (.call 6 (.cons (.nm 0) (.cons (.nm 1) .nil))),
    .expr (.call 40 (.cons (.nm 0) (.cons (.nm 1) (.cons (.nm 2) .nil)))),
    .ret (.sub (.call 41 (.cons (.nm 0) (.cons (.nm 1) (.cons (.nm 2) .nil)))) (.int 1))]) }
noncomputable def f_dealt_by : Fn := { name := "dealt_by", np := 1, vars := ["table", "shares", "thing", "row"], body := (sts [
    .asg 1 (.comp (.lst .nil) (.one 3) .plain (.nm 0) .nil),
    .fors (.one 2) .range (.b1 .len (.sub (.nm 0) (.int 0))) (sts [
      .asg 1 (.sub (.call 41 (.cons (.nm 0) (.cons (.nm 1) (.cons (.nm 2) .nil)))) (.int 1))]),
    .ret (.nm 1)]) }
noncomputable def f_dealt : Fn := { name := "dealt", np := 1, vars := ["table"], body := (sts [
    .expr (.call 5 (.cons (.nm 0) .nil)),
    .ret (.call 44 (.cons (.nm 0) .nil))]) }
noncomputable def f_Estate___init__ : Fn := { own := true, name := "__init__", np := 2, vars := ["self", "heirs", "heir", "heir"], body := (sts [
    .ifs (.not (.call 0 (.cons (.nm 1) (.cons (.int 1) (.cons (.glob "MOST_HEIRS") .nil))))) (sts [
      .raise .BadHeir "no such number of heirs"]) .nil,
    .asgAttr (.nm 0) 0 (.comp (.lst .nil) (.one 2) .range (.nm 1) .nil),
    .asgAttr (.nm 0) 1 (.comp (.lst .nil) (.one 3) .range (.nm 1) .nil)]) }
noncomputable def f_Estate_shares : Fn := { own := true, name := "shares", np := 1, vars := ["self", "share"], body := (sts [
    .ret (.comp (.b1 .list (.nm 1)) (.one 1) .plain (.attr (.nm 0) 1) .nil)]) }
noncomputable def f_Estate_table : Fn := { own := true, name := "table", np := 1, vars := ["self", "row"], body := (sts [
    .ret (.comp (.b1 .list (.nm 1)) (.one 1) .plain (.attr (.nm 0) 0) .nil)]) }
noncomputable def f_Estate_come_2 : Fn := { own := true, name := "come", np := 2, vars := ["self", "worths", "thing", "heir"], body := (sts [
    .ifs (.not (.call 1 (.cons (.nm 1) (.cons (.b1 .len (.attr (.nm 0) 0)) .nil)))) (sts [
      .raise .BadTable "a worth for each heir is wanted"]) .nil,
    .asg 2 (.b1 .len (.sub (.attr (.nm 0) 0) (.int 0))),
    .ifs (.cmp .eq (.nm 2) (.glob "MOST_THINGS")) (sts [
      .raise .Full "too many things"]) .nil,
    .fors (.one 3) .range (.b1 .len (.nm 1)) (sts [
      .expr (.append (.sub (.attr (.nm 0) 0) (.nm 3)) (.sub (.nm 1) (.nm 3)))]),
    .asgAttr (.nm 0) 1 (.sub (.call 41 (.cons (.attr (.nm 0) 0) (.cons (.attr (.nm 0) 1) (.cons (.nm 2) .nil)))) (.int 1)),
    .ret (.nm 2)]) }
noncomputable def f_Estate_go_2 : Fn := { own := true, name := "go", np := 2, vars := ["self", "heir", "things", "thing"], body := (sts [
    .expr (.call 7 (.cons (.attr (.nm 0) 0) (.cons (.nm 1) .nil))),
    .ifs (.cmp .eq (.b1 .len (.attr (.nm 0) 0)) (.int 1)) (sts [
      .raise .BadHeir "the only heir"]) .nil,
    .asg 2 (.sub (.attr (.nm 0) 1) (.nm 1)),
    .asgAttr (.nm 0) 0 (.bin .add (.slice false (.attr (.nm 0) 0) (.nm 1)) (.slice true (.attr (.nm 0) 0) (.bin .add (.nm 1) (.int 1)))),
    .asgAttr (.nm 0) 1 (.bin .add (.slice false (.attr (.nm 0) 1) (.nm 1)) (.slice true (.attr (.nm 0) 1) (.bin .add (.nm 1) (.int 1)))),
    .fors (.one 3) .plain (.nm 2) (sts [
      .asgAttr (.nm 0) 1 (.sub (.call 41 (.cons (.attr (.nm 0) 0) (.cons (.attr (.nm 0) 1) (.cons (.nm 3) .nil)))) (.int 1))])]) }
noncomputable def f_Estate_join_2 : Fn := { own := true, name := "join", np := 2, vars := ["self", "worths"], body := (sts [
    .ifs (.not (.call 1 (.cons (.nm 1) (.cons (.b1 .len (.sub (.attr (.nm 0) 0) (.int 0))) .nil)))) (sts [
      .raise .BadTable "a worth of each thing is wanted"]) .nil,
    .ifs (.cmp .eq (.b1 .len (.attr (.nm 0) 0)) (.glob "MOST_HEIRS")) (sts [
      .raise .Full "too many heirs"]) .nil,
    .expr (.append (.attr (.nm 0) 0) (.b1 .list (.nm 1))),
    .asgAttr (.nm 0) 1 (.call 44 (.cons (.attr (.nm 0) 0) .nil)),
    .ret (.bin .sub (.b1 .len (.attr (.nm 0) 0)) (.int 1))]) }
noncomputable def f_L_sum_2 : Fn := { name := "_law_sum", np := 2, vars := ["_law_row", "_law_things", "_law_found", "_law_thing"], body := (sts [
    .asg 2 (.int 0),
    .fors (.one 3) .plain (.nm 1) (sts [
      .asg 2 (.bin .add (.nm 2) (.sub (.nm 0) (.nm 3)))]),
    .ret (.nm 2)]) }
noncomputable def f_L_worth_2 : Fn := { name := "_law_worth", np := 1, vars := ["_law_number"], body := (sts [
    .ret (.sub (.lst (.cons (.bin .mod (.bin .fdiv (.nm 0) (.int 4)) (.int 1000001)) (.cons (.bin .sub (.int 1000000) (.bin .mod (.bin .fdiv (.nm 0) (.int 4)) (.int 3))) (.cons (.bin .mod (.bin .fdiv (.nm 0) (.int 4)) (.int 7)) (.cons (.bin .mod (.bin .fdiv (.nm 0) (.int 4)) (.int 40)) .nil))))) (.bin .mod (.nm 0) (.int 4)))]) }
noncomputable def f_L_to : Fn := { name := "_law_to", np := 2, vars := ["_law_row", "_law_held", "_law_sums", "_law_share"], body := (sts [
    .asg 2 (.comp (.call 108 (.cons (.nm 0) (.cons (.nm 3) .nil))) (.one 3) .plain (.nm 1) .nil),
    .ret (.index (.nm 2) (.b1 .minL (.nm 2)))]) }
noncomputable def f_L_put : Fn := { name := "_law_put", np := 3, vars := ["_law_row", "_law_held", "_law_things", "_law_thing", "_law_heir"], body := (sts [
    .asg 1 (.call 18 (.cons (.nm 1) .nil)),
    .fors (.one 3) .plain (.nm 2) (sts [
      .asg 4 (.call 146 (.cons (.nm 0) (.cons (.nm 1) .nil))),
      .asgSub (.nm 1) (.nm 4) (.b1 .sorted (.bin .add (.sub (.nm 1) (.nm 4)) (.lst (.cons (.nm 3) .nil))))]),
    .ret (.nm 1)]) }
noncomputable def f_L_moved_2 : Fn := { name := "_law_moved", np := 4, vars := ["_law_estate", "_law_cell", "_law_row", "_law_held", "_law_number", "_law_heirs", "_law_handed", "_law_heir", "_law_heir"], body := (sts [
    .asg 4 (.bin .fdiv (.call 11 (.cons (.nm 1) (.cons (.int 1) .nil))) (.int 3)),
    .asg 5 (.b1 .len (.nm 3)),
    .ifs (.boolop true (.cons (.cmp .lt (.bin .mod (.nm 1) (.int 8)) (.int 5)) (.cons (.cmp .lt (.b1 .len (.nm 2)) (.int 14)) .nil))) (sts [
      .asg 6 (.bin .mul (.lst (.cons (.call 110 (.cons (.nm 4) .nil)) .nil)) (.nm 5)),
      .ifs (.cmp .ne (.meth (.nm 0) 105 (.cons (.nm 6) .nil)) (.b1 .len (.nm 2))) (sts [
        .ret .none]) .nil,
      .asg 2 (.bin .add (.nm 2) (.lst (.cons (.call 110 (.cons (.nm 4) .nil)) .nil))),
      .ret (.tup (.cons (.nm 2) (.cons (.call 147 (.cons (.nm 2) (.cons (.nm 3) (.cons (.lst (.cons (.bin .sub (.b1 .len (.nm 2)) (.int 1)) .nil)) .nil)))) .nil)))]) .nil,
    .ifs (.boolop true (.cons (.cmp .lt (.bin .mod (.nm 1) (.int 8)) (.int 7)) (.cons (.cmp .gt (.nm 5) (.int 1)) .nil))) (sts [
      .asg 7 (.bin .mod (.nm 4) (.nm 5)),
      .ifs (.isc false (.meth (.nm 0) 106 (.cons (.nm 7) .nil)) .none) (sts [
        .ret .none]) .nil,
      .ret (.tup (.cons (.nm 2) (.cons (.call 147 (.cons (.nm 2) (.cons (.bin .add (.slice false (.nm 3) (.nm 7)) (.slice true (.nm 3) (.bin .add (.nm 7) (.int 1)))) (.cons (.sub (.nm 3) (.nm 7)) .nil)))) .nil)))]) .nil,
    .ifs (.cmp .lt (.nm 5) (.int 8)) (sts [
      .ifs (.cmp .ne (.meth (.nm 0) 107 (.cons (.b1 .list (.nm 2)) .nil)) (.nm 5)) (sts [
        .ret .none]) .nil,
      .ret (.tup (.cons (.nm 2) (.cons (.call 147 (.cons (.nm 2) (.cons (.comp (.lst .nil) (.one 8) .range (.bin .add (.nm 5) (.int 1)) .nil) (.cons (.b1 .lrange (.b1 .len (.nm 2))) .nil)))) .nil)))]) .nil,
    .ret (.tup (.cons (.nm 2) (.cons (.nm 3) .nil)))]) }
noncomputable def f_L_told : Fn := { name := "_law_told", np := 2, vars := ["_law_row", "_law_held", "_law_rows", "_law_empty", "_law_found", "_law_last", "_law_ahead", "_law_heir", "_law_share", "_law_share", "_law_share", "_law_thing", "_law_share"], body := (sts [
    .asg 2 (.comp (.b1 .list (.nm 0)) (.one 8) .plain (.nm 1) .nil),
    .asg 3 (.comp (.lst .nil) (.one 9) .plain (.nm 1) .nil),
    .asg 4 (.call 45 (.cons (.nm 2) .nil)),
    .ifs (.cmp .ne (.nm 4) (.call 147 (.cons (.nm 0) (.cons (.nm 3) (.cons (.b1 .lrange (.b1 .len (.nm 0))) .nil))))) (sts [
      .ret (.bool false)]) .nil,
    .expr (.clear (.nm 4)),
    .ifs (.cmp .eq (.b1 .len (.nm 0)) (.int 0)) (sts [
      .ret (.cmp .eq (.call 45 (.cons (.nm 2) .nil)) (.nm 3))]) .nil,
    .asg 5 (.bin .sub (.b1 .len (.nm 0)) (.int 1)),
    .asg 6 (.comp (.comp (.nm 11) (.one 11) .plain (.nm 10) (.cons (.cmp .ne (.nm 11) (.nm 5)) .nil)) (.one 10) .plain (.nm 1) .nil),
    .asg 7 (.call 146 (.cons (.nm 0) (.cons (.nm 6) .nil))),
    .ifs (.cmp .ne (.call 42 (.cons (.nm 2) (.cons (.nm 6) (.cons (.nm 5) .nil)))) (.lst (.cons (.tup (.cons (.str "give") (.cons (.nm 5) (.cons (.nm 7) .nil)))) .nil))) (sts [
      .ret (.bool false)]) .nil,
    .asg 4 (.call 43 (.cons (.nm 2) (.cons (.nm 6) (.cons (.nm 5) .nil)))),
    .ret (.boolop true (.cons (.cmp .eq (.nm 4) (.call 147 (.cons (.nm 0) (.cons (.nm 6) (.cons (.lst (.cons (.nm 5) .nil)) .nil))))) (.cons (.cmp .eq (.nm 2) (.comp (.b1 .list (.nm 0)) (.one 12) .plain (.nm 1) .nil)) .nil)))]) }
noncomputable def f_L_looked_2 : Fn := { name := "_law_looked", np := 4, vars := ["_law_estate", "_law_row", "_law_held", "_law_way", "_law_found", "_law_share", "_law_share", "_law_share"], body := (sts [
    .ifs (.boolop true (.cons (.cmp .eq (.nm 3) (.int 1)) (.cons (.cmp .ne (.meth (.nm 0) 64 .nil) (.comp (.nm 1) (.one 6) .plain (.nm 2) .nil)) .nil))) (sts [
      .ret (.bool false)]) .nil,
    .asg 4 (.meth (.nm 0) 63 .nil),
    .ifs (.boolop false (.cons (.cmp .ne (.nm 4) (.nm 2)) (.cons (.cmp .ne (.meth (.nm 0) 64 .nil) (.comp (.nm 1) (.one 7) .plain (.nm 2) .nil)) .nil))) (sts [
      .ret (.bool false)]) .nil,
    .fors (.one 5) .plain (.nm 4) (sts [
      .expr (.append (.nm 5) (.neg (.int 1)))]),
    .ret (.cmp .eq (.meth (.nm 0) 63 .nil) (.nm 2))]) }
noncomputable def f_law_15 : Fn := { name := "law", np := 1, vars := ["_law_script", "_law_heirs", "_law_estate", "_law_row", "_law_held", "_law_cell", "_law_moved_here", "_law_heir"], body := (sts [
    .asg 1 (.bin .add (.int 1) (.bin .mod (.call 10 (.cons (.nm 0) (.cons (.int 0) .nil))) (.int 4))),
    .ifs (.cmp .eq (.bin .mod (.bin .fdiv (.call 10 (.cons (.nm 0) (.cons (.int 0) .nil))) (.int 4)) (.int 8)) (.int 1)) (sts [
      .asg 1 (.bin .add (.nm 1) (.int 4))]) .nil,
    .asg 2 (.new 59 (.cons (.nm 1) .nil)),
    .asg 3 (.lst .nil),
    .asg 4 (.comp (.lst .nil) (.one 7) .range (.nm 1) .nil),
    .fors (.one 5) .plain (.cut (.nm 0) 1 17) (sts [
      .asg 6 (.call 148 (.cons (.nm 2) (.cons (.nm 5) (.cons (.nm 3) (.cons (.nm 4) .nil))))),
      .ifs (.isc true (.nm 6) .none) (sts [
        .ret (.bool false)]) .nil,
      .asg 3 (.sub (.nm 6) (.int 0)),
      .asg 4 (.sub (.nm 6) (.int 1)),
      .ifs (.boolop true (.cons (.cmp .eq (.bin .mod (.bin .fdiv (.nm 5) (.int 32)) (.int 2)) (.int 0)) (.cons (.not (.call 150 (.cons (.nm 2) (.cons (.nm 3) (.cons (.nm 4) (.cons (.bin .mod (.bin .fdiv (.nm 5) (.int 16)) (.int 2)) .nil)))))) .nil))) (sts [
        .ret (.bool false)]) .nil]),
    .ret (.boolop true (.cons (.call 150 (.cons (.nm 2) (.cons (.nm 3) (.cons (.nm 4) (.cons (.int 0) .nil))))) (.cons (.call 149 (.cons (.nm 3) (.cons (.nm 4) .nil))) .nil)))]) }
noncomputable def FT : Nat → Option Fn
  | 0 => some f_is_among
  | 1 => some f_is_row
  | 2 => some f_is_table
  | 3 => some f_are_things
  | 4 => some f_are_shares
  | 5 => some f_need_table
  | 6 => some f_need_shares
  | 7 => some f_need_heir
  | 8 => some f_sum_of
  | 10 => some f_L_at
  | 11 => some f_L_mixed
  | 18 => some f_L_copy
  | 22 => some f_is_envious
  | 23 => some f_pairs_of
  | 30 => some f_enviers
  | 31 => some f_first_free
  | 32 => some f_parted
  | 33 => some f_ring_among
  | 34 => some f_ring_of
  | 37 => some f_turned_by
  | 40 => some f_need_aside
  | 41 => some f_given
  | 42 => some f_steps
  | 43 => some f_awarded
  | 44 => some f_dealt_by
  | 45 => some f_dealt
  | 59 => some f_Estate___init__
  | 63 => some f_Estate_shares
  | 64 => some f_Estate_table
  | 105 => some f_Estate_come_2
  | 106 => some f_Estate_go_2
  | 107 => some f_Estate_join_2
  | 108 => some f_L_sum_2
  | 110 => some f_L_worth_2
  | 146 => some f_L_to
  | 147 => some f_L_put
  | 148 => some f_L_moved_2
  | 149 => some f_L_told
  | 150 => some f_L_looked_2
  | 151 => some f_law_15
  | _ => none

end TD

namespace TD
open PySem (Str Addr)

noncomputable def GS : List (String × Int) := [("MOST_HEIRS", 8), ("MOST_THINGS", 40), ("MOST_WORTH", 1000000)]
noncomputable abbrev CN (n : Nat) : CallT := callN FT (globOf GS) n

local macro_rules | `(tactic| walk_at "s") => `(tactic| with_reducible (first
  | refine s_cons ?_ | refine seqQ_next ?_ | refine seqQ_ret ?_ | refine retQ_ret ?_ | refine retQ_next ?_ | refine s_nil ?_ | refine s_ret ?_ | refine s_asg ?_ | refine s_ifs ?_ | refine s_expr ?_ | refine s_fors ?_
  | refine e_pv _ (by with_unfolding_all rfl) ?_ | refine l_pv _ (by with_unfolding_all rfl) ?_
  | refine e_bin ?_ | refine e_negI ?_ | refine e_not ?_ | refine asB_ ?_ | refine e_boolop ?_ | refine bs_cons ?_ | refine bs_nil ?_ | refine e_cmp ?_ | refine e_cmp2 ?_ | refine e_isN ?_ | refine e_call ?_ | refine l_nil ?_ | refine l_cons ?_
  | refine e_b1 ?_ | refine e_isinst ?_ | refine e_append ?_ | refine e_extend ?_ | refine e_pop ?_ | refine e_index ?_ | refine s_asgSub ?_ | refine e_attr ?_ | refine e_meth ?_ | refine e_new ?_ | refine e_cut ?_ | refine s_asgAttr ?_ | refine e_sub ?_ | refine e_slice ?_ | refine e_mm ?_ | refine mmQ_ ?_ | refine e_lst ?_ | refine e_tup ?_ | refine e_comp ?_
  | refine bin_add ?_ | refine bin_sub ?_ | refine bin_mod (by unfold tiny; omega) ?_ | refine bin_fdiv (by unfold tiny; omega) ?_
  | refine cmp_lt ?_ | refine cmp_le ?_ | refine cmp_gt ?_ | refine cmp_ge ?_ | refine cmp_eqI ?_ | refine cmp_neI ?_
  | refine bsQ_nil ?_ | refine bsQ_and_true ?_ | refine bsQ_and_false ?_ | refine bsQ_or_true ?_ | refine bsQ_or_false ?_ | refine ifQ_true ?_ | refine ifQ_false ?_ | refine plain_none ?_ | refine optQ_t (by with_unfolding_all rfl) ?_ | refine optQ_f (by with_unfolding_all rfl) ?_ | simp only [Bool.not_false, Bool.not_true]))
local macro_rules | `(tactic| walk_at "in") => `(tactic| (refine call_eq rfl rfl ?_; dsimp only [f_is_among, f_is_row, f_is_table, f_are_things, f_are_shares, f_need_table, f_need_shares, f_need_heir, f_sum_of, f_L_at, f_L_mixed, f_L_copy, f_is_envious, f_pairs_of, f_enviers, f_first_free, f_parted, f_ring_among, f_ring_of, f_turned_by, f_need_aside, f_given, f_steps, f_awarded, f_dealt_by, f_dealt, f_Estate___init__, f_Estate_shares, f_Estate_table, f_Estate_come_2, f_Estate_go_2, f_Estate_join_2, f_L_sum_2, f_L_worth_2, f_L_to, f_L_put, f_L_moved_2, f_L_told, f_L_looked_2, f_law_15,
  sts, loc0, List.map, List.replicate, List.cons_append, List.nil_append, List.length, Nat.reduceAdd, Nat.reduceSub]))
local macro_rules | `(tactic| walk_at "ss") => `(tactic| repeat walk_at "s")

theorem lid_of {n : Nat} (h : n < 1000) : n < lid := Nat.lt_of_lt_of_le h (by decide)
theorem rng_lid {n : Int} (h : 0 ≤ n ∧ n ≤ 100) : 0 ≤ n ∧ n < lid := ⟨h.1, by unfold lid; omega⟩

section
variable {Q : Val → Mem → Prop} {X : Nat → Mem → Prop} {m : Mem} {n : Nat}

theorem is_among_spec {v lo hi : Int} (h : Q (.bool (decide (lo ≤ v ∧ v ≤ hi))) m) : CN (n + 1) 0 [.int v, .int lo, .int hi] Q X m := by
  walk_at "in"
  walk_at "ss"
  with_reducible refine ifQ_dec (fun q => ?_) (fun q => ?_)
  · walk_at "ss"
    simp at q
    simpa [q] using h
  · walk_at "ss"
    simp at q
    have : ¬ (lo ≤ v ∧ v ≤ hi) := by omega
    simpa [this] using h

noncomputable def inW01 (x : Int) : Bool := decide (0 ≤ x ∧ x ≤ 1000000)
theorem is_row_spec {v : Val} {r : List Int} {many : Int} (hv : IsI m v r) (hl : r.length < 1000) (h : ∀ m', Ext m m' → Q (.bool (decide ((r.length : Int) = many) && r.all inW01)) m') : CN (n + 2) 1 [v, .int many] Q X m := by
  walk_at "in"
  walk_at "ss"
  refine isList_ints hv ?_
  walk_at "ss"
  refine len_ints hv (lid_of (by first | assumption | omega)) ?_
  walk_at "ss"
  with_reducible refine ifQ_dec (fun q => ?_) (fun q => ?_)
  · walk_at "ss"
    simp at q
    have := h m .refl
    simpa [q] using this
  · walk_at "ss"
    simp at q
    refine items_list hv.seq (by unfold lid; simp; omega) ?_
    refine comp_pure (g := fun x => match x with | .int i => .bool (inW01 i) | _ => .none) rfl (fun x hx P hP => ?_) ?_
    · obtain ⟨i, _, rfl⟩ := List.mem_map.mp hx
      walk_at "ss"
      exact is_among_spec hP
    · refine freshL_ (by unfold lid; simp; omega) (fun a ha => ?_)
      refine b1_all (bs := r.map inW01) (by rw [IsL.new.lst]; simp) ?_
      walk_at "ss"
      exact Qb (h _ (Ext.set ha)) (by simp [q, List.all_map, Function.comp_def])

noncomputable def rowOk (k : Nat) (r : List Int) : Bool := decide (r.length = k) && r.all inW01
noncomputable def tabOk (t : List (List Int)) : Bool := match t with
  | [] => false
  | r :: _ => decide (t.length ≤ 8) && (decide (r.length ≤ 40) && t.all (rowOk r.length))
theorem is_table_spec {v : Val} {t : List (List Int)} (hv : IsT m v t) (hl : t.length < 1000) (hr : ∀ r ∈ t, r.length < 1000) (h : ∀ m', Ext m m' → Q (.bool (tabOk t)) m') : CN (n + 3) 2 [v] Q X m := by
  walk_at "in"
  walk_at "ss"
  refine isList_ll hv ?_
  walk_at "ss"
  refine len_ll hv (lid_of (by first | assumption | omega)) ?_
  walk_at "ss"
  have noneg : tabOk t = true → 1 ≤ t.length ∧ t.length ≤ 8 := fun q => by
    cases t with
    | nil => cases q
    | cons r t => simp [tabOk] at q; exact ⟨by simp, by simpa using q.1⟩
  with_reducible refine ifQ_dec (fun q1 => ?_) (fun q1 => ?_)
  rotate_left
  · walk_at "ss"
    exact Qb (h m .refl) (by simp at q1; cases e : tabOk t with | false => rfl | true => have := noneg e; omega)
  walk_at "ss"
  with_reducible refine ifQ_dec (fun q => ?_) (fun q => ?_)
  · walk_at "ss"
    exact Qb (h m .refl) (by simp at q; cases e : tabOk t with | false => rfl | true => have := noneg e; omega)
  simp at q q1
  cases t with
  | nil => simp at q1
  | cons r t =>
  have hr0 := hr r (.head _)
  walk_at "ss"
  refine sub_ll hv (by omega) (x := r) (by simp) (lid_of (by first | assumption | omega)) fun y hy => ?_
  refine isList_ints hy ?_
  walk_at "ss"
  refine sub_ll hv (by omega) (x := r) (by simp) (lid_of (by first | assumption | omega)) fun y hy => ?_
  refine len_ints hy (lid_of (by first | assumption | omega)) ?_
  walk_at "ss"
  with_reducible refine ifQ_dec (fun q2 => ?_) (fun q2 => ?_)
  · walk_at "ss"
    exact Qb (h m .refl) (by simp at q2; simp [tabOk]; intro _ h1; omega)
  simp at q2
  walk_at "ss"
  obtain ⟨xs, e1, e2⟩ := hv
  refine items_list e1.seq (by rw [e2.length]; unfold lid; omega) ?_
  have hv : IsT m v (r :: t) := ⟨xs, e1, e2⟩
  refine comp_inv (fun k acc m' => Ext m m' ∧ acc = ((r :: t).take k).map fun x => .bool (rowOk r.length x)) ⟨.refl, by simp⟩ (fun k x acc m' hx hI P hP => ?_) fun acc m' hI => ?_
  · obtain ⟨E, rfl⟩ := hI
    obtain ⟨z, hz, hxz⟩ := e2.get hx
    refine compF_one ?_
    walk_at "ss"
    refine sub_ll (hv.ext E) (by omega) (x := r) (by simp) (lid_of (by first | assumption | omega)) fun y hy => ?_
    refine len_ints hy (lid_of (by first | assumption | omega)) ?_
    walk_at "ss"
    refine is_row_spec (hxz.ext E) (hr z (List.mem_of_getElem? hz)) fun m2 E2 => ?_
    refine hP _ _ ⟨?_, E.trans E2, ?_⟩
    · exact e1.stands (e1.ext (E.trans E2))
    · rw [List.take_add_one, hz]; simp [rowOk, show ((z.length : Int) = r.length) = (z.length = r.length) by simp only [eq_iff_iff]; omega]
  · obtain ⟨E, rfl⟩ := hI
    rw [e2.length, List.take_length]
    refine freshL_ (by unfold lid; simp at hl ⊢; omega) (fun a ha => ?_)
    refine b1_all (bs := (r :: t).map (rowOk r.length)) (by rw [IsL.new.lst]; simp) ?_
    walk_at "ss"
    exact Qb (h _ (E.trans (Ext.set ha))) (by
      have h1 : (r :: t).length ≤ 8 := by omega
      have h2 : r.length ≤ 40 := by omega
      simp only [tabOk, List.all_map, Function.comp_def, h1, h2, decide_true, Bool.true_and, id])

theorem are_things_spec {v : Val} {is : List Int} {many : Int} (hv : IsI m v is) (hl : is.length < 1000) (h : ∀ m', Ext m m' → Q (.bool (is.all (fun x => decide (0 ≤ x ∧ x ≤ many - 1)) && decide is.Nodup)) m') : CN (n + 2) 3 [v, .int many] Q X m := by
  walk_at "in"
  walk_at "ss"
  refine isList_ints hv ?_
  walk_at "ss"
  refine items_list hv.seq (by unfold lid; simp; omega) ?_
  refine comp_pure (g := fun x => match x with | .int i => .bool (decide (0 ≤ i ∧ i ≤ many - 1)) | _ => .none) rfl (fun x hx P hP => ?_) ?_
  · obtain ⟨i, _, rfl⟩ := List.mem_map.mp hx
    walk_at "ss"
    exact is_among_spec hP
  refine freshL_ (by unfold lid; simp; omega) (fun a ha => ?_)
  refine b1_all (bs := is.map (fun i => decide (0 ≤ i ∧ i ≤ many - 1))) (by rw [IsL.new.lst]; simp) ?_
  walk_at "ss"
  have E : Ext m _ := Ext.set ha (o := AObj.list (List.map (fun x => match x with | .int i => .bool (decide (0 ≤ i ∧ i ≤ many - 1)) | _ => .none) (List.map Val.int is)))
  with_reducible refine ifQ_dec (fun q => ?_) (fun q => ?_)
  · walk_at "ss"
    exact Qb (h _ E) (by simp [List.all_map, Function.comp_def] at q ⊢; obtain ⟨x, h1, h2⟩ := q; intro h3; have := h3 x h1; omega)
  · walk_at "ss"
    refine b1_lenset (hv.ext E).lst hl fun k hk hn => ?_
    walk_at "ss"
    refine len_ints (hv.ext E) (lid_of (by first | assumption | omega)) ?_
    walk_at "ss"
    exact Qb (h _ E) (by
      have h1 : (is.all fun i => decide (0 ≤ i ∧ i ≤ many - 1)) = true := by simpa [List.all_map, Function.comp_def] using q
      rw [h1, Bool.true_and]
      by_cases hd : is.Nodup
      · simp [hd, hn.mpr hd]
      · have : ¬ (k : Int) = is.length := fun e => hd (hn.mp (by omega))
        simp [hd, this])

theorem sorted_eq {a b : List Int} (hp : a.Perm b) (ha : a.Pairwise (· ≤ ·)) (hb : b.Pairwise (· ≤ ·)) : a = b :=
  hp.eq_of_pairwise (fun x y _ _ h1 h2 => by omega) ha hb

theorem b1_sorted {v : Val} {is : List Int} (hv : IsI m v is) (hl : is.length < 64) (h : ∀ js : List Int, js.Perm is → js.Pairwise (· ≤ ·) → freshL m (js.map .int) Q) : wpB1 .sorted v Q m := ⟨_, hv.lst, is, rfl, hl, h⟩
noncomputable def thingsOk (many : Int) (is : List Int) : Bool := is.all (fun x => decide (0 ≤ x ∧ x ≤ many - 1)) && decide is.Nodup
noncomputable def shareOk (many : Int) (is : List Int) : Bool := thingsOk many is && decide (is.Pairwise (· ≤ ·))
theorem are_shares_spec {v : Val} {t : List (List Int)} {heirs many : Int} (hv : IsT m v t) (hl : t.length < 100) (hr : ∀ r ∈ t, r.length < 64) (hf : t.flatten.length < 900)
    (h : ∀ m', Ext m m' → Q (.bool (decide ((t.length : Int) = heirs) && (t.all (shareOk many) && decide t.flatten.Nodup))) m') : CN (n + 3) 4 [v, .int heirs, .int many] Q X m := by
  walk_at "in"
  walk_at "ss"
  refine isList_ll hv ?_
  walk_at "ss"
  refine len_ll hv (lid_of (by first | assumption | omega)) ?_
  walk_at "ss"
  with_reducible refine ifQ_dec (fun q => ?_) (fun q => ?_)
  · walk_at "ss"
    simp at q
    exact Qb (h _ .refl) (by simp [q])
  simp at q
  walk_at "ss"
  refine freshL_ (lid_of (by decide)) fun f hf0 => ?_
  walk_at "ss"
  obtain ⟨xs, e1, e2⟩ := hv
  have E0 : Ext m (m.set f (.list [])) := Ext.set hf0
  refine items_list (e1.ext E0).seq (by rw [e2.length]; unfold lid; omega) ?_
  refine for_inv (fun k l m' => ∃ y, l = [some v, some (.int heirs), some (.int many), some (.ref f), y] ∧ (∃ mr, Ext m mr ∧ mr f = none ∧ m' = mr.set f (.list ((t.take k).flatten.map .int))) ∧ (t.take k).all (shareOk many) = true)
    ⟨none, rfl, ⟨m, .refl, hf0, by simp⟩, by simp⟩ (fun k x l m' hx hI P hP => ?_) fun l m' hI => ?_
  · obtain ⟨y, rfl, ⟨mr, Er, hrf, rfl⟩, hall⟩ := hI
    obtain ⟨z, hz, hxz⟩ := e2.get hx
    refine bodyF_one ?_
    dsimp only [setV]
    have Em : Ext m (mr.set f (.list ((t.take k).flatten.map .int))) := Er.trans (Ext.set hrf)
    have hzt := List.mem_of_getElem? hz
    walk_at "ss"
    refine are_things_spec (hxz.ext Em) (by have := hr z hzt; omega) fun m2 E2 => ?_
    walk_at "ss"
    have no : shareOk many z = false → (t.all (shareOk many)) = false := fun q => by
      rw [List.all_eq_false]; exact ⟨z, hzt, by simp [q]⟩
    with_reducible refine bsQ_dec (fun q1 => ?_) (fun q1 => ?_)
    rotate_left
    · walk_at "ss"
      with_reducible refine ifQ_t (by simpa using q1) ?_
      walk_at "ss"
      with_reducible refine loopQ_ret ?_
      walk_at "ss"
      exact Qb (h _ (Em.trans E2)) (by
        have hq : (!thingsOk many z) = true := q1
        rw [no (by simp at hq; simp [shareOk, hq])]; simp)
    have hth : thingsOk many z = true := by unfold thingsOk; simpa using q1
    walk_at "ss"
    refine b1_sorted ((hxz.ext Em).ext E2) (hr z hzt) fun js hp hs => ?_
    refine freshL_ (by rw [List.length_map, hp.length_eq]; have := hr z hzt; unfold lid; omega) fun c hc => ?_
    have E3 := E2.trans (Ext.set hc (o := .list (js.map .int)))
    walk_at "ss"
    refine cmp_neII (a := js) (b := z) IsL.new ((hxz.ext Em).ext E3) ?_
    walk_at "ss"
    with_reducible refine ifQ_dec (fun q2 => ?_) (fun q2 => ?_)
    · walk_at "ss"
      with_reducible refine loopQ_ret ?_
      walk_at "ss"
      exact Qb (h _ (Em.trans E3)) (by
        rw [no (by unfold shareOk; simp at q2; simp; intro _; exact fun hz' => absurd (sorted_eq hp hs hz') q2)]; simp)
    have hjz : js = z := by simpa using q2
    subst hjz
    have hok : shareOk many js = true := by unfold shareOk; rw [hth]; simpa using hs
    walk_at "ss"
    have hmf := E3 f _ set_eq
    refine isL_ hmf ?_
    walk_at "ss"
    obtain ⟨b, rfl, hb⟩ := hxz
    have hb3 := E3 b _ (Em b _ hb)
    have hlen : (List.map Val.int (List.take k t).flatten).length + (List.map Val.int js).length < lid := by
      have h1 : (t.take (k + 1)).flatten.length ≤ t.flatten.length := by
        conv => rhs; rw [← List.take_append_drop (k + 1) t]
        rw [List.flatten_append, List.length_append]; omega
      rw [List.take_add_one, hz] at h1
      simp only [Option.toList_some, List.flatten_append, List.length_append, List.flatten_singleton] at h1
      unfold lid; simp only [List.length_map]; omega
    refine extQ_ (ne_of hf0 hb) hmf hb3 hlen ?_
    walk_at "ss"
    with_reducible refine loopQ_next (hP _ _ ?_)
    obtain ⟨mr', E4, hrf', e4⟩ := grow_set (L' := .list (List.map Val.int (List.take k t).flatten ++ List.map Val.int js)) hrf E3
    rw [e4]
    have E5 : Ext m (mr'.set f (.list (List.map Val.int (List.take k t).flatten ++ List.map Val.int js))) := (Er.trans E4).trans (Ext.set hrf')
    refine ⟨(e1.ext E0).stands (e1.ext E5), some (.ref b), rfl, ⟨mr', Er.trans E4, hrf', ?_⟩, ?_⟩
    · rw [List.take_add_one, hz]; simp
    · rw [List.take_add_one, hz]; simp only [List.all_append, hall]; simp [hok]
  · obtain ⟨y, rfl, ⟨mr, Er, hrf, rfl⟩, hall⟩ := hI
    rw [e2.length, List.take_length] at hall ⊢
    walk_at "ss"
    refine b1_lenset (is := t.flatten) IsL.new.lst (by omega) fun k hk hn => ?_
    walk_at "ss"
    refine len_ints (is := t.flatten) IsL.new (lid_of (by first | assumption | omega)) ?_
    walk_at "ss"
    exact Qb (h _ (Er.trans (Ext.set hrf))) (by
      rw [hall]; simp only [q, decide_true, Bool.true_and]
      by_cases hd : t.flatten.Nodup
      · simp [hd, hn.mpr hd]
      · have : ¬ (k : Int) = t.flatten.length := fun e => hd (hn.mp (by omega))
        rw [decide_eq_false this, decide_eq_false hd])

theorem need_table_spec {v : Val} {t : List (List Int)} (hv : IsT m v t) (hl : t.length < 1000) (hr : ∀ r ∈ t, r.length < 1000) (ht : tabOk t = true) (h : ∀ m', Ext m m' → Q .none m') : CN (n + 4) 5 [v] Q X m := by
  walk_at "in"
  walk_at "ss"
  refine is_table_spec hv hl hr fun m' E => ?_
  rw [ht]
  walk_at "ss"
  exact h _ E
theorem need_shares_spec {v w : Val} {t : List (List Int)} {u : List (List Int)} {r : List Int} {t' : List (List Int)} (hv : IsT m v t) (hw : IsT m w u) (et : t = r :: t') (hl : t.length < 1000) (hr : ∀ r ∈ t, r.length < 1000) (ht : tabOk t = true)
    (hl' : u.length < 100) (hr' : ∀ r ∈ u, r.length < 64) (hf : u.flatten.length < 900) (hu : u.length = t.length) (hs : u.all (shareOk r.length) = true) (hn : u.flatten.Nodup) (h : ∀ m', Ext m m' → Q .none m') : CN (n + 5) 6 [v, w] Q X m := by
  walk_at "in"
  walk_at "ss"
  refine need_table_spec hv hl hr ht fun m' E => ?_
  walk_at "ss"
  refine len_ll (hv.ext E) (lid_of (by first | assumption | omega)) ?_
  walk_at "ss"
  have hr0 := hr r (by rw [et]; exact .head _)
  refine sub_ll (hv.ext E) (by omega) (x := r) (by rw [et]; simp) (lid_of (by first | assumption | omega)) fun y hy => ?_
  walk_at "ss"
  refine len_ints hy (lid_of (by first | assumption | omega)) ?_
  walk_at "ss"
  refine are_shares_spec (hw.ext E) hl' hr' hf fun m2 E2 => ?_
  rw [hs, hu, decide_eq_true hn, decide_eq_true rfl]
  walk_at "ss"
  refine ifQ_f rfl ?_
  walk_at "ss"
  exact h _ (E.trans E2)
theorem need_heir_spec {v : Val} {t : List (List Int)} {k : Int} (hv : IsT m v t) (hl : t.length < 1000) (hk : 0 ≤ k ∧ k < t.length) (h : Q .none m) : CN (n + 2) 7 [v, .int k] Q X m := by
  walk_at "in"
  walk_at "ss"
  refine len_ll hv (lid_of (by first | assumption | omega)) ?_
  walk_at "ss"
  refine is_among_spec ?_
  rw [decide_eq_true (by omega)]
  walk_at "ss"
  exact h

noncomputable def sumAt (r : List Int) (is : List Int) : Int := (is.map fun i => r.getD i.toNat 0).sum
theorem getD_some {r : List Int} {k : Nat} (h : k < r.length) : r[k]? = some (r.getD k 0) := by
  rw [List.getD_eq_getElem?_getD, List.getElem?_eq_getElem h]; rfl
theorem sum_of_spec {v w : Val} {r is : List Int} (hv : IsI m v r) (hw : IsI m w is) (hl : r.length < 1000) (hl' : is.length < 1000) (hr : ∀ x ∈ r, small x) (hi : ∀ i ∈ is, 0 ≤ i ∧ i.toNat < r.length) (h : ∀ m', Ext m m' → Q (.int (sumAt r is)) m') : CN (n + 1) 8 [v, w] Q X m := by
  walk_at "in"
  walk_at "ss"
  refine items_list hw.seq (by unfold lid; simp; omega) ?_
  refine comp_pure (g := fun x => match x with | .int i => .int (r.getD i.toNat 0) | _ => .none) rfl (fun x hx P hP => ?_) ?_
  · obtain ⟨i, hi', rfl⟩ := List.mem_map.mp hx
    walk_at "ss"
    exact sub_ints hv (hi i hi').1 (getD_some (hi i hi').2) (lid_of (by first | assumption | omega)) hP
  refine freshL_ (by unfold lid; simp; omega) (fun a ha => ?_)
  refine b1_sum (is := is.map fun i => r.getD i.toNat 0) (by rw [IsL.new.lst]; simp) (fun x hx => ?_) (by simp; unfold lid; omega) ?_
  · obtain ⟨i, hi', rfl⟩ := List.mem_map.mp hx
    exact hr _ (List.mem_of_getElem? (getD_some (hi i hi').2))
  walk_at "ss"
  exact h _ (Ext.set ha)
theorem tabOk_row {t : List (List Int)} (ht : tabOk t = true) : ∃ r t', t = r :: t' ∧ t.length ≤ 8 ∧ r.length ≤ 40 ∧ ∀ x ∈ t, x.length = r.length ∧ ∀ i ∈ x, 0 ≤ i ∧ i ≤ 1000000 := by
  cases t with
  | nil => cases ht
  | cons r t' =>
    simp only [tabOk, Bool.and_eq_true, decide_eq_true_eq, List.all_eq_true] at ht
    refine ⟨r, t', rfl, ht.1, ht.2.1, fun x hx => ?_⟩
    have := ht.2.2 x hx
    simp only [rowOk, Bool.and_eq_true, decide_eq_true_eq, List.all_eq_true, inW01] at this
    exact this
noncomputable def cell (ns : List Int) (k : Nat) : Int := ns.getD k 0
theorem at_spec {ns : List Int} {k : Int} (h0 : 0 ≤ k) (hl : ns.length < 1000) (h : Q (.int (cell ns k.toNat)) m) : CN (n + 1) 10 [.frz (ns.map .int), .int k] Q X m := by
  walk_at "in"
  walk_at "ss"
  refine b1_len (xs := ns.map .int) rfl (by unfold lid; simp; omega) ?_
  walk_at "ss"
  with_reducible refine ifQ_dec (fun q => ?_) (fun q => ?_)
  · walk_at "ss"
    simp at q
    have hk : k.toNat < ns.length := by omega
    refine subW_ (xs := ns.map .int) rfl (place_nat h0 (by simpa using hk)) (x := .int (cell ns k.toNat)) (by rw [List.getElem?_map, getD_some hk]; rfl) (by unfold lid; simp; omega) ?_
    walk_at "ss"
    exact h
  · walk_at "ss"
    simp at q
    exact Qi h (by unfold cell; rw [List.getD_eq_getElem?_getD, List.getElem?_eq_none (by omega)]; rfl)
noncomputable def mixed (c k : Int) : Int := ((c + 7919 * k + 17) * 48271).fmod 2147483647
theorem mixed_spec {c k : Int} (h : Q (.int (mixed c k)) m) : CN (n + 1) 11 [.int c, .int k] Q X m := by
  walk_at "in"
  walk_at "ss"
  refine bin_mul (.inl (by unfold small; omega)) ?_
  walk_at "ss"
  refine bin_mul (.inr (by unfold small; omega)) ?_
  walk_at "ss"
  exact h
theorem set_comm {m : Mem} {a b : Addr} {o o' : AObj} (h : a ≠ b) : (m.set a o).set b o' = (m.set b o').set a o := by
  funext c; unfold Mem.set
  by_cases h1 : c = a
  · subst h1; simp [h]
  · simp [h1]
theorem map_refs {bs : List Addr} {i : Nat} {b : Addr} (h : bs[i]? = some b) : (bs.map Val.ref)[i]? = some (.ref b) := by rw [List.getElem?_map, h]; rfl

theorem flatten_len {t : List (List Int)} {c : Nat} (h : ∀ r ∈ t, r.length ≤ c) : t.flatten.length ≤ t.length * c := by
  induction t with
  | nil => simp
  | cons r t ih =>
    have h1 := ih fun x hx => h x (.tail _ hx)
    have h2 := h r (.head _)
    rw [List.flatten_cons, List.length_append, List.length_cons, Nat.succ_mul]; omega
end

noncomputable def At (m : Mem) (f : Addr) (L : List Val) (m' : Mem) : Prop := ∃ mr, Ext m mr ∧ mr f = none ∧ m' = mr.set f (.list L)
theorem At.start {m : Mem} {f : Addr} {L : List Val} (h : m f = none) : At m f L (m.set f (.list L)) := ⟨m, .refl, h, rfl⟩
theorem At.get {m m' : Mem} {f : Addr} {L : List Val} (h : At m f L m') : m' f = some (.list L) := by
  obtain ⟨mr, _, _, rfl⟩ := h; exact set_eq
theorem At.ext {m m' : Mem} {f : Addr} {L : List Val} (h : At m f L m') : Ext m m' := by
  obtain ⟨mr, E, e, rfl⟩ := h; exact E.trans (Ext.set e)
theorem At.grow {m m' m'' : Mem} {f : Addr} {L : List Val} (h : At m f L m') (E : Ext m' m'') : At m f L m'' := by
  obtain ⟨mr, E0, e, rfl⟩ := h
  exact ⟨m''.del f, E0.trans (Ext.del e E), del_eq, Ext.del_back (m := m) (E f _ set_eq)⟩
theorem At.put {m m' : Mem} {f : Addr} {L L' : List Val} (h : At m f L m') : At m f L' (m'.set f (.list L')) := by
  obtain ⟨mr, E0, e, rfl⟩ := h
  exact ⟨mr, E0, e, set_set⟩

structure Ok (t u : List (List Int)) (k : Nat) : Prop where
  tab : tabOk t = true
  row : ∀ r ∈ t, r.length = k
  k40 : k ≤ 40
  len : u.length = t.length
  fit : ∀ s ∈ u, s.length ≤ k
  sh : u.all (shareOk k) = true
  nd : u.flatten.Nodup
noncomputable def sm (t u : List (List Int)) (i j : Nat) : Int := sumAt (t.getD i []) (u.getD j [])
theorem getDL {t : List (List Int)} {i : Nat} (h : i < t.length) : t[i]? = some (t.getD i []) := by rw [List.getD_eq_getElem?_getD, List.getElem?_eq_getElem h]; rfl
theorem getDL_mem {t : List (List Int)} {i : Nat} (h : i < t.length) : t.getD i [] ∈ t := List.mem_of_getElem? (getDL h)
section ok
variable {t u : List (List Int)} {k : Nat}
theorem Ok.t8 (O : Ok t u k) : t.length ≤ 8 := by obtain ⟨r, t', _, h, _⟩ := tabOk_row O.tab; exact h
theorem Ok.tl (O : Ok t u k) : t.length < 1000 := Nat.lt_of_le_of_lt O.t8 (by decide)
theorem Ok.ul (O : Ok t u k) : u.length < 1000 := O.len ▸ O.tl
theorem Ok.worth (O : Ok t u k) {r : List Int} (hr : r ∈ t) : ∀ x ∈ r, 0 ≤ x ∧ x ≤ 1000000 := by obtain ⟨r0, t', _, _, _, h⟩ := tabOk_row O.tab; exact (h r hr).2
theorem Ok.rl (O : Ok t u k) {r : List Int} (hr : r ∈ t) : r.length < 1000 := by rw [O.row r hr]; exact Nat.lt_of_le_of_lt O.k40 (by decide)
theorem Ok.share (O : Ok t u k) {s : List Int} (hs : s ∈ u) : shareOk k s = true := List.all_eq_true.mp O.sh s hs
theorem Ok.thing (O : Ok t u k) {s : List Int} (hs : s ∈ u) : ∀ x ∈ s, 0 ≤ x ∧ x.toNat < k := fun x hx => by
  have h := O.share hs
  simp only [shareOk, thingsOk, Bool.and_eq_true, List.all_eq_true, decide_eq_true_eq] at h
  have := h.1.1 x hx
  omega
theorem Ok.nodup (O : Ok t u k) {s : List Int} (hs : s ∈ u) : s.Nodup := by
  have h := O.share hs
  simp only [shareOk, thingsOk, Bool.and_eq_true, List.all_eq_true, decide_eq_true_eq] at h
  exact h.1.2
theorem Ok.sl (O : Ok t u k) {s : List Int} (hs : s ∈ u) : s.length < 64 := Nat.lt_of_le_of_lt (Nat.le_trans (O.fit s hs) O.k40) (by decide)
end ok
theorem small_of {x : Int} (h : 0 ≤ x ∧ x ≤ 1000000) : small x := ⟨by have := h.1; omega, by have := h.2; omega⟩
theorem nn (i : Nat) : (0 : Int) ≤ (i : Int) := Int.natCast_nonneg i

section
variable {Q : Val → Mem → Prop} {X : Nat → Mem → Prop} {m : Mem} {n : Nat} {t u : List (List Int)} {k : Nat} {v w : Val}

theorem sum_ok (O : Ok t u k) {i : Nat} (hi : i < t.length) {y z : Val} {is : List Int} (hy : IsI m y (t.getD i [])) (hz : IsI m z is) (hl : is.length < 1000) (h : ∀ x ∈ is, 0 ≤ x ∧ x.toNat < k) (hq : ∀ m', Ext m m' → Q (.int (sumAt (t.getD i []) is)) m') : CN (n + 1) 8 [y, z] Q X m :=
  sum_of_spec hy hz (O.rl (getDL_mem hi)) hl (fun x hx => small_of (O.worth (getDL_mem hi) x hx)) (fun x hx => by rw [O.row _ (getDL_mem hi)]; exact h x hx) hq
theorem sl1 {n : Nat} (h : n < 64) : n < 1000 := Nat.lt_trans h (by decide)
theorem row_at (O : Ok t u k) (hv : IsT m v t) {i : Nat} (hi : i < t.length) (h : ∀ y, IsI m y (t.getD i []) → Q y m) : subW v (.int i) Q m := sub_ll hv (nn i) (getDL hi) (lid_of O.tl) h
theorem share_at (O : Ok t u k) (hw : IsT m w u) {i : Nat} (hi : i < t.length) (h : ∀ y, IsI m y (u.getD i []) → Q y m) : subW w (.int i) Q m := sub_ll hw (nn i) (getDL (O.len ▸ hi)) (lid_of O.ul) h

theorem envious_spec (O : Ok t u k) (hv : IsT m v t) (hw : IsT m w u) {i j : Nat} (hi : i < t.length) (hj : j < t.length) (h : ∀ m', Ext m m' → Q (.bool (decide (sm t u i j > sm t u i i))) m') : CN (n + 2) 22 [v, w, .int i, .int j] Q X m := by
  walk_at "in"
  walk_at "ss"
  refine row_at O hv hi fun y hy => ?_
  walk_at "ss"
  refine share_at O hw hj fun z hz => ?_
  walk_at "ss"
  have hmj := getDL_mem (O.len.symm ▸ hj)
  have hmi := getDL_mem (O.len.symm ▸ hi)
  refine sum_ok O hi hy hz (sl1 (O.sl hmj)) (O.thing hmj) fun m2 E2 => ?_
  walk_at "ss"
  refine row_at O (hv.ext E2) hi fun y hy => ?_
  walk_at "ss"
  refine share_at O (hw.ext E2) hi fun z hz => ?_
  walk_at "ss"
  refine sum_ok O hi hy hz (sl1 (O.sl hmi)) (O.thing hmi) fun m3 E3 => ?_
  walk_at "ss"
  exact h _ (E2.trans E3)

noncomputable def tupV (p : Nat × Nat) : Val := .tup [.int p.1, .int p.2]
noncomputable def rowPairs (t u : List (List Int)) (i N : Nat) : List (Nat × Nat) := ((List.range N).filter fun j => decide (sm t u i j > sm t u i i)).map fun j => (i, j)
noncomputable def pairsTo (t u : List (List Int)) (N : Nat) : List (Nat × Nat) := (List.range N).flatMap fun i => rowPairs t u i t.length
noncomputable def pairs (t u : List (List Int)) : List (Nat × Nat) := pairsTo t u t.length
theorem rowPairs_succ (i N : Nat) : rowPairs t u i (N + 1) = rowPairs t u i N ++ (if sm t u i N > sm t u i i then [(i, N)] else []) := by
  unfold rowPairs
  rw [List.range_succ, List.filter_append, List.map_append]
  congr 1
  by_cases h : sm t u i N > sm t u i i
  · rw [if_pos h]; simp [h]
  · rw [if_neg h]; simp [h]
theorem pairsTo_succ (N : Nat) : pairsTo t u (N + 1) = pairsTo t u N ++ rowPairs t u N t.length := by
  unfold pairsTo
  rw [List.range_succ, List.flatMap_append, List.flatMap_singleton]
theorem rowPairs_len (i N : Nat) : (rowPairs t u i N).length ≤ N := by
  unfold rowPairs
  rw [List.length_map]
  exact Nat.le_trans (List.length_filter_le _ _) (Nat.le_of_eq List.length_range)
theorem pairsTo_len (N : Nat) : (pairsTo t u N).length ≤ N * t.length := by
  induction N with
  | zero => exact Nat.zero_le _
  | succ N ih =>
    rw [pairsTo_succ, List.length_append, Nat.succ_mul]
    exact Nat.add_le_add ih (rowPairs_len _ _)
theorem mem_pairs {p : Nat × Nat} : p ∈ pairs t u ↔ p.1 < t.length ∧ p.2 < t.length ∧ sm t u p.1 p.2 > sm t u p.1 p.1 := by
  obtain ⟨i, j⟩ := p
  unfold pairs pairsTo rowPairs
  simp only [List.mem_flatMap, List.mem_map, List.mem_filter, List.mem_range, decide_eq_true_eq, Prod.mk.injEq]
  constructor
  · rintro ⟨i', h1, j', ⟨h2, h3⟩, rfl, rfl⟩; exact ⟨h1, h2, h3⟩
  · rintro ⟨h1, h2, h3⟩; exact ⟨i, h1, j, ⟨h2, h3⟩, rfl, rfl⟩
theorem pairs_small (O : Ok t u k) (i j : Nat) (hi : i < t.length) (hj : j ≤ t.length) : ((pairsTo t u i ++ rowPairs t u i j).map tupV).length < lid := by
  have h1 := pairsTo_len (t := t) (u := u) i
  have h2 := rowPairs_len (t := t) (u := u) i j
  have h3 := O.t8
  have h4 : i * t.length ≤ 8 * 8 := Nat.mul_le_mul (by omega) h3
  rw [List.length_map, List.length_append]
  exact lid_of (by omega)
theorem rng8 {N : Nat} (h : N ≤ 8) : (0 : Int) ≤ (N : Int) ∧ (N : Int) < lid := rng_lid ⟨nn N, by omega⟩

theorem pairs_spec (O : Ok t u k) (hv : IsT m v t) (hw : IsT m w u) (h : ∀ a m', Ext m m' → m a = none → m' a = some (.list ((pairs t u).map tupV)) → Q (.ref a) m') : CN (n + 3) 23 [v, w] Q X m := by
  walk_at "in"
  walk_at "ss"
  refine freshL_ (lid_of (by decide)) fun f hf => ?_
  walk_at "ss"
  dsimp only [setV]
  have hv0 := hv.ext (Ext.set (o := .list []) hf)
  refine len_ll hv0 (lid_of O.tl) ?_
  refine items_range (rng8 O.t8) ?_
  refine for_inv (fun i l m' => ∃ y3 y4, l = [some v, some w, some (.ref f), y3, y4] ∧ At m f ((pairsTo t u i).map tupV) m') ⟨none, none, rfl, At.start hf⟩ (fun i x l m' hx hI P hP => ?_) fun l m' hI => ?_
  · obtain ⟨y3, y4, rfl, A⟩ := hI
    obtain ⟨hi, rfl⟩ := range_get hx
    have hi : i < t.length := hi
    refine bodyF_one ?_
    dsimp only [setV]
    walk_at "ss"
    refine len_ll (hv.ext A.ext) (lid_of O.tl) ?_
    refine items_range (rng8 O.t8) ?_
    refine for_inv (fun j l m' => ∃ y4, l = [some v, some w, some (.ref f), some (.int i), y4] ∧ At m f ((pairsTo t u i ++ rowPairs t u i j).map tupV) m') ⟨y4, rfl, by rw [show rowPairs t u i 0 = [] from rfl, List.append_nil]; exact A⟩ (fun j x l m2 hx hI P2 hP2 => ?_) fun l m2 hI => ?_
    · obtain ⟨y4, rfl, A2⟩ := hI
      obtain ⟨hj, rfl⟩ := range_get hx
      have hj : j < t.length := hj
      refine bodyF_one ?_
      dsimp only [setV]
      walk_at "ss"
      refine envious_spec O (hv.ext A2.ext) (hw.ext A2.ext) hi hj fun m3 E3 => ?_
      walk_at "ss"
      have A3 := A2.grow E3
      with_reducible refine ifQ_dec (fun q => ?_) (fun q => ?_)
      · have q := of_decide_eq_true q
        walk_at "ss"
        refine isL_ A3.get ?_
        walk_at "ss"
        refine ⟨lid_of (show 2 < 1000 by decide), ?_⟩
        refine appQ_ A3.get (pairs_small O i j hi (Nat.le_of_lt hj)) ?_
        walk_at "ss"
        with_reducible refine loopQ_next (hP2 _ _ ?_)
        refine ⟨trivial, some (.int j), rfl, ?_⟩
        rw [rowPairs_succ, if_pos q, ← List.append_assoc, List.map_append (l₂ := [(i, j)])]
        exact A3.put
      · have q := of_decide_eq_false q
        walk_at "ss"
        with_reducible refine loopQ_next (hP2 _ _ ?_)
        refine ⟨trivial, some (.int j), rfl, ?_⟩
        rw [rowPairs_succ, if_neg q, List.append_nil]
        exact A3
    · obtain ⟨y4, rfl, A2⟩ := hI
      walk_at "ss"
      with_reducible refine loopQ_next (hP _ _ ?_)
      refine ⟨trivial, some (.int i), y4, rfl, ?_⟩
      rw [pairsTo_succ]
      rw [range_len] at A2
      exact A2
  · obtain ⟨y3, y4, rfl, A⟩ := hI
    walk_at "ss"
    rw [range_len] at A
    exact h _ _ A.ext hf A.get

end

section
variable {C : CallT} {G : String → Option Val} {Q : Val → Mem → Prop} {X : Nat → Mem → Prop} {m : Mem} {n : Nat} {t u : List (List Int)} {k : Nat} {v w : Val} {loc : Loc} {R : Flow → Loc → Mem → Prop} {Y : Nat → Loc → Mem → Prop}

theorem comp_filter {elt ct : Ex} {i : Nat} {xs : List Val} {ok : Mem → Prop} {Q' : List Val → Mem → Prop} {g : Val → Val} {c : Val → Bool} (hok : ok m)
    (hcond : ∀ x ∈ xs, ∀ P : Val → Mem → Prop, P (.bool (c x)) m → wpE C G X ct (setV loc i x) P m) (helt : ∀ x ∈ xs, ∀ P : Val → Mem → Prop, P (g x) m → wpE C G X elt (setV loc i x) P m)
    (h : Q' ((xs.filter c).map g) m) : compLoop (cF C G X elt (.one i) (.cons ct .nil) loc) ok xs [] Q' m := by
  refine comp_inv (fun k acc m' => m' = m ∧ acc = ((xs.take k).filter c).map g) ⟨rfl, by simp⟩ (fun k x acc m' hx hI P hP => ?_) fun acc m' hI => ?_
  · obtain ⟨rfl, rfl⟩ := hI
    have hm := List.mem_of_getElem? hx
    refine Exists.intro _ ⟨rfl, bs_cons (hcond x hm _ (asB_ (bsQ_nil (ifQ_dec (fun e => ?_) fun e => ?_))))⟩
    · refine helt x hm _ (hP _ _ ⟨hok, rfl, ?_⟩)
      rw [List.take_add_one, hx]; simp [e]
    · refine hP _ _ ⟨hok, rfl, ?_⟩
      rw [List.take_add_one, hx]; simp [e]
  · obtain ⟨rfl, rfl⟩ := hI
    rw [List.take_length]; exact h
theorem b1_min {v : Val} {is : List Int} (e : lst m v = some (is.map .int)) (hne : is ≠ []) (hl : is.length < lid) (h : ∀ M : Int, M ∈ is → (∀ a ∈ is, M ≤ a) → Q (.int M) m) : wpB1 .minL v Q m := Exists.intro is ⟨e, hne, hl, h⟩

noncomputable def bornAt (t u : List (List Int)) (i j : Nat) : Prop := ∃ x ∈ u.getD j [], sm t u i j - (t.getD i []).getD x.toNat 0 ≤ sm t u i i
noncomputable def Born (t u : List (List Int)) : Prop := ∀ p ∈ pairs t u, bornAt t u p.1 p.2
theorem Ok.row0 (O : Ok t u k) : ∃ r t', t = r :: t' ∧ r.length = k := by
  obtain ⟨r, t', e, _⟩ := tabOk_row O.tab
  exact ⟨r, t', e, O.row r (by rw [e]; exact .head _)⟩
theorem Ok.flat (O : Ok t u k) : u.flatten.length < 900 := by
  have h1 := flatten_len O.fit
  have h2 : u.length * k ≤ 8 * 40 := Nat.mul_le_mul (O.len ▸ O.t8) O.k40
  omega
theorem need_ok (O : Ok t u k) (hv : IsT m v t) (hw : IsT m w u) (h : ∀ m', Ext m m' → Q .none m') : CN (n + 5) 6 [v, w] Q X m := by
  obtain ⟨r, t', e, hr⟩ := O.row0
  exact need_shares_spec hv hw e O.tl (fun r hr => O.rl hr) O.tab (Nat.lt_of_le_of_lt (O.len ▸ O.t8) (by decide)) (fun s hs => O.sl hs) O.flat O.len (by rw [hr]; exact O.sh) O.nd h
theorem take_more {α : Type} {l : List α} {i : Nat} {x : α} {P : α → Prop} (h : ∀ p ∈ l.take i, P p) (hx : l[i]? = some x) (h' : P x) : ∀ p ∈ l.take (i + 1), P p := fun p hp => by
  rw [List.take_add_one, hx] at hp
  rcases List.mem_append.mp hp with q | q
  · exact h p q
  · rcases List.mem_singleton.mp q with rfl; exact h'

end

section
variable {C : CallT} {G : String → Option Val} {Q : Val → Mem → Prop} {X : Nat → Mem → Prop} {m : Mem} {n : Nat} {t u : List (List Int)} {k : Nat} {v w : Val} {loc : Loc} {R : Flow → Loc → Mem → Prop} {Y : Nat → Loc → Mem → Prop}

end

section
variable {C : CallT} {G : String → Option Val} {Q : Val → Mem → Prop} {X : Nat → Mem → Prop} {m : Mem} {n : Nat} {t u : List (List Int)} {k : Nat} {v w : Val} {loc : Loc} {R : Flow → Loc → Mem → Prop} {Y : Nat → Loc → Mem → Prop}

-- things
theorem none_of {m0 m' : Mem} (E : Ext m0 m') {b : Addr} (h : m' b = none) : m0 b = none := by
  cases e : m0 b with
  | none => rfl
  | some o => rw [E b o e] at h; cases h

end

section
variable {C : CallT} {G : String → Option Val} {Q : Val → Mem → Prop} {X : Nat → Mem → Prop} {m : Mem} {n : Nat} {t u : List (List Int)} {k : Nat} {v w : Val} {loc : Loc} {R : Flow → Loc → Mem → Prop} {Y : Nat → Loc → Mem → Prop}

noncomputable def Own (m0 m : Mem) (v : Val) (t : List (List Int)) : Prop := ∃ (a : Addr) (bs : List Addr), v = .ref a ∧ m a = some (.list (bs.map .ref)) ∧ bs.Nodup ∧ bs.length = t.length ∧ m0 a = none ∧ (∀ b ∈ bs, m0 b = none ∧ b ≠ a) ∧ ∀ (j : Nat) b r, bs[j]? = some b → t[j]? = some r → m b = some (.list (r.map .int))
theorem Own.isT {m0 : Mem} (h : Own m0 m v t) : IsT m v t := by
  obtain ⟨a, bs, rfl, ha, _, hl, _, _, hr⟩ := h
  refine ⟨bs.map .ref, ⟨a, rfl, ha⟩, All2.of_get (by rw [List.length_map]; exact hl) fun j x r h1 h2 => ?_⟩
  rw [List.getElem?_map] at h1
  obtain ⟨b, hb, rfl⟩ := Option.map_eq_some_iff.mp h1
  exact ⟨b, rfl, hr j b r hb h2⟩
theorem Own.ext {m0 m' : Mem} (h : Own m0 m v t) (E : Ext m m') : Own m0 m' v t := by
  obtain ⟨a, bs, rfl, ha, hn, hl, h0, hb, hr⟩ := h
  exact ⟨a, bs, rfl, E a _ ha, hn, hl, h0, hb, fun j b r h1 h2 => E b _ (hr j b r h1 h2)⟩
theorem Own.apart {m0 : Mem} (h : Own m0 m v t) {b : Addr} {o o' : AObj} (hb : m0 b = some o) : Own m0 (m.set b o') v t := by
  obtain ⟨a, bs, rfl, ha, hn, hl, h0, hb', hr⟩ := h
  have ne : ∀ c, m0 c = none → c ≠ b := fun c hc e => by subst e; rw [hc] at hb; cases hb
  exact ⟨a, bs, rfl, by rw [set_ne (ne a h0)]; exact ha, hn, hl, h0, hb', fun j c r h1 h2 => by rw [set_ne (ne c (hb' c (List.mem_of_getElem? h1)).1)]; exact hr j c r h1 h2⟩

theorem copy_own {v : Val} {t : List (List Int)} (hv : IsT m v t) (hl : t.length < 1000) (hr : ∀ r ∈ t, r.length < 1000) (hQ : ∀ v m', Ext m m' → Own m m' v t → Q v m') : CN (n + 1) 18 [v] Q X m := by
  walk_at "in"
  walk_at "ss"
  obtain ⟨xs, e1, e2⟩ := hv
  refine items_list e1.seq (by rw [e2.length]; exact lid_of hl) ?_
  refine comp_inv (fun k acc m' => Ext m m' ∧ ∃ bs : List Addr, acc = bs.map .ref ∧ bs.length = k ∧ bs.Nodup ∧ ∀ (j : Nat) b, bs[j]? = some b → m b = none ∧ ∀ r, t[j]? = some r → m' b = some (.list (r.map .int))) ⟨.refl, [], rfl, rfl, List.nodup_nil, fun j b h => by cases h⟩ (fun k x acc m' hx hI P hP => ?_) fun acc m' hI => ?_
  · obtain ⟨E, bs, rfl, hbl, hbn, hb⟩ := hI
    obtain ⟨z, hz, hxz⟩ := e2.get hx
    refine compF_one ?_
    walk_at "ss"
    refine b1_list (hxz.ext E).seq (freshL_ (by rw [List.length_map]; exact lid_of (hr z (List.mem_of_getElem? hz))) fun c hc => ?_)
    have E2 := E.trans (Ext.set (o := .list (z.map .int)) hc)
    have hcm := none_of E hc
    have hcb : ∀ (j : Nat) b, bs[j]? = some b → b ≠ c := fun j b h => by
      have hj : j < t.length := by
        have h1 := (List.getElem?_eq_some_iff.mp h).1
        have h2 := (List.getElem?_eq_some_iff.mp hz).1
        omega
      exact ne_of hc ((hb j b h).2 _ (List.getElem?_eq_getElem hj))
    refine hP _ _ ⟨e1.stands (e1.ext E2), E2, bs ++ [c], by rw [List.map_append]; rfl, by rw [List.length_append, hbl]; rfl, ?_, fun j b h => ?_⟩
    · rw [List.nodup_append]
      refine ⟨hbn, List.nodup_cons.mpr ⟨by simp, List.nodup_nil⟩, fun x hx y hy => ?_⟩
      rcases List.mem_singleton.mp hy with rfl
      obtain ⟨j, hj⟩ := List.mem_iff_getElem?.mp hx
      exact hcb j x hj
    · by_cases hj : j < bs.length
      · rw [List.getElem?_append_left hj] at h
        exact ⟨(hb j b h).1, fun r hr' => by rw [set_ne (hcb j b h)]; exact (hb j b h).2 r hr'⟩
      · rw [List.getElem?_append_right (Nat.le_of_not_lt hj)] at h
        have h0 : j - bs.length = 0 := by
          have := (List.getElem?_eq_some_iff.mp h).1
          rw [List.length_singleton] at this
          omega
        rw [h0] at h
        cases h
        have hjk : j = k := by omega
        subst hjk
        refine ⟨hcm, fun r hr' => ?_⟩
        rw [hz] at hr'
        cases hr'
        exact set_eq
  · obtain ⟨E, bs, rfl, hbl, hbn, hb⟩ := hI
    rw [e2.length] at hbl
    refine freshL_ (by rw [List.length_map]; exact lid_of (hbl ▸ hl)) fun a ha => ?_
    walk_at "ss"
    have hne : ∀ b ∈ bs, m b = none ∧ b ≠ a := fun b hb' => by
      obtain ⟨j, hj⟩ := List.mem_iff_getElem?.mp hb'
      have hjt : j < t.length := hbl ▸ (List.getElem?_eq_some_iff.mp hj).1
      exact ⟨(hb j b hj).1, ne_of ha ((hb j b hj).2 _ (List.getElem?_eq_getElem hjt))⟩
    refine hQ _ _ (E.trans (Ext.set ha)) ⟨a, bs, rfl, set_eq, hbn, hbl, none_of E ha, hne, fun j b r h1 h2 => ?_⟩
    rw [set_ne (hne b (List.mem_of_getElem? h1)).2]
    exact (hb j b h1).2 r h2

end

section
variable {C : CallT} {G : String → Option Val} {Q : Val → Mem → Prop} {X : Nat → Mem → Prop} {m : Mem} {n : Nat} {t u : List (List Int)} {k : Nat} {v w : Val} {loc : Loc} {R : Flow → Loc → Mem → Prop} {Y : Nat → Loc → Mem → Prop}

theorem Ext.over {m m' : Mem} {a : Addr} {o : AObj} (E : Ext m m') (h : m a = none) : Ext m (m'.set a o) := fun b o' e => by
  rw [set_ne (ne_of h e)]; exact E b o' e
end

section
variable {C : CallT} {G : String → Option Val} {Q : Val → Mem → Prop} {X : Nat → Mem → Prop} {m : Mem} {n : Nat} {t u : List (List Int)} {k : Nat} {v w : Val} {loc : Loc} {R : Flow → Loc → Mem → Prop} {Y : Nat → Loc → Mem → Prop}

noncomputable def dPair (p : Nat × Nat) : Dat := .tup [.int p.1, .int p.2]
theorem pairs_lt (O : Ok t u k) : (pairs t u).length < 100 := by
  have h1 := pairsTo_len (t := t) (u := u) t.length
  have h4 : t.length * t.length ≤ 8 * 8 := Nat.mul_le_mul O.t8 O.t8
  show (pairsTo t u t.length).length < 100
  omega
end

section
variable {Q : Val → Mem → Prop} {X : Nat → Mem → Prop} {m : Mem} {n : Nat} {t u : List (List Int)} {k : Nat} {v w : Val}

noncomputable def Sts.drop : Nat → Sts → Sts
  | 0, s => s
  | n + 1, s => match s with | .nil => .nil | .cons _ r => Sts.drop n r
end

noncomputable def rg (ws : List Nat) (i : Nat) : Nat := ws.getD (i % ws.length) 0
structure Way (ws : List Nat) (N : Nat) : Prop where
  two : 2 ≤ ws.length
  nd : ws.Nodup
  lt : ∀ x ∈ ws, x < N
section ring
variable {ws : List Nat} {N : Nat} {t u f : List (List Int)}
theorem rg_get (W : Way ws N) (i : Nat) : ws[i % ws.length]? = some (rg ws i) := by
  have h : i % ws.length < ws.length := Nat.mod_lt _ (Nat.lt_of_lt_of_le (by decide) W.two)
  unfold rg
  rw [List.getD_eq_getElem?_getD, List.getElem?_eq_getElem h]; rfl
theorem rg_mod (i j : Nat) (h : i % ws.length = j % ws.length) : rg ws i = rg ws j := by unfold rg; rw [h]
structure Turn (u : List (List Int)) (ws : List Nat) (f : List (List Int)) : Prop where
  len : f.length = u.length
  on : ∀ i, f.getD (rg ws i) [] = u.getD (rg ws (i + 1)) []
  off : ∀ j, j ∉ ws → f.getD j [] = u.getD j []
structure TurnTo (u : List (List Int)) (ws : List Nat) (c k : Nat) (f : List (List Int)) : Prop where
  len : f.length = u.length
  on : ∀ i, i < k → f.getD (rg ws (c + i)) [] = u.getD (rg ws (c + i + 1)) []
  off : ∀ j, (∀ i, i < k → rg ws (c + i) ≠ j) → f.getD j [] = u.getD j []
noncomputable def sg (ws : List Nat) (j : Nat) : Nat := if j ∈ ws then rg ws (ws.idxOf j + 1) else j
noncomputable def Envied (t u : List (List Int)) (ws : List Nat) : Prop := ∀ i, sm t u (rg ws i) (rg ws (i + 1)) > sm t u (rg ws i) (rg ws i)
end ring

noncomputable def enviersOf (ps : List (Nat × Nat)) (h : Nat) (left : List Nat) : List Nat := (ps.filter fun p => decide (p.2 = h) && decide (p.1 ∈ left)).map (·.1)
structure Rp (ps : List (Nat × Nat)) (N : Nat) : Prop where
  lt : ∀ p ∈ ps, p.1 < N ∧ p.2 < N
  irr : ∀ p ∈ ps, p.1 ≠ p.2
structure Line (ps : List (Nat × Nat)) (N : Nat) (fs : List Nat) : Prop where
  perm : fs.Perm (List.range N)
  pre : ∀ p ∈ ps, fs.idxOf p.1 < fs.idxOf p.2
noncomputable def Core (ps : List (Nat × Nat)) (left : List Nat) : Prop := left ≠ [] ∧ ∀ x ∈ left, ∃ y ∈ left, (y, x) ∈ ps
noncomputable def Around (ps : List (Nat × Nat)) (ws : List Nat) : Prop := ∀ i, (rg ws i, rg ws (i + 1)) ∈ ps
section part
variable {ps : List (Nat × Nat)} {N : Nat} {fs left cs ws : List Nat} {h : Nat}
theorem mem_enviers {x : Nat} : x ∈ enviersOf ps h left ↔ (x, h) ∈ ps ∧ x ∈ left := by
  unfold enviersOf
  simp only [List.mem_map, List.mem_filter, Bool.and_eq_true, decide_eq_true_eq]
  constructor
  · rintro ⟨⟨a, b⟩, ⟨h1, rfl, h2⟩, rfl⟩; exact ⟨h1, h2⟩
  · rintro ⟨h1, h2⟩; exact ⟨(x, h), ⟨h1, rfl, h2⟩, rfl⟩
structure PartTo (ps : List (Nat × Nat)) (N : Nat) (fs left : List Nat) : Prop where
  perm : (fs ++ left).Perm (List.range N)
  pre : ∀ p ∈ ps, p.2 ∈ fs → fs.idxOf p.1 < fs.idxOf p.2
theorem PartTo.start : PartTo ps N [] (List.range N) := ⟨List.Perm.refl _, fun _ _ h => by cases h⟩
theorem PartTo.nd (P : PartTo ps N fs left) : (fs ++ left).Nodup := P.perm.nodup_iff.mpr List.nodup_range
theorem PartTo.next (R : Rp ps N) (P : PartTo ps N fs left) (hh : h ∈ left) (he : enviersOf ps h left = []) : PartTo ps N (fs ++ [h]) (left.filter fun x => decide (x ≠ h)) := by
  have hnd := P.nd
  rw [List.nodup_append] at hnd
  have hhf : h ∉ fs := fun q => hnd.2.2 h q h hh rfl
  refine ⟨?_, fun p hp h2 => ?_⟩
  · refine List.Perm.trans ?_ P.perm
    rw [List.append_assoc]
    refine List.Perm.append_left _ ?_
    refine (List.perm_ext_iff_of_nodup ?_ hnd.2.1).mpr fun x => ?_
    · rw [List.singleton_append, List.nodup_cons]
      exact ⟨fun q => by simpa using (List.mem_filter.mp q).2, hnd.2.1.filter _⟩
    · rw [List.singleton_append, List.mem_cons, List.mem_filter, decide_eq_true_eq]
      constructor
      · rintro (rfl | q)
        · exact hh
        · exact q.1
      · intro q
        by_cases e : x = h
        · exact .inl e
        · exact .inr ⟨q, e⟩
  · rcases List.mem_append.mp h2 with q | q
    · have h1 := P.pre p hp q
      have h3 := List.idxOf_lt_length_of_mem q
      have hm : p.1 ∈ fs := List.idxOf_lt_length_iff.mp (Nat.lt_trans h1 h3)
      rw [List.idxOf_append, if_pos hm, List.idxOf_append, if_pos q]
      exact h1
    · have e : p.2 = h := List.mem_singleton.mp q
      have hm : p.1 ∈ fs := by
        rcases List.mem_append.mp (P.perm.mem_iff.mpr (List.mem_range.mpr (R.lt p hp).1)) with q | q
        · exact q
        · have : p.1 ∈ enviersOf ps h left := mem_enviers.mpr ⟨e ▸ hp, q⟩
          rw [he] at this
          cases this
      rw [List.idxOf_append, if_pos hm, e, List.idxOf_append, if_neg hhf]
      exact Nat.lt_of_lt_of_le (List.idxOf_lt_length_of_mem hm) (Nat.le_add_left _ _)
theorem PartTo.line (R : Rp ps N) (P : PartTo ps N fs []) : Line ps N fs := by
  have hp := P.perm
  rw [List.append_nil] at hp
  exact ⟨hp, fun p q => P.pre p q (hp.mem_iff.mpr (List.mem_range.mpr (R.lt p q).2))⟩
theorem filter_len {l : List Nat} {x : Nat} (hn : l.Nodup) (hx : x ∈ l) : (l.filter fun y => decide (y ≠ x)).length + 1 = l.length := by
  induction l with
  | nil => cases hx
  | cons a l ih =>
    rw [List.nodup_cons] at hn
    rw [List.filter_cons]
    by_cases e : a = x
    · subst e
      rw [if_neg (by simp), List.filter_eq_self.mpr fun y hy => by simp; rintro rfl; exact hn.1 hy]
      rfl
    · rw [if_pos (by simpa using e)]
      exact congrArg (· + 1) (ih hn.2 ((List.mem_cons.mp hx).resolve_left fun q => e q.symm))

structure Chain (ps : List (Nat × Nat)) (left cs : List Nat) (h : Nat) : Prop where
  nd : cs.Nodup
  sub : ∀ x ∈ cs, x ∈ left
  ne : cs ≠ []
  link : ∀ i x y, cs[i]? = some x → cs[i + 1]? = some y → (y, x) ∈ ps
  hin : h ∈ left
  last : ∀ x, cs[cs.length - 1]? = some x → (h, x) ∈ ps
theorem Chain.next (K : Chain ps left cs h) (hh : h ∉ cs) {g : Nat} (hg : g ∈ enviersOf ps h left) : Chain ps left (cs ++ [h]) g := by
  have hpos : 0 < cs.length := List.length_pos_iff.mpr K.ne
  obtain ⟨g1, g2⟩ := mem_enviers.mp hg
  refine ⟨?_, fun x hx => ?_, (fun e => by have := congrArg List.length e; rw [List.length_append] at this; cases this), fun i x y h1 h2 => ?_, g2, fun x hx => ?_⟩
  · rw [List.nodup_append]
    refine ⟨K.nd, List.nodup_cons.mpr ⟨by simp, List.nodup_nil⟩, fun x hx y hy e => ?_⟩
    rw [List.mem_singleton.mp hy] at e
    exact hh (e ▸ hx)
  · rcases List.mem_append.mp hx with q | q
    · exact K.sub x q
    · rw [List.mem_singleton.mp q]; exact K.hin
  · have hl : i + 1 < (cs ++ [h]).length := (List.getElem?_eq_some_iff.mp h2).1
    rw [List.length_append, List.length_singleton] at hl
    rw [List.getElem?_append_left (by omega)] at h1
    by_cases q : i + 1 < cs.length
    · rw [List.getElem?_append_left q] at h2
      exact K.link i x y h1 h2
    · have e : i + 1 = cs.length := by omega
      rw [e, List.getElem?_append_right (Nat.le_refl _), Nat.sub_self] at h2
      cases h2
      exact K.last x (by rw [show cs.length - 1 = i by omega]; exact h1)
  · rw [List.length_append, List.length_singleton, Nat.add_sub_cancel, List.getElem?_append_right (Nat.le_refl _), Nat.sub_self] at hx
    cases hx
    exact g1
theorem nodup_sub_len {l : List Nat} : ∀ {l' : List Nat}, l.Nodup → (∀ x ∈ l, x ∈ l') → l.length ≤ l'.length := by
  induction l with
  | nil => intro l' _ _; exact Nat.zero_le _
  | cons a l ih =>
    intro l' hn hs
    rw [List.nodup_cons] at hn
    have h1 := ih (l' := l'.erase a) hn.2 fun x hx => (List.mem_erase_of_ne (fun e : x = a => hn.1 (e ▸ hx))).mpr (hs x (.tail _ hx))
    have h2 := List.length_erase_of_mem (hs a (.head _))
    have h3 := List.length_pos_of_mem (hs a (.head _))
    rw [List.length_cons]
    omega
theorem Chain.ring (R : Rp ps N) (hl : ∀ x ∈ left, x < N) (K : Chain ps left cs h) (hh : h ∈ cs) : Way (cs.drop (cs.idxOf h)).reverse N ∧ Around ps (cs.drop (cs.idxOf h)).reverse := by
  have hpos : 0 < cs.length := List.length_pos_iff.mpr K.ne
  have ha := List.idxOf_lt_length_of_mem hh
  have hga : cs[cs.idxOf h]? = some h := by rw [List.getElem?_eq_getElem ha, List.getElem_idxOf ha]
  generalize cs.idxOf h = a at ha hga
  have hlast : ∃ z, cs[cs.length - 1]? = some z := ⟨_, List.getElem?_eq_getElem (by omega)⟩
  obtain ⟨z, hz⟩ := hlast
  have hzp := K.last z hz
  have hane : a ≠ cs.length - 1 := fun e => by
    rw [e, hz] at hga
    exact R.irr _ hzp (Option.some.inj hga).symm
  have hL : (cs.drop a).reverse.length = cs.length - a := by rw [List.length_reverse, List.length_drop]
  have get : ∀ i, i < cs.length - a → (cs.drop a).reverse[i]? = cs[cs.length - 1 - i]? := fun i hi => by
    rw [List.getElem?_reverse (by rw [List.length_drop]; exact hi), List.getElem?_drop, List.length_drop]
    congr 1; omega
  have W : Way (cs.drop a).reverse N := by
    refine ⟨by rw [hL]; omega, ?_, fun x hx => ?_⟩
    · exact (List.reverse_perm _).nodup_iff.mpr (K.nd.sublist (List.drop_sublist a cs))
    · exact hl x (K.sub x (List.mem_of_mem_drop (List.mem_reverse.mp hx)))
  refine ⟨W, fun i => ?_⟩
  have g1 := rg_get W i
  have g2 := rg_get W (i + 1)
  rw [hL] at g1 g2
  have hm := Nat.mod_lt i (show 0 < cs.length - a by omega)
  by_cases q : i % (cs.length - a) + 1 < cs.length - a
  · have e : (i + 1) % (cs.length - a) = i % (cs.length - a) + 1 := by
      rw [Nat.add_mod, Nat.mod_eq_of_lt (show 1 < cs.length - a by omega), Nat.mod_eq_of_lt q]
    rw [e, get _ q] at g2
    rw [get _ hm] at g1
    refine K.link _ _ _ g2 ?_
    rw [show cs.length - 1 - (i % (cs.length - a) + 1) + 1 = cs.length - 1 - i % (cs.length - a) by omega]
    exact g1
  · have e1 : i % (cs.length - a) = cs.length - a - 1 := by omega
    have e : (i + 1) % (cs.length - a) = 0 := by
      rw [Nat.add_mod, e1, Nat.mod_eq_of_lt (show 1 < cs.length - a by omega), show cs.length - a - 1 + 1 = cs.length - a by omega, Nat.mod_self]
    rw [e, get _ (by omega)] at g2
    rw [get _ hm, e1, show cs.length - 1 - (cs.length - a - 1) = a by omega, hga] at g1
    rw [Nat.sub_zero] at g2
    rw [← Option.some.inj g1]
    exact K.last _ g2
end part
section
variable {t u : List (List Int)} {ws : List Nat}
theorem pairs_rp : Rp (pairs t u) t.length := ⟨fun p hp => ⟨(mem_pairs.mp hp).1, (mem_pairs.mp hp).2.1⟩, fun p hp e => by have := (mem_pairs.mp hp).2.2; rw [e] at this; exact absurd this (Int.lt_irrefl _)⟩
end

section
variable {C : CallT} {G : String → Option Val} {Q : Val → Mem → Prop} {X : Nat → Mem → Prop} {m : Mem} {n : Nat} {t u f : List (List Int)} {k N : Nat} {v w : Val} {loc : Loc} {R : Flow → Loc → Mem → Prop} {Y : Nat → Loc → Mem → Prop} {ws : List Nat}

theorem comp_own {elt : Ex} {i : Nat} {xs : List Val} {ok : Mem → Prop} (g : Nat → List Int) (hl : xs.length < 1000) (hok : ∀ m', Ext m m' → ok m')
    (step : ∀ j x m', xs[j]? = some x → Ext m m' → ∀ P : Val → Mem → Prop, (∀ c m'', Ext m' m'' → m'' c = none → P (.ref c) (m''.set c (.list ((g j).map .int)))) → wpE C G X elt (setV loc i x) P m')
    (h : ∀ v m', Ext m m' → Own m m' v ((List.range xs.length).map g) → Q v m') : compLoop (cF C G X elt (.one i) .nil loc) ok xs [] (fun ys m' => freshL m' ys Q) m := by
  refine comp_inv (fun k acc m' => Ext m m' ∧ ∃ bs : List Addr, acc = bs.map .ref ∧ bs.length = k ∧ bs.Nodup ∧ ∀ (j : Nat) b, bs[j]? = some b → m b = none ∧ m' b = some (.list ((g j).map .int))) ⟨.refl, [], rfl, rfl, List.nodup_nil, fun j b h => by cases h⟩ (fun k x acc m' hx hI P hP => ?_) fun acc m' hI => ?_
  · obtain ⟨E, bs, rfl, hbl, hbn, hb⟩ := hI
    refine compF_one (step k x m' hx E _ fun c m2 E2 hc => ?_)
    have E3 := E2.trans (Ext.set (o := .list ((g k).map .int)) hc)
    refine hP _ _ ⟨hok _ (E.trans E3), E.trans E3, bs ++ [c], by rw [List.map_append]; rfl, by rw [List.length_append, hbl]; rfl, ?_, fun j b h => ?_⟩
    · rw [List.nodup_append]
      refine ⟨hbn, List.nodup_cons.mpr ⟨by simp, List.nodup_nil⟩, fun x hx y hy => ?_⟩
      rcases List.mem_singleton.mp hy with rfl
      obtain ⟨j, hj⟩ := List.mem_iff_getElem?.mp hx
      exact ne_of hc (E2 _ _ (hb j x hj).2)
    · by_cases hj : j < bs.length
      · rw [List.getElem?_append_left hj] at h
        exact ⟨(hb j b h).1, E3 _ _ (hb j b h).2⟩
      · rw [List.getElem?_append_right (Nat.le_of_not_lt hj)] at h
        have h0 : j - bs.length = 0 := by
          have := (List.getElem?_eq_some_iff.mp h).1
          rw [List.length_singleton] at this
          omega
        rw [h0] at h
        cases h
        have hjk : j = k := by omega
        subst hjk
        exact ⟨none_of (E.trans E2) hc, set_eq⟩
  · obtain ⟨E, bs, rfl, hbl, hbn, hb⟩ := hI
    refine freshL_ (by rw [List.length_map]; exact lid_of (hbl ▸ hl)) fun a ha => ?_
    have hne : ∀ b ∈ bs, m b = none ∧ b ≠ a := fun b hb' => by
      obtain ⟨j, hj⟩ := List.mem_iff_getElem?.mp hb'
      exact ⟨(hb j b hj).1, ne_of ha (hb j b hj).2⟩
    refine h _ _ (E.trans (Ext.set ha)) ⟨a, bs, rfl, set_eq, hbn, by rw [List.length_map, List.length_range]; exact hbl, none_of E ha, hne, fun j b r h1 h2 => ?_⟩
    rw [set_ne (hne b (List.mem_of_getElem? h1)).2, (hb j b h1).2]
    rw [List.getElem?_map] at h2
    obtain ⟨j', hj', rfl⟩ := Option.map_eq_some_iff.mp h2
    obtain ⟨_, rfl⟩ := List.getElem?_eq_some_iff.mp hj'
    rw [List.getElem_range]
theorem map_getD (t : List (List Int)) : (List.range t.length).map (fun j => t.getD j []) = t := by
  refine List.ext_getElem? fun j => ?_
  rw [List.getElem?_map]
  by_cases h : j < t.length
  · rw [List.getElem?_range h, getDL h]; rfl
  · rw [List.getElem?_eq_none (by rw [List.length_range]; omega), List.getElem?_eq_none (by omega)]; rfl
theorem copies {i : Nat} (hi : i < loc.length) (hv : IsT m v t) (hl : t.length < 1000) (hr : ∀ r ∈ t, r.length < 1000) (hQ : ∀ v m', Ext m m' → Own m m' v t → Q v m') :
    itemsW .plain v (fun xs => compLoop (cF C G X (.b1 .list (.nm i)) (.one i) .nil loc) (stands .plain v m) xs [] (fun ys m' => freshL m' ys Q) m) m := by
  obtain ⟨xs, e1, e2⟩ := hv
  refine items_list e1.seq (by rw [e2.length]; exact lid_of hl) ?_
  refine comp_own (fun j => t.getD j []) (by rw [e2.length]; exact hl) (fun m' E => e1.stands (e1.ext E)) (fun j x m' hx E P hP => ?_) (by rw [e2.length, map_getD]; exact hQ)
  obtain ⟨z, hz, hxz⟩ := e2.get hx
  have hzm := List.mem_of_getElem? hz
  refine e_b1 (e_nm (gv_set hi) (b1_list (hxz.ext E).seq (freshL_ (by rw [List.length_map]; exact lid_of (hr z hzm)) fun c hc => ?_)))
  have : t.getD j [] = z := by rw [List.getD_eq_getElem?_getD, hz]; rfl
  exact this ▸ hP c m' .refl hc

theorem nodup_set {α : Type} {x : α} : ∀ {l : List α} {i : Nat}, l.Nodup → x ∉ l → (l.set i x).Nodup
  | [], _, h, _ => by simpa using h
  | a :: l, 0, h, hx => by
    rw [List.set_cons_zero, List.nodup_cons]
    exact ⟨fun q => hx (.tail _ q), (List.nodup_cons.mp h).2⟩
  | a :: l, i + 1, h, hx => by
    rw [List.set_cons_succ, List.nodup_cons]
    refine ⟨fun q => ?_, nodup_set (List.nodup_cons.mp h).2 fun q => hx (.tail _ q)⟩
    rcases List.mem_or_eq_of_mem_set q with q | rfl
    · exact (List.nodup_cons.mp h).1 q
    · exact hx (.head _)
theorem Own.relist {m0 : Mem} (h : Own m0 m v t) (E0 : Ext m0 m) {i : Nat} (hi : i < t.length) (hl : t.length < 1000) {e : Addr} (he : m e = none) {s : List Int} {K : Mem → Prop} (hK : ∀ m', Ext m0 m' → Own m0 m' v (t.set i s) → (∀ b o, v ≠ .ref b → m b = some o → m' b = some o) → K m') : setQ v (.int (i : Nat)) (.ref e) K (m.set e (.list (s.map .int))) := by
  obtain ⟨a, bs, rfl, ha, hn, hbl, h0, hb, hr⟩ := h
  have hea : a ≠ e := ne_of he ha
  have hbe : ∀ (j : Nat) b, bs[j]? = some b → b ≠ e := fun j b h => by
    have hj : j < t.length := hbl ▸ (List.getElem?_eq_some_iff.mp h).1
    exact ne_of he (hr j b _ h (getDL hj))
  have he0 : m0 e = none := none_of E0 he
  refine setQ_ (xs := bs.map .ref) (by rw [set_ne hea]; exact ha) (by rw [List.length_map, hbl]; exact lid_of hl) (nn i) (by rw [List.length_map, hbl]; exact hi) ?_
  rw [show (bs.map Val.ref).set (i : Int).toNat (.ref e) = (bs.set i e).map .ref from List.map_set.symm]
  refine hK _ ((E0.over he0).over h0) ⟨a, bs.set i e, rfl, set_eq, nodup_set hn (fun q => ?_), by rw [List.length_set, List.length_set]; exact hbl, h0, fun b hb' => ?_, fun j b r h1 h2 => ?_⟩ fun b o hb ho => by rw [set_ne (fun q => hb (by rw [q])), set_ne (ne_of he ho)]; exact ho
  · obtain ⟨j, hj⟩ := List.mem_iff_getElem?.mp q
    exact hbe j e hj rfl
  · rcases List.mem_or_eq_of_mem_set hb' with q | rfl
    · exact hb b q
    · exact ⟨he0, Ne.symm hea⟩
  · have hib : i < bs.length := hbl.symm ▸ hi
    by_cases hj : j = i
    · subst hj
      rw [List.getElem?_set_self hib] at h1; cases h1
      rw [List.getElem?_set_self hi] at h2; cases h2
      rw [set_ne (Ne.symm hea), set_eq]
    · rw [List.getElem?_set_ne (Ne.symm hj)] at h1 h2
      rw [set_ne (hb b (List.mem_of_getElem? h1)).2, set_ne (hbe j b h1)]
      exact hr j b r h1 h2

noncomputable def zs (ws : List Nat) : List Int := ws.map fun (i : Nat) => (i : Int)
theorem zs_len : (zs ws).length = ws.length := List.length_map _
end

section
variable {C : CallT} {G : String → Option Val} {Q : Val → Mem → Prop} {X : Nat → Mem → Prop} {m : Mem} {n : Nat} {t u f : List (List Int)} {k N : Nat} {v w : Val} {loc : Loc} {R : Flow → Loc → Mem → Prop} {Y : Nat → Loc → Mem → Prop} {ws : List Nat}

end

section run
variable {t u : List (List Int)} {o ps : List Int} {k : Nat}
end run

section giving
variable {t u v f : List (List Int)} {ws : List Nat} {k N : Nat} {x : Int}
theorem Core.ring {ps : List (Nat × Nat)} {left : List Nat} (R : Rp ps N) (K : Core ps left) (hlt : ∀ y ∈ left, y < N) (hnd : left.Nodup) : ∃ ws, Way ws N ∧ Around ps ws := by
  have first : ∀ y ∈ left, ∃ g, g ∈ enviersOf ps y left := fun y hy => by
    obtain ⟨z, hz, hp⟩ := K.2 y hy
    exact ⟨z, mem_enviers.mpr ⟨hp, hz⟩⟩
  have go : ∀ n cs h, Chain ps left cs h → left.length + 1 ≤ n + cs.length → ∃ ws, Way ws N ∧ Around ps ws := fun n => by
    induction n with
    | zero =>
      intro cs h C hn
      have := nodup_sub_len C.nd C.sub
      omega
    | succ n ih =>
      intro cs h C hn
      by_cases hh : h ∈ cs
      · exact ⟨_, C.ring R hlt hh⟩
      · obtain ⟨g, hg⟩ := first h C.hin
        exact ih _ _ (C.next hh hg) (by rw [List.length_append, List.length_singleton]; omega)
  obtain ⟨z, hz⟩ : ∃ z, z ∈ left := by
    cases left with
    | nil => exact absurd rfl K.1
    | cons z r => exact ⟨z, .head _⟩
  obtain ⟨g, hg⟩ := first z hz
  obtain ⟨g1, g2⟩ := mem_enviers.mp hg
  exact go left.length [z] g ⟨List.nodup_cons.mpr ⟨by simp, List.nodup_nil⟩, fun y hy => by rw [List.mem_singleton.mp hy]; exact hz, (fun e => by cases e), (fun i a b h1 h2 => by cases i <;> cases h2), g2, fun y hy => by cases hy; exact g1⟩ (by rw [List.length_singleton]; exact Nat.le_refl _)

structure Free (ps : List (Nat × Nat)) (N j : Nat) : Prop where
  lt : j < N
  no : ∀ i, (i, j) ∉ ps
  least : ∀ j', j' < j → ∃ i, (i, j') ∈ ps
theorem Free.unique {ps : List (Nat × Nat)} {j j' : Nat} (F : Free ps N j) (F' : Free ps N j') : j = j' := by
  rcases Nat.lt_trichotomy j j' with q | q | q
  · obtain ⟨i, hi⟩ := F'.least j q
    exact absurd hi (F.no i)
  · exact q
  · obtain ⟨i, hi⟩ := F.least j' q
    exact absurd hi (F'.no i)
noncomputable def NoRing (ps : List (Nat × Nat)) (N : Nat) : Prop := ∀ ws, Way ws N → Around ps ws → False
theorem NoRing.free {ps : List (Nat × Nat)} (R : Rp ps N) (hN : 0 < N) (h : NoRing ps N) : ∃ j, Free ps N j := by
  have ex : ∃ j, j < N ∧ ∀ i, (i, j) ∉ ps := by
    refine Classical.byContradiction fun hno => ?_
    have K : Core ps (List.range N) := by
      refine ⟨fun e => by have := congrArg List.length e; rw [List.length_range] at this; exact absurd this (Nat.ne_of_gt hN), fun y hy => ?_⟩
      refine Classical.byContradiction fun hn => hno ⟨y, List.mem_range.mp hy, fun i hi => hn ⟨i, List.mem_range.mpr (R.lt _ hi).1, hi⟩⟩
    obtain ⟨ws, W, A⟩ := K.ring R (fun y hy => List.mem_range.mp hy) List.nodup_range
    exact h ws W A
  have go : ∀ n j, j < n → j < N → (∀ i, (i, j) ∉ ps) → ∃ j, Free ps N j := fun n => by
    induction n with
    | zero => intro j h; exact absurd h (Nat.not_lt_zero _)
    | succ n ih =>
      intro j hj hN hno
      by_cases q : ∃ j', j' < j ∧ ∀ i, (i, j') ∉ ps
      · obtain ⟨j', h1, h2⟩ := q
        exact ih j' (by omega) (by omega) h2
      · refine ⟨j, hN, hno, fun j' hj' => ?_⟩
        exact Classical.byContradiction fun hn => q ⟨j', hj', fun i hi => hn ⟨i, hi⟩⟩
  obtain ⟨j, h1, h2⟩ := ex
  exact go (j + 1) j (Nat.lt_succ_self j) h1 h2
structure GaveTo (v : List (List Int)) (x : Int) (j : Nat) (u : List (List Int)) : Prop where
  ex : ∃ s : List Int, s.Perm (v.getD j [] ++ [x]) ∧ s.Pairwise (· ≤ ·) ∧ u = v.set j s
noncomputable def Gave (t v : List (List Int)) (x : Int) (u : List (List Int)) : Prop := ∃ j, Free (pairs t v) t.length j ∧ GaveTo v x j u
theorem GaveTo.unique {j : Nat} {u' : List (List Int)} (G : GaveTo v x j u) (G' : GaveTo v x j u') : u = u' := by
  obtain ⟨s, h1, h2, rfl⟩ := G.ex
  obtain ⟨s', h1', h2', rfl⟩ := G'.ex
  rw [sorted_eq (h1.trans h1'.symm) h2 h2']
theorem Gave.unique {u' : List (List Int)} (G : Gave t v x u) (G' : Gave t v x u') : u = u' := by
  obtain ⟨j, F, g⟩ := G
  obtain ⟨j', F', g'⟩ := G'
  obtain rfl := F.unique F'
  exact g.unique g'
inductive Reach (t : List (List Int)) : List (List Int) → List (List Int) → Prop
  | refl (u : List (List Int)) : Reach t u u
  | step {u v w : List (List Int)} {ws : List Nat} : Way ws t.length → Around (pairs t u) ws → Turn u ws v → Reach t v w → Reach t u w
noncomputable def Given (t u : List (List Int)) (x : Int) (u' : List (List Int)) : Prop := ∃ v, Reach t u v ∧ NoRing (pairs t v) t.length ∧ Gave t v x u'

theorem flat_set_perm {s : List Int} {x : Int} : ∀ {u : List (List Int)} {j : Nat}, j < u.length → s.Perm (u.getD j [] ++ [x]) → (u.set j s).flatten.Perm (u.flatten ++ [x])
  | [], _, h, _ => absurd h (Nat.not_lt_zero _)
  | a :: u, 0, _, h => by
    rw [List.set_cons_zero, List.flatten_cons, List.flatten_cons]
    refine (List.Perm.append_right _ h).trans ?_
    show ((a ++ [x]) ++ u.flatten).Perm _
    rw [List.append_assoc, List.append_assoc]
    exact List.Perm.append_left _ List.perm_append_comm
  | a :: u, j + 1, hj, h => by
    rw [List.set_cons_succ, List.flatten_cons, List.flatten_cons, List.append_assoc]
    exact List.Perm.append_left _ (flat_set_perm (Nat.lt_of_succ_lt_succ hj) h)
theorem Gave.flat (O : Ok t v k) (G : Gave t v x u) : u.flatten.Perm (v.flatten ++ [x]) := by
  obtain ⟨j, F, s, hs, _, rfl⟩ := G
  exact flat_set_perm (by rw [O.len]; exact F.lt) hs
theorem int_sub_len {l : List Int} : ∀ {l' : List Int}, l.Nodup → (∀ x ∈ l, x ∈ l') → l.length ≤ l'.length := by
  induction l with
  | nil => intro l' _ _; exact Nat.zero_le _
  | cons a l ih =>
    intro l' hn hs
    rw [List.nodup_cons] at hn
    have h1 := ih (l' := l'.erase a) hn.2 fun x hx => (List.mem_erase_of_ne (fun e : x = a => hn.1 (e ▸ hx))).mpr (hs x (.tail _ hx))
    have h2 := List.length_erase_of_mem (hs a (.head _))
    have h3 := List.length_pos_of_mem (hs a (.head _))
    rw [List.length_cons]
    omega
theorem Gave.ok (O : Ok t v k) (hx : 0 ≤ x ∧ x.toNat < k) (hn : x ∉ v.flatten) (G : Gave t v x u) : Ok t u k := by
  have hfl := G.flat O
  obtain ⟨j, F, s, hs, hso, rfl⟩ := G
  have hjv : j < v.length := by rw [O.len]; exact F.lt
  have hvj := getDL_mem hjv
  have hth : ∀ y ∈ s, 0 ≤ y ∧ y.toNat < k := fun y hy => by
    rcases List.mem_append.mp (hs.mem_iff.mp hy) with q | q
    · exact O.thing hvj y q
    · rw [List.mem_singleton.mp q]; exact hx
  have hxj : x ∉ v.getD j [] := fun q => hn (List.mem_flatten.mpr ⟨_, hvj, q⟩)
  have hsn : s.Nodup := hs.nodup_iff.mpr (by
    rw [List.nodup_append]
    refine ⟨O.nodup hvj, List.nodup_cons.mpr ⟨by simp, List.nodup_nil⟩, fun a ha b hb e => ?_⟩
    rw [List.mem_singleton.mp hb] at e
    exact hxj (e ▸ ha))
  have hsl : s.length ≤ k := by
    have := int_sub_len hsn (l' := (List.range k).map fun (i : Nat) => (i : Int)) fun y hy => by
      obtain ⟨h0, h1⟩ := hth y hy
      exact List.mem_map.mpr ⟨y.toNat, List.mem_range.mpr h1, Int.toNat_of_nonneg h0⟩
    rw [List.length_map, List.length_range] at this
    exact this
  refine ⟨O.tab, O.row, O.k40, by rw [List.length_set]; exact O.len, fun y hy => ?_, ?_, ?_⟩
  · rcases List.mem_or_eq_of_mem_set hy with q | rfl
    · exact O.fit y q
    · exact hsl
  · rw [List.all_eq_true]
    intro y hy
    rcases List.mem_or_eq_of_mem_set hy with q | rfl
    · exact O.share q
    · simp only [shareOk, thingsOk, Bool.and_eq_true, List.all_eq_true, decide_eq_true_eq]
      refine ⟨⟨fun z hz => ?_, hsn⟩, hso⟩
      have := hth z hz
      omega
  · refine hfl.nodup_iff.mpr ?_
    rw [List.nodup_append]
    refine ⟨O.nd, List.nodup_cons.mpr ⟨by simp, List.nodup_nil⟩, fun a ha b hb e => ?_⟩
    rw [List.mem_singleton.mp hb] at e
    exact hn (e ▸ ha)
end giving

section
variable {C : CallT} {G : String → Option Val} {Q : Val → Mem → Prop} {X : Nat → Mem → Prop} {m : Mem} {n : Nat} {t u : List (List Int)} {k N : Nat} {v w : Val} {loc : Loc} {R : Flow → Loc → Mem → Prop} {Y : Nat → Loc → Mem → Prop} {ps : List (Nat × Nat)} {left : List Nat} {a : Addr}

theorem while_inv {c : (Bool → Mem → Prop) → Loc → Mem → Prop} {f : (Flow → Loc → Mem → Prop) → Loc → Mem → Prop} (I : Nat → Loc → Mem → Prop)
    (step : ∀ r l m, I r l m → ∀ P : Loc → Mem → Prop, (∀ r', r = r' + 1 → ∀ l' m', I r' l' m' → P l' m') → c (ifQ (fun m' => f (loopQ R P) l m') (fun m' => R .next l m')) l m) (r : Nat) : ∀ l m, I r l m → whileLoop c f (r + 1) R l m := by
  induction r with
  | zero => exact fun l m h => step 0 l m h _ fun r' e => nomatch e
  | succ r ih => exact fun l m h => step (r + 1) l m h _ fun r' e l' m' hI => by cases e; exact ih l' m' hI
theorem s_whiles {c : Ex} {b : Sts} (r : Nat) (h : whileLoop (fun Q' l' m' => wpE C G noX c l' (asB Q') m') (fun Q' l' m' => wpSs C G b Q' noY l' m') r R loc m) : wpS C G (.whiles c b) R Y loc m := Exists.intro r h
theorem cmp_inI {x : Int} {z : Val} {is : List Int} {P : Bool → Mem → Prop} (hz : IsI m z is) (h : P (decide (x ∈ is)) m) : wpCmp .inn (.int x) z P m := by
  refine Exists.intro (Dat.int x) ⟨is.map .int, is.map .int, hz.seq, rfl, readsL_ints, rfl, ?_, ?_⟩
  · rw [List.all_eq_true]
    intro d hd
    obtain ⟨y, _, rfl⟩ := List.mem_map.mp hd
    rfl
  · rw [show ((is.map Dat.int).any fun e => Dat.beq e (.int x)) = decide (x ∈ is) by
      rw [List.any_map]
      by_cases hx : x ∈ is
      · rw [decide_eq_true hx, List.any_eq_true]; exact ⟨x, hx, beq_self_eq_true x⟩
      · rw [decide_eq_false hx, List.any_eq_false]; intro y hy e; exact hx (beq_iff_eq.mp e ▸ hy)]
    exact h
theorem cmp_notinI {x : Int} {z : Val} {is : List Int} {P : Bool → Mem → Prop} (hz : IsI m z is) (h : P (!decide (x ∈ is)) m) : wpCmp .notin (.int x) z P m := cmp_inI (P := fun b m => P (!b) m) hz h
theorem mem_zs {ws : List Nat} {i : Nat} : (i : Int) ∈ zs ws ↔ i ∈ ws := by
  unfold zs
  rw [List.mem_map]
  constructor
  · rintro ⟨j, hj, e⟩; exact Int.ofNat.inj e ▸ hj
  · intro h; exact ⟨i, h, rfl⟩
theorem pair_0 {p : Nat × Nat} (h : Q (.int p.1) m) : subW (tupV p) (.int 0) Q m := subW_ (xs := [.int p.1, .int p.2]) rfl rfl rfl (lid_of (show 2 < 1000 by decide)) h
theorem pair_1 {p : Nat × Nat} (h : Q (.int p.2) m) : subW (tupV p) (.int 1) Q m := subW_ (xs := [.int p.1, .int p.2]) rfl rfl rfl (lid_of (show 2 < 1000 by decide)) h

theorem enviers_spec (ha : m a = some (.list (ps.map tupV))) (hps : ps.length < 100) (hL : IsI m v (zs left)) {h : Nat} (hq : ∀ c m', Ext m m' → m c = none → m' c = some (.list ((zs (enviersOf ps h left)).map .int)) → Q (.ref c) m') : CN (n + 1) 30 [.ref a, .int (h : Nat), v] Q X m := by
  walk_at "in"
  walk_at "ss"
  refine items_list (IsL.seq ⟨a, rfl, ha⟩) (by rw [List.length_map]; exact lid_of (by omega)) ?_
  refine comp_filter (g := fun x => match x with | .tup (.int i :: _) => .int i | _ => .none) (c := fun x => match x with | .tup [.int i, .int j] => decide (j = (h : Nat)) && decide (i ∈ zs left) | _ => false) rfl (fun x hx P hP => ?_) (fun x hx P hP => ?_) ?_
  · obtain ⟨p, _, rfl⟩ := List.mem_map.mp hx
    walk_at "ss"
    refine pair_1 ?_
    walk_at "ss"
    have hP' : P (.bool (decide ((p.2 : Int) = (h : Nat)) && decide ((p.1 : Int) ∈ zs left))) m := hP
    by_cases q : (p.2 : Int) = (h : Nat)
    · rw [decide_eq_true q] at hP' ⊢
      walk_at "ss"
      refine pair_0 ?_
      walk_at "ss"
      refine cmp_inI hL ?_
      walk_at "ss"
      rw [Bool.true_and] at hP'
      exact hP'
    · rw [decide_eq_false q] at hP' ⊢
      walk_at "ss"
      exact hP'
  · obtain ⟨p, _, rfl⟩ := List.mem_map.mp hx
    walk_at "ss"
    exact pair_0 hP
  have e : List.map (fun x => match x with | Val.tup (.int i :: _) => Val.int i | _ => .none) (List.filter (fun x => match x with | Val.tup [.int i, .int j] => decide (j = (h : Nat)) && decide (i ∈ zs left) | _ => false) (ps.map tupV)) = (zs (enviersOf ps h left)).map .int := by
    unfold zs enviersOf
    rw [List.filter_map, List.map_map, List.map_map, List.map_map]
    congr 1
    refine List.filter_congr fun p _ => ?_
    show (decide ((p.2 : Int) = (h : Nat)) && decide ((p.1 : Int) ∈ zs left)) = _
    by_cases q1 : p.2 = h <;> by_cases q2 : p.1 ∈ left <;> simp [q1, q2, mem_zs, Int.ofNat_inj]
  rw [e]
  have hle : (enviersOf ps h left).length < 100 := by
    unfold enviersOf
    rw [List.length_map]
    exact Nat.lt_of_le_of_lt (List.length_filter_le _ _) hps
  exact freshL_ (by rw [List.length_map, zs_len]; exact lid_of (by omega)) fun c hc => hq c _ (Ext.set hc) hc set_eq

theorem first_free_spec (ha : m a = some (.list (ps.map tupV))) (hps : ps.length < 100) (hl : left.length ≤ 8) (hL : IsI m v (zs left))
    (h0 : ∀ m', Ext m m' → (∀ x ∈ left, enviersOf ps x left ≠ []) → Q .none m') (h1 : ∀ (x : Nat) m', Ext m m' → x ∈ left → enviersOf ps x left = [] → (∃ i, left[i]? = some x ∧ ∀ y ∈ left.take i, enviersOf ps y left ≠ []) → Q (.int (x : Nat)) m') : CN (n + 2) 31 [.ref a, v] Q X m := by
  walk_at "in"
  walk_at "ss"
  have hll : ((zs left).map Val.int).length < lid := by rw [List.length_map, zs_len]; exact lid_of (by omega)
  refine items_list hL.seq hll ?_
  refine for_inv (fun i l m' => ∃ y, l = [some (.ref a), some v, y] ∧ Ext m m' ∧ ∀ x ∈ left.take i, enviersOf ps x left ≠ []) ⟨none, rfl, .refl, fun x hx => by cases hx⟩ (fun i x l m' hx hI P hP => ?_) fun l m' hI => ?_
  · obtain ⟨y, rfl, E, hall⟩ := hI
    unfold zs at hx
    rw [List.map_map, List.getElem?_map] at hx
    obtain ⟨z, hz, rfl⟩ := Option.map_eq_some_iff.mp hx
    refine bodyF_one ?_
    dsimp only [setV, Function.comp_apply]
    walk_at "ss"
    refine enviers_spec (E a _ ha) hps (hL.ext E) fun c m2 E2 _ hc => ?_
    walk_at "ss"
    refine freshL_ (lid_of (by decide)) fun d hd => ?_
    have E3 := E2.trans (Ext.set (o := .list []) hd)
    refine cmp_eqII (a := zs (enviersOf ps z left)) (b := []) ⟨c, rfl, Ext.set hd c _ hc⟩ IsL.new ?_
    with_reducible refine asB_ (ifQ_dec (fun q => ?_) (fun q => ?_))
    · have q := of_decide_eq_true q
      walk_at "ss"
      with_reducible refine loopQ_ret ?_
      walk_at "ss"
      exact h1 z _ (E.trans E3) (List.mem_of_getElem? hz) (List.map_eq_nil_iff.mp q) ⟨i, hz, hall⟩
    · have q := of_decide_eq_false q
      walk_at "ss"
      with_reducible refine loopQ_next (hP _ _ ?_)
      exact ⟨IsL.stands (k := .plain) hL (hL.ext (E.trans E3)), _, rfl, E.trans E3, take_more hall hz fun e => q (by rw [e]; rfl)⟩
  · obtain ⟨y, rfl, E, hall⟩ := hI
    walk_at "ss"
    rw [List.length_map, zs_len, List.take_length] at hall
    exact h0 _ E hall

theorem zs_range (N : Nat) : rangeV (N : Nat) = (zs (List.range N)).map .int := by unfold rangeV zs; rw [List.map_map]; rfl
theorem zs_app (a b : List Nat) : zs (a ++ b) = zs a ++ zs b := List.map_append ..
structure PSt (m : Mem) (ps : List (Nat × Nat)) (N : Nat) (f c : Addr) (hv : Val) (fs left : List Nat) (m2 : Mem) : Prop where
  mr : ∃ mr, Ext m mr ∧ mr f = none ∧ m2 = mr.set f (.list ((zs fs).map .int)) ∧ mr c = some (.list ((zs left).map .int))
  part : PartTo ps N fs left
  next : (hv = .none ∧ ∀ x ∈ left, enviersOf ps x left ≠ []) ∨ ∃ x : Nat, hv = .int (x : Nat) ∧ x ∈ left ∧ enviersOf ps x left = []
theorem PartTo.lens {fs left : List Nat} (P : PartTo ps N fs left) : fs.length + left.length = N := by
  have := P.perm.length_eq
  rw [List.length_append, List.length_range] at this
  exact this
theorem parted_tail (Rr : Rp ps N) (h8 : N ≤ 8) (ha : m a = some (.list (ps.map tupV))) (hps : ps.length < 100) {f c : Addr} (hf : m f = none) {hv : Val} {fs left : List Nat} {m2 : Mem} (S : PSt m ps N f c hv fs left m2)
    (h : ∀ c fs left m', Ext m m' → m' f = some (.list ((zs fs).map .int)) → m' c = some (.list ((zs left).map .int)) → (left = [] ∧ Line ps N fs ∨ Core ps left ∧ (∀ x ∈ left, x < N) ∧ left.Nodup) → Q (.tup [.ref f, .ref c]) m') :
    wpSs (CN (n + 2)) (globOf GS) (Sts.drop 3 f_parted.body) (retQ Q) (fun c _ m' => X c m') [some (.ref a), some (.int (N : Nat)), some (.ref f), some (.ref c), some hv, none] m2 := by
  dsimp only [f_parted, sts, Sts.drop]
  walk_at "ss"
  refine s_whiles _ (while_inv (fun r l m' => ∃ c hv fs left, l = [some (.ref a), some (.int (N : Nat)), some (.ref f), some (.ref c), some hv, none] ∧ PSt m ps N f c hv fs left m' ∧ left.length = r) (fun r l m' hI P hP => ?_) _ _ _ ⟨c, hv, fs, left, rfl, S, rfl⟩)
  obtain ⟨c, hv, fs, left, rfl, S, hr⟩ := hI
  obtain ⟨⟨mr, Er, hrf, rfl, hrc⟩, PT, hn⟩ := S
  have Ef := Ext.set (o := .list ((zs fs).map .int)) hrf
  have hlens := PT.lens
  walk_at "ss"
  rcases hn with ⟨rfl, hno⟩ | ⟨x, rfl, hx, he⟩
  · with_reducible refine ifQ_f rfl ?_
    walk_at "ss"
    refine ⟨lid_of (show 2 < 1000 by decide), ?_⟩
    walk_at "ss"
    refine h _ fs left _ (Er.trans Ef) set_eq (Ef c _ hrc) ?_
    have hnd := PT.nd
    rw [List.nodup_append] at hnd
    by_cases q : left = []
    · subst q
      exact .inl ⟨rfl, PT.line Rr⟩
    · refine .inr ⟨⟨q, fun y hy => ?_⟩, fun y hy => List.mem_range.mp (PT.perm.mem_iff.mp (List.mem_append_right _ hy)), hnd.2.1⟩
      cases e : enviersOf ps y left with
      | nil => exact absurd e (hno y hy)
      | cons z r =>
        have hz : z ∈ enviersOf ps y left := by rw [e]; exact .head _
        obtain ⟨h1, h2⟩ := mem_enviers.mp hz
        exact ⟨z, h2, h1⟩
  · with_reducible refine ifQ_t rfl ?_
    walk_at "ss"
    refine isL_ set_eq ?_
    walk_at "ss"
    refine appQ_ set_eq (by rw [List.length_map, zs_len]; exact lid_of (by omega)) ?_
    walk_at "ss"
    dsimp only [setV]
    rw [set_set, show (zs fs).map Val.int ++ [.int (x : Nat)] = (zs (fs ++ [x])).map .int by rw [zs_app, List.map_append]; rfl]
    have P2 := PT.next Rr hx he
    have Ef2 := Ext.set (o := .list ((zs (fs ++ [x])).map .int)) hrf
    refine items_list (IsL.seq ⟨c, rfl, Ef2 c _ hrc⟩) (by rw [List.length_map, zs_len]; exact lid_of (by omega)) ?_
    refine comp_filter (g := fun y => y) (c := fun y => match y with | .int y => decide (y ≠ (x : Nat)) | _ => false) rfl (fun y hy P hP => ?_) (fun y hy P hP => ?_) ?_
    · obtain ⟨y, _, rfl⟩ := List.mem_map.mp hy
      walk_at "ss"
      exact hP
    · obtain ⟨y, _, rfl⟩ := List.mem_map.mp hy
      walk_at "ss"
      exact hP
    have hfm : List.map (fun y => y) (List.filter (fun y => match y with | Val.int y => decide (y ≠ (x : Nat)) | _ => false) ((zs left).map .int)) = (zs (left.filter fun y => decide (y ≠ x))).map .int := by
      unfold zs
      rw [List.map_id', List.map_map, List.map_map, List.filter_map]
      congr 1
      refine List.filter_congr fun y _ => ?_
      show decide ((y : Int) ≠ (x : Nat)) = decide (y ≠ x)
      by_cases q : y = x
      · subst q; simp
      · rw [decide_eq_true q, decide_eq_true (show (y : Int) ≠ (x : Nat) from fun e => q (by omega))]
    rw [hfm]
    have hnd := PT.nd
    rw [List.nodup_append] at hnd
    have hfl := filter_len hnd.2.1 hx
    have hfl8 : (left.filter fun y => decide (y ≠ x)).length ≤ 8 := by omega
    refine freshL_ (by rw [List.length_map, zs_len]; exact lid_of (by omega)) fun d hd => ?_
    have hdf : d ≠ f := fun e => by subst e; rw [set_eq] at hd; cases hd
    have hdr : mr d = none := by rw [set_ne hdf] at hd; exact hd
    rw [set_comm (Ne.symm hdf)]
    have Ed := Ext.set (o := .list ((zs (left.filter fun y => decide (y ≠ x))).map .int)) hdr
    have hdf2 : (mr.set d (.list ((zs (left.filter fun y => decide (y ≠ x))).map .int))) f = none := by rw [set_ne (Ne.symm hdf)]; exact hrf
    have hd2 : (mr.set d (.list ((zs (left.filter fun y => decide (y ≠ x))).map .int))) d = some (.list ((zs (left.filter fun y => decide (y ≠ x))).map .int)) := set_eq
    generalize mr.set d (.list ((zs (left.filter fun y => decide (y ≠ x))).map .int)) = mr2 at Ed hdf2 hd2
    have Ef3 := Ext.set (o := .list ((zs (fs ++ [x])).map .int)) hdf2
    have E2 := Er.trans Ed
    walk_at "ss"
    dsimp only [setV]
    have go : ∀ m3, Ext (mr2.set f (.list ((zs (fs ++ [x])).map .int))) m3 → ∃ mr3, Ext m mr3 ∧ mr3 f = none ∧ m3 = mr3.set f (.list ((zs (fs ++ [x])).map .int)) ∧ mr3 d = some (.list ((zs (left.filter fun y => decide (y ≠ x))).map .int)) := fun m3 E3 =>
      ⟨m3.del f, E2.trans (Ext.del hdf2 E3), del_eq, by rw [del_set, set_same (E3 f _ set_eq)], Ext.del hdf2 E3 d _ hd2⟩
    refine first_free_spec (Ef3 a _ (E2 a _ ha)) hps hfl8 ⟨d, rfl, Ef3 d _ hd2⟩ (fun m3 E3 hno => ?_) (fun y m3 E3 hy he _ => ?_)
    · walk_at "ss"
      with_reducible refine loopQ_next (hP ((left.filter fun y => decide (y ≠ x)).length) (by omega) _ _ ?_)
      exact ⟨d, _, _, _, rfl, ⟨go m3 E3, P2, .inl ⟨rfl, hno⟩⟩, rfl⟩
    · walk_at "ss"
      with_reducible refine loopQ_next (hP ((left.filter fun y => decide (y ≠ x)).length) (by omega) _ _ ?_)
      exact ⟨d, _, _, _, rfl, ⟨go m3 E3, P2, .inr ⟨y, rfl, hy, he⟩⟩, rfl⟩

theorem parted_spec (Rr : Rp ps N) (h8 : N ≤ 8) (ha : m a = some (.list (ps.map tupV))) (hps : ps.length < 100)
    (h : ∀ f c fs left m', Ext m m' → m f = none → m' f = some (.list ((zs fs).map .int)) → m' c = some (.list ((zs left).map .int)) → (left = [] ∧ Line ps N fs ∨ Core ps left ∧ (∀ x ∈ left, x < N) ∧ left.Nodup) → Q (.tup [.ref f, .ref c]) m') : CN (n + 3) 32 [.ref a, .int (N : Nat)] Q X m := by
  walk_at "in"
  walk_at "ss"
  refine freshL_ (lid_of (by decide)) fun f hf => ?_
  walk_at "ss"
  refine b1_lrange (rng8 h8) ?_
  refine freshL_ (by rw [range_len]; exact lid_of (by show N < 1000; omega)) fun c hc => ?_
  have hcf : c ≠ f := fun e => by subst e; rw [set_eq] at hc; cases hc
  rw [zs_range]
  refine seqQ_next (s_cons (s_asg (e_call (l_pv _ (by with_unfolding_all rfl) ?_))))
  have hcm : m c = none := by rw [set_ne hcf] at hc; exact hc
  have Ec : Ext m (m.set c (.list ((zs (List.range N)).map .int))) := Ext.set hcm
  have hfc : (m.set c (.list ((zs (List.range N)).map .int))) f = none := by rw [set_ne (Ne.symm hcf)]; exact hf
  rw [set_comm (Ne.symm hcf)]
  have hLc : (m.set c (.list ((zs (List.range N)).map .int))) c = some (.list ((zs (List.range N)).map .int)) := set_eq
  generalize m.set c (.list ((zs (List.range N)).map .int)) = mr at Ec hfc hLc
  have Ef := Ext.set (o := .list []) hfc
  have go : ∀ m3, Ext (mr.set f (.list [])) m3 → ∃ mr3, Ext m mr3 ∧ mr3 f = none ∧ m3 = mr3.set f (.list ((zs []).map .int)) ∧ mr3 c = some (.list ((zs (List.range N)).map .int)) := fun m3 E3 =>
    ⟨m3.del f, Ec.trans (Ext.del hfc E3), del_eq, by rw [del_set]; exact (set_same (E3 f _ set_eq)).symm, Ext.del hfc E3 c _ hLc⟩
  refine first_free_spec (left := List.range N) (Ef a _ (Ec a _ ha)) hps (by rw [List.length_range]; exact h8) ⟨c, rfl, Ef c _ hLc⟩ (fun m2 E2 hno => ?_) (fun x m2 E2 hx he _ => ?_)
  · exact seqQ_next (parted_tail Rr h8 ha hps hf ⟨go m2 E2, .start, .inl ⟨rfl, hno⟩⟩ fun c fs left m' E h1 h2 h3 => h f c fs left m' E hf h1 h2 h3)
  · exact seqQ_next (parted_tail Rr h8 ha hps hf ⟨go m2 E2, .start, .inr ⟨x, rfl, hx, he⟩⟩ fun c fs left m' E h1 h2 h3 => h f c fs left m' E hf h1 h2 h3)
end

section
variable {C : CallT} {G : String → Option Val} {Q : Val → Mem → Prop} {X : Nat → Mem → Prop} {m : Mem} {n : Nat} {t u : List (List Int)} {k N : Nat} {v w : Val} {loc : Loc} {R : Flow → Loc → Mem → Prop} {Y : Nat → Loc → Mem → Prop} {ps : List (Nat × Nat)} {left : List Nat} {a : Addr}

theorem dec_t {p : Prop} {inst : Decidable p} (h : p) : @decide p inst = true := decide_eq_true h
theorem dec_f {p : Prop} {inst : Decidable p} (h : ¬ p) : @decide p inst = false := decide_eq_false h
theorem zs_get {ws : List Nat} {i x : Nat} (h : ws[i]? = some x) : (zs ws)[i]? = some ((x : Nat) : Int) := by unfold zs; rw [List.getElem?_map, h]; rfl
theorem first_envier (K : Core ps left) {x : Nat} (hx : x ∈ left) : ∃ g, (enviersOf ps x left)[0]? = some g ∧ g ∈ enviersOf ps x left := by
  obtain ⟨y, hy, hp⟩ := K.2 x hx
  have hm : y ∈ enviersOf ps x left := mem_enviers.mpr ⟨hp, hy⟩
  cases e : enviersOf ps x left with
  | nil => rw [e] at hm; cases hm
  | cons g r => exact ⟨g, rfl, .head _⟩
theorem zs_idx (cs : List Nat) (h : Nat) : (zs cs).idxOf ((h : Nat) : Int) = cs.idxOf h := by
  unfold zs
  induction cs with
  | nil => rfl
  | cons a l ih =>
    rw [List.map_cons, List.idxOf_cons, List.idxOf_cons, ih]
    by_cases e : a = h
    · subst e; simp
    · rw [beq_false_of_ne e, beq_false_of_ne (show ((a : Nat) : Int) ≠ (h : Nat) from fun q => e (by omega))]

theorem ring_among_spec (Rr : Rp ps N) (h8 : N ≤ 8) (ha : m a = some (.list (ps.map tupV))) (hps : ps.length < 100) (K : Core ps left) (hlt : ∀ x ∈ left, x < N) (hnd : left.Nodup) {c : Addr} (hc : m c = some (.list ((zs left).map .int)))
    (h : ∀ b ws m', Ext m m' → m b = none → m' b = some (.list ((zs ws).map .int)) → Way ws N → Around ps ws → Q (.ref b) m') : CN (n + 2) 33 [.ref a, .ref c] Q X m := by
  have hl8 : left.length ≤ 8 := Nat.le_trans (by have := nodup_sub_len hnd (l' := List.range N) fun x hx => List.mem_range.mpr (hlt x hx); rw [List.length_range] at this; exact this) h8
  obtain ⟨z, hz⟩ : ∃ z, left[0]? = some z := by
    cases left with
    | nil => exact absurd rfl K.1
    | cons z r => exact ⟨z, rfl⟩
  have hzm := List.mem_of_getElem? hz
  have hcl : (zs left).length < lid := by rw [zs_len]; exact lid_of (by omega)
  walk_at "in"
  walk_at "ss"
  refine sub_ints (is := zs left) ⟨c, rfl, hc⟩ (by decide) (zs_get hz) hcl ?_
  walk_at "ss"
  refine freshL_ (lid_of (show 1 < 1000 by decide)) fun f hf => ?_
  have Ef := Ext.set (o := .list [Val.int ((z : Nat) : Int)]) hf
  walk_at "ss"
  try dsimp only [setV]
  refine sub_ints (is := zs left) ⟨c, rfl, Ef c _ hc⟩ (by decide) (zs_get hz) hcl ?_
  walk_at "ss"
  refine enviers_spec (Ef a _ ha) hps ⟨c, rfl, Ef c _ hc⟩ fun d m2 E2 _ hd => ?_
  walk_at "ss"
  obtain ⟨g, hg0, hg⟩ := first_envier K hzm
  have elen : ∀ x, (zs (enviersOf ps x left)).length < lid := fun x => by
    rw [zs_len]
    unfold enviersOf
    rw [List.length_map]
    exact lid_of (Nat.lt_of_le_of_lt (List.length_filter_le _ _) (by omega))
  refine sub_ints (is := zs (enviersOf ps z left)) ⟨d, rfl, hd⟩ (by decide) (zs_get hg0) (elen z) ?_
  walk_at "ss"
  try dsimp only [setV]
  have hch0 : Chain ps left [z] g := by
    obtain ⟨g1, g2⟩ := mem_enviers.mp hg
    refine ⟨List.nodup_cons.mpr ⟨by simp, List.nodup_nil⟩, fun x hx => by rw [List.mem_singleton.mp hx]; exact hzm, (fun e => by cases e), (fun i x y h1 h2 => by cases i <;> cases h2), g2, fun x hx => by cases hx; exact g1⟩
  refine s_whiles _ (while_inv (fun r l m' => ∃ (cs : List Nat) (g : Nat), l = [some (.ref a), some (.ref c), some (.ref f), some (.int (g : Nat))] ∧ At m f ((zs cs).map .int) m' ∧ Chain ps left cs g ∧ r = 9 - cs.length) (fun r l m' hI P hP => ?_) 8 _ _ ⟨[z], g, rfl, (At.start hf).grow E2, hch0, rfl⟩)
  obtain ⟨cs, g, rfl, A, Ch, hr⟩ := hI
  have hcs : cs.length ≤ left.length := nodup_sub_len Ch.nd Ch.sub
  have hcl' : (zs cs).length < lid := by rw [zs_len]; exact lid_of (by omega)
  walk_at "ss"
  refine cmp_notinI (is := zs cs) ⟨f, rfl, A.get⟩ ?_
  by_cases hin : g ∈ cs
  · rw [decide_eq_true (mem_zs.mpr hin)]
    walk_at "ss"
    refine isL_ A.get ?_
    walk_at "ss"
    refine idxQ_ A.get (mem_zs.mpr hin) hcl' ?_
    refine slQ_ A.get (by rw [List.length_map]; exact hcl') ?_
    rw [zs_idx, show cutL true ((zs cs).map Val.int) ((cs.idxOf g : Nat) : Int) = (zs (cs.drop (cs.idxOf g))).map .int by unfold zs cutL clip; rw [if_pos (nn _), List.map_drop, List.map_drop]; rfl]
    have hdl : (zs (cs.drop (cs.idxOf g))).length < lid := by rw [zs_len, List.length_drop]; exact lid_of (by omega)
    refine freshL_ (by rw [List.length_map]; exact hdl) fun e he => ?_
    refine b1_lrev set_eq (by rw [List.length_map]; exact hdl) ?_
    rw [show ((zs (cs.drop (cs.idxOf g))).map Val.int).reverse = (zs (cs.drop (cs.idxOf g)).reverse).map .int by unfold zs; rw [List.map_reverse, List.map_reverse]]
    obtain ⟨W, Ar⟩ := Ch.ring Rr hlt hin
    refine freshL_ (by rw [List.length_map, zs_len, List.length_reverse, ← zs_len (ws := cs.drop (cs.idxOf g))]; exact hdl) fun b hb => ?_
    walk_at "ss"
    have Ee := A.ext.trans (Ext.set (o := .list ((zs (cs.drop (cs.idxOf g))).map .int)) he)
    exact h b _ _ (Ee.trans (Ext.set hb)) (none_of Ee hb) set_eq W Ar
  · rw [decide_eq_false fun q => hin (mem_zs.mp q)]
    walk_at "ss"
    refine isL_ A.get ?_
    walk_at "ss"
    refine appQ_ A.get (by rw [List.length_map]; exact hcl') ?_
    walk_at "ss"
    rw [show (zs cs).map Val.int ++ [.int (g : Nat)] = (zs (cs ++ [g])).map .int by rw [zs_app, List.map_append]; rfl]
    have A2 : At m f ((zs (cs ++ [g])).map .int) (m'.set f (.list ((zs (cs ++ [g])).map .int))) := A.put
    generalize m'.set f (.list ((zs (cs ++ [g])).map .int)) = m3 at A2
    refine enviers_spec (A2.ext a _ ha) hps ⟨c, rfl, A2.ext c _ hc⟩ fun d m4 E4 _ hd => ?_
    walk_at "ss"
    obtain ⟨g', hg0', hg'⟩ := first_envier K Ch.hin
    refine sub_ints (is := zs (enviersOf ps g left)) ⟨d, rfl, hd⟩ (by decide) (zs_get hg0') (elen g) ?_
    walk_at "ss"
    have Ch2 := Ch.next hin hg'
    have hcs2 : (cs ++ [g]).length ≤ left.length := nodup_sub_len Ch2.nd Ch2.sub
    rw [List.length_append, List.length_singleton] at hcs2
    with_reducible refine loopQ_next (hP (9 - (cs ++ [g]).length) (by rw [List.length_append, List.length_singleton]; omega) _ _ ?_)
    exact ⟨cs ++ [g], g', rfl, A2.grow E4, Ch2, rfl⟩

theorem ring_of_spec (O : Ok t u k) (hv : IsT m v t) (hw : IsT m w u) (h0 : ∀ fs m', Ext m m' → Line (pairs t u) t.length fs → Q .none m')
    (h1 : ∀ b ws m', Ext m m' → m b = none → m' b = some (.list ((zs ws).map .int)) → Way ws t.length → Around (pairs t u) ws → Q (.ref b) m') : CN (n + 4) 34 [v, w] Q X m := by
  walk_at "in"
  walk_at "ss"
  refine pairs_spec O hv hw fun a m1 E1 _ ha => ?_
  walk_at "ss"
  try dsimp only [setV]
  refine len_ll (hv.ext E1) (lid_of O.tl) ?_
  walk_at "ss"
  refine parted_spec pairs_rp O.t8 ha (pairs_lt O) fun f c fs left m2 E2 _ hf hc hcase => ?_
  refine subW_ (xs := [.ref f, .ref c]) rfl rfl rfl (lid_of (show 2 < 1000 by decide)) ?_
  walk_at "ss"
  try dsimp only [setV]
  refine freshL_ (lid_of (by decide)) fun d hd => ?_
  have E3 := Ext.set (o := .list []) hd
  refine cmp_eqII (a := zs left) (b := []) ⟨c, rfl, E3 c _ hc⟩ IsL.new ?_
  have E4 := E1.trans (E2.trans E3)
  rcases hcase with ⟨rfl, hL⟩ | ⟨K, hlt, hnd⟩
  · refine asB_ (ifQ_t (dec_t rfl) ?_)
    walk_at "ss"
    exact h0 fs _ E4 hL
  · refine asB_ (ifQ_f (dec_f fun q => K.1 (List.map_eq_nil_iff.mp q)) ?_)
    walk_at "ss"
    refine ring_among_spec pairs_rp O.t8 (E3 a _ (E2 a _ ha)) (pairs_lt O) K hlt hnd (E3 c _ hc) fun b ws m5 E5 hb0 hb W Ar => ?_
    walk_at "ss"
    exact h1 b ws _ (E4.trans E5) (none_of E4 hb0) hb W Ar
end

section
variable {C : CallT} {G : String → Option Val} {Q : Val → Mem → Prop} {X : Nat → Mem → Prop} {m : Mem} {n : Nat} {t u f : List (List Int)} {k N : Nat} {v w : Val} {loc : Loc} {R : Flow → Loc → Mem → Prop} {Y : Nat → Loc → Mem → Prop} {ws : List Nat}

end

section same
variable {t u u0 v : List (List Int)} {k N : Nat} {x : Int} {xs : List Int} {row : List Int}
theorem same_sm (hs : ∀ r ∈ t, r = row) {i : Nat} (hi : i < t.length) (j : Nat) : sm t u i j = sumAt row (u.getD j []) := by
  unfold sm; rw [hs _ (getDL_mem hi)]
theorem same_noRing (hs : ∀ r ∈ t, r = row) : NoRing (pairs t u) t.length := fun ws W A => by
  have up : ∀ i, sumAt row (u.getD (rg ws (i + 1)) []) > sumAt row (u.getD (rg ws i) []) := fun i => by
    obtain ⟨h1, _, h3⟩ := mem_pairs.mp (A i)
    have h3 : sm t u (rg ws i) (rg ws (i + 1)) > sm t u (rg ws i) (rg ws i) := h3
    rw [same_sm hs h1, same_sm hs h1] at h3
    exact h3
  have all : ∀ i, sumAt row (u.getD (rg ws 0) []) ≤ sumAt row (u.getD (rg ws i) []) - i := fun i => by
    induction i with
    | zero => simp
    | succ i ih => have := up i; omega
  have e : rg ws ws.length = rg ws 0 := rg_mod _ _ (by rw [Nat.mod_self, Nat.zero_mod])
  have h := all ws.length
  have h2 := W.two
  rw [e] at h
  omega
structure Best (row : List Int) (u : List (List Int)) (j : Nat) : Prop where
  lt : j < u.length
  le : ∀ i, i < u.length → sumAt row (u.getD j []) ≤ sumAt row (u.getD i [])
  least : ∀ i, i < j → sumAt row (u.getD j []) < sumAt row (u.getD i [])
theorem Best.free (hs : ∀ r ∈ t, r = row) (hl : u.length = t.length) {j : Nat} (B : Best row u j) : Free (pairs t u) t.length j := by
  refine ⟨hl ▸ B.lt, fun i hi => ?_, fun j' hj' => ⟨j, mem_pairs.mpr ⟨hl ▸ B.lt, by have := B.lt; show j' < t.length; omega, ?_⟩⟩⟩
  · obtain ⟨h1, _, h3⟩ := mem_pairs.mp hi
    have h1 : i < t.length := h1
    have h3 : sm t u i j > sm t u i i := h3
    rw [same_sm hs h1, same_sm hs h1] at h3
    have := B.le i (hl ▸ h1)
    omega
  · show sm t u j j' > sm t u j j
    rw [same_sm hs (hl ▸ B.lt), same_sm hs (hl ▸ B.lt)]
    exact B.least j' hj'
inductive Puts (t u0 : List (List Int)) : List Int → List (List Int) → Prop
  | nil : Puts t u0 [] u0
  | more {xs : List Int} {x : Int} {u u' : List (List Int)} : Puts t u0 xs u → Gave t u x u' → Puts t u0 (xs ++ [x]) u'
theorem Puts.unique (P : Puts t u0 xs u) : ∀ {u'}, Puts t u0 xs u' → u = u' := by
  induction P with
  | nil =>
    intro u' P'
    generalize e : ([] : List Int) = ys at P'
    cases P' with
    | nil => rfl
    | more P G => exact absurd (congrArg List.length e) (by simp)
  | @more xs x u u1 P G ih =>
    intro u' P'
    generalize e : xs ++ [x] = ys at P'
    cases P' with
    | nil => exact absurd (congrArg List.length e) (by simp)
    | more P' G' =>
      obtain ⟨rfl, e2⟩ := List.append_inj' e rfl
      cases e2
      obtain rfl := ih P'
      exact G.unique G'
theorem Puts.ok (O : Ok t u0 k) (P : Puts t u0 xs u) (hx : ∀ x ∈ xs, 0 ≤ x ∧ x.toNat < k) (hn : (u0.flatten ++ xs).Nodup) : Ok t u k ∧ u.flatten.Perm (u0.flatten ++ xs) := by
  induction P with
  | nil => exact ⟨O, by rw [List.append_nil]⟩
  | @more xs x u u' P G ih =>
    rw [← List.append_assoc] at hn
    have hn' := List.nodup_append.mp hn
    obtain ⟨O1, p1⟩ := ih (fun y hy => hx y (List.mem_append_left _ hy)) hn'.1
    have hxu : x ∉ u.flatten := fun q => hn'.2.2 x (p1.mem_iff.mp q) x (.head _) rfl
    refine ⟨G.ok O1 (hx x (List.mem_append_right _ (.head _))) hxu, ?_⟩
    rw [← List.append_assoc]
    exact (G.flat O1).trans (List.Perm.append_right _ p1)
theorem Puts.one_inv (P : Puts t u [x] v) : Gave t u x v := by
  generalize e : [x] = ys at P
  cases P with
  | nil => cases e
  | @more xs y u1 _ P G =>
    have e' : [] ++ [x] = xs ++ [y] := e
    obtain ⟨rfl, e2⟩ := List.append_inj' e' rfl
    cases e2
    generalize e3 : ([] : List Int) = zs at P
    cases P with
    | nil => exact G
    | more _ _ => exact absurd (congrArg List.length e3) (by simp)
noncomputable def empt (N : Nat) : List (List Int) := (List.range N).map fun _ => []
theorem empt_flat (N : Nat) : (empt N).flatten = [] := by
  rw [List.flatten_eq_nil_iff]
  intro l hl
  obtain ⟨_, _, rfl⟩ := List.mem_map.mp hl
  rfl
theorem empt_ok (ht : tabOk t = true) (hr : ∀ r ∈ t, r.length = k) (hk : k ≤ 40) : Ok t (empt t.length) k := by
  have he : ∀ s ∈ empt t.length, s = [] := fun s hs => by obtain ⟨_, _, rfl⟩ := List.mem_map.mp hs; rfl
  refine ⟨ht, hr, hk, by unfold empt; rw [List.length_map, List.length_range], fun s hs => by rw [he s hs]; exact Nat.zero_le _, ?_, by rw [empt_flat]; exact List.nodup_nil⟩
  rw [List.all_eq_true]
  intro s hs
  rw [he s hs]; rfl
theorem zs_in {K k : Nat} (h : K ≤ k) : ∀ x ∈ zs (List.range K), 0 ≤ x ∧ x.toNat < k := fun x hx => by
  obtain ⟨i, hi, rfl⟩ := List.mem_map.mp hx
  have := List.mem_range.mp hi
  exact ⟨nn i, by show i < k; omega⟩
theorem zs_nd (K : Nat) : (zs (List.range K)).Nodup := by
  unfold zs
  rw [List.nodup_iff_pairwise_ne, List.pairwise_map]
  exact List.nodup_range.imp fun h e => h (Int.ofNat.inj e)
theorem zs_succ (K : Nat) : zs (List.range (K + 1)) = zs (List.range K) ++ [(K : Int)] := by rw [List.range_succ, zs_app]; rfl
theorem puts_ok {K : Nat} (O : Ok t (empt N) k) (D : Puts t (empt N) (zs (List.range K)) u) (hK : K ≤ k) : Ok t u k ∧ u.flatten.Perm (zs (List.range K)) := by
  have := D.ok O (zs_in hK) (by rw [empt_flat]; exact zs_nd K)
  rw [empt_flat] at this
  exact this
end same

section
variable {C : CallT} {G : String → Option Val} {Q : Val → Mem → Prop} {X : Nat → Mem → Prop} {m : Mem} {n : Nat} {t u : List (List Int)} {k N : Nat} {v w : Val} {loc : Loc} {R : Flow → Loc → Mem → Prop} {Y : Nat → Loc → Mem → Prop} {x : Int} {row : List Int}
theorem free_of {ps : List (Nat × Nat)} (Rr : Rp ps N) {j : Nat} (hj : j < N) (he : enviersOf ps j (List.range N) = []) (hl : ∃ i, (List.range N)[i]? = some j ∧ ∀ y ∈ (List.range N).take i, enviersOf ps y (List.range N) ≠ []) : Free ps N j := by
  obtain ⟨i, hi, hall⟩ := hl
  have hij : i = j := by
    obtain ⟨_, e⟩ := List.getElem?_eq_some_iff.mp hi
    rw [List.getElem_range] at e
    exact e
  subst hij
  refine ⟨hj, fun a ha => ?_, fun j' hj' => ?_⟩
  · have : a ∈ enviersOf ps i (List.range N) := mem_enviers.mpr ⟨ha, List.mem_range.mpr (Rr.lt _ ha).1⟩
    rw [he] at this
    cases this
  · have hm : j' ∈ (List.range N).take i := by
      rw [List.take_range]
      exact List.mem_range.mpr (by omega)
    have := hall j' hm
    cases e : enviersOf ps j' (List.range N) with
    | nil => exact absurd e this
    | cons a r =>
      have ha : a ∈ enviersOf ps j' (List.range N) := by rw [e]; exact .head _
      exact ⟨a, (mem_enviers.mp ha).1⟩
theorem Own.base {m0 m1 : Mem} (E : Ext m0 m1) (h : Own m1 m v t) : Own m0 m v t := by
  obtain ⟨a, bs, rfl, ha, hn, hl, h0, hb, hr⟩ := h
  exact ⟨a, bs, rfl, ha, hn, hl, none_of E h0, fun b hb' => ⟨none_of E (hb b hb').1, (hb b hb').2⟩, hr⟩
theorem given_spec (O : Ok t u k) (hS : ∀ r ∈ t, r = row) (hx : 0 ≤ x ∧ x.toNat < k) (hn : x ∉ u.flatten) (hv : IsT m v t) (hw : IsT m w u)
    (h : ∀ f vN u' m' j, Ext m m' → m f = none → m' f = some (.list [.tup [.str (Str.ofString "give"), .int x, .int (j : Nat)]]) → Own m m' vN u' → Free (pairs t u) t.length j → GaveTo u x j u' → Q (.tup [.ref f, vN]) m') : CN (n + 5) 41 [v, w, .int x] Q X m := by
  walk_at "in"
  walk_at "ss"
  refine freshL_ (lid_of (by decide)) fun f hf => ?_
  have Ef := Ext.set (o := .list []) hf
  walk_at "ss"
  refine copies (by show 7 < 8; decide) (hw.ext Ef) O.ul (fun s hs => sl1 (O.sl hs)) fun vN m1 E1 o1 => ?_
  refine seqQ_next (s_cons (s_asg (e_call (l_pv _ (by with_unfolding_all rfl) ?_))))
  have E01 := Ef.trans E1
  have hpl := pairs_lt O
  refine ring_of_spec O (hv.ext E01) o1.isT (fun fs m2 E2 hL => ?_) (fun b ws m2 E2 hb0 hb W Ar => (same_noRing hS ws W Ar).elim)
  have hno : NoRing (pairs t u) t.length := same_noRing hS
  have E02 := E01.trans E2
  have hf2 := (E1.trans E2) f _ set_eq
  refine seqQ_next (s_cons (s_whiles _ (while_inv (fun r l m' => l = [some v, some w, some (.int x), some (.ref f), some vN, some .none, none, none] ∧ m' = m2) (fun r l m' hI P hP => ?_) 0 _ _ ⟨rfl, rfl⟩)))
  obtain ⟨rfl, rfl⟩ := hI
  walk_at "ss"
  with_reducible refine ifQ_f rfl ?_
  walk_at "ss"
  have o2 := o1.ext E2
  refine pairs_spec O (hv.ext E02) o2.isT fun a m3 E3 _ ha => ?_
  walk_at "ss"
  refine len_ll (hv.ext (E02.trans E3)) (lid_of O.tl) ?_
  refine b1_lrange (rng8 O.t8) ?_
  rw [zs_range]
  refine freshL_ (by rw [List.length_map, zs_len, List.length_range]; exact lid_of O.tl) fun b hb => ?_
  walk_at "ss"
  have Eb := Ext.set (o := .list ((zs (List.range t.length)).map .int)) hb
  refine first_free_spec (left := List.range t.length) (Eb a _ ha) (pairs_lt O) (by rw [List.length_range]; exact O.t8) IsL.new (fun m4 E4 hnone => ?_) (fun j m4 E4 hj he hleast => ?_)
  · exfalso
    obtain ⟨j, F⟩ := hno.free pairs_rp (by obtain ⟨r, t', e, _⟩ := O.row0; rw [e]; exact Nat.succ_pos _)
    have := hnone j (List.mem_range.mpr F.lt)
    cases e : enviersOf (pairs t u) j (List.range t.length) with
    | nil => exact this e
    | cons a r =>
      have ha : a ∈ enviersOf (pairs t u) j (List.range t.length) := by rw [e]; exact .head _
      exact F.no a (mem_enviers.mp ha).1
  have F := free_of pairs_rp (List.mem_range.mp hj) he hleast
  walk_at "ss"
  dsimp only [setV]
  have E24 : Ext m' m4 := (E3.trans Eb).trans E4
  have hf4 := E24 f _ hf2
  refine isL_ hf4 ?_
  walk_at "ss"
  refine ⟨lid_of (show 3 < 1000 by decide), ?_⟩
  refine appQ_ hf4 (lid_of (by decide)) ?_
  walk_at "ss"
  have hju : j < u.length := by rw [O.len]; exact F.lt
  have o5 := ((o2.ext E24).apart (b := f) (o' := .list ([] ++ [Val.tup [.str (Str.ofString "give"), .int x, .int (j : Nat)]])) set_eq).base Ef
  have E5 : Ext m (m4.set f (.list ([] ++ [Val.tup [.str (Str.ofString "give"), .int x, .int (j : Nat)]]))) := (E02.trans E24).over hf
  have hf5 : (m4.set f (.list ([] ++ [Val.tup [.str (Str.ofString "give"), .int x, .int (j : Nat)]]))) f = some (.list [Val.tup [.str (Str.ofString "give"), .int x, .int (j : Nat)]]) := set_eq
  generalize (m4.set f (.list ([] ++ [Val.tup [.str (Str.ofString "give"), .int x, .int (j : Nat)]]))) = m5 at o5 E5 hf5
  have hsl := O.sl (getDL_mem hju)
  refine sub_ll o5.isT (nn j) (getDL hju) (lid_of O.ul) fun y hy => ?_
  walk_at "ss"
  refine freshL_ (lid_of (show 1 < 1000 by decide)) fun d hd => ?_
  have Ed := Ext.set (o := .list [Val.int x]) hd
  obtain ⟨b', rfl, hb'⟩ := hy
  refine bin_addL (xs := (u.getD j []).map .int) (ys := [.int x]) (IsL.lst ⟨b', rfl, Ed b' _ hb'⟩) (IsL.lst ⟨d, rfl, set_eq⟩) ?_
  rw [show (u.getD j []).map Val.int ++ [.int x] = (u.getD j [] ++ [x]).map .int by rw [List.map_append]; rfl]
  refine freshL_ (by rw [List.length_map, List.length_append]; exact lid_of (by show _ + 1 < 1000; omega)) fun d2 hd2 => ?_
  have Ed2 := Ed.trans (Ext.set (o := .list ((u.getD j [] ++ [x]).map .int)) hd2)
  have hkw : (u.getD j [] ++ [x]).length < 64 := by
    rw [List.length_append, List.length_singleton]
    have h1 := O.fit _ (getDL_mem hju)
    have h2 := O.k40
    omega
  refine b1_sorted (is := u.getD j [] ++ [x]) IsL.new hkw fun js hp hs => ?_
  refine freshL_ (by rw [List.length_map, hp.length_eq]; exact lid_of (sl1 hkw)) fun e he => ?_
  walk_at "ss"
  have o6 := o5.ext Ed2
  refine o6.relist (E5.trans Ed2) hju O.ul he fun m6 E6 o7 keep => ?_
  have hfv : vN ≠ .ref f := fun q => by
    obtain ⟨a, bs, e, ha, _, _, _⟩ := o1
    rw [q] at e
    cases e
    rw [E1 f _ set_eq] at ha
    obtain ⟨a', bs', e', _, _, _, h0, _⟩ := o2
    rw [q] at e'
    cases e'
    rw [set_eq] at h0
    cases h0
  walk_at "ss"
  refine ⟨lid_of (show 2 < 1000 by decide), ?_⟩
  walk_at "ss"
  exact h _ _ _ _ _ E6 hf (keep f _ hfv (Ed2 f _ hf5)) o7 F ⟨js, hp, hs, rfl⟩
theorem dealt_by_spec (O : Ok t (empt t.length) k) (hS : ∀ r ∈ t, r = row) (hv : IsT m v t) (h : ∀ v' u m', Ext m m' → Own m m' v' u → Puts t (empt t.length) (zs (List.range k)) u → Q v' m') : CN (n + 6) 44 [v] Q X m := by
  obtain ⟨r0, t', et, hr0⟩ := O.row0
  have hk := O.k40
  walk_at "in"
  walk_at "ss"
  obtain ⟨xs, e1, e2⟩ := id hv
  refine items_list e1.seq (by rw [e2.length]; exact lid_of O.tl) ?_
  refine comp_own (fun _ => []) (by rw [e2.length]; exact O.tl) (fun m' E => e1.stands (e1.ext E)) (fun j x m' hx E P hP => ?_) fun vS m1 E1 o1 => ?_
  · walk_at "ss"
    exact freshL_ (lid_of (by decide)) fun c hc => hP c m' .refl hc
  rw [e2.length] at o1
  walk_at "ss"
  dsimp only [setV]
  refine sub_ll (hv.ext E1) (by decide) (x := r0) (by rw [et]; rfl) (lid_of O.tl) fun y hy => ?_
  walk_at "ss"
  refine len_ints hy (lid_of (by rw [hr0]; omega)) ?_
  rw [hr0]
  refine items_range (rng_lid ⟨nn k, by omega⟩) ?_
  refine for_inv (fun i l m' => ∃ vS y2 u, l = [some v, some vS, y2, none] ∧ Ext m m' ∧ Own m m' vS u ∧ Puts t (empt t.length) (zs (List.range i)) u) ⟨vS, none, _, rfl, E1, o1, .nil⟩ (fun i x l m' hx hI P hP => ?_) fun l m' hI => ?_
  · obtain ⟨vS, y2, u, rfl, E, o, D⟩ := hI
    obtain ⟨hi, rfl⟩ := range_get hx
    have hi : i < k := hi
    obtain ⟨Ou, hfl⟩ := puts_ok O D (Nat.le_of_lt hi)
    refine bodyF_one ?_
    dsimp only [setV]
    walk_at "ss"
    refine given_spec (x := (i : Int)) Ou hS ⟨nn i, hi⟩ (fun q => ?_) (hv.ext E) o.isT fun f vN u' m2 j E2 _ hf o2 hF hG => ?_
    · obtain ⟨j, hj, e⟩ := List.mem_map.mp (hfl.mem_iff.mp q)
      have := List.mem_range.mp hj
      omega
    refine subW_ (xs := [.ref f, vN]) rfl rfl rfl (lid_of (show 2 < 1000 by decide)) ?_
    walk_at "ss"
    with_reducible refine loopQ_next (hP _ _ ?_)
    exact ⟨trivial, vN, _, u', rfl, E.trans E2, o2.base E, by rw [zs_succ]; exact .more D ⟨_, hF, hG⟩⟩
  · obtain ⟨vS, y2, u, rfl, E, o, D⟩ := hI
    rw [range_len] at D
    walk_at "ss"
    exact h _ _ _ E o D
theorem dealt_spec (O : Ok t (empt t.length) k) (hS : ∀ r ∈ t, r = row) (hv : IsT m v t) (h : ∀ v' u m', Ext m m' → Own m m' v' u → Puts t (empt t.length) (zs (List.range k)) u → Q v' m') : CN (n + 7) 45 [v] Q X m := by
  walk_at "in"
  walk_at "ss"
  refine need_table_spec hv O.tl (fun r hr => O.rl hr) O.tab fun m1 E1 => ?_
  walk_at "ss"
  refine dealt_by_spec O hS (hv.ext E1) fun v' u m2 E2 o D => ?_
  walk_at "ss"
  exact h _ _ _ (E1.trans E2) (o.base E1) D
theorem need_aside_spec (O : Ok t u k) (hx : 0 ≤ x ∧ x.toNat < k) (hn : x ∉ u.flatten) (hv : IsT m v t) (hw : IsT m w u) (h : Q .none m) : CN (n + 2) 40 [v, w, .int x] Q X m := by
  obtain ⟨r0, t', et, hr0⟩ := O.row0
  have hk := O.k40
  walk_at "in"
  walk_at "ss"
  refine sub_ll hv (by decide) (x := r0) (by rw [et]; rfl) (lid_of O.tl) fun y hy => ?_
  walk_at "ss"
  refine len_ints hy (lid_of (by rw [hr0]; omega)) ?_
  walk_at "ss"
  refine is_among_spec ?_
  rw [decide_eq_true (show 0 ≤ x ∧ x ≤ (r0.length : Int) - 1 by rw [hr0]; omega)]
  walk_at "ss"
  obtain ⟨xs, e1, e2⟩ := id hw
  refine items_list e1.seq (by rw [e2.length]; exact lid_of O.ul) ?_
  refine for_inv (fun i l m' => ∃ y, l = [some v, some w, some (.int x), y] ∧ m' = m) ⟨none, rfl, rfl⟩ (fun i y2 l m' hy2 hI P hP => ?_) fun l m' hI => ?_
  · obtain ⟨z, rfl, rfl⟩ := hI
    obtain ⟨s, hs, hys⟩ := e2.get hy2
    refine bodyF_one ?_
    dsimp only [setV]
    walk_at "ss"
    refine cmp_inI hys ?_
    rw [decide_eq_false fun q => hn (List.mem_flatten.mpr ⟨s, List.mem_of_getElem? hs, q⟩)]
    walk_at "ss"
    with_reducible refine loopQ_next (hP _ _ ?_)
    exact ⟨e1.stands e1, _, rfl, rfl⟩
  · obtain ⟨z, rfl, rfl⟩ := hI
    walk_at "ss"
    exact h
theorem awarded_spec (O : Ok t u k) (hS : ∀ r ∈ t, r = row) (hx : 0 ≤ x ∧ x.toNat < k) (hn : x ∉ u.flatten) (hv : IsT m v t) (hw : IsT m w u) (h : ∀ vN u' m', Ext m m' → Own m m' vN u' → Gave t u x u' → Q vN m') : CN (n + 6) 43 [v, w, .int x] Q X m := by
  walk_at "in"
  walk_at "ss"
  refine need_ok O hv hw fun m1 E1 => ?_
  walk_at "ss"
  refine need_aside_spec O hx hn (hv.ext E1) (hw.ext E1) ?_
  walk_at "ss"
  refine given_spec O hS hx hn (hv.ext E1) (hw.ext E1) fun f vN u' m2 j E2 _ hf o2 hF hG => ?_
  refine subW_ (xs := [.ref f, vN]) rfl rfl rfl (lid_of (show 2 < 1000 by decide)) ?_
  walk_at "ss"
  exact h _ _ _ (E1.trans E2) (o2.base E1) ⟨j, hF, hG⟩
theorem steps_spec (O : Ok t u k) (hS : ∀ r ∈ t, r = row) (hx : 0 ≤ x ∧ x.toNat < k) (hn : x ∉ u.flatten) (hv : IsT m v t) (hw : IsT m w u) (h : ∀ f m' j, Ext m m' → m' f = some (.list [.tup [.str (Str.ofString "give"), .int x, .int (j : Nat)]]) → Free (pairs t u) t.length j → Q (.ref f) m') : CN (n + 6) 42 [v, w, .int x] Q X m := by
  walk_at "in"
  walk_at "ss"
  refine need_ok O hv hw fun m1 E1 => ?_
  walk_at "ss"
  refine need_aside_spec O hx hn (hv.ext E1) (hw.ext E1) ?_
  walk_at "ss"
  refine given_spec O hS hx hn (hv.ext E1) (hw.ext E1) fun f vN u' m2 j E2 _ hf o2 hF hG => ?_
  refine subW_ (xs := [.ref f, vN]) rfl rfl rfl (lid_of (show 2 < 1000 by decide)) ?_
  walk_at "ss"
  exact h _ _ _ (E1.trans E2) hf hF
end

section
variable {C : CallT} {G : String → Option Val} {Q : Val → Mem → Prop} {X : Nat → Mem → Prop} {m : Mem} {n : Nat} {t u : List (List Int)} {k N : Nat} {v w z : Val} {loc : Loc} {R : Flow → Loc → Mem → Prop} {Y : Nat → Loc → Mem → Prop} {x : Int} {row xs : List Int}
theorem sum2_spec {v w : Val} {r is : List Int} (hv : IsI m v r) (hw : IsI m w is) (hl : r.length < 1000) (hl' : is.length < 1000) (hi : ∀ i ∈ is, 0 ≤ i ∧ i.toNat < r.length) (h : Q (.int (sumAt r is)) m) : CN (n + 1) 108 [v, w] Q X m := by
  walk_at "in"
  walk_at "ss"
  refine items_list hw.seq (by unfold lid; simp; omega) ?_
  dsimp only [setV]
  refine for_inv (fun k l m' => ∃ y, l = [some v, some w, some (.int (sumAt r (is.take k))), y] ∧ m' = m) ⟨none, by simp [sumAt], rfl⟩ (fun k x l m' hx hI P hP => ?_) fun l m' hI => ?_
  · obtain ⟨y, rfl, rfl⟩ := hI
    rw [List.getElem?_map] at hx
    obtain ⟨i, hi', rfl⟩ := Option.map_eq_some_iff.mp hx
    have hii := hi i (List.mem_of_getElem? hi')
    refine bodyF_one ?_
    dsimp only [setV]
    walk_at "ss"
    refine sub_ints hv hii.1 (getD_some hii.2) (lid_of (by first | assumption | omega)) ?_
    walk_at "ss"
    with_reducible refine loopQ_next (hP _ _ ?_)
    refine ⟨rfl, some (.int i), ?_, rfl⟩
    dsimp only [setV]
    rw [List.take_add_one, hi']
    simp [sumAt]
  · obtain ⟨y, rfl, rfl⟩ := hI
    walk_at "ss"
    rw [List.length_map, List.take_length]
    exact h

noncomputable def worthL (k : Int) : List Int := [(k.fdiv 4).fmod 1000001, 1000000 - (k.fdiv 4).fmod 3, (k.fdiv 4).fmod 7, (k.fdiv 4).fmod 40]
noncomputable def worth2 (k : Int) : Int := (worthL k).getD (k.fmod 4).toNat 0
theorem worth2_in (k : Int) : 0 ≤ worth2 k ∧ worth2 k ≤ 1000000 := by
  have h := fm k (b := 4) (by decide)
  have h1 := fm (k.fdiv 4) (b := 1000001) (by decide)
  have h2 := fm (k.fdiv 4) (b := 3) (by decide)
  have h3 := fm (k.fdiv 4) (b := 7) (by decide)
  have h4 := fm (k.fdiv 4) (b := 40) (by decide)
  have hj : (k.fmod 4).toNat < 4 := by omega
  unfold worth2 worthL
  generalize (k.fmod 4).toNat = j at hj
  match j with
  | 0 => simp; omega
  | 1 => simp; omega
  | 2 => simp; omega
  | 3 => simp; omega
  | j + 4 => omega
theorem worth2_spec {k : Int} (h : ∀ m', Ext m m' → Q (.int (worth2 k)) m') : CN (n + 1) 110 [.int k] Q X m := by
  have hj := fm k (b := 4) (by decide)
  walk_at "in"
  walk_at "ss"
  refine freshL_ (lid_of (by show 4 < 1000; decide)) fun a ha => ?_
  walk_at "ss"
  refine sub_ints (is := worthL k) IsL.new hj.1 (getD_some (r := worthL k) (by show (k.fmod 4).toNat < 4; omega)) (lid_of (by show 4 < 1000; decide)) ?_
  walk_at "ss"
  exact h _ (Ext.set ha)
theorem idx_first : ∀ {is : List Int} {M : Int}, M ∈ is → is[is.idxOf M]? = some M ∧ ∀ i, i < is.idxOf M → is[i]? ≠ some M
  | a :: r, M, h => by
    by_cases e : a = M
    · subst e
      rw [List.idxOf_cons_self]
      exact ⟨rfl, fun i hi => absurd hi (Nat.not_lt_zero _)⟩
    · have hr : M ∈ r := (List.mem_cons.mp h).resolve_left fun q => e q.symm
      rw [show (a :: r).idxOf M = r.idxOf M + 1 by rw [List.idxOf_cons, beq_eq_false_iff_ne.mpr e]; rfl]
      obtain ⟨h1, h2⟩ := idx_first hr
      refine ⟨h1, fun i hi => ?_⟩
      cases i with
      | zero => exact fun q => e (Option.some.inj q)
      | succ i => exact h2 i (Nat.lt_of_succ_lt_succ hi)
theorem best_of {M : Int} (hM : M ∈ u.map (sumAt row)) (hle : ∀ a ∈ u.map (sumAt row), M ≤ a) : Best row u ((u.map (sumAt row)).idxOf M) := by
  obtain ⟨h1, h2⟩ := idx_first hM
  generalize (u.map (sumAt row)).idxOf M = j at h1 h2
  have at_ : ∀ i, i < u.length → (u.map (sumAt row))[i]? = some (sumAt row (u.getD i [])) := fun i hi => by rw [List.getElem?_map, getDL hi]; rfl
  have hj : j < u.length := by
    have := (List.getElem?_eq_some_iff.mp h1).1
    rwa [List.length_map] at this
  have ej : sumAt row (u.getD j []) = M := by rw [at_ j hj] at h1; exact Option.some.inj h1
  have le : ∀ i, i < u.length → M ≤ sumAt row (u.getD i []) := fun i hi => hle _ (List.mem_of_getElem? (at_ i hi))
  refine ⟨hj, fun i hi => by rw [ej]; exact le i hi, fun i hi => ?_⟩
  rw [ej]
  have hi' : i < u.length := by omega
  have := le i hi'
  have hne : sumAt row (u.getD i []) ≠ M := fun q => h2 i hi (by rw [at_ i hi', q])
  omega
theorem to_spec (hv : IsI m v row) (hw : IsT m w u) (hl : row.length < 1000) (hu : u.length < 1000) (hne : u ≠ []) (hs : ∀ s ∈ u, s.length < 1000 ∧ ∀ i ∈ s, 0 ≤ i ∧ i.toNat < row.length)
    (h : ∀ (j : Nat) m', Ext m m' → Best row u j → Q (.int (j : Nat)) m') : CN (n + 2) 146 [v, w] Q X m := by
  walk_at "in"
  walk_at "ss"
  obtain ⟨xs, e1, e2⟩ := id hw
  refine items_list e1.seq (by rw [e2.length]; exact lid_of hu) ?_
  refine comp_inv (fun k acc m' => m' = m ∧ acc = ((u.take k).map (sumAt row)).map .int) ⟨rfl, rfl⟩ (fun k x acc m' hx hI P hP => ?_) fun acc m' hI => ?_
  · obtain ⟨rfl, rfl⟩ := hI
    obtain ⟨s, hs', hxs⟩ := e2.get hx
    obtain ⟨q1, q2⟩ := hs s (List.mem_of_getElem? hs')
    refine compF_one ?_
    walk_at "ss"
    refine sum2_spec hv hxs hl q1 q2 ?_
    refine hP _ _ ⟨e1.stands e1, rfl, ?_⟩
    rw [List.take_add_one, hs']; simp
  · obtain ⟨rfl, rfl⟩ := hI
    rw [e2.length, List.take_length]
    have hml : ((u.map (sumAt row)).map Val.int).length < lid := by rw [List.length_map, List.length_map]; exact lid_of hu
    refine freshL_ hml fun a ha => ?_
    walk_at "ss"
    dsimp only [setV]
    refine isL_ set_eq ?_
    walk_at "ss"
    refine b1_min (is := u.map (sumAt row)) (IsL.lst ⟨a, rfl, set_eq⟩) (fun e => hne (List.map_eq_nil_iff.mp e)) (by rw [List.length_map] at hml; exact hml) fun M hM hle => ?_
    refine idxQ_ set_eq hM (by rw [List.length_map] at hml; exact hml) ?_
    walk_at "ss"
    exact h _ _ (Ext.set ha) (best_of hM hle)
theorem put_spec (O : Ok t u k) (hS : ∀ r ∈ t, r = row) (hk : row.length = k) (hx : ∀ x ∈ xs, 0 ≤ x ∧ x.toNat < k) (hn : (u.flatten ++ xs).Nodup) (hxl : xs.length < 1000) (hv : IsI m v row) (hw : IsT m w u) (hz : IsI m z xs)
    (h : ∀ v' u' m', Ext m m' → Own m m' v' u' → Puts t u xs u' → Q v' m') : CN (n + 3) 147 [v, w, z] Q X m := by
  have hk40 := O.k40
  walk_at "in"
  walk_at "ss"
  refine copy_own hw O.ul (fun s hs => sl1 (O.sl hs)) fun vH m1 E1 o1 => ?_
  walk_at "ss"
  dsimp only [setV]
  refine items_list (hz.ext E1).seq (by rw [List.length_map]; exact lid_of hxl) ?_
  refine for_inv (fun i l m' => ∃ vH y3 y4 ui, l = [some v, some vH, some z, y3, y4] ∧ Ext m m' ∧ Own m m' vH ui ∧ Puts t u (xs.take i) ui) ⟨vH, none, none, u, rfl, E1, o1, .nil⟩ (fun i x l m' hx' hI P hP => ?_) fun l m' hI => ?_
  · obtain ⟨vH, y3, y4, ui, rfl, E, o, D⟩ := hI
    rw [List.getElem?_map] at hx'
    obtain ⟨x, hxi, rfl⟩ := Option.map_eq_some_iff.mp hx'
    have hsub : ∀ y ∈ xs.take i, y ∈ xs := fun y hy => List.mem_of_mem_take hy
    have hni : (u.flatten ++ xs.take i).Nodup := hn.sublist (List.Sublist.append_left (List.take_sublist _ _) _)
    obtain ⟨Oi, hfl⟩ := D.ok O (fun y hy => hx y (hsub y hy)) hni
    refine bodyF_one ?_
    dsimp only [setV]
    walk_at "ss"
    refine to_spec (hv.ext E) o.isT (by omega) Oi.ul (fun e => by obtain ⟨r, t', et, _⟩ := Oi.row0; have := Oi.len; rw [e, et] at this; cases this) (fun s hs => ⟨sl1 (Oi.sl hs), fun y hy => by rw [hk]; exact Oi.thing hs y hy⟩) fun j m2 E2 B => ?_
    walk_at "ss"
    dsimp only [setV]
    have hju := B.lt
    have F := B.free hS Oi.len
    have o2 := o.ext E2
    have hsl := Oi.sl (getDL_mem hju)
    refine sub_ll o2.isT (nn j) (getDL hju) (lid_of Oi.ul) fun y hy => ?_
    walk_at "ss"
    refine freshL_ (lid_of (show 1 < 1000 by decide)) fun d hd => ?_
    have Ed := Ext.set (o := .list [Val.int x]) hd
    obtain ⟨b', rfl, hb'⟩ := hy
    refine bin_addL (xs := (ui.getD j []).map .int) (ys := [.int x]) (IsL.lst ⟨b', rfl, Ed b' _ hb'⟩) (IsL.lst ⟨d, rfl, set_eq⟩) ?_
    rw [show (ui.getD j []).map Val.int ++ [.int x] = (ui.getD j [] ++ [x]).map .int by rw [List.map_append]; rfl]
    refine freshL_ (by rw [List.length_map, List.length_append]; exact lid_of (by show _ + 1 < 1000; omega)) fun d2 hd2 => ?_
    have Ed2 := Ed.trans (Ext.set (o := .list ((ui.getD j [] ++ [x]).map .int)) hd2)
    have hkw : (ui.getD j [] ++ [x]).length < 64 := by
      rw [List.length_append, List.length_singleton]
      have h1 := Oi.fit _ (getDL_mem hju)
      omega
    refine b1_sorted (is := ui.getD j [] ++ [x]) IsL.new hkw fun js hp hs => ?_
    refine freshL_ (by rw [List.length_map, hp.length_eq]; exact lid_of (sl1 hkw)) fun e he => ?_
    walk_at "ss"
    refine (o2.ext Ed2).relist ((E.trans E2).trans Ed2) hju Oi.ul he fun m6 E6 o7 keep => ?_
    walk_at "ss"
    with_reducible refine loopQ_next (hP _ _ ?_)
    refine ⟨(hz.ext E1).stands (hz.ext E6), vH, _, _, _, rfl, E6, o7, ?_⟩
    rw [List.take_add_one, hxi]
    exact .more D ⟨j, F, ⟨js, hp, hs, rfl⟩⟩
  · obtain ⟨vH, y3, y4, ui, rfl, E, o, D⟩ := hI
    rw [List.length_map, List.take_length] at D
    walk_at "ss"
    exact h _ _ _ E o D
end

section hide
variable {m m' m0 : Mem} {L : List Addr} {v : Val} {t : List (List Int)}
noncomputable def hide (L : List Addr) (m : Mem) : Mem := fun b => if b ∈ L then none else m b
theorem hide_out {b : Addr} (h : b ∉ L) : hide L m b = m b := if_neg h
theorem hide_in {b : Addr} (h : b ∈ L) : hide L m b = none := if_pos h
theorem hide_some {b : Addr} {o : AObj} (h : hide L m b = some o) : b ∉ L ∧ m b = some o := by
  by_cases q : b ∈ L
  · rw [hide_in q] at h; cases h
  · rw [hide_out q] at h; exact ⟨q, h⟩
theorem hide_ext : Ext (hide L m) m := fun _ _ e => (hide_some e).2
theorem hide_mono (E : Ext m m') : Ext (hide L m) (hide L m') := fun b o e => by
  obtain ⟨h1, h2⟩ := hide_some e
  rw [hide_out h1]; exact E b o h2
theorem hide_set {b : Addr} {o : AObj} (h : b ∈ L) : hide L (m.set b o) = hide L m := by
  funext c
  by_cases q : c ∈ L
  · rw [hide_in q, hide_in q]
  · rw [hide_out q, hide_out q, set_ne]; rintro rfl; exact q h
theorem pub_own (hl : ∀ b ∈ L, m b ≠ none) (o : Own m m' v t) : IsT (hide L m') v t := by
  obtain ⟨a, bs, rfl, ha, hn, hbl, h0, hb, hr⟩ := o
  have out : ∀ {c}, m c = none → c ∉ L := fun h q => hl _ q h
  refine ⟨bs.map .ref, ⟨a, rfl, by rw [hide_out (out h0)]; exact ha⟩, All2.of_get (by rw [List.length_map]; exact hbl) fun i x r h1 h2 => ?_⟩
  rw [List.getElem?_map] at h1
  obtain ⟨b, hb', rfl⟩ := Option.map_eq_some_iff.mp h1
  exact ⟨b, rfl, by rw [hide_out (out (hb b (List.mem_of_getElem? hb')).1)]; exact hr i b r hb' h2⟩
theorem pub_ints (hl : ∀ b ∈ L, m b ≠ none) {c : Addr} {is : List Int} (hc : m c = none) (h : m' c = some (.list (is.map .int))) : IsI (hide L m') (.ref c) is :=
  ⟨c, rfl, by rw [hide_out fun q => hl _ q hc]; exact h⟩
noncomputable def tabS (N : Nat) (row : List Int) : List (List Int) := (List.range N).map fun _ => row
theorem tabS_len (N : Nat) (row : List Int) : (tabS N row).length = N := by unfold tabS; rw [List.length_map, List.length_range]
theorem tabS_row {N : Nat} {row : List Int} : ∀ r ∈ tabS N row, r = row := fun r hr => by obtain ⟨_, _, rfl⟩ := List.mem_map.mp hr; rfl
structure Est (m : Mem) (a d ra : Addr) (bs : List Addr) (hv : Val) (g : Nat → List Int) (H : List (List Int)) : Prop where
  at_ : m a = some (.inst d)
  fl : m d = some (.flds [some (.ref ra), some hv])
  ls : m ra = some (.list (bs.map .ref))
  nd : (d :: ra :: bs).Nodup
  rows : ∀ (j : Nat) b, bs[j]? = some b → m b = some (.list ((g j).map .int))
  held : IsT (hide (d :: ra :: bs) m) hv H
variable {a d ra : Addr} {bs : List Addr} {hv : Val} {g : Nat → List Int} {H : List (List Int)}
theorem Est.live (S : Est m a d ra bs hv g H) : ∀ b ∈ d :: ra :: bs, m b ≠ none := fun b hb e => by
  rcases List.mem_cons.mp hb with rfl | hb
  · rw [S.fl] at e; cases e
  rcases List.mem_cons.mp hb with rfl | hb
  · rw [S.ls] at e; cases e
  obtain ⟨j, hj⟩ := List.getElem?_of_mem hb
  rw [S.rows j b hj] at e; cases e
theorem Est.ext (S : Est m a d ra bs hv g H) (E : Ext m m') : Est m' a d ra bs hv g H :=
  ⟨E _ _ S.at_, E _ _ S.fl, E _ _ S.ls, S.nd, fun j b hb => E _ _ (S.rows j b hb), S.held.ext (hide_mono E)⟩
theorem Est.isT (S : Est m a d ra bs hv g H) : IsT m (.ref ra) ((List.range bs.length).map g) := by
  refine ⟨bs.map .ref, ⟨ra, rfl, S.ls⟩, All2.of_get (by rw [List.length_map, List.length_map, List.length_range]) fun i x r h1 h2 => ?_⟩
  rw [List.getElem?_map] at h1 h2
  obtain ⟨b, hb', rfl⟩ := Option.map_eq_some_iff.mp h1
  obtain ⟨j, hj, rfl⟩ := Option.map_eq_some_iff.mp h2
  obtain ⟨_, hj⟩ := List.getElem?_eq_some_iff.mp hj
  rw [List.getElem_range] at hj
  subst hj
  exact ⟨b, rfl, S.rows _ b hb'⟩
theorem Est.heldT (S : Est m a d ra bs hv g H) : IsT m hv H := S.held.ext hide_ext
theorem Est.ne_d (S : Est m a d ra bs hv g H) : a ≠ d := fun e => by have h1 := S.at_; rw [e, S.fl] at h1; cases h1
theorem Est.ne_ra (S : Est m a d ra bs hv g H) : a ≠ ra := fun e => by have h1 := S.at_; rw [e, S.ls] at h1; cases h1
theorem Est.ne_b (S : Est m a d ra bs hv g H) {b : Addr} (hb : b ∈ bs) : a ≠ b := fun e => by
  obtain ⟨j, hj⟩ := List.getElem?_of_mem hb
  have h1 := S.at_; rw [e, S.rows j b hj] at h1; cases h1
theorem Est.d_b (S : Est m a d ra bs hv g H) {b : Addr} (hb : b ∈ bs) : b ≠ d ∧ b ≠ ra := by
  have h := S.nd
  rw [List.nodup_cons, List.nodup_cons] at h
  exact ⟨fun e => h.1 (.tail _ (e ▸ hb)), fun e => h.2.1 (e ▸ hb)⟩
theorem Est.d_ra (S : Est m a d ra bs hv g H) : ra ≠ d := fun e => by
  have h := S.nd
  rw [List.nodup_cons] at h
  exact h.1 (e ▸ .head _)
theorem Est.bnd (S : Est m a d ra bs hv g H) : bs.Nodup := by
  have h := S.nd
  rw [List.nodup_cons, List.nodup_cons] at h
  exact h.2.2
theorem Est.setHeld (S : Est m a d ra bs hv g H) {hv' : Val} {H' : List (List Int)} (h : IsT (hide (d :: ra :: bs) m) hv' H') : Est (m.set d (.flds [some (.ref ra), some hv'])) a d ra bs hv' g H' :=
  ⟨by rw [set_ne S.ne_d]; exact S.at_, set_eq, by rw [set_ne S.d_ra]; exact S.ls, S.nd, fun j b hb => by rw [set_ne (S.d_b (List.mem_of_getElem? hb)).1]; exact S.rows j b hb, by rw [hide_set (.head _)]; exact h⟩
theorem Est.setRow (S : Est m a d ra bs hv g H) {i : Nat} {b : Addr} (hi : bs[i]? = some b) (r : List Int) : Est (m.set b (.list (r.map .int))) a d ra bs hv (fun j => if j = i then r else g j) H := by
  have hb := List.mem_of_getElem? hi
  refine ⟨by rw [set_ne (S.ne_b hb)]; exact S.at_, by rw [set_ne (Ne.symm (S.d_b hb).1)]; exact S.fl, by rw [set_ne (Ne.symm (S.d_b hb).2)]; exact S.ls, S.nd, fun j c hc => ?_, by rw [hide_set (.tail _ (.tail _ hb))]; exact S.held⟩
  by_cases q : j = i
  · subst q
    rw [hi] at hc; cases hc
    rw [set_eq, if_pos rfl]
  · have hne : c ≠ b := fun e => by
      subst e
      exact q ((List.getElem?_inj (List.getElem?_eq_some_iff.mp hc).1 S.bnd).mp (hc.trans hi.symm))
    rw [set_ne hne, if_neg q]
    exact S.rows j c hc
theorem Est.congr (S : Est m a d ra bs hv g H) {g' : Nat → List Int} (h : ∀ j, j < bs.length → g j = g' j) : Est m a d ra bs hv g' H :=
  ⟨S.at_, S.fl, S.ls, S.nd, fun j b hb => by rw [← h j (List.getElem?_eq_some_iff.mp hb).1]; exact S.rows j b hb, S.held⟩
end hide

section
variable {C : CallT} {G : String → Option Val} {Q : Val → Mem → Prop} {X : Nat → Mem → Prop} {m : Mem} {n : Nat} {t u H : List (List Int)} {k N : Nat} {v w z hv : Val} {loc : Loc} {R : Flow → Loc → Mem → Prop} {Y : Nat → Loc → Mem → Prop} {x : Int} {row xs : List Int} {a d ra : Addr} {bs : List Addr} {g : Nat → List Int}

theorem eshares_spec (S : Est m a d ra bs hv g H) (hl : H.length < 1000) (hr : ∀ r ∈ H, r.length < 1000) (h : ∀ v m', Ext m m' → Own m m' v H → Q v m') : CN (n + 1) 63 [.ref a] Q X m := by
  walk_at "in"
  walk_at "ss"
  refine attrQ_ S.at_ S.fl (by decide) rfl ?_
  refine copies (by show 1 < 2; decide) S.heldT hl hr fun v m1 E1 o1 => ?_
  walk_at "ss"
  exact h _ _ E1 o1
theorem etable_spec (S : Est m a d ra bs hv (fun _ => row) H) (hl : bs.length < 1000) (hr : row.length < 1000) (h : ∀ v m', Ext m m' → Own m m' v (tabS bs.length row) → Q v m') : CN (n + 1) 64 [.ref a] Q X m := by
  walk_at "in"
  walk_at "ss"
  refine attrQ_ S.at_ S.fl (by decide) rfl ?_
  refine copies (by show 1 < 2; decide) S.isT (by rw [List.length_map, List.length_range]; exact hl) (fun r q => by rw [tabS_row r q]; exact hr) fun v m1 E1 o1 => ?_
  walk_at "ss"
  exact h _ _ E1 o1
theorem come_spec (S : Est m a d ra bs hv (fun _ => row) H) (O : Ok (tabS bs.length (row ++ [x])) H (row.length + 1)) (hx : 0 ≤ x ∧ x ≤ 1000000) (hk : row.length < 40) (hn : (row.length : Int) ∉ H.flatten) (hw : IsI (hide (d :: ra :: bs) m) w (List.replicate bs.length x))
    (h : ∀ hv' H' m', Est m' a d ra bs hv' (fun _ => row ++ [x]) H' → Ext (hide (d :: ra :: bs) m) (hide (d :: ra :: bs) m') → Gave (tabS bs.length (row ++ [x])) H row.length H' → Q (.int row.length) m') : CN (n + 6) 105 [.ref a, w] Q X m := by
  have hN8 : bs.length ≤ 8 := by have := O.t8; rw [tabS_len] at this; exact this
  have hN1 : 0 < bs.length := by obtain ⟨r, t', e, _⟩ := O.row0; have := tabS_len bs.length (row ++ [x]); rw [e] at this; rw [← this]; exact Nat.succ_pos _
  have hTl : ((List.range bs.length).map fun _ : Nat => row).length < lid := by rw [List.length_map, List.length_range]; exact lid_of (by omega)
  walk_at "in"
  walk_at "ss"
  refine attrQ_ S.at_ S.fl (by decide) rfl ?_
  refine len_ll S.isT hTl ?_
  walk_at "ss"
  refine is_row_spec (hw.ext hide_ext) (by rw [List.length_replicate]; omega) fun m1 E1 => ?_
  have hrow : (decide (((List.replicate bs.length x).length : Int) = ((List.range bs.length).map fun _ : Nat => row).length) && (List.replicate bs.length x).all inW01) = true := by
    rw [List.length_replicate, List.length_map, List.length_range, decide_eq_true rfl, Bool.true_and, List.all_eq_true]
    intro y hy
    rw [List.eq_of_mem_replicate hy]
    exact decide_eq_true hx
  rw [hrow]
  walk_at "ss"
  have S1 := S.ext E1
  have E1' : Ext (hide (d :: ra :: bs) m) (hide (d :: ra :: bs) m1) := hide_mono E1
  refine attrQ_ S1.at_ S1.fl (by decide) rfl ?_
  refine sub_ll S1.isT (by decide) (x := row) (by rw [List.getElem?_map, show (List.range bs.length)[(0 : Int).toNat]? = some 0 from List.getElem?_range hN1]; rfl) hTl fun y hy => ?_
  refine len_ints hy (lid_of (by omega)) ?_
  walk_at "ss"
  with_reducible refine ifQ_f (dec_f (by omega)) ?_
  walk_at "ss"
  refine len_ints (hw.ext (E1'.trans hide_ext)) (by rw [List.length_replicate]; exact lid_of (by omega)) ?_
  rw [List.length_replicate]
  refine items_range (rng8 hN8) ?_
  dsimp only [setV]
  refine for_inv (fun i l m' => ∃ y, l = [some (.ref a), some w, some (.int row.length), y] ∧ Est m' a d ra bs hv (fun j => if j < i then row ++ [x] else row) H ∧ Ext (hide (d :: ra :: bs) m) (hide (d :: ra :: bs) m'))
    ⟨none, rfl, S1.congr fun j _ => (if_neg (Nat.not_lt_zero j)).symm, E1'⟩ (fun i y l m' hy hI P hP => ?_) fun l m' hI => ?_
  · obtain ⟨z, rfl, S', E'⟩ := hI
    obtain ⟨hi, rfl⟩ := range_get hy
    have hi : i < bs.length := hi
    have hb := List.getElem?_eq_getElem hi
    have hr := S'.rows i _ hb
    have hbl : (bs.map Val.ref).length < lid := by rw [List.length_map]; exact lid_of (by omega)
    rw [if_neg (Nat.lt_irrefl i)] at hr
    refine bodyF_one ?_
    dsimp only [setV]
    walk_at "ss"
    refine attrQ_ S'.at_ S'.fl (by decide) rfl ?_
    walk_at "ss"
    refine subW_ (xs := bs.map .ref) (IsL.seq ⟨ra, rfl, S'.ls⟩) (place_nat (nn i) (by rw [List.length_map]; exact hi)) (map_refs hb) hbl ?_
    refine isL_ hr ?_
    walk_at "ss"
    refine sub_ints (x := x) (hw.ext (E'.trans hide_ext)) (nn i) (by rw [List.getElem?_replicate]; exact if_pos hi) (by rw [List.length_replicate]; exact lid_of (by omega)) ?_
    refine appQ_ hr (by rw [List.length_map]; exact lid_of (by omega)) ?_
    walk_at "ss"
    with_reducible refine loopQ_next (hP _ _ ?_)
    have S2 := S'.setRow hb (row ++ [x])
    rw [List.map_append] at S2
    refine ⟨trivial, _, rfl, S2.congr fun j hj => ?_, ?_⟩
    · by_cases q : j = i
      · subst q; rw [if_pos rfl, if_pos (Nat.lt_succ_self j)]
      · rw [if_neg q]
        by_cases q' : j < i
        · rw [if_pos q', if_pos (by omega)]
        · rw [if_neg q', if_neg (by omega)]
    · rw [hide_set (.tail _ (.tail _ (List.mem_of_getElem? hb)))]; exact E'
  · obtain ⟨z, rfl, S', E'⟩ := hI
    rw [range_len] at S'
    have S' : Est m' a d ra bs hv (fun _ => row ++ [x]) H := S'.congr fun j hj => if_pos hj
    walk_at "ss"
    refine attrQ_ S'.at_ S'.fl (by decide) rfl ?_
    walk_at "ss"
    refine attrQ_ S'.at_ S'.fl (by decide) rfl ?_
    walk_at "ss"
    refine given_spec (t := tabS bs.length (row ++ [x])) O tabS_row ⟨nn _, by rw [Int.toNat_natCast]; omega⟩ hn S'.isT S'.heldT fun f vN u' m2 j E2 _ hf o2 hF hG => ?_
    refine subW_ (xs := [.ref f, vN]) rfl rfl rfl (lid_of (show 2 < 1000 by decide)) ?_
    walk_at "ss"
    have S2 := S'.ext E2
    refine setA_ S2.at_ S2.fl (by decide) rfl ?_
    walk_at "ss"
    refine h vN u' _ (S2.setHeld (pub_own S'.live o2)) ?_ ⟨j, hF, hG⟩
    rw [hide_set (.head _)]
    exact E'.trans (hide_mono E2)
end

section plain
variable {t u H : List (List Int)} {k N i : Nat} {x : Int} {row xs : List Int}
noncomputable def Worths (row : List Int) : Prop := ∀ x ∈ row, 0 ≤ x ∧ x ≤ 1000000
theorem tabS_ok (h1 : 1 ≤ N) (h8 : N ≤ 8) (hk : row.length ≤ 40) (hw : Worths row) : tabOk (tabS N row) = true := by
  have hlen := tabS_len N row
  have hrow : ∀ r ∈ tabS N row, r.length = row.length ∧ r.all inW01 = true := fun r hr => by
    rw [tabS_row r hr]
    refine ⟨rfl, ?_⟩
    rw [List.all_eq_true]
    intro x hx
    exact decide_eq_true (hw x hx)
  cases e : tabS N row with
  | nil => rw [e] at hlen; simp at hlen; omega
  | cons r t =>
    rw [e] at hlen hrow
    have h0 := hrow r (.head _)
    simp only [tabOk, Bool.and_eq_true, decide_eq_true_eq, List.all_eq_true]
    refine ⟨by omega, by omega, fun x hx => ?_⟩
    have := hrow x hx
    simp only [rowOk, Bool.and_eq_true, decide_eq_true_eq]
    exact ⟨by omega, this.2⟩
theorem tabS_lens : ∀ r ∈ tabS N row, r.length = row.length := fun r hr => by rw [tabS_row r hr]
noncomputable def cutAt {α : Type} (i : Nat) (l : List α) : List α := l.take i ++ l.drop (i + 1)
theorem cutAt_len {α : Type} {i : Nat} {l : List α} (h : i < l.length) : (cutAt i l).length + 1 = l.length := by
  unfold cutAt; rw [List.length_append, List.length_take, List.length_drop]; omega
theorem cutAt_sub {α : Type} {i : Nat} {l : List α} : (cutAt i l).Sublist l := by
  unfold cutAt
  have h1 : (l.take i ++ l.drop (i + 1)).Sublist (l.take i ++ l.drop i) := List.Sublist.append_left (by rw [← List.drop_drop]; exact List.drop_sublist _ _) _
  rw [List.take_append_drop] at h1
  exact h1
theorem cutAt_perm {i : Nat} {u : List (List Int)} (h : i < u.length) : ((cutAt i u).flatten ++ u.getD i []).Perm u.flatten := by
  have e : u = u.take i ++ (u.getD i [] :: u.drop (i + 1)) := by
    have h2 : u.getD i [] = u[i] := by rw [List.getD_eq_getElem?_getD, List.getElem?_eq_getElem h]; rfl
    rw [h2, ← List.drop_eq_getElem_cons h, List.take_append_drop]
  have e2 : u.flatten = (u.take i).flatten ++ (u.getD i [] ++ (u.drop (i + 1)).flatten) := by
    conv => lhs; rw [e]
    rw [List.flatten_append, List.flatten_cons]
  rw [e2]
  unfold cutAt
  rw [List.flatten_append, List.append_assoc]
  exact List.Perm.append_left _ List.perm_append_comm
theorem Ok.of (h1 : 1 ≤ N) (h8 : N ≤ 8) (hk : row.length ≤ 40) (hw : Worths row) (hl : H.length = N) (hf : ∀ s ∈ H, s.length ≤ row.length ∧ shareOk row.length s = true) (hn : H.flatten.Nodup) : Ok (tabS N row) H row.length :=
  ⟨tabS_ok h1 h8 hk hw, tabS_lens, hk, by rw [hl, tabS_len], fun s hs => (hf s hs).1, List.all_eq_true.mpr fun s hs => (hf s hs).2, hn⟩
theorem Ok.worths (O : Ok (tabS N row) H k) (hN : 1 ≤ N) : Worths row := by
  have : row ∈ tabS N row := List.mem_map.mpr ⟨0, List.mem_range.mpr hN, rfl⟩
  exact O.worth this
theorem Ok.cut (O : Ok (tabS N row) H row.length) (h2 : 1 < N) (hi : i < N) : Ok (tabS (N - 1) row) (cutAt i H) row.length := by
  have hl : H.length = N := by rw [O.len, tabS_len]
  have h8 : N ≤ 8 := by have := O.t8; rw [tabS_len] at this; exact this
  have hc := cutAt_len (l := H) (by rw [hl]; exact hi)
  refine Ok.of (by omega) (by omega) O.k40 (O.worths (by omega)) (by omega) (fun s hs => ?_) ?_
  · have := cutAt_sub.subset hs
    exact ⟨O.fit s this, O.share this⟩
  · exact (List.nodup_append.mp ((cutAt_perm (u := H) (i := i) (by omega)).nodup_iff.mpr O.nd)).1
end plain

section
variable {C : CallT} {G : String → Option Val} {Q : Val → Mem → Prop} {X : Nat → Mem → Prop} {m m' : Mem} {n : Nat} {t u H : List (List Int)} {k N i : Nat} {v w z hv : Val} {loc : Loc} {R : Flow → Loc → Mem → Prop} {Y : Nat → Loc → Mem → Prop} {x : Int} {row xs : List Int} {a d ra : Addr} {bs : List Addr} {g : Nat → List Int}
theorem clip_nat (i N : Nat) : clip (i : Int) N = i := by unfold clip; rw [if_pos (nn i)]; rfl
theorem cutL_take {xs : List Val} : cutL false xs (i : Int) = xs.take i := by show xs.take (clip _ _) = _; rw [clip_nat]
theorem cutL_drop {xs : List Val} : cutL true xs ((i : Int) + 1) = xs.drop (i + 1) := by
  show xs.drop (clip _ _) = _
  rw [show (i : Int) + 1 = ((i + 1 : Nat) : Int) from rfl, clip_nat]
theorem All2.cutAt {α β : Type} {S : α → β → Prop} {as : List α} {us : List β} (h : All2 S as us) (i : Nat) : All2 S (cutAt i as) (cutAt i us) := by
  have tk : ∀ {as : List α} {us : List β} (i : Nat), All2 S as us → All2 S (as.take i) (us.take i) ∧ All2 S (as.drop i) (us.drop i) := fun {as us} i h => by
    induction h generalizing i with
    | nil => rw [List.take_nil, List.take_nil, List.drop_nil, List.drop_nil]; exact ⟨.nil, .nil⟩
    | cons a r ih =>
      cases i with
      | zero => exact ⟨.nil, .cons a r⟩
      | succ i => exact ⟨.cons a (ih i).1, (ih i).2⟩
  exact (tk i h).1.append (tk (i + 1) h).2
theorem mem_cutAt {α : Type} {i : Nat} {l : List α} {y : α} (h : y ∈ cutAt i l) : y ∈ l := cutAt_sub.subset h
theorem Est.cutRows (S : Est m a d ra bs hv (fun _ => row) H) (E : Ext m m') {c : Addr} (hc : m c = none) (hc' : m' c = some (.list ((cutAt i bs).map .ref))) :
    Est (m'.set d (.flds [some (.ref c), some hv])) a d c (cutAt i bs) hv (fun _ => row) H ∧ Ext (hide (d :: ra :: bs) m) (hide (d :: c :: cutAt i bs) (m'.set d (.flds [some (.ref c), some hv]))) := by
  have nec : ∀ {b : Addr}, m b ≠ none → b ≠ c := fun h e => h (e ▸ hc)
  have hcd : c ≠ d := fun e => nec (S.live d (.head _)) e.symm
  have Eh : Ext (hide (d :: ra :: bs) m) (hide (d :: c :: cutAt i bs) (m'.set d (.flds [some (.ref c), some hv]))) := fun b o e => by
    obtain ⟨h1, h2⟩ := hide_some e
    have h3 : b ∉ d :: c :: cutAt i bs := fun q => by
      rcases List.mem_cons.mp q with rfl | q
      · exact h1 (.head _)
      rcases List.mem_cons.mp q with rfl | q
      · rw [hc] at h2; cases h2
      · exact h1 (.tail _ (.tail _ (mem_cutAt q)))
    rw [hide_out h3, set_ne (fun e : b = d => h3 (by rw [e]; exact .head _))]
    exact E b o h2
  refine ⟨⟨by rw [set_ne S.ne_d]; exact E _ _ S.at_, set_eq, by rw [set_ne hcd]; exact hc', ?_, fun j b hb => ?_, S.held.ext Eh⟩, Eh⟩
  · rw [List.nodup_cons, List.nodup_cons]
    refine ⟨fun q => ?_, fun q => ?_, S.bnd.sublist cutAt_sub⟩
    · rcases List.mem_cons.mp q with q | q
      · exact hcd q.symm
      · exact (S.d_b (mem_cutAt q)).1 rfl
    · exact nec (S.live c (.tail _ (.tail _ (mem_cutAt q)))) rfl
  · have hm := mem_cutAt (List.mem_of_getElem? hb)
    obtain ⟨j', hj'⟩ := List.getElem?_of_mem hm
    rw [set_ne (S.d_b hm).1]
    exact E _ _ (S.rows j' b hj')
theorem go_spec (S : Est m a d ra bs hv (fun _ => row) H) (O : Ok (tabS bs.length row) H row.length) (h2 : 1 < bs.length) (hi : i < bs.length)
    (h : ∀ ra' bs' hv' H' m', bs'.length + 1 = bs.length → Est m' a d ra' bs' hv' (fun _ => row) H' → Ext (hide (d :: ra :: bs) m) (hide (d :: ra' :: bs') m') → Puts (tabS bs'.length row) (cutAt i H) (H.getD i []) H' → Q .none m') : CN (n + 6) 106 [.ref a, .int (i : Nat)] Q X m := by
  have hN8 : bs.length ≤ 8 := by have := O.t8; rw [tabS_len] at this; exact this
  have hHl : H.length = bs.length := by rw [O.len, tabS_len]
  have hTl : ((List.range bs.length).map fun _ : Nat => row).length = bs.length := by rw [List.length_map, List.length_range]
  have hbl : (bs.map Val.ref).length < lid := by rw [List.length_map]; exact lid_of (by omega)
  have hil : (cutAt i bs).length + 1 = bs.length := cutAt_len hi
  walk_at "in"
  walk_at "ss"
  refine attrQ_ S.at_ S.fl (by decide) rfl ?_
  walk_at "ss"
  refine need_heir_spec S.isT (by rw [hTl]; omega) ⟨nn i, by rw [hTl]; omega⟩ ?_
  walk_at "ss"
  refine attrQ_ S.at_ S.fl (by decide) rfl ?_
  refine len_ll S.isT (by rw [hTl]; exact lid_of (by omega)) ?_
  walk_at "ss"
  with_reducible refine ifQ_f (dec_f (by rw [hTl]; omega)) ?_
  walk_at "ss"
  refine attrQ_ S.at_ S.fl (by decide) rfl ?_
  obtain ⟨ys, e1, e2⟩ := id S.held
  obtain ⟨y, hy, hyI⟩ := e2.get' (getDL (t := H) (i := i) (by omega))
  have hyl : ys.length < lid := by rw [e2.length]; exact lid_of (by omega)
  walk_at "ss"
  refine subW_ (e1.ext hide_ext).seq (place_nat (nn i) (by rw [e2.length]; show i < _; omega)) hy hyl ?_
  walk_at "ss"
  dsimp only [setV]
  refine attrQ_ S.at_ S.fl (by decide) rfl ?_
  walk_at "ss"
  refine slQ_ S.ls hbl (freshL_x (by rw [cutL_take]; exact Nat.lt_of_le_of_lt (by rw [List.length_take]; exact Nat.min_le_right _ _) hbl) fun c1 m1 hc1 E1 he1 => ?_)
  have S1 := S.ext E1
  walk_at "ss"
  refine attrQ_ S1.at_ S1.fl (by decide) rfl ?_
  walk_at "ss"
  refine slQ_ S1.ls hbl (freshL_x (by rw [cutL_drop]; exact Nat.lt_of_le_of_lt (by rw [List.length_drop]; exact Nat.sub_le _ _) hbl) fun c2 m2 hc2 E2 he2 => ?_)
  rw [cutL_take] at he1
  rw [cutL_drop] at he2
  refine bin_addL (IsL.lst ⟨c1, rfl, E2 _ _ he1⟩) (IsL.lst ⟨c2, rfl, he2⟩) ?_
  rw [← List.map_take, ← List.map_drop, ← List.map_append]
  refine freshL_x (by rw [List.length_map]; exact lid_of (by show (cutAt i bs).length < 1000; omega)) fun c m3 hc E3 he3 => ?_
  walk_at "ss"
  have E13 := (E1.trans E2).trans E3
  have S3 := S.ext E13
  refine setA_ S3.at_ S3.fl (by decide) rfl ?_
  obtain ⟨S4, E4⟩ := S.cutRows (i := i) E13 (none_of (E1.trans E2) hc) he3
  have hcutl : (cutAt i H).length + 1 = H.length := cutAt_len (by omega)
  change seqQ _ _ _ _ (m3.set d (.flds [some (.ref c), some hv]))
  generalize (m3.set d (.flds [some (.ref c), some hv])) = m4 at S4 E4 ⊢
  obtain ⟨ha, rfl, hha⟩ := e1
  have hh4 := (E4.trans hide_ext) _ _ hha
  walk_at "ss"
  refine attrQ_ S4.at_ S4.fl (by decide) rfl ?_
  walk_at "ss"
  refine slQ_ hh4 hyl (freshL_x (by rw [cutL_take]; exact Nat.lt_of_le_of_lt (by rw [List.length_take]; exact Nat.min_le_right _ _) hyl) fun c4 m5 hc4 E5 he4 => ?_)
  have S5 := S4.ext E5
  walk_at "ss"
  refine attrQ_ S5.at_ S5.fl (by decide) rfl ?_
  walk_at "ss"
  refine slQ_ (E5 _ _ hh4) hyl (freshL_x (by rw [cutL_drop]; exact Nat.lt_of_le_of_lt (by rw [List.length_drop]; exact Nat.sub_le _ _) hyl) fun c5 m6 hc5 E6 he5 => ?_)
  rw [cutL_take] at he4
  rw [cutL_drop] at he5
  refine bin_addL (IsL.lst ⟨c4, rfl, E6 _ _ he4⟩) (IsL.lst ⟨c5, rfl, he5⟩) ?_
  refine freshL_x (lid_of (by have := cutAt_len (l := ys) (i := i) (by rw [e2.length]; omega); have := e2.length; show (cutAt i ys).length < 1000; omega)) fun c6 m7 hc6 E7 he6 => ?_
  walk_at "ss"
  have E57 := (E5.trans E6).trans E7
  have S7 := S4.ext E57
  refine setA_ S7.at_ S7.fl (by decide) rfl ?_
  have hc6' : m4 c6 = none := none_of (E5.trans E6) hc6
  have E07 : Ext (hide (d :: ra :: bs) m) (hide (d :: c :: cutAt i bs) m7) := E4.trans (hide_mono E57)
  have hT7 : IsT (hide (d :: c :: cutAt i bs) m7) (.ref c6) (cutAt i H) :=
    ⟨cutAt i ys, ⟨c6, rfl, by rw [hide_out fun q => S4.live _ q hc6']; exact he6⟩, (e2.mono fun _ _ q => q.ext E07).cutAt i⟩
  have S8 := S7.setHeld hT7
  have E08 : Ext (hide (d :: ra :: bs) m) (hide (d :: c :: cutAt i bs) (m7.set d (.flds [some (.ref c), some (.ref c6)]))) := by rw [hide_set (.head _)]; exact E07
  change seqQ _ _ _ _ (m7.set d (.flds [some (.ref c), some (.ref c6)]))
  generalize (m7.set d (.flds [some (.ref c), some (.ref c6)])) = m8 at S8 E08 ⊢
  have hb' : (cutAt i bs).length = bs.length - 1 := by omega
  have Oc : Ok (tabS (cutAt i bs).length row) (cutAt i H) row.length := by rw [hb']; exact O.cut h2 hi
  have hnd : ((cutAt i H).flatten ++ H.getD i []).Nodup := (cutAt_perm (by omega)).nodup_iff.mpr O.nd
  have hth : ∀ x ∈ H.getD i [], 0 ≤ x ∧ x.toNat < row.length := O.thing (getDL_mem (by omega))
  have hTn : (H.getD i []).length < 64 := O.sl (getDL_mem (by omega))
  walk_at "ss"
  refine items_list (hyI.ext (E08.trans hide_ext)).seq (by rw [List.length_map]; exact lid_of (sl1 hTn)) ?_
  refine for_inv (fun j l m' => ∃ y3 hv' H', l = [some (.ref a), some (.int (i : Nat)), some y, y3] ∧ Est m' a d c (cutAt i bs) hv' (fun _ => row) H' ∧ Ext (hide (d :: ra :: bs) m) (hide (d :: c :: cutAt i bs) m') ∧ Puts (tabS (cutAt i bs).length row) (cutAt i H) ((H.getD i []).take j) H')
    ⟨none, _, _, rfl, S8, E08, .nil⟩ (fun j x' l m' hx' hI P hP => ?_) fun l m' hI => ?_
  · obtain ⟨y3, hv', H', rfl, S', E', D⟩ := hI
    rw [List.getElem?_map] at hx'
    obtain ⟨x, hxj, rfl⟩ := Option.map_eq_some_iff.mp hx'
    have hni : ((cutAt i H).flatten ++ ((H.getD i []).take j ++ [x])).Nodup := by
      have : (H.getD i []).take j ++ [x] = (H.getD i []).take (j + 1) := by rw [List.take_add_one, hxj]; rfl
      rw [this]
      exact hnd.sublist (List.Sublist.append_left (List.take_sublist _ _) _)
    rw [← List.append_assoc] at hni
    have hni' := List.nodup_append.mp hni
    obtain ⟨Oj, hfl⟩ := D.ok Oc (fun z hz => hth z (List.mem_of_mem_take hz)) hni'.1
    refine bodyF_one ?_
    dsimp only [setV]
    walk_at "ss"
    refine attrQ_ S'.at_ S'.fl (by decide) rfl ?_
    walk_at "ss"
    refine attrQ_ S'.at_ S'.fl (by decide) rfl ?_
    walk_at "ss"
    refine given_spec (t := tabS (cutAt i bs).length row) Oj tabS_row (hth x (List.mem_of_getElem? hxj)) (fun q => hni'.2.2 x (hfl.mem_iff.mp q) x (.head _) rfl) S'.isT S'.heldT fun f vN u' m2 jj E2 _ hf o2 hF hG => ?_
    refine subW_ (xs := [.ref f, vN]) rfl rfl rfl (lid_of (show 2 < 1000 by decide)) ?_
    walk_at "ss"
    have S2 := S'.ext E2
    refine setA_ S2.at_ S2.fl (by decide) rfl ?_
    walk_at "ss"
    with_reducible refine loopQ_next (hP _ _ ?_)
    have Eo : Ext (hide (d :: ra :: bs) m) (hide (d :: c :: cutAt i bs) (m2.set d (.flds [some (.ref c), some vN]))) := by rw [hide_set (.head _)]; exact E'.trans (hide_mono E2)
    refine ⟨(hyI.ext (E08.trans hide_ext)).stands (hyI.ext (Eo.trans hide_ext)), _, vN, u', rfl, S2.setHeld (pub_own S'.live o2), Eo, ?_⟩
    rw [List.take_add_one, hxj]
    exact .more D ⟨jj, hF, hG⟩
  · obtain ⟨y3, hv', H', rfl, S', E', D⟩ := hI
    rw [List.length_map, List.take_length] at D
    walk_at "ss"
    exact h _ _ _ _ _ hil S' E' D
end

section
variable {C : CallT} {G : String → Option Val} {Q : Val → Mem → Prop} {X : Nat → Mem → Prop} {m m' : Mem} {n : Nat} {t u H : List (List Int)} {k N i : Nat} {v w z hv : Val} {loc : Loc} {R : Flow → Loc → Mem → Prop} {Y : Nat → Loc → Mem → Prop} {x : Int} {row xs : List Int} {a d ra : Addr} {bs : List Addr} {g : Nat → List Int}
theorem Est.addRow (S : Est m a d ra bs hv (fun _ => row) H) (E : Ext m m') {c : Addr} (hc : m c = none) (hc' : m' c = some (.list (row.map .int))) :
    Est (m'.set ra (.list ((bs ++ [c]).map .ref))) a d ra (bs ++ [c]) hv (fun _ => row) H ∧ Ext (hide (d :: ra :: bs) m) (hide (d :: ra :: (bs ++ [c])) (m'.set ra (.list ((bs ++ [c]).map .ref)))) := by
  have nec : ∀ {b : Addr}, m b ≠ none → b ≠ c := fun h e => h (e ▸ hc)
  have hcr : c ≠ ra := fun e => nec (S.live ra (.tail _ (.head _))) e.symm
  have hcd : c ≠ d := fun e => nec (S.live d (.head _)) e.symm
  have Eh : Ext (hide (d :: ra :: bs) m) (hide (d :: ra :: (bs ++ [c])) (m'.set ra (.list ((bs ++ [c]).map .ref)))) := fun b o e => by
    obtain ⟨h1, h2⟩ := hide_some e
    have h3 : b ∉ d :: ra :: (bs ++ [c]) := fun q => by
      rcases List.mem_cons.mp q with rfl | q
      · exact h1 (.head _)
      rcases List.mem_cons.mp q with rfl | q
      · exact h1 (.tail _ (.head _))
      rcases List.mem_append.mp q with q | q
      · exact h1 (.tail _ (.tail _ q))
      · rw [List.mem_singleton.mp q, hc] at h2; cases h2
    rw [hide_out h3, set_ne (fun e : b = ra => h3 (by rw [e]; exact .tail _ (.head _)))]
    exact E b o h2
  refine ⟨⟨by rw [set_ne S.ne_ra]; exact E _ _ S.at_, by rw [set_ne (Ne.symm S.d_ra)]; exact E _ _ S.fl, set_eq, ?_, fun j b hb => ?_, S.held.ext Eh⟩, Eh⟩
  · rw [List.nodup_cons, List.nodup_cons]
    refine ⟨fun q => ?_, fun q => ?_, ?_⟩
    · rcases List.mem_cons.mp q with q | q
      · exact S.d_ra q.symm
      rcases List.mem_append.mp q with q | q
      · exact (S.d_b q).1 rfl
      · exact hcd (List.mem_singleton.mp q).symm
    · rcases List.mem_append.mp q with q | q
      · exact (S.d_b q).2 rfl
      · exact hcr (List.mem_singleton.mp q).symm
    · rw [List.nodup_append]
      refine ⟨S.bnd, List.nodup_cons.mpr ⟨List.not_mem_nil, List.nodup_nil⟩, fun y hy z hz e => ?_⟩
      rw [List.mem_singleton.mp hz] at e
      exact nec (S.live y (.tail _ (.tail _ hy))) e
  · rcases List.mem_append.mp (List.mem_of_getElem? hb) with q | q
    · rw [set_ne (S.d_b q).2]
      obtain ⟨j', hj'⟩ := List.getElem?_of_mem q
      exact E _ _ (S.rows j' b hj')
    · rw [List.mem_singleton.mp q, set_ne hcr]
      exact hc'
theorem join_spec (S : Est m a d ra bs hv (fun _ => row) H) (hN : 1 ≤ bs.length) (h8 : bs.length < 8) (hk : row.length ≤ 40) (hW : Worths row) (hw : IsI (hide (d :: ra :: bs) m) w row)
    (h : ∀ bs' hv' H' m', bs'.length = bs.length + 1 → Est m' a d ra bs' hv' (fun _ => row) H' → Ext (hide (d :: ra :: bs) m) (hide (d :: ra :: bs') m') → Puts (tabS bs'.length row) (empt bs'.length) (zs (List.range row.length)) H' → Q (.int bs.length) m') : CN (n + 7) 107 [.ref a, w] Q X m := by
  have hTl : ((List.range bs.length).map fun _ : Nat => row).length < lid := by rw [List.length_map, List.length_range]; exact lid_of (by omega)
  walk_at "in"
  walk_at "ss"
  refine attrQ_ S.at_ S.fl (by decide) rfl ?_
  refine sub_ll S.isT (by decide) (x := row) (by rw [List.getElem?_map, show (List.range bs.length)[(0 : Int).toNat]? = some 0 from List.getElem?_range hN]; rfl) hTl fun y hy => ?_
  refine len_ints hy (lid_of (by omega)) ?_
  walk_at "ss"
  refine is_row_spec (hw.ext hide_ext) (by omega) fun m1 E1 => ?_
  have hrow : (decide ((row.length : Int) = row.length) && row.all inW01) = true := by
    rw [decide_eq_true rfl, Bool.true_and, List.all_eq_true]
    intro y hy
    exact decide_eq_true (hW y hy)
  rw [hrow]
  walk_at "ss"
  have S1 := S.ext E1
  have E1' : Ext (hide (d :: ra :: bs) m) (hide (d :: ra :: bs) m1) := hide_mono E1
  refine attrQ_ S1.at_ S1.fl (by decide) rfl ?_
  refine len_ll S1.isT hTl ?_
  walk_at "ss"
  with_reducible refine ifQ_f (dec_f (by rw [List.length_map, List.length_range]; omega)) ?_
  walk_at "ss"
  refine attrQ_ S1.at_ S1.fl (by decide) rfl ?_
  refine isL_ S1.ls ?_
  walk_at "ss"
  refine b1_list (hw.ext (E1'.trans hide_ext)).seq (freshL_x (by rw [List.length_map]; exact lid_of (by omega)) fun c m2 hc E2 he => ?_)
  have S2 := S1.ext E2
  refine appQ_ S2.ls (by rw [List.length_map]; exact lid_of (by omega)) ?_
  obtain ⟨S3, E3⟩ := S1.addRow E2 hc he
  rw [show bs.map Val.ref ++ [.ref c] = (bs ++ [c]).map .ref by rw [List.map_append]; rfl]
  generalize (m2.set ra (.list ((bs ++ [c]).map .ref))) = m3 at S3 E3 ⊢
  have hl' : (bs ++ [c]).length = bs.length + 1 := by rw [List.length_append]; rfl
  have O3 : Ok (tabS (bs ++ [c]).length row) (empt (tabS (bs ++ [c]).length row).length) row.length := empt_ok (tabS_ok (by omega) (by omega) hk hW) tabS_lens hk
  walk_at "ss"
  refine attrQ_ S3.at_ S3.fl (by decide) rfl ?_
  walk_at "ss"
  refine dealt_by_spec (t := tabS (bs ++ [c]).length row) O3 tabS_row S3.isT fun vD uD m4 E4 o4 D => ?_
  walk_at "ss"
  have S4 := S3.ext E4
  refine setA_ S4.at_ S4.fl (by decide) rfl ?_
  have S5 := S4.setHeld (pub_own S3.live o4)
  have E5 : Ext (hide (d :: ra :: bs) m) (hide (d :: ra :: (bs ++ [c])) (m4.set d (.flds [some (.ref ra), some vD]))) := by rw [hide_set (.head _)]; exact (E1'.trans E3).trans (hide_mono E4)
  change seqQ _ _ _ _ (m4.set d (.flds [some (.ref ra), some vD]))
  generalize (m4.set d (.flds [some (.ref ra), some vD])) = m5 at S5 E5 ⊢
  walk_at "ss"
  refine attrQ_ S5.at_ S5.fl (by decide) rfl ?_
  refine len_ll S5.isT (by rw [List.length_map, List.length_range]; exact lid_of (by omega)) ?_
  walk_at "ss"
  rw [tabS_len] at D
  refine Qi (h _ _ _ _ hl' S5 E5 D) ?_
  rw [List.length_map, List.length_range, hl']
  omega
theorem init_spec (ha : m a = some (.inst d)) (hd : m d = some (.flds [none, none])) (h1 : 1 ≤ N) (h8 : N ≤ 8)
    (h : ∀ ra bs hv m', bs.length = N → Est m' a d ra bs hv (fun _ => []) (empt N) → Ext (hide [d] m) (hide (d :: ra :: bs) m') → Q .none m') : CN (n + 2) 59 [.ref a, .int (N : Nat)] Q X m := by
  have had : a ≠ d := fun e => by rw [e, hd] at ha; cases ha
  walk_at "in"
  walk_at "ss"
  refine is_among_spec ?_
  rw [decide_eq_true (show (1 : Int) ≤ N ∧ (N : Int) ≤ 8 by omega)]
  walk_at "ss"
  refine items_range (rng8 h8) ?_
  refine comp_own (fun _ => []) (by rw [range_len]; show N < 1000; omega) (fun _ _ => trivial) (fun j x m' hx E P hP => ?_) fun v1 m1 E1 o1 => ?_
  · walk_at "ss"
    exact freshL_ (lid_of (by decide)) fun c hc => hP c m' .refl hc
  rw [range_len] at o1
  obtain ⟨ra, bs, rfl, hra, hnd, hbl, h0, hb, hr⟩ := o1
  have hbl : bs.length = N := by rw [hbl, List.length_map, List.length_range]; rfl
  have ned : ∀ {b : Addr}, m b = none → b ≠ d := fun q e => by rw [e, hd] at q; cases q
  have hrows : ∀ (j : Nat) b, bs[j]? = some b → m1 b = some (.list (([] : List Int).map .int)) := fun j b q => by
    refine hr j b [] q ?_
    have hj : j < N := by have := (List.getElem?_eq_some_iff.mp q).1; omega
    rw [List.getElem?_map, show (List.range (Int.toNat N))[j]? = some j from List.getElem?_range hj]
    rfl
  walk_at "ss"
  refine setA_ (E1 _ _ ha) (E1 _ _ hd) (by decide) rfl ?_
  have F2 : (m1.set d (.flds [some (.ref ra), none])) a = some (.inst d) := by rw [set_ne had]; exact E1 _ _ ha
  have G2 : (m1.set d (.flds [some (.ref ra), none])) d = some (.flds [some (.ref ra), none]) := set_eq
  have H2 : (m1.set d (.flds [some (.ref ra), none])) ra = some (.list (bs.map .ref)) := by rw [set_ne (ned h0)]; exact hra
  have I2 : ∀ (j : Nat) b, bs[j]? = some b → (m1.set d (.flds [some (.ref ra), none])) b = some (.list (([] : List Int).map .int)) := fun j b q => by rw [set_ne (ned (hb b (List.mem_of_getElem? q)).1)]; exact hrows j b q
  have J2 : ∀ b o, b ≠ d → m b = some o → (m1.set d (.flds [some (.ref ra), none])) b = some o := fun b o hbd e => by rw [set_ne hbd]; exact E1 _ _ e
  change seqQ _ _ _ _ (m1.set d (.flds [some (.ref ra), none]))
  generalize (m1.set d (.flds [some (.ref ra), none])) = m2 at F2 G2 H2 I2 J2 ⊢
  walk_at "ss"
  refine items_range (rng8 h8) ?_
  refine comp_own (fun _ => []) (by rw [range_len]; show N < 1000; omega) (fun _ _ => trivial) (fun j x m' hx E P hP => ?_) fun v2 m3 E3 o3 => ?_
  · walk_at "ss"
    exact freshL_ (lid_of (by decide)) fun c hc => hP c m' .refl hc
  rw [range_len] at o3
  walk_at "ss"
  refine setA_ (E3 _ _ F2) (E3 _ _ G2) (by decide) rfl ?_
  have hlive : ∀ b ∈ d :: ra :: bs, m2 b ≠ none := fun b q e => by
    rcases List.mem_cons.mp q with rfl | q
    · rw [G2] at e; cases e
    rcases List.mem_cons.mp q with rfl | q
    · rw [H2] at e; cases e
    obtain ⟨j, hj⟩ := List.getElem?_of_mem q
    rw [I2 j b hj] at e; cases e
  have hT : IsT (hide (d :: ra :: bs) (m3.set d (.flds [some (.ref ra), some v2]))) v2 (empt N) := by
    rw [hide_set (.head _)]
    exact pub_own hlive o3
  walk_at "ss"
  refine h ra bs v2 _ hbl ⟨?_, set_eq, ?_, ?_, fun j b q => ?_, hT⟩ fun b o e => ?_
  · show (m3.set d _) a = _
    rw [set_ne had]; exact E3 _ _ F2
  · show (m3.set d _) ra = _
    rw [set_ne (ned h0)]; exact E3 _ _ H2
  · rw [List.nodup_cons, List.nodup_cons]
    refine ⟨fun q => ?_, fun q => (hb _ q).2 rfl, hnd⟩
    rcases List.mem_cons.mp q with q | q
    · exact ned h0 q.symm
    · exact ned (hb _ q).1 rfl
  · show (m3.set d _) b = _
    rw [set_ne (ned (hb b (List.mem_of_getElem? q)).1)]
    exact E3 _ _ (I2 j b q)
  · obtain ⟨p1, p2⟩ := hide_some e
    have hbd : b ≠ d := fun q => p1 (by rw [q]; exact .head _)
    have h3 : b ∉ d :: ra :: bs := fun q => by
      rcases List.mem_cons.mp q with q | q
      · exact hbd q
      rcases List.mem_cons.mp q with rfl | q
      · rw [h0] at p2; cases p2
      · rw [(hb _ q).1] at p2; cases p2
    rw [hide_out h3]
    show (m3.set d _) b = _
    rw [set_ne hbd]
    exact E3 _ _ (J2 b o hbd p2)
end

section
variable {C : CallT} {G : String → Option Val} {Q : Val → Mem → Prop} {X : Nat → Mem → Prop} {m m' : Mem} {n : Nat} {t u H held : List (List Int)} {k N i : Nat} {v w z hv vr vh : Val} {loc : Loc} {R : Flow → Loc → Mem → Prop} {Y : Nat → Loc → Mem → Prop} {x : Int} {row xs : List Int} {a d ra : Addr} {bs : List Addr} {g : Nat → List Int}
theorem spoil {m0 : Mem} (h : Own m0 m v u) (E : Ext m0 m) (hu : u.length < 1000) (hs : ∀ s ∈ u, s.length < 1000) {p : Nat} (hp : p < loc.length) (hR : ∀ l m', (l = loc ∨ ∃ y, l = setV loc p y) → Ext m0 m' → (∃ a xs, v = .ref a ∧ m0 a = none ∧ m' a = some (.list xs) ∧ xs.length = u.length) → R .next l m') :
    itemsW .plain v (fun xs => forLoop (bodyF (.one p) (fun Q' l m' => wpSs C G (.cons (.expr (.append (.nm p) (.neg (.int 1)))) .nil) Q' noY l m')) (stands .plain v m) xs R loc m) m := by
  obtain ⟨a, bs, rfl, ha, hn, hbl, h0, hb, hr⟩ := h
  refine items_list (IsL.seq ⟨a, rfl, ha⟩) (by rw [List.length_map, hbl]; exact lid_of hu) ?_
  refine for_inv (fun i l m' => (l = loc ∨ ∃ y, l = setV loc p y) ∧ Ext m0 m' ∧ m' a = some (.list (bs.map .ref)) ∧ ∀ (j : Nat) b r, i ≤ j → bs[j]? = some b → u[j]? = some r → m' b = some (.list (r.map .int))) ⟨.inl rfl, E, ha, fun j b r _ => hr j b r⟩ (fun i x l m' hx hI P hP => ?_) fun l m' hI => hR l m' hI.1 hI.2.1 ⟨a, _, rfl, h0, hI.2.2.1, by rw [List.length_map]; exact hbl⟩
  obtain ⟨hl, E', ha', hr'⟩ := hI
  have hset : setV l p x = setV loc p x := by
    rcases hl with rfl | ⟨y, rfl⟩
    · rfl
    · exact sv_set
  rw [List.getElem?_map] at hx
  obtain ⟨b, q, rfl⟩ := Option.map_eq_some_iff.mp hx
  have hbm := List.mem_of_getElem? q
  have hil : i < u.length := hbl ▸ (List.getElem?_eq_some_iff.mp q).1
  have hbb := hr' i b _ (Nat.le_refl i) q (getDL hil)
  have hb0 := hb b hbm
  refine bodyF_one (s_cons (s_expr (e_append (e_nm (v := .ref b) (by rw [hset]; exact gv_set hp) (isL_ hbb (e_negI (appQ_ hbb (by rw [List.length_map]; exact lid_of (hs _ (getDL_mem hil))) (plain_none (seqQ_next (s_nil ?_)))))))))) 
  have ha2 : (m'.set b (.list ((u.getD i []).map .int ++ [.int (-1)]))) a = some (.list (bs.map .ref)) := by rw [set_ne (Ne.symm hb0.2)]; exact ha'
  with_reducible refine loopQ_next (hP _ _ ?_)
  refine ⟨IsL.stands ⟨a, rfl, ha⟩ ⟨a, rfl, ha2⟩, .inr ⟨_, hset⟩, E'.over hb0.1, ha2, fun j c r hj h1 h2 => ?_⟩
  have hne : c ≠ b := fun e => by
    subst e
    have := (List.getElem?_inj (List.getElem?_eq_some_iff.mp h1).1 hn).mp (h1.trans q.symm)
    omega
  rw [set_ne hne]
  exact hr' j c r (by omega) h1 h2

structure LSt (m : Mem) (a d ra : Addr) (bs : List Addr) (hv : Val) (row : List Int) (held : List (List Int)) (vr vh : Val) : Prop where
  est : Est m a d ra bs hv (fun _ => row) held
  r : IsI (hide (d :: ra :: bs) m) vr row
  h : IsT (hide (d :: ra :: bs) m) vh held
  ok : Ok (tabS bs.length row) held row.length
  all : held.flatten.Perm (zs (List.range row.length))
  k14 : row.length ≤ 14
theorem LSt.ext (S : LSt m a d ra bs hv row held vr vh) (E : Ext m m') : LSt m' a d ra bs hv row held vr vh :=
  ⟨S.est.ext E, S.r.ext (hide_mono E), S.h.ext (hide_mono E), S.ok, S.all, S.k14⟩
theorem LSt.n8 (S : LSt m a d ra bs hv row held vr vh) : 1 ≤ bs.length ∧ bs.length ≤ 8 := by
  have h8 := S.ok.t8
  rw [tabS_len] at h8
  refine ⟨?_, h8⟩
  obtain ⟨r, t', e, _⟩ := S.ok.row0
  have := tabS_len bs.length row
  rw [e] at this
  rw [← this]; exact Nat.succ_pos _
theorem LSt.hl (S : LSt m a d ra bs hv row held vr vh) : held.length = bs.length := by rw [S.ok.len, tabS_len]
theorem rows_same {c : Addr} {ys : List Val} (hr : IsI m v row) (hc : m c = some (.list (ys.map fun _ => v))) (hl : ys.length = N) : IsT m (.ref c) (tabS N row) := by
  refine ⟨_, ⟨c, rfl, hc⟩, All2.of_get (by rw [List.length_map, tabS_len, hl]) fun j y r h1 h2 => ?_⟩
  rw [List.getElem?_map] at h1
  obtain ⟨_, _, rfl⟩ := Option.map_eq_some_iff.mp h1
  rw [tabS_row r (List.mem_of_getElem? h2)]
  exact hr
theorem looked_tail (S : LSt m a d ra bs hv row held vr vh) {wy : Option Val} (h : ∀ m', Ext m m' → Q (.bool true) m') :
    wpSs (CN (n + 1)) (globOf GS) (Sts.drop 1 f_L_looked_2.body) (retQ Q) (fun c _ m' => X c m') [some (.ref a), some vr, some vh, wy, none, none, none, none] m := by
  obtain ⟨h1, h8⟩ := S.n8
  have hhl := S.hl
  have hk := S.k14
  have hs : ∀ r ∈ held, r.length < 1000 := fun r hr => sl1 (S.ok.sl hr)
  dsimp only [f_L_looked_2, sts, Sts.drop]
  walk_at "ss"
  refine isO_ S.est.at_ S.est.fl ?_
  walk_at "ss"
  refine eshares_spec S.est (by omega) hs fun vF m1 E1 o1 => ?_
  walk_at "ss"
  dsimp only [setV]
  have S1 := S.ext E1
  refine cmp_neTT o1.isT (S1.h.ext hide_ext) ?_
  rw [dec_f (fun q => q rfl)]
  walk_at "ss"
  refine isO_ S1.est.at_ S1.est.fl ?_
  walk_at "ss"
  refine etable_spec S1.est (by omega) (by omega) fun v2 m2 E2 o2 => ?_
  have S2 := S1.ext E2
  obtain ⟨ys, e1, e2⟩ := S2.h.ext hide_ext
  walk_at "ss"
  refine items_list e1.seq (by rw [e2.length]; exact lid_of (by omega)) ?_
  refine comp_pure (g := fun _ => vr) (e1.stands e1) (fun y _ P hP => ?_) ?_
  · walk_at "ss"
    exact hP
  refine freshL_x (by rw [List.length_map, e2.length]; exact lid_of (by omega)) fun c m3 hc E3 he => ?_
  have S3 := S2.ext E3
  refine cmp_neTT (o2.isT.ext E3) (rows_same (N := bs.length) (S3.r.ext hide_ext) he (by rw [e2.length]; exact hhl)) ?_
  rw [dec_f (fun q => q rfl)]
  walk_at "ss"
  refine spoil (u := held) (m0 := m) (o1.ext (E2.trans E3)) (E1.trans (E2.trans E3)) (by omega) hs (by show 5 < 8; decide) fun l m4 hl E4 _ => ?_
  have S4 := S.ext E4
  have hl' : ∃ y, l = [some (.ref a), some vr, some vh, wy, some vF, y, none, none] := by
    rcases hl with rfl | ⟨y, rfl⟩
    · exact ⟨_, rfl⟩
    · exact ⟨_, rfl⟩
  obtain ⟨y, rfl⟩ := hl'
  walk_at "ss"
  refine isO_ S4.est.at_ S4.est.fl ?_
  walk_at "ss"
  refine eshares_spec S4.est (by omega) hs fun v5 m5 E5 o5 => ?_
  walk_at "ss"
  refine cmp_eqTT o5.isT ((S4.ext E5).h.ext hide_ext) ?_
  rw [dec_t rfl]
  walk_at "ss"
  exact h _ (E4.trans E5)
theorem looked_spec (S : LSt m a d ra bs hv row held vr vh) {y : Int} (h : ∀ m', Ext m m' → Q (.bool true) m') : CN (n + 2) 150 [.ref a, vr, vh, .int y] Q X m := by
  obtain ⟨h1, h8⟩ := S.n8
  have hhl := S.hl
  have hk := S.k14
  refine call_eq rfl rfl ?_
  show wpSs _ _ (.cons _ (Sts.drop 1 f_L_looked_2.body)) _ _ _ _
  dsimp only [loc0, List.map, List.replicate, List.cons_append, List.nil_append, List.length, Nat.reduceAdd, Nat.reduceSub, f_L_looked_2]
  refine s_cons (s_ifs ?_)
  walk_at "ss"
  with_reducible refine bsQ_dec (fun q => ?_) (fun q => ?_)
  · walk_at "ss"
    refine isO_ S.est.at_ S.est.fl ?_
    walk_at "ss"
    refine etable_spec S.est (by omega) (by omega) fun v2 m2 E2 o2 => ?_
    have S2 := S.ext E2
    obtain ⟨ys, e1, e2⟩ := S2.h.ext hide_ext
    walk_at "ss"
    refine items_list e1.seq (by rw [e2.length]; exact lid_of (by omega)) ?_
    refine comp_pure (g := fun _ => vr) (e1.stands e1) (fun y _ P hP => ?_) ?_
    · walk_at "ss"
      exact hP
    refine freshL_x (by rw [List.length_map, e2.length]; exact lid_of (by omega)) fun c m3 hc E3 he => ?_
    have S3 := S2.ext E3
    refine cmp_neTT (o2.isT.ext E3) (rows_same (N := bs.length) (S3.r.ext hide_ext) he (by rw [e2.length]; exact hhl)) ?_
    rw [dec_f (fun q => q rfl)]
    refine asB_ (bsQ_nil (asB_ (ifQ_false (s_nil (seqQ_next ?_)))))
    exact looked_tail S3 fun m' E => h m' ((E2.trans E3).trans E)
  · rw [q]
    refine asB_ (ifQ_false (s_nil (seqQ_next ?_)))
    exact looked_tail S h
end

section ahead
variable {t held : List (List Int)} {k : Nat} {x : Int}
noncomputable def aheadOf (x : Int) (held : List (List Int)) : List (List Int) := held.map fun s => s.filter fun y => decide (y ≠ x)
theorem ahead_flat : (aheadOf x held).flatten = held.flatten.filter fun y => decide (y ≠ x) := by unfold aheadOf; rw [List.filter_flatten]
theorem ahead_not : x ∉ (aheadOf x held).flatten := fun q => by
  rw [ahead_flat, List.mem_filter] at q
  exact of_decide_eq_true q.2 rfl
theorem Ok.ahead (O : Ok t held k) : Ok t (aheadOf x held) k := by
  have mem : ∀ s ∈ aheadOf x held, ∃ s' ∈ held, s = s'.filter fun y => decide (y ≠ x) := fun s hs => by
    obtain ⟨s', h1, h2⟩ := List.mem_map.mp hs
    exact ⟨s', h1, h2.symm⟩
  refine ⟨O.tab, O.row, O.k40, by unfold aheadOf; rw [List.length_map]; exact O.len, fun s hs => ?_, List.all_eq_true.mpr fun s hs => ?_, by rw [ahead_flat]; exact O.nd.sublist (List.filter_sublist)⟩
  · obtain ⟨s', h1, rfl⟩ := mem s hs
    exact Nat.le_trans (List.length_filter_le _ _) (O.fit s' h1)
  · obtain ⟨s', h1, rfl⟩ := mem s hs
    have := O.share h1
    simp only [shareOk, thingsOk, Bool.and_eq_true, List.all_eq_true, decide_eq_true_eq] at this ⊢
    exact ⟨⟨fun y hy => this.1.1 y (List.mem_filter.mp hy).1, this.1.2.sublist List.filter_sublist⟩, this.2.sublist List.filter_sublist⟩
end ahead

section
variable {C : CallT} {G : String → Option Val} {Q : Val → Mem → Prop} {X : Nat → Mem → Prop} {m m' : Mem} {n : Nat} {t u H held : List (List Int)} {k N i : Nat} {v w z hv vr vh : Val} {loc : Loc} {R : Flow → Loc → Mem → Prop} {Y : Nat → Loc → Mem → Prop} {x : Int} {row xs : List Int} {a d ra : Addr} {bs : List Addr} {g : Nat → List Int}
theorem ints_filter (l : List Int) (c : Int → Bool) (c' : Val → Bool) (h : ∀ x ∈ l, c' (.int x) = c x) : List.map (fun y => y) (List.filter c' (l.map .int)) = (l.filter c).map .int := by
  rw [List.map_id', List.filter_map]
  congr 1
  exact List.filter_congr fun x hx => h x hx
theorem e_clear {o : Ex} (h : wpE C G X o loc (clrQ Q) m) : wpE C G X (.clear o) loc Q m := h
theorem clrQ_ {a : Addr} {xs : List Val} (e : m a = some (.list xs)) (hl : xs.length < lid) (h : Q .none (m.set a (.list []))) : clrQ Q (.ref a) m := ⟨a, xs, rfl, e, hl, h⟩
noncomputable def dGive (x : Int) (j : Nat) : Dat := .list [.tup [.str (Str.ofString "give"), .int x, .int (j : Nat)]]
theorem give_reads {f : Addr} {j : Nat} (h : m f = some (.list [.tup [.str (Str.ofString "give"), .int x, .int (j : Nat)]])) : Reads m (dGive x j) (.ref f) :=
  ⟨_, IsL.lst ⟨f, rfl, h⟩, _, _, rfl, ⟨_, rfl, _, _, rfl, rfl, _, _, rfl, rfl, _, _, rfl, rfl, rfl⟩, rfl⟩
theorem give_ok (j : Nat) : okN 8 (dGive x j) = true := by
  show ((Str.ofString "give").cps.all (· < 0x110000) && (true && (true && true)) && true) = true
  decide +kernel
theorem give_eq (j : Nat) : Dat.beq (dGive x j) (dGive x j) = true := by
  show ((Str.ofString "give" == Str.ofString "give") && ((x == x) && ((((j : Nat) : Int) == ((j : Nat) : Int)) && true)) && true) = true
  rw [beq_self_eq_true, beq_self_eq_true, beq_self_eq_true]
  rfl
theorem cmp_give {P : Bool → Mem → Prop} {f c : Addr} {j : Nat} (h1 : m f = some (.list [.tup [.str (Str.ofString "give"), .int x, .int (j : Nat)]])) (h2 : m c = some (.list [.tup [.str (Str.ofString "give"), .int x, .int (j : Nat)]])) (h : P false m) : wpCmp .ne (.ref f) (.ref c) P m := by
  show eqW (.ref f) (.ref c) (fun r => P (!r) m) m
  exact eqW_of (give_reads h1) (give_reads h2) (give_ok j) (give_ok j) (by rw [give_eq]; exact h) ⟨_, rfl⟩
end

section
variable {C : CallT} {G : String → Option Val} {Q : Val → Mem → Prop} {X : Nat → Mem → Prop} {m m' : Mem} {n : Nat} {t u H held : List (List Int)} {k N i : Nat} {v w z hv vr vh : Val} {loc : Loc} {R : Flow → Loc → Mem → Prop} {Y : Nat → Loc → Mem → Prop} {x : Int} {row xs : List Int} {a d ra : Addr} {bs : List Addr} {g : Nat → List Int}
theorem range_tab {ys : List Val} (h : ys.length = N) : (List.range ys.length).map (fun _ => row) = tabS N row := by rw [h]; rfl
theorem told_spec (O : Ok (tabS N row) held row.length) (hk : row.length ≤ 14) (hall : held.flatten.Perm (zs (List.range row.length))) (hr : IsI m vr row) (hh : IsT m vh held) (h : ∀ m', Q (.bool true) m') : CN (n + 8) 149 [vr, vh] Q X m := by
  have h8 : N ≤ 8 := by have := O.t8; rw [tabS_len] at this; exact this
  have hhl : held.length = N := by rw [O.len, tabS_len]
  have O0 : Ok (tabS N row) (empt (tabS N row).length) row.length := empt_ok O.tab O.row O.k40
  have O0' : Ok (tabS N row) (empt N) row.length := by rw [tabS_len] at O0; exact O0
  walk_at "in"
  walk_at "ss"
  obtain ⟨xs, e1, e2⟩ := id hh
  have hxl : xs.length = N := by rw [e2.length, hhl]
  refine items_list e1.seq (by rw [hxl]; exact lid_of (by omega)) ?_
  refine comp_own (fun _ => row) (by rw [hxl]; omega) (fun m' E => e1.stands (e1.ext E)) (fun j y m' hy E P hP => ?_) fun v2 m1 E1 o1 => ?_
  · walk_at "ss"
    exact b1_list (hr.ext E).seq (freshL_ (by rw [List.length_map]; exact lid_of (by omega)) fun c hc => hP c m' .refl hc)
  rw [range_tab hxl] at o1
  walk_at "ss"
  have e1' := e1.ext E1
  refine items_list e1'.seq (by rw [hxl]; exact lid_of (by omega)) ?_
  refine comp_own (fun _ => []) (by rw [hxl]; omega) (fun m' E => e1'.stands (e1'.ext E)) (fun j y m' hy E P hP => ?_) fun v3 m2 E2 o2 => ?_
  · walk_at "ss"
    exact freshL_ (lid_of (by decide)) fun c hc => hP c m' .refl hc
  rw [hxl] at o2
  have o2 : Own m1 m2 v3 (empt N) := o2
  walk_at "ss"
  try dsimp only [setV]
  have hr2 := hr.ext (E1.trans E2)
  have hv2 := o1.isT.ext E2
  have hv3 := o2.isT
  refine dealt_spec O0 tabS_row hv2 fun v4 u4 m3 E3 o3 D3 => ?_
  rw [tabS_len] at D3
  walk_at "ss"
  refine len_ints (hr2.ext E3) (lid_of (by omega)) ?_
  refine b1_lrange (rng_lid ⟨nn _, by omega⟩) ?_
  rw [zs_range]
  refine freshL_x (by rw [List.length_map, zs_len, List.length_range]; exact lid_of (by omega)) fun c4 m4 hc4 E4 he4 => ?_
  walk_at "ss"
  have E34 := E3.trans E4
  refine put_spec O0' tabS_row rfl (zs_in (Nat.le_refl _)) (by rw [empt_flat]; exact zs_nd _) (by rw [zs_len, List.length_range]; omega) (hr2.ext E34) (hv3.ext E34) ⟨c4, rfl, he4⟩ fun v5 u5 m5 E5 o5 D5 => ?_
  obtain rfl := D3.unique D5
  walk_at "ss"
  refine cmp_neTT (o3.isT.ext (E4.trans E5)) o5.isT ?_
  rw [dec_f (fun q => q rfl)]
  walk_at "ss"
  refine e_clear ?_
  walk_at "ss"
  obtain ⟨a4, bs4, rfl, ha4, _, hbl4, h04, _⟩ := o3
  have hu4 := (puts_ok O0' D3 (Nat.le_refl _)).1.ul
  refine clrQ_ ((E4.trans E5) _ _ ha4) (by rw [List.length_map, hbl4]; exact lid_of hu4) ?_
  have E26 : Ext m2 (m5.set a4 (.list [])) := (E34.trans E5).over h04
  generalize m5.set a4 (.list []) = m6 at E26 ⊢
  have hr6 := hr2.ext E26
  have hv26 := hv2.ext E26
  have hv36 := hv3.ext E26
  have e16 := e1'.ext (E2.trans E26)
  have hh6 := hh.ext ((E1.trans E2).trans E26)
  walk_at "ss"
  refine len_ints hr6 (lid_of (by omega)) ?_
  walk_at "ss"
  with_reducible refine ifQ_dec (fun q => ?_) (fun q => ?_)
  · have q : (row.length : Int) = 0 := of_decide_eq_true q
    have q : row.length = 0 := by omega
    walk_at "ss"
    refine dealt_spec O0 tabS_row hv26 fun v7 u7 m7 E7 o7 D7 => ?_
    walk_at "ss"
    rw [tabS_len, q] at D7
    have D0 : Puts (tabS N row) (empt N) (zs (List.range 0)) (empt N) := .nil
    obtain rfl := D7.unique D0
    refine cmp_eqTT o7.isT (hv36.ext E7) ?_
    rw [dec_t rfl]
    walk_at "ss"
    exact h _
  have q : ¬ ((row.length : Int) = 0) := of_decide_eq_false q
  have hlast : ((row.length : Int) - 1) = ((row.length - 1 : Nat) : Int) := by omega
  walk_at "ss"
  refine len_ints hr6 (lid_of (by omega)) ?_
  walk_at "ss"
  rw [hlast]
  try dsimp only [setV]
  refine items_list e16.seq (by rw [hxl]; exact lid_of (by omega)) ?_
  refine comp_own (fun j => (held.getD j []).filter fun y => decide (y ≠ ((row.length - 1 : Nat) : Int))) (by rw [hxl]; omega) (fun m' E => e16.stands (e16.ext E)) (fun j y m' hy E P hP => ?_) fun vA m7 E7 oA => ?_
  · obtain ⟨s, hs, hys⟩ := (hh6.ext E).elim fun ys hq => by
      obtain ⟨e1q, e2q⟩ := hq
      have : ys = xs := by
        have h1 := e1q.seq
        have h2 := (e16.ext E).seq
        rw [h1] at h2
        exact Option.some.inj h2
      subst this
      exact e2q.get hy
    have hsl := O.sl (List.mem_of_getElem? hs)
    have hjs : held.getD j [] = s := by rw [List.getD_eq_getElem?_getD, hs]; rfl
    walk_at "ss"
    refine items_list hys.seq (by rw [List.length_map]; exact lid_of (sl1 hsl)) ?_
    refine comp_filter (g := fun y => y) (c := fun y => match y with | .int y => decide (y ≠ ((row.length - 1 : Nat) : Int)) | _ => false) (IsL.stands (k := .plain) hys hys) (fun y hy P hP => ?_) (fun y hy P hP => ?_) ?_
    · obtain ⟨y, _, rfl⟩ := List.mem_map.mp hy
      walk_at "ss"
      exact hP
    · obtain ⟨y, _, rfl⟩ := List.mem_map.mp hy
      walk_at "ss"
      exact hP
    rw [ints_filter s (fun y => decide (y ≠ ((row.length - 1 : Nat) : Int))) _ fun y _ => rfl]
    refine freshL_ (by rw [List.length_map]; exact lid_of (Nat.lt_of_le_of_lt (List.length_filter_le _ _) (sl1 hsl))) fun c hc => ?_
    have := hP c m' .refl hc
    rw [hjs] at this
    exact this
  have hA : (List.range xs.length).map (fun j => (held.getD j []).filter fun y => decide (y ≠ ((row.length - 1 : Nat) : Int))) = aheadOf ((row.length - 1 : Nat) : Int) held := by
    unfold aheadOf
    rw [hxl, ← hhl]
    conv => rhs; rw [← map_getD held, List.map_map]
    rfl
  rw [hA] at oA
  have OA : Ok (tabS N row) (aheadOf ((row.length - 1 : Nat) : Int) held) row.length := O.ahead
  have hxn : ((row.length - 1 : Nat) : Int) ∉ (aheadOf ((row.length - 1 : Nat) : Int) held).flatten := ahead_not
  have hxk : 0 ≤ ((row.length - 1 : Nat) : Int) ∧ ((row.length - 1 : Nat) : Int).toNat < row.length := ⟨nn _, by rw [Int.toNat_natCast]; omega⟩
  have hAl : (aheadOf ((row.length - 1 : Nat) : Int) held).length = N := by rw [OA.len, tabS_len]
  generalize ((row.length - 1 : Nat) : Int) = x at oA OA hxn hxk hAl ⊢
  generalize aheadOf x held = u at oA OA hxn hAl ⊢
  walk_at "ss"
  try dsimp only [setV]
  have hN1 : u ≠ [] := fun e => by
    obtain ⟨r, t', et, _⟩ := OA.row0
    have := OA.len
    rw [e, et] at this
    cases this
  have hr7 := hr6.ext E7
  have hv27 := hv26.ext E7
  refine to_spec hr7 oA.isT (by omega) (by omega) hN1 (fun s hs => ⟨sl1 (OA.sl hs), OA.thing hs⟩) fun j m8 E8 B => ?_
  have F := B.free tabS_row OA.len
  walk_at "ss"
  try dsimp only [setV]
  refine steps_spec OA tabS_row hxk hxn (hv27.ext E8) (oA.isT.ext E8) fun f m9 j' E9 hf F' => ?_
  obtain rfl := F.unique F'
  walk_at "ss"
  refine ⟨lid_of (show 3 < 1000 by decide), ?_⟩
  walk_at "ss"
  refine freshL_x (lid_of (show 1 < 1000 by decide)) fun c m10 hc E10 he => ?_
  refine cmp_give (E10 _ _ hf) he ?_
  walk_at "ss"
  have E7a := (E8.trans E9).trans E10
  refine awarded_spec OA tabS_row hxk hxn (hv27.ext E7a) (oA.isT.ext E7a) fun vN uN m11 E11 o11 hG => ?_
  walk_at "ss"
  try dsimp only [setV]
  refine freshL_x (lid_of (show 1 < 1000 by decide)) fun c2 m12 hc2 E12 he2 => ?_
  have E7c := (E7a.trans E11).trans E12
  walk_at "ss"
  refine put_spec (xs := [x]) OA tabS_row rfl (fun y hy => by rw [List.mem_singleton.mp hy]; exact hxk) ?_ (by show 1 < 1000; decide) (hr7.ext E7c) (oA.isT.ext E7c) ⟨c2, rfl, he2⟩ fun v13 u13 m13 E13 o13 D13 => ?_
  · rw [List.nodup_append]
    refine ⟨OA.nd, List.nodup_cons.mpr ⟨List.not_mem_nil, List.nodup_nil⟩, fun y hy z hz e => ?_⟩
    rw [List.mem_singleton.mp hz] at e
    exact hxn (e ▸ hy)
  obtain rfl := hG.unique D13.one_inv
  refine cmp_eqTT (o11.isT.ext (E12.trans E13)) o13.isT ?_
  rw [dec_t rfl]
  walk_at "ss"
  have E7d := E7c.trans E13
  have e1d := e16.ext (E7.trans E7d)
  refine items_list e1d.seq (by rw [hxl]; exact lid_of (by omega)) ?_
  refine comp_own (fun _ => row) (by rw [hxl]; omega) (fun m' E => e1d.stands (e1d.ext E)) (fun j y m' hy E P hP => ?_) fun v14 m14 E14 o14 => ?_
  · walk_at "ss"
    exact b1_list ((hr7.ext E7d).ext E).seq (freshL_ (by rw [List.length_map]; exact lid_of (by omega)) fun c hc => hP c m' .refl hc)
  rw [range_tab hxl] at o14
  refine cmp_eqTT ((hv27.ext E7d).ext E14) o14.isT ?_
  rw [dec_t rfl]
  walk_at "ss"
  exact h _
end

section plain
variable {held : List (List Int)} {N : Nat} {row : List Int} {x : Int}
theorem Ok.grow (O : Ok (tabS N row) held row.length) (hN : 1 ≤ N) (h8 : N ≤ 8) (hx : 0 ≤ x ∧ x ≤ 1000000) (hk : row.length < 40) : Ok (tabS N (row ++ [x])) held (row ++ [x]).length := by
  have hl : (row ++ [x]).length = row.length + 1 := by rw [List.length_append]; rfl
  refine Ok.of hN h8 (by omega) (fun y hy => ?_) (by rw [O.len, tabS_len]) (fun s hs => ⟨Nat.le_trans (O.fit s hs) (by omega), ?_⟩) O.nd
  · rcases List.mem_append.mp hy with q | q
    · exact O.worths hN y q
    · rw [List.mem_singleton.mp q]; exact hx
  · have := O.share hs
    simp only [shareOk, thingsOk, Bool.and_eq_true, List.all_eq_true, decide_eq_true_eq] at this ⊢
    refine ⟨⟨fun y hy => ?_, this.1.2⟩, this.2⟩
    have := this.1.1 y hy
    omega
theorem Ok.notIn (O : Ok (tabS N row) held row.length) : (row.length : Int) ∉ held.flatten := fun q => by
  obtain ⟨s, hs, hq⟩ := List.mem_flatten.mp q
  have := (O.thing hs _ hq).2
  rw [Int.toNat_natCast] at this
  omega
theorem rep_flat (N : Nat) (x : Int) : (List.replicate N [Val.int x]).flatten = (List.replicate N x).map .int := by
  induction N with
  | zero => rfl
  | succ N ih => rw [List.replicate_succ, List.replicate_succ, List.flatten_cons, ih]; rfl
end plain

section
variable {C : CallT} {G : String → Option Val} {Q : Val → Mem → Prop} {X : Nat → Mem → Prop} {m m' : Mem} {n : Nat} {t u H held : List (List Int)} {k N i : Nat} {v w z hv vr vh : Val} {loc : Loc} {R : Flow → Loc → Mem → Prop} {Y : Nat → Loc → Mem → Prop} {x c num : Int} {row xs : List Int} {a d ra : Addr} {bs : List Addr} {g : Nat → List Int}
theorem moved_C (S : LSt m a d ra bs hv row held vr vh) (h : ∀ ra' bs' hv' row' held' vr' vh' m', LSt m' a d ra' bs' hv' row' held' vr' vh' → Ext (hide (d :: ra :: bs) m) (hide (d :: ra' :: bs') m') → Q (.tup [vr', vh']) m') :
    wpSs (CN (n + 7)) (globOf GS) (Sts.drop 4 f_L_moved_2.body) (retQ Q) (fun c _ m' => X c m') [some (.ref a), some (.int c), some vr, some vh, some (.int num), some (.int bs.length), none, none, none] m := by
  obtain ⟨h1, h8⟩ := S.n8
  have hk := S.k14
  have hW := S.ok.worths h1
  dsimp only [f_L_moved_2, sts, Sts.drop]
  walk_at "ss"
  with_reducible refine ifQ_dec (fun q => ?_) (fun q => ?_)
  · have q : (bs.length : Int) < 8 := of_decide_eq_true q
    walk_at "ss"
    refine isO_ S.est.at_ S.est.fl ?_
    walk_at "ss"
    refine b1_list (S.r.ext hide_ext).seq (freshL_x (by rw [List.length_map]; exact lid_of (by omega)) fun c1 m1 hc1 E1 he1 => ?_)
    have S1 := S.ext E1
    walk_at "ss"
    refine join_spec S1.est h1 (by omega) (by omega) hW (pub_ints S.est.live hc1 he1) fun bs' hv' H' m2 hl2 S2 E2 D2 => ?_
    walk_at "ss"
    with_reducible refine ifQ_f (dec_f fun q => absurd rfl q) ?_
    have hr2 := S1.r.ext E2
    walk_at "ss"
    rw [show (bs.length : Int) + 1 = ((bs.length + 1 : Nat) : Int) from rfl]
    refine items_range (rng8 (by omega)) ?_
    refine comp_own (fun _ => []) (by rw [range_len]; show bs.length + 1 < 1000; omega) (fun _ _ => trivial) (fun j x m' hx E P hP => ?_) fun v3 m3 E3 o3 => ?_
    · walk_at "ss"
      exact freshL_ (lid_of (by decide)) fun c hc => hP c m' .refl hc
    rw [range_len] at o3
    have o3 : Own m2 m3 v3 (empt (bs.length + 1)) := o3
    rw [← hl2] at o3
    walk_at "ss"
    have hr3 := hr2.ext (hide_mono E3)
    refine len_ints (hr3.ext hide_ext) (lid_of (by omega)) ?_
    refine b1_lrange (rng_lid ⟨nn _, by omega⟩) ?_
    rw [zs_range]
    refine freshL_x (by rw [List.length_map, zs_len, List.length_range]; exact lid_of (by omega)) fun c4 m4 hc4 E4 he4 => ?_
    walk_at "ss"
    have O0 : Ok (tabS bs'.length row) (empt bs'.length) row.length := by
      have := empt_ok (t := tabS bs'.length row) (k := row.length) (tabS_ok (by omega) (by omega) (by omega) hW) tabS_lens (by omega)
      rw [tabS_len] at this
      exact this
    have hr4 := hr3.ext (hide_mono E4)
    refine put_spec O0 tabS_row rfl (zs_in (Nat.le_refl _)) (by rw [empt_flat]; exact zs_nd _) (by rw [zs_len, List.length_range]; omega) (hr4.ext hide_ext) (o3.isT.ext E4) ⟨c4, rfl, he4⟩ fun v5 u5 m5 E5 o5 D5 => ?_
    obtain rfl := D2.unique D5
    walk_at "ss"
    refine ⟨lid_of (show 2 < 1000 by decide), ?_⟩
    walk_at "ss"
    have E25 := (E3.trans E4).trans E5
    obtain ⟨Ok5, all5⟩ := puts_ok O0 D2 (Nat.le_refl _)
    exact h _ _ _ _ _ _ _ _ ⟨S2.ext E25, hr4.ext (hide_mono E5), pub_own (S2.ext (E3.trans E4)).live o5, Ok5, all5, hk⟩ (((hide_mono E1).trans E2).trans (hide_mono E25))
  · walk_at "ss"
    refine ⟨lid_of (show 2 < 1000 by decide), ?_⟩
    walk_at "ss"
    exact h _ _ _ _ _ _ _ _ S .refl
theorem moved_B (S : LSt m a d ra bs hv row held vr vh) (h : ∀ ra' bs' hv' row' held' vr' vh' m', LSt m' a d ra' bs' hv' row' held' vr' vh' → Ext (hide (d :: ra :: bs) m) (hide (d :: ra' :: bs') m') → Q (.tup [vr', vh']) m') :
    wpSs (CN (n + 7)) (globOf GS) (Sts.drop 3 f_L_moved_2.body) (retQ Q) (fun c _ m' => X c m') [some (.ref a), some (.int c), some vr, some vh, some (.int num), some (.int bs.length), none, none, none] m := by
  obtain ⟨h1, h8⟩ := S.n8
  have hk := S.k14
  have hhl := S.hl
  have C := moved_C (n := n) (X := X) (c := c) (num := num) S h
  show wpSs _ _ (.cons _ (Sts.drop 4 f_L_moved_2.body)) _ _ _ _
  generalize Sts.drop 4 f_L_moved_2.body = rest at C ⊢
  try dsimp only [f_L_moved_2]
  refine s_cons (s_ifs ?_)
  walk_at "ss"
  with_reducible refine bsQ_dec (fun q1 => ?_) (fun q1 => ?_)
  rotate_left
  · rw [q1]
    exact asB_ (ifQ_false (s_nil (seqQ_next C)))
  walk_at "ss"
  with_reducible refine ifQ_dec (fun q => ?_) (fun q => ?_)
  rotate_left
  · exact s_nil (seqQ_next C)
  have q : (bs.length : Int) > 1 := of_decide_eq_true q
  have hf := fm num (b := (bs.length : Int)) (by omega)
  obtain ⟨i, hi⟩ : ∃ i : Nat, num.fmod bs.length = (i : Int) := ⟨_, (Int.toNat_of_nonneg hf.1).symm⟩
  have hib : i < bs.length := by omega
  try dsimp only [sts]
  walk_at "ss"
  rw [hi]
  try dsimp only [setV]
  refine isO_ S.est.at_ S.est.fl ?_
  walk_at "ss"
  refine go_spec S.est S.ok (by omega) hib fun ra' bs' hv' H' m1 hl1 S1 E1 D1 => ?_
  walk_at "ss"
  with_reducible refine ifQ_f rfl ?_
  have hr1 := S.r.ext E1
  have hh1 := S.h.ext E1
  obtain ⟨ys, e1, e2⟩ := id hh1
  have hyl : ys.length < lid := by rw [e2.length, hhl]; exact lid_of (by omega)
  obtain ⟨y, hy, hyI⟩ := e2.get' (getDL (t := held) (i := i) (by omega))
  obtain ⟨ha, rfl, hha⟩ := e1
  have hha' := hide_ext _ _ hha
  walk_at "ss"
  refine slQ_ hha' hyl (freshL_x (by rw [cutL_take]; exact Nat.lt_of_le_of_lt (by rw [List.length_take]; exact Nat.min_le_right _ _) hyl) fun c4 m5 hc4 E5 he4 => ?_)
  walk_at "ss"
  refine slQ_ (E5 _ _ hha') hyl (freshL_x (by rw [cutL_drop]; exact Nat.lt_of_le_of_lt (by rw [List.length_drop]; exact Nat.sub_le _ _) hyl) fun c5 m6 hc5 E6 he5 => ?_)
  rw [cutL_take] at he4
  rw [cutL_drop] at he5
  refine bin_addL (IsL.lst ⟨c4, rfl, E6 _ _ he4⟩) (IsL.lst ⟨c5, rfl, he5⟩) ?_
  refine freshL_x (lid_of (by have := cutAt_len (l := ys) (i := i) (by rw [e2.length]; omega); have := e2.length; show (cutAt i ys).length < 1000; omega)) fun c6 m7 hc6 E7 he6 => ?_
  have E17 := (E5.trans E6).trans E7
  have hT : IsT m7 (.ref c6) (cutAt i held) := ⟨cutAt i ys, ⟨c6, rfl, he6⟩, (e2.mono fun _ _ q => q.ext (hide_ext.trans E17)).cutAt i⟩
  walk_at "ss"
  refine subW_ (IsL.seq ⟨ha, rfl, E17 _ _ hha'⟩) (place_nat (nn i) (by rw [e2.length]; show i < _; omega)) hy hyl ?_
  walk_at "ss"
  have hb' : bs'.length = bs.length - 1 := by omega
  have Oc : Ok (tabS bs'.length row) (cutAt i held) row.length := by rw [hb']; exact S.ok.cut (by omega) hib
  have hpm := cutAt_perm (u := held) (i := i) (by omega)
  have hnd : ((cutAt i held).flatten ++ held.getD i []).Nodup := hpm.nodup_iff.mpr S.ok.nd
  have hth : ∀ x ∈ held.getD i [], 0 ≤ x ∧ x.toNat < row.length := S.ok.thing (getDL_mem (by omega))
  have hr7 := hr1.ext (hide_mono E17)
  refine put_spec Oc tabS_row rfl hth hnd (sl1 (S.ok.sl (getDL_mem (by omega)))) (hr7.ext hide_ext) hT (hyI.ext (hide_ext.trans E17)) fun v8 u8 m8 E8 o8 D8 => ?_
  obtain rfl := D1.unique D8
  walk_at "ss"
  refine ⟨lid_of (show 2 < 1000 by decide), ?_⟩
  walk_at "ss"
  obtain ⟨Ok8, p8⟩ := D1.ok Oc hth hnd
  exact h _ _ _ _ _ _ _ _ ⟨S1.ext (E17.trans E8), hr7.ext (hide_mono E8), pub_own (S1.ext E17).live o8, Ok8, (p8.trans hpm).trans S.all, hk⟩ (E1.trans (hide_mono (E17.trans E8)))
theorem moved_spec (S : LSt m a d ra bs hv row held vr vh) (h : ∀ ra' bs' hv' row' held' vr' vh' m', LSt m' a d ra' bs' hv' row' held' vr' vh' → Ext (hide (d :: ra :: bs) m) (hide (d :: ra' :: bs') m') → Q (.tup [vr', vh']) m') : CN (n + 8) 148 [.ref a, .int c, vr, vh] Q X m := by
  obtain ⟨h1, h8⟩ := S.n8
  have hk := S.k14
  have hhl := S.hl
  refine call_eq rfl rfl ?_
  have C := moved_B (n := n) (X := X) (c := c) (num := (mixed c 1).fdiv 3) S h
  show wpSs _ _ (.cons _ (.cons _ (.cons _ (Sts.drop 3 f_L_moved_2.body)))) _ _ _ _
  generalize Sts.drop 3 f_L_moved_2.body = rest at C ⊢
  dsimp only [loc0, List.map, List.replicate, List.cons_append, List.nil_append, List.length, Nat.reduceAdd, Nat.reduceSub, f_L_moved_2]
  refine s_cons (s_asg ?_)
  walk_at "ss"
  refine mixed_spec ?_
  walk_at "ss"
  try dsimp only [setV]
  refine len_ll (S.h.ext hide_ext) (lid_of (by omega)) ?_
  rw [hhl]
  refine seqQ_next (s_cons (s_ifs ?_))
  try dsimp only [setV]
  walk_at "ss"
  with_reducible refine bsQ_dec (fun q1 => ?_) (fun q1 => ?_)
  rotate_left
  · rw [q1]
    exact asB_ (ifQ_false (s_nil (seqQ_next C)))
  walk_at "ss"
  refine len_ints (S.r.ext hide_ext) (lid_of (by omega)) ?_
  walk_at "ss"
  with_reducible refine ifQ_dec (fun q => ?_) (fun q => ?_)
  rotate_left
  · exact s_nil (seqQ_next C)
  have q : (row.length : Int) < 14 := of_decide_eq_true q
  clear C
  try dsimp only [sts]
  walk_at "ss"
  refine worth2_spec fun m1 E1 => ?_
  have hx := worth2_in ((mixed c 1).fdiv 3)
  obtain ⟨x, hxe⟩ : ∃ x, worth2 ((mixed c 1).fdiv 3) = x := ⟨_, rfl⟩
  rw [hxe] at hx ⊢
  walk_at "ss"
  refine freshL_x (lid_of (show 1 < 1000 by decide)) fun c2 m2 hc2 E2 he2 => ?_
  walk_at "ss"
  refine Or.inr ⟨c2, bs.length, _, rfl, rfl, IsL.lst ⟨c2, rfl, he2⟩, nn _, (rng8 h8).2, ?_⟩
  rw [Int.toNat_natCast, rep_flat]
  refine freshL_x (by rw [List.length_map, List.length_replicate]; exact lid_of (by omega)) fun c3 m3 hc3 E3 he3 => ?_
  have E13 := (E1.trans E2).trans E3
  have S3 := S.ext E13
  have hl' : (row ++ [x]).length = row.length + 1 := by rw [List.length_append]; rfl
  have O' : Ok (tabS bs.length (row ++ [x])) held (row ++ [x]).length := S.ok.grow h1 h8 hx (by omega)
  have hnot := S.ok.notIn
  walk_at "ss"
  try dsimp only [setV]
  refine isO_ S3.est.at_ S3.est.fl ?_
  walk_at "ss"
  refine come_spec (x := x) S3.est (by rw [hl'] at O'; exact O') hx (by omega) hnot (pub_ints (S.ext (E1.trans E2)).est.live hc3 he3) fun hv' H' m4 S4 E4 G4 => ?_
  walk_at "ss"
  have hr4 := S3.r.ext E4
  have hh4 := S3.h.ext E4
  refine len_ints (hr4.ext hide_ext) (lid_of (by omega)) ?_
  walk_at "ss"
  with_reducible refine ifQ_f (dec_f fun q => absurd rfl q) ?_
  walk_at "ss"
  refine worth2_spec fun m5 E5 => ?_
  rw [hxe]
  walk_at "ss"
  refine freshL_x (lid_of (show 1 < 1000 by decide)) fun c6 m6 hc6 E6 he6 => ?_
  have E46 := E5.trans E6
  obtain ⟨ar, rfl, har⟩ := id hr4
  refine bin_addL (IsL.lst ⟨ar, rfl, E46 _ _ (hide_ext _ _ har)⟩) (IsL.lst ⟨c6, rfl, he6⟩) ?_
  rw [show row.map Val.int ++ [.int x] = (row ++ [x]).map .int by rw [List.map_append]; rfl]
  refine freshL_x (by rw [List.length_map, hl']; exact lid_of (by omega)) fun c7 m7 hc7 E7 he7 => ?_
  walk_at "ss"
  try dsimp only [setV]
  have S6 := S4.ext E46
  have hr7 : IsI (hide (d :: ra :: bs) m7) (.ref c7) (row ++ [x]) := pub_ints S6.live hc7 he7
  refine len_ints (hr7.ext hide_ext) (by rw [hl']; exact lid_of (by omega)) ?_
  walk_at "ss"
  rw [show ((row ++ [x]).length : Int) - 1 = (row.length : Int) by rw [hl']; omega]
  refine freshL_x (lid_of (show 1 < 1000 by decide)) fun c8 m8 hc8 E8 he8 => ?_
  walk_at "ss"
  have E48 := (E46.trans E7).trans E8
  have hkk : 0 ≤ (row.length : Int) ∧ (row.length : Int).toNat < (row ++ [x]).length := ⟨nn _, by rw [Int.toNat_natCast, hl']; omega⟩
  have hnd : (held.flatten ++ [(row.length : Int)]).Nodup := by
    rw [List.nodup_append]
    refine ⟨S.ok.nd, List.nodup_cons.mpr ⟨List.not_mem_nil, List.nodup_nil⟩, fun y hy z hz e => ?_⟩
    rw [List.mem_singleton.mp hz] at e
    exact hnot (e ▸ hy)
  refine put_spec (xs := [(row.length : Int)]) O' tabS_row rfl (fun y hy => by rw [List.mem_singleton.mp hy]; exact hkk) hnd (by show 1 < 1000; decide) ((hr7.ext hide_ext).ext E8) ((hh4.ext hide_ext).ext E48) ⟨c8, rfl, he8⟩ fun v9 u9 m9 E9 o9 D9 => ?_
  obtain rfl := G4.unique D9.one_inv
  walk_at "ss"
  refine ⟨lid_of (show 2 < 1000 by decide), ?_⟩
  walk_at "ss"
  have Ok9 := G4.ok O' hkk hnot
  have p9 := G4.flat O'
  refine h _ _ _ _ _ _ _ _ ⟨S4.ext (E48.trans E9), hr7.ext (hide_mono (E8.trans E9)), pub_own (S4.ext E48).live o9, Ok9, ?_, by omega⟩ (((hide_mono E13).trans E4).trans (hide_mono (E48.trans E9)))
  rw [hl', zs_succ]
  exact p9.trans (List.Perm.append_right _ S.all)
end

section
variable {C : CallT} {G : String → Option Val} {Q : Val → Mem → Prop} {X : Nat → Mem → Prop} {m m' : Mem} {n : Nat} {t u H held : List (List Int)} {k N i : Nat} {v w z hv vr vh : Val} {loc : Loc} {R : Flow → Loc → Mem → Prop} {Y : Nat → Loc → Mem → Prop} {x c num : Int} {row xs ns : List Int} {a d ra : Addr} {bs : List Addr} {g : Nat → List Int}
theorem law_tail (hl : ns.length ≤ 63) (h1 : 1 ≤ N) (h8 : N ≤ 8) (h : ∀ m', Q (.bool true) m') :
    wpSs (CN (n + 8)) (globOf GS) (Sts.drop 2 f_law_15.body) (retQ Q) (fun c _ m' => X c m') [some (.frz (ns.map .int)), some (.int (N : Nat)), none, none, none, none, none, none] m := by
  dsimp only [f_law_15, sts, Sts.drop]
  walk_at "ss"
  intro a d ha hd hne
  refine init_spec (a := a) (d := d) set_eq (by rw [set_ne (Ne.symm hne)]; exact set_eq) h1 h8 fun ra bs hv m1 hbl S1 E1 => ?_
  refine ⟨rfl, ?_⟩
  walk_at "ss"
  try dsimp only [setV]
  refine freshL_x (lid_of (by decide)) fun c2 m2 hc2 E2 he2 => ?_
  walk_at "ss"
  try dsimp only [setV]
  refine items_range (rng8 h8) ?_
  refine comp_own (fun _ => []) (by rw [range_len]; show N < 1000; omega) (fun _ _ => trivial) (fun j x m' hx E P hP => ?_) fun v3 m3 E3 o3 => ?_
  · walk_at "ss"
    exact freshL_ (lid_of (by decide)) fun c hc => hP c m' .refl hc
  rw [range_len] at o3
  have o3 : Own m2 m3 v3 (empt N) := o3
  have O0 : Ok (tabS bs.length []) (empt N) ([] : List Int).length := by
    have := empt_ok (t := tabS bs.length []) (k := 0) (tabS_ok (row := []) (by omega) (by omega) (by decide) (fun _ q => nomatch q)) tabS_lens (by decide)
    rw [tabS_len, hbl] at this
    rw [hbl]
    exact this
  have S3 : LSt m3 a d ra bs hv [] (empt N) (.ref c2) v3 :=
    ⟨S1.ext (E2.trans E3), (pub_ints S1.live hc2 he2).ext (hide_mono E3), pub_own (S1.ext E2).live o3, O0, by rw [empt_flat]; exact List.Perm.refl _, by decide⟩
  clear E1 o3 he2 hc2
  walk_at "ss"
  try dsimp only [setV]
  have hcl : ((ns.map Val.int).drop (clip 1 (ns.map Val.int).length)).take (clip 17 (ns.map Val.int).length - clip 1 (ns.map Val.int).length) = (((ns.drop 1).take 16).map Val.int) := by
    rw [show clip 1 (ns.map Val.int).length = 1 from rfl, show clip 17 (ns.map Val.int).length = 17 from rfl, ← List.map_drop, ← List.map_take]
  have hll : (((ns.drop 1).take 16).map Val.int).length < 1000 := by rw [List.length_map, List.length_take]; omega
  refine ⟨ns.map .int, rfl, by rw [List.length_map]; exact lid_of (by omega), ?_⟩
  rw [hcl]
  refine freshL_x (lid_of hll) fun c5 m5 hc5 E5 he5 => ?_
  have S5 := S3.ext E5
  have hL5 : IsL (hide (d :: ra :: bs) m5) (.ref c5) (((ns.drop 1).take 16).map Val.int) := pub_ints S3.est.live hc5 he5
  refine items_list (hL5.ext hide_ext).seq (lid_of hll) ?_
  refine for_inv (fun i l m' => ∃ ra bs hv row held vr vh y5 y6, l = [some (.frz (ns.map .int)), some (.int (N : Nat)), some (.ref a), some vr, some vh, y5, y6, none] ∧ LSt m' a d ra bs hv row held vr vh ∧ IsL (hide (d :: ra :: bs) m') (.ref c5) (((ns.drop 1).take 16).map Val.int))
    ⟨ra, bs, hv, _, _, _, _, none, none, rfl, S5, hL5⟩ (fun i x l m' hx hI P hP => ?_) fun l m' hI => ?_
  · obtain ⟨ra, bs, hv, row, held, vr, vh, y5, y6, rfl, S, hL⟩ := hI
    rw [List.getElem?_map] at hx
    obtain ⟨c, hc, rfl⟩ := Option.map_eq_some_iff.mp hx
    refine bodyF_one ?_
    dsimp only [setV]
    walk_at "ss"
    refine moved_spec S fun ra' bs' hv' row' held' vr' vh' m2 S' E' => ?_
    have hL' := hL.ext E'
    walk_at "ss"
    try dsimp only [setV]
    with_reducible refine ifQ_f rfl ?_
    walk_at "ss"
    refine subW_ (xs := [vr', vh']) rfl rfl rfl (lid_of (show 2 < 1000 by decide)) ?_
    walk_at "ss"
    try dsimp only [setV]
    refine subW_ (xs := [vr', vh']) rfl rfl rfl (lid_of (show 2 < 1000 by decide)) ?_
    walk_at "ss"
    try dsimp only [setV]
    with_reducible refine bsQ_dec (fun q => ?_) (fun q => ?_)
    · walk_at "ss"
      refine looked_spec S' fun m3 E3 => ?_
      walk_at "ss"
      with_reducible refine loopQ_next (hP _ _ ?_)
      exact ⟨(hL5.ext hide_ext).stands ((hL'.ext (hide_mono E3)).ext hide_ext), ra', bs', hv', row', held', vr', vh', _, _, rfl, S'.ext E3, hL'.ext (hide_mono E3)⟩
    · rw [q]
      walk_at "ss"
      with_reducible refine loopQ_next (hP _ _ ?_)
      exact ⟨(hL5.ext hide_ext).stands (hL'.ext hide_ext), ra', bs', hv', row', held', vr', vh', _, _, rfl, S', hL'⟩
  · obtain ⟨ra, bs, hv, row, held, vr, vh, y5, y6, rfl, S, hL⟩ := hI
    walk_at "ss"
    refine looked_spec S fun m3 E3 => ?_
    have S3 := S.ext E3
    walk_at "ss"
    refine told_spec S3.ok S3.k14 S3.all (S3.r.ext hide_ext) (S3.h.ext hide_ext) fun m4 => ?_
    walk_at "ss"
    exact h _
theorem law15 (hl : ns.length ≤ 63) (h : ∀ m', Q (.bool true) m') : CN (n + 9) 151 [.frz (ns.map .int)] Q X m := by
  have hf := fm (cell ns 0) (b := 4) (by decide)
  refine call_eq rfl rfl ?_
  have T := fun (N : Nat) (h1 : 1 ≤ N) (h8 : N ≤ 8) (m : Mem) => law_tail (n := n) (X := X) (m := m) hl h1 h8 h
  show wpSs _ _ (.cons _ (.cons _ (Sts.drop 2 f_law_15.body))) _ _ _ _
  generalize Sts.drop 2 f_law_15.body = rest at T ⊢
  dsimp only [loc0, List.map, List.replicate, List.cons_append, List.nil_append, List.length, Nat.reduceAdd, Nat.reduceSub, f_law_15]
  refine s_cons (s_asg ?_)
  walk_at "ss"
  refine at_spec (by decide) (by omega) ?_
  obtain ⟨q, hq⟩ : ∃ q : Nat, (cell ns (0 : Int).toNat).fmod 4 = (q : Int) := ⟨_, (Int.toNat_of_nonneg hf.1).symm⟩
  have hq4 : q < 4 := by have : (cell ns (0 : Int).toNat).fmod 4 < 4 := hf.2; omega
  walk_at "ss"
  try dsimp only [setV]
  rw [hq]
  refine at_spec (by decide) (by omega) ?_
  walk_at "ss"
  with_reducible refine ifQ_dec (fun r => ?_) (fun r => ?_)
  · refine s_cons (s_asg (e_pv _ (by with_unfolding_all rfl) (seqQ_next (s_nil (seqQ_next ?_)))))
    dsimp only [setV]
    rw [show (1 : Int) + (q : Int) + 4 = ((q + 5 : Nat) : Int) by omega]
    exact T (q + 5) (by omega) (by omega) _
  · refine s_nil (seqQ_next ?_)
    rw [show (1 : Int) + (q : Int) = ((q + 1 : Nat) : Int) by omega]
    exact T (q + 1) (by omega) (by omega) _
end

end TD
open PySem PySem.W PyProof.Rows
namespace TD
noncomputable def ids15 : List Nat := [0, 1, 2, 3, 4, 5, 6, 7, 8, 10, 11, 18, 22, 23, 30, 31, 32, 33, 34, 37, 40, 41, 42, 43, 44, 45, 59, 63, 64, 105, 106, 107, 108, 110, 146, 147, 148, 149, 150, 151]
noncomputable def ms15 : List Nat := [59, 63, 64, 105, 106, 107]
theorem law_good {c : ClaimW} {cl : Str → Option Addr} {mean : ExcName → Option Value} {args : List WData} {s₁ s' : Shared} (h1 : ∀ cls, c.raises args cls = false) (h2 : c.post args (.bool true) args = true)
    (k : s₁.heap.StaysIn s'.heap) (hg : s'.gens = #[]) (ho : s'.os = s₁.os) : GoodWG c cl mean args s₁ (.ok (.ret (.bool true))) s' := by
  exact GoodW.toG ⟨.inl ⟨_, .bool true, [], rfl, h1, .bool true, h2, fun _ => ⟨List.nodup_nil, fun _ h => nomatch h⟩⟩, k, ho, hg⟩
end TD
open TD
theorem PySem.Challenge.cw_uf020018_15_holds : PySem.Challenge.rw_uf020018_15.Holds := by
  w_on; refine holds_law (by kernel_rfl) fun said => ?_
  refine open_head head_run (by kernel_rfl) (by kernel_rfl) (by kernel_rfl) (by kernel_rfl) (by assumption) (by kernel_rfl) ⟨rfl, rfl, rfl, rfl, rfl, by decide +kernel⟩ ?hw fun d kwd hdn => ?_
  case hw => w_witness2
  intro w s₀ s₁ mg mb G Y fa o pm cd doc dV kV ho hd hcd hD hmg hg args vals as hpre hlay hrd hwl hlo
  refine Ground.open G ?_
  intro T B D TE TW
  clear D TW B
  wrow_args hpre hlay hrd hwl hlo
  rename_i ns _ _ _ _ _ _ a vs _ hL _ _ _ hI _ hc _
  refine law_run (FT := FT) (ids := ids15) (gs := GS) (f := 151) (n := 9) (fn := f_law_15) T hg (by kernel_rfl) (by kernel_rfl) (estC_of TE (by kernel_rfl)) (defs_ofO (ids2 := ms15) (W := ⟨_, _, _, _, _, _, _⟩) T TE (by kernel_rfl) (by kernel_rfl)) (by omega) (by decide) rfl rfl ((congrArg mg hdn).symm.trans hmg) hL hI ?_ ?_
  · refine law15 (n := 0) ?_ fun m' => rfl
    omega
  · intro s' k hg' ho'
    clear Y hd hcd hD hmg T G TE
    refine law_good (fun _ => rfl) ?_ k hg' ho'
    wrow_post
