import PyProof.Rows.All
import PyProof.Calls
import PyProof.AutoSeq1
import PyProof.CallStr
import PyProof.Cells
import PyProof.CompFree
import PyProof.MeetsSeq
import PyProof.ListOps
import PyProof.NeKinds
import PyProof.StationsW
import PyProof.WalksMore
import PyProof.ListIndexNeg
import PyProof.WalkInts
import PyProof.Rows.News
import PyProof.Rows.Tup
import PyProof.Rows.TupMore
import PyProof.SliceMore
import PyProof.Rows.Walk
import PyProof.RulesAssignMore
import PyProof.Rows.PlainEq
import Open.Line
import OpenK.KMore
import OpenK.KMeth
import OpenK.KDict
import OpenK.KCell
import KE.LcSums
import KE.KRevIter
import KE.KSortAsk
import PySem.Challenge.RW_uf020018_09
set_option Elab.async false
set_option autoImplicit false
set_option linter.all false
set_option genSizeOf false
set_option genInjectivity false
set_option maxRecDepth 100000
set_option maxHeartbeats 8000000
set_option hygiene false in
set_option compiler.extract_closed false in
local macro_rules | `(tactic| walk_at "o") => `(tactic| first | assumption | exact Nat.le_of_lt (by assumption) | exact Nat.lt_of_lt_of_le (by assumption) (by assumption) | exact Nat.lt_of_le_of_lt (by assumption) (by assumption) | exact Nat.le_trans (by assumption) (by assumption) | lia | omega)

namespace TD
open PySem PySem.W PyProof.Rows
noncomputable def isDunder (e : Expr) : Bool := if h : e.ctorIdx = 23 then Expr.Name.elim (motive_1 := fun _ => Bool) e h fun x _ => x == ("__name__" : Str) else false
noncomputable def isMod (s : Stmt) : Bool := if h : s.ctorIdx = 5 then Stmt.Assign.elim (motive_2 := fun _ => Bool) s h fun ts _ _ => ts.all isDunder else false
noncomputable def viewOf (p : Program) : Program := { p with main := { p.main with body := p.main.body.filter fun s => !isMod s } }
noncomputable abbrev HeadRun (r : OpenRow) : Prop := LeftO r.prog (viewOf r.prog) [] (fun s => xlAt (viewOf r.prog) [] s && recOk (RowW.records r.toRowW) s) (Hook.obs Hook.none) (Hook.val Hook.none) 4000
theorem open_head {r : OpenRow} (hl : HeadRun r)
    (h1 : (defOf (viewOf r.prog) r.name).isSome = true) (h2 : (defOf (viewOf r.prog) r.name).map (fun x => (x.1.params, x.1.body, x.1.scope)) = r.prog.theDef r.name)
    (h3 : (defOf (viewOf r.prog) r.name).bind (fun x => kwWritten? x.1.params.kwonlyargs x.1.params.kw_defaults) = (defOf (viewOf r.prog) r.name).map (·.2))
    (hwr : (!r.writes || r.records.isEmpty) = true) (k1 : r.wellSaid = true) (ok : (chainsOk (viewOf r.prog) && opensWell r.prog && (frees r.toRowW && r.within.isEmpty)) = true) (hb : r.prog.bare) (hw : r.toRowW.promised)
    (call : ∀ d kwd, d.name = r.name → WalkO (viewOf r.prog) [] (XL (viewOf r.prog) []) (Hook.says Hook.none) r.toRowW d kwd fun f vs => PySem.call f vs) : r.Holds := by
  obtain ⟨⟨d, kwd⟩, hd⟩ := Option.isSome_iff_exists.mp h1
  rw [hd] at h2 h3
  exact holds_open (XP := XL (viewOf r.prog) []) (YP := Hook.says Hook.none) hl (Hook.of Hook.none) (Hook.keeps Hook.none) (fun s e => xl_of s (Bool.and_eq_true_iff.mp e).1) XL.keeps hd h2.symm h3 (fun s e => recFacts_of (Bool.and_eq_true_iff.mp e).2) hwr k1 ok hb hw (call d kwd (defOf_name hd))
end TD

namespace TD
open PySem PySem.W PyProof.Rows
theorem head_run : HeadRun PySem.Challenge.rw_uf020018_09.row := fun w => by kernel_rfl
theorem law_said : PySem.Challenge.rw_uf020018_09.wellSaid = true := by kernel_rfl
theorem hd1 : (defOf (viewOf PySem.Challenge.rw_uf020018_09.row.prog) PySem.Challenge.rw_uf020018_09.row.name).isSome = true := by kernel_rfl
theorem hd2 : (defOf (viewOf PySem.Challenge.rw_uf020018_09.row.prog) PySem.Challenge.rw_uf020018_09.row.name).map (fun x => (x.1.params, x.1.body, x.1.scope)) = PySem.Challenge.rw_uf020018_09.row.prog.theDef PySem.Challenge.rw_uf020018_09.row.name := by kernel_rfl
theorem hd3 : (defOf (viewOf PySem.Challenge.rw_uf020018_09.row.prog) PySem.Challenge.rw_uf020018_09.row.name).bind (fun x => kwWritten? x.1.params.kwonlyargs x.1.params.kw_defaults) = (defOf (viewOf PySem.Challenge.rw_uf020018_09.row.prog) PySem.Challenge.rw_uf020018_09.row.name).map (·.2) := by kernel_rfl
theorem hd4 : (chainsOk (viewOf PySem.Challenge.rw_uf020018_09.row.prog) && opensWell PySem.Challenge.rw_uf020018_09.row.prog && (frees PySem.Challenge.rw_uf020018_09.row.toRowW && PySem.Challenge.rw_uf020018_09.row.within.isEmpty)) = true := by kernel_rfl
end TD

namespace TD
open PySem (Str Addr)

inductive Val where
  | none | bool (b : Bool) | int (i : Int) | tup (vs : List Val) | ref (a : Addr) | frz (xs : List Val) | str (x : Str)

inductive AObj where
  | list (xs : List Val)
noncomputable def AObj.isA : AObj → Nat → Option Bool
  | .list _, c => some (c == 2)

noncomputable abbrev Mem := Addr → Option AObj
noncomputable def Mem.set (m : Mem) (a : Addr) (o : AObj) : Mem := fun b => if b = a then some o else m b

inductive Cls where
  | int | bool | list | tuple | ValueError | DealError | BadTable | BadShares | BadHeir | BadThing | BadRing | BadOrder | Full | BadNote
noncomputable def Cls.code : Cls → Nat
  | .int => 0 | .bool => 1 | .list => 2 | .tuple => 3 | .ValueError => 5 | .DealError => 6 | .BadTable => 7 | .BadShares => 8 | .BadHeir => 9 | .BadThing => 10
  | .BadRing => 11 | .BadOrder => 12 | .Full => 13 | .BadNote => 14

inductive Bop where | add | sub | mul | fdiv | mod
inductive Cop where | eq | ne | lt | le | gt | inn | notin
inductive B1 where
  | len | all | sum | minL | list | tuple | sorted | int | lrange | lrev | lenset
inductive ItK where | plain | range
inductive Tg where | one (i : Nat) | two (i j : Nat)

mutual
inductive Ex where
  | nm (i : Nat) | int (i : Int) | bool (b : Bool) | none | glob (x : String)
  | bin (op : Bop) (a b : Ex) | not (a : Ex) | neg (a : Ex) | boolop (isAnd : Bool) (es : Exs)
  | cmp (op : Cop) (a b : Ex) | cmp2 (op1 op2 : Cop) (a b c : Ex) | isc (pos : Bool) (a : Ex) (c : Option Bool)
  | call (f : Nat) (args : Exs) | b1 (b : B1) (a : Ex) | isinst (a : Ex) (c : Cls)
  | append (o e : Ex) | extend (o e : Ex) | pop (o : Ex) (i : Exs) | index (o e : Ex)
  | sub (a i : Ex) | slice (up : Bool) (a i : Ex) | mm (mx : Bool) (a b : Ex) | lst (es : Exs) | tup (es : Exs)
  | comp (elt : Ex) (t : Tg) (k : ItK) (src : Ex) (cond : Exs)
  | str (x : String)
inductive Exs where
  | nil | cons (e : Ex) (es : Exs)
end

inductive Flow where | next | brk | cont | ret (v : Val)

mutual
inductive St where
  | expr (e : Ex) | ret (e : Ex) | asg (i : Nat) (e : Ex) | asgSub (o i e : Ex)
  | ifs (c : Ex) (t e : Sts) | fors (t : Tg) (k : ItK) (src : Ex) (b : Sts) | whiles (c : Ex) (b : Sts)
  | raise (c : Cls) (msg : String)
inductive Sts where
  | nil | cons (s : St) (ss : Sts)
end

noncomputable def sts : List St → Sts
  | [] => .nil
  | s :: r => .cons s (sts r)

noncomputable abbrev Loc := List (Option Val)
noncomputable def getV : Loc → Nat → Option Val
  | [], _ => Option.none
  | v :: r, n => match n with | 0 => v | n + 1 => getV r n
noncomputable def setV : Loc → Nat → Val → Loc
  | [], _, _ => []
  | x :: r, n, v => match n with | 0 => some v :: r | n + 1 => x :: setV r n v

noncomputable def itemsOf : Option AObj → Option (List Val)
  | Option.none => Option.none
  | some (.list xs) => some xs
noncomputable def lst (m : Mem) : Val → Option (List Val)
  | .ref a => itemsOf (m a)
  | .frz xs => some xs
  | _ => Option.none
noncomputable def seq (m : Mem) : Val → Option (List Val)
  | .tup vs => some vs
  | v => lst m v

inductive Dat where
  | none | int (i : Int) | list (ds : List Dat) | tup (ds : List Dat) | str (x : Str)
mutual
noncomputable def Dat.beq : Dat → Dat → Bool
  | .none, e => match e with | .none => true | _ => false
  | .int i, e => match e with | .int j => i == j | _ => false
  | .list a, e => match e with | .list b => Dat.beqs a b | _ => false
  | .tup a, e => match e with | .tup b => Dat.beqs a b | _ => false
  | .str x, e => match e with | .str y => x == y | _ => false
noncomputable def Dat.beqs : List Dat → List Dat → Bool
  | [], l => l.isEmpty
  | a :: r, l => match l with | b :: t => Dat.beq a b && Dat.beqs r t | [] => false
end
mutual
noncomputable def Reads (m : Mem) : Dat → Val → Prop
  | .none, v => v = .none
  | .int i, v => v = .int i
  | .list ds, v => ∃ xs, lst m v = some xs ∧ ReadsL m ds xs
  | .tup ds, v => ∃ xs, v = .tup xs ∧ ReadsL m ds xs
  | .str x, v => v = .str x
noncomputable def ReadsL (m : Mem) : List Dat → List Val → Prop
  | [], xs => xs = []
  | d :: ds, xs => ∃ y ys, xs = y :: ys ∧ Reads m d y ∧ ReadsL m ds ys
end

noncomputable def lid : Nat := 1000000
noncomputable def small (i : Int) : Prop := -(2 ^ 62) < i ∧ i < 2 ^ 62
noncomputable def tiny (i : Int) : Prop := -1000000000000 < i ∧ i < 1000000000000

noncomputable def freshL (m : Mem) (xs : List Val) (Q : Val → Mem → Prop) : Prop := xs.length < lid ∧ ∀ a, m a = Option.none → Q (.ref a) (m.set a (.list xs))

noncomputable def wpBin (op : Bop) (a b : Val) (Q : Val → Mem → Prop) (m : Mem) : Prop :=
  match op with
  | .add => (∃ x y, a = .int x ∧ b = .int y ∧ Q (.int (x + y)) m) ∨ (∃ x y xs ys, a = .ref x ∧ b = .ref y ∧ lst m (.ref x) = some xs ∧ lst m (.ref y) = some ys ∧ freshL m (xs ++ ys) Q)
  | .sub => ∃ x y, a = .int x ∧ b = .int y ∧ Q (.int (x - y)) m
  | .mul => ∃ x y, a = .int x ∧ b = .int y ∧ (small x ∨ small y) ∧ Q (.int (x * y)) m
  | .fdiv => ∃ x y, a = .int x ∧ b = .int y ∧ (y ≠ 0 ∧ tiny y) ∧ Q (.int (x.fdiv y)) m
  | .mod => ∃ x y, a = .int x ∧ b = .int y ∧ (y ≠ 0 ∧ tiny y) ∧ Q (.int (x.fmod y)) m

noncomputable def okN : Nat → Dat → Bool
  | 0, _ => false
  | n + 1, d => match d with
    | .list ds => ds.all (okN n)
    | .tup ds => ds.all (okN n)
    | .str x => x.cps.all (· < 0x110000)
    | _ => true

noncomputable def eqW (a b : Val) (Q : Bool → Prop) (m : Mem) : Prop :=
  (∃ x y : Str, a = .str x ∧ b = .str y ∧ Q (x == y)) ∨ (∃ d e, Reads m d a ∧ Reads m e b ∧ okN 8 d = true ∧ okN 8 e = true ∧ Q (Dat.beq d e))

noncomputable def inW (a b : Val) (Q : Bool → Prop) (m : Mem) : Prop :=
  ∃ d es xs, seq m b = some xs ∧ Reads m d a ∧ ReadsL m es xs ∧ okN 8 d = true ∧ es.all (okN 7) = true ∧ Q (es.any fun e => Dat.beq e d)

noncomputable def wpCmp (op : Cop) (a b : Val) (Q : Bool → Mem → Prop) (m : Mem) : Prop :=
  match op with
  | .eq => eqW a b (fun r => Q r m) m
  | .ne => eqW a b (fun r => Q (!r) m) m
  | .inn => inW a b (fun r => Q r m) m
  | .notin => inW a b (fun r => Q (!r) m) m
  | .lt => ∃ x y, a = .int x ∧ b = .int y ∧ Q (decide (x < y)) m
  | .le => ∃ x y, a = .int x ∧ b = .int y ∧ Q (decide (x ≤ y)) m
  | .gt => ∃ x y, a = .int x ∧ b = .int y ∧ Q (decide (x > y)) m

noncomputable def isA (m : Mem) : Val → Cls → Option Bool
  | .none, _ => Option.none
  | .bool _, _ => Option.none
  | .int _, c => some (c.code == 0)
  | .tup _, c => some (c.code == 3)
  | .ref a, c => (m a).bind fun o => o.isA c.code
  | .frz _, _ => Option.none
  | .str _, _ => Option.none

noncomputable abbrev noX : Nat → Mem → Prop := fun _ _ => False
noncomputable abbrev noY : Nat → Loc → Mem → Prop := fun _ _ _ => False

noncomputable def rangeV (n : Int) : List Val := (List.range n.toNat).map fun (k : Nat) => .int k

noncomputable def lexLt : List Int → List Int → Bool
  | [], b => !b.isEmpty
  | _ :: _, [] => false
  | a :: as, b :: bs => if a = b then lexLt as bs else decide (a < b)
noncomputable def sortedW (xs : List Val) (Q : Val → Mem → Prop) (m : Mem) : Prop :=
  (∃ is : List Int, xs = is.map .int ∧ is.length < 64 ∧ ∀ js : List Int, js.Perm is → js.Pairwise (· ≤ ·) → freshL m (js.map .int) Q) ∨
  (∃ ps : List (Addr × List Int), xs = ps.map (fun p => .ref p.1) ∧ (∀ p ∈ ps, m p.1 = some (.list (p.2.map .int))) ∧ ps.length < 64 ∧ ∀ qs : List (Addr × List Int), qs.Perm ps → qs.Pairwise (fun p q => lexLt q.2 p.2 = false) → freshL m (qs.map fun p => .ref p.1) Q)

noncomputable def wpB1 (b : B1) (v : Val) (Q : Val → Mem → Prop) (m : Mem) : Prop :=
  match b with
  | .len => ∃ xs, seq m v = some xs ∧ xs.length < lid ∧ Q (.int xs.length) m
  | .all => ∃ bs : List Bool, lst m v = some (bs.map .bool) ∧ Q (.bool (bs.all id)) m
  | .sum => ∃ is : List Int, lst m v = some (is.map .int) ∧ (∀ i ∈ is, small i) ∧ is.length < lid ∧ Q (.int is.sum) m
  | .minL => ∃ (is : List Int), lst m v = some (is.map .int) ∧ is ≠ [] ∧ is.length < lid ∧ ∀ M : Int, M ∈ is → (∀ a ∈ is, M ≤ a) → Q (.int M) m
  | .list => ∃ xs, seq m v = some xs ∧ freshL m xs Q
  | .tuple => ∃ xs, lst m v = some xs ∧ xs.length < lid ∧ Q (.tup xs) m
  | .sorted => ∃ xs, lst m v = some xs ∧ sortedW xs Q m
  | .int => ∃ x, v = .bool x ∧ Q (.int (if x then 1 else 0)) m
  | .lrange => ∃ n, v = .int n ∧ (0 ≤ n ∧ n < lid) ∧ freshL m (rangeV n) Q
  | .lrev => ∃ a xs, v = .ref a ∧ m a = some (.list xs) ∧ xs.length < lid ∧ freshL m xs.reverse Q
  | .lenset => ∃ is : List Int, lst m v = some (is.map .int) ∧ is.length < 1000 ∧ ∀ k : Nat, k ≤ is.length → (k = is.length ↔ is.Nodup) → Q (.int k) m

noncomputable def place (i : Int) (n : Nat) : Option Nat :=
  if 0 ≤ i then (if i.toNat < n then some i.toNat else Option.none) else (if (-i).toNat ≤ n then some (n - (-i).toNat) else Option.none)
noncomputable def subW (v : Val) (i : Val) (Q : Val → Mem → Prop) (m : Mem) : Prop :=
  ∃ k xs j x, i = .int k ∧ seq m v = some xs ∧ place k xs.length = some j ∧ xs[j]? = some x ∧ xs.length < lid ∧ Q x m

noncomputable def clip (k : Int) (n : Nat) : Nat := if 0 ≤ k then k.toNat else n - (-k).toNat
noncomputable def cutL (up : Bool) (xs : List Val) (k : Int) : List Val := match up with
  | true => xs.drop (clip k xs.length)
  | false => xs.take (clip k xs.length)
noncomputable def slQ (up : Bool) (x y : Val) (Q : Val → Mem → Prop) (m : Mem) : Prop := (∃ a xs k, x = .ref a ∧ m a = some (.list xs) ∧ y = .int k ∧ xs.length < lid ∧ freshL m (cutL up xs k) Q) ∨
  (∃ (vs : List Val) (k : Nat), up = false ∧ x = .tup vs ∧ y = .int k ∧ k < vs.length ∧ vs.length < lid ∧ Q (.tup (vs.take k)) m)
noncomputable def mmV (mx : Bool) (a b : Int) : Int := match mx with
  | true => if b > a then b else a
  | false => if b < a then b else a
noncomputable def mmQ (mx : Bool) (x y : Val) (Q : Val → Mem → Prop) (m : Mem) : Prop := ∃ a b, x = .int a ∧ y = .int b ∧ Q (.int (mmV mx a b)) m

noncomputable def itemsW (k : ItK) (v : Val) (Q : List Val → Prop) (m : Mem) : Prop :=
  match k with
  | .plain => ∃ xs, seq m v = some xs ∧ xs.length < lid ∧ Q xs
  | .range => ∃ n, v = .int n ∧ (0 ≤ n ∧ n < lid) ∧ Q (rangeV n)
noncomputable def stands (k : ItK) (v : Val) (m m' : Mem) : Prop :=
  match k with
  | .range => True
  | .plain => lst m' v = lst m v

noncomputable def setT (t : Tg) (x : Val) (loc : Loc) (l : Loc) : Prop :=
  match t with
  | .one i => l = setV loc i x
  | .two i j => ∃ a b, x = .tup [a, b] ∧ l = setV (setV loc i a) j b
noncomputable def bindT (t : Tg) (x : Val) (loc : Loc) (k : Loc → Prop) : Prop := ∃ l, setT t x loc l ∧ k l

noncomputable def compLoop (f : Val → (List Val → Mem → Prop) → Mem → Prop) (ok : Mem → Prop) : List Val → List Val → (List Val → Mem → Prop) → Mem → Prop
  | [], acc, Q, m => Q acc m
  | x :: xs, acc, Q, m => f x (fun vs m' => ok m' ∧ compLoop f ok xs (acc ++ vs) Q m') m

noncomputable def loopQ (R : Flow → Loc → Mem → Prop) (I : Loc → Mem → Prop) (fl : Flow) (l : Loc) (m : Mem) : Prop := match fl with
  | .next => I l m
  | .cont => I l m
  | .brk => R .next l m
  | .ret v => R (.ret v) l m

noncomputable def forLoop (f : Val → (Flow → Loc → Mem → Prop) → Loc → Mem → Prop) (ok : Mem → Prop) : List Val → (Flow → Loc → Mem → Prop) → Loc → Mem → Prop
  | [], Q, l, m => Q .next l m
  | x :: xs, Q, l, m => f x (loopQ Q fun l' m' => ok m' ∧ forLoop f ok xs Q l' m') l m

noncomputable def whileLoop (c : (Bool → Mem → Prop) → Loc → Mem → Prop) (f : (Flow → Loc → Mem → Prop) → Loc → Mem → Prop) : Nat → (Flow → Loc → Mem → Prop) → Loc → Mem → Prop
  | 0, _, _, _ => False
  | n + 1, Q, l, m => c (fun t m' => (t = true → f (loopQ Q fun l' m'' => whileLoop c f n Q l' m'') l m') ∧ (t = false → Q .next l m')) l m

noncomputable abbrev CallT := Nat → List Val → (Val → Mem → Prop) → (Nat → Mem → Prop) → Mem → Prop

noncomputable def isL (m : Mem) (x : Val) : Prop := ∃ a xs, x = .ref a ∧ m a = some (.list xs)
noncomputable def isNone : Val → Bool
  | .none => true
  | _ => false
noncomputable def isBool (t : Bool) : Val → Bool
  | .bool u => u == t
  | _ => false
noncomputable def isLit : Option Bool → Val → Bool
  | Option.none => isNone
  | some t => isBool t

noncomputable def asB (Q : Bool → Mem → Prop) (v : Val) (m : Mem) : Prop := ∃ b, v = .bool b ∧ Q b m
noncomputable def bsQ (k : Bool) (W : Mem → Prop) (P : Bool → Mem → Prop) (b : Bool) (m : Mem) : Prop := (b = k → W m) ∧ (b = (!k) → P b m)
noncomputable def ifQ (T E : Mem → Prop) (b : Bool) (m : Mem) : Prop := (b = true → T m) ∧ (b = false → E m)
noncomputable def appQ (Q : Val → Mem → Prop) (x y : Val) (m2 : Mem) : Prop := ∃ a xs, x = .ref a ∧ m2 a = some (.list xs) ∧ xs.length < lid ∧ Q .none (m2.set a (.list (xs ++ [y])))
noncomputable def extQ (Q : Val → Mem → Prop) (x y : Val) (m2 : Mem) : Prop := ∃ a b xs ys, x = .ref a ∧ y = .ref b ∧ b ≠ a ∧ m2 a = some (.list xs) ∧ m2 b = some (.list ys) ∧ xs.length + ys.length < lid ∧ Q .none (m2.set a (.list (xs ++ ys)))
noncomputable def popQ (Q : Val → Mem → Prop) (x : Val) (ks : List Val) (m2 : Mem) : Prop := ∃ a xs k j y, x = .ref a ∧ m2 a = some (.list xs) ∧ xs.length < lid ∧ (ks = [] ∧ k = -1 ∨ ks = [.int k]) ∧ place k xs.length = some j ∧ xs[j]? = some y ∧ Q y (m2.set a (.list (xs.eraseIdx j)))
noncomputable def idxQ (Q : Val → Mem → Prop) (x y : Val) (m2 : Mem) : Prop := ∃ (a : Addr) (is : List Int) (i : Int), x = .ref a ∧ m2 a = some (.list (is.map .int)) ∧ y = .int i ∧ i ∈ is ∧ is.length < lid ∧ Q (.int (is.idxOf i : Nat)) m2
noncomputable def setQ (x y v : Val) (K : Mem → Prop) (m : Mem) : Prop := ∃ a k xs, x = .ref a ∧ y = .int k ∧ m a = some (.list xs) ∧ xs.length < lid ∧ (0 ≤ k ∧ k.toNat < xs.length) ∧ K (m.set a (.list (xs.set k.toNat v)))
noncomputable def compF (t : Tg) (loc : Loc) (B : Loc → (Bool → Mem → Prop) → Mem → Prop) (V : Loc → (Val → Mem → Prop) → Mem → Prop) (x : Val) (Q' : List Val → Mem → Prop) (m' : Mem) : Prop :=
  bindT t x loc (fun l => B l (ifQ (fun m2 => V l (fun y m3 => Q' [y] m3) m2) (fun m2 => Q' [] m2)) m')
mutual
noncomputable def wpE (C : CallT) (G : String → Option Val) (X : Nat → Mem → Prop) : Ex → Loc → (Val → Mem → Prop) → Mem → Prop
  | .nm i, loc, Q, m => ∃ v, getV loc i = some v ∧ Q v m
  | .int i, _, Q, m => Q (.int i) m
  | .bool b, _, Q, m => Q (.bool b) m
  | .none, _, Q, m => Q .none m
  | .glob x, _, Q, m => ∃ v, G x = some v ∧ Q v m
  | .bin op a b, loc, Q, m => wpE C G X a loc (fun x m1 => wpE C G X b loc (fun y m2 => wpBin op x y Q m2) m1) m
  | .not a, loc, Q, m => wpE C G X a loc (asB fun b m1 => Q (.bool !b) m1) m
  | .neg a, loc, Q, m => wpE C G X a loc (fun x m1 => ∃ i, x = .int i ∧ Q (.int (-i)) m1) m
  | .boolop k es, loc, Q, m => wpBs C G X k es loc (fun b m1 => Q (.bool b) m1) m
  | .cmp op a b, loc, Q, m => wpE C G X a loc (fun x m1 => wpE C G X b loc (fun y m2 => wpCmp op x y (fun r m3 => Q (.bool r) m3) m2) m1) m
  | .cmp2 o1 o2 a b c, loc, Q, m => wpE C G X a loc (fun x m1 => wpE C G X b loc (fun y m2 => wpCmp o1 x y (ifQ (fun m3 => wpE C G X c loc (fun z m4 => wpCmp o2 y z (fun r' m5 => Q (.bool r') m5) m4) m3) (fun m3 => Q (.bool false) m3)) m2) m1) m
  | .isc p a c, loc, Q, m => wpE C G X a loc (fun x m1 => Q (.bool (isLit c x == p)) m1) m
  | .call f args, loc, Q, m => wpL C G X args loc (fun vs m1 => C f vs Q X m1) m
  | .b1 b a, loc, Q, m => wpE C G X a loc (fun x m1 => wpB1 b x Q m1) m
  | .isinst a c, loc, Q, m => wpE C G X a loc (fun x m1 => ∃ b, isA m1 x c = some b ∧ Q (.bool b) m1) m
  | .append o e, loc, Q, m => wpE C G X o loc (fun x m1 => isL m1 x ∧ wpE C G X e loc (fun y m2 => appQ Q x y m2) m1) m
  | .extend o e, loc, Q, m => wpE C G X o loc (fun x m1 => isL m1 x ∧ wpE C G X e loc (fun y m2 => extQ Q x y m2) m1) m
  | .pop o i, loc, Q, m => wpE C G X o loc (fun x m1 => isL m1 x ∧ wpL C G X i loc (fun ks m2 => popQ Q x ks m2) m1) m
  | .index o e, loc, Q, m => wpE C G X o loc (fun x m1 => isL m1 x ∧ wpE C G X e loc (fun y m2 => idxQ Q x y m2) m1) m
  | .sub a i, loc, Q, m => wpE C G X a loc (fun x m1 => wpE C G X i loc (fun y m2 => subW x y Q m2) m1) m
  | .slice up a i, loc, Q, m => wpE C G X a loc (fun x m1 => wpE C G X i loc (fun y m2 => slQ up x y Q m2) m1) m
  | .mm mx a b, loc, Q, m => wpE C G X a loc (fun x m1 => wpE C G X b loc (fun y m2 => mmQ mx x y Q m2) m1) m
  | .lst es, loc, Q, m => wpL C G X es loc (fun vs m1 => freshL m1 vs Q) m
  | .tup es, loc, Q, m => wpL C G X es loc (fun vs m1 => vs.length < lid ∧ Q (.tup vs) m1) m
  | .comp elt t k src cond, loc, Q, m => wpE C G X src loc (fun v m1 => itemsW k v (fun xs =>
      compLoop (compF t loc (fun l P m => wpBs C G X true cond l P m) (fun l P m => wpE C G X elt l P m)) (stands k v m1) xs [] (fun ys m' => freshL m' ys Q) m1) m1) m
  | .str x, _, Q, m => Q (.str (Str.ofString x)) m
noncomputable def wpBs (C : CallT) (G : String → Option Val) (X : Nat → Mem → Prop) (isAnd : Bool) : Exs → Loc → (Bool → Mem → Prop) → Mem → Prop
  | .nil, _, Q, m => Q isAnd m
  | .cons e es, loc, Q, m => wpE C G X e loc (asB (bsQ isAnd (wpBs C G X isAnd es loc Q) Q)) m
noncomputable def wpL (C : CallT) (G : String → Option Val) (X : Nat → Mem → Prop) : Exs → Loc → (List Val → Mem → Prop) → Mem → Prop
  | .nil, _, Q, m => Q [] m
  | .cons e es, loc, Q, m => wpE C G X e loc (fun v m1 => wpL C G X es loc (fun vs m2 => Q (v :: vs) m2) m1) m
end

noncomputable def plainV : Val → Prop
  | .none => True
  | .bool _ => True
  | .int _ => True
  | _ => False

noncomputable def bodyF (t : Tg) (B : (Flow → Loc → Mem → Prop) → Loc → Mem → Prop) (x : Val) (Q' : Flow → Loc → Mem → Prop) (l' : Loc) (m' : Mem) : Prop := bindT t x l' (fun l => B Q' l m')
noncomputable def seqQ (W : Loc → Mem → Prop) (R : Flow → Loc → Mem → Prop) (fl : Flow) (l : Loc) (m : Mem) : Prop := match fl with
  | .next => W l m
  | .brk => R .brk l m
  | .cont => R .cont l m
  | .ret v => R (.ret v) l m
noncomputable def retQ (Q : Val → Mem → Prop) (fl : Flow) (_ : Loc) (m : Mem) : Prop := match fl with
  | .ret v => Q v m
  | .next => Q .none m
  | .brk => False
  | .cont => False

mutual
noncomputable def wpS (C : CallT) (G : String → Option Val) : St → (Flow → Loc → Mem → Prop) → (Nat → Loc → Mem → Prop) → Loc → Mem → Prop
  | .expr e, Q, X, loc, m => wpE C G noX e loc (fun v m1 => plainV v ∧ Q .next loc m1) m
  | .ret e, Q, X, loc, m => wpE C G noX e loc (fun v m1 => Q (.ret v) loc m1) m
  | .asg i e, Q, X, loc, m => wpE C G noX e loc (fun v m1 => Q .next (setV loc i v) m1) m
  | .asgSub o i e, Q, X, loc, m => wpE C G noX e loc (fun v m1 => wpE C G noX o loc (fun x m2 => wpE C G noX i loc (fun y m3 => setQ x y v (fun m4 => Q .next loc m4) m3) m2) m1) m
  | .ifs c t e, Q, X, loc, m => wpE C G noX c loc (asB (ifQ (wpSs C G t Q X loc) (wpSs C G e Q X loc))) m
  | .fors t k src b, Q, X, loc, m => wpE C G noX src loc (fun v m1 => itemsW k v (fun xs =>
      forLoop (bodyF t (fun Q' l m' => wpSs C G b Q' noY l m')) (stands k v m1) xs Q loc m1) m1) m
  | .whiles c b, Q, X, loc, m => ∃ n, whileLoop (fun Q' l' m' => wpE C G noX c l' (asB Q') m') (fun Q' l' m' => wpSs C G b Q' noY l' m') n Q loc m
  | .raise c _, _, X, loc, m => X c.code loc m
noncomputable def wpSs (C : CallT) (G : String → Option Val) : Sts → (Flow → Loc → Mem → Prop) → (Nat → Loc → Mem → Prop) → Loc → Mem → Prop
  | .nil, Q, _, loc, m => Q .next loc m
  | .cons s ss, Q, X, loc, m => wpS C G s (seqQ (fun l m1 => wpSs C G ss Q X l m1) Q) X loc m
end

structure Fn where
  name : String
  np : Nat
  vars : List String
  body : Sts

noncomputable def loc0 (vs : List Val) (n : Nat) : Loc := vs.map some ++ List.replicate n Option.none

noncomputable def callN (FT : Nat → Option Fn) (G : String → Option Val) : Nat → CallT
  | 0 => fun _ _ _ _ _ => False
  | n + 1 => fun f vs Q X m => ∃ fn, FT f = some fn ∧ vs.length = fn.np ∧ wpSs (callN FT G n) G fn.body (retQ Q) (fun c _ m' => X c m') (loc0 vs (fn.vars.length - fn.np)) m

end TD

namespace TD
open PySem (Str Addr)

theorem asB_mono {P P' : Bool → Mem → Prop} (k : ∀ b m, P b m → P' b m) {v : Val} {m : Mem} (h : asB P v m) : asB P' v m := by
  obtain ⟨b, e, p⟩ := h; exact Exists.intro b ⟨e, k _ _ p⟩
theorem gv_set {loc : Loc} {i : Nat} {x : Val} (h : i < loc.length) : getV (setV loc i x) i = some x := by
  induction loc generalizing i with
  | nil => cases h
  | cons y r ih => cases i with
    | zero => rfl
    | succ i => exact ih (Nat.lt_of_succ_lt_succ h)
theorem sv_set {loc : Loc} {i : Nat} {x y : Val} : setV (setV loc i x) i y = setV loc i y := by
  induction loc generalizing i with
  | nil => rfl
  | cons z r ih => cases i with
    | zero => rfl
    | succ i => exact congrArg (z :: ·) ih
section steps
variable {C : CallT} {G : String → Option Val} {X : Nat → Mem → Prop} {Y : Nat → Loc → Mem → Prop} {loc : Loc} {Q : Val → Mem → Prop} {m : Mem} {R : Flow → Loc → Mem → Prop}

theorem call_eq {FT : Nat → Option Fn} {n f : Nat} {fn : Fn} {vs : List Val} (hf : FT f = some fn) (hn : vs.length = fn.np)
    (h : wpSs (callN FT G n) G fn.body (retQ Q) (fun c _ m' => X c m') (loc0 vs (fn.vars.length - fn.np)) m) : callN FT G (n + 1) f vs Q X m := ⟨fn, hf, hn, h⟩

theorem e_nm {i : Nat} {v : Val} (hv : getV loc i = some v) (h : Q v m) : wpE C G X (.nm i) loc Q m := Exists.intro v ⟨hv, h⟩
theorem e_bin {op : Bop} {a b : Ex} (h : wpE C G X a loc (fun x m1 => wpE C G X b loc (fun y m2 => wpBin op x y Q m2) m1) m) : wpE C G X (.bin op a b) loc Q m := h
theorem e_not {a : Ex} (h : wpE C G X a loc (asB fun b m1 => Q (.bool !b) m1) m) : wpE C G X (.not a) loc Q m := h
theorem asB_ {P : Bool → Mem → Prop} {b : Bool} (h : P b m) : asB P (.bool b) m := Exists.intro b ⟨rfl, h⟩
theorem e_negI {i : Int} (h : Q (.int (-i)) m) : wpE C G X (.neg (.int i)) loc Q m := Exists.intro i ⟨rfl, h⟩
theorem e_boolop {k : Bool} {es : Exs} (h : wpBs C G X k es loc (fun b m1 => Q (.bool b) m1) m) : wpE C G X (.boolop k es) loc Q m := h
theorem bs_cons {k : Bool} {e : Ex} {es : Exs} {P : Bool → Mem → Prop} (h : wpE C G X e loc (asB (bsQ k (wpBs C G X k es loc P) P)) m) : wpBs C G X k (.cons e es) loc P m := h
theorem bsQ_nil {k b : Bool} {P : Bool → Mem → Prop} (h : P b m) : bsQ k (wpBs C G X k .nil loc P) P b m := And.intro (fun e => e ▸ h) fun _ => h
theorem bsQ_and_true {W : Mem → Prop} {P : Bool → Mem → Prop} (h : W m) : bsQ true W P true m := And.intro (fun _ => h) fun e => Bool.noConfusion e
theorem bsQ_and_false {W : Mem → Prop} {P : Bool → Mem → Prop} (h : P false m) : bsQ true W P false m := And.intro (fun e => Bool.noConfusion e) fun _ => h
theorem bsQ_or_false {W : Mem → Prop} {P : Bool → Mem → Prop} (h : W m) : bsQ false W P false m := And.intro (fun _ => h) fun e => Bool.noConfusion e
theorem bsQ_or_true {W : Mem → Prop} {P : Bool → Mem → Prop} (h : P true m) : bsQ false W P true m := And.intro (fun e => Bool.noConfusion e) fun _ => h
theorem bsQ_dec {k : Bool} {W : Mem → Prop} {P : Bool → Mem → Prop} {b : Bool} (h1 : b = k → W m) (h2 : b = !k → P b m) : bsQ k W P b m := And.intro h1 h2
theorem e_cmp {op : Cop} {a b : Ex} (h : wpE C G X a loc (fun x m1 => wpE C G X b loc (fun y m2 => wpCmp op x y (fun r m3 => Q (.bool r) m3) m2) m1) m) : wpE C G X (.cmp op a b) loc Q m := h
theorem e_cmp2 {o1 o2 : Cop} {a b c : Ex} (h : wpE C G X a loc (fun x m1 => wpE C G X b loc (fun y m2 => wpCmp o1 x y (ifQ (fun m3 => wpE C G X c loc (fun z m4 => wpCmp o2 y z (fun r' m5 => Q (.bool r') m5) m4) m3) (fun m3 => Q (.bool false) m3)) m2) m1) m) : wpE C G X (.cmp2 o1 o2 a b c) loc Q m := h
theorem e_isN {p : Bool} {a : Ex} {c : Option Bool} (h : wpE C G X a loc (fun x m1 => Q (.bool (isLit c x == p)) m1) m) : wpE C G X (.isc p a c) loc Q m := h
theorem e_call {f : Nat} {args : Exs} (h : wpL C G X args loc (fun vs m1 => C f vs Q X m1) m) : wpE C G X (.call f args) loc Q m := h
theorem l_nil {P : List Val → Mem → Prop} (h : P [] m) : wpL C G X .nil loc P m := h
theorem l_cons {e : Ex} {es : Exs} {P : List Val → Mem → Prop} (h : wpE C G X e loc (fun v m1 => wpL C G X es loc (fun vs m2 => P (v :: vs) m2) m1) m) : wpL C G X (.cons e es) loc P m := h
theorem e_b1 {b : B1} {a : Ex} (h : wpE C G X a loc (fun x m1 => wpB1 b x Q m1) m) : wpE C G X (.b1 b a) loc Q m := h
noncomputable def optQ (Q : Val → Mem → Prop) (m : Mem) (o : Option Bool) : Prop := ∃ b, o = some b ∧ Q (.bool b) m
theorem e_isinst {a : Ex} {c : Cls} (h : wpE C G X a loc (fun x m1 => optQ Q m1 (isA m1 x c)) m) : wpE C G X (.isinst a c) loc Q m := h
theorem optQ_ {o : Option Bool} {b : Bool} (e : o = some b) (h : Q (.bool b) m) : optQ Q m o := Exists.intro b ⟨e, h⟩
theorem e_append {o e : Ex} (h : wpE C G X o loc (fun x m1 => isL m1 x ∧ wpE C G X e loc (fun y m2 => appQ Q x y m2) m1) m) : wpE C G X (.append o e) loc Q m := h
theorem isL_ {P : Prop} {a : Addr} {xs : List Val} (e : m a = some (.list xs)) (h : P) : isL m (.ref a) ∧ P := ⟨⟨a, xs, rfl, e⟩, h⟩
theorem appQ_ {a : Addr} {y : Val} {xs : List Val} (e : m a = some (.list xs)) (hl : xs.length < lid) (h : Q .none (m.set a (.list (xs ++ [y])))) : appQ Q (.ref a) y m := ⟨a, xs, rfl, e, hl, h⟩
theorem e_extend {o e : Ex} (h : wpE C G X o loc (fun x m1 => isL m1 x ∧ wpE C G X e loc (fun y m2 => extQ Q x y m2) m1) m) : wpE C G X (.extend o e) loc Q m := h
theorem extQ_ {a b : Addr} {xs ys : List Val} (hn : b ≠ a) (e : m a = some (.list xs)) (e' : m b = some (.list ys)) (hl : xs.length + ys.length < lid) (h : Q .none (m.set a (.list (xs ++ ys)))) : extQ Q (.ref a) (.ref b) m := ⟨a, b, xs, ys, rfl, rfl, hn, e, e', hl, h⟩
theorem e_pop {o : Ex} {i : Exs} (h : wpE C G X o loc (fun x m1 => isL m1 x ∧ wpL C G X i loc (fun ks m2 => popQ Q x ks m2) m1) m) : wpE C G X (.pop o i) loc Q m := h
theorem popQ_at {a : Addr} {xs : List Val} {k : Int} {j : Nat} {y : Val} (e : m a = some (.list xs)) (hl : xs.length < lid) (hp : place k xs.length = some j) (hy : xs[j]? = some y)
    (h : Q y (m.set a (.list (xs.eraseIdx j)))) : popQ Q (.ref a) [.int k] m := ⟨a, xs, k, j, y, rfl, e, hl, .inr rfl, hp, hy, h⟩
theorem popQ_last {a : Addr} {xs : List Val} {j : Nat} {y : Val} (e : m a = some (.list xs)) (hl : xs.length < lid) (hp : place (-1) xs.length = some j) (hy : xs[j]? = some y)
    (h : Q y (m.set a (.list (xs.eraseIdx j)))) : popQ Q (.ref a) [] m := ⟨a, xs, -1, j, y, rfl, e, hl, .inl ⟨rfl, rfl⟩, hp, hy, h⟩
theorem e_index {o e : Ex} (h : wpE C G X o loc (fun x m1 => isL m1 x ∧ wpE C G X e loc (fun y m2 => idxQ Q x y m2) m1) m) : wpE C G X (.index o e) loc Q m := h
theorem idxQ_ {a : Addr} {is : List Int} {i : Int} (e : m a = some (.list (is.map .int))) (hi : i ∈ is) (hl : is.length < lid) (h : Q (.int (is.idxOf i : Nat)) m) : idxQ Q (.ref a) (.int i) m := ⟨a, is, i, rfl, e, rfl, hi, hl, h⟩
theorem e_sub {a i : Ex} (h : wpE C G X a loc (fun x m1 => wpE C G X i loc (fun y m2 => subW x y Q m2) m1) m) : wpE C G X (.sub a i) loc Q m := h
theorem subW_ {v : Val} {k : Int} {xs : List Val} {j : Nat} {x : Val} (e : seq m v = some xs) (hp : place k xs.length = some j) (hx : xs[j]? = some x) (hl : xs.length < lid) (h : Q x m) : subW v (.int k) Q m := ⟨k, xs, j, x, rfl, e, hp, hx, hl, h⟩
theorem e_slice {up : Bool} {a i : Ex} (h : wpE C G X a loc (fun x m1 => wpE C G X i loc (fun y m2 => slQ up x y Q m2) m1) m) : wpE C G X (.slice up a i) loc Q m := h
theorem slQ_ {up : Bool} {a : Addr} {xs : List Val} {k : Int} (e : m a = some (.list xs)) (hl : xs.length < lid) (h : freshL m (cutL up xs k) Q) : slQ up (.ref a) (.int k) Q m := Or.inl ⟨a, xs, k, rfl, e, rfl, hl, h⟩
theorem slQ_tup {vs : List Val} {k : Nat} (hk : k < vs.length) (hl : vs.length < lid) (h : Q (.tup (vs.take k)) m) : slQ false (.tup vs) (.int k) Q m := Or.inr ⟨vs, k, rfl, rfl, rfl, hk, hl, h⟩
theorem e_mm {mx : Bool} {a b : Ex} (h : wpE C G X a loc (fun x m1 => wpE C G X b loc (fun y m2 => mmQ mx x y Q m2) m1) m) : wpE C G X (.mm mx a b) loc Q m := h
theorem mmQ_ {mx : Bool} {a b : Int} (h : Q (.int (mmV mx a b)) m) : mmQ mx (.int a) (.int b) Q m := ⟨a, b, rfl, rfl, h⟩
theorem e_lst {es : Exs} (h : wpL C G X es loc (fun vs m1 => freshL m1 vs Q) m) : wpE C G X (.lst es) loc Q m := h
theorem e_tup {es : Exs} (h : wpL C G X es loc (fun vs m1 => vs.length < lid ∧ Q (.tup vs) m1) m) : wpE C G X (.tup es) loc Q m := h
theorem freshL_ {xs : List Val} (hl : xs.length < lid) (h : ∀ a, m a = none → Q (.ref a) (m.set a (.list xs))) : freshL m xs Q := ⟨hl, h⟩
theorem bin_add {x y : Int} (h : Q (.int (x + y)) m) : wpBin .add (.int x) (.int y) Q m := Or.inl ⟨x, y, rfl, rfl, h⟩
theorem bin_sub {x y : Int} (h : Q (.int (x - y)) m) : wpBin .sub (.int x) (.int y) Q m := Exists.intro x ⟨y, rfl, rfl, h⟩
theorem bin_mul {x y : Int} (hs : small x ∨ small y) (h : Q (.int (x * y)) m) : wpBin .mul (.int x) (.int y) Q m := ⟨x, y, rfl, rfl, hs, h⟩
theorem bin_fdiv {x y : Int} (hy : y ≠ 0 ∧ tiny y) (h : Q (.int (x.fdiv y)) m) : wpBin .fdiv (.int x) (.int y) Q m := Exists.intro x ⟨y, rfl, rfl, hy, h⟩
theorem bin_mod {x y : Int} (hy : y ≠ 0 ∧ tiny y) (h : Q (.int (x.fmod y)) m) : wpBin .mod (.int x) (.int y) Q m := Exists.intro x ⟨y, rfl, rfl, hy, h⟩
theorem bin_addL {x y : Addr} {xs ys : List Val} (hx : lst m (.ref x) = some xs) (hy : lst m (.ref y) = some ys) (h : freshL m (xs ++ ys) Q) : wpBin .add (.ref x) (.ref y) Q m := Or.inr (⟨x, y, xs, ys, rfl, rfl, hx, hy, h⟩)
theorem cmp_lt {x y : Int} {P : Bool → Mem → Prop} (h : P (decide (x < y)) m) : wpCmp .lt (.int x) (.int y) P m := Exists.intro x ⟨y, rfl, rfl, h⟩
theorem cmp_le {x y : Int} {P : Bool → Mem → Prop} (h : P (decide (x ≤ y)) m) : wpCmp .le (.int x) (.int y) P m := Exists.intro x ⟨y, rfl, rfl, h⟩
theorem cmp_gt {x y : Int} {P : Bool → Mem → Prop} (h : P (decide (x > y)) m) : wpCmp .gt (.int x) (.int y) P m := Exists.intro x ⟨y, rfl, rfl, h⟩
theorem cmp_eqI {x y : Int} {P : Bool → Mem → Prop} (h : P (decide (x = y)) m) : wpCmp .eq (.int x) (.int y) P m := Or.inr (⟨.int x, .int y, rfl, rfl, rfl, rfl, h⟩)
theorem cmp_neI {x y : Int} {P : Bool → Mem → Prop} (h : P (decide (x ≠ y)) m) : wpCmp .ne (.int x) (.int y) P m :=
  Or.inr (⟨.int x, .int y, rfl, rfl, rfl, rfl, by show P (!(x == y)) m; rw [show (!(x == y)) = decide (x ≠ y) by by_cases q : x = y <;> simp [q]]; exact h⟩)
theorem b1_len {v : Val} {xs : List Val} (e : seq m v = some xs) (hl : xs.length < lid) (h : Q (.int xs.length) m) : wpB1 .len v Q m := Exists.intro xs ⟨e, hl, h⟩
theorem b1_all {v : Val} {bs : List Bool} (e : lst m v = some (bs.map .bool)) (h : Q (.bool (bs.all id)) m) : wpB1 .all v Q m := Exists.intro bs ⟨e, h⟩
theorem b1_sum {v : Val} {is : List Int} (e : lst m v = some (is.map .int)) (hs : ∀ i ∈ is, small i) (hl : is.length < lid) (h : Q (.int is.sum) m) : wpB1 .sum v Q m := Exists.intro is ⟨e, hs, hl, h⟩
theorem b1_list {v : Val} {xs : List Val} (e : seq m v = some xs) (h : freshL m xs Q) : wpB1 .list v Q m := Exists.intro xs ⟨e, h⟩
theorem b1_lrange {n : Int} (hl : 0 ≤ n ∧ n < lid) (h : freshL m (rangeV n) Q) : wpB1 .lrange (.int n) Q m := Exists.intro n ⟨rfl, hl, h⟩
theorem b1_lrev {a : Addr} {xs : List Val} (e : m a = some (.list xs)) (hl : xs.length < lid) (h : freshL m xs.reverse Q) : wpB1 .lrev (.ref a) Q m := Exists.intro a ⟨xs, rfl, e, hl, h⟩
theorem b1_int {b : Bool} (h : Q (.int (if b then 1 else 0)) m) : wpB1 .int (.bool b) Q m := Exists.intro b ⟨rfl, h⟩
theorem b1_lenset {v : Val} {is : List Int} (e : lst m v = some (is.map .int)) (hl : is.length < 1000) (h : ∀ k : Nat, k ≤ is.length → (k = is.length ↔ is.Nodup) → Q (.int k) m) : wpB1 .lenset v Q m := Exists.intro is ⟨e, hl, h⟩

theorem s_nil (h : R .next loc m) : wpSs C G .nil R Y loc m := h
theorem s_cons {s : St} {ss : Sts} (h : wpS C G s (seqQ (fun l m1 => wpSs C G ss R Y l m1) R) Y loc m) : wpSs C G (.cons s ss) R Y loc m := h
theorem seqQ_next {W : Loc → Mem → Prop} (h : W loc m) : seqQ W R .next loc m := h
theorem seqQ_ret {W : Loc → Mem → Prop} {v : Val} (h : R (.ret v) loc m) : seqQ W R (.ret v) loc m := h
theorem retQ_ret {v : Val} (h : Q v m) : retQ Q (.ret v) loc m := h
theorem retQ_next (h : Q .none m) : retQ Q .next loc m := h
theorem s_expr {e : Ex} (h : wpE C G noX e loc (fun v m1 => plainV v ∧ R .next loc m1) m) : wpS C G (.expr e) R Y loc m := h
theorem s_ret {e : Ex} (h : wpE C G noX e loc (fun v m1 => R (.ret v) loc m1) m) : wpS C G (.ret e) R Y loc m := h
theorem s_asg {i : Nat} {e : Ex} (h : wpE C G noX e loc (fun v m1 => R .next (setV loc i v) m1) m) : wpS C G (.asg i e) R Y loc m := h
theorem s_asgSub {o i e : Ex} (h : wpE C G noX e loc (fun v m1 => wpE C G noX o loc (fun x m2 => wpE C G noX i loc (fun y m3 => setQ x y v (fun m4 => R .next loc m4) m3) m2) m1) m) : wpS C G (.asgSub o i e) R Y loc m := h
theorem setQ_ {a : Addr} {k : Int} {v : Val} {xs : List Val} {K : Mem → Prop} (e : m a = some (.list xs)) (hl : xs.length < lid) (h0 : 0 ≤ k) (hk : k.toNat < xs.length) (h : K (m.set a (.list (xs.set k.toNat v)))) : setQ (.ref a) (.int k) v K m := ⟨a, k, xs, rfl, rfl, e, hl, ⟨h0, hk⟩, h⟩
theorem s_ifs {c : Ex} {t e : Sts} (h : wpE C G noX c loc (asB (ifQ (wpSs C G t R Y loc) (wpSs C G e R Y loc))) m) : wpS C G (.ifs c t e) R Y loc m := h
theorem ifQ_true {T E : Mem → Prop} (h : T m) : ifQ T E true m := And.intro (fun _ => h) fun e => Bool.noConfusion e
theorem ifQ_false {T E : Mem → Prop} (h : E m) : ifQ T E false m := And.intro (fun e => Bool.noConfusion e) fun _ => h
theorem ifQ_dec {T E : Mem → Prop} {b : Bool} (h1 : b = true → T m) (h2 : b = false → E m) : ifQ T E b m := And.intro h1 h2
theorem cmp_neS {x y : Str} {P : Bool → Mem → Prop} (h : P (!(x == y)) m) : wpCmp .ne (.str x) (.str y) P m := Or.inl ⟨x, y, rfl, rfl, h⟩
theorem plain_none {P : Prop} (h : P) : plainV .none ∧ P := ⟨trivial, h⟩

theorem s_fors {t : Tg} {k : ItK} {src : Ex} {b : Sts} (h : wpE C G noX src loc (fun v m1 => itemsW k v (fun xs => forLoop (bodyF t (fun Q' l m' => wpSs C G b Q' noY l m')) (stands k v m1) xs R loc m1) m1) m) : wpS C G (.fors t k src b) R Y loc m := h
theorem items_list {v : Val} {xs : List Val} {P : List Val → Prop} (e : seq m v = some xs) (hl : xs.length < lid) (h : P xs) : itemsW .plain v P m := Exists.intro xs ⟨e, hl, h⟩
theorem items_range {n : Int} {P : List Val → Prop} (hl : 0 ≤ n ∧ n < lid) (h : P (rangeV n)) : itemsW .range (.int n) P m := Exists.intro n ⟨rfl, hl, h⟩
theorem loopQ_next {I : Loc → Mem → Prop} (h : I loc m) : loopQ R I .next loc m := h
theorem loopQ_ret {I : Loc → Mem → Prop} {v : Val} (h : R (.ret v) loc m) : loopQ R I (.ret v) loc m := h

theorem for_inv {f : Val → (Flow → Loc → Mem → Prop) → Loc → Mem → Prop} {ok : Mem → Prop} {xs : List Val} (I : Nat → Loc → Mem → Prop) (h0 : I 0 loc m)
    (step : ∀ i x l m, xs[i]? = some x → I i l m → ∀ P : Loc → Mem → Prop, (∀ l' m', ok m' ∧ I (i + 1) l' m' → P l' m') → f x (loopQ R P) l m)
    (done : ∀ l m, I xs.length l m → R .next l m) : forLoop f ok xs R loc m := by
  induction xs generalizing I loc m with
  | nil => exact done _ _ h0
  | cons y r ih => exact step 0 y _ _ rfl h0 _ fun l' m' q => ⟨q.1, ih (fun i => I (i + 1)) q.2 (fun i x l m e hI => step (i + 1) x l m e hI) done⟩
end steps

end TD

namespace TD
open PySem PyProof.Rows

structure Cx where
  prog : Program
  w : World
  base : Heap
  mg : Str → Option Value
  mb : Str → Option Value
  gens : Array GenState
  os : OsState

mutual
noncomputable def VRel (W : Cx) (h : Heap) : Val → Value → Prop
  | .none, v => v = .none
  | .bool b, v => v = .bool b
  | .int i, v => ∃ t, v = .int i t
  | .tup vs, v => ∃ a xs, v = .ref a ∧ IsTup h a (List.toArray xs) ∧ VRels W h vs xs
  | .ref a, v => v = .ref a
  | .frz vs, v => ∃ a xs, v = .ref a ∧ W.base.IsList a (List.toArray xs) ∧ VRels W h vs xs
  | .str x, v => ∃ t, v = .str x t
noncomputable def VRels (W : Cx) (h : Heap) : List Val → List Value → Prop
  | [], xs => xs = []
  | v :: vs, xs => ∃ y ys, xs = y :: ys ∧ VRel W h v y ∧ VRels W h vs ys
end

noncomputable def Fixed (o : Obj) : Prop := o.cls = .type "tuple" ∧ ∃ xs n, o.data = .seq xs n
noncomputable def NsObj (o : Obj) (m : Str → Option Value) : Prop := ∃ es ep, o.data = .dict es ep ∧ StrKeys es ∧ ∀ name, nsFind es name = m name
noncomputable def Alike (o o' : Obj) : Prop := o' = o ∨ ((∃ m, NsObj o m) ∧ ∀ m, NsObj o m → NsObj o' m)
theorem Alike.refl (o : Obj) : Alike o o := .inl rfl
theorem Alike.trans {a b c : Obj} (x : Alike a b) (y : Alike b c) : Alike a c := by
  rcases x with rfl | ⟨hx, kx⟩
  · exact y
  · rcases y with rfl | ⟨_, ky⟩
    · exact .inr ⟨hx, kx⟩
    · exact .inr ⟨hx, fun m q => ky m (kx m q)⟩
theorem Alike.ns {a b : Obj} {m : Str → Option Value} (x : Alike a b) (h : NsObj a m) : NsObj b m := by
  rcases x with rfl | ⟨_, k⟩
  · exact h
  · exact k m h
theorem Alike.eq {a b : Obj} (x : Alike a b) (h : ∀ es ep, a.data ≠ .dict es ep) : b = a := by
  rcases x with rfl | ⟨⟨m, es, ep, hd, _⟩, _⟩
  · rfl
  · exact absurd hd (h es ep)
noncomputable def KeepF (h h' : Heap) : Prop := ∀ b o, h.get? b = some o → Fixed o → h'.get? b = some o

mutual
theorem VRel.keep {W : Cx} {h h' : Heap} (k : KeepF h h') : ∀ {v : Val} {x : Value}, VRel W h v x → VRel W h' v x
  | .none, _, e => e
  | .bool _, _, e => e
  | .int _, _, e => e
  | .ref _, _, e => e
  | .tup vs, _, ⟨a, xs, e, ⟨o, ho, hc, n, hd⟩, r⟩ => by
      exact ⟨a, xs, e, ⟨_, k a o ho ⟨hc, _, n, hd⟩, hc, n, hd⟩, VRels.keep k r⟩
  | .frz vs, _, ⟨a, xs, e, hl, r⟩ => ⟨a, xs, e, hl, VRels.keep k r⟩
  | .str _, _, e => e
theorem VRels.keep {W : Cx} {h h' : Heap} (k : KeepF h h') : ∀ {vs : List Val} {xs : List Value}, VRels W h vs xs → VRels W h' vs xs
  | [], _, e => e
  | _ :: _, _, ⟨y, ys, e, a, b⟩ => ⟨y, ys, e, VRel.keep k a, VRels.keep k b⟩
end

noncomputable def ORel (W : Cx) (h : Heap) (a : Addr) : AObj → Prop
  | .list xs => ∃ vs, h.PlainList a (List.toArray vs) ∧ VRels W h xs vs
theorem ORel.at {W : Cx} {h h' : Heap} {a : Addr} {o : AObj} (r : ORel W h a o) (k : ∀ x, h.get? a = some x → h'.get? a = some x) (kf : KeepF h h') : ORel W h' a o := by
  cases o with
  | list xs => obtain ⟨vs, ⟨n, hn⟩, q⟩ := r; exact ⟨vs, ⟨n, k _ hn⟩, q.keep kf⟩

noncomputable def MemRel (W : Cx) (mem : Mem) (h : Heap) : Prop := ∀ a o, mem a = some o → ORel W h a o ∧ W.base.get? a = none

structure MRel (W : Cx) (mem : Mem) (s : Shared) : Prop where
  stays : W.base.StaysIn s.heap
  mems : MemRel W mem s.heap
  gens : s.gens = W.gens
  os : s.os = W.os

structure Step (D : Addr → Prop) (mem : Mem) (h : Heap) (mem' : Mem) (h' : Heap) : Prop where
  alive : ∀ b, h'.get? b = none → h.get? b = none
  keep : ∀ b o, h.get? b = some o → mem b = none → ¬ D b → ∃ o', h'.get? b = some o' ∧ Alike o o'
  grow : ∀ b, mem b = none → mem' b ≠ none → h.get? b = none

theorem Step.refl {D : Addr → Prop} {mem : Mem} {h : Heap} : Step D mem h mem h := ⟨fun _ e => e, fun _ o e _ _ => ⟨o, e, .refl o⟩, fun _ a b => absurd a b⟩
theorem Step.none' {D : Addr → Prop} {m1 m2 : Mem} {h1 h2 : Heap} (x : Step D m1 h1 m2 h2) {b : Addr} {o : Obj} (e : h1.get? b = some o) (hm : m1 b = none) : m2 b = none := by
  cases q : m2 b with
  | none => rfl
  | some o' => have := x.grow b hm (by rw [q]; simp); rw [this] at e; cases e
theorem Step.trans {D : Addr → Prop} {m1 m2 m3 : Mem} {h1 h2 h3 : Heap} (x : Step D m1 h1 m2 h2) (y : Step D m2 h2 m3 h3) : Step D m1 h1 m3 h3 where
  alive := fun b e => x.alive b (y.alive b e)
  keep := fun b o e hm hD => by
    obtain ⟨o2, e2, a2⟩ := x.keep b o e hm hD
    obtain ⟨o3, e3, a3⟩ := y.keep b _ e2 (x.none' e hm) hD
    exact ⟨o3, e3, a2.trans a3⟩
  grow := fun b hm h3' => by
    cases q : m2 b with
    | some o' => exact x.grow b hm (by rw [q]; simp)
    | none => exact x.alive b (y.grow b q h3')
theorem Step.mono {D D' : Addr → Prop} {m1 m2 : Mem} {h1 h2 : Heap} (x : Step D m1 h1 m2 h2) (k : ∀ b, D b → D' b) : Step D' m1 h1 m2 h2 :=
  ⟨x.alive, fun b o e hm hD => x.keep b o e hm fun q => hD (k b q), x.grow⟩
noncomputable abbrev NoD : Addr → Prop := fun _ => False

theorem alive_of {h h' : Heap} (k : ∀ b o, h.get? b = some o → h'.get? b = some o) (b : Addr) (e : h'.get? b = none) : h.get? b = none := by
  cases q : h.get? b with
  | none => rfl
  | some o => rw [k b o q] at e; cases e
theorem ORel.notFixed {W : Cx} {h : Heap} {b : Addr} {a : AObj} {o : Obj} (r : ORel W h b a) (e : h.get? b = some o) : ¬ Fixed o := by
  rintro ⟨hf, _⟩
  cases a with
  | list xs => obtain ⟨vs, ⟨n, hn⟩, _⟩ := r; rw [e] at hn; cases hn; simp at hf
theorem MemRel.notFixed {W : Cx} {mem : Mem} {h : Heap} (M : MemRel W mem h) {b : Addr} {o : Obj} (e : h.get? b = some o) (hf : Fixed o) : mem b = none := by
  cases q : mem b with
  | none => rfl
  | some a => exact absurd hf ((M b a q).1.notFixed e)

noncomputable def DOk (D : Addr → Prop) (h : Heap) : Prop := ∀ b o, D b → h.get? b = some o → ¬ Fixed o

theorem Fixed.notDict {o : Obj} (h : Fixed o) : ∀ es ep, o.data ≠ .dict es ep := fun es ep q => by obtain ⟨_, xs, n, hd⟩ := h; rw [hd] at q; cases q
theorem Step.keepF {W : Cx} {D : Addr → Prop} {mem mem' : Mem} {h h' : Heap} (x : Step D mem h mem' h') (M : MemRel W mem h) (hD : DOk D h) : KeepF h h' :=
  fun b o e hf => by
    obtain ⟨o', e', a⟩ := x.keep b o e (M.notFixed e hf) fun d => hD b o d e hf
    rw [e', a.eq hf.notDict]

theorem KeepF.of_keeps {h h' : Heap} (k : ∀ b o, h.get? b = some o → h'.get? b = some o) : KeepF h h' := fun b o e _ => k b o e

theorem ORel.of_keeps {W : Cx} {h h' : Heap} (k : ∀ b o, h.get? b = some o → h'.get? b = some o) {a : Addr} {o : AObj} (r : ORel W h a o) : ORel W h' a o := r.at (k a) (.of_keeps k)
theorem MemRel.of_keeps {W : Cx} {mem : Mem} {h h' : Heap} (M : MemRel W mem h) (k : ∀ b o, h.get? b = some o → h'.get? b = some o) : MemRel W mem h' :=
  fun a o e => ⟨(M a o e).1.of_keeps k, (M a o e).2⟩
theorem ORel.there {W : Cx} {h : Heap} {b : Addr} {a : AObj} (r : ORel W h b a) : ∃ o, h.get? b = some o := by
  cases a with
  | list xs => obtain ⟨vs, ⟨n, hn⟩, _⟩ := r; exact ⟨_, hn⟩

theorem MemRel.fresh {W : Cx} {mem : Mem} {h : Heap} (M : MemRel W mem h) {a : Addr} (ha : h.get? a = none) : mem a = none := by
  cases q : mem a with
  | none => rfl
  | some o => obtain ⟨o', e⟩ := (M a o q).1.there; rw [ha] at e; cases e
theorem MRel.of_keeps {W : Cx} {mem : Mem} {s s' : Shared} (M : MRel W mem s) (k : ∀ b o, s.heap.get? b = some o → s'.heap.get? b = some o) (hg : s'.gens = s.gens := by rfl) (ho : s'.os = s.os := by rfl) : MRel W mem s' :=
  ⟨fun b x e => k _ _ (M.stays b x e), M.mems.of_keeps k, hg.trans M.gens, ho.trans M.os⟩

theorem MRel.upd {W : Cx} {mem : Mem} {s s' : Shared} (M : MRel W mem s) {a : Addr} {o o₀ : AObj} (ha : mem a = some o₀) (hs : Heap.SameBut a s.heap s'.heap)
    (r : KeepF s.heap s'.heap → ORel W s'.heap a o) (hg : s'.gens = s.gens := by rfl) (ho : s'.os = s.os := by rfl) : MRel W (mem.set a o) s' := by
  have hb := (M.mems a o₀ ha)
  have kf : KeepF s.heap s'.heap := fun b x e hf => by
    by_cases hba : b = a
    · subst hba; exact absurd hf (hb.1.notFixed e)
    · rw [hs.2 b hba]; exact e
  refine ⟨fun b x e => ?_, fun b x e => ?_, hg.trans M.gens, ho.trans M.os⟩
  · by_cases hba : b = a
    · subst hba; rw [hb.2] at e; cases e
    · rw [hs.2 b hba]; exact M.stays b x e
  · unfold Mem.set at e
    split at e
    · rename_i q; subst q; cases e; exact ⟨r kf, hb.2⟩
    · rename_i q
      obtain ⟨r', n'⟩ := M.mems b x e
      exact ⟨r'.at (fun _ e => (hs.2 b q).trans e) kf, n'⟩
theorem Step.upd {D : Addr → Prop} {mem : Mem} {h h' : Heap} {a : Addr} {o o₀ : AObj} (ha : mem a = some o₀) (hs : Heap.SameBut a h h') (hl : h'.get? a ≠ none) : Step D mem h (mem.set a o) h' :=
  ⟨fun b e => by
    by_cases hb : b = a
    · subst hb; exact absurd e hl
    · rw [← hs.2 b hb]; exact e, fun b x e hm _ => ⟨x, by
    have hb : b ≠ a := by rintro rfl; rw [ha] at hm; cases hm
    rw [hs.2 b hb]; exact e, .refl x⟩, fun b hm h' => by
    unfold Mem.set at h'
    split at h'
    · rename_i hb; subst hb; rw [ha] at hm; cases hm
    · exact absurd hm h'⟩

structure EnvRel (W : Cx) (env : Env) (vis : List (Nat × Str)) (loc : Loc) (h : Heap) : Prop where
  kind : env.scope.kind = .function
  glob : env.globals = mainGlobals
  blt : env.builtins = builtinsNs
  ns : ∃ m, h.Ns env.locals m ∧ ∀ i x v, (i, x) ∈ vis → getV loc i = some v → env.kindOf x = some .local → ∃ y, m x = some y ∧ VRel W h v y
  cell : ∀ i x v k, (i, x) ∈ vis → getV loc i = some v → env.kindOf x = some k → k = .cell ∨ k = .free → ∃ c y, env.cells.lookup x = some c ∧ h.IsCell c (some y) ∧ VRel W h v y
  cellk : ∀ x k, env.kindOf x = some k → k = .cell ∨ k = .free → ∃ c, env.cells.lookup x = some c
  cells : ∀ x c, env.cells.lookup x = some c → ∃ o, h.IsCell c o
  apart : ∀ x y c, env.cells.lookup x = some c → env.cells.lookup y = some c → x = y

noncomputable def FrD (env : Env) (b : Addr) : Prop := b = env.locals ∨ ∃ x, env.cells.lookup x = some b

theorem EnvRel.there {W : Cx} {env : Env} {vis : List (Nat × Str)} {loc : Loc} {h : Heap} (R : EnvRel W env vis loc h) {b : Addr} (hb : FrD env b) : ∃ o, h.get? b = some o ∧ ((∃ es n, o.data = .dict es n) ∨ ∃ v, o.data = .cell v) := by
  rcases hb with rfl | ⟨x, hx⟩
  · obtain ⟨m, ⟨o, es, ep, e, hd, _⟩, _⟩ := R.ns
    exact ⟨o, e, .inl ⟨es, ep, hd⟩⟩
  · obtain ⟨o, o', e, hd⟩ := R.cells x b hx
    exact ⟨o', e, .inr ⟨o, hd⟩⟩
theorem EnvRel.dok {W : Cx} {env : Env} {vis : List (Nat × Str)} {loc : Loc} {h : Heap} (R : EnvRel W env vis loc h) : DOk (FrD env) h := fun b o hb e hf => by
  obtain ⟨o', e', hd⟩ := R.there hb
  rw [e] at e'; cases e'
  obtain ⟨_, xs, n, hx⟩ := hf
  rcases hd with ⟨es, n', hd⟩ | ⟨v, hd⟩ <;> rw [hx] at hd <;> cases hd
theorem DOk.none {h : Heap} : DOk NoD h := fun _ _ hb => hb.elim

theorem EnvRel.keep {W : Cx} {env : Env} {vis : List (Nat × Str)} {loc : Loc} {h h' : Heap} (R : EnvRel W env vis loc h) (k : KeepF h h')
    (kd : ∀ b o, FrD env b → h.get? b = some o → ∃ o', h'.get? b = some o' ∧ Alike o o') : EnvRel W env vis loc h' := by
  have kc : ∀ x c v, env.cells.lookup x = some c → h.IsCell c v → h'.IsCell c v := fun x c v hx ⟨o, e, hd⟩ => by
    obtain ⟨o', e', hd'⟩ := kd c o (.inr ⟨x, hx⟩) e
    rw [hd'.eq fun es ep q => by rw [hd] at q; cases q] at e'
    exact ⟨o, e', hd⟩
  refine ⟨R.kind, R.glob, R.blt, ?_, fun i x v k' h1 h2 h3 h4 => ?_, R.cellk, fun x c hx => ?_, R.apart⟩
  · obtain ⟨m, ⟨o, es, ep, e, hd, r⟩, q⟩ := R.ns
    obtain ⟨o', e', hd'⟩ := kd _ o (.inl rfl) e
    obtain ⟨es', ep', r'⟩ := hd'.ns ⟨es, ep, hd, r⟩
    exact ⟨m, ⟨o', es', ep', e', r'⟩, fun i x v h1 h2 h3 => let ⟨y, a, b⟩ := q i x v h1 h2 h3; ⟨y, a, b.keep k⟩⟩
  · obtain ⟨c, y, a, b, d⟩ := R.cell i x v k' h1 h2 h3 h4
    exact ⟨c, y, a, kc x c _ a b, d.keep k⟩
  · obtain ⟨o, ho⟩ := R.cells x c hx
    exact ⟨o, kc x c _ hx ho⟩

structure Rel (W : Cx) (env : Env) (vis : List (Nat × Str)) (loc : Loc) (mem : Mem) (s : Shared) : Prop where
  m : MRel W mem s
  e : EnvRel W env vis loc s.heap
  sep : ∀ b, FrD env b → mem b = none
  new : ∀ b, FrD env b → W.base.get? b = none

theorem Rel.step {W : Cx} {env : Env} {vis : List (Nat × Str)} {loc : Loc} {mem mem' : Mem} {s s' : Shared} (R : Rel W env vis loc mem s) (M : MRel W mem' s') (x : Step NoD mem s.heap mem' s'.heap) : Rel W env vis loc mem' s' where
  m := M
  e := R.e.keep (x.keepF R.m.mems .none) fun b o hb e => let ⟨o', e', a⟩ := x.keep b o e (R.sep b hb) id; ⟨o', e', a⟩
  sep := fun b hb => let ⟨_, e, _⟩ := R.e.there hb; x.none' e (R.sep b hb)
  new := R.new

noncomputable def below (h : Heap) (L : Addr) : Heap := ⟨(h.objs.toList.take L).toArray, h.life⟩
theorem below_get {h : Heap} {L b : Addr} (hb : b < L) : (below h L).get? b = h.get? b := by
  unfold Heap.get? below
  simp only [List.getElem?_toArray]
  rw [List.getElem?_take_of_lt hb]
  simp
theorem below_none {h : Heap} {L b : Addr} (hb : L ≤ b) : (below h L).get? b = none := by
  unfold Heap.get? below
  simp only [List.getElem?_toArray]
  have hb' : @LE.le Nat _ L b := hb
  rw [List.getElem?_eq_none (by simp only [List.length_take]; walk_at "o")]
noncomputable def others (h : Heap) (L : Addr) : List (Addr × Obj) := (List.range h.objs.size).filterMap fun b => if L < b then (h.get? b).map fun o => (b, o) else none
theorem mem_others {h : Heap} {L b : Addr} {o : Obj} : (b, o) ∈ others h L ↔ L < b ∧ h.get? b = some o := by
  unfold others
  rw [List.mem_filterMap]
  constructor
  · rintro ⟨c, hc, e⟩
    split at e
    · rename_i hl
      obtain ⟨o', ho, e'⟩ := Option.map_eq_some_iff.mp e
      cases e'; exact ⟨hl, ho⟩
    · cases e
  · rintro ⟨hl, ho⟩
    exact ⟨b, List.mem_range.mpr (Heap.lt_size ho), by rw [if_pos hl, ho]; rfl⟩
theorem fr_all {h : Heap} {L : Addr} {m : Str → Option Value} (hn : h.Ns L m) : Fr (below h L) L h m ∧ News (below h L) L h (others h L) := by
  refine ⟨⟨hn, fun b o e => ?_, ?_⟩, fun p hp => ?_⟩
  · by_cases hb : b < L
    · rw [below_get hb] at e; exact e
    · rw [below_none (Nat.le_of_not_lt hb)] at e; cases e
  · show (h.objs.toList.take L).toArray.size ≤ L
    simp only [List.size_toArray, List.length_take]; exact Nat.min_le_left _ _
  · obtain ⟨b, o⟩ := p
    obtain ⟨hl, ho⟩ := mem_others.mp hp
    exact ⟨ho, Nat.ne_of_gt hl, below_none (Nat.le_of_lt hl)⟩

structure KeepL (L : Addr) (h h' : Heap) : Prop where
  keep : ∀ b o, b ≠ L → h.get? b = some o → h'.get? b = some o
  ns : ∀ m, h.Ns L m → h'.Ns L m
theorem KeepL.of_fr {h h' : Heap} {L : Addr} {m : Str → Option Value} (hn : h.Ns L m) {news : List (Addr × Obj)} (F : Fr (below h L) L h' m) (N : News (below h L) L h' news) (hs : ∀ p ∈ others h L, p ∈ news) : KeepL L h h' where
  keep := fun b o hb e => by
    rcases Nat.lt_or_gt_of_ne hb with q | q
    · exact F.keep b o (by rw [below_get q]; exact e)
    · exact (N (b, o) (hs _ (mem_others.mpr ⟨q, e⟩))).1
  ns := fun m' hn' => by
    obtain ⟨o, es, ep, e, hd, hk, hf⟩ := hn
    obtain ⟨o', es', ep', e', hd', hk', hf'⟩ := hn'
    rw [e] at e'; cases e'; rw [hd] at hd'; cases hd'
    have : m' = m := funext fun x => (hf' x).symm.trans (hf x)
    subst this; exact F.ns
theorem KeepL.of_keeps {L : Addr} {h h' : Heap} (k : ∀ b o, h.get? b = some o → h'.get? b = some o) : KeepL L h h' := ⟨fun b o _ e => k b o e, fun _ hn => hn.keeps k⟩
theorem KeepL.alike {L : Addr} {h h' : Heap} (k : KeepL L h h') (hL : ∃ m, h.Ns L m) (b : Addr) (o : Obj) (e : h.get? b = some o) : ∃ o', h'.get? b = some o' ∧ Alike o o' := by
  by_cases hb : b = L
  · subst hb
    obtain ⟨m, hn⟩ := hL
    obtain ⟨o', es, ep, e', r⟩ := k.ns m hn
    refine ⟨o', e', .inr ⟨⟨m, ?_⟩, fun m' q => ?_⟩⟩
    · obtain ⟨o2, es2, ep2, e2, r2⟩ := hn; rw [e] at e2; cases e2; exact ⟨es2, ep2, r2⟩
    · obtain ⟨es3, ep3, r3⟩ := q
      obtain ⟨o4, es4, ep4, e4, r4⟩ := k.ns m' ⟨o, es3, ep3, e, r3⟩
      rw [e'] at e4; cases e4; exact ⟨es4, ep4, r4⟩
  · exact ⟨o, k.keep b o hb e, .refl o⟩
theorem Rel.hasNs {W : Cx} {env : Env} {vis : List (Nat × Str)} {loc : Loc} {mem : Mem} {s : Shared} (R : Rel W env vis loc mem s) : ∃ m, s.heap.Ns env.locals m := let ⟨m, h, _⟩ := R.e.ns; ⟨m, h⟩
theorem Rel.keepF {W : Cx} {env : Env} {vis : List (Nat × Str)} {loc : Loc} {mem : Mem} {s : Shared} (R : Rel W env vis loc mem s) {h' : Heap} (k : KeepL env.locals s.heap h') : KeepF s.heap h' := fun b o e hf => by
  obtain ⟨o', e', a⟩ := k.alike R.hasNs b o e
  rw [e', a.eq hf.notDict]
theorem Rel.keepM {W : Cx} {env : Env} {vis : List (Nat × Str)} {loc : Loc} {mem : Mem} {s s' : Shared} (R : Rel W env vis loc mem s) (k : KeepL env.locals s.heap s'.heap) (hg : s'.gens = s.gens := by rfl) (ho : s'.os = s.os := by rfl) : MRel W mem s' where
  stays := fun b x e => k.keep b x (by rintro rfl; rw [R.new _ (.inl rfl)] at e; cases e) (R.m.stays b x e)
  mems := fun b x e => by
    obtain ⟨r, n⟩ := R.m.mems b x e
    have hb : b ≠ env.locals := by rintro rfl; rw [R.sep _ (.inl rfl)] at e; cases e
    exact ⟨r.at (fun x e => k.keep _ _ hb e) (R.keepF k), n⟩
  gens := hg.trans R.m.gens
  os := ho.trans R.m.os
theorem Rel.keepS {W : Cx} {env : Env} {vis : List (Nat × Str)} {loc : Loc} {mem : Mem} {s : Shared} {h' : Heap} (R : Rel W env vis loc mem s) (k : KeepL env.locals s.heap h') : Step NoD mem s.heap mem h' where
  alive := fun b e => by
    cases q : s.heap.get? b with
    | none => rfl
    | some o => obtain ⟨o', e', _⟩ := k.alike R.hasNs b o q; rw [e] at e'; cases e'
  keep := fun b o e _ _ => k.alike R.hasNs b o e
  grow := fun _ a b => absurd a b
theorem Rel.allocM {W : Cx} {env : Env} {vis : List (Nat × Str)} {loc : Loc} {mem : Mem} {s s' : Shared} (R : Rel W env vis loc mem s) (k : KeepL env.locals s.heap s'.heap) {a : Addr} {o : AObj} (ha : s.heap.get? a = none)
    (r : KeepF s.heap s'.heap → ORel W s'.heap a o) (hg : s'.gens = s.gens := by rfl) (ho : s'.os = s.os := by rfl) : MRel W (mem.set a o) s' := by
  have M := R.keepM k hg ho
  refine ⟨M.stays, fun b x e => ?_, M.gens, M.os⟩
  unfold Mem.set at e
  split at e
  · rename_i hb; subst hb; cases e
    refine ⟨r (R.keepF k), ?_⟩
    cases q : W.base.get? b with
    | none => rfl
    | some y => rw [R.m.stays b y q] at ha; cases ha
  · exact M.mems b x e
theorem Rel.allocS {W : Cx} {env : Env} {vis : List (Nat × Str)} {loc : Loc} {mem : Mem} {s : Shared} {h' : Heap} (R : Rel W env vis loc mem s) (k : KeepL env.locals s.heap h') {a : Addr} {o : AObj} (ha : s.heap.get? a = none) : Step NoD mem s.heap (mem.set a o) h' := by
  have S := R.keepS k
  refine ⟨S.alive, S.keep, fun b hm h' => ?_⟩
  unfold Mem.set at h'
  split at h'
  · rename_i hb; subst hb; exact ha
  · exact absurd hm h'

end TD

namespace TD
open PySem PyProof.Rows

noncomputable def isLoc (sc : Scope) (x : Str) : Bool := match sc.names.lookup x with
  | some .local => true
  | some .cell => true
  | some .free => true
  | _ => false
noncomputable def isGlob (sc : Scope) (x : Str) : Bool := sc.names.lookup x == some .globalImplicit
noncomputable def okName (x : Str) : Bool := !(x == ("__debug__" : Str)) && !(x == ("__classdict__" : Str)) && !(x == ("" : Str))
noncomputable def gName (sc : Scope) (s : String) (x : Str) : Bool := x == Str.ofString s && isGlob sc x && okName x
noncomputable def Bop.op : Bop → Operator
  | .add => .Add
  | .sub => .Sub
  | .mul => .Mult
  | .fdiv => .FloorDiv
  | .mod => .Mod
noncomputable def Cop.op : Cop → CmpOp
  | .eq => .Eq
  | .ne => .NotEq
  | .lt => .Lt
  | .le => .LtE
  | .gt => .Gt
  | .inn => .In
  | .notin => .NotIn
noncomputable def bopIs (op : Bop) (o : Operator) : Bool := o == op.op
noncomputable def copIs (op : Cop) (o : CmpOp) : Bool := o == op.op
theorem bopIs_eq {op : Bop} {o : Operator} (h : bopIs op o = true) : o = op.op := beq_iff_eq.mp h
theorem copIs_eq {op : Cop} {o : CmpOp} (h : copIs op o = true) : o = op.op := beq_iff_eq.mp h
noncomputable def B1.call : B1 → String
  | .len => "len" | .all => "all" | .sum => "sum" | .minL => "min" | .list => "list" | .tuple => "tuple" | .sorted => "sorted" | .int => "int" | .lrange => "list" | .lrev => "list" | .lenset => "len"
noncomputable def B1.inner : B1 → Option String
  | .lrange => some "range" | .lrev => some "reversed" | .lenset => some "set" | _ => none
noncomputable def Cls.name : Cls → String
  | .int => "int" | .bool => "bool" | .list => "list" | .tuple => "tuple" | .ValueError => "ValueError" | .DealError => "DealError" | .BadTable => "BadTable" | .BadShares => "BadShares" | .BadHeir => "BadHeir" | .BadThing => "BadThing"
  | .BadRing => "BadRing" | .BadOrder => "BadOrder" | .Full => "Full" | .BadNote => "BadNote"
noncomputable def Cls.bi : Cls → String
  | .int => "int" | .bool => "bool" | .list => "list" | .tuple => "tuple" | _ => ""
noncomputable def ItK.call : ItK → Option String
  | .plain => none | .range => some "range"

noncomputable def notCall (e : Expr) : Bool := !(e.ctorIdx == 16)
noncomputable def okAt (o : Expr) (ap p : Pos) : Bool := notCall o && ap.endLine == p.line

noncomputable def vOne {α : Type} (xs : List α) (k : α → Bool) : Bool := match xs with | [x] => k x | _ => false
noncomputable def vTwo {α : Type} (xs : List α) (k : α → α → Bool) : Bool := match xs with | [x, y] => k x y | _ => false
noncomputable def vIx (a b : Nat) (k : a = b → Bool) : Bool := if h : a = b then k h else false
theorem nb {p : Prop} (h : false = true) : p := Bool.noConfusion h
theorem vIx_inv {a b : Nat} {k : a = b → Bool} (h : vIx a b k = true) : ∃ e, k e = true := by
  unfold vIx at h
  by_cases q : a = b
  · rw [dif_pos q] at h; exact ⟨q, h⟩
  · rw [dif_neg q] at h; exact nb h
noncomputable def vName (e : Expr) (k : Str → Bool) : Bool := vIx e.ctorIdx 23 fun h => Expr.Name.elim (motive_1 := fun _ => Bool) e h fun x _ => k x
theorem vName_inv {e : Expr} {k : Str → Bool} (h : vName e k = true) : ∃ x p, e = .Name x p ∧ k x = true := by
  obtain ⟨hc, h⟩ := vIx_inv h
  exact Expr.Name.elim (motive_1 := fun e => ∀ hc : e.ctorIdx = 23, (Expr.Name.elim (motive_1 := fun _ => Bool) e hc fun x _ => k x) = true → ∃ x p, e = .Name x p ∧ k x = true) e hc (fun x p _ h => ⟨x, p, rfl, h⟩) hc h
noncomputable def vConst (e : Expr) (k : Const → Bool) : Bool := vIx e.ctorIdx 19 fun h => Expr.Constant.elim (motive_1 := fun _ => Bool) e h fun c _ _ => k c
theorem vConst_inv {e : Expr} {k : Const → Bool} (h : vConst e k = true) : ∃ c n p, e = .Constant c n p ∧ k c = true := by
  obtain ⟨hc, h⟩ := vIx_inv h
  exact Expr.Constant.elim (motive_1 := fun e => ∀ hc : e.ctorIdx = 19, (Expr.Constant.elim (motive_1 := fun _ => Bool) e hc fun c _ _ => k c) = true → ∃ c n p, e = .Constant c n p ∧ k c = true) e hc (fun c n p _ h => ⟨c, n, p, rfl, h⟩) hc h
noncomputable def vBin (e : Expr) (k : Expr → Operator → Expr → Bool) : Bool := vIx e.ctorIdx 2 fun h => Expr.BinOp.elim (motive_1 := fun _ => Bool) e h fun l o r _ => k l o r
theorem vBin_inv {e : Expr} {k : Expr → Operator → Expr → Bool} (h : vBin e k = true) : ∃ l o r p, e = .BinOp l o r p ∧ k l o r = true := by
  obtain ⟨hc, h⟩ := vIx_inv h
  exact Expr.BinOp.elim (motive_1 := fun e => ∀ hc : e.ctorIdx = 2, (Expr.BinOp.elim (motive_1 := fun _ => Bool) e hc fun l o r _ => k l o r) = true → ∃ l o r p, e = .BinOp l o r p ∧ k l o r = true) e hc (fun l o r p _ h => ⟨l, o, r, p, rfl, h⟩) hc h
noncomputable def vUn (e : Expr) (k : UnaryOp → Expr → Bool) : Bool := vIx e.ctorIdx 3 fun h => Expr.UnaryOp.elim (motive_1 := fun _ => Bool) e h fun o x _ => k o x
theorem vUn_inv {e : Expr} {k : UnaryOp → Expr → Bool} (h : vUn e k = true) : ∃ o x p, e = .UnaryOp o x p ∧ k o x = true := by
  obtain ⟨hc, h⟩ := vIx_inv h
  exact Expr.UnaryOp.elim (motive_1 := fun e => ∀ hc : e.ctorIdx = 3, (Expr.UnaryOp.elim (motive_1 := fun _ => Bool) e hc fun o x _ => k o x) = true → ∃ o x p, e = .UnaryOp o x p ∧ k o x = true) e hc (fun o x p _ h => ⟨o, x, p, rfl, h⟩) hc h
noncomputable def vBoolOp (e : Expr) (k : BoolOp → (List Expr) → Bool) : Bool := vIx e.ctorIdx 0 fun h => Expr.BoolOp.elim (motive_1 := fun _ => Bool) e h fun o x _ => k o x
theorem vBoolOp_inv {e : Expr} {k : BoolOp → (List Expr) → Bool} (h : vBoolOp e k = true) : ∃ o x p, e = .BoolOp o x p ∧ k o x = true := by
  obtain ⟨hc, h⟩ := vIx_inv h
  exact Expr.BoolOp.elim (motive_1 := fun e => ∀ hc : e.ctorIdx = 0, (Expr.BoolOp.elim (motive_1 := fun _ => Bool) e hc fun o x _ => k o x) = true → ∃ o x p, e = .BoolOp o x p ∧ k o x = true) e hc (fun o x p _ h => ⟨o, x, p, rfl, h⟩) hc h
noncomputable def vCmp (e : Expr) (k : Expr → (List CmpOp) → (List Expr) → Bool) : Bool := vIx e.ctorIdx 15 fun h => Expr.Compare.elim (motive_1 := fun _ => Bool) e h fun l o r _ => k l o r
theorem vCmp_inv {e : Expr} {k : Expr → (List CmpOp) → (List Expr) → Bool} (h : vCmp e k = true) : ∃ l o r p, e = .Compare l o r p ∧ k l o r = true := by
  obtain ⟨hc, h⟩ := vIx_inv h
  exact Expr.Compare.elim (motive_1 := fun e => ∀ hc : e.ctorIdx = 15, (Expr.Compare.elim (motive_1 := fun _ => Bool) e hc fun l o r _ => k l o r) = true → ∃ l o r p, e = .Compare l o r p ∧ k l o r = true) e hc (fun l o r p _ h => ⟨l, o, r, p, rfl, h⟩) hc h
noncomputable def vCall0 (e : Expr) (k : Expr → (List Expr) → (List Keyword) → Pos → Bool) : Bool := vIx e.ctorIdx 16 fun h => Expr.Call.elim (motive_1 := fun _ => Bool) e h fun f es ks p => k f es ks p
theorem vCall0_inv {e : Expr} {k : Expr → (List Expr) → (List Keyword) → Pos → Bool} (h : vCall0 e k = true) : ∃ f es ks p, e = .Call f es ks p ∧ k f es ks p = true := by
  obtain ⟨hc, h⟩ := vIx_inv h
  exact Expr.Call.elim (motive_1 := fun e => ∀ hc : e.ctorIdx = 16, (Expr.Call.elim (motive_1 := fun _ => Bool) e hc fun f es ks p => k f es ks p) = true → ∃ f es ks p, e = .Call f es ks p ∧ k f es ks p = true) e hc (fun f es ks p _ h => ⟨f, es, ks, p, rfl, h⟩) hc h
noncomputable def vAttr (e : Expr) (k : Expr → Str → Pos → Bool) : Bool := vIx e.ctorIdx 20 fun h => Expr.Attribute.elim (motive_1 := fun _ => Bool) e h fun o n p => k o n p
theorem vAttr_inv {e : Expr} {k : Expr → Str → Pos → Bool} (h : vAttr e k = true) : ∃ o n p, e = .Attribute o n p ∧ k o n p = true := by
  obtain ⟨hc, h⟩ := vIx_inv h
  exact Expr.Attribute.elim (motive_1 := fun e => ∀ hc : e.ctorIdx = 20, (Expr.Attribute.elim (motive_1 := fun _ => Bool) e hc fun o n p => k o n p) = true → ∃ o n p, e = .Attribute o n p ∧ k o n p = true) e hc (fun o n p _ h => ⟨o, n, p, rfl, h⟩) hc h
noncomputable def vSub (e : Expr) (k : Expr → Expr → Bool) : Bool := vIx e.ctorIdx 21 fun h => Expr.Subscript.elim (motive_1 := fun _ => Bool) e h fun a i _ => k a i
theorem vSub_inv {e : Expr} {k : Expr → Expr → Bool} (h : vSub e k = true) : ∃ a i p, e = .Subscript a i p ∧ k a i = true := by
  obtain ⟨hc, h⟩ := vIx_inv h
  exact Expr.Subscript.elim (motive_1 := fun e => ∀ hc : e.ctorIdx = 21, (Expr.Subscript.elim (motive_1 := fun _ => Bool) e hc fun a i _ => k a i) = true → ∃ a i p, e = .Subscript a i p ∧ k a i = true) e hc (fun a i p _ h => ⟨a, i, p, rfl, h⟩) hc h
noncomputable def vList (e : Expr) (k : (List Expr) → Bool) : Bool := vIx e.ctorIdx 24 fun h => Expr.List.elim (motive_1 := fun _ => Bool) e h fun a _ => k a
theorem vList_inv {e : Expr} {k : (List Expr) → Bool} (h : vList e k = true) : ∃ a p, e = .List a p ∧ k a = true := by
  obtain ⟨hc, h⟩ := vIx_inv h
  exact Expr.List.elim (motive_1 := fun e => ∀ hc : e.ctorIdx = 24, (Expr.List.elim (motive_1 := fun _ => Bool) e hc fun a _ => k a) = true → ∃ a p, e = .List a p ∧ k a = true) e hc (fun a p _ h => ⟨a, p, rfl, h⟩) hc h
noncomputable def vTup (e : Expr) (k : (List Expr) → Bool) : Bool := vIx e.ctorIdx 25 fun h => Expr.Tuple.elim (motive_1 := fun _ => Bool) e h fun a _ _ => k a
theorem vTup_inv {e : Expr} {k : (List Expr) → Bool} (h : vTup e k = true) : ∃ a n p, e = .Tuple a n p ∧ k a = true := by
  obtain ⟨hc, h⟩ := vIx_inv h
  exact Expr.Tuple.elim (motive_1 := fun e => ∀ hc : e.ctorIdx = 25, (Expr.Tuple.elim (motive_1 := fun _ => Bool) e hc fun a _ _ => k a) = true → ∃ a n p, e = .Tuple a n p ∧ k a = true) e hc (fun a n p _ h => ⟨a, n, p, rfl, h⟩) hc h
noncomputable def vLC (e : Expr) (k : Expr → (List Comprehension) → Scope → Bool) : Bool := vIx e.ctorIdx 8 fun h => Expr.ListComp.elim (motive_1 := fun _ => Bool) e h fun a gs sc _ => k a gs sc
theorem vLC_inv {e : Expr} {k : Expr → (List Comprehension) → Scope → Bool} (h : vLC e k = true) : ∃ a gs sc p, e = .ListComp a gs sc p ∧ k a gs sc = true := by
  obtain ⟨hc, h⟩ := vIx_inv h
  exact Expr.ListComp.elim (motive_1 := fun e => ∀ hc : e.ctorIdx = 8, (Expr.ListComp.elim (motive_1 := fun _ => Bool) e hc fun a gs sc _ => k a gs sc) = true → ∃ a gs sc p, e = .ListComp a gs sc p ∧ k a gs sc = true) e hc (fun a gs sc p _ h => ⟨a, gs, sc, p, rfl, h⟩) hc h
noncomputable def vSome {α : Type} (o : Option α) (k : α → Bool) : Bool := match o with | some x => k x | none => false
noncomputable def slIs (up : Bool) (l u : Option Expr) (k : Expr → Bool) : Bool := match up with | true => u.isNone && vSome l k | false => l.isNone && vSome u k
noncomputable def vSl (up : Bool) (e : Expr) (k : Expr → Bool) : Bool := vIx e.ctorIdx 26 fun h => Expr.Slice.elim (motive_1 := fun _ => Bool) e h fun l u st _ => st.isNone && slIs up l u k
noncomputable def vCall (e : Expr) (k : Expr → List Expr → Pos → Bool) : Bool := vCall0 e fun f es ks p => ks.isEmpty && k f es p
noncomputable def vCallN (e : Expr) (k : Str → List Expr → Bool) : Bool := vCall e fun f es _ => vName f fun x => k x es
noncomputable def vMeth (e : Expr) (n : String) (k : Expr → List Expr → Bool) : Bool := vCall e fun f es p => vAttr f fun o n' ap => okAt o ap p && (n' == Str.ofString n && k o es)
theorem vSome_inv {α : Type} {o : Option α} {k : α → Bool} (h : vSome o k = true) : ∃ x, o = some x ∧ k x = true := by
  cases o with
  | none => exact Bool.noConfusion (show false = true from h)
  | some x => exact ⟨x, rfl, h⟩
theorem no {α : Type} {x : α} {p : Prop} (h : none = some x) : p := nomatch h
theorem vOne_inv {α : Type} {xs : List α} {k : α → Bool} (h : vOne xs k = true) : ∃ x, xs = [x] ∧ k x = true := by
  cases xs with
  | nil => exact nb h
  | cons x r => cases r with
    | nil => exact ⟨x, rfl, h⟩
    | cons _ _ => exact nb h
theorem vTwo_inv {α : Type} {xs : List α} {k : α → α → Bool} (h : vTwo xs k = true) : ∃ x y, xs = [x, y] ∧ k x y = true := by
  cases xs with
  | nil => exact nb h
  | cons x r => cases r with
    | nil => exact nb h
    | cons y r => cases r with
      | nil => exact ⟨x, y, rfl, h⟩
      | cons _ _ => exact nb h
theorem vCall_inv {e : Expr} {k : Expr → List Expr → Pos → Bool} (h : vCall e k = true) : ∃ f es p, e = .Call f es [] p ∧ k f es p = true := by
  obtain ⟨f, es, ks, p, rfl, h⟩ := vCall0_inv h
  cases ks with
  | nil => exact ⟨f, es, p, rfl, h⟩
  | cons _ _ => exact nb h
theorem vName_ix {e : Expr} {k : Str → Bool} (h : vName e k = true) : e.ctorIdx = 23 := (vIx_inv h).1
theorem vConst_ix {e : Expr} {k : Const → Bool} (h : vConst e k = true) : e.ctorIdx = 19 := (vIx_inv h).1
theorem vBin_ix {e : Expr} {k : Expr → Operator → Expr → Bool} (h : vBin e k = true) : e.ctorIdx = 2 := (vIx_inv h).1
theorem vUn_ix {e : Expr} {k : UnaryOp → Expr → Bool} (h : vUn e k = true) : e.ctorIdx = 3 := (vIx_inv h).1
theorem vBoolOp_ix {e : Expr} {k : BoolOp → List Expr → Bool} (h : vBoolOp e k = true) : e.ctorIdx = 0 := (vIx_inv h).1
theorem vCmp_ix {e : Expr} {k : Expr → List CmpOp → List Expr → Bool} (h : vCmp e k = true) : e.ctorIdx = 15 := (vIx_inv h).1
theorem vCall_ix {e : Expr} {k : Expr → List Expr → Pos → Bool} (h : vCall e k = true) : e.ctorIdx = 16 := (vIx_inv h).1
theorem vSub_ix {e : Expr} {k : Expr → Expr → Bool} (h : vSub e k = true) : e.ctorIdx = 21 := (vIx_inv h).1
theorem vList_ix {e : Expr} {k : (List Expr) → Bool} (h : vList e k = true) : e.ctorIdx = 24 := (vIx_inv h).1
theorem vTup_ix {e : Expr} {k : (List Expr) → Bool} (h : vTup e k = true) : e.ctorIdx = 25 := (vIx_inv h).1
theorem vLC_ix {e : Expr} {k : Expr → List Comprehension → Scope → Bool} (h : vLC e k = true) : e.ctorIdx = 8 := (vIx_inv h).1
theorem vCallN_inv {e : Expr} {k : Str → List Expr → Bool} (h : vCallN e k = true) : ∃ x px es p, e = .Call (.Name x px) es [] p ∧ k x es = true := by
  refine Classical.byContradiction fun hn => ?_
  obtain ⟨f, es, p, rfl, h⟩ := vCall_inv h
  obtain ⟨x, px, rfl, h⟩ := vName_inv h
  exact hn ⟨x, px, es, p, rfl, h⟩
theorem and2 {a b : Bool} (h : (a && b) = true) : a = true ∧ b = true := Bool.and_eq_true_iff.mp h
theorem vMeth_inv {e : Expr} {n : String} {k : Expr → List Expr → Bool} (h : vMeth e n k = true) : ∃ o ap es p, e = .Call (.Attribute o (Str.ofString n) ap) es [] p ∧ okAt o ap p = true ∧ k o es = true := by
  refine Classical.byContradiction fun hn => ?_
  obtain ⟨f, es, p, rfl, h⟩ := vCall_inv h
  obtain ⟨o, n', ap, rfl, h⟩ := vAttr_inv h
  obtain ⟨h1, h⟩ := and2 h
  obtain ⟨h2, h3⟩ := and2 h
  obtain rfl := beq_iff_eq.mp h2
  exact hn ⟨o, ap, es, p, rfl, h1, h3⟩
theorem isNone_inv {α : Type} {o : Option α} (h : o.isNone = true) : o = none := by
  cases o with
  | none => rfl
  | some _ => exact nb h
noncomputable def partE (up : Bool) (e : Expr) : Option Expr := match up with | true => some e | false => none
theorem vSl_inv {up : Bool} {e : Expr} {k : Expr → Bool} (h : vSl up e k = true) : ∃ x p, e = .Slice (partE up x) (partE (!up) x) none p ∧ k x = true := by
  obtain ⟨hc, h⟩ := vIx_inv h
  refine Expr.Slice.elim (motive_1 := fun e => ∀ hc : e.ctorIdx = 26, (Expr.Slice.elim (motive_1 := fun _ => Bool) e hc fun l u st _ => st.isNone && slIs up l u k) = true → ∃ x p, e = .Slice (partE up x) (partE (!up) x) none p ∧ k x = true) e hc (fun l u st p _ h => ?_) hc h
  obtain ⟨h1, h⟩ := and2 h
  obtain rfl := isNone_inv h1
  cases up with
  | true =>
    obtain ⟨h2, h⟩ := and2 h
    obtain rfl := isNone_inv h2
    obtain ⟨x, rfl, h⟩ := vSome_inv h
    exact ⟨x, p, rfl, h⟩
  | false =>
    obtain ⟨h2, h⟩ := and2 h
    obtain rfl := isNone_inv h2
    obtain ⟨x, rfl, h⟩ := vSome_inv h
    exact ⟨x, p, rfl, h⟩
noncomputable def mmName : Bool → String
  | true => "max"
  | false => "min"
noncomputable def xName (e : Expr) : Option Str := if h : e.ctorIdx = 23 then Expr.Name.elim (motive_1 := fun _ => Option Str) e h fun x _ => some x else none
noncomputable def xTup (e : Expr) : List Expr := if h : e.ctorIdx = 25 then Expr.Tuple.elim (motive_1 := fun _ => List Expr) e h fun xs _ _ => xs else []
noncomputable def chkTwo (i j : Nat) (x y : Option Str) : Option (List (Nat × Str)) := match x, y with
  | some x, some y => if x == y || i == j then none else some [(i, x), (j, y)]
  | _, _ => none
noncomputable def chkTs (i j : Nat) : List Expr → Option (List (Nat × Str))
  | [a, b] => chkTwo i j (xName a) (xName b)
  | _ => none
noncomputable def chkT (t : Tg) (e : Expr) : Option (List (Nat × Str)) := match t with
  | .one i => (xName e).map fun x => [(i, x)]
  | .two i j => chkTs i j (xTup e)
theorem xName_inv {e : Expr} {x : Str} (h : xName e = some x) : ∃ p, e = .Name x p := by
  unfold xName at h
  by_cases q : e.ctorIdx = 23
  · rw [dif_pos q] at h
    exact Expr.Name.elim (motive_1 := fun e => ∀ q : e.ctorIdx = 23, (Expr.Name.elim (motive_1 := fun _ => Option Str) e q fun x _ => some x) = some x → ∃ p, e = .Name x p) e q (fun y p _ h => ⟨p, by cases h; rfl⟩) q h
  · rw [dif_neg q] at h; exact no h
theorem xTup_inv {e : Expr} (h : xTup e ≠ []) : ∃ n p, e = .Tuple (xTup e) n p := by
  by_cases q : e.ctorIdx = 25
  · exact Expr.Tuple.elim (motive_1 := fun e => ∃ n p, e = .Tuple (xTup e) n p) e q fun xs n p => ⟨n, p, rfl⟩
  · exact absurd (show xTup e = [] by unfold xTup; rw [dif_neg q]) h
theorem chkT1_inv {i : Nat} {e : Expr} {new : List (Nat × Str)} (h : chkT (.one i) e = some new) : ∃ x p, e = .Name x p ∧ new = [(i, x)] := by
  obtain ⟨x, hx, rfl⟩ := Option.map_eq_some_iff.mp h
  obtain ⟨p, rfl⟩ := xName_inv hx
  exact ⟨x, p, rfl, rfl⟩
theorem chkT2_inv {i j : Nat} {e : Expr} {new : List (Nat × Str)} (h : chkT (.two i j) e = some new) : ∃ x px y py n p, e = .Tuple [.Name x px, .Name y py] n p ∧ x ≠ y ∧ i ≠ j ∧ new = [(i, x), (j, y)] := by
  have h : chkTs i j (xTup e) = some new := h
  cases hx : xTup e with
  | nil => rw [hx] at h; exact no h
  | cons a r => cases r with
    | nil => rw [hx] at h; exact no h
    | cons b r => cases r with
      | cons _ _ => rw [hx] at h; exact no h
      | nil =>
        rw [hx] at h
        have h : chkTwo i j (xName a) (xName b) = some new := h
        obtain ⟨n, p, he⟩ := xTup_inv (e := e) (by rw [hx]; exact List.cons_ne_nil _ _)
        rw [hx] at he
        cases ha : xName a with
        | none => rw [ha] at h; exact no h
        | some x => cases hb : xName b with
          | none => rw [ha, hb] at h; exact no h
          | some y =>
            rw [ha, hb] at h
            obtain ⟨px, ea⟩ := xName_inv ha
            obtain ⟨py, eb⟩ := xName_inv hb
            have h6 : (if (x == y || i == j) = true then none else some [(i, x), (j, y)]) = some new := h
            by_cases q1 : x = y
            · rw [if_pos (by rw [beq_iff_eq.mpr q1]; rfl)] at h6; exact no h6
            · by_cases q2 : i = j
              · rw [if_pos (by rw [beq_iff_eq.mpr q2, Bool.or_true])] at h6; exact no h6
              · rw [if_neg (by rw [beq_false_of_ne q1, beq_false_of_ne q2]; exact Bool.false_ne_true)] at h6
                exact ⟨x, px, y, py, n, p, by rw [he, ea, eb], q1, q2, (Option.some.inj h6).symm⟩
noncomputable def kindIs (sc : Scope) (x : Str) : Bool := match sc.names.lookup x with
  | some .cell => true
  | some .free => true
  | _ => false
noncomputable def chkScope (sc csc : Scope) (new : List (Nat × Str)) (vis : List (Nat × Str)) : Bool :=
  csc.kind == .function && !csc.isGenerator && !csc.isCoroutine &&
  csc.names.all (fun p => match p.2 with
    | .local => csc.names.lookup p.1 == some .local && (p.1 == (".0" : Str) || new.any fun q => q.2 == p.1)
    | .free => kindIs sc p.1
    | .cell => false
    | _ => true) &&
  new.all (fun q => csc.names.lookup q.2 == some .local) && vis.all (fun q => !(q.2 == (".0" : Str))) &&
  decide (csc.names.map (·.1)).Nodup && vis.all (fun p => new.all fun q => !(p.1 == q.1))
noncomputable def newVis (new vis : List (Nat × Str)) : List (Nat × Str) := new ++ vis.filter fun p => !(new.any fun q => q.2 == p.2)
noncomputable def notSet (e : Expr) : Bool := !(e.ctorIdx == 7)

noncomputable def notSlice (e : Expr) : Bool := !(e.ctorIdx == 26)
noncomputable def fnIs (FT : Nat → Option Fn) (sc : Scope) (f : Nat) (x : Str) : Bool := match FT f with
  | some fn => gName sc fn.name x
  | none => false
noncomputable def clsIs (sc : Scope) (c : Cls) (e : Expr) : Bool := vName e fun y => gName sc c.bi y
noncomputable def isAnd : Bool → BoolOp
  | true => .And
  | false => .Or
noncomputable def litC : Option Bool → Const
  | none => .none
  | some b => .bool b
noncomputable def isIs : Bool → CmpOp
  | true => .Is
  | false => .IsNot
noncomputable def vIter (sc : Scope) (f : Option String) (e : Expr) (k : Expr → Bool) : Bool := match f with
  | none => k e
  | some f => vCallN e fun x es => gName sc f x && vOne es k
noncomputable def IterIs (sc : Scope) (f : Option String) (e e1 : Expr) : Prop := match f with | none => e = e1 | some f => ∃ x px p, e = .Call (.Name x px) [e1] [] p ∧ gName sc f x = true
mutual
noncomputable def chkE (FT : Nat → Option Fn) (ids : List Nat) (vis : List (Nat × Str)) (sc : Scope) : Ex → Expr → Bool
  | .nm i, e => vName e fun x => vis.lookup i == some x && (isLoc sc x && okName x)
  | .int i, e => vConst e fun c => c == .int i
  | .bool b, e => vConst e fun c => c == .bool b
  | .none, e => vConst e fun c => c == .none
  | .glob x, e => vName e (gName sc x)
  | .bin op a b, e => vBin e fun l o r => bopIs op o && (chkE FT ids vis sc a l && chkE FT ids vis sc b r)
  | .not a, e => vUn e fun o x => o == .Not && chkE FT ids vis sc a x
  | .neg a, e => vUn e fun o x => o == .USub && chkE FT ids vis sc a x
  | .boolop k es, e => vBoolOp e fun o vs => o == isAnd k && (!vs.isEmpty && chkL FT ids vis sc es vs)
  | .cmp op a b, e => vCmp e fun l os rs => vOne os fun o => vOne rs fun r => copIs op o && (notSet r && (chkE FT ids vis sc a l && chkE FT ids vis sc b r))
  | .cmp2 o1 o2 a b c, e => vCmp e fun l os rs => vTwo os fun p1 p2 => vTwo rs fun r1 r2 => copIs o1 p1 && (copIs o2 p2 && (notSet r1 && (notSet r2 && (chkE FT ids vis sc a l && (chkE FT ids vis sc b r1 && chkE FT ids vis sc c r2)))))
  | .isc p a c, e => vCmp e fun l os rs => vOne os fun o => vOne rs fun r => o == isIs p && (chkE FT ids vis sc a l && vConst r fun k => k == litC c)
  | .call f args, e => vCallN e fun x es => ids.contains f && (fnIs FT sc f x && (!es.isEmpty && chkL FT ids vis sc args es))
  | .b1 b a, e => vCallN e fun x es => gName sc b.call x && vOne es fun e1 => vIter sc b.inner e1 fun e2 => chkE FT ids vis sc a e2
  | .isinst a c, e => vCallN e fun x es => gName sc "isinstance" x && vTwo es fun e1 e2 => chkE FT ids vis sc a e1 && clsIs sc c e2
  | .append o a, e => vMeth e "append" fun e1 es => vOne es fun e2 => chkE FT ids vis sc o e1 && chkE FT ids vis sc a e2
  | .extend o a, e => vMeth e "extend" fun e1 es => vOne es fun e2 => chkE FT ids vis sc o e1 && chkE FT ids vis sc a e2
  | .pop o i, e => vMeth e "pop" fun e1 es => chkE FT ids vis sc o e1 && (chkL FT ids vis sc i es && decide (es.length ≤ 1))
  | .index o a, e => vMeth e "index" fun e1 es => vOne es fun e2 => chkE FT ids vis sc o e1 && chkE FT ids vis sc a e2
  | .sub a i, e => vSub e fun e1 e2 => chkE FT ids vis sc a e1 && chkE FT ids vis sc i e2
  | .slice up a i, e => vSub e fun e1 e2 => vSl up e2 fun e3 => chkE FT ids vis sc a e1 && chkE FT ids vis sc i e3
  | .mm mx a b, e => vCallN e fun x es => gName sc (mmName mx) x && vTwo es fun e1 e2 => chkE FT ids vis sc a e1 && chkE FT ids vis sc b e2
  | .lst es, e => vList e fun xs => chkL FT ids vis sc es xs
  | .tup es, e => vTup e fun xs => chkL FT ids vis sc es xs
  | .comp elt t k src cond, e => vLC e fun elt' gs csc => vOne gs fun g => vSome (chkT t g.target) fun new =>
      decide (g.is_async = 0) && (chkScope sc csc new vis && (notSet g.iter && (vIter sc k.call g.iter (fun e1 => chkE FT ids vis sc src e1) &&
          (chkE FT ids (newVis new vis) csc elt elt' && chkL FT ids (newVis new vis) csc cond g.ifs))))
  | .str x, e => vConst e fun c => c == .str (Str.ofString x)
noncomputable def chkL (FT : Nat → Option Fn) (ids : List Nat) (vis : List (Nat × Str)) (sc : Scope) : Exs → List Expr → Bool
  | .nil, es => es.isEmpty
  | .cons e es, xs => match xs with | x :: r => chkE FT ids vis sc e x && chkL FT ids vis sc es r | [] => false
end

end TD

namespace TD
open PySem PyProof.Rows

noncomputable def PM (W : Cx) (mem : Mem) (s : Shared) (Q : Val → Mem → Prop) (y : Value) (s' : Shared) : Prop :=
  ∃ v mem', VRel W s'.heap v y ∧ MRel W mem' s' ∧ Step NoD mem s.heap mem' s'.heap ∧ Q v mem'

theorem MRel.toks {W : Cx} {mem : Mem} {s : Shared} (M : MRel W mem s) (t : Nat) : MRel W mem { s with toks := t } := ⟨M.stays, M.mems, M.gens, M.os⟩
theorem PM.val {W : Cx} {mem : Mem} {s : Shared} {Q : Val → Mem → Prop} {v : Val} {y : Value} (M : MRel W mem s) (hv : VRel W s.heap v y) (hq : Q v mem) (t : Nat) : PM W mem s Q y { s with toks := t } :=
  ⟨v, mem, hv, M.toks t, .refl, hq⟩
theorem PM.here {W : Cx} {mem : Mem} {s : Shared} {Q : Val → Mem → Prop} {v : Val} {y : Value} (M : MRel W mem s) (hv : VRel W s.heap v y) (hq : Q v mem) : PM W mem s Q y s := PM.val M hv hq s.toks
theorem PM.trans {W : Cx} {mem mem' : Mem} {s s' s'' : Shared} {Q : Val → Mem → Prop} {y : Value} (x : Step NoD mem s.heap mem' s'.heap) (p : PM W mem' s' Q y s'') : PM W mem s Q y s'' := by
  obtain ⟨v, m2, a, b, c, d⟩ := p; exact ⟨v, m2, a, b, x.trans c, d⟩

theorem VRel.int {W : Cx} {h : Heap} {i : Int} {v : Value} (r : VRel W h (.int i) v) : ∃ t, v = .int i t := r
theorem VRel.str {W : Cx} {h : Heap} {i : Str} {v : Value} (r : VRel W h (.str i) v) : ∃ t, v = .str i t := r
theorem VRel.mkStr {W : Cx} {h : Heap} {i : Str} {t : Tok} : VRel W h (.str i) (.str i t) := Exists.intro t rfl
theorem VRel.bool {W : Cx} {h : Heap} {i : Bool} {v : Value} (r : VRel W h (.bool i) v) : v = .bool i := r
theorem VRel.none' {W : Cx} {h : Heap} {v : Value} (r : VRel W h .none v) : v = .none := r
theorem VRel.ref {W : Cx} {h : Heap} {a : Addr} {v : Value} (r : VRel W h (.ref a) v) : v = .ref a := r
theorem VRel.mkInt {W : Cx} {h : Heap} {i : Int} {t : Tok} : VRel W h (.int i) (.int i t) := Exists.intro t rfl
theorem VRel.mkBool {W : Cx} {h : Heap} {i : Bool} : VRel W h (.bool i) (.bool i) := rfl
theorem VRel.mkNone {W : Cx} {h : Heap} : VRel W h .none .none := rfl
theorem VRel.mkRef {W : Cx} {h : Heap} {a : Addr} : VRel W h (.ref a) (.ref a) := rfl

theorem VRels.inv {W : Cx} {h : Heap} {v : Val} {vs : List Val} {xs : List Value} (r : VRels W h (v :: vs) xs) : ∃ y ys, xs = y :: ys ∧ VRel W h v y ∧ VRels W h vs ys := r
theorem VRels.inv0 {W : Cx} {h : Heap} {xs : List Value} (r : VRels W h [] xs) : xs = [] := r
theorem VRels.nil {W : Cx} {h : Heap} : VRels W h [] [] := rfl
theorem VRels.cons {W : Cx} {h : Heap} {v : Val} {vs : List Val} {y : Value} {ys : List Value} (a : VRel W h v y) (r : VRels W h vs ys) : VRels W h (v :: vs) (y :: ys) := Exists.intro y ⟨ys, rfl, a, r⟩
theorem VRels.length {W : Cx} {h : Heap} {vs : List Val} : ∀ {xs : List Value}, VRels W h vs xs → xs.length = vs.length := by
  induction vs with
  | nil => intro xs e; cases e.inv0; rfl
  | cons v vs ih => intro xs e; obtain ⟨y, ys, rfl, _, r⟩ := e.inv; exact congrArg Nat.succ (ih r)
theorem VRels.append {W : Cx} {h : Heap} {vs ws : List Val} {ys : List Value} (f : VRels W h ws ys) : ∀ {xs : List Value}, VRels W h vs xs → VRels W h (vs ++ ws) (xs ++ ys) := by
  induction vs with
  | nil => intro xs e; cases e.inv0; exact f
  | cons v vs ih => intro xs e; obtain ⟨y, ys, rfl, a, r⟩ := e.inv; exact .cons a (ih r)
theorem VRels.get {W : Cx} {h : Heap} {vs : List Val} : ∀ {xs : List Value} {i : Nat} {v : Val}, VRels W h vs xs → vs[i]? = some v → ∃ y, xs[i]? = some y ∧ VRel W h v y := by
  induction vs with
  | nil => intro xs i v _ e; cases e
  | cons w ws ih =>
    intro xs i v r e
    obtain ⟨y, ys, rfl, a, r⟩ := r.inv
    cases i with
    | zero => cases e; exact ⟨y, rfl, a⟩
    | succ i => obtain ⟨z, hz, q⟩ := ih (i := i) r e; exact ⟨z, hz, q⟩

theorem lst_ref {mem : Mem} {a : Addr} {xs : List Val} (e : lst mem (.ref a) = some xs) : mem a = some (.list xs) := by
  have e : itemsOf (mem a) = some xs := e
  cases q : mem a with
  | none => rw [q] at e; exact no e
  | some o =>
    rw [q] at e
    cases o with
    | list ys => cases e; rfl
theorem lst_rel {W : Cx} {mem : Mem} {s : Shared} (M : MRel W mem s) {v : Val} {y : Value} {xs : List Val} (hv : VRel W s.heap v y) (e : lst mem v = some xs) :
    ∃ a vs, y = .ref a ∧ s.heap.IsList a (List.toArray vs) ∧ VRels W s.heap xs vs := by
  cases v <;> first | exact no e | skip
  · rename_i a
    obtain ⟨⟨vs, ⟨n, hn⟩, r⟩, _⟩ := M.mems a _ (lst_ref e)
    exact ⟨a, vs, hv.ref, ⟨_, hn, rfl, n, rfl⟩, r⟩
  · cases e
    obtain ⟨a, vs, rfl, ⟨o, ho, q⟩, r⟩ := hv
    exact ⟨a, vs, rfl, ⟨o, M.stays a o ho, q⟩, r⟩
theorem IsTup.tuple {h : Heap} {a : Addr} {xs : Array Value} (x : IsTup h a xs) : h.IsTuple a xs := x

variable {W : Cx} {A : Around} {E : Value → Shared → Prop} {env : Env} {vis : List (Nat × Str)} {loc : Loc} {mem : Mem} {s : Shared} {Q : Val → Mem → Prop}

theorem KeepL.push {L : Addr} {h : Heap} (o : Obj) : KeepL L h (h.push o) := .of_keeps fun b x e => Heap.get?_push_of_some _ e

theorem freshL_sound (R : Rel W env vis loc mem s) {xs : List Val} {vs : List Value} {s' : Shared} {a : Addr} {n : Nat} (k : KeepL env.locals s.heap s'.heap) (ha : s.heap.get? a = none)
    (hl : s'.heap.get? a = some { cls := .type "list", data := .seq vs.toArray n }) (hr : VRels W s.heap xs vs) (h : freshL mem xs Q) (hg : s'.gens = s.gens := by rfl) (ho : s'.os = s.os := by rfl) : PM W mem s Q (.ref a) s' :=
  ⟨.ref a, mem.set a (.list xs), .mkRef, R.allocM k ha (fun kf => ⟨vs, ⟨n, hl⟩, hr.keep kf⟩) hg ho, R.allocS k ha, h.2 a (R.m.mems.fresh ha)⟩
theorem size_none (h : Heap) : h.get? h.objs.size = none := by
  cases e : h.get? h.objs.size with
  | none => rfl
  | some o => exact absurd (Heap.lt_size e) (Nat.lt_irrefl _)
theorem lid_line {n : Nat} (h : n < lid) : n ≤ sizeLine := by unfold lid at h; unfold sizeLine; walk_at "o"

theorem newList_sound (R : Rel W env vis loc mem s) {xs : List Val} {vs : List Value} (hr : VRels W s.heap xs vs) (h : freshL mem xs Q) : wpAny (model W.prog W.w) A (newList vs) (PM W mem s Q) E s := by
  have hsz : vs.length ≤ sizeLine := lid_line (hr.length ▸ h.1)
  refine wpAny_newObj_type ?_ (by show vs.toArray.size ≤ sizeLine; rw [List.size_toArray]; exact hsz)
  exact freshL_sound R (.push _) (size_none _) (Heap.get?_push_size _ rfl) hr h

theorem isTup_new {h : Heap} {vs : List Value} {n : Nat} : IsTup (h.push { cls := .type "tuple", data := .seq vs.toArray n }) h.objs.size vs.toArray := ⟨_, Heap.get?_push_size _ rfl, rfl, n, rfl⟩
theorem newTuple_sound (R : Rel W env vis loc mem s) {xs : List Val} {vs : List Value} (hr : VRels W s.heap xs vs) (hl : xs.length < lid) (h : Q (.tup xs) mem) : wpAny (model W.prog W.w) A (newTuple vs) (PM W mem s Q) E s := by
  have hsz : vs.length ≤ sizeLine := lid_line (hr.length ▸ hl)
  refine wpAny_newObj_type ?_ (by show vs.toArray.size ≤ sizeLine; rw [List.size_toArray]; exact hsz)
  have k : KeepL env.locals s.heap (s.heap.push { cls := .type "tuple", data := .seq vs.toArray }) := .push _
  refine ⟨.tup xs, mem, ?_, R.keepM k, R.keepS k, h⟩
  exact Exists.intro _ ⟨vs, rfl, isTup_new, hr.keep (R.keepF k)⟩

theorem small_ok {x y : Int} (h : small x ∨ small y) : IntMulOk x y := by
  rcases h with h | h
  · exact .of_left (intBits_le_64 (by have := h.1; walk_at "o") (by have := h.2; walk_at "o"))
  · exact .of_right (intBits_le_64 (by have := h.1; walk_at "o") (by have := h.2; walk_at "o"))
theorem tiny_ok {x y : Int} (h : tiny y) : Builtin.divisionGoesByPylong x y = false := by
  unfold Builtin.divisionGoesByPylong
  simp only [Bool.and_eq_false_iff, decide_eq_false_iff_not]
  left
  split
  · walk_at "o"
  · rename_i q
    have hy : y.natAbs ≠ 0 := by simpa using q
    have : y.natAbs.log2 < 60 := (Nat.log2_lt hy).mpr (by unfold tiny at h; walk_at "o")
    walk_at "o"
theorem bin_sound (R : Rel W env vis loc mem s) {op : Bop} {o : Operator} {x y : Val} {a b : Value} (hx : VRel W s.heap x a) (hy : VRel W s.heap y b) (ho : bopIs op o = true) (h : wpBin op x y Q mem) :
    wpAny (model W.prog W.w) A (binaryOp o a b) (PM W mem s Q) E s := by
  obtain rfl := bopIs_eq ho
  cases op with
  | add =>
    rcases h with ⟨i, j, rfl, rfl, h⟩ | ⟨_, _, xs, ys, rfl, rfl, ex, ey, hf⟩
    · obtain ⟨t, rfl⟩ := hx.int; obtain ⟨u, rfl⟩ := hy.int
      exact add_int (PM.val R.m .mkInt h _)
    · obtain ⟨a1, v1, rfl, l1, r1⟩ := lst_rel R.m hx ex
      obtain ⟨a2, v2, rfl, l2, r2⟩ := lst_rel R.m hy ey
      obtain ⟨m, hn⟩ := R.hasNs
      obtain ⟨F, N⟩ := fr_all hn
      have hsz : v1.length + v2.length ≤ sizeLine := lid_line (by have := hf.1; rw [List.length_append] at this; rw [r1.length, r2.length]; exact this)
      refine add_lists F N l1 l2 (hsz := hsz) fun h' F' N' => ?_
      have k := KeepL.of_fr hn F' N' fun p hp => .tail _ hp
      exact freshL_sound R k (size_none _) (N' _ (.head _)).1 (r2.append r1) hf
  | sub =>
    obtain ⟨i, j, rfl, rfl, h⟩ := h
    obtain ⟨t, rfl⟩ := hx.int; obtain ⟨u, rfl⟩ := hy.int
    exact sub_int (PM.val R.m .mkInt h _)
  | mul =>
    obtain ⟨i, j, rfl, rfl, h⟩ := h
    obtain ⟨t, rfl⟩ := hx.int; obtain ⟨u, rfl⟩ := hy.int
    exact mul_int (PM.val R.m .mkInt h.2 _) (small_ok h.1)
  | fdiv =>
    obtain ⟨i, j, rfl, rfl, h⟩ := h
    obtain ⟨t, rfl⟩ := hx.int; obtain ⟨u, rfl⟩ := hy.int
    exact floordiv_int h.1.1 (PM.val R.m .mkInt h.2 _) (.inl (tiny_ok h.1.2))
  | mod =>
    obtain ⟨i, j, rfl, rfl, h⟩ := h
    obtain ⟨t, rfl⟩ := hx.int; obtain ⟨u, rfl⟩ := hy.int
    exact mod_int' h.1.1 (PM.val R.m .mkInt h.2 _)

end TD

namespace TD
open PySem PyProof.Rows
variable {W : Cx} {A : Around} {E : Value → Shared → Prop} {env : Env} {vis : List (Nat × Str)} {loc : Loc} {mem : Mem} {s : Shared} {Q : Val → Mem → Prop}

mutual
noncomputable def toP : Dat → PyData
  | .none => .none
  | .int i => .int i
  | .list ds => .list (toPs ds)
  | .tup ds => .tuple (toPs ds)
  | .str x => .str x
noncomputable def toPs : List Dat → List PyData
  | [] => []
  | d :: ds => toP d :: toPs ds
end
theorem str_beq {x y : Str} : (x.cps.toList == y.cps.toList) = (x == y) := by
  rw [Bool.eq_iff_iff, beq_iff_eq, beq_iff_eq]
  constructor
  · intro h
    obtain ⟨a⟩ := x
    obtain ⟨b⟩ := y
    exact congrArg Str.mk (Array.toList_inj.mp h)
  · rintro rfl; rfl
mutual
theorem eqv_toP : ∀ d e : Dat, PyData.eqv (toP d) (toP e) = Dat.beq d e
  | .none, e => by cases e <;> rfl
  | .int _, e => by cases e <;> rfl
  | .list a, e => by cases e <;> first | rfl | exact eqvs_toP a _
  | .tup a, e => by cases e <;> first | rfl | exact eqvs_toP a _
  | .str a, e => by cases e <;> first | rfl | exact str_beq
theorem eqvs_toP : ∀ d e : List Dat, PyData.eqvAll (toPs d) (toPs e) = Dat.beqs d e
  | [], e => by cases e <;> rfl
  | a :: r, e => by
    cases e with
    | nil => rfl
    | cons b t =>
      show (PyData.eqv (toP a) (toP b) && PyData.eqvAll (toPs r) (toPs t)) = (Dat.beq a b && Dat.beqs r t)
      rw [eqv_toP a b, eqvs_toP r t]
end
theorem toPs_map (ds : List Dat) : toPs ds = ds.map toP := by
  induction ds with
  | nil => rfl
  | cons d ds ih => exact congrArg (toP d :: ·) ih

theorem okNL {n : Nat} {d : Dat} {ds : List Dat} (hd : d = .list ds ∨ d = .tup ds) (h : okN (n + 1) d = true) : ds.all (okN n) = true := by
  rcases hd with rfl | rfl
  · exact h
  · exact h
theorem lay_toP (n : Nat) : ∀ d : Dat, okN n d = true → (toP d).canLay0 = true ∧ (toP d).depth ≤ n := by
  induction n with
  | zero => intro d h; exact nb h
  | succ n ih =>
    have all : ∀ ds : List Dat, ds.all (okN n) = true → PyData.canLayAll0 (toPs ds) = true ∧ PyData.depthAll (toPs ds) ≤ n := by
      intro ds
      induction ds with
      | nil => intro _; exact ⟨rfl, Nat.zero_le _⟩
      | cons d ds ihd =>
        intro h
        obtain ⟨h1, h2⟩ := and2 (show (okN n d && ds.all (okN n)) = true from h)
        obtain ⟨a, b⟩ := ih d h1
        obtain ⟨c, e⟩ := ihd h2
        exact ⟨Bool.and_eq_true_iff.mpr ⟨a, c⟩, Nat.max_le.mpr ⟨b, e⟩⟩
    intro d h
    cases d with
    | none => exact ⟨rfl, Nat.zero_le _⟩
    | int i => exact ⟨rfl, Nat.zero_le _⟩
    | list ds =>
      obtain ⟨a, b⟩ := all ds (okNL (.inl rfl) h)
      exact ⟨a, Nat.succ_le_succ b⟩
    | tup ds =>
      obtain ⟨a, b⟩ := all ds (okNL (.inr rfl) h)
      exact ⟨a, Nat.succ_le_succ b⟩
    | str x => exact ⟨h, Nat.zero_le _⟩
theorem lays_toP (n : Nat) (ds : List Dat) (h : ds.all (okN n) = true) : PyData.canLayAll0 (toPs ds) = true ∧ PyData.depthAll (toPs ds) ≤ n := by
  obtain ⟨a, b⟩ := lay_toP (n + 1) (.list ds) h
  exact ⟨a, Nat.le_of_succ_le_succ b⟩

mutual
theorem reads_kit (M : MRel W mem s) : ∀ (d : Dat) (v : Val) (y : Value), Reads mem d v → VRel W s.heap v y → ∃ as, _root_.PySem.Reads s.heap y (toP d) as
  | .none, v, y, h, r => by obtain rfl : v = .none := h; obtain rfl := r.none'; exact ⟨_, .none⟩
  | .int i, v, y, h, r => by obtain rfl : v = .int i := h; obtain ⟨t, rfl⟩ := r.int; exact ⟨_, .int i t⟩
  | .list ds, v, y, h, r => by
    obtain ⟨xs, e, h⟩ := h
    obtain ⟨a, vs, rfl, ⟨o, ho, hc, n, hd⟩, q⟩ := lst_rel M r e
    obtain ⟨as, ra⟩ := readsL_kit M ds xs vs h q
    exact ⟨_, .list ho hc hd ra⟩
  | .tup ds, v, y, h, r => by
    obtain ⟨xs, rfl, h⟩ := h
    obtain ⟨a, vs, rfl, ⟨o, ho, hc, n, hd⟩, q⟩ := r
    obtain ⟨as, ra⟩ := readsL_kit M ds xs vs h q
    exact ⟨_, .tuple ho hc hd ra⟩
  | .str i, v, y, h, r => by obtain rfl : v = .str i := h; obtain ⟨t, rfl⟩ := r.str; exact ⟨_, .str i t⟩
theorem readsL_kit (M : MRel W mem s) : ∀ (ds : List Dat) (xs : List Val) (ys : List Value), ReadsL mem ds xs → VRels W s.heap xs ys → ∃ as, ReadsAll s.heap ys (toPs ds) as
  | [], xs, ys, h, r => by obtain rfl : xs = [] := h; obtain rfl := r.inv0; exact ⟨_, .nil⟩
  | d :: ds, xs, ys, h, r => by
    obtain ⟨z, zs, rfl, h1, h2⟩ := h
    obtain ⟨w, ws, rfl, r1, r2⟩ := r.inv
    obtain ⟨as, ra⟩ := reads_kit M d z w h1 r1
    obtain ⟨bs, rb⟩ := readsL_kit M ds zs ws h2 r2
    exact ⟨_, .cons ra rb⟩
end

theorem seq_or {mem : Mem} {v : Val} {xs : List Val} (e : seq mem v = some xs) : v = .tup xs ∨ lst mem v = some xs := by
  cases v <;> first | exact .inr e | (cases e; exact .inl rfl)
theorem seq_kit (M : MRel W mem s) {v : Val} {y : Value} {xs : List Val} {ds : List Dat} (e : seq mem v = some xs) (h : ReadsL mem ds xs) (r : VRel W s.heap v y) :
    ∃ as, _root_.PySem.Reads s.heap y (.list (toPs ds)) as ∨ _root_.PySem.Reads s.heap y (.tuple (toPs ds)) as := by
  rcases seq_or e with rfl | e
  · obtain ⟨as, ra⟩ := reads_kit M (.tup ds) _ y (Exists.intro xs ⟨rfl, h⟩) r
    exact ⟨as, .inr ra⟩
  · obtain ⟨as, ra⟩ := reads_kit M (.list ds) v y (Exists.intro xs ⟨e, h⟩) r
    exact ⟨as, .inl ra⟩

structure Room (n : Nat) (A : Around) : Prop where
  handled : A.handled = none
  units : A.units + 100 + 20 * n < cLine
  depth : A.depth + 5 + 5 * n < recursionLimit

noncomputable def PB (W : Cx) (mem : Mem) (s : Shared) (P : Bool → Mem → Prop) : Value → Shared → Prop := PM W mem s (asB P)

theorem any_toP {es : List Dat} {d : Dat} : ((toPs es).any fun y => PyData.eqv y (toP d)) = es.any fun e => Dat.beq e d := by
  rw [toPs_map, List.any_map]
  exact congrArg (es.any ·) (funext fun z => eqv_toP z d)
theorem shaped_of {d : Dat} (h : okN 8 d = true) : SeqAt.shaped (toP d) = true := by
  obtain ⟨l1, d1⟩ := lay_toP 8 d h
  simp only [SeqAt.shaped, l1, Bool.true_and]; exact decide_eq_true (by walk_at "o")
theorem cmp_sound (R : Rel W env vis loc mem s) {n : Nat} (hr : Room n A) {op : Cop} {o : CmpOp} {x y : Val} {a b : Value} {P : Bool → Mem → Prop} (hx : VRel W s.heap x a) (hy : VRel W s.heap y b) (ho : copIs op o = true) (h : wpCmp op x y P mem) :
    wpAny (model W.prog W.w) A (compareOp o a b) (PB W mem s P) E s := by
  have hu := hr.units
  obtain rfl := copIs_eq ho
  have pm : ∀ {b : Bool}, P b mem → PB W mem s P (.bool b) s := fun {b} h => PM.here R.m .mkBool (Exists.intro b ⟨rfl, h⟩)
  cases op with
  | eq =>
    rcases h with ⟨i, j, rfl, rfl, h⟩ | ⟨d, e, h1, h2, h3, h4, h5⟩
    · obtain ⟨t, rfl⟩ := hx.str; obtain ⟨u, rfl⟩ := hy.str
      exact PySem.P.eq_str (by rw [str_beq]; exact pm h)
    · obtain ⟨as, ra⟩ := reads_kit R.m d _ _ h1 hx
      obtain ⟨bs, rb⟩ := reads_kit R.m e _ _ h2 hy
      have d1 := (lay_toP 8 d h3).2
      have d2 := (lay_toP 8 e h4).2
      refine eq_dataH ra rb (shaped_of h3) (shaped_of h4) (by walk_at "o") ?_
      rw [eqv_toP]
      exact pm h5
  | ne =>
    rcases h with ⟨i, j, rfl, rfl, h⟩ | ⟨d, e, h1, h2, h3, h4, h5⟩
    · obtain ⟨t, rfl⟩ := hx.str; obtain ⟨u, rfl⟩ := hy.str
      exact PySem.P.ne_str (by unfold bne; rw [str_beq]; exact pm h)
    · obtain ⟨as, ra⟩ := reads_kit R.m d _ _ h1 hx
      obtain ⟨bs, rb⟩ := reads_kit R.m e _ _ h2 hy
      have d1 := (lay_toP 8 d h3).2
      have d2 := (lay_toP 8 e h4).2
      refine ne_dataH ra rb (shaped_of h3) (shaped_of h4) (by walk_at "o") ?_
      rw [eqv_toP]
      exact pm h5
  | lt =>
    obtain ⟨i, j, rfl, rfl, h⟩ := h
    obtain ⟨t, rfl⟩ := hx.int; obtain ⟨u, rfl⟩ := hy.int
    exact lt_int (pm h)
  | le =>
    obtain ⟨i, j, rfl, rfl, h⟩ := h
    obtain ⟨t, rfl⟩ := hx.int; obtain ⟨u, rfl⟩ := hy.int
    exact le_int (pm h)
  | gt =>
    obtain ⟨i, j, rfl, rfl, h⟩ := h
    obtain ⟨t, rfl⟩ := hx.int; obtain ⟨u, rfl⟩ := hy.int
    exact gt_int (pm h)
  | inn =>
    obtain ⟨d, es, xs, e1, h1, h2, h3, h4, h5⟩ := h
    obtain ⟨as, ra⟩ := reads_kit R.m d _ _ h1 hx
    obtain ⟨l1, d1⟩ := lay_toP 8 d h3
    obtain ⟨l2, d2⟩ := lays_toP 7 es h4
    have hm := Nat.min_le_right (PyData.depthAll (toPs es)) (toP d).depth
    obtain ⟨bs, rb | rb⟩ := seq_kit R.m e1 h2 hy
    · refine SeqAt.in_list_reads rb ra l2 l1 (by walk_at "o") ?_
      rw [any_toP]; exact pm h5
    · refine SeqAt.in_tuple_reads rb ra l2 l1 (by walk_at "o") ?_
      rw [any_toP]; exact pm h5
  | notin =>
    obtain ⟨d, es, xs, e1, h1, h2, h3, h4, h5⟩ := h
    obtain ⟨as, ra⟩ := reads_kit R.m d _ _ h1 hx
    obtain ⟨l1, d1⟩ := lay_toP 8 d h3
    obtain ⟨l2, d2⟩ := lays_toP 7 es h4
    have hm := Nat.min_le_right (PyData.depthAll (toPs es)) (toP d).depth
    obtain ⟨bs, rb | rb⟩ := seq_kit R.m e1 h2 hy
    · refine SeqAt.notIn_list_reads rb ra l2 l1 (by walk_at "o") ?_
      rw [any_toP]; exact pm h5
    · refine SeqAt.notIn_tuple_reads rb ra l2 l1 (by walk_at "o") ?_
      rw [any_toP]; exact pm h5

end TD

namespace TD
open PySem PySem.W PyProof.Rows

noncomputable def ev {α : Type} (ans : Nat → Nat → Bool) : KasT α → α
  | .ret a => a
  | .ask i j k => ev ans (k (ans i j))
theorem ev_bind {α β : Type} {ans : Nat → Nat → Bool} {f : α → KasT β} : ∀ (t : KasT α), ev ans (t.bind f) = ev ans (f (ev ans t))
  | .ret _ => rfl
  | .ask i j k => ev_bind (k (ans i j))
section
variable {O : KeyOrd} (key : Nat → O.α)
noncomputable def ansO (i j : Nat) : Bool := O.blt (key i) (key j)
noncomputable def at_ (p : Array Nat) (i : Nat) : O.α := key (p.getD i 0)
noncomputable def Up (p : Array Nat) (k : Nat) : Prop := ∀ i j, i ≤ j → j < k → O.kle (at_ key p i) (at_ key p j)
noncomputable def Dn (p : Array Nat) (k : Nat) : Prop := ∀ i j, i ≤ j → j < k → O.kle (at_ key p j) (at_ key p i)
variable {key}
theorem at_rev {p : Array Nat} {i j : Nat} (hj : j ≤ p.size) (k : Nat) : at_ key (kas_rev p i j) k = if i ≤ k ∧ k < j then at_ key p (i + j - 1 - k) else at_ key p k := by
  have e := getElem?_mirror_all (xs := p) (i := i) hj k
  unfold at_ kas_rev
  rw [Array.getD_eq_getD_getElem?, e]
  by_cases h : i ≤ k ∧ k < j
  · rw [if_pos h, if_pos h, Array.getD_eq_getD_getElem?]
  · rw [if_neg h, if_neg h, Array.getD_eq_getD_getElem?]
theorem at_bub {p : Array Nat} {k d : Nat} (hs : k < p.size) (hd : d ≤ k) (i : Nat) : at_ key (bubble p k d) i = if i = k - d then at_ key p k else if k - d < i ∧ i ≤ k then at_ key p (i - 1) else at_ key p i := by
  have e := getElem?_bubble hs d hd i
  unfold at_
  rw [Array.getD_eq_getD_getElem?, e]
  by_cases h : i = k - d
  · rw [if_pos h, if_pos h, Array.getD_eq_getD_getElem?]
  · rw [if_neg h, if_neg h]
    by_cases h' : k - d < i ∧ i ≤ k
    · rw [if_pos h', if_pos h', Array.getD_eq_getD_getElem?]
    · rw [if_neg h', if_neg h', Array.getD_eq_getD_getElem?]
theorem Up.more {p : Array Nat} {n : Nat} (h : Up key p n) (h1 : 1 ≤ n) (q : O.kle (at_ key p (n - 1)) (at_ key p n)) : Up key p (n + 1) := fun i j hij hj => by
  by_cases e : j = n
  · subst e
    by_cases e' : i = j
    · subst e'; exact KeyOrd.kle_refl _
    · exact KeyOrd.kle_trans (h i (j - 1) (by walk_at "o") (by walk_at "o")) q
  · exact h i j hij (by walk_at "o")
theorem Dn.more {p : Array Nat} {n : Nat} (h : Dn key p n) (h1 : 1 ≤ n) (q : O.kle (at_ key p n) (at_ key p (n - 1))) : Dn key p (n + 1) := fun i j hij hj => by
  by_cases e : j = n
  · subst e
    by_cases e' : i = j
    · subst e'; exact KeyOrd.kle_refl _
    · exact KeyOrd.kle_trans q (h i (j - 1) (by walk_at "o") (by walk_at "o"))
  · exact h i j hij (by walk_at "o")
theorem asc_ok {p : Array Nat} : ∀ (f n : Nat), 1 ≤ n → Up key p n → n ≤ ev (ansO key) (kas_asc p f n) ∧ ev (ansO key) (kas_asc p f n) ≤ n + f ∧ Up key p (ev (ansO key) (kas_asc p f n)) ∧
    (ev (ansO key) (kas_asc p f n) < n + f → O.blt (at_ key p (ev (ansO key) (kas_asc p f n))) (at_ key p (ev (ansO key) (kas_asc p f n) - 1)) = true)
  | 0, n, h1, hu => ⟨Nat.le_refl _, Nat.le_refl _, hu, fun h => absurd h (Nat.lt_irrefl _)⟩
  | f + 1, n, h1, hu => by
    have e : ev (ansO key) (kas_asc p (f + 1) n) = ev (ansO key) (if O.blt (at_ key p n) (at_ key p (n - 1)) = true then .ret n else kas_asc p f (n + 1)) := rfl
    rw [e]
    cases q : O.blt (at_ key p n) (at_ key p (n - 1)) with
    | true =>
      rw [if_pos rfl]
      exact ⟨Nat.le_refl _, Nat.le_add_right _ _, hu, fun _ => q⟩
    | false =>
      rw [if_neg (by simp)]
      obtain ⟨a, b, c, d⟩ := asc_ok f (n + 1) (by walk_at "o") (hu.more h1 q)
      exact ⟨by walk_at "o", by walk_at "o", c, fun h => d (by walk_at "o")⟩
noncomputable def Same (key : Nat → O.α) (p : Array Nat) (n q : Nat) : Prop := q < n ∧ ∀ k, n - (q + 1) ≤ k → k < n → at_ key p k = at_ key p (n - 1)
theorem rev_same {p : Array Nat} {n q : Nat} (hn : n ≤ p.size) (h : Same key p n q) (k : Nat) : at_ key (kas_rev p (n - (q + 1)) n) k = at_ key p k := by
  rw [at_rev hn]
  by_cases e : n - (q + 1) ≤ k ∧ k < n
  · rw [if_pos e, h.2 k e.1 e.2, h.2 _ (by have := h.1; walk_at "o") (by have := h.1; walk_at "o")]
  · rw [if_neg e]
theorem Dn.congr {p p' : Array Nat} {n : Nat} (h : Dn key p n) (e : ∀ k, at_ key p' k = at_ key p k) : Dn key p' n := fun i j hij hj => by rw [e, e]; exact h i j hij hj
theorem same0 {p : Array Nat} {n : Nat} (h : 1 ≤ n) : Same key p n 0 := ⟨h, fun k h1 h2 => by rw [show k = n - 1 by walk_at "o"]⟩
theorem rev_size {p : Array Nat} {i j : Nat} : (kas_rev p i j).size = p.size := mirror_size _ _ _ _
theorem rev_perm {p : Array Nat} {i j : Nat} : (kas_rev p i j).Perm p := mirror_perm _ _ _ _
theorem desc_ok : ∀ (f : Nat) (p : Array Nat) (n q : Nat), n + f ≤ p.size → 1 ≤ n → Dn key p n → Same key p n q →
    ∃ p' n' q', ev (ansO key) (kas_desc f p n q) = (p', n', q') ∧ p'.Perm p ∧ n ≤ n' ∧ n' ≤ n + f ∧ Dn key p' n' ∧ Same key p' n' q'
  | 0, p, n, q, hs, h1, hd, hq => ⟨p, n, q, rfl, Array.Perm.refl _, Nat.le_refl _, Nat.le_refl _, hd, hq⟩
  | f + 1, p, n, q, hs, h1, hd, hq => by
    have e : ev (ansO key) (kas_desc (f + 1) p n q) = ev (ansO key) (if O.blt (at_ key p n) (at_ key p (n - 1)) = true then (if q > 0 then kas_desc f (kas_rev p (n - (q + 1)) n) (n + 1) 0 else kas_desc f p (n + 1) 0)
        else .ask (p.getD (n - 1) 0) (p.getD n 0) fun d => if d = true then .ret (p, n, q) else kas_desc f p (n + 1) (q + 1)) := rfl
    rw [e]
    cases c : O.blt (at_ key p n) (at_ key p (n - 1)) with
    | true =>
      rw [if_pos rfl]
      have hle : O.kle (at_ key p n) (at_ key p (n - 1)) := KeyOrd.kle_of_klt c
      by_cases hq0 : q > 0
      · rw [if_pos hq0]
        have er := rev_same (key := key) (p := p) (n := n) (q := q) (by walk_at "o") hq
        obtain ⟨p', n', q', e1, e2, e3, e4, e5, e6⟩ := desc_ok f (kas_rev p (n - (q + 1)) n) (n + 1) 0 (by rw [rev_size]; walk_at "o") (by walk_at "o") ((hd.congr er).more h1 (by rw [er, er]; exact hle)) (same0 (by walk_at "o"))
        exact ⟨p', n', q', e1, e2.trans rev_perm, by walk_at "o", by walk_at "o", e5, e6⟩
      · rw [if_neg hq0]
        obtain ⟨p', n', q', e1, e2, e3, e4, e5, e6⟩ := desc_ok f p (n + 1) 0 (by walk_at "o") (by walk_at "o") (hd.more h1 hle) (same0 (by walk_at "o"))
        exact ⟨p', n', q', e1, e2, by walk_at "o", by walk_at "o", e5, e6⟩
    | false =>
      rw [if_neg (by simp)]
      have e' : ev (ansO key) (.ask (p.getD (n - 1) 0) (p.getD n 0) fun d => if d = true then .ret (p, n, q) else kas_desc f p (n + 1) (q + 1)) = ev (ansO key) (if O.blt (at_ key p (n - 1)) (at_ key p n) = true then .ret (p, n, q) else kas_desc f p (n + 1) (q + 1)) := rfl
      rw [e']
      cases c' : O.blt (at_ key p (n - 1)) (at_ key p n) with
      | true => rw [if_pos rfl]; exact ⟨p, n, q, rfl, Array.Perm.refl _, Nat.le_refl _, by walk_at "o", hd, hq⟩
      | false =>
        rw [if_neg (by simp)]
        have eq : at_ key p n = at_ key p (n - 1) := O.total _ _ c c'
        obtain ⟨p', n', q', e1, e2, e3, e4, e5, e6⟩ := desc_ok f p (n + 1) (q + 1) (by walk_at "o") (by walk_at "o") (hd.more h1 c') ⟨by have := hq.1; walk_at "o", fun k h2 h3 => by
          rw [show n + 1 - 1 = n from rfl]
          by_cases hk : k = n
          · rw [hk]
          · rw [hq.2 k (by walk_at "o") (by walk_at "o"), eq]⟩
        exact ⟨p', n', q', e1, e2, by walk_at "o", by walk_at "o", e5, e6⟩
theorem Dn.turn {p : Array Nat} {n : Nat} (h : Dn key p n) (hn : n ≤ p.size) : Up key (kas_rev p 0 n) n := fun i j hij hj => by
  rw [at_rev hn, at_rev hn, if_pos ⟨Nat.zero_le _, by walk_at "o"⟩, if_pos ⟨Nat.zero_le _, hj⟩]
  exact h _ _ (by walk_at "o") (by walk_at "o")
noncomputable def CountOk (key : Nat → O.α) (p : Array Nat) (nrem : Nat) (r : Nat × Array Nat) : Prop := 1 ≤ r.1 ∧ r.1 ≤ nrem ∧ Up key r.2 r.1 ∧ r.2.Perm p
theorem tail3_ok {p : Array Nat} {n nrem : Nat} (h1 : 1 ≤ n) (hn : n ≤ nrem) (hz : nrem ≤ p.size) (hd : Dn key p n) : CountOk key p nrem (ev (ansO key) (kas_tail3 n nrem p)) := by
  have e : ev (ansO key) (kas_tail3 n nrem p) = (ev (ansO key) (kas_asc (kas_rev p 0 n) (nrem - n) n), kas_rev p 0 n) := by
    unfold kas_tail3; rw [ev_bind]; rfl
  rw [e]
  obtain ⟨a, b, c, _⟩ := asc_ok (key := key) (p := kas_rev p 0 n) (nrem - n) n h1 (hd.turn (by walk_at "o"))
  exact ⟨Nat.le_trans h1 a, by show _ ≤ nrem; walk_at "o", c, rev_perm⟩
theorem descPart_ok {p : Array Nat} {n nrem : Nat} (h1 : 1 ≤ n) (hn : n + 1 ≤ nrem) (hz : nrem ≤ p.size) (hd : Dn key p (n + 1)) : CountOk key p nrem (ev (ansO key) (kas_descPart n nrem p)) := by
  obtain ⟨p', n', q', e1, e2, e3, e4, e5, e6⟩ := desc_ok (nrem - (n + 1)) p (n + 1) 0 (by walk_at "o") (by walk_at "o") hd (same0 (by walk_at "o"))
  have hs : p'.size = p.size := e2.size_eq
  have e : ev (ansO key) (kas_descPart n nrem p) = ev (ansO key) (if q' > 0 then kas_tail3 n' nrem (kas_rev p' (n' - (q' + 1)) n') else kas_tail3 n' nrem p') := by
    unfold kas_descPart; rw [ev_bind, e1]
  rw [e]
  by_cases hq : q' > 0
  · rw [if_pos hq]
    have er := rev_same (key := key) (p := p') (n := n') (q := q') (by walk_at "o") e6
    obtain ⟨a, b, c, d⟩ := tail3_ok (key := key) (p := kas_rev p' (n' - (q' + 1)) n') (n := n') (nrem := nrem) (by walk_at "o") (by walk_at "o") (by rw [rev_size]; walk_at "o") (e5.congr er)
    exact ⟨a, b, c, d.trans (rev_perm.trans e2)⟩
  · rw [if_neg hq]
    obtain ⟨a, b, c, d⟩ := tail3_ok (key := key) (p := p') (n := n') (nrem := nrem) (by walk_at "o") (by walk_at "o") (by walk_at "o") e5
    exact ⟨a, b, c, d.trans e2⟩
theorem count_ok {p : Array Nat} {nrem : Nat} (h1 : 1 ≤ nrem) (hz : nrem ≤ p.size) : CountOk key p nrem (ev (ansO key) (kas_count nrem p)) := by
  obtain ⟨a, b, c, d⟩ := asc_ok (key := key) (p := p) (nrem - 1) 1 (Nat.le_refl _) (fun i j hij hj => by rw [show i = j by walk_at "o"]; exact KeyOrd.kle_refl _)
  unfold kas_count
  rw [ev_bind]
  generalize ev (ansO key) (kas_asc p (nrem - 1) 1) = n at a b c d
  by_cases e : n = nrem
  · subst e
    rw [if_pos (by simp)]
    exact ⟨a, Nat.le_refl _, c, Array.Perm.refl _⟩
  rw [if_neg (by simpa using e)]
  have hlt := d (by walk_at "o")
  have hle : O.kle (at_ key p n) (at_ key p (n - 1)) := KeyOrd.kle_of_klt hlt
  by_cases hn : n > 1
  · rw [if_pos hn]
    have e' : ev (ansO key) (.ask (p.getD 0 0) (p.getD (n - 1) 0) fun c => if c = true then .ret (n, p) else kas_descPart n nrem (kas_rev p 0 n)) = ev (ansO key) (if O.blt (at_ key p 0) (at_ key p (n - 1)) = true then .ret (n, p) else kas_descPart n nrem (kas_rev p 0 n)) := rfl
    rw [e']
    cases q : O.blt (at_ key p 0) (at_ key p (n - 1)) with
    | true => rw [if_pos rfl]; exact ⟨a, by show n ≤ nrem; walk_at "o", c, Array.Perm.refl _⟩
    | false =>
      rw [if_neg (by simp)]
      have alike : ∀ k, k < n → at_ key p k = at_ key p (n - 1) := fun k hk =>
        KeyOrd.kle_antisymm (c k (n - 1) (by walk_at "o") (by walk_at "o")) (KeyOrd.kle_trans (show O.kle (at_ key p (n - 1)) (at_ key p 0) from q) (c 0 k (Nat.zero_le _) hk))
      have er : ∀ k, at_ key (kas_rev p 0 n) k = at_ key p k := fun k => by
        have := rev_same (key := key) (p := p) (n := n) (q := n - 1) (by walk_at "o") ⟨by walk_at "o", fun k _ h => alike k h⟩ k
        rw [show n - (n - 1 + 1) = 0 by walk_at "o"] at this
        exact this
      have hd : Dn key (kas_rev p 0 n) (n + 1) := Dn.more (fun i j hij hj => by rw [er, er, alike i (by walk_at "o"), alike j hj]; exact KeyOrd.kle_refl _) a (by rw [er, er]; exact hle)
      obtain ⟨a', b', c', d'⟩ := descPart_ok (key := key) (p := kas_rev p 0 n) (n := n) (nrem := nrem) a (by walk_at "o") (by rw [rev_size]; exact hz) hd
      exact ⟨a', b', c', d'.trans rev_perm⟩
  · rw [if_neg hn]
    have hn1 : n = 1 := by walk_at "o"
    subst hn1
    exact descPart_ok (Nat.le_refl _) (by walk_at "o") hz (Dn.more (fun i j hij hj => by rw [show i = j by walk_at "o"]; exact KeyOrd.kle_refl _) (Nat.le_refl _) hle)
theorem place_ok {p : Array Nat} {k : Nat} (hu : Up key p k) : ∀ (f l r : Nat), l ≤ r → r ≤ k → r - l ≤ f → (∀ i, i < l → O.kle (at_ key p i) (at_ key p k)) → (∀ i, r ≤ i → i < k → O.klt (at_ key p k) (at_ key p i)) →
    ev (ansO key) (kas_place p k f l r) ≤ k ∧ (∀ i, i < ev (ansO key) (kas_place p k f l r) → O.kle (at_ key p i) (at_ key p k)) ∧ (∀ i, ev (ansO key) (kas_place p k f l r) ≤ i → i < k → O.klt (at_ key p k) (at_ key p i))
  | 0, l, r, hlr, hrk, hf, h1, h2 => ⟨by show l ≤ k; walk_at "o", h1, fun i hi => h2 i (by show r ≤ i; have : l ≤ i := hi; walk_at "o")⟩
  | f + 1, l, r, hlr, hrk, hf, h1, h2 => by
    have e : ev (ansO key) (kas_place p k (f + 1) l r) = ev (ansO key) (if l ≥ r then .ret l else .ask (p.getD k 0) (p.getD ((l + r) / 2) 0) fun c => if c = true then kas_place p k f l ((l + r) / 2) else kas_place p k f ((l + r) / 2 + 1) r) := rfl
    rw [e]
    by_cases hge : l ≥ r
    · rw [if_pos hge]
      exact ⟨by show l ≤ k; walk_at "o", h1, fun i hi => h2 i (by show r ≤ i; have : l ≤ i := hi; walk_at "o")⟩
    · rw [if_neg hge]
      have e' : ev (ansO key) (.ask (p.getD k 0) (p.getD ((l + r) / 2) 0) fun c => if c = true then kas_place p k f l ((l + r) / 2) else kas_place p k f ((l + r) / 2 + 1) r) = ev (ansO key) (if O.blt (at_ key p k) (at_ key p ((l + r) / 2)) = true then kas_place p k f l ((l + r) / 2) else kas_place p k f ((l + r) / 2 + 1) r) := rfl
      rw [e']
      cases c : O.blt (at_ key p k) (at_ key p ((l + r) / 2)) with
      | true =>
        rw [if_pos rfl]
        exact place_ok hu f l ((l + r) / 2) (by walk_at "o") (by walk_at "o") (by walk_at "o") h1 fun i hi hik => KeyOrd.klt_of_klt_of_kle c (hu _ i hi hik)
      | false =>
        rw [if_neg (by simp)]
        exact place_ok hu f ((l + r) / 2 + 1) r (by walk_at "o") hrk (by walk_at "o") (fun i hi => KeyOrd.kle_trans (hu i ((l + r) / 2) (by walk_at "o") (by walk_at "o")) c) h2
theorem bin_ok : ∀ (f : Nat) (p : Array Nat) (k : Nat), k + f ≤ p.size → Up key p k → Up key (ev (ansO key) (kas_bin f p k)) (k + f) ∧ (ev (ansO key) (kas_bin f p k)).Perm p
  | 0, p, k, hs, hu => ⟨hu, Array.Perm.refl _⟩
  | f + 1, p, k, hs, hu => by
    have e : ev (ansO key) (kas_bin (f + 1) p k) = ev (ansO key) (kas_bin f (bubble p k (k - ev (ansO key) (kas_place p k k 0 k))) (k + 1)) := by
      show ev (ansO key) ((kas_place p k k 0 k).bind fun l => kas_bin f (bubble p k (k - l)) (k + 1)) = _
      rw [ev_bind]
    rw [e]
    obtain ⟨a, b, c⟩ := place_ok (key := key) hu k 0 k (Nat.zero_le _) (Nat.le_refl _) (by walk_at "o") (fun i hi => absurd hi (Nat.not_lt_zero _)) (fun i hi hik => by walk_at "o")
    generalize ev (ansO key) (kas_place p k k 0 k) = l at a b c
    have hb := fun i => at_bub (key := key) (p := p) (k := k) (d := k - l) (by walk_at "o") (by walk_at "o") i
    have hkl : k - (k - l) = l := by walk_at "o"
    rw [hkl] at hb
    have hu' : Up key (bubble p k (k - l)) (k + 1) := fun i j hij hj => by
      rw [hb, hb]
      by_cases hi : i = l
      · rw [if_pos hi]
        by_cases hjl : j = l
        · rw [if_pos hjl]; exact KeyOrd.kle_refl _
        · rw [if_neg hjl, if_pos ⟨by walk_at "o", by walk_at "o"⟩]
          exact KeyOrd.kle_of_klt (c (j - 1) (by walk_at "o") (by walk_at "o"))
      · rw [if_neg hi]
        by_cases hil : l < i ∧ i ≤ k
        · rw [if_pos hil, if_neg (by walk_at "o"), if_pos ⟨by walk_at "o", by walk_at "o"⟩]
          exact hu _ _ (by walk_at "o") (by walk_at "o")
        · rw [if_neg hil]
          have hil' : i < l := by walk_at "o"
          by_cases hjl : j = l
          · rw [if_pos hjl]; exact b i hil'
          · rw [if_neg hjl]
            by_cases hjk : l < j ∧ j ≤ k
            · rw [if_pos hjk]; exact hu _ _ (by walk_at "o") (by walk_at "o")
            · rw [if_neg hjk]; exact hu _ _ hij (by walk_at "o")
    obtain ⟨x, y⟩ := bin_ok f (bubble p k (k - l)) (k + 1) (by rw [bubble_size]; walk_at "o") hu'
    rw [show k + 1 + f = k + (f + 1) by walk_at "o"] at x
    exact ⟨x, y.trans (bubble_perm _ _ _)⟩
theorem sort_ok {n : Nat} (h1 : 1 ≤ n) : Up key (ev (ansO key) (kas_sort n)) n ∧ (ev (ansO key) (kas_sort n)).Perm (List.toArray (List.range n)) := by
  have hz : (List.toArray (List.range n)).size = n := by simp
  obtain ⟨a, b, c, d⟩ := count_ok (key := key) (p := List.toArray (List.range n)) h1 (Nat.le_of_eq hz.symm)
  unfold kas_sort
  rw [ev_bind]
  generalize ev (ansO key) (kas_count n (List.toArray (List.range n))) = r at a b c d
  have hs : r.2.size = n := d.size_eq.trans hz
  by_cases hr : r.1 < n
  · rw [if_pos hr, Nat.max_eq_left a]
    obtain ⟨x, y⟩ := bin_ok (key := key) (n - r.1) r.2 r.1 (by walk_at "o") c
    rw [show r.1 + (n - r.1) = n by walk_at "o"] at x
    exact ⟨x, y.trans d⟩
  · rw [if_neg hr]
    rw [show r.1 = n by walk_at "o"] at c
    exact ⟨c, d⟩
end
end TD

namespace TD
open PySem PySem.W PyProof.Rows

theorem lex_irrefl : ∀ a, lexLt a a = false
  | [] => rfl
  | a :: as => by unfold lexLt; rw [if_pos rfl]; exact lex_irrefl as
theorem lex_total : ∀ a b, lexLt a b = false → lexLt b a = false → a = b
  | [], [], _, _ => rfl
  | [], b :: bs, h, _ => nomatch h
  | a :: as, [], _, h => nomatch h
  | a :: as, b :: bs, h1, h2 => by
    unfold lexLt at h1 h2
    by_cases e : a = b
    · subst e
      rw [if_pos rfl] at h1 h2
      rw [lex_total as bs h1 h2]
    · rw [if_neg e] at h1
      rw [if_neg (Ne.symm e)] at h2
      have := of_decide_eq_false h1
      have := of_decide_eq_false h2
      walk_at "o"
theorem lex_trans : ∀ a b c, lexLt a b = true → lexLt b c = true → lexLt a c = true
  | [], [], [], h1, _ => nomatch h1
  | [], _ :: _, [], _, h2 => nomatch h2
  | [], b, c :: cs, _, _ => rfl
  | a :: as, [], c, h1, _ => nomatch h1
  | a :: as, b :: bs, [], _, h2 => nomatch h2
  | a :: as, b :: bs, c :: cs, h1, h2 => by
    unfold lexLt at h1 h2 ⊢
    by_cases e : a = b
    · subst e
      rw [if_pos rfl] at h1
      by_cases e' : a = c
      · rw [if_pos e'] at h2 ⊢; exact lex_trans as bs cs h1 h2
      · rw [if_neg e'] at h2 ⊢; exact h2
    · rw [if_neg e] at h1
      have h1 := of_decide_eq_true h1
      by_cases e' : b = c
      · subst e'; rw [if_neg e]; exact decide_eq_true h1
      · rw [if_neg e'] at h2
        have h2 := of_decide_eq_true h2
        rw [if_neg (by walk_at "o")]; exact decide_eq_true (by walk_at "o")
theorem lex_neg : ∀ a b c, lexLt a c = true → lexLt a b = true ∨ lexLt b c = true
  | [], [], c, h => .inr h
  | [], b :: bs, c, _ => .inl rfl
  | a :: as, b, [], h => nomatch h
  | a :: as, [], c :: cs, _ => .inr rfl
  | a :: as, b :: bs, c :: cs, h => by
    unfold lexLt at h ⊢
    by_cases e : a = c
    · subst e
      rw [if_pos rfl] at h
      by_cases e' : a = b
      · subst e'; rw [if_pos rfl, if_pos rfl]; exact lex_neg as bs cs h
      · rw [if_neg e', if_neg (Ne.symm e')]
        by_cases q : a < b
        · exact .inl (decide_eq_true q)
        · exact .inr (decide_eq_true (by walk_at "o"))
    · rw [if_neg e] at h
      have h := of_decide_eq_true h
      by_cases e' : a = b
      · subst e'; rw [if_neg e]; exact .inr (decide_eq_true h)
      · rw [if_neg e']
        by_cases q : a < b
        · exact .inl (decide_eq_true q)
        · right; rw [if_neg (by walk_at "o")]; exact decide_eq_true (by walk_at "o")
noncomputable def lexO : KeyOrd := ⟨List Int, lexLt, lex_irrefl, lex_trans, lex_neg, lex_total⟩

theorem lex_end {a b : List Int} {i : Nat} (h1 : i ≤ a.length) (h2 : i ≤ b.length) (h : a.length = i ∨ b.length = i) : lexLt (a.drop i) (b.drop i) = decide (a.length < b.length) := by
  rcases Nat.lt_or_ge i a.length with q | q
  · have hb : b.length = i := h.resolve_left (by walk_at "o")
    rw [List.drop_of_length_le (l := b) (by walk_at "o"), List.drop_eq_getElem_cons q, decide_eq_false (by walk_at "o")]
    rfl
  · rw [List.drop_of_length_le (l := a) (by walk_at "o")]
    rcases Nat.lt_or_ge i b.length with q' | q'
    · rw [List.drop_eq_getElem_cons q', decide_eq_true (by walk_at "o")]; rfl
    · rw [List.drop_of_length_le (l := b) (by walk_at "o"), decide_eq_false (by walk_at "o")]; rfl
theorem ints_len {vs : List Value} {as : List Int} (h : IntsAre vs as) : vs.length = as.length := by
  induction h with
  | nil => rfl
  | cons _ _ _ ih => exact congrArg Nat.succ ih
theorem ints_get {vs : List Value} {as : List Int} (h : IntsAre vs as) : ∀ {i : Nat} {a : Int}, as[i]? = some a → ∃ t, vs[i]? = some (.int a t) := by
  induction h with
  | nil => intro i a e; cases e
  | cons n t _ ih =>
    intro i a e
    cases i with
    | zero => cases e; exact ⟨t, rfl⟩
    | succ i => exact ih (i := i) e
open PySem.SeqAt in
open MeetsSeq MeetsSeq2 MeetsSeq3 in
open AutoSeq1 (wpAny_loadPart') in
theorem lt_loop {l b : Addr} {vs ws : List Value} {as bs : List Int} {n n2 : Nat} (h1 : IntsAre vs as) (h2 : IntsAre ws bs) (k : Nat) :
    ∀ i : Nat, i ≤ as.length → i ≤ bs.length → as.length - i = k → Meets (Builtin.«list.__eq__.loop» ⟨[.ref l, .ref b, rawInt i, rawInt 0], []⟩)
      (fun A R s => s.heap.get? l = some { cls := .type "list", data := .seq vs.toArray n } ∧ s.heap.get? b = some { cls := .type "list", data := .seq ws.toArray n2 } ∧
        R (.ok (.ret (.bool (lexLt (as.drop i) (bs.drop i))))) s) := by
  have hv := ints_len h1
  have hw := ints_len h2
  induction k with
  | zero =>
    intro i hi1 hi2 hk prog w A R s h
    obtain ⟨hp, g, d, tk, os⟩ := s; obtain ⟨hl, hb, h⟩ := h
    wp_walk using wpAny_loadPart' hl, wpAny_loadPart' hb
    have e1 : vs.toArray[((i : Nat) : Int).toNat]? = none := by simp; walk_at "o"
    rw [e1]
    wp_walk using wpAny_loadPart' hl, wpAny_loadPart' hb
    show R (.ok (.ret (.bool (decide (vs.toArray.size < ws.toArray.size))))) _
    rw [lex_end hi1 hi2 (.inl (by walk_at "o"))] at h
    rw [List.size_toArray, List.size_toArray, hv, hw]
    exact h
  | succ k ih =>
    intro i hi1 hi2 hk prog w A R s h
    obtain ⟨hp, g, d, tk, os⟩ := s; obtain ⟨hl, hb, h⟩ := h
    wp_walk using wpAny_loadPart' hl, wpAny_loadPart' hb
    have hlt : i < as.length := by walk_at "o"
    obtain ⟨t, ht⟩ := ints_get h1 (List.getElem?_eq_getElem hlt)
    have e1 : vs.toArray[((i : Nat) : Int).toNat]? = some (.int as[i] t) := by simpa using ht
    rw [e1]
    rcases Nat.lt_or_ge i bs.length with hlt2 | hge
    · obtain ⟨u, hu⟩ := ints_get h2 (List.getElem?_eq_getElem hlt2)
      have e2 : ws.toArray[((i : Nat) : Int).toNat]? = some (.int bs[i] u) := by simpa using hu
      rw [e2]
      rw [List.drop_eq_getElem_cons hlt, List.drop_eq_getElem_cons hlt2] at h
      have hc : ((i : Int) + 1) = ((i + 1 : Nat) : Int) := by push_cast; rfl
      refine wpAny_bind (EqAt.int_int _ _ _ _ prog w _ _ ?_)
      by_cases q : as[i] = bs[i]
      · have hx : lexLt (as[i] :: as.drop (i + 1)) (bs[i] :: bs.drop (i + 1)) = lexLt (as.drop (i + 1)) (bs.drop (i + 1)) := by
          show (if as[i] = bs[i] then _ else _) = _
          rw [if_pos q]
        rw [hx] at h
        rw [show (as[i] == bs[i]) = true from beq_iff_eq.mpr q]
        wp_walk
        rw [hc]
        exact ⟨plainId_quiet plain_eq_loop _, codeAny_builtin entry_eq_loop (by
          rw [Around.under_plainId plain_eq_loop _]
          exact ih (i + 1) (by walk_at "o") (by walk_at "o") (by walk_at "o") prog w A R _ ⟨hl, hb, h⟩)⟩
      · have hx : lexLt (as[i] :: as.drop (i + 1)) (bs[i] :: bs.drop (i + 1)) = decide (as[i] < bs[i]) := by
          show (if as[i] = bs[i] then _ else _) = _
          rw [if_neg q]
        rw [hx] at h
        rw [show (as[i] == bs[i]) = false from beq_eq_false_iff_ne.mpr q]
        wp_walk using wpAny_loadPart' hl, wpAny_loadPart' hb
        rw [e1, e2]
        refine wpAny_bind (wpAny_lt_int ?_)
        wp_walk
        exact h
    · have e2 : ws.toArray[((i : Nat) : Int).toNat]? = none := by simp; walk_at "o"
      rw [e2]
      wp_walk using wpAny_loadPart' hl, wpAny_loadPart' hb
      show R (.ok (.ret (.bool (decide (vs.toArray.size < ws.toArray.size))))) _
      rw [lex_end hi1 hi2 (.inr (by walk_at "o"))] at h
      rw [List.size_toArray, List.size_toArray, hv, hw]
      exact h
end TD

namespace TD
open PySem PySem.W PyProof.Rows
section
variable {prog : Program} {w : World} {A : Around} {E : Value → Shared → Prop} {s : Shared}
open AutoSeq1 (wpAny_loadPart') in
open MeetsSeq MeetsSeq2 MeetsSeq3 in
theorem list_lt {l b : Addr} {vs ws : List Value} {as bs : List Int} {n n2 : Nat} (h1 : IntsAre vs as) (h2 : IntsAre ws bs) : Meets (Builtin.«list.__lt__» ⟨[.ref l, .ref b], []⟩)
      (fun A R s => s.heap.get? l = some { cls := .type "list", data := .seq vs.toArray n } ∧ s.heap.get? b = some { cls := .type "list", data := .seq ws.toArray n2 } ∧ R (.ok (.ret (.bool (lexLt as bs)))) s) := by
  intro prog w A R s h
  obtain ⟨hp, g, d, tk, os⟩ := s; obtain ⟨hl, hb, h⟩ := h
  have f3 := AutoSeq1.sub_list_list
  wp_walk using wpAny_loadPart' hl, wpAny_loadPart' hb
  exact ⟨plainId_quiet plain_eq_loop _, codeAny_builtin entry_eq_loop (by
    rw [Around.under_plainId plain_eq_loop _]
    exact lt_loop h1 h2 _ 0 (Nat.zero_le _) (Nat.zero_le _) rfl prog w A R _ ⟨hl, hb, by simpa using h⟩)⟩
theorem lt_lists (hu : A.units < cLine) {l b : Addr} {vs ws : List Value} {as bs : List Int} {n n2 : Nat} (h1 : IntsAre vs as) (h2 : IntsAre ws bs)
    (hl : s.heap.get? l = some { cls := .type "list", data := .seq vs.toArray n }) (hb : s.heap.get? b = some { cls := .type "list", data := .seq ws.toArray n2 }) {Q : Bool → Shared → Prop} (h : Q (lexLt as bs) s) :
    wpAny (model prog w) A (keyLt' oneType' (.ref l) (.ref b)) Q E s := by
  rw [keyLt'_oneType, oneLt'_eq]
  simp only [if_true]
  refine wpAny_bind (wpAny_cRoomFor hu ?_)
  refine wpAny_bind (wpAny_callSpecialIfBound?_slot (T := "list") ⟨_, hl, rfl⟩ PySem.F.slot_list_lt ?_)
  refine call_meets PySem.F.slot_list_lt ⟨_, hl, rfl⟩ PySem.F.entry_list_lt (PySem.F.args_list_lt_2 _ _) (list_lt h1 h2) ⟨hl, hb, ?_⟩
  exact wpAny_truthy_bool h
end

noncomputable def AskOk {α : Type} (ans : Nat → Nat → Bool) (n : Nat) : KasT α → Prop
  | .ret _ => True
  | .ask i j k => i < n ∧ j < n ∧ AskOk ans n (k (ans i j))
theorem askOk_bind {α β : Type} {ans : Nat → Nat → Bool} {n : Nat} {f : α → KasT β} : ∀ (t : KasT α), AskOk ans n t → AskOk ans n (f (ev ans t)) → AskOk ans n (t.bind f)
  | .ret _, _, h => h
  | .ask i j k, h, h' => ⟨h.1, h.2.1, askOk_bind (k (ans i j)) h.2.2 h'⟩
theorem ask_wp {α : Type} {ans : Nat → Nat → Bool} {n : Nat} {cmp : Nat → Nat → (Bool → Shared → Prop) → Shared → Prop} {s : Shared} (h : ∀ i j C, i < n → j < n → C (ans i j) s → cmp i j C s) {Q : α → Shared → Prop} : ∀ (t : KasT α), AskOk ans n t → Q (ev ans t) s → t.kasWp cmp Q s
  | .ret a, _, q => q
  | .ask i j k, a, q => h i j _ a.1 a.2.1 (ask_wp h (k (ans i j)) a.2.2 q)
section
variable {ans : Nat → Nat → Bool} {n : Nat}
noncomputable def In (n : Nat) (p : Array Nat) : Prop := ∀ i, p.getD i 0 < n
theorem In.of_mem {p : Array Nat} (h0 : 0 < n) (h : ∀ x ∈ p, x < n) : In n p := fun i => by
  rw [Array.getD_eq_getD_getElem?]
  cases e : p[i]? with
  | none => exact h0
  | some x => exact h x (Array.mem_of_getElem? e)
theorem In.mem {p : Array Nat} (h : In n p) : ∀ x ∈ p, x < n := fun x hx => by
  obtain ⟨i, hi, e⟩ := Array.getElem_of_mem hx
  have := h i
  rw [Array.getD_eq_getD_getElem?, Array.getElem?_eq_getElem hi, e] at this
  exact this
theorem In.perm {p p' : Array Nat} (h : In n p) (q : p'.Perm p) : In n p' := In.of_mem (Nat.lt_of_le_of_lt (Nat.zero_le _) (h 0)) fun x hx => h.mem x (q.mem_iff.mp hx)
theorem asc_ask {p : Array Nat} (h : In n p) : ∀ (f k : Nat), AskOk ans n (kas_asc p f k)
  | 0, _ => trivial
  | f + 1, k => by
    refine ⟨h _, h _, ?_⟩
    show AskOk ans n (if _ then _ else _)
    split
    · trivial
    · exact asc_ask h f _
theorem desc_ask : ∀ (f : Nat) (p : Array Nat) (k q : Nat), In n p → AskOk ans n (kas_desc f p k q) ∧ In n (ev ans (kas_desc f p k q)).1
  | 0, p, k, q, h => ⟨trivial, h⟩
  | f + 1, p, k, q, h => by
    have e : kas_desc (f + 1) p k q = .ask (p.getD k 0) (p.getD (k - 1) 0) fun c => if c = true then (if q > 0 then kas_desc f (kas_rev p (k - (q + 1)) k) (k + 1) 0 else kas_desc f p (k + 1) 0)
        else .ask (p.getD (k - 1) 0) (p.getD k 0) fun d => if d = true then .ret (p, k, q) else kas_desc f p (k + 1) (q + 1) := rfl
    rw [e]
    suffices hs : AskOk ans n (if ans (p.getD k 0) (p.getD (k - 1) 0) = true then (if q > 0 then kas_desc f (kas_rev p (k - (q + 1)) k) (k + 1) 0 else kas_desc f p (k + 1) 0)
        else .ask (p.getD (k - 1) 0) (p.getD k 0) fun d => if d = true then .ret (p, k, q) else kas_desc f p (k + 1) (q + 1)) ∧ In n (ev ans (if ans (p.getD k 0) (p.getD (k - 1) 0) = true then (if q > 0 then kas_desc f (kas_rev p (k - (q + 1)) k) (k + 1) 0 else kas_desc f p (k + 1) 0)
        else .ask (p.getD (k - 1) 0) (p.getD k 0) fun d => if d = true then .ret (p, k, q) else kas_desc f p (k + 1) (q + 1))).1 from ⟨⟨h _, h _, hs.1⟩, hs.2⟩
    split
    · split
      · exact desc_ask f _ _ _ (h.perm rev_perm)
      · exact desc_ask f _ _ _ h
    · suffices hs : AskOk ans n (if ans (p.getD (k - 1) 0) (p.getD k 0) = true then .ret (p, k, q) else kas_desc f p (k + 1) (q + 1)) ∧ In n (ev ans (if ans (p.getD (k - 1) 0) (p.getD k 0) = true then .ret (p, k, q) else kas_desc f p (k + 1) (q + 1))).1 from ⟨⟨h _, h _, hs.1⟩, hs.2⟩
      split
      · exact ⟨trivial, h⟩
      · exact desc_ask f _ _ _ h
theorem tail3_ask {p : Array Nat} {k m : Nat} (h : In n p) : AskOk ans n (kas_tail3 k m p) ∧ In n (ev ans (kas_tail3 k m p)).2 := by
  unfold kas_tail3
  have hr := h.perm (p' := kas_rev p 0 k) rev_perm
  refine ⟨askOk_bind _ (asc_ask hr _ _) trivial, ?_⟩
  rw [ev_bind]
  exact hr
theorem descPart_ask {p : Array Nat} {k m : Nat} (h : In n p) : AskOk ans n (kas_descPart k m p) ∧ In n (ev ans (kas_descPart k m p)).2 := by
  unfold kas_descPart
  obtain ⟨a, b⟩ := desc_ask (ans := ans) (m - (k + 1)) p (k + 1) 0 h
  rw [ev_bind]
  suffices hs : AskOk ans n ((fun r : Array Nat × Nat × Nat => if r.2.2 > 0 then kas_tail3 r.2.1 m (kas_rev r.1 (r.2.1 - (r.2.2 + 1)) r.2.1) else kas_tail3 r.2.1 m r.1) (ev ans (kas_desc (m - (k + 1)) p (k + 1) 0))) ∧ In n (ev ans ((fun r : Array Nat × Nat × Nat => if r.2.2 > 0 then kas_tail3 r.2.1 m (kas_rev r.1 (r.2.1 - (r.2.2 + 1)) r.2.1) else kas_tail3 r.2.1 m r.1) (ev ans (kas_desc (m - (k + 1)) p (k + 1) 0)))).2 from ⟨askOk_bind _ a hs.1, hs.2⟩
  dsimp only
  split
  · exact tail3_ask (b.perm rev_perm)
  · exact tail3_ask b
theorem count_ask {p : Array Nat} {m : Nat} (h : In n p) : AskOk ans n (kas_count m p) ∧ In n (ev ans (kas_count m p)).2 := by
  unfold kas_count
  rw [ev_bind]
  suffices hs : AskOk ans n ((fun k => if (k == m) = true then .ret (k, p) else if k > 1 then .ask (p.getD 0 0) (p.getD (k - 1) 0) fun c => if c = true then .ret (k, p) else kas_descPart k m (kas_rev p 0 k) else kas_descPart k m p) (ev ans (kas_asc p (m - 1) 1))) ∧ In n (ev ans ((fun k => if (k == m) = true then .ret (k, p) else if k > 1 then .ask (p.getD 0 0) (p.getD (k - 1) 0) fun c => if c = true then .ret (k, p) else kas_descPart k m (kas_rev p 0 k) else kas_descPart k m p) (ev ans (kas_asc p (m - 1) 1)))).2 from ⟨askOk_bind _ (asc_ask h _ _) hs.1, hs.2⟩
  dsimp only
  split
  · exact ⟨trivial, h⟩
  split
  · suffices hs : AskOk ans n (if ans (p.getD 0 0) (p.getD (ev ans (kas_asc p (m - 1) 1) - 1) 0) = true then .ret (ev ans (kas_asc p (m - 1) 1), p) else kas_descPart (ev ans (kas_asc p (m - 1) 1)) m (kas_rev p 0 (ev ans (kas_asc p (m - 1) 1)))) ∧ In n (ev ans (if ans (p.getD 0 0) (p.getD (ev ans (kas_asc p (m - 1) 1) - 1) 0) = true then .ret (ev ans (kas_asc p (m - 1) 1), p) else kas_descPart (ev ans (kas_asc p (m - 1) 1)) m (kas_rev p 0 (ev ans (kas_asc p (m - 1) 1))))).2 from ⟨⟨h _, h _, hs.1⟩, hs.2⟩
    split
    · exact ⟨trivial, h⟩
    · exact descPart_ask (h.perm rev_perm)
  · exact descPart_ask h
theorem place_ask {p : Array Nat} {k : Nat} (h : In n p) : ∀ (f l r : Nat), AskOk ans n (kas_place p k f l r)
  | 0, _, _ => trivial
  | f + 1, l, r => by
    show AskOk ans n (if l ≥ r then .ret l else .ask (p.getD k 0) (p.getD ((l + r) / 2) 0) fun c => if c = true then kas_place p k f l ((l + r) / 2) else kas_place p k f ((l + r) / 2 + 1) r)
    split
    · trivial
    · refine ⟨h _, h _, ?_⟩
      show AskOk ans n (if _ then _ else _)
      split
      · exact place_ask h f _ _
      · exact place_ask h f _ _
theorem bin_ask : ∀ (f : Nat) (p : Array Nat) (k : Nat), In n p → AskOk ans n (kas_bin f p k)
  | 0, _, _, _ => trivial
  | f + 1, p, k, h => askOk_bind _ (place_ask h _ _ _) (bin_ask f _ _ (h.perm (bubble_perm _ _ _)))
theorem sort_ask (h1 : 0 < n) : AskOk ans n (kas_sort n) := by
  unfold kas_sort
  have h : In n (List.toArray (List.range n)) := In.of_mem h1 fun x hx => List.mem_range.mp (by simpa using hx)
  obtain ⟨a, b⟩ := count_ask (ans := ans) (m := n) h
  refine askOk_bind _ a ?_
  split
  · exact bin_ask _ _ _ b
  · trivial
end
end TD

namespace TD
open PySem PySem.W PyProof.Rows
section
variable {W : Cx} {A : Around} {E : Value → Shared → Prop} {env : Env} {vis : List (Nat × Str)} {loc : Loc} {mem : Mem} {s : Shared} {Q : Val → Mem → Prop}
noncomputable abbrev pairD : Addr × List Int := ((0 : Nat), [])
theorem ints_ofR {h : Heap} {ns : List Int} : ∀ {vs : List Value}, VRels W h (ns.map .int) vs → IntsAre vs ns := by
  induction ns with
  | nil => intro vs r; obtain rfl := r.inv0; exact .nil
  | cons b bs ih =>
    intro vs r
    obtain ⟨y, ys, rfl, a, r'⟩ := r.inv
    obtain ⟨t, rfl⟩ := a.int
    exact .cons b t (ih r')
theorem refs_inv {h : Heap} : ∀ {qs : List (Addr × List Int)} {vs : List Value}, VRels W h (qs.map fun p => .ref p.1) vs → vs = qs.map fun p => Value.ref p.1
  | [], _, r => r.inv0
  | p :: qs, _, r => by
    obtain ⟨y, ys, rfl, a, r'⟩ := r.inv
    obtain rfl := a.ref
    rw [refs_inv r']; rfl
theorem refs_rel {h : Heap} (qs : List (Addr × List Int)) : VRels W h (qs.map fun p => .ref p.1) (qs.map fun p => Value.ref p.1) := by
  induction qs with
  | nil => rfl
  | cons p r ih => exact .cons .mkRef ih
theorem map_getD_range {α : Type} (d : α) (l : List α) : (List.range l.length).map (fun i => l.getD i d) = l := by
  apply List.ext_getElem?
  intro i
  rw [List.getElem?_map]
  by_cases h : i < l.length
  · rw [List.getElem?_range h, List.getElem?_eq_getElem h]
    show some (l.getD i d) = _
    rw [List.getD_eq_getElem?_getD, List.getElem?_eq_getElem h]; rfl
  · rw [List.getElem?_eq_none (by simpa using h), List.getElem?_eq_none (by walk_at "o")]; rfl
theorem sortedLL (R : Rel W env vis loc mem s) (hA : A.units + 10 < cLine) {l : Addr} {ps : List (Addr × List Int)} (hl : s.heap.IsList l (List.toArray (ps.map fun p => Value.ref p.1)))
    (hp : ∀ p ∈ ps, mem p.1 = some (.list (p.2.map .int))) (h2 : 2 ≤ ps.length) (h64 : ps.length < 64)
    (h : ∀ qs : List (Addr × List Int), qs.Perm ps → qs.Pairwise (fun p q => lexLt q.2 p.2 = false) → freshL mem (qs.map fun p => .ref p.1) Q) :
    wpAny (model W.prog W.w) A (call (.builtin "sorted") [.ref l]) (PM W mem s Q) E s := by
  obtain ⟨m, hn⟩ := R.hasNs
  obtain ⟨F, N⟩ := fr_all hn
  have lists : ∀ p ∈ ps, p.1 ≠ env.locals ∧ ∃ vs n, s.heap.get? p.1 = some { cls := .type "list", data := .seq (List.toArray vs) n } ∧ IntsAre vs p.2 := fun p q => by
    refine ⟨fun e => ?_, ?_⟩
    · have := hp p q; rw [e, R.sep _ (.inl rfl)] at this; cases this
    · obtain ⟨⟨vs, ⟨n, e⟩, r⟩, _⟩ := R.m.mems _ _ (hp p q)
      exact ⟨vs, n, e, ints_ofR r⟩
  have hlen : (ps.map fun p => Value.ref p.1).length = ps.length := List.length_map _
  have item : ∀ i, i < ps.length → ps.getD i pairD ∈ ps ∧ (ps.map fun p => Value.ref p.1).getD i .none = .ref (ps.getD i pairD).1 := fun i hi => by
    have e : ps[i]? = some (ps.getD i pairD) := by rw [List.getD_eq_getElem?_getD, List.getElem?_eq_getElem hi]; rfl
    refine ⟨List.mem_of_getElem? e, ?_⟩
    rw [List.getD_eq_getElem?_getD, List.getElem?_map, e]; rfl
  refine kas_sorted (T := .type "list") F N hl (by rw [hlen]; exact h2) (by rw [hlen]; exact h64) (fun h' F' N' v hv => ?_) rfl fun D e1 h' F' N' hD => ?_
  · obtain ⟨p, q, rfl⟩ := List.mem_map.mp hv
    have k := KeepL.of_fr hn F' N' fun p hp => hp
    obtain ⟨hne, vs, n, e, _⟩ := lists p q
    intro A' Q' E' s' hk hq
    exact wpAny_typeOf (T := "list") ⟨_, hk _ _ (k.keep _ _ hne e), rfl⟩ hq
  · have k := KeepL.of_fr hn F' N' fun p hp => .tail _ hp
    rw [hlen]
    let key : Nat → lexO.α := fun i => (ps.getD i pairD).2
    refine ask_wp (n := ps.length) (ans := ansO (O := lexO) key) (fun i j C hi hj hC => ?_) (kas_sort ps.length) (sort_ask (by walk_at "o")) ?_
    · obtain ⟨mi, ei⟩ := item i hi
      obtain ⟨mj, ej⟩ := item j hj
      obtain ⟨ni, vi, ci, xi, yi⟩ := lists _ mi
      obtain ⟨nj, vj, cj, xj, yj⟩ := lists _ mj
      show wpAny _ _ (keyLt' oneType' _ _) _ _ _
      rw [ei, ej]
      exact lt_lists (by show A.units + 1 + 1 < cLine; walk_at "o") yi yj (k.keep _ _ ni xi) (k.keep _ _ nj xj) hC
    · obtain ⟨hup, hpm⟩ := sort_ok (O := lexO) (key := key) (n := ps.length) (by walk_at "o")
      generalize ev (ansO (O := lexO) key) (kas_sort ps.length) = p at hup hpm
      have hpl : p.toList.Perm (List.range ps.length) := by simpa using hpm.toList
      have hin : ∀ i ∈ p.toList, i < ps.length := fun i hi => List.mem_range.mp (hpl.mem_iff.mp hi)
      have hsz : p.toList.length = ps.length := by rw [hpl.length_eq, List.length_range]
      refine KasFin.intro F' N' (.head fun q hq => Nat.ne_of_lt (hD q hq)) fun h'' c F'' N'' => ?_
      have k2 := KeepL.of_fr hn F'' N'' fun p hp => .tail _ hp
      have hnone : s.heap.get? D = none := by
        have hDn := N' _ (.head _)
        cases q : s.heap.get? D with
        | none => rfl
        | some o =>
          rcases Nat.lt_or_ge D env.locals with hlt | hge
          · have := hDn.2.2; rw [below_get hlt, q] at this; cases this
          · exact absurd (hD (D, o) (mem_others.mpr ⟨Nat.lt_of_le_of_ne hge (Ne.symm hDn.2.1), q⟩)) (Nat.lt_irrefl _)
      have hout : (p.toList.map fun i => (ps.map fun p => Value.ref p.1).getD i Value.none) = (p.toList.map fun i => ps.getD i pairD).map fun p => Value.ref p.1 := by
        rw [List.map_map]
        exact List.map_congr_left fun i hi => (item i (hin i hi)).2
      have hf := h (p.toList.map fun i => ps.getD i pairD) (by
        have := hpl.map fun i => ps.getD i pairD
        rw [map_getD_range] at this
        exact this) (by
        rw [List.pairwise_map, List.pairwise_iff_getElem]
        intro i j hi hj hij
        have hj' : j < ps.length := by rw [← hsz]; exact hj
        have := hup i j (Nat.le_of_lt hij) hj'
        unfold KeyOrd.kle at_ at this
        have gi : p.getD i 0 = p.toList[i] := by rw [Array.getD_eq_getD_getElem?, Array.getElem?_eq_getElem (by simpa using hi)]; simp
        have gj : p.getD j 0 = p.toList[j] := by rw [Array.getD_eq_getD_getElem?, Array.getElem?_eq_getElem (by simpa using hj)]; simp
        rw [gi, gj] at this
        exact this)
      have hD' := (N'' _ (.head _)).1
      rw [hout] at hD'
      exact freshL_sound (s' := { s with heap := h'' }) R k2 hnone hD' (refs_rel _) hf

section
variable {prog : Program} {w : World}
theorem sort_short {a : Addr} {vs : List Value} {n : Nat} {P : Fin → Shared → Prop} (ho : s.heap.get? a = some (seqObj "list" vs.toArray n)) (h2 : vs.length < 2)
    (h : P (.done (.ret .none)) { s with heap := sortedHeap s.heap a vs vs.toArray }) : wpAny (model prog w) A (Builtin.«list.sort» ⟨[.ref a], []⟩) P E s := by
  have ha : a < s.heap.objs.size := Heap.lt_size ho
  have hv : vs.toArray.size < 2 := by rw [List.size_toArray]; exact h2
  obtain ⟨e1, ho1⟩ : ∃ e1, (s.heap.update a (Obj.mapSeq fun _ => #[])).get? a = some (seqObj "list" #[] e1) := ⟨_, get?_update_seq ho (fun _ => #[])⟩
  have ho6 : (((s.heap.update a (Obj.mapSeq fun _ => #[])).push (seqObj "tuple" vs.toArray 0)).push (seqObj "list" #[] 0)).get? a = some (seqObj "list" #[] e1) :=
    Heap.get?_push_of_some _ (Heap.get?_push_of_some _ ho1)
  have hz : (vs.toArray.zip vs.toArray).map (·.2) = vs.toArray := by
    apply Array.toList_inj.mp
    rw [Array.toList_map, Array.toList_zip]
    show (vs.zip vs).map Prod.snd = vs
    rw [List.map_snd_zip (Nat.le_refl _)]
  rw [list_sort_plain]
  refine wpAny_bind (listItems_at ho rfl ?_)
  refine wpAny_bind (listUpdate_at ho rfl ?_ (by rw [sizeLine_eq]; walk_at "o") (Nat.zero_le _))
  refine wpAny_bind (seqEpoch_at ho1 rfl ?_)
  refine wpAny_bind (wpAny_newTuple ?_ (by show vs.length ≤ _; rw [sizeLine_eq]; walk_at "o"))
  refine wpAny_bind (wpAny_newList ?_ (Nat.zero_le _))
  refine wpAny_holding ?_
  show wpAny (model prog w) A _ P E { s with heap := ((s.heap.update a (Obj.mapSeq fun _ => #[])).push (seqObj "tuple" vs.toArray 0)).push (seqObj "list" #[] 0) }
  dsimp only
  rw [if_pos hv, if_pos hv]
  refine wpAny_bind (wpAny_pure ?_)
  rw [StateT.run_pure]
  refine wpAny_bind (wpAny_pure ?_)
  dsimp only
  refine wpAny_bind (seqEpoch_at ho6 rfl ?_)
  refine wpAny_bind (listUpdate_at ho6 rfl ?_ (hsz2 := by rw [Array.size_map]; show (pairsOf vs).size ≤ _; rw [pairsOf_size, sizeLine_eq]; walk_at "o"))
  simp only [bne_self_eq_false, Bool.false_eq_true, if_false]
  refine wpAny_pure ?_
  rw [hz]
  exact h
theorem sorted_short {l : Addr} {vs : List Value} {P : Value → Shared → Prop} (hl : s.heap.IsList l vs.toArray) (h2 : vs.length < 2)
    (h : P (.ref (s.heap.objs.size + 1)) { s with heap := sortedAll s.heap vs vs.toArray }) : wpAny (model prog w) A (call (.builtin "sorted") [.ref l]) P E s := by
  refine Calls.call_function_entry kind_sorted plain_sorted entry_sorted (args_sorted1 _) ?_
  unfold Builtin.«sorted»
  refine wpAny_bind (m := checkCount "sorted" 1 1 _) (wpAny_pure ?_)
  refine wpAny_bind (collect_list hl ?_ (by rw [sizeLine_eq]; walk_at "o"))
  refine wpAny_bind (wpAny_newList ?_ (by rw [sizeLine_eq]; walk_at "o"))
  have hsz : ((s.heap.push (seqObj "list" #[] 0)).update s.heap.objs.size (Obj.mapSeq (· ++ vs.toArray))).objs.size = s.heap.objs.size + 1 := by
    rw [Heap.size_update, size_push']
  have hoL : (((s.heap.push (seqObj "list" #[] 0)).update s.heap.objs.size (Obj.mapSeq (· ++ vs.toArray))).push (seqObj "list" vs.toArray 0)).get? (s.heap.objs.size + 1) = some (seqObj "list" vs.toArray 0) := by
    rw [← hsz]; exact Heap.get?_push_size _ rfl
  show wpAny _ _ _ _ _ { s with heap := ((s.heap.push (seqObj "list" #[] 0)).update s.heap.objs.size (Obj.mapSeq (· ++ vs.toArray))).push (seqObj "list" vs.toArray 0) }
  rw [hsz]
  refine wpAny_bind (wpAny_holding (wpAny_call_entry slot_list_sort ⟨_, hoL, rfl⟩ entry_list_sort (sort_short hoL h2 ⟨_, rfl, ?_⟩) (args_list_sort _)))
  exact wpAny_pure ⟨_, rfl, h⟩
end
theorem sortedLs (R : Rel W env vis loc mem s) (hA : A.units + 10 < cLine) {l : Addr} {ps : List (Addr × List Int)} (hl : s.heap.IsList l (List.toArray (ps.map fun p => Value.ref p.1)))
    (hp : ∀ p ∈ ps, mem p.1 = some (.list (p.2.map .int))) (h64 : ps.length < 64)
    (h : ∀ qs : List (Addr × List Int), qs.Perm ps → qs.Pairwise (fun p q => lexLt q.2 p.2 = false) → freshL mem (qs.map fun p => .ref p.1) Q) :
    wpAny (model W.prog W.w) A (call (.builtin "sorted") [.ref l]) (PM W mem s Q) E s := by
  rcases Nat.lt_or_ge ps.length 2 with h2 | h2
  · refine sorted_short hl (by rw [List.length_map]; exact h2) ?_
    have k : KeepL env.locals s.heap (sortedAll s.heap (ps.map fun p => Value.ref p.1) (List.toArray (ps.map fun p => Value.ref p.1))) := .of_keeps fun b o e => sortedAll_old e
    obtain ⟨e, he⟩ := sortedAll_at s.heap (ps.map fun p => Value.ref p.1) (List.toArray (ps.map fun p => Value.ref p.1))
    refine freshL_sound (s' := { s with heap := sortedAll s.heap (ps.map fun p => Value.ref p.1) (List.toArray (ps.map fun p => Value.ref p.1)) }) R k (Heap.get?_none_of_le (Nat.le_succ _)) he (refs_rel _) (h ps (List.Perm.refl _) ?_)
    match ps, h2 with
    | [], _ => exact .nil
    | [_], _ => exact List.pairwise_singleton _ _
    | _ :: _ :: _, h2 => exact absurd h2 (by simp)
  · exact sortedLL R hA hl hp h2 h64 h
end
end TD

namespace TD
open PySem PyProof.Rows
variable {W : Cx} {A : Around} {E : Value → Shared → Prop} {env : Env} {vis : List (Nat × Str)} {loc : Loc} {mem : Mem} {s : Shared} {Q : Val → Mem → Prop}

theorem seq_rel (M : MRel W mem s) {v : Val} {y : Value} {xs : List Val} (hv : VRel W s.heap v y) (e : seq mem v = some xs) :
    ∃ a vs, y = .ref a ∧ (s.heap.IsList a (List.toArray vs) ∨ IsTup s.heap a (List.toArray vs)) ∧ VRels W s.heap xs vs := by
  rcases seq_or e with rfl | e
  · obtain ⟨a, vs, rfl, h, r⟩ := hv
    exact ⟨a, vs, rfl, .inr h, r⟩
  · obtain ⟨a, vs, rfl, h, r⟩ := lst_rel M hv e; exact ⟨a, vs, rfl, .inl h, r⟩

theorem bools_of {h : Heap} {bs : List Bool} : ∀ {vs : List Value}, VRels W h (bs.map .bool) vs → LSm.BoolsAre vs bs := by
  induction bs with
  | nil => intro vs r; obtain rfl := r.inv0; exact .nil
  | cons b bs ih =>
    intro vs r
    obtain ⟨y, ys, rfl, a, r'⟩ := r.inv
    obtain rfl := a.bool
    exact .cons b (ih r')
theorem ints_of {h : Heap} {ns : List Int} : ∀ {vs : List Value}, VRels W h (ns.map .int) vs → IntsAre vs ns := by
  induction ns with
  | nil => intro vs r; obtain rfl := r.inv0; exact .nil
  | cons b bs ih =>
    intro vs r
    obtain ⟨y, ys, rfl, a, r'⟩ := r.inv
    obtain ⟨t, rfl⟩ := a.int
    exact .cons b t (ih r')
theorem of_ints {h : Heap} : ∀ {vs : List Value} {ns : List Int}, IntsAre vs ns → VRels W h (ns.map .int) vs := by
  intro vs ns r
  induction r with
  | nil => exact .nil
  | cons n t _ ih => exact .cons .mkInt ih

theorem lid63 {n : Nat} (h : n < lid) : ((n : Nat) : Int) < 2 ^ 63 := by unfold lid at h; walk_at "o"

theorem PM.kept (R : Rel W env vis loc mem s) {s' : Shared} {v : Val} {y : Value} (k : KeepL env.locals s.heap s'.heap) (hv : VRel W s'.heap v y) (hq : Q v mem) (hg : s'.gens = s.gens := by rfl) (ho : s'.os = s.os := by rfl) : PM W mem s Q y s' :=
  ⟨v, mem, hv, R.keepM k hg ho, R.keepS k, hq⟩

theorem ints_carried {ns : List Int} : ∀ {ys : List Value}, CarriedAll ys (ns.map PyData.int) → IntsAre ys ns := by
  induction ns with
  | nil => intro ys h; cases h; exact .nil
  | cons n ns ih =>
    intro ys h
    cases h with
    | cons h1 h2 => cases h1; exact .cons _ _ (ih h2)
theorem range_ints {h : Heap} (n : Nat) {ys : List Value} (c : CarriedAll ys ((rangeInts 0 1 n).map PyData.int)) : VRels W h (rangeV n) ys := by
  have e : rangeV (n : Int) = (rangeInts 0 1 n).map Val.int := by
    unfold rangeV rangeInts
    rw [List.map_map]
    simp [Function.comp_def]
  rw [e]
  exact of_ints (ints_carried c)

noncomputable def B1.val : B1 → Value
  | .len => .builtin "len"
  | .all => .builtin "all"
  | .sum => .builtin "sum"
  | .minL => .builtin "min"
  | .list => .type "list"
  | .tuple => .type "tuple"
  | .sorted => .builtin "sorted"
  | .int => .type "int"
  | .lrange => .none
  | .lrev => .none
  | .lenset => .none
theorem b1_sound (R : Rel W env vis loc mem s) {n : Nat} (hr : Room n A) {b : B1} {x : Val} {a : Value} (hb : b.inner = none) (hx : VRel W s.heap x a) (h : wpB1 b x Q mem) :
    wpAny (model W.prog W.w) A (call b.val [a]) (PM W mem s Q) E s := by
  obtain ⟨m, hn⟩ := R.hasNs
  obtain ⟨F, N⟩ := fr_all hn
  have hh := hr.handled
  cases b
  · obtain ⟨xs, e, hl, hq⟩ := h
    obtain ⟨a, vs, rfl, h | h, r⟩ := seq_rel R.m hx e
    · refine len_list h (by rw [List.size_toArray, r.length]; exact lid63 hl) ?_
      rw [List.size_toArray, r.length]; exact PM.val R.m .mkInt hq _
    · refine len_tuple h (by rw [List.size_toArray, r.length]; exact lid63 hl) ?_
      rw [List.size_toArray, r.length]; exact PM.val R.m .mkInt hq _
  · obtain ⟨bs, e, hq⟩ := h
    obtain ⟨a, vs, rfl, h, r⟩ := lst_rel R.m hx e
    refine LSm.all_bools F N hh h (bools_of r) fun h' tk F' N' => ?_
    exact PM.kept R (.of_fr hn F' N' fun p hp => hp) .mkBool hq
  · obtain ⟨is, e, _, _, hq⟩ := h
    obtain ⟨a, vs, rfl, h, r⟩ := lst_rel R.m hx e
    refine LSm.sum_ints F N hh h (ints_of r) fun h' tk t' F' N' => ?_
    exact PM.kept R (.of_fr hn F' N' fun p hp => hp) .mkInt hq
  · obtain ⟨is, e, hne, _, hq⟩ := h
    obtain ⟨a, vs, rfl, h, r⟩ := lst_rel R.m hx e
    refine min_list_N hh F N h (ints_of r) (List.length_pos_iff.mpr hne) fun h' M t tk F' N' h1 h2 => ?_
    exact PM.kept R (.of_fr hn F' N' fun p hp => hp) .mkInt (hq M h1 h2)
  · obtain ⟨xs, e, hf⟩ := h
    obtain ⟨a, vs, rfl, h, r⟩ := seq_rel R.m hx e
    have hsz : vs.toArray.size ≤ sizeLine := by rw [List.size_toArray, r.length]; exact lid_line hf.1
    have go : ∀ T, (T = "list" ∨ T = "tuple") → (∃ o, s.heap.get? a = some o ∧ o.cls = .type T ∧ ∃ n, o.data = .seq vs.toArray n) → wpAny (model W.prog W.w) A (call (.type "list") [.ref a]) (PM W mem s Q) E s := by
      rintro T hT ⟨o, ho, hc, n, hd⟩
      refine call_list_seq a hT ho hc hd (fun h' c' hk hD => ?_) hsz
      exact freshL_sound R (.of_keeps hk) (size_none _) hD r hf
    rcases h with h | h
    · exact go _ (.inl rfl) h
    · exact go _ (.inr rfl) h
  · obtain ⟨xs, e, hl, hq⟩ := h
    obtain ⟨a, vs, rfl, h, r⟩ := lst_rel R.m hx e
    have hsz : vs.toArray.size ≤ sizeLine := by rw [List.size_toArray, r.length]; exact lid_line hl
    refine call_tuple_list h (fun h' hk => ?_) hsz
    have k : KeepL env.locals s.heap (h'.push { cls := .type "tuple", data := .seq vs.toArray }) := .of_keeps fun b o e => Heap.get?_push_of_some _ (hk b o e)
    exact PM.kept R (v := .tup xs) k (Exists.intro _ ⟨vs, rfl, isTup_new, r.keep (R.keepF k)⟩) hq
  · obtain ⟨xs, e, ⟨is, rfl, h64, hq⟩ | ⟨ps, rfl, hp, h64, hq⟩⟩ := h
    rotate_left
    · obtain ⟨a, vs, rfl, h, r⟩ := lst_rel R.m hx e
      obtain rfl := refs_inv r
      exact sortedLs R (by have := hr.units; walk_at "o") h hp h64 hq
    obtain ⟨a, vs, rfl, h, r⟩ := lst_rel R.m hx e
    refine sorted_N F N h (ints_of r) (by have := r.length; rw [List.length_map] at this; walk_at "o") fun h' vs' ns' e' F' N' hi hp hs => ?_
    have k := KeepL.of_fr hn F' N' fun p hp => .tail _ hp
    have hnone : s.heap.get? (s.heap.objs.size + 1) = none := by
      cases q : s.heap.get? (s.heap.objs.size + 1) with
      | none => rfl
      | some o => exact absurd (Heap.lt_size q) (Nat.not_lt.mpr (Nat.le_succ _))
    exact freshL_sound R k hnone (N' _ (.head _)).1 (of_ints hi) (hq ns' hp hs)
  · obtain ⟨b, rfl, hq⟩ := h
    obtain rfl := hx.bool
    exact call_int_bool (PM.val R.m .mkInt hq _)
  · exact absurd hb (by decide)
  · exact absurd hb (by decide)
  · exact absurd hb (by decide)
end TD

namespace TD
open PySem PyProof.Rows
section
variable {prog : Program} {w : World} {A : Around} {E : Value → Shared → Prop} {s : Shared}
theorem adjust_to (k n : Nat) (h : k ≤ n) : Builtin.Slice.sliceAdjust none (some (k : Int)) 1 (n : Int) = (0, (k : Int)) := by
  unfold Builtin.Slice.sliceAdjust
  have h1 : ¬ ((1 : Int) < 0) := by walk_at "o"
  have h2 : ¬ ((k : Int) < 0) := by walk_at "o"
  simp only [h1, h2, if_false]
  congr 1
  walk_at "o"
theorem places_to (k : Nat) : Builtin.Slice.slicePlaces 0 (k : Int) 1 = k := by
  unfold Builtin.Slice.slicePlaces
  have h1 : (1 : Int) > 0 := by walk_at "o"
  simp only [h1, if_true, Int.ediv_one]
  split <;> walk_at "o"
theorem sliceApplied_to {sl : Addr} {k n : Nat} {u : Tok} {Q : Int × Int × Nat → Shared → Prop} (hs : s.heap.IsSliceOf sl .none (.int k u) .none) (ha : k ≤ n) (h : Q (0, 1, k) s) :
    wpAny (model prog w) A (Builtin.Slice.sliceApplied (.ref sl) (pure (n : Int))) Q E s := by
  obtain ⟨os, hos, hcs, hds⟩ := id hs
  unfold Builtin.Slice.sliceApplied Builtin.Slice.sliceFields
  refine wpAny_bind (wpAny_bind (wpAny_field hos hds (x := .none) rfl (wpAny_bind (wpAny_field hos hds (x := .int k u) rfl (wpAny_bind (wpAny_field hos hds (x := .none) rfl (wpAny_pure ?_)))))))
  refine wpAny_bind (slicePart_none ?_)
  show wpAny _ _ (if ((1 : Int) == 0) = true then _ else _) _ _ s
  rw [if_neg (by decide)]
  refine wpAny_bind (slicePart_none (wpAny_bind (slicePart_int (wpAny_bind (wpAny_pure ?_)))))
  show wpAny _ _ (match Builtin.Slice.sliceAdjust none (some (k : Int)) 1 (n : Int) with | (lo, hi) => pure (lo, (1 : Int), Builtin.Slice.slicePlaces lo hi 1)) _ _ s
  rw [adjust_to k n ha]
  show wpAny _ _ (pure ((0 : Int), (1 : Int), Builtin.Slice.slicePlaces 0 (k : Int) 1)) _ _ s
  rw [places_to]
  exact wpAny_pure h
theorem pick_to (xs : Array Value) (k : Nat) (hk : k ≤ xs.size) : ((List.range k).filterMap fun (j : Nat) => xs[((0 : Int) + (j : Int) * 1).toNat]?).toArray = (xs.toList.take k).toArray := by
  congr 1
  have e : (fun (j : Nat) => xs[((0 : Int) + (j : Int) * 1).toNat]?) = fun j => xs.toList[j]? := by
    funext j
    have : ((0 : Int) + (j : Int) * 1).toNat = j := by walk_at "o"
    rw [this]; simp
  rw [e]
  have hk' : k ≤ xs.toList.length := by simpa using hk
  generalize xs.toList = l at hk'
  clear e hk xs
  induction k with
  | zero => rfl
  | succ k ih =>
    rw [List.range_succ, List.filterMap_append, ih (by walk_at "o"), List.take_add_one]
    congr 1
theorem getItem_tuple_to {t sl : Addr} {items : Array Value} {k : Nat} {u : Tok} {Q : Value → Shared → Prop} (ht : IsTup s.heap t items) (hs : s.heap.IsSliceOf sl .none (.int k u) .none) (hk : k < items.size)
    (h : Q (.ref s.heap.objs.size) { s with heap := s.heap.push { cls := .type "tuple", data := .seq (items.toList.take k).toArray } })
    (hsz : items.size ≤ sizeLine) : wpAny (model prog w) A (getItem (.ref t) (.ref sl)) Q E s := by
  have hcut : sizeOk (.seq (items.toList.take k).toArray) := by
    show (items.toList.take k).toArray.size ≤ sizeLine
    rw [List.size_toArray, List.length_take, Array.length_toList]
    walk_at "o"
  obtain ⟨os, hos, hcs, hds⟩ := id hs
  have hTs : s.TypeIs (.ref sl) "slice" := ⟨os, hos, hcs⟩
  unfold getItem
  try with_reducible refine wpAny_holding ?_
  first | refine wpAny_bind (wpAny_pure ?_) | skip
  refine wpAny_bind (wpAny_sequenceKey ht.typeIs (by decide) ?_)
  refine wpAny_bind (wpAny_callSpecial?_slot (name := Str.ofString "__getitem__") ht.typeIs slot_tuple_getitem
    (wpAny_call_entry slot_tuple_getitem ht.typeIs entry_tuple_getitem ?_ (args_tuple_getitem _ _)))
  show wpAny _ _ (Builtin.Tuple.tupleItemsOf (.ref t) >>= _) _ _ s
  refine wpAny_bind (tupleItemsOf_ ht ?_)
  refine wpAny_bind (wpAny_typeOf hTs ?_)
  rw [if_pos (by decide)]
  refine wpAny_bind (sliceApplied_to hs (Nat.le_of_lt hk) ?_)
  have hno : ¬ (((0 : Int) == 0 && (1 : Int) == 1 && k == items.size) = true) := by
    have : (k == items.size) = false := by rw [beq_eq_false_iff_ne]; walk_at "o"
    rw [this]; simp
  show wpAny _ _ (if ((0 : Int) == 0 && (1 : Int) == 1 && k == items.size) = true then _ else _) _ _ s
  rw [if_neg hno, pick_to items k (Nat.le_of_lt hk)]
  first
    | exact wpAny_bind (m := Builtin.Tuple.tupleExact _) (wpAny_newObj_type (wpAny_pure ⟨_, rfl, wpAny_pure h⟩) hcut)
    | exact wpAny_bind (m := Builtin.Tuple.tupleExact _) (wpAny_newObj_type (wpAny_bind (wpAny_pure (wpAny_pure ⟨_, rfl, wpAny_pure h⟩))) hcut)
    | exact wpAny_bind (wpAny_bind (m := Builtin.Tuple.tupleExact _) (wpAny_newObj_type (wpAny_pure (wpAny_pure ⟨_, rfl, wpAny_pure h⟩)) hcut))
    | exact wpAny_bind (wpAny_bind (m := Builtin.Tuple.tupleExact _) (wpAny_newObj_type (wpAny_pure ⟨_, rfl, wpAny_pure h⟩) hcut))
end
end TD

namespace TD
open PySem PyProof.Rows
variable {W : Cx} {A : Around} {E : Value → Shared → Prop} {env : Env} {vis : List (Nat × Str)} {loc : Loc} {mem : Mem} {s : Shared} {Q : Val → Mem → Prop}

theorem place_cases {k : Int} {n j : Nat} (h : place k n = some j) : (k = j ∧ j < n) ∨ ∃ p : Nat, k = -((p + 1 : Nat) : Int) ∧ p + 1 ≤ n ∧ j = n - (p + 1) := by
  unfold place at h
  by_cases h0 : 0 ≤ k
  · rw [if_pos h0] at h
    obtain ⟨i, rfl⟩ := Int.eq_ofNat_of_zero_le h0
    by_cases h1 : (i : Int).toNat < n
    · rw [if_pos h1] at h; cases h; exact .inl ⟨rfl, h1⟩
    · rw [if_neg h1] at h; exact no h
  · rw [if_neg h0] at h
    obtain ⟨p, hp⟩ := Int.eq_negSucc_of_lt_zero (Int.not_le.mp h0)
    subst hp
    by_cases h1 : (-(Int.negSucc p)).toNat ≤ n
    · rw [if_pos h1] at h; cases h; exact .inr ⟨p, rfl, h1, rfl⟩
    · rw [if_neg h1] at h; exact no h
theorem place_idx {k : Int} {n j : Nat} (h : place k n = some j) : seqIndex? k n = some j := by
  unfold seqIndex?
  rcases place_cases h with ⟨rfl, h1⟩ | ⟨p, rfl, h1, rfl⟩
  · have h0 : ¬ (j : Int) < 0 := Int.not_lt.mpr (Int.natCast_nonneg j)
    simp only [h0, if_false]
    rw [if_pos (by simp; walk_at "o")]
    rfl
  · have h0 : -((p + 1 : Nat) : Int) < 0 := by walk_at "o"
    simp only [h0, if_true]
    rw [if_pos (by simp; walk_at "o")]
    congr 1; walk_at "o"
theorem place_lt {k : Int} {n j : Nat} (h : place k n = some j) : j < n := by
  rcases place_cases h with ⟨rfl, h1⟩ | ⟨p, rfl, h1, rfl⟩
  · exact h1
  · walk_at "o"
theorem place_fit {k : Int} {n j : Nat} (h : place k n = some j) (hn : n < lid) : -(2 ^ 63) ≤ k ∧ k < 2 ^ 63 := by
  unfold lid at hn
  rcases place_cases h with ⟨rfl, h1⟩ | ⟨p, rfl, h1, rfl⟩ <;> walk_at "o"

theorem subscripted_plain {sl : Expr} (h : notSlice sl = true) (o i : Value) : subscripted sl false o i = operate [o, i] (getItem o i) := by
  cases sl <;> first | rfl | exact nb h

theorem getItem_sound (R : Rel W env vis loc mem s) {v : Val} {o : Value} {k : Int} {u : Tok} {xs : List Val} {j : Nat} {x : Val} (hv : VRel W s.heap v o) (e : seq mem v = some xs) (hp : place k xs.length = some j) (hx : xs[j]? = some x) (hl : xs.length < lid) (hq : Q x mem)
    {value sl : Expr} (hs : notSlice sl = true) : wpAny (model W.prog W.w) A (subscriptTail value sl o (.int k u)) (PM W mem s Q) E s := by
  obtain ⟨a, vs, rfl, h, r⟩ := seq_rel R.m hv e
  obtain ⟨y, hy, ry⟩ := r.get hx
  have hf := place_fit hp hl
  have hlen := r.length
  rcases h with h | h
  · refine tail_any (o := .ref a) h.typeIs slot_list_getitem.lookup ?_ (subscripted_plain hs _ _)
    rcases place_cases hp with ⟨rfl, h1⟩ | ⟨p, rfl, h1, rfl⟩
    · exact wpAny_getItem_list h (Int.natCast_nonneg j) hf.2 (by simpa using hy) (PM.here R.m ry hq)
    · refine wpAny_getItem_list_neg h (by walk_at "o") (by rw [List.size_toArray, hlen]; walk_at "o") hf.1 ?_ (PM.here R.m ry hq)
      rw [List.size_toArray, hlen, show (-((p + 1 : Nat) : Int) + (xs.length : Nat)).toNat = xs.length - (p + 1) by walk_at "o"]
      simpa using hy
  · exact item_tupleT h hf.1 hf.2 (by rw [hlen]; exact place_idx hp) hy (PM.here R.m ry hq) (subscripted_plain hs _ _)

theorem sub_sound (R : Rel W env vis loc mem s) {v i : Val} {o iv : Value} (hv : VRel W s.heap v o) (hi : VRel W s.heap i iv) (h : subW v i Q mem) {value sl : Expr} (hs : notSlice sl = true) :
    wpAny (model W.prog W.w) A (subscriptTail value sl o iv) (PM W mem s Q) E s := by
  obtain ⟨k, xs, j, x, rfl, e, hp, hx, hl, hq⟩ := h
  obtain ⟨u, rfl⟩ := hi.int
  exact getItem_sound R hv e hp hx hl hq hs

noncomputable def partV (up : Bool) (v : Value) : Value := match up with | true => v | false => .none
theorem slice_eval {M : Model} {A' : Around} {E' : Value → Shared → Prop} {s' : Shared} {env' : Env} {up : Bool} {e : Expr} {p : Pos} {P : Value → Shared → Prop}
    (h : wpAny M A' (eval e env') (fun v s2 => P (.ref s2.heap.objs.size) { s2 with heap := s2.heap.push { cls := .type "slice", data := .fields #[partV up v, partV (!up) v, .none] } }) E' s') :
    wpAny M A' (eval (.Slice (partE up e) (partE (!up) e) none p) env') P E' s' := by
  refine wpAny_Slice ?_
  cases up with
  | true => exact wpAny_mono h (fun v s2 h2 => wpAny_pure (wpAny_pure h2)) fun _ _ x => x
  | false => exact wpAny_pure (wpAny_mono h (fun v s2 h2 => wpAny_pure h2) fun _ _ x => x)
theorem VRels.cut {W : Cx} {h : Heap} {xs : List Val} : ∀ {vs : List Value}, VRels W h xs vs → ∀ n, VRels W h (xs.drop n) (vs.drop n) ∧ VRels W h (xs.take n) (vs.take n) := by
  induction xs with
  | nil => intro vs r n; obtain rfl := r.inv0; rw [List.drop_nil, List.drop_nil, List.take_nil, List.take_nil]; exact ⟨.nil, .nil⟩
  | cons x xs ih =>
    intro vs r n
    obtain ⟨y, ys, rfl, a, r⟩ := r.inv
    cases n with
    | zero => exact ⟨.cons a r, .nil⟩
    | succ n => exact ⟨(ih r n).1, .cons a (ih r n).2⟩
theorem clip_at (k : Int) (n : Nat) : clipAt n k = min (clip k n) n := by
  unfold clip
  by_cases h : 0 ≤ k
  · rw [if_pos h]
    obtain ⟨j, rfl⟩ := Int.eq_ofNat_of_zero_le h
    exact clipAt_nat n j
  · rw [if_neg h]
    obtain ⟨p, rfl⟩ := Int.eq_negSucc_of_lt_zero (Int.not_le.mp h)
    rw [show Int.negSucc p = -((p + 1 : Nat) : Int) from rfl, clipAt_neg n (p + 1) (Nat.succ_le_succ (Nat.zero_le p)), Int.neg_neg, Int.toNat_natCast]
    walk_at "o"
theorem pick_cut (vs : List Value) (k : Int) : slicePick vs.toArray (some k) none none = (vs.drop (clip k vs.length)).toArray ∧ slicePick vs.toArray none (some k) none = (vs.take (clip k vs.length)).toArray := by
  constructor
  · rw [slicePick_plain]
    simp only [Option.elim, List.size_toArray, clip_at]
    congr 1
    rcases Nat.le_total (clip k vs.length) vs.length with h | h
    · rw [Nat.min_eq_left h, List.take_of_length_le (by simp)]
    · rw [Nat.min_eq_right h, List.drop_of_length_le (by simp), List.drop_of_length_le h]; simp
  · rw [slicePick_plain]
    simp only [Option.elim, List.size_toArray, clip_at, List.drop_zero, Nat.sub_zero]
    congr 1
    rcases Nat.le_total (clip k vs.length) vs.length with h | h
    · rw [Nat.min_eq_left h]
    · rw [Nat.min_eq_right h, List.take_of_length_le (Nat.le_refl _), List.take_of_length_le h]
theorem slice_sound (R : Rel W env vis loc mem s) {up : Bool} {x y : Val} {xv yv : Value} (hx : VRel W s.heap x xv) (hy : VRel W s.heap y yv) (h : slQ up x y Q mem) {value : Expr} {l u : Option Expr} {p : Pos} :
    wpAny (model W.prog W.w) A (subscriptTail value (.Slice l u none p) xv (.ref s.heap.objs.size)) (PM W mem s Q) E { s with heap := s.heap.push { cls := .type "slice", data := .fields #[partV up yv, partV (!up) yv, .none] } } := by
  rcases h with h | ⟨vs, k, rfl, rfl, rfl, hk, hl, hq⟩
  rotate_left
  · obtain ⟨a, ws, rfl, ht, r⟩ := hx
    obtain ⟨t, rfl⟩ := hy.int
    have hlen := r.length
    have k1 : KeepL env.locals s.heap (s.heap.push { cls := .type "slice", data := .fields #[.none, .int k t, .none] }) := .push _
    have R' : Rel W env vis loc mem { s with heap := s.heap.push { cls := .type "slice", data := .fields #[.none, .int k t, .none] } } := R.step (R.keepM k1) (R.keepS k1)
    have ht' : IsTup (s.heap.push { cls := .type "slice", data := .fields #[.none, .int k t, .none] }) a ws.toArray := ht.keeps fun _ _ e => Heap.get?_push_of_some _ e
    refine tail_any (o := .ref a) ht'.typeIs slot_tuple_getitem.lookup ?_ rfl
    refine getItem_tuple_to ht' (Heap.IsSliceOf.new ..) (by rw [List.size_toArray, hlen]; exact hk) ?_ (by rw [List.size_toArray, hlen]; exact lid_line hl)
    refine PM.trans (s' := { s with heap := s.heap.push { cls := .type "slice", data := .fields #[.none, .int k t, .none] } }) (R.keepS k1) ?_
    have k2 : KeepL env.locals (s.heap.push { cls := .type "slice", data := .fields #[.none, .int k t, .none] }) ((s.heap.push { cls := .type "slice", data := .fields #[.none, .int k t, .none] }).push { cls := .type "tuple", data := .seq (ws.take k).toArray }) := .push _
    have r2 := ((r.keep (R.keepF k1)).cut k).2
    exact PM.kept R' (v := .tup (vs.take k)) k2 (Exists.intro _ ⟨ws.take k, rfl, isTup_new, r2.keep (R'.keepF k2)⟩) hq
  obtain ⟨a, xs, k, rfl, e, rfl, hl, hf⟩ := h
  obtain rfl := hx.ref
  obtain ⟨t, rfl⟩ := hy.int
  obtain ⟨⟨vs, ⟨n, hn⟩, r⟩, _⟩ := R.m.mems a _ e
  have hlen := r.length
  have hL : s.heap.IsList a vs.toArray := ⟨_, hn, rfl, n, rfl⟩
  have k1 : KeepL env.locals s.heap (s.heap.push { cls := .type "slice", data := .fields #[partV up (.int k t), partV (!up) (.int k t), .none] }) := .push _
  have R' : Rel W env vis loc mem { s with heap := s.heap.push { cls := .type "slice", data := .fields #[partV up (.int k t), partV (!up) (.int k t), .none] } } := R.step (R.keepM k1) (R.keepS k1)
  have hsz : vs.toArray.size ≤ sizeLine := by rw [List.size_toArray, hlen]; exact lid_line hl
  have r' := r.keep (R.keepF k1)
  refine tail_any (o := .ref a) (hL.push _).typeIs slot_list_getitem.lookup ?_ rfl
  cases up with
  | true =>
    refine wpAny_getItem_list_slice (hL.push _) (Heap.IsSliceOf.new ..) (.int k t) .none .none (by simp) ?_ hsz
    rw [(pick_cut vs k).1, hlen]
    exact PM.trans (s' := { s with heap := s.heap.push { cls := .type "slice", data := .fields #[.int k t, .none, .none] } }) (R.keepS k1) (freshL_sound R' (.push _) (size_none _) (Heap.get?_push_size _ rfl) (r'.cut _).1 hf)
  | false =>
    refine wpAny_getItem_list_slice (hL.push _) (Heap.IsSliceOf.new ..) .none (.int k t) .none (by simp) ?_ hsz
    rw [(pick_cut vs k).2, hlen]
    exact PM.trans (s' := { s with heap := s.heap.push { cls := .type "slice", data := .fields #[.none, .int k t, .none] } }) (R.keepS k1) (freshL_sound R' (.push _) (size_none _) (Heap.get?_push_size _ rfl) (r'.cut _).2 hf)
theorem mm_sound (R : Rel W env vis loc mem s) {k : Nat} (hr : Room k A) {mx : Bool} {x y : Val} {xv yv : Value} (hx : VRel W s.heap x xv) (hy : VRel W s.heap y yv) (h : mmQ mx x y Q mem) :
    wpAny (model W.prog W.w) A (call (.builtin (mmName mx)) [xv, yv]) (PM W mem s Q) E s := by
  obtain ⟨a, b, rfl, rfl, hq⟩ := h
  obtain ⟨t, rfl⟩ := hx.int
  obtain ⟨u, rfl⟩ := hy.int
  cases mx with
  | true =>
    refine max_two_ints hr.handled fun h' tk hk => ?_
    have k1 : KeepL env.locals s.heap h' := .of_keeps hk
    refine ⟨_, mem, ?_, R.keepM k1, R.keepS k1, hq⟩
    show VRel W h' (.int (if b > a then b else a)) _
    by_cases c : b > a
    · rw [if_pos c, if_pos c]; exact ⟨u, rfl⟩
    · rw [if_neg c, if_neg c]; exact ⟨t, rfl⟩
  | false =>
    refine min_two_ints hr.handled fun h' tk hk => ?_
    have k1 : KeepL env.locals s.heap h' := .of_keeps hk
    refine ⟨_, mem, ?_, R.keepM k1, R.keepS k1, hq⟩
    show VRel W h' (.int (if b < a then b else a)) _
    by_cases c : b < a
    · rw [if_pos c, if_pos c]; exact ⟨u, rfl⟩
    · rw [if_neg c, if_neg c]; exact ⟨t, rfl⟩

theorem getMethod_list (R : Rel W env vis loc mem s) {a : Addr} {xs : List Val} (e : mem a = some (.list xs)) {name : Str} {id : String} {pl : Sem Bool} (slot : Slot "list" name id) (hty : typeOf (.builtin id) = pure (.type "method_descriptor"))
    {P : Value × List Value → Shared → Prop} (h : P (.builtin id, [.ref a]) s) : wpAny (model W.prog W.w) A (getMethod (.ref a) name pl) P E s := by
  obtain ⟨⟨vs, ⟨n, hn⟩, r⟩, _⟩ := R.m.mems a _ e
  exact getMethod_builtin ⟨_, hn, rfl⟩ PySem.F.plainAttrs_list slot hty (fun b q => by cases q; exact ⟨_, hn, rfl⟩) h

theorem append_sound (R : Rel W env vis loc mem s) {a : Addr} {xs : List Val} {y : Val} {yv : Value} (e : mem a = some (.list xs)) (hl : xs.length < lid) (hy : VRel W s.heap y yv) (hq : Q .none (mem.set a (.list (xs ++ [y])))) :
    wpAny (model W.prog W.w) A (call (.builtin "list.append") [.ref a, yv]) (PM W mem s Q) E s := by
  obtain ⟨⟨vs, hn, r⟩, _⟩ := R.m.mems a _ e
  refine wpAny_list_append_plain hn (fun h' hl' hs' => ?_) (by rw [List.size_toArray, r.length]; exact lid_line hl)
  have hp : h'.PlainList a (vs ++ [yv]).toArray := by simpa using hl'
  refine ⟨.none, _, .mkNone, R.m.upd (s' := { s with heap := h' }) (o := .list (xs ++ [y])) e hs' (fun kf => ⟨vs ++ [yv], hp, (VRels.append (.cons hy .nil) r).keep kf⟩), Step.upd e hs' ?_, hq⟩
  obtain ⟨n, hn'⟩ := hp; rw [hn']; simp

theorem turned (R : Rel W env vis loc mem s) {a : Addr} {xs ys : List Val} {vs ws : List Value} {n : Nat} {v : Val} {y : Value} (f : Array Value → Array Value) (e : mem a = some (.list xs))
    (hn : s.heap.get? a = some { cls := .type "list", data := .seq vs.toArray n }) (he : f vs.toArray = ws.toArray) (hr : VRels W s.heap ys ws) (hv : VRel W s.heap v y) (hq : Q v (mem.set a (.list ys))) :
    PM W mem s Q y { s with heap := s.heap.update a (Obj.mapSeq f) } := by
  have q : ∃ n', (s.heap.update a (Obj.mapSeq f)).get? a = some { cls := .type "list", data := .seq ws.toArray n' } := by
    have := Heap.get?_update_self (Obj.mapSeq f) hn (by simp [Obj.mapSeq, Obj.isFreed])
    refine ⟨if ws.toArray.size == vs.toArray.size then n else n + 1, this.trans ?_⟩
    simp only [Obj.mapSeq, he]
  obtain ⟨n', q⟩ := q
  have hs : Heap.SameBut a s.heap (s.heap.update a (Obj.mapSeq f)) := Heap.SameBut.update ..
  have M := R.m.upd (s' := { s with heap := s.heap.update a (Obj.mapSeq f) }) (o := .list ys) e hs (fun kf => ⟨ws, ⟨n', q⟩, hr.keep kf⟩)
  have S : Step NoD mem s.heap (mem.set a (.list ys)) (s.heap.update a (Obj.mapSeq f)) := Step.upd e hs (by rw [q]; simp)
  exact ⟨v, _, hv.keep (S.keepF R.m.mems .none), M, S, hq⟩

theorem VRels.set {h : Heap} {v : Val} {y : Value} (hv : VRel W h v y) {xs : List Val} : ∀ {vs : List Value} (j : Nat), VRels W h xs vs → VRels W h (xs.set j v) (vs.set j y) := by
  induction xs with
  | nil => intro vs j r; obtain rfl := r.inv0; exact r
  | cons x xs ih =>
    intro vs j r
    obtain ⟨z, ys, rfl, a, q⟩ := r.inv
    cases j with
    | zero => exact VRels.cons hv q
    | succ j => exact VRels.cons a (ih j q)
theorem VRels.eraseIdx {h : Heap} {xs : List Val} : ∀ {vs : List Value} (j : Nat), VRels W h xs vs → VRels W h (xs.eraseIdx j) (vs.eraseIdx j) := by
  induction xs with
  | nil => intro vs j r; obtain rfl := r.inv0; exact r
  | cons x xs ih =>
    intro vs j r
    obtain ⟨y, ys, rfl, a, q⟩ := r.inv
    cases j with
    | zero => exact q
    | succ j => exact VRels.cons a (ih j q)

theorem fitsIdx {k : Int} (h : -(2 ^ 63) ≤ k ∧ k < 2 ^ 63) : Builtin.List.listFitsIndex k = true := by
  by_cases h0 : k < 0
  · exact fitsIndex_neg h0 h.1
  · simp [Builtin.List.listFitsIndex]; walk_at "o"

theorem pop_sound (R : Rel W env vis loc mem s) {a : Addr} {xs : List Val} {k : Int} {u : Tok} {j : Nat} {y : Val} (e : mem a = some (.list xs)) (hl : xs.length < lid) (hp : place k xs.length = some j) (hy : xs[j]? = some y) (hq : Q y (mem.set a (.list (xs.eraseIdx j)))) :
    wpAny (model W.prog W.w) A (call (.builtin "list.pop") [.ref a, .int k u]) (PM W mem s Q) E s := by
  obtain ⟨⟨vs, ⟨n, hn⟩, r⟩, _⟩ := R.m.mems a _ e
  obtain ⟨z, hz, rz⟩ := r.get hy
  refine call_meets PySem.F.slot_list_pop ⟨_, hn, rfl⟩ PySem.F.entry_list_pop (PySem.F.args_list_pop_2 _ _) (PySem.MeetsSeq.list_pop_at a _ n k u j z (fitsIdx (place_fit hp hl)) (by rw [List.size_toArray, r.length]; exact place_idx hp) (by simpa using hz) (by rw [List.size_toArray, r.length]; exact lid_line hl)) ⟨hn, ?_⟩
  refine turned R _ e hn (ws := vs.eraseIdx j) ?_ (r.eraseIdx j) rz hq
  have hj : j < vs.length := by rw [r.length]; exact place_lt hp
  simp [Array.eraseIdxIfInBounds, hj]
theorem pop0_sound (R : Rel W env vis loc mem s) {a : Addr} {xs : List Val} {j : Nat} {y : Val} (e : mem a = some (.list xs)) (hl : xs.length < lid) (hp : place (-1) xs.length = some j) (hy : xs[j]? = some y) (hq : Q y (mem.set a (.list (xs.eraseIdx j)))) :
    wpAny (model W.prog W.w) A (call (.builtin "list.pop") [.ref a]) (PM W mem s Q) E s := by
  obtain ⟨⟨vs, ⟨n, hn⟩, r⟩, _⟩ := R.m.mems a _ e
  obtain ⟨z, hz, rz⟩ := r.get hy
  have hj : j = vs.length - 1 := by
    rcases place_cases hp with ⟨h1, _⟩ | ⟨p, h1, _, rfl⟩
    · walk_at "o"
    · obtain rfl : p = 0 := by walk_at "o"
      rw [r.length]
  have hj2 : j < vs.length := by rw [r.length]; exact place_lt hp
  refine call_meets PySem.F.slot_list_pop ⟨_, hn, rfl⟩ PySem.F.entry_list_pop (PySem.F.args_list_pop_1 _) (PySem.MeetsSeq.list_pop_last a _ n z (by rw [List.size_toArray, ← hj]; simpa using hz) (by rw [List.size_toArray, r.length]; exact lid_line hl)) ⟨hn, ?_⟩
  refine turned R _ e hn (ws := vs.eraseIdx j) ?_ (r.eraseIdx j) rz hq
  simp only [List.size_toArray, ← hj]
  simp [Array.eraseIdxIfInBounds, hj2]
theorem mem_plain (M : MRel W mem s) {a : Addr} {xs : List Val} (e : mem a = some (.list xs)) : ∃ vs n, s.heap.get? a = some { cls := .type "list", data := .seq (List.toArray vs) n } ∧ VRels W s.heap xs vs := by
  obtain ⟨⟨vs, ⟨n, hn⟩, r⟩, _⟩ := M.mems a _ e
  exact ⟨vs, n, hn, r⟩
theorem extend_sound (R : Rel W env vis loc mem s) {a b : Addr} {xs ys : List Val} (e : mem a = some (.list xs)) (eb : mem b = some (.list ys)) (hl : xs.length + ys.length < lid) (hq : Q .none (mem.set a (.list (xs ++ ys)))) :
    wpAny (model W.prog W.w) A (call (.builtin "list.extend") [.ref a, .ref b]) (PM W mem s Q) E s := by
  obtain ⟨vs, n, hn, r⟩ := mem_plain R.m e
  obtain ⟨ws, n2, hb, rb⟩ := mem_plain R.m eb
  have h1 := r.length; have h2 := rb.length
  have hsz := lid_line hl
  refine call_meets PySem.F.slot_list_extend ⟨_, hn, rfl⟩ PySem.F.entry_list_extend (PySem.F.args_list_extend_2 _ _) (PySem.AutoSeq1.list_extend_list_list_0 a _ n b _ n2 ?_ (by rw [List.size_toArray, h1]; exact lid_line (by walk_at "o")) (by rw [List.size_toArray, List.size_toArray, h1, h2]; walk_at "o")) ⟨hn, hb, ?_⟩
  · simp only [List.size_toArray, h1, h2, Builtin.List.listTooLong]
    unfold lid at hl
    simp [sizeLine]; walk_at "o"
  · exact turned R _ e hn (ws := vs ++ ws) (by simp) (rb.append r) .mkNone hq

set_option maxRecDepth 100000 in
theorem setitem_pos (R : Rel W env vis loc mem s) {a : Addr} {xs : List Val} {k : Int} {u : Tok} {y : Val} {yv : Value} {K : Mem → Prop} (e : mem a = some (.list xs)) (hl : xs.length < lid) (h0 : 0 ≤ k) (hk : k.toNat < xs.length) (hy : VRel W s.heap y yv) (hq : K (mem.set a (.list (xs.set k.toNat y)))) :
    wpAny (model W.prog W.w) A (setItem (.ref a) (.int k u) yv) (fun _ s' => PM W mem s (fun _ m' => K m') .none s') E s := by
  obtain ⟨vs, n, hn, r⟩ := mem_plain R.m e
  have hlen := r.length
  unfold lid at hl
  have ht : s.TypeIs (.ref a) "list" := ⟨_, hn, rfl⟩
  have hfit : Builtin.List.listFitsIndex k = true := fitsIndex_of h0 (by walk_at "o")
  unfold setItem
  refine wpAny_holding (wpAny_bind (wpAny_sequenceKey ht (by decide) ?_))
  refine wpAny_bind (wpAny_callSpecial?_slot (name := Str.ofString "__setitem__") ht slot_list_setitem
    (wpAny_call_entry slot_list_setitem ht entry_list_setitem ?_ (args_list_setitem _ _ _)))
  show wpAny _ _ (Builtin.List.listSubscript? (.int k u) >>= _) _ _ s
  refine wpAny_bind (wpAny_listSubscript_int hfit ?_)
  clear hfit
  obtain ⟨j, rfl⟩ := Int.eq_ofNat_of_zero_le h0
  have hj : j < vs.length := by walk_at "o"
  have hat : (vs.toArray)[j]? = some vs[j] := by rw [List.getElem?_toArray]; exact List.getElem?_eq_getElem hj
  show wpAny _ _ ((seqItemAt a j >>= fun r => pure (r.map (j, ·))) >>= _) _ _ s
  refine wpAny_bind (wpAny_bind (wpAny_seqItemAt hn rfl (wpAny_pure ?_)))
  rw [hat]
  show wpAny _ _ (setSeqItemAt a j yv >>= _) _ _ s
  refine wpAny_bind (wpAny_setSeqItemAt hn rfl ?_)
  refine wpAny_pure ⟨.none, rfl, wpAny_pure ?_⟩
  refine turned R _ e hn (ws := vs.set j yv) (by simp) (VRels.set hy j r) .mkNone hq
theorem idxOf_ne {i : Int} (is : List Int) : ∀ {m : Nat}, m < is.idxOf i → (hm : m < is.length) → is[m] ≠ i := by
  induction is with
  | nil => intro m _ hm; exact absurd hm (Nat.not_lt_zero _)
  | cons a r ih =>
    intro m h hm
    rw [List.idxOf_cons] at h
    cases q : a == i with
    | true => rw [q] at h; exact absurd h (Nat.not_lt_zero _)
    | false =>
      rw [q] at h
      cases m with
      | zero => exact ne_of_beq_false q
      | succ m => exact ih (Nat.lt_of_succ_lt_succ h) (Nat.lt_of_succ_lt_succ hm)
theorem index_sound (R : Rel W env vis loc mem s) {a : Addr} {is : List Int} {i : Int} {u : Tok} (e : mem a = some (.list (is.map .int))) (hi : i ∈ is) (hl : is.length < lid) (hq : Q (.int (is.idxOf i : Nat)) mem) :
    wpAny (model W.prog W.w) A (call (.builtin "list.index") [.ref a, .int i u]) (PM W mem s Q) E s := by
  obtain ⟨vs, n, hn, r⟩ := mem_plain R.m e
  have hlen := r.length
  rw [List.length_map] at hlen
  have hj : is.idxOf i < is.length := List.idxOf_lt_length_of_mem hi
  have at' : ∀ m (hm : m < vs.length), ∃ t, vs[m] = .int (is[m]'(hlen ▸ hm)) t := fun m hm => by
    obtain ⟨y, hy, ry⟩ := r.get (i := m) (v := .int (is[m]'(hlen ▸ hm))) (by rw [List.getElem?_map, List.getElem?_eq_getElem (hlen ▸ hm)]; rfl)
    obtain ⟨t, rfl⟩ := ry.int
    rw [List.getElem?_eq_getElem hm] at hy
    exact ⟨t, Option.some.inj hy⟩
  let f : Value → Bool := fun y => match y with | .int b _ => b == i | _ => false
  refine call_meets PySem.F.slot_list_index ⟨_, hn, rfl⟩ PySem.F.entry_list_index (PySem.F.args_list_index_2 _ _) (PySem.MeetsSeq.list_index a vs.toArray n (.int i u) f (fun y hy => ?_) (is.idxOf i) (by rw [List.size_toArray, hlen]; exact hj) (by unfold lid at hl; walk_at "o") ?_ fun m hm hmj => ?_) ⟨hn, PM.val R.m .mkInt hq _⟩
  · obtain ⟨m, hm, rfl⟩ := List.getElem_of_mem (List.mem_toArray.mp hy)
    obtain ⟨t, q⟩ := at' m hm
    rw [q]
    exact PySem.MeetsSeq.EqGives.int _ _ _ _
  · obtain ⟨t, q⟩ := at' (is.idxOf i) (hlen.symm ▸ hj)
    show f vs[is.idxOf i] = true
    rw [q]
    exact beq_iff_eq.mpr (List.getElem_idxOf hj)
  · rw [List.size_toArray] at hm
    obtain ⟨t, q⟩ := at' m hm
    show f vs[m] = false
    rw [q]
    exact beq_false_of_ne (idxOf_ne is hmj (hlen ▸ hm))

theorem cls5 {P : Cls → Prop} (h1 : P .int) (h2 : P .bool) (h3 : P .list) (h4 : P .tuple) {c : Cls} (hc : c.code < 4) : P c := by
  cases c <;> first | assumption | exact absurd hc (by decide)
theorem isinst_sound (R : Rel W env vis loc mem s) {x : Val} {a : Value} {c : Cls} (hc : c.code < 4) (hx : VRel W s.heap x a) {b : Bool} (h : isA mem x c = some b) (hq : Q (.bool b) mem) :
    wpAny (model W.prog W.w) A (call (.builtin "isinstance") [a, .type c.name]) (PM W mem s Q) E s := by
  have hk : ∀ tk, PM W mem s Q (.bool b) { s with toks := tk } := fun tk => PM.val R.m .mkBool hq tk
  revert hk
  clear hq
  revert h
  cases x with
  | none => intro h; exact no h
  | bool i => intro h; exact no h
  | int i =>
    obtain ⟨t, rfl⟩ := hx.int
    refine cls5 (P := fun c => isA mem (.int i) c = some b → _ → wpAny (model W.prog W.w) A (call (.builtin "isinstance") [.int i t, .type c.name]) (PM W mem s Q) E s) ?_ ?_ ?_ ?_ hc
    all_goals (intro h hk; cases h)
    · exact IsiPair.int_int (hk s.toks)
    · exact IsiPair.int_bool (hk _)
    · exact IsiPair.int_list (hk _)
    · exact IsiPair.int_tuple (hk _)
  | tup vs =>
    obtain ⟨d, ws, rfl, ⟨o, ho, hcl, _⟩, _⟩ := hx
    refine cls5 (P := fun c => isA mem (.tup vs) c = some b → _ → wpAny (model W.prog W.w) A (call (.builtin "isinstance") [.ref d, .type c.name]) (PM W mem s Q) E s) ?_ ?_ ?_ ?_ hc
    all_goals (intro h hk; cases h)
    · exact IsiPair.tuple_int ho hcl (hk _)
    · exact IsiPair.tuple_bool ho hcl (hk _)
    · exact IsiPair.tuple_list ho hcl (hk _)
    · exact IsiPair.tuple_tuple ho hcl (hk s.toks)
  | ref d =>
    obtain rfl := hx.ref
    intro h
    have h : (mem d).bind (fun o => o.isA c.code) = some b := h
    obtain ⟨o, q, h⟩ := Option.bind_eq_some_iff.mp h
    cases o with
    | list xs =>
    obtain rfl : (c.code == 2) = b := Option.some.inj h
    clear h
    obtain ⟨vs, n, hn, _⟩ := mem_plain R.m q
    refine cls5 (P := fun c => (∀ tk, PM W mem s Q (.bool (c.code == 2)) { s with toks := tk }) → wpAny (model W.prog W.w) A (call (.builtin "isinstance") [.ref d, .type c.name]) (PM W mem s Q) E s) ?_ ?_ ?_ ?_ hc
    all_goals intro hk
    · exact IsiPair.list_int hn rfl (hk _)
    · exact IsiPair.list_bool hn rfl (hk _)
    · exact IsiPair.list_list hn rfl (hk s.toks)
    · exact IsiPair.list_tuple hn rfl (hk _)
  | frz _ => intro h; exact no h
  | str i => intro h; exact no h
theorem small_range {n : Int} (h : 0 ≤ n ∧ n < lid) : Builtin.Range.small 0 n 1 = true ∧ Builtin.Range.rangeSize 0 n 1 = ((n.toNat : Nat) : Int) := by
  unfold lid at h
  have e : Builtin.Range.rangeSize 0 n 1 = ((n.toNat : Nat) : Int) := by
    unfold Builtin.Range.rangeSize
    simp
    walk_at "o"
  refine ⟨?_, e⟩
  unfold Builtin.Range.small
  rw [e]
  simp [Builtin.Range.rangeFitsLong]
  walk_at "o"

theorem lrange_sound (R : Rel W env vis loc mem s) {k : Nat} (hr : Room k A) {n : Int} {t : Tok} (hl : 0 ≤ n ∧ n < lid) (h : freshL mem (rangeV n) Q) :
    wpAny (model W.prog W.w) A (call (.type "range") [.int n t]) (fun r s' => wpAny (model W.prog W.w) A (call (.type "list") [r]) (PM W mem s Q) E s') E s := by
  refine call_range_1 ?_
  have hn' := small_range hl
  have k1 : KeepL env.locals s.heap (s.heap.push { cls := .type "range", data := .fields #[.int 0 s.toks, .int n t, .int 1 (s.toks + 1)] }) := .push _
  have R' : Rel W env vis loc mem { s with heap := s.heap.push { cls := .type "range", data := .fields #[.int 0 s.toks, .int n t, .int 1 (s.toks + 1)] }, toks := s.toks + 1 + 1 } := R.step (R.keepM k1) (R.keepS k1)
  obtain ⟨m, hn⟩ := R'.hasNs
  obtain ⟨F, N⟩ := fr_all hn
  refine list_rangeD hr.handled F N (IsRange.new ..) hn'.1 hn'.2 (by unfold lid at hl; walk_at "o") fun h' tk ys F' N' hk _ hl' hp hc => ?_
  have k2 := KeepL.of_fr hn F' N' fun p hp => hp
  obtain ⟨⟨c', hc'⟩, _⟩ := hp
  refine PM.trans (s' := { s with heap := s.heap.push { cls := .type "range", data := .fields #[.int 0 s.toks, .int n t, .int 1 (s.toks + 1)] }, toks := s.toks + 1 + 1 }) (R.keepS k1) ?_
  refine freshL_sound R' k2 (size_none _) hc' ?_ h
  have := range_ints (W := W) (h := s.heap.push { cls := .type "range", data := .fields #[.int 0 s.toks, .int n t, .int 1 (s.toks + 1)] }) n.toNat hc
  have e : rangeV (n.toNat : Nat) = rangeV n := by unfold rangeV; rw [Int.toNat_natCast]
  rw [e] at this; exact this

end TD

namespace TD
open PySem PyProof.Rows

theorem rev_len : typeLookup (.type "list_reverseiterator") "__len__" = pure none := by rw [typeLookup_type, builtinLookup_eq_fast]; kernel_rfl
theorem rev_hint : typeLookup (.type "list_reverseiterator") "__length_hint__" = pure (some (.builtin "list_reverseiterator.__length_hint__")) := by rw [typeLookup_type, builtinLookup_eq_fast]; kernel_rfl
theorem rev_self : isSubtype (.type "list_reverseiterator") (.type "list_reverseiterator") = pure true := by rw [isSubtype_type]; kernel_rfl

section
variable {prog : Program} {w : World} {A : Around} {E : Value → Shared → Prop} {s : Shared} {R : Result → Shared → Prop}

theorem rev_silent {I l : Addr} {i : Int} (hit : s.heap.IsRevIter I l i) {Q : Bool → Shared → Prop} (h : Q false s) : wpAny (model prog w) A (Builtin.List.listLengthHint (.ref I)) Q E s := by
  unfold Builtin.List.listLengthHint
  refine wpAny_bind (wpAny_specialOf hit.typeIs rev_len ?_)
  show wpAny _ A (specialOf (Value.ref I) (Str.ofString "__length_hint__") >>= _) _ _ _
  refine wpAny_bind (wpAny_specialOf hit.typeIs rev_hint ?_)
  generalize hid : ("list_reverseiterator.__length_hint__" : String) = id0
  wp_delta
  rw [show splitId id0 = some ("list_reverseiterator", "__length_hint__") from by subst hid; decide +kernel]
  subst hid
  refine wpAny_bind (wpAny_isInstance (T := "list_reverseiterator") (b := true) hit.typeIs rev_self ?_)
  refine wpAny_ite_split (fun hab => absurd hab (by decide)) (fun _ => ?_)
  refine wpAny_ite_split (fun _ => ?_) (fun hab => absurd (show _ = true by kernel_rfl) hab)
  refine wpAny_ite_split (fun hab => absurd hab (by decide +kernel)) (fun _ => wpAny_pure h)
theorem list_rev {I l : Addr} {items : Array Value} (hh : A.handled = none) (hne : l ≠ I) (hit : s.heap.IsRevIter I l ((items.size : Int) - 1)) (hl : s.heap.IsList l items) (hn : items.size ≤ sizeLine) {Q : Value → Shared → Prop}
    (hQ : ∀ h' tk acc' c', (∀ b o, b ≠ I → s.heap.get? b = some o → h'.get? b = some o) → h'.get? s.heap.objs.size = some { cls := .type "list", dict := none, data := .seq acc' c', slots := #[] } →
      ItemsOf (fun i v => items[items.size - 1 - i]? = some v) acc' items.size → Q (.ref s.heap.objs.size) { s with heap := h', toks := tk }) : wpAny (model prog w) A (call (.type "list") [.ref I]) Q E s := by
  have lt : ∀ {b : Addr} {o : Obj}, s.heap.get? b = some o → b ≠ s.heap.objs.size := fun e => Nat.ne_of_lt (Heap.lt_size e)
  have hIl : I ≠ s.heap.objs.size := by obtain ⟨o, e, _⟩ := hit; exact lt e
  have hll : l ≠ s.heap.objs.size := by obtain ⟨o, e, _⟩ := hl; exact lt e
  have WK := (Walks.listRev (prog := prog) (w := w) (A := A.in1.in1) hh I l hne items).toS
  have hfp : s.heap.objs.size ∉ [I, l] := fun q => by
    rcases List.mem_cons.mp q with q | q
    · exact hIl q.symm
    · exact hll (List.mem_singleton.mp q).symm
  refine callType_codes (Q₁ := fun obj s₁ => obj = .ref s.heap.objs.size ∧ s₁ = { s with heap := s.heap.push { cls := .type "list", data := .seq #[] } }) F.called_list (F.typeCall_list_1 _) F.entry_list_init (code_list_new _ ⟨rfl, rfl⟩) fun obj s₁ h₁ => ?_
  obtain ⟨rfl, rfl⟩ := h₁
  have hS : (s.heap.push { cls := .type "list", data := .seq #[] }).get? s.heap.objs.size = some { cls := .type "list", data := .seq #[] } := Heap.get?_push_size _ rfl
  refine ⟨⟨_, hS, rfl⟩, F.args_list_init_2 _ _, ?_⟩
  generalize hS0 : s.heap.objs.size = S at hS hfp hIl hll hQ ⊢
  have k0 : ∀ b o, s.heap.get? b = some o → (s.heap.push { cls := .type "list", data := .seq #[] }).get? b = some o := fun b o e => Heap.get?_push_of_some _ e
  generalize s.heap.push { cls := .type "list", data := .seq #[] } = h0 at hS k0
  show wpAny _ A.in1.in1 (do let old ← Builtin.List.listItems (.ref S); Builtin.List.listUpdate (.ref S) (fun _ => #[]); letGo old.toList.reverse; Builtin.List.listExtendWith (.ref S) (.ref I) .none) _ _ _
  refine wpAny_bind ?_
  unfold Builtin.List.listItems
  refine wpAny_bind (wpAny_seqItems hS rfl (wpAny_pure ?_))
  show wpAny _ A.in1.in1 (updateSeq S (fun _ => #[]) >>= fun _ => letGo (#[] : Array Value).toList.reverse >>= fun _ => Builtin.List.listExtendWith (.ref S) (.ref I) .none) _ _ _
  refine wpAny_bind (wpAny_updateSeq hS rfl ?_)
  have hS2 := Heap.get?_update_self (Obj.mapSeq (fun _ => (#[] : Array Value))) hS rfl
  have k2 : ∀ b o, b ≠ S → s.heap.get? b = some o → (h0.update S (Obj.mapSeq (fun _ => (#[] : Array Value)))).get? b = some o := fun b o hb e => (Heap.get?_update_other _ _ (Ne.symm hb)).trans (k0 b o e)
  refine wpAny_bind (wpAny_letGo ?_)
  have hit2 : (h0.update S (Obj.mapSeq (fun _ => (#[] : Array Value)))).IsRevIter I l ((items.size : Int) - 1) := hit.at fun o e => k2 I o hIl e
  have hl2 : (h0.update S (Obj.mapSeq (fun _ => (#[] : Array Value)))).IsList l items := hl.at fun o e => k2 l o hll e
  generalize h0.update S (Obj.mapSeq (fun _ => (#[] : Array Value))) = h2 at hS2 k2 hit2 hl2
  unfold Builtin.List.listExtendWith
  refine wpAny_bind (wpAny_typeOf (T := "list_reverseiterator") hit2.typeIs ?_)
  have h1 : Builtin.List.listSameRef (.ref S) (.ref I) = false := by simp [Builtin.List.listSameRef, Ne.symm hIl]
  simp only [h1, show (Value.type "list_reverseiterator" == Value.type "list") = false by decide, show (Value.type "list_reverseiterator" == Value.type "tuple") = false by decide, Bool.or_false, Bool.false_eq_true, if_false]
  have st0 : (0 : Nat) ≤ items.size ∧ h2.IsRevIter I l ((items.size : Int) - 1 - ((0 : Nat) : Int)) ∧ h2.IsList l items := ⟨Nat.zero_le _, by rw [show (items.size : Int) - 1 - ((0 : Nat) : Int) = (items.size : Int) - 1 by walk_at "o"]; exact hit2, hl2⟩
  refine wpAny_bind (WK.self 0 _ _ _ st0 ?_)
  refine wpAny_bind (wpAny_holding (rev_silent hit2 ?_))
  refine wpAny_ite_split (fun q => absurd q (by decide)) fun _ => ?_
  refine wpAny_pure ⟨plainId_quiet F.plain_extend_loop _, codeAny_extend_loopS WK hn S hfp _ items.size 0 _ _ _ rfl (Nat.zero_le _) st0 hS2 (ItemsOf.nil _) fun s' acc' c' hm hS' hacc => ?_⟩
  rw [Moved.eq_with hm]
  refine ⟨rfl, hQ s'.heap s'.toks acc' c' (fun b o hb e => hm.heap b o (fun hmem => ?_) (k2 b o (hS0 ▸ lt e) e)) hS' hacc⟩
  rcases List.mem_cons.mp hmem with q | q
  · exact lt e (q.trans hS0.symm)
  · exact hb (List.mem_singleton.mp q)
end
section
variable {W : Cx} {A : Around} {E : Value → Shared → Prop} {env : Env} {vis : List (Nat × Str)} {loc : Loc} {mem : Mem} {s : Shared} {Q : Val → Mem → Prop}
theorem VRels.rev {W : Cx} {h : Heap} : ∀ {xs : List Val} {vs : List Value}, VRels W h xs vs → VRels W h xs.reverse vs.reverse := by
  intro xs
  induction xs with
  | nil => intro vs r; obtain rfl := r.inv0; rfl
  | cons x xs ih =>
    intro vs r
    obtain ⟨y, ys, rfl, r1, r2⟩ := r.inv
    rw [List.reverse_cons, List.reverse_cons]
    have h1 : VRels W h [x] [y] := Exists.intro y ⟨[], rfl, r1, rfl⟩
    exact h1.append (ih r2)
theorem lrev_sound (R : Rel W env vis loc mem s) {k : Nat} (hr : Room k A) {a : Addr} {xs : List Val} (e : mem a = some (.list xs)) (hl : xs.length < lid) (h : freshL mem xs.reverse Q) :
    wpAny (model W.prog W.w) A (call (.type "reversed") [.ref a]) (fun r s' => wpAny (model W.prog W.w) A (call (.type "list") [r]) (PM W mem s Q) E s') E s := by
  obtain ⟨vs, n, ha, hv⟩ := mem_plain R.m e
  have hlen := hv.length
  have hL : s.heap.IsList a vs.toArray := ⟨_, ha, rfl, n, rfl⟩
  refine call_reversed_list hL ?_
  have hne : a ≠ s.heap.objs.size := Nat.ne_of_lt (Heap.lt_size ha)
  have kp : ∀ b o, s.heap.get? b = some o → (s.heap.push (revObj a ((vs.toArray.size : Int) - 1))).get? b = some o := fun b o e => Heap.get?_push_of_some _ e
  have hit : (s.heap.push (revObj a ((vs.toArray.size : Int) - 1))).IsRevIter s.heap.objs.size a ((vs.toArray.size : Int) - 1) := ⟨_, Heap.get?_push_size _ rfl, rfl, rfl⟩
  have hsz : (s.heap.push (revObj a ((vs.toArray.size : Int) - 1))).objs.size = s.heap.objs.size + 1 := Array.size_push ..
  refine list_rev (l := a) (items := vs.toArray) hr.handled hne hit (hL.at fun o e => kp a o e) (by rw [List.size_toArray, hlen]; exact lid_line hl) fun h' tk acc' c' hk hS hacc => ?_
  have hk' : ∀ b o, s.heap.get? b = some o → h'.get? b = some o := fun b o e => hk b o (Nat.ne_of_lt (Heap.lt_size e)) (kp b o e)
  have hac : acc' = vs.reverse.toArray := by
    obtain ⟨h1, h2⟩ := hacc
    have h1 : acc'.size = vs.length := h1
    refine Array.ext (by rw [h1, List.size_toArray, List.length_reverse]) fun i hi hi' => ?_
    have h3 := h2 i _ (Array.getElem?_eq_getElem hi)
    rw [h1] at hi
    rw [List.size_toArray, List.getElem?_toArray] at h3
    have h4 : vs.reverse[i]? = vs[vs.length - 1 - i]? := List.getElem?_reverse hi
    rw [h3] at h4
    rw [List.size_toArray] at hi'
    rw [List.getElem?_eq_getElem hi'] at h4
    exact (Option.some.inj h4).symm
  rw [hac] at hS
  exact freshL_sound R (.of_keeps hk') (by cases q : s.heap.get? (s.heap.push (revObj a ((vs.toArray.size : Int) - 1))).objs.size with | none => rfl | some o => have := Heap.lt_size q; exact absurd this (by rw [hsz]; exact Nat.not_lt.mpr (Nat.le_succ _))) hS hv.rev h
end
end TD

namespace TD
open PySem PyProof.Rows
variable {W : Cx} {A : Around} {E : Value → Shared → Prop} {env : Env} {vis : List (Nat × Str)} {loc : Loc} {mem : Mem} {s : Shared} {Q : Val → Mem → Prop}

noncomputable def ScOk (sc : Scope) (env : Env) : Prop := ∀ x k, sc.names.lookup x = some k → (k = .free → env.kindOf x = some .free ∨ env.kindOf x = some .cell) ∧ (k ≠ .free → env.kindOf x = some k)
theorem ScOk.self (env : Env) : ScOk env.scope env := fun x k h => ⟨fun e => .inl (e ▸ h), fun _ => h⟩

noncomputable def biNames : List String := ["len", "all", "sum", "max", "min", "list", "tuple", "sorted", "int", "str", "range", "reversed", "set", "isinstance", "enumerate", "bool", "ValueError"]

structure CxOk (W : Cx) (G : String → Option Val) : Prop where
  g : W.base.Ns mainGlobals W.mg
  b : W.base.Ns builtinsNs W.mb
  nolimit : W.base.NoLimit
  bi : ∀ x : Str, x ≠ "__name__" → W.mb x = bootBuiltins x
  bmiss : ∀ x ∈ biNames, W.mg (Str.ofString x) = none
  gl : ∀ x v, G x = some v → ∃ i t, v = .int i ∧ W.mg (Str.ofString x) = some (.int i t)

theorem gName_spec {sc : Scope} {n : String} {x : Str} (h : gName sc n x = true) : x = Str.ofString n ∧ sc.names.lookup x = some .globalImplicit ∧ okName x = true := by
  unfold gName isGlob at h
  simp only [Bool.and_eq_true, beq_iff_eq] at h
  exact ⟨h.1.1, h.1.2, h.2⟩
theorem okName_spec {x : Str} (h : okName x = true) : (x == ("__debug__" : Str)) = false ∧ (x == ("__classdict__" : Str)) = false := by
  unfold okName at h
  simp only [Bool.and_eq_true, Bool.not_eq_true'] at h
  exact h.1
theorem gName_empty {sc : Scope} {x : Str} (h : gName sc "" x = true) : False := by
  obtain ⟨rfl, _, hn⟩ := gName_spec h
  unfold okName at hn
  simp only [Bool.and_eq_true, Bool.not_eq_true'] at hn
  exact absurd hn.2 (by decide)

theorem global_sound (R : Rel W env vis loc mem s) {G : String → Option Val} (ok : CxOk W G) {sc : Scope} (hsc : ScOk sc env) {n : String} {x : Str} (h : gName sc n x = true) {v : Value} (hv : W.mg (Str.ofString n) = some v) {P : Value → Shared → Prop} (hq : P v s) {pos : Pos} :
    wpAny (model W.prog W.w) A (eval (.Name x pos) env) P E s := by
  obtain ⟨rfl, hk, hn⟩ := gName_spec h
  refine Calls.Name_function_global R.e.kind ((hsc _ _ hk).2 (by simp)) ?_ (okName_spec hn).1
  exact Calls.loadGlobal_global (by rw [R.e.glob]; exact ok.g.keeps R.m.stays) hv hq
theorem builtin_sound (R : Rel W env vis loc mem s) {G : String → Option Val} (ok : CxOk W G) {sc : Scope} (hsc : ScOk sc env) {n : String} {x : Str} (h : gName sc n x = true) (hb : n ∈ biNames) {v : Value} (hv : bootBuiltins (Str.ofString n) = some v) {P : Value → Shared → Prop} (hq : P v s) {pos : Pos} :
    wpAny (model W.prog W.w) A (eval (.Name x pos) env) P E s := by
  obtain ⟨rfl, hk, hn⟩ := gName_spec h
  refine Calls.Name_function_global R.e.kind ((hsc _ _ hk).2 (by simp)) ?_ (okName_spec hn).1
  refine Calls.loadGlobal_builtin (by rw [R.e.glob]; exact ok.g.keeps R.m.stays) (ok.bmiss n hb) (by rw [R.e.blt]; exact ok.b.keeps R.m.stays) ?_ hq
  rw [ok.bi _ ?_, hv]
  rintro q
  have hall : (biNames.all fun n => !(Str.ofString n == ("__name__" : Str))) = true := by decide +kernel
  exact absurd (List.all_eq_true.mp hall n hb) (by rw [q]; decide +kernel)

theorem isLoc_spec {sc : Scope} {x : Str} (h : isLoc sc x = true) : sc.names.lookup x = some .local ∨ sc.names.lookup x = some .cell ∨ sc.names.lookup x = some .free := by
  unfold isLoc at h
  split at h <;> first | (simp_all; done) | cases h

theorem name_sound (R : Rel W env vis loc mem s) {sc : Scope} (hsc : ScOk sc env) {i : Nat} {x : Str} (hvis : vis.lookup i = some x) (hl : isLoc sc x = true) (hn : okName x = true) {v : Val} (hv : getV loc i = some v) (hq : Q v mem) {pos : Pos} :
    wpAny (model W.prog W.w) A (eval (.Name x pos) env) (PM W mem s Q) E s := by
  have hm : (i, x) ∈ vis := by
    clear R
    induction vis with
    | nil => simp at hvis
    | cons p r ih =>
      obtain ⟨j, y⟩ := p
      rw [List.lookup_cons] at hvis
      split at hvis
      · rename_i q; cases hvis; rw [beq_iff_eq] at q; subst q; exact .head _
      · exact .tail _ (ih hvis)
  refine wpAny_Name ?_ (okName_spec hn).1
  have cellCase : ∀ k, env.kindOf x = some k → k = .cell ∨ k = .free → wpAny (model W.prog W.w) A (loadName env x) (PM W mem s Q) E s := fun k hk hc => by
    obtain ⟨c, y, h1, h2, h3⟩ := R.e.cell i x v k hm hv hk hc
    rcases hc with rfl | rfl
    · exact wpAny_loadName_cell R.e.kind hk h1 h2 (PM.here R.m h3 hq)
    · exact wpAny_loadName_free R.e.kind hk h1 h2 (PM.here R.m h3 hq) (okName_spec hn).2
  rcases isLoc_spec hl with h | h | h
  · have hk := (hsc _ _ h).2 (by simp)
    obtain ⟨m, hns, hr⟩ := R.e.ns
    obtain ⟨y, h1, h2⟩ := hr i x v hm hv hk
    exact wpAny_loadName_local R.e.kind hk hns h1 (PM.here R.m h2 hq)
  · exact cellCase _ ((hsc _ _ h).2 (by simp)) (.inl rfl)
  · rcases (hsc _ _ h).1 rfl with hk | hk
    · exact cellCase _ hk (.inr rfl)
    · exact cellCase _ hk (.inl rfl)

theorem star_plain {e : Expr} {rest : List Expr} (h : ∀ a p, e ≠ .Starred a p) : starEach (e :: rest) env = (false, eval e env) :: starEach rest env := by
  cases e <;> first | rfl | (exact absurd rfl (h _ _))

end TD

namespace TD
open PySem PyProof.Rows

noncomputable def clsName : Nat → String
  | 6 => "DealError" | 7 => "BadTable" | 8 => "BadShares" | 9 => "BadHeir" | 10 => "BadThing" | 11 => "BadRing" | 12 => "BadOrder" | 13 => "Full" | 14 => "BadNote" | _ => ""
noncomputable def CallOk (W : Cx) (FT : Nat → Option Fn) (ids : List Nat) (A : Around) (C : CallT) : Prop :=
  ∀ f ∈ ids, ∀ fn, FT f = some fn → ∃ a o fd, W.mg (Str.ofString fn.name) = some (.ref a) ∧ W.base.get? a = some o ∧ o.data = .func fd ∧
    ∀ (vs : List Val) (args : List Value) (Q : Val → Mem → Prop) (X : Nat → Mem → Prop) (mem : Mem) (s : Shared) (E : Value → Shared → Prop), (∀ k m, ¬ X k m) → C f vs Q X mem → MRel W mem s → VRels W s.heap vs args →
      wpAny (model W.prog W.w) A (call (.ref a) args) (PM W mem s Q) E s

structure SCx (W : Cx) (FT : Nat → Option Fn) (ids : List Nat) (G : String → Option Val) (n : Nat) (A : Around) (C : CallT) : Prop where
  ok : CxOk W G
  room : Room n A
  call : CallOk W FT ids A C

section
variable {W : Cx} {A : Around} {E : Value → Shared → Prop} {env : Env} {vis : List (Nat × Str)} {loc : Loc} {mem : Mem} {s : Shared} {Q : Val → Mem → Prop}

theorem then1 (R : Rel W env vis loc mem s) {t : Sem Value} {P : Value → Shared → Prop} (h : wpAny (model W.prog W.w) A t (PM W mem s Q) E s)
    (k : ∀ v y mem' s', VRel W s'.heap v y → Rel W env vis loc mem' s' → Step NoD mem s.heap mem' s'.heap → Q v mem' → P y s') : wpAny (model W.prog W.w) A t P E s :=
  wpAny_mono h (fun y s' p => by obtain ⟨v, mem', a, b, c, d⟩ := p; exact k v y mem' s' a (R.step b c) c d) fun _ _ x => x
theorem pmTrans {mem' : Mem} {s' s2 : Shared} {t : Sem Value} (x : Step NoD mem s.heap mem' s'.heap) (h : wpAny (model W.prog W.w) A t (PM W mem' s' Q) E s2) : wpAny (model W.prog W.w) A t (PM W mem s Q) E s2 :=
  wpAny_mono h (fun _ _ p => PM.trans x p) fun _ _ x => x
noncomputable def PT (W : Cx) (mem : Mem) (s : Shared) (P : Bool → Mem → Prop) (b : Bool) (s' : Shared) : Prop := ∃ mem', MRel W mem' s' ∧ Step NoD mem s.heap mem' s'.heap ∧ P b mem'
theorem PT.trans {mem' : Mem} {s' s'' : Shared} {P : Bool → Mem → Prop} {b : Bool} (x : Step NoD mem s.heap mem' s'.heap) (p : PT W mem' s' P b s'') : PT W mem s P b s'' := by
  obtain ⟨m2, a, c, d⟩ := p; exact ⟨m2, a, x.trans c, d⟩
theorem PM.test {P : Bool → Mem → Prop} {y : Value} {s' : Shared} (p : PM W mem s (asB P) y s') : ∃ b, y = .bool b ∧ PT W mem s P b s' := by
  obtain ⟨v, mem', a, b, c, d⟩ := p
  obtain ⟨t, rfl, d⟩ := d
  obtain rfl := a.bool
  exact ⟨t, rfl, mem', b, c, d⟩
theorem truth {P : Bool → Mem → Prop} {t : Sem Value} {P' : Bool → Shared → Prop} (h : wpAny (model W.prog W.w) A t (PM W mem s (asB P)) E s) (k : ∀ b s', PT W mem s P b s' → P' b s') :
    wpAny (model W.prog W.w) A t (fun v s₁ => wpAny (model W.prog W.w) A (truthy v) P' E s₁) E s :=
  wpAny_mono h (fun y s' p => by obtain ⟨b, rfl, q⟩ := p.test; exact wpAny_truthy_bool (k b s' q)) fun _ _ x => x
end

theorem behind_notSet {op : CmpOp} {e : Expr} (h : notSet e = true) : behindInMarks op e = false := by
  cases e <;> first | rfl | exact nb h

theorem notCall_base {o : Expr} {n : Str} {env : Env} {w : Sem Value} (h : notCall o = true) : attributeBase o n env w = w := by
  cases o <;> first | rfl | exact nb h

theorem method_call {M : Model} {A : Around} {E : Value → Shared → Prop} {s : Shared} {env : Env} {o : Expr} {name : Str} {ap p : Pos} {args : List Expr} {Q : Value → Shared → Prop} (hok : okAt o ap p = true) (hst : ∀ e ∈ args, ∀ a q, e ≠ .Starred a q) (hn : args.length < 29)
    (h : wpAny M A (eval o env) (fun ov s₁ => ∀ pl, wpAny M A (getMethod ov name pl) (fun fx s₂ => wpAny M A (callWith p fx.1 fx.2 (backTo p (starEach args env)) []) Q E s₂) E s₁) E s) :
    wpAny M A (eval (.Call (.Attribute o name ap) args [] p) env) Q E s := by
  unfold okAt at hok
  simp only [Bool.and_eq_true] at hok
  show wpAny M A (do
    let ov ← attributeBase o name env (eval o env)
    standAt ap.atName
    methodCall o name ap p env ov (args.length + 0) (backTo p (starEach args env)) []) Q E s
  rw [notCall_base hok.1]
  have hall : (backTo p (starEach args env)).all (!·.1) = true := by
    clear h hn
    induction args with
    | nil => rfl
    | cons e r ih =>
      rw [star_plain (hst e (.head _))]
      show ((!false) && (backTo p (starEach r env)).all (!·.1)) = true
      rw [ih fun e he => hst e (.tail _ he)]; rfl
  have hf : methodCallForm (args.length + 0) (backTo p (starEach args env)) [] = true := by
    unfold methodCallForm
    rw [hall]
    simp
    walk_at "o"
  refine wpAny_bind (wpAny_mono h (fun ov s₁ h₁ => wpAny_bind (wpAny_standAt ?_)) fun _ _ x => x)
  unfold methodCall
  rw [hf]
  refine wpAny_bind (wpAny_holding ?_)
  unfold calleeOf
  simp only [if_true]
  refine wpAny_mono (h₁ _) (fun fx s₂ h₂ => ?_) fun _ _ x => x
  unfold methodCallPos
  rw [if_pos (by rw [hok.2]; simp)]
  exact wpAny_bind (wpAny_pure h₂)

end TD

namespace TD
open PySem PyProof.Rows
variable {W : Cx} {A : Around} {E : Value → Shared → Prop} {env : Env} {vis : List (Nat × Str)} {loc : Loc} {mem : Mem} {s : Shared} {Q : Val → Mem → Prop}

theorem getV_setV {v u : Val} {l : Loc} : ∀ {i j : Nat}, getV (setV l i v) j = some u → (j = i ∧ u = v) ∨ (j ≠ i ∧ getV l j = some u) := by
  induction l with
  | nil => intro i j h; exact no h
  | cons x r ih =>
    intro i j h
    cases i with
    | zero => cases j with
      | zero => exact .inl ⟨rfl, (Option.some.inj h).symm⟩
      | succ j => exact .inr ⟨Nat.succ_ne_zero j, h⟩
    | succ i => cases j with
      | zero => exact .inr ⟨(Nat.succ_ne_zero i).symm, h⟩
      | succ j =>
        rcases ih (i := i) (j := j) h with ⟨rfl, b⟩ | ⟨a, b⟩
        · exact .inl ⟨rfl, b⟩
        · exact .inr ⟨fun q => a (Nat.succ.inj q), b⟩

noncomputable def VisOk (vis : List (Nat × Str)) : Prop := ∀ i x j y, (i, x) ∈ vis → (j, y) ∈ vis → (i = j ↔ x = y)

theorem store_sound (R : Rel W env vis loc mem s) (hv : VisOk vis) {i : Nat} {x : Str} (hm : (i, x) ∈ vis) (hk : env.kindOf x = some .local ∨ env.kindOf x = some .cell) {v : Val} {y : Value} (hr : VRel W s.heap v y)
    {P : Unit → Shared → Prop} (hp : ∀ s', Rel W env vis (setV loc i v) mem s' → Step (FrD env) mem s.heap mem s'.heap → (∃ a, FrD env a ∧ (env.kindOf x = some .local → a = env.locals) ∧ Heap.SameBut a s.heap s'.heap) → P () s') : wpAny (model W.prog W.w) A (storeName env x y) P E s := by
  rcases hk with hk | hk
  · obtain ⟨m, hns, hr'⟩ := R.e.ns
    refine wpAny_storeName_local hk hns (fun h' hn' hs' => ?_) (by rw [R.e.kind]; rfl)
    have hL : ∃ o, h'.get? env.locals = some o := by obtain ⟨o, _, _, e, _⟩ := hn'; exact ⟨o, e⟩
    have kb : ∀ b o, b ≠ env.locals → s.heap.get? b = some o → h'.get? b = some o := fun b o hb e => (hs'.2 b hb).trans e
    have kf : KeepF s.heap h' := fun b o e hf => by
      refine kb b o ?_ e
      rintro rfl
      exact R.e.dok _ o (.inl rfl) e hf
    have St : Step (FrD env) mem s.heap mem h' := by
      refine ⟨fun b e => ?_, fun b o e hm' hd => ⟨o, kb b o (fun q => hd (.inl q)) e, .refl o⟩, fun _ a b => absurd a b⟩
      by_cases hb : b = env.locals
      · subst hb; obtain ⟨o, ho⟩ := hL; rw [ho] at e; cases e
      · rw [← hs'.2 b hb]; exact e
    refine hp _ ⟨⟨fun b o e => kb b o (by rintro rfl; rw [R.new _ (.inl rfl)] at e; cases e) (R.m.stays b o e), fun b o e => ?_, R.m.gens, R.m.os⟩, ?_, R.sep, R.new⟩ St ⟨_, .inl rfl, fun _ => rfl, hs'⟩
    · obtain ⟨r, nb⟩ := R.m.mems b o e
      have hb : b ≠ env.locals := by rintro rfl; rw [R.sep _ (.inl rfl)] at e; cases e
      exact ⟨r.at (fun _ e => kb _ _ hb e) kf, nb⟩
    · have kc : ∀ z c u, env.cells.lookup z = some c → s.heap.IsCell c u → h'.IsCell c u := fun z c u hz ⟨o, e, hd⟩ => by
        refine ⟨o, kb c o ?_ e, hd⟩
        rintro rfl
        obtain ⟨o', es, ep, e', hd', _⟩ := hns
        rw [e] at e'; cases e'; rw [hd] at hd'; cases hd'
      refine ⟨R.e.kind, R.e.glob, R.e.blt, ⟨_, hn', fun j z u hj hg hkz => ?_⟩, fun j z u k hj hg hkz hc => ?_, R.e.cellk, fun z c hz => let ⟨o, ho⟩ := R.e.cells z c hz; ⟨o, kc z c _ hz ho⟩, R.e.apart⟩
      · rcases getV_setV hg with ⟨rfl, rfl⟩ | ⟨hne, hg⟩
        · have : z = x := (hv _ _ _ _ hj hm).mp rfl
          subst this; exact ⟨y, by simp, hr.keep kf⟩
        · have : z ≠ x := fun q => hne ((hv _ _ _ _ hj hm).mpr q)
          obtain ⟨y', h1, h2⟩ := hr' j z u hj hg hkz
          exact ⟨y', by simp [this, h1], h2.keep kf⟩
      · rcases getV_setV hg with ⟨rfl, rfl⟩ | ⟨hne, hg⟩
        · have : z = x := (hv _ _ _ _ hj hm).mp rfl
          subst this; rw [hk] at hkz; cases hkz; rcases hc with hc | hc <;> cases hc
        · obtain ⟨c, y', h1, h2, h3⟩ := R.e.cell j z u k hj hg hkz hc
          exact ⟨c, y', h1, kc z c _ h1 h2, h3.keep kf⟩
  · obtain ⟨c, hc⟩ := R.e.cellk x _ hk (.inl rfl)
    obtain ⟨u₀, hu⟩ := R.e.cells x c hc
    refine wpAny_storeName_cell R.e.kind hk hc hu fun h' hc' hs' => ?_
    have kb : ∀ b o, b ≠ c → s.heap.get? b = some o → h'.get? b = some o := fun b o hb e => (hs'.2 b hb).trans e
    have hcd : FrD env c := .inr ⟨x, hc⟩
    have kf : KeepF s.heap h' := fun b o e hf => by
      refine kb b o ?_ e
      rintro rfl
      exact R.e.dok _ o hcd e hf
    have St : Step (FrD env) mem s.heap mem h' := by
      refine ⟨fun b e => ?_, fun b o e hm' hd => ⟨o, kb b o (fun q => hd (q ▸ hcd)) e, .refl o⟩, fun _ a b => absurd a b⟩
      by_cases hb : b = c
      · subst hb; obtain ⟨o, ho, _⟩ := hc'; rw [ho] at e; cases e
      · rw [← hs'.2 b hb]; exact e
    refine hp _ ⟨⟨fun b o e => kb b o (by rintro rfl; rw [R.new _ hcd] at e; cases e) (R.m.stays b o e), fun b o e => ?_, R.m.gens, R.m.os⟩, ?_, R.sep, R.new⟩ St ⟨_, hcd, (fun q => by rw [hk] at q; cases q), hs'⟩
    · obtain ⟨r, nb⟩ := R.m.mems b o e
      have hb : b ≠ c := by rintro rfl; rw [R.sep _ hcd] at e; cases e
      exact ⟨r.at (fun _ e => kb _ _ hb e) kf, nb⟩
    · have kc : ∀ z d u, z ≠ x → env.cells.lookup z = some d → s.heap.IsCell d u → h'.IsCell d u := fun z d u hzx hz ⟨o, e, hd⟩ =>
        ⟨o, kb d o (fun q => hzx (R.e.apart z x c (q ▸ hz) hc)) e, hd⟩
      obtain ⟨m, hns, hr'⟩ := R.e.ns
      have hns' : h'.Ns env.locals m := by
        obtain ⟨o, es, ep, e, hd, q⟩ := hns
        refine ⟨o, es, ep, kb _ o ?_ e, hd, q⟩
        rintro rfl
        obtain ⟨o', e', hd'⟩ := hu
        rw [e] at e'; cases e'; rw [hd] at hd'; cases hd'
      refine ⟨R.e.kind, R.e.glob, R.e.blt, ⟨m, hns', fun j z u hj hg hkz => ?_⟩, fun j z u k hj hg hkz hck => ?_, R.e.cellk, fun z d hz => ?_, R.e.apart⟩
      · rcases getV_setV hg with ⟨rfl, rfl⟩ | ⟨hne, hg⟩
        · have : z = x := (hv _ _ _ _ hj hm).mp rfl
          subst this; rw [hk] at hkz; cases hkz
        · obtain ⟨y', h1, h2⟩ := hr' j z u hj hg hkz
          exact ⟨y', h1, h2.keep kf⟩
      · rcases getV_setV hg with ⟨rfl, rfl⟩ | ⟨hne, hg⟩
        · have : z = x := (hv _ _ _ _ hj hm).mp rfl
          subst this; exact ⟨c, y, hc, hc', hr.keep kf⟩
        · have hzx : z ≠ x := fun q => hne ((hv _ _ _ _ hj hm).mpr q)
          obtain ⟨d, y', h1, h2, h3⟩ := R.e.cell j z u k hj hg hkz hck
          exact ⟨d, y', h1, kc z d _ hzx h1 h2, h3.keep kf⟩
      · by_cases hzx : z = x
        · subst hzx; rw [hc] at hz; cases hz; exact ⟨_, hc'⟩
        · obtain ⟨o, ho⟩ := R.e.cells z d hz
          exact ⟨o, kc z d o hzx hz ho⟩

end TD

namespace TD
open PySem PyProof.Rows
variable {W : Cx} {A : Around} {E : Value → Shared → Prop} {env : Env} {vis : List (Nat × Str)} {loc : Loc} {mem : Mem} {s : Shared} {Q : Val → Mem → Prop}

noncomputable def Cur (k : ItK) (v : Val) (xs : List Val) (mem : Mem) : Prop := match k with
  | .plain => seq mem v = some xs
  | .range => ∃ n : Int, (0 ≤ n ∧ n < lid) ∧ xs = rangeV n
noncomputable def IterAt (W : Cx) (k : ItK) (v : Val) (xs : List Val) (I : Addr) (i : Nat) (h : Heap) : Prop := match k with
  | .plain => (v = .tup xs ∧ ∃ a vs, IsTup h a (List.toArray vs) ∧ VRels W h xs vs ∧ h.IsTupleIter I a i) ∨ ((∀ us, v ≠ .tup us) ∧ ∃ a, VRel W h v (.ref a) ∧ h.IsListIter I a i)
  | .range => IsRangeIter h I i ((xs.length : Int) - i) 1

theorem IterAt.there {k : ItK} {v : Val} {xs : List Val} {I : Addr} {i : Nat} {h : Heap} (x : IterAt W k v xs I i h) : ∃ o fs, h.get? I = some o ∧ o.data = .fields fs := by
  cases k with
  | plain =>
    rcases x with ⟨_, a, vs, _, _, o, ho, _, hd⟩ | ⟨_, a, _, o, ho, _, hd⟩
    · exact ⟨o, _, ho, hd⟩
    · exact ⟨o, _, ho, hd⟩
  | range => exact ⟨_, _, x, rfl⟩
theorem IterAt.keep {k : ItK} {v : Val} {xs : List Val} {I : Addr} {i : Nat} {h h' : Heap} (x : IterAt W k v xs I i h) (kf : KeepF h h') (ki : ∀ o, h.get? I = some o → h'.get? I = some o) : IterAt W k v xs I i h' := by
  cases k with
  | plain =>
    rcases x with ⟨e, a, vs, ⟨o, ho, hc, n, hd⟩, r, o', ho', q⟩ | ⟨e, a, r, o, ho, q⟩
    · exact Or.inl ⟨e, a, vs, ⟨o, kf a o ho ⟨hc, _, n, hd⟩, hc, n, hd⟩, r.keep kf, o', ki _ ho', q⟩
    · exact Or.inr ⟨e, a, r.keep kf, o, ki _ ho, q⟩
  | range => exact ki _ x
theorem seq_lst {v : Val} {xs : List Val} (h : seq mem v = some xs) (e : ∀ us, v ≠ .tup us) : lst mem v = some xs := (seq_or h).resolve_left (e xs)

theorem rangeV_length (n : Int) : (rangeV n).length = n.toNat := by simp [rangeV]
theorem rangeV_get {n : Int} {i : Nat} (h : i < n.toNat) : (rangeV n)[i]? = some (.int i) := by simp [rangeV, h]

theorem iter_next (M : MRel W mem s) {k : ItK} {v : Val} {xs : List Val} {I : Addr} {i : Nat} (hc : Cur k v xs mem) (hi : IterAt W k v xs I i s.heap) (hm : mem I = none) (hlt : i < xs.length) {P : Option Value → Shared → Prop}
    (hp : ∀ x y h' tk, xs[i]? = some x → VRel W h' x y → IterAt W k v xs I (i + 1) h' → Heap.SameBut I s.heap h' → P (some y) { s with heap := h', toks := tk }) :
    wpAny (model W.prog W.w) A (pyNext (.ref I)) P E s := by
  have kfI : ∀ {h' : Heap}, Heap.SameBut I s.heap h' → KeepF s.heap h' := fun hs b o e hf => by
    obtain ⟨o', fs, ho', hd'⟩ := hi.there
    have : b ≠ I := by rintro rfl; rw [e] at ho'; cases ho'; obtain ⟨_, xs, n, q⟩ := hf; rw [hd'] at q; cases q
    rw [hs.2 b this]; exact e
  obtain ⟨x, hx⟩ : ∃ x, xs[i]? = some x := ⟨xs[i], by simp [hlt]⟩
  cases k with
  | plain =>
    rcases hi with ⟨rfl, a, vs, ht, r, hit⟩ | ⟨ne, a, ra, hit⟩
    · obtain ⟨y, hy, ry⟩ := r.get hx
      refine wpAny_pyNext_tuple_item hit (IsTup.tuple ht) (by simpa using hy) fun h' hit' hs' => ?_
      have kf := kfI hs'
      obtain ⟨o, ho, hcl, n, hd⟩ := ht
      exact hp x y h' s.toks hx (ry.keep kf) (Or.inl ⟨rfl, a, vs, ⟨o, kf a o ho ⟨hcl, _, n, hd⟩, hcl, n, hd⟩, r.keep kf, hit'⟩) hs'
    · obtain ⟨b, vs, e, hl, r⟩ := lst_rel M ra (seq_lst hc ne)
      cases e
      obtain ⟨y, hy, ry⟩ := r.get hx
      refine wpAny_pyNext_list_item hit hl (by simpa using hy) fun h' hit' hs' => ?_
      have kf := kfI hs'
      exact hp x y h' s.toks hx (ry.keep kf) (Or.inr ⟨ne, a, ra.keep kf, hit'⟩) hs'
  | range =>
    obtain ⟨n, hn, rfl⟩ := hc
    rw [rangeV_length] at hlt
    rw [rangeV_get hlt] at hx; cases hx
    have hi' : IsRangeIter s.heap I i (((rangeV n).length : Int) - i) 1 := hi
    refine wpAny_pyNext_range_item hi' (by rw [rangeV_length]; walk_at "o") fun h' hit' hs' => ?_
    refine hp _ _ h' _ (rangeV_get hlt) .mkInt ?_ hs'
    have e : ((rangeV n).length : Int) - i - 1 = ((rangeV n).length : Int) - ((i + 1 : Nat) : Int) := by walk_at "o"
    rw [e] at hit'
    exact hit'

theorem iter_end (M : MRel W mem s) (hh : A.handled = none) {k : ItK} {v : Val} {xs : List Val} {I : Addr} (hc : Cur k v xs mem) (hi : IterAt W k v xs I xs.length s.heap) {P : Option Value → Shared → Prop}
    (hp : ∀ h', Heap.ExtBut I s.heap h' → P none { s with heap := h' }) : wpAny (model W.prog W.w) A (pyNext (.ref I)) P E s := by
  cases k with
  | plain =>
    rcases hi with ⟨rfl, a, vs, ht, r, hit⟩ | ⟨ne, a, ra, hit⟩
    · exact wpAny_pyNext_tuple_end hh hit (IsTup.tuple ht) (by simp [r.length]) hp
    · obtain ⟨b, vs, e, hl, r⟩ := lst_rel M ra (seq_lst hc ne)
      cases e
      exact wpAny_pyNext_list_end hh hit hl (by simp [r.length]) hp
  | range =>
    have hi' : IsRangeIter s.heap I xs.length ((xs.length : Int) - xs.length) 1 := hi
    exact wpAny_pyNext_range_end hh hi' (by walk_at "o") hp

theorem iter_start (R : Rel W env vis loc mem s) {v : Val} {y : Value} {xs : List Val} (hv : VRel W s.heap v y) (e : seq mem v = some xs) {P : Value → Shared → Prop}
    (hp : ∀ I s', s.heap.get? I = none → IterAt W .plain v xs I 0 s'.heap → Rel W env vis loc mem s' → Step NoD mem s.heap mem s'.heap → P (.ref I) s') : wpAny (model W.prog W.w) A (pyIter y) P E s := by
  by_cases q : ∃ us, v = .tup us
  · obtain ⟨us, rfl⟩ := q
    cases e
    have hv' := hv
    obtain ⟨a, vs, rfl, ht, r⟩ := hv'
    refine wpAny_pyIter_tuple (IsTup.tuple ht) ?_
    have k : KeepL env.locals s.heap (s.heap.push { cls := .type "tuple_iterator", data := .fields #[.ref a, .int 0 0] }) := .push _
    refine hp _ _ (size_none _) ?_ (R.step (R.keepM k) (R.keepS k)) (R.keepS k)
    obtain ⟨o, ho, hcl, n, hd⟩ := ht
    exact Or.inl ⟨rfl, a, vs, ⟨o, Heap.get?_push_of_some _ ho, hcl, n, hd⟩, r.keep (R.keepF k), _, Heap.get?_push_size _ rfl, rfl, rfl⟩
  · have ne : ∀ us, v ≠ .tup us := fun us h => q ⟨us, h⟩
    obtain ⟨a, vs, rfl, hl, r⟩ := lst_rel R.m hv (seq_lst e ne)
    refine wpAny_pyIter_list hl ?_
    have k : KeepL env.locals s.heap (s.heap.push { cls := .type "list_iterator", data := .fields #[.ref a, .int 0 0] }) := .push _
    refine hp _ _ (size_none _) ?_ (R.step (R.keepM k) (R.keepS k)) (R.keepS k)
    exact Or.inr ⟨ne, a, hv.keep (R.keepF k), _, Heap.get?_push_size _ rfl, rfl, rfl⟩
theorem range_start (R : Rel W env vis loc mem s) {n : Int} {t : Tok} (hn : 0 ≤ n ∧ n < lid) {P : Value → Shared → Prop}
    (hp : ∀ I s', s.heap.get? I = none → IterAt W .range (.int n) (rangeV n) I 0 s'.heap → Rel W env vis loc mem s' → Step NoD mem s.heap mem s'.heap → P (.ref I) s') :
    wpAny (model W.prog W.w) A (call (.type "range") [.int n t]) (fun y s' => wpAny (model W.prog W.w) A (pyIter y) P E s') E s := by
  refine call_range_1 ?_
  obtain ⟨h1, h2⟩ := small_range hn
  have k1 : KeepL env.locals s.heap (s.heap.push { cls := .type "range", data := .fields #[.int 0 s.toks, .int n t, .int 1 (s.toks + 1)] }) := .push _
  have R1 : Rel W env vis loc mem { s with heap := s.heap.push { cls := .type "range", data := .fields #[.int 0 s.toks, .int n t, .int 1 (s.toks + 1)] }, toks := s.toks + 1 + 1 } := R.step (R.keepM k1) (R.keepS k1)
  refine wpAny_pyIter_range (IsRange.new ..) h1 ?_
  rw [h2]
  have k2 : KeepL env.locals (s.heap.push { cls := .type "range", data := .fields #[.int 0 s.toks, .int n t, .int 1 (s.toks + 1)] }) ((s.heap.push { cls := .type "range", data := .fields #[.int 0 s.toks, .int n t, .int 1 (s.toks + 1)] }).push { cls := .type "range_iterator", data := .fields #[rawInt 0, rawInt ((n.toNat : Nat) : Int), rawInt 1] }) := .push _
  refine hp _ _ ?_ ?_ (R1.step (R1.keepM k2) (R1.keepS k2)) ((R.keepS k1).trans (R1.keepS k2))
  · cases q : s.heap.get? (s.heap.push { cls := .type "range", data := .fields #[.int 0 s.toks, .int n t, .int 1 (s.toks + 1)] }).objs.size with
    | none => rfl
    | some o => have := Heap.lt_size q; rw [Heap.size_push] at this; exact absurd this (Nat.not_lt.mpr (Nat.le_succ _))
  · show IsRangeIter _ _ ((0 : Nat) : Int) (((rangeV n).length : Int) - ((0 : Nat) : Int)) 1
    rw [rangeV_length]
    simp only [Int.ofNat_zero, Int.sub_zero]
    exact Heap.get?_push_size _ rfl

end TD

namespace TD
open PySem PyProof.Rows
variable {W : Cx} {A : Around} {E : Value → Shared → Prop} {env : Env} {vis : List (Nat × Str)} {loc : Loc} {mem : Mem} {s : Shared} {Q : Val → Mem → Prop}

theorem Step.off {D : Addr → Prop} {m1 m2 : Mem} {h1 h2 h3 : Heap} (x : Step D m1 h1 m2 h2) (S : Addr → Prop) (hS : ∀ b, S b → h1.get? b = none) (k : ∀ b o, ¬ S b → h2.get? b = some o → h3.get? b = some o) : Step D m1 h1 m2 h3 where
  alive := fun b e => by
    by_cases hb : S b
    · exact hS b hb
    · refine x.alive b ?_
      cases q : h2.get? b with
      | none => rfl
      | some o => rw [k b o hb q] at e; cases e
  keep := fun b o e hm hd => by
    obtain ⟨o', e', a⟩ := x.keep b o e hm hd
    exact ⟨o', k b o' (fun hb => by rw [hS b hb] at e; cases e) e', a⟩
  grow := x.grow

theorem compLoop_any {prog : Program} {w : World} {R : Result → Shared → Prop} {elt target iter : Expr} {ifs : List Expr} {scope : Scope} {pos : Pos} {it acc : Value} {env : Env} (I : Nat → Shared → Prop)
    (turn : ∀ n s, I n s → wpAny (model prog w) A (pyNext it) (fun r s₁ => match r with
      | none => R (.ok .next) s₁
      | some v => wpAny (model prog w) A (letOwnedTupleGo target it v) (fun _ s₁' => wpAny (model prog w) A (assign target env v) (fun _ s₂ =>
          wpAny (model prog w) A (forIn ifs true fun c r => if r = true then do let ok ← isTrue c env (eval c env); pure (ForInStep.yield ok) else pure (ForInStep.yield r)) (fun ok s₃ =>
            if ok = true then wpAny (model prog w) A (eval elt env) (fun x s₄ =>
              wpAny (model prog w) A (call (.builtin "list.append") [acc, x]) (fun _ s₅ => ∃ m, m < n ∧ I m s₅) (notedBy (model prog w) A env fun e s' => R (.error e) s') s₄) (notedBy (model prog w) A env fun e s' => R (.error e) s') s₃
            else ∃ m, m < n ∧ I m s₃) (notedBy (model prog w) A env fun e s' => R (.error e) s') s₂) (notedBy (model prog w) A env fun e s' => R (.error e) s') s₁') (notedBy (model prog w) A env fun e s' => R (.error e) s') s₁) (notedBy (model prog w) A env fun e s' => R (.error e) s') s)
    (n : Nat) (h : I n s) :
    codeAny (model prog w) A (.compLoop (.ListComp elt [⟨target, iter, ifs, 0⟩] scope pos) 0 it acc env) R s := by
  refine codeAny_loop rfl I (fun n s hI => ?_) n h
  show wpAny _ A ((compTurn (.ListComp elt [⟨target, iter, ifs, 0⟩] scope pos) 0 it acc env).onRaise (fun x => do noteFrame x env; theTreesLotGoes x)) _ _ s
  refine wpAny_noted ?_
  rw [compTurn_list]
  refine wpAny_bind (wpAny_standAt (wpAny_bind (wpAny_mono (turn n s hI) (fun r s₁ h₁ => ?_) fun _ _ h' => h')))
  cases r with
  | none => exact wpAny_pure h₁
  | some v =>
    refine wpAny_bind (wpAny_mono h₁ (fun _ s₁' h₁' => ?_) fun _ _ h' => h')
    refine wpAny_bind (wpAny_mono h₁' (fun _ s₂ h₂ => ?_) fun _ _ h' => h')
    refine wpAny_bind (wpAny_mono h₂ (fun ok s₃ h₃ => ?_) fun _ _ h' => h')
    cases ok with
    | false => exact wpAny_pure ⟨rfl, h₃⟩
    | true =>
      refine wpAny_bind (wpAny_bind (wpAny_mono h₃ (fun x s₄ h₄ => ?_) fun _ _ h' => h'))
      exact wpAny_bind (wpAny_mono h₄ (fun _ s₅ h₅ => wpAny_pure (wpAny_pure ⟨rfl, h₅⟩)) fun _ _ h' => h')

noncomputable def freeCells (env : Env) : List (Str × NameKind) → List (Str × Addr) → List (Str × Addr)
  | [], acc => acc
  | (n, k) :: r, acc => if k == .free then freeCells env r ((n, (env.cells.lookup n).getD 0) :: acc) else freeCells env r acc
theorem closure_eq {env : Env} {scope : Scope} (h : ∀ p ∈ scope.names, p.2 = .free → ∃ c, env.cells.lookup p.1 = some c) : closureFor scope env = pure (freeCells env scope.names []) := by
  have go : ∀ (l : List (Str × NameKind)) (acc : List (Str × Addr)), (∀ p ∈ l, p.2 = .free → ∃ c, env.cells.lookup p.1 = some c) →
      (forIn l acc fun x r => match x with | (name, kind) => if (kind == NameKind.free) = true then do let a ← cellOf env name; pure (ForInStep.yield ((name, a) :: r)) else pure (ForInStep.yield r)) = (pure (freeCells env l acc) : Sem _) := by
    intro l
    induction l with
    | nil => intro acc _; rfl
    | cons p r ih =>
      intro acc hl
      obtain ⟨n, k⟩ := p
      rw [List.forIn_cons]
      by_cases hk : (k == NameKind.free) = true
      · obtain ⟨c, hc⟩ := hl (n, k) (.head _) (by simpa using hk)
        have hc' : env.cells.lookup n = some c := hc
        simp only [hk, if_true]
        unfold freeCells
        rw [if_pos hk, hc']
        have : cellOf env n = pure c := by unfold cellOf; rw [hc']
        rw [this]
        exact ih _ fun p hp => hl p (.tail _ hp)
      · simp only [hk]
        unfold freeCells
        rw [if_neg hk]
        exact ih _ fun p hp => hl p (.tail _ hp)
  show (do let r ← forIn scope.names ([] : List (Str × Addr)) _; pure r) = _
  rw [show (forIn scope.names ([] : List (Str × Addr)) _ : Sem _) = _ from go scope.names [] h]
  rfl
theorem freeCells_lookup {env : Env} {x : Str} : ∀ (l : List (Str × NameKind)) (acc : List (Str × Addr)), (∀ p ∈ l, p.2 = .free → ∃ c, env.cells.lookup p.1 = some c) → ∀ c, (freeCells env l acc).lookup x = some c → (acc.lookup x = some c) ∨ ((x, NameKind.free) ∈ l ∧ env.cells.lookup x = some c)
  | [], acc, _, c, h => .inl h
  | (n, k) :: r, acc, hl, c, h => by
    unfold freeCells at h
    split at h
    · rename_i hk
      have hk' : k = .free := by simpa using hk
      rcases freeCells_lookup r _ (fun p hp => hl p (.tail _ hp)) c h with q | ⟨q1, q2⟩
      · rw [List.lookup_cons] at q
        split at q
        · rename_i hx
          have hx' : x = n := by simpa using hx
          obtain ⟨c', hc'⟩ := hl (n, k) (.head _) hk'
          have hc'' : env.cells.lookup n = some c' := hc'
          rw [hc''] at q
          cases q
          subst hx' hk'
          exact .inr ⟨.head _, hc''⟩
        · exact .inl q
      · exact .inr ⟨.tail _ q1, q2⟩
    · rcases freeCells_lookup r _ (fun p hp => hl p (.tail _ hp)) c h with q | ⟨q1, q2⟩
      · exact .inl q
      · exact .inr ⟨.tail _ q1, q2⟩
theorem freeCells_some {env : Env} {x : Str} : ∀ (l : List (Str × NameKind)) (acc : List (Str × Addr)), (∀ p ∈ l, p.2 = .free → ∃ c, env.cells.lookup p.1 = some c) → (x, NameKind.free) ∈ l ∨ (∃ c, acc.lookup x = some c) → ∃ c, (freeCells env l acc).lookup x = some c
  | [], acc, _, h => by
    rcases h with h | h
    · cases h
    · exact h
  | (n, k) :: r, acc, hl, h => by
    unfold freeCells
    split
    · rename_i hk
      refine freeCells_some r _ (fun p hp => hl p (.tail _ hp)) ?_
      rcases h with h | ⟨c, h⟩
      · cases h with
        | head => exact .inr ⟨_, by simp [List.lookup_cons]; rfl⟩
        | tail _ q => exact .inl q
      · refine .inr ?_
        rw [List.lookup_cons]
        split
        · exact ⟨_, rfl⟩
        · exact ⟨c, h⟩
    · rename_i hk
      refine freeCells_some r _ (fun p hp => hl p (.tail _ hp)) ?_
      rcases h with h | h
      · cases h with
        | head => simp at hk
        | tail _ q => exact .inl q
      · exact .inr h

end TD

namespace TD
open PySem PyProof.Rows
variable {W : Cx} {A : Around} {E : Value → Shared → Prop} {env : Env} {vis : List (Nat × Str)} {loc : Loc} {mem : Mem} {s : Shared} {Q : Val → Mem → Prop}

noncomputable def KeepBut (L : Addr) (h h' : Heap) : Prop := ∀ b o, b ≠ L → h.get? b = some o → h'.get? b = some o

noncomputable def unset : Loc → Nat → Loc
  | [], _ => []
  | x :: r, n => match n with | 0 => Option.none :: r | n + 1 => x :: unset r n
theorem assignT (R : Rel W env vis loc mem s) (hh : A.handled = none) (hv : VisOk vis) {t : Tg} {target : Expr} {new : List (Nat × Str)} (hn : chkT t target = some new) (hm : ∀ p ∈ new, p ∈ vis) (hk : ∀ p ∈ new, env.kindOf p.2 = some .local ∨ env.kindOf p.2 = some .cell)
    {x : Val} {y : Value} (hx : VRel W s.heap x y) {l : Loc} (hl : setT t x loc l) {P : Unit → Shared → Prop}
    (hp : ∀ s', Rel W env vis l mem s' → Step (FrD env) mem s.heap mem s'.heap → ((∀ p ∈ new, env.kindOf p.2 = some .local) → KeepBut env.locals s.heap s'.heap) → P () s') : wpAny (model W.prog W.w) A (assign target env y) P E s := by
  cases t with
  | one i =>
    obtain ⟨z, pz, rfl, rfl⟩ := chkT1_inv hn
    obtain rfl : l = setV loc i x := hl
    refine wpAny_assign_Name (store_sound R hv (hm _ (.head _)) (hk _ (.head _)) hx fun s' R' S' ⟨a, _, ha, hs⟩ => hp s' R' S' fun hloc b o hb e => ?_)
    have := ha (hloc _ (.head _)); subst this
    exact (hs.2 b hb).trans e
  | two i j =>
    obtain ⟨z, pz, z', pz', kk, pp, rfl, _, _, rfl⟩ := chkT2_inv hn
    obtain ⟨a, b, rfl, rfl⟩ := hl
    have hx' := hx
    obtain ⟨ta, vs, rfl, ht, r⟩ := hx'
    obtain ⟨y1, ys, rfl, r1, r2⟩ := r.inv
    obtain ⟨y2, ys', rfl, r3, r4⟩ := r2.inv
    obtain rfl := r4.inv0
    refine wpAny_assign_Tuple hh (IsTup.tuple ht) rfl rfl fun h' he => ?_
    have k1 : ∀ b o, s.heap.get? b = some o → h'.get? b = some o := fun b o e => he b o (Nat.ne_of_lt (Heap.lt_size e)) e
    have k : KeepL env.locals s.heap h' := .of_keeps k1
    have R1 : Rel W env vis loc mem { s with heap := h' } := R.step (R.keepM k) (R.keepS k)
    have S1 := R.keepS k
    show wpAny _ A (do holding [y2] (assign (.Name z pz) env y1); (do holding [] (assign (.Name z' pz') env y2); pure ())) _ _ _
    refine wpAny_bind (wpAny_holding (wpAny_assign_Name (store_sound R1 hv (hm _ (.head _)) (hk _ (.head _)) (r1.keep (R.keepF k)) fun s2 R2 S2 ⟨a2, _, ha2, hs2⟩ => ?_)))
    refine wpAny_bind (wpAny_holding (wpAny_assign_Name (store_sound R2 hv (hm _ (.tail _ (.head _))) (hk _ (.tail _ (.head _))) (r3.keep fun b o e hf => (S2.keepF R1.m.mems R1.e.dok) b o (R.keepF k b o e hf) hf) fun s3 R3 S3 ⟨a3, _, ha3, hs3⟩ => ?_)))
    refine wpAny_pure (hp s3 R3 ((S1.mono (fun _ q => q.elim)).trans (S2.trans S3)) fun hloc b o hb e => ?_)
    have h2 := ha2 (hloc _ (.head _)); have h3 := ha3 (hloc _ (.tail _ (.head _)))
    subst h2; subst h3
    exact (hs3.2 b hb).trans ((hs2.2 b hb).trans (k1 b o e))

noncomputable def unsetT (t : Tg) (l : Loc) : Loc := match t with
  | .one i => unset l i
  | .two i j => unset (unset l i) j
theorem getV_unset {u : Val} {l : Loc} : ∀ {i j : Nat}, getV (unset l i) j = some u → j ≠ i ∧ getV l j = some u := by
  induction l with
  | nil => intro i j h; exact no h
  | cons x r ih =>
    intro i j h
    cases i with
    | zero => cases j with
      | zero => exact no h
      | succ j => exact ⟨Nat.succ_ne_zero j, h⟩
    | succ i => cases j with
      | zero => exact ⟨(Nat.succ_ne_zero i).symm, h⟩
      | succ j => obtain ⟨a, b⟩ := ih (i := i) (j := j) h; exact ⟨fun q => a (Nat.succ.inj q), b⟩
theorem setV_setV {u v : Val} (l : Loc) : ∀ i, setV (setV l i u) i v = setV l i v := by
  induction l with
  | nil => intro i; rfl
  | cons x r ih => intro i; cases i with
    | zero => rfl
    | succ i => exact congrArg (x :: ·) (ih i)
theorem setV_unset {v : Val} (l : Loc) : ∀ i, setV (unset l i) i v = setV l i v := by
  induction l with
  | nil => intro i; rfl
  | cons x r ih => intro i; cases i with
    | zero => rfl
    | succ i => exact congrArg (x :: ·) (ih i)
theorem setV_comm {u v : Val} (l : Loc) : ∀ {i j : Nat}, i ≠ j → setV (setV l i u) j v = setV (setV l j v) i u := by
  induction l with
  | nil => intro i j _; rfl
  | cons x r ih => intro i j h; cases i with
    | zero => cases j with
      | zero => exact absurd rfl h
      | succ j => rfl
    | succ i => cases j with
      | zero => rfl
      | succ j => exact congrArg (x :: ·) (ih fun q => h (congrArg Nat.succ q))
theorem unset_setV_comm {u : Val} (l : Loc) : ∀ {i j : Nat}, i ≠ j → setV (unset l j) i u = unset (setV l i u) j := by
  induction l with
  | nil => intro i j _; rfl
  | cons x r ih => intro i j h; cases i with
    | zero => cases j with
      | zero => exact absurd rfl h
      | succ j => rfl
    | succ i => cases j with
      | zero => rfl
      | succ j => exact congrArg (x :: ·) (ih fun q => h (congrArg Nat.succ q))
noncomputable def SameT (t : Tg) (l' l : Loc) : Prop := ∀ x r, setT t x l r → setT t x l' r
noncomputable def TgOk : Tg → Prop
  | .one _ => True
  | .two i j => i ≠ j
theorem SameT.unset {t : Tg} {l : Loc} (ht : TgOk t) : SameT t (unsetT t l) l := fun x r h => by
  cases t with
  | one i => exact (show r = setV l i x from h).trans (setV_unset l i).symm
  | two i j =>
    have hij : i ≠ j := ht
    obtain ⟨a, b, e, h⟩ := h
    refine Exists.intro a ⟨b, e, h.trans ?_⟩
    show _ = setV (setV (TD.unset (TD.unset l i) j) i a) j b
    rw [unset_setV_comm _ hij, setV_unset, setV_unset]
theorem SameT.set {t : Tg} {x : Val} {l l' : Loc} (ht : TgOk t) (h : setT t x l l') : SameT t l' l := fun y r q => by
  cases t with
  | one i =>
    obtain rfl : l' = setV l i x := h
    exact (show r = setV l i y from q).trans (setV_setV l i).symm
  | two i j =>
    have hij : i ≠ j := ht
    obtain ⟨a, b, _, rfl⟩ := h
    obtain ⟨c, d, e, rfl⟩ := q
    refine Exists.intro c ⟨d, e, ?_⟩
    rw [setV_comm (setV l i a) (Ne.symm hij), setV_setV, setV_setV]

end TD

namespace TD
open PySem PyProof.Rows
variable {W : Cx} {A : Around} {E : Value → Shared → Prop} {env : Env} {vis : List (Nat × Str)} {loc : Loc} {mem : Mem} {s : Shared} {Q : Val → Mem → Prop}

theorem Rel.off (R : Rel W env vis loc mem s) {s' : Shared} (a : Addr) (ha : mem a = none) (hb : W.base.get? a = none) (hd : ¬ FrD env a) (hf : ∀ o, s.heap.get? a = some o → ¬ Fixed o)
    (k : KeepBut a s.heap s'.heap) (hg : s'.gens = s.gens := by rfl) (ho : s'.os = s.os := by rfl) : Rel W env vis loc mem s' ∧ KeepF s.heap s'.heap := by
  have kf : KeepF s.heap s'.heap := fun b o e hfx => k b o (by rintro rfl; exact hf o e hfx) e
  refine ⟨⟨⟨fun b o e => k b o (by rintro rfl; rw [hb] at e; cases e) (R.m.stays b o e), fun b o e => ?_, hg.trans R.m.gens, ho.trans R.m.os⟩, ?_, R.sep, R.new⟩, kf⟩
  · obtain ⟨r, nb⟩ := R.m.mems b o e
    have hba : b ≠ a := by rintro rfl; rw [ha] at e; cases e
    exact ⟨r.at (fun _ e => k _ _ hba e) kf, nb⟩
  · exact R.e.keep kf fun b o hbd e => ⟨o, k b o (by rintro rfl; exact hd hbd) e, .refl o⟩

theorem owned_sound {k : ItK} {v : Val} {xs : List Val} {I : Addr} {i : Nat} (hi : IterAt W k v xs I i s.heap) {target : Expr} {y : Value} {P : Unit → Shared → Prop} (hp : P () s) : wpAny (model W.prog W.w) A (letOwnedTupleGo target (.ref I) y) P E s := by
  have hcls : ∃ o fs T, s.heap.get? I = some o ∧ o.cls = .type T ∧ o.data = .fields fs ∧ (T = "list_iterator" ∨ T = "tuple_iterator" ∨ T = "range_iterator") := by
    cases k with
    | plain =>
      rcases hi with ⟨_, a, vs, _, _, o, ho, hc, hd⟩ | ⟨_, a, _, o, ho, hc, hd⟩
      · exact ⟨o, _, _, ho, hc, hd, .inr (.inl rfl)⟩
      · exact ⟨o, _, _, ho, hc, hd, .inl rfl⟩
    | range => exact ⟨_, _, _, hi, rfl, rfl, .inr (.inr rfl)⟩
  obtain ⟨o, fs, T, ho, hc, hd, hT⟩ := hcls
  have go : wpAny (model W.prog W.w) A (do
      let o ← load I
      match o.cls, o.data with
      | .type n, .fields vs =>
        if (["enumerate", "zip", "dict_itemiterator", "dict_reverseitemiterator", "odict_iterator", "itertools.zip_longest", "itertools.pairwise"].contains n && vs[0]? == some (rawInt (match y with | .ref a => a | _ => 0))) = true then do
          rule "for.unpacks-the-owned-tuple"
          updateField I 0 .none
        else pure ()
      | _, _ => pure ()) P E s := by
    refine wpAny_bind (wpAny_load ho ?_)
    rw [hc, hd]
    dsimp only
    rw [if_neg]
    · exact wpAny_pure hp
    · rcases hT with rfl | rfl | rfl <;> simp
  unfold letOwnedTupleGo
  cases target <;> first | exact wpAny_pure hp | (cases y <;> first | exact wpAny_pure hp | exact go)

theorem chkScope_spec {sc csc : Scope} {new vis : List (Nat × Str)} (h : chkScope sc csc new vis = true) :
    csc.kind = .function ∧ (∀ p ∈ csc.names, p.2 ≠ .cell) ∧ (∀ p ∈ csc.names, p.2 = .local → csc.names.lookup p.1 = some .local ∧ (p.1 = (".0" : Str) ∨ ∃ q ∈ new, q.2 = p.1)) ∧ (∀ p ∈ csc.names, p.2 = .free → kindIs sc p.1 = true) ∧
      (∀ q ∈ new, csc.names.lookup q.2 = some .local) ∧ (∀ q ∈ vis, q.2 ≠ (".0" : Str)) ∧ (∀ p ∈ vis, ∀ q ∈ new, p.1 ≠ q.1) := by
  unfold chkScope at h
  simp only [Bool.and_eq_true, List.all_eq_true, beq_iff_eq] at h
  obtain ⟨⟨⟨⟨⟨⟨⟨h1, _⟩, _⟩, h4⟩, h5⟩, h6⟩, _⟩, h7⟩ := h
  refine ⟨h1, fun p hp e => ?_, fun p hp e => ?_, fun p hp e => ?_, h5, fun q hq e => ?_, fun p hp q hq e => ?_⟩
  · have := h4 p hp; rw [e] at this; simp at this
  · have := h4 p hp
    rw [e] at this
    simp only [Bool.and_eq_true, beq_iff_eq, Bool.or_eq_true, List.any_eq_true] at this
    exact this
  · have := h4 p hp; rw [e] at this; exact this
  · have := h6 q hq
    rw [e] at this; simp at this
  · have := h7 p hp q hq
    rw [e] at this; simp at this

theorem lookup_relabel {env : Env} {x : Str} {k : NameKind} : ∀ {names : List (Str × NameKind)}, names.lookup x = some k →
    (names.map fun (n, k) => if (k == NameKind.free && env.scope.kind == .function && env.kindOf n == some .cell) then (n, NameKind.cell) else (n, k)).lookup x = some (if (k == NameKind.free && env.scope.kind == .function && env.kindOf x == some .cell) then .cell else k)
  | [], h => by simp at h
  | (n, k') :: r, h => by
    simp only [List.map_cons]
    rw [List.lookup_cons] at h
    split at h
    · rename_i q
      cases h
      have : x = n := by simpa using q
      subst this
      split <;> simp [List.lookup_cons]
    · rename_i q
      have ih := lookup_relabel (env := env) h
      split <;> (rw [List.lookup_cons, q]; exact ih)
theorem lookup_relabel_none {env : Env} {x : Str} : ∀ {names : List (Str × NameKind)}, names.lookup x = none →
    (names.map fun (n, k) => if (k == NameKind.free && env.scope.kind == .function && env.kindOf n == some .cell) then (n, NameKind.cell) else (n, k)).lookup x = none
  | [], h => rfl
  | (n, k') :: r, h => by
    simp only [List.map_cons]
    rw [List.lookup_cons] at h
    split at h
    · cases h
    · rename_i q
      have ih := lookup_relabel_none (env := env) h
      split <;> (rw [List.lookup_cons, q]; exact ih)
theorem mem_of_lookup {x : Str} {k : NameKind} : ∀ {l : List (Str × NameKind)}, l.lookup x = some k → (x, k) ∈ l
  | (n, k') :: r, h => by
    rw [List.lookup_cons] at h
    split at h
    · rename_i q; cases h; have : x = n := by simpa using q
      subst this; exact .head _
    · exact .tail _ (mem_of_lookup h)

noncomputable abbrev cEnv (csc : Scope) (C : Addr) (env : Env) : Env :=
  { scope := relabel csc env, locals := C, globals := env.globals, cells := freeCells env csc.names [], qual := env.qual, func := none, code := env.code, frame := env.frame, builtins := env.builtins }

theorem cEnv_kind {csc : Scope} {C : Addr} {x : Str} {k : NameKind} (h : (cEnv csc C env).kindOf x = some k) :
    ∃ k', csc.names.lookup x = some k' ∧ (k' ≠ .free → k = k') ∧ (k' = .free → k = .free ∨ k = .cell) := by
  have h' : (csc.names.map fun (n, k) => if (k == NameKind.free && env.scope.kind == .function && env.kindOf n == some .cell) then (n, NameKind.cell) else (n, k)).lookup x = some k := h
  cases q : csc.names.lookup x with
  | none => rw [lookup_relabel_none q] at h'; cases h'
  | some k' =>
    rw [lookup_relabel q] at h'
    refine ⟨k', rfl, fun hn => ?_, fun hf => ?_⟩
    · rw [if_neg (by simp [hn])] at h'; cases h'; rfl
    · subst hf
      split at h'
      · cases h'; exact .inr rfl
      · cases h'; exact .inl rfl
theorem cEnv_sc {csc : Scope} {C : Addr} : ScOk csc (cEnv csc C env) := fun x k h => by
  have h' : (cEnv csc C env).kindOf x = some (if (k == NameKind.free && env.scope.kind == .function && env.kindOf x == some .cell) then .cell else k) := lookup_relabel h
  refine ⟨fun hf => ?_, fun hn => ?_⟩
  · subst hf
    rw [h']
    split
    · exact .inr rfl
    · exact .inl rfl
  · rw [h', if_neg (by simp [hn])]

theorem free_cells {sc csc : Scope} {new : List (Nat × Str)} (R : Rel W env vis loc mem s) (hsc : ScOk sc env) (hc : chkScope sc csc new vis = true) : ∀ p ∈ csc.names, p.2 = .free → ∃ c, env.cells.lookup p.1 = some c := fun p hp hf => by
  have h := (chkScope_spec hc).2.2.2.1 p hp hf
  unfold kindIs at h
  split at h
  · rename_i q; exact R.e.cellk _ _ ((hsc _ _ q).2 (by simp)) (.inl rfl)
  · rename_i q
    rcases (hsc _ _ q).1 rfl with q' | q'
    · exact R.e.cellk _ _ q' (.inr rfl)
    · exact R.e.cellk _ _ q' (.inl rfl)
  · cases h

theorem cEnv_rel {sc csc : Scope} {new : List (Nat × Str)} {C : Addr} {t : Tg} {target : Expr} (R : Rel W env vis loc mem s) (hsc : ScOk sc env) (hc : chkScope sc csc new vis = true) (hT : chkT t target = some new)
    (hC : s.heap.Ns C fun _ => none) (hm : mem C = none) (hb : W.base.get? C = none) : Rel W (cEnv csc C env) (newVis new vis) (unsetT t loc) mem s := by
  obtain ⟨h1, h2, h3, h4, h5, h6, _⟩ := chkScope_spec hc
  have hfc := free_cells R hsc hc
  have hcl : ∀ x c, (freeCells env csc.names []).lookup x = some c → (x, NameKind.free) ∈ csc.names ∧ env.cells.lookup x = some c := fun x c h => by
    rcases freeCells_lookup csc.names [] hfc c h with q | q
    · cases q
    · exact q
  have hgv : ∀ i x v, (i, x) ∈ newVis new vis → getV (unsetT t loc) i = some v → (i, x) ∈ vis ∧ (∀ q ∈ new, q.2 ≠ x) ∧ getV loc i = some v := fun i x v hi hg => by
    unfold newVis at hi
    rcases List.mem_append.mp hi with hi | hi
    · exfalso
      cases t with
      | one j =>
        obtain ⟨z, pz, rfl, rfl⟩ := chkT1_inv hT
        have : i = j := by have := List.mem_singleton.mp hi; cases this; rfl
        subst this
        exact (getV_unset hg).1 rfl
      | two j j' =>
        obtain ⟨z, pz, z', pz', kk, pp, rfl, _, _, rfl⟩ := chkT2_inv hT
        have g1 := getV_unset (l := unset loc j) hg
        have g2 := getV_unset g1.2
        rcases List.mem_cons.mp hi with q | q
        · cases q; exact g2.1 rfl
        · have := List.mem_singleton.mp q; cases this; exact g1.1 rfl
    · rw [List.mem_filter] at hi
      have hnew : ∀ q ∈ new, q.2 ≠ x := fun q hq e => by
        have := hi.2
        simp only [Bool.not_eq_true', List.any_eq_false, beq_iff_eq] at this
        exact this q hq e
      refine ⟨hi.1, hnew, ?_⟩
      cases t with
      | one j => exact (getV_unset hg).2
      | two j j' => exact (getV_unset (getV_unset hg).2).2
  refine ⟨R.m, ⟨h1, R.e.glob, R.e.blt, ⟨_, hC, fun i x v hi hg hk => ?_⟩, fun i x v k hi hg hk hck => ?_, fun x k hk hck => ?_, fun x c hx => ?_, fun x y c hx hy => ?_⟩, fun b hbd => ?_, fun b hbd => ?_⟩
  · exfalso
    obtain ⟨g1, g2, g3⟩ := hgv i x v hi hg
    obtain ⟨k', e1, e2, e3⟩ := cEnv_kind hk
    have : k' = .local := by
      cases k' with
      | free => rcases e3 rfl with q | q <;> cases q
      | «local» => rfl
      | cell => have := e2 (by simp); cases this
      | globalExplicit => have := e2 (by simp); cases this
      | globalImplicit => have := e2 (by simp); cases this
    subst this
    rcases (h3 (x, .local) (mem_of_lookup e1) rfl).2 with q | ⟨q, hq, e⟩
    · exact h6 _ g1 q
    · exact g2 q hq e
  · obtain ⟨g1, g2, g3⟩ := hgv i x v hi hg
    obtain ⟨k', e1, e2, e3⟩ := cEnv_kind hk
    have hk' : k' = .free := by
      cases k' with
      | free => rfl
      | cell => exact absurd rfl (h2 _ (mem_of_lookup e1))
      | «local» => have := e2 (by simp); subst this; rcases hck with q | q <;> cases q
      | globalExplicit => have := e2 (by simp); subst this; rcases hck with q | q <;> cases q
      | globalImplicit => have := e2 (by simp); subst this; rcases hck with q | q <;> cases q
    subst hk'
    have hm' := mem_of_lookup e1
    obtain ⟨c, hc'⟩ := freeCells_some csc.names [] hfc (.inl hm')
    have hcc := (hcl x c hc').2
    have hks := h4 _ hm' rfl
    have hkk : ∃ kk, env.kindOf x = some kk ∧ (kk = .cell ∨ kk = .free) := by
      unfold kindIs at hks
      split at hks
      · rename_i q; exact ⟨_, (hsc _ _ q).2 (by simp), .inl rfl⟩
      · rename_i q
        rcases (hsc _ _ q).1 rfl with q' | q'
        · exact ⟨_, q', .inr rfl⟩
        · exact ⟨_, q', .inl rfl⟩
      · cases hks
    obtain ⟨kk, hk1, hk2⟩ := hkk
    obtain ⟨c', y, f1, f2, f3⟩ := R.e.cell i x v kk g1 g3 hk1 hk2
    rw [hcc] at f1; cases f1
    exact ⟨c, y, hc', f2, f3⟩
  · obtain ⟨k', e1, e2, e3⟩ := cEnv_kind hk
    have hk' : k' = .free := by
      cases k' with
      | free => rfl
      | cell => exact absurd rfl (h2 _ (mem_of_lookup e1))
      | «local» => have := e2 (by simp); subst this; rcases hck with q | q <;> cases q
      | globalExplicit => have := e2 (by simp); subst this; rcases hck with q | q <;> cases q
      | globalImplicit => have := e2 (by simp); subst this; rcases hck with q | q <;> cases q
    subst hk'
    exact freeCells_some csc.names [] hfc (.inl (mem_of_lookup e1))
  · exact R.e.cells x c (hcl x c hx).2
  · exact R.e.apart x y c (hcl x c hx).2 (hcl y c hy).2
  · rcases hbd with rfl | ⟨x, hx⟩
    · exact hm
    · exact R.sep _ (.inr ⟨x, (hcl x b hx).2⟩)
  · rcases hbd with rfl | ⟨x, hx⟩
    · exact hb
    · exact R.new _ (.inr ⟨x, (hcl x b hx).2⟩)

end TD

namespace TD
open PySem PyProof.Rows
variable {W : Cx} {A : Around} {E : Value → Shared → Prop} {env : Env} {vis : List (Nat × Str)} {loc : Loc} {mem : Mem} {s : Shared} {Q : Val → Mem → Prop}

theorem newVis_ok {new vis : List (Nat × Str)} {t : Tg} {target : Expr} (hT : chkT t target = some new) (hv : VisOk vis) (hi : ∀ p ∈ vis, ∀ q ∈ new, p.1 ≠ q.1) : VisOk (newVis new vis) := by
  have hnew : ∀ i x j y, (i, x) ∈ new → (j, y) ∈ new → (i = j ↔ x = y) := by
    cases t with
    | one j =>
      obtain ⟨z, pz, rfl, rfl⟩ := chkT1_inv hT
      intro i x j y h1 h2
      have a := List.mem_singleton.mp h1; have b := List.mem_singleton.mp h2
      cases a; cases b; exact ⟨fun _ => rfl, fun _ => rfl⟩
    | two j j' =>
      obtain ⟨z, pz, z', pz', kk, pp, rfl, hne1, hne2, rfl⟩ := chkT2_inv hT
      intro a x b y h1 h2
      rcases List.mem_cons.mp h1 with h1 | h1 <;> rcases List.mem_cons.mp h2 with h2 | h2
      · cases h1; cases h2; exact ⟨fun _ => rfl, fun _ => rfl⟩
      · have h2 := List.mem_singleton.mp h2; cases h1; cases h2; exact ⟨fun q => absurd q hne2, fun q => absurd q hne1⟩
      · have h1 := List.mem_singleton.mp h1; cases h1; cases h2; exact ⟨fun q => absurd q.symm hne2, fun q => absurd q.symm hne1⟩
      · have h1 := List.mem_singleton.mp h1; have h2 := List.mem_singleton.mp h2; cases h1; cases h2; exact ⟨fun _ => rfl, fun _ => rfl⟩
  intro i x j y h1 h2
  unfold newVis at h1 h2
  rcases List.mem_append.mp h1 with h1 | h1 <;> rcases List.mem_append.mp h2 with h2 | h2
  · exact hnew i x j y h1 h2
  · rw [List.mem_filter] at h2
    have hy : ∀ q ∈ new, q.2 ≠ y := fun q hq e => by
      have := h2.2
      simp only [Bool.not_eq_true', List.any_eq_false, beq_iff_eq] at this
      exact this q hq e
    exact ⟨fun e => absurd e (Ne.symm (hi _ h2.1 _ h1)), fun e => absurd e (hy _ h1)⟩
  · rw [List.mem_filter] at h1
    have hy : ∀ q ∈ new, q.2 ≠ x := fun q hq e => by
      have := h1.2
      simp only [Bool.not_eq_true', List.any_eq_false, beq_iff_eq] at this
      exact this q hq e
    exact ⟨fun e => absurd e (hi _ h1.1 _ h2), fun e => absurd e.symm (hy _ h2)⟩
  · rw [List.mem_filter] at h1 h2
    exact hv i x j y h1.1 h2.1

theorem tgOk_of {t : Tg} {target : Expr} {new : List (Nat × Str)} (hT : chkT t target = some new) : TgOk t := by
  cases t with
  | one _ => trivial
  | two i j =>
    obtain ⟨z, pz, z', pz', kk, pp, _, _, hne, _⟩ := chkT2_inv hT
    exact hne

theorem Cur.stands {k : ItK} {v : Val} {xs : List Val} {mem mem' : Mem} (h : Cur k v xs mem) (hs : stands k v mem mem') : Cur k v xs mem' := by
  cases k with
  | plain =>
    cases v with
    | tup _ => exact h
    | _ => exact (show lst mem' _ = _ from hs).trans h
  | range => exact h

theorem iter_self {k : ItK} {v : Val} {xs : List Val} {I : Addr} {i : Nat} (hi : IterAt W k v xs I i s.heap) {P : Value → Shared → Prop} (hp : P (.ref I) s) : wpAny (model W.prog W.w) A (pyIter (.ref I)) P E s := by
  cases k with
  | plain =>
    rcases hi with ⟨_, a, vs, _, _, hit⟩ | ⟨_, a, _, hit⟩
    · exact wpAny_pyIter_tupleiter hit hp
    · exact wpAny_pyIter_listiter hit hp
  | range => exact wpAny_pyIter_rangeiter hi hp

theorem turn_lt {n i : Nat} (h : i < n) : n + 1 - (i + 1) < n + 1 - i := by walk_at "o"
inductive CI (W : Cx) (csc : Scope) (env : Env) (vis' : List (Nat × Str)) (t : Tg) (loc : Loc) (mem : Mem) (h₀ : Heap) (k : ItK) (v : Val) (xs : List Val) (I D C' : Addr) (B : Loc → (Bool → Mem → Prop) → Mem → Prop) (V : Loc → (Val → Mem → Prop) → Mem → Prop) (QL : List Val → Mem → Prop) (n : Nat) (s' : Shared) : Prop
  | mk (i : Nat) (mem' : Mem) (l' : Loc) (ys : List Val) (vs : List Value) (h1 : n = xs.length + 1 - i) (h2 : i ≤ xs.length) (h3 : SameT t l' loc) (h4 : Rel W (cEnv csc C' env) vis' l' mem' s') (h5 : Step NoD mem h₀ mem' s'.heap) (h6 : IterAt W k v xs I i s'.heap)
      (h7 : stands k v mem mem') (h8 : s'.heap.PlainList D (List.toArray vs)) (h9 : VRels W s'.heap ys vs) (h10 : mem' D = none) (h11 : mem' I = none) (h12 : ys.length ≤ i) (h13 : compLoop (compF t loc B V) (stands k v mem) (xs.drop i) ys QL mem')
theorem comp_core {B : Loc → (Bool → Mem → Prop) → Mem → Prop} {V : Loc → (Val → Mem → Prop) → Mem → Prop} {k : ItK} {v : Val} {xs : List Val} {I : Addr} {s₂ : Shared} {sc csc : Scope} {new : List (Nat × Str)} {t : Tg} {target iter elt' : Expr} {ifs : List Expr} {pos : Pos}
    {QL : List Val → Mem → Prop} {RR : Value → Addr → Result → Shared → Prop} (hh : A.handled = none)
    (R : Rel W env vis loc mem s) (R2 : Rel W env vis loc mem s₂) (S2 : Step NoD mem s.heap mem s₂.heap) (hI : s.heap.get? I = none) (hit : IterAt W k v xs I 0 s₂.heap) (hcur : Cur k v xs mem) (hlen : xs.length < lid)
    (hsc : ScOk sc env) (hchk : chkScope sc csc new vis = true) (hT : chkT t target = some new) (hv : VisOk vis) (hi : ∀ p ∈ vis, ∀ q ∈ new, p.1 ≠ q.1)
    (htests : ∀ C' l P mem' s' E', Rel W (cEnv csc C' env) (newVis new vis) l mem' s' → B l P mem' →
      wpAny (model W.prog W.w) A (forIn ifs true fun c r => if r = true then do let ok ← isTrue c (cEnv csc C' env) (eval c (cEnv csc C' env)); pure (ForInStep.yield ok) else pure (ForInStep.yield r)) (PT W mem' s' P) E' s')
    (helt : ∀ C' l P mem' s' E', Rel W (cEnv csc C' env) (newVis new vis) l mem' s' → V l P mem' → wpAny (model W.prog W.w) A (eval elt' (cEnv csc C' env)) (PM W mem' s' P) E' s')
    (hloop : compLoop (compF t loc B V) (stands k v mem) xs [] QL mem)
    (hRR : ∀ D C' s' mem' ys vs m, s.heap.get? D = none → s.heap.get? C' = none → C' ≠ D → s'.heap.Ns C' m → s'.heap.PlainList D (List.toArray vs) → VRels W s'.heap ys vs → MRel W mem' s' → Step NoD mem s.heap mem' s'.heap → mem' C' = none → mem' D = none → QL ys mem' →
      RR (.ref D) C' (.ok .next) s') :
    wpAny (model W.prog W.w) A (newList []) (fun acc s₃ => wpAny (model W.prog W.w) A (newFunctionEnv csc env.globals (freeCells env csc.names []) [] env.qual none .none (some env)) (fun cenv s₄ =>
      codeAny (model W.prog W.w) A (.compStart (.ListComp elt' [⟨target, iter, ifs, 0⟩] csc pos) 0 (.ref I) acc { cenv with scope := relabel csc env }) (RR acc cenv.locals) s₄) E s₃) E s₂ := by
  obtain ⟨c1, c2, c3, c4, c5, c6, _⟩ := chkScope_spec hchk
  have gone : ∀ b, s₂.heap.get? b = none → s.heap.get? b = none := S2.alive
  refine wpAny_newObj_type ?_ (by show ([] : List Value).toArray.size ≤ sizeLine; simp)
  refine wpAny_newFunctionEnv c2 (by intro x hx; cases hx) (fun h₄ hns hsb => ?_) c1
  dsimp only at hns hsb ⊢
  generalize hDdef : s₂.heap.objs.size = D at hns hsb ⊢
  generalize hH3 : s₂.heap.push { cls := .type "list", data := .seq ([] : List Value).toArray } = H3 at hns hsb ⊢
  generalize hCdef : H3.objs.size = C' at hns hsb ⊢
  have hCD : C' = D + 1 := by rw [← hCdef, ← hH3, Heap.size_push, hDdef]
  have hDne : C' ≠ D := by rw [hCD]; exact Nat.succ_ne_self D
  have hD2 : s₂.heap.get? D = none := hDdef ▸ size_none _
  have hC2 : s₂.heap.get? C' = none := by
    cases q : s₂.heap.get? C' with
    | none => rfl
    | some o => have := Heap.lt_size q; rw [hDdef, hCD] at this; exact absurd this (Nat.not_lt.mpr (Nat.le_succ _))
  have old : ∀ b o, s₂.heap.get? b = some o → h₄.get? b = some o := fun b o e => by
    have hb : b ≠ C' := by rintro rfl; rw [hC2] at e; cases e
    rw [hsb.2 b hb]
    exact Heap.get?_push_of_some _ (hH3 ▸ Heap.get?_push_of_some _ e)
  have hDobj : h₄.get? D = some { cls := .type "list", data := .seq ([] : List Value).toArray } := by
    rw [hsb.2 D (Ne.symm hDne)]
    refine Heap.get?_push_of_some _ ?_
    rw [← hH3, ← hDdef]; exact Heap.get?_push_size _ rfl
  have kL : KeepL env.locals s₂.heap h₄ := .of_keeps old
  have R4 : Rel W env vis loc mem { s₂ with heap := h₄, toks := s₂.toks + ([] : List (Str × Value)).length } := R2.step (R2.keepM kL) (R2.keepS kL)
  have S4 : Step NoD mem s.heap mem h₄ := S2.trans (R2.keepS kL)
  have hbase : ∀ b, s.heap.get? b = none → W.base.get? b = none := fun b e => by
    cases q : W.base.get? b with
    | none => rfl
    | some o => rw [R.m.stays b o q] at e; cases e
  have hsD := gone D hD2
  have hsC := gone C' hC2
  have RC := cEnv_rel (csc := csc) (C := C') R4 hsc hchk hT (by simpa using hns) (R.m.mems.fresh hsC) (hbase _ hsC)
  have hit4 : IterAt W k v xs I 0 h₄ := hit.keep (R2.keepF kL) fun o e => old I o e
  have hv' := newVis_ok hT hv hi
  have htg := tgOk_of hT
  have hkn : ∀ p ∈ new, (cEnv csc C' env).kindOf p.2 = some .local := fun p hp => (cEnv_sc (csc := csc) (C := C') (env := env) _ _ (c5 p hp)).2 (by simp)
  have hmn : ∀ p ∈ new, p ∈ newVis new vis := fun p hp => List.mem_append_left _ hp
  have hI2 : ∃ o, s₂.heap.get? I = some o := let ⟨o, _, e, _⟩ := hit.there; ⟨o, e⟩
  have hDI : I ≠ D := by rintro rfl; obtain ⟨o, e⟩ := hI2; rw [hD2] at e; cases e
  have hCI : I ≠ C' := by rintro rfl; obtain ⟨o, e⟩ := hI2; rw [hC2] at e; cases e
  have loop : codeAny (model W.prog W.w) A (.compLoop (.ListComp elt' [⟨target, iter, ifs, 0⟩] csc pos) 0 (.ref I) (.ref D) (cEnv csc C' env)) (RR (.ref D) C') { s₂ with heap := h₄, toks := s₂.toks + ([] : List (Str × Value)).length } := by
    refine compLoop_any (CI W csc env (newVis new vis) t loc mem s.heap k v xs I D C' B V QL) ?_ (xs.length + 1)
      (.mk 0 mem (unsetT t loc) [] [] rfl (Nat.zero_le _) (SameT.unset htg) RC S4 hit4 (by cases k <;> first | trivial | rfl) ⟨0, hDobj⟩ .nil (R.m.mems.fresh hsD) (R.m.mems.fresh hI) (Nat.le_refl _) hloop)
    rintro n s' ⟨i, mem', l', ys, vs, rfl, hi', hst, R', S', hit', hstd, hpl, hr, hmD, hmI, hys, hlp⟩
    have hnC : ∀ b, FrD (cEnv csc C' env) b → ∃ o, s'.heap.get? b = some o ∧ ((∃ es n, o.data = .dict es n) ∨ ∃ u, o.data = .cell u) := fun b hb => R'.e.there hb
    have hDnf : ¬ FrD (cEnv csc C' env) D := fun hb => by
      obtain ⟨o, e, hd⟩ := hnC D hb
      obtain ⟨n, hn⟩ := hpl
      rw [hn] at e; cases e
      rcases hd with ⟨_, _, q⟩ | ⟨_, q⟩ <;> cases q
    have hInf : ¬ FrD (cEnv csc C' env) I := fun hb => by
      obtain ⟨o, e, hd⟩ := hnC I hb
      obtain ⟨o', fs, e', hd'⟩ := hit'.there
      rw [e] at e'; cases e'
      rw [hd'] at hd
      rcases hd with ⟨_, _, q⟩ | ⟨_, q⟩ <;> cases q
    by_cases hlt : i < xs.length
    · refine iter_next R'.m (hcur.stands hstd) hit' hmI hlt fun x y h' tk hx hxr hit1 hs1 => ?_
      have kb1 : KeepBut I s'.heap h' := fun b o hb e => (hs1.2 b hb).trans e
      obtain ⟨R1, kf1⟩ := R'.off (s' := { s' with heap := h', toks := tk }) I hmI (hbase _ hI) hInf (fun o e hf => by
        obtain ⟨o', fs, e', hd'⟩ := hit'.there
        rw [e] at e'; cases e'
        obtain ⟨_, _, _, q⟩ := hf; rw [hd'] at q; cases q) kb1
      have S1 : Step NoD mem s.heap mem' h' := S'.off (· = I) (fun b hb => hb ▸ hI) fun b o hb e => kb1 b o hb e
      refine owned_sound hit1 ?_
      have hdrop : xs.drop i = x :: xs.drop (i + 1) := by
        rw [List.drop_eq_getElem_cons hlt]
        congr 1
        rw [List.getElem?_eq_getElem hlt] at hx
        exact Option.some.inj hx
      rw [hdrop] at hlp
      obtain ⟨l, hl, hlp'⟩ := hlp
      · refine assignT R1 hh hv' hT hmn (fun p hp => .inl (hkn p hp)) hxr (hst x l hl) fun s2 R2' _ hkb2 => ?_
        have kb2 := hkb2 hkn
        have S2' : Step NoD mem s.heap mem' s2.heap := S1.off (· = C') (fun b hb => hb ▸ hsC) fun b o hb e => kb2 b o hb e
        have pl1 : h'.PlainList D (List.toArray vs) := let ⟨n, hn⟩ := hpl; ⟨n, kb1 D _ (Ne.symm hDI) hn⟩
        have pl2 : s2.heap.PlainList D (List.toArray vs) := let ⟨n, hn⟩ := pl1; ⟨n, kb2 D _ (Ne.symm hDne) hn⟩
        have kf2 : KeepF h' s2.heap := fun b o e hf => kb2 b o (by
          rintro rfl
          exact R1.e.dok _ o (.inl rfl) e hf) e
        have hit2 : IterAt W k v xs I (i + 1) s2.heap := hit1.keep kf2 fun o e => kb2 I o hCI e
        have hr2 : VRels W s2.heap ys vs := (hr.keep kf1).keep kf2
        refine wpAny_mono (htests C' l _ mem' s2 _ R2' hlp') (fun ok s3 h3 => ?_) fun _ _ e => e
        obtain ⟨mem3, M3, S3, h3⟩ := h3
        have R3 := R2'.step M3 S3
        have hI3 : ∃ o fs, s2.heap.get? I = some o ∧ o.data = .fields fs := hit2.there
        have keepI : ∀ (ma mb : Mem) (ha hb : Heap), Step NoD ma ha mb hb → ma I = none → (∃ o fs, ha.get? I = some o ∧ o.data = .fields fs) → ∀ o, ha.get? I = some o → hb.get? I = some o := fun ma mb ha hb S hm ⟨o', fs, e', hd'⟩ o e => by
          obtain ⟨o2, e2, a2⟩ := S.keep I o e hm id
          rw [e] at e'; cases e'
          rw [e2, a2.eq fun es ep q => by rw [hd'] at q; cases q]
        have keepD : ∀ (ma mb : Mem) (ha hb : Heap), Step NoD ma ha mb hb → ma D = none → ha.PlainList D (List.toArray vs) → hb.PlainList D (List.toArray vs) := fun ma mb ha hb S hm ⟨n, hn⟩ => by
          obtain ⟨o2, e2, a2⟩ := S.keep D _ hn hm id
          exact ⟨n, by rw [e2, a2.eq fun es ep q => by cases q]⟩
        have kf3 := S3.keepF R2'.m.mems .none
        have hit3 := hit2.keep kf3 (keepI _ _ _ _ S3 hmI hI3)
        have pl3 := keepD _ _ _ _ S3 hmD pl2
        obtain ⟨oI, fI, eI, dI⟩ := hI3
        have hmI3 := S3.none' eI hmI
        obtain ⟨nD, eD⟩ := id pl2
        have hmD3 := S3.none' eD hmD
        cases ok with
        | false =>
          simp only [Bool.false_eq_true, if_false]
          obtain ⟨q1, q2⟩ := h3.2 rfl
          exact ⟨xs.length + 1 - (i + 1), turn_lt hlt, .mk (i + 1) mem3 l (ys ++ []) vs rfl hlt (SameT.set htg hl) R3 (S2'.trans S3) hit3 q1 pl3 (by rw [List.append_nil]; exact hr2.keep kf3) hmD3 hmI3 (by rw [List.append_nil]; exact Nat.le_succ_of_le hys) q2⟩
        | true =>
          simp only [if_true]
          refine wpAny_mono (helt C' l _ mem3 s3 _ R3 (h3.1 rfl)) (fun z s4 h4 => ?_) fun _ _ e => e
          obtain ⟨w, mem4, hw, M4, S4', q1, q2⟩ := h4
          have R4' := R3.step M4 S4'
          have kf4 := S4'.keepF R3.m.mems .none
          have hit4' := hit3.keep kf4 (keepI _ _ _ _ S4' hmI3 hit3.there)
          have pl4 := keepD _ _ _ _ S4' hmD3 pl3
          obtain ⟨oI4, fI4, eI4, dI4⟩ := hit3.there
          have hmI4 := S4'.none' eI4 hmI3
          obtain ⟨nD3, eD3⟩ := id pl3
          have hmD4 := S4'.none' eD3 hmD3
          have hr4 := (hr2.keep kf3).keep kf4
          refine wpAny_list_append_plain pl4 (fun h5 pl5 hs5 => ?_) (by rw [List.size_toArray, hr4.length]; exact lid_line (by walk_at "o"))
          have kb5 : KeepBut D s4.heap h5 := fun b o hb e => (hs5.2 b hb).trans e
          obtain ⟨nD4, eD4⟩ := id pl4
          obtain ⟨R5, kf5⟩ := R4'.off (s' := { s4 with heap := h5 }) D hmD4 (hbase _ hsD) (fun hb => by
            obtain ⟨o, e, hd⟩ := R4'.e.there hb
            rw [eD4] at e; cases e
            rcases hd with ⟨_, _, q⟩ | ⟨_, q⟩ <;> cases q) (fun o e hf => by
            rw [eD4] at e; cases e
            have := hf.1; simp at this) kb5
          have S5 : Step NoD mem s.heap mem4 h5 := ((S2'.trans S3).trans S4').off (· = D) (fun b hb => hb ▸ hsD) fun b o hb e => kb5 b o hb e
          exact ⟨xs.length + 1 - (i + 1), turn_lt hlt, .mk (i + 1) mem4 l (ys ++ [w]) (vs ++ [z]) rfl hlt (SameT.set htg hl) R5 S5 (hit4'.keep kf5 fun o e => kb5 I o hDI e) q1 (by simpa using pl5) ((VRels.append (.cons hw .nil) hr4).keep kf5) hmD4 hmI4 (by rw [List.length_append]; exact Nat.succ_le_succ hys) q2⟩
    · have hie : i = xs.length := by walk_at "o"
      subst hie
      refine iter_end R'.m hh (hcur.stands hstd) hit' fun h' he => ?_
      have kb1 : KeepBut I s'.heap h' := fun b o hb e => he b o hb e
      obtain ⟨R1, kf1⟩ := R'.off (s' := { s' with heap := h' }) I hmI (hbase _ hI) hInf (fun o e hf => by
        obtain ⟨o', fs, e', hd'⟩ := hit'.there
        rw [e] at e'; cases e'
        obtain ⟨_, _, _, q⟩ := hf; rw [hd'] at q; cases q) kb1
      have S1 : Step NoD mem s.heap mem' h' := S'.off (· = I) (fun b hb => hb ▸ hI) fun b o hb e => kb1 b o hb e
      have hq : QL ys mem' := by rw [List.drop_length] at hlp; exact hlp
      obtain ⟨m, hm⟩ := R1.hasNs
      obtain ⟨nD, eD⟩ := hpl
      exact hRR D C' _ mem' ys vs m hsD hsC hDne hm ⟨nD, kb1 D _ (Ne.symm hDI) eD⟩ (hr.keep kf1) R1.m S1 (R1.sep _ (.inl rfl)) hmD hq
  exact codeAny_compStart_list loop (iter_self hit4 loop)

end TD

namespace TD
open PySem PyProof.Rows
variable {W : Cx} {A : Around} {E : Value → Shared → Prop} {env : Env} {vis : List (Nat × Str)} {loc : Loc} {mem : Mem} {s : Shared} {Q : Val → Mem → Prop}

theorem eval_call {x : Str} {px p : Pos} {args : List Expr} {M : Model} {P : Value → Shared → Prop} (h : wpAny M A (eval (.Name x px) env) (fun f s₁ => wpAny M A (callWith p f [] (backTo p (starEach args env)) []) P E s₁) E s) :
    wpAny M A (eval (.Call (.Name x px) args [] p) env) P E s := by
  show wpAny M A (do callWith p (← eval (.Name x px) env) [] (backTo p (starEach args env)) []) P E s
  exact wpAny_bind h
theorem back_cons {p : Pos} {e : Expr} {rest : List Expr} (h : ∀ a q, e ≠ .Starred a q) : backTo p (starEach (e :: rest) env) = (false, eval e env) :: backTo p (starEach rest env) := by
  rw [star_plain h]; rfl
theorem call1b {id : String} {p : Pos} {e : Expr} {P : Value → Shared → Prop} (he : ∀ a q, e ≠ .Starred a q) (h : wpAny (model W.prog W.w) A (eval e env) (fun v s₁ => wpAny (model W.prog W.w) A (call (.builtin id) [v]) P E s₁) E s) :
    wpAny (model W.prog W.w) A (callWith p (.builtin id) [] (backTo p (starEach [e] env)) []) P E s := by
  rw [back_cons he]
  refine Calls.callWith_builtin rfl (Calls.evalArgs_plain (Calls.spliced_cons ?_))
  exact wpAny_mono h (fun v s₁ h₁ => Calls.spliced_nil h₁) fun _ _ x => x
theorem call1t {T : String} {p : Pos} {e : Expr} {P : Value → Shared → Prop} (he : ∀ a q, e ≠ .Starred a q) (h : wpAny (model W.prog W.w) A (eval e env) (fun v s₁ => wpAny (model W.prog W.w) A (call (.type T) [v]) P E s₁) E s) :
    wpAny (model W.prog W.w) A (callWith p (.type T) [] (backTo p (starEach [e] env)) []) P E s := by
  rw [back_cons he]
  refine PySem.callWith_type rfl (Calls.evalArgs_plain (Calls.spliced_cons ?_))
  exact wpAny_mono h (fun v s₁ h₁ => Calls.spliced_nil h₁) fun _ _ x => x
theorem call2b {id : String} {p : Pos} {e e' : Expr} {P : Value → Shared → Prop} (he : ∀ a q, e ≠ .Starred a q) (he' : ∀ a q, e' ≠ .Starred a q)
    (h : wpAny (model W.prog W.w) A (eval e env) (fun v s₁ => wpAny (model W.prog W.w) A (eval e' env) (fun u s₂ => wpAny (model W.prog W.w) A (call (.builtin id) [v, u]) P E s₂) E s₁) E s) :
    wpAny (model W.prog W.w) A (callWith p (.builtin id) [] (backTo p (starEach [e, e'] env)) []) P E s := by
  rw [back_cons he, back_cons he']
  refine Calls.callWith_builtin rfl (Calls.evalArgs_plain (Calls.spliced_cons ?_))
  exact wpAny_mono h (fun v s₁ h₁ => Calls.spliced_cons (wpAny_mono h₁ (fun u s₂ h₂ => Calls.spliced_nil h₂) fun _ _ x => x)) fun _ _ x => x
theorem callM1 {id : String} {p : Pos} {o : Value} {e : Expr} {P : Value → Shared → Prop} (he : ∀ a q, e ≠ .Starred a q) (h : wpAny (model W.prog W.w) A (eval e env) (fun v s₁ => wpAny (model W.prog W.w) A (call (.builtin id) [o, v]) P E s₁) E s) :
    wpAny (model W.prog W.w) A (callWith p (.builtin id) [o] (backTo p (starEach [e] env)) []) P E s := by
  rw [back_cons he]
  refine Calls.callWith_builtin rfl (Calls.evalArgs_plain (Calls.spliced_cons ?_))
  exact wpAny_mono h (fun v s₁ h₁ => Calls.spliced_nil h₁) fun _ _ x => x
theorem callM0 {id : String} {p : Pos} {o : Value} {P : Value → Shared → Prop} (h : wpAny (model W.prog W.w) A (call (.builtin id) [o]) P E s) :
    wpAny (model W.prog W.w) A (callWith p (.builtin id) [o] (backTo p (starEach [] env)) []) P E s := by
  refine Calls.callWith_builtin rfl ?_
  have e : evalArgs (.builtin id) true [] [] = pure ⟨[], []⟩ := by rfl
  show wpAny _ A (evalArgs (.builtin id) true [] []) _ _ s
  rw [e]
  exact wpAny_pure h

theorem folded_notSet {e : Expr} (h : notSet e = true) (x : Value) : foldedSetIterable e env x = pure x := by
  cases e <;> first | rfl | exact nb h

theorem src_sound {G : String → Option Val} (ok : CxOk W G) {sc : Scope} (hsc : ScOk sc env) {k : ItK} {iter : Expr} {PX : Val → List Val → Mem → Prop} (R : Rel W env vis loc mem s)
    {ex : Expr} (hex : ∀ a q, ex ≠ .Starred a q) (hk : IterIs sc k.call iter ex)
    (hsrc : wpAny (model W.prog W.w) A (eval ex env) (PM W mem s (fun v m1 => itemsW k v (fun xs => PX v xs m1) m1)) E s) {P : Value → Shared → Prop}
    (hp : ∀ I v xs mem1 s1 s', Rel W env vis loc mem1 s1 → Step NoD mem s.heap mem1 s1.heap → s1.heap.get? I = none → IterAt W k v xs I 0 s'.heap → Rel W env vis loc mem1 s' → Step NoD mem1 s1.heap mem1 s'.heap → Cur k v xs mem1 → xs.length < lid → PX v xs mem1 → P (.ref I) s') :
    wpAny (model W.prog W.w) A (eval iter env) (fun y s₁ => wpAny (model W.prog W.w) A (pyIter y) P E s₁) E s := by
  cases k with
  | plain =>
    obtain rfl : iter = ex := hk
    refine then1 R hsrc fun v y mem1 s1 hv R1 S1 h1 => ?_
    obtain ⟨xs, e, hl, hq⟩ := h1
    exact iter_start R1 hv e fun I s' hI hit R' S' => hp I v xs mem1 s1 s' R1 S1 hI hit R' S' e hl hq
  | range =>
    obtain ⟨x, px, p, rfl, hg⟩ := hk
    refine eval_call (builtin_sound R ok hsc hg (by simp [biNames]) Boot.«range» (call1t hex ?_))
    refine then1 R hsrc fun v y mem1 s1 hv R1 S1 h1 => ?_
    obtain ⟨n, rfl, hn, hq⟩ := h1
    obtain ⟨t, rfl⟩ := hv.int
    exact range_start R1 hn fun I s' hI hit R' S' => hp I _ _ mem1 s1 s' R1 S1 hI hit R' S' ⟨n, hn, rfl⟩ (by rw [rangeV_length]; unfold lid at hn ⊢; walk_at "o") hq

theorem hnames_of {sc csc : Scope} {new vis : List (Nat × Str)} (h : chkScope sc csc new vis = true) : ∀ p ∈ csc.names, p.2 = .local → csc.names.lookup p.1 = some .local := fun p hp e => ((chkScope_spec h).2.2.1 p hp e).1

section
variable {B : Loc → (Bool → Mem → Prop) → Mem → Prop} {V : Loc → (Val → Mem → Prop) → Mem → Prop} {G : String → Option Val} {k : ItK} {sc csc : Scope} {new : List (Nat × Str)} {t : Tg} {target iter elt' : Expr} {ifs : List Expr} {pos : Pos} {QL : List Val → Mem → Prop}

noncomputable def CompLeft (W : Cx) (env : Env) (mem : Mem) (s : Shared) (QL : List Val → Mem → Prop) (D C' : Addr) (s' : Shared) : Prop :=
  ∃ mem' ys vs m, s.heap.get? D = none ∧ s.heap.get? C' = none ∧ C' ≠ D ∧ s'.heap.Ns C' m ∧ s'.heap.PlainList D (List.toArray vs) ∧ VRels W s'.heap ys vs ∧ MRel W mem' s' ∧ Step NoD mem s.heap mem' s'.heap ∧ mem' C' = none ∧ mem' D = none ∧ QL ys mem'

theorem comp_run {use : Option (Value → Sem Unit)} {PP : Value → Shared → Prop} (hh : A.handled = none) (ok : CxOk W G) (R : Rel W env vis loc mem s)
    (hsc : ScOk sc env) (hchk : chkScope sc csc new vis = true) (hns : notSet iter = true) (hT : chkT t target = some new) (hv : VisOk vis) (hi : ∀ p ∈ vis, ∀ q ∈ new, p.1 ≠ q.1)
    {ex : Expr} (hex : ∀ a q, ex ≠ .Starred a q) (hk : IterIs sc k.call iter ex)
    (hsrc : wpAny (model W.prog W.w) A (eval ex env) (PM W mem s (fun v m1 => itemsW k v (fun xs => compLoop (compF t loc B V) (stands k v m1) xs [] QL m1) m1)) E s)
    (htests : ∀ C' l P mem' s' E', Rel W (cEnv csc C' env) (newVis new vis) l mem' s' → B l P mem' →
      wpAny (model W.prog W.w) A (forIn ifs true fun c r => if r = true then do let ok ← isTrue c (cEnv csc C' env) (eval c (cEnv csc C' env)); pure (ForInStep.yield ok) else pure (ForInStep.yield r)) (PT W mem' s' P) E' s')
    (helt : ∀ C' l P mem' s' E', Rel W (cEnv csc C' env) (newVis new vis) l mem' s' → V l P mem' → wpAny (model W.prog W.w) A (eval elt' (cEnv csc C' env)) (PM W mem' s' P) E' s')
    (hpost : ∀ D C' s', CompLeft W env mem s QL D C' s' → compPost (model W.prog W.w) A E use PP (.ref D) C' (.ok .next) s') :
    wpAny (model W.prog W.w) A (comprehension (.ListComp elt' [⟨target, iter, ifs, 0⟩] csc pos) csc env (firstIterPos [⟨target, iter, ifs, 0⟩] pos) (newList []) false (eval iter env) use) PP E s := by
  refine wpAny_comprehension_free (g := ⟨target, iter, ifs, 0⟩) (gs := []) rfl (fun x => folded_notSet hns x) (closure_eq (free_cells R hsc hchk)) (chkScope_spec hchk).1 (hnames_of hchk) ?_
  refine src_sound ok hsc R hex hk hsrc fun I v xs mem1 s1 s' R1 S1 hI hit R' S' hcur hlen hq => ?_
  refine comp_core hh R1 R' S' hI hit hcur hlen hsc hchk hT hv hi htests helt hq fun D C' s'' mem' ys vs m hD hC hne hnsC hpl hr hM hS hmC hmD hQL => ?_
  exact hpost D C' s'' ⟨mem', ys, vs, m, S1.alive D hD, S1.alive C' hC, hne, hnsC, hpl, hr, hM, S1.trans hS, hmC, hmD, hQL⟩

theorem CompLeft.done {D C' : Addr} {s' : Shared} (R : Rel W env vis loc mem s) (h : CompLeft W env mem s (fun ys m' => freshL m' ys Q) D C' s') {h' : Heap} (hs : Heap.SameBut C' s'.heap h') : PM W mem s Q (.ref D) { s' with heap := h' } := by
  obtain ⟨mem', ys, vs, m, hD, hC, hne, hnsC, ⟨nD, eD⟩, hr, hM, hS, hmC, hmD, hf⟩ := h
  have hbase : ∀ b, s.heap.get? b = none → W.base.get? b = none := fun b e => by
    cases q : W.base.get? b with
    | none => rfl
    | some o => rw [R.m.stays b o q] at e; cases e
  have kb : KeepBut C' s'.heap h' := fun b o hb e => (hs.2 b hb).trans e
  have kf : KeepF s'.heap h' := fun b o e hfx => kb b o (by
    rintro rfl
    obtain ⟨o', es, ep, e', hd, _⟩ := hnsC
    rw [e] at e'; cases e'
    obtain ⟨_, _, _, q⟩ := hfx; rw [hd] at q; cases q) e
  have M' : MRel W mem' { s' with heap := h' } := by
    refine ⟨fun b o e => kb b o (by rintro rfl; rw [hbase _ hC] at e; cases e) (hM.stays b o e), fun b o e => ?_, hM.gens, hM.os⟩
    obtain ⟨r, nb⟩ := hM.mems b o e
    have hb : b ≠ C' := by rintro rfl; rw [hmC] at e; cases e
    exact ⟨r.at (fun _ e => kb _ _ hb e) kf, nb⟩
  have S' : Step NoD mem s.heap mem' h' := hS.off (· = C') (fun b hb => hb ▸ hC) fun b o hb e => kb b o hb e
  refine ⟨.ref D, mem'.set D (.list ys), .mkRef, ⟨M'.stays, fun b o e => ?_, M'.gens, M'.os⟩, ⟨S'.alive, S'.keep, fun b hb hb' => ?_⟩, hf.2 D hmD⟩
  · unfold Mem.set at e
    split at e
    · rename_i q; subst q; cases e
      exact ⟨⟨vs, ⟨nD, kb _ _ (Ne.symm hne) eD⟩, hr.keep kf⟩, hbase _ hD⟩
    · exact M'.mems b o e
  · unfold Mem.set at hb'
    split at hb'
    · rename_i q; subst q; exact hD
    · exact S'.grow b hb hb'
end

end TD

namespace TD
open PySem PyProof.Rows
variable {W : Cx} {A : Around} {E : Value → Shared → Prop} {env : Env} {vis : List (Nat × Str)} {loc : Loc} {mem : Mem} {s : Shared} {Q : Val → Mem → Prop}

theorem firstMet_nodup (val : Nat → Int) : ∀ i, (firstMet val i).length = i ↔ ((List.range i).map val).Nodup
  | 0 => by simp [firstMet_zero]
  | i + 1 => by
    rw [firstMet_succ, List.range_succ, List.map_append, List.nodup_append]
    have ih := firstMet_nodup val i
    have hle := firstMet_length_le val i
    have hany := firstMet_any val i (val i)
    unfold step_dedup
    split
    · rename_i hc
      rw [hany] at hc
      constructor
      · intro h; walk_at "o"
      · rintro ⟨_, _, h3⟩
        rw [List.any_eq_true] at hc
        obtain ⟨z, hz, e⟩ := hc
        exact absurd (by simpa using e) (h3 z hz (val i) (by simp))
    · rename_i hc
      rw [hany] at hc
      simp only [List.length_append, List.length_cons, List.length_nil]
      constructor
      · intro h
        refine ⟨ih.mp (by walk_at "o"), by simp, fun a ha b hb e => ?_⟩
        simp at hb; subst hb; subst e
        apply hc
        rw [List.any_eq_true]
        exact ⟨_, ha, by simp⟩
      · rintro ⟨h1, _, _⟩
        rw [ih.mpr h1]
theorem range_getD (ns : List Int) : (List.range ns.length).map (fun i => ns.getD i 0) = ns := by
  apply List.ext_getElem
  · simp
  · intro i h1 h2
    simp at h1
    simp [List.getD, h1]

theorem lenset_sound (R : Rel W env vis loc mem s) {n : Nat} (hr : Room n A) {v : Val} {a : Value} (hv : VRel W s.heap v a) (h : wpB1 .lenset v Q mem) :
    wpAny (model W.prog W.w) A (call (.type "set") [a]) (fun y s₁ => wpAny (model W.prog W.w) A (call (.builtin "len") [y]) (PM W mem s Q) E s₁) E s := by
  simp only [wpB1] at h
  obtain ⟨is, e, hl, hq⟩ := h
  obtain ⟨b, vs, rfl, hlist, r⟩ := lst_rel R.m hv e
  have hlen := r.length
  rw [List.length_map] at hlen
  refine call_set_list (items := vs.toArray) (ns := is) hr.handled hlist (by simpa using ints_of r) (by rw [List.size_toArray, hlen]; unfold scanBound; walk_at "o") fun h' tk hS hk => ?_
  obtain ⟨o, es, ep, t, ho, hex, hd, _, _, _, hf, hsz⟩ := hS
  replace hsz : es.size = (firstMet (fun i => is.getD i 0) is.length).length := by
    have e1 : vs.toArray.size = is.length := by rw [List.size_toArray]; exact hlen
    rw [e1] at hsz; exact hsz
  have hle := firstMet_length_le (fun i => is.getD i 0) is.length
  refine call_len_set ho hex hd hf (by rw [hsz]; walk_at "o") ?_
  have k : KeepL env.locals s.heap h' := .of_keeps fun b o e => hk b o (Heap.lt_size e) e
  refine PM.kept R (v := .int es.size) (s' := { s with heap := h', toks := _ }) k .mkInt ?_
  refine hq es.size (by rw [hsz]; exact hle) ?_
  rw [hsz, firstMet_nodup, range_getD]

end TD

namespace TD
open PySem PyProof.Rows

section inv
variable {FT : Nat → Option Fn} {ids : List Nat} {vis : List (Nat × Str)} {sc : Scope} {ex : Expr}
theorem inv_nm {i : Nat} (h : chkE FT ids vis sc (.nm i) ex = true) : ∃ x p, ex = .Name x p ∧ vis.lookup i = some x ∧ isLoc sc x = true ∧ okName x = true := by
  refine Classical.byContradiction fun hn => ?_
  obtain ⟨x, p, rfl, h⟩ := vName_inv h
  obtain ⟨h1, h⟩ := and2 h
  exact hn ⟨x, p, rfl, beq_iff_eq.mp h1, and2 h⟩
theorem inv_int {i : Int} (h : chkE FT ids vis sc (.int i) ex = true) : ∃ k p, ex = .Constant (.int i) k p := by
  refine Classical.byContradiction fun hn => ?_
  obtain ⟨c, k, p, rfl, h⟩ := vConst_inv h
  obtain rfl := beq_iff_eq.mp h
  exact hn ⟨k, p, rfl⟩
theorem inv_bool {i : Bool} (h : chkE FT ids vis sc (.bool i) ex = true) : ∃ k p, ex = .Constant (.bool i) k p := by
  refine Classical.byContradiction fun hn => ?_
  obtain ⟨c, k, p, rfl, h⟩ := vConst_inv h
  obtain rfl := beq_iff_eq.mp h
  exact hn ⟨k, p, rfl⟩
theorem inv_str {i : String} (h : chkE FT ids vis sc (.str i) ex = true) : ∃ k p, ex = .Constant (.str (Str.ofString i)) k p := by
  refine Classical.byContradiction fun hn => ?_
  obtain ⟨c, k, p, rfl, h⟩ := vConst_inv h
  obtain rfl := beq_iff_eq.mp h
  exact hn ⟨k, p, rfl⟩
theorem inv_none (h : chkE FT ids vis sc .none ex = true) : ∃ k p, ex = .Constant .none k p := by
  refine Classical.byContradiction fun hn => ?_
  obtain ⟨c, k, p, rfl, h⟩ := vConst_inv h
  obtain rfl := beq_iff_eq.mp h
  exact hn ⟨k, p, rfl⟩
theorem inv_glob {i : String} (h : chkE FT ids vis sc (.glob i) ex = true) : ∃ x p, ex = .Name x p ∧ gName sc i x = true := vName_inv h
theorem inv_bin {op : Bop} {a b : Ex} (h : chkE FT ids vis sc (.bin op a b) ex = true) : ∃ l o r p, ex = .BinOp l o r p ∧ bopIs op o = true ∧ chkE FT ids vis sc a l = true ∧ chkE FT ids vis sc b r = true := by
  refine Classical.byContradiction fun hn => ?_
  obtain ⟨l, o, r, p, rfl, h⟩ := vBin_inv h
  obtain ⟨h1, h⟩ := and2 h
  exact hn ⟨l, o, r, p, rfl, h1, and2 h⟩
theorem inv_not {a : Ex} (h : chkE FT ids vis sc (.not a) ex = true) : ∃ x p, ex = .UnaryOp .Not x p ∧ chkE FT ids vis sc a x = true := by
  refine Classical.byContradiction fun hn => ?_
  obtain ⟨o, x, p, rfl, h⟩ := vUn_inv h
  obtain ⟨h1, h2⟩ := and2 h
  obtain rfl := beq_iff_eq.mp h1
  exact hn ⟨x, p, rfl, h2⟩
theorem inv_neg {a : Ex} (h : chkE FT ids vis sc (.neg a) ex = true) : ∃ x p, ex = .UnaryOp .USub x p ∧ chkE FT ids vis sc a x = true := by
  refine Classical.byContradiction fun hn => ?_
  obtain ⟨o, x, p, rfl, h⟩ := vUn_inv h
  obtain ⟨h1, h2⟩ := and2 h
  obtain rfl := beq_iff_eq.mp h1
  exact hn ⟨x, p, rfl, h2⟩
theorem nonempty_of {α : Type} {l : List α} (h : (!l.isEmpty) = true) : l ≠ [] := by rintro rfl; exact nb h
theorem inv_boolop {k : Bool} {es : Exs} (h : chkE FT ids vis sc (.boolop k es) ex = true) : ∃ vs p, ex = .BoolOp (isAnd k) vs p ∧ vs ≠ [] ∧ chkL FT ids vis sc es vs = true := by
  refine Classical.byContradiction fun hn => ?_
  obtain ⟨o, vs, p, rfl, h⟩ := vBoolOp_inv h
  obtain ⟨h1, h2⟩ := and2 h
  obtain ⟨h3, h4⟩ := and2 h2
  obtain rfl := beq_iff_eq.mp h1
  exact hn ⟨vs, p, rfl, nonempty_of h3, h4⟩
theorem inv_cmp {op : Cop} {a b : Ex} (h : chkE FT ids vis sc (.cmp op a b) ex = true) : ∃ l o r p, ex = .Compare l [o] [r] p ∧ copIs op o = true ∧ notSet r = true ∧ chkE FT ids vis sc a l = true ∧ chkE FT ids vis sc b r = true := by
  refine Classical.byContradiction fun hn => ?_
  obtain ⟨l, os, rs, p, rfl, h⟩ := vCmp_inv h
  obtain ⟨o, rfl, h⟩ := vOne_inv h
  obtain ⟨r, rfl, h⟩ := vOne_inv h
  obtain ⟨h1, h⟩ := and2 h
  obtain ⟨h2, h⟩ := and2 h
  exact hn ⟨l, o, r, p, rfl, h1, h2, and2 h⟩
theorem inv_cmp2 {o1 o2 : Cop} {a b c : Ex} (h : chkE FT ids vis sc (.cmp2 o1 o2 a b c) ex = true) : ∃ l p1 p2 r1 r2 p, ex = .Compare l [p1, p2] [r1, r2] p ∧ copIs o1 p1 = true ∧ copIs o2 p2 = true ∧ notSet r1 = true ∧ notSet r2 = true ∧ chkE FT ids vis sc a l = true ∧ chkE FT ids vis sc b r1 = true ∧ chkE FT ids vis sc c r2 = true := by
  refine Classical.byContradiction fun hn => ?_
  obtain ⟨l, os, rs, p, rfl, h⟩ := vCmp_inv h
  obtain ⟨p1, p2, rfl, h⟩ := vTwo_inv h
  obtain ⟨r1, r2, rfl, h⟩ := vTwo_inv h
  obtain ⟨h1, h⟩ := and2 h
  obtain ⟨h2, h⟩ := and2 h
  obtain ⟨h3, h⟩ := and2 h
  obtain ⟨h4, h⟩ := and2 h
  obtain ⟨h5, h⟩ := and2 h
  exact hn ⟨l, p1, p2, r1, r2, p, rfl, h1, h2, h3, h4, h5, and2 h⟩
theorem inv_isc {q : Bool} {a : Ex} {c : Option Bool} (h : chkE FT ids vis sc (.isc q a c) ex = true) : ∃ l k' p' p, ex = .Compare l [isIs q] [.Constant (litC c) k' p'] p ∧ chkE FT ids vis sc a l = true := by
  refine Classical.byContradiction fun hn => ?_
  obtain ⟨l, os, rs, p, rfl, h⟩ := vCmp_inv h
  obtain ⟨o, rfl, h⟩ := vOne_inv h
  obtain ⟨r, rfl, h⟩ := vOne_inv h
  obtain ⟨h1, h2⟩ := and2 h
  obtain ⟨h3, h4⟩ := and2 h2
  obtain ⟨k, k', p', rfl, h5⟩ := vConst_inv h4
  have e1 := beq_iff_eq.mp h1
  have e2 := beq_iff_eq.mp h5
  subst e1 e2
  exact hn ⟨l, k', p', p, rfl, h3⟩
theorem fnIs_inv {f : Nat} {x : Str} (h : fnIs FT sc f x = true) : ∃ fn, FT f = some fn ∧ gName sc fn.name x = true := by
  unfold fnIs at h
  cases q : FT f with
  | none => rw [q] at h; exact nb h
  | some fn => rw [q] at h; exact ⟨fn, rfl, h⟩
theorem inv_call {f : Nat} {args : Exs} (h : chkE FT ids vis sc (.call f args) ex = true) : ∃ x px es p fn, ex = .Call (.Name x px) es [] p ∧ f ∈ ids ∧ FT f = some fn ∧ gName sc fn.name x = true ∧ es ≠ [] ∧ chkL FT ids vis sc args es = true := by
  refine Classical.byContradiction fun hn => ?_
  obtain ⟨x, px, es, p, rfl, h⟩ := vCallN_inv h
  obtain ⟨h1, h⟩ := and2 h
  obtain ⟨h2, h⟩ := and2 h
  obtain ⟨h3, h⟩ := and2 h
  obtain ⟨fn, h4, h5⟩ := fnIs_inv h2
  exact hn ⟨x, px, es, p, fn, rfl, List.contains_iff_mem.mp h1, h4, h5, nonempty_of h3, h⟩
theorem vIter_none {e : Expr} {f : Option String} {k : Expr → Bool} (hf : f = none) (h : vIter sc f e k = true) : k e = true := by subst hf; exact h
theorem vIter_some {e : Expr} {g : Option String} {f : String} {k : Expr → Bool} (hf : g = some f) (h : vIter sc g e k = true) : ∃ x px e1 p, e = .Call (.Name x px) [e1] [] p ∧ gName sc f x = true ∧ k e1 = true := by
  subst hf
  obtain ⟨x, px, es, p, rfl, h⟩ := vCallN_inv h
  obtain ⟨h1, h⟩ := and2 h
  obtain ⟨e1, rfl, h⟩ := vOne_inv h
  exact ⟨x, px, e1, p, rfl, h1, h⟩
theorem vIter_inv {e : Expr} {f : Option String} {k : Expr → Bool} (h : vIter sc f e k = true) : ∃ e1, IterIs sc f e e1 ∧ k e1 = true := by
  cases q : f with
  | none => exact ⟨e, rfl, vIter_none q h⟩
  | some g =>
    obtain ⟨x, px, e1, p, a, b, c⟩ := vIter_some q h
    exact ⟨e1, ⟨x, px, p, a, b⟩, c⟩
theorem inv_b1 {b : B1} {a : Ex} (hb : b.inner = none) (h : chkE FT ids vis sc (.b1 b a) ex = true) : ∃ x px e1 p, ex = .Call (.Name x px) [e1] [] p ∧ gName sc b.call x = true ∧ chkE FT ids vis sc a e1 = true := by
  refine Classical.byContradiction fun hn => ?_
  obtain ⟨x, px, es, p, rfl, h⟩ := vCallN_inv h
  obtain ⟨h1, h⟩ := and2 h
  obtain ⟨e1, rfl, h⟩ := vOne_inv h
  exact hn ⟨x, px, e1, p, rfl, h1, vIter_none hb h⟩
theorem inv_b1i {b : B1} {a : Ex} {f : String} (hb : b.inner = some f) (h : chkE FT ids vis sc (.b1 b a) ex = true) : ∃ x px y py e1 p p', ex = .Call (.Name x px) [.Call (.Name y py) [e1] [] p'] [] p ∧ gName sc b.call x = true ∧ gName sc f y = true ∧ chkE FT ids vis sc a e1 = true := by
  refine Classical.byContradiction fun hn => ?_
  obtain ⟨x, px, es, p, rfl, h⟩ := vCallN_inv h
  obtain ⟨h1, h⟩ := and2 h
  obtain ⟨e1, rfl, h⟩ := vOne_inv h
  obtain ⟨y, py, e2, p', rfl, h2, h⟩ := vIter_some hb h
  exact hn ⟨x, px, y, py, e2, p, p', rfl, h1, h2, h⟩
theorem inv_isinst {a : Ex} {c : Cls} (h : chkE FT ids vis sc (.isinst a c) ex = true) : ∃ x px e1 y py p, ex = .Call (.Name x px) [e1, .Name y py] [] p ∧ gName sc "isinstance" x = true ∧ chkE FT ids vis sc a e1 = true ∧ gName sc c.bi y = true := by
  refine Classical.byContradiction fun hn => ?_
  obtain ⟨x, px, es, p, rfl, h⟩ := vCallN_inv h
  obtain ⟨h1, h⟩ := and2 h
  obtain ⟨e1, e2, rfl, h⟩ := vTwo_inv h
  obtain ⟨h2, h⟩ := and2 h
  obtain ⟨y, py, rfl, h⟩ := vName_inv h
  exact hn ⟨x, px, e1, y, py, p, rfl, h1, h2, h⟩
theorem inv_append {o a : Ex} (h : chkE FT ids vis sc (.append o a) ex = true) : ∃ e1 ap e2 p, ex = .Call (.Attribute e1 (Str.ofString "append") ap) [e2] [] p ∧ okAt e1 ap p = true ∧ chkE FT ids vis sc o e1 = true ∧ chkE FT ids vis sc a e2 = true := by
  refine Classical.byContradiction fun hn => ?_
  obtain ⟨e1, ap, es, p, rfl, h1, h⟩ := vMeth_inv h
  obtain ⟨e2, rfl, h⟩ := vOne_inv h
  exact hn ⟨e1, ap, e2, p, rfl, h1, and2 h⟩
theorem inv_extend {o a : Ex} (h : chkE FT ids vis sc (.extend o a) ex = true) : ∃ e1 ap e2 p, ex = .Call (.Attribute e1 (Str.ofString "extend") ap) [e2] [] p ∧ okAt e1 ap p = true ∧ chkE FT ids vis sc o e1 = true ∧ chkE FT ids vis sc a e2 = true := by
  refine Classical.byContradiction fun hn => ?_
  obtain ⟨e1, ap, es, p, rfl, h1, h⟩ := vMeth_inv h
  obtain ⟨e2, rfl, h⟩ := vOne_inv h
  exact hn ⟨e1, ap, e2, p, rfl, h1, and2 h⟩
theorem inv_index {o a : Ex} (h : chkE FT ids vis sc (.index o a) ex = true) : ∃ e1 ap e2 p, ex = .Call (.Attribute e1 (Str.ofString "index") ap) [e2] [] p ∧ okAt e1 ap p = true ∧ chkE FT ids vis sc o e1 = true ∧ chkE FT ids vis sc a e2 = true := by
  refine Classical.byContradiction fun hn => ?_
  obtain ⟨e1, ap, es, p, rfl, h1, h⟩ := vMeth_inv h
  obtain ⟨e2, rfl, h⟩ := vOne_inv h
  exact hn ⟨e1, ap, e2, p, rfl, h1, and2 h⟩
theorem inv_pop {o : Ex} {i : Exs} (h : chkE FT ids vis sc (.pop o i) ex = true) : ∃ e1 ap es p, ex = .Call (.Attribute e1 (Str.ofString "pop") ap) es [] p ∧ okAt e1 ap p = true ∧ chkE FT ids vis sc o e1 = true ∧ chkL FT ids vis sc i es = true ∧ es.length ≤ 1 := by
  refine Classical.byContradiction fun hn => ?_
  obtain ⟨e1, ap, es, p, rfl, h1, h⟩ := vMeth_inv h
  obtain ⟨h2, h⟩ := and2 h
  obtain ⟨h3, h⟩ := and2 h
  exact hn ⟨e1, ap, es, p, rfl, h1, h2, h3, of_decide_eq_true h⟩
theorem inv_sub {a i : Ex} (h : chkE FT ids vis sc (.sub a i) ex = true) : ∃ e1 e2 p, ex = .Subscript e1 e2 p ∧ chkE FT ids vis sc a e1 = true ∧ chkE FT ids vis sc i e2 = true := by
  obtain ⟨e1, e2, p, rfl, h⟩ := vSub_inv h
  exact ⟨e1, e2, p, rfl, and2 h⟩
theorem inv_slice {up : Bool} {a i : Ex} (h : chkE FT ids vis sc (.slice up a i) ex = true) : ∃ e1 e2 p q, ex = .Subscript e1 (.Slice (partE up e2) (partE (!up) e2) none p) q ∧ chkE FT ids vis sc a e1 = true ∧ chkE FT ids vis sc i e2 = true := by
  refine Classical.byContradiction fun hn => ?_
  obtain ⟨e1, e2, q, rfl, g⟩ := vSub_inv h
  obtain ⟨e3, p, rfl, g3⟩ := vSl_inv g
  exact hn ⟨e1, e3, p, q, rfl, and2 g3⟩
theorem inv_mm {mx : Bool} {a b : Ex} (h : chkE FT ids vis sc (.mm mx a b) ex = true) : ∃ x px e1 e2 p, ex = .Call (.Name x px) [e1, e2] [] p ∧ gName sc (mmName mx) x = true ∧ chkE FT ids vis sc a e1 = true ∧ chkE FT ids vis sc b e2 = true := by
  refine Classical.byContradiction fun hn => ?_
  obtain ⟨x, px, es, p, rfl, h⟩ := vCallN_inv h
  obtain ⟨h1, h⟩ := and2 h
  obtain ⟨e1, e2, rfl, h⟩ := vTwo_inv h
  exact hn ⟨x, px, e1, e2, p, rfl, h1, and2 h⟩
theorem inv_lst {es : Exs} (h : chkE FT ids vis sc (.lst es) ex = true) : ∃ xs p, ex = .List xs p ∧ chkL FT ids vis sc es xs = true := vList_inv h
theorem inv_tup {es : Exs} (h : chkE FT ids vis sc (.tup es) ex = true) : ∃ xs k p, ex = .Tuple xs k p ∧ chkL FT ids vis sc es xs = true := vTup_inv h
theorem inv_comp {elt : Ex} {t : Tg} {k : ItK} {src : Ex} {cond : Exs} (h : chkE FT ids vis sc (.comp elt t k src cond) ex = true) : ∃ elt' target iter ifs csc p new e1, ex = .ListComp elt' [⟨target, iter, ifs, 0⟩] csc p ∧ chkT t target = some new ∧ chkScope sc csc new vis = true ∧ notSet iter = true ∧
    IterIs sc k.call iter e1 ∧ chkE FT ids vis sc src e1 = true ∧ chkE FT ids (newVis new vis) csc elt elt' = true ∧ chkL FT ids (newVis new vis) csc cond ifs = true := by
  refine Classical.byContradiction fun hn => ?_
  obtain ⟨elt', gs, csc, p, rfl, h⟩ := vLC_inv h
  obtain ⟨⟨target, iter, ifs, n⟩, rfl, h⟩ := vOne_inv h
  obtain ⟨new, hT, h⟩ := vSome_inv h
  obtain ⟨h0, h⟩ := and2 h
  obtain ⟨h1, h⟩ := and2 h
  obtain ⟨h2, h⟩ := and2 h
  obtain ⟨h3, h4⟩ := and2 h
  obtain ⟨e1, hk, h5⟩ := vIter_inv h3
  obtain rfl : n = 0 := of_decide_eq_true h0
  exact hn ⟨elt', target, iter, ifs, csc, p, new, e1, rfl, hT, h1, h2, hk, h5, and2 h4⟩
theorem inv_cons {e : Ex} {es : Exs} {xs : List Expr} (h : chkL FT ids vis sc (.cons e es) xs = true) : ∃ x r, xs = x :: r ∧ chkE FT ids vis sc e x = true ∧ chkL FT ids vis sc es r = true := by
  cases xs with
  | nil => exact nb h
  | cons x r => exact ⟨x, r, rfl, and2 h⟩
theorem inv_nil {xs : List Expr} (h : chkL FT ids vis sc .nil xs = true) : xs = [] := List.isEmpty_iff.mp h
end inv
noncomputable def ixOf : Ex → Nat
  | .nm _ => 23 | .int _ => 19 | .bool _ => 19 | .none => 19 | .glob _ => 23 | .bin _ _ _ => 2 | .not _ => 3 | .neg _ => 3 | .boolop _ _ => 0 | .cmp _ _ _ => 15 | .cmp2 _ _ _ _ _ => 15 | .isc _ _ _ => 15
  | .call _ _ => 16 | .b1 _ _ => 16 | .isinst _ _ => 16 | .append _ _ => 16 | .extend _ _ => 16 | .pop _ _ => 16 | .index _ _ => 16 | .sub _ _ => 21 | .slice _ _ _ => 21 | .mm _ _ _ => 16 | .lst _ => 24 | .tup _ => 25 | .comp _ _ _ _ _ => 8 | .str _ => 19
theorem chk_ix {FT : Nat → Option Fn} {ids : List Nat} {vis : List (Nat × Str)} {sc : Scope} {e : Ex} {ex : Expr} (h : chkE FT ids vis sc e ex = true) : ex.ctorIdx = ixOf e := by
  cases e with
  | nm _ => exact vName_ix h
  | int _ => exact vConst_ix h
  | bool _ => exact vConst_ix h
  | none => exact vConst_ix h
  | glob _ => exact vName_ix h
  | bin _ _ _ => exact vBin_ix h
  | not _ => exact vUn_ix h
  | neg _ => exact vUn_ix h
  | boolop _ _ => exact vBoolOp_ix h
  | cmp _ _ _ => exact vCmp_ix h
  | cmp2 _ _ _ _ _ => exact vCmp_ix h
  | isc _ _ _ => exact vCmp_ix h
  | call _ _ => exact vCall_ix h
  | b1 _ _ => exact vCall_ix h
  | isinst _ _ => exact vCall_ix h
  | append _ _ => exact vCall_ix h
  | extend _ _ => exact vCall_ix h
  | pop _ _ => exact vCall_ix h
  | index _ _ => exact vCall_ix h
  | sub _ _ => exact vSub_ix h
  | slice _ _ _ => exact vSub_ix h
  | mm _ _ _ => exact vCall_ix h
  | lst _ => exact vList_ix h
  | tup _ => exact vTup_ix h
  | comp _ _ _ _ _ => exact vLC_ix h
  | str _ => exact vConst_ix h
theorem ix_in (e : Ex) : ixOf e = 8 ∨ [23, 19, 2, 3, 0, 15, 16, 21, 24, 25].contains (ixOf e) = true := by
  cases e <;> first | exact .inr rfl | exact .inl rfl
theorem ix_ne {e : Ex} {n : Nat} (h : ixOf e = n) (h8 : n ≠ 8) (hn : [23, 19, 2, 3, 0, 15, 16, 21, 24, 25].contains n = false) : False := by
  subst h
  rcases ix_in e with q | q
  · exact h8 q
  · rw [q] at hn; exact Bool.noConfusion hn
theorem chk_notStarred {FT : Nat → Option Fn} {ids : List Nat} {vis : List (Nat × Str)} {sc : Scope} {e : Ex} {a : Expr} {p : Pos} (h : chkE FT ids vis sc e (.Starred a p) = true) : False :=
  ix_ne (n := 22) (chk_ix h).symm (by decide) rfl
theorem not_ix {a b : Nat} (h : a ≠ b) : (!(a == b)) = true := by rw [beq_false_of_ne h]; rfl
theorem chk_notSlice {FT : Nat → Option Fn} {ids : List Nat} {vis : List (Nat × Str)} {sc : Scope} {e : Ex} {ex : Expr} (h : chkE FT ids vis sc e ex = true) : notSlice ex = true :=
  not_ix fun q => ix_ne (n := 26) ((chk_ix h).symm.trans q) (by decide) rfl
section inv
variable {FT : Nat → Option Fn} {ids : List Nat} {vis : List (Nat × Str)} {sc : Scope} {ex : Expr}
theorem chkL_star {es : Exs} {xs : List Expr} (h : chkL FT ids vis sc es xs = true) : ∀ e ∈ xs, ∀ a p, e ≠ .Starred a p := by
  induction xs generalizing es with
  | nil => intro e he; cases he
  | cons x r ih =>
    cases es with
    | nil => exact nb h
    | cons e es =>
      obtain ⟨h1, h2⟩ := and2 h
      intro e he a p q
      cases he with
      | head => subst q; exact chk_notStarred h1
      | tail _ he => exact ih h2 e he a p q
end inv
theorem chk_ns {FT : Nat → Option Fn} {ids : List Nat} {vis : List (Nat × Str)} {sc : Scope} {e : Ex} {ex : Expr} (h : chkE FT ids vis sc e ex = true) : ∀ a q, ex ≠ .Starred a q := fun a q e => chk_notStarred (e ▸ h)

end TD

namespace TD
open PySem PyProof.Rows

theorem vrel_keep {W : Cx} {env : Env} {vis : List (Nat × Str)} {loc : Loc} {m1 m2 : Mem} {s1 s2 : Shared} {v : Val} {y : Value} (R : Rel W env vis loc m1 s1) (S : Step NoD m1 s1.heap m2 s2.heap) (h : VRel W s1.heap v y) : VRel W s2.heap v y := h.keep (S.keepF R.m.mems .none)

theorem VRel.kinds {W : Cx} {h : Heap} {x : Val} {a : Value} (hx : VRel W h x a) : (x = .none ∧ a = .none) ∨ (∃ t, x = .bool t ∧ a = .bool t) ∨ (isNone x = false ∧ (∀ t, isBool t x = false) ∧ ((∃ i t, a = .int i t) ∨ (∃ c, a = .ref c) ∨ ∃ x t, a = .str x t)) := by
  cases x with
  | none => exact .inl ⟨rfl, hx.none'⟩
  | bool t => exact .inr (.inl ⟨t, rfl, hx.bool⟩)
  | int i => exact .inr (.inr ⟨rfl, fun _ => rfl, .inl ⟨i, hx.int⟩⟩)
  | ref c => exact .inr (.inr ⟨rfl, fun _ => rfl, .inr (.inl ⟨c, hx.ref⟩)⟩)
  | str x => obtain ⟨t, q⟩ := hx.str; exact .inr (.inr ⟨rfl, fun _ => rfl, .inr (.inr ⟨_, t, q⟩)⟩)
  | tup _ => obtain ⟨c, _, q, _⟩ := hx; exact .inr (.inr ⟨rfl, fun _ => rfl, .inr (.inl ⟨c, q⟩)⟩)
  | frz _ => obtain ⟨c, _, q, _⟩ := hx; exact .inr (.inr ⟨rfl, fun _ => rfl, .inr (.inl ⟨c, q⟩)⟩)
noncomputable def litV : Option Bool → Value
  | none => .none
  | some t => .bool t
theorem VRel.plain {W : Cx} {h : Heap} {x : Val} {a : Value} {c : Option Bool} (hx : VRel W h x a) : plainIs a (litV c) = true := by
  cases c <;> rcases hx.kinds with ⟨_, rfl⟩ | ⟨t, _, rfl⟩ | ⟨_, _, ⟨i, t, rfl⟩ | ⟨c, rfl⟩ | ⟨x, t, rfl⟩⟩ <;> rfl
theorem VRel.lit {W : Cx} {h : Heap} {x : Val} {a : Value} {c : Option Bool} (hx : VRel W h x a) : (isLit c x = true → a = litV c) ∧ (isLit c x = false → a ≠ litV c) := by
  cases c with
  | none =>
    rcases hx.kinds with ⟨rfl, rfl⟩ | ⟨t, rfl, rfl⟩ | ⟨h1, h2, ⟨i, t, rfl⟩ | ⟨c, rfl⟩ | ⟨x, t, rfl⟩⟩
    · exact ⟨fun _ => rfl, fun e => Bool.noConfusion e⟩
    · exact ⟨fun e => nb e, fun _ e => by cases e⟩
    · exact ⟨fun e => nb (h1.symm.trans e), fun _ e => by cases e⟩
    · exact ⟨fun e => nb (h1.symm.trans e), fun _ e => by cases e⟩
    · exact ⟨fun e => nb (h1.symm.trans e), fun _ e => by cases e⟩
  | some u =>
    rcases hx.kinds with ⟨rfl, rfl⟩ | ⟨t, rfl, rfl⟩ | ⟨h1, h2, ⟨i, t, rfl⟩ | ⟨c, rfl⟩ | ⟨x, t, rfl⟩⟩
    · exact ⟨fun e => nb e, fun _ e => by cases e⟩
    · refine ⟨fun e => congrArg Value.bool (beq_iff_eq.mp e), fun e q => ?_⟩
      cases q
      exact absurd ((beq_self_eq_true u).symm.trans e) (fun q => Bool.noConfusion q)
    · exact ⟨fun e => nb ((h2 u).symm.trans e), fun _ e => by cases e⟩
    · exact ⟨fun e => nb ((h2 u).symm.trans e), fun _ e => by cases e⟩
    · exact ⟨fun e => nb ((h2 u).symm.trans e), fun _ e => by cases e⟩
theorem isc_sound {W : Cx} {A : Around} {E : Value → Shared → Prop} {mem : Mem} {s : Shared} {Q : Val → Mem → Prop} (M : MRel W mem s) {p : Bool} {x : Val} {a : Value} {c : Option Bool} (hx : VRel W s.heap x a) (hq : Q (.bool (isLit c x == p)) mem) :
    wpAny (model W.prog W.w) A (compareOp (isIs p) a (litV c)) (PM W mem s Q) E s := by
  have hpl : plainIs a (litV c) = true := hx.plain
  obtain ⟨h1, h2⟩ := hx.lit (c := c)
  cases r : isLit c x with
  | false =>
    rw [r] at hq
    cases p with
    | false => exact wpAny_isNot_other hpl (h2 r) (PM.here M .mkBool hq)
    | true => exact wpAny_is_other hpl (h2 r) (PM.here M .mkBool hq)
  | true =>
    rw [r] at hq
    have e := h1 r
    rw [← e] at hpl ⊢
    cases p with
    | false => exact wpAny_isNot_self hpl (PM.here M .mkBool hq)
    | true => exact wpAny_is_self hpl (PM.here M .mkBool hq)

theorem forIn_false {M : Model} {A : Around} {E : Value → Shared → Prop} {s : Shared} {env : Env} {P : Bool → Shared → Prop} (h : P false s) : ∀ (l : List Expr),
    wpAny M A (forIn l false fun c r => if r = true then do let ok ← isTrue c env (eval c env); pure (ForInStep.yield ok) else pure (ForInStep.yield r)) P E s
  | [] => wpAny_pure h
  | c :: l => by
    rw [List.forIn_cons]
    simp only [Bool.false_eq_true, if_false]
    exact forIn_false h l

theorem bi_in {n : String} (h : biNames.contains n = true) : n ∈ biNames := List.contains_iff_mem.mp h
theorem bi_name {sc : Scope} {c : Cls} {y : Str} (h : gName sc c.bi y = true) : c.code < 4 ∧ gName sc c.name y = true ∧ c.name ∈ biNames ∧ bootBuiltins (Str.ofString c.name) = some (.type c.name) := by
  cases c <;> first | exact (gName_empty h).elim | skip
  · exact ⟨by decide, h, bi_in (by decide +kernel), Boot.«int»⟩
  · exact ⟨by decide, h, bi_in (by decide +kernel), Boot.«bool»⟩
  · exact ⟨by decide, h, bi_in (by decide +kernel), Boot.«list»⟩
  · exact ⟨by decide, h, bi_in (by decide +kernel), Boot.«tuple»⟩
theorem PM.mono {W : Cx} {mem : Mem} {s s' : Shared} {Q Q' : Val → Mem → Prop} {y : Value} (k : ∀ v m, Q v m → Q' v m) (h : PM W mem s Q y s') : PM W mem s Q' y s' := by
  obtain ⟨v, m, a, b, c, d⟩ := h
  exact ⟨v, m, a, b, c, k _ _ d⟩
theorem bsQ_end {k b : Bool} {P : Bool → Mem → Prop} {m : Mem} {W : Mem → Prop} (hW : W m → P k m) (h : bsQ k W P b m) : P b m := by
  cases b <;> cases k
  · exact hW (h.1 rfl)
  · exact h.2 rfl
  · exact h.2 rfl
  · exact hW (h.1 rfl)

noncomputable def EvP (W : Cx) (FT : Nat → Option Fn) (ids : List Nat) (G : String → Option Val) (A : Around) (C : CallT) (e : Ex) : Prop := ∀ {ex : Expr} {env : Env} {vis : List (Nat × Str)} {sc : Scope} {loc : Loc} {Q : Val → Mem → Prop} {X : Nat → Mem → Prop} {mem : Mem} {s : Shared} {E : Value → Shared → Prop},
    chkE FT ids vis sc e ex = true → ScOk sc env → VisOk vis → (∀ k m, ¬ X k m) → Rel W env vis loc mem s → wpE C G X e loc Q mem → wpAny (model W.prog W.w) A (eval ex env) (PM W mem s Q) E s
noncomputable def TsP (W : Cx) (FT : Nat → Option Fn) (ids : List Nat) (G : String → Option Val) (A : Around) (C : CallT) (e : Ex) : Prop := ∀ {ex : Expr} {env : Env} {vis : List (Nat × Str)} {sc : Scope} {loc : Loc} {P : Bool → Mem → Prop} {X : Nat → Mem → Prop} {mem : Mem} {s : Shared} {E : Value → Shared → Prop},
    chkE FT ids vis sc e ex = true → ScOk sc env → VisOk vis → (∀ k m, ¬ X k m) → Rel W env vis loc mem s → wpE C G X e loc (asB P) mem → wpAny (model W.prog W.w) A (isTrue ex env (eval ex env)) (PT W mem s P) E s
noncomputable def IsPlain (ex : Expr) : Prop := ∀ (env : Env) (w : Sem Value), isTrue ex env w = (do let v ← w; standAt ex.pos; holding [v] (truthy v))
theorem plain_isTrue {ex : Expr} (h : [0, 3, 5, 15].contains ex.ctorIdx = false) : IsPlain ex := fun env w => by
  cases ex <;> first | rfl | exact nb (show false = true from h.symm)
theorem gen {W : Cx} {FT : Nat → Option Fn} {ids : List Nat} {G : String → Option Val} {A : Around} {C : CallT} {e : Ex} (ev : EvP W FT ids G A C e) (hp : ∀ {ex : Expr} {vis : List (Nat × Str)} {sc : Scope}, chkE FT ids vis sc e ex = true → IsPlain ex) : EvP W FT ids G A C e ∧ TsP W FT ids G A C e :=
  ⟨ev, fun hc hsc hv hX R h => isTrue_plain (truth (ev hc hsc hv hX R h) fun b s' q => q) (hp hc _ _)⟩

theorem lit_pure {M : Model} {A : Around} {E : Value → Shared → Prop} {s : Shared} {env : Env} {c : Option Bool} {k : Nat} {p : Pos} {P : Value → Shared → Prop} (h : P (litV c) s) : wpAny M A (eval (.Constant (litC c) k p) env) P E s := by
  cases c <;> exact wpAny_pure h
theorem asB_bool {P : Bool → Mem → Prop} {b : Bool} {m : Mem} (h : asB P (.bool b) m) : P b m := by
  obtain ⟨b', e, h⟩ := h
  cases e
  exact h
theorem PT.plain {W : Cx} {mem : Mem} {s s' : Shared} {P : Bool → Mem → Prop} {b : Bool} (h : PT W mem s (fun b m => asB P (.bool b) m) b s') : PT W mem s P b s' := by
  obtain ⟨m, a, c, d⟩ := h
  exact ⟨m, a, c, asB_bool d⟩
theorem chk_plain {FT : Nat → Option Fn} {ids : List Nat} {vis : List (Nat × Str)} {sc : Scope} {e : Ex} {ex : Expr} (he : [0, 3, 5, 15].contains (ixOf e) = false) (h : chkE FT ids vis sc e ex = true) : IsPlain ex :=
  plain_isTrue (by rw [chk_ix h]; exact he)

theorem star1 {e1 : Expr} (h : ∀ a q, e1 ≠ .Starred a q) : ∀ e ∈ [e1], ∀ a q, e ≠ .Starred a q := fun e he => by
  cases List.mem_singleton.mp he
  exact h

mutual
theorem soundE {W : Cx} {FT : Nat → Option Fn} {ids : List Nat} {G : String → Option Val} {n : Nat} {A : Around} {C : CallT} (SC : SCx W FT ids G n A C) : ∀ (e : Ex), EvP W FT ids G A C e ∧ TsP W FT ids G A C e
  | .nm i => gen (fun {ex env vis sc loc Q X mem s E} hc hsc hv hX R h => by
    obtain ⟨x, p, rfl, h1, h2, h3⟩ := inv_nm hc
    obtain ⟨v, q, h'⟩ := h
    exact name_sound R hsc h1 h2 h3 q h') (fun {ex vis sc} h => chk_plain rfl h)
  | .int i => gen (fun {ex env vis sc loc Q X mem s E} hc hsc hv hX R h => by
    obtain ⟨k, p, rfl⟩ := inv_int hc
    exact wpAny_Constant_int (PM.val R.m .mkInt h _)) (fun {ex vis sc} h => chk_plain rfl h)
  | .bool i => gen (fun {ex env vis sc loc Q X mem s E} hc hsc hv hX R h => by
    obtain ⟨k, p, rfl⟩ := inv_bool hc
    exact wpAny_pure (PM.here R.m .mkBool h)) (fun {ex vis sc} h => chk_plain rfl h)
  | .none => gen (fun {ex env vis sc loc Q X mem s E} hc hsc hv hX R h => by
    obtain ⟨k, p, rfl⟩ := inv_none hc
    exact wpAny_pure (PM.here R.m .mkNone h)) (fun {ex vis sc} h => chk_plain rfl h)
  | .str i => gen (fun {ex env vis sc loc Q X mem s E} hc hsc hv hX R h => by
    obtain ⟨k, p, rfl⟩ := inv_str hc
    exact wpAny_Constant_str (PM.val R.m .mkStr h _)) (fun {ex vis sc} h => chk_plain rfl h)
  | .glob i => gen (fun {ex env vis sc loc Q X mem s E} hc hsc hv hX R h => by
    obtain ⟨x, p, rfl, h1⟩ := inv_glob hc
    obtain ⟨v, q, h'⟩ := h
    obtain ⟨j, t, rfl, hm⟩ := SC.ok.gl i v q
    exact global_sound R SC.ok hsc h1 hm (PM.here R.m .mkInt h')) (fun {ex vis sc} h => chk_plain rfl h)
  | .bin op a b => gen (fun {ex env vis sc loc Q X mem s E} hc hsc hv hX R h => by
    obtain ⟨l, o, r, p, rfl, h1, h2, h3⟩ := inv_bin hc
    refine wpAny_BinOp (then1 R ((soundE SC a).1 h2 hsc hv hX R h) fun x xv m1 s1 hx R1 S1 q1 => ?_)
    refine then1 R1 ((soundE SC b).1 h3 hsc hv hX R1 q1) fun y yv m2 s2 hy R2 S2 q2 => ?_
    exact pmTrans (S1.trans S2) (bin_sound R2 (vrel_keep R1 S2 hx) hy h1 q2)) (fun {ex vis sc} h => chk_plain rfl h)
  | .not a => ⟨(fun {ex env vis sc loc Q X mem s E} hc hsc hv hX R h => by
    obtain ⟨x, p, rfl, h1⟩ := inv_not hc
    refine wpAny_UnaryOp (wpAny_mono ((soundE SC a).1 h1 hsc hv hX R h) (fun y s1 q => ?_) fun _ _ x => x)
    obtain ⟨b, rfl, m1, M1, S1, q1⟩ := q.test
    exact not_of (wpAny_truthy_bool ⟨.bool !b, m1, .mkBool, M1, S1, q1⟩)), (fun {ex env vis sc loc P X mem s E} hc hsc hv hX R h => by
    obtain ⟨x, p, rfl, h1⟩ := inv_not hc
    refine isTrue_not (wpAny_mono ((soundE SC a).2 (P := fun b m => asB P (.bool !b) m) h1 hsc hv hX R h) (fun b s1 q => ?_) fun _ _ x => x)
    obtain ⟨m1, M1, S1, q1⟩ := q
    exact ⟨m1, M1, S1, asB_bool q1⟩)⟩
  | .neg a => gen (fun {ex env vis sc loc Q X mem s E} hc hsc hv hX R h => by
    obtain ⟨x, p, rfl, h1⟩ := inv_neg hc
    refine wpAny_UnaryOp (then1 R ((soundE SC a).1 h1 hsc hv hX R h) fun v y m1 s1 hy R1 S1 q1 => ?_)
    obtain ⟨i, rfl, q1⟩ := q1
    obtain ⟨t, rfl⟩ := hy.int
    exact neg_int (PM.trans S1 (PM.val R1.m .mkInt q1 _))) (fun {ex vis sc} h => by obtain ⟨x, p, rfl, _⟩ := inv_neg h; exact fun _ _ => rfl)
  | .boolop k es => ⟨(fun {ex env vis sc loc Q X mem s E} hc hsc hv hX R h => by
    obtain ⟨vs, p, rfl, hne, h1⟩ := inv_boolop hc
    refine wpAny_mono (soundB SC es (k := k) h1 hne hsc hv hX R h) (fun y s1 q => ?_) fun _ _ x => x
    obtain ⟨b, rfl, m1, M1, S1, q1⟩ := q.test
    exact ⟨.bool b, m1, .mkBool, M1, S1, q1⟩), (fun {ex env vis sc loc P X mem s E} hc hsc hv hX R h => by
    obtain ⟨vs, p, rfl, hne, h1⟩ := inv_boolop hc
    exact wpAny_mono (soundBI SC es h1 hsc hv hX R h) (fun _ _ q => q.plain) fun _ _ x => x)⟩
  | .cmp op a b => ⟨(fun {ex env vis sc loc Q X mem s E} hc hsc hv hX R h => by
    obtain ⟨l, o, r, p, rfl, h0, h1, h2, h3⟩ := inv_cmp hc
    refine wpAny_Compare1 (then1 R ((soundE SC a).1 h2 hsc hv hX R h) fun x xv m1 s1 hx R1 S1 q1 => ?_) (behind_notSet h1)
    refine then1 R1 ((soundE SC b).1 h3 hsc hv hX R1 q1) fun y yv m2 s2 hy R2 S2 q2 => ?_
    refine wpAny_mono (cmp_sound R2 SC.room (vrel_keep R1 S2 hx) hy h0 q2) (fun z s3 q => ?_) fun _ _ x => x
    obtain ⟨b, rfl, m3, M3, S3, q3⟩ := PM.test q
    exact ⟨.bool b, m3, .mkBool, M3, S1.trans (S2.trans S3), q3⟩), (fun {ex env vis sc loc P X mem s E} hc hsc hv hX R h => by
    obtain ⟨l, o, r, p, rfl, h0, h1, h2, h3⟩ := inv_cmp hc
    refine wpAny_isTrue_Compare1 (then1 R ((soundE SC a).1 h2 hsc hv hX R h) fun x xv m1 s1 hx R1 S1 q1 => ?_) (behind_notSet h1)
    refine then1 R1 ((soundE SC b).1 h3 hsc hv hX R1 q1) fun y yv m2 s2 hy R2 S2 q2 => ?_
    exact truth (cmp_sound R2 SC.room (vrel_keep R1 S2 hx) hy h0 q2) fun b s3 q => PT.trans S1 (PT.trans S2 (PT.plain q)))⟩
  | .cmp2 o1 o2 a b c => ⟨(fun {ex env vis sc loc Q X mem s E} hc hsc hv hX R h => by
    obtain ⟨l, p1, p2, r1, r2, p, rfl, h1, h2, h3, h4, h5, h6, h7⟩ := inv_cmp2 hc
    have hm : lastMarks [p1, p2] [r1, r2] = false := by
      show behindInMarks p2 r2 = false
      exact behind_notSet h4
    refine Compare_chain (rs := []) (ops := []) (then1 R ((soundE SC a).1 h5 hsc hv hX R h) fun x xv m1 s1 hx R1 S1 q1 => ?_) hm
    refine chain_link (then1 R1 ((soundE SC b).1 h6 hsc hv hX R1 q1) fun y yv m2 s2 hy R2 S2 q2 => ?_)
    refine wpAny_mono (cmp_sound R2 SC.room (vrel_keep R1 S2 hx) hy h1 q2) (fun z s3 q => ?_) fun _ _ x => x
    obtain ⟨t, rfl, m3, M3, S3, q3⟩ := PM.test q
    refine wpAny_truthy_bool ?_
    have R3 := R2.step M3 S3
    cases t with
    | false => exact ⟨.bool false, m3, .mkBool, M3, S1.trans (S2.trans S3), q3.2 rfl⟩
    | true =>
      simp only [if_true]
      refine chain_last ?_
      refine then1 R3 ((soundE SC c).1 h7 hsc hv hX R3 (q3.1 rfl)) fun u uv m4 s4 hu R4 S4 q4 => ?_
      refine wpAny_mono (cmp_sound R4 SC.room (vrel_keep R3 S4 (vrel_keep R2 S3 hy)) hu h2 q4) (fun z s5 q => ?_) fun _ _ x => x
      obtain ⟨b, rfl, m5, M5, S5, q5⟩ := PM.test q
      exact ⟨.bool b, m5, .mkBool, M5, S1.trans (S2.trans (S3.trans (S4.trans S5))), q5⟩), (fun {ex env vis sc loc P X mem s E} hc hsc hv hX R h => by
    obtain ⟨l, p1, p2, r1, r2, p, rfl, h1, h2, h3, h4, h5, h6, h7⟩ := inv_cmp2 hc
    have hm : lastMarks [p1, p2] [r1, r2] = false := by
      show behindInMarks p2 r2 = false
      exact behind_notSet h4
    refine isTrue_chain (rs := []) (ops := []) (then1 R ((soundE SC a).1 h5 hsc hv hX R h) fun x xv m1 s1 hx R1 S1 q1 => ?_) hm
    refine test_link (then1 R1 ((soundE SC b).1 h6 hsc hv hX R1 q1) fun y yv m2 s2 hy R2 S2 q2 => ?_)
    refine truth (cmp_sound R2 SC.room (vrel_keep R1 S2 hx) hy h1 q2) fun t s3 q => ?_
    obtain ⟨m3, M3, S3, q3⟩ := q
    have R3 := R2.step M3 S3
    cases t with
    | false => exact ⟨m3, M3, S1.trans (S2.trans S3), asB_bool (q3.2 rfl)⟩
    | true =>
      simp only [if_true]
      refine test_last ?_
      refine then1 R3 ((soundE SC c).1 h7 hsc hv hX R3 (q3.1 rfl)) fun u uv m4 s4 hu R4 S4 q4 => ?_
      exact truth (cmp_sound R4 SC.room (vrel_keep R3 S4 (vrel_keep R2 S3 hy)) hu h2 q4) fun b s5 q => PT.trans S1 (PT.trans S2 (PT.trans S3 (PT.trans S4 (PT.plain q)))))⟩
  | .isc q a c => ⟨(fun {ex env vis sc loc Q X mem s E} hc hsc hv hX R h => by
    obtain ⟨l, k', p', p, rfl, h2⟩ := inv_isc hc
    refine wpAny_Compare1 (then1 R ((soundE SC a).1 h2 hsc hv hX R h) fun x xv m1 s1 hx R1 S1 q1 => ?_) rfl
    exact lit_pure (pmTrans S1 (isc_sound R1.m hx q1))), (fun {ex env vis sc loc P X mem s E} hc hsc hv hX R h => by
    obtain ⟨l, k', p', p, rfl, h2⟩ := inv_isc hc
    refine wpAny_isTrue_Compare1 (then1 R ((soundE SC a).1 h2 hsc hv hX R h) fun x xv m1 s1 hx R1 S1 q1 => ?_) rfl
    exact lit_pure (truth (isc_sound R1.m hx q1) fun b s2 q => PT.trans S1 q))⟩
  | .call f args => gen (fun {ex env vis sc loc Q X mem s E} hc hsc hv hX R h => by
    obtain ⟨x, px, es, p, fn, rfl, h1, h2, h3, h4, h5⟩ := inv_call hc
    obtain ⟨a, o, fd, hm, ho, hd, hcall⟩ := SC.call f h1 fn h2
    refine eval_call (global_sound R SC.ok hsc h3 hm ?_)
    refine Calls.callWith_function (o := o) (fd := fd) ?_
    cases es with
    | nil => exact absurd rfl h4
    | cons e0 er =>
      rw [back_cons (chkL_star h5 e0 (.head _))]
      refine Calls.evalArgs_plain ?_
      rw [← back_cons (chkL_star h5 e0 (.head _))]
      refine wpAny_mono (soundL SC args h5 hsc hv hX R h) (fun vs s1 q => ?_) fun _ _ x => x
      obtain ⟨us, m1, hr, M1, S1, q1⟩ := q
      exact ⟨⟨M1.stays _ _ ho, hd⟩, pmTrans S1 (hcall us vs Q X m1 s1 E hX q1 M1 hr)⟩) (fun {ex vis sc} h => chk_plain rfl h)
  | .b1 b a => gen (fun {ex env vis sc loc Q X mem s E} hc hsc hv hX R h => by
    cases hb : b.inner with
    | none =>
      obtain ⟨x, px, e1, p, rfl, h1, h2⟩ := inv_b1 hb hc
      have he := chk_ns h2
      have ev := fun (K : Value → Sem Value) (hK : ∀ v y m1 s1, VRel W s1.heap v y → Rel W env vis loc m1 s1 → wpB1 b v Q m1 → wpAny (model W.prog W.w) A (K y) (PM W m1 s1 Q) E s1) =>
        then1 (E := E) R ((soundE SC a).1 h2 hsc hv hX R h) (P := fun y s1 => wpAny (model W.prog W.w) A (K y) (PM W mem s Q) E s1) fun v y m1 s1 hy R1 S1 q1 => pmTrans S1 (hK v y m1 s1 hy R1 q1)
      cases b with
      | len => exact eval_call (builtin_sound R SC.ok hsc h1 (bi_in (by decide +kernel)) Boot.«len» (call1b he (ev _ fun v y m1 s1 hy R1 q1 => b1_sound R1 SC.room hb hy q1)))
      | all => exact eval_call (builtin_sound R SC.ok hsc h1 (bi_in (by decide +kernel)) Boot.«all» (call1b he (ev _ fun v y m1 s1 hy R1 q1 => b1_sound R1 SC.room hb hy q1)))
      | sum => exact eval_call (builtin_sound R SC.ok hsc h1 (bi_in (by decide +kernel)) Boot.«sum» (call1b he (ev _ fun v y m1 s1 hy R1 q1 => b1_sound R1 SC.room hb hy q1)))
      | minL => exact eval_call (builtin_sound R SC.ok hsc h1 (bi_in (by decide +kernel)) Boot.«min» (call1b he (ev _ fun v y m1 s1 hy R1 q1 => b1_sound R1 SC.room hb hy q1)))
      | list => exact eval_call (builtin_sound R SC.ok hsc h1 (bi_in (by decide +kernel)) Boot.«list» (call1t he (ev _ fun v y m1 s1 hy R1 q1 => b1_sound R1 SC.room hb hy q1)))
      | tuple => exact eval_call (builtin_sound R SC.ok hsc h1 (bi_in (by decide +kernel)) Boot.«tuple» (call1t he (ev _ fun v y m1 s1 hy R1 q1 => b1_sound R1 SC.room hb hy q1)))
      | sorted => exact eval_call (builtin_sound R SC.ok hsc h1 (bi_in (by decide +kernel)) Boot.«sorted» (call1b he (ev _ fun v y m1 s1 hy R1 q1 => b1_sound R1 SC.room hb hy q1)))
      | int => exact eval_call (builtin_sound R SC.ok hsc h1 (bi_in (by decide +kernel)) Boot.«int» (call1t he (ev _ fun v y m1 s1 hy R1 q1 => b1_sound R1 SC.room hb hy q1)))
      | lrange => cases hb
      | lrev => cases hb
      | lenset => cases hb
    | some f =>
      obtain ⟨x, px, y, py, e1, p, p', rfl, h1, h2, h3⟩ := inv_b1i hb hc
      have he := chk_ns h3
      have hne : ∀ a q, (Expr.Call (.Name y py) [e1] [] p') ≠ .Starred a q := fun a q e => by cases e
      cases b with
      | lrange =>
        cases hb
        refine eval_call (builtin_sound R SC.ok hsc h1 (bi_in (by decide +kernel)) Boot.«list» (call1t hne ?_))
        refine eval_call (builtin_sound R SC.ok hsc h2 (bi_in (by decide +kernel)) Boot.«range» (call1t he ?_))
        refine then1 R ((soundE SC a).1 h3 hsc hv hX R h) fun v yv m1 s1 hy R1 S1 q1 => ?_
        obtain ⟨nn, rfl, hn, hf⟩ := q1
        obtain ⟨t, rfl⟩ := hy.int
        exact wpAny_mono (lrange_sound R1 SC.room hn hf) (fun r s2 q => pmTrans S1 q) fun _ _ x => x
      | lrev =>
        cases hb
        refine eval_call (builtin_sound R SC.ok hsc h1 (bi_in (by decide +kernel)) Boot.«list» (call1t hne ?_))
        refine eval_call (builtin_sound R SC.ok hsc h2 (bi_in (by decide +kernel)) boot_reversed (call1t he ?_))
        refine then1 R ((soundE SC a).1 h3 hsc hv hX R h) fun v yv m1 s1 hy R1 S1 q1 => ?_
        obtain ⟨a', xs, rfl, em, hl, hf⟩ := q1
        obtain rfl := hy.ref
        exact wpAny_mono (lrev_sound R1 SC.room em hl hf) (fun r s2 q => pmTrans S1 q) fun _ _ x => x
      | lenset =>
        cases hb
        refine eval_call (builtin_sound R SC.ok hsc h1 (bi_in (by decide +kernel)) Boot.«len» (call1b hne ?_))
        refine eval_call (builtin_sound R SC.ok hsc h2 (bi_in (by decide +kernel)) Boot.«set» (call1t he ?_))
        refine then1 R ((soundE SC a).1 h3 hsc hv hX R h) fun v yv m1 s1 hy R1 S1 q1 => ?_
        exact wpAny_mono (lenset_sound R1 SC.room hy q1) (fun r s2 q => pmTrans S1 q) fun _ _ x => x
      | len => cases hb
      | all => cases hb
      | sum => cases hb
      | minL => cases hb
      | list => cases hb
      | tuple => cases hb
      | sorted => cases hb
      | int => cases hb) (fun {ex vis sc} h => chk_plain rfl h)
  | .isinst a c => gen (fun {ex env vis sc loc Q X mem s E} hc hsc hv hX R h => by
    obtain ⟨x, px, e1, y, py, p, rfl, h1, h2, h3⟩ := inv_isinst hc
    refine eval_call (builtin_sound R SC.ok hsc h1 (bi_in (by decide +kernel)) Boot.«isinstance» (call2b (chk_ns h2) (fun a q e => by cases e) ?_))
    refine then1 R ((soundE SC a).1 h2 hsc hv hX R h) fun v yv m1 s1 hy R1 S1 q1 => ?_
    obtain ⟨b, hA, q1⟩ := q1
    obtain ⟨hcl, hg, hin, hw⟩ := bi_name h3
    exact builtin_sound R1 SC.ok hsc hg hin hw (pmTrans S1 (isinst_sound R1 hcl hy hA q1))) (fun {ex vis sc} h => chk_plain rfl h)
  | .append o a => gen (fun {ex env vis sc loc Q X mem s E} hc hsc hv hX R h => by
    obtain ⟨e1, ap, e2, p, rfl, hok, h1, h2⟩ := inv_append hc
    refine method_call hok (star1 (chk_ns h2)) (show 1 < 29 by decide) ?_
    refine then1 R ((soundE SC o).1 h1 hsc hv hX R h) fun v yv m1 s1 hy R1 S1 q1 pl => ?_
    obtain ⟨⟨a1, xs1, rfl, e1m⟩, q1⟩ := q1
    obtain rfl := hy.ref
    refine getMethod_list R1 e1m PySem.slot_list_append PySem.F.type_list_append (callM1 (chk_ns h2) ?_)
    refine then1 R1 ((soundE SC a).1 h2 hsc hv hX R1 q1) fun w wv m2 s2 hw R2 S2 q2 => ?_
    obtain ⟨_, xs, e, e2m, hl, hq⟩ := q2
    cases e
    exact pmTrans (S1.trans S2) (append_sound R2 e2m hl hw hq)) (fun {ex vis sc} h => chk_plain rfl h)
  | .extend o a => gen (fun {ex env vis sc loc Q X mem s E} hc hsc hv hX R h => by
    obtain ⟨e1, ap, e2, p, rfl, hok, h1, h2⟩ := inv_extend hc
    refine method_call hok (star1 (chk_ns h2)) (show 1 < 29 by decide) ?_
    refine then1 R ((soundE SC o).1 h1 hsc hv hX R h) fun v yv m1 s1 hy R1 S1 q1 pl => ?_
    obtain ⟨⟨a1, xs1, rfl, e1m⟩, q1⟩ := q1
    obtain rfl := hy.ref
    refine getMethod_list R1 e1m PySem.F.slot_list_extend PySem.F.type_list_extend (callM1 (chk_ns h2) ?_)
    refine then1 R1 ((soundE SC a).1 h2 hsc hv hX R1 q1) fun w wv m2 s2 hw R2 S2 q2 => ?_
    obtain ⟨_, b, xs, ys, e, rfl, hne, e2m, e3m, hl, hq⟩ := q2
    cases e
    obtain rfl := hw.ref
    exact pmTrans (S1.trans S2) (extend_sound R2 e2m e3m hl hq)) (fun {ex vis sc} h => chk_plain rfl h)
  | .pop o i => gen (fun {ex env vis sc loc Q X mem s E} hc hsc hv hX R h => by
    obtain ⟨e1, ap, es, p, rfl, hok, h1, h2, hle⟩ := inv_pop hc
    cases i with
    | nil =>
      obtain rfl := inv_nil h2
      refine method_call hok (fun _ he => nomatch he) (show 0 < 29 by decide) ?_
      refine then1 R ((soundE SC o).1 h1 hsc hv hX R h) fun v yv m1 s1 hy R1 S1 q1 pl => ?_
      obtain ⟨⟨a1, xs1, rfl, e1m⟩, q1⟩ := q1
      obtain rfl := hy.ref
      obtain ⟨_, xs, k, j, y, e, e2m, hl, hk, hp, hy', hq⟩ := q1
      cases e
      rcases hk with ⟨_, rfl⟩ | hk
      · exact getMethod_list R1 e1m PySem.F.slot_list_pop PySem.F.type_list_pop (callM0 (pmTrans S1 (pop0_sound R1 e2m hl hp hy' hq)))
      · cases hk
    | cons i1 ir =>
      obtain ⟨x, r, rfl, h3, h4⟩ := inv_cons h2
      cases ir with
      | cons _ _ => obtain ⟨x2, r2, rfl, _, _⟩ := inv_cons h4; simp at hle
      | nil =>
        obtain rfl := inv_nil h4
        refine method_call hok (star1 (chk_ns h3)) (show 1 < 29 by decide) ?_
        refine then1 R ((soundE SC o).1 h1 hsc hv hX R h) fun v yv m1 s1 hy R1 S1 q1 pl => ?_
        obtain ⟨⟨a1, xs1, rfl, e1m⟩, q1⟩ := q1
        obtain rfl := hy.ref
        refine getMethod_list R1 e1m PySem.F.slot_list_pop PySem.F.type_list_pop (callM1 (chk_ns h3) ?_)
        refine then1 R1 ((soundE SC i1).1 h3 hsc hv hX R1 q1) fun w wv m2 s2 hw R2 S2 q2 => ?_
        obtain ⟨_, xs, k, j, y, e, e2m, hl, hk, hp, hy', hq⟩ := q2
        cases e
        rcases hk with ⟨hk, _⟩ | hk
        · cases hk
        · cases hk
          obtain ⟨t, rfl⟩ := hw.int
          exact pmTrans (S1.trans S2) (pop_sound R2 e2m hl hp hy' hq)) (fun {ex vis sc} h => chk_plain rfl h)
  | .index o a => gen (fun {ex env vis sc loc Q X mem s E} hc hsc hv hX R h => by
    obtain ⟨e1, ap, e2, p, rfl, hok, h1, h2⟩ := inv_index hc
    refine method_call hok (star1 (chk_ns h2)) (show 1 < 29 by decide) ?_
    refine then1 R ((soundE SC o).1 h1 hsc hv hX R h) fun v yv m1 s1 hy R1 S1 q1 pl => ?_
    obtain ⟨⟨a1, xs1, rfl, e1m⟩, q1⟩ := q1
    obtain rfl := hy.ref
    refine getMethod_list R1 e1m PySem.F.slot_list_index PySem.F.type_list_index (callM1 (chk_ns h2) ?_)
    refine then1 R1 ((soundE SC a).1 h2 hsc hv hX R1 q1) fun w wv m2 s2 hw R2 S2 q2 => ?_
    obtain ⟨_, is, i, e, e2m, rfl, hi, hl, hq⟩ := q2
    cases e
    obtain ⟨t, rfl⟩ := hw.int
    exact pmTrans (S1.trans S2) (index_sound R2 e2m hi hl hq)) (fun {ex vis sc} h => chk_plain rfl h)
  | .sub a i => gen (fun {ex env vis sc loc Q X mem s E} hc hsc hv hX R h => by
    obtain ⟨e1, e2, p, rfl, h1, h2⟩ := inv_sub hc
    refine Subscript_ (then1 R ((soundE SC a).1 h1 hsc hv hX R h) fun x xv m1 s1 hx R1 S1 q1 => ?_)
    refine then1 R1 ((soundE SC i).1 h2 hsc hv hX R1 q1) fun y yv m2 s2 hy R2 S2 q2 => ?_
    exact pmTrans (S1.trans S2) (sub_sound R2 (vrel_keep R1 S2 hx) hy q2 (chk_notSlice h2))) (fun {ex vis sc} h => chk_plain rfl h)
  | .slice up a i => gen (fun {ex env vis sc loc Q X mem s E} hc hsc hv hX R h => by
    obtain ⟨e1, e2, p, q, rfl, h1, h2⟩ := inv_slice hc
    refine Subscript_ (then1 R ((soundE SC a).1 h1 hsc hv hX R h) fun x xv m1 s1 hx R1 S1 q1 => ?_)
    refine slice_eval (then1 R1 ((soundE SC i).1 h2 hsc hv hX R1 q1) fun y yv m2 s2 hy R2 S2 q2 => ?_)
    exact pmTrans (S1.trans S2) (slice_sound R2 (vrel_keep R1 S2 hx) hy q2)) (fun {ex vis sc} h => chk_plain rfl h)
  | .mm mx a b => gen (fun {ex env vis sc loc Q X mem s E} hc hsc hv hX R h => by
    obtain ⟨x, px, e1, e2, p, rfl, h0, h1, h2⟩ := inv_mm hc
    have go : wpAny (model W.prog W.w) A (callWith p (.builtin (mmName mx)) [] (backTo p (starEach [e1, e2] env)) []) (PM W mem s Q) E s := by
      refine call2b (chk_ns h1) (chk_ns h2) ?_
      refine then1 R ((soundE SC a).1 h1 hsc hv hX R h) fun u uv m1 s1 hu R1 S1 q1 => ?_
      refine then1 R1 ((soundE SC b).1 h2 hsc hv hX R1 q1) fun y yv m2 s2 hy R2 S2 q2 => ?_
      exact pmTrans (S1.trans S2) (mm_sound R2 SC.room (vrel_keep R1 S2 hu) hy q2)
    cases mx with
    | true => exact eval_call (builtin_sound R SC.ok hsc h0 (bi_in (by decide +kernel)) Boot.«max» go)
    | false => exact eval_call (builtin_sound R SC.ok hsc h0 (bi_in (by decide +kernel)) Boot.«min» go)) (fun {ex vis sc} h => chk_plain rfl h)
  | .lst es => gen (fun {ex env vis sc loc Q X mem s E} hc hsc hv hX R h => by
    obtain ⟨xs, p, rfl, h1⟩ := inv_lst hc
    refine List_ (wpAny_mono (soundL SC es h1 hsc hv hX R h) (fun vs s1 q => ?_) fun _ _ x => x)
    obtain ⟨us, m1, hr, M1, S1, q1⟩ := q
    exact pmTrans S1 (newList_sound (R.step M1 S1) hr q1)) (fun {ex vis sc} h => chk_plain rfl h)
  | .tup es => gen (fun {ex env vis sc loc Q X mem s E} hc hsc hv hX R h => by
    obtain ⟨xs, k, p, rfl, h1⟩ := inv_tup hc
    refine Tuple_ (wpAny_mono (soundL SC es h1 hsc hv hX R h) (fun vs s1 q => ?_) fun _ _ x => x)
    obtain ⟨us, m1, hr, M1, S1, q1⟩ := q
    exact pmTrans S1 (newTuple_sound (R.step M1 S1) hr q1.1 q1.2)) (fun {ex vis sc} h => chk_plain rfl h)
  | .comp elt t k src cond => gen (fun {ex env vis sc loc Q X mem s E} hc hsc hv hX R h => by
    obtain ⟨elt', target, iter, ifs, csc, p, new, e1, rfl, hT, h1, h2, h3, h4, h5, h6⟩ := inv_comp hc
    have hi := (chkScope_spec h1).2.2.2.2.2.2
    have hv' := newVis_ok hT hv hi
    refine comp_run (use := none) SC.room.handled SC.ok R hsc h1 h2 hT hv hi (chk_ns h4) h3 ((soundE SC src).1 h4 hsc hv hX R h) (fun C' l P mem' s' E' R' hb => soundIfs SC cond h6 cEnv_sc hv' hX R' hb) (fun C' l P mem' s' E' R' he => (soundE SC elt).1 h5 cEnv_sc hv' hX R' he) fun D C' s' hl => ?_
    obtain ⟨mem', ys, vs, m, q⟩ := id hl
    exact ⟨m, q.2.2.2.1, fun h' hs => hl.done R hs⟩) (fun {ex vis sc} h => chk_plain rfl h)
theorem soundB {W : Cx} {FT : Nat → Option Fn} {ids : List Nat} {G : String → Option Val} {n : Nat} {A : Around} {C : CallT} (SC : SCx W FT ids G n A C) : ∀ (es : Exs) {k : Bool} {xs : List Expr} {p : Pos} {env : Env} {vis : List (Nat × Str)} {sc : Scope} {loc : Loc} {P : Bool → Mem → Prop} {X : Nat → Mem → Prop} {mem : Mem} {s : Shared} {E : Value → Shared → Prop},
    chkL FT ids vis sc es xs = true → xs ≠ [] → ScOk sc env → VisOk vis → (∀ k m, ¬ X k m) → Rel W env vis loc mem s → wpBs C G X k es loc P mem → wpAny (model W.prog W.w) A (eval (.BoolOp (isAnd k) xs p) env) (PM W mem s (asB P)) E s
  | .nil, k, xs, p, env, vis, sc, loc, P, X, mem, s, E, hc, hne, hsc, hv, hX, R, h => absurd (inv_nil hc) hne
  | .cons e es, k, xs, p, env, vis, sc, loc, P, X, mem, s, E, hc, hne, hsc, hv, hX, R, h => by
    obtain ⟨x, r, rfl, h1, h2⟩ := inv_cons hc
    cases r with
    | nil =>
      have : es = .nil := by
        cases es with
        | nil => rfl
        | cons _ _ => obtain ⟨_, _, q, _⟩ := inv_cons h2; cases q
      subst this
      refine wpAny_mono (?_ : wpAny (model W.prog W.w) A _ (PM W mem s (asB (bsQ k (wpBs C G X k .nil loc P) P))) E s) (fun y s1 q => PM.mono (fun _ _ q => asB_mono (fun _ _ q => bsQ_end id q) q) q) fun _ _ x => x
      cases k
      · exact BoolOp_one ((soundE SC e).1 h1 hsc hv hX R h)
      · exact BoolOp_one ((soundE SC e).1 h1 hsc hv hX R h)
    | cons x2 r =>
      cases k with
      | true =>
        refine BoolOp_and (wpAny_mono ((soundE SC e).1 h1 hsc hv hX R h) (fun y s1 q => ?_) fun _ _ x => x)
        obtain ⟨b, rfl, m1, M1, S1, q1⟩ := q.test
        refine wpAny_truthy_bool ?_
        cases b with
        | true =>
          exact pmTrans S1 (soundB SC es (k := true) h2 (by simp) hsc hv hX (R.step M1 S1) (q1.1 rfl))
        | false =>
          exact ⟨.bool false, m1, .mkBool, M1, S1, _, rfl, q1.2 rfl⟩
      | false =>
        refine BoolOp_or (wpAny_mono ((soundE SC e).1 h1 hsc hv hX R h) (fun y s1 q => ?_) fun _ _ x => x)
        obtain ⟨b, rfl, m1, M1, S1, q1⟩ := q.test
        refine wpAny_truthy_bool ?_
        cases b with
        | true =>
          exact ⟨.bool true, m1, .mkBool, M1, S1, _, rfl, q1.2 rfl⟩
        | false =>
          exact pmTrans S1 (soundB SC es (k := false) h2 (by simp) hsc hv hX (R.step M1 S1) (q1.1 rfl))
theorem soundBI {W : Cx} {FT : Nat → Option Fn} {ids : List Nat} {G : String → Option Val} {n : Nat} {A : Around} {C : CallT} (SC : SCx W FT ids G n A C) : ∀ (es : Exs) {k : Bool} {xs : List Expr} {p : Pos} {env : Env} {vis : List (Nat × Str)} {sc : Scope} {loc : Loc} {P : Bool → Mem → Prop} {X : Nat → Mem → Prop} {mem : Mem} {s : Shared} {E : Value → Shared → Prop} {w : Sem Value},
    chkL FT ids vis sc es xs = true → ScOk sc env → VisOk vis → (∀ k m, ¬ X k m) → Rel W env vis loc mem s → wpBs C G X k es loc P mem → wpAny (model W.prog W.w) A (isTrue (.BoolOp (isAnd k) xs p) env w) (PT W mem s P) E s
  | .nil, k, xs, p, env, vis, sc, loc, P, X, mem, s, E, w, hc, hsc, hv, hX, R, h => by
    rw [inv_nil hc]
    cases k
    · exact isTrue_or_nil ⟨mem, R.m, .refl, h⟩
    · exact isTrue_and_nil ⟨mem, R.m, .refl, h⟩
  | .cons e es, k, xs, p, env, vis, sc, loc, P, X, mem, s, E, w, hc, hsc, hv, hX, R, h => by
    obtain ⟨x, r, rfl, h1, h2⟩ := inv_cons hc
    cases k with
    | true =>
      refine isTrue_and (wpAny_mono ((soundE SC e).2 h1 hsc hv hX R h) (fun b s1 q => ?_) fun _ _ x => x)
      obtain ⟨m1, M1, S1, q1⟩ := q
      cases b with
      | true =>
        exact wpAny_mono (soundBI SC es (k := true) h2 hsc hv hX (R.step M1 S1) (q1.1 rfl)) (fun b s2 q => PT.trans S1 q) fun _ _ x => x
      | false =>
        exact ⟨m1, M1, S1, q1.2 rfl⟩
    | false =>
      refine isTrue_or (wpAny_mono ((soundE SC e).2 h1 hsc hv hX R h) (fun b s1 q => ?_) fun _ _ x => x)
      obtain ⟨m1, M1, S1, q1⟩ := q
      cases b with
      | true =>
        exact ⟨m1, M1, S1, q1.2 rfl⟩
      | false =>
        exact wpAny_mono (soundBI SC es (k := false) h2 hsc hv hX (R.step M1 S1) (q1.1 rfl)) (fun b s2 q => PT.trans S1 q) fun _ _ x => x
theorem soundIfs {W : Cx} {FT : Nat → Option Fn} {ids : List Nat} {G : String → Option Val} {n : Nat} {A : Around} {C : CallT} (SC : SCx W FT ids G n A C) : ∀ (es : Exs) {xs : List Expr} {env : Env} {vis : List (Nat × Str)} {sc : Scope} {loc : Loc} {P : Bool → Mem → Prop} {X : Nat → Mem → Prop} {mem : Mem} {s : Shared} {E : Value → Shared → Prop},
    chkL FT ids vis sc es xs = true → ScOk sc env → VisOk vis → (∀ k m, ¬ X k m) → Rel W env vis loc mem s → wpBs C G X true es loc P mem →
      wpAny (model W.prog W.w) A (forIn xs true fun c r => if r = true then do let ok ← isTrue c env (eval c env); pure (ForInStep.yield ok) else pure (ForInStep.yield r)) (PT W mem s P) E s
  | .nil, xs, env, vis, sc, loc, P, X, mem, s, E, hc, hsc, hv, hX, R, h => by
    rw [inv_nil hc]
    exact wpAny_tests_nil ⟨mem, R.m, .refl, h⟩
  | .cons e es, xs, env, vis, sc, loc, P, X, mem, s, E, hc, hsc, hv, hX, R, h => by
    obtain ⟨x, r, rfl, h1, h2⟩ := inv_cons hc
    rw [List.forIn_cons]
    simp only [if_true]
    refine wpAny_bind (wpAny_bind (wpAny_mono ((soundE SC e).2 h1 hsc hv hX R h) (fun b s1 q => wpAny_pure ?_) fun _ _ x => x))
    obtain ⟨m1, M1, S1, q1⟩ := q
    cases b with
    | true =>
      exact wpAny_mono (soundIfs SC es h2 hsc hv hX (R.step M1 S1) (q1.1 rfl)) (fun b s2 q => PT.trans S1 q) fun _ _ x => x
    | false =>
      exact forIn_false ⟨m1, M1, S1, q1.2 rfl⟩ r
theorem soundL {W : Cx} {FT : Nat → Option Fn} {ids : List Nat} {G : String → Option Val} {n : Nat} {A : Around} {C : CallT} (SC : SCx W FT ids G n A C) : ∀ (es : Exs) {xs : List Expr} {p : Pos} {env : Env} {vis : List (Nat × Str)} {sc : Scope} {loc : Loc} {P : List Val → Mem → Prop} {X : Nat → Mem → Prop} {mem : Mem} {s : Shared} {E : Value → Shared → Prop},
    chkL FT ids vis sc es xs = true → ScOk sc env → VisOk vis → (∀ k m, ¬ X k m) → Rel W env vis loc mem s → wpL C G X es loc P mem →
      wpAny (model W.prog W.w) A (spliced (backTo p (starEach xs env))) (fun vs s' => ∃ us mem', VRels W s'.heap us vs ∧ MRel W mem' s' ∧ Step NoD mem s.heap mem' s'.heap ∧ P us mem') E s
  | .nil, xs, p, env, vis, sc, loc, P, X, mem, s, E, hc, hsc, hv, hX, R, h => by
    rw [inv_nil hc]
    exact Calls.spliced_nil ⟨[], mem, .nil, R.m, .refl, h⟩
  | .cons e es, xs, p, env, vis, sc, loc, P, X, mem, s, E, hc, hsc, hv, hX, R, h => by
    obtain ⟨x, r, rfl, h1, h2⟩ := inv_cons hc
    rw [back_cons (chk_ns h1)]
    refine Calls.spliced_cons (then1 R ((soundE SC e).1 h1 hsc hv hX R h) fun v yv m1 s1 hy R1 S1 q1 => ?_)
    refine wpAny_mono (soundL SC es h2 hsc hv hX R1 q1) (fun vs s2 q => ?_) fun _ _ x => x
    obtain ⟨us, m2, hr, M2, S2, q2⟩ := q
    exact ⟨v :: us, m2, .cons (vrel_keep R1 S2 hy) hr, M2, S1.trans S2, q2⟩
end

end TD

namespace TD
open PySem PyProof.Rows

noncomputable def notComp (e : Expr) : Bool := !(e.ctorIdx == 8 || (e.ctorIdx == 9 || e.ctorIdx == 10))
noncomputable def storable (sc : Scope) (x : Str) : Bool := sc.names.lookup x == some .local || sc.names.lookup x == some .cell
noncomputable def chkStore (vis : List (Nat × Str)) (sc : Scope) (i : Nat) (x : Str) : Bool := vis.lookup i == some x && storable sc x

noncomputable def vExpr (e : Stmt) (k : Expr → Bool) : Bool := vIx e.ctorIdx 24 fun h => Stmt.Expr.elim (motive_2 := fun _ => Bool) e h fun v _ => k v
theorem vExpr_inv {e : Stmt} {k : Expr → Bool} (h : vExpr e k = true) : ∃ v p, e = .Expr v p ∧ k v = true := by
  obtain ⟨hc, h⟩ := vIx_inv h
  exact Stmt.Expr.elim (motive_2 := fun e => ∀ hc : e.ctorIdx = 24, (Stmt.Expr.elim (motive_2 := fun _ => Bool) e hc fun v _ => k v) = true → ∃ v p, e = .Expr v p ∧ k v = true) e hc (fun v p _ h => ⟨v, p, rfl, h⟩) hc h
noncomputable def vRet0 (e : Stmt) (k : (Option Expr) → Bool) : Bool := vIx e.ctorIdx 3 fun h => Stmt.Return.elim (motive_2 := fun _ => Bool) e h fun v _ => k v
theorem vRet0_inv {e : Stmt} {k : (Option Expr) → Bool} (h : vRet0 e k = true) : ∃ v p, e = .Return v p ∧ k v = true := by
  obtain ⟨hc, h⟩ := vIx_inv h
  exact Stmt.Return.elim (motive_2 := fun e => ∀ hc : e.ctorIdx = 3, (Stmt.Return.elim (motive_2 := fun _ => Bool) e hc fun v _ => k v) = true → ∃ v p, e = .Return v p ∧ k v = true) e hc (fun v p _ h => ⟨v, p, rfl, h⟩) hc h
noncomputable def vAsg0 (e : Stmt) (k : (List Expr) → Expr → Bool) : Bool := vIx e.ctorIdx 5 fun h => Stmt.Assign.elim (motive_2 := fun _ => Bool) e h fun ts v _ => k ts v
theorem vAsg0_inv {e : Stmt} {k : (List Expr) → Expr → Bool} (h : vAsg0 e k = true) : ∃ ts v p, e = .Assign ts v p ∧ k ts v = true := by
  obtain ⟨hc, h⟩ := vIx_inv h
  exact Stmt.Assign.elim (motive_2 := fun e => ∀ hc : e.ctorIdx = 5, (Stmt.Assign.elim (motive_2 := fun _ => Bool) e hc fun ts v _ => k ts v) = true → ∃ ts v p, e = .Assign ts v p ∧ k ts v = true) e hc (fun ts v p _ h => ⟨ts, v, p, rfl, h⟩) hc h
noncomputable def vIf (e : Stmt) (k : Expr → (List Stmt) → (List Stmt) → Bool) : Bool := vIx e.ctorIdx 12 fun h => Stmt.If.elim (motive_2 := fun _ => Bool) e h fun a b o _ => k a b o
theorem vIf_inv {e : Stmt} {k : Expr → (List Stmt) → (List Stmt) → Bool} (h : vIf e k = true) : ∃ a b o p, e = .If a b o p ∧ k a b o = true := by
  obtain ⟨hc, h⟩ := vIx_inv h
  exact Stmt.If.elim (motive_2 := fun e => ∀ hc : e.ctorIdx = 12, (Stmt.If.elim (motive_2 := fun _ => Bool) e hc fun a b o _ => k a b o) = true → ∃ a b o p, e = .If a b o p ∧ k a b o = true) e hc (fun a b o p _ h => ⟨a, b, o, p, rfl, h⟩) hc h
noncomputable def vFor0 (e : Stmt) (k : Expr → Expr → (List Stmt) → (List Stmt) → Bool) : Bool := vIx e.ctorIdx 9 fun h => Stmt.For.elim (motive_2 := fun _ => Bool) e h fun t i b o _ => k t i b o
theorem vFor0_inv {e : Stmt} {k : Expr → Expr → (List Stmt) → (List Stmt) → Bool} (h : vFor0 e k = true) : ∃ t i b o p, e = .For t i b o p ∧ k t i b o = true := by
  obtain ⟨hc, h⟩ := vIx_inv h
  exact Stmt.For.elim (motive_2 := fun e => ∀ hc : e.ctorIdx = 9, (Stmt.For.elim (motive_2 := fun _ => Bool) e hc fun t i b o _ => k t i b o) = true → ∃ t i b o p, e = .For t i b o p ∧ k t i b o = true) e hc (fun t i b o p _ h => ⟨t, i, b, o, p, rfl, h⟩) hc h
noncomputable def vWhile0 (e : Stmt) (k : Expr → (List Stmt) → (List Stmt) → Bool) : Bool := vIx e.ctorIdx 11 fun h => Stmt.While.elim (motive_2 := fun _ => Bool) e h fun a b o _ => k a b o
theorem vWhile0_inv {e : Stmt} {k : Expr → (List Stmt) → (List Stmt) → Bool} (h : vWhile0 e k = true) : ∃ a b o p, e = .While a b o p ∧ k a b o = true := by
  obtain ⟨hc, h⟩ := vIx_inv h
  exact Stmt.While.elim (motive_2 := fun e => ∀ hc : e.ctorIdx = 11, (Stmt.While.elim (motive_2 := fun _ => Bool) e hc fun a b o _ => k a b o) = true → ∃ a b o p, e = .While a b o p ∧ k a b o = true) e hc (fun a b o p _ h => ⟨a, b, o, p, rfl, h⟩) hc h
noncomputable def vRaise0 (e : Stmt) (k : (Option Expr) → (Option Expr) → Bool) : Bool := vIx e.ctorIdx 16 fun h => Stmt.Raise.elim (motive_2 := fun _ => Bool) e h fun x c _ => k x c
noncomputable def vRet (st : Stmt) (k : Expr → Bool) : Bool := vRet0 st fun v => vSome v k
noncomputable def vAsg (st : Stmt) (k : Expr → Expr → Bool) : Bool := vAsg0 st fun ts v => vOne ts fun t => k t v
noncomputable def vFor (st : Stmt) (k : Expr → Expr → List Stmt → Bool) : Bool := vFor0 st fun t i b o => o.isEmpty && k t i b
noncomputable def vWhile (st : Stmt) (k : Expr → List Stmt → Bool) : Bool := vWhile0 st fun a b o => o.isEmpty && k a b
noncomputable def vRaise (st : Stmt) (k : Expr → Bool) : Bool := vRaise0 st fun e c => c.isNone && vSome e k
theorem vRet_inv {st : Stmt} {k : Expr → Bool} (h : vRet st k = true) : ∃ v p, st = .Return (some v) p ∧ k v = true := by
  obtain ⟨v, p, rfl, h⟩ := vRet0_inv h
  obtain ⟨x, rfl, h⟩ := vSome_inv h
  exact ⟨x, p, rfl, h⟩
theorem vAsg_inv {st : Stmt} {k : Expr → Expr → Bool} (h : vAsg st k = true) : ∃ t v p, st = .Assign [t] v p ∧ k t v = true := by
  obtain ⟨ts, v, p, rfl, h⟩ := vAsg0_inv h
  obtain ⟨x, rfl, h⟩ := vOne_inv h
  exact ⟨x, v, p, rfl, h⟩
theorem vFor_inv {st : Stmt} {k : Expr → Expr → List Stmt → Bool} (h : vFor st k = true) : ∃ t i b p, st = .For t i b [] p ∧ k t i b = true := by
  obtain ⟨t, i, b, o, p, rfl, h⟩ := vFor0_inv h
  cases o with
  | nil => exact ⟨t, i, b, p, rfl, h⟩
  | cons _ _ => exact nb h
theorem vWhile_inv {st : Stmt} {k : Expr → List Stmt → Bool} (h : vWhile st k = true) : ∃ a b p, st = .While a b [] p ∧ k a b = true := by
  obtain ⟨a, b, o, p, rfl, h⟩ := vWhile0_inv h
  cases o with
  | nil => exact ⟨a, b, p, rfl, h⟩
  | cons _ _ => exact nb h
mutual
noncomputable def chkS (FT : Nat → Option Fn) (ids : List Nat) (vis : List (Nat × Str)) (sc : Scope) : St → Stmt → Bool
  | .expr e, st => vExpr st fun v => notComp v && chkE FT ids vis sc e v
  | .ret e, st => vRet st fun v => chkE FT ids vis sc e v
  | .asg i e, st => vAsg st fun t v => vName t fun x => chkStore vis sc i x && chkE FT ids vis sc e v
  | .asgSub o i e, st => vAsg st fun t v => vSub t fun e1 e2 => notComp v && (chkE FT ids vis sc e v && (chkE FT ids vis sc o e1 && chkE FT ids vis sc i e2))
  | .ifs c t e, st => vIf st fun a b o => chkE FT ids vis sc c a && (chkSs FT ids vis sc t b && chkSs FT ids vis sc e o)
  | .fors t k src b, st => vFor st fun target iter body => vSome (chkT t target) fun new => new.all (fun q => chkStore vis sc q.1 q.2) && (notSet iter && (vIter sc k.call iter (fun e1 => chkE FT ids vis sc src e1) && chkSs FT ids vis sc b body))
  | .whiles c b, st => vWhile st fun a body => chkE FT ids vis sc c a && chkSs FT ids vis sc b body
  | .raise c g, st => vRaise st fun e => vCallN e fun x es => (decide (7 ≤ c.code ∧ c.code ≤ 14) && gName sc (clsName c.code) x) && vOne es fun e1 => vConst e1 fun t => t == .str (Str.ofString g)
noncomputable def chkSs (FT : Nat → Option Fn) (ids : List Nat) (vis : List (Nat × Str)) (sc : Scope) : Sts → List Stmt → Bool
  | .nil, l => l.isEmpty
  | .cons s ss, l => match l with | x :: r => chkS FT ids vis sc s x && chkSs FT ids vis sc ss r | [] => false
end

noncomputable def FlowRel (W : Cx) (h : Heap) : Flow → PySem.Flow → Prop
  | .next, f => f = .next
  | .brk, f => f = .brk
  | .cont, f => f = .cont
  | .ret v, f => ∃ y, f = .ret y ∧ VRel W h v y

noncomputable def PS (W : Cx) (env : Env) (vis : List (Nat × Str)) (mem : Mem) (s : Shared) (R : Flow → Loc → Mem → Prop) (f : PySem.Flow) (s' : Shared) : Prop :=
  ∃ fl loc' mem', FlowRel W s'.heap fl f ∧ Rel W env vis loc' mem' s' ∧ Step (FrD env) mem s.heap mem' s'.heap ∧ R fl loc' mem'

section
variable {W : Cx} {A : Around} {E : Value → Shared → Prop} {env : Env} {vis : List (Nat × Str)} {loc : Loc} {mem : Mem} {s : Shared} {R : Flow → Loc → Mem → Prop}
theorem Step.toFr {m1 m2 : Mem} {h1 h2 : Heap} (x : Step NoD m1 h1 m2 h2) : Step (FrD env) m1 h1 m2 h2 := x.mono fun _ q => q.elim
theorem PS.trans {mem' : Mem} {s' s'' : Shared} {f : PySem.Flow} (x : Step (FrD env) mem s.heap mem' s'.heap) (p : PS W env vis mem' s' R f s'') : PS W env vis mem s R f s'' := by
  obtain ⟨fl, l, m2, a, b, c, d⟩ := p; exact ⟨fl, l, m2, a, b, x.trans c, d⟩
theorem psTrans {mem' : Mem} {s' s2 : Shared} {t : Sem PySem.Flow} (x : Step (FrD env) mem s.heap mem' s'.heap) (h : wpAny (model W.prog W.w) A t (PS W env vis mem' s' R) E s2) : wpAny (model W.prog W.w) A t (PS W env vis mem s R) E s2 :=
  wpAny_mono h (fun _ _ p => PS.trans x p) fun _ _ x => x
end

theorem chkStore_spec {vis : List (Nat × Str)} {sc : Scope} {i : Nat} {x : Str} {env : Env} (hsc : ScOk sc env) (h : chkStore vis sc i x = true) : (i, x) ∈ vis ∧ (env.kindOf x = some .local ∨ env.kindOf x = some .cell) := by
  unfold chkStore storable at h
  simp only [Bool.and_eq_true, Bool.or_eq_true, beq_iff_eq] at h
  refine ⟨?_, h.2.imp (fun q => (hsc _ _ q).2 (by simp)) fun q => (hsc _ _ q).2 (by simp)⟩
  have h1 := h.1
  clear h
  induction vis with
  | nil => simp at h1
  | cons p r ih =>
    obtain ⟨j, y⟩ := p
    rw [List.lookup_cons] at h1
    split at h1
    · rename_i q; cases h1; rw [beq_iff_eq] at q; subst q; exact .head _
    · exact .tail _ (ih h1)
theorem interactive_no {env : Env} (h : env.scope.kind = .function) : interactive env = false := by
  unfold interactive; rw [h]; rfl
theorem swaps_no {e : Expr} {t : Option Expr} {n : Nat} {env : Env} (h : notComp e = true) : swapsWith e t n env = pure false := by
  cases e <;> first | rfl | exact nb h

inductive FI (W : Cx) (env : Env) (vis : List (Nat × Str)) (t : Tg) (mem : Mem) (h₀ : Heap) (k : ItK) (v : Val) (xs : List Val) (I : Addr) (f : (Flow → Loc → Mem → Prop) → Loc → Mem → Prop) (R : Flow → Loc → Mem → Prop) (n : Nat) (s' : Shared) : Prop
  | mk (i : Nat) (loc' : Loc) (mem' : Mem) (h1 : n = xs.length + 1 - i) (h2 : i ≤ xs.length) (h3 : Rel W env vis loc' mem' s') (h4 : Step (FrD env) mem h₀ mem' s'.heap) (h5 : IterAt W k v xs I i s'.heap) (h6 : stands k v mem mem') (h7 : mem' I = none)
      (h8 : forLoop (bodyF t f) (stands k v mem) (xs.drop i) R loc' mem')
theorem for_sound {W : Cx} {A : Around} {E : Value → Shared → Prop} {env : Env} {vis : List (Nat × Str)} {loc : Loc} {mem : Mem} {s s₂ : Shared} {R : Flow → Loc → Mem → Prop} {k : ItK} {v : Val} {xs : List Val} {I : Addr} {target : Expr} {new : List (Nat × Str)} {t : Tg} {body : List Stmt}
    {f : (Flow → Loc → Mem → Prop) → Loc → Mem → Prop} {RR : Result → Shared → Prop} (hh : A.handled = none) (hv : VisOk vis)
    (R1 : Rel W env vis loc mem s) (R2 : Rel W env vis loc mem s₂) (S2 : Step NoD mem s.heap mem s₂.heap) (hI : s.heap.get? I = none) (hit : IterAt W k v xs I 0 s₂.heap) (hcur : Cur k v xs mem)
    (hT : chkT t target = some new) (hm : ∀ p ∈ new, p ∈ vis) (hk : ∀ p ∈ new, env.kindOf p.2 = some .local ∨ env.kindOf p.2 = some .cell)
    (hbody : ∀ l P mem' s' E', Rel W env vis l mem' s' → f P l mem' → wpAny (model W.prog W.w) A (execs body env) (PS W env vis mem' s' P) E' s')
    (hloop : forLoop (bodyF t f) (stands k v mem) xs R loc mem)
    (hRR : ∀ fl s', PS W env vis mem s R fl s' → RR (.ok fl) s') :
    codeAny (model W.prog W.w) A (.forLoop target (.ref I) body [] env) RR s₂ := by
  have hbase : W.base.get? I = none := by
    cases q : W.base.get? I with
    | none => rfl
    | some o => rw [R1.m.stays I o q] at hI; cases hI
  refine codeAny_forLoop_any (FI W env vis t mem s.heap k v xs I f R) ?_ (xs.length + 1)
    (.mk 0 loc mem rfl (Nat.zero_le _) R2 S2.toFr hit (by cases k <;> first | trivial | rfl) (R1.m.mems.fresh hI) hloop)
  rintro n s' ⟨i, loc', mem', rfl, hi', R', S', hit', hstd, hmI, hlp⟩
  have hInf : ¬ FrD env I := fun hb => by
    obtain ⟨o, e, hd⟩ := R'.e.there hb
    obtain ⟨o', fs, e', hd'⟩ := hit'.there
    rw [e] at e'; cases e'
    rw [hd'] at hd
    rcases hd with ⟨_, _, q⟩ | ⟨_, q⟩ <;> cases q
  have hIfx : ∀ o, s'.heap.get? I = some o → ¬ Fixed o := fun o e hf => by
    obtain ⟨o', fs, e', hd'⟩ := hit'.there
    rw [e] at e'; cases e'
    obtain ⟨_, _, _, q⟩ := hf; rw [hd'] at q; cases q
  by_cases hlt : i < xs.length
  · refine iter_next R'.m (hcur.stands hstd) hit' hmI hlt fun x y h' tk hx hxr hit1 hs1 => ?_
    have kb1 : KeepBut I s'.heap h' := fun b o hb e => (hs1.2 b hb).trans e
    obtain ⟨R1', kf1⟩ := R'.off (s' := { s' with heap := h', toks := tk }) I hmI hbase hInf hIfx kb1
    have S1 : Step (FrD env) mem s.heap mem' h' := S'.off (· = I) (fun b hb => hb ▸ hI) fun b o hb e => kb1 b o hb e
    refine owned_sound hit1 ?_
    have hdrop : xs.drop i = x :: xs.drop (i + 1) := by
      rw [List.drop_eq_getElem_cons hlt]
      congr 1
      rw [List.getElem?_eq_getElem hlt] at hx
      exact Option.some.inj hx
    rw [hdrop] at hlp
    obtain ⟨l, hl, hlp'⟩ := hlp
    · refine assignT R1' hh hv hT hm hk hxr hl fun s2 R2' S2' _ => ?_
      refine wpAny_mono (hbody l _ mem' s2 _ R2' hlp') (fun fl s3 h3 => ?_) fun _ _ e => e
      obtain ⟨fl', l3, mem3, hfl, R3, S3, q⟩ := h3
      have keepI : ∀ (ma mb : Mem) (ha hb : Heap), Step (FrD env) ma ha mb hb → ma I = none → (∃ o fs, ha.get? I = some o ∧ o.data = .fields fs) → ∀ o, ha.get? I = some o → hb.get? I = some o := fun ma mb ha hb S hm ⟨o', fs, e', hd'⟩ o e => by
        obtain ⟨o2, e2, a2⟩ := S.keep I o e hm hInf
        rw [e] at e'; cases e'
        rw [e2, a2.eq fun es ep q => by rw [hd'] at q; cases q]
      have kf2 := S2'.keepF R1'.m.mems R1'.e.dok
      have hit2 := hit1.keep kf2 (keepI _ _ _ _ S2' hmI hit1.there)
      have kf3 := S3.keepF R2'.m.mems R2'.e.dok
      have hit3 := hit2.keep kf3 (keepI _ _ _ _ S3 hmI hit2.there)
      obtain ⟨oI, fI, eI, dI⟩ := hit2.there
      have hmI3 := S3.none' eI hmI
      have Sall := S1.trans (S2'.trans S3)
      have go : (stands k v mem mem3 ∧ forLoop (bodyF t f) (stands k v mem) (xs.drop (i + 1)) R l3 mem3) → ∃ m, m < xs.length + 1 - i ∧ FI W env vis t mem s.heap k v xs I f R m s3 := fun q =>
        ⟨xs.length + 1 - (i + 1), turn_lt hlt, .mk (i + 1) l3 mem3 rfl hlt R3 Sall hit3 q.1 hmI3 q.2⟩
      cases fl' with
      | next => obtain rfl : fl = .next := hfl; exact go q
      | cont => obtain rfl : fl = .cont := hfl; exact go q
      | brk => obtain rfl : fl = .brk := hfl; exact hRR _ _ ⟨.next, l3, mem3, rfl, R3, Sall, q⟩
      | ret u =>
        obtain ⟨y', rfl, hy'⟩ : ∃ y, fl = .ret y ∧ VRel W s3.heap u y := hfl
        exact hRR _ _ ⟨.ret u, l3, mem3, ⟨y', rfl, hy'⟩, R3, Sall, q⟩
  · have hie : i = xs.length := by walk_at "o"
    subst hie
    refine iter_end R'.m hh (hcur.stands hstd) hit' fun h' he => ?_
    have kb1 : KeepBut I s'.heap h' := fun b o hb e => he b o hb e
    obtain ⟨R1', kf1⟩ := R'.off (s' := { s' with heap := h' }) I hmI hbase hInf hIfx kb1
    have S1 : Step (FrD env) mem s.heap mem' h' := S'.off (· = I) (fun b hb => hb ▸ hI) fun b o hb e => kb1 b o hb e
    have hq : R .next loc' mem' := by rw [List.drop_length] at hlp; exact hlp
    exact wpAny_execs_nil (hRR _ _ ⟨.next, loc', mem', rfl, R1', S1, hq⟩)

end TD

namespace TD
open PySem PyProof.Rows

section inv
variable {FT : Nat → Option Fn} {ids : List Nat} {vis : List (Nat × Str)} {sc : Scope} {st : Stmt}
theorem inv_expr {e : Ex} (h : chkS FT ids vis sc (.expr e) st = true) : ∃ v p, st = .Expr v p ∧ notComp v = true ∧ chkE FT ids vis sc e v = true := by
  obtain ⟨v, p, rfl, h⟩ := vExpr_inv h
  exact ⟨v, p, rfl, and2 h⟩
theorem inv_ret {e : Ex} (h : chkS FT ids vis sc (.ret e) st = true) : ∃ v p, st = .Return (some v) p ∧ chkE FT ids vis sc e v = true := vRet_inv h
theorem inv_asg {i : Nat} {e : Ex} (h : chkS FT ids vis sc (.asg i e) st = true) : ∃ x px v p, st = .Assign [.Name x px] v p ∧ chkStore vis sc i x = true ∧ chkE FT ids vis sc e v = true := by
  refine Classical.byContradiction fun hn => ?_
  obtain ⟨t, v, p, rfl, h⟩ := vAsg_inv h
  obtain ⟨x, px, rfl, h⟩ := vName_inv h
  exact hn ⟨x, px, v, p, rfl, and2 h⟩
theorem inv_asgSub {o i e : Ex} (h : chkS FT ids vis sc (.asgSub o i e) st = true) : ∃ e1 e2 ps v p, st = .Assign [.Subscript e1 e2 ps] v p ∧ notComp v = true ∧ chkE FT ids vis sc e v = true ∧ chkE FT ids vis sc o e1 = true ∧ chkE FT ids vis sc i e2 = true := by
  refine Classical.byContradiction fun hn => ?_
  obtain ⟨t, v, p, rfl, h⟩ := vAsg_inv h
  obtain ⟨e1, e2, ps, rfl, h⟩ := vSub_inv h
  obtain ⟨h1, h⟩ := and2 h
  obtain ⟨h2, h⟩ := and2 h
  exact hn ⟨e1, e2, ps, v, p, rfl, h1, h2, and2 h⟩
theorem inv_ifs {c : Ex} {t e : Sts} (h : chkS FT ids vis sc (.ifs c t e) st = true) : ∃ a b o p, st = .If a b o p ∧ chkE FT ids vis sc c a = true ∧ chkSs FT ids vis sc t b = true ∧ chkSs FT ids vis sc e o = true := by
  refine Classical.byContradiction fun hn => ?_
  obtain ⟨a, b, o, p, rfl, h⟩ := vIf_inv h
  obtain ⟨h1, h⟩ := and2 h
  exact hn ⟨a, b, o, p, rfl, h1, and2 h⟩
theorem inv_fors {t : Tg} {k : ItK} {src : Ex} {b : Sts} (h : chkS FT ids vis sc (.fors t k src b) st = true) : ∃ target iter body p new e1, st = .For target iter body [] p ∧ chkT t target = some new ∧ (∀ q ∈ new, chkStore vis sc q.1 q.2 = true) ∧ notSet iter = true ∧
    IterIs sc k.call iter e1 ∧ chkE FT ids vis sc src e1 = true ∧ chkSs FT ids vis sc b body = true := by
  refine Classical.byContradiction fun hn => ?_
  obtain ⟨target, iter, body, p, rfl, h⟩ := vFor_inv h
  obtain ⟨new, hT, h⟩ := vSome_inv h
  obtain ⟨h1, h⟩ := and2 h
  obtain ⟨h2, h⟩ := and2 h
  obtain ⟨h3, h4⟩ := and2 h
  obtain ⟨e1, hk, h5⟩ := vIter_inv h3
  exact hn ⟨target, iter, body, p, new, e1, rfl, hT, List.all_eq_true.mp h1, h2, hk, h5, h4⟩
theorem inv_whiles {c : Ex} {b : Sts} (h : chkS FT ids vis sc (.whiles c b) st = true) : ∃ a body p, st = .While a body [] p ∧ chkE FT ids vis sc c a = true ∧ chkSs FT ids vis sc b body = true := by
  obtain ⟨a, b, p, rfl, h⟩ := vWhile_inv h
  exact ⟨a, b, p, rfl, and2 h⟩
theorem inv_scons {s : St} {ss : Sts} {l : List Stmt} (h : chkSs FT ids vis sc (.cons s ss) l = true) : ∃ x r, l = x :: r ∧ chkS FT ids vis sc s x = true ∧ chkSs FT ids vis sc ss r = true := by
  cases l with
  | nil => exact nb h
  | cons x r => exact ⟨x, r, rfl, and2 h⟩
theorem inv_snil {l : List Stmt} (h : chkSs FT ids vis sc .nil l = true) : l = [] := List.isEmpty_iff.mp h
end inv

theorem CompLeft.rel {W : Cx} {env : Env} {vis : List (Nat × Str)} {loc : Loc} {mem : Mem} {s : Shared} {Q : Val → Mem → Prop} {D C' : Addr} {s' : Shared} (R : Rel W env vis loc mem s) (h : CompLeft W env mem s (fun ys m' => freshL m' ys Q) D C' s') :
    ∃ mem2, Rel W env vis loc mem2 s' ∧ Step NoD mem s.heap mem2 s'.heap ∧ Q (.ref D) mem2 ∧ mem2 C' = none ∧ s.heap.get? C' = none ∧ ∃ m, s'.heap.Ns C' m := by
  obtain ⟨mem', ys, vs, m, hD, hC, hne, hnsC, ⟨nD, eD⟩, hr, hM, hS, hmC, hmD, hf⟩ := h
  have hbase : ∀ b, s.heap.get? b = none → W.base.get? b = none := fun b e => by
    cases q : W.base.get? b with
    | none => rfl
    | some o => rw [R.m.stays b o q] at e; cases e
  have M2 : MRel W (mem'.set D (.list ys)) s' := by
    refine ⟨hM.stays, fun b o e => ?_, hM.gens, hM.os⟩
    unfold Mem.set at e
    split at e
    · rename_i q; subst q; cases e
      exact ⟨⟨vs, ⟨nD, eD⟩, hr⟩, hbase _ hD⟩
    · exact hM.mems b o e
  have S2 : Step NoD mem s.heap (mem'.set D (.list ys)) s'.heap := ⟨hS.alive, hS.keep, fun b hb hb' => by
    unfold Mem.set at hb'
    split at hb'
    · rename_i q; subst q; exact hD
    · exact hS.grow b hb hb'⟩
  refine ⟨_, R.step M2 S2, S2, hf.2 D hmD, ?_, hC, m, hnsC⟩
  unfold Mem.set
  rw [if_neg hne]; exact hmC

theorem chk_notComp {FT : Nat → Option Fn} {ids : List Nat} {vis : List (Nat × Str)} {sc : Scope} {e : Ex} {ex : Expr} (h : chkE FT ids vis sc e ex = true) (he : (ixOf e == 8) = false) : notComp ex = true := by
  unfold notComp
  rw [chk_ix h, he, beq_false_of_ne fun q => ix_ne (n := 9) q (by decide) rfl, beq_false_of_ne fun q => ix_ne (n := 10) q (by decide) rfl]
  rfl

theorem comp_of {e : Ex} (h : ixOf e = 8) : ∃ elt t k src cond, e = .comp elt t k src cond := by
  cases e with
  | comp elt t k src cond => exact ⟨elt, t, k, src, cond, rfl⟩
  | _ => exact absurd h (fun q => nb (show false = true from congrArg (fun n => n == 8) q))

mutual
theorem soundS {W : Cx} {FT : Nat → Option Fn} {ids : List Nat} {G : String → Option Val} {n : Nat} {A : Around} {C : CallT} (SC : SCx W FT ids G n A C) : ∀ (st : St) {sx : Stmt} {env : Env} {vis : List (Nat × Str)} {sc : Scope} {loc : Loc} {P : Flow → Loc → Mem → Prop} {Y : Nat → Loc → Mem → Prop} {mem : Mem} {s : Shared} {E : Value → Shared → Prop},
    chkS FT ids vis sc st sx = true → ScOk sc env → VisOk vis → (∀ k l m, ¬ Y k l m) → Rel W env vis loc mem s → wpS C G st P Y loc mem → wpAny (model W.prog W.w) A (exec sx env) (PS W env vis mem s P) E s
  | .expr e, sx, env, vis, sc, loc, P, Y, mem, s, E, hc, hsc, hv, hY, R, h => by
    obtain ⟨v, p, rfl, h1, h2⟩ := inv_expr hc
    refine wpAny_Expr (then1 R ((soundE SC e).1 h2 hsc hv (fun _ _ z => z) R h) fun u y m1 s1 hy R1 S1 q1 => ?_) (interactive_no R.e.kind) (swaps_no h1)
    obtain ⟨q1, q2⟩ := q1
    have : ∀ a, y ≠ .ref a := fun a e => by
      subst e
      cases u <;> first | exact q1.elim | skip
      · have := hy.none'; cases this
      · have := hy.bool; cases this
      · obtain ⟨_, q⟩ := hy.int; cases q
    split
    · exact absurd rfl (this _)
    · exact ⟨.next, loc, m1, rfl, R1, S1.toFr, q2⟩
  | .ret e, sx, env, vis, sc, loc, P, Y, mem, s, E, hc, hsc, hv, hY, R, h => by
    obtain ⟨v, p, rfl, h2⟩ := inv_ret hc
    exact wpAny_Return_some (then1 R ((soundE SC e).1 h2 hsc hv (fun _ _ z => z) R h) fun u y m1 s1 hy R1 S1 q1 => ⟨.ret u, loc, m1, ⟨y, rfl, hy⟩, R1, S1.toFr, q1⟩)
  | .asg i e, sx, env, vis, sc, loc, P, Y, mem, s, E, hc, hsc, hv, hY, R, h => by
    obtain ⟨x, px, v, p, rfl, h1, h2⟩ := inv_asg hc
    obtain ⟨hm, hk⟩ := chkStore_spec hsc h1
    have plain : ∀ (hs : swapsWith v (some (.Name x px)) p.line env = pure false), wpAny (model W.prog W.w) A (exec (.Assign [.Name x px] v p) env) (PS W env vis mem s P) E s := fun hs => by
      refine wpAny_Assign_Name (then1 R ((soundE SC e).1 h2 hsc hv (fun _ _ z => z) R h) fun u y m1 s1 hy R1 S1 q1 => ?_) hs
      exact store_sound R1 hv hm hk hy fun s2 R2 S2 _ => ⟨.next, _, m1, rfl, R2, S1.toFr.trans S2, q1⟩
    cases hb8 : (ixOf e == 8) with
    | false => exact plain (swaps_no (chk_notComp h2 hb8))
    | true =>
      obtain ⟨elt, t, k, src, cond, rfl⟩ := comp_of (beq_iff_eq.mp hb8)
      obtain ⟨elt', target, iter, ifs, csc, pc, new, e1, rfl, hT, c1, c2, c3, c4, c5, c6⟩ := inv_comp h2
      have hsw : swapsWith (.ListComp elt' [⟨target, iter, ifs, 0⟩] csc pc) (some (.Name x px)) p.line env = pure (env.blockKind == .function && env.kindOf x == some .local && px.line == pc.line && !(csc.names.any fun (n, k) => n == x && (k == .local || k == .cell))) := rfl
      cases hb : (env.blockKind == .function && env.kindOf x == some .local && px.line == pc.line && !(csc.names.any fun (n, k) => n == x && (k == .local || k == .cell))) with
      | false => rw [hb] at hsw; exact plain hsw
      | true =>
        rw [hb] at hsw
        have hloc : env.kindOf x = some .local := by
          simp only [Bool.and_eq_true, beq_iff_eq] at hb
          exact hb.1.1.2
        rw [exec_Assign_Name_used _ _ _ _ hsw]
        refine wpAny_bind (wpAny_standAt (wpAny_bind ?_))
        show wpAny _ A (do let _ ← comprehension (.ListComp elt' [⟨target, iter, ifs, 0⟩] csc pc) csc env (firstIterPos [⟨target, iter, ifs, 0⟩] pc) (newList []) false (eval iter env) (some (assign (.Name x px) env))) _ _ s
        have hi := (chkScope_spec c1).2.2.2.2.2.2
        have hv' := newVis_ok hT hv hi
        have hX : ∀ k m, ¬ noX k m := fun _ _ z => z
        refine wpAny_bind (wpAny_mono (comp_run (PP := fun _ s' => PS W env vis mem s P .next s') (use := some (assign (.Name x px) env)) SC.room.handled SC.ok R hsc c1 c2 hT hv hi (chk_ns c4) c3 ((soundE SC src).1 c4 hsc hv hX R h) (fun C' l P mem' s' E' R' hb => soundIfs SC cond c6 cEnv_sc hv' hX R' hb) (fun C' l P mem' s' E' R' he => (soundE SC elt).1 c5 cEnv_sc hv' hX R' he) fun D C' s' hl => ?_) (fun _ s' q => wpAny_pure (wpAny_pure q)) fun _ _ x => x)
        obtain ⟨mem2, R2, S2, hq, hmC, hsC, m, hnC⟩ := hl.rel R
        refine wpAny_assign_Name (store_sound R2 hv hm (.inl hloc) .mkRef fun s3 R3 S3 ⟨a, _, ha, hs⟩ => ?_)
        obtain rfl := ha hloc
        have hCL : C' ≠ env.locals := by rintro rfl; obtain ⟨o, e⟩ := R.hasNs; obtain ⟨o, _, _, e, _⟩ := e; rw [hsC] at e; cases e
        have hn3 : s3.heap.Ns C' m := by
          obtain ⟨o, es, ep, e, r⟩ := hnC
          exact ⟨o, es, ep, (hs.2 C' hCL).trans e, r⟩
        refine ⟨m, hn3, fun h' hs' => ?_⟩
        have hbC : W.base.get? C' = none := by
          cases q : W.base.get? C' with
          | none => rfl
          | some o => rw [R.m.stays C' o q] at hsC; cases hsC
        have hfrC : ¬ FrD env C' := fun hb => by obtain ⟨o, e, _⟩ := R.e.there hb; rw [hsC] at e; cases e
        have kb : KeepBut C' s3.heap h' := fun b o hb e => (hs'.2 b hb).trans e
        obtain ⟨R4, _⟩ := R3.off (s' := { s3 with heap := h' }) C' hmC hbC hfrC (fun o e hf => by
          obtain ⟨o', es, ep, e', hd, _⟩ := hn3
          rw [e] at e'; cases e'
          obtain ⟨_, _, _, q⟩ := hf; rw [hd] at q; cases q) kb
        exact ⟨.next, _, mem2, rfl, R4, (S2.toFr.trans S3).off (· = C') (fun b hb => hb ▸ hsC) (fun b o hb e => kb b o hb e), hq⟩
  | .asgSub o i e, sx, env, vis, sc, loc, P, Y, mem, s, E, hc, hsc, hv, hY, R, h => by
    obtain ⟨e1, e2, ps, v, p, rfl, h0, h1, h2, h3⟩ := inv_asgSub hc
    have hX : ∀ k m, ¬ noX k m := fun _ _ z => z
    refine wpAny_Assign_Subscript (then1 R ((soundE SC e).1 h1 hsc hv hX R h) fun u y m1 s1 hy R1 S1 q1 => ?_) (swaps_no h0)
    refine then1 R1 ((soundE SC o).1 h2 hsc hv hX R1 q1) fun x xv m2 s2 hx R2 S2 q2 => ?_
    refine then1 R2 ((soundE SC i).1 h3 hsc hv hX R2 q2) fun z zv m3 s3 hz R3 S3 q3 => ?_
    obtain ⟨a, k, xs, rfl, rfl, em, hl, hp, hq⟩ := q3
    obtain rfl := hx.ref
    obtain ⟨t, rfl⟩ := hz.int
    refine wpAny_mono (setitem_pos R3 em hl hp.1 hp.2 (vrel_keep R2 S3 (vrel_keep R1 S2 hy)) hq) (fun _ s4 q => ?_) fun _ _ x => x
    obtain ⟨_, m4, _, M4, S4, q4⟩ := q
    exact ⟨.next, loc, m4, rfl, R3.step M4 S4, (S1.trans (S2.trans (S3.trans S4))).toFr, q4⟩
  | .ifs c t e, sx, env, vis, sc, loc, P, Y, mem, s, E, hc, hsc, hv, hY, R, h => by
    obtain ⟨a, b, o, p, rfl, h1, h2, h3⟩ := inv_ifs hc
    refine wpAny_If (wpAny_mono ((soundE SC c).2 h1 hsc hv (fun _ _ z => z) R h) (fun b s1 q => ?_) fun _ _ x => x)
    obtain ⟨m1, M1, S1, q1⟩ := q
    have R1 := R.step M1 S1
    cases b with
    | true => exact psTrans S1.toFr (soundSs SC t h2 hsc hv hY R1 (q1.1 rfl))
    | false => exact psTrans S1.toFr (soundSs SC e h3 hsc hv hY R1 (q1.2 rfl))
  | .fors t k src b, sx, env, vis, sc, loc, P, Y, mem, s, E, hc, hsc, hv, hY, R, h => by
    obtain ⟨target, iter, body, p, new, e1, rfl, hT, hst, hns, hk, h1, h2⟩ := inv_fors hc
    refine wpAny_For ?_ (fun x => folded_notSet hns x)
    refine src_sound SC.ok hsc R (chk_ns h1) hk ((soundE SC src).1 h1 hsc hv (fun _ _ z => z) R h) fun I v xs mem1 s1 s' R1 S1 hI hit R' S' hcur hlen hq => ?_
    refine for_sound (E := E) (f := fun Q' l m' => wpSs C G b Q' noY l m') SC.room.handled hv R1 R' S' hI hit hcur hT (fun q hq => (chkStore_spec hsc (hst q hq)).1) (fun q hq => (chkStore_spec hsc (hst q hq)).2) (fun l P' mem' s'' E' R'' hb => soundSs SC b h2 hsc hv (fun _ _ _ z => z) R'' hb) hq fun fl s'' q => PS.trans S1.toFr q
  | .whiles c b, sx, env, vis, sc, loc, P, Y, mem, s, E, hc, hsc, hv, hY, R, h => by
    obtain ⟨a, body, p, rfl, h1, h2⟩ := inv_whiles hc
    obtain ⟨nn, hw⟩ := h
    refine wpAny_While (codeAny_whileLoop (fun n' s' => ∃ loc' mem', Rel W env vis loc' mem' s' ∧ Step (FrD env) mem s.heap mem' s'.heap ∧
      whileLoop (fun Q' l' m' => wpE C G noX c l' (asB Q') m') (fun Q' l' m' => wpSs C G b Q' noY l' m') n' P loc' mem') ?_ nn ⟨loc, mem, R, .refl, hw⟩)
    rintro n' s' ⟨loc', mem', R', S', hl⟩
    cases n' with
    | zero => exact hl.elim
    | succ n' =>
      refine wpAny_mono ((soundE SC c).2 h1 hsc hv (fun _ _ z => z) R' hl) (fun t s1 q => ?_) fun _ _ x => x
      obtain ⟨m1, M1, S1, q1⟩ := q
      have R1 := R'.step M1 S1
      cases t with
      | false => exact wpAny_execs_nil ⟨.next, loc', m1, rfl, R1, S'.trans S1.toFr, q1.2 rfl⟩
      | true =>
        refine wpAny_mono (soundSs SC b h2 hsc hv (fun _ _ _ z => z) R1 (q1.1 rfl)) (fun fl s2 q => ?_) fun _ _ x => x
        obtain ⟨fl', l2, m2, hfl, R2, S2, q2⟩ := q
        have Sall := S'.trans (S1.toFr.trans S2)
        cases fl' with
        | next => obtain rfl : fl = .next := hfl; exact ⟨n', Nat.lt_succ_self _, l2, m2, R2, Sall, q2⟩
        | cont => obtain rfl : fl = .cont := hfl; exact ⟨n', Nat.lt_succ_self _, l2, m2, R2, Sall, q2⟩
        | brk => obtain rfl : fl = .brk := hfl; exact ⟨.next, l2, m2, rfl, R2, Sall, q2⟩
        | ret u =>
          obtain ⟨y', rfl, hy'⟩ : ∃ y, fl = .ret y ∧ VRel W s2.heap u y := hfl
          exact ⟨.ret u, l2, m2, ⟨y', rfl, hy'⟩, R2, Sall, q2⟩
  | .raise c g, sx, env, vis, sc, loc, P, Y, mem, s, E, hc, hsc, hv, hY, R, h => (hY _ _ _ h).elim
theorem soundSs {W : Cx} {FT : Nat → Option Fn} {ids : List Nat} {G : String → Option Val} {n : Nat} {A : Around} {C : CallT} (SC : SCx W FT ids G n A C) : ∀ (ss : Sts) {sx : List Stmt} {env : Env} {vis : List (Nat × Str)} {sc : Scope} {loc : Loc} {P : Flow → Loc → Mem → Prop} {Y : Nat → Loc → Mem → Prop} {mem : Mem} {s : Shared} {E : Value → Shared → Prop},
    chkSs FT ids vis sc ss sx = true → ScOk sc env → VisOk vis → (∀ k l m, ¬ Y k l m) → Rel W env vis loc mem s → wpSs C G ss P Y loc mem → wpAny (model W.prog W.w) A (execs sx env) (PS W env vis mem s P) E s
  | .nil, sx, env, vis, sc, loc, P, Y, mem, s, E, hc, hsc, hv, hY, R, h => by
    rw [inv_snil hc]
    exact wpAny_execs_nil ⟨.next, loc, mem, rfl, R, .refl, h⟩
  | .cons st ss, sx, env, vis, sc, loc, P, Y, mem, s, E, hc, hsc, hv, hY, R, h => by
    obtain ⟨x, r, rfl, h1, h2⟩ := inv_scons hc
    refine wpAny_execs_cons (wpAny_mono (soundS SC st h1 hsc hv hY R h) (fun fl s1 q => ?_) fun _ _ x => x)
    obtain ⟨fl', l1, m1, hfl, R1, S1, q1⟩ := q
    cases fl' with
    | next =>
      obtain rfl : fl = .next := hfl
      exact psTrans S1 (soundSs SC ss h2 hsc hv hY R1 q1)
    | cont => obtain rfl : fl = .cont := hfl; exact ⟨.cont, l1, m1, rfl, R1, S1, q1⟩
    | brk => obtain rfl : fl = .brk := hfl; exact ⟨.brk, l1, m1, rfl, R1, S1, q1⟩
    | ret u =>
      obtain ⟨y', rfl, hy'⟩ : ∃ y, fl = .ret y ∧ VRel W s1.heap u y := hfl
      exact ⟨.ret u, l1, m1, ⟨y', rfl, hy'⟩, R1, S1, q1⟩
end

end TD

namespace TD
open PySem PyProof.Rows

theorem zip_lookup {α : Type} : ∀ {ps : List Str} {vs : List α}, ps.length = vs.length → ∀ {i : Nat} {x : Str} {v : α}, ps.Nodup → ps[i]? = some x → vs[i]? = some v → (ps.zip vs).lookup x = some v
  | p :: ps, w :: vs, hl, 0, x, v, hn, h1, h2 => by
    simp only [List.getElem?_cons_zero, Option.some.injEq] at h1 h2
    subst h1; subst h2
    simp
  | p :: ps, w :: vs, hl, i + 1, x, v, hn, h1, h2 => by
    simp only [List.getElem?_cons_succ] at h1 h2
    rw [List.nodup_cons] at hn
    have hx : x ∈ ps := List.mem_of_getElem? h1
    have : (x == p) = false := by rw [beq_eq_false_iff_ne]; rintro rfl; exact hn.1 hx
    rw [List.zip_cons_cons, List.lookup_cons, this]
    exact zip_lookup (by simpa using hl) hn.2 h1 h2
  | [], _, _, i, x, v, _, h, _ => by simp at h
  | _ :: _, [], hl, _, _, _, _, _, _ => by simp at hl
theorem zip_filterMap {α : Type} (ps : List Str) (vs : List α) (hl : ps.length = vs.length) (hn : ps.Nodup) : ps.filterMap (fun n => ((ps.zip vs).lookup n).map (n, ·)) = ps.zip vs := by
  have key : ∀ (pre : List (Str × α)) (ps : List Str) (vs : List α), ps.length = vs.length → (pre.map (·.1) ++ ps).Nodup → ps.filterMap (fun n => ((pre ++ ps.zip vs).lookup n).map (n, ·)) = ps.zip vs := by
    intro pre ps
    induction ps generalizing pre with
    | nil => intro vs _ _; rfl
    | cons p ps ih =>
      intro vs hl hn
      cases vs with
      | nil => simp at hl
      | cons v vs =>
        have hp : (pre ++ (p, v) :: ps.zip vs).lookup p = some v := by
          have hnp : p ∉ pre.map (·.1) := fun q => by
            rw [List.nodup_append] at hn
            exact hn.2.2 p q p (.head _) rfl
          clear ih hn hl
          induction pre with
          | nil => simp
          | cons q r ih =>
            rw [List.map_cons, List.mem_cons, not_or] at hnp
            rw [List.cons_append, List.lookup_cons, beq_eq_false_iff_ne.mpr hnp.1]
            exact ih hnp.2
        rw [List.zip_cons_cons, List.filterMap_cons, hp]
        simp only [Option.map_some]
        congr 1
        have := ih (pre ++ [(p, v)]) vs (by simpa using hl) (by simpa using hn)
        simpa using this
  simpa using key [] ps vs hl (by simpa using hn)

noncomputable def plainParams (p : Arguments) : Bool := p.posonlyargs.isEmpty && p.vararg.isNone && p.kwonlyargs.isEmpty && p.kwarg.isNone
theorem bind_plain {fd : FuncData} (hp : plainParams fd.params = true) (hd : fd.defaults = .none) {vals : List Value} (hl : (fd.params.args.map (·.arg)).length = vals.length) (hn : (fd.params.args.map (·.arg)).Nodup) :
    bindArgs fd ⟨vals, []⟩ = pure ((fd.params.args.map (·.arg)).zip vals) := by
  unfold plainParams at hp
  simp only [Bool.and_eq_true, List.isEmpty_iff, Option.isNone_iff_eq_none] at hp
  obtain ⟨⟨⟨h1, h2⟩, h3⟩, h4⟩ := hp
  have hmiss : (List.take (fd.params.args.map (·.arg)).length (fd.params.args.map (·.arg))).filter (fun n => (((fd.params.args.map (·.arg)).zip vals).lookup n).isNone) = [] := by
    rw [List.take_length, List.filter_eq_nil_iff]
    intro n hm
    obtain ⟨i, hi⟩ := List.getElem?_of_mem hm
    have hlt : i < vals.length := by
      have := (List.getElem?_eq_some_iff.mp hi).1
      walk_at "o"
    rw [zip_lookup hl hn hi (List.getElem?_eq_getElem hlt)]
    simp
  have hz := zip_filterMap (fd.params.args.map (·.arg)) vals hl hn
  have hg : ¬ ((decide (vals.length > (fd.params.args.map (·.arg)).length) && true) = true) := by rw [hl, Bool.and_true]; simp
  have hm2 : ¬ ((!((List.take ((fd.params.args.map (·.arg)).length - (List.drop (0 - (fd.params.args.map (·.arg)).length) ([] : List Value)).length) (fd.params.args.map (·.arg))).filter (fun n => (((fd.params.args.map (·.arg)).zip vals).lookup n).isNone)).isEmpty) = true) := by
    rw [List.drop_nil, show (fd.params.args.map (·.arg)).length - ([] : List Value).length = (fd.params.args.map (·.arg)).length from rfl, hmiss]; simp
  clear hmiss hl hn
  obtain ⟨nm, qn, ⟨po, as, va, ko, kd, kw, ds⟩, bd, sc, gl, cl, df, kwd, doc, md, an, code, ct, bl⟩ := fd
  cases h1; cases h2; cases h3; cases h4; cases hd
  dsimp only at hz hg hm2 ⊢
  refine (if_neg hg).trans ?_
  refine (if_neg hm2).trans ?_
  show (forIn ((List.drop _ _).zip (List.drop (0 - (as.map (·.arg)).length) ([] : List Value))) _ _ >>= _) = _
  rw [List.drop_nil, List.zip_nil_right]
  show (pure _ : Sem (List (Str × Value))) = _
  exact congrArg pure ((congrArg (List.filterMap _) (List.append_nil (as.map (·.arg)))).trans hz)

noncomputable def visOf (sc : Scope) : Nat → List String → List Str → List (Nat × Str)
  | _, [], _ => []
  | i, x :: r, seen => if storable sc (Str.ofString x) && !seen.contains (Str.ofString x) then (i, Str.ofString x) :: visOf sc (i + 1) r (Str.ofString x :: seen) else visOf sc (i + 1) r seen

noncomputable def chkHead (np : Nat) (vars : List String) (fd : FuncData) : Bool :=
  plainParams fd.params && (fd.params.args.map (·.arg) == (vars.take np).map Str.ofString) && decide (np ≤ vars.length) && decide ((fd.params.args.map (·.arg)).Nodup) &&
  (fd.scope.kind == .function) && !fd.scope.isCoroutine && !fd.scope.isGenerator && fd.scope.names.all (fun p => p.2 != .free) && (fd.params.args.all fun a => storable fd.scope a.arg)
noncomputable def vStmts (b : FuncBody) (k : List Stmt → Bool) : Bool := match b with | .stmts b => k b | _ => false
theorem vStmts_inv {b : FuncBody} {k : List Stmt → Bool} (h : vStmts b k = true) : ∃ l, b = .stmts l ∧ k l = true := by
  cases b <;> first | exact ⟨_, rfl, h⟩ | exact nb h
noncomputable def chkFn (FT : Nat → Option Fn) (ids : List Nat) (fn : Fn) (fd : FuncData) : Bool :=
  chkHead fn.np fn.vars fd && vStmts fd.body fun b => chkSs FT ids (visOf fd.scope 0 fn.vars []) fd.scope fn.body b

theorem visOf_mem {sc : Scope} : ∀ {vars : List String} {k : Nat} {seen : List Str} {i : Nat} {x : Str}, (i, x) ∈ visOf sc k vars seen → k ≤ i ∧ (vars.map Str.ofString)[i - k]? = some x ∧ x ∉ seen
  | [], k, seen, i, x, h => by simp [visOf] at h
  | y :: r, k, seen, i, x, h => by
    unfold visOf at h
    split at h
    · rename_i hc
      rw [List.mem_cons] at h
      rcases h with h | h
      · cases h
        simp only [Bool.and_eq_true, Bool.not_eq_true', List.contains_eq_mem, decide_eq_false_iff_not] at hc
        refine ⟨Nat.le_refl _, ?_, hc.2⟩
        simp
      · obtain ⟨a, b, c⟩ := visOf_mem h
        refine ⟨by walk_at "o", ?_, fun q => c (.tail _ q)⟩
        rw [show i - k = (i - (k + 1)) + 1 by walk_at "o"]
        simpa using b
    · obtain ⟨a, b, c⟩ := visOf_mem h
      refine ⟨by walk_at "o", ?_, c⟩
      rw [show i - k = (i - (k + 1)) + 1 by walk_at "o"]
      simpa using b
theorem visOf_ok {sc : Scope} : ∀ (vars : List String) (k : Nat) (seen : List Str), VisOk (visOf sc k vars seen)
  | [], k, seen => fun i x j y h => by simp [visOf] at h
  | y :: r, k, seen => by
    unfold visOf
    split
    · intro i x j z h1 h2
      rw [List.mem_cons] at h1 h2
      rcases h1 with h1 | h1 <;> rcases h2 with h2 | h2
      · cases h1; cases h2; simp
      · cases h1
        obtain ⟨a, b, c⟩ := visOf_mem h2
        exact ⟨fun e => by walk_at "o", fun e => by subst e; exact absurd (.head _) c⟩
      · cases h2
        obtain ⟨a, b, c⟩ := visOf_mem h1
        exact ⟨fun e => by walk_at "o", fun e => by subst e; exact absurd (.head _) c⟩
      · exact visOf_ok r _ _ i x j z h1 h2
    · exact visOf_ok r _ _

theorem getV_rep {n i : Nat} {v : Val} (h : getV (List.replicate n none) i = some v) : False := by
  induction n generalizing i with
  | zero => exact no h
  | succ n ih => cases i with
    | zero => exact no h
    | succ i => exact ih (i := i) h
theorem getV_loc0 {vs : List Val} {n : Nat} : ∀ {i : Nat} {v : Val}, getV (loc0 vs n) i = some v → vs[i]? = some v := by
  induction vs with
  | nil => intro i v h; exact (getV_rep h).elim
  | cons u vs ih => intro i v h; cases i with
    | zero => exact h
    | succ i => exact ih (i := i) h

theorem bindL_get {kd : Str → Option NameKind} {x : Str} (hx : kd x = some .local) : ∀ {binds : List (Str × Value)} {m : Str → Option Value} {y : Value}, (binds.map (·.1)).Nodup → (binds.lookup x = some y ∨ (x ∉ binds.map (·.1) ∧ m x = some y)) → bindL kd binds m x = some y
  | [], m, y, hn, h => by
    rcases h with h | h
    · simp at h
    · exact h.2
  | (n, v) :: r, m, y, hn, h => by
    unfold bindL
    rw [List.map_cons, List.nodup_cons] at hn
    refine bindL_get hx hn.2 ?_
    by_cases hxn : x = n
    · subst hxn
      rcases h with h | h
      · rw [List.lookup_cons] at h
        simp only [beq_self_eq_true] at h
        cases h
        exact .inr ⟨hn.1, by rw [if_pos hx]; simp⟩
      · exact absurd (.head _) h.1
    · rcases h with h | h
      · rw [List.lookup_cons, beq_eq_false_iff_ne.mpr hxn] at h
        exact .inl h
      · refine .inr ⟨fun q => h.1 (.tail _ q), ?_⟩
        split
        · show (if x = n then some v else m x) = some y
          rw [if_neg hxn]; exact h.2
        · exact h.2
theorem bindC_get {kd : Str → Option NameKind} {x : Str} (hx : kd x ≠ some .local) : ∀ {binds : List (Str × Value)} {m : Str → Option Value} {y : Value}, (binds.map (·.1)).Nodup → (binds.lookup x = some y ∨ (x ∉ binds.map (·.1) ∧ m x = some y)) → bindC kd binds m x = some y
  | [], m, y, hn, h => by
    rcases h with h | h
    · simp at h
    · exact h.2
  | (n, v) :: r, m, y, hn, h => by
    unfold bindC
    rw [List.map_cons, List.nodup_cons] at hn
    refine bindC_get hx hn.2 ?_
    by_cases hxn : x = n
    · subst hxn
      rcases h with h | h
      · rw [List.lookup_cons] at h
        simp only [beq_self_eq_true] at h
        cases h
        exact .inr ⟨hn.1, by rw [if_neg hx]; simp⟩
      · exact absurd (.head _) h.1
    · rcases h with h | h
      · rw [List.lookup_cons, beq_eq_false_iff_ne.mpr hxn] at h
        exact .inl h
      · refine .inr ⟨fun q => h.1 (.tail _ q), ?_⟩
        split
        · exact h.2
        · show (if x = n then some v else m x) = some y
          rw [if_neg hxn]; exact h.2

theorem Room.down {n : Nat} {A : Around} (h : Room (n + 1) A) (env : Env) : Room n (A.deeper env) := by
  obtain ⟨a, b, c⟩ := h
  refine ⟨a, ?_, ?_⟩
  · show A.units + 3 + 100 + 20 * n < cLine
    walk_at "o"
  · show A.depth + 1 + 5 + 5 * n < recursionLimit
    walk_at "o"

theorem cells_mem {x : Str} : ∀ (names : List (Str × NameKind)) (n : Nat) (acc : List (Str × Addr)), ((x, NameKind.cell) ∈ names ∨ ∃ b, (x, b) ∈ acc) → ∃ b, (x, b) ∈ cellsFrom n names acc := by
  intro names
  induction names with
  | nil => intro n acc h; exact h.resolve_left List.not_mem_nil
  | cons p r ih =>
    intro n acc h
    obtain ⟨y, k⟩ := p
    show ∃ b, (x, b) ∈ if k == NameKind.cell then cellsFrom (n + 1) r ((y, n) :: acc) else cellsFrom n r acc
    by_cases hk : (k == NameKind.cell) = true
    · rw [if_pos hk]
      refine ih _ _ ?_
      rcases h with h | ⟨b, h⟩
      · rcases List.mem_cons.mp h with q | q
        · obtain rfl : x = y := congrArg Prod.fst q
          exact .inr ⟨n, .head _⟩
        · exact .inl q
      · exact .inr ⟨b, .tail _ h⟩
    · rw [if_neg hk]
      refine ih _ _ (h.imp_left fun h => ?_)
      rcases List.mem_cons.mp h with q | q
      · obtain rfl : NameKind.cell = k := congrArg Prod.snd q
        exact absurd rfl hk
      · exact q
theorem look_of_mem {β : Type} {x : Str} {b : β} : ∀ {l : List (Str × β)}, (x, b) ∈ l → (l.lookup x).isSome = true := by
  intro l
  induction l with
  | nil => intro h; cases h
  | cons p r ih =>
    intro h
    obtain ⟨y, c⟩ := p
    rw [List.lookup_cons]
    cases q : x == y with
    | true => rfl
    | false =>
      rcases List.mem_cons.mp h with e | e
      · obtain rfl : x = y := congrArg Prod.fst e
        rw [beq_self_eq_true] at q; cases q
      · exact ih e
theorem cell_here {x : Str} {names : List (Str × NameKind)} (n : Nat) (h : names.lookup x = some .cell) : ((cellsFrom n names []).lookup x).isSome = true := by
  obtain ⟨b, hb⟩ := cells_mem names n [] (.inl (PySem.mem_of_lookup h))
  exact look_of_mem hb

structure DefAt (W : Cx) (a : Addr) (o : Obj) (fd : FuncData) : Prop where
  at_ : W.base.get? a = some o
  data : o.data = .func fd
  dflt : fd.defaults = .none
  glob : fd.globals = mainGlobals
  blt : fd.builtins = builtinsNs
  clos : fd.closure = []
  code : W.base.CodeRec fd.code fd.qualname

theorem call_run {W : Cx} {G : String → Option Val} (ok : CxOk W G) {A : Around} (hdep : A.depth + 5 < recursionLimit) {a : Addr} {o : Obj} {fd : FuncData} (Df : DefAt W a o fd) {np : Nat} {vars : List String} (hchk : chkHead np vars fd = true) {body : List Stmt} (hb : fd.body = .stmts body)
    {vs : List Val} {args : List Value} {Q : Val → Mem → Prop} {mem : Mem} {s : Shared} {E : Value → Shared → Prop} (hlen : vs.length = np) (M : MRel W mem s) (hv : VRels W s.heap vs args)
    (run : ∀ env s₁ E', ScOk fd.scope env → Rel W env (visOf fd.scope 0 vars []) (loc0 vs (vars.length - np)) mem s₁ → (∀ b o, s.heap.get? b = some o → s₁.heap.get? b = some o) →
      wpAny (model W.prog W.w) (A.deeper env) (execs body env) (PS W env (visOf fd.scope 0 vars []) mem s₁ (retQ Q)) E' s₁) :
    wpAny (model W.prog W.w) A (call (.ref a) args) (PM W mem s Q) E s := by
      obtain ⟨h2, h3, hdef, hgl, hbl, hcl, hcd⟩ := Df
      unfold chkHead at hchk
      simp only [Bool.and_eq_true, Bool.not_eq_true', decide_eq_true_eq, beq_iff_eq] at hchk
      obtain ⟨⟨⟨⟨⟨⟨⟨⟨c1, c2⟩, c3⟩, c4⟩, c5⟩, c6⟩, c7⟩, c8⟩, c9⟩ := hchk
      have hal := hv.length
      have hpl : (fd.params.args.map (·.arg)).length = args.length := by
        rw [c2, List.length_map, List.length_take]; walk_at "o"
      have hbnd := bind_plain c1 hdef hpl c4
      have hmap : ((fd.params.args.map (·.arg)).zip args).map (·.1) = fd.params.args.map (·.arg) := by
        rw [List.map_fst_zip]; walk_at "o"
      have hkind : ∀ n, ∀ y ∈ (fd.params.args.map (·.arg)).zip args, fd.scope.names.lookup y.1 = some .local ∨ (fd.scope.names.lookup y.1 = some .cell ∧ ((cellsFrom n fd.scope.names []).lookup y.1).isSome = true) := fun n y hy => by
        have hm : y.1 ∈ fd.params.args.map (·.arg) := by rw [← hmap]; exact List.mem_map_of_mem hy
        obtain ⟨p, hp, e⟩ := List.mem_map.mp hm
        have hs := List.all_eq_true.mp c9 p hp
        rw [e] at hs
        rcases Bool.or_eq_true_iff.mp hs with q | q
        · exact .inl (eq_of_beq q)
        · exact .inr ⟨eq_of_beq q, cell_here n (eq_of_beq q)⟩
      refine wpAny_call (codeAny_call_cells (by walk_at "o") (M.stays _ _ h2) h3 (ok.nolimit.keeps M.stays) (hcd.keeps M.stays) hb hbnd hcl (hkind _) (fun s₁ I => ?_) c6 c7 c5)
      have hsc : ScOk fd.scope (callEnvC fd s.heap.objs.size a) := ScOk.self (callEnvC fd s.heap.objs.size a)
      have hloc : (callEnvC fd s.heap.objs.size a).locals = s.heap.objs.size := rfl
      have hsco : (callEnvC fd s.heap.objs.size a).scope = fd.scope := rfl
      have hglo : (callEnvC fd s.heap.objs.size a).globals = mainGlobals := hgl
      have hblo : (callEnvC fd s.heap.objs.size a).builtins = builtinsNs := hbl
      have hframe : (callEnvC fd s.heap.objs.size a).frame = some (callEnvC fd s.heap.objs.size a).locals := rfl
      have hcells : (callEnvC fd s.heap.objs.size a).cells = cellsFrom (s.heap.objs.size + 1) fd.scope.names [] := rfl
      have hko : ∀ x, (callEnvC fd s.heap.objs.size a).kindOf x = fd.scope.names.lookup x := fun _ => rfl
      generalize henv : callEnvC fd s.heap.objs.size a = env at I hsc hloc hsco hglo hblo hframe hcells hko ⊢
      have hFr : ∀ b, FrD env b → s.heap.objs.size ≤ b := fun b hb => by
        rcases hb with rfl | ⟨x, hx⟩
        · exact Nat.le_of_eq hloc.symm
        · have := I.above x b (PySem.mem_of_lookup hx)
          rw [hloc] at this
          exact Nat.le_of_lt this
      have hnone : ∀ b, s.heap.objs.size ≤ b → s.heap.get? b = none := fun b hb => by
        cases q : s.heap.get? b with
        | none => rfl
        | some o => exact absurd (Heap.lt_size q) (Nat.not_lt.mpr hb)
      have hbase : ∀ b, s.heap.get? b = none → W.base.get? b = none := fun b e => by
        cases q : W.base.get? b with
        | none => rfl
        | some o => rw [M.stays b o q] at e; cases e
      have kf : KeepF s.heap s₁.heap := .of_keeps I.toInCall.keep
      have hsame : s₁.gens = s.gens ∧ s₁.os = s.os := by
        obtain ⟨h', tk, e⟩ := I.toInCall.same; rw [e]; exact ⟨rfl, rfl⟩
      have M1 : MRel W mem s₁ := M.of_keeps I.toInCall.keep hsame.1 hsame.2
      have look : ∀ i x v, (i, x) ∈ visOf fd.scope 0 vars [] → getV (loc0 vs (vars.length - np)) i = some v → ∃ y, ((fd.params.args.map (·.arg)).zip args).lookup x = some y ∧ VRel W s₁.heap v y := fun i x v h1 h2 => by
        have h2' := getV_loc0 h2
        obtain ⟨y, hy, hr⟩ := hv.get h2'
        obtain ⟨_, hx, _⟩ := visOf_mem h1
        have hi : i < np := by
          have := (List.getElem?_eq_some_iff.mp h2').1
          walk_at "o"
        refine ⟨y, zip_lookup hpl c4 ?_ hy, hr.keep kf⟩
        rw [c2, List.map_take, List.getElem?_take_of_lt hi]
        simpa using hx
      have hnd : (((fd.params.args.map (·.arg)).zip args).map (·.1)).Nodup := by rw [hmap]; exact c4
      have R0 : Rel W env (visOf fd.scope 0 vars []) (loc0 vs (vars.length - np)) mem s₁ := by
        refine ⟨M1, ⟨by rw [hsco]; exact c5, hglo, hblo, ⟨_, I.toInCall.ns, fun i x v h1 h2 h3 => ?_⟩, fun i x v k h1 h2 h3 h4 => ?_, fun x k h1 h2 => ?_, fun x c hx => ⟨_, I.cell x c hx⟩, fun x y c hx hy => ?_⟩, fun b hb => ?_, fun b hb => ?_⟩
        · obtain ⟨y, e, r⟩ := look i x v h1 h2
          exact ⟨y, bindL_get h3 hnd (.inl e), r⟩
        · obtain ⟨y, e, r⟩ := look i x v h1 h2
          have hnl : env.kindOf x ≠ some .local := by rw [h3]; rcases h4 with rfl | rfl <;> simp
          have hkc : k = .cell := by
            rcases h4 with q | q
            · exact q
            · rw [hko] at h3
              have := List.all_eq_true.mp c8 _ (PySem.mem_of_lookup h3)
              subst q; simp at this
          subst hkc
          rw [hko] at h3
          have := cell_here (s.heap.objs.size + 1) h3
          obtain ⟨c, hc⟩ := Option.isSome_iff_exists.mp this
          refine ⟨c, y, by rw [hcells]; exact hc, ?_, r⟩
          have := I.cell x c (by rw [hcells]; exact hc)
          rw [bindC_get hnl hnd (.inl e)] at this
          exact this
        · rw [hko] at h1
          have hkc : k = .cell := by
            rcases h2 with q | q
            · exact q
            · have := List.all_eq_true.mp c8 _ (PySem.mem_of_lookup h1)
              subst q; simp at this
          subst hkc
          have := cell_here (s.heap.objs.size + 1) h1
          rw [hcells]
          exact Option.isSome_iff_exists.mp this
        · exact name_of_addr I.apart (PySem.mem_of_lookup hx) (PySem.mem_of_lookup hy)
        · exact M.mems.fresh (hnone b (hFr b hb))
        · exact hbase b (hnone b (hFr b hb))
      have stepUp : ∀ {m' : Mem} {h' : Heap}, Step (FrD env) mem s₁.heap m' h' → Step NoD mem s.heap m' h' := fun S' => by
        refine ⟨fun b e => ?_, fun b o' e hm _ => ?_, fun b hm hm' => ?_⟩
        · exact alive_of I.toInCall.keep b (S'.alive b e)
        · exact S'.keep b o' (I.toInCall.keep b o' e) hm fun hb => by rw [hnone b (hFr b hb)] at e; cases e
        · exact alive_of I.toInCall.keep b (S'.grow b hm hm')
      refine wpAny_mono (run env s₁ _ hsc R0 I.toInCall.keep) (fun fl s' p => ?_) fun _ _ x => x
      obtain ⟨fl', l, mem', hfl, R', S', q⟩ := p
      have S : Step NoD mem s.heap mem' s'.heap := stepUp S'
      cases fl' with
      | next => obtain rfl : fl = .next := hfl; exact ⟨.none, mem', .mkNone, R'.m, S, q⟩
      | ret u =>
        obtain ⟨y', rfl, hy'⟩ : ∃ y, fl = .ret y ∧ VRel W s'.heap u y := hfl
        exact ⟨u, mem', hy', R'.m, S, q⟩
      | brk => exact q.elim
      | cont => exact q.elim

noncomputable def Defs (W : Cx) (FT : Nat → Option Fn) (ids : List Nat) : Prop :=
  ∀ f ∈ ids, ∀ fn, FT f = some fn → ∃ a o fd, W.mg (Str.ofString fn.name) = some (.ref a) ∧ DefAt W a o fd ∧ chkFn FT ids fn fd = true

theorem callOk {W : Cx} {FT : Nat → Option Fn} {ids : List Nat} {G : String → Option Val} (ok : CxOk W G) (D : Defs W FT ids) : ∀ (n : Nat) {A : Around}, Room n A → CallOk W FT ids A (callN FT G n)
  | 0, A, hr => fun f hf fn hfn => by
    obtain ⟨a, o, fd, h1, Df, _⟩ := D f hf fn hfn
    exact ⟨a, o, fd, h1, Df.at_, Df.data, fun _ _ _ _ _ _ _ _ h => h.elim⟩
  | n + 1, A, hr => fun f hf fn hfn => by
    obtain ⟨a, o, fd, h1, Df, hchk⟩ := D f hf fn hfn
    refine ⟨a, o, fd, h1, Df.at_, Df.data, fun vs args Q X mem s E hX hc M hv => ?_⟩
    obtain ⟨hh, hb⟩ := and2 hchk
    obtain ⟨body, hb, hc10⟩ := vStmts_inv hb
    obtain ⟨fn', e, hlen, hbody⟩ := hc
    obtain rfl : fn = fn' := Option.some.inj (hfn.symm.trans e)
    refine call_run ok (by have := hr.depth; walk_at "o") Df hh hb hlen M hv fun env s₁ E' hsc R0 hk => ?_
    have SC : SCx W FT ids G n (A.deeper env) (callN FT G n) := ⟨ok, hr.down env, callOk ok D n (hr.down env)⟩
    exact soundSs SC fn.body hc10 hsc (visOf_ok _ _ _) (fun k _ m => hX k m) R0 hbody

end TD

namespace TD
open PySem (Str Addr)

noncomputable def globOf (gs : List (String × Int)) (x : String) : Option Val := (gs.lookup x).map .int
noncomputable def Ext (m m' : Mem) : Prop := ∀ a o, m a = some o → m' a = some o
theorem Ext.refl {m : Mem} : Ext m m := fun _ _ e => e
theorem Ext.trans {m1 m2 m3 : Mem} (x : Ext m1 m2) (y : Ext m2 m3) : Ext m1 m3 := fun a o e => y a o (x a o e)
theorem Ext.set {m : Mem} {a : Addr} {o : AObj} (h : m a = none) : Ext m (m.set a o) := fun b o' e => by
  unfold Mem.set; split
  · rename_i q; subst q; rw [h] at e; cases e
  · exact e
theorem set_eq {m : Mem} {a : Addr} {o : AObj} : (m.set a o) a = some o := by simp [Mem.set]
theorem freshL_x {m : Mem} {Q : Val → Mem → Prop} {xs : List Val} (hl : xs.length < lid) (h : ∀ a m', m a = none → Ext m m' → m' a = some (.list xs) → Q (.ref a) m') : freshL m xs Q := freshL_ hl fun a ha => h a _ ha (Ext.set ha) set_eq
theorem set_ne {m : Mem} {a b : Addr} {o : AObj} (h : b ≠ a) : (m.set a o) b = m b := by simp [Mem.set, h]
theorem set_set {m : Mem} {a : Addr} {o o' : AObj} : (m.set a o).set a o' = m.set a o' := by
  funext b; unfold Mem.set; split <;> rfl
noncomputable def Mem.del (m : Mem) (a : Addr) : Mem := fun b => if b = a then none else m b
theorem del_eq {m : Mem} {a : Addr} : (m.del a) a = none := by simp [Mem.del]
theorem del_ne {m : Mem} {a b : Addr} (h : b ≠ a) : (m.del a) b = m b := by simp [Mem.del, h]
theorem del_set {m : Mem} {a : Addr} {o : AObj} : (m.del a).set a o = m.set a o := by
  funext b; unfold Mem.set Mem.del; split <;> rfl
theorem set_same {m : Mem} {a : Addr} {o : AObj} (h : m a = some o) : m.set a o = m := by
  funext b; unfold Mem.set; split
  · rename_i q; subst q; exact h.symm
  · rfl
theorem Ext.del {m m2 : Mem} {a : Addr} {o : AObj} (h : m a = none) (x : Ext (m.set a o) m2) : Ext m (m2.del a) := fun b o' e => by
  have hb : b ≠ a := by rintro rfl; rw [h] at e; cases e
  rw [del_ne hb]
  exact x b o' (by rw [set_ne hb]; exact e)
theorem Ext.del_back {m m2 : Mem} {a : Addr} {o : AObj} (h : m2 a = some o) : m2 = (m2.del a).set a o := by
  rw [del_set, set_same h]
theorem ne_of {m : Mem} {a b : Addr} {o : AObj} (h : m a = none) (e : m b = some o) : b ≠ a := by rintro rfl; rw [h] at e; cases e

theorem grow_set {mr m3 : Mem} {f : Addr} {L L' : AObj} (hrf : mr f = none) (x : Ext (mr.set f L) m3) : ∃ mr', Ext mr mr' ∧ mr' f = none ∧ m3.set f L' = mr'.set f L' := ⟨m3.del f, Ext.del hrf x, del_eq, del_set.symm⟩
inductive All2 {α β : Type} (R : α → β → Prop) : List α → List β → Prop
  | nil : All2 R [] []
  | cons {a : α} {b : β} {as : List α} {bs : List β} : R a b → All2 R as bs → All2 R (a :: as) (b :: bs)
theorem All2.length {α β : Type} {R : α → β → Prop} {as : List α} {bs : List β} (h : All2 R as bs) : as.length = bs.length := by
  induction h with
  | nil => rfl
  | cons _ _ ih => exact congrArg Nat.succ ih
theorem All2.mono {α β : Type} {R R' : α → β → Prop} (k : ∀ a b, R a b → R' a b) {as : List α} {bs : List β} (h : All2 R as bs) : All2 R' as bs := by
  induction h with
  | nil => exact .nil
  | cons h _ ih => exact .cons (k _ _ h) ih
theorem All2.get {α β : Type} {R : α → β → Prop} {as : List α} {bs : List β} (h : All2 R as bs) : ∀ {i : Nat} {a : α}, as[i]? = some a → ∃ b, bs[i]? = some b ∧ R a b := by
  induction h with
  | nil => intro i a e; cases e
  | cons h _ ih => intro i a e; cases i with
    | zero => cases e; exact ⟨_, rfl, h⟩
    | succ i => obtain ⟨b, hb⟩ := ih (i := i) e; exact ⟨b, hb⟩
theorem All2.get' {α β : Type} {R : α → β → Prop} {as : List α} {bs : List β} (h : All2 R as bs) : ∀ {i : Nat} {b : β}, bs[i]? = some b → ∃ a, as[i]? = some a ∧ R a b := by
  induction h with
  | nil => intro i a e; cases e
  | cons h _ ih => intro i a e; cases i with
    | zero => cases e; exact ⟨_, rfl, h⟩
    | succ i => obtain ⟨b, hb⟩ := ih (i := i) e; exact ⟨b, hb⟩
theorem All2.append {α β : Type} {R : α → β → Prop} {as : List α} {bs : List β} {as' : List α} {bs' : List β} (h : All2 R as bs) (h' : All2 R as' bs') : All2 R (as ++ as') (bs ++ bs') := by
  induction h with
  | nil => exact h'
  | cons h _ ih => exact .cons h ih
theorem All2.of_get {α β : Type} {R : α → β → Prop} {as : List α} : ∀ {bs : List β}, as.length = bs.length → (∀ (i : Nat) a b, as[i]? = some a → bs[i]? = some b → R a b) → All2 R as bs := by
  induction as with
  | nil => intro bs hl _; cases bs with
    | nil => exact .nil
    | cons _ _ => cases hl
  | cons a as ih => intro bs hl h; cases bs with
    | nil => cases hl
    | cons b bs => exact .cons (h 0 a b rfl rfl) (ih (Nat.succ.inj hl) fun i a b h1 h2 => h (i + 1) a b h1 h2)

noncomputable def IsL (m : Mem) (v : Val) (xs : List Val) : Prop := ∃ a, v = .ref a ∧ m a = some (.list xs)
noncomputable def IsI (m : Mem) (v : Val) (is : List Int) : Prop := IsL m v (is.map .int)
noncomputable def IsLL {β : Type} (R : Mem → Val → β → Prop) (m : Mem) (v : Val) (t : List β) : Prop := ∃ xs, IsL m v xs ∧ All2 (R m) xs t
noncomputable abbrev IsT := IsLL IsI
theorem IsL.ext {m m' : Mem} (x : Ext m m') {v : Val} {xs : List Val} (h : IsL m v xs) : IsL m' v xs := by
  obtain ⟨a, rfl, e⟩ := h; exact ⟨a, rfl, x a _ e⟩
theorem IsI.ext {m m' : Mem} (x : Ext m m') {v : Val} {xs : List Int} (h : IsI m v xs) : IsI m' v xs := IsL.ext x h
theorem IsLL.ext {β : Type} {R : Mem → Val → β → Prop} {m m' : Mem} (x : Ext m m') (k : ∀ v b, R m v b → R m' v b) {v : Val} {t : List β} (h : IsLL R m v t) : IsLL R m' v t := by
  obtain ⟨xs, a, b⟩ := h; exact ⟨xs, a.ext x, b.mono k⟩
theorem IsT.ext {m m' : Mem} (x : Ext m m') {v : Val} {t : List (List Int)} (h : IsT m v t) : IsT m' v t := IsLL.ext x (fun _ _ => IsI.ext x) h
theorem IsL.lst {m : Mem} {v : Val} {xs : List Val} (h : IsL m v xs) : lst m v = some xs := by
  obtain ⟨a, rfl, e⟩ := h; show itemsOf (m a) = _; rw [e]; rfl
theorem IsL.seq {m : Mem} {v : Val} {xs : List Val} (h : IsL m v xs) : seq m v = some xs := by
  obtain ⟨a, rfl, e⟩ := h; show itemsOf (m a) = _; rw [e]; rfl
theorem IsL.list {m : Mem} {v : Val} {xs : List Val} (h : IsL m v xs) : isA m v .list = some true := by
  obtain ⟨a, rfl, e⟩ := h; show (m a).bind _ = _; rw [e]; rfl
theorem IsL.stands {m m' : Mem} {v : Val} {xs : List Val} {k : ItK} (h : IsL m v xs) (h' : IsL m' v xs) : stands k v m m' := by
  cases k <;> first | trivial | exact h'.lst.trans h.lst.symm
theorem IsI.seq {m : Mem} {v : Val} {xs : List Int} (h : IsI m v xs) : TD.seq m v = some (xs.map .int) := IsL.seq h
theorem IsI.lst {m : Mem} {v : Val} {xs : List Int} (h : IsI m v xs) : TD.lst m v = some (xs.map .int) := IsL.lst h
theorem IsL.new {m : Mem} {a : Addr} {xs : List Val} : IsL (m.set a (.list xs)) (.ref a) xs := ⟨a, rfl, set_eq⟩
noncomputable abbrev dInts (is : List Int) : Dat := .list (is.map .int)
noncomputable abbrev dTab (t : List (List Int)) : Dat := .list (t.map dInts)
theorem readsL_ints {m : Mem} {is : List Int} : ReadsL m (is.map .int) (is.map .int) := by
  induction is with
  | nil => rfl
  | cons i is ih => exact Exists.intro _ ⟨_, rfl, rfl, ih⟩
theorem IsI.reads {m : Mem} {v : Val} {is : List Int} (h : IsI m v is) : Reads m (dInts is) v := Exists.intro _ ⟨h.lst, readsL_ints⟩
theorem readsL_of {β : Type} {R : Val → β → Prop} {d : β → Dat} {m : Mem} (k : ∀ v b, R v b → Reads m (d b) v) {xs : List Val} {t : List β} (h : All2 R xs t) : ReadsL m (t.map d) xs := by
  induction h with
  | nil => rfl
  | cons h _ ih => exact Exists.intro _ ⟨_, rfl, k _ _ h, ih⟩
theorem IsLL.reads {β : Type} {R : Mem → Val → β → Prop} {d : β → Dat} {m : Mem} (k : ∀ v b, R m v b → Reads m (d b) v) {v : Val} {t : List β} (h : IsLL R m v t) : Reads m (.list (t.map d)) v := by
  obtain ⟨xs, a, b⟩ := h
  exact Exists.intro xs ⟨a.lst, readsL_of k b⟩
theorem IsT.reads {m : Mem} {v : Val} {t : List (List Int)} (h : IsT m v t) : Reads m (dTab t) v := IsLL.reads (fun _ _ => IsI.reads) h

theorem beqs_map {β : Type} [DecidableEq β] {d : β → Dat} (k : ∀ a b, Dat.beq (d a) (d b) = decide (a = b)) (a : List β) : ∀ b : List β, Dat.beqs (a.map d) (b.map d) = decide (a = b) := by
  induction a with
  | nil => intro b; cases b with
    | nil => rfl
    | cons _ _ => exact (decide_eq_false (by intro h; cases h)).symm
  | cons x a ih => intro b; cases b with
    | nil => exact (decide_eq_false (by intro h; cases h)).symm
    | cons y b =>
      show (Dat.beq (d x) (d y) && Dat.beqs (a.map d) (b.map d)) = _
      rw [k, ih]
      by_cases h : x = y <;> by_cases h' : a = b <;> simp [h, h']
theorem beq_ints (a b : List Int) : Dat.beq (dInts a) (dInts b) = decide (a = b) := beqs_map (d := Dat.int) (fun _ _ => rfl) a b
theorem beq_tab (a b : List (List Int)) : Dat.beq (dTab a) (dTab b) = decide (a = b) := beqs_map beq_ints a b
theorem okN_ints {n : Nat} (is : List Int) : okN (n + 2) (dInts is) = true := by
  show (is.map Dat.int).all (okN (n + 1)) = true
  rw [List.all_eq_true]
  intro d hd
  obtain ⟨x, _, rfl⟩ := List.mem_map.mp hd
  rfl
theorem okN_tab {n : Nat} (t : List (List Int)) : okN (n + 3) (dTab t) = true := by
  show (t.map dInts).all (okN (n + 2)) = true
  rw [List.all_eq_true]
  intro d hd
  obtain ⟨x, _, rfl⟩ := List.mem_map.mp hd
  exact okN_ints x

noncomputable def pvBin (op : Bop) (a b : Int) : Option Val := match op with
  | .add => some (.int (a + b))
  | .sub => some (.int (a - b))
  | _ => none
noncomputable def pvCmp (op : Cop) (a b : Int) : Option Val := match op with
  | .eq => some (.bool (decide (a = b)))
  | .ne => some (.bool (decide (a ≠ b)))
  | .lt => some (.bool (decide (a < b)))
  | .le => some (.bool (decide (a ≤ b)))
  | .gt => some (.bool (decide (a > b)))
  | _ => none
noncomputable def asInt : Option Val → Option Int
  | some (.int i) => some i
  | _ => none
noncomputable def pv (G : String → Option Val) (loc : Loc) : Ex → Option Val
  | .nm i => getV loc i
  | .int i => some (.int i)
  | .bool b => some (.bool b)
  | .none => some .none
  | .glob x => G x
  | .str x => some (.str x)
  | .bin op a b => (asInt (pv G loc a)).bind fun x => (asInt (pv G loc b)).bind fun y => pvBin op x y
  | .cmp op a b => (asInt (pv G loc a)).bind fun x => (asInt (pv G loc b)).bind fun y => pvCmp op x y
  | _ => none
theorem asInt_inv {o : Option Val} {i : Int} (h : asInt o = some i) : o = some (.int i) := by
  cases o with
  | none => cases h
  | some v => cases v <;> first | (cases h; rfl) | cases h
theorem e_pv0 {C : CallT} {G : String → Option Val} {X : Nat → Mem → Prop} {loc : Loc} {m : Mem} (e : Ex) : ∀ (v : Val) (Q : Val → Mem → Prop), pv G loc e = some v → Q v m → wpE C G X e loc Q m := by
  have two : ∀ {a b : Ex} {f : Int → Int → Option Val} {v : Val}, ((asInt (pv G loc a)).bind fun x => (asInt (pv G loc b)).bind fun y => f x y) = some v → ∃ x y, pv G loc a = some (.int x) ∧ pv G loc b = some (.int y) ∧ f x y = some v := fun h => by
    obtain ⟨x, hx, h⟩ := Option.bind_eq_some_iff.mp h
    obtain ⟨y, hy, h⟩ := Option.bind_eq_some_iff.mp h
    exact ⟨x, y, asInt_inv hx, asInt_inv hy, h⟩
  refine Ex.rec (motive_1 := fun e => ∀ (v : Val) (Q : Val → Mem → Prop), pv G loc e = some v → Q v m → wpE C G X e loc Q m) (motive_2 := fun _ => True) ?_ ?_ ?_ ?_ ?_ ?_ ?_ ?_ ?_ ?_ ?_ ?_ ?_ ?_ ?_ ?_ ?_ ?_ ?_ ?_ ?_ ?_ ?_ ?_ ?_ ?_ trivial (fun _ _ _ _ => trivial) e
  case refine_1 => intro i v Q h hq; exact Exists.intro v ⟨h, hq⟩
  case refine_2 => intro i v Q h hq; cases h; exact hq
  case refine_3 => intro i v Q h hq; cases h; exact hq
  case refine_4 => intro v Q h hq; cases h; exact hq
  case refine_5 => intro i v Q h hq; exact Exists.intro v ⟨h, hq⟩
  case refine_6 =>
    intro op a b iha ihb v Q h hq
    obtain ⟨x, y, hx, hy, h⟩ := two h
    refine iha _ _ hx (ihb _ _ hy ?_)
    cases op <;> first | (exact nomatch (show none = some v from h)) | skip
    · cases h; exact bin_add hq
    · cases h; exact bin_sub hq
  case refine_10 =>
    intro op a b iha ihb v Q h hq
    obtain ⟨x, y, hx, hy, h⟩ := two h
    refine iha _ _ hx (ihb _ _ hy ?_)
    cases op <;> first | (exact nomatch (show none = some v from h)) | skip
    · cases h; exact cmp_eqI hq
    · cases h; exact cmp_neI hq
    · cases h; exact cmp_lt hq
    · cases h; exact cmp_le hq
    · cases h; exact cmp_gt hq
  case refine_26 => intro i v Q h hq; cases h; exact hq
  all_goals (intros; rename_i h _; cases h)
theorem e_pv {C : CallT} {G : String → Option Val} {X : Nat → Mem → Prop} {loc : Loc} {m : Mem} (e : Ex) {v : Val} {Q : Val → Mem → Prop} (h : pv G loc e = some v) (hq : Q v m) : wpE C G X e loc Q m := e_pv0 e v Q h hq
noncomputable def pvL (G : String → Option Val) (loc : Loc) : Exs → Option (List Val)
  | .nil => some []
  | .cons e es => (pv G loc e).bind fun v => (pvL G loc es).bind fun vs => some (v :: vs)
theorem l_pv0 {C : CallT} {G : String → Option Val} {X : Nat → Mem → Prop} {loc : Loc} {m : Mem} (es : Exs) : ∀ (vs : List Val) (P : List Val → Mem → Prop), pvL G loc es = some vs → P vs m → wpL C G X es loc P m := by
  refine Exs.rec (motive_1 := fun _ => True) (motive_2 := fun es => ∀ (vs : List Val) (P : List Val → Mem → Prop), pvL G loc es = some vs → P vs m → wpL C G X es loc P m) ?_ ?_ ?_ ?_ ?_ ?_ ?_ ?_ ?_ ?_ ?_ ?_ ?_ ?_ ?_ ?_ ?_ ?_ ?_ ?_ ?_ ?_ ?_ ?_ ?_ ?_ ?_ ?_ es
  case refine_27 => intro vs P h hp; cases h; exact hp
  case refine_28 =>
    intro e es _ ih vs P h hp
    obtain ⟨v, hv, h⟩ := Option.bind_eq_some_iff.mp h
    obtain ⟨ws, hw, h⟩ := Option.bind_eq_some_iff.mp h
    cases h
    exact e_pv e hv (ih _ _ hw hp)
  all_goals (intros; trivial)
theorem l_pv {C : CallT} {G : String → Option Val} {X : Nat → Mem → Prop} {loc : Loc} {m : Mem} (es : Exs) {vs : List Val} {P : List Val → Mem → Prop} (h : pvL G loc es = some vs) (hp : P vs m) : wpL C G X es loc P m := l_pv0 es vs P h hp

section
variable {C : CallT} {G : String → Option Val} {X : Nat → Mem → Prop} {Y : Nat → Loc → Mem → Prop} {loc : Loc} {Q : Val → Mem → Prop} {m : Mem} {R : Flow → Loc → Mem → Prop} {P : Bool → Mem → Prop}
theorem eqW_of {v w : Val} {d e : Dat} {Q : Bool → Prop} (hd : Reads m d v) (he : Reads m e w) (h1 : okN 8 d = true) (h2 : okN 8 e = true) (h : Q (Dat.beq d e)) (hv : ∃ a, v = .ref a) : eqW v w Q m := by
  exact Or.inr (⟨d, e, hd, he, h1, h2, h⟩)
theorem cmp_eqII {v w : Val} {a b : List Int} (hv : IsI m v a) (hw : IsI m w b) (h : P (decide (a = b)) m) : wpCmp .eq v w P m := by
  show eqW v w (fun r => P r m) m
  exact eqW_of hv.reads hw.reads (okN_ints a) (okN_ints b) (by rw [beq_ints]; exact h) ⟨_, hv.choose_spec.1⟩
theorem cmp_neII {v w : Val} {a b : List Int} (hv : IsI m v a) (hw : IsI m w b) (h : P (decide (a ≠ b)) m) : wpCmp .ne v w P m := by
  show eqW v w (fun r => P (!r) m) m
  exact eqW_of hv.reads hw.reads (okN_ints a) (okN_ints b) (by rw [beq_ints]; simpa using h) ⟨_, hv.choose_spec.1⟩
theorem cmp_eqTT {v w : Val} {a b : List (List Int)} (hv : IsT m v a) (hw : IsT m w b) (h : P (decide (a = b)) m) : wpCmp .eq v w P m := by
  show eqW v w (fun r => P r m) m
  exact eqW_of hv.reads hw.reads (okN_tab a) (okN_tab b) (by rw [beq_tab]; exact h) ⟨_, hv.choose_spec.1.choose_spec.1⟩
theorem cmp_neTT {v w : Val} {a b : List (List Int)} (hv : IsT m v a) (hw : IsT m w b) (h : P (decide (a ≠ b)) m) : wpCmp .ne v w P m := by
  show eqW v w (fun r => P (!r) m) m
  exact eqW_of hv.reads hw.reads (okN_tab a) (okN_tab b) (by rw [beq_tab]; simpa using h) ⟨_, hv.choose_spec.1.choose_spec.1⟩

theorem place_nat {k : Int} {n : Nat} (h0 : 0 ≤ k) (h : k.toNat < n) : place k n = some k.toNat := by unfold place; rw [if_pos h0, if_pos h]
theorem sub_ints {v : Val} {k : Int} {is : List Int} {x : Int} (e : IsI m v is) (h0 : 0 ≤ k) (hx : is[k.toNat]? = some x) (hl : is.length < lid) (h : Q (.int x) m) : subW v (.int k) Q m := by
  have hlt : k.toNat < is.length := (List.getElem?_eq_some_iff.mp hx).1
  exact subW_ e.seq (place_nat h0 (by simpa using hlt)) (by rw [List.getElem?_map, hx]; rfl) (by simpa using hl) h
theorem sub_ll {β : Type} {S : Mem → Val → β → Prop} {v : Val} {k : Int} {t : List β} {x : β} (e : IsLL S m v t) (h0 : 0 ≤ k) (hx : t[k.toNat]? = some x) (hl : t.length < lid) (h : ∀ y, S m y x → Q y m) : subW v (.int k) Q m := by
  have hlt : k.toNat < t.length := (List.getElem?_eq_some_iff.mp hx).1
  obtain ⟨xs, e1, e2⟩ := e
  obtain ⟨y, hy, hs⟩ := e2.get' hx
  exact subW_ e1.seq (place_nat h0 (by rw [e2.length]; exact hlt)) hy (by rw [e2.length]; exact hl) (h y hs)
theorem len_ints {v : Val} {is : List Int} (e : IsI m v is) (hl : is.length < lid) (h : Q (.int is.length) m) : wpB1 .len v Q m := b1_len e.seq (by simpa using hl) (by simpa using h)
theorem len_ll {β : Type} {S : Mem → Val → β → Prop} {v : Val} {t : List β} (e : IsLL S m v t) (hl : t.length < lid) (h : Q (.int t.length) m) : wpB1 .len v Q m := by
  obtain ⟨xs, e1, e2⟩ := e
  exact b1_len e1.seq (by rw [e2.length]; exact hl) (by rw [e2.length]; exact h)
theorem isList_ints {v : Val} {is : List Int} (e : IsI m v is) (h : Q (.bool true) m) : optQ Q m (isA m v .list) := optQ_ e.list h
theorem isList_ll {β : Type} {S : Mem → Val → β → Prop} {v : Val} {t : List β} (e : IsLL S m v t) (h : Q (.bool true) m) : optQ Q m (isA m v .list) := by
  obtain ⟨xs, e1, e2⟩ := e; exact optQ_ e1.list h

theorem optQ_t {o : Option Bool} (e : o = some true) (h : Q (.bool true) m) : optQ Q m o := optQ_ e h
theorem optQ_f {o : Option Bool} (e : o = some false) (h : Q (.bool false) m) : optQ Q m o := optQ_ e h
theorem ifQ_t {T E : Mem → Prop} {b : Bool} (hb : b = true) (h : T m) : ifQ T E b m := by subst hb; exact ifQ_true h
theorem ifQ_f {T E : Mem → Prop} {b : Bool} (hb : b = false) (h : E m) : ifQ T E b m := by subst hb; exact ifQ_false h
theorem bsQ_go {k b : Bool} {W : Mem → Prop} (hb : b = k) (h : W m) : bsQ k W P b m := And.intro (fun _ => h) fun e => by subst hb; cases b <;> exact Bool.noConfusion e
theorem bsQ_stop {k b : Bool} {W : Mem → Prop} (hb : b = !k) (h : P b m) : bsQ k W P b m := And.intro (fun e => by subst hb; cases k <;> exact Bool.noConfusion e) fun _ => h
theorem fm (a : Int) {b : Int} (h : 0 < b) : 0 ≤ a.fmod b ∧ a.fmod b < b := ⟨Int.fmod_nonneg_of_pos a h, Int.fmod_lt_of_pos a h⟩
theorem Qb {b b' : Bool} (h : Q (.bool b') m) (e : b = b') : Q (.bool b) m := by subst e; exact h
theorem Qi {b b' : Int} (h : Q (.int b') m) (e : b = b') : Q (.int b) m := by subst e; exact h
theorem comp_inv {f : Val → (List Val → Mem → Prop) → Mem → Prop} {ok : Mem → Prop} {xs : List Val} {Q' : List Val → Mem → Prop} (I : Nat → List Val → Mem → Prop) (h0 : I 0 [] m)
    (step : ∀ i x acc m, xs[i]? = some x → I i acc m → ∀ P : List Val → Mem → Prop, (∀ vs m', ok m' ∧ I (i + 1) (acc ++ vs) m' → P vs m') → f x P m)
    (done : ∀ acc m, I xs.length acc m → Q' acc m) : compLoop f ok xs [] Q' m := by
  suffices h : ∀ (acc : List Val) (m : Mem) (I : Nat → List Val → Mem → Prop), I 0 acc m → (∀ i x acc m, xs[i]? = some x → I i acc m → ∀ P : List Val → Mem → Prop, (∀ vs m', ok m' ∧ I (i + 1) (acc ++ vs) m' → P vs m') → f x P m) → (∀ acc m, I xs.length acc m → Q' acc m) → compLoop f ok xs acc Q' m from h [] m I h0 step done
  clear step done h0 I
  induction xs with
  | nil => intro acc m I h0 _ done; exact done _ _ h0
  | cons y r ih =>
    intro acc m I h0 step done
    exact step 0 y _ _ rfl h0 _ fun vs m' q => ⟨q.1, ih _ m' (fun i => I (i + 1)) q.2 (fun i x acc m e hI => step (i + 1) x acc m e hI) done⟩

noncomputable abbrev cF (C : CallT) (G : String → Option Val) (X : Nat → Mem → Prop) (elt : Ex) (t : Tg) (cond : Exs) (loc : Loc) : Val → (List Val → Mem → Prop) → Mem → Prop := compF t loc (fun l P m => wpBs C G X true cond l P m) (fun l P m => wpE C G X elt l P m)
theorem e_comp {elt : Ex} {t : Tg} {k : ItK} {src : Ex} {cond : Exs} (h : wpE C G X src loc (fun v m1 => itemsW k v (fun xs => compLoop (cF C G X elt t cond loc) (stands k v m1) xs [] (fun ys m' => freshL m' ys Q) m1) m1) m) :
    wpE C G X (.comp elt t k src cond) loc Q m := h
theorem compF_one {elt : Ex} {i : Nat} {x : Val} {P : List Val → Mem → Prop} (h : wpE C G X elt (setV loc i x) (fun y m3 => P [y] m3) m) : cF C G X elt (.one i) .nil loc x P m := Exists.intro _ ⟨rfl, ifQ_true h⟩
theorem comp_pure {elt : Ex} {i : Nat} {xs : List Val} {ok : Mem → Prop} {Q' : List Val → Mem → Prop} {g : Val → Val} (hok : ok m)
    (hstep : ∀ x ∈ xs, ∀ P : Val → Mem → Prop, P (g x) m → wpE C G X elt (setV loc i x) P m) (h : Q' (xs.map g) m) : compLoop (cF C G X elt (.one i) .nil loc) ok xs [] Q' m := by
  refine comp_inv (fun k acc m' => m' = m ∧ acc = (xs.take k).map g) ⟨rfl, by simp⟩ (fun k x acc m' hx hI P hP => ?_) fun acc m' hI => ?_
  · obtain ⟨rfl, rfl⟩ := hI
    refine compF_one (hstep x (List.mem_of_getElem? hx) _ (hP _ _ ⟨hok, rfl, ?_⟩))
    rw [List.take_add_one, hx]; simp
  · obtain ⟨rfl, rfl⟩ := hI
    rw [List.take_length]; exact h
noncomputable abbrev bF (C : CallT) (G : String → Option Val) (t : Tg) (b : Sts) (Y : Nat → Loc → Mem → Prop) : Val → (Flow → Loc → Mem → Prop) → Loc → Mem → Prop := bodyF t (fun Q' l m' => wpSs C G b Q' Y l m')
theorem bodyF_one {i : Nat} {b : Sts} {x : Val} {P : Flow → Loc → Mem → Prop} (h : wpSs C G b P Y (setV loc i x) m) : bF C G (.one i) b Y x P loc m := Exists.intro _ ⟨rfl, h⟩
end
theorem range_len (n : Int) : (rangeV n).length = n.toNat := by simp [rangeV]
theorem range_get {n : Int} {i : Nat} {x : Val} (h : (rangeV n)[i]? = some x) : i < n.toNat ∧ x = .int i := by
  unfold rangeV at h
  rw [List.getElem?_map] at h
  cases q : (List.range n.toNat)[i]? with
  | none => rw [q] at h; cases h
  | some j =>
    rw [q] at h
    obtain ⟨hl, rfl⟩ := List.getElem?_eq_some_iff.mp q
    simp at hl h
    exact ⟨by walk_at "o", h.symm⟩

end TD

namespace TD
open PySem PySem.W PyProof.Rows PySem.Calls PySem.Spec

noncomputable def chkRec (p : Program) (FT : Nat → Option Fn) (ids : List Nat) (f : Nat) : Bool := vSome (FT f) fun fn =>
  vSome ((recsOf p).find? fun d => d.name == Str.ofString fn.name) fun d => chkFn FT ids fn (docDef d.name d.params d.body d.scope .none .none .none)
noncomputable def isI (d : PyData) (i : Int) : Bool := match d with
  | .int j => j == i
  | _ => false
noncomputable def chkVal (p : Program) (x : String) (i : Int) : Bool := vSome (valOf p (Str.ofString x)) fun d => isI d i
noncomputable def chkFree (p : Program) (loose : List Str) (x : Str) : Bool :=
  !startupNames.contains x && (!loose.contains x && (!((recsOf p).map (·.name)).contains x && (!((litsOf p).map (·.1)).contains x && !((clssOf p loose).map (·.name)).contains x)))

section
variable {p : Program} {loose : List Str} {mean : ExcName → Option Value} {W : Cx}
theorem defs_of {FT : Nat → Option Fn} {ids : List Nat} (T : Top p loose mean W.mg W.mb W.base) (h : ids.all (chkRec p FT ids) = true) : Defs W FT ids := fun f hf fn hfn => by
  have h1 := List.all_eq_true.mp h f hf
  obtain ⟨fn', e, h2⟩ := vSome_inv h1
  obtain rfl : fn' = fn := Option.some.inj (e.symm.trans hfn)
  obtain ⟨d, hd, h3⟩ := vSome_inv h2
  have hn : d.name = Str.ofString fn'.name := beq_iff_eq.mp (List.find?_some (p := fun d : DefRec => d.name == Str.ofString fn'.name) hd)
  obtain ⟨a, o, pm, code, doc, h4, h5, h6, h7⟩ := T.fn d (List.mem_of_find?_eq_some hd)
  exact ⟨a, o, _, hn ▸ h4, ⟨h5, h6, rfl, rfl, rfl, rfl, h7⟩, h3⟩
theorem glob_of (T : Top p loose mean W.mg W.mb W.base) {x : String} {i : Int} (h : chkVal p x i = true) : ∃ t, W.mg (Str.ofString x) = some (.int i t) := by
  obtain ⟨d, hd, h⟩ := vSome_inv h
  obtain ⟨v, hv, r⟩ := T.const _ _ hd
  cases d <;> first | exact nb h | skip
  obtain rfl := beq_iff_eq.mp h
  have r := r W.base
  cases r with
  | int _ t => exact ⟨t, hv⟩
theorem nc {α : Type} [BEq α] [LawfulBEq α] {l : List α} {x : α} (h : (!l.contains x) = true) : x ∉ l := fun q => by rw [List.contains_iff_mem.mpr q] at h; exact nb h
theorem miss_of (T : Top p loose mean W.mg W.mb W.base) {x : Str} (h : chkFree p loose x = true) : W.mg x = none := by
  obtain ⟨h1, h⟩ := and2 h
  obtain ⟨h2, h⟩ := and2 h
  obtain ⟨h3, h⟩ := and2 h
  obtain ⟨h4, h⟩ := and2 h
  exact T.free x (nc h1) (nc h2) (nc h3) (nc h4) (nc h)

theorem cxOk_of {gs : List (String × Int)} (T : Top p loose mean W.mg W.mb W.base) (hm : biNames.all (fun x => chkFree p loose (Str.ofString x)) = true) (hg : gs.all (fun q => chkVal p q.1 q.2) = true) : CxOk W (globOf gs) where
  g := T.g
  b := T.b
  nolimit := T.nolimit
  bi := T.builtins
  bmiss := fun x hx => miss_of T (List.all_eq_true.mp hm x hx)
  gl := fun x v h => by
    unfold globOf at h
    cases q : gs.lookup x with
    | none => rw [q] at h; cases h
    | some i =>
      rw [q] at h; cases h
      have hp : (x, i) ∈ gs := by
        clear hg
        induction gs with
        | nil => cases q
        | cons p r ih =>
          obtain ⟨y, j⟩ := p
          rw [List.lookup_cons] at q
          cases e : x == y with
          | true => rw [e] at q; cases q; rw [beq_iff_eq] at e; subst e; exact .head _
          | false => rw [e] at q; exact .tail _ (ih q)
      obtain ⟨t, ht⟩ := glob_of T (List.all_eq_true.mp hg _ hp)
      exact ⟨i, t, rfl, ht⟩
end

theorem ints_rel {W : Cx} {h : Heap} : ∀ {vs : List Value} {ns : List Int}, IntsAre vs ns → VRels W h (ns.map .int) vs := by
  intro vs ns e
  induction e with
  | nil => rfl
  | cons n t _ ih => exact ⟨_, _, rfl, ⟨t, rfl⟩, ih⟩

theorem Room.caller {n : Nat} (h : n ≤ 100) : Room n callerA := by
  refine ⟨rfl, ?_, ?_⟩
  · show 4 + 100 + 20 * n < 9900
    walk_at "o"
  · show 1 + 300 + 5 + 5 * n < 1000
    walk_at "o"

theorem law_run {prog p : Program} {loose : List Str} {mean : ExcName → Option Value} {w : World} {s₁ : Shared} {mg mb : Str → Option Value} {FT : Nat → Option Fn} {ids : List Nat} {gs : List (String × Int)} {f n : Nat} {fn : Fn} {fa a : Addr} {vs : List Value} {ns : List Int} {Q : Value → Shared → Prop} {E : Value → Shared → Prop}
    (T : Top p loose mean mg mb s₁.heap) (hg : s₁.gens = #[])
    (hm : biNames.all (fun x => chkFree p loose (Str.ofString x)) = true) (hgs : gs.all (fun q => chkVal p q.1 q.2) = true) (D : Defs ⟨prog, w, s₁.heap, mg, mb, #[], s₁.os⟩ FT ids) (hn : n ≤ 100) (hf : f ∈ ids) (hfn : FT f = some fn) (hfa : mg (Str.ofString fn.name) = some (.ref fa))
    (hL : s₁.heap.IsList a vs.toArray) (hI : IntsAre vs ns)
    (hlaw : callN FT (globOf gs) n f [.frz (ns.map .int)] (fun v _ => v = .bool true) (fun _ _ => False) (fun _ => none))
    (hQ : ∀ s', s₁.heap.StaysIn s'.heap → s'.gens = #[] → s'.os = s₁.os → Q (.bool true) s') :
    wpAny (model prog w) callerA (call (.ref fa) [.ref a]) Q E s₁ := by
  let W : Cx := ⟨prog, w, s₁.heap, mg, mb, #[], s₁.os⟩
  have ok : CxOk W (globOf gs) := cxOk_of (W := W) T hm hgs
  obtain ⟨a', o, fd, h1, _, _, h4⟩ := callOk ok D n (Room.caller hn) f hf fn hfn
  have : a' = fa := by
    have := h1.symm.trans hfa
    cases this; rfl
  subst this
  refine wpAny_mono (h4 _ [.ref a] _ _ _ s₁ E (fun _ _ q => q) hlaw ⟨fun _ _ e => e, (fun _ _ e => by cases e), hg, rfl⟩ ?_) (fun v s' p => ?_) fun _ _ x => x
  · refine ⟨_, _, rfl, ⟨a, vs, rfl, hL, ints_rel hI⟩, rfl⟩
  · obtain ⟨u, mem', hu, M, S, rfl⟩ := p
    obtain rfl := hu.bool
    exact hQ s' M.stays M.gens M.os

end TD

namespace TD
noncomputable def f_is_among : Fn := { name := "is_among", np := 3, vars := ["thing", "least", "most"], body := (sts [
    .ret (.boolop true (.cons (.isinst (.nm 0) .int) (.cons (.not (.isinst (.nm 0) .bool)) (.cons (.cmp2 .le .le (.nm 1) (.nm 0) (.nm 2)) .nil))))]) }
noncomputable def f_is_row : Fn := { name := "is_row", np := 2, vars := ["thing", "many", "one"], body := (sts [
    .ifs (.boolop false (.cons (.not (.isinst (.nm 0) .list)) (.cons (.cmp .ne (.b1 .len (.nm 0)) (.nm 1)) .nil))) (sts [
      .ret (.bool false)]) .nil,
    .ret (.b1 .all (.comp (.call 0 (.cons (.nm 2) (.cons (.int 0) (.cons (.glob "MOST_WORTH") .nil)))) (.one 2) .plain (.nm 0) .nil))]) }
noncomputable def f_is_table : Fn := { name := "is_table", np := 1, vars := ["thing", "row"], body := (sts [
    .ifs (.boolop false (.cons (.not (.isinst (.nm 0) .list)) (.cons (.not (.cmp2 .le .le (.int 1) (.b1 .len (.nm 0)) (.glob "MOST_HEIRS"))) .nil))) (sts [
      .ret (.bool false)]) .nil,
    .ifs (.boolop false (.cons (.not (.isinst (.sub (.nm 0) (.int 0)) .list)) (.cons (.cmp .gt (.b1 .len (.sub (.nm 0) (.int 0))) (.glob "MOST_THINGS")) .nil))) (sts [
      .ret (.bool false)]) .nil,
    .ret (.b1 .all (.comp (.call 1 (.cons (.nm 1) (.cons (.b1 .len (.sub (.nm 0) (.int 0))) .nil))) (.one 1) .plain (.nm 0) .nil))]) }
noncomputable def f_are_things : Fn := { name := "are_things", np := 2, vars := ["thing", "many", "one"], body := (sts [
    .ifs (.boolop false (.cons (.not (.isinst (.nm 0) .list)) (.cons (.not (.b1 .all (.comp (.call 0 (.cons (.nm 2) (.cons (.int 0) (.cons (.bin .sub (.nm 1) (.int 1)) .nil)))) (.one 2) .plain (.nm 0) .nil))) .nil))) (sts [
      .ret (.bool false)]) .nil,
    .ret (.cmp .eq (.b1 .lenset (.nm 0)) (.b1 .len (.nm 0)))]) }
noncomputable def f_are_shares : Fn := { name := "are_shares", np := 3, vars := ["thing", "heirs", "many", "found", "share"], body := (sts [
    .ifs (.boolop false (.cons (.not (.isinst (.nm 0) .list)) (.cons (.cmp .ne (.b1 .len (.nm 0)) (.nm 1)) .nil))) (sts [
      .ret (.bool false)]) .nil,
    .asg 3 (.lst .nil),
    .fors (.one 4) .plain (.nm 0) (sts [
      .ifs (.boolop false (.cons (.not (.call 3 (.cons (.nm 4) (.cons (.nm 2) .nil)))) (.cons (.cmp .ne (.b1 .sorted (.nm 4)) (.nm 4)) .nil))) (sts [
        .ret (.bool false)]) .nil,
      .expr (.extend (.nm 3) (.nm 4))]),
    .ret (.cmp .eq (.b1 .lenset (.nm 3)) (.b1 .len (.nm 3)))]) }
noncomputable def f_need_table : Fn := { name := "need_table", np := 1, vars := ["table"], body := (sts [
    .ifs (.not (.call 2 (.cons (.nm 0) .nil))) (sts [
      .raise .BadTable "no table of worths"]) .nil]) }
noncomputable def f_need_shares : Fn := { name := "need_shares", np := 2, vars := ["table", "shares"], body := (sts [
    .expr (.call 5 (.cons (.nm 0) .nil)),
    .ifs (.not (.call 4 (.cons (.nm 1) (.cons (.b1 .len (.nm 0)) (.cons (.b1 .len (.sub (.nm 0) (.int 0))) .nil))))) (sts [
      .raise .BadShares "no shares"]) .nil]) }
noncomputable def f_sum_of : Fn := { name := "sum_of", np := 2, vars := ["row", "things", "thing"], body := (sts [
    .ret (.b1 .sum (.comp (.sub (.nm 0) (.nm 2)) (.one 2) .plain (.nm 1) .nil))]) }
noncomputable def f_L_at : Fn := { name := "_law_at", np := 2, vars := ["_law_script", "_law_k"], body := (sts [
    .ifs (.cmp .lt (.nm 1) (.b1 .len (.nm 0))) (sts [
      .ret (.sub (.nm 0) (.nm 1))]) .nil,
    .ret (.int 0)]) }
noncomputable def f_L_mixed : Fn := { name := "_law_mixed", np := 2, vars := ["_law_cell", "_law_k"], body := (sts [
    .ret (.bin .mod (.bin .mul (.bin .add (.bin .add (.nm 0) (.bin .mul (.int 7919) (.nm 1))) (.int 17)) (.int 48271)) (.int 2147483647))]) }
noncomputable def f_L_heirs : Fn := { name := "_law_heirs", np := 1, vars := ["_law_cell"], body := (sts [
    .ifs (.cmp .eq (.bin .mod (.bin .fdiv (.nm 0) (.int 5)) (.int 8)) (.int 1)) (sts [
      .ret (.bin .add (.int 1) (.bin .mod (.bin .fdiv (.nm 0) (.int 40)) (.int 8)))]) .nil,
    .ret (.bin .add (.int 1) (.bin .mod (.nm 0) (.int 5)))]) }
noncomputable def f_L_things : Fn := { name := "_law_things", np := 1, vars := ["_law_cell"], body := (sts [
    .ifs (.cmp .eq (.bin .mod (.bin .fdiv (.nm 0) (.int 9)) (.int 8)) (.int 1)) (sts [
      .ret (.bin .add (.int 9) (.bin .mod (.bin .fdiv (.nm 0) (.int 72)) (.int 6)))]) .nil,
    .ret (.bin .mod (.nm 0) (.int 9))]) }
noncomputable def f_L_worth : Fn := { name := "_law_worth", np := 2, vars := ["_law_number", "_law_mode"], body := (sts [
    .ifs (.cmp .eq (.nm 1) (.int 0)) (sts [
      .ret (.bin .mod (.nm 0) (.int 1000001))]) .nil,
    .ifs (.cmp .eq (.nm 1) (.int 1)) (sts [
      .ret (.bin .sub (.int 1000000) (.bin .mod (.nm 0) (.int 3)))]) .nil,
    .ret (.bin .mod (.nm 0) (.sub (.lst (.cons (.int 7) (.cons (.int 2) (.cons (.int 40) .nil)))) (.bin .sub (.nm 1) (.int 2))))]) }
noncomputable def f_L_table : Fn := { name := "_law_table", np := 3, vars := ["_law_script", "_law_heirs_here", "_law_many", "_law_mode", "_law_rows", "_law_heir", "_law_row", "_law_thing", "_law_k"], body := (sts [
    .asg 3 (.bin .mod (.call 10 (.cons (.nm 0) (.cons (.int 2) .nil))) (.int 5)),
    .asg 4 (.lst .nil),
    .fors (.one 5) .range (.nm 1) (sts [
      .asg 6 (.lst .nil),
      .fors (.one 7) .range (.nm 2) (sts [
        .asg 8 (.bin .add (.bin .mul (.nm 5) (.nm 2)) (.nm 7)),
        .expr (.append (.nm 6) (.call 14 (.cons (.bin .fdiv (.call 11 (.cons (.call 10 (.cons (.nm 0) (.cons (.bin .add (.int 4) (.bin .mod (.nm 8) (.int 36))) .nil))) (.cons (.nm 8) .nil))) (.int 3)) (.cons (.nm 3) .nil))))]),
      .expr (.append (.nm 4) (.nm 6))]),
    .ret (.nm 4)]) }
noncomputable def f_L_shares : Fn := { name := "_law_shares", np := 3, vars := ["_law_script", "_law_heirs_here", "_law_many", "_law_found", "_law_thing", "_law_to", "_law_heir"], body := (sts [
    .asg 3 (.comp (.lst .nil) (.one 6) .range (.nm 1) .nil),
    .fors (.one 4) .range (.nm 2) (sts [
      .asg 5 (.bin .mod (.bin .fdiv (.call 11 (.cons (.call 10 (.cons (.nm 0) (.cons (.bin .add (.int 40) (.bin .mod (.nm 4) (.int 8))) .nil))) (.cons (.nm 4) .nil))) (.int 5)) (.bin .sub (.bin .add (.nm 1) (.int 1)) (.b1 .int (.cmp .eq (.bin .mod (.call 10 (.cons (.nm 0) (.cons (.int 3) .nil))) (.int 3)) (.int 1))))),
      .ifs (.cmp .lt (.nm 5) (.nm 1)) (sts [
        .expr (.append (.sub (.nm 3) (.nm 5)) (.nm 4))]) .nil]),
    .ret (.nm 3)]) }
noncomputable def f_L_sum : Fn := { name := "_law_sum", np := 2, vars := ["_law_row", "_law_things_here", "_law_found", "_law_thing"], body := (sts [
    .asg 2 (.int 0),
    .fors (.one 3) .plain (.nm 1) (sts [
      .asg 2 (.bin .add (.nm 2) (.sub (.nm 0) (.nm 3)))]),
    .ret (.nm 2)]) }
noncomputable def f_L_copy : Fn := { name := "_law_copy", np := 1, vars := ["_law_rows", "_law_row"], body := (sts [
    .ret (.comp (.b1 .list (.nm 1)) (.one 1) .plain (.nm 0) .nil)]) }
noncomputable def f_L_whole : Fn := { name := "_law_whole", np := 1, vars := ["_law_found"], body := (sts [
    .ret (.boolop true (.cons (.isinst (.nm 0) .int) (.cons (.not (.isinst (.nm 0) .bool)) .nil)))]) }
noncomputable def f_is_envious : Fn := { name := "is_envious", np := 4, vars := ["table", "shares", "heir", "other"], body := (sts [
    .ret (.cmp .gt (.call 8 (.cons (.sub (.nm 0) (.nm 2)) (.cons (.sub (.nm 1) (.nm 3)) .nil))) (.call 8 (.cons (.sub (.nm 0) (.nm 2)) (.cons (.sub (.nm 1) (.nm 2)) .nil))))]) }
noncomputable def f_pairs_of : Fn := { name := "pairs_of", np := 2, vars := ["table", "shares", "found", "heir", "other"], body := (sts [
    .asg 2 (.lst .nil),
    .fors (.one 3) .range (.b1 .len (.nm 0)) (sts [
      .fors (.one 4) .range (.b1 .len (.nm 0)) (sts [
        .ifs (.call 22 (.cons (.nm 0) (.cons (.nm 1) (.cons (.nm 3) (.cons (.nm 4) .nil))))) (sts [
          .expr (.append (.nm 2) (.tup (.cons (.nm 3) (.cons (.nm 4) .nil))))]) .nil])]),
    .ret (.nm 2)]) }
noncomputable def f_enviers : Fn := { name := "enviers", np := 3, vars := ["pairs", "heir", "left", "pair"], body := (sts [
    .ret (.comp (.sub (.nm 3) (.int 0)) (.one 3) .plain (.nm 0) (.cons (.boolop true (.cons (.cmp .eq (.sub (.nm 3) (.int 1)) (.nm 1)) (.cons (.cmp .inn (.sub (.nm 3) (.int 0)) (.nm 2)) .nil))) .nil))]) }
noncomputable def f_first_free : Fn := { name := "first_free", np := 2, vars := ["pairs", "left", "heir"], body := (sts [
    .fors (.one 2) .plain (.nm 1) (sts [
      .ifs (.cmp .eq (.call 30 (.cons (.nm 0) (.cons (.nm 2) (.cons (.nm 1) .nil)))) (.lst .nil)) (sts [
        .ret (.nm 2)]) .nil]),
    .ret .none]) }
noncomputable def f_parted : Fn := { name := "parted", np := 2, vars := ["pairs", "many", "found", "left", "heir", "one"], body := (sts [
    .asg 2 (.lst .nil),
    .asg 3 (.b1 .lrange (.nm 1)),
    .asg 4 (.call 31 (.cons (.nm 0) (.cons (.nm 3) .nil))),
    .whiles (.isc false (.nm 4) .none) (sts [
      .expr (.append (.nm 2) (.nm 4)),
      .asg 3 (.comp (.nm 5) (.one 5) .plain (.nm 3) (.cons (.cmp .ne (.nm 5) (.nm 4)) .nil)),
      .asg 4 (.call 31 (.cons (.nm 0) (.cons (.nm 3) .nil)))]),
    .ret (.tup (.cons (.nm 2) (.cons (.nm 3) .nil)))]) }
noncomputable def f_ring_among : Fn := { name := "ring_among", np := 2, vars := ["pairs", "left", "chain", "heir"], body := (sts [
    .asg 2 (.lst (.cons (.sub (.nm 1) (.int 0)) .nil)),
    .asg 3 (.sub (.call 30 (.cons (.nm 0) (.cons (.sub (.nm 1) (.int 0)) (.cons (.nm 1) .nil)))) (.int 0)),
    .whiles (.cmp .notin (.nm 3) (.nm 2)) (sts [
      .expr (.append (.nm 2) (.nm 3)),
      .asg 3 (.sub (.call 30 (.cons (.nm 0) (.cons (.nm 3) (.cons (.nm 1) .nil)))) (.int 0))]),
    .ret (.b1 .lrev (.slice true (.nm 2) (.index (.nm 2) (.nm 3))))]) }
noncomputable def f_ring_of : Fn := { name := "ring_of", np := 2, vars := ["table", "shares", "pairs", "left"], body := (sts [
    .asg 2 (.call 23 (.cons (.nm 0) (.cons (.nm 1) .nil))),
    .asg 3 (.sub (.call 32 (.cons (.nm 2) (.cons (.b1 .len (.nm 0)) .nil))) (.int 1)),
    .ifs (.cmp .eq (.nm 3) (.lst .nil)) (sts [
      .ret .none]) .nil,
    .ret (.call 33 (.cons (.nm 2) (.cons (.nm 3) .nil)))]) }
noncomputable def f_turned_by : Fn := { name := "turned_by", np := 2, vars := ["shares", "heirs", "found", "place", "share"], body := (sts [
    .asg 2 (.comp (.b1 .list (.nm 4)) (.one 4) .plain (.nm 0) .nil),
    .fors (.one 3) .range (.b1 .len (.nm 1)) (sts [
      .asgSub (.nm 2) (.sub (.nm 1) (.nm 3)) (.b1 .list (.sub (.nm 0) (.sub (.nm 1) (.bin .mod (.bin .add (.nm 3) (.int 1)) (.b1 .len (.nm 1))))))]),
    .ret (.nm 2)]) }
noncomputable def f_need_aside : Fn := { name := "need_aside", np := 3, vars := ["table", "shares", "thing", "share"], body := (sts [
    .ifs (.not (.call 0 (.cons (.nm 2) (.cons (.int 0) (.cons (.bin .sub (.b1 .len (.sub (.nm 0) (.int 0))) (.int 1)) .nil))))) (sts [
      .raise .BadThing "no such thing"]) .nil,
    .fors (.one 3) .plain (.nm 1) (sts [
      .ifs (.cmp .inn (.nm 2) (.nm 3)) (sts [
        .raise .BadThing "the thing does not lie aside"]) .nil])]) }
noncomputable def f_given : Fn := { name := "given", np := 3, vars := ["table", "shares", "thing", "found", "now", "heirs", "heir", "share"], body := (sts [
    .asg 3 (.lst .nil),
    .asg 4 (.comp (.b1 .list (.nm 7)) (.one 7) .plain (.nm 1) .nil),
    .asg 5 (.call 34 (.cons (.nm 0) (.cons (.nm 4) .nil))),
    .whiles (.isc false (.nm 5) .none) (sts [
      .expr (.append (.nm 3) (.tup (.cons (.str "ring") (.cons (.b1 .tuple (.nm 5)) .nil)))),
      .asg 4 (.call 37 (.cons (.nm 4) (.cons (.nm 5) .nil))),
      .asg 5 (.call 34 (.cons (.nm 0) (.cons (.nm 4) .nil)))]),
    .asg 6 (.call 31 (.cons (.call 23 (.cons (.nm 0) (.cons (.nm 4) .nil))) (.cons (.b1 .lrange (.b1 .len (.nm 0))) .nil))),
    .expr (.append (.nm 3) (.tup (.cons (.str "give") (.cons (.nm 2) (.cons (.nm 6) .nil))))),
    .asgSub (.nm 4) (.nm 6) (.b1 .sorted (.bin .add (.sub (.nm 4) (.nm 6)) (.lst (.cons (.nm 2) .nil)))),
    .ret (.tup (.cons (.nm 3) (.cons (.nm 4) .nil)))]) }
noncomputable def f_steps : Fn := { name := "steps", np := 3, vars := ["table", "shares", "thing"], body := (sts [
    .expr (.call 6 (.cons (.nm 0) (.cons (.nm 1) .nil))),
    .expr (.call 40 (.cons (.nm 0) (.cons (.nm 1) (.cons (.nm 2) .nil)))),
    .ret (.sub (.call 41 (.cons (.nm 0) (.cons (.nm 1) (.cons (.nm 2) .nil)))) (.int 0))]) }
noncomputable def f_awarded : Fn := { name := "awarded", np := 3, vars := ["table", "shares", "thing"], body := (sts [
    .expr (.call 6 (.cons (.nm 0) (.cons (.nm 1) .nil))),
    .expr (.call 40 (.cons (.nm 0) (.cons (.nm 1) (.cons (.nm 2) .nil)))),
    .ret (.sub (.call 41 (.cons (.nm 0) (.cons (.nm 1) (.cons (.nm 2) .nil)))) (.int 1))]) }
noncomputable def f_L_envies : Fn := { name := "_law_envies", np := 2, vars := ["_law_rows", "_law_held", "_law_found", "_law_one", "_law_other"], body := (sts [
    .asg 2 (.lst .nil),
    .fors (.one 3) .range (.b1 .len (.nm 0)) (sts [
      .fors (.one 4) .range (.b1 .len (.nm 0)) (sts [
        .ifs (.cmp .gt (.call 17 (.cons (.sub (.nm 0) (.nm 3)) (.cons (.sub (.nm 1) (.nm 4)) .nil))) (.call 17 (.cons (.sub (.nm 0) (.nm 3)) (.cons (.sub (.nm 1) (.nm 3)) .nil)))) (sts [
          .expr (.append (.nm 2) (.tup (.cons (.nm 3) (.cons (.nm 4) .nil))))]) .nil])]),
    .ret (.nm 2)]) }
noncomputable def f_L_borne : Fn := { name := "_law_borne", np := 2, vars := ["_law_rows", "_law_held", "_law_one", "_law_other", "_law_rest", "_law_thing"], body := (sts [
    .fors (.two 2 3) .plain (.call 65 (.cons (.nm 0) (.cons (.nm 1) .nil))) (sts [
      .asg 4 (.comp (.bin .sub (.call 17 (.cons (.sub (.nm 0) (.nm 2)) (.cons (.sub (.nm 1) (.nm 3)) .nil))) (.sub (.sub (.nm 0) (.nm 2)) (.nm 5))) (.one 5) .plain (.sub (.nm 1) (.nm 3)) .nil),
      .ifs (.cmp .gt (.b1 .minL (.nm 4)) (.call 17 (.cons (.sub (.nm 0) (.nm 2)) (.cons (.sub (.nm 1) (.nm 2)) .nil)))) (sts [
        .ret (.bool false)]) .nil]),
    .ret (.bool true)]) }
noncomputable def f_L_around : Fn := { name := "_law_around", np := 2, vars := ["_law_script", "_law_heirs_here", "_law_left", "_law_way", "_law_k", "_law_rows", "_law_own"], body := (sts [
    .asg 2 (.b1 .lrange (.nm 1)),
    .asg 3 (.lst .nil),
    .fors (.one 4) .range (.bin .add (.int 2) (.bin .mod (.call 10 (.cons (.nm 0) (.cons (.int 49) .nil))) (.bin .sub (.nm 1) (.int 1)))) (sts [
      .expr (.append (.nm 3) (.pop (.nm 2) (.cons (.bin .mod (.bin .fdiv (.call 11 (.cons (.call 10 (.cons (.nm 0) (.cons (.int 50) .nil))) (.cons (.nm 4) .nil))) (.int 7)) (.b1 .len (.nm 2))) .nil)))]),
    .asg 5 (.call 15 (.cons (.nm 0) (.cons (.nm 1) (.cons (.nm 1) .nil)))),
    .fors (.one 4) .range (.b1 .len (.nm 3)) (sts [
      .asg 6 (.mm false (.sub (.sub (.nm 5) (.sub (.nm 3) (.bin .sub (.nm 4) (.int 1)))) (.sub (.nm 3) (.bin .sub (.nm 4) (.int 1)))) (.int 999000)),
      .asgSub (.sub (.nm 5) (.sub (.nm 3) (.bin .sub (.nm 4) (.int 1)))) (.sub (.nm 3) (.bin .sub (.nm 4) (.int 1))) (.nm 6),
      .asgSub (.sub (.nm 5) (.sub (.nm 3) (.bin .sub (.nm 4) (.int 1)))) (.sub (.nm 3) (.nm 4)) (.bin .add (.bin .add (.nm 6) (.int 1)) (.bin .mod (.call 10 (.cons (.nm 0) (.cons (.int 51) .nil))) (.int 999)))]),
    .ret (.nm 5)]) }
noncomputable def f_L_parted : Fn := { name := "_law_parted", np := 3, vars := ["_law_found", "_law_heirs_here", "_law_things_here", "_law_seen", "_law_row", "_law_one"], body := (sts [
    .ifs (.boolop false (.cons (.not (.isinst (.nm 0) .list)) (.cons (.cmp .ne (.b1 .len (.nm 0)) (.nm 1)) .nil))) (sts [
      .ret (.bool false)]) .nil,
    .asg 3 (.lst .nil),
    .fors (.one 4) .plain (.nm 0) (sts [
      .ifs (.boolop false (.cons (.not (.isinst (.nm 4) .list)) (.cons (.not (.b1 .all (.comp (.call 19 (.cons (.nm 5) .nil)) (.one 5) .plain (.nm 4) .nil))) (.cons (.cmp .ne (.nm 4) (.b1 .sorted (.nm 4))) .nil)))) (sts [
        .ret (.bool false)]) .nil,
      .asg 3 (.bin .add (.nm 3) (.nm 4))]),
    .ret (.cmp .eq (.b1 .sorted (.nm 3)) (.nm 2))]) }
noncomputable def f_L_turned : Fn := { name := "_law_turned", np := 2, vars := ["_law_held", "_law_way", "_law_found", "_law_k"], body := (sts [
    .asg 2 (.call 18 (.cons (.nm 0) .nil)),
    .fors (.one 3) .range (.b1 .len (.nm 1)) (sts [
      .asgSub (.nm 2) (.sub (.nm 1) (.bin .sub (.nm 3) (.int 1))) (.b1 .list (.sub (.nm 0) (.sub (.nm 1) (.nm 3))))]),
    .ret (.nm 2)]) }
noncomputable def f_L_has_ring : Fn := { name := "_law_has_ring", np := 2, vars := ["_law_rows", "_law_held", "_law_pairs", "_law_left", "_law_turn", "_law_seen", "_law_heir", "_law_other", "_law_heir"], body := (sts [
    .asg 2 (.call 65 (.cons (.nm 0) (.cons (.nm 1) .nil))),
    .asg 3 (.b1 .lrange (.b1 .len (.nm 0))),
    .fors (.one 4) .range (.b1 .len (.nm 0)) (sts [
      .asg 5 (.comp (.nm 7) (.two 6 7) .plain (.nm 2) (.cons (.cmp .inn (.nm 6) (.nm 3)) .nil)),
      .asg 3 (.comp (.nm 8) (.one 8) .plain (.nm 3) (.cons (.cmp .inn (.nm 8) (.nm 5)) .nil))]),
    .ret (.cmp .ne (.nm 3) (.lst .nil))]) }
noncomputable def f_L_last_right : Fn := { name := "_law_last_right", np := 3, vars := ["_law_rows", "_law_found", "_law_thing", "_law_ahead", "_law_envied", "_law_free", "_law_share", "_law_one", "_law_one", "_law_other", "_law_heir"], body := (sts [
    .asg 3 (.comp (.comp (.nm 7) (.one 7) .plain (.nm 6) (.cons (.cmp .ne (.nm 7) (.nm 2)) .nil)) (.one 6) .plain (.nm 1) .nil),
    .asg 4 (.comp (.nm 9) (.two 8 9) .plain (.call 65 (.cons (.nm 0) (.cons (.nm 3) .nil))) .nil),
    .asg 5 (.comp (.nm 10) (.one 10) .range (.b1 .len (.nm 0)) (.cons (.cmp .notin (.nm 10) (.nm 4)) .nil)),
    .ret (.boolop true (.cons (.not (.call 90 (.cons (.nm 0) (.cons (.nm 3) .nil)))) (.cons (.cmp .inn (.nm 2) (.sub (.nm 1) (.sub (.nm 5) (.int 0)))) .nil)))]) }
noncomputable def f_L_walked : Fn := { name := "_law_walked", np := 4, vars := ["_law_rows", "_law_held", "_law_told", "_law_thing", "_law_step", "_law_way", "_law_pairs", "_law_envied", "_law_free", "_law_one", "_law_k", "_law_one", "_law_other", "_law_heir"], body := (sts [
    .ifs (.boolop false (.cons (.not (.isinst (.nm 2) .list)) (.cons (.cmp .eq (.b1 .len (.nm 2)) (.int 0)) (.cons (.cmp .ne (.slice false (.sub (.nm 2) (.neg (.int 1))) (.int 2)) (.tup (.cons (.str "give") (.cons (.nm 3) .nil)))) (.cons (.cmp .ne (.b1 .len (.sub (.nm 2) (.neg (.int 1)))) (.int 3)) .nil))))) (sts [
      .ret .none]) .nil,
    .fors (.one 4) .plain (.slice false (.nm 2) (.neg (.int 1))) (sts [
      .ifs (.boolop false (.cons (.not (.isinst (.nm 4) .tuple)) (.cons (.cmp .ne (.b1 .len (.nm 4)) (.int 2)) (.cons (.cmp .ne (.sub (.nm 4) (.int 0)) (.str "ring")) (.cons (.not (.isinst (.sub (.nm 4) (.int 1)) .tuple)) .nil))))) (sts [
        .ret .none]) .nil,
      .asg 5 (.b1 .list (.sub (.nm 4) (.int 1))),
      .asg 6 (.call 65 (.cons (.nm 0) (.cons (.nm 1) .nil))),
      .ifs (.boolop false (.cons (.cmp .lt (.b1 .len (.nm 5)) (.int 2)) (.cons (.cmp .lt (.b1 .lenset (.nm 5)) (.b1 .len (.nm 5))) (.cons (.not (.b1 .all (.comp (.call 19 (.cons (.nm 9) .nil)) (.one 9) .plain (.nm 5) .nil))) .nil)))) (sts [
        .ret .none]) .nil,
      .ifs (.not (.b1 .all (.comp (.cmp .inn (.tup (.cons (.sub (.nm 5) (.bin .sub (.nm 10) (.int 1))) (.cons (.sub (.nm 5) (.nm 10)) .nil))) (.nm 6)) (.one 10) .range (.b1 .len (.nm 5)) .nil))) (sts [
        .ret .none]) .nil,
      .asg 1 (.call 89 (.cons (.nm 1) (.cons (.nm 5) .nil)))]),
    .asg 7 (.comp (.nm 12) (.two 11 12) .plain (.call 65 (.cons (.nm 0) (.cons (.nm 1) .nil))) .nil),
    .asg 8 (.comp (.nm 13) (.one 13) .range (.b1 .len (.nm 0)) (.cons (.cmp .notin (.nm 13) (.nm 7)) .nil)),
    .ifs (.boolop false (.cons (.not (.isinst (.sub (.nm 2) (.neg (.int 1))) .tuple)) (.cons (.not (.call 19 (.cons (.sub (.sub (.nm 2) (.neg (.int 1))) (.int 2)) .nil))) (.cons (.cmp .ne (.lst (.cons (.sub (.sub (.nm 2) (.neg (.int 1))) (.int 2)) .nil)) (.slice false (.nm 8) (.int 1))) .nil)))) (sts [
      .ret .none]) .nil,
    .ifs (.call 90 (.cons (.nm 0) (.cons (.nm 1) .nil))) (sts [
      .ret .none]) .nil,
    .asg 1 (.call 18 (.cons (.nm 1) .nil)),
    .asgSub (.nm 1) (.sub (.nm 8) (.int 0)) (.b1 .sorted (.bin .add (.sub (.nm 1) (.sub (.nm 8) (.int 0))) (.lst (.cons (.nm 3) .nil)))),
    .ret (.nm 1)]) }
noncomputable def f_L_no_less : Fn := { name := "_law_no_less", np := 3, vars := ["_law_rows", "_law_held", "_law_found", "_law_heir"], body := (sts [
    .fors (.one 3) .range (.b1 .len (.nm 0)) (sts [
      .ifs (.cmp .lt (.call 17 (.cons (.sub (.nm 0) (.nm 3)) (.cons (.sub (.nm 2) (.nm 3)) .nil))) (.call 17 (.cons (.sub (.nm 0) (.nm 3)) (.cons (.sub (.nm 1) (.nm 3)) .nil)))) (sts [
        .ret (.bool false)]) .nil]),
    .ret (.bool true)]) }
noncomputable def f_L_core : Fn := { name := "_law_core", np := 2, vars := ["_law_pairs", "_law_heirs_here", "_law_left", "_law_turn", "_law_seen", "_law_moved", "_law_one", "_law_other", "_law_one", "_law_other", "_law_heir"], body := (sts [
    .asg 2 (.b1 .lrange (.nm 1)),
    .fors (.one 3) .range (.nm 1) (sts [
      .asg 4 (.comp (.nm 7) (.two 6 7) .plain (.nm 0) (.cons (.cmp .inn (.nm 6) (.nm 2)) .nil)),
      .asg 5 (.comp (.nm 8) (.two 8 9) .plain (.nm 0) (.cons (.cmp .inn (.nm 9) (.nm 2)) .nil)),
      .asg 2 (.comp (.nm 10) (.one 10) .plain (.nm 2) (.cons (.boolop true (.cons (.cmp .inn (.nm 10) (.nm 4)) (.cons (.cmp .inn (.nm 10) (.nm 5)) .nil))) .nil))]),
    .ret (.nm 2)]) }
noncomputable def f_L_rings : Fn := { name := "_law_rings", np := 2, vars := ["_law_rows", "_law_held", "_law_pairs", "_law_left", "_law_ways", "_law_found", "_law_turn", "_law_way", "_law_one", "_law_other", "_law_pair", "_law_heir"], body := (sts [
    .asg 2 (.call 65 (.cons (.nm 0) (.cons (.nm 1) .nil))),
    .asg 3 (.call 94 (.cons (.nm 2) (.cons (.b1 .len (.nm 0)) .nil))),
    .asg 2 (.comp (.nm 10) (.one 10) .plain (.nm 2) (.cons (.boolop true (.cons (.cmp .inn (.sub (.nm 10) (.int 0)) (.nm 3)) (.cons (.cmp .inn (.sub (.nm 10) (.int 1)) (.nm 3)) .nil))) .nil)),
    .asg 4 (.comp (.lst (.cons (.nm 11) .nil)) (.one 11) .plain (.nm 3) .nil),
    .asg 5 (.lst .nil),
    .fors (.one 6) .range (.int 60) (sts [
      .ifs (.cmp .eq (.nm 4) (.lst .nil)) (sts [
        .ret (.nm 5)]) .nil,
      .asg 7 (.pop (.nm 4) .nil),
      .fors (.two 8 9) .plain (.nm 2) (sts [
        .ifs (.boolop true (.cons (.cmp .eq (.nm 8) (.sub (.nm 7) (.neg (.int 1)))) (.cons (.cmp .eq (.nm 9) (.sub (.nm 7) (.int 0))) .nil))) (sts [
          .expr (.append (.nm 5) (.nm 7))]) .nil,
        .ifs (.boolop true (.cons (.cmp .eq (.nm 8) (.sub (.nm 7) (.neg (.int 1)))) (.cons (.cmp .gt (.nm 9) (.sub (.nm 7) (.int 0))) (.cons (.cmp .notin (.nm 9) (.nm 7)) .nil)))) (sts [
          .expr (.append (.nm 4) (.bin .add (.nm 7) (.lst (.cons (.nm 9) .nil))))]) .nil])]),
    .ret .none]) }
noncomputable def f_L_settled : Fn := { name := "_law_settled", np := 2, vars := ["_law_rows", "_law_held", "_law_seen", "_law_found", "_law_at_here", "_law_rings_here", "_law_way", "_law_other", "_law_k"], body := (sts [
    .asg 2 (.lst (.cons (.nm 1) .nil)),
    .asg 3 (.lst .nil),
    .asg 4 (.int 0),
    .whiles (.cmp .lt (.nm 4) (.b1 .len (.nm 2))) (sts [
      .asg 5 (.call 95 (.cons (.nm 0) (.cons (.sub (.nm 2) (.nm 4)) .nil))),
      .ifs (.boolop false (.cons (.isc true (.nm 5) .none) (.cons (.cmp .gt (.b1 .len (.nm 2)) (.int 12)) .nil))) (sts [
        .ret .none]) .nil,
      .ifs (.cmp .eq (.nm 5) (.lst .nil)) (sts [
        .expr (.append (.nm 3) (.sub (.nm 2) (.nm 4)))]) .nil,
      .fors (.one 6) .plain (.nm 5) (sts [
        .asg 7 (.call 18 (.cons (.sub (.nm 2) (.nm 4)) .nil)),
        .fors (.one 8) .range (.b1 .len (.nm 6)) (sts [
          .asgSub (.nm 7) (.sub (.nm 6) (.bin .sub (.nm 8) (.int 1))) (.b1 .list (.sub (.sub (.nm 2) (.nm 4)) (.sub (.nm 6) (.nm 8))))]),
        .ifs (.cmp .notin (.nm 7) (.nm 2)) (sts [
          .expr (.append (.nm 2) (.nm 7))]) .nil]),
      .asg 4 (.bin .add (.nm 4) (.int 1))]),
    .ret (.nm 3)]) }
noncomputable def f_L_given : Fn := { name := "_law_given", np := 3, vars := ["_law_rows", "_law_held", "_law_thing", "_law_envied", "_law_heir", "_law_one", "_law_other", "_law_one"], body := (sts [
    .asg 3 (.comp (.nm 6) (.two 5 6) .plain (.call 65 (.cons (.nm 0) (.cons (.nm 1) .nil))) .nil),
    .asg 4 (.sub (.comp (.nm 7) (.one 7) .range (.b1 .len (.nm 0)) (.cons (.cmp .notin (.nm 7) (.nm 3)) .nil)) (.int 0)),
    .asg 1 (.call 18 (.cons (.nm 1) .nil)),
    .asgSub (.nm 1) (.nm 4) (.b1 .sorted (.bin .add (.sub (.nm 1) (.nm 4)) (.lst (.cons (.nm 2) .nil)))),
    .ret (.nm 1)]) }
noncomputable def f_L_fixed : Fn := { name := "_law_fixed", np := 3, vars := ["_law_rows", "_law_held", "_law_things_here", "_law_states", "_law_thing", "_law_fresh", "_law_one", "_law_some", "_law_other", "_law_given_so"], body := (sts [
    .asg 3 (.lst (.cons (.nm 1) .nil)),
    .fors (.one 4) .plain (.nm 2) (sts [
      .asg 5 (.lst .nil),
      .fors (.one 6) .plain (.nm 3) (sts [
        .asg 7 (.call 96 (.cons (.nm 0) (.cons (.nm 6) .nil))),
        .ifs (.isc true (.nm 7) .none) (sts [
          .ret .none]) .nil,
        .fors (.one 8) .plain (.nm 7) (sts [
          .asg 9 (.call 97 (.cons (.nm 0) (.cons (.nm 8) (.cons (.nm 4) .nil)))),
          .ifs (.cmp .notin (.nm 9) (.nm 5)) (sts [
            .expr (.append (.nm 5) (.nm 9))]) .nil])]),
      .asg 3 (.nm 5),
      .ifs (.cmp .gt (.b1 .len (.nm 3)) (.int 4)) (sts [
        .ret .none]) .nil]),
    .ret (.nm 3)]) }
noncomputable def f_L_good_2 : Fn := { name := "_law_good", np := 3, vars := ["_law_rows", "_law_held", "_law_thing", "_law_told", "_law_behind", "_law_found", "_law_things_here", "_law_share", "_law_due", "_law_share", "_law_one"], body := (sts [
    .asg 3 (.call 42 (.cons (.nm 0) (.cons (.nm 1) (.cons (.nm 2) .nil)))),
    .asg 4 (.call 92 (.cons (.nm 0) (.cons (.nm 1) (.cons (.nm 3) (.cons (.nm 2) .nil))))),
    .asg 5 (.call 43 (.cons (.nm 0) (.cons (.nm 1) (.cons (.nm 2) .nil)))),
    .asg 6 (.lst (.cons (.nm 2) .nil)),
    .fors (.one 7) .plain (.nm 1) (sts [
      .asg 6 (.bin .add (.nm 6) (.nm 7))]),
    .ifs (.boolop false (.cons (.isc true (.nm 4) .none) (.cons (.not (.call 88 (.cons (.nm 5) (.cons (.b1 .len (.nm 0)) (.cons (.b1 .sorted (.nm 6)) .nil))))) (.cons (.not (.call 93 (.cons (.nm 0) (.cons (.nm 1) (.cons (.nm 5) .nil))))) .nil)))) (sts [
      .ret (.bool false)]) .nil,
    .ifs (.boolop false (.cons (.boolop true (.cons (.cmp .eq (.b1 .len (.nm 3)) (.int 1)) (.cons (.cmp .ne (.nm 5) (.nm 4)) .nil))) (.cons (.not (.call 93 (.cons (.nm 0) (.cons (.nm 1) (.cons (.nm 4) .nil))))) .nil))) (sts [
      .ret (.bool false)]) .nil,
    .ifs (.cmp .ne (.b1 .sorted (.comp (.comp (.nm 10) (.one 10) .plain (.nm 9) (.cons (.cmp .ne (.nm 10) (.nm 2)) .nil)) (.one 9) .plain (.nm 5) .nil)) (.b1 .sorted (.nm 1))) (sts [
      .ret (.bool false)]) .nil,
    .asg 8 (.call 98 (.cons (.nm 0) (.cons (.nm 1) (.cons (.lst (.cons (.nm 2) .nil)) .nil)))),
    .ifs (.boolop false (.cons (.not (.call 91 (.cons (.nm 0) (.cons (.nm 5) (.cons (.nm 2) .nil))))) (.cons (.boolop true (.cons (.isc false (.nm 8) .none) (.cons (.cmp .notin (.nm 5) (.nm 8)) .nil))) .nil))) (sts [
      .ret (.bool false)]) .nil,
    .expr (.append (.nm 3) (.tup (.cons (.str "ring") (.cons (.tup .nil) .nil)))),
    .fors (.one 7) .plain (.nm 5) (sts [
      .expr (.append (.nm 7) (.neg (.int 1)))]),
    .ret (.boolop false (.cons (.not (.call 76 (.cons (.nm 0) (.cons (.nm 1) .nil)))) (.cons (.boolop true (.cons (.call 76 (.cons (.nm 0) (.cons (.nm 4) .nil))) (.cons (.call 76 (.cons (.nm 0) (.cons (.call 43 (.cons (.nm 0) (.cons (.nm 1) (.cons (.nm 2) .nil)))) .nil))) .nil))) .nil)))]) }
noncomputable def f_law_9 : Fn := { name := "law", np := 1, vars := ["_law_script", "_law_heirs_here", "_law_many", "_law_rows", "_law_held", "_law_thing", "_law_handed", "_law_turn", "_law_row", "_law_heir", "_law_share", "_law_one"], body := (sts [
    .asg 1 (.call 12 (.cons (.call 10 (.cons (.nm 0) (.cons (.int 0) .nil))) .nil)),
    .asg 2 (.bin .add (.int 1) (.call 13 (.cons (.call 10 (.cons (.nm 0) (.cons (.int 1) .nil))) .nil))),
    .ifs (.boolop true (.cons (.cmp .eq (.bin .mod (.call 10 (.cons (.nm 0) (.cons (.int 48) .nil))) (.int 3)) (.int 1)) (.cons (.cmp .gt (.nm 1) (.int 1)) .nil))) (sts [
      .asg 3 (.comp (.bin .add (.nm 8) (.lst (.cons (.bin .mod (.call 10 (.cons (.nm 0) (.cons (.int 52) .nil))) (.int 1000001)) .nil))) (.one 8) .plain (.call 79 (.cons (.nm 0) (.cons (.nm 1) .nil))) .nil),
      .asg 4 (.comp (.lst (.cons (.nm 9) .nil)) (.one 9) .range (.nm 1) .nil),
      .asg 5 (.nm 1)]) (sts [
      .asg 3 (.call 15 (.cons (.nm 0) (.cons (.nm 1) (.cons (.nm 2) .nil)))),
      .asg 4 (.call 16 (.cons (.nm 0) (.cons (.nm 1) (.cons (.nm 2) .nil)))),
      .asg 5 (.bin .mod (.call 10 (.cons (.nm 0) (.cons (.int 53) .nil))) (.nm 2)),
      .asg 4 (.comp (.comp (.nm 11) (.one 11) .plain (.nm 10) (.cons (.cmp .ne (.nm 11) (.nm 5)) .nil)) (.one 10) .plain (.nm 4) .nil)]),
    .asg 6 (.lst (.cons (.call 18 (.cons (.nm 3) .nil)) (.cons (.call 18 (.cons (.nm 4) .nil)) .nil))),
    .fors (.one 7) .range (.int 2) (sts [
      .ifs (.boolop false (.cons (.not (.call 99 (.cons (.sub (.nm 6) (.int 0)) (.cons (.sub (.nm 6) (.int 1)) (.cons (.nm 5) .nil))))) (.cons (.cmp .ne (.nm 6) (.lst (.cons (.nm 3) (.cons (.nm 4) .nil)))) .nil))) (sts [
        .ret (.bool false)]) .nil]),
    .ret (.bool true)]) }
noncomputable def FT : Nat → Option Fn
  | 0 => some f_is_among
  | 1 => some f_is_row
  | 2 => some f_is_table
  | 3 => some f_are_things
  | 4 => some f_are_shares
  | 5 => some f_need_table
  | 6 => some f_need_shares
  | 8 => some f_sum_of
  | 10 => some f_L_at
  | 11 => some f_L_mixed
  | 12 => some f_L_heirs
  | 13 => some f_L_things
  | 14 => some f_L_worth
  | 15 => some f_L_table
  | 16 => some f_L_shares
  | 17 => some f_L_sum
  | 18 => some f_L_copy
  | 19 => some f_L_whole
  | 22 => some f_is_envious
  | 23 => some f_pairs_of
  | 30 => some f_enviers
  | 31 => some f_first_free
  | 32 => some f_parted
  | 33 => some f_ring_among
  | 34 => some f_ring_of
  | 37 => some f_turned_by
  | 40 => some f_need_aside
  | 41 => some f_given
  | 42 => some f_steps
  | 43 => some f_awarded
  | 65 => some f_L_envies
  | 76 => some f_L_borne
  | 79 => some f_L_around
  | 88 => some f_L_parted
  | 89 => some f_L_turned
  | 90 => some f_L_has_ring
  | 91 => some f_L_last_right
  | 92 => some f_L_walked
  | 93 => some f_L_no_less
  | 94 => some f_L_core
  | 95 => some f_L_rings
  | 96 => some f_L_settled
  | 97 => some f_L_given
  | 98 => some f_L_fixed
  | 99 => some f_L_good_2
  | 100 => some f_law_9
  | _ => none

end TD

namespace TD
open PySem PySem.W PyProof.Rows
noncomputable def ids09 : List Nat := [0, 1, 2, 3, 4, 5, 6, 8, 10, 11, 12, 13, 14, 15, 16, 17, 18, 19, 22, 23, 30, 31, 32, 33, 34, 37, 40, 41, 42, 43, 65, 76, 79, 88, 89, 90, 91, 92, 93, 94, 95, 96, 97, 98, 99, 100]
theorem ids_ok : ids09.all (chkRec (viewOf PySem.Challenge.rw_uf020018_09.row.prog) FT ids09) = true := by kernel_rfl
theorem bi_ok : biNames.all (fun x => chkFree (viewOf PySem.Challenge.rw_uf020018_09.row.prog) [] (Str.ofString x)) = true := by kernel_rfl
end TD

namespace TD
open PySem (Str Addr)

noncomputable def GS : List (String × Int) := [("MOST_HEIRS", 8), ("MOST_THINGS", 40), ("MOST_WORTH", 1000000)]
noncomputable abbrev CN (n : Nat) : CallT := callN FT (globOf GS) n

set_option hygiene false in
set_option compiler.extract_closed false in
local macro_rules | `(tactic| walk_at "s") => `(tactic| with_reducible (first
  | refine s_cons ?_ | refine seqQ_next ?_ | refine seqQ_ret ?_ | refine retQ_ret ?_ | refine retQ_next ?_ | refine s_nil ?_ | refine s_ret ?_ | refine s_asg ?_ | refine s_ifs ?_ | refine s_expr ?_ | refine s_fors ?_
  | refine e_pv _ (by with_unfolding_all rfl) ?_ | refine l_pv _ (by with_unfolding_all rfl) ?_
  | refine e_bin ?_ | refine e_negI ?_ | refine e_not ?_ | refine asB_ ?_ | refine e_boolop ?_ | refine bs_cons ?_ | refine bs_nil ?_ | refine e_cmp ?_ | refine e_cmp2 ?_ | refine e_isN ?_ | refine e_call ?_ | refine l_nil ?_ | refine l_cons ?_
  | refine e_b1 ?_ | refine e_isinst ?_ | refine e_append ?_ | refine e_extend ?_ | refine e_pop ?_ | refine e_index ?_ | refine s_asgSub ?_ | refine e_sub ?_ | refine e_slice ?_ | refine e_mm ?_ | refine mmQ_ ?_ | refine e_lst ?_ | refine e_tup ?_ | refine e_comp ?_
  | refine bin_add ?_ | refine bin_sub ?_ | refine bin_mod (by unfold tiny; walk_at "o") ?_ | refine bin_fdiv (by unfold tiny; walk_at "o") ?_
  | refine cmp_lt ?_ | refine cmp_le ?_ | refine cmp_gt ?_ | refine cmp_eqI ?_ | refine cmp_neI ?_
  | refine bsQ_nil ?_ | refine bsQ_and_true ?_ | refine bsQ_and_false ?_ | refine bsQ_or_true ?_ | refine bsQ_or_false ?_ | refine ifQ_true ?_ | refine ifQ_false ?_ | refine plain_none ?_ | refine optQ_t (by with_unfolding_all rfl) ?_ | refine optQ_f (by with_unfolding_all rfl) ?_ | simp only [Bool.not_false, Bool.not_true]))
set_option hygiene false in
set_option compiler.extract_closed false in
local macro_rules | `(tactic| walk_at "ss") => `(tactic| repeat walk_at "s")

theorem lid_of {n : Nat} (h : n < 1000) : n < lid := Nat.lt_of_lt_of_le h (by decide)
theorem rng_lid {n : Int} (h : 0 ≤ n ∧ n ≤ 100) : 0 ≤ n ∧ n < lid := ⟨h.1, by unfold lid; walk_at "o"⟩

section
variable {Q : Val → Mem → Prop} {X : Nat → Mem → Prop} {m : Mem} {n : Nat}

theorem is_among_spec {v lo hi : Int} (h : Q (.bool (decide (lo ≤ v ∧ v ≤ hi))) m) : CN (n + 1) 0 [.int v, .int lo, .int hi] Q X m := by
  (refine call_eq rfl rfl ?_; dsimp only [f_is_among, sts, loc0, List.map, List.replicate, List.cons_append, List.nil_append, List.length, Nat.reduceAdd, Nat.reduceSub])
  walk_at "ss"
  with_reducible refine ifQ_dec (fun q => ?_) (fun q => ?_)
  · walk_at "ss"
    simp at q
    simpa [q] using h
  · walk_at "ss"
    simp at q
    have : ¬ (lo ≤ v ∧ v ≤ hi) := by walk_at "o"
    simpa [this] using h

noncomputable def inW01 (x : Int) : Bool := decide (0 ≤ x ∧ x ≤ 1000000)
theorem is_row_spec {v : Val} {r : List Int} {many : Int} (hv : IsI m v r) (hl : r.length < 1000) (h : ∀ m', Ext m m' → Q (.bool (decide ((r.length : Int) = many) && r.all inW01)) m') : CN (n + 2) 1 [v, .int many] Q X m := by
  (refine call_eq rfl rfl ?_; dsimp only [f_is_row, sts, loc0, List.map, List.replicate, List.cons_append, List.nil_append, List.length, Nat.reduceAdd, Nat.reduceSub])
  walk_at "ss"
  refine isList_ints hv ?_
  walk_at "ss"
  refine len_ints hv (lid_of (by first | assumption | walk_at "o")) ?_
  walk_at "ss"
  with_reducible refine ifQ_dec (fun q => ?_) (fun q => ?_)
  · walk_at "ss"
    simp at q
    have := h m .refl
    simpa [q] using this
  · walk_at "ss"
    simp at q
    refine items_list hv.seq (by unfold lid; simp; walk_at "o") ?_
    refine comp_pure (g := fun x => match x with | .int i => .bool (inW01 i) | _ => .none) rfl (fun x hx P hP => ?_) ?_
    · obtain ⟨i, _, rfl⟩ := List.mem_map.mp hx
      walk_at "ss"
      exact is_among_spec hP
    · refine freshL_ (by unfold lid; simp; walk_at "o") (fun a ha => ?_)
      refine b1_all (bs := r.map inW01) (by rw [IsL.new.lst]; simp) ?_
      walk_at "ss"
      exact Qb (h _ (Ext.set ha)) (by simp [q, List.all_map, Function.comp_def])

noncomputable def rowOk (k : Nat) (r : List Int) : Bool := decide (r.length = k) && r.all inW01
noncomputable def tabOk (t : List (List Int)) : Bool := match t with
  | [] => false
  | r :: _ => decide (t.length ≤ 8) && (decide (r.length ≤ 40) && t.all (rowOk r.length))
theorem is_table_spec {v : Val} {t : List (List Int)} (hv : IsT m v t) (hl : t.length < 1000) (hr : ∀ r ∈ t, r.length < 1000) (h : ∀ m', Ext m m' → Q (.bool (tabOk t)) m') : CN (n + 3) 2 [v] Q X m := by
  (refine call_eq rfl rfl ?_; dsimp only [f_is_table, sts, loc0, List.map, List.replicate, List.cons_append, List.nil_append, List.length, Nat.reduceAdd, Nat.reduceSub])
  walk_at "ss"
  refine isList_ll hv ?_
  walk_at "ss"
  refine len_ll hv (lid_of (by first | assumption | walk_at "o")) ?_
  walk_at "ss"
  have noneg : tabOk t = true → 1 ≤ t.length ∧ t.length ≤ 8 := fun q => by
    cases t with
    | nil => cases q
    | cons r t => simp [tabOk] at q; exact ⟨by simp, by simpa using q.1⟩
  with_reducible refine ifQ_dec (fun q1 => ?_) (fun q1 => ?_)
  rotate_left
  · walk_at "ss"
    exact Qb (h m .refl) (by simp at q1; cases e : tabOk t with | false => rfl | true => have := noneg e; walk_at "o")
  walk_at "ss"
  with_reducible refine ifQ_dec (fun q => ?_) (fun q => ?_)
  · walk_at "ss"
    exact Qb (h m .refl) (by simp at q; cases e : tabOk t with | false => rfl | true => have := noneg e; walk_at "o")
  simp at q q1
  cases t with
  | nil => simp at q1
  | cons r t =>
  have hr0 := hr r (.head _)
  walk_at "ss"
  refine sub_ll hv (by walk_at "o") (x := r) (by simp) (lid_of (by first | assumption | walk_at "o")) fun y hy => ?_
  refine isList_ints hy ?_
  walk_at "ss"
  refine sub_ll hv (by walk_at "o") (x := r) (by simp) (lid_of (by first | assumption | walk_at "o")) fun y hy => ?_
  refine len_ints hy (lid_of (by first | assumption | walk_at "o")) ?_
  walk_at "ss"
  with_reducible refine ifQ_dec (fun q2 => ?_) (fun q2 => ?_)
  · walk_at "ss"
    exact Qb (h m .refl) (by simp at q2; simp [tabOk]; intro _ h1; walk_at "o")
  simp at q2
  walk_at "ss"
  obtain ⟨xs, e1, e2⟩ := hv
  refine items_list e1.seq (by rw [e2.length]; unfold lid; walk_at "o") ?_
  have hv : IsT m v (r :: t) := ⟨xs, e1, e2⟩
  refine comp_inv (fun k acc m' => Ext m m' ∧ acc = ((r :: t).take k).map fun x => .bool (rowOk r.length x)) ⟨.refl, by simp⟩ (fun k x acc m' hx hI P hP => ?_) fun acc m' hI => ?_
  · obtain ⟨E, rfl⟩ := hI
    obtain ⟨z, hz, hxz⟩ := e2.get hx
    refine compF_one ?_
    walk_at "ss"
    refine sub_ll (hv.ext E) (by walk_at "o") (x := r) (by simp) (lid_of (by first | assumption | walk_at "o")) fun y hy => ?_
    refine len_ints hy (lid_of (by first | assumption | walk_at "o")) ?_
    walk_at "ss"
    refine is_row_spec (hxz.ext E) (hr z (List.mem_of_getElem? hz)) fun m2 E2 => ?_
    refine hP _ _ ⟨?_, E.trans E2, ?_⟩
    · exact e1.stands (e1.ext (E.trans E2))
    · rw [List.take_add_one, hz]; simp [rowOk, show ((z.length : Int) = r.length) = (z.length = r.length) by simp only [eq_iff_iff]; walk_at "o"]
  · obtain ⟨E, rfl⟩ := hI
    rw [e2.length, List.take_length]
    refine freshL_ (by unfold lid; simp at hl ⊢; walk_at "o") (fun a ha => ?_)
    refine b1_all (bs := (r :: t).map (rowOk r.length)) (by rw [IsL.new.lst]; simp) ?_
    walk_at "ss"
    exact Qb (h _ (E.trans (Ext.set ha))) (by
      have h1 : (r :: t).length ≤ 8 := by walk_at "o"
      have h2 : r.length ≤ 40 := by walk_at "o"
      simp only [tabOk, List.all_map, Function.comp_def, h1, h2, decide_true, Bool.true_and, id])

theorem are_things_spec {v : Val} {is : List Int} {many : Int} (hv : IsI m v is) (hl : is.length < 1000) (h : ∀ m', Ext m m' → Q (.bool (is.all (fun x => decide (0 ≤ x ∧ x ≤ many - 1)) && decide is.Nodup)) m') : CN (n + 2) 3 [v, .int many] Q X m := by
  (refine call_eq rfl rfl ?_; dsimp only [f_are_things, sts, loc0, List.map, List.replicate, List.cons_append, List.nil_append, List.length, Nat.reduceAdd, Nat.reduceSub])
  walk_at "ss"
  refine isList_ints hv ?_
  walk_at "ss"
  refine items_list hv.seq (by unfold lid; simp; walk_at "o") ?_
  refine comp_pure (g := fun x => match x with | .int i => .bool (decide (0 ≤ i ∧ i ≤ many - 1)) | _ => .none) rfl (fun x hx P hP => ?_) ?_
  · obtain ⟨i, _, rfl⟩ := List.mem_map.mp hx
    walk_at "ss"
    exact is_among_spec hP
  refine freshL_ (by unfold lid; simp; walk_at "o") (fun a ha => ?_)
  refine b1_all (bs := is.map (fun i => decide (0 ≤ i ∧ i ≤ many - 1))) (by rw [IsL.new.lst]; simp) ?_
  walk_at "ss"
  have E : Ext m _ := Ext.set ha (o := AObj.list (List.map (fun x => match x with | .int i => .bool (decide (0 ≤ i ∧ i ≤ many - 1)) | _ => .none) (List.map Val.int is)))
  with_reducible refine ifQ_dec (fun q => ?_) (fun q => ?_)
  · walk_at "ss"
    exact Qb (h _ E) (by simp [List.all_map, Function.comp_def] at q ⊢; obtain ⟨x, h1, h2⟩ := q; intro h3; have := h3 x h1; walk_at "o")
  · walk_at "ss"
    refine b1_lenset (hv.ext E).lst hl fun k hk hn => ?_
    walk_at "ss"
    refine len_ints (hv.ext E) (lid_of (by first | assumption | walk_at "o")) ?_
    walk_at "ss"
    exact Qb (h _ E) (by
      have h1 : (is.all fun i => decide (0 ≤ i ∧ i ≤ many - 1)) = true := by simpa [List.all_map, Function.comp_def] using q
      rw [h1, Bool.true_and]
      by_cases hd : is.Nodup
      · simp [hd, hn.mpr hd]
      · have : ¬ (k : Int) = is.length := fun e => hd (hn.mp (by walk_at "o"))
        simp [hd, this])

theorem sorted_eq {a b : List Int} (hp : a.Perm b) (ha : a.Pairwise (· ≤ ·)) (hb : b.Pairwise (· ≤ ·)) : a = b :=
  hp.eq_of_pairwise (fun x y _ _ h1 h2 => by walk_at "o") ha hb

theorem b1_sorted {v : Val} {is : List Int} (hv : IsI m v is) (hl : is.length < 64) (h : ∀ js : List Int, js.Perm is → js.Pairwise (· ≤ ·) → freshL m (js.map .int) Q) : wpB1 .sorted v Q m := ⟨_, hv.lst, .inl ⟨is, rfl, hl, h⟩⟩
noncomputable def thingsOk (many : Int) (is : List Int) : Bool := is.all (fun x => decide (0 ≤ x ∧ x ≤ many - 1)) && decide is.Nodup
noncomputable def shareOk (many : Int) (is : List Int) : Bool := thingsOk many is && decide (is.Pairwise (· ≤ ·))
theorem are_shares_spec {v : Val} {t : List (List Int)} {heirs many : Int} (hv : IsT m v t) (hl : t.length < 100) (hr : ∀ r ∈ t, r.length < 64) (hf : t.flatten.length < 900)
    (h : ∀ m', Ext m m' → Q (.bool (decide ((t.length : Int) = heirs) && (t.all (shareOk many) && decide t.flatten.Nodup))) m') : CN (n + 3) 4 [v, .int heirs, .int many] Q X m := by
  (refine call_eq rfl rfl ?_; dsimp only [f_are_shares, sts, loc0, List.map, List.replicate, List.cons_append, List.nil_append, List.length, Nat.reduceAdd, Nat.reduceSub])
  walk_at "ss"
  refine isList_ll hv ?_
  walk_at "ss"
  refine len_ll hv (lid_of (by first | assumption | walk_at "o")) ?_
  walk_at "ss"
  with_reducible refine ifQ_dec (fun q => ?_) (fun q => ?_)
  · walk_at "ss"
    simp at q
    exact Qb (h _ .refl) (by simp [q])
  simp at q
  walk_at "ss"
  refine freshL_ (lid_of (by decide)) fun f hf0 => ?_
  walk_at "ss"
  obtain ⟨xs, e1, e2⟩ := hv
  have E0 : Ext m (m.set f (.list [])) := Ext.set hf0
  refine items_list (e1.ext E0).seq (by rw [e2.length]; unfold lid; walk_at "o") ?_
  refine for_inv (fun k l m' => ∃ y, l = [some v, some (.int heirs), some (.int many), some (.ref f), y] ∧ (∃ mr, Ext m mr ∧ mr f = none ∧ m' = mr.set f (.list ((t.take k).flatten.map .int))) ∧ (t.take k).all (shareOk many) = true)
    ⟨none, rfl, ⟨m, .refl, hf0, by simp⟩, by simp⟩ (fun k x l m' hx hI P hP => ?_) fun l m' hI => ?_
  · obtain ⟨y, rfl, ⟨mr, Er, hrf, rfl⟩, hall⟩ := hI
    obtain ⟨z, hz, hxz⟩ := e2.get hx
    refine bodyF_one ?_
    dsimp only [setV]
    have Em : Ext m (mr.set f (.list ((t.take k).flatten.map .int))) := Er.trans (Ext.set hrf)
    have hzt := List.mem_of_getElem? hz
    walk_at "ss"
    refine are_things_spec (hxz.ext Em) (by have := hr z hzt; walk_at "o") fun m2 E2 => ?_
    walk_at "ss"
    have no : shareOk many z = false → (t.all (shareOk many)) = false := fun q => by
      rw [List.all_eq_false]; exact ⟨z, hzt, by simp [q]⟩
    with_reducible refine bsQ_dec (fun q1 => ?_) (fun q1 => ?_)
    rotate_left
    · walk_at "ss"
      with_reducible refine ifQ_t (by simpa using q1) ?_
      walk_at "ss"
      with_reducible refine loopQ_ret ?_
      walk_at "ss"
      exact Qb (h _ (Em.trans E2)) (by
        have hq : (!thingsOk many z) = true := q1
        rw [no (by simp at hq; simp [shareOk, hq])]; simp)
    have hth : thingsOk many z = true := by unfold thingsOk; simpa using q1
    walk_at "ss"
    refine b1_sorted ((hxz.ext Em).ext E2) (hr z hzt) fun js hp hs => ?_
    refine freshL_ (by rw [List.length_map, hp.length_eq]; have := hr z hzt; unfold lid; walk_at "o") fun c hc => ?_
    have E3 := E2.trans (Ext.set hc (o := .list (js.map .int)))
    walk_at "ss"
    refine cmp_neII (a := js) (b := z) IsL.new ((hxz.ext Em).ext E3) ?_
    walk_at "ss"
    with_reducible refine ifQ_dec (fun q2 => ?_) (fun q2 => ?_)
    · walk_at "ss"
      with_reducible refine loopQ_ret ?_
      walk_at "ss"
      exact Qb (h _ (Em.trans E3)) (by
        rw [no (by unfold shareOk; simp at q2; simp; intro _; exact fun hz' => absurd (sorted_eq hp hs hz') q2)]; simp)
    have hjz : js = z := by simpa using q2
    subst hjz
    have hok : shareOk many js = true := by unfold shareOk; rw [hth]; simpa using hs
    walk_at "ss"
    have hmf := E3 f _ set_eq
    refine isL_ hmf ?_
    walk_at "ss"
    obtain ⟨b, rfl, hb⟩ := hxz
    have hb3 := E3 b _ (Em b _ hb)
    have hlen : (List.map Val.int (List.take k t).flatten).length + (List.map Val.int js).length < lid := by
      have h1 : (t.take (k + 1)).flatten.length ≤ t.flatten.length := by
        conv => rhs; rw [← List.take_append_drop (k + 1) t]
        rw [List.flatten_append, List.length_append]; walk_at "o"
      rw [List.take_add_one, hz] at h1
      simp only [Option.toList_some, List.flatten_append, List.length_append, List.flatten_singleton] at h1
      unfold lid; simp only [List.length_map]; walk_at "o"
    refine extQ_ (ne_of hf0 hb) hmf hb3 hlen ?_
    walk_at "ss"
    with_reducible refine loopQ_next (hP _ _ ?_)
    obtain ⟨mr', E4, hrf', e4⟩ := grow_set (L' := .list (List.map Val.int (List.take k t).flatten ++ List.map Val.int js)) hrf E3
    rw [e4]
    have E5 : Ext m (mr'.set f (.list (List.map Val.int (List.take k t).flatten ++ List.map Val.int js))) := (Er.trans E4).trans (Ext.set hrf')
    refine ⟨(e1.ext E0).stands (e1.ext E5), some (.ref b), rfl, ⟨mr', Er.trans E4, hrf', ?_⟩, ?_⟩
    · rw [List.take_add_one, hz]; simp
    · rw [List.take_add_one, hz]; simp only [List.all_append, hall]; simp [hok]
  · obtain ⟨y, rfl, ⟨mr, Er, hrf, rfl⟩, hall⟩ := hI
    rw [e2.length, List.take_length] at hall ⊢
    walk_at "ss"
    refine b1_lenset (is := t.flatten) IsL.new.lst (by walk_at "o") fun k hk hn => ?_
    walk_at "ss"
    refine len_ints (is := t.flatten) IsL.new (lid_of (by first | assumption | walk_at "o")) ?_
    walk_at "ss"
    exact Qb (h _ (Er.trans (Ext.set hrf))) (by
      rw [hall]; simp only [q, decide_true, Bool.true_and]
      by_cases hd : t.flatten.Nodup
      · simp [hd, hn.mpr hd]
      · have : ¬ (k : Int) = t.flatten.length := fun e => hd (hn.mp (by walk_at "o"))
        rw [decide_eq_false this, decide_eq_false hd])

theorem need_table_spec {v : Val} {t : List (List Int)} (hv : IsT m v t) (hl : t.length < 1000) (hr : ∀ r ∈ t, r.length < 1000) (ht : tabOk t = true) (h : ∀ m', Ext m m' → Q .none m') : CN (n + 4) 5 [v] Q X m := by
  (refine call_eq rfl rfl ?_; dsimp only [f_need_table, sts, loc0, List.map, List.replicate, List.cons_append, List.nil_append, List.length, Nat.reduceAdd, Nat.reduceSub])
  walk_at "ss"
  refine is_table_spec hv hl hr fun m' E => ?_
  rw [ht]
  walk_at "ss"
  exact h _ E
theorem need_shares_spec {v w : Val} {t : List (List Int)} {u : List (List Int)} {r : List Int} {t' : List (List Int)} (hv : IsT m v t) (hw : IsT m w u) (et : t = r :: t') (hl : t.length < 1000) (hr : ∀ r ∈ t, r.length < 1000) (ht : tabOk t = true)
    (hl' : u.length < 100) (hr' : ∀ r ∈ u, r.length < 64) (hf : u.flatten.length < 900) (hu : u.length = t.length) (hs : u.all (shareOk r.length) = true) (hn : u.flatten.Nodup) (h : ∀ m', Ext m m' → Q .none m') : CN (n + 5) 6 [v, w] Q X m := by
  (refine call_eq rfl rfl ?_; dsimp only [f_need_shares, sts, loc0, List.map, List.replicate, List.cons_append, List.nil_append, List.length, Nat.reduceAdd, Nat.reduceSub])
  walk_at "ss"
  refine need_table_spec hv hl hr ht fun m' E => ?_
  walk_at "ss"
  refine len_ll (hv.ext E) (lid_of (by first | assumption | walk_at "o")) ?_
  walk_at "ss"
  have hr0 := hr r (by rw [et]; exact .head _)
  refine sub_ll (hv.ext E) (by walk_at "o") (x := r) (by rw [et]; simp) (lid_of (by first | assumption | walk_at "o")) fun y hy => ?_
  walk_at "ss"
  refine len_ints hy (lid_of (by first | assumption | walk_at "o")) ?_
  walk_at "ss"
  refine are_shares_spec (hw.ext E) hl' hr' hf fun m2 E2 => ?_
  rw [hs, hu, decide_eq_true hn, decide_eq_true rfl]
  walk_at "ss"
  refine ifQ_f rfl ?_
  walk_at "ss"
  exact h _ (E.trans E2)
noncomputable def sumAt (r : List Int) (is : List Int) : Int := (is.map fun i => r.getD i.toNat 0).sum
theorem getD_some {r : List Int} {k : Nat} (h : k < r.length) : r[k]? = some (r.getD k 0) := by
  rw [List.getD_eq_getElem?_getD, List.getElem?_eq_getElem h]; rfl
theorem sum_of_spec {v w : Val} {r is : List Int} (hv : IsI m v r) (hw : IsI m w is) (hl : r.length < 1000) (hl' : is.length < 1000) (hr : ∀ x ∈ r, small x) (hi : ∀ i ∈ is, 0 ≤ i ∧ i.toNat < r.length) (h : ∀ m', Ext m m' → Q (.int (sumAt r is)) m') : CN (n + 1) 8 [v, w] Q X m := by
  (refine call_eq rfl rfl ?_; dsimp only [f_sum_of, sts, loc0, List.map, List.replicate, List.cons_append, List.nil_append, List.length, Nat.reduceAdd, Nat.reduceSub])
  walk_at "ss"
  refine items_list hw.seq (by unfold lid; simp; walk_at "o") ?_
  refine comp_pure (g := fun x => match x with | .int i => .int (r.getD i.toNat 0) | _ => .none) rfl (fun x hx P hP => ?_) ?_
  · obtain ⟨i, hi', rfl⟩ := List.mem_map.mp hx
    walk_at "ss"
    exact sub_ints hv (hi i hi').1 (getD_some (hi i hi').2) (lid_of (by first | assumption | walk_at "o")) hP
  refine freshL_ (by unfold lid; simp; walk_at "o") (fun a ha => ?_)
  refine b1_sum (is := is.map fun i => r.getD i.toNat 0) (by rw [IsL.new.lst]; simp) (fun x hx => ?_) (by simp; unfold lid; walk_at "o") ?_
  · obtain ⟨i, hi', rfl⟩ := List.mem_map.mp hx
    exact hr _ (List.mem_of_getElem? (getD_some (hi i hi').2))
  walk_at "ss"
  exact h _ (Ext.set ha)
theorem tabOk_row {t : List (List Int)} (ht : tabOk t = true) : ∃ r t', t = r :: t' ∧ t.length ≤ 8 ∧ r.length ≤ 40 ∧ ∀ x ∈ t, x.length = r.length ∧ ∀ i ∈ x, 0 ≤ i ∧ i ≤ 1000000 := by
  cases t with
  | nil => cases ht
  | cons r t' =>
    simp only [tabOk, Bool.and_eq_true, decide_eq_true_eq, List.all_eq_true] at ht
    refine ⟨r, t', rfl, ht.1, ht.2.1, fun x hx => ?_⟩
    have := ht.2.2 x hx
    simp only [rowOk, Bool.and_eq_true, decide_eq_true_eq, List.all_eq_true, inW01] at this
    exact this
noncomputable def cell (ns : List Int) (k : Nat) : Int := ns.getD k 0
theorem at_spec {ns : List Int} {k : Int} (h0 : 0 ≤ k) (hl : ns.length < 1000) (h : Q (.int (cell ns k.toNat)) m) : CN (n + 1) 10 [.frz (ns.map .int), .int k] Q X m := by
  (refine call_eq rfl rfl ?_; dsimp only [f_L_at, sts, loc0, List.map, List.replicate, List.cons_append, List.nil_append, List.length, Nat.reduceAdd, Nat.reduceSub])
  walk_at "ss"
  refine b1_len (xs := ns.map .int) rfl (by unfold lid; simp; walk_at "o") ?_
  walk_at "ss"
  with_reducible refine ifQ_dec (fun q => ?_) (fun q => ?_)
  · walk_at "ss"
    simp at q
    have hk : k.toNat < ns.length := by walk_at "o"
    refine subW_ (xs := ns.map .int) rfl (place_nat h0 (by simpa using hk)) (x := .int (cell ns k.toNat)) (by rw [List.getElem?_map, getD_some hk]; rfl) (by unfold lid; simp; walk_at "o") ?_
    walk_at "ss"
    exact h
  · walk_at "ss"
    simp at q
    exact Qi h (by unfold cell; rw [List.getD_eq_getElem?_getD, List.getElem?_eq_none (by walk_at "o")]; rfl)
noncomputable def mixed (c k : Int) : Int := ((c + 7919 * k + 17) * 48271).fmod 2147483647
theorem mixed_spec {c k : Int} (h : Q (.int (mixed c k)) m) : CN (n + 1) 11 [.int c, .int k] Q X m := by
  (refine call_eq rfl rfl ?_; dsimp only [f_L_mixed, sts, loc0, List.map, List.replicate, List.cons_append, List.nil_append, List.length, Nat.reduceAdd, Nat.reduceSub])
  walk_at "ss"
  refine bin_mul (.inl (by unfold small; walk_at "o")) ?_
  walk_at "ss"
  refine bin_mul (.inr (by unfold small; walk_at "o")) ?_
  walk_at "ss"
  exact h
noncomputable def heirsOf (c : Int) : Int := if (c.fdiv 5).fmod 8 = 1 then 1 + (c.fdiv 40).fmod 8 else 1 + c.fmod 5
theorem heirsOf_in (c : Int) : 1 ≤ heirsOf c ∧ heirsOf c ≤ 8 := by
  unfold heirsOf
  have h1 := fm (c.fdiv 40) (b := 8) (by decide)
  have h2 := fm c (b := 5) (by decide)
  split <;> walk_at "o"
theorem heirs_spec {c : Int} (h : Q (.int (heirsOf c)) m) : CN (n + 1) 12 [.int c] Q X m := by
  (refine call_eq rfl rfl ?_; dsimp only [f_L_heirs, sts, loc0, List.map, List.replicate, List.cons_append, List.nil_append, List.length, Nat.reduceAdd, Nat.reduceSub])
  walk_at "ss"
  with_reducible refine ifQ_dec (fun q => ?_) (fun q => ?_)
  · walk_at "ss"
    simp at q
    exact Qi h (by unfold heirsOf; rw [if_pos q])
  · walk_at "ss"
    simp at q
    exact Qi h (by unfold heirsOf; rw [if_neg q])
noncomputable def thingsOf (c : Int) : Int := if (c.fdiv 9).fmod 8 = 1 then 9 + (c.fdiv 72).fmod 6 else c.fmod 9
theorem thingsOf_in (c : Int) : 0 ≤ thingsOf c ∧ thingsOf c ≤ 14 := by
  unfold thingsOf
  have h1 := fm (c.fdiv 72) (b := 6) (by decide)
  have h2 := fm c (b := 9) (by decide)
  split <;> walk_at "o"
theorem things_spec {c : Int} (h : Q (.int (thingsOf c)) m) : CN (n + 1) 13 [.int c] Q X m := by
  (refine call_eq rfl rfl ?_; dsimp only [f_L_things, sts, loc0, List.map, List.replicate, List.cons_append, List.nil_append, List.length, Nat.reduceAdd, Nat.reduceSub])
  walk_at "ss"
  with_reducible refine ifQ_dec (fun q => ?_) (fun q => ?_)
  · walk_at "ss"
    simp at q
    exact Qi h (by unfold thingsOf; rw [if_pos q])
  · walk_at "ss"
    simp at q
    exact Qi h (by unfold thingsOf; rw [if_neg q])
noncomputable def worthOf (k mode : Int) : Int := if mode = 0 then k.fmod 1000001 else if mode = 1 then 1000000 - k.fmod 3 else k.fmod (([7, 2, 40] : List Int).getD (mode - 2).toNat 1)
theorem fm_le (k : Int) {b c : Int} (hb : 0 < b) (hc : b ≤ c + 1) : 0 ≤ k.fmod b ∧ k.fmod b ≤ c := ⟨(fm k hb).1, Int.le_of_lt_add_one (Int.lt_of_lt_of_le (fm k hb).2 hc)⟩
theorem worthOf_in (k mode : Int) : 0 ≤ worthOf k mode ∧ worthOf k mode ≤ 1000000 := by
  unfold worthOf
  by_cases h0 : mode = 0
  · rw [if_pos h0]; exact fm_le k (by decide) (by decide)
  · rw [if_neg h0]
    by_cases h1 : mode = 1
    · rw [if_pos h1]
      have h2 := fm_le k (b := 3) (c := 2) (by decide) (by decide)
      walk_at "o"
    · rw [if_neg h1]
      generalize (mode - 2).toNat = j
      match j with
      | 0 => exact fm_le k (b := 7) (by decide) (by decide)
      | 1 => exact fm_le k (b := 2) (by decide) (by decide)
      | 2 => exact fm_le k (b := 40) (by decide) (by decide)
      | j + 3 => exact fm_le k (b := 1) (by decide) (by decide)
theorem worthOf_spec {k mode : Int} (hm : 0 ≤ mode ∧ mode < 5) (h : ∀ m', Ext m m' → Q (.int (worthOf k mode)) m') : CN (n + 1) 14 [.int k, .int mode] Q X m := by
  (refine call_eq rfl rfl ?_; dsimp only [f_L_worth, sts, loc0, List.map, List.replicate, List.cons_append, List.nil_append, List.length, Nat.reduceAdd, Nat.reduceSub])
  walk_at "ss"
  with_reducible refine ifQ_dec (fun q => ?_) (fun q => ?_)
  · walk_at "ss"
    simp at q
    exact Qi (h _ .refl) (by unfold worthOf; rw [if_pos q])
  simp at q
  walk_at "ss"
  with_reducible refine ifQ_dec (fun q1 => ?_) (fun q1 => ?_)
  · walk_at "ss"
    simp at q1
    exact Qi (h _ .refl) (by unfold worthOf; rw [if_neg q, if_pos q1])
  simp at q1
  walk_at "ss"
  refine freshL_ (lid_of (by decide)) fun a ha => ?_
  walk_at "ss"
  have hj : (mode - 2).toNat < 3 := by walk_at "o"
  refine sub_ints (is := [7, 2, 40]) IsL.new (by walk_at "o") (getD_some (r := [7, 2, 40]) (by simpa using hj)) (lid_of (by decide)) ?_
  have hb : ([7, 2, 40] : List Int).getD (mode - 2).toNat 0 = ([7, 2, 40] : List Int).getD (mode - 2).toNat 1 ∧ 0 < ([7, 2, 40] : List Int).getD (mode - 2).toNat 0 ∧ ([7, 2, 40] : List Int).getD (mode - 2).toNat 0 ≤ 40 := by
    generalize (mode - 2).toNat = j at hj
    match j with
    | 0 => simp
    | 1 => simp
    | 2 => simp
    | j + 3 => walk_at "o"
  refine bin_mod ⟨by walk_at "o", by unfold tiny; walk_at "o"⟩ ?_
  walk_at "ss"
  exact Qi (h _ (Ext.set ha)) (by unfold worthOf; rw [if_neg q, if_neg q1, hb.1])

theorem take_succ_map {α β : Type} (f : Nat → β) (N k : Nat) (h : k < N) : ((List.range N).map f).take (k + 1) = ((List.range N).map f).take k ++ [f k] := by
  rw [List.take_add_one, List.getElem?_map, List.getElem?_range h]; rfl
noncomputable def numOf (k : Int) (i j : Nat) : Int := (i : Int) * k + j
noncomputable def entry (ns : List Int) (k : Int) (i j : Nat) : Int := worthOf ((mixed (cell ns (4 + (numOf k i j).fmod 36).toNat) (numOf k i j)).fdiv 3) ((cell ns 2).fmod 5)
noncomputable def rowOf (ns : List Int) (k : Int) (i : Nat) : List Int := (List.range k.toNat).map (entry ns k i)
noncomputable def tabOf (ns : List Int) (h k : Int) : List (List Int) := (List.range h.toNat).map (rowOf ns k)
theorem whole_spec {i : Int} (h : Q (.bool true) m) : CN (n + 1) 19 [.int i] Q X m := by
  (refine call_eq rfl rfl ?_; dsimp only [f_L_whole, sts, loc0, List.map, List.replicate, List.cons_append, List.nil_append, List.length, Nat.reduceAdd, Nat.reduceSub])
  walk_at "ss"
  exact h
theorem sum_spec {v w : Val} {r is : List Int} (hv : IsI m v r) (hw : IsI m w is) (hl : r.length < 1000) (hl' : is.length < 1000) (hi : ∀ i ∈ is, 0 ≤ i ∧ i.toNat < r.length) (h : Q (.int (sumAt r is)) m) : CN (n + 1) 17 [v, w] Q X m := by
  (refine call_eq rfl rfl ?_; dsimp only [f_L_sum, sts, loc0, List.map, List.replicate, List.cons_append, List.nil_append, List.length, Nat.reduceAdd, Nat.reduceSub])
  walk_at "ss"
  refine items_list hw.seq (by unfold lid; simp; walk_at "o") ?_
  dsimp only [setV]
  refine for_inv (fun k l m' => ∃ y, l = [some v, some w, some (.int (sumAt r (is.take k))), y] ∧ m' = m) ⟨none, by simp [sumAt], rfl⟩ (fun k x l m' hx hI P hP => ?_) fun l m' hI => ?_
  · obtain ⟨y, rfl, rfl⟩ := hI
    rw [List.getElem?_map] at hx
    obtain ⟨i, hi', rfl⟩ := Option.map_eq_some_iff.mp hx
    have hii := hi i (List.mem_of_getElem? hi')
    refine bodyF_one ?_
    dsimp only [setV]
    walk_at "ss"
    refine sub_ints hv hii.1 (getD_some hii.2) (lid_of (by first | assumption | walk_at "o")) ?_
    walk_at "ss"
    with_reducible refine loopQ_next (hP _ _ ?_)
    refine ⟨rfl, some (.int i), ?_, rfl⟩
    dsimp only [setV]
    rw [List.take_add_one, hi']
    simp [sumAt]
  · obtain ⟨y, rfl, rfl⟩ := hI
    walk_at "ss"
    rw [List.length_map, List.take_length]
    exact h

theorem set_comm {m : Mem} {a b : Addr} {o o' : AObj} (h : a ≠ b) : (m.set a o).set b o' = (m.set b o').set a o := by
  funext c; unfold Mem.set
  by_cases h1 : c = a
  · subst h1; simp [h]
  · simp [h1]
noncomputable def toOf (ns : List Int) (h : Int) (t : Nat) : Int := ((mixed (cell ns (40 + (t : Int).fmod 8).toNat) t).fdiv 5).fmod (h + 1 - (if (decide ((cell ns 3).fmod 3 = 1)) = true then 1 else 0))
noncomputable def shareOf (ns : List Int) (h : Int) (k j : Nat) : List Int := ((List.range k).filter (fun t => decide (toOf ns h t = j))).map fun (t : Nat) => (t : Int)
noncomputable def sharesOf (ns : List Int) (h k : Int) : List (List Int) := (List.range h.toNat).map (shareOf ns h k.toNat)
theorem shareOf_succ (ns : List Int) (h : Int) (k j : Nat) : shareOf ns h (k + 1) j = shareOf ns h k j ++ (if toOf ns h k = j then [(k : Int)] else []) := by
  unfold shareOf
  rw [List.range_succ, List.filter_append, List.map_append]
  congr 1
  by_cases q : toOf ns h k = j <;> simp [q]
theorem shareOf_len (ns : List Int) (h : Int) (k j : Nat) : (shareOf ns h k j).length ≤ k := by
  unfold shareOf
  rw [List.length_map]
  refine Nat.le_trans (List.length_filter_le _ _) ?_
  simp
theorem erase_map {α β : Type} (f : α → β) : ∀ (l : List α) (i : Nat), (l.map f).eraseIdx i = (l.eraseIdx i).map f
  | [], _ => rfl
  | a :: l, 0 => rfl
  | a :: l, i + 1 => by simp only [List.map_cons, List.eraseIdx_cons_succ, erase_map f l i]
theorem erase_perm {α : Type} : ∀ {l : List α} {i : Nat} (h : i < l.length), (l[i] :: l.eraseIdx i).Perm l
  | a :: l, 0, h => .refl _
  | a :: l, i + 1, h => by
    simp only [List.getElem_cons_succ, List.eraseIdx_cons_succ]
    exact (List.Perm.swap _ _ _).trans (.cons _ (erase_perm (by simpa using h)))
theorem map_refs {bs : List Addr} {i : Nat} {b : Addr} (h : bs[i]? = some b) : (bs.map Val.ref)[i]? = some (.ref b) := by rw [List.getElem?_map, h]; rfl

theorem shares_spec {ns : List Int} {h k : Int} (hl : ns.length < 1000) (hh : 1 ≤ h ∧ h ≤ 100) (hk : 0 ≤ k ∧ k ≤ 100) (hQ : ∀ v m', Ext m m' → IsT m' v (sharesOf ns h k) → Q v m') : CN (n + 2) 16 [.frz (ns.map .int), .int h, .int k] Q X m := by
  (refine call_eq rfl rfl ?_; dsimp only [f_L_shares, sts, loc0, List.map, List.replicate, List.cons_append, List.nil_append, List.length, Nat.reduceAdd, Nat.reduceSub])
  walk_at "ss"
  refine items_range (rng_lid ⟨Int.le_trans (by decide) hh.1, hh.2⟩) ?_
  refine comp_inv (fun i acc m' => ∃ bs : List Addr, acc = bs.map .ref ∧ bs.length = i ∧ bs.Nodup ∧ Ext m m' ∧ ∀ b ∈ bs, m b = none ∧ m' b = some (.list [])) ⟨[], rfl, rfl, by simp, .refl, by simp⟩ (fun i x acc m' hx hI P hP => ?_) fun acc m' hI => ?_
  · obtain ⟨bs, rfl, hbl, hbn, E, hb⟩ := hI
    refine compF_one ?_
    walk_at "ss"
    refine freshL_ (lid_of (by decide)) fun c hc => ?_
    refine hP _ _ ⟨trivial, bs ++ [c], by simp, by simp [hbl], ?_, E.trans (Ext.set hc), fun b hb' => ?_⟩
    · rw [List.nodup_append]
      refine ⟨hbn, by simp, fun x hx y hy => ?_⟩
      simp at hy; subst hy
      exact ne_of hc (hb x hx).2
    · rw [List.mem_append] at hb'
      rcases hb' with q | q
      · exact ⟨(hb b q).1, Ext.set hc b _ (hb b q).2⟩
      · simp at q; subst q
        refine ⟨?_, set_eq⟩
        cases e : m b with
        | none => rfl
        | some o => rw [E b o e] at hc; cases hc
  obtain ⟨bs, rfl, hbl, hbn, E, hb⟩ := hI
  rw [range_len] at hbl
  have hbs : bs.length < 1000 := by rw [hbl]; walk_at "o"
  have hkn : k.toNat < 1000 := by walk_at "o"
  refine freshL_ (by rw [List.length_map]; exact lid_of hbs) fun a ha => ?_
  walk_at "ss"
  dsimp only [setV]
  have hma : m a = none := by
    cases e : m a with
    | none => rfl
    | some o => rw [E a o e] at ha; cases ha
  have hne : ∀ b ∈ bs, b ≠ a := fun b hb' => ne_of ha (hb b hb').2
  refine items_range (rng_lid hk) ?_
  refine for_inv (fun i l m' => ∃ y4 y5, l = [some (.frz (ns.map .int)), some (.int h), some (.int k), some (.ref a), y4, y5, none] ∧ Ext m m' ∧ m' a = some (.list (bs.map .ref)) ∧ ∀ (j : Nat) b, bs[j]? = some b → m' b = some (.list ((shareOf ns h i j).map .int)))
    ⟨none, none, rfl, E.trans (Ext.set ha), set_eq, fun j b hj => ?_⟩ (fun i x l m' hx hI P hP => ?_) fun l m' hI => ?_
  · have := List.mem_of_getElem? hj
    rw [set_ne (hne b this), (hb b this).2]
    rfl
  · obtain ⟨y4, y5, rfl, Em, hma', hsh⟩ := hI
    obtain ⟨hi, rfl⟩ := range_get hx
    refine bodyF_one ?_
    dsimp only [setV]
    walk_at "ss"
    have hf8 := fm (i : Int) (b := 8) (by decide)
    refine at_spec (Int.le_trans (by decide) (Int.add_le_add_left hf8.1 40)) hl ?_
    walk_at "ss"
    refine mixed_spec ?_
    walk_at "ss"
    refine at_spec (by decide) hl ?_
    walk_at "ss"
    refine b1_int ?_
    walk_at "ss"
    have hdiv : 0 < h + 1 - (if (decide ((cell ns 3).fmod 3 = 1)) = true then 1 else 0) := by split <;> walk_at "o"
    dsimp only [setV]
    obtain ⟨j0, hj0⟩ := Int.eq_ofNat_of_zero_le (fm ((mixed (cell ns (40 + (i : Int).fmod 8).toNat) i).fdiv 5) hdiv).1
    have hto : toOf ns h i = j0 := hj0
    clear hdiv hf8
    rw [show ((mixed (cell ns (Int.toNat (40 + (i : Int).fmod 8))) i).fdiv 5).fmod (h + 1 - (if (decide ((cell ns (Int.toNat 3)).fmod 3 = 1)) = true then 1 else 0)) = (j0 : Int) from hj0]
    with_reducible refine ifQ_dec (fun q => ?_) (fun q => ?_)
    · have q := of_decide_eq_true q
      walk_at "ss"
      have hlt : j0 < bs.length := by rw [hbl]; exact Int.lt_toNat.mpr q
      have hget := List.getElem?_eq_getElem hlt
      refine subW_ (xs := bs.map .ref) (IsL.seq ⟨a, rfl, hma'⟩) (place_nat (Int.natCast_nonneg j0) (by rw [List.length_map]; exact hlt)) (map_refs hget) (by rw [List.length_map]; exact lid_of hbs) ?_
      have hmb := hsh _ _ hget
      refine isL_ hmb ?_
      walk_at "ss"
      refine appQ_ hmb (by rw [List.length_map]; exact lid_of (Nat.lt_of_le_of_lt (shareOf_len ns h i j0) (Nat.lt_trans hi hkn))) ?_
      walk_at "ss"
      with_reducible refine loopQ_next (hP _ _ ?_)
      have hbm := List.mem_of_getElem? hget
      refine ⟨trivial, some (.int i), some (.int j0), rfl, ?_, ?_, fun j b' hj => ?_⟩
      · intro c o e
        have : c ≠ bs[j0] := ne_of (hb _ hbm).1 e
        rw [set_ne this]; exact Em c o e
      · rw [set_ne (Ne.symm (hne _ hbm))]; exact hma'
      · rw [shareOf_succ, hto]
        by_cases hjt : j = j0
        · subst hjt
          rw [hget] at hj; cases hj
          rw [set_eq, if_pos rfl, List.map_append]; rfl
        · have hne' : b' ≠ bs[j0] := fun e => by
            subst e
            exact hjt ((List.getElem?_inj (List.getElem?_eq_some_iff.mp hj).1 hbn).mp (hj.trans hget.symm))
          rw [set_ne hne', hsh j b' hj, if_neg (show ¬ ((j0 : Nat) : Int) = (j : Nat) from fun q => hjt (Int.ofNat.inj q).symm), List.append_nil]
    · have q := of_decide_eq_false q
      walk_at "ss"
      with_reducible refine loopQ_next (hP _ _ ?_)
      refine ⟨trivial, some (.int i), some (.int j0), rfl, Em, hma', fun j b' hj => ?_⟩
      have hjl := (List.getElem?_eq_some_iff.mp hj).1
      rw [hbl] at hjl
      rw [hsh j b' hj, shareOf_succ, hto, if_neg (show ¬ ((j0 : Nat) : Int) = (j : Nat) from fun e => q (e ▸ Int.lt_toNat.mp hjl)), List.append_nil]
  · obtain ⟨y4, y5, rfl, Em, hma', hsh⟩ := hI
    walk_at "ss"
    refine hQ _ _ Em ⟨bs.map .ref, ⟨a, rfl, hma'⟩, ?_⟩
    refine All2.of_get (by rw [List.length_map, hbl]; unfold sharesOf; rw [List.length_map, List.length_range]) fun j x r h1 h2 => ?_
    rw [List.getElem?_map] at h1
    obtain ⟨b, hb1, rfl⟩ := Option.map_eq_some_iff.mp h1
    refine ⟨b, rfl, ?_⟩
    rw [hsh j b hb1, range_len]
    unfold sharesOf at h2
    rw [List.getElem?_map] at h2
    obtain ⟨j', hj', rfl⟩ := Option.map_eq_some_iff.mp h2
    obtain ⟨_, rfl⟩ := List.getElem?_eq_some_iff.mp hj'
    simp

theorem ints_range (k : Int) : rangeV k = ((List.range k.toNat).map fun (t : Nat) => (t : Int)).map Val.int := by simp [rangeV]
theorem tabOf_ok (ns : List Int) {h k : Int} (hh : 1 ≤ h ∧ h ≤ 8) (hk : 0 ≤ k ∧ k ≤ 40) : tabOk (tabOf ns h k) = true := by
  have hlen : (tabOf ns h k).length = h.toNat := by simp [tabOf]
  have hrow : ∀ r ∈ tabOf ns h k, r.length = k.toNat ∧ r.all inW01 = true := fun r hr => by
    unfold tabOf at hr
    obtain ⟨i, _, rfl⟩ := List.mem_map.mp hr
    refine ⟨by simp [rowOf], ?_⟩
    simp only [List.all_eq_true, rowOf, List.mem_map]
    rintro x ⟨j, _, rfl⟩
    have := worthOf_in ((mixed (cell ns (4 + (numOf k i j).fmod 36).toNat) (numOf k i j)).fdiv 3) ((cell ns 2).fmod 5)
    simp only [inW01, decide_eq_true_eq]
    exact this
  cases e : tabOf ns h k with
  | nil => rw [e] at hlen; simp at hlen; walk_at "o"
  | cons r t =>
    rw [e] at hlen hrow
    have h0 := hrow r (.head _)
    simp only [tabOk, Bool.and_eq_true, decide_eq_true_eq, List.all_eq_true]
    refine ⟨by walk_at "o", by walk_at "o", fun x hx => ?_⟩
    have := hrow x hx
    simp only [rowOk, Bool.and_eq_true, decide_eq_true_eq]
    exact ⟨by walk_at "o", this.2⟩
theorem rowOf_len (ns : List Int) (k : Int) (i : Nat) : (rowOf ns k i).length = k.toNat := by simp [rowOf]
theorem flatten_len {t : List (List Int)} {c : Nat} (h : ∀ r ∈ t, r.length ≤ c) : t.flatten.length ≤ t.length * c := by
  induction t with
  | nil => simp
  | cons r t ih =>
    have h1 := ih fun x hx => h x (.tail _ hx)
    have h2 := h r (.head _)
    rw [List.flatten_cons, List.length_append, List.length_cons, Nat.succ_mul]; walk_at "o"
theorem sharesOf_ok (ns : List Int) (h k : Int) : (∀ r ∈ sharesOf ns h k, r.length ≤ k.toNat) ∧ (sharesOf ns h k).all (shareOk k) = true ∧ (sharesOf ns h k).flatten.Nodup := by
  have hs : ∀ j : Nat, (shareOf ns h k.toNat j).Pairwise (· < ·) := fun j => by
    unfold shareOf
    rw [List.pairwise_map]
    exact (List.pairwise_lt_range.filter _).imp fun h => by walk_at "o"
  have hm : ∀ (j : Nat) x, x ∈ shareOf ns h k.toNat j → ∃ t : Nat, x = t ∧ t < k.toNat ∧ toOf ns h t = j := fun j x hx => by
    unfold shareOf at hx
    simp only [List.mem_map, List.mem_filter, List.mem_range, decide_eq_true_eq] at hx
    obtain ⟨t, ⟨h1, h2⟩, rfl⟩ := hx
    exact ⟨t, rfl, h1, h2⟩
  refine ⟨fun r hr => ?_, ?_, ?_⟩
  · obtain ⟨j, _, rfl⟩ := List.mem_map.mp hr
    exact shareOf_len ns h _ j
  · rw [List.all_eq_true]
    intro r hr
    obtain ⟨j, _, rfl⟩ := List.mem_map.mp hr
    simp only [shareOk, thingsOk, Bool.and_eq_true, List.all_eq_true, decide_eq_true_eq]
    refine ⟨⟨fun x hx => ?_, ?_⟩, (hs j).imp fun h => by walk_at "o"⟩
    · obtain ⟨t, rfl, h1, _⟩ := hm j x hx
      walk_at "o"
    · exact (hs j).imp fun h => by walk_at "o"
  · rw [List.nodup_iff_pairwise_ne, List.pairwise_flatten]
    refine ⟨fun l hl => ?_, ?_⟩
    · obtain ⟨j, _, rfl⟩ := List.mem_map.mp hl
      exact (hs j).imp fun h => by walk_at "o"
    · unfold sharesOf
      rw [List.pairwise_map]
      refine List.nodup_range.imp fun hne x hx y hy e => ?_
      subst e
      obtain ⟨t, rfl, _, h1⟩ := hm _ _ hx
      obtain ⟨t', e', _, h2⟩ := hm _ _ hy
      have : t = t' := by walk_at "o"
      subst this
      walk_at "o"

end

noncomputable def At (m : Mem) (f : Addr) (L : List Val) (m' : Mem) : Prop := ∃ mr, Ext m mr ∧ mr f = none ∧ m' = mr.set f (.list L)
theorem At.start {m : Mem} {f : Addr} {L : List Val} (h : m f = none) : At m f L (m.set f (.list L)) := ⟨m, .refl, h, rfl⟩
theorem At.get {m m' : Mem} {f : Addr} {L : List Val} (h : At m f L m') : m' f = some (.list L) := by
  obtain ⟨mr, _, _, rfl⟩ := h; exact set_eq
theorem At.ext {m m' : Mem} {f : Addr} {L : List Val} (h : At m f L m') : Ext m m' := by
  obtain ⟨mr, E, e, rfl⟩ := h; exact E.trans (Ext.set e)
theorem At.grow {m m' m'' : Mem} {f : Addr} {L : List Val} (h : At m f L m') (E : Ext m' m'') : At m f L m'' := by
  obtain ⟨mr, E0, e, rfl⟩ := h
  exact ⟨m''.del f, E0.trans (Ext.del e E), del_eq, Ext.del_back (m := m) (E f _ set_eq)⟩
theorem At.put {m m' : Mem} {f : Addr} {L L' : List Val} (h : At m f L m') : At m f L' (m'.set f (.list L')) := by
  obtain ⟨mr, E0, e, rfl⟩ := h
  exact ⟨mr, E0, e, set_set⟩

structure Ok (t u : List (List Int)) (k : Nat) : Prop where
  tab : tabOk t = true
  row : ∀ r ∈ t, r.length = k
  k40 : k ≤ 40
  len : u.length = t.length
  fit : ∀ s ∈ u, s.length ≤ k
  sh : u.all (shareOk k) = true
  nd : u.flatten.Nodup
noncomputable def sm (t u : List (List Int)) (i j : Nat) : Int := sumAt (t.getD i []) (u.getD j [])
theorem getDL {t : List (List Int)} {i : Nat} (h : i < t.length) : t[i]? = some (t.getD i []) := by rw [List.getD_eq_getElem?_getD, List.getElem?_eq_getElem h]; rfl
theorem getDL_mem {t : List (List Int)} {i : Nat} (h : i < t.length) : t.getD i [] ∈ t := List.mem_of_getElem? (getDL h)
section ok
variable {t u : List (List Int)} {k : Nat}
theorem Ok.t8 (O : Ok t u k) : t.length ≤ 8 := by obtain ⟨r, t', _, h, _⟩ := tabOk_row O.tab; exact h
theorem Ok.tl (O : Ok t u k) : t.length < 1000 := Nat.lt_of_le_of_lt O.t8 (by decide)
theorem Ok.ul (O : Ok t u k) : u.length < 1000 := O.len ▸ O.tl
theorem Ok.worth (O : Ok t u k) {r : List Int} (hr : r ∈ t) : ∀ x ∈ r, 0 ≤ x ∧ x ≤ 1000000 := by obtain ⟨r0, t', _, _, _, h⟩ := tabOk_row O.tab; exact (h r hr).2
theorem Ok.rl (O : Ok t u k) {r : List Int} (hr : r ∈ t) : r.length < 1000 := by rw [O.row r hr]; exact Nat.lt_of_le_of_lt O.k40 (by decide)
theorem Ok.share (O : Ok t u k) {s : List Int} (hs : s ∈ u) : shareOk k s = true := List.all_eq_true.mp O.sh s hs
theorem Ok.thing (O : Ok t u k) {s : List Int} (hs : s ∈ u) : ∀ x ∈ s, 0 ≤ x ∧ x.toNat < k := fun x hx => by
  have h := O.share hs
  simp only [shareOk, thingsOk, Bool.and_eq_true, List.all_eq_true, decide_eq_true_eq] at h
  have := h.1.1 x hx
  walk_at "o"
theorem Ok.nodup (O : Ok t u k) {s : List Int} (hs : s ∈ u) : s.Nodup := by
  have h := O.share hs
  simp only [shareOk, thingsOk, Bool.and_eq_true, List.all_eq_true, decide_eq_true_eq] at h
  exact h.1.2
theorem Ok.sl (O : Ok t u k) {s : List Int} (hs : s ∈ u) : s.length < 64 := Nat.lt_of_le_of_lt (Nat.le_trans (O.fit s hs) O.k40) (by decide)
theorem Ok.sm0 (O : Ok t u k) {i : Nat} (hi : i < t.length) {is : List Int} (h : ∀ x ∈ is, x.toNat < k) : 0 ≤ sumAt (t.getD i []) is := by
  unfold sumAt
  have hr := getDL_mem hi
  induction is with
  | nil => exact Int.le_refl _
  | cons a is ih =>
    rw [List.map_cons, List.sum_cons]
    have h1 := (O.worth hr _ (List.mem_of_getElem? (getD_some (by rw [O.row _ hr]; exact h a (.head _))))).1
    have h2 := ih fun x hx => h x (.tail _ hx)
    walk_at "o"
end ok
theorem small_of {x : Int} (h : 0 ≤ x ∧ x ≤ 1000000) : small x := ⟨by have := h.1; walk_at "o", by have := h.2; walk_at "o"⟩
theorem nn (i : Nat) : (0 : Int) ≤ (i : Int) := Int.natCast_nonneg i

section
variable {Q : Val → Mem → Prop} {X : Nat → Mem → Prop} {m : Mem} {n : Nat} {t u : List (List Int)} {k : Nat} {v w : Val}

theorem sum_ok (O : Ok t u k) {i : Nat} (hi : i < t.length) {y z : Val} {is : List Int} (hy : IsI m y (t.getD i [])) (hz : IsI m z is) (hl : is.length < 1000) (h : ∀ x ∈ is, 0 ≤ x ∧ x.toNat < k) (hq : ∀ m', Ext m m' → Q (.int (sumAt (t.getD i []) is)) m') : CN (n + 1) 8 [y, z] Q X m :=
  sum_of_spec hy hz (O.rl (getDL_mem hi)) hl (fun x hx => small_of (O.worth (getDL_mem hi) x hx)) (fun x hx => by rw [O.row _ (getDL_mem hi)]; exact h x hx) hq
theorem lsum_ok (O : Ok t u k) {i : Nat} (hi : i < t.length) {y z : Val} {is : List Int} (hy : IsI m y (t.getD i [])) (hz : IsI m z is) (hl : is.length < 1000) (h : ∀ x ∈ is, 0 ≤ x ∧ x.toNat < k) (hq : Q (.int (sumAt (t.getD i []) is)) m) : CN (n + 1) 17 [y, z] Q X m :=
  sum_spec hy hz (O.rl (getDL_mem hi)) hl (fun x hx => by rw [O.row _ (getDL_mem hi)]; exact h x hx) hq
theorem sl1 {n : Nat} (h : n < 64) : n < 1000 := Nat.lt_trans h (by decide)
theorem row_at (O : Ok t u k) (hv : IsT m v t) {i : Nat} (hi : i < t.length) (h : ∀ y, IsI m y (t.getD i []) → Q y m) : subW v (.int i) Q m := sub_ll hv (nn i) (getDL hi) (lid_of O.tl) h
theorem share_at (O : Ok t u k) (hw : IsT m w u) {i : Nat} (hi : i < t.length) (h : ∀ y, IsI m y (u.getD i []) → Q y m) : subW w (.int i) Q m := sub_ll hw (nn i) (getDL (O.len ▸ hi)) (lid_of O.ul) h

theorem envious_spec (O : Ok t u k) (hv : IsT m v t) (hw : IsT m w u) {i j : Nat} (hi : i < t.length) (hj : j < t.length) (h : ∀ m', Ext m m' → Q (.bool (decide (sm t u i j > sm t u i i))) m') : CN (n + 2) 22 [v, w, .int i, .int j] Q X m := by
  (refine call_eq rfl rfl ?_; dsimp only [f_is_envious, sts, loc0, List.map, List.replicate, List.cons_append, List.nil_append, List.length, Nat.reduceAdd, Nat.reduceSub])
  walk_at "ss"
  refine row_at O hv hi fun y hy => ?_
  walk_at "ss"
  refine share_at O hw hj fun z hz => ?_
  walk_at "ss"
  have hmj := getDL_mem (O.len.symm ▸ hj)
  have hmi := getDL_mem (O.len.symm ▸ hi)
  refine sum_ok O hi hy hz (sl1 (O.sl hmj)) (O.thing hmj) fun m2 E2 => ?_
  walk_at "ss"
  refine row_at O (hv.ext E2) hi fun y hy => ?_
  walk_at "ss"
  refine share_at O (hw.ext E2) hi fun z hz => ?_
  walk_at "ss"
  refine sum_ok O hi hy hz (sl1 (O.sl hmi)) (O.thing hmi) fun m3 E3 => ?_
  walk_at "ss"
  exact h _ (E2.trans E3)

noncomputable def tupV (p : Nat × Nat) : Val := .tup [.int p.1, .int p.2]
noncomputable def rowPairs (t u : List (List Int)) (i N : Nat) : List (Nat × Nat) := ((List.range N).filter fun j => decide (sm t u i j > sm t u i i)).map fun j => (i, j)
noncomputable def pairsTo (t u : List (List Int)) (N : Nat) : List (Nat × Nat) := (List.range N).flatMap fun i => rowPairs t u i t.length
noncomputable def pairs (t u : List (List Int)) : List (Nat × Nat) := pairsTo t u t.length
theorem rowPairs_succ (i N : Nat) : rowPairs t u i (N + 1) = rowPairs t u i N ++ (if sm t u i N > sm t u i i then [(i, N)] else []) := by
  unfold rowPairs
  rw [List.range_succ, List.filter_append, List.map_append]
  congr 1
  by_cases h : sm t u i N > sm t u i i
  · rw [if_pos h]; simp [h]
  · rw [if_neg h]; simp [h]
theorem pairsTo_succ (N : Nat) : pairsTo t u (N + 1) = pairsTo t u N ++ rowPairs t u N t.length := by
  unfold pairsTo
  rw [List.range_succ, List.flatMap_append, List.flatMap_singleton]
theorem rowPairs_len (i N : Nat) : (rowPairs t u i N).length ≤ N := by
  unfold rowPairs
  rw [List.length_map]
  exact Nat.le_trans (List.length_filter_le _ _) (Nat.le_of_eq List.length_range)
theorem pairsTo_len (N : Nat) : (pairsTo t u N).length ≤ N * t.length := by
  induction N with
  | zero => exact Nat.zero_le _
  | succ N ih =>
    rw [pairsTo_succ, List.length_append, Nat.succ_mul]
    exact Nat.add_le_add ih (rowPairs_len _ _)
theorem mem_pairs {p : Nat × Nat} : p ∈ pairs t u ↔ p.1 < t.length ∧ p.2 < t.length ∧ sm t u p.1 p.2 > sm t u p.1 p.1 := by
  obtain ⟨i, j⟩ := p
  unfold pairs pairsTo rowPairs
  simp only [List.mem_flatMap, List.mem_map, List.mem_filter, List.mem_range, decide_eq_true_eq, Prod.mk.injEq]
  constructor
  · rintro ⟨i', h1, j', ⟨h2, h3⟩, rfl, rfl⟩; exact ⟨h1, h2, h3⟩
  · rintro ⟨h1, h2, h3⟩; exact ⟨i, h1, j, ⟨h2, h3⟩, rfl, rfl⟩
theorem pairs_small (O : Ok t u k) (i j : Nat) (hi : i < t.length) (hj : j ≤ t.length) : ((pairsTo t u i ++ rowPairs t u i j).map tupV).length < lid := by
  have h1 := pairsTo_len (t := t) (u := u) i
  have h2 := rowPairs_len (t := t) (u := u) i j
  have h3 := O.t8
  have h4 : i * t.length ≤ 8 * 8 := Nat.mul_le_mul (by walk_at "o") h3
  rw [List.length_map, List.length_append]
  exact lid_of (by walk_at "o")
theorem rng8 {N : Nat} (h : N ≤ 8) : (0 : Int) ≤ (N : Int) ∧ (N : Int) < lid := rng_lid ⟨nn N, by walk_at "o"⟩

theorem pairs_spec (O : Ok t u k) (hv : IsT m v t) (hw : IsT m w u) (h : ∀ a m', Ext m m' → m a = none → m' a = some (.list ((pairs t u).map tupV)) → Q (.ref a) m') : CN (n + 3) 23 [v, w] Q X m := by
  (refine call_eq rfl rfl ?_; dsimp only [f_pairs_of, sts, loc0, List.map, List.replicate, List.cons_append, List.nil_append, List.length, Nat.reduceAdd, Nat.reduceSub])
  walk_at "ss"
  refine freshL_ (lid_of (by decide)) fun f hf => ?_
  walk_at "ss"
  dsimp only [setV]
  have hv0 := hv.ext (Ext.set (o := .list []) hf)
  refine len_ll hv0 (lid_of O.tl) ?_
  refine items_range (rng8 O.t8) ?_
  refine for_inv (fun i l m' => ∃ y3 y4, l = [some v, some w, some (.ref f), y3, y4] ∧ At m f ((pairsTo t u i).map tupV) m') ⟨none, none, rfl, At.start hf⟩ (fun i x l m' hx hI P hP => ?_) fun l m' hI => ?_
  · obtain ⟨y3, y4, rfl, A⟩ := hI
    obtain ⟨hi, rfl⟩ := range_get hx
    have hi : i < t.length := hi
    refine bodyF_one ?_
    dsimp only [setV]
    walk_at "ss"
    refine len_ll (hv.ext A.ext) (lid_of O.tl) ?_
    refine items_range (rng8 O.t8) ?_
    refine for_inv (fun j l m' => ∃ y4, l = [some v, some w, some (.ref f), some (.int i), y4] ∧ At m f ((pairsTo t u i ++ rowPairs t u i j).map tupV) m') ⟨y4, rfl, by rw [show rowPairs t u i 0 = [] from rfl, List.append_nil]; exact A⟩ (fun j x l m2 hx hI P2 hP2 => ?_) fun l m2 hI => ?_
    · obtain ⟨y4, rfl, A2⟩ := hI
      obtain ⟨hj, rfl⟩ := range_get hx
      have hj : j < t.length := hj
      refine bodyF_one ?_
      dsimp only [setV]
      walk_at "ss"
      refine envious_spec O (hv.ext A2.ext) (hw.ext A2.ext) hi hj fun m3 E3 => ?_
      walk_at "ss"
      have A3 := A2.grow E3
      with_reducible refine ifQ_dec (fun q => ?_) (fun q => ?_)
      · have q := of_decide_eq_true q
        walk_at "ss"
        refine isL_ A3.get ?_
        walk_at "ss"
        refine ⟨lid_of (show 2 < 1000 by decide), ?_⟩
        refine appQ_ A3.get (pairs_small O i j hi (Nat.le_of_lt hj)) ?_
        walk_at "ss"
        with_reducible refine loopQ_next (hP2 _ _ ?_)
        refine ⟨trivial, some (.int j), rfl, ?_⟩
        rw [rowPairs_succ, if_pos q, ← List.append_assoc, List.map_append (l₂ := [(i, j)])]
        exact A3.put
      · have q := of_decide_eq_false q
        walk_at "ss"
        with_reducible refine loopQ_next (hP2 _ _ ?_)
        refine ⟨trivial, some (.int j), rfl, ?_⟩
        rw [rowPairs_succ, if_neg q, List.append_nil]
        exact A3
    · obtain ⟨y4, rfl, A2⟩ := hI
      walk_at "ss"
      with_reducible refine loopQ_next (hP _ _ ?_)
      refine ⟨trivial, some (.int i), y4, rfl, ?_⟩
      rw [pairsTo_succ]
      rw [range_len] at A2
      exact A2
  · obtain ⟨y3, y4, rfl, A⟩ := hI
    walk_at "ss"
    rw [range_len] at A
    exact h _ _ A.ext hf A.get

end

section
variable {C : CallT} {G : String → Option Val} {Q : Val → Mem → Prop} {X : Nat → Mem → Prop} {m : Mem} {n : Nat} {t u : List (List Int)} {k : Nat} {v w : Val} {loc : Loc} {R : Flow → Loc → Mem → Prop} {Y : Nat → Loc → Mem → Prop}

theorem comp_filter {elt ct : Ex} {i : Nat} {xs : List Val} {ok : Mem → Prop} {Q' : List Val → Mem → Prop} {g : Val → Val} {c : Val → Bool} (hok : ok m)
    (hcond : ∀ x ∈ xs, ∀ P : Val → Mem → Prop, P (.bool (c x)) m → wpE C G X ct (setV loc i x) P m) (helt : ∀ x ∈ xs, ∀ P : Val → Mem → Prop, P (g x) m → wpE C G X elt (setV loc i x) P m)
    (h : Q' ((xs.filter c).map g) m) : compLoop (cF C G X elt (.one i) (.cons ct .nil) loc) ok xs [] Q' m := by
  refine comp_inv (fun k acc m' => m' = m ∧ acc = ((xs.take k).filter c).map g) ⟨rfl, by simp⟩ (fun k x acc m' hx hI P hP => ?_) fun acc m' hI => ?_
  · obtain ⟨rfl, rfl⟩ := hI
    have hm := List.mem_of_getElem? hx
    refine Exists.intro _ ⟨rfl, bs_cons (hcond x hm _ (asB_ (bsQ_nil (ifQ_dec (fun e => ?_) fun e => ?_))))⟩
    · refine helt x hm _ (hP _ _ ⟨hok, rfl, ?_⟩)
      rw [List.take_add_one, hx]; simp [e]
    · refine hP _ _ ⟨hok, rfl, ?_⟩
      rw [List.take_add_one, hx]; simp [e]
  · obtain ⟨rfl, rfl⟩ := hI
    rw [List.take_length]; exact h
theorem bodyF_two {i j : Nat} {b : Sts} {x y : Val} {P : Flow → Loc → Mem → Prop} (h : wpSs C G b P Y (setV (setV loc i x) j y) m) : bF C G (.two i j) b Y (.tup [x, y]) P loc m := Exists.intro _ ⟨Exists.intro x ⟨y, rfl, rfl⟩, h⟩
theorem b1_min {v : Val} {is : List Int} (e : lst m v = some (is.map .int)) (hne : is ≠ []) (hl : is.length < lid) (h : ∀ M : Int, M ∈ is → (∀ a ∈ is, M ≤ a) → Q (.int M) m) : wpB1 .minL v Q m := Exists.intro is ⟨e, hne, hl, h⟩

theorem Ok.envied (O : Ok t u k) {i j : Nat} (hi : i < t.length) (h : sm t u i j > sm t u i i) : u.getD j [] ≠ [] := fun e => by
  have h0 : sm t u i j = 0 := by unfold sm; rw [e]; rfl
  have h1 : 0 ≤ sm t u i i := O.sm0 hi fun x hx => (O.thing (getDL_mem (O.len.symm ▸ hi)) x hx).2
  walk_at "o"

noncomputable def bornAt (t u : List (List Int)) (i j : Nat) : Prop := ∃ x ∈ u.getD j [], sm t u i j - (t.getD i []).getD x.toNat 0 ≤ sm t u i i
noncomputable def Born (t u : List (List Int)) : Prop := ∀ p ∈ pairs t u, bornAt t u p.1 p.2
theorem Ok.row0 (O : Ok t u k) : ∃ r t', t = r :: t' ∧ r.length = k := by
  obtain ⟨r, t', e, _⟩ := tabOk_row O.tab
  exact ⟨r, t', e, O.row r (by rw [e]; exact .head _)⟩
theorem Ok.flat (O : Ok t u k) : u.flatten.length < 900 := by
  have h1 := flatten_len O.fit
  have h2 : u.length * k ≤ 8 * 40 := Nat.mul_le_mul (O.len ▸ O.t8) O.k40
  walk_at "o"
theorem need_ok (O : Ok t u k) (hv : IsT m v t) (hw : IsT m w u) (h : ∀ m', Ext m m' → Q .none m') : CN (n + 5) 6 [v, w] Q X m := by
  obtain ⟨r, t', e, hr⟩ := O.row0
  exact need_shares_spec hv hw e O.tl (fun r hr => O.rl hr) O.tab (Nat.lt_of_le_of_lt (O.len ▸ O.t8) (by decide)) (fun s hs => O.sl hs) O.flat O.len (by rw [hr]; exact O.sh) O.nd h
theorem pairs_lid (O : Ok t u k) : ((pairs t u).map tupV).length < lid := by
  have h1 := pairsTo_len (t := t) (u := u) t.length
  have h4 : t.length * t.length ≤ 8 * 8 := Nat.mul_le_mul O.t8 O.t8
  rw [List.length_map]
  exact lid_of (show (pairsTo t u t.length).length < 1000 by walk_at "o")
theorem take_more {α : Type} {l : List α} {i : Nat} {x : α} {P : α → Prop} (h : ∀ p ∈ l.take i, P p) (hx : l[i]? = some x) (h' : P x) : ∀ p ∈ l.take (i + 1), P p := fun p hp => by
  rw [List.take_add_one, hx] at hp
  rcases List.mem_append.mp hp with q | q
  · exact h p q
  · rcases List.mem_singleton.mp q with rfl; exact h'

end

section
variable {C : CallT} {G : String → Option Val} {Q : Val → Mem → Prop} {X : Nat → Mem → Prop} {m : Mem} {n : Nat} {t u : List (List Int)} {k : Nat} {v w : Val} {loc : Loc} {R : Flow → Loc → Mem → Prop} {Y : Nat → Loc → Mem → Prop}

theorem lsum_at (O : Ok t u k) (hv : IsT m v t) (hw : IsT m w u) {i j : Nat} (hi : i < t.length) (hj : j < t.length) {y z : Val} (hy : IsI m y (t.getD i [])) (hz : IsI m z (u.getD j [])) (h : Q (.int (sm t u i j)) m) : CN (n + 1) 17 [y, z] Q X m :=
  have hmj := getDL_mem (O.len.symm ▸ hj)
  lsum_ok O hi hy hz (sl1 (O.sl hmj)) (O.thing hmj) h

theorem lenvies_spec (O : Ok t u k) (hv : IsT m v t) (hw : IsT m w u) (h : ∀ a m', Ext m m' → m' a = some (.list ((pairs t u).map tupV)) → Q (.ref a) m') : CN (n + 2) 65 [v, w] Q X m := by
  (refine call_eq rfl rfl ?_; dsimp only [f_L_envies, sts, loc0, List.map, List.replicate, List.cons_append, List.nil_append, List.length, Nat.reduceAdd, Nat.reduceSub])
  walk_at "ss"
  refine freshL_ (lid_of (by decide)) fun f hf => ?_
  walk_at "ss"
  dsimp only [setV]
  have hv0 := hv.ext (Ext.set (o := .list []) hf)
  refine len_ll hv0 (lid_of O.tl) ?_
  refine items_range (rng8 O.t8) ?_
  refine for_inv (fun i l m' => ∃ y3 y4, l = [some v, some w, some (.ref f), y3, y4] ∧ At m f ((pairsTo t u i).map tupV) m') ⟨none, none, rfl, At.start hf⟩ (fun i x l m' hx hI P hP => ?_) fun l m' hI => ?_
  · obtain ⟨y3, y4, rfl, A⟩ := hI
    obtain ⟨hi, rfl⟩ := range_get hx
    have hi : i < t.length := hi
    refine bodyF_one ?_
    dsimp only [setV]
    walk_at "ss"
    refine len_ll (hv.ext A.ext) (lid_of O.tl) ?_
    refine items_range (rng8 O.t8) ?_
    refine for_inv (fun j l m' => ∃ y4, l = [some v, some w, some (.ref f), some (.int i), y4] ∧ At m f ((pairsTo t u i ++ rowPairs t u i j).map tupV) m') ⟨y4, rfl, by rw [show rowPairs t u i 0 = [] from rfl, List.append_nil]; exact A⟩ (fun j x l m2 hx hI P2 hP2 => ?_) fun l m2 hI => ?_
    · obtain ⟨y4, rfl, A2⟩ := hI
      obtain ⟨hj, rfl⟩ := range_get hx
      have hj : j < t.length := hj
      have hv2 := hv.ext A2.ext
      have hw2 := hw.ext A2.ext
      refine bodyF_one ?_
      dsimp only [setV]
      walk_at "ss"
      refine row_at O hv2 hi fun y hy => ?_
      walk_at "ss"
      refine share_at O hw2 hj fun z hz => ?_
      walk_at "ss"
      refine lsum_at O hv2 hw2 hi hj hy hz ?_
      walk_at "ss"
      refine row_at O hv2 hi fun y hy => ?_
      walk_at "ss"
      refine share_at O hw2 hi fun z hz => ?_
      walk_at "ss"
      refine lsum_at O hv2 hw2 hi hi hy hz ?_
      walk_at "ss"
      with_reducible refine ifQ_dec (fun q => ?_) (fun q => ?_)
      · have q := of_decide_eq_true q
        walk_at "ss"
        refine isL_ A2.get ?_
        walk_at "ss"
        refine ⟨lid_of (show 2 < 1000 by decide), ?_⟩
        refine appQ_ A2.get (pairs_small O i j hi (Nat.le_of_lt hj)) ?_
        walk_at "ss"
        with_reducible refine loopQ_next (hP2 _ _ ?_)
        refine ⟨trivial, some (.int j), rfl, ?_⟩
        rw [rowPairs_succ, if_pos q, ← List.append_assoc, List.map_append (l₂ := [(i, j)])]
        exact A2.put
      · have q := of_decide_eq_false q
        walk_at "ss"
        with_reducible refine loopQ_next (hP2 _ _ ?_)
        refine ⟨trivial, some (.int j), rfl, ?_⟩
        rw [rowPairs_succ, if_neg q, List.append_nil]
        exact A2
    · obtain ⟨y4, rfl, A2⟩ := hI
      walk_at "ss"
      with_reducible refine loopQ_next (hP _ _ ?_)
      refine ⟨trivial, some (.int i), y4, rfl, ?_⟩
      rw [pairsTo_succ]
      rw [range_len] at A2
      exact A2
  · obtain ⟨y3, y4, rfl, A⟩ := hI
    walk_at "ss"
    rw [range_len] at A
    exact h _ _ A.ext A.get

theorem lborne_spec (O : Ok t u k) (hv : IsT m v t) (hw : IsT m w u) (h : ∀ b m', Ext m m' → (b = true ↔ Born t u) → Q (.bool b) m') : CN (n + 3) 76 [v, w] Q X m := by
  (refine call_eq rfl rfl ?_; dsimp only [f_L_borne, sts, loc0, List.map, List.replicate, List.cons_append, List.nil_append, List.length, Nat.reduceAdd, Nat.reduceSub])
  walk_at "ss"
  refine lenvies_spec O hv hw fun a m2 E2 ha => ?_
  refine items_list (IsL.seq ⟨a, rfl, ha⟩) (pairs_lid O) ?_
  refine for_inv (fun i l m' => ∃ y2 y3 y4, l = [some v, some w, y2, y3, y4, none] ∧ Ext m2 m' ∧ ∀ p ∈ (pairs t u).take i, bornAt t u p.1 p.2) ⟨none, none, none, rfl, .refl, fun p hp => by cases hp⟩ (fun i x l m' hx hI P hP => ?_) fun l m' hI => ?_
  · obtain ⟨y2, y3, y4, rfl, E, hb⟩ := hI
    rw [List.getElem?_map] at hx
    obtain ⟨p, hp, rfl⟩ := Option.map_eq_some_iff.mp hx
    obtain ⟨hi, hj, he⟩ := mem_pairs.mp (List.mem_of_getElem? hp)
    refine bodyF_two ?_
    dsimp only [setV]
    walk_at "ss"
    have E3 := E2.trans E
    have hv3 := hv.ext E3
    have hw3 := hw.ext E3
    have hmj := getDL_mem (O.len.symm ▸ hj)
    refine share_at O hw3 hj fun z hz => ?_
    refine items_list hz.seq (by rw [List.length_map]; exact lid_of (sl1 (O.sl hmj))) ?_
    refine comp_pure (g := fun x => match x with | .int x => .int (sm t u p.1 p.2 - (t.getD p.1 []).getD x.toNat 0) | _ => .none) rfl (fun x hx P hP => ?_) ?_
    · obtain ⟨x, hx', rfl⟩ := List.mem_map.mp hx
      have hxi := O.thing hmj x hx'
      walk_at "ss"
      refine row_at O hv3 hi fun y hy => ?_
      walk_at "ss"
      refine share_at O hw3 hj fun z hz => ?_
      walk_at "ss"
      refine lsum_at O hv3 hw3 hi hj hy hz ?_
      walk_at "ss"
      refine row_at O hv3 hi fun y hy => ?_
      walk_at "ss"
      refine sub_ints hy hxi.1 (getD_some (by rw [O.row _ (getDL_mem hi)]; exact hxi.2)) (lid_of (O.rl (getDL_mem hi))) ?_
      walk_at "ss"
      exact hP
    have hmm : List.map (fun x => match x with | Val.int x => Val.int (sm t u p.1 p.2 - (t.getD p.1 []).getD x.toNat 0) | _ => Val.none) ((u.getD p.2 []).map .int) = ((u.getD p.2 []).map fun x => sm t u p.1 p.2 - (t.getD p.1 []).getD x.toNat 0).map .int := by
      rw [List.map_map, List.map_map]; rfl
    rw [hmm]
    refine freshL_ (by rw [List.length_map, List.length_map]; exact lid_of (sl1 (O.sl hmj))) fun c hc => ?_
    have E4 := E.trans (Ext.set (o := .list (((u.getD p.2 []).map fun x => sm t u p.1 p.2 - (t.getD p.1 []).getD x.toNat 0).map .int)) hc)
    have E5 := E2.trans E4
    walk_at "ss"
    dsimp only [setV]
    refine b1_min IsL.new.lst (fun e => O.envied hi he (List.map_eq_nil_iff.mp e)) (by rw [List.length_map]; exact lid_of (sl1 (O.sl hmj))) fun M hM1 hM2 => ?_
    walk_at "ss"
    refine row_at O (hv.ext E5) hi fun y hy => ?_
    walk_at "ss"
    refine share_at O (hw.ext E5) hi fun z hz => ?_
    walk_at "ss"
    refine lsum_at O (hv.ext E5) (hw.ext E5) hi hi hy hz ?_
    walk_at "ss"
    obtain ⟨x, hx, hxM⟩ := List.mem_map.mp hM1
    with_reducible refine ifQ_dec (fun q => ?_) (fun q => ?_)
    · have q := of_decide_eq_true q
      walk_at "ss"
      refine h _ _ E5 ⟨fun e => Bool.noConfusion e, fun hB => ?_⟩
      obtain ⟨y, hy, hy'⟩ := hB p (List.mem_of_getElem? hp)
      have := hM2 _ (List.mem_map_of_mem hy)
      walk_at "o"
    · have q := of_decide_eq_false q
      walk_at "ss"
      with_reducible refine loopQ_next (hP _ _ ?_)
      refine ⟨(IsL.stands (k := .plain) ⟨a, rfl, ha⟩ ⟨a, rfl, E4 a _ ha⟩), some (.int p.1), some (.int p.2), some (.ref c), rfl, E4, take_more hb hp ⟨x, hx, by walk_at "o"⟩⟩
  · obtain ⟨y2, y3, y4, rfl, E, hb⟩ := hI
    walk_at "ss"
    rw [List.length_map, List.take_length] at hb
    exact h _ _ (E2.trans E) ⟨fun _ => hb, fun _ => rfl⟩
end

section
variable {C : CallT} {G : String → Option Val} {Q : Val → Mem → Prop} {X : Nat → Mem → Prop} {m : Mem} {n : Nat} {t u : List (List Int)} {k : Nat} {v w : Val} {loc : Loc} {R : Flow → Loc → Mem → Prop} {Y : Nat → Loc → Mem → Prop}

theorem none_of {m0 m' : Mem} (E : Ext m0 m') {b : Addr} (h : m' b = none) : m0 b = none := by
  cases e : m0 b with
  | none => rfl
  | some o => rw [E b o e] at h; cases h

end

section
variable {C : CallT} {G : String → Option Val} {Q : Val → Mem → Prop} {X : Nat → Mem → Prop} {m : Mem} {n : Nat} {t u : List (List Int)} {k : Nat} {v w : Val} {loc : Loc} {R : Flow → Loc → Mem → Prop} {Y : Nat → Loc → Mem → Prop}

noncomputable def Own (m0 m : Mem) (v : Val) (t : List (List Int)) : Prop := ∃ (a : Addr) (bs : List Addr), v = .ref a ∧ m a = some (.list (bs.map .ref)) ∧ bs.Nodup ∧ bs.length = t.length ∧ m0 a = none ∧ (∀ b ∈ bs, m0 b = none ∧ b ≠ a) ∧ ∀ (j : Nat) b r, bs[j]? = some b → t[j]? = some r → m b = some (.list (r.map .int))
theorem Own.isT {m0 : Mem} (h : Own m0 m v t) : IsT m v t := by
  obtain ⟨a, bs, rfl, ha, _, hl, _, _, hr⟩ := h
  refine ⟨bs.map .ref, ⟨a, rfl, ha⟩, All2.of_get (by rw [List.length_map]; exact hl) fun j x r h1 h2 => ?_⟩
  rw [List.getElem?_map] at h1
  obtain ⟨b, hb, rfl⟩ := Option.map_eq_some_iff.mp h1
  exact ⟨b, rfl, hr j b r hb h2⟩
theorem Own.ext {m0 m' : Mem} (h : Own m0 m v t) (E : Ext m m') : Own m0 m' v t := by
  obtain ⟨a, bs, rfl, ha, hn, hl, h0, hb, hr⟩ := h
  exact ⟨a, bs, rfl, E a _ ha, hn, hl, h0, hb, fun j b r h1 h2 => E b _ (hr j b r h1 h2)⟩
theorem Own.turn {m0 m1 : Mem} (h1 : Own m0 m1 v t) (E : Ext m1 m) {i : Nat} (hi : i < t.length) (hl : t.length < 1000) : ∃ b, m0 b = none ∧ (∃ o, m1 b = some o) ∧ m b = some (.list ((t.getD i []).map .int)) ∧ (∀ Q : Val → Mem → Prop, Q (.ref b) m → subW v (.int i) Q m) ∧ ∀ r, Own m0 (m.set b (.list (r.map .int))) v (t.set i r) := by
  obtain ⟨a, bs, rfl, ha1, hn, hbl, h0, hb, hr1⟩ := h1
  have ha := E a _ ha1
  have hr : ∀ (j : Nat) b r, bs[j]? = some b → t[j]? = some r → m b = some (.list (r.map .int)) := fun j b r h1 h2 => E b _ (hr1 j b r h1 h2)
  have hib : i < bs.length := hbl.symm ▸ hi
  have hget := List.getElem?_eq_getElem hib
  have hbm := hb _ (List.mem_of_getElem? hget)
  refine ⟨bs[i], hbm.1, ⟨_, hr1 i _ _ hget (getDL hi)⟩, hr i _ _ hget (getDL hi), fun Q hq => ?_, fun r => ⟨a, bs, rfl, by rw [set_ne (Ne.symm hbm.2)]; exact ha, hn, by rw [List.length_set]; exact hbl, h0, hb, fun j b r' h1 h2 => ?_⟩⟩
  · exact subW_ (xs := bs.map .ref) (IsL.seq ⟨a, rfl, ha⟩) (place_nat (nn i) (by rw [List.length_map]; exact hib)) (map_refs hget) (by rw [List.length_map]; exact lid_of (hbl ▸ hl)) hq
  · by_cases hj : j = i
    · subst hj
      rw [hget] at h1; cases h1
      rw [List.getElem?_set_self hi] at h2; cases h2
      exact set_eq
    · have hne : b ≠ bs[i] := fun e => by
        subst e
        exact hj ((List.getElem?_inj (List.getElem?_eq_some_iff.mp h1).1 hn).mp (h1.trans hget.symm))
      rw [List.getElem?_set_ne (Ne.symm hj)] at h2
      rw [set_ne hne]
      exact hr j b r' h1 h2
theorem Own.apart {m0 : Mem} (h : Own m0 m v t) {b : Addr} {o o' : AObj} (hb : m0 b = some o) : Own m0 (m.set b o') v t := by
  obtain ⟨a, bs, rfl, ha, hn, hl, h0, hb', hr⟩ := h
  have ne : ∀ c, m0 c = none → c ≠ b := fun c hc e => by subst e; rw [hc] at hb; cases hb
  exact ⟨a, bs, rfl, by rw [set_ne (ne a h0)]; exact ha, hn, hl, h0, hb', fun j c r h1 h2 => by rw [set_ne (ne c (hb' c (List.mem_of_getElem? h1)).1)]; exact hr j c r h1 h2⟩

theorem copy_own {v : Val} {t : List (List Int)} (hv : IsT m v t) (hl : t.length < 1000) (hr : ∀ r ∈ t, r.length < 1000) (hQ : ∀ v m', Ext m m' → Own m m' v t → Q v m') : CN (n + 1) 18 [v] Q X m := by
  (refine call_eq rfl rfl ?_; dsimp only [f_L_copy, sts, loc0, List.map, List.replicate, List.cons_append, List.nil_append, List.length, Nat.reduceAdd, Nat.reduceSub])
  walk_at "ss"
  obtain ⟨xs, e1, e2⟩ := hv
  refine items_list e1.seq (by rw [e2.length]; exact lid_of hl) ?_
  refine comp_inv (fun k acc m' => Ext m m' ∧ ∃ bs : List Addr, acc = bs.map .ref ∧ bs.length = k ∧ bs.Nodup ∧ ∀ (j : Nat) b, bs[j]? = some b → m b = none ∧ ∀ r, t[j]? = some r → m' b = some (.list (r.map .int))) ⟨.refl, [], rfl, rfl, List.nodup_nil, fun j b h => by cases h⟩ (fun k x acc m' hx hI P hP => ?_) fun acc m' hI => ?_
  · obtain ⟨E, bs, rfl, hbl, hbn, hb⟩ := hI
    obtain ⟨z, hz, hxz⟩ := e2.get hx
    refine compF_one ?_
    walk_at "ss"
    refine b1_list (hxz.ext E).seq (freshL_ (by rw [List.length_map]; exact lid_of (hr z (List.mem_of_getElem? hz))) fun c hc => ?_)
    have E2 := E.trans (Ext.set (o := .list (z.map .int)) hc)
    have hcm := none_of E hc
    have hcb : ∀ (j : Nat) b, bs[j]? = some b → b ≠ c := fun j b h => by
      have hj : j < t.length := by
        have h1 := (List.getElem?_eq_some_iff.mp h).1
        have h2 := (List.getElem?_eq_some_iff.mp hz).1
        walk_at "o"
      exact ne_of hc ((hb j b h).2 _ (List.getElem?_eq_getElem hj))
    refine hP _ _ ⟨e1.stands (e1.ext E2), E2, bs ++ [c], by rw [List.map_append]; rfl, by rw [List.length_append, hbl]; rfl, ?_, fun j b h => ?_⟩
    · rw [List.nodup_append]
      refine ⟨hbn, List.nodup_cons.mpr ⟨by simp, List.nodup_nil⟩, fun x hx y hy => ?_⟩
      rcases List.mem_singleton.mp hy with rfl
      obtain ⟨j, hj⟩ := List.mem_iff_getElem?.mp hx
      exact hcb j x hj
    · by_cases hj : j < bs.length
      · rw [List.getElem?_append_left hj] at h
        exact ⟨(hb j b h).1, fun r hr' => by rw [set_ne (hcb j b h)]; exact (hb j b h).2 r hr'⟩
      · rw [List.getElem?_append_right (Nat.le_of_not_lt hj)] at h
        have h0 : j - bs.length = 0 := by
          have := (List.getElem?_eq_some_iff.mp h).1
          rw [List.length_singleton] at this
          walk_at "o"
        rw [h0] at h
        cases h
        have hjk : j = k := by walk_at "o"
        subst hjk
        refine ⟨hcm, fun r hr' => ?_⟩
        rw [hz] at hr'
        cases hr'
        exact set_eq
  · obtain ⟨E, bs, rfl, hbl, hbn, hb⟩ := hI
    rw [e2.length] at hbl
    refine freshL_ (by rw [List.length_map]; exact lid_of (hbl ▸ hl)) fun a ha => ?_
    walk_at "ss"
    have hne : ∀ b ∈ bs, m b = none ∧ b ≠ a := fun b hb' => by
      obtain ⟨j, hj⟩ := List.mem_iff_getElem?.mp hb'
      have hjt : j < t.length := hbl ▸ (List.getElem?_eq_some_iff.mp hj).1
      exact ⟨(hb j b hj).1, ne_of ha ((hb j b hj).2 _ (List.getElem?_eq_getElem hjt))⟩
    refine hQ _ _ (E.trans (Ext.set ha)) ⟨a, bs, rfl, set_eq, hbn, hbl, none_of E ha, hne, fun j b r h1 h2 => ?_⟩
    rw [set_ne (hne b (List.mem_of_getElem? h1)).2]
    exact (hb j b h1).2 r h2

end

section
variable {C : CallT} {G : String → Option Val} {Q : Val → Mem → Prop} {X : Nat → Mem → Prop} {m : Mem} {n : Nat} {t u : List (List Int)} {k : Nat} {v w : Val} {loc : Loc} {R : Flow → Loc → Mem → Prop} {Y : Nat → Loc → Mem → Prop}

theorem Ext.over {m m' : Mem} {a : Addr} {o : AObj} (E : Ext m m') (h : m a = none) : Ext m (m'.set a o) := fun b o' e => by
  rw [set_ne (ne_of h e)]; exact E b o' e
theorem Ext.less {m m' : Mem} {a : Addr} (E : Ext m m') (h : m a = none) : Ext m (m'.del a) := fun b o' e => by
  rw [del_ne (ne_of h e)]; exact E b o' e
end

section
variable {C : CallT} {G : String → Option Val} {Q : Val → Mem → Prop} {X : Nat → Mem → Prop} {m : Mem} {n : Nat} {t u : List (List Int)} {k : Nat} {v w : Val} {loc : Loc} {R : Flow → Loc → Mem → Prop} {Y : Nat → Loc → Mem → Prop}

noncomputable def dPair (p : Nat × Nat) : Dat := .tup [.int p.1, .int p.2]
theorem tup_reads (v : Val) (p : Nat × Nat) (h : v = tupV p) : Reads m (dPair p) v := by
  subst h
  exact ⟨_, rfl, _, _, rfl, rfl, _, _, rfl, rfl, rfl⟩
theorem pairs_readsL {ps : List (Nat × Nat)} : ReadsL m (ps.map dPair) (ps.map tupV) := by
  refine readsL_of (R := fun v p => v = tupV p) (fun v p h => tup_reads v p h) ?_
  induction ps with
  | nil => exact .nil
  | cons p ps ih => exact .cons rfl ih
theorem beq_pair (a b : Nat × Nat) : Dat.beq (dPair a) (dPair b) = decide (a = b) := by
  obtain ⟨a1, a2⟩ := a
  obtain ⟨b1, b2⟩ := b
  show (((a1 : Int) == b1) && (((a2 : Int) == b2) && true)) = _
  by_cases h1 : a1 = b1
  · subst h1
    by_cases h2 : a2 = b2
    · subst h2; simp
    · rw [decide_eq_false (by rintro ⟨⟩; exact h2 rfl), show ((a2 : Int) == b2) = false from beq_eq_false_iff_ne.mpr fun e => h2 (Int.ofNat.inj e)]; simp
  · rw [decide_eq_false (by rintro ⟨⟩; exact h1 rfl), show ((a1 : Int) == b1) = false from beq_eq_false_iff_ne.mpr fun e => h1 (Int.ofNat.inj e)]; rfl
theorem pairs_lt (O : Ok t u k) : (pairs t u).length < 100 := by
  have h1 := pairsTo_len (t := t) (u := u) t.length
  have h4 : t.length * t.length ≤ 8 * 8 := Nat.mul_le_mul O.t8 O.t8
  show (pairsTo t u t.length).length < 100
  walk_at "o"
theorem isList_ref {a : Addr} {xs : List Val} (ha : m a = some (.list xs)) (h : Q (.bool true) m) : optQ Q m (isA m (.ref a) .list) := optQ_ (IsL.list ⟨a, rfl, ha⟩) h
end

section
variable {Q : Val → Mem → Prop} {X : Nat → Mem → Prop} {m : Mem} {n : Nat} {t u : List (List Int)} {k : Nat} {v w : Val}

noncomputable def Sts.drop : Nat → Sts → Sts
  | 0, s => s
  | n + 1, s => match s with | .nil => .nil | .cons _ r => Sts.drop n r
end

noncomputable def rg (ws : List Nat) (i : Nat) : Nat := ws.getD (i % ws.length) 0
structure Way (ws : List Nat) (N : Nat) : Prop where
  two : 2 ≤ ws.length
  nd : ws.Nodup
  lt : ∀ x ∈ ws, x < N
section ring
variable {ws : List Nat} {N : Nat} {t u f : List (List Int)}
theorem rg_get (W : Way ws N) (i : Nat) : ws[i % ws.length]? = some (rg ws i) := by
  have h : i % ws.length < ws.length := Nat.mod_lt _ (Nat.lt_of_lt_of_le (by decide) W.two)
  unfold rg
  rw [List.getD_eq_getElem?_getD, List.getElem?_eq_getElem h]; rfl
theorem rg_mem (W : Way ws N) (i : Nat) : rg ws i ∈ ws := List.mem_of_getElem? (rg_get W i)
theorem rg_lt (W : Way ws N) (i : Nat) : rg ws i < N := W.lt _ (rg_mem W i)
theorem rg_inj (W : Way ws N) {i j : Nat} (h : rg ws i = rg ws j) : i % ws.length = j % ws.length := by
  have h1 : i % ws.length < ws.length := Nat.mod_lt _ (Nat.lt_of_lt_of_le (by decide) W.two)
  exact (List.getElem?_inj h1 W.nd).mp ((rg_get W i).trans (h ▸ (rg_get W j).symm))
theorem rg_mod (i j : Nat) (h : i % ws.length = j % ws.length) : rg ws i = rg ws j := by unfold rg; rw [h]
theorem rg_of (W : Way ws N) {x : Nat} (h : x ∈ ws) : rg ws (ws.idxOf x) = x ∧ ws.idxOf x < ws.length := by
  have h1 := List.idxOf_lt_length_of_mem h
  have h2 := rg_get W (ws.idxOf x)
  rw [Nat.mod_eq_of_lt h1, List.getElem?_eq_getElem h1] at h2
  exact ⟨(Option.some.inj h2).symm.trans (List.getElem_idxOf h1), h1⟩
theorem rg_next (W : Way ws N) (i : Nat) : rg ws (i + 1) ≠ rg ws i := fun h => by
  have h1 := rg_inj W h
  have h2 := W.two
  have h3 := Nat.mod_lt i (show 0 < ws.length by walk_at "o")
  rw [Nat.add_mod] at h1
  have h4 : 1 % ws.length = 1 := Nat.mod_eq_of_lt h2
  rw [h4] at h1
  by_cases q : i % ws.length + 1 < ws.length
  · rw [Nat.mod_eq_of_lt q] at h1; walk_at "o"
  · have : i % ws.length + 1 = ws.length := by walk_at "o"
    rw [this, Nat.mod_self] at h1; walk_at "o"
theorem rg_all (W : Way ws N) (c i : Nat) : ∃ j, j < ws.length ∧ rg ws (c + j) = rg ws i ∧ (c + j) % ws.length = i % ws.length := by
  have h2 := W.two
  have hp : 0 < ws.length := by walk_at "o"
  have hc := Nat.mod_lt c hp
  refine ⟨(i + (ws.length - c % ws.length)) % ws.length, Nat.mod_lt _ hp, ?_⟩
  have : (c + (i + (ws.length - c % ws.length)) % ws.length) % ws.length = i % ws.length := by
    rw [Nat.add_mod_mod, Nat.add_mod, ← Nat.add_mod (c) , show c + (i + (ws.length - c % ws.length)) = (i + (ws.length * (c / ws.length) + ws.length)) by have := Nat.div_add_mod c ws.length; walk_at "o"]
    rw [← Nat.mul_succ, Nat.add_mul_mod_self_left]
  exact ⟨rg_mod _ _ this, this⟩
theorem getDset {f : List (List Int)} {i j : Nat} {s : List Int} (hi : i < f.length) : (f.set i s).getD j [] = if i = j then s else f.getD j [] := by
  rw [List.getD_eq_getElem?_getD, List.getElem?_set, List.getD_eq_getElem?_getD]
  by_cases h : i = j
  · subst h; rw [if_pos rfl, if_pos rfl, if_pos hi]; rfl
  · rw [if_neg h, if_neg h]

structure Turn (u : List (List Int)) (ws : List Nat) (f : List (List Int)) : Prop where
  len : f.length = u.length
  on : ∀ i, f.getD (rg ws i) [] = u.getD (rg ws (i + 1)) []
  off : ∀ j, j ∉ ws → f.getD j [] = u.getD j []
structure TurnTo (u : List (List Int)) (ws : List Nat) (c k : Nat) (f : List (List Int)) : Prop where
  len : f.length = u.length
  on : ∀ i, i < k → f.getD (rg ws (c + i)) [] = u.getD (rg ws (c + i + 1)) []
  off : ∀ j, (∀ i, i < k → rg ws (c + i) ≠ j) → f.getD j [] = u.getD j []
theorem TurnTo.start (c : Nat) : TurnTo u ws c 0 u := ⟨rfl, fun _ h => absurd h (Nat.not_lt_zero _), fun _ _ => rfl⟩
theorem TurnTo.next (W : Way ws u.length) {c k : Nat} (T : TurnTo u ws c k f) (hk : k < ws.length) : TurnTo u ws c (k + 1) (f.set (rg ws (c + k)) (u.getD (rg ws (c + k + 1)) [])) := by
  have hlt : rg ws (c + k) < f.length := by rw [T.len]; exact rg_lt W _
  refine ⟨by rw [List.length_set]; exact T.len, fun i hi => ?_, fun j hj => ?_⟩
  · rw [getDset hlt]
    by_cases h : rg ws (c + k) = rg ws (c + i)
    · rw [if_pos h]
      have h1 := rg_inj W h
      rw [rg_mod (c + k + 1) (c + i + 1)]
      rw [Nat.add_mod, h1, ← Nat.add_mod]
    · rw [if_neg h]
      exact T.on i (by rcases Nat.lt_or_eq_of_le (Nat.le_of_lt_succ hi) with q | rfl; (· exact q); (· exact absurd rfl h))
  · rw [getDset hlt, if_neg (hj k (Nat.lt_succ_self k))]
    exact T.off j fun i hi => hj i (Nat.lt_succ_of_lt hi)
theorem TurnTo.done (W : Way ws u.length) {c : Nat} (T : TurnTo u ws c ws.length f) : Turn u ws f := by
  refine ⟨T.len, fun i => ?_, fun j hj => T.off j fun i _ e => hj (e ▸ rg_mem W _)⟩
  obtain ⟨j, hj, h1, h2⟩ := rg_all W c i
  rw [← h1, T.on j hj]
  rw [rg_mod (c + j + 1) (i + 1)]
  rw [Nat.add_mod, h2, ← Nat.add_mod]
noncomputable def sg (ws : List Nat) (j : Nat) : Nat := if j ∈ ws then rg ws (ws.idxOf j + 1) else j
theorem Turn.get (W : Way ws u.length) (T : Turn u ws f) (j : Nat) : f.getD j [] = u.getD (sg ws j) [] := by
  unfold sg
  by_cases h : j ∈ ws
  · rw [if_pos h, ← T.on, (rg_of W h).1]
  · rw [if_neg h, T.off j h]
theorem Turn.unique {f' : List (List Int)} (W : Way ws u.length) (T : Turn u ws f) (T' : Turn u ws f') : f = f' := by
  refine List.ext_getElem? fun j => ?_
  by_cases h : j < u.length
  · rw [getDL (T.len.symm ▸ h), getDL (T'.len.symm ▸ h), T.get W, T'.get W]
  · rw [List.getElem?_eq_none (by rw [T.len]; walk_at "o"), List.getElem?_eq_none (by rw [T'.len]; walk_at "o")]
theorem sg_lt (W : Way ws N) {j : Nat} (h : j < N) : sg ws j < N := by
  unfold sg; split
  · exact rg_lt W _
  · exact h
theorem sg_inj (W : Way ws N) {i j : Nat} (h : sg ws i = sg ws j) : i = j := by
  unfold sg at h
  by_cases hi : i ∈ ws
  · rw [if_pos hi] at h
    by_cases hj : j ∈ ws
    · rw [if_pos hj] at h
      have h1 := rg_inj W h
      obtain ⟨e1, l1⟩ := rg_of W hi
      obtain ⟨e2, l2⟩ := rg_of W hj
      rw [← e1, ← e2]
      refine congrArg (rg ws) ?_
      have h2 := W.two
      generalize ws.idxOf i = a at h1 l1
      generalize ws.idxOf j = b at h1 l2
      by_cases qa : a + 1 < ws.length
      · by_cases qb : b + 1 < ws.length
        · rw [Nat.mod_eq_of_lt qa, Nat.mod_eq_of_lt qb] at h1; walk_at "o"
        · rw [Nat.mod_eq_of_lt qa, show b + 1 = ws.length by walk_at "o", Nat.mod_self] at h1; walk_at "o"
      · by_cases qb : b + 1 < ws.length
        · rw [Nat.mod_eq_of_lt qb, show a + 1 = ws.length by walk_at "o", Nat.mod_self] at h1; walk_at "o"
        · walk_at "o"
    · rw [if_neg hj] at h
      exact absurd (h ▸ rg_mem W _) hj
  · rw [if_neg hi] at h
    by_cases hj : j ∈ ws
    · rw [if_pos hj] at h
      exact absurd (h ▸ rg_mem W _) hi
    · rw [if_neg hj] at h
      exact h
theorem sg_onto (W : Way ws N) {j : Nat} (h : j < N) : ∃ i, i < N ∧ sg ws i = j := by
  by_cases hj : j ∈ ws
  · obtain ⟨e1, l1⟩ := rg_of W hj
    have h2 := W.two
    have hm := rg_mem W (ws.idxOf j + (ws.length - 1))
    refine ⟨_, W.lt _ hm, ?_⟩
    unfold sg
    rw [if_pos hm]
    have h3 := rg_inj W (rg_of W hm).1
    conv => rhs; rw [← e1]
    apply rg_mod
    rw [Nat.add_mod, h3, ← Nat.add_mod, show ws.idxOf j + (ws.length - 1) + 1 = ws.idxOf j + ws.length by walk_at "o", Nat.add_mod_right]
  · exact ⟨j, h, by unfold sg; rw [if_neg hj]⟩
theorem sg_perm (W : Way ws N) : ((List.range N).map (sg ws)).Perm (List.range N) := by
  refine (List.perm_ext_iff_of_nodup ?_ List.nodup_range).mpr fun x => ?_
  · rw [List.nodup_iff_pairwise_ne, List.pairwise_map]
    exact List.nodup_range.imp fun h e => h (sg_inj W e)
  · rw [List.mem_map, List.mem_range]
    constructor
    · rintro ⟨i, hi, rfl⟩; exact sg_lt W (List.mem_range.mp hi)
    · intro h; obtain ⟨i, hi, e⟩ := sg_onto W h; exact ⟨i, List.mem_range.mpr hi, e⟩

noncomputable def Envied (t u : List (List Int)) (ws : List Nat) : Prop := ∀ i, sm t u (rg ws i) (rg ws (i + 1)) > sm t u (rg ws i) (rg ws i)
theorem Envied.own (W : Way ws N) (E : Envied t u ws) (i : Nat) : (i ∈ ws → sm t u i (sg ws i) > sm t u i i) ∧ (i ∉ ws → sg ws i = i) := by
  unfold sg
  refine ⟨fun h => ?_, fun h => if_neg h⟩
  rw [if_pos h]
  have := E (ws.idxOf i)
  rw [(rg_of W h).1] at this
  exact this
theorem Turn.sm (W : Way ws u.length) (T : Turn u ws f) (i j : Nat) : TD.sm t f i j = TD.sm t u i (sg ws j) := by unfold TD.sm; rw [T.get W]
theorem rowPairs_cnt (i N : Nat) : (rowPairs t u i N).length = (List.range N).countP fun j => decide (sm t u i j > sm t u i i) := by
  unfold rowPairs
  rw [List.length_map, List.countP_eq_length_filter]
theorem cnt_lt {α : Type} {p q : α → Bool} {l : List α} (h : ∀ x ∈ l, p x = true → q x = true) {x : α} (hx : x ∈ l) (hp : p x = false) (hq : q x = true) : l.countP p < l.countP q := by
  induction l with
  | nil => cases hx
  | cons a l ih =>
    rw [List.countP_cons, List.countP_cons]
    have h1 := List.countP_mono_left fun y hy => h y (.tail _ hy)
    have h2 := h a (.head _)
    rcases List.mem_cons.mp hx with rfl | hx
    · rw [if_neg (by rw [hp]; exact Bool.noConfusion), if_pos hq]; walk_at "o"
    · have h3 := ih (fun y hy => h y (.tail _ hy)) hx
      by_cases qa : p a = true
      · rw [if_pos qa, if_pos (h2 qa)]; walk_at "o"
      · rw [if_neg qa]; walk_at "o"
theorem sum_lt {g g' : Nat → Nat} {l : List Nat} (h : ∀ x ∈ l, g x ≤ g' x) {x : Nat} (hx : x ∈ l) (hlt : g x < g' x) : (l.map g).sum < (l.map g').sum := by
  have le : ∀ {l : List Nat}, (∀ x ∈ l, g x ≤ g' x) → (l.map g).sum ≤ (l.map g').sum := fun {l} => by
    induction l with
    | nil => intro _; exact Nat.le_refl _
    | cons a l ih =>
      intro h
      rw [List.map_cons, List.map_cons, List.sum_cons, List.sum_cons]
      exact Nat.add_le_add (h a (.head _)) (ih fun y hy => h y (.tail _ hy))
  induction l with
  | nil => cases hx
  | cons a l ih =>
    rw [List.map_cons, List.map_cons, List.sum_cons, List.sum_cons]
    rcases List.mem_cons.mp hx with rfl | hx
    · exact Nat.add_lt_add_of_lt_of_le hlt (le fun y hy => h y (.tail _ hy))
    · exact Nat.add_lt_add_of_le_of_lt (h a (.head _)) (ih (fun y hy => h y (.tail _ hy)) hx)
theorem Turn.fewer (W : Way ws u.length) (hl : u.length = t.length) (T : Turn u ws f) (E : Envied t u ws) : (pairs t f).length < (pairs t u).length := by
  unfold pairs pairsTo
  rw [List.length_flatMap, List.length_flatMap]
  have key : ∀ i, (rowPairs t f i t.length).length = (List.range t.length).countP fun j => decide (TD.sm t u i j > TD.sm t u i (sg ws i)) := fun i => by
    rw [rowPairs_cnt]
    have hp : ((List.range t.length).map (sg ws)).Perm (List.range t.length) := hl ▸ sg_perm W
    conv => rhs; rw [← hp.countP_eq, List.countP_map]
    refine List.countP_congr fun j _ => ?_
    rw [T.sm W, T.sm W]; rfl
  have mono : ∀ i, (rowPairs t f i t.length).length ≤ (rowPairs t u i t.length).length := fun i => by
    rw [key, rowPairs_cnt]
    refine List.countP_mono_left fun j _ h => ?_
    have h := of_decide_eq_true h
    refine decide_eq_true (Int.lt_of_le_of_lt ?_ h)
    have := E.own W i
    by_cases hi : i ∈ ws
    · exact Int.le_of_lt (this.1 hi)
    · rw [this.2 hi]; exact Int.le_refl _
  have h0 := rg_lt W 0
  refine sum_lt (fun i _ => mono i) (x := rg ws 0) (List.mem_range.mpr (hl ▸ h0)) ?_
  rw [key, rowPairs_cnt]
  have hs := (E.own W (rg ws 0)).1 (rg_mem W 0)
  refine cnt_lt (x := sg ws (rg ws 0)) (fun j _ h => ?_) (List.mem_range.mpr (hl ▸ sg_lt W h0)) (decide_eq_false (Int.lt_irrefl _)) (decide_eq_true hs)
  exact decide_eq_true (Int.lt_trans hs (of_decide_eq_true h))
end ring

noncomputable def enviersOf (ps : List (Nat × Nat)) (h : Nat) (left : List Nat) : List Nat := (ps.filter fun p => decide (p.2 = h) && decide (p.1 ∈ left)).map (·.1)
structure Rp (ps : List (Nat × Nat)) (N : Nat) : Prop where
  lt : ∀ p ∈ ps, p.1 < N ∧ p.2 < N
  irr : ∀ p ∈ ps, p.1 ≠ p.2
structure Line (ps : List (Nat × Nat)) (N : Nat) (fs : List Nat) : Prop where
  perm : fs.Perm (List.range N)
  pre : ∀ p ∈ ps, fs.idxOf p.1 < fs.idxOf p.2
noncomputable def Core (ps : List (Nat × Nat)) (left : List Nat) : Prop := left ≠ [] ∧ ∀ x ∈ left, ∃ y ∈ left, (y, x) ∈ ps
noncomputable def Around (ps : List (Nat × Nat)) (ws : List Nat) : Prop := ∀ i, (rg ws i, rg ws (i + 1)) ∈ ps
section part
variable {ps : List (Nat × Nat)} {N : Nat} {fs left cs ws : List Nat} {h : Nat}
theorem mem_enviers {x : Nat} : x ∈ enviersOf ps h left ↔ (x, h) ∈ ps ∧ x ∈ left := by
  unfold enviersOf
  simp only [List.mem_map, List.mem_filter, Bool.and_eq_true, decide_eq_true_eq]
  constructor
  · rintro ⟨⟨a, b⟩, ⟨h1, rfl, h2⟩, rfl⟩; exact ⟨h1, h2⟩
  · rintro ⟨h1, h2⟩; exact ⟨(x, h), ⟨h1, rfl, h2⟩, rfl⟩
theorem no_both (L : Line ps N fs) (K : Core ps left) : False := by
  obtain ⟨hne, hK⟩ := K
  have go : ∀ n x, x ∈ left → fs.idxOf x < n → False := fun n => by
    induction n with
    | zero => intro x _ h; exact Nat.not_lt_zero _ h
    | succ n ih =>
      intro x hx h
      obtain ⟨y, hy, hp⟩ := hK x hx
      have h1 : fs.idxOf y < fs.idxOf x := L.pre _ hp
      exact ih y hy (by walk_at "o")
  cases left with
  | nil => exact hne rfl
  | cons x r => exact go _ x (.head _) (Nat.lt_succ_self _)
theorem Around.core (W : Way ws N) (A : Around ps ws) : Core ps ws := by
  refine ⟨(fun e => by have := W.two; rw [e] at this; cases this), fun x hx => ?_⟩
  obtain ⟨e, hl⟩ := rg_of W hx
  obtain ⟨j, _, hj, _⟩ := rg_all W (ws.idxOf x + (ws.length - 1)) (ws.idxOf x + (ws.length - 1))
  have h2 := W.two
  have h := A (ws.idxOf x + (ws.length - 1))
  rw [show ws.idxOf x + (ws.length - 1) + 1 = ws.idxOf x + ws.length by walk_at "o", rg_mod (ws.idxOf x + ws.length) (ws.idxOf x) (Nat.add_mod_right ..), e] at h
  exact ⟨_, rg_mem W _, h⟩
structure PartTo (ps : List (Nat × Nat)) (N : Nat) (fs left : List Nat) : Prop where
  perm : (fs ++ left).Perm (List.range N)
  pre : ∀ p ∈ ps, p.2 ∈ fs → fs.idxOf p.1 < fs.idxOf p.2
theorem PartTo.start : PartTo ps N [] (List.range N) := ⟨List.Perm.refl _, fun _ _ h => by cases h⟩
theorem PartTo.nd (P : PartTo ps N fs left) : (fs ++ left).Nodup := P.perm.nodup_iff.mpr List.nodup_range
theorem PartTo.next (R : Rp ps N) (P : PartTo ps N fs left) (hh : h ∈ left) (he : enviersOf ps h left = []) : PartTo ps N (fs ++ [h]) (left.filter fun x => decide (x ≠ h)) := by
  have hnd := P.nd
  rw [List.nodup_append] at hnd
  have hhf : h ∉ fs := fun q => hnd.2.2 h q h hh rfl
  refine ⟨?_, fun p hp h2 => ?_⟩
  · refine List.Perm.trans ?_ P.perm
    rw [List.append_assoc]
    refine List.Perm.append_left _ ?_
    refine (List.perm_ext_iff_of_nodup ?_ hnd.2.1).mpr fun x => ?_
    · rw [List.singleton_append, List.nodup_cons]
      exact ⟨fun q => by simpa using (List.mem_filter.mp q).2, hnd.2.1.filter _⟩
    · rw [List.singleton_append, List.mem_cons, List.mem_filter, decide_eq_true_eq]
      constructor
      · rintro (rfl | q)
        · exact hh
        · exact q.1
      · intro q
        by_cases e : x = h
        · exact .inl e
        · exact .inr ⟨q, e⟩
  · rcases List.mem_append.mp h2 with q | q
    · have h1 := P.pre p hp q
      have h3 := List.idxOf_lt_length_of_mem q
      have hm : p.1 ∈ fs := List.idxOf_lt_length_iff.mp (Nat.lt_trans h1 h3)
      rw [List.idxOf_append, if_pos hm, List.idxOf_append, if_pos q]
      exact h1
    · have e : p.2 = h := List.mem_singleton.mp q
      have hm : p.1 ∈ fs := by
        rcases List.mem_append.mp (P.perm.mem_iff.mpr (List.mem_range.mpr (R.lt p hp).1)) with q | q
        · exact q
        · have : p.1 ∈ enviersOf ps h left := mem_enviers.mpr ⟨e ▸ hp, q⟩
          rw [he] at this
          cases this
      rw [List.idxOf_append, if_pos hm, e, List.idxOf_append, if_neg hhf]
      exact Nat.lt_of_lt_of_le (List.idxOf_lt_length_of_mem hm) (Nat.le_add_left _ _)
theorem PartTo.line (R : Rp ps N) (P : PartTo ps N fs []) : Line ps N fs := by
  have hp := P.perm
  rw [List.append_nil] at hp
  exact ⟨hp, fun p q => P.pre p q (hp.mem_iff.mpr (List.mem_range.mpr (R.lt p q).2))⟩
theorem filter_len {l : List Nat} {x : Nat} (hn : l.Nodup) (hx : x ∈ l) : (l.filter fun y => decide (y ≠ x)).length + 1 = l.length := by
  induction l with
  | nil => cases hx
  | cons a l ih =>
    rw [List.nodup_cons] at hn
    rw [List.filter_cons]
    by_cases e : a = x
    · subst e
      rw [if_neg (by simp), List.filter_eq_self.mpr fun y hy => by simp; rintro rfl; exact hn.1 hy]
      rfl
    · rw [if_pos (by simpa using e)]
      exact congrArg (· + 1) (ih hn.2 ((List.mem_cons.mp hx).resolve_left fun q => e q.symm))

structure Chain (ps : List (Nat × Nat)) (left cs : List Nat) (h : Nat) : Prop where
  nd : cs.Nodup
  sub : ∀ x ∈ cs, x ∈ left
  ne : cs ≠ []
  link : ∀ i x y, cs[i]? = some x → cs[i + 1]? = some y → (y, x) ∈ ps
  hin : h ∈ left
  last : ∀ x, cs[cs.length - 1]? = some x → (h, x) ∈ ps
theorem Chain.next (K : Chain ps left cs h) (hh : h ∉ cs) {g : Nat} (hg : g ∈ enviersOf ps h left) : Chain ps left (cs ++ [h]) g := by
  have hpos : 0 < cs.length := List.length_pos_iff.mpr K.ne
  obtain ⟨g1, g2⟩ := mem_enviers.mp hg
  refine ⟨?_, fun x hx => ?_, (fun e => by have := congrArg List.length e; rw [List.length_append] at this; cases this), fun i x y h1 h2 => ?_, g2, fun x hx => ?_⟩
  · rw [List.nodup_append]
    refine ⟨K.nd, List.nodup_cons.mpr ⟨by simp, List.nodup_nil⟩, fun x hx y hy e => ?_⟩
    rw [List.mem_singleton.mp hy] at e
    exact hh (e ▸ hx)
  · rcases List.mem_append.mp hx with q | q
    · exact K.sub x q
    · rw [List.mem_singleton.mp q]; exact K.hin
  · have hl : i + 1 < (cs ++ [h]).length := (List.getElem?_eq_some_iff.mp h2).1
    rw [List.length_append, List.length_singleton] at hl
    rw [List.getElem?_append_left (by walk_at "o")] at h1
    by_cases q : i + 1 < cs.length
    · rw [List.getElem?_append_left q] at h2
      exact K.link i x y h1 h2
    · have e : i + 1 = cs.length := by walk_at "o"
      rw [e, List.getElem?_append_right (Nat.le_refl _), Nat.sub_self] at h2
      cases h2
      exact K.last x (by rw [show cs.length - 1 = i by walk_at "o"]; exact h1)
  · rw [List.length_append, List.length_singleton, Nat.add_sub_cancel, List.getElem?_append_right (Nat.le_refl _), Nat.sub_self] at hx
    cases hx
    exact g1
theorem nodup_sub_len {l : List Nat} : ∀ {l' : List Nat}, l.Nodup → (∀ x ∈ l, x ∈ l') → l.length ≤ l'.length := by
  induction l with
  | nil => intro l' _ _; exact Nat.zero_le _
  | cons a l ih =>
    intro l' hn hs
    rw [List.nodup_cons] at hn
    have h1 := ih (l' := l'.erase a) hn.2 fun x hx => (List.mem_erase_of_ne (fun e : x = a => hn.1 (e ▸ hx))).mpr (hs x (.tail _ hx))
    have h2 := List.length_erase_of_mem (hs a (.head _))
    have h3 := List.length_pos_of_mem (hs a (.head _))
    rw [List.length_cons]
    walk_at "o"
theorem Chain.ring (R : Rp ps N) (hl : ∀ x ∈ left, x < N) (K : Chain ps left cs h) (hh : h ∈ cs) : Way (cs.drop (cs.idxOf h)).reverse N ∧ Around ps (cs.drop (cs.idxOf h)).reverse := by
  have hpos : 0 < cs.length := List.length_pos_iff.mpr K.ne
  have ha := List.idxOf_lt_length_of_mem hh
  have hga : cs[cs.idxOf h]? = some h := by rw [List.getElem?_eq_getElem ha, List.getElem_idxOf ha]
  generalize cs.idxOf h = a at ha hga
  have hlast : ∃ z, cs[cs.length - 1]? = some z := ⟨_, List.getElem?_eq_getElem (by walk_at "o")⟩
  obtain ⟨z, hz⟩ := hlast
  have hzp := K.last z hz
  have hane : a ≠ cs.length - 1 := fun e => by
    rw [e, hz] at hga
    exact R.irr _ hzp (Option.some.inj hga).symm
  have hL : (cs.drop a).reverse.length = cs.length - a := by rw [List.length_reverse, List.length_drop]
  have get : ∀ i, i < cs.length - a → (cs.drop a).reverse[i]? = cs[cs.length - 1 - i]? := fun i hi => by
    rw [List.getElem?_reverse (by rw [List.length_drop]; exact hi), List.getElem?_drop, List.length_drop]
    congr 1; walk_at "o"
  have W : Way (cs.drop a).reverse N := by
    refine ⟨by rw [hL]; walk_at "o", ?_, fun x hx => ?_⟩
    · exact (List.reverse_perm _).nodup_iff.mpr (K.nd.sublist (List.drop_sublist a cs))
    · exact hl x (K.sub x (List.mem_of_mem_drop (List.mem_reverse.mp hx)))
  refine ⟨W, fun i => ?_⟩
  have g1 := rg_get W i
  have g2 := rg_get W (i + 1)
  rw [hL] at g1 g2
  have hm := Nat.mod_lt i (show 0 < cs.length - a by walk_at "o")
  by_cases q : i % (cs.length - a) + 1 < cs.length - a
  · have e : (i + 1) % (cs.length - a) = i % (cs.length - a) + 1 := by
      rw [Nat.add_mod, Nat.mod_eq_of_lt (show 1 < cs.length - a by walk_at "o"), Nat.mod_eq_of_lt q]
    rw [e, get _ q] at g2
    rw [get _ hm] at g1
    refine K.link _ _ _ g2 ?_
    rw [show cs.length - 1 - (i % (cs.length - a) + 1) + 1 = cs.length - 1 - i % (cs.length - a) by walk_at "o"]
    exact g1
  · have e1 : i % (cs.length - a) = cs.length - a - 1 := by walk_at "o"
    have e : (i + 1) % (cs.length - a) = 0 := by
      rw [Nat.add_mod, e1, Nat.mod_eq_of_lt (show 1 < cs.length - a by walk_at "o"), show cs.length - a - 1 + 1 = cs.length - a by walk_at "o", Nat.mod_self]
    rw [e, get _ (by walk_at "o")] at g2
    rw [get _ hm, e1, show cs.length - 1 - (cs.length - a - 1) = a by walk_at "o", hga] at g1
    rw [Nat.sub_zero] at g2
    rw [← Option.some.inj g1]
    exact K.last _ g2
end part
section
variable {t u : List (List Int)} {ws : List Nat}
theorem pairs_rp : Rp (pairs t u) t.length := ⟨fun p hp => ⟨(mem_pairs.mp hp).1, (mem_pairs.mp hp).2.1⟩, fun p hp e => by have := (mem_pairs.mp hp).2.2; rw [e] at this; exact absurd this (Int.lt_irrefl _)⟩
theorem Around.envied (A : Around (pairs t u) ws) : Envied t u ws := fun i => (mem_pairs.mp (A i)).2.2
end

section
variable {C : CallT} {G : String → Option Val} {Q : Val → Mem → Prop} {X : Nat → Mem → Prop} {m : Mem} {n : Nat} {t u f : List (List Int)} {k N : Nat} {v w : Val} {loc : Loc} {R : Flow → Loc → Mem → Prop} {Y : Nat → Loc → Mem → Prop} {ws : List Nat}

theorem comp_own {elt : Ex} {i : Nat} {xs : List Val} {ok : Mem → Prop} (g : Nat → List Int) (hl : xs.length < 1000) (hok : ∀ m', Ext m m' → ok m')
    (step : ∀ j x m', xs[j]? = some x → Ext m m' → ∀ P : Val → Mem → Prop, (∀ c m'', Ext m' m'' → m'' c = none → P (.ref c) (m''.set c (.list ((g j).map .int)))) → wpE C G X elt (setV loc i x) P m')
    (h : ∀ v m', Ext m m' → Own m m' v ((List.range xs.length).map g) → Q v m') : compLoop (cF C G X elt (.one i) .nil loc) ok xs [] (fun ys m' => freshL m' ys Q) m := by
  refine comp_inv (fun k acc m' => Ext m m' ∧ ∃ bs : List Addr, acc = bs.map .ref ∧ bs.length = k ∧ bs.Nodup ∧ ∀ (j : Nat) b, bs[j]? = some b → m b = none ∧ m' b = some (.list ((g j).map .int))) ⟨.refl, [], rfl, rfl, List.nodup_nil, fun j b h => by cases h⟩ (fun k x acc m' hx hI P hP => ?_) fun acc m' hI => ?_
  · obtain ⟨E, bs, rfl, hbl, hbn, hb⟩ := hI
    refine compF_one (step k x m' hx E _ fun c m2 E2 hc => ?_)
    have E3 := E2.trans (Ext.set (o := .list ((g k).map .int)) hc)
    refine hP _ _ ⟨hok _ (E.trans E3), E.trans E3, bs ++ [c], by rw [List.map_append]; rfl, by rw [List.length_append, hbl]; rfl, ?_, fun j b h => ?_⟩
    · rw [List.nodup_append]
      refine ⟨hbn, List.nodup_cons.mpr ⟨by simp, List.nodup_nil⟩, fun x hx y hy => ?_⟩
      rcases List.mem_singleton.mp hy with rfl
      obtain ⟨j, hj⟩ := List.mem_iff_getElem?.mp hx
      exact ne_of hc (E2 _ _ (hb j x hj).2)
    · by_cases hj : j < bs.length
      · rw [List.getElem?_append_left hj] at h
        exact ⟨(hb j b h).1, E3 _ _ (hb j b h).2⟩
      · rw [List.getElem?_append_right (Nat.le_of_not_lt hj)] at h
        have h0 : j - bs.length = 0 := by
          have := (List.getElem?_eq_some_iff.mp h).1
          rw [List.length_singleton] at this
          walk_at "o"
        rw [h0] at h
        cases h
        have hjk : j = k := by walk_at "o"
        subst hjk
        exact ⟨none_of (E.trans E2) hc, set_eq⟩
  · obtain ⟨E, bs, rfl, hbl, hbn, hb⟩ := hI
    refine freshL_ (by rw [List.length_map]; exact lid_of (hbl ▸ hl)) fun a ha => ?_
    have hne : ∀ b ∈ bs, m b = none ∧ b ≠ a := fun b hb' => by
      obtain ⟨j, hj⟩ := List.mem_iff_getElem?.mp hb'
      exact ⟨(hb j b hj).1, ne_of ha (hb j b hj).2⟩
    refine h _ _ (E.trans (Ext.set ha)) ⟨a, bs, rfl, set_eq, hbn, by rw [List.length_map, List.length_range]; exact hbl, none_of E ha, hne, fun j b r h1 h2 => ?_⟩
    rw [set_ne (hne b (List.mem_of_getElem? h1)).2, (hb j b h1).2]
    rw [List.getElem?_map] at h2
    obtain ⟨j', hj', rfl⟩ := Option.map_eq_some_iff.mp h2
    obtain ⟨_, rfl⟩ := List.getElem?_eq_some_iff.mp hj'
    rw [List.getElem_range]
theorem map_getD (t : List (List Int)) : (List.range t.length).map (fun j => t.getD j []) = t := by
  refine List.ext_getElem? fun j => ?_
  rw [List.getElem?_map]
  by_cases h : j < t.length
  · rw [List.getElem?_range h, getDL h]; rfl
  · rw [List.getElem?_eq_none (by rw [List.length_range]; walk_at "o"), List.getElem?_eq_none (by walk_at "o")]; rfl
theorem copies {i : Nat} (hi : i < loc.length) (hv : IsT m v t) (hl : t.length < 1000) (hr : ∀ r ∈ t, r.length < 1000) (hQ : ∀ v m', Ext m m' → Own m m' v t → Q v m') :
    itemsW .plain v (fun xs => compLoop (cF C G X (.b1 .list (.nm i)) (.one i) .nil loc) (stands .plain v m) xs [] (fun ys m' => freshL m' ys Q) m) m := by
  obtain ⟨xs, e1, e2⟩ := hv
  refine items_list e1.seq (by rw [e2.length]; exact lid_of hl) ?_
  refine comp_own (fun j => t.getD j []) (by rw [e2.length]; exact hl) (fun m' E => e1.stands (e1.ext E)) (fun j x m' hx E P hP => ?_) (by rw [e2.length, map_getD]; exact hQ)
  obtain ⟨z, hz, hxz⟩ := e2.get hx
  have hzm := List.mem_of_getElem? hz
  refine e_b1 (e_nm (gv_set hi) (b1_list (hxz.ext E).seq (freshL_ (by rw [List.length_map]; exact lid_of (hr z hzm)) fun c hc => ?_)))
  have : t.getD j [] = z := by rw [List.getD_eq_getElem?_getD, hz]; rfl
  exact this ▸ hP c m' .refl hc

theorem nodup_set {α : Type} {x : α} : ∀ {l : List α} {i : Nat}, l.Nodup → x ∉ l → (l.set i x).Nodup
  | [], _, h, _ => by simpa using h
  | a :: l, 0, h, hx => by
    rw [List.set_cons_zero, List.nodup_cons]
    exact ⟨fun q => hx (.tail _ q), (List.nodup_cons.mp h).2⟩
  | a :: l, i + 1, h, hx => by
    rw [List.set_cons_succ, List.nodup_cons]
    refine ⟨fun q => ?_, nodup_set (List.nodup_cons.mp h).2 fun q => hx (.tail _ q)⟩
    rcases List.mem_or_eq_of_mem_set q with q | rfl
    · exact (List.nodup_cons.mp h).1 q
    · exact hx (.head _)
theorem Own.relist {m0 : Mem} (h : Own m0 m v t) (E0 : Ext m0 m) {i : Nat} (hi : i < t.length) (hl : t.length < 1000) {e : Addr} (he : m e = none) {s : List Int} {K : Mem → Prop} (hK : ∀ m', Ext m0 m' → Own m0 m' v (t.set i s) → (∀ b o, v ≠ .ref b → m b = some o → m' b = some o) → K m') : setQ v (.int (i : Nat)) (.ref e) K (m.set e (.list (s.map .int))) := by
  obtain ⟨a, bs, rfl, ha, hn, hbl, h0, hb, hr⟩ := h
  have hea : a ≠ e := ne_of he ha
  have hbe : ∀ (j : Nat) b, bs[j]? = some b → b ≠ e := fun j b h => by
    have hj : j < t.length := hbl ▸ (List.getElem?_eq_some_iff.mp h).1
    exact ne_of he (hr j b _ h (getDL hj))
  have he0 : m0 e = none := none_of E0 he
  refine setQ_ (xs := bs.map .ref) (by rw [set_ne hea]; exact ha) (by rw [List.length_map, hbl]; exact lid_of hl) (nn i) (by rw [List.length_map, hbl]; exact hi) ?_
  rw [show (bs.map Val.ref).set (i : Int).toNat (.ref e) = (bs.set i e).map .ref from List.map_set.symm]
  refine hK _ ((E0.over he0).over h0) ⟨a, bs.set i e, rfl, set_eq, nodup_set hn (fun q => ?_), by rw [List.length_set, List.length_set]; exact hbl, h0, fun b hb' => ?_, fun j b r h1 h2 => ?_⟩ fun b o hb ho => by rw [set_ne (fun q => hb (by rw [q])), set_ne (ne_of he ho)]; exact ho
  · obtain ⟨j, hj⟩ := List.mem_iff_getElem?.mp q
    exact hbe j e hj rfl
  · rcases List.mem_or_eq_of_mem_set hb' with q | rfl
    · exact hb b q
    · exact ⟨he0, Ne.symm hea⟩
  · have hib : i < bs.length := hbl.symm ▸ hi
    by_cases hj : j = i
    · subst hj
      rw [List.getElem?_set_self hib] at h1; cases h1
      rw [List.getElem?_set_self hi] at h2; cases h2
      rw [set_ne (Ne.symm hea), set_eq]
    · rw [List.getElem?_set_ne (Ne.symm hj)] at h1 h2
      rw [set_ne (hb b (List.mem_of_getElem? h1)).2, set_ne (hbe j b h1)]
      exact hr j b r h1 h2

noncomputable def zs (ws : List Nat) : List Int := ws.map fun (i : Nat) => (i : Int)
theorem zs_len : (zs ws).length = ws.length := List.length_map _
theorem fmod_nat (a b : Nat) : (a : Int).fmod (b : Int) = ((a % b : Nat) : Int) := by rw [Int.fmod_eq_emod_of_nonneg _ (Int.natCast_nonneg b)]; rfl
theorem Way.len (W : Way ws N) : ws.length ≤ N := by
  have h : ∀ {l l' : List Nat}, l.Nodup → (∀ x ∈ l, x ∈ l') → l.length ≤ l'.length := fun {l} => by
    induction l with
    | nil => intro l' _ _; exact Nat.zero_le _
    | cons a l ih =>
      intro l' hn hs
      rw [List.nodup_cons] at hn
      have h1 := ih (l' := l'.erase a) hn.2 fun x hx => (List.mem_erase_of_ne (fun e : x = a => hn.1 (e ▸ hx))).mpr (hs x (.tail _ hx))
      have h2 := List.length_erase_of_mem (hs a (.head _))
      have h3 := List.length_pos_of_mem (hs a (.head _))
      rw [List.length_cons]
      walk_at "o"
  have := h W.nd (l' := List.range N) fun x hx => List.mem_range.mpr (W.lt x hx)
  rw [List.length_range] at this
  exact this
theorem zs_lid (W : Way ws N) (h8 : N ≤ 8) : (zs ws).length < lid := by rw [zs_len]; exact lid_of (by have := W.len; walk_at "o")
theorem way_mod (W : Way ws N) (h8 : N ≤ 8) (hw : IsI m w (zs ws)) (i : Nat) (h : Q (.int (rg ws i : Nat)) m) : subW w (.int ((i % ws.length : Nat) : Int)) Q m := by
  refine sub_ints hw (nn _) (x := ((rg ws i : Nat) : Int)) ?_ (zs_lid W h8) h
  show (zs ws)[i % ws.length]? = _
  unfold zs
  rw [List.getElem?_map, rg_get W i]; rfl
theorem way_at (W : Way ws N) (h8 : N ≤ 8) (hw : IsI m w (zs ws)) {i : Nat} (hi : i < ws.length) (h : Q (.int (rg ws i : Nat)) m) : subW w (.int (i : Nat)) Q m := by
  have := way_mod W h8 hw i h
  rw [Nat.mod_eq_of_lt hi] at this
  exact this
theorem way_prev (W : Way ws N) (h8 : N ≤ 8) (hw : IsI m w (zs ws)) {i : Nat} (hi : i < ws.length) (h : Q (.int (rg ws (i + (ws.length - 1)) : Nat)) m) : subW w (.int ((i : Int) - 1)) Q m := by
  have h2 := W.two
  cases i with
  | zero =>
    refine subW_ hw.seq (j := ws.length - 1) ?_ (x := .int (rg ws (ws.length - 1) : Nat)) ?_ (by rw [List.length_map]; exact zs_lid W h8) ?_
    · rw [List.length_map, zs_len]
      unfold place
      rw [if_neg (by decide), if_pos (by show 1 ≤ ws.length; walk_at "o")]; rfl
    · have := rg_get W (ws.length - 1)
      rw [Nat.mod_eq_of_lt (by walk_at "o")] at this
      unfold zs
      rw [List.getElem?_map, List.getElem?_map, this]; rfl
    · rw [Nat.zero_add] at h
      exact h
  | succ i =>
    rw [show ((i + 1 : Nat) : Int) - 1 = (i : Int) by walk_at "o"]
    refine way_at W h8 hw (by walk_at "o") ?_
    rw [show i + 1 + (ws.length - 1) = i + ws.length by walk_at "o", rg_mod (i + ws.length) i (Nat.add_mod_right ..)] at h
    exact h
theorem len_way (hw : IsI m w (zs ws)) (W : Way ws N) (h8 : N ≤ 8) (h : Q (.int (ws.length : Nat)) m) : wpB1 .len w Q m := by
  refine len_ints hw (zs_lid W h8) ?_
  rw [zs_len]; exact h
end

section
variable {C : CallT} {G : String → Option Val} {Q : Val → Mem → Prop} {X : Nat → Mem → Prop} {m : Mem} {n : Nat} {t u f : List (List Int)} {k N : Nat} {v w : Val} {loc : Loc} {R : Flow → Loc → Mem → Prop} {Y : Nat → Loc → Mem → Prop} {ws : List Nat}

theorem Turn.perm (W : Way ws u.length) (T : Turn u ws f) : f.Perm u := by
  have h := (sg_perm W).map fun j => u.getD j []
  rw [map_getD, List.map_map] at h
  have e : f = (List.range u.length).map ((fun j => u.getD j []) ∘ sg ws) := by
    conv => lhs; rw [← map_getD f, T.len]
    exact List.map_congr_left fun j _ => T.get W j
  rw [e]; exact h
theorem Turn.ok (O : Ok t u k) (W : Way ws u.length) (T : Turn u ws f) : Ok t f k where
  tab := O.tab
  row := O.row
  k40 := O.k40
  len := T.len.trans O.len
  fit := fun s hs => O.fit s ((T.perm W).mem_iff.mp hs)
  sh := List.all_eq_true.mpr fun s hs => O.share ((T.perm W).mem_iff.mp hs)
  nd := ((T.perm W).flatten).nodup_iff.mpr O.nd
theorem rg_rot (W : Way ws N) {s : Nat} (hs : s < ws.length) (i : Nat) : rg (ws.drop s ++ ws.take s) i = rg ws (s + i) := by
  have hl : (ws.drop s ++ ws.take s).length = ws.length := by rw [List.length_append, List.length_drop, List.length_take]; walk_at "o"
  unfold rg
  rw [hl]
  have hp := Nat.mod_lt i (show 0 < ws.length by walk_at "o")
  have h1 : (s + i) % ws.length = (s + i % ws.length) % ws.length := by rw [Nat.add_mod_mod]
  rw [h1]
  generalize i % ws.length = j at hp
  rw [List.getD_eq_getElem?_getD, List.getD_eq_getElem?_getD]
  by_cases q : j < ws.length - s
  · rw [List.getElem?_append_left (by rw [List.length_drop]; exact q), List.getElem?_drop, Nat.mod_eq_of_lt (by walk_at "o")]
  · rw [List.getElem?_append_right (by rw [List.length_drop]; walk_at "o"), List.length_drop, show (s + j) % ws.length = j - (ws.length - s) by
      rw [show s + j = (j - (ws.length - s)) + ws.length by walk_at "o", Nat.add_mod_right, Nat.mod_eq_of_lt (by walk_at "o")]]
    rw [List.getElem?_take, if_pos (by walk_at "o")]
theorem Way.rot (W : Way ws N) {s : Nat} (hs : s < ws.length) : Way (ws.drop s ++ ws.take s) N := by
  have hp : (ws.drop s ++ ws.take s).Perm ws := by
    conv => rhs; rw [← List.take_append_drop s ws]
    exact List.perm_append_comm
  exact ⟨by rw [hp.length_eq]; exact W.two, hp.nodup_iff.mpr W.nd, fun x hx => W.lt x (hp.mem_iff.mp hx)⟩
theorem Turn.rot (W : Way ws u.length) {s : Nat} (hs : s < ws.length) (T : Turn u (ws.drop s ++ ws.take s) f) : Turn u ws f := by
  refine ⟨T.len, fun i => ?_, fun j hj => T.off j fun q => hj ?_⟩
  · have h := T.on (i + (ws.length - s))
    rw [rg_rot W hs, rg_rot W hs, show s + (i + (ws.length - s)) = i + ws.length by walk_at "o", show s + (i + (ws.length - s) + 1) = i + 1 + ws.length by walk_at "o", rg_mod (i + ws.length) i (Nat.add_mod_right ..), rg_mod (i + 1 + ws.length) (i + 1) (Nat.add_mod_right ..)] at h
    exact h
  · rcases List.mem_append.mp q with q | q
    · exact List.mem_of_mem_drop q
    · exact List.mem_of_mem_take q
end

section run
variable {t u : List (List Int)} {o ps : List Int} {k : Nat}
theorem sumAt_perm {r a b : List Int} (h : a.Perm b) : sumAt r a = sumAt r b := by
  induction h with
  | nil => rfl
  | cons x _ ih => unfold sumAt at ih ⊢; rw [List.map_cons, List.map_cons, List.sum_cons, List.sum_cons, ih]
  | swap x y l => unfold sumAt; simp only [List.map_cons, List.sum_cons]; walk_at "o"
  | trans _ _ h1 h2 => exact h1.trans h2
end run

section giving
variable {t u v f : List (List Int)} {ws : List Nat} {k N : Nat} {x : Int}
theorem Core.ring {ps : List (Nat × Nat)} {left : List Nat} (R : Rp ps N) (K : Core ps left) (hlt : ∀ y ∈ left, y < N) (hnd : left.Nodup) : ∃ ws, Way ws N ∧ Around ps ws := by
  have first : ∀ y ∈ left, ∃ g, g ∈ enviersOf ps y left := fun y hy => by
    obtain ⟨z, hz, hp⟩ := K.2 y hy
    exact ⟨z, mem_enviers.mpr ⟨hp, hz⟩⟩
  have go : ∀ n cs h, Chain ps left cs h → left.length + 1 ≤ n + cs.length → ∃ ws, Way ws N ∧ Around ps ws := fun n => by
    induction n with
    | zero =>
      intro cs h C hn
      have := nodup_sub_len C.nd C.sub
      walk_at "o"
    | succ n ih =>
      intro cs h C hn
      by_cases hh : h ∈ cs
      · exact ⟨_, C.ring R hlt hh⟩
      · obtain ⟨g, hg⟩ := first h C.hin
        exact ih _ _ (C.next hh hg) (by rw [List.length_append, List.length_singleton]; walk_at "o")
  obtain ⟨z, hz⟩ : ∃ z, z ∈ left := by
    cases left with
    | nil => exact absurd rfl K.1
    | cons z r => exact ⟨z, .head _⟩
  obtain ⟨g, hg⟩ := first z hz
  obtain ⟨g1, g2⟩ := mem_enviers.mp hg
  exact go left.length [z] g ⟨List.nodup_cons.mpr ⟨by simp, List.nodup_nil⟩, fun y hy => by rw [List.mem_singleton.mp hy]; exact hz, (fun e => by cases e), (fun i a b h1 h2 => by cases i <;> cases h2), g2, fun y hy => by cases hy; exact g1⟩ (by rw [List.length_singleton]; exact Nat.le_refl _)

structure Free (ps : List (Nat × Nat)) (N j : Nat) : Prop where
  lt : j < N
  no : ∀ i, (i, j) ∉ ps
  least : ∀ j', j' < j → ∃ i, (i, j') ∈ ps
theorem Free.unique {ps : List (Nat × Nat)} {j j' : Nat} (F : Free ps N j) (F' : Free ps N j') : j = j' := by
  rcases Nat.lt_trichotomy j j' with q | q | q
  · obtain ⟨i, hi⟩ := F'.least j q
    exact absurd hi (F.no i)
  · exact q
  · obtain ⟨i, hi⟩ := F.least j' q
    exact absurd hi (F'.no i)
noncomputable def NoRing (ps : List (Nat × Nat)) (N : Nat) : Prop := ∀ ws, Way ws N → Around ps ws → False
theorem Line.noRing {ps : List (Nat × Nat)} {fs : List Nat} (L : Line ps N fs) : NoRing ps N := fun _ W A => no_both L (A.core W)
theorem NoRing.free {ps : List (Nat × Nat)} (R : Rp ps N) (hN : 0 < N) (h : NoRing ps N) : ∃ j, Free ps N j := by
  have ex : ∃ j, j < N ∧ ∀ i, (i, j) ∉ ps := by
    refine Classical.byContradiction fun hno => ?_
    have K : Core ps (List.range N) := by
      refine ⟨fun e => by have := congrArg List.length e; rw [List.length_range] at this; exact absurd this (Nat.ne_of_gt hN), fun y hy => ?_⟩
      refine Classical.byContradiction fun hn => hno ⟨y, List.mem_range.mp hy, fun i hi => hn ⟨i, List.mem_range.mpr (R.lt _ hi).1, hi⟩⟩
    obtain ⟨ws, W, A⟩ := K.ring R (fun y hy => List.mem_range.mp hy) List.nodup_range
    exact h ws W A
  have go : ∀ n j, j < n → j < N → (∀ i, (i, j) ∉ ps) → ∃ j, Free ps N j := fun n => by
    induction n with
    | zero => intro j h; exact absurd h (Nat.not_lt_zero _)
    | succ n ih =>
      intro j hj hN hno
      by_cases q : ∃ j', j' < j ∧ ∀ i, (i, j') ∉ ps
      · obtain ⟨j', h1, h2⟩ := q
        exact ih j' (by walk_at "o") (by walk_at "o") h2
      · refine ⟨j, hN, hno, fun j' hj' => ?_⟩
        exact Classical.byContradiction fun hn => q ⟨j', hj', fun i hi => hn ⟨i, hi⟩⟩
  obtain ⟨j, h1, h2⟩ := ex
  exact go (j + 1) j (Nat.lt_succ_self j) h1 h2
structure GaveTo (v : List (List Int)) (x : Int) (j : Nat) (u : List (List Int)) : Prop where
  ex : ∃ s : List Int, s.Perm (v.getD j [] ++ [x]) ∧ s.Pairwise (· ≤ ·) ∧ u = v.set j s
noncomputable def Gave (t v : List (List Int)) (x : Int) (u : List (List Int)) : Prop := ∃ j, Free (pairs t v) t.length j ∧ GaveTo v x j u
theorem GaveTo.unique {j : Nat} {u' : List (List Int)} (G : GaveTo v x j u) (G' : GaveTo v x j u') : u = u' := by
  obtain ⟨s, h1, h2, rfl⟩ := G.ex
  obtain ⟨s', h1', h2', rfl⟩ := G'.ex
  rw [sorted_eq (h1.trans h1'.symm) h2 h2']
theorem Gave.unique {u' : List (List Int)} (G : Gave t v x u) (G' : Gave t v x u') : u = u' := by
  obtain ⟨j, F, g⟩ := G
  obtain ⟨j', F', g'⟩ := G'
  obtain rfl := F.unique F'
  exact g.unique g'
inductive Reach (t : List (List Int)) : List (List Int) → List (List Int) → Prop
  | refl (u : List (List Int)) : Reach t u u
  | step {u v w : List (List Int)} {ws : List Nat} : Way ws t.length → Around (pairs t u) ws → Turn u ws v → Reach t v w → Reach t u w
theorem Reach.trans {a b c : List (List Int)} (h : Reach t a b) (h' : Reach t b c) : Reach t a c := by
  induction h with
  | refl => exact h'
  | step W A T _ ih => exact .step W A T (ih h')
theorem Reach.ok (O : Ok t u k) (h : Reach t u v) : Ok t v k := by
  induction h with
  | refl => exact O
  | step W _ T _ ih => exact ih (T.ok O (by rw [O.len]; exact W))
theorem Reach.perm (O : Ok t u k) (h : Reach t u v) : v.Perm u := by
  induction h with
  | refl => exact List.Perm.refl _
  | step W _ T _ ih =>
    exact (ih (T.ok O (by rw [O.len]; exact W))).trans (T.perm (by rw [O.len]; exact W))
noncomputable def Given (t u : List (List Int)) (x : Int) (u' : List (List Int)) : Prop := ∃ v, Reach t u v ∧ NoRing (pairs t v) t.length ∧ Gave t v x u'

theorem turn_more (O : Ok t u k) (W : Way ws t.length) (A : Around (pairs t u) ws) (T : Turn u ws v) (i : Nat) : sm t u i i ≤ sm t v i i := by
  have Wu : Way ws u.length := by rw [O.len]; exact W
  rw [T.sm Wu]
  have := A.envied.own W i
  by_cases hi : i ∈ ws
  · exact Int.le_of_lt (this.1 hi)
  · rw [this.2 hi]; exact Int.le_refl _
theorem turn_born (O : Ok t u k) (W : Way ws t.length) (A : Around (pairs t u) ws) (T : Turn u ws v) (B : Born t u) : Born t v := fun p hp => by
  obtain ⟨h1, h2, h3⟩ := mem_pairs.mp hp
  have Wu : Way ws u.length := by rw [O.len]; exact W
  have hm := turn_more O W A T p.1
  rw [T.sm Wu p.1 p.2] at h3
  have hs : sm t u p.1 (sg ws p.2) > sm t u p.1 p.1 := Int.lt_of_le_of_lt hm h3
  obtain ⟨y, hy, hle⟩ := B (p.1, sg ws p.2) (mem_pairs.mpr ⟨h1, sg_lt W h2, hs⟩)
  refine ⟨y, ?_, ?_⟩
  · rw [T.get Wu]; exact hy
  · rw [T.sm Wu p.1 p.2]
    exact Int.le_trans hle hm
theorem Reach.born (O : Ok t u k) (h : Reach t u v) (B : Born t u) : Born t v := by
  induction h with
  | refl => exact B
  | step W A T _ ih => exact ih (T.ok O (by rw [O.len]; exact W)) (turn_born O W A T B)
theorem sumAt_app (r a b : List Int) : sumAt r (a ++ b) = sumAt r a + sumAt r b := by unfold sumAt; rw [List.map_append, List.sum_append]
theorem getDset' {f : List (List Int)} {i j : Nat} {s : List Int} (hi : i < f.length) : (f.set i s).getD j [] = if i = j then s else f.getD j [] := by
  rw [List.getD_eq_getElem?_getD, List.getElem?_set, List.getD_eq_getElem?_getD]
  by_cases h : i = j
  · subst h; rw [if_pos rfl, if_pos rfl, if_pos hi]; rfl
  · rw [if_neg h, if_neg h]
theorem Gave.born (O : Ok t v k) (hx : 0 ≤ x ∧ x.toNat < k) (G : Gave t v x u) (B : Born t v) : Born t u := fun p hp => by
  obtain ⟨j, F, s, hs, _, rfl⟩ := G
  have hjv : j < v.length := by rw [O.len]; exact F.lt
  have val : ∀ i l, i < t.length → sm t (v.set j s) i l = if j = l then sm t v i l + (t.getD i []).getD x.toNat 0 else sm t v i l := fun i l hi => by
    unfold sm
    rw [getDset' hjv]
    by_cases e : j = l
    · subst e
      rw [if_pos rfl, if_pos rfl, sumAt_perm hs, sumAt_app]
      congr 1
      unfold sumAt
      rw [List.map_singleton, List.sum_singleton]
    · rw [if_neg e, if_neg e]
  have pos : ∀ i, i < t.length → 0 ≤ (t.getD i []).getD x.toNat 0 := fun i hi => by
    have hr := getDL_mem hi
    exact (O.worth hr _ (List.mem_of_getElem? (getD_some (by rw [O.row _ hr]; exact hx.2)))).1
  have more : ∀ i, i < t.length → sm t v i i ≤ sm t (v.set j s) i i := fun i hi => by
    rw [val i i hi]
    have := pos i hi
    by_cases e : j = i
    · rw [if_pos e]; walk_at "o"
    · rw [if_neg e]; exact Int.le_refl _
  obtain ⟨h1, h2, h3⟩ := mem_pairs.mp hp
  have hm := more p.1 h1
  by_cases e : j = p.2
  · subst e
    refine ⟨x, ?_, ?_⟩
    · rw [getDset' hjv, if_pos rfl]
      exact hs.mem_iff.mpr (List.mem_append_right _ (.head _))
    · rw [val p.1 p.2 h1, if_pos rfl]
      have hno : ¬ sm t v p.1 p.2 > sm t v p.1 p.1 := fun q => F.no p.1 (mem_pairs.mpr ⟨h1, h2, q⟩)
      walk_at "o"
  · rw [val p.1 p.2 h1, if_neg e] at h3
    obtain ⟨y, hy, hle⟩ := B p (mem_pairs.mpr ⟨h1, h2, Int.lt_of_le_of_lt hm h3⟩)
    refine ⟨y, ?_, ?_⟩
    · rw [getDset' hjv, if_neg e]; exact hy
    · rw [val p.1 p.2 h1, if_neg e]
      exact Int.le_trans hle hm
theorem flat_set_perm {s : List Int} {x : Int} : ∀ {u : List (List Int)} {j : Nat}, j < u.length → s.Perm (u.getD j [] ++ [x]) → (u.set j s).flatten.Perm (u.flatten ++ [x])
  | [], _, h, _ => absurd h (Nat.not_lt_zero _)
  | a :: u, 0, _, h => by
    rw [List.set_cons_zero, List.flatten_cons, List.flatten_cons]
    refine (List.Perm.append_right _ h).trans ?_
    show ((a ++ [x]) ++ u.flatten).Perm _
    rw [List.append_assoc, List.append_assoc]
    exact List.Perm.append_left _ List.perm_append_comm
  | a :: u, j + 1, hj, h => by
    rw [List.set_cons_succ, List.flatten_cons, List.flatten_cons, List.append_assoc]
    exact List.Perm.append_left _ (flat_set_perm (Nat.lt_of_succ_lt_succ hj) h)
theorem Gave.flat (O : Ok t v k) (G : Gave t v x u) : u.flatten.Perm (v.flatten ++ [x]) := by
  obtain ⟨j, F, s, hs, _, rfl⟩ := G
  exact flat_set_perm (by rw [O.len]; exact F.lt) hs
theorem int_sub_len {l : List Int} : ∀ {l' : List Int}, l.Nodup → (∀ x ∈ l, x ∈ l') → l.length ≤ l'.length := by
  induction l with
  | nil => intro l' _ _; exact Nat.zero_le _
  | cons a l ih =>
    intro l' hn hs
    rw [List.nodup_cons] at hn
    have h1 := ih (l' := l'.erase a) hn.2 fun x hx => (List.mem_erase_of_ne (fun e : x = a => hn.1 (e ▸ hx))).mpr (hs x (.tail _ hx))
    have h2 := List.length_erase_of_mem (hs a (.head _))
    have h3 := List.length_pos_of_mem (hs a (.head _))
    rw [List.length_cons]
    walk_at "o"
theorem Gave.ok (O : Ok t v k) (hx : 0 ≤ x ∧ x.toNat < k) (hn : x ∉ v.flatten) (G : Gave t v x u) : Ok t u k := by
  have hfl := G.flat O
  obtain ⟨j, F, s, hs, hso, rfl⟩ := G
  have hjv : j < v.length := by rw [O.len]; exact F.lt
  have hvj := getDL_mem hjv
  have hth : ∀ y ∈ s, 0 ≤ y ∧ y.toNat < k := fun y hy => by
    rcases List.mem_append.mp (hs.mem_iff.mp hy) with q | q
    · exact O.thing hvj y q
    · rw [List.mem_singleton.mp q]; exact hx
  have hxj : x ∉ v.getD j [] := fun q => hn (List.mem_flatten.mpr ⟨_, hvj, q⟩)
  have hsn : s.Nodup := hs.nodup_iff.mpr (by
    rw [List.nodup_append]
    refine ⟨O.nodup hvj, List.nodup_cons.mpr ⟨by simp, List.nodup_nil⟩, fun a ha b hb e => ?_⟩
    rw [List.mem_singleton.mp hb] at e
    exact hxj (e ▸ ha))
  have hsl : s.length ≤ k := by
    have := int_sub_len hsn (l' := (List.range k).map fun (i : Nat) => (i : Int)) fun y hy => by
      obtain ⟨h0, h1⟩ := hth y hy
      exact List.mem_map.mpr ⟨y.toNat, List.mem_range.mpr h1, Int.toNat_of_nonneg h0⟩
    rw [List.length_map, List.length_range] at this
    exact this
  refine ⟨O.tab, O.row, O.k40, by rw [List.length_set]; exact O.len, fun y hy => ?_, ?_, ?_⟩
  · rcases List.mem_or_eq_of_mem_set hy with q | rfl
    · exact O.fit y q
    · exact hsl
  · rw [List.all_eq_true]
    intro y hy
    rcases List.mem_or_eq_of_mem_set hy with q | rfl
    · exact O.share q
    · simp only [shareOk, thingsOk, Bool.and_eq_true, List.all_eq_true, decide_eq_true_eq]
      refine ⟨⟨fun z hz => ?_, hsn⟩, hso⟩
      have := hth z hz
      walk_at "o"
  · refine hfl.nodup_iff.mpr ?_
    rw [List.nodup_append]
    refine ⟨O.nd, List.nodup_cons.mpr ⟨by simp, List.nodup_nil⟩, fun a ha b hb e => ?_⟩
    rw [List.mem_singleton.mp hb] at e
    exact hn (e ▸ ha)
theorem Given.ok (O : Ok t u k) (hx : 0 ≤ x ∧ x.toNat < k) (hn : x ∉ u.flatten) (G : Given t u x v) : Ok t v k ∧ v.flatten.Perm (u.flatten ++ [x]) ∧ (Born t u → Born t v) := by
  obtain ⟨w, R, _, G⟩ := G
  have Ow := R.ok O
  have hp := (R.perm O).flatten
  exact ⟨G.ok Ow hx (fun q => hn (hp.mem_iff.mp q)), (G.flat Ow).trans (List.Perm.append_right _ hp), fun B => G.born Ow hx (R.born O B)⟩
end giving

section
variable {C : CallT} {G : String → Option Val} {Q : Val → Mem → Prop} {X : Nat → Mem → Prop} {m : Mem} {n : Nat} {t u : List (List Int)} {k N : Nat} {v w : Val} {loc : Loc} {R : Flow → Loc → Mem → Prop} {Y : Nat → Loc → Mem → Prop} {ps : List (Nat × Nat)} {left : List Nat} {a : Addr}

theorem while_inv {c : (Bool → Mem → Prop) → Loc → Mem → Prop} {f : (Flow → Loc → Mem → Prop) → Loc → Mem → Prop} (I : Nat → Loc → Mem → Prop)
    (step : ∀ r l m, I r l m → ∀ P : Loc → Mem → Prop, (∀ r', r = r' + 1 → ∀ l' m', I r' l' m' → P l' m') → c (ifQ (fun m' => f (loopQ R P) l m') (fun m' => R .next l m')) l m) (r : Nat) : ∀ l m, I r l m → whileLoop c f (r + 1) R l m := by
  induction r with
  | zero => exact fun l m h => step 0 l m h _ fun r' e => nomatch e
  | succ r ih => exact fun l m h => step (r + 1) l m h _ fun r' e l' m' hI => by cases e; exact ih l' m' hI
theorem s_whiles {c : Ex} {b : Sts} (r : Nat) (h : whileLoop (fun Q' l' m' => wpE C G noX c l' (asB Q') m') (fun Q' l' m' => wpSs C G b Q' noY l' m') r R loc m) : wpS C G (.whiles c b) R Y loc m := Exists.intro r h
theorem cmp_inI {x : Int} {z : Val} {is : List Int} {P : Bool → Mem → Prop} (hz : IsI m z is) (h : P (decide (x ∈ is)) m) : wpCmp .inn (.int x) z P m := by
  refine Exists.intro (Dat.int x) ⟨is.map .int, is.map .int, hz.seq, rfl, readsL_ints, rfl, ?_, ?_⟩
  · rw [List.all_eq_true]
    intro d hd
    obtain ⟨y, _, rfl⟩ := List.mem_map.mp hd
    rfl
  · rw [show ((is.map Dat.int).any fun e => Dat.beq e (.int x)) = decide (x ∈ is) by
      rw [List.any_map]
      by_cases hx : x ∈ is
      · rw [decide_eq_true hx, List.any_eq_true]; exact ⟨x, hx, beq_self_eq_true x⟩
      · rw [decide_eq_false hx, List.any_eq_false]; intro y hy e; exact hx (beq_iff_eq.mp e ▸ hy)]
    exact h
theorem cmp_notinI {x : Int} {z : Val} {is : List Int} {P : Bool → Mem → Prop} (hz : IsI m z is) (h : P (!decide (x ∈ is)) m) : wpCmp .notin (.int x) z P m := cmp_inI (P := fun b m => P (!b) m) hz h
theorem mem_zs {ws : List Nat} {i : Nat} : (i : Int) ∈ zs ws ↔ i ∈ ws := by
  unfold zs
  rw [List.mem_map]
  constructor
  · rintro ⟨j, hj, e⟩; exact Int.ofNat.inj e ▸ hj
  · intro h; exact ⟨i, h, rfl⟩
theorem pair_0 {p : Nat × Nat} (h : Q (.int p.1) m) : subW (tupV p) (.int 0) Q m := subW_ (xs := [.int p.1, .int p.2]) rfl rfl rfl (lid_of (show 2 < 1000 by decide)) h
theorem pair_1 {p : Nat × Nat} (h : Q (.int p.2) m) : subW (tupV p) (.int 1) Q m := subW_ (xs := [.int p.1, .int p.2]) rfl rfl rfl (lid_of (show 2 < 1000 by decide)) h

theorem enviers_spec (ha : m a = some (.list (ps.map tupV))) (hps : ps.length < 100) (hL : IsI m v (zs left)) {h : Nat} (hq : ∀ c m', Ext m m' → m c = none → m' c = some (.list ((zs (enviersOf ps h left)).map .int)) → Q (.ref c) m') : CN (n + 1) 30 [.ref a, .int (h : Nat), v] Q X m := by
  (refine call_eq rfl rfl ?_; dsimp only [f_enviers, sts, loc0, List.map, List.replicate, List.cons_append, List.nil_append, List.length, Nat.reduceAdd, Nat.reduceSub])
  walk_at "ss"
  refine items_list (IsL.seq ⟨a, rfl, ha⟩) (by rw [List.length_map]; exact lid_of (by walk_at "o")) ?_
  refine comp_filter (g := fun x => match x with | .tup (.int i :: _) => .int i | _ => .none) (c := fun x => match x with | .tup [.int i, .int j] => decide (j = (h : Nat)) && decide (i ∈ zs left) | _ => false) rfl (fun x hx P hP => ?_) (fun x hx P hP => ?_) ?_
  · obtain ⟨p, _, rfl⟩ := List.mem_map.mp hx
    walk_at "ss"
    refine pair_1 ?_
    walk_at "ss"
    have hP' : P (.bool (decide ((p.2 : Int) = (h : Nat)) && decide ((p.1 : Int) ∈ zs left))) m := hP
    by_cases q : (p.2 : Int) = (h : Nat)
    · rw [decide_eq_true q] at hP' ⊢
      walk_at "ss"
      refine pair_0 ?_
      walk_at "ss"
      refine cmp_inI hL ?_
      walk_at "ss"
      rw [Bool.true_and] at hP'
      exact hP'
    · rw [decide_eq_false q] at hP' ⊢
      walk_at "ss"
      exact hP'
  · obtain ⟨p, _, rfl⟩ := List.mem_map.mp hx
    walk_at "ss"
    exact pair_0 hP
  have e : List.map (fun x => match x with | Val.tup (.int i :: _) => Val.int i | _ => .none) (List.filter (fun x => match x with | Val.tup [.int i, .int j] => decide (j = (h : Nat)) && decide (i ∈ zs left) | _ => false) (ps.map tupV)) = (zs (enviersOf ps h left)).map .int := by
    unfold zs enviersOf
    rw [List.filter_map, List.map_map, List.map_map, List.map_map]
    congr 1
    refine List.filter_congr fun p _ => ?_
    show (decide ((p.2 : Int) = (h : Nat)) && decide ((p.1 : Int) ∈ zs left)) = _
    by_cases q1 : p.2 = h <;> by_cases q2 : p.1 ∈ left <;> simp [q1, q2, mem_zs, Int.ofNat_inj]
  rw [e]
  have hle : (enviersOf ps h left).length < 100 := by
    unfold enviersOf
    rw [List.length_map]
    exact Nat.lt_of_le_of_lt (List.length_filter_le _ _) hps
  exact freshL_ (by rw [List.length_map, zs_len]; exact lid_of (by walk_at "o")) fun c hc => hq c _ (Ext.set hc) hc set_eq

theorem first_free_spec (ha : m a = some (.list (ps.map tupV))) (hps : ps.length < 100) (hl : left.length ≤ 8) (hL : IsI m v (zs left))
    (h0 : ∀ m', Ext m m' → (∀ x ∈ left, enviersOf ps x left ≠ []) → Q .none m') (h1 : ∀ (x : Nat) m', Ext m m' → x ∈ left → enviersOf ps x left = [] → (∃ i, left[i]? = some x ∧ ∀ y ∈ left.take i, enviersOf ps y left ≠ []) → Q (.int (x : Nat)) m') : CN (n + 2) 31 [.ref a, v] Q X m := by
  (refine call_eq rfl rfl ?_; dsimp only [f_first_free, sts, loc0, List.map, List.replicate, List.cons_append, List.nil_append, List.length, Nat.reduceAdd, Nat.reduceSub])
  walk_at "ss"
  have hll : ((zs left).map Val.int).length < lid := by rw [List.length_map, zs_len]; exact lid_of (by walk_at "o")
  refine items_list hL.seq hll ?_
  refine for_inv (fun i l m' => ∃ y, l = [some (.ref a), some v, y] ∧ Ext m m' ∧ ∀ x ∈ left.take i, enviersOf ps x left ≠ []) ⟨none, rfl, .refl, fun x hx => by cases hx⟩ (fun i x l m' hx hI P hP => ?_) fun l m' hI => ?_
  · obtain ⟨y, rfl, E, hall⟩ := hI
    unfold zs at hx
    rw [List.map_map, List.getElem?_map] at hx
    obtain ⟨z, hz, rfl⟩ := Option.map_eq_some_iff.mp hx
    refine bodyF_one ?_
    dsimp only [setV, Function.comp_apply]
    walk_at "ss"
    refine enviers_spec (E a _ ha) hps (hL.ext E) fun c m2 E2 _ hc => ?_
    walk_at "ss"
    refine freshL_ (lid_of (by decide)) fun d hd => ?_
    have E3 := E2.trans (Ext.set (o := .list []) hd)
    refine cmp_eqII (a := zs (enviersOf ps z left)) (b := []) ⟨c, rfl, Ext.set hd c _ hc⟩ IsL.new ?_
    with_reducible refine asB_ (ifQ_dec (fun q => ?_) (fun q => ?_))
    · have q := of_decide_eq_true q
      walk_at "ss"
      with_reducible refine loopQ_ret ?_
      walk_at "ss"
      exact h1 z _ (E.trans E3) (List.mem_of_getElem? hz) (List.map_eq_nil_iff.mp q) ⟨i, hz, hall⟩
    · have q := of_decide_eq_false q
      walk_at "ss"
      with_reducible refine loopQ_next (hP _ _ ?_)
      exact ⟨IsL.stands (k := .plain) hL (hL.ext (E.trans E3)), _, rfl, E.trans E3, take_more hall hz fun e => q (by rw [e]; rfl)⟩
  · obtain ⟨y, rfl, E, hall⟩ := hI
    walk_at "ss"
    rw [List.length_map, zs_len, List.take_length] at hall
    exact h0 _ E hall

theorem zs_range (N : Nat) : rangeV (N : Nat) = (zs (List.range N)).map .int := by unfold rangeV zs; rw [List.map_map]; rfl
theorem zs_app (a b : List Nat) : zs (a ++ b) = zs a ++ zs b := List.map_append ..
structure PSt (m : Mem) (ps : List (Nat × Nat)) (N : Nat) (f c : Addr) (hv : Val) (fs left : List Nat) (m2 : Mem) : Prop where
  mr : ∃ mr, Ext m mr ∧ mr f = none ∧ m2 = mr.set f (.list ((zs fs).map .int)) ∧ mr c = some (.list ((zs left).map .int))
  part : PartTo ps N fs left
  next : (hv = .none ∧ ∀ x ∈ left, enviersOf ps x left ≠ []) ∨ ∃ x : Nat, hv = .int (x : Nat) ∧ x ∈ left ∧ enviersOf ps x left = []
theorem PartTo.lens {fs left : List Nat} (P : PartTo ps N fs left) : fs.length + left.length = N := by
  have := P.perm.length_eq
  rw [List.length_append, List.length_range] at this
  exact this
theorem parted_tail (Rr : Rp ps N) (h8 : N ≤ 8) (ha : m a = some (.list (ps.map tupV))) (hps : ps.length < 100) {f c : Addr} (hf : m f = none) {hv : Val} {fs left : List Nat} {m2 : Mem} (S : PSt m ps N f c hv fs left m2)
    (h : ∀ c fs left m', Ext m m' → m' f = some (.list ((zs fs).map .int)) → m' c = some (.list ((zs left).map .int)) → (left = [] ∧ Line ps N fs ∨ Core ps left ∧ (∀ x ∈ left, x < N) ∧ left.Nodup) → Q (.tup [.ref f, .ref c]) m') :
    wpSs (CN (n + 2)) (globOf GS) (Sts.drop 3 f_parted.body) (retQ Q) (fun c _ m' => X c m') [some (.ref a), some (.int (N : Nat)), some (.ref f), some (.ref c), some hv, none] m2 := by
  dsimp only [f_parted, sts, Sts.drop]
  walk_at "ss"
  refine s_whiles _ (while_inv (fun r l m' => ∃ c hv fs left, l = [some (.ref a), some (.int (N : Nat)), some (.ref f), some (.ref c), some hv, none] ∧ PSt m ps N f c hv fs left m' ∧ left.length = r) (fun r l m' hI P hP => ?_) _ _ _ ⟨c, hv, fs, left, rfl, S, rfl⟩)
  obtain ⟨c, hv, fs, left, rfl, S, hr⟩ := hI
  obtain ⟨⟨mr, Er, hrf, rfl, hrc⟩, PT, hn⟩ := S
  have Ef := Ext.set (o := .list ((zs fs).map .int)) hrf
  have hlens := PT.lens
  walk_at "ss"
  rcases hn with ⟨rfl, hno⟩ | ⟨x, rfl, hx, he⟩
  · with_reducible refine ifQ_f rfl ?_
    walk_at "ss"
    refine ⟨lid_of (show 2 < 1000 by decide), ?_⟩
    walk_at "ss"
    refine h _ fs left _ (Er.trans Ef) set_eq (Ef c _ hrc) ?_
    have hnd := PT.nd
    rw [List.nodup_append] at hnd
    by_cases q : left = []
    · subst q
      exact .inl ⟨rfl, PT.line Rr⟩
    · refine .inr ⟨⟨q, fun y hy => ?_⟩, fun y hy => List.mem_range.mp (PT.perm.mem_iff.mp (List.mem_append_right _ hy)), hnd.2.1⟩
      cases e : enviersOf ps y left with
      | nil => exact absurd e (hno y hy)
      | cons z r =>
        have hz : z ∈ enviersOf ps y left := by rw [e]; exact .head _
        obtain ⟨h1, h2⟩ := mem_enviers.mp hz
        exact ⟨z, h2, h1⟩
  · with_reducible refine ifQ_t rfl ?_
    walk_at "ss"
    refine isL_ set_eq ?_
    walk_at "ss"
    refine appQ_ set_eq (by rw [List.length_map, zs_len]; exact lid_of (by walk_at "o")) ?_
    walk_at "ss"
    dsimp only [setV]
    rw [set_set, show (zs fs).map Val.int ++ [.int (x : Nat)] = (zs (fs ++ [x])).map .int by rw [zs_app, List.map_append]; rfl]
    have P2 := PT.next Rr hx he
    have Ef2 := Ext.set (o := .list ((zs (fs ++ [x])).map .int)) hrf
    refine items_list (IsL.seq ⟨c, rfl, Ef2 c _ hrc⟩) (by rw [List.length_map, zs_len]; exact lid_of (by walk_at "o")) ?_
    refine comp_filter (g := fun y => y) (c := fun y => match y with | .int y => decide (y ≠ (x : Nat)) | _ => false) rfl (fun y hy P hP => ?_) (fun y hy P hP => ?_) ?_
    · obtain ⟨y, _, rfl⟩ := List.mem_map.mp hy
      walk_at "ss"
      exact hP
    · obtain ⟨y, _, rfl⟩ := List.mem_map.mp hy
      walk_at "ss"
      exact hP
    have hfm : List.map (fun y => y) (List.filter (fun y => match y with | Val.int y => decide (y ≠ (x : Nat)) | _ => false) ((zs left).map .int)) = (zs (left.filter fun y => decide (y ≠ x))).map .int := by
      unfold zs
      rw [List.map_id', List.map_map, List.map_map, List.filter_map]
      congr 1
      refine List.filter_congr fun y _ => ?_
      show decide ((y : Int) ≠ (x : Nat)) = decide (y ≠ x)
      by_cases q : y = x
      · subst q; simp
      · rw [decide_eq_true q, decide_eq_true (show (y : Int) ≠ (x : Nat) from fun e => q (by walk_at "o"))]
    rw [hfm]
    have hnd := PT.nd
    rw [List.nodup_append] at hnd
    have hfl := filter_len hnd.2.1 hx
    have hfl8 : (left.filter fun y => decide (y ≠ x)).length ≤ 8 := by walk_at "o"
    refine freshL_ (by rw [List.length_map, zs_len]; exact lid_of (by walk_at "o")) fun d hd => ?_
    have hdf : d ≠ f := fun e => by subst e; rw [set_eq] at hd; cases hd
    have hdr : mr d = none := by rw [set_ne hdf] at hd; exact hd
    rw [set_comm (Ne.symm hdf)]
    have Ed := Ext.set (o := .list ((zs (left.filter fun y => decide (y ≠ x))).map .int)) hdr
    have hdf2 : (mr.set d (.list ((zs (left.filter fun y => decide (y ≠ x))).map .int))) f = none := by rw [set_ne (Ne.symm hdf)]; exact hrf
    have hd2 : (mr.set d (.list ((zs (left.filter fun y => decide (y ≠ x))).map .int))) d = some (.list ((zs (left.filter fun y => decide (y ≠ x))).map .int)) := set_eq
    generalize mr.set d (.list ((zs (left.filter fun y => decide (y ≠ x))).map .int)) = mr2 at Ed hdf2 hd2
    have Ef3 := Ext.set (o := .list ((zs (fs ++ [x])).map .int)) hdf2
    have E2 := Er.trans Ed
    walk_at "ss"
    dsimp only [setV]
    have go : ∀ m3, Ext (mr2.set f (.list ((zs (fs ++ [x])).map .int))) m3 → ∃ mr3, Ext m mr3 ∧ mr3 f = none ∧ m3 = mr3.set f (.list ((zs (fs ++ [x])).map .int)) ∧ mr3 d = some (.list ((zs (left.filter fun y => decide (y ≠ x))).map .int)) := fun m3 E3 =>
      ⟨m3.del f, E2.trans (Ext.del hdf2 E3), del_eq, by rw [del_set, set_same (E3 f _ set_eq)], Ext.del hdf2 E3 d _ hd2⟩
    refine first_free_spec (Ef3 a _ (E2 a _ ha)) hps hfl8 ⟨d, rfl, Ef3 d _ hd2⟩ (fun m3 E3 hno => ?_) (fun y m3 E3 hy he _ => ?_)
    · walk_at "ss"
      with_reducible refine loopQ_next (hP ((left.filter fun y => decide (y ≠ x)).length) (by walk_at "o") _ _ ?_)
      exact ⟨d, _, _, _, rfl, ⟨go m3 E3, P2, .inl ⟨rfl, hno⟩⟩, rfl⟩
    · walk_at "ss"
      with_reducible refine loopQ_next (hP ((left.filter fun y => decide (y ≠ x)).length) (by walk_at "o") _ _ ?_)
      exact ⟨d, _, _, _, rfl, ⟨go m3 E3, P2, .inr ⟨y, rfl, hy, he⟩⟩, rfl⟩

theorem parted_spec (Rr : Rp ps N) (h8 : N ≤ 8) (ha : m a = some (.list (ps.map tupV))) (hps : ps.length < 100)
    (h : ∀ f c fs left m', Ext m m' → m f = none → m' f = some (.list ((zs fs).map .int)) → m' c = some (.list ((zs left).map .int)) → (left = [] ∧ Line ps N fs ∨ Core ps left ∧ (∀ x ∈ left, x < N) ∧ left.Nodup) → Q (.tup [.ref f, .ref c]) m') : CN (n + 3) 32 [.ref a, .int (N : Nat)] Q X m := by
  (refine call_eq rfl rfl ?_; dsimp only [f_parted, sts, loc0, List.map, List.replicate, List.cons_append, List.nil_append, List.length, Nat.reduceAdd, Nat.reduceSub])
  walk_at "ss"
  refine freshL_ (lid_of (by decide)) fun f hf => ?_
  walk_at "ss"
  refine b1_lrange (rng8 h8) ?_
  refine freshL_ (by rw [range_len]; exact lid_of (by show N < 1000; walk_at "o")) fun c hc => ?_
  have hcf : c ≠ f := fun e => by subst e; rw [set_eq] at hc; cases hc
  rw [zs_range]
  refine seqQ_next (s_cons (s_asg (e_call (l_pv _ (by with_unfolding_all rfl) ?_))))
  have hcm : m c = none := by rw [set_ne hcf] at hc; exact hc
  have Ec : Ext m (m.set c (.list ((zs (List.range N)).map .int))) := Ext.set hcm
  have hfc : (m.set c (.list ((zs (List.range N)).map .int))) f = none := by rw [set_ne (Ne.symm hcf)]; exact hf
  rw [set_comm (Ne.symm hcf)]
  have hLc : (m.set c (.list ((zs (List.range N)).map .int))) c = some (.list ((zs (List.range N)).map .int)) := set_eq
  generalize m.set c (.list ((zs (List.range N)).map .int)) = mr at Ec hfc hLc
  have Ef := Ext.set (o := .list []) hfc
  have go : ∀ m3, Ext (mr.set f (.list [])) m3 → ∃ mr3, Ext m mr3 ∧ mr3 f = none ∧ m3 = mr3.set f (.list ((zs []).map .int)) ∧ mr3 c = some (.list ((zs (List.range N)).map .int)) := fun m3 E3 =>
    ⟨m3.del f, Ec.trans (Ext.del hfc E3), del_eq, by rw [del_set]; exact (set_same (E3 f _ set_eq)).symm, Ext.del hfc E3 c _ hLc⟩
  refine first_free_spec (left := List.range N) (Ef a _ (Ec a _ ha)) hps (by rw [List.length_range]; exact h8) ⟨c, rfl, Ef c _ hLc⟩ (fun m2 E2 hno => ?_) (fun x m2 E2 hx he _ => ?_)
  · exact seqQ_next (parted_tail Rr h8 ha hps hf ⟨go m2 E2, .start, .inl ⟨rfl, hno⟩⟩ fun c fs left m' E h1 h2 h3 => h f c fs left m' E hf h1 h2 h3)
  · exact seqQ_next (parted_tail Rr h8 ha hps hf ⟨go m2 E2, .start, .inr ⟨x, rfl, hx, he⟩⟩ fun c fs left m' E h1 h2 h3 => h f c fs left m' E hf h1 h2 h3)
end

section
variable {C : CallT} {G : String → Option Val} {Q : Val → Mem → Prop} {X : Nat → Mem → Prop} {m : Mem} {n : Nat} {t u : List (List Int)} {k N : Nat} {v w : Val} {loc : Loc} {R : Flow → Loc → Mem → Prop} {Y : Nat → Loc → Mem → Prop} {ps : List (Nat × Nat)} {left : List Nat} {a : Addr}

theorem dec_t {p : Prop} {inst : Decidable p} (h : p) : @decide p inst = true := decide_eq_true h
theorem dec_f {p : Prop} {inst : Decidable p} (h : ¬ p) : @decide p inst = false := decide_eq_false h
theorem zs_get {ws : List Nat} {i x : Nat} (h : ws[i]? = some x) : (zs ws)[i]? = some ((x : Nat) : Int) := by unfold zs; rw [List.getElem?_map, h]; rfl
theorem first_envier (K : Core ps left) {x : Nat} (hx : x ∈ left) : ∃ g, (enviersOf ps x left)[0]? = some g ∧ g ∈ enviersOf ps x left := by
  obtain ⟨y, hy, hp⟩ := K.2 x hx
  have hm : y ∈ enviersOf ps x left := mem_enviers.mpr ⟨hp, hy⟩
  cases e : enviersOf ps x left with
  | nil => rw [e] at hm; cases hm
  | cons g r => exact ⟨g, rfl, .head _⟩
theorem zs_idx (cs : List Nat) (h : Nat) : (zs cs).idxOf ((h : Nat) : Int) = cs.idxOf h := by
  unfold zs
  induction cs with
  | nil => rfl
  | cons a l ih =>
    rw [List.map_cons, List.idxOf_cons, List.idxOf_cons, ih]
    by_cases e : a = h
    · subst e; simp
    · rw [beq_false_of_ne e, beq_false_of_ne (show ((a : Nat) : Int) ≠ (h : Nat) from fun q => e (by walk_at "o"))]

theorem ring_among_spec (Rr : Rp ps N) (h8 : N ≤ 8) (ha : m a = some (.list (ps.map tupV))) (hps : ps.length < 100) (K : Core ps left) (hlt : ∀ x ∈ left, x < N) (hnd : left.Nodup) {c : Addr} (hc : m c = some (.list ((zs left).map .int)))
    (h : ∀ b ws m', Ext m m' → m b = none → m' b = some (.list ((zs ws).map .int)) → Way ws N → Around ps ws → Q (.ref b) m') : CN (n + 2) 33 [.ref a, .ref c] Q X m := by
  have hl8 : left.length ≤ 8 := Nat.le_trans (by have := nodup_sub_len hnd (l' := List.range N) fun x hx => List.mem_range.mpr (hlt x hx); rw [List.length_range] at this; exact this) h8
  obtain ⟨z, hz⟩ : ∃ z, left[0]? = some z := by
    cases left with
    | nil => exact absurd rfl K.1
    | cons z r => exact ⟨z, rfl⟩
  have hzm := List.mem_of_getElem? hz
  have hcl : (zs left).length < lid := by rw [zs_len]; exact lid_of (by walk_at "o")
  (refine call_eq rfl rfl ?_; dsimp only [f_ring_among, sts, loc0, List.map, List.replicate, List.cons_append, List.nil_append, List.length, Nat.reduceAdd, Nat.reduceSub])
  walk_at "ss"
  refine sub_ints (is := zs left) ⟨c, rfl, hc⟩ (by decide) (zs_get hz) hcl ?_
  walk_at "ss"
  refine freshL_ (lid_of (show 1 < 1000 by decide)) fun f hf => ?_
  have Ef := Ext.set (o := .list [Val.int ((z : Nat) : Int)]) hf
  walk_at "ss"
  try dsimp only [setV]
  refine sub_ints (is := zs left) ⟨c, rfl, Ef c _ hc⟩ (by decide) (zs_get hz) hcl ?_
  walk_at "ss"
  refine enviers_spec (Ef a _ ha) hps ⟨c, rfl, Ef c _ hc⟩ fun d m2 E2 _ hd => ?_
  walk_at "ss"
  obtain ⟨g, hg0, hg⟩ := first_envier K hzm
  have elen : ∀ x, (zs (enviersOf ps x left)).length < lid := fun x => by
    rw [zs_len]
    unfold enviersOf
    rw [List.length_map]
    exact lid_of (Nat.lt_of_le_of_lt (List.length_filter_le _ _) (by walk_at "o"))
  refine sub_ints (is := zs (enviersOf ps z left)) ⟨d, rfl, hd⟩ (by decide) (zs_get hg0) (elen z) ?_
  walk_at "ss"
  try dsimp only [setV]
  have hch0 : Chain ps left [z] g := by
    obtain ⟨g1, g2⟩ := mem_enviers.mp hg
    refine ⟨List.nodup_cons.mpr ⟨by simp, List.nodup_nil⟩, fun x hx => by rw [List.mem_singleton.mp hx]; exact hzm, (fun e => by cases e), (fun i x y h1 h2 => by cases i <;> cases h2), g2, fun x hx => by cases hx; exact g1⟩
  refine s_whiles _ (while_inv (fun r l m' => ∃ (cs : List Nat) (g : Nat), l = [some (.ref a), some (.ref c), some (.ref f), some (.int (g : Nat))] ∧ At m f ((zs cs).map .int) m' ∧ Chain ps left cs g ∧ r = 9 - cs.length) (fun r l m' hI P hP => ?_) 8 _ _ ⟨[z], g, rfl, (At.start hf).grow E2, hch0, rfl⟩)
  obtain ⟨cs, g, rfl, A, Ch, hr⟩ := hI
  have hcs : cs.length ≤ left.length := nodup_sub_len Ch.nd Ch.sub
  have hcl' : (zs cs).length < lid := by rw [zs_len]; exact lid_of (by walk_at "o")
  walk_at "ss"
  refine cmp_notinI (is := zs cs) ⟨f, rfl, A.get⟩ ?_
  by_cases hin : g ∈ cs
  · rw [decide_eq_true (mem_zs.mpr hin)]
    walk_at "ss"
    refine isL_ A.get ?_
    walk_at "ss"
    refine idxQ_ A.get (mem_zs.mpr hin) hcl' ?_
    refine slQ_ A.get (by rw [List.length_map]; exact hcl') ?_
    rw [zs_idx, show cutL true ((zs cs).map Val.int) ((cs.idxOf g : Nat) : Int) = (zs (cs.drop (cs.idxOf g))).map .int by unfold zs cutL clip; rw [if_pos (nn _), List.map_drop, List.map_drop]; rfl]
    have hdl : (zs (cs.drop (cs.idxOf g))).length < lid := by rw [zs_len, List.length_drop]; exact lid_of (by walk_at "o")
    refine freshL_ (by rw [List.length_map]; exact hdl) fun e he => ?_
    refine b1_lrev set_eq (by rw [List.length_map]; exact hdl) ?_
    rw [show ((zs (cs.drop (cs.idxOf g))).map Val.int).reverse = (zs (cs.drop (cs.idxOf g)).reverse).map .int by unfold zs; rw [List.map_reverse, List.map_reverse]]
    obtain ⟨W, Ar⟩ := Ch.ring Rr hlt hin
    refine freshL_ (by rw [List.length_map, zs_len, List.length_reverse, ← zs_len (ws := cs.drop (cs.idxOf g))]; exact hdl) fun b hb => ?_
    walk_at "ss"
    have Ee := A.ext.trans (Ext.set (o := .list ((zs (cs.drop (cs.idxOf g))).map .int)) he)
    exact h b _ _ (Ee.trans (Ext.set hb)) (none_of Ee hb) set_eq W Ar
  · rw [decide_eq_false fun q => hin (mem_zs.mp q)]
    walk_at "ss"
    refine isL_ A.get ?_
    walk_at "ss"
    refine appQ_ A.get (by rw [List.length_map]; exact hcl') ?_
    walk_at "ss"
    rw [show (zs cs).map Val.int ++ [.int (g : Nat)] = (zs (cs ++ [g])).map .int by rw [zs_app, List.map_append]; rfl]
    have A2 : At m f ((zs (cs ++ [g])).map .int) (m'.set f (.list ((zs (cs ++ [g])).map .int))) := A.put
    generalize m'.set f (.list ((zs (cs ++ [g])).map .int)) = m3 at A2
    refine enviers_spec (A2.ext a _ ha) hps ⟨c, rfl, A2.ext c _ hc⟩ fun d m4 E4 _ hd => ?_
    walk_at "ss"
    obtain ⟨g', hg0', hg'⟩ := first_envier K Ch.hin
    refine sub_ints (is := zs (enviersOf ps g left)) ⟨d, rfl, hd⟩ (by decide) (zs_get hg0') (elen g) ?_
    walk_at "ss"
    have Ch2 := Ch.next hin hg'
    have hcs2 : (cs ++ [g]).length ≤ left.length := nodup_sub_len Ch2.nd Ch2.sub
    rw [List.length_append, List.length_singleton] at hcs2
    with_reducible refine loopQ_next (hP (9 - (cs ++ [g]).length) (by rw [List.length_append, List.length_singleton]; walk_at "o") _ _ ?_)
    exact ⟨cs ++ [g], g', rfl, A2.grow E4, Ch2, rfl⟩

theorem ring_of_spec (O : Ok t u k) (hv : IsT m v t) (hw : IsT m w u) (h0 : ∀ fs m', Ext m m' → Line (pairs t u) t.length fs → Q .none m')
    (h1 : ∀ b ws m', Ext m m' → m b = none → m' b = some (.list ((zs ws).map .int)) → Way ws t.length → Around (pairs t u) ws → Q (.ref b) m') : CN (n + 4) 34 [v, w] Q X m := by
  (refine call_eq rfl rfl ?_; dsimp only [f_ring_of, sts, loc0, List.map, List.replicate, List.cons_append, List.nil_append, List.length, Nat.reduceAdd, Nat.reduceSub])
  walk_at "ss"
  refine pairs_spec O hv hw fun a m1 E1 _ ha => ?_
  walk_at "ss"
  try dsimp only [setV]
  refine len_ll (hv.ext E1) (lid_of O.tl) ?_
  walk_at "ss"
  refine parted_spec pairs_rp O.t8 ha (pairs_lt O) fun f c fs left m2 E2 _ hf hc hcase => ?_
  refine subW_ (xs := [.ref f, .ref c]) rfl rfl rfl (lid_of (show 2 < 1000 by decide)) ?_
  walk_at "ss"
  try dsimp only [setV]
  refine freshL_ (lid_of (by decide)) fun d hd => ?_
  have E3 := Ext.set (o := .list []) hd
  refine cmp_eqII (a := zs left) (b := []) ⟨c, rfl, E3 c _ hc⟩ IsL.new ?_
  have E4 := E1.trans (E2.trans E3)
  rcases hcase with ⟨rfl, hL⟩ | ⟨K, hlt, hnd⟩
  · refine asB_ (ifQ_t (dec_t rfl) ?_)
    walk_at "ss"
    exact h0 fs _ E4 hL
  · refine asB_ (ifQ_f (dec_f fun q => K.1 (List.map_eq_nil_iff.mp q)) ?_)
    walk_at "ss"
    refine ring_among_spec pairs_rp O.t8 (E3 a _ (E2 a _ ha)) (pairs_lt O) K hlt hnd (E3 c _ hc) fun b ws m5 E5 hb0 hb W Ar => ?_
    walk_at "ss"
    exact h1 b ws _ (E4.trans E5) (none_of E4 hb0) hb W Ar
end

section
variable {C : CallT} {G : String → Option Val} {Q : Val → Mem → Prop} {X : Nat → Mem → Prop} {m : Mem} {n : Nat} {t u f : List (List Int)} {k N : Nat} {v w : Val} {loc : Loc} {R : Flow → Loc → Mem → Prop} {Y : Nat → Loc → Mem → Prop} {ws : List Nat}

theorem turned_by_spec (W : Way ws u.length) (h8 : u.length ≤ 8) (hs : ∀ s ∈ u, s.length < 1000) (hv : IsT m v u) (hw : IsI m w (zs ws)) (h : ∀ f v' m', Ext m m' → Own m m' v' f → Turn u ws f → Q v' m') : CN (n + 1) 37 [v, w] Q X m := by
  have hul : u.length < 1000 := by walk_at "o"
  (refine call_eq rfl rfl ?_; dsimp only [f_turned_by, sts, loc0, List.map, List.replicate, List.cons_append, List.nil_append, List.length, Nat.reduceAdd, Nat.reduceSub])
  walk_at "ss"
  refine copies (Nat.lt_succ_self 4) hv hul hs fun vF m1 E1 oF => ?_
  walk_at "ss"
  dsimp only [setV]
  refine len_way (hw.ext E1) W h8 ?_
  refine items_range (rng8 (Nat.le_trans W.len h8)) ?_
  refine for_inv (fun i l m' => ∃ y3 f, l = [some v, some w, some vF, y3, none] ∧ Ext m m' ∧ Own m m' vF f ∧ TurnTo u ws 0 i f) ⟨none, u, rfl, E1, oF, .start 0⟩ (fun i x l m' hx hI P hP => ?_) fun l m' hI => ?_
  · obtain ⟨y3, f, rfl, E, o, T⟩ := hI
    obtain ⟨hi, rfl⟩ := range_get hx
    have hi : i < ws.length := hi
    have hwE := hw.ext E
    refine bodyF_one ?_
    dsimp only [setV]
    walk_at "ss"
    refine len_way hwE W h8 ?_
    have hne : ((ws.length : Nat) : Int) ≠ 0 ∧ tiny (ws.length : Nat) := ⟨by walk_at "o", by have := W.len; unfold tiny; walk_at "o"⟩
    refine bin_mod hne ?_
    rw [show ((i : Int) + 1).fmod (ws.length : Nat) = (((i + 1) % ws.length : Nat) : Int) from fmod_nat (i + 1) ws.length]
    refine way_mod W h8 hwE (i + 1) ?_
    refine sub_ll (hv.ext E) (nn _) (getDL (rg_lt W (i + 1))) (lid_of hul) fun y hy => ?_
    refine b1_list hy.seq (freshL_ (by rw [List.length_map]; exact lid_of (hs _ (getDL_mem (rg_lt W (i + 1))))) fun e he => ?_)
    walk_at "ss"
    refine way_at W h8 (hwE.ext (Ext.set he)) hi ?_
    refine o.relist E (by rw [T.len]; exact rg_lt W i) (by rw [T.len]; exact hul) he fun m2 E2 o2 _ => ?_
    walk_at "ss"
    with_reducible refine loopQ_next (hP _ _ ?_)
    have T2 := T.next W hi
    rw [Nat.zero_add] at T2
    exact ⟨trivial, _, _, rfl, E2, o2, T2⟩
  · obtain ⟨y3, f, rfl, E, o, T⟩ := hI
    rw [range_len] at T
    walk_at "ss"
    exact h _ _ _ E o (T.done W)

end

section
variable {C : CallT} {G : String → Option Val} {Q : Val → Mem → Prop} {X : Nat → Mem → Prop} {m : Mem} {n : Nat} {t u : List (List Int)} {k N : Nat} {v w : Val} {loc : Loc} {R : Flow → Loc → Mem → Prop} {Y : Nat → Loc → Mem → Prop} {x : Int}

theorem free_of {ps : List (Nat × Nat)} (Rr : Rp ps N) {j : Nat} (hj : j < N) (he : enviersOf ps j (List.range N) = []) (hl : ∃ i, (List.range N)[i]? = some j ∧ ∀ y ∈ (List.range N).take i, enviersOf ps y (List.range N) ≠ []) : Free ps N j := by
  obtain ⟨i, hi, hall⟩ := hl
  have hij : i = j := by
    obtain ⟨_, e⟩ := List.getElem?_eq_some_iff.mp hi
    rw [List.getElem_range] at e
    exact e
  subst hij
  refine ⟨hj, fun a ha => ?_, fun j' hj' => ?_⟩
  · have : a ∈ enviersOf ps i (List.range N) := mem_enviers.mpr ⟨ha, List.mem_range.mpr (Rr.lt _ ha).1⟩
    rw [he] at this
    cases this
  · have hm : j' ∈ (List.range N).take i := by
      rw [List.take_range]
      exact List.mem_range.mpr (by walk_at "o")
    have := hall j' hm
    cases e : enviersOf ps j' (List.range N) with
    | nil => exact absurd e this
    | cons a r =>
      have ha : a ∈ enviersOf ps j' (List.range N) := by rw [e]; exact .head _
      exact ⟨a, (mem_enviers.mp ha).1⟩
theorem tuple_of {a : Addr} {xs : List Val} (ha : m a = some (.list xs)) (hl : xs.length < lid) (h : Q (.tup xs) m) : wpB1 .tuple (.ref a) Q m := Exists.intro xs ⟨IsL.lst ⟨a, rfl, ha⟩, hl, h⟩

theorem Own.base {m0 m1 : Mem} (E : Ext m0 m1) (h : Own m1 m v t) : Own m0 m v t := by
  obtain ⟨a, bs, rfl, ha, hn, hl, h0, hb, hr⟩ := h
  exact ⟨a, bs, rfl, ha, hn, hl, none_of E h0, fun b hb' => ⟨none_of E (hb b hb').1, (hb b hb').2⟩, hr⟩
theorem Own.less {m0 : Mem} (h : Own m0 m v t) {f : Addr} {o : AObj} (hf : m0 f = some o) : Own m0 (m.del f) v t := by
  obtain ⟨a, bs, rfl, ha, hn, hl, h0, hb, hr⟩ := h
  have ne : ∀ {c}, m0 c = none → c ≠ f := fun hc e => by subst e; rw [hc] at hf; cases hf
  exact ⟨a, bs, rfl, by rw [del_ne (ne h0)]; exact ha, hn, hl, h0, hb, fun j b r h1 h2 => by rw [del_ne (ne (hb b (List.mem_of_getElem? h1)).1)]; exact hr j b r h1 h2⟩
noncomputable def ringV (ws : List Nat) : Val := .tup [.str (Str.ofString "ring"), .tup ((zs ws).map .int)]
noncomputable def giveV (x : Int) (j : Nat) : Val := .tup [.str (Str.ofString "give"), .int x, .int (j : Nat)]
inductive Path (t u : List (List Int)) : List (List Nat) → List (List Int) → Prop
  | nil : Path t u [] u
  | more {wss : List (List Nat)} {v w : List (List Int)} {ws : List Nat} : Path t u wss v → Way ws t.length → Around (pairs t v) ws → Turn v ws w → Path t u (wss ++ [ws]) w
theorem Path.reach {wss : List (List Nat)} {v : List (List Int)} (h : Path t u wss v) : Reach t u v := by
  induction h with
  | nil => exact .refl _
  | more _ W A T ih => exact ih.trans (.step W A T (.refl _))
structure GSt (m : Mem) (t u : List (List Int)) (f : Addr) (vN hv : Val) (w : List (List Int)) (wss : List (List Nat)) (m2 : Mem) : Prop where
  mem : ∃ mr, Ext m mr ∧ mr f = none ∧ m2 = mr.set f (.list (wss.map ringV)) ∧ wss.length + (pairs t w).length < 200 ∧ Own m mr vN w ∧ ∀ c, hv = .ref c → mr c ≠ none
  path : Path t u wss w
  next : (hv = .none ∧ NoRing (pairs t w) t.length) ∨ ∃ c ws, hv = .ref c ∧ m2 c = some (.list ((zs ws).map .int)) ∧ Way ws t.length ∧ Around (pairs t w) ws

theorem given_tail (O : Ok t u k) (hx : 0 ≤ x ∧ x.toNat < k) (hn : x ∉ u.flatten) (hv : IsT m v t) {wS : Val} {f : Addr} (hf : m f = none) {vN hh : Val} {w : List (List Int)} {wss : List (List Nat)} {m2 : Mem} (S : GSt m t u f vN hh w wss m2)
    (h : ∀ wss vN v u' j m', Ext m m' → m' f = some (.list (wss.map ringV ++ [giveV x j])) → Own m m' vN u' → Path t u wss v → NoRing (pairs t v) t.length → Free (pairs t v) t.length j → GaveTo v x j u' → Q (.tup [.ref f, vN]) m') :
    wpSs (CN (n + 4)) (globOf GS) (Sts.drop 3 f_given.body) (retQ Q) (fun c _ m' => X c m') [some v, some wS, some (.int x), some (.ref f), some vN, some hh, none, none] m2 := by
  dsimp only [f_given, sts, Sts.drop]
  walk_at "ss"
  refine s_whiles _ (while_inv (fun r l m' => ∃ vN hh w wss, l = [some v, some wS, some (.int x), some (.ref f), some vN, some hh, none, none] ∧ GSt m t u f vN hh w wss m' ∧ (pairs t w).length ≤ r) (fun r l m' hI P hP => ?_) (pairs t w).length _ _ ⟨vN, hh, w, wss, rfl, S, Nat.le_refl _⟩)
  clear S
  obtain ⟨vN, hh, w, wss, rfl, S, hr⟩ := hI
  obtain ⟨⟨mr, Er, hrf, rfl, hLl, oN, hcn⟩, hpath, hnext⟩ := S
  have hreach := hpath.reach
  have Ow := hreach.ok O
  have Ef := Ext.set (o := .list (wss.map ringV)) hrf
  walk_at "ss"
  have E0 := Er.trans Ef
  rcases hnext with ⟨rfl, hno⟩ | ⟨c, ws, rfl, hc, W, Ar⟩
  · with_reducible refine ifQ_f rfl ?_
    walk_at "ss"
    refine pairs_spec Ow (hv.ext E0) (oN.isT.ext Ef) fun a m3 E3 _ ha => ?_
    walk_at "ss"
    refine len_ll (hv.ext (E0.trans E3)) (lid_of O.tl) ?_
    refine b1_lrange (rng8 O.t8) ?_
    rw [zs_range]
    refine freshL_ (by rw [List.length_map, zs_len, List.length_range]; exact lid_of O.tl) fun b hb => ?_
    walk_at "ss"
    have Eb := Ext.set (o := .list ((zs (List.range t.length)).map .int)) hb
    refine first_free_spec (left := List.range t.length) (Eb a _ ha) (pairs_lt Ow) (by rw [List.length_range]; exact O.t8) IsL.new (fun m4 E4 hnone => ?_) (fun j m4 E4 hj he hleast => ?_)
    · exfalso
      obtain ⟨j, F⟩ := hno.free pairs_rp (by obtain ⟨r, t', e, _⟩ := O.row0; rw [e]; exact Nat.succ_pos _)
      have := hnone j (List.mem_range.mpr F.lt)
      cases e : enviersOf (pairs t w) j (List.range t.length) with
      | nil => exact this e
      | cons a r =>
        have ha : a ∈ enviersOf (pairs t w) j (List.range t.length) := by rw [e]; exact .head _
        exact F.no a (mem_enviers.mp ha).1
    have F := free_of pairs_rp (List.mem_range.mp hj) he hleast
    walk_at "ss"
    dsimp only [setV]
    have E14 : Ext (mr.set f (.list (wss.map ringV))) m4 := (E3.trans Eb).trans E4
    have hf4 := E14 f _ set_eq
    refine isL_ hf4 ?_
    walk_at "ss"
    refine ⟨lid_of (show 3 < 1000 by decide), ?_⟩
    refine appQ_ hf4 (lid_of (by rw [List.length_map]; walk_at "o")) ?_
    walk_at "ss"
    have hjw : j < w.length := by rw [Ow.len]; exact F.lt
    obtain ⟨mr4, E4r, hr4f, e4⟩ := grow_set (L' := .list (wss.map ringV ++ [giveV x j])) hrf E14
    rw [show m4.set f (AObj.list (wss.map ringV ++ [Val.tup [.str (Str.ofString "give"), .int x, .int (j : Nat)]])) = _ from e4]
    have o4 := oN.ext E4r
    have Ef4 := Ext.set (o := .list (wss.map ringV ++ [giveV x j])) hr4f
    have hsl := Ow.sl (getDL_mem hjw)
    have o5 := o4.ext Ef4
    refine sub_ll o5.isT (nn j) (getDL hjw) (lid_of Ow.ul) fun y hy => ?_
    walk_at "ss"
    refine freshL_ (lid_of (show 1 < 1000 by decide)) fun d hd => ?_
    have Ed := Ext.set (o := .list [Val.int x]) hd
    obtain ⟨b', rfl, hb'⟩ := hy
    refine bin_addL (xs := (w.getD j []).map .int) (ys := [.int x]) (IsL.lst ⟨b', rfl, Ed b' _ hb'⟩) (IsL.lst ⟨d, rfl, set_eq⟩) ?_
    rw [show (w.getD j []).map Val.int ++ [.int x] = (w.getD j [] ++ [x]).map .int by rw [List.map_append]; rfl]
    refine freshL_ (by rw [List.length_map, List.length_append]; exact lid_of (by show _ + 1 < 1000; walk_at "o")) fun d2 hd2 => ?_
    have Ed2 := Ed.trans (Ext.set (o := .list ((w.getD j [] ++ [x]).map .int)) hd2)
    have hkw : (w.getD j [] ++ [x]).length < 64 := by
      rw [List.length_append, List.length_singleton]
      have h1 := Ow.fit _ (getDL_mem hjw)
      have h2 := O.k40
      walk_at "o"
    refine b1_sorted (is := w.getD j [] ++ [x]) IsL.new hkw fun js hp hs => ?_
    refine freshL_ (by rw [List.length_map, hp.length_eq]; exact lid_of (sl1 hkw)) fun e he => ?_
    walk_at "ss"
    have o6 := o5.ext Ed2
    refine o6.relist ((Er.trans E4r).trans (Ef4.trans Ed2)) hjw Ow.ul he fun m6 E6 o7 keep => ?_
    have hfv : vN ≠ .ref f := fun q => by
      obtain ⟨a, bs, e, ha, _⟩ := o4
      rw [q] at e
      cases e
      rw [hr4f] at ha
      cases ha
    walk_at "ss"
    refine ⟨lid_of (show 2 < 1000 by decide), ?_⟩
    walk_at "ss"
    exact h _ _ _ _ _ _ E6 (keep f _ hfv (Ed2 f _ set_eq)) o7 hpath hno F ⟨js, hp, hs, rfl⟩
  · with_reducible refine ifQ_t rfl ?_
    walk_at "ss"
    refine isL_ set_eq ?_
    walk_at "ss"
    have hcf : c ≠ f := fun e => by subst e; exact hcn c rfl hrf
    have hcr : mr c = some (.list ((zs ws).map .int)) := by rw [set_ne hcf] at hc; exact hc
    have hwl : ((zs ws).map Val.int).length < lid := by rw [List.length_map, zs_len]; exact lid_of (by have := W.len; have := O.t8; walk_at "o")
    refine tuple_of hc hwl ?_
    walk_at "ss"
    refine ⟨lid_of (show 2 < 1000 by decide), ?_⟩
    refine appQ_ set_eq (lid_of (by rw [List.length_map]; walk_at "o")) ?_
    walk_at "ss"
    rw [set_set]
    have Ef2 := Ext.set (o := .list (wss.map ringV ++ [ringV ws])) hrf
    have Wu : Way ws w.length := by rw [Ow.len]; exact W
    refine turned_by_spec Wu (by rw [Ow.len]; exact O.t8) (fun s hs => sl1 (Ow.sl hs)) (oN.isT.ext Ef2) ⟨c, rfl, Ef2 c _ hcr⟩ fun w' vN' m3 E3 o3 T => ?_
    have Ow' := T.ok Ow Wu
    have hfew := T.fewer Wu Ow.len Ar.envied
    have hpath' := Path.more hpath W Ar T
    have E13 := (Er.trans Ef2).trans E3
    walk_at "ss"
    dsimp only [setV]
    have go : ∀ (m4 : Mem) (hv' : Val), Ext m3 m4 → (∀ c, hv' = .ref c → c ≠ f ∧ m4 c ≠ none) → ∃ mr', Ext m mr' ∧ mr' f = none ∧ m4 = mr'.set f (.list ((wss ++ [ws]).map ringV)) ∧ (wss ++ [ws]).length + (pairs t w').length < 200 ∧ Own m mr' vN' w' ∧ ∀ c, hv' = .ref c → mr' c ≠ none := fun m4 hv' E4 hc' => by
      have E24 := E3.trans E4
      refine ⟨m4.del f, (E13.trans E4).less hf, del_eq, by rw [del_set, List.map_append]; exact (set_same (E24 f _ set_eq)).symm, by rw [List.length_append, List.length_singleton]; walk_at "o", ?_, fun c' e' => ?_⟩
      · exact ((o3.ext E4).less set_eq).base (Er.trans Ef2)
      · obtain ⟨h1, h2⟩ := hc' c' e'
        rw [del_ne h1]; exact h2
    obtain ⟨r', rfl⟩ : ∃ r', r = r' + 1 := ⟨r - 1, by walk_at "o"⟩
    refine ring_of_spec Ow' (hv.ext E13) o3.isT (fun fs m4 E4 hL => ?_) (fun b ws' m4 E4 hb0 hb W' Ar' => ?_)
    · walk_at "ss"
      with_reducible refine loopQ_next (hP r' rfl _ _ ?_)
      exact ⟨vN', .none, w', _, rfl, ⟨go m4 .none E4 (fun c e => by cases e), hpath', .inl ⟨rfl, hL.noRing⟩⟩, by walk_at "o"⟩
    · walk_at "ss"
      with_reducible refine loopQ_next (hP r' rfl _ _ ?_)
      have hbf : b ≠ f := fun e => by subst e; rw [E3 b _ set_eq] at hb0; cases hb0
      exact ⟨vN', .ref b, w', _, rfl, ⟨go m4 (.ref b) E4 (fun c e => by cases e; exact ⟨hbf, by rw [hb]; exact fun q => nomatch q⟩), hpath', .inr ⟨b, ws', rfl, hb, W', Ar'⟩⟩, by walk_at "o"⟩

theorem given_full (O : Ok t u k) (hx : 0 ≤ x ∧ x.toNat < k) (hn : x ∉ u.flatten) (hv : IsT m v t) (hw : IsT m w u)
    (h : ∀ f wss vN v' u' j m', Ext m m' → m f = none → m' f = some (.list (wss.map ringV ++ [giveV x j])) → Own m m' vN u' → Path t u wss v' → NoRing (pairs t v') t.length → Free (pairs t v') t.length j → GaveTo v' x j u' → Q (.tup [.ref f, vN]) m') : CN (n + 5) 41 [v, w, .int x] Q X m := by
  (refine call_eq rfl rfl ?_; dsimp only [f_given, sts, loc0, List.map, List.replicate, List.cons_append, List.nil_append, List.length, Nat.reduceAdd, Nat.reduceSub])
  walk_at "ss"
  refine freshL_ (lid_of (by decide)) fun f hf => ?_
  have Ef := Ext.set (o := .list []) hf
  walk_at "ss"
  refine copies (by show 7 < 8; decide) (hw.ext Ef) O.ul (fun s hs => sl1 (O.sl hs)) fun vN m1 E1 o1 => ?_
  refine seqQ_next (s_cons (s_asg (e_call (l_pv _ (by with_unfolding_all rfl) ?_))))
  have E01 := Ef.trans E1
  have hpl := pairs_lt O
  have go : ∀ (m2 : Mem) (hv' : Val), Ext m1 m2 → (∀ c, hv' = .ref c → c ≠ f ∧ m2 c ≠ none) → ∃ mr', Ext m mr' ∧ mr' f = none ∧ m2 = mr'.set f (.list (([] : List (List Nat)).map ringV)) ∧ ([] : List (List Nat)).length + (pairs t u).length < 200 ∧ Own m mr' vN u ∧ ∀ c, hv' = .ref c → mr' c ≠ none := fun m2 hv' E2 hc' => by
    refine ⟨m2.del f, (E01.trans E2).less hf, del_eq, by rw [del_set]; exact (set_same ((E1.trans E2) f _ set_eq)).symm, by show 0 + _ < 200; walk_at "o", ((o1.ext E2).less set_eq).base Ef, fun c' e' => ?_⟩
    obtain ⟨h1, h2⟩ := hc' c' e'
    rw [del_ne h1]; exact h2
  refine ring_of_spec O (hv.ext E01) o1.isT (fun fs m2 E2 hL => ?_) (fun b ws m2 E2 hb0 hb W Ar => ?_)
  · exact seqQ_next (given_tail O hx hn hv hf ⟨go m2 .none E2 (fun c e => by cases e), .nil, .inl ⟨rfl, hL.noRing⟩⟩ fun wss vN v' u' j m' E h1 h2 h3 h4 h5 h6 => h f wss vN v' u' j m' E hf h1 h2 h3 h4 h5 h6)
  · have hbf : b ≠ f := fun e => by subst e; rw [E1 b _ set_eq] at hb0; cases hb0
    exact seqQ_next (given_tail O hx hn hv hf ⟨go m2 (.ref b) E2 (fun c e => by cases e; exact ⟨hbf, by rw [hb]; exact fun q => nomatch q⟩), .nil, .inr ⟨b, ws, rfl, hb, W, Ar⟩⟩ fun wss vN v' u' j m' E h1 h2 h3 h4 h5 h6 => h f wss vN v' u' j m' E hf h1 h2 h3 h4 h5 h6)
theorem given_spec (O : Ok t u k) (hx : 0 ≤ x ∧ x.toNat < k) (hn : x ∉ u.flatten) (hv : IsT m v t) (hw : IsT m w u) (h : ∀ f L vN u' m', Ext m m' → m f = none → m' f = some (.list L) → Own m m' vN u' → Given t u x u' → Q (.tup [.ref f, vN]) m') : CN (n + 5) 41 [v, w, .int x] Q X m :=
  given_full O hx hn hv hw fun f wss vN v' u' j m' E h0 h1 h2 h3 h4 h5 h6 => h f _ vN u' m' E h0 h1 h2 ⟨v', h3.reach, h4, j, h5, h6⟩
end

section deals
variable {t u u0 v : List (List Int)} {k N : Nat} {x : Int} {xs : List Int}
inductive Deals (t u0 : List (List Int)) : List Int → List (List Int) → Prop
  | nil : Deals t u0 [] u0
  | more {xs : List Int} {x : Int} {u u' : List (List Int)} : Deals t u0 xs u → Given t u x u' → Deals t u0 (xs ++ [x]) u'
noncomputable def empt (N : Nat) : List (List Int) := (List.range N).map fun _ => []
end deals

section
variable {C : CallT} {G : String → Option Val} {Q : Val → Mem → Prop} {X : Nat → Mem → Prop} {m : Mem} {n : Nat} {t u : List (List Int)} {k N : Nat} {v w : Val} {loc : Loc} {R : Flow → Loc → Mem → Prop} {Y : Nat → Loc → Mem → Prop} {x : Int} {ps : List (Nat × Nat)} {a : Addr}

theorem zs_nd (K : Nat) : (zs (List.range K)).Nodup := by
  unfold zs
  rw [List.nodup_iff_pairwise_ne, List.pairwise_map]
  exact List.nodup_range.imp fun h e => h (Int.ofNat.inj e)
theorem need_aside_spec (O : Ok t u k) (hx : 0 ≤ x ∧ x.toNat < k) (hn : x ∉ u.flatten) (hv : IsT m v t) (hw : IsT m w u) (h : Q .none m) : CN (n + 2) 40 [v, w, .int x] Q X m := by
  obtain ⟨r0, t', et, hr0⟩ := O.row0
  have hk := O.k40
  (refine call_eq rfl rfl ?_; dsimp only [f_need_aside, sts, loc0, List.map, List.replicate, List.cons_append, List.nil_append, List.length, Nat.reduceAdd, Nat.reduceSub])
  walk_at "ss"
  refine sub_ll hv (by decide) (x := r0) (by rw [et]; rfl) (lid_of O.tl) fun y hy => ?_
  walk_at "ss"
  refine len_ints hy (lid_of (by rw [hr0]; walk_at "o")) ?_
  walk_at "ss"
  refine is_among_spec ?_
  rw [decide_eq_true (show 0 ≤ x ∧ x ≤ (r0.length : Int) - 1 by rw [hr0]; walk_at "o")]
  walk_at "ss"
  obtain ⟨xs, e1, e2⟩ := id hw
  refine items_list e1.seq (by rw [e2.length]; exact lid_of O.ul) ?_
  refine for_inv (fun i l m' => ∃ y, l = [some v, some w, some (.int x), y] ∧ m' = m) ⟨none, rfl, rfl⟩ (fun i y2 l m' hy2 hI P hP => ?_) fun l m' hI => ?_
  · obtain ⟨z, rfl, rfl⟩ := hI
    obtain ⟨s, hs, hys⟩ := e2.get hy2
    refine bodyF_one ?_
    dsimp only [setV]
    walk_at "ss"
    refine cmp_inI hys ?_
    rw [decide_eq_false fun q => hn (List.mem_flatten.mpr ⟨s, List.mem_of_getElem? hs, q⟩)]
    walk_at "ss"
    with_reducible refine loopQ_next (hP _ _ ?_)
    exact ⟨e1.stands e1, _, rfl, rfl⟩
  · obtain ⟨z, rfl, rfl⟩ := hI
    walk_at "ss"
    exact h
theorem awarded_spec (O : Ok t u k) (hx : 0 ≤ x ∧ x.toNat < k) (hn : x ∉ u.flatten) (hv : IsT m v t) (hw : IsT m w u) (h : ∀ vN u' m', Ext m m' → Own m m' vN u' → Given t u x u' → Q vN m') : CN (n + 6) 43 [v, w, .int x] Q X m := by
  (refine call_eq rfl rfl ?_; dsimp only [f_awarded, sts, loc0, List.map, List.replicate, List.cons_append, List.nil_append, List.length, Nat.reduceAdd, Nat.reduceSub])
  walk_at "ss"
  refine need_ok O hv hw fun m1 E1 => ?_
  walk_at "ss"
  refine need_aside_spec O hx hn (hv.ext E1) (hw.ext E1) ?_
  walk_at "ss"
  refine given_spec O hx hn (hv.ext E1) (hw.ext E1) fun f L vN u' m2 E2 _ hf o2 hG => ?_
  refine subW_ (xs := [.ref f, vN]) rfl rfl rfl (lid_of (show 2 < 1000 by decide)) ?_
  walk_at "ss"
  exact h _ _ _ (E1.trans E2) (o2.base E1) hG

theorem dec_t' {p : Prop} {inst : Decidable p} (h : p) : @decide p inst = true := decide_eq_true h
theorem flat_take_len {u : List (List Int)} (i : Nat) : (u.take i).flatten.length ≤ u.flatten.length := by
  conv => rhs; rw [← List.take_append_drop i u]
  rw [List.flatten_append, List.length_append]; walk_at "o"
theorem all_true {α : Type} (l : List α) : (l.map fun _ => true).all id = true := by rw [List.all_map, List.all_eq_true]; intros; rfl
theorem wholes {i : Nat} {is : List Int} (hi : i < loc.length) (hv : IsI m v is) (hl : is.length < 1000) (h : ∀ m', Ext m m' → Q (.bool true) m') :
    itemsW .plain v (fun xs => compLoop (cF (CN (n + 1)) (globOf GS) X (.call 19 (.cons (.nm i) .nil)) (.one i) .nil loc) (stands .plain v m) xs [] (fun ys m' => freshL m' ys fun x m1 => wpB1 .all x Q m1) m) m := by
  refine items_list hv.seq (by rw [List.length_map]; exact lid_of hl) ?_
  refine comp_pure (g := fun _ => .bool true) (IsL.stands (k := .plain) hv hv) (fun x hx P hP => ?_) ?_
  · obtain ⟨z, _, rfl⟩ := List.mem_map.mp hx
    exact e_call (l_cons (e_nm (gv_set hi) (l_nil (whole_spec hP))))
  refine freshL_ (by rw [List.length_map, List.length_map]; exact lid_of hl) fun c hc => ?_
  refine b1_all (bs := is.map fun _ => true) (by rw [IsL.new.lst, List.map_map, List.map_map]; rfl) ?_
  rw [all_true]
  exact h _ (Ext.set hc)
theorem lparted_spec (O : Ok t u k) {js : List Int} (hjs : js.Perm u.flatten) (hso : js.Pairwise (· ≤ ·)) (hl : u.flatten.length < 64) {f z : Val} (hN : t.length = N) (hf : IsT m f u) (hz : IsI m z js) (h : ∀ m', Ext m m' → Q (.bool true) m') : CN (n + 2) 88 [f, .int (N : Nat), z] Q X m := by
  (refine call_eq rfl rfl ?_; dsimp only [f_L_parted, sts, loc0, List.map, List.replicate, List.cons_append, List.nil_append, List.length, Nat.reduceAdd, Nat.reduceSub])
  walk_at "ss"
  refine isList_ll hf ?_
  walk_at "ss"
  refine len_ll hf (lid_of O.ul) ?_
  walk_at "ss"
  refine ifQ_f (decide_eq_false fun q => q (by rw [O.len, hN])) ?_
  walk_at "ss"
  refine freshL_ (lid_of (by decide)) fun c hc => ?_
  have Ec := Ext.set (o := .list []) hc
  walk_at "ss"
  dsimp only [setV]
  obtain ⟨xs, e1, e2⟩ := hf.ext Ec
  refine items_list e1.seq (by rw [e2.length]; exact lid_of O.ul) ?_
  refine for_inv (fun i l m' => ∃ c y4, l = [some f, some (.int (N : Nat)), some z, some (.ref c), y4, none] ∧ Ext (m.set c (.list [])) (m.set c (.list [])) ∧ Ext m m' ∧ IsL m' f xs ∧ All2 (IsI m') xs u ∧ m' c = some (.list ((u.take i).flatten.map .int))) ⟨c, none, rfl, .refl, Ec, e1, e2, set_eq⟩ (fun i x l m' hx hI P hP => ?_) fun l m' hI => ?_
  · obtain ⟨c, y4, rfl, _, E, e1', e2', hcc⟩ := hI
    obtain ⟨s, hs, hxs⟩ := e2'.get hx
    have hsm := List.mem_of_getElem? hs
    have hsl := O.sl hsm
    refine bodyF_one ?_
    dsimp only [setV]
    walk_at "ss"
    refine isList_ints hxs ?_
    walk_at "ss"
    refine wholes (loc := [_, _, _, _, _, _]) (show 5 < 6 by decide) hxs (sl1 hsl) fun m2 E2 => ?_
    walk_at "ss"
    refine b1_sorted (hxs.ext E2) hsl fun ks hp hs' => ?_
    have hks : ks = s := by
      refine sorted_eq hp hs' ?_
      have h := O.share hsm
      simp only [shareOk, Bool.and_eq_true, decide_eq_true_eq] at h
      exact h.2
    subst hks
    refine freshL_ (by rw [List.length_map]; exact lid_of (sl1 hsl)) fun d hd => ?_
    have Ed := Ext.set (o := .list (ks.map .int)) hd
    refine cmp_neII (a := ks) (b := ks) (hxs.ext (E2.trans Ed)) IsL.new ?_
    rw [show decide (ks ≠ ks) = false from decide_eq_false fun q => q rfl]
    walk_at "ss"
    have E3 := E2.trans Ed
    obtain ⟨b, rfl, hb⟩ := hxs
    refine bin_addL (xs := (u.take i).flatten.map .int) (ys := ks.map .int) (IsL.lst ⟨c, rfl, E3 c _ hcc⟩) (IsL.lst ⟨b, rfl, E3 b _ hb⟩) ?_
    have hflat : (u.take i).flatten.map Val.int ++ ks.map .int = (u.take (i + 1)).flatten.map .int := by
      rw [List.take_add_one, hs, List.flatten_append, List.map_append]
      simp
    rw [hflat]
    refine freshL_ (by rw [List.length_map]; exact lid_of (Nat.lt_of_le_of_lt (flat_take_len (i + 1)) (by walk_at "o"))) fun d2 hd2 => ?_
    have E4 := E3.trans (Ext.set (o := .list ((u.take (i + 1)).flatten.map .int)) hd2)
    walk_at "ss"
    with_reducible refine loopQ_next (hP _ _ ?_)
    exact ⟨e1.stands (e1'.ext E4), d2, _, rfl, .refl, E.trans E4, e1'.ext E4, e2'.mono fun _ _ q => q.ext E4, set_eq⟩
  · obtain ⟨c, y4, rfl, _, E, e1', e2', hcc⟩ := hI
    rw [e2.length, List.take_length] at hcc
    walk_at "ss"
    refine b1_sorted (is := u.flatten) ⟨c, rfl, hcc⟩ hl fun ks hp hs' => ?_
    have hks : ks = js := sorted_eq (hp.trans hjs.symm) hs' hso
    subst hks
    refine freshL_ (by rw [List.length_map, hp.length_eq]; exact lid_of (sl1 hl)) fun d hd => ?_
    have Ed := Ext.set (o := .list (ks.map .int)) hd
    walk_at "ss"
    refine cmp_eqII (a := ks) (b := ks) IsL.new (hz.ext (E.trans Ed)) ?_
    rw [dec_t' rfl]
    walk_at "ss"
    exact h _ (E.trans Ed)
end

section peels
variable {ps : List (Nat × Nat)} {N : Nat} {left : List Nat}
noncomputable def seenOf (ps : List (Nat × Nat)) (left : List Nat) : List Nat := (ps.filter fun p => decide (p.1 ∈ left)).map (·.2)
noncomputable def peel (ps : List (Nat × Nat)) (left : List Nat) : List Nat := left.filter fun x => decide (x ∈ seenOf ps left)
noncomputable def peelN (ps : List (Nat × Nat)) : Nat → List Nat → List Nat
  | 0, left => left
  | n + 1, left => peel ps (peelN ps n left)
theorem mem_seen {x : Nat} : x ∈ seenOf ps left ↔ ∃ y ∈ left, (y, x) ∈ ps := by
  unfold seenOf
  simp only [List.mem_map, List.mem_filter, decide_eq_true_eq]
  constructor
  · rintro ⟨⟨a, b⟩, ⟨h1, h2⟩, rfl⟩; exact ⟨a, h2, h1⟩
  · rintro ⟨y, h1, h2⟩; exact ⟨(y, x), ⟨h2, h1⟩, rfl⟩
theorem peel_less (R : Rp ps N) (h : NoRing ps N) (hlt : ∀ y ∈ left, y < N) (hnd : left.Nodup) : (peel ps left).length ≤ left.length - 1 := by
  by_cases q : left = []
  · subst q; exact Nat.zero_le _
  have ex : ∃ x ∈ left, ¬ decide (x ∈ seenOf ps left) = true := by
    refine Classical.byContradiction fun hn => ?_
    have K : Core ps left := ⟨q, fun x hx => mem_seen.mp (of_decide_eq_true (Classical.byContradiction fun h' => hn ⟨x, hx, h'⟩))⟩
    obtain ⟨ws, W, A⟩ := K.ring R hlt hnd
    exact h ws W A
  have := List.length_filter_lt_length_iff_exists.mpr ex
  unfold peel
  walk_at "o"
theorem peelN_props (hlt : ∀ y ∈ left, y < N) (hnd : left.Nodup) : ∀ n, (∀ y ∈ peelN ps n left, y < N) ∧ (peelN ps n left).Nodup
  | 0 => ⟨hlt, hnd⟩
  | n + 1 => ⟨fun y hy => (peelN_props hlt hnd n).1 y (List.mem_filter.mp hy).1, (peelN_props hlt hnd n).2.filter _⟩
theorem peelN_less (R : Rp ps N) (h : NoRing ps N) (hlt : ∀ y ∈ left, y < N) (hnd : left.Nodup) : ∀ n, (peelN ps n left).length ≤ left.length - n
  | 0 => Nat.le_refl _
  | n + 1 => by
    have h1 := peelN_less R h hlt hnd n
    have h2 := peel_less R h (peelN_props (ps := ps) hlt hnd n).1 (peelN_props (ps := ps) hlt hnd n).2
    show (peel ps (peelN ps n left)).length ≤ _
    walk_at "o"
theorem peel_done (R : Rp ps N) (h : NoRing ps N) : peelN ps N (List.range N) = [] := by
  have := peelN_less R h (left := List.range N) (fun y hy => List.mem_range.mp hy) List.nodup_range N
  rw [List.length_range, Nat.sub_self] at this
  exact List.eq_nil_of_length_eq_zero (Nat.le_zero.mp this)
noncomputable def freeOf (ps : List (Nat × Nat)) (N : Nat) : List Nat := (List.range N).filter fun j => !decide (j ∈ ps.map (·.2))
theorem free_head {j : Nat} (F : Free ps N j) : (freeOf ps N)[0]? = some j := by
  rw [← List.head?_eq_getElem?]
  unfold freeOf
  rw [List.head?_filter, List.find?_range_eq_some]
  refine ⟨?_, List.mem_range.mpr F.lt, fun j' hj' => ?_⟩
  · rw [decide_eq_false fun q => ?_]
    · rfl
    · obtain ⟨p, hp, e⟩ := List.mem_map.mp q
      exact F.no p.1 (e ▸ hp)
  · obtain ⟨i, hi⟩ := F.least j' hj'
    rw [decide_eq_true (List.mem_map.mpr ⟨(i, j'), hi, rfl⟩)]
    rfl
end peels

section
variable {C : CallT} {G : String → Option Val} {Q : Val → Mem → Prop} {X : Nat → Mem → Prop} {m : Mem} {n : Nat} {t u : List (List Int)} {k N : Nat} {v w : Val} {loc : Loc} {R : Flow → Loc → Mem → Prop} {Y : Nat → Loc → Mem → Prop} {x : Int} {ps : List (Nat × Nat)} {a : Addr}

theorem comp_pairs {elt ct : Ex} {i j : Nat} {ok : Mem → Prop} {Q' : List Val → Mem → Prop} {g : Nat × Nat → Val} {c : Nat × Nat → Bool} (hok : ok m)
    (hcond : ∀ p ∈ ps, ∀ P : Val → Mem → Prop, P (.bool (c p)) m → wpE C G X ct (setV (setV loc i (.int p.1)) j (.int p.2)) P m) (helt : ∀ p ∈ ps, ∀ P : Val → Mem → Prop, P (g p) m → wpE C G X elt (setV (setV loc i (.int p.1)) j (.int p.2)) P m)
    (h : Q' ((ps.filter c).map g) m) : compLoop (cF C G X elt (.two i j) (.cons ct .nil) loc) ok (ps.map tupV) [] Q' m := by
  refine comp_inv (fun k acc m' => m' = m ∧ acc = ((ps.take k).filter c).map g) ⟨rfl, by simp⟩ (fun k x acc m' hx hI P hP => ?_) fun acc m' hI => ?_
  · obtain ⟨rfl, rfl⟩ := hI
    rw [List.getElem?_map] at hx
    obtain ⟨p, hp, rfl⟩ := Option.map_eq_some_iff.mp hx
    have hm := List.mem_of_getElem? hp
    refine Exists.intro _ ⟨Exists.intro (.int p.1) ⟨.int p.2, rfl, rfl⟩, bs_cons (hcond p hm _ (asB_ (bsQ_nil (ifQ_dec (fun e => ?_) fun e => ?_))))⟩
    · refine helt p hm _ (hP _ _ ⟨hok, rfl, ?_⟩)
      rw [List.take_add_one, hp]; simp [e]
    · refine hP _ _ ⟨hok, rfl, ?_⟩
      rw [List.take_add_one, hp]; simp [e]
  · obtain ⟨rfl, rfl⟩ := hI
    rw [List.length_map, List.take_length]; exact h
theorem comp_pairs0 {elt : Ex} {i j : Nat} {ok : Mem → Prop} {Q' : List Val → Mem → Prop} {g : Nat × Nat → Val} (hok : ok m)
    (helt : ∀ p ∈ ps, ∀ P : Val → Mem → Prop, P (g p) m → wpE C G X elt (setV (setV loc i (.int p.1)) j (.int p.2)) P m)
    (h : Q' (ps.map g) m) : compLoop (cF C G X elt (.two i j) .nil loc) ok (ps.map tupV) [] Q' m := by
  refine comp_inv (fun k acc m' => m' = m ∧ acc = (ps.take k).map g) ⟨rfl, by simp⟩ (fun k x acc m' hx hI P hP => ?_) fun acc m' hI => ?_
  · obtain ⟨rfl, rfl⟩ := hI
    rw [List.getElem?_map] at hx
    obtain ⟨p, hp, rfl⟩ := Option.map_eq_some_iff.mp hx
    refine Exists.intro _ ⟨Exists.intro (.int p.1) ⟨.int p.2, rfl, rfl⟩, ifQ_true (helt p (List.mem_of_getElem? hp) _ (hP _ _ ⟨hok, rfl, ?_⟩))⟩
    rw [List.take_add_one, hp]; simp
  · obtain ⟨rfl, rfl⟩ := hI
    rw [List.length_map, List.take_length]; exact h
theorem zs_filter (l : List Nat) (c : Nat → Bool) (c' : Val → Bool) (h : ∀ x ∈ l, c' (.int (x : Nat)) = c x) : List.map (fun y => y) (List.filter c' ((zs l).map .int)) = (zs (l.filter c)).map .int := by
  unfold zs
  rw [List.map_id', List.map_map, List.map_map, List.filter_map]
  congr 1
  exact List.filter_congr fun x hx => h x hx
theorem filt_len (l : List Nat) (c : Nat → Bool) : (l.filter c).length ≤ l.length := List.length_filter_le _ _

theorem has_ring_spec (O : Ok t u k) (hno : NoRing (pairs t u) t.length) (hv : IsT m v t) (hw : IsT m w u) (h : ∀ m', Ext m m' → Q (.bool false) m') : CN (n + 3) 90 [v, w] Q X m := by
  have h8 := O.t8
  (refine call_eq rfl rfl ?_; dsimp only [f_L_has_ring, sts, loc0, List.map, List.replicate, List.cons_append, List.nil_append, List.length, Nat.reduceAdd, Nat.reduceSub])
  walk_at "ss"
  refine lenvies_spec O hv hw fun a m1 E1 ha => ?_
  walk_at "ss"
  refine len_ll (hv.ext E1) (lid_of O.tl) ?_
  refine b1_lrange (rng8 h8) ?_
  rw [zs_range]
  refine freshL_ (by rw [List.length_map, zs_len, List.length_range]; exact lid_of O.tl) fun c hc => ?_
  have E2 := E1.trans (Ext.set (o := .list ((zs (List.range t.length)).map .int)) hc)
  walk_at "ss"
  dsimp only [setV]
  refine len_ll (hv.ext E2) (lid_of O.tl) ?_
  refine items_range (rng8 h8) ?_
  refine for_inv (fun i l m' => ∃ c y4 y5, l = [some v, some w, some (.ref a), some (.ref c), y4, y5, none, none, none] ∧ Ext m m' ∧ m' a = some (.list ((pairs t u).map tupV)) ∧ m' c = some (.list ((zs (peelN (pairs t u) i (List.range t.length))).map .int)))
    ⟨c, none, none, rfl, E2, Ext.set hc a _ ha, set_eq⟩ (fun i x l m' hx hI P hP => ?_) fun l m' hI => ?_
  · obtain ⟨c, y4, y5, rfl, E, ha', hc'⟩ := hI
    have hpl := pairs_lt O
    have hll : (peelN (pairs t u) i (List.range t.length)).length ≤ 8 := by
      have := peelN_less pairs_rp hno (left := List.range t.length) (fun y hy => List.mem_range.mp hy) List.nodup_range i
      rw [List.length_range] at this
      walk_at "o"
    generalize hle : peelN (pairs t u) i (List.range t.length) = left at hc' hll
    have hcI : IsI m' (.ref c) (zs left) := ⟨c, rfl, hc'⟩
    refine bodyF_one ?_
    dsimp only [setV]
    walk_at "ss"
    refine items_list (IsL.seq ⟨a, rfl, ha'⟩) (pairs_lid O) ?_
    refine comp_pairs (g := fun p => .int (p.2 : Nat)) (c := fun p => decide (p.1 ∈ left)) rfl (fun p hp P hP => ?_) (fun p hp P hP => ?_) ?_
    · walk_at "ss"
      refine cmp_inI hcI ?_
      walk_at "ss"
      have e : decide ((p.1 : Int) ∈ zs left) = decide (p.1 ∈ left) := by
        by_cases q : p.1 ∈ left
        · rw [decide_eq_true q, decide_eq_true (mem_zs.mpr q)]
        · rw [decide_eq_false q, decide_eq_false fun q' => q (mem_zs.mp q')]
      rw [e]
      exact hP
    · walk_at "ss"
      exact hP
    rw [show (List.map (fun p : Nat × Nat => Val.int (p.2 : Nat)) ((pairs t u).filter fun p => decide (p.1 ∈ left))) = (zs (seenOf (pairs t u) left)).map .int by unfold zs seenOf; rw [List.map_map, List.map_map]; rfl]
    refine freshL_ (by rw [List.length_map, zs_len]; unfold seenOf; rw [List.length_map]; exact lid_of (Nat.lt_of_le_of_lt (List.length_filter_le _ _) (by walk_at "o"))) fun d hd => ?_
    have Ed := Ext.set (o := .list ((zs (seenOf (pairs t u) left)).map .int)) hd
    walk_at "ss"
    dsimp only [setV]
    refine items_list (hcI.ext Ed).seq (by rw [List.length_map, zs_len]; exact lid_of (by walk_at "o")) ?_
    refine comp_filter (g := fun y => y) (c := fun y => match y with | .int y => decide (y ∈ zs (seenOf (pairs t u) left)) | _ => false) (IsL.stands (k := .plain) (hcI.ext Ed) (hcI.ext Ed)) (fun y hy P hP => ?_) (fun y hy P hP => ?_) ?_
    · obtain ⟨y, _, rfl⟩ := List.mem_map.mp hy
      walk_at "ss"
      refine cmp_inI (is := zs (seenOf (pairs t u) left)) IsL.new ?_
      exact hP
    · obtain ⟨y, _, rfl⟩ := List.mem_map.mp hy
      walk_at "ss"
      exact hP
    rw [zs_filter left (fun x => decide (x ∈ seenOf (pairs t u) left)) _ fun x hx => by
      show decide (((x : Nat) : Int) ∈ zs _) = _
      by_cases q : x ∈ seenOf (pairs t u) left
      · rw [decide_eq_true q, decide_eq_true (mem_zs.mpr q)]
      · rw [decide_eq_false q, decide_eq_false fun q' => q (mem_zs.mp q')]]
    refine freshL_ (by rw [List.length_map, zs_len]; exact lid_of (Nat.lt_of_le_of_lt (filt_len _ _) (by walk_at "o"))) fun e he => ?_
    have Ee := Ed.trans (Ext.set (o := .list ((zs (left.filter fun x => decide (x ∈ seenOf (pairs t u) left))).map .int)) he)
    walk_at "ss"
    with_reducible refine loopQ_next (hP _ _ ?_)
    exact ⟨trivial, e, _, _, rfl, E.trans Ee, Ee a _ ha', by rw [show peelN (pairs t u) (i + 1) (List.range t.length) = left.filter fun x => decide (x ∈ seenOf (pairs t u) left) by rw [← hle]; rfl]; exact set_eq⟩
  · obtain ⟨c, y4, y5, rfl, E, ha', hc'⟩ := hI
    rw [range_len, show ((t.length : Nat) : Int).toNat = t.length from rfl, peel_done pairs_rp hno] at hc'
    walk_at "ss"
    refine freshL_ (lid_of (by decide)) fun d hd => ?_
    refine cmp_neII (a := []) (b := []) ⟨c, rfl, Ext.set hd c _ hc'⟩ IsL.new ?_
    rw [show decide (([] : List Int) ≠ []) = false from decide_eq_false fun q => q rfl]
    walk_at "ss"
    exact h _ (E.trans (Ext.set hd))

theorem frees {i : Nat} (hi : i < loc.length) {jx : Nat} (hj : getV (setV loc i (.int 0)) jx ≠ none) {b : Addr} (hb : m b = some (.list ((zs (ps.map (·.2))).map .int))) (hN : N ≤ 8) (hgv : ∀ x, getV (setV loc i x) jx = some (.ref b))
    (h : ∀ c m', Ext m m' → m' c = some (.list ((zs (freeOf ps N)).map .int)) → Q (.ref c) m') :
    itemsW .range (.int (N : Nat)) (fun xs => compLoop (cF C G X (.nm i) (.one i) (.cons (.cmp .notin (.nm i) (.nm jx)) .nil) loc) (stands .range (.int (N : Nat)) m) xs [] (fun ys m' => freshL m' ys Q) m) m := by
  refine items_range (rng8 hN) ?_
  rw [zs_range]
  refine comp_filter (g := fun y => y) (c := fun y => match y with | .int y => !decide (y ∈ zs (ps.map (·.2))) | _ => false) trivial (fun y hy P hP => ?_) (fun y hy P hP => ?_) ?_
  · obtain ⟨y, _, rfl⟩ := List.mem_map.mp hy
    exact e_cmp (e_nm (gv_set hi) (e_nm (hgv _) (cmp_notinI ⟨b, rfl, hb⟩ hP)))
  · obtain ⟨y, _, rfl⟩ := List.mem_map.mp hy
    exact e_nm (gv_set hi) hP
  rw [zs_filter (List.range N) (fun j => !decide (j ∈ ps.map (·.2))) _ fun x hx => by
    show (!decide (((x : Nat) : Int) ∈ zs _)) = _
    by_cases q : x ∈ ps.map (·.2)
    · rw [decide_eq_true q, decide_eq_true (mem_zs.mpr q)]
    · rw [decide_eq_false q, decide_eq_false fun q' => q (mem_zs.mp q')]]
  refine freshL_ (by rw [List.length_map, zs_len]; exact lid_of (Nat.lt_of_le_of_lt (filt_len _ _) (by rw [List.length_range]; walk_at "o"))) fun c hc => ?_
  exact h c _ (Ext.set hc) set_eq
end

section
variable {C : CallT} {G : String → Option Val} {Q : Val → Mem → Prop} {X : Nat → Mem → Prop} {m : Mem} {n : Nat} {t u w : List (List Int)} {k N : Nat} {v vF : Val} {loc : Loc} {R : Flow → Loc → Mem → Prop} {Y : Nat → Loc → Mem → Prop} {x : Int} {ps : List (Nat × Nat)} {a : Addr}

theorem Gave.back (O : Ok t w k) (hn : x ∉ w.flatten) (g : Gave t w x u) : (List.range u.length).map (fun j => (u.getD j []).filter fun y => decide (y ≠ x)) = w := by
  obtain ⟨j, F, s, hs, hso, rfl⟩ := g
  have hjw : j < w.length := by rw [O.len]; exact F.lt
  refine List.ext_getElem? fun i => ?_
  rw [List.getElem?_map]
  by_cases hi : i < w.length
  · rw [List.getElem?_range (by rw [List.length_set]; exact hi), getDL hi]
    show some _ = some _
    congr 1
    have hnx : ∀ l, l < w.length → x ∉ w.getD l [] := fun l hl q => hn (List.mem_flatten.mpr ⟨_, getDL_mem hl, q⟩)
    show ((w.set j s).getD i []).filter (fun y => decide (y ≠ x)) = _
    rw [getDset' hjw]
    by_cases e : j = i
    · subst e
      rw [if_pos rfl]
      have h1 : (s.filter fun y => decide (y ≠ x)).Perm (w.getD j []) := by
        refine (hs.filter _).trans ?_
        rw [List.filter_append, show ([x].filter fun y => decide (y ≠ x)) = [] by simp, List.append_nil, List.filter_eq_self.mpr fun y hy => by simp; rintro rfl; exact hnx j hjw hy]
      have h2 := O.share (getDL_mem hjw)
      simp only [shareOk, Bool.and_eq_true, decide_eq_true_eq] at h2
      exact sorted_eq h1 (hso.filter _) h2.2
    · rw [if_neg e, List.filter_eq_self.mpr fun y hy => by simp; rintro rfl; exact hnx i hi hy]
  · rw [List.getElem?_eq_none (by rw [List.length_range, List.length_set]; walk_at "o"), List.getElem?_eq_none (by walk_at "o")]; rfl
theorem ints_filter (l : List Int) (c : Int → Bool) (c' : Val → Bool) (h : ∀ x ∈ l, c' (.int x) = c x) : List.map (fun y => y) (List.filter c' (l.map .int)) = (l.filter c).map .int := by
  rw [List.map_id', List.filter_map]
  congr 1
  exact List.filter_congr fun x hx => h x hx
theorem Free.len {j : Nat} (F : Free ps N j) (h8 : N ≤ 8) : (zs (freeOf ps N)).length < lid := by
  rw [zs_len]
  exact lid_of (Nat.lt_of_le_of_lt (filt_len _ _) (by rw [List.length_range]; walk_at "o"))

theorem last_right_spec (Ow : Ok t w k) (O : Ok t u k) (hn : x ∉ w.flatten) (hno : NoRing (pairs t w) t.length) (g : Gave t w x u) (hv : IsT m v t) (hF : IsT m vF u) (h : ∀ m', Ext m m' → Q (.bool true) m') : CN (n + 4) 91 [v, vF, .int x] Q X m := by
  have h8 := O.t8
  (refine call_eq rfl rfl ?_; dsimp only [f_L_last_right, sts, loc0, List.map, List.replicate, List.cons_append, List.nil_append, List.length, Nat.reduceAdd, Nat.reduceSub])
  walk_at "ss"
  obtain ⟨xs, e1, e2⟩ := id hF
  refine items_list e1.seq (by rw [e2.length]; exact lid_of O.ul) ?_
  refine comp_own (fun j => (u.getD j []).filter fun y => decide (y ≠ x)) (by rw [e2.length]; exact O.ul) (fun m' E => e1.stands (e1.ext E)) (fun j y m' hy E P hP => ?_) fun vA m1 E1 oA => ?_
  · obtain ⟨s, hs, hys⟩ := e2.get hy
    have hsl := O.sl (List.mem_of_getElem? hs)
    have hjs : u.getD j [] = s := by rw [List.getD_eq_getElem?_getD, hs]; rfl
    replace hys := hys.ext E
    walk_at "ss"
    refine items_list hys.seq (by rw [List.length_map]; exact lid_of (sl1 hsl)) ?_
    refine comp_filter (g := fun y => y) (c := fun y => match y with | .int y => decide (y ≠ x) | _ => false) (IsL.stands (k := .plain) hys hys) (fun y hy P hP => ?_) (fun y hy P hP => ?_) ?_
    · obtain ⟨y, _, rfl⟩ := List.mem_map.mp hy
      walk_at "ss"
      exact hP
    · obtain ⟨y, _, rfl⟩ := List.mem_map.mp hy
      walk_at "ss"
      exact hP
    rw [ints_filter s (fun y => decide (y ≠ x)) _ fun y _ => rfl]
    refine freshL_ (by rw [List.length_map]; exact lid_of (Nat.lt_of_le_of_lt (List.length_filter_le _ _) (sl1 hsl))) fun c hc => ?_
    have := hP c m' .refl hc
    rw [hjs] at this
    exact this
  rw [e2.length, g.back Ow hn] at oA
  walk_at "ss"
  try dsimp only [setV]
  have hA := oA.isT
  refine lenvies_spec Ow (hv.ext E1) hA fun a m2 E2 ha => ?_
  refine items_list (IsL.seq ⟨a, rfl, ha⟩) (pairs_lid Ow) ?_
  refine comp_pairs0 (g := fun p => .int (p.2 : Nat)) rfl (fun p hp P hP => ?_) ?_
  · walk_at "ss"
    exact hP
  rw [show (pairs t w).map (fun p : Nat × Nat => Val.int (p.2 : Nat)) = (zs ((pairs t w).map (·.2))).map .int by unfold zs; rw [List.map_map, List.map_map]; rfl]
  have hpl := pairs_lt Ow
  refine freshL_ (by rw [List.length_map, zs_len, List.length_map]; exact lid_of (by walk_at "o")) fun b hb => ?_
  have E3 := E1.trans (E2.trans (Ext.set (o := .list ((zs ((pairs t w).map (·.2))).map .int)) hb))
  have hb3 : (m2.set b (.list ((zs ((pairs t w).map (·.2))).map .int))) b = some (.list ((zs ((pairs t w).map (·.2))).map .int)) := set_eq
  have hA3 := hA.ext (E2.trans (Ext.set (o := .list ((zs ((pairs t w).map (·.2))).map .int)) hb))
  generalize m2.set b (.list ((zs ((pairs t w).map (·.2))).map .int)) = m3 at E3 hb3 hA3
  walk_at "ss"
  try dsimp only [setV]
  refine len_ll (hv.ext E3) (lid_of O.tl) ?_
  refine frees (loc := [_, _, _, _, some (.ref b), _, _, _, _, _, _]) (show 10 < 11 by decide) (fun q => nomatch q) hb3 h8 (fun _ => rfl) fun c m4 E4 hc => ?_
  walk_at "ss"
  try dsimp only [setV]
  have E5 := E3.trans E4
  refine has_ring_spec Ow hno (hv.ext E5) (hA3.ext E4) fun m6 E6 => ?_
  walk_at "ss"
  have E7 := E5.trans E6
  obtain ⟨j, F, s, hs, hso, rfl⟩ := g
  have hjw : j < w.length := by rw [Ow.len]; exact F.lt
  refine sub_ints (is := zs (freeOf (pairs t w) t.length)) ⟨c, rfl, E6 c _ hc⟩ (by decide) (zs_get (free_head F)) (F.len h8) ?_
  refine sub_ll (hF.ext E7) (nn j) (x := s) (by rw [show ((j : Nat) : Int).toNat = j from rfl, List.getElem?_set_self hjw]) (lid_of O.ul) fun y hy => ?_
  refine cmp_inI hy ?_
  rw [decide_eq_true (hs.mem_iff.mpr (List.mem_append_right _ (.head _)))]
  walk_at "ss"
  exact h _ E7

theorem lgiven_spec (O : Ok t u k) (hk : k ≤ 40) (hno : NoRing (pairs t u) t.length) (hv : IsT m v t) (hF : IsT m vF u) (h : ∀ v' u' m', Ext m m' → Own m m' v' u' → Gave t u x u' → Q v' m') : CN (n + 3) 97 [v, vF, .int x] Q X m := by
  have h8 := O.t8
  have hpl := pairs_lt O
  (refine call_eq rfl rfl ?_; dsimp only [f_L_given, sts, loc0, List.map, List.replicate, List.cons_append, List.nil_append, List.length, Nat.reduceAdd, Nat.reduceSub])
  walk_at "ss"
  refine lenvies_spec O hv hF fun a m2 E2 ha => ?_
  refine items_list (IsL.seq ⟨a, rfl, ha⟩) (pairs_lid O) ?_
  refine comp_pairs0 (g := fun p => .int (p.2 : Nat)) rfl (fun p hp P hP => ?_) ?_
  · walk_at "ss"
    exact hP
  rw [show (pairs t u).map (fun p : Nat × Nat => Val.int (p.2 : Nat)) = (zs ((pairs t u).map (·.2))).map .int by unfold zs; rw [List.map_map, List.map_map]; rfl]
  refine freshL_ (by rw [List.length_map, zs_len, List.length_map]; exact lid_of (by walk_at "o")) fun b hb => ?_
  have E3 := E2.trans (Ext.set (o := .list ((zs ((pairs t u).map (·.2))).map .int)) hb)
  have hb3 : (m2.set b (.list ((zs ((pairs t u).map (·.2))).map .int))) b = some (.list ((zs ((pairs t u).map (·.2))).map .int)) := set_eq
  generalize m2.set b (.list ((zs ((pairs t u).map (·.2))).map .int)) = m3 at E3 hb3
  walk_at "ss"
  try dsimp only [setV]
  refine len_ll (hv.ext E3) (lid_of O.tl) ?_
  refine frees (loc := [_, _, _, some (.ref b), _, _, _, _]) (show 7 < 8 by decide) (fun q => nomatch q) hb3 h8 (fun _ => rfl) fun c m4 E4 hc => ?_
  walk_at "ss"
  obtain ⟨j, F⟩ := hno.free pairs_rp (by obtain ⟨r, t', e, _⟩ := O.row0; rw [e]; exact Nat.succ_pos _)
  refine sub_ints (is := zs (freeOf (pairs t u) t.length)) ⟨c, rfl, hc⟩ (by decide) (zs_get (free_head F)) (F.len h8) ?_
  walk_at "ss"
  try dsimp only [setV]
  have E5 := E3.trans E4
  have hju : j < u.length := by rw [O.len]; exact F.lt
  refine copy_own (hF.ext E5) O.ul (fun s hs => sl1 (O.sl hs)) fun vN m6 E6 o6 => ?_
  walk_at "ss"
  try dsimp only [setV]
  refine sub_ll o6.isT (nn j) (getDL hju) (lid_of O.ul) fun y hy => ?_
  walk_at "ss"
  refine freshL_ (lid_of (show 1 < 1000 by decide)) fun d hd => ?_
  have Ed := Ext.set (o := .list [Val.int x]) hd
  obtain ⟨b', rfl, hb'⟩ := hy
  refine bin_addL (xs := (u.getD j []).map .int) (ys := [.int x]) (IsL.lst ⟨b', rfl, Ed b' _ hb'⟩) (IsL.lst ⟨d, rfl, set_eq⟩) ?_
  rw [show (u.getD j []).map Val.int ++ [.int x] = (u.getD j [] ++ [x]).map .int by rw [List.map_append]; rfl]
  have hkw : (u.getD j [] ++ [x]).length < 64 := by
    rw [List.length_append, List.length_singleton]
    have h1 := O.fit _ (getDL_mem hju)
    walk_at "o"
  refine freshL_ (by rw [List.length_map]; exact lid_of (sl1 hkw)) fun d2 hd2 => ?_
  have Ed2 := Ed.trans (Ext.set (o := .list ((u.getD j [] ++ [x]).map .int)) hd2)
  refine b1_sorted (is := u.getD j [] ++ [x]) IsL.new hkw fun js hp hs => ?_
  refine freshL_ (by rw [List.length_map, hp.length_eq]; exact lid_of (sl1 hkw)) fun e he => ?_
  walk_at "ss"
  refine (o6.ext Ed2).relist (E6.trans Ed2) hju O.ul he fun m7 E7 o7 _ => ?_
  walk_at "ss"
  exact h _ _ _ (E5.trans E7) (o7.base E5) ⟨j, F, js, hp, hs, rfl⟩
end

section ways
variable {ps qs : List (Nat × Nat)} {N : Nat} {left w cs : List Nat} {S F : List (List Nat)}
structure Canon (ps : List (Nat × Nat)) (N : Nat) (cs : List Nat) : Prop where
  way : Way cs N
  around : Around ps cs
  least : ∀ x ∈ cs, rg cs 0 ≤ x
noncomputable def Holds (ps : List (Nat × Nat)) (N : Nat) (left : List Nat) : Prop := ∀ ws, Way ws N → Around ps ws → ∀ x ∈ ws, x ∈ left
noncomputable def movedOf (ps : List (Nat × Nat)) (left : List Nat) : List Nat := (ps.filter fun p => decide (p.2 ∈ left)).map (·.1)
theorem mem_moved {x : Nat} : x ∈ movedOf ps left ↔ ∃ y ∈ left, (x, y) ∈ ps := by
  unfold movedOf
  simp only [List.mem_map, List.mem_filter, decide_eq_true_eq]
  constructor
  · rintro ⟨⟨a, b⟩, ⟨h1, h2⟩, rfl⟩; exact ⟨b, h2, h1⟩
  · rintro ⟨y, h1, h2⟩; exact ⟨(x, y), ⟨h2, h1⟩, rfl⟩
noncomputable def cored (ps : List (Nat × Nat)) (left : List Nat) : List Nat := left.filter fun x => decide (x ∈ seenOf ps left) && decide (x ∈ movedOf ps left)
theorem Holds.cored (h : Holds ps N left) : Holds ps N (cored ps left) := fun ws W A x hx => by
  have hl := h ws W A
  obtain ⟨e, hlt⟩ := rg_of W hx
  have h2 := W.two
  refine List.mem_filter.mpr ⟨hl x hx, ?_⟩
  rw [Bool.and_eq_true, decide_eq_true_eq, decide_eq_true_eq]
  constructor
  · have := A (ws.idxOf x + (ws.length - 1))
    rw [show ws.idxOf x + (ws.length - 1) + 1 = ws.idxOf x + ws.length by walk_at "o", rg_mod (ws.idxOf x + ws.length) (ws.idxOf x) (Nat.add_mod_right ..), e] at this
    exact mem_seen.mpr ⟨_, hl _ (rg_mem W _), this⟩
  · have := A (ws.idxOf x)
    rw [e] at this
    exact mem_moved.mpr ⟨_, hl _ (rg_mem W _), this⟩
structure Pth (ps : List (Nat × Nat)) (N : Nat) (w : List Nat) : Prop where
  ne : w ≠ []
  nd : w.Nodup
  lt : ∀ x ∈ w, x < N
  link : ∀ i x y, w[i]? = some x → w[i + 1]? = some y → (x, y) ∈ ps
noncomputable def lastOf (w : List Nat) : Nat := w.getD (w.length - 1) 0
noncomputable def firstOf (w : List Nat) : Nat := w.getD 0 0
theorem Pth.first (P : Pth ps N w) : w[0]? = some (firstOf w) := by
  have h : 0 < w.length := List.length_pos_iff.mpr P.ne
  unfold firstOf; rw [List.getD_eq_getElem?_getD, List.getElem?_eq_getElem h]; rfl
theorem Pth.last (P : Pth ps N w) : w[w.length - 1]? = some (lastOf w) := by
  have h : 0 < w.length := List.length_pos_iff.mpr P.ne
  unfold lastOf; rw [List.getD_eq_getElem?_getD, List.getElem?_eq_getElem (by walk_at "o")]; rfl
theorem Pth.len (P : Pth ps N w) : w.length ≤ N := by
  have := nodup_sub_len P.nd (l' := List.range N) fun x hx => List.mem_range.mpr (P.lt x hx)
  rw [List.length_range] at this
  exact this
theorem Pth.next (P : Pth ps N w) {y : Nat} (hp : (lastOf w, y) ∈ ps) (hy : y < N) (hn : y ∉ w) : Pth ps N (w ++ [y]) := by
  refine ⟨(fun e => by have := congrArg List.length e; rw [List.length_append] at this; cases this), ?_, fun x hx => ?_, fun i a b h1 h2 => ?_⟩
  · rw [List.nodup_append]
    refine ⟨P.nd, List.nodup_cons.mpr ⟨by simp, List.nodup_nil⟩, fun a ha b hb e => ?_⟩
    rw [List.mem_singleton.mp hb] at e
    exact hn (e ▸ ha)
  · rcases List.mem_append.mp hx with q | q
    · exact P.lt x q
    · rw [List.mem_singleton.mp q]; exact hy
  · have hl : i + 1 < (w ++ [y]).length := (List.getElem?_eq_some_iff.mp h2).1
    rw [List.length_append, List.length_singleton] at hl
    rw [List.getElem?_append_left (by walk_at "o")] at h1
    by_cases q : i + 1 < w.length
    · rw [List.getElem?_append_left q] at h2
      exact P.link i a b h1 h2
    · have e : i + 1 = w.length := by walk_at "o"
      rw [e, List.getElem?_append_right (Nat.le_refl _), Nat.sub_self] at h2
      cases h2
      have := P.last
      rw [show w.length - 1 = i by walk_at "o", h1] at this
      rw [Option.some.inj this]; exact hp
theorem Pth.ring (R : Rp ps N) (P : Pth ps N w) (hp : (lastOf w, firstOf w) ∈ ps) : Way w N ∧ Around ps w := by
  have hpos : 0 < w.length := List.length_pos_iff.mpr P.ne
  have h2 : 2 ≤ w.length := by
    refine Nat.lt_of_not_le fun q => ?_
    have e : w.length = 1 := by walk_at "o"
    have h1 := P.first
    have h3 := P.last
    rw [e] at h3
    rw [h1] at h3
    exact R.irr _ hp (Option.some.inj h3).symm
  have W : Way w N := ⟨h2, P.nd, P.lt⟩
  refine ⟨W, fun i => ?_⟩
  have g1 := rg_get W i
  have g2 := rg_get W (i + 1)
  have hm := Nat.mod_lt i hpos
  by_cases q : i % w.length + 1 < w.length
  · have e : (i + 1) % w.length = i % w.length + 1 := by
      rw [Nat.add_mod, Nat.mod_eq_of_lt h2, Nat.mod_eq_of_lt q]
    rw [e] at g2
    exact P.link _ _ _ g1 g2
  · have e1 : i % w.length = w.length - 1 := by walk_at "o"
    have e : (i + 1) % w.length = 0 := by
      rw [Nat.add_mod, e1, Nat.mod_eq_of_lt h2, show w.length - 1 + 1 = w.length by walk_at "o", Nat.mod_self]
    rw [e, P.first] at g2
    rw [e1, P.last] at g1
    rw [← Option.some.inj g1, ← Option.some.inj g2]
    exact hp
noncomputable def KeptW (S F : List (List Nat)) (cs : List Nat) : Prop := cs ∈ F ∨ ∃ i, 0 < i ∧ i ≤ cs.length ∧ cs.take i ∈ S
noncomputable def addF (w : List Nat) (p : Nat × Nat) : List (List Nat) := if p.1 = lastOf w ∧ p.2 = firstOf w then [w] else []
noncomputable def addS (w : List Nat) (p : Nat × Nat) : List (List Nat) := if p.1 = lastOf w ∧ p.2 > firstOf w ∧ p.2 ∉ w then [w ++ [p.2]] else []
theorem take_last {i : Nat} (h0 : 0 < i) (hi : i ≤ cs.length) : lastOf (cs.take i) = cs.getD (i - 1) 0 := by
  unfold lastOf
  rw [List.length_take, Nat.min_eq_left hi, List.getD_eq_getElem?_getD, List.getElem?_take_of_lt (by walk_at "o"), List.getD_eq_getElem?_getD]
theorem take_first {i : Nat} (h0 : 0 < i) : firstOf (cs.take i) = cs.getD 0 0 := by
  unfold firstOf
  rw [List.getD_eq_getElem?_getD, List.getElem?_take_of_lt h0, List.getD_eq_getElem?_getD]
theorem rg_small {i : Nat} (h : i < cs.length) : rg cs i = cs.getD i 0 := by unfold rg; rw [Nat.mod_eq_of_lt h]
theorem Canon.wanted (K : Canon ps N cs) {i : Nat} (h0 : 0 < i) (hi : i ≤ cs.length) : ∃ p ∈ ps, p.1 ∈ cs ∧ p.2 ∈ cs ∧ ((i = cs.length ∧ addF (cs.take i) p = [cs]) ∨ (i < cs.length ∧ addS (cs.take i) p = [cs.take (i + 1)])) := by
  have W := K.way
  have h2 := W.two
  have ha := K.around (i - 1)
  rw [show i - 1 + 1 = i by walk_at "o"] at ha
  refine ⟨_, ha, rg_mem W _, rg_mem W _, ?_⟩
  have e1 : rg cs (i - 1) = lastOf (cs.take i) := by rw [take_last h0 hi, rg_small (by walk_at "o")]
  rcases Nat.lt_or_eq_of_le hi with q | q
  · refine .inr ⟨q, ?_⟩
    unfold addS
    have hget : cs[i]? = some (rg cs i) := by have := rg_get W i; rw [Nat.mod_eq_of_lt q] at this; exact this
    have hnot : rg cs i ∉ cs.take i := fun hm => by
      obtain ⟨j, hj⟩ := List.mem_iff_getElem?.mp hm
      have hjl := (List.getElem?_eq_some_iff.mp hj).1
      rw [List.length_take] at hjl
      rw [List.getElem?_take_of_lt (by walk_at "o")] at hj
      have := (List.getElem?_inj q W.nd).mp (hget.trans hj.symm)
      walk_at "o"
    have hgt : rg cs i > firstOf (cs.take i) := by
      rw [take_first h0, ← rg_small (by walk_at "o")]
      refine Nat.lt_of_le_of_ne (K.least _ (rg_mem W _)) fun e => ?_
      have := rg_inj W e
      rw [Nat.zero_mod, Nat.mod_eq_of_lt q] at this
      walk_at "o"
    rw [if_pos ⟨e1, hgt, hnot⟩, List.take_add_one, hget]
    rfl
  · refine .inl ⟨q, ?_⟩
    unfold addF
    have e2 : rg cs i = firstOf (cs.take i) := by
      rw [take_first h0, ← rg_small (by walk_at "o")]
      refine rg_mod _ _ ?_
      rw [q, Nat.mod_self, Nat.zero_mod]
    rw [if_pos ⟨e1, e2⟩, q, List.take_length]
end ways

section
variable {C : CallT} {G : String → Option Val} {Q : Val → Mem → Prop} {X : Nat → Mem → Prop} {m : Mem} {n : Nat} {t u : List (List Int)} {k N : Nat} {v w : Val} {loc : Loc} {R : Flow → Loc → Mem → Prop} {Y : Nat → Loc → Mem → Prop} {x : Int} {ps : List (Nat × Nat)} {a : Addr}

theorem dec_zs {l : List Nat} {x : Nat} : decide (((x : Nat) : Int) ∈ zs l) = decide (x ∈ l) := by
  by_cases q : x ∈ l
  · rw [decide_eq_true q, decide_eq_true (mem_zs.mpr q)]
  · rw [decide_eq_false q, decide_eq_false fun q' => q (mem_zs.mp q')]

theorem core_spec (Rr : Rp ps N) (h8 : N ≤ 8) (hps : ps.length < 100) (ha : m a = some (.list (ps.map tupV))) (h : ∀ c left m', Ext m m' → m' c = some (.list ((zs left).map .int)) → Holds ps N left → (∀ x ∈ left, x < N) → left.Nodup → Q (.ref c) m') : CN (n + 1) 94 [.ref a, .int (N : Nat)] Q X m := by
  (refine call_eq rfl rfl ?_; dsimp only [f_L_core, sts, loc0, List.map, List.replicate, List.cons_append, List.nil_append, List.length, Nat.reduceAdd, Nat.reduceSub])
  walk_at "ss"
  refine b1_lrange (rng8 h8) ?_
  rw [zs_range]
  refine freshL_ (by rw [List.length_map, zs_len, List.length_range]; exact lid_of (by walk_at "o")) fun c hc => ?_
  have Ec := Ext.set (o := .list ((zs (List.range N)).map .int)) hc
  walk_at "ss"
  dsimp only [setV]
  refine items_range (rng8 h8) ?_
  refine for_inv (fun i l m' => ∃ c left y3 y4 y5, l = [some (.ref a), some (.int (N : Nat)), some (.ref c), y3, y4, y5, none, none, none, none, none] ∧ Ext m m' ∧ m' c = some (.list ((zs left).map .int)) ∧ Holds ps N left ∧ (∀ x ∈ left, x < N) ∧ left.Nodup)
    ⟨c, List.range N, none, none, none, rfl, Ec, set_eq, fun ws W A x hx => List.mem_range.mpr (W.lt x hx), fun x hx => List.mem_range.mp hx, List.nodup_range⟩ (fun i x l m' hx hI P hP => ?_) fun l m' hI => ?_
  · obtain ⟨c, left, y3, y4, y5, rfl, E, hc', hH, hlt, hnd⟩ := hI
    have hll : left.length ≤ 8 := Nat.le_trans (by have := nodup_sub_len hnd (l' := List.range N) fun x hx => List.mem_range.mpr (hlt x hx); rw [List.length_range] at this; exact this) h8
    have hcI : IsI m' (.ref c) (zs left) := ⟨c, rfl, hc'⟩
    have ha' := E a _ ha
    refine bodyF_one ?_
    dsimp only [setV]
    walk_at "ss"
    refine items_list (IsL.seq ⟨a, rfl, ha'⟩) (by rw [List.length_map]; exact lid_of (by walk_at "o")) ?_
    refine comp_pairs (g := fun p => .int (p.2 : Nat)) (c := fun p => decide (p.1 ∈ left)) rfl (fun p hp P hP => ?_) (fun p hp P hP => ?_) ?_
    · walk_at "ss"
      refine cmp_inI hcI ?_
      rw [dec_zs]
      exact hP
    · walk_at "ss"
      exact hP
    rw [show (List.map (fun p : Nat × Nat => Val.int (p.2 : Nat)) (ps.filter fun p => decide (p.1 ∈ left))) = (zs (seenOf ps left)).map .int by unfold zs seenOf; rw [List.map_map, List.map_map]; rfl]
    refine freshL_ (by rw [List.length_map, zs_len]; unfold seenOf; rw [List.length_map]; exact lid_of (Nat.lt_of_le_of_lt (List.length_filter_le _ _) (by walk_at "o"))) fun d hd => ?_
    have Ed := Ext.set (o := .list ((zs (seenOf ps left)).map .int)) hd
    have hdI : IsI (m'.set d (.list ((zs (seenOf ps left)).map .int))) (.ref d) (zs (seenOf ps left)) := IsL.new
    generalize m'.set d (.list ((zs (seenOf ps left)).map .int)) = m2 at Ed hdI
    walk_at "ss"
    dsimp only [setV]
    refine items_list (IsL.seq ⟨a, rfl, Ed a _ ha'⟩) (by rw [List.length_map]; exact lid_of (by walk_at "o")) ?_
    refine comp_pairs (g := fun p => .int (p.1 : Nat)) (c := fun p => decide (p.2 ∈ left)) rfl (fun p hp P hP => ?_) (fun p hp P hP => ?_) ?_
    · walk_at "ss"
      refine cmp_inI (hcI.ext Ed) ?_
      rw [dec_zs]
      exact hP
    · walk_at "ss"
      exact hP
    rw [show (List.map (fun p : Nat × Nat => Val.int (p.1 : Nat)) (ps.filter fun p => decide (p.2 ∈ left))) = (zs (movedOf ps left)).map .int by unfold zs movedOf; rw [List.map_map, List.map_map]; rfl]
    refine freshL_ (by rw [List.length_map, zs_len]; unfold movedOf; rw [List.length_map]; exact lid_of (Nat.lt_of_le_of_lt (List.length_filter_le _ _) (by walk_at "o"))) fun e he => ?_
    have Ee := Ext.set (o := .list ((zs (movedOf ps left)).map .int)) he
    have heI : IsI (m2.set e (.list ((zs (movedOf ps left)).map .int))) (.ref e) (zs (movedOf ps left)) := IsL.new
    generalize m2.set e (.list ((zs (movedOf ps left)).map .int)) = m3 at Ee heI
    have hdI := hdI.ext Ee
    have hcI := hcI.ext (Ed.trans Ee)
    walk_at "ss"
    dsimp only [setV]
    refine items_list hcI.seq (by rw [List.length_map, zs_len]; exact lid_of (by walk_at "o")) ?_
    refine comp_filter (g := fun y => y) (c := fun y => match y with | .int y => decide (y ∈ zs (seenOf ps left)) && decide (y ∈ zs (movedOf ps left)) | _ => false) (IsL.stands (k := .plain) hcI hcI) (fun y hy P hP => ?_) (fun y hy P hP => ?_) ?_
    · obtain ⟨y, _, rfl⟩ := List.mem_map.mp hy
      walk_at "ss"
      refine cmp_inI hdI ?_
      have hP' : P (.bool (decide (y ∈ zs (seenOf ps left)) && decide (y ∈ zs (movedOf ps left)))) m3 := hP
      by_cases q : y ∈ zs (seenOf ps left)
      · rw [decide_eq_true q] at hP' ⊢
        walk_at "ss"
        refine cmp_inI heI ?_
        rw [Bool.true_and] at hP'
        walk_at "ss"
        exact hP'
      · rw [decide_eq_false q] at hP' ⊢
        walk_at "ss"
        exact hP'
    · obtain ⟨y, _, rfl⟩ := List.mem_map.mp hy
      walk_at "ss"
      exact hP
    rw [zs_filter left (fun x => decide (x ∈ seenOf ps left) && decide (x ∈ movedOf ps left)) _ fun x hx => by
      show (decide (((x : Nat) : Int) ∈ zs _) && decide (((x : Nat) : Int) ∈ zs _)) = _
      rw [dec_zs, dec_zs]]
    refine freshL_ (by rw [List.length_map, zs_len]; exact lid_of (Nat.lt_of_le_of_lt (filt_len _ _) (by walk_at "o"))) fun f hf => ?_
    have Ef := (Ed.trans Ee).trans (Ext.set (o := .list ((zs (left.filter fun x => decide (x ∈ seenOf ps left) && decide (x ∈ movedOf ps left))).map .int)) hf)
    walk_at "ss"
    with_reducible refine loopQ_next (hP _ _ ?_)
    exact ⟨trivial, f, cored ps left, _, _, _, rfl, E.trans Ef, set_eq, hH.cored, fun x hx => hlt x (List.mem_filter.mp hx).1, hnd.filter _⟩
  · obtain ⟨c, left, y3, y4, y5, rfl, E, hc', hH, hlt, hnd⟩ := hI
    walk_at "ss"
    exact h c left _ E hc' hH hlt hnd

noncomputable def FrI (m0 m : Mem) (v : Val) (r : List Int) : Prop := ∃ b, v = .ref b ∧ m0 b = none ∧ m b = some (.list (r.map .int))
theorem FrI.isI {m0 m : Mem} {v : Val} {r : List Int} (h : FrI m0 m v r) : IsI m v r := by
  obtain ⟨b, rfl, _, hb⟩ := h; exact ⟨b, rfl, hb⟩
theorem FrI.ext {m0 m m' : Mem} {v : Val} {r : List Int} (h : FrI m0 m v r) (E : Ext m m') : FrI m0 m' v r := by
  obtain ⟨b, rfl, h0, hb⟩ := h; exact ⟨b, rfl, h0, E b _ hb⟩
structure RSt (m : Mem) (f4 f5 : Addr) (S F : List (List Nat)) (m' : Mem) : Prop where
  ex : ∃ mr xs ys, Ext m mr ∧ mr f4 = none ∧ mr f5 = none ∧ m' = (mr.set f4 (.list xs)).set f5 (.list ys) ∧ All2 (FrI m mr) xs (S.map zs) ∧ All2 (FrI m mr) ys (F.map zs)
theorem RSt.ext {f4 f5 : Addr} {S F : List (List Nat)} {m' : Mem} (hne : f4 ≠ f5) (H : RSt m f4 f5 S F m') : Ext m m' := by
  obtain ⟨mr, xs, ys, E, h4, h5, rfl, _⟩ := H.ex
  exact E.trans ((Ext.set h4).trans (Ext.set (by rw [set_ne (Ne.symm hne)]; exact h5)))
theorem RSt.grow {f4 f5 : Addr} {S F : List (List Nat)} {m' m'' : Mem} (hne : f4 ≠ f5) (H : RSt m f4 f5 S F m') (E : Ext m' m'') : RSt m f4 f5 S F m'' := by
  obtain ⟨mr, xs, ys, E0, h4, h5, rfl, hx, hy⟩ := H.ex
  have g5 := E f5 _ set_eq
  have g4 := E f4 (.list xs) (by rw [set_ne hne, set_eq])
  have Er : Ext mr ((m''.del f5).del f4) := fun b o e => by
    have hb4 := ne_of h4 e
    have hb5 := ne_of h5 e
    rw [del_ne hb4, del_ne hb5]
    exact E b o (by rw [set_ne hb5, set_ne hb4]; exact e)
  refine ⟨(m''.del f5).del f4, xs, ys, E0.trans Er, del_eq, by rw [del_ne (Ne.symm hne)]; exact del_eq, ?_, hx.mono fun _ _ q => q.ext Er, hy.mono fun _ _ q => q.ext Er⟩
  have e4 : (m''.del f5) f4 = some (.list xs) := by rw [del_ne hne]; exact g4
  rw [del_set, set_same e4, del_set, set_same g5]
end

section
variable {C : CallT} {G : String → Option Val} {Q : Val → Mem → Prop} {X : Nat → Mem → Prop} {m : Mem} {n : Nat} {t u : List (List Int)} {k N : Nat} {v w : Val} {loc : Loc} {R : Flow → Loc → Mem → Prop} {Y : Nat → Loc → Mem → Prop} {x : Int} {ps qs : List (Nat × Nat)} {a : Addr} {S F : List (List Nat)} {f4 f5 b : Addr} {wy : List Nat}

theorem RSt.at4 (hne : f4 ≠ f5) {m' : Mem} (H : RSt m f4 f5 S F m') : ∃ xs, m' f4 = some (.list xs) ∧ xs.length = S.length := by
  obtain ⟨mr, xs, ys, _, _, _, rfl, hx, _⟩ := H.ex
  exact ⟨xs, by rw [set_ne hne, set_eq], by rw [hx.length, List.length_map]⟩
theorem RSt.at5 {m' : Mem} (H : RSt m f4 f5 S F m') : ∃ ys, m' f5 = some (.list ys) ∧ ys.length = F.length := by
  obtain ⟨mr, xs, ys, _, _, _, rfl, _, hy⟩ := H.ex
  exact ⟨ys, set_eq, by rw [hy.length, List.length_map]⟩
theorem RSt.push4 (hne : f4 ≠ f5) {m' : Mem} (H : RSt m f4 f5 S F m') {xs : List Val} (hx : m' f4 = some (.list xs)) (h4 : b ≠ f4) (h5 : b ≠ f5) (hb0 : m b = none) (hb : m' b = some (.list ((zs wy).map .int))) : RSt m f4 f5 (S ++ [wy]) F (m'.set f4 (.list (xs ++ [.ref b]))) := by
  obtain ⟨mr, xs', ys, E, h1, h2, rfl, hx', hy⟩ := H.ex
  rw [set_ne hne, set_eq] at hx
  cases hx
  rw [set_ne h5, set_ne h4] at hb
  refine ⟨mr, xs ++ [.ref b], ys, E, h1, h2, ?_, ?_, hy⟩
  · rw [set_comm (Ne.symm hne), set_set]
  · rw [List.map_append]
    exact hx'.append (.cons ⟨b, rfl, hb0, hb⟩ .nil)
theorem RSt.push5 {m' : Mem} (H : RSt m f4 f5 S F m') {ys : List Val} (hy : m' f5 = some (.list ys)) (h4 : b ≠ f4) (h5 : b ≠ f5) (hb0 : m b = none) (hb : m' b = some (.list ((zs wy).map .int))) : RSt m f4 f5 S (F ++ [wy]) (m'.set f5 (.list (ys ++ [.ref b]))) := by
  obtain ⟨mr, xs, ys', E, h1, h2, rfl, hx, hy'⟩ := H.ex
  rw [set_eq] at hy
  cases hy
  rw [set_ne h5, set_ne h4] at hb
  refine ⟨mr, xs, ys ++ [.ref b], E, h1, h2, by rw [set_set], hx, ?_⟩
  rw [List.map_append]
  exact hy'.append (.cons ⟨b, rfl, hb0, hb⟩ .nil)
theorem RSt.pop4 (hne : f4 ≠ f5) {m' : Mem} (H : RSt m f4 f5 (S ++ [wy]) F m') (hl : S.length < 100000) {K : Val → Mem → Prop}
    (h : ∀ b m'', b ≠ f4 → b ≠ f5 → m b = none → m'' b = some (.list ((zs wy).map .int)) → RSt m f4 f5 S F m'' → K (.ref b) m'') : popQ K (.ref f4) [] m' := by
  obtain ⟨mr, xs, ys, E, h1, h2, rfl, hx, hy⟩ := H.ex
  have hlen : xs.length = S.length + 1 := by rw [hx.length, List.length_map, List.length_append]; rfl
  obtain ⟨y, hy1, b, rfl, hb0, hb⟩ := hx.get' (i := S.length) (b := zs wy) (by rw [List.map_append, List.getElem?_append_right (by rw [List.length_map]; exact Nat.le_refl _), List.length_map, Nat.sub_self]; rfl)
  have hb4 := ne_of h1 hb
  have hb5 := ne_of h2 hb
  refine popQ_last (xs := xs) (j := S.length) (by rw [set_ne hne, set_eq]) (by rw [hlen]; unfold lid; walk_at "o") ?_ hy1 ?_
  · rw [hlen]
    unfold place
    rw [if_neg (by decide), if_pos (by show 1 ≤ _; walk_at "o")]
    rfl
  · refine h b _ hb4 hb5 hb0 (by rw [set_ne hb4, set_ne hb5, set_ne hb4]; exact hb) ⟨mr, xs.eraseIdx S.length, ys, E, h1, h2, by rw [set_comm (Ne.symm hne), set_set], ?_, hy⟩
    refine All2.of_get (by rw [List.length_eraseIdx_of_lt (by walk_at "o"), hlen, List.length_map]; rfl) fun i y' r g1 g2 => ?_
    have hi : i < S.length := by have := (List.getElem?_eq_some_iff.mp g2).1; rw [List.length_map] at this; exact this
    rw [List.getElem?_eraseIdx_of_lt hi] at g1
    obtain ⟨r', g3, hr⟩ := hx.get g1
    rw [List.map_append, List.getElem?_append_left (by rw [List.length_map]; exact hi)] at g3
    rw [g2] at g3
    cases g3
    exact hr
theorem way_first (P : Pth ps N wy) (h8 : N ≤ 8) (hb : m b = some (.list ((zs wy).map .int))) (h : Q (.int (firstOf wy : Nat)) m) : subW (.ref b) (.int 0) Q m := by
  have := P.len
  exact sub_ints (is := zs wy) ⟨b, rfl, hb⟩ (by decide) (zs_get P.first) (by rw [zs_len]; exact lid_of (by walk_at "o")) h
theorem way_last (P : Pth ps N wy) (h8 : N ≤ 8) (hb : m b = some (.list ((zs wy).map .int))) (h : Q (.int (lastOf wy : Nat)) m) : subW (.ref b) (.int (-1)) Q m := by
  have hl := P.len
  have hpos : 0 < wy.length := List.length_pos_iff.mpr P.ne
  refine subW_ (IsL.seq ⟨b, rfl, hb⟩) (j := wy.length - 1) ?_ (x := .int (lastOf wy : Nat)) ?_ (by rw [List.length_map, zs_len]; exact lid_of (by walk_at "o")) h
  · rw [List.length_map, zs_len]
    unfold place
    rw [if_neg (by decide), if_pos (by show 1 ≤ wy.length; walk_at "o")]; rfl
  · rw [List.getElem?_map, zs_get P.last]; rfl

theorem kept_step {cs : List Nat} (hK : KeptW (S ++ [wy]) F cs) (K : Canon ps N cs) (hq : ∀ p ∈ ps, p.1 ∈ cs → p.2 ∈ cs → p ∈ qs) : KeptW (S ++ qs.flatMap (addS wy)) (F ++ qs.flatMap (addF wy)) cs := by
  rcases hK with h | ⟨i, h0, hi, h⟩
  · exact .inl (List.mem_append_left _ h)
  · rcases List.mem_append.mp h with h | h
    · exact .inr ⟨i, h0, hi, List.mem_append_left _ h⟩
    · obtain rfl := List.mem_singleton.mp h
      obtain ⟨p, hp, h1, h2, hc⟩ := K.wanted h0 hi
      have hpq := hq p hp h1 h2
      rcases hc with ⟨_, e⟩ | ⟨hlt, e⟩
      · exact .inl (List.mem_append_right _ (List.mem_flatMap.mpr ⟨p, hpq, by rw [e]; exact .head _⟩))
      · exact .inr ⟨i + 1, Nat.succ_pos _, hlt, List.mem_append_right _ (List.mem_flatMap.mpr ⟨p, hpq, by rw [e]; exact .head _⟩)⟩
theorem flatMap_succ {α β : Type} (f : α → List β) {l : List α} {i : Nat} {x : α} (h : l[i]? = some x) : (l.take (i + 1)).flatMap f = (l.take i).flatMap f ++ f x := by
  rw [List.take_add_one, h, List.flatMap_append]; simp
theorem flatMap_len {α β : Type} (f : α → List β) (hf : ∀ x, (f x).length ≤ 1) (l : List α) : (l.flatMap f).length ≤ l.length := by
  induction l with
  | nil => exact Nat.le_refl _
  | cons a l ih =>
    rw [List.flatMap_cons, List.length_append, List.length_cons]
    have := hf a
    walk_at "o"
theorem addF_len (p : Nat × Nat) : (addF wy p).length ≤ 1 := by unfold addF; split <;> simp
theorem addS_len (p : Nat × Nat) : (addS wy p).length ≤ 1 := by unfold addS; split <;> simp

noncomputable def look2 : St := .ifs (.boolop true (.cons (.cmp .eq (.nm 8) (.sub (.nm 7) (.neg (.int 1)))) (.cons (.cmp .gt (.nm 9) (.sub (.nm 7) (.int 0))) (.cons (.cmp .notin (.nm 9) (.nm 7)) .nil)))) (sts [
          .expr (.append (.nm 4) (.bin .add (.nm 7) (.lst (.cons (.nm 9) .nil))))]) .nil
theorem look2_spec {y0 y1 y2 y3 y6 : Option Val} {p : Nat × Nat} {m' : Mem} (hne : f4 ≠ f5) (P : Pth ps N wy) (h8 : N ≤ 8) (H : RSt m f4 f5 S F m') (hS : S.length < 100000) (hb4 : b ≠ f4) (hb5 : b ≠ f5) (hb0 : m b = none) (hb : m' b = some (.list ((zs wy).map .int)))
    (hR : ∀ m'', RSt m f4 f5 (S ++ addS wy p) F m'' → Ext (m'.del f4) (m''.del f4) → m'' b = some (.list ((zs wy).map .int)) → R .next [y0, y1, y2, y3, some (.ref f4), some (.ref f5), y6, some (.ref b), some (.int (p.1 : Nat)), some (.int (p.2 : Nat)), none, none] m'') :
    wpSs C G (.cons look2 .nil) R Y [y0, y1, y2, y3, some (.ref f4), some (.ref f5), y6, some (.ref b), some (.int (p.1 : Nat)), some (.int (p.2 : Nat)), none, none] m' := by
  have same : addS wy p = [] → R .next [y0, y1, y2, y3, some (.ref f4), some (.ref f5), y6, some (.ref b), some (.int (p.1 : Nat)), some (.int (p.2 : Nat)), none, none] m' := fun e => hR m' (by rw [e, List.append_nil]; exact H) .refl hb
  dsimp only [look2, sts]
  walk_at "ss"
  refine way_last P h8 hb ?_
  walk_at "ss"
  by_cases q1 : p.1 = lastOf wy
  · rw [decide_eq_true (congrArg (fun (i : Nat) => (i : Int)) q1)]
    walk_at "ss"
    refine way_first P h8 hb ?_
    walk_at "ss"
    by_cases q2 : p.2 > firstOf wy
    · rw [decide_eq_true (show ((p.2 : Nat) : Int) > (firstOf wy : Nat) by walk_at "o")]
      walk_at "ss"
      refine cmp_notinI (is := zs wy) ⟨b, rfl, hb⟩ ?_
      rw [dec_zs]
      by_cases q3 : p.2 ∈ wy
      · rw [decide_eq_true q3]
        walk_at "ss"
        exact same (by unfold addS; rw [if_neg fun h => h.2.2 q3])
      · rw [decide_eq_false q3]
        walk_at "ss"
        have ea : addS wy p = [wy ++ [p.2]] := by unfold addS; rw [if_pos ⟨q1, q2, q3⟩]
        obtain ⟨xs, hx, hxl⟩ := H.at4 hne
        refine isL_ hx ?_
        walk_at "ss"
        refine freshL_ (lid_of (show 1 < 1000 by decide)) fun d hd => ?_
        have Ed := Ext.set (o := .list [Val.int (p.2 : Nat)]) hd
        refine bin_addL (xs := (zs wy).map .int) (ys := [.int (p.2 : Nat)]) (IsL.lst ⟨b, rfl, Ed b _ hb⟩) (IsL.lst ⟨d, rfl, set_eq⟩) ?_
        rw [show (zs wy).map Val.int ++ [.int (p.2 : Nat)] = (zs (wy ++ [p.2])).map .int by rw [zs_app, List.map_append]; rfl]
        have hwl := P.len
        refine freshL_ (by rw [List.length_map, zs_len, List.length_append]; exact lid_of (by show _ + 1 < 1000; walk_at "o")) fun e he => ?_
        have Ee := Ed.trans (Ext.set (o := .list ((zs (wy ++ [p.2])).map .int)) he)
        have H2 := H.grow hne Ee
        have he4 : e ≠ f4 := fun q => by subst q; rw [Ed e _ hx] at he; cases he
        have he5 : e ≠ f5 := fun q => by
          obtain ⟨ys, hy, _⟩ := H.at5
          subst q
          rw [Ed e _ hy] at he; cases he
        refine appQ_ (Ee f4 _ hx) (by rw [hxl]; unfold lid; walk_at "o") ?_
        walk_at "ss"
        refine hR _ (by rw [ea]; exact H2.push4 hne (Ee f4 _ hx) he4 he5 (none_of ((H.ext hne).trans Ed) he) set_eq) (fun c o hco => ?_) (by rw [set_ne hb4]; exact Ee b _ hb)
        have hc4 : c ≠ f4 := fun q => by subst q; rw [del_eq] at hco; cases hco
        rw [del_ne hc4] at hco ⊢
        rw [set_ne hc4]
        exact Ee c o hco
    · rw [decide_eq_false (show ¬ ((p.2 : Nat) : Int) > (firstOf wy : Nat) by walk_at "o")]
      walk_at "ss"
      exact same (by unfold addS; rw [if_neg fun h => q2 h.2.1])
  · rw [decide_eq_false (show ¬ ((p.1 : Nat) : Int) = (lastOf wy : Nat) by walk_at "o")]
    walk_at "ss"
    exact same (by unfold addS; rw [if_neg fun h => q1 h.1])
noncomputable def look1 : St := .ifs (.boolop true (.cons (.cmp .eq (.nm 8) (.sub (.nm 7) (.neg (.int 1)))) (.cons (.cmp .eq (.nm 9) (.sub (.nm 7) (.int 0))) .nil))) (sts [
          .expr (.append (.nm 5) (.nm 7))]) .nil
theorem looks_spec {y0 y1 y2 y3 y6 : Option Val} {p : Nat × Nat} {m' : Mem} (hne : f4 ≠ f5) (P : Pth ps N wy) (h8 : N ≤ 8) (H : RSt m f4 f5 S F m') (hS : S.length < 100000) (hF : F.length < 100000) (hb4 : b ≠ f4) (hb5 : b ≠ f5) (hb0 : m b = none) (hb : m' b = some (.list ((zs wy).map .int)))
    (hR : ∀ m'', RSt m f4 f5 (S ++ addS wy p) (F ++ addF wy p) m'' → m'' b = some (.list ((zs wy).map .int)) → R .next [y0, y1, y2, y3, some (.ref f4), some (.ref f5), y6, some (.ref b), some (.int (p.1 : Nat)), some (.int (p.2 : Nat)), none, none] m'') :
    wpSs C G (.cons look1 (.cons look2 .nil)) R Y [y0, y1, y2, y3, some (.ref f4), some (.ref f5), y6, some (.ref b), some (.int (p.1 : Nat)), some (.int (p.2 : Nat)), none, none] m' := by
  have same : addF wy p = [] → wpSs C G (.cons look2 .nil) R Y [y0, y1, y2, y3, some (.ref f4), some (.ref f5), y6, some (.ref b), some (.int (p.1 : Nat)), some (.int (p.2 : Nat)), none, none] m' := fun e => by
    rw [e, List.append_nil] at hR
    exact look2_spec hne P h8 H hS hb4 hb5 hb0 hb fun m2 H2 _ hb2 => hR m2 H2 hb2
  refine s_cons ?_
  dsimp only [look1, sts]
  refine s_ifs (e_boolop (bs_cons (e_cmp (e_pv _ (by with_unfolding_all rfl) (e_sub (e_pv _ (by with_unfolding_all rfl) (e_negI ?_)))))))
  refine way_last P h8 hb ?_
  refine cmp_eqI ?_
  by_cases q1 : p.1 = lastOf wy
  · rw [decide_eq_true (congrArg (fun (i : Nat) => (i : Int)) q1)]
    refine asB_ (bsQ_and_true (bs_cons (e_cmp (e_pv _ (by with_unfolding_all rfl) (e_sub (e_pv _ (by with_unfolding_all rfl) (e_pv _ (by with_unfolding_all rfl) ?_)))))))
    refine way_first P h8 hb ?_
    refine cmp_eqI (asB_ (bsQ_nil (asB_ ?_)))
    by_cases q2 : p.2 = firstOf wy
    · rw [decide_eq_true (congrArg (fun (i : Nat) => (i : Int)) q2)]
      have ea : addF wy p = [wy] := by unfold addF; rw [if_pos ⟨q1, q2⟩]
      obtain ⟨ys, hy, hyl⟩ := H.at5
      refine ifQ_true (s_cons (s_expr (e_append (e_pv _ (by with_unfolding_all rfl) (isL_ hy (e_pv _ (by with_unfolding_all rfl) (appQ_ hy (by rw [hyl]; unfold lid; walk_at "o") (plain_none (seqQ_next (s_nil (seqQ_next ?_)))))))))))
      have H2 := H.push5 hy hb4 hb5 hb0 hb
      rw [ea] at hR
      exact look2_spec hne P h8 H2 hS hb4 hb5 hb0 (by rw [set_ne hb5]; exact hb) fun m2 H2 _ hb2 => hR m2 H2 hb2
    · rw [decide_eq_false (show ¬ ((p.2 : Nat) : Int) = (firstOf wy : Nat) by walk_at "o")]
      exact ifQ_false (s_nil (seqQ_next (same (by unfold addF; rw [if_neg fun h => q2 h.2]))))
  · rw [decide_eq_false (show ¬ ((p.1 : Nat) : Int) = (lastOf wy : Nat) by walk_at "o")]
    refine asB_ (bsQ_and_false (asB_ (ifQ_false (s_nil (seqQ_next (same (by unfold addF; rw [if_neg fun h => q1 h.1]))))))) 
end

section
variable {C : CallT} {G : String → Option Val} {Q : Val → Mem → Prop} {X : Nat → Mem → Prop} {m : Mem} {n : Nat} {t u : List (List Int)} {k N : Nat} {v w : Val} {loc : Loc} {R : Flow → Loc → Mem → Prop} {Y : Nat → Loc → Mem → Prop} {x : Int} {ps qs : List (Nat × Nat)} {a : Addr} {S F : List (List Nat)} {f4 f5 b : Addr} {wy : List Nat}

theorem Own.split {m0 : Mem} (h : Own m0 m v t) : ∃ a xs, v = .ref a ∧ m0 a = none ∧ m a = some (.list xs) ∧ All2 (FrI m0 (m.del a)) xs t := by
  refine Classical.byContradiction fun hG9 => ?_
  obtain ⟨a, bs, rfl, ha, hn, hl, h0, hb, hr⟩ := h
  refine hG9 ?_
  clear hG9
  refine ⟨a, bs.map .ref, rfl, h0, ha, All2.of_get (by rw [List.length_map]; exact hl) fun j x r h1 h2 => ?_⟩
  rw [List.getElem?_map] at h1
  obtain ⟨b, hb', rfl⟩ := Option.map_eq_some_iff.mp h1
  exact ⟨b, rfl, (hb b (List.mem_of_getElem? hb')).1, by rw [del_ne (hb b (List.mem_of_getElem? hb')).2]; exact hr j b r hb' h2⟩
structure WaysOk (ps : List (Nat × Nat)) (N : Nat) (S F : List (List Nat)) : Prop where
  on : ∀ w ∈ S, Pth ps N w
  rings : ∀ w ∈ F, Way w N ∧ Around ps w
  all : ∀ cs, Canon ps N cs → KeptW S F cs
theorem WaysOk.next (Rr : Rp ps N) (hq : ∀ p ∈ qs, p ∈ ps) (hq' : ∀ cs, Canon ps N cs → ∀ p ∈ ps, p.1 ∈ cs → p.2 ∈ cs → p ∈ qs) (W : WaysOk ps N (S ++ [wy]) F) : WaysOk ps N (S ++ qs.flatMap (addS wy)) (F ++ qs.flatMap (addF wy)) := by
  have P := W.on wy (List.mem_append_right _ (.head _))
  refine ⟨fun w hw => ?_, fun w hw => ?_, fun cs K => kept_step (W.all cs K) K (hq' cs K)⟩
  · rcases List.mem_append.mp hw with h | h
    · exact W.on w (List.mem_append_left _ h)
    · obtain ⟨p, hp, h⟩ := List.mem_flatMap.mp h
      unfold addS at h
      by_cases q : p.1 = lastOf wy ∧ p.2 > firstOf wy ∧ p.2 ∉ wy
      · rw [if_pos q] at h
        obtain rfl := List.mem_singleton.mp h
        exact P.next (by rw [← q.1]; exact hq p hp) (Rr.lt p (hq p hp)).2 q.2.2
      · rw [if_neg q] at h; cases h
  · rcases List.mem_append.mp hw with h | h
    · exact W.rings w h
    · obtain ⟨p, hp, h⟩ := List.mem_flatMap.mp h
      unfold addF at h
      by_cases q : p.1 = lastOf wy ∧ p.2 = firstOf wy
      · rw [if_pos q] at h
        obtain rfl := List.mem_singleton.mp h
        exact P.ring Rr (by rw [← q.1, ← q.2]; exact hq p hp)
      · rw [if_neg q] at h; cases h

theorem rings_spec (O : Ok t u k) (hv : IsT m v t) (hw : IsT m w u) (h0 : ∀ m', Ext m m' → Q .none m')
    (h1 : ∀ (f : Addr) (F : List (List Nat)) ys m', Ext m m' → m f = none → m' f = some (.list ys) → All2 (FrI m m') ys (F.map zs) → F.length < 100000 → (∀ w ∈ F, Way w t.length ∧ Around (pairs t u) w) → (∀ cs, Canon (pairs t u) t.length cs → cs ∈ F) → Q (.ref f) m') : CN (n + 3) 95 [v, w] Q X m := by
  have h8 := O.t8
  have hpl := pairs_lt O
  have Rr : Rp (pairs t u) t.length := pairs_rp
  (refine call_eq rfl rfl ?_; dsimp only [f_L_rings, sts, loc0, List.map, List.replicate, List.cons_append, List.nil_append, List.length, Nat.reduceAdd, Nat.reduceSub])
  walk_at "ss"
  refine lenvies_spec O hv hw fun a m1 E1 ha => ?_
  walk_at "ss"
  try dsimp only [setV]
  refine len_ll (hv.ext E1) (lid_of O.tl) ?_
  walk_at "ss"
  refine core_spec Rr h8 hpl ha fun c left m2 E2 hc hH hlt hnd => ?_
  have hll : left.length ≤ 8 := Nat.le_trans (by have := nodup_sub_len hnd (l' := List.range t.length) fun x hx => List.mem_range.mpr (hlt x hx); rw [List.length_range] at this; exact this) h8
  have hcI : IsI m2 (.ref c) (zs left) := ⟨c, rfl, hc⟩
  walk_at "ss"
  try dsimp only [setV]
  refine items_list (IsL.seq ⟨a, rfl, E2 a _ ha⟩) (pairs_lid O) ?_
  refine comp_filter (g := fun y => y) (c := fun y => match y with | .tup [.int i, .int j] => decide (i ∈ zs left) && decide (j ∈ zs left) | _ => false) rfl (fun y hy P hP => ?_) (fun y hy P hP => ?_) ?_
  · obtain ⟨p, _, rfl⟩ := List.mem_map.mp hy
    walk_at "ss"
    refine pair_0 ?_
    walk_at "ss"
    refine cmp_inI hcI ?_
    have hP' : P (.bool (decide ((p.1 : Int) ∈ zs left) && decide ((p.2 : Int) ∈ zs left))) m2 := hP
    by_cases q : (p.1 : Int) ∈ zs left
    · rw [decide_eq_true q] at hP' ⊢
      walk_at "ss"
      refine pair_1 ?_
      walk_at "ss"
      refine cmp_inI hcI ?_
      rw [Bool.true_and] at hP'
      walk_at "ss"
      exact hP'
    · rw [decide_eq_false q] at hP' ⊢
      walk_at "ss"
      exact hP'
  · obtain ⟨p, _, rfl⟩ := List.mem_map.mp hy
    walk_at "ss"
    exact hP
  have hfe : List.map (fun y => y) (List.filter (fun y => match y with | Val.tup [.int i, .int j] => decide (i ∈ zs left) && decide (j ∈ zs left) | _ => false) ((pairs t u).map tupV)) = ((pairs t u).filter fun p => decide (p.1 ∈ left) && decide (p.2 ∈ left)).map tupV := by
    rw [List.map_id', List.filter_map]
    congr 1
    refine List.filter_congr fun p _ => ?_
    show (decide ((p.1 : Int) ∈ zs left) && decide ((p.2 : Int) ∈ zs left)) = _
    rw [dec_zs, dec_zs]
  rw [hfe]
  generalize hqs : ((pairs t u).filter fun p => decide (p.1 ∈ left) && decide (p.2 ∈ left)) = qs
  have hql : qs.length < 100 := by rw [← hqs]; exact Nat.lt_of_le_of_lt (List.length_filter_le _ _) hpl
  have hqp : ∀ p ∈ qs, p ∈ pairs t u := fun p hp => by rw [← hqs] at hp; exact (List.mem_filter.mp hp).1
  have hqc : ∀ cs, Canon (pairs t u) t.length cs → ∀ p ∈ pairs t u, p.1 ∈ cs → p.2 ∈ cs → p ∈ qs := fun cs K p hp i1 i2 => by
    rw [← hqs]
    refine List.mem_filter.mpr ⟨hp, ?_⟩
    rw [decide_eq_true (hH cs K.way K.around _ i1), decide_eq_true (hH cs K.way K.around _ i2)]; rfl
  refine freshL_ (by rw [List.length_map]; exact lid_of (by walk_at "o")) fun d hd => ?_
  have Ed := Ext.set (o := .list (qs.map tupV)) hd
  have hd3 : (m2.set d (.list (qs.map tupV))) d = some (.list (qs.map tupV)) := set_eq
  have E3 := E1.trans (E2.trans Ed)
  have hcI3 := hcI.ext Ed
  generalize m2.set d (.list (qs.map tupV)) = m3 at hd3 E3 hcI3
  walk_at "ss"
  try dsimp only [setV]
  refine items_list hcI3.seq (by rw [List.length_map, zs_len]; exact lid_of (by walk_at "o")) ?_
  refine comp_own (fun j => zs [left.getD j 0]) (by rw [List.length_map, zs_len]; walk_at "o") (fun m' E => IsL.stands (k := .plain) hcI3 (hcI3.ext E)) (fun j y m' hy E P hP => ?_) fun v4 m4 E4 o4 => ?_
  · unfold zs at hy
    rw [List.map_map, List.getElem?_map] at hy
    obtain ⟨z, hz, rfl⟩ := Option.map_eq_some_iff.mp hy
    walk_at "ss"
    refine freshL_ (lid_of (show 1 < 1000 by decide)) fun e he => ?_
    have := hP e m' .refl he
    rw [show left.getD j 0 = z by rw [List.getD_eq_getElem?_getD, hz]; rfl] at this
    exact this
  rw [List.length_map, zs_len, show (List.range left.length).map (fun j => zs [left.getD j 0]) = (left.map fun x => [x]).map zs by
    rw [List.map_map]
    refine List.ext_getElem? fun j => ?_
    rw [List.getElem?_map, List.getElem?_map]
    by_cases hj : j < left.length
    · rw [List.getElem?_range hj, List.getElem?_eq_getElem hj]
      show some (zs [left.getD j 0]) = some (zs [left[j]])
      rw [List.getD_eq_getElem?_getD, List.getElem?_eq_getElem hj]; rfl
    · rw [List.getElem?_eq_none (by rw [List.length_range]; walk_at "o"), List.getElem?_eq_none (by walk_at "o")]; rfl] at o4
  refine Classical.byContradiction fun hG9 => ?_
  obtain ⟨f4, xs4, rfl, hf40, hf4, hx4⟩ := o4.split
  refine hG9 ?_
  clear hG9
  walk_at "ss"
  try dsimp only [setV]
  refine freshL_ (lid_of (by decide)) fun f5 hf5 => ?_
  have hne : f4 ≠ f5 := ne_of hf5 hf4
  have S0 : RSt m3 f4 f5 (left.map fun x => [x]) [] (m4.set f5 (.list [])) := by
    refine ⟨m4.del f4, xs4, [], E4.less hf40, del_eq, by rw [del_ne (Ne.symm hne)]; exact hf5, ?_, hx4, .nil⟩
    rw [del_set, set_same hf4]
  have W0 : WaysOk (pairs t u) t.length (left.map fun x => [x]) [] := by
    refine ⟨fun w hw => ?_, fun w hw => (by cases hw), fun cs K => .inr ⟨1, by decide, by have := K.way.two; walk_at "o", ?_⟩⟩
    · obtain ⟨x, hx, rfl⟩ := List.mem_map.mp hw
      exact ⟨(fun e => by cases e), List.nodup_cons.mpr ⟨by simp, List.nodup_nil⟩, fun y hy => by rw [List.mem_singleton.mp hy]; exact hlt x hx, (fun i a b h1 h2 => by cases i <;> cases h2)⟩
    · have h2 := K.way.two
      refine List.mem_map.mpr ⟨rg cs 0, hH cs K.way K.around _ (rg_mem K.way 0), ?_⟩
      have := rg_get K.way 0
      rw [Nat.zero_mod] at this
      cases cs with
      | nil => cases this
      | cons z r => cases this; rfl
  generalize m4.set f5 (.list []) = m5 at S0
  walk_at "ss"
  try dsimp only [setV]
  refine items_range (n := 60) ⟨by decide, by decide⟩ ?_
  refine for_inv (fun i l m' => ∃ y6 y7 y8 y9 S F, l = [some v, some w, some (.ref d), some (.ref c), some (.ref f4), some (.ref f5), y6, y7, y8, y9, none, none] ∧ RSt m3 f4 f5 S F m' ∧ WaysOk (pairs t u) t.length S F ∧ S.length ≤ 8 + 100 * i ∧ F.length ≤ 100 * i)
    ⟨none, none, none, none, _, _, rfl, S0, W0, by rw [List.length_map]; walk_at "o", Nat.zero_le _⟩ (fun i x l m' hx hI P hP => ?_) fun l m' hI => ?_
  · refine Classical.byContradiction fun hG9 => ?_
    obtain ⟨y6, y7, y8, y9, S, F, rfl, H, WO, hSl, hFl⟩ := hI
    refine hG9 ?_
    clear hG9
    have hi60 : i < 60 := (range_get hx).1
    refine bodyF_one ?_
    dsimp only [setV]
    walk_at "ss"
    refine freshL_ (lid_of (by decide)) fun e he => ?_
    have Ee := Ext.set (o := .list []) he
    have H1 := H.grow hne Ee
    have he1 : (m'.set e (.list [])) e = some (.list []) := set_eq
    generalize m'.set e (.list []) = m6 at H1 he1
    obtain ⟨xs, hx6, hxl⟩ := H1.at4 hne
    have hread : IsT m6 (.ref f4) (S.map zs) := by
      refine Classical.byContradiction fun hG9 => ?_
      obtain ⟨mr, xs', ys, Er, g1, g2, rfl, hx', hy'⟩ := H1.ex
      refine hG9 ?_
      clear hG9
      have Em : Ext mr ((mr.set f4 (.list xs')).set f5 (.list ys)) := (Ext.set g1).trans (Ext.set (by rw [set_ne (Ne.symm hne)]; exact g2))
      exact ⟨xs', ⟨f4, rfl, by rw [set_ne hne, set_eq]⟩, hx'.mono fun _ _ q => (q.ext Em).isI⟩
    refine cmp_eqTT (a := S.map zs) (b := []) hread ⟨[], ⟨e, rfl, he1⟩, .nil⟩ ?_
    by_cases hS : S = []
    · subst hS
      rw [show decide ((([] : List (List Nat)).map zs) = []) = true from decide_eq_true rfl]
      walk_at "ss"
      with_reducible refine loopQ_ret ?_
      walk_at "ss"
      refine Classical.byContradiction fun hG9 => ?_
      obtain ⟨mr, xs', ys, Er, g1, g2, e6, hx', hy'⟩ := id H1.ex
      refine hG9 ?_
      clear hG9
      have Em : Ext mr m6 := by rw [e6]; exact (Ext.set g1).trans (Ext.set (by rw [set_ne (Ne.symm hne)]; exact g2))
      refine h1 f5 F ys _ (E3.trans (H1.ext hne)) (none_of (E3.trans Er) g2) (by rw [e6]; exact set_eq) (hy'.mono fun _ _ q => ?_) (by walk_at "o") WO.rings fun cs K => ?_
      · refine Classical.byContradiction fun hG9 => ?_
        obtain ⟨b, rfl, hb0, hb⟩ := q
        refine hG9 ?_
        clear hG9
        exact ⟨b, rfl, none_of E3 hb0, Em b _ hb⟩
      · rcases WO.all cs K with q | ⟨_, _, _, q⟩
        · exact q
        · cases q
    · rw [show decide ((S.map zs) = []) = false from decide_eq_false fun q => hS (List.map_eq_nil_iff.mp q)]
      obtain ⟨S', wy, rfl⟩ : ∃ S' wy, S = S' ++ [wy] := by
        rcases List.eq_nil_or_concat S with q | ⟨l, y, q⟩
        · exact absurd q hS
        · exact ⟨l, y, by rw [q, List.concat_eq_append]⟩
      have P := WO.on wy (List.mem_append_right _ (.head _))
      rw [List.length_append, List.length_singleton] at hSl
      walk_at "ss"
      refine isL_ hx6 ?_
      walk_at "ss"
      refine H1.pop4 hne (by walk_at "o") fun b m7 hb4 hb5 hb0 hb H7 => ?_
      walk_at "ss"
      dsimp only [setV]
      have hd7 := H7.ext hne d _ hd3
      refine items_list (IsL.seq ⟨d, rfl, hd7⟩) (by rw [List.length_map]; exact lid_of (by walk_at "o")) ?_
      refine for_inv (fun j l m' => ∃ y8 y9, l = [some v, some w, some (.ref d), some (.ref c), some (.ref f4), some (.ref f5), some x, some (.ref b), y8, y9, none, none] ∧ RSt m3 f4 f5 (S' ++ (qs.take j).flatMap (addS wy)) (F ++ (qs.take j).flatMap (addF wy)) m' ∧ m' b = some (.list ((zs wy).map .int)))
        ⟨_, _, rfl, by simpa using H7, hb⟩ (fun j y l m8 hy hI P2 hP2 => ?_) fun l m8 hI => ?_
      · refine Classical.byContradiction fun hG9 => ?_
        obtain ⟨y8, y9, rfl, H8, hb8⟩ := hI
        refine hG9 ?_
        clear hG9
        rw [List.getElem?_map] at hy
        obtain ⟨p, hp, rfl⟩ := Option.map_eq_some_iff.mp hy
        have hfl1 : ((qs.take j).flatMap (addS wy)).length ≤ 100 := Nat.le_trans (flatMap_len _ (fun p => addS_len p) _) (by rw [List.length_take]; walk_at "o")
        have hfl2 : ((qs.take j).flatMap (addF wy)).length ≤ 100 := Nat.le_trans (flatMap_len _ (fun p => addF_len p) _) (by rw [List.length_take]; walk_at "o")
        refine bodyF_two ?_
        dsimp only [setV]
        refine looks_spec hne P h8 H8 (by rw [List.length_append]; walk_at "o") (by rw [List.length_append]; walk_at "o") hb4 hb5 hb0 hb8 fun m10 H10 hb10 => ?_
        refine loopQ_next (hP2 _ _ ?_)
        refine ⟨IsL.stands (k := .plain) ⟨d, rfl, hd7⟩ ⟨d, rfl, H10.ext hne d _ hd3⟩, _, _, rfl, ?_, hb10⟩
        rw [flatMap_succ _ hp, flatMap_succ _ hp, ← List.append_assoc, ← List.append_assoc]
        exact H10
      · refine Classical.byContradiction fun hG9 => ?_
        obtain ⟨y8, y9, rfl, H8, hb8⟩ := hI
        refine hG9 ?_
        clear hG9
        rw [List.length_map, List.take_length] at H8
        have hfl1 : (qs.flatMap (addS wy)).length ≤ 99 := Nat.le_trans (flatMap_len _ (fun p => addS_len p) _) (by walk_at "o")
        have hfl2 : (qs.flatMap (addF wy)).length ≤ 99 := Nat.le_trans (flatMap_len _ (fun p => addF_len p) _) (by walk_at "o")
        walk_at "ss"
        with_reducible refine loopQ_next (hP _ _ ?_)
        exact ⟨trivial, _, _, _, _, _, _, rfl, H8, WO.next Rr hqp hqc, by rw [List.length_append]; walk_at "o", by rw [List.length_append]; walk_at "o"⟩
  · refine Classical.byContradiction fun hG9 => ?_
    obtain ⟨y6, y7, y8, y9, S, F, rfl, H, WO, hSl, hFl⟩ := hI
    refine hG9 ?_
    clear hG9
    walk_at "ss"
    exact h0 _ (E3.trans (H.ext hne))
end

section
variable {C : CallT} {G : String → Option Val} {Q : Val → Mem → Prop} {X : Nat → Mem → Prop} {m : Mem} {n : Nat} {t u s : List (List Int)} {k N : Nat} {v w : Val} {loc : Loc} {R : Flow → Loc → Mem → Prop} {Y : Nat → Loc → Mem → Prop} {x : Int} {ps : List (Nat × Nat)} {a : Addr} {T D : List (List (List Int))} {f0 f2 f3 : Addr} {ws : List Nat}

theorem least_of {l : List Nat} (h : l ≠ []) : ∃ a ∈ l, ∀ x ∈ l, a ≤ x := by
  induction l with
  | nil => exact absurd rfl h
  | cons y r ih =>
    by_cases q : r = []
    · subst q
      exact ⟨y, .head _, fun x hx => by rw [List.mem_singleton.mp hx]; exact Nat.le_refl _⟩
    · obtain ⟨a, ha, hle⟩ := ih q
      by_cases e : y ≤ a
      · exact ⟨y, .head _, fun x hx => by rcases List.mem_cons.mp hx with rfl | hx; (· exact Nat.le_refl _); (· exact Nat.le_trans e (hle x hx))⟩
      · exact ⟨a, .tail _ ha, fun x hx => by rcases List.mem_cons.mp hx with rfl | hx; (· walk_at "o"); (· exact hle x hx)⟩
theorem canon_of (W : Way ws N) (A : Around ps ws) : ∃ i, i < ws.length ∧ Canon ps N (ws.drop i ++ ws.take i) := by
  obtain ⟨a, ha, hle⟩ := least_of (l := ws) fun e => by have := W.two; rw [e] at this; cases this
  obtain ⟨e, hi⟩ := rg_of W ha
  refine ⟨ws.idxOf a, hi, W.rot hi, fun i => ?_, fun x hx => ?_⟩
  · rw [rg_rot W hi, rg_rot W hi]
    exact A (ws.idxOf a + i)
  · rw [rg_rot W hi, Nat.add_zero, e]
    refine hle x ?_
    rcases List.mem_append.mp hx with q | q
    · exact List.mem_of_mem_drop q
    · exact List.mem_of_mem_take q

theorem Ext.part {m : Mem} {f : Addr} : Ext (m.del f) m := fun b o e => by
  have hb : b ≠ f := fun q => by subst q; rw [del_eq] at e; cases e
  rw [del_ne hb] at e; exact e
theorem Ext.both {m m' : Mem} (E : Ext m m') (f : Addr) : Ext (m.del f) (m'.del f) := fun b o e => by
  have hb : b ≠ f := fun q => by subst q; rw [del_eq] at e; cases e
  rw [del_ne hb] at e ⊢; exact E b o e
structure TSt (m : Mem) (f0 f2 f3 : Addr) (T D : List (List (List Int))) (m' : Mem) : Prop where
  ex : ∃ mr xs ys, Ext m mr ∧ mr f2 = none ∧ mr f3 = none ∧ m' = (mr.set f2 (.list xs)).set f3 (.list ys) ∧ All2 (IsT (mr.del f0)) xs T ∧ All2 (IsT (mr.del f0)) ys D
theorem ext2 {mr : Mem} (hne : f2 ≠ f3) (h2 : mr f2 = none) (h3 : mr f3 = none) (o o' : AObj) : Ext mr ((mr.set f2 o).set f3 o') := (Ext.set h2).trans (Ext.set (by rw [set_ne (Ne.symm hne)]; exact h3))
theorem TSt.ext {m' : Mem} (hne : f2 ≠ f3) (H : TSt m f0 f2 f3 T D m') : Ext m m' := by
  obtain ⟨mr, xs, ys, E, h2, h3, rfl, _⟩ := H.ex
  exact E.trans (ext2 hne h2 h3 _ _)
theorem TSt.grow {m' m'' : Mem} (hne : f2 ≠ f3) (H : TSt m f0 f2 f3 T D m') (E : Ext m' m'') : TSt m f0 f2 f3 T D m'' := by
  obtain ⟨mr, xs, ys, E0, h2, h3, rfl, hx, hy⟩ := H.ex
  have g3 := E f3 _ set_eq
  have g2 := E f2 (.list xs) (by rw [set_ne hne, set_eq])
  have Er : Ext mr ((m''.del f3).del f2) := fun b o e => by
    have hb2 := ne_of h2 e
    have hb3 := ne_of h3 e
    rw [del_ne hb2, del_ne hb3]
    exact E b o (by rw [set_ne hb3, set_ne hb2]; exact e)
  refine ⟨(m''.del f3).del f2, xs, ys, E0.trans Er, del_eq, by rw [del_ne (Ne.symm hne)]; exact del_eq, ?_, hx.mono fun _ _ q => q.ext (Er.both f0), hy.mono fun _ _ q => q.ext (Er.both f0)⟩
  have e2 : (m''.del f3) f2 = some (.list xs) := by rw [del_ne hne]; exact g2
  rw [del_set, set_same e2, del_set, set_same g3]
theorem TSt.read {m' : Mem} (hne : f2 ≠ f3) (H : TSt m f0 f2 f3 T D m') : IsLL IsT m' (.ref f2) T ∧ IsLL IsT m' (.ref f3) D := by
  obtain ⟨mr, xs, ys, E0, h2, h3, rfl, hx, hy⟩ := H.ex
  have Em := ext2 hne h2 h3 (.list xs) (.list ys)
  exact ⟨⟨xs, ⟨f2, rfl, by rw [set_ne hne, set_eq]⟩, hx.mono fun _ _ q => q.ext (Ext.part.trans Em)⟩, ⟨ys, ⟨f3, rfl, set_eq⟩, hy.mono fun _ _ q => q.ext (Ext.part.trans Em)⟩⟩
theorem TSt.readD {m' : Mem} (hne : f2 ≠ f3) (h30 : f3 ≠ f0) (H : TSt m f0 f2 f3 T D m') : IsLL IsT (m'.del f0) (.ref f3) D := by
  obtain ⟨mr, xs, ys, E0, h2, h3, rfl, hx, hy⟩ := H.ex
  have Em := ext2 hne h2 h3 (.list xs) (.list ys)
  exact ⟨ys, ⟨f3, rfl, by rw [del_ne h30]; exact set_eq⟩, hy.mono fun _ _ q => q.ext (Em.both f0)⟩
theorem TSt.at {m' : Mem} (hne : f2 ≠ f3) (H : TSt m f0 f2 f3 T D m') (hT : T.length < lid) {i : Nat} (hi : T[i]? = some s) (h : ∀ y, IsT m' y s → Q y m') : subW (.ref f2) (.int (i : Nat)) Q m' := sub_ll (H.read hne).1 (nn i) hi hT h
theorem TSt.push3 {m' : Mem} (hne : f2 ≠ f3) (H : TSt m f0 f2 f3 T D m') (hD : D.length < lid) (hT : T.length < lid) {i : Nat} (hi : T[i]? = some s) {P : Val → Mem → Prop} (h : ∀ m'', TSt m f0 f2 f3 T (D ++ [s]) m'' → (∀ b o, b ≠ f3 → m' b = some o → m'' b = some o) → P .none m'') : subW (.ref f2) (.int (i : Nat)) (fun y m1 => appQ P (.ref f3) y m1) m' := by
  obtain ⟨mr, xs, ys, E0, h2, h3, rfl, hx, hy⟩ := H.ex
  obtain ⟨y, hy1, hys⟩ := hx.get' hi
  refine subW_ (xs := xs) (IsL.seq ⟨f2, rfl, by rw [set_ne hne, set_eq]⟩) (place_nat (nn i) (by rw [hx.length]; exact (List.getElem?_eq_some_iff.mp hi).1)) hy1 (by rw [hx.length]; exact hT) ?_
  refine appQ_ set_eq (by rw [hy.length]; exact hD) (h _ ⟨mr, xs, ys ++ [y], E0, h2, h3, by rw [set_set], hx, hy.append (.cons hys .nil)⟩ fun b o hb ho => by rw [set_ne hb]; exact ho)
theorem TSt.push2 {m' m1 : Mem} (hne : f2 ≠ f3) (H : TSt m f0 f2 f3 T D m') (hT : T.length < lid) (hf0 : m f0 ≠ none) (E : Ext m' m1) (o : Own m' m1 v s) {P : Val → Mem → Prop} (h : ∀ m'', TSt m f0 f2 f3 (T ++ [s]) D m'' → (∀ b o, b ≠ f2 → m1 b = some o → m'' b = some o) → P .none m'') : appQ P (.ref f2) v m1 := by
  obtain ⟨xs0, hx0⟩ : ∃ xs0, m' f2 = some (.list xs0) := by
    obtain ⟨mr, xs, ys, _, _, _, rfl, _⟩ := H.ex
    exact ⟨xs, by rw [set_ne hne, set_eq]⟩
  obtain ⟨ys0, hy0⟩ : ∃ ys0, m' f3 = some (.list ys0) := by
    obtain ⟨mr, xs, ys, _, _, _, rfl, _⟩ := H.ex
    exact ⟨ys, set_eq⟩
  obtain ⟨o0, ho0⟩ : ∃ o0, m' f0 = some o0 := by
    cases q : m f0 with
    | none => exact absurd q hf0
    | some o0 => exact ⟨o0, (H.ext hne) f0 _ q⟩
  obtain ⟨mr, xs, ys, E0, h2, h3, rfl, hx, hy⟩ := (H.grow hne E).ex
  have o2 := (o.less hy0).less hx0
  have e : (((mr.set f2 (.list xs)).set f3 (.list ys)).del f3).del f2 = mr := by
    funext c
    unfold Mem.del Mem.set
    by_cases q2 : c = f2
    · subst q2; simp [h2]
    · by_cases q3 : c = f3
      · subst q3; simp [q2, h3]
      · simp [q2, q3]
  rw [e] at o2
  exact appQ_ (xs := xs) (by rw [set_ne hne, set_eq]) (by rw [hx.length]; exact hT) (h _ ⟨mr, xs ++ [v], ys, E0, h2, h3, by rw [set_comm (Ne.symm hne), set_set], hx.append (.cons (o2.less ho0).isT .nil), hy⟩ fun b o hb ho => by rw [set_ne hb]; exact ho)
theorem cmp_notinT {z : Val} {P : Bool → Mem → Prop} (hv : IsT m v s) (hz : IsLL IsT m z T) (h : P (!decide (s ∈ T)) m) : wpCmp .notin v z P m := by
  obtain ⟨xs, e1, e2⟩ := hz
  refine Exists.intro (dTab s) ⟨T.map dTab, xs, e1.seq, hv.reads, readsL_of (fun _ _ q => IsT.reads q) e2, okN_tab s, ?_, ?_⟩
  · rw [List.all_eq_true]
    intro d hd
    obtain ⟨y, _, rfl⟩ := List.mem_map.mp hd
    exact okN_tab y
  · rw [show ((T.map dTab).any fun e => Dat.beq e (dTab s)) = decide (s ∈ T) by
      rw [List.any_map]
      by_cases hx : s ∈ T
      · rw [decide_eq_true hx, List.any_eq_true]; exact ⟨s, hx, by show Dat.beq (dTab s) (dTab s) = true; rw [beq_tab]; exact decide_eq_true rfl⟩
      · rw [decide_eq_false hx, List.any_eq_false]; intro y hy e; exact hx (by have : Dat.beq (dTab y) (dTab s) = true := e; rw [beq_tab] at this; exact of_decide_eq_true this ▸ hy)]
    exact h

structure Sett (t u : List (List Int)) (T D : List (List (List Int))) (p : Nat) : Prop where
  base : u ∈ T
  reach : ∀ s ∈ T, Reach t u s
  goal : ∀ s ∈ D, Reach t u s ∧ NoRing (pairs t s) t.length
  next : ∀ i s, i < p → T[i]? = some s → ∀ ws v, Way ws t.length → Around (pairs t s) ws → Turn s ws v → v ∈ T
  done : ∀ i s, i < p → T[i]? = some s → NoRing (pairs t s) t.length → s ∈ D
theorem Sett.all (S : Sett t u T D T.length) {v : List (List Int)} (h : Reach t u v) (hno : NoRing (pairs t v) t.length) : v ∈ D := by
  have go : ∀ a b, Reach t a b → a ∈ T → b ∈ T := fun a b r => by
    induction r with
    | refl => exact fun h => h
    | step W A Tn _ ih =>
      intro ha
      obtain ⟨i, hi⟩ := List.mem_iff_getElem?.mp ha
      exact ih (S.next i _ (List.getElem?_eq_some_iff.mp hi).1 hi _ _ W A Tn)
  obtain ⟨i, hi⟩ := List.mem_iff_getElem?.mp (go u v h S.base)
  exact S.done i v (List.getElem?_eq_some_iff.mp hi).1 hi hno
end

section
variable {C : CallT} {G : String → Option Val} {Q : Val → Mem → Prop} {X : Nat → Mem → Prop} {m : Mem} {n : Nat} {t u s : List (List Int)} {k N : Nat} {v w : Val} {loc : Loc} {R : Flow → Loc → Mem → Prop} {Y : Nat → Loc → Mem → Prop} {x : Int} {ps : List (Nat × Nat)} {a : Addr} {T D : List (List (List Int))} {f0 f2 f3 : Addr} {ws : List Nat}

theorem Sett.step {T2 D2 : List (List (List Int))} {p : Nat} {F : List (List Nat)} (O : Ok t u k) (S : Sett t u T D p) (hs : T[p]? = some s) (hF : ∀ w ∈ F, Way w t.length ∧ Around (pairs t s) w) (hall : ∀ cs, Canon (pairs t s) t.length cs → cs ∈ F)
    (hT : ∀ y ∈ T2, ∃ w ∈ F, Turn s w y) (hgo : ∀ w ∈ F, ∃ g ∈ T ++ T2, Turn s w g) (hD : D2 = D ++ (if F = [] then [s] else [])) : Sett t u (T ++ T2) D2 (p + 1) := by
  have hsm := List.mem_of_getElem? hs
  have hR := S.reach s hsm
  have Os := hR.ok O
  have hlt := (List.getElem?_eq_some_iff.mp hs).1
  have no : F = [] → NoRing (pairs t s) t.length := fun e ws W A => by
    obtain ⟨i, hi, K⟩ := canon_of W A
    have := hall _ K
    rw [e] at this
    cases this
  refine ⟨List.mem_append_left _ S.base, fun y hy => ?_, fun y hy => ?_, fun i y hi hy ws g W A Tn => ?_, fun i y hi hy hno => ?_⟩
  · rcases List.mem_append.mp hy with q | q
    · exact S.reach y q
    · obtain ⟨w, hw, Tn⟩ := hT y q
      exact hR.trans (.step (hF w hw).1 (hF w hw).2 Tn (.refl _))
  · rw [hD] at hy
    rcases List.mem_append.mp hy with q | q
    · exact S.goal y q
    · by_cases e : F = []
      · rw [if_pos e] at q
        rw [List.mem_singleton.mp q]
        exact ⟨hR, no e⟩
      · rw [if_neg e] at q; cases q
  · have hiT : i < T.length := by walk_at "o"
    rw [List.getElem?_append_left hiT] at hy
    by_cases e : i = p
    · subst e
      rw [hs] at hy
      cases hy
      obtain ⟨j, hj, K⟩ := canon_of W A
      obtain ⟨g', hg', Tg⟩ := hgo _ (hall _ K)
      have Wu : Way ws s.length := by rw [Os.len]; exact W
      rw [Tn.unique Wu (Tg.rot Wu hj)]
      exact hg'
    · exact List.mem_append_left _ (S.next i y (by walk_at "o") hy ws g W A Tn)
  · have hiT : i < T.length := by walk_at "o"
    rw [List.getElem?_append_left hiT] at hy
    rw [hD]
    by_cases e : i = p
    · subst e
      rw [hs] at hy
      cases hy
      refine List.mem_append_right _ ?_
      have : F = [] := by
        cases F with
        | nil => rfl
        | cons w r => exact (hno w (hF w (.head _)).1 (hF w (.head _)).2).elim
      rw [if_pos this]; exact .head _
    · exact List.mem_append_left _ (S.done i y (by walk_at "o") hy hno)

noncomputable def waysFor : St := .fors (.one 6) .plain (.nm 5) (sts [
        .asg 7 (.call 18 (.cons (.sub (.nm 2) (.nm 4)) .nil)),
        .fors (.one 8) .range (.b1 .len (.nm 6)) (sts [
          .asgSub (.nm 7) (.sub (.nm 6) (.bin .sub (.nm 8) (.int 1))) (.b1 .list (.sub (.sub (.nm 2) (.nm 4)) (.sub (.nm 6) (.nm 8))))]),
        .ifs (.cmp .notin (.nm 7) (.nm 2)) (sts [
          .expr (.append (.nm 2) (.nm 7))]) .nil])
theorem ways_spec {mb m2 : Mem} {p : Nat} {f : Addr} {F : List (List Nat)} {ys : List Val} {y6 y7 y8 : Option Val} (O : Ok t s k) (hne : f2 ≠ f3) (hf00 : m f0 ≠ none) (H : TSt m f0 f2 f3 T D m2) (hb2 : mb f2 ≠ none) (hb3 : mb f3 ≠ none) (hf0 : mb f = none) (hf : m2 f = some (.list ys)) (hys : All2 (FrI mb m2) ys (F.map zs)) (hp : T[p]? = some s) (hT : T.length ≤ 12) (hFl : F.length < 100000)
    (hF : ∀ w ∈ F, Way w t.length ∧ Around (pairs t s) w)
    (hR : ∀ T2 m'' y6 y7 y8, TSt m f0 f2 f3 (T ++ T2) D m'' → (∀ y ∈ T2, ∃ w ∈ F, Turn s w y) → (∀ w ∈ F, ∃ g ∈ T ++ T2, Turn s w g) → T2.length ≤ F.length → R .next [some v, some w, some (.ref f2), some (.ref f3), some (.int ((p : Nat) + 1)), some (.ref f), y6, y7, y8] m'') :
    wpSs (CN (n + 1)) (globOf GS) (.cons waysFor (.cons (.asg 4 (.bin .add (.nm 4) (.int 1))) .nil)) R Y [some v, some w, some (.ref f2), some (.ref f3), some (.int (p : Nat)), some (.ref f), y6, y7, y8] m2 := by
  have h8 := O.t8
  have sl : s.length = t.length := O.len
  have apart : ∀ {b : Addr}, mb b = none → b ≠ f2 ∧ b ≠ f3 := fun hb => ⟨fun e => by subst e; exact hb2 hb, fun e => by subst e; exact hb3 hb⟩
  have hff := apart hf0
  dsimp only [waysFor, sts]
  walk_at "ss"
  refine items_list (IsL.seq ⟨f, rfl, hf⟩) (by rw [hys.length, List.length_map]; unfold lid; walk_at "o") ?_
  refine for_inv (fun i l m' => ∃ y6 y7 y8 T2, l = [some v, some w, some (.ref f2), some (.ref f3), some (.int (p : Nat)), some (.ref f), y6, y7, y8] ∧ TSt m f0 f2 f3 (T ++ T2) D m' ∧ m' f = some (.list ys) ∧ All2 (FrI mb m') ys (F.map zs) ∧ (∀ y ∈ T2, ∃ w ∈ F, Turn s w y) ∧ (∀ w ∈ F.take i, ∃ g ∈ T ++ T2, Turn s w g) ∧ T2.length ≤ i)
    ⟨_, _, _, [], rfl, by rw [List.append_nil]; exact H, hf, hys, (fun y hy => by cases hy), (fun w hw => by cases hw), Nat.le_refl _⟩ (fun i x l m' hx hI P hP => ?_) fun l m' hI => ?_
  · obtain ⟨y6, y7, y8, T2, rfl, H', hf', hys', hT2, hgo, hl2⟩ := hI
    obtain ⟨r, hr, hxr⟩ := hys'.get hx
    rw [List.getElem?_map] at hr
    obtain ⟨wy, hwy, rfl⟩ := Option.map_eq_some_iff.mp hr
    have hil : i < F.length := (List.getElem?_eq_some_iff.mp hwy).1
    have hwm := List.mem_of_getElem? hwy
    obtain ⟨W, A⟩ := hF wy hwm
    have Ws : Way wy s.length := by rw [sl]; exact W
    have h2 := W.two
    have hTl : (T ++ T2).length < lid := by rw [List.length_append]; unfold lid; walk_at "o"
    have hp' : (T ++ T2)[p]? = some s := by rw [List.getElem?_append_left (List.getElem?_eq_some_iff.mp hp).1]; exact hp
    refine bodyF_one ?_
    dsimp only [setV]
    walk_at "ss"
    refine H'.at hne hTl hp' fun y hy => ?_
    walk_at "ss"
    refine copy_own hy O.ul (fun s hs => sl1 (O.sl hs)) fun vO m3 E3 o3 => ?_
    walk_at "ss"
    dsimp only [setV]
    have hxI := hxr.isI
    refine len_way (hxI.ext E3) Ws (by rw [sl]; exact h8) ?_
    refine items_range (rng8 (Nat.le_trans W.len h8)) ?_
    refine for_inv (fun j l m4 => ∃ y8 g, l = [some v, some w, some (.ref f2), some (.ref f3), some (.int (p : Nat)), some (.ref f), some x, some vO, y8] ∧ Ext m' m4 ∧ Own m' m4 vO g ∧ TurnTo s wy (wy.length - 1) j g) ⟨_, s, rfl, E3, o3, .start _⟩ (fun j z l m4 hz hI P2 hP2 => ?_) fun l m4 hI => ?_
    · obtain ⟨y8, g, rfl, E4, o4, Tn⟩ := hI
      obtain ⟨hj, rfl⟩ := range_get hz
      have hj : j < wy.length := hj
      refine bodyF_one ?_
      dsimp only [setV]
      walk_at "ss"
      refine (H'.grow hne E4).at hne hTl hp' fun y hy => ?_
      walk_at "ss"
      refine way_at Ws (by rw [sl]; exact h8) (hxI.ext E4) hj ?_
      refine sub_ll hy (nn _) (getDL (rg_lt Ws j)) (lid_of O.ul) fun q hq => ?_
      refine b1_list hq.seq (freshL_ (by rw [List.length_map]; exact lid_of (sl1 (O.sl (getDL_mem (rg_lt Ws j))))) fun e he => ?_)
      walk_at "ss"
      refine way_prev Ws (by rw [sl]; exact h8) (hxI.ext (E4.trans (Ext.set he))) hj ?_
      refine o4.relist E4 (by rw [Tn.len]; exact rg_lt Ws _) (by rw [Tn.len]; exact O.ul) he fun m5 E5 o5 _ => ?_
      walk_at "ss"
      with_reducible refine loopQ_next (hP2 _ _ ?_)
      have T3 := Tn.next Ws hj
      rw [show wy.length - 1 + j + 1 = j + wy.length by walk_at "o", rg_mod (j + wy.length) j (Nat.add_mod_right ..), Nat.add_comm (wy.length - 1) j] at T3
      exact ⟨trivial, _, _, rfl, E5, o5, T3⟩
    obtain ⟨y8, g, rfl, E4, o4, Tn⟩ := hI
    rw [range_len] at Tn
    have Tg := Tn.done Ws
    have H4 := H'.grow hne E4
    walk_at "ss"
    refine cmp_notinT o4.isT (H4.read hne).1 ?_
    by_cases hin : g ∈ T ++ T2
    · rw [decide_eq_true hin]
      walk_at "ss"
      with_reducible refine loopQ_next (hP _ _ ?_)
      exact ⟨IsL.stands (k := .plain) ⟨f, rfl, hf⟩ ⟨f, rfl, E4 f _ hf'⟩, _, _, _, T2, rfl, H4, E4 f _ hf', hys'.mono fun _ _ q => q.ext E4, hT2, take_more hgo hwy ⟨g, hin, Tg⟩, by walk_at "o"⟩
    · rw [decide_eq_false hin]
      walk_at "ss"
      obtain ⟨xs2, hx2⟩ : ∃ xs2, m4 f2 = some (.list xs2) := by
        obtain ⟨xs, ⟨c, e, hc⟩, _⟩ := (H4.read hne).1
        cases e
        exact ⟨xs, hc⟩
      refine isL_ hx2 ?_
      walk_at "ss"
      refine H'.push2 hne hTl hf00 E4 o4 fun m6 H6 keep6 => ?_
      walk_at "ss"
      with_reducible refine loopQ_next (hP _ _ ?_)
      have hf6 := keep6 f _ hff.1 (E4 f _ hf')
      refine ⟨IsL.stands (k := .plain) ⟨f, rfl, hf⟩ ⟨f, rfl, hf6⟩, _, _, _, T2 ++ [g], rfl, by rw [← List.append_assoc]; exact H6, hf6, hys'.mono fun _ _ q => ?_, fun y hy => ?_, ?_, by rw [List.length_append, List.length_singleton]; walk_at "o"⟩
      · obtain ⟨b, rfl, hb0, hb⟩ := q
        exact ⟨b, rfl, hb0, keep6 b _ (apart hb0).1 (E4 b _ hb)⟩
      · rcases List.mem_append.mp hy with q | q
        · exact hT2 y q
        · rw [List.mem_singleton.mp q]; exact ⟨wy, hwm, Tg⟩
      · refine take_more (fun w' hw' => ?_) hwy ⟨g, by rw [← List.append_assoc]; exact List.mem_append_right _ (.head _), Tg⟩
        obtain ⟨g', h1, h2⟩ := hgo w' hw'
        exact ⟨g', by rw [← List.append_assoc]; exact List.mem_append_left _ h1, h2⟩
  · obtain ⟨y6, y7, y8, T2, rfl, H', hf', hys', hT2, hgo, hl2⟩ := hI
    rw [hys.length, List.length_map, List.take_length] at hgo
    walk_at "ss"
    exact hR T2 _ _ _ _ H' hT2 hgo (by rw [hys.length, List.length_map] at hl2; exact hl2)

theorem settled_spec (O : Ok t u k) (hf00 : m f0 ≠ none) (hv : IsT m v t) (hw : IsT (m.del f0) w u) (h0 : ∀ m', Ext m m' → Q .none m')
    (h1 : ∀ (f : Addr) (D : List (List (List Int))) m', Ext m m' → IsLL IsT (m'.del f0) (.ref f) D → D.length < 1000 → (∀ s ∈ D, Reach t u s ∧ NoRing (pairs t s) t.length) → (∀ s, Reach t u s → NoRing (pairs t s) t.length → s ∈ D) → Q (.ref f) m') : CN (n + 4) 96 [v, w] Q X m := by
  (refine call_eq rfl rfl ?_; dsimp only [f_L_settled, sts, loc0, List.map, List.replicate, List.cons_append, List.nil_append, List.length, Nat.reduceAdd, Nat.reduceSub])
  walk_at "ss"
  refine freshL_ (lid_of (show 1 < 1000 by decide)) fun f2 hf2 => ?_
  walk_at "ss"
  refine freshL_ (lid_of (by decide)) fun f3 hf3 => ?_
  have hne : f2 ≠ f3 := ne_of hf3 set_eq
  have hf3m : m f3 = none := by rw [set_ne (Ne.symm hne)] at hf3; exact hf3
  have h30 : f3 ≠ f0 := fun e => by subst e; exact hf00 hf3m
  walk_at "ss"
  dsimp only [setV]
  have S0 : TSt m f0 f2 f3 [u] [] ((m.set f2 (.list [w])).set f3 (.list [])) := ⟨m, [w], [], .refl, hf2, hf3m, rfl, .cons hw .nil, .nil⟩
  have P0 : Sett t u [u] [] 0 := ⟨.head _, fun s hs => by rw [List.mem_singleton.mp hs]; exact .refl _, (fun s hs => by cases hs), fun i s hi => absurd hi (Nat.not_lt_zero _), fun i s hi => absurd hi (Nat.not_lt_zero _)⟩
  refine s_whiles _ (while_inv (fun r l m' => ∃ p y5 y6 y7 y8 T D, l = [some v, some w, some (.ref f2), some (.ref f3), some (.int (p : Nat)), y5, y6, y7, y8] ∧ TSt m f0 f2 f3 T D m' ∧ Sett t u T D p ∧ p ≤ T.length ∧ D.length ≤ p ∧ p + r = 20 ∧ T.length < 200000) (fun r l m' hI P hP => ?_) 20 _ _ ⟨0, none, none, none, none, _, _, rfl, S0, P0, Nat.zero_le _, Nat.zero_le _, rfl, by show 1 < 200000; decide⟩)
  obtain ⟨p, y5, y6, y7, y8, T, D, rfl, H, PS, hpT, hDl, hpr, hTl⟩ := hI
  have hTlid : T.length < lid := by unfold lid; walk_at "o"
  walk_at "ss"
  refine len_ll (H.read hne).1 hTlid ?_
  refine cmp_lt (asB_ ?_)
  by_cases hp : p < T.length
  rotate_left
  · refine ifQ_f (decide_eq_false (by walk_at "o")) ?_
    walk_at "ss"
    obtain rfl : p = T.length := by walk_at "o"
    exact h1 f3 D _ (H.ext hne) (H.readD hne h30) (by walk_at "o") PS.goal fun s hs hno => PS.all hs hno
  refine ifQ_t (decide_eq_true (by walk_at "o")) ?_
  have hget := List.getElem?_eq_getElem hp
  generalize T[p] = s at hget
  have hsT := List.mem_of_getElem? hget
  have hR := PS.reach s hsT
  have Os := hR.ok O
  walk_at "ss"
  refine H.at hne hTlid hget fun y hy => ?_
  walk_at "ss"
  have E0 := H.ext hne
  refine rings_spec Os (hv.ext E0) hy (fun m1 E1 => ?_) fun f F ys m1 E1 hf0 hf hys hFl hFr hFa => ?_
  · walk_at "ss"
    dsimp only [setV]
    refine bsQ_stop rfl ?_
    refine asB_ (ifQ_t rfl ?_)
    walk_at "ss"
    with_reducible refine loopQ_ret ?_
    walk_at "ss"
    exact h0 _ (E0.trans E1)
  have H1 := H.grow hne E1
  walk_at "ss"
  dsimp only [setV]
  refine bsQ_go rfl ?_
  walk_at "ss"
  refine len_ll (H1.read hne).1 hTlid ?_
  walk_at "ss"
  by_cases h12 : T.length > 12
  · refine ifQ_t (decide_eq_true (by walk_at "o")) ?_
    walk_at "ss"
    with_reducible refine loopQ_ret ?_
    walk_at "ss"
    exact h0 _ (E0.trans E1)
  refine ifQ_f (decide_eq_false (by walk_at "o")) ?_
  have hFT : IsT m1 (.ref f) (F.map zs) := ⟨ys, ⟨f, rfl, hf⟩, hys.mono fun _ _ q => q.isI⟩
  obtain ⟨r', rfl⟩ : ∃ r', r = r' + 1 := ⟨r - 1, by walk_at "o"⟩
  have h2' : m' f2 ≠ none := by
    obtain ⟨xs, ⟨c, e, hc⟩, _⟩ := (H.read hne).1
    cases e
    rw [hc]; exact fun q => nomatch q
  have h3' : m' f3 ≠ none := by
    obtain ⟨xs, ⟨c, e, hc⟩, _⟩ := (H.read hne).2
    cases e
    rw [hc]; exact fun q => nomatch q
  have apart : ∀ {b : Addr}, m' b = none → b ≠ f2 ∧ b ≠ f3 := fun hb => ⟨fun e => by subst e; exact h2' hb, fun e => by subst e; exact h3' hb⟩
  have fin : ∀ (T2 : List (List (List Int))) D2 m'' y6 y7 y8, D2 = D ++ (if F = [] then [s] else []) → TSt m f0 f2 f3 (T ++ T2) D2 m'' → (∀ y ∈ T2, ∃ w ∈ F, Turn s w y) → (∀ w ∈ F, ∃ g ∈ T ++ T2, Turn s w g) → T2.length ≤ F.length → P [some v, some w, some (.ref f2), some (.ref f3), some (.int ((p : Nat) + 1)), some (.ref f), y6, y7, y8] m'' := fun T2 D2 m'' y6 y7 y8 hD H2 g1 g2 g3 => by
    refine hP r' rfl _ _ ⟨p + 1, _, _, _, _, T ++ T2, D2, rfl, H2, PS.step O hget hFr hFa g1 g2 hD, by rw [List.length_append]; walk_at "o", ?_, by walk_at "o", by rw [List.length_append]; walk_at "o"⟩
    rw [hD, List.length_append]
    have : (if F = [] then [s] else []).length ≤ 1 := by split <;> simp
    walk_at "o"
  refine s_nil (seqQ_next (s_cons (s_ifs (e_cmp (e_pv _ (by with_unfolding_all rfl) (e_lst (l_nil ?_)))))))
  refine freshL_ (lid_of (by decide)) fun e he => ?_
  have Ee := Ext.set (o := .list []) he
  have H2 := H1.grow hne Ee
  refine cmp_eqTT (a := F.map zs) (b := []) (hFT.ext Ee) ⟨[], ⟨e, rfl, set_eq⟩, .nil⟩ (asB_ ?_)
  have hf2e := Ee f _ hf
  have hyse := hys.mono fun _ _ q => q.ext Ee
  generalize m1.set e (.list []) = m2 at H2 hf2e hyse
  by_cases hF0 : F = []
  · refine ifQ_t (decide_eq_true (by rw [hF0]; rfl)) ?_
    refine s_cons (s_expr (e_append (e_pv _ (by with_unfolding_all rfl) ?_)))
    obtain ⟨ysd, hyd⟩ : ∃ ysd, m2 f3 = some (.list ysd) := by
      obtain ⟨xs, ⟨c, e, hc⟩, _⟩ := (H2.read hne).2
      cases e
      exact ⟨xs, hc⟩
    refine isL_ hyd (e_sub (e_pv _ (by with_unfolding_all rfl) (e_pv _ (by with_unfolding_all rfl) ?_)))
    refine H2.push3 hne (by unfold lid; walk_at "o") hTlid hget fun m3 H3 keep3 => ?_
    refine plain_none (seqQ_next (s_nil (seqQ_next ?_)))
    refine ways_spec (mb := m') Os hne hf00 H3 h2' h3' hf0 (keep3 f _ (apart hf0).2 hf2e) (hyse.mono fun _ _ q => ?_) hget (by walk_at "o") hFl hFr fun T2 m'' y6 y7 y8 g0 g1 g2 g3 => loopQ_next (fin T2 _ m'' y6 y7 y8 (by rw [if_pos hF0]) g0 g1 g2 g3)
    obtain ⟨b, rfl, hb0, hb⟩ := q
    exact ⟨b, rfl, hb0, keep3 b _ (apart hb0).2 hb⟩
  · refine ifQ_f (decide_eq_false fun q => hF0 (List.map_eq_nil_iff.mp q)) ?_
    refine s_nil (seqQ_next ?_)
    exact ways_spec (mb := m') Os hne hf00 H2 h2' h3' hf0 hf2e hyse hget (by walk_at "o") hFl hFr fun T2 m'' y6 y7 y8 g0 g1 g2 g3 => loopQ_next (fin T2 _ m'' y6 y7 y8 (by rw [if_neg hF0, List.append_nil]) g0 g1 g2 g3)
end

section
variable {C : CallT} {G : String → Option Val} {Q : Val → Mem → Prop} {X : Nat → Mem → Prop} {m : Mem} {n : Nat} {t u u0 s : List (List Int)} {k N : Nat} {v w z : Val} {loc : Loc} {R : Flow → Loc → Mem → Prop} {Y : Nat → Loc → Mem → Prop} {x : Int} {xs : List Int} {a : Addr} {T D St : List (List (List Int))} {f : Addr}

structure FSt (m : Mem) (f : Addr) (T : List (List (List Int))) (m' : Mem) : Prop where
  ex : ∃ mr ys, Ext m mr ∧ mr f = none ∧ m' = mr.set f (.list ys) ∧ All2 (IsT mr) ys T
theorem FSt.ext {m' : Mem} (H : FSt m f T m') : Ext m m' := by
  obtain ⟨mr, ys, E, h, rfl, _⟩ := H.ex
  exact E.trans (Ext.set h)
theorem FSt.grow {m' m'' : Mem} (H : FSt m f T m') (E : Ext m' m'') : FSt m f T m'' := by
  obtain ⟨mr, ys, E0, h, rfl, hy⟩ := H.ex
  exact ⟨m''.del f, ys, E0.trans (Ext.del h E), del_eq, by rw [del_set, set_same (E f _ set_eq)], hy.mono fun _ _ q => q.ext (Ext.del h E)⟩
theorem FSt.read {m' : Mem} (H : FSt m f T m') : IsLL IsT m' (.ref f) T := by
  obtain ⟨mr, ys, E0, h, rfl, hy⟩ := H.ex
  exact ⟨ys, IsL.new, hy.mono fun _ _ q => q.ext (Ext.set h)⟩
theorem FSt.here {m' : Mem} (H : FSt m f T m') : ∃ ys, m' f = some (.list ys) := by
  obtain ⟨mr, ys, E0, h, rfl, hy⟩ := H.ex
  exact ⟨ys, set_eq⟩
theorem FSt.push {m' m1 : Mem} (H : FSt m f T m') (hT : T.length < lid) (E : Ext m' m1) (o : Own m' m1 v s) {P : Val → Mem → Prop} (h : ∀ m'', FSt m f (T ++ [s]) m'' → Ext (m1.del f) (m''.del f) → P .none m'') : appQ P (.ref f) v m1 := by
  obtain ⟨ys0, hy0⟩ := H.here
  obtain ⟨mr, ys, E0, h2, rfl, hy⟩ := (H.grow E).ex
  have o2 := o.less hy0
  have e : (mr.set f (.list ys)).del f = mr := by
    funext c
    unfold Mem.del Mem.set
    by_cases q : c = f
    · subst q; simp [h2]
    · simp [q]
  rw [e] at o2
  exact appQ_ (xs := ys) set_eq (by rw [hy.length]; exact hT) (h _ ⟨mr, ys ++ [v], E0, h2, by rw [set_set], hy.append (.cons o2.isT .nil)⟩ fun b o hbo => by
    have hb : b ≠ f := fun q => by subst q; rw [del_eq] at hbo; cases hbo
    rw [del_ne hb] at hbo ⊢
    rw [set_ne hb]; exact hbo)
theorem IsLL.extT {m' : Mem} (E : Ext m m') (h : IsLL IsT m v T) : IsLL IsT m' v T := IsLL.ext E (fun _ _ q => IsT.ext E q) h

structure FixSt (t u0 : List (List Int)) (k : Nat) (xs : List Int) (St : List (List (List Int))) : Prop where
  ok : ∀ s ∈ St, Ok t s k ∧ s.flatten.Perm (u0.flatten ++ xs)
  all : ∀ u, Deals t u0 xs u → u ∈ St
theorem Deals.inv {l : List Int} (D : Deals t u0 (l ++ [x]) u) : ∃ u1, Deals t u0 l u1 ∧ Given t u1 x u := by
  generalize hl : l ++ [x] = l2 at D
  cases D with
  | nil => exact absurd hl (by simp)
  | @more l' x' u1 _ D G =>
    obtain ⟨h1, h2⟩ := List.append_inj' hl rfl
    cases h2
    subst h1
    exact ⟨u1, D, G⟩
theorem Deals.inv0 (D : Deals t u0 [] u) : u = u0 := by
  generalize hl : ([] : List Int) = l2 at D
  cases D with
  | nil => rfl
  | more D G => exact absurd hl (by simp)

theorem fixed_spec (O : Ok t u0 k) (hx : ∀ x ∈ xs, 0 ≤ x ∧ x.toNat < k) (hn : (u0.flatten ++ xs).Nodup) (hl : xs.length < 1000) (hv : IsT m v t) (hw : IsT m w u0) (hz : IsI m z xs) (h0 : ∀ m', Ext m m' → Q .none m')
    (h1 : ∀ (f : Addr) (St : List (List (List Int))) m', Ext m m' → IsLL IsT m' (.ref f) St → (∀ u, Deals t u0 xs u → u ∈ St) → Q (.ref f) m') : CN (n + 5) 98 [v, w, z] Q X m := by
  have hk := O.k40
  (refine call_eq rfl rfl ?_; dsimp only [f_L_fixed, sts, loc0, List.map, List.replicate, List.cons_append, List.nil_append, List.length, Nat.reduceAdd, Nat.reduceSub])
  walk_at "ss"
  refine freshL_ (lid_of (show 1 < 1000 by decide)) fun a3 ha3 => ?_
  have E3 := Ext.set (o := .list [w]) ha3
  have hS0 : IsLL IsT (m.set a3 (.list [w])) (.ref a3) [u0] := ⟨[w], IsL.new, .cons (hw.ext E3) .nil⟩
  have F0 : FixSt t u0 k [] [u0] := ⟨fun s hs => by rw [List.mem_singleton.mp hs]; exact ⟨O, by rw [List.append_nil]⟩, fun u D => by rw [D.inv0]; exact .head _⟩
  generalize m.set a3 (.list [w]) = m3 at E3 hS0
  walk_at "ss"
  dsimp only [setV]
  refine items_list (hz.ext E3).seq (by rw [List.length_map]; exact lid_of hl) ?_
  refine for_inv (fun i l m' => ∃ a3 y4 y5 y6 y7 y8 y9 St, l = [some v, some w, some z, some (.ref a3), y4, y5, y6, y7, y8, y9] ∧ Ext m m' ∧ IsLL IsT m' (.ref a3) St ∧ FixSt t u0 k (xs.take i) St ∧ St.length ≤ 4) ⟨a3, none, none, none, none, none, none, [u0], rfl, E3, hS0, F0, by show 1 ≤ 4; decide⟩ (fun i y l m' hy hI P hP => ?_) fun l m' hI => ?_
  · obtain ⟨a3, y4, y5, y6, y7, y8, y9, St, rfl, E, hSt, FS, hSl⟩ := hI
    rw [List.getElem?_map] at hy
    obtain ⟨x, hxi, rfl⟩ := Option.map_eq_some_iff.mp hy
    have hxm := List.mem_of_getElem? hxi
    have htake : xs.take (i + 1) = xs.take i ++ [x] := by rw [List.take_add_one, hxi]; rfl
    have hxno : x ∉ u0.flatten ++ xs.take i := fun q => by
      have h2 : (u0.flatten ++ (xs.take i ++ [x])).Nodup := by
        rw [← htake]
        exact hn.sublist (List.Sublist.append (List.Sublist.refl _) (List.take_sublist _ _))
      rw [← List.append_assoc] at h2
      exact (List.nodup_append.mp h2).2.2 x q x (.head _) rfl
    refine bodyF_one ?_
    dsimp only [setV]
    walk_at "ss"
    refine freshL_ (lid_of (by decide)) fun f hf => ?_
    have Ff : FSt m' f [] (m'.set f (.list [])) := ⟨m', [], .refl, hf, rfl, .nil⟩
    have Ef := Ext.set (o := .list []) hf
    walk_at "ss"
    dsimp only [setV]
    obtain ⟨ys, s1, s2⟩ := hSt.extT Ef
    refine items_list s1.seq (by rw [s2.length]; exact lid_of (by walk_at "o")) ?_
    refine for_inv (fun j l m2 => ∃ y6 y7 y8 y9 T, l = [some v, some w, some z, some (.ref a3), some (.int x), some (.ref f), y6, y7, y8, y9] ∧ FSt m' f T m2 ∧ (∀ g ∈ T, Ok t g k ∧ g.flatten.Perm (u0.flatten ++ (xs.take i ++ [x]))) ∧ (∀ s ∈ St.take j, ∀ v, Reach t s v → NoRing (pairs t v) t.length → ∀ g, Gave t v x g → g ∈ T) ∧ T.length ≤ 1000 * j) ⟨_, _, _, _, [], rfl, Ff, (fun g hg => by cases hg), (fun s hs => by cases hs), Nat.zero_le _⟩ (fun j y l m2 hy hI P2 hP2 => ?_) fun l m2 hI => ?_
    · obtain ⟨y6, y7, y8, y9, T, rfl, H, hTok, hTall, hTl⟩ := hI
      obtain ⟨s, hs, hys⟩ := s2.get hy
      have hsm := List.mem_of_getElem? hs
      have hjl : j < 4 := Nat.lt_of_lt_of_le (List.getElem?_eq_some_iff.mp hs).1 hSl
      obtain ⟨Os, hsp⟩ := FS.ok s hsm
      have E2 := E.trans H.ext
      have hys2 : IsT (m2.del f) y s := by
        obtain ⟨ys', q1, q2⟩ := hSt
        have e : ys' = ys := by
          have h2 := (IsL.lst s1)
          rw [(q1.ext Ef).lst] at h2
          exact Option.some.inj h2
        subst e
        obtain ⟨r, hr, hyr⟩ := q2.get hy
        rw [hs] at hr
        cases hr
        exact hyr.ext (H.ext.less hf)
      have hfn : m2 f ≠ none := by obtain ⟨ys, e⟩ := H.here; rw [e]; exact fun q => nomatch q
      refine bodyF_one ?_
      dsimp only [setV]
      walk_at "ss"
      refine settled_spec (f0 := f) Os hfn (hv.ext E2) hys2 (fun m4 E4 => ?_) fun g7 D m4 E4 hD hDl hDr hDa => ?_
      · walk_at "ss"
        dsimp only [setV]
        refine ifQ_t rfl ?_
        walk_at "ss"
        with_reducible refine loopQ_ret ?_
        with_reducible refine seqQ_ret ?_
        with_reducible refine loopQ_ret ?_
        walk_at "ss"
        exact h0 _ (E2.trans E4)
      have H4 := H.grow E4
      walk_at "ss"
      dsimp only [setV]
      refine ifQ_f rfl ?_
      walk_at "ss"
      obtain ⟨ds, d1, d2⟩ := id hD
      have d1' := d1.ext (Ext.part (m := m4) (f := f))
      refine items_list d1'.seq (by rw [d2.length]; exact lid_of hDl) ?_
      refine for_inv (fun q l m5 => ∃ y8 y9 T2, l = [some v, some w, some z, some (.ref a3), some (.int x), some (.ref f), some y, some (.ref g7), y8, y9] ∧ FSt m' f T2 m5 ∧ Ext (m4.del f) (m5.del f) ∧ (∀ g ∈ T2, Ok t g k ∧ g.flatten.Perm (u0.flatten ++ (xs.take i ++ [x]))) ∧ (∀ g ∈ T, g ∈ T2) ∧ (∀ d ∈ D.take q, ∀ g, Gave t d x g → g ∈ T2) ∧ T2.length ≤ 1000 * j + q)
        ⟨_, _, T, rfl, H4, .refl, hTok, fun g hg => hg, (fun d hd => by cases hd), hTl⟩ (fun q yd l m5 hyd hI P3 hP3 => ?_) fun l m5 hI => ?_
      · obtain ⟨y8, y9, T2, rfl, H5, E5, hok2, hsub2, hall2, hl2⟩ := hI
        obtain ⟨d, hd, hyd'⟩ := d2.get hyd
        have hdm := List.mem_of_getElem? hd
        have hql : q < D.length := (List.getElem?_eq_some_iff.mp hd).1
        obtain ⟨hdR, hdN⟩ := hDr d hdm
        have Od := hdR.ok Os
        have hdp := (hdR.perm Os).flatten.trans hsp
        have E05 := E.trans H5.ext
        refine bodyF_one ?_
        dsimp only [setV]
        walk_at "ss"
        refine lgiven_spec (x := x) Od hk hdN (hv.ext E05) (hyd'.ext (E5.trans Ext.part)) fun v9 g m6 E6 o6 hG => ?_
        walk_at "ss"
        dsimp only [setV]
        have H6 := H5.grow E6
        have hgok := hG.ok Od (hx x hxm) (fun q' => hxno (hdp.mem_iff.mp q'))
        have hgp := (hG.flat Od).trans (List.Perm.append_right [x] hdp)
        rw [List.append_assoc] at hgp
        have E56 := E5.trans (E6.both f)
        refine cmp_notinT o6.isT H6.read ?_
        have hstd : ∀ m7, Ext (m4.del f) (m7.del f) → stands .plain (.ref g7) m4 m7 := fun m7 E7 => IsL.stands (k := .plain) d1' (d1.ext (E7.trans Ext.part))
        by_cases hin : g ∈ T2
        · rw [decide_eq_true hin]
          walk_at "ss"
          with_reducible refine loopQ_next (hP3 _ _ ?_)
          exact ⟨hstd _ E56, _, _, T2, rfl, H6, E56, hok2, hsub2, take_more hall2 hd fun g' hG' => (hG.unique hG') ▸ hin, by walk_at "o"⟩
        · rw [decide_eq_false hin]
          walk_at "ss"
          obtain ⟨ys6, hy6⟩ := H6.here
          refine isL_ hy6 ?_
          walk_at "ss"
          refine H5.push (by unfold lid; walk_at "o") E6 o6 fun m7 H7 E7 => ?_
          walk_at "ss"
          with_reducible refine loopQ_next (hP3 _ _ ?_)
          refine ⟨hstd _ (E56.trans E7), _, _, T2 ++ [g], rfl, H7, E56.trans E7, fun g' hg' => ?_, fun g' hg' => List.mem_append_left _ (hsub2 g' hg'), take_more (fun d' hd' g' hG' => List.mem_append_left _ (hall2 d' hd' g' hG')) hd fun g' hG' => by rw [hG'.unique hG]; exact List.mem_append_right _ (.head _), by rw [List.length_append, List.length_singleton]; walk_at "o"⟩
          rcases List.mem_append.mp hg' with q' | q'
          · exact hok2 g' q'
          · rw [List.mem_singleton.mp q']; exact ⟨hgok, hgp⟩
      · obtain ⟨y8, y9, T2, rfl, H5, E5, hok2, hsub2, hall2, hl2⟩ := hI
        rw [d2.length, List.take_length] at hall2
        rw [d2.length] at hl2
        walk_at "ss"
        with_reducible refine loopQ_next (hP2 _ _ ?_)
        refine ⟨?_, _, _, _, _, T2, rfl, H5, hok2, take_more (fun s' hs' v' hR hN g hG => hsub2 g (hTall s' hs' v' hR hN g hG)) hs fun v' hR hN g hG => hall2 v' (hDa v' hR hN) g hG, by walk_at "o"⟩
        have q1 : IsL m' (.ref a3) ys := by
          obtain ⟨ys', q1, q2⟩ := hSt
          have h2 := (IsL.lst s1)
          rw [(q1.ext Ef).lst] at h2
          cases h2
          exact q1
        exact IsL.stands (k := .plain) s1 (q1.ext H5.ext)
    · obtain ⟨y6, y7, y8, y9, T, rfl, H, hTok, hTall, hTl⟩ := hI
      rw [s2.length, List.take_length] at hTall
      rw [s2.length] at hTl
      walk_at "ss"
      dsimp only [setV]
      refine len_ll H.read (by unfold lid; walk_at "o") ?_
      have hnew : FixSt t u0 k (xs.take (i + 1)) T := by
        rw [htake]
        refine ⟨hTok, fun u D => ?_⟩
        obtain ⟨u1, D1, v', hR, hN, hG⟩ := D.inv
        exact hTall u1 (FS.all u1 D1) v' hR hN u hG
      walk_at "ss"
      with_reducible refine ifQ_dec (fun q => ?_) (fun q => ?_)
      · walk_at "ss"
        with_reducible refine loopQ_ret ?_
        walk_at "ss"
        exact h0 _ (E.trans H.ext)
      · have q := of_decide_eq_false q
        walk_at "ss"
        with_reducible refine loopQ_next (hP _ _ ?_)
        exact ⟨IsL.stands (k := .plain) (hz.ext E3) (hz.ext (E.trans H.ext)), f, _, _, _, _, _, _, T, rfl, E.trans H.ext, H.read, hnew, by walk_at "o"⟩
  · obtain ⟨a3, y4, y5, y6, y7, y8, y9, St, rfl, E, hSt, FS, hSl⟩ := hI
    rw [List.length_map, List.take_length] at FS
    walk_at "ss"
    exact h1 a3 St _ E hSt FS.all
end

section
variable {C : CallT} {G : String → Option Val} {Q : Val → Mem → Prop} {X : Nat → Mem → Prop} {m : Mem} {n : Nat} {t u f : List (List Int)} {k N : Nat} {v w z : Val} {loc : Loc} {R : Flow → Loc → Mem → Prop} {Y : Nat → Loc → Mem → Prop} {x : Int} {ws : List Nat}

theorem steps_full (O : Ok t u k) (hx : 0 ≤ x ∧ x.toNat < k) (hn : x ∉ u.flatten) (hv : IsT m v t) (hw : IsT m w u)
    (h : ∀ f wss v' u' j m', Ext m m' → m f = none → m' f = some (.list (wss.map ringV ++ [giveV x j])) → Path t u wss v' → NoRing (pairs t v') t.length → Free (pairs t v') t.length j → GaveTo v' x j u' → Q (.ref f) m') : CN (n + 6) 42 [v, w, .int x] Q X m := by
  (refine call_eq rfl rfl ?_; dsimp only [f_steps, sts, loc0, List.map, List.replicate, List.cons_append, List.nil_append, List.length, Nat.reduceAdd, Nat.reduceSub])
  walk_at "ss"
  refine need_ok O hv hw fun m1 E1 => ?_
  walk_at "ss"
  refine need_aside_spec O hx hn (hv.ext E1) (hw.ext E1) ?_
  walk_at "ss"
  refine given_full O hx hn (hv.ext E1) (hw.ext E1) fun f wss vN v' u' j m2 E2 h0 hf o2 hP hN hF hG => ?_
  refine subW_ (xs := [.ref f, vN]) rfl rfl rfl (lid_of (show 2 < 1000 by decide)) ?_
  walk_at "ss"
  exact h _ _ _ _ _ _ (E1.trans E2) (none_of E1 h0) hf hP hN hF hG
theorem turned_spec (W : Way ws u.length) (h8 : u.length ≤ 8) (hs : ∀ s ∈ u, s.length < 1000) (hv : IsT m v u) (hw : IsI m w (zs ws)) (h : ∀ f v' m', Ext m m' → Own m m' v' f → Turn u ws f → Q v' m') : CN (n + 2) 89 [v, w] Q X m := by
  (refine call_eq rfl rfl ?_; dsimp only [f_L_turned, sts, loc0, List.map, List.replicate, List.cons_append, List.nil_append, List.length, Nat.reduceAdd, Nat.reduceSub])
  walk_at "ss"
  refine copy_own hv (by walk_at "o") hs fun vO m1 E1 o1 => ?_
  walk_at "ss"
  dsimp only [setV]
  refine len_way (hw.ext E1) W h8 ?_
  refine items_range (rng8 (Nat.le_trans W.len h8)) ?_
  refine for_inv (fun j l m' => ∃ y g, l = [some v, some w, some vO, y] ∧ Ext m m' ∧ Own m m' vO g ∧ TurnTo u ws (ws.length - 1) j g) ⟨none, u, rfl, E1, o1, .start _⟩ (fun j z l m' hz hI P hP => ?_) fun l m' hI => ?_
  · obtain ⟨y, g, rfl, E, o, T⟩ := hI
    obtain ⟨hj, rfl⟩ := range_get hz
    have hj : j < ws.length := hj
    refine bodyF_one ?_
    dsimp only [setV]
    walk_at "ss"
    refine way_at W h8 (hw.ext E) hj ?_
    refine sub_ll (hv.ext E) (nn _) (getDL (rg_lt W j)) (lid_of (by walk_at "o")) fun q hq => ?_
    refine b1_list hq.seq (freshL_ (by rw [List.length_map]; exact lid_of (hs _ (getDL_mem (rg_lt W j)))) fun e he => ?_)
    walk_at "ss"
    refine way_prev W h8 (hw.ext (E.trans (Ext.set he))) hj ?_
    refine o.relist E (by rw [T.len]; exact rg_lt W _) (by rw [T.len]; walk_at "o") he fun m5 E5 o5 _ => ?_
    walk_at "ss"
    with_reducible refine loopQ_next (hP _ _ ?_)
    have T3 := T.next W hj
    rw [show ws.length - 1 + j + 1 = j + ws.length by walk_at "o", rg_mod (j + ws.length) j (Nat.add_mod_right ..), Nat.add_comm (ws.length - 1) j] at T3
    exact ⟨trivial, _, _, rfl, E5, o5, T3⟩
  · obtain ⟨y, g, rfl, E, o, T⟩ := hI
    rw [range_len] at T
    walk_at "ss"
    exact h _ _ _ E o (T.done W)
theorem no_less_spec (O : Ok t u k) (O' : Ok t f k) (hv : IsT m v t) (hw : IsT m w u) (hz : IsT m z f) (hle : ∀ i, i < t.length → sm t u i i ≤ sm t f i i) (h : Q (.bool true) m) : CN (n + 2) 93 [v, w, z] Q X m := by
  have h8 := O.t8
  (refine call_eq rfl rfl ?_; dsimp only [f_L_no_less, sts, loc0, List.map, List.replicate, List.cons_append, List.nil_append, List.length, Nat.reduceAdd, Nat.reduceSub])
  walk_at "ss"
  refine len_ll hv (lid_of O.tl) ?_
  refine items_range (rng8 h8) ?_
  refine for_inv (fun i l m' => ∃ y, l = [some v, some w, some z, y] ∧ m' = m) ⟨none, rfl, rfl⟩ (fun i y l m' hy hI P hP => ?_) fun l m' hI => ?_
  · obtain ⟨y3, rfl, rfl⟩ := hI
    obtain ⟨hi, rfl⟩ := range_get hy
    have hi : i < t.length := hi
    refine bodyF_one ?_
    dsimp only [setV]
    walk_at "ss"
    refine row_at O hv hi fun a ha => ?_
    walk_at "ss"
    refine share_at O' hz hi fun b hb => ?_
    walk_at "ss"
    refine lsum_at O' hv hz hi hi ha hb ?_
    walk_at "ss"
    refine row_at O hv hi fun a ha => ?_
    walk_at "ss"
    refine share_at O hw hi fun b hb => ?_
    walk_at "ss"
    refine lsum_at O hv hw hi hi ha hb ?_
    walk_at "ss"
    with_reducible refine ifQ_f (dec_f (by have := hle i hi; walk_at "o")) ?_
    walk_at "ss"
    with_reducible refine loopQ_next (hP _ _ ?_)
    exact ⟨trivial, _, rfl, rfl⟩
  · obtain ⟨y3, rfl, rfl⟩ := hI
    walk_at "ss"
    exact h
end

section plain
variable {t u : List (List Int)} {k : Nat} {wss : List (List Nat)}
theorem Path.unique (O : Ok t u k) {a : List (List Int)} (h : Path t u wss a) : ∀ {b : List (List Int)}, Path t u wss b → a = b := by
  induction h with
  | nil =>
    intro b hb
    generalize e : ([] : List (List Nat)) = l at hb
    cases hb with
    | nil => rfl
    | more _ _ _ _ => exact absurd (congrArg List.length e) (by simp)
  | @more wss v w ws P W A T ih =>
    intro b hb
    generalize e : wss ++ [ws] = l at hb
    cases hb with
    | nil => exact absurd (congrArg List.length e) (by simp)
    | more P' W' A' T' =>
      obtain ⟨rfl, e2⟩ := List.append_inj' e rfl
      cases e2
      obtain rfl := ih P'
      exact T.unique (by rw [(P.reach.ok O).len]; exact W) T'
theorem Path.step (O : Ok t u k) {v' : List (List Int)} (h : Path t u wss v') : ∀ {i : Nat} {ws : List Nat} {vi : List (List Int)}, wss[i]? = some ws → Path t u (wss.take i) vi → Way ws t.length ∧ Around (pairs t vi) ws := by
  induction h with
  | nil => intro i ws vi h _; cases h
  | @more wss v w ws0 P W A T ih =>
    intro i ws vi h hp
    by_cases hi : i < wss.length
    · rw [List.getElem?_append_left hi] at h
      rw [List.take_append_of_le_length (Nat.le_of_lt hi)] at hp
      exact ih h hp
    · have hl := (List.getElem?_eq_some_iff.mp h).1
      rw [List.length_append, List.length_singleton] at hl
      have hi : i = wss.length := by walk_at "o"
      subst hi
      rw [List.getElem?_append_right (Nat.le_refl _), Nat.sub_self] at h
      cases h
      rw [List.take_left] at hp
      obtain rfl := P.unique O hp
      exact ⟨W, A⟩
end plain

section
variable {C : CallT} {G : String → Option Val} {Q : Val → Mem → Prop} {X : Nat → Mem → Prop} {m : Mem} {n : Nat} {t u : List (List Int)} {k N : Nat} {v w z : Val} {loc : Loc} {R : Flow → Loc → Mem → Prop} {Y : Nat → Loc → Mem → Prop} {x : Int} {ws : List Nat} {wss : List (List Nat)} {f : Addr}
theorem dPairI_any {ps : List (Nat × Nat)} {p : Nat × Nat} (hp : p ∈ ps) : (ps.map dPair).any (fun e => Dat.beq e (dPair p)) = true := by
  rw [List.any_map, List.any_eq_true]
  exact ⟨p, hp, by show Dat.beq (dPair p) (dPair p) = true; rw [beq_pair, decide_eq_true rfl]⟩
theorem cmp_inP {p : Nat × Nat} {a : Addr} {ps : List (Nat × Nat)} {P : Bool → Mem → Prop} (ha : m a = some (.list (ps.map tupV))) (hp : p ∈ ps) (h : P true m) : wpCmp .inn (.tup [.int (p.1 : Nat), .int (p.2 : Nat)]) (.ref a) P m := by
  refine ⟨dPair p, ps.map dPair, ps.map tupV, IsL.seq ⟨a, rfl, ha⟩, tup_reads _ p rfl, pairs_readsL, rfl, ?_, by rw [dPairI_any hp]; exact h⟩
  rw [List.all_eq_true]
  intro d hd
  obtain ⟨x, _, rfl⟩ := List.mem_map.mp hd
  rfl
theorem Way.znd (W : Way ws N) : (zs ws).Nodup := by
  unfold zs
  rw [List.nodup_iff_pairwise_ne, List.pairwise_map]
  exact W.nd.imp fun h e => h (Int.ofNat.inj e)
theorem told_last {ys : List Val} {y : Val} (hf : m f = some (.list (ys ++ [y]))) (hl : ys.length < 900) (h : Q y m) : subW (.ref f) (.int (-1)) Q m := by
  have e : (ys ++ [y]).length = ys.length + 1 := by rw [List.length_append]; rfl
  refine subW_ (IsL.seq ⟨f, rfl, hf⟩) (j := ys.length) ?_ (x := y) ?_ (by rw [e]; exact lid_of (by walk_at "o")) h
  · rw [e]
    unfold place
    rw [if_neg (by decide), if_pos (by show 1 ≤ _; walk_at "o")]
    show some (ys.length + 1 - 1) = _
    rfl
  · rw [List.getElem?_append_right (Nat.le_refl _), Nat.sub_self]; rfl
theorem cmp_head {P : Bool → Mem → Prop} (h : P false m) : wpCmp .ne (.tup [.str (Str.ofString "give"), .int x]) (.tup [.str (Str.ofString "give"), .int x]) P m := by
  show eqW _ _ (fun r => P (!r) m) m
  have hr : Reads m (.tup [.str (Str.ofString "give"), .int x]) (.tup [.str (Str.ofString "give"), .int x]) := ⟨_, rfl, _, _, rfl, rfl, _, _, rfl, rfl, rfl⟩
  have ho : okN 8 (.tup [.str (Str.ofString "give"), .int x]) = true := by
    show ((Str.ofString "give").cps.all (· < 0x110000) && (true && true)) = true
    decide +kernel
  refine Or.inr ⟨_, _, hr, hr, ho, ho, ?_⟩
  have hb : Dat.beq (.tup [.str (Str.ofString "give"), .int x]) (.tup [.str (Str.ofString "give"), .int x]) = true := by
    show ((Str.ofString "give" == Str.ofString "give") && ((x == x) && true)) = true
    rw [beq_self_eq_true, beq_self_eq_true]; rfl
  rw [hb]
  exact h
theorem cutL_last {ys : List Val} {y : Val} : cutL false (ys ++ [y]) (-1) = ys := by
  show (ys ++ [y]).take (clip (-1) (ys ++ [y]).length) = ys
  have e : clip (-1) (ys ++ [y]).length = ys.length := by
    unfold clip
    rw [if_neg (by decide), List.length_append]
    rfl
  rw [e, List.take_left]
theorem walked_spec (O : Ok t u k) (hx : 0 ≤ x ∧ x.toNat < k) (hn : x ∉ u.flatten) (hv : IsT m v t) (hw : IsT m w u) {v' u' : List (List Int)} {j : Nat} (hf : m f = some (.list (wss.map ringV ++ [giveV x j]))) (hwl : wss.length < 200) (hP : Path t u wss v') (hN : NoRing (pairs t v') t.length) (hF : Free (pairs t v') t.length j) (hG : GaveTo v' x j u')
    (h : ∀ v9 m', Ext m m' → Own m m' v9 u' → Q v9 m') : CN (n + 4) 92 [v, w, .ref f, .int x] Q X m := by
  have h8 := O.t8
  have hml : (wss.map ringV).length < 900 := by rw [List.length_map]; walk_at "o"
  have hal : (wss.map ringV ++ [giveV x j]).length = wss.length + 1 := by rw [List.length_append, List.length_map]; rfl
  (refine call_eq rfl rfl ?_; dsimp only [f_L_walked, sts, loc0, List.map, List.replicate, List.cons_append, List.nil_append, List.length, Nat.reduceAdd, Nat.reduceSub])
  walk_at "ss"
  refine isList_ref hf ?_
  walk_at "ss"
  refine b1_len (IsL.seq ⟨f, rfl, hf⟩) (by rw [hal]; exact lid_of (by walk_at "o")) ?_
  walk_at "ss"
  rw [dec_f (show ¬ ((wss.map ringV ++ [giveV x j]).length : Int) = 0 by rw [hal]; walk_at "o")]
  walk_at "ss"
  refine told_last hf hml ?_
  walk_at "ss"
  refine slQ_tup (k := 2) (show 2 < 3 by decide) (lid_of (show 3 < 1000 by decide)) ?_
  walk_at "ss"
  refine ⟨lid_of (show 2 < 1000 by decide), ?_⟩
  refine cmp_head ?_
  walk_at "ss"
  refine told_last hf hml ?_
  refine b1_len (xs := [.str (Str.ofString "give"), .int x, .int (j : Nat)]) rfl (lid_of (show 3 < 1000 by decide)) ?_
  walk_at "ss"
  with_reducible refine ifQ_f (dec_f fun q => absurd rfl q) ?_
  walk_at "ss"
  refine slQ_ hf (by rw [hal]; exact lid_of (by walk_at "o")) ?_
  rw [cutL_last]
  refine freshL_x (lid_of (by walk_at "o")) fun c m1 hc E1 he1 => ?_
  refine items_list (IsL.seq ⟨c, rfl, he1⟩) (lid_of (by walk_at "o")) ?_
  have hx0 : Path t u (wss.take 0) u := .nil
  refine for_inv (fun i l m' => ∃ w' y4 y5 y6 vi, l = [some v, some w', some (.ref f), some (.int x), y4, y5, y6, none, none, none, none, none, none, none] ∧ Ext m1 m' ∧ IsT m' w' vi ∧ Path t u (wss.take i) vi) ⟨w, none, none, none, u, rfl, .refl, hw.ext E1, hx0⟩ (fun i y l m' hy hI P hPP => ?_) fun l m' hI => ?_
  · obtain ⟨w', y4, y5, y6, vi, rfl, E, hwi, hPi⟩ := hI
    rw [List.getElem?_map] at hy
    obtain ⟨ws, hws, rfl⟩ := Option.map_eq_some_iff.mp hy
    obtain ⟨W, Ar⟩ := hP.step O hws hPi
    have Oi := hPi.reach.ok O
    have Wi : Way ws vi.length := by rw [Oi.len]; exact W
    have h8i : vi.length ≤ 8 := by rw [Oi.len]; exact h8
    have hwsl := W.len
    have hzl : ((zs ws).map Val.int).length < 1000 := by rw [List.length_map, zs_len]; walk_at "o"
    have EE := E1.trans E
    refine bodyF_one ?_
    dsimp only [setV, ringV]
    walk_at "ss"
    refine b1_len (xs := [.str (Str.ofString "ring"), .tup ((zs ws).map .int)]) rfl (lid_of (show 2 < 1000 by decide)) ?_
    walk_at "ss"
    rw [dec_f (show ¬ ¬ (([Val.str (Str.ofString "ring"), Val.tup ((zs ws).map .int)].length : Nat) : Int) = 2 from fun q => q rfl)]
    walk_at "ss"
    refine subW_ (xs := [.str (Str.ofString "ring"), .tup ((zs ws).map .int)]) rfl rfl rfl (lid_of (show 2 < 1000 by decide)) ?_
    walk_at "ss"
    refine cmp_neS ?_
    rw [show (!(Str.ofString "ring" == Str.ofString "ring")) = false by rw [beq_self_eq_true]; rfl]
    walk_at "ss"
    refine subW_ (xs := [.str (Str.ofString "ring"), .tup ((zs ws).map .int)]) rfl rfl rfl (lid_of (show 2 < 1000 by decide)) ?_
    walk_at "ss"
    refine subW_ (xs := [.str (Str.ofString "ring"), .tup ((zs ws).map .int)]) rfl rfl rfl (lid_of (show 2 < 1000 by decide)) ?_
    refine b1_list (xs := (zs ws).map .int) rfl (freshL_x (lid_of hzl) fun c2 m2 hc2 E2 he2 => ?_)
    walk_at "ss"
    try dsimp only [setV]
    refine lenvies_spec Oi (hv.ext (EE.trans E2)) (hwi.ext E2) fun a m3 E3 ha => ?_
    have hz3 : IsI m3 (.ref c2) (zs ws) := ⟨c2, rfl, E3 _ _ he2⟩
    walk_at "ss"
    try dsimp only [setV]
    refine len_way hz3 W h8 ?_
    walk_at "ss"
    rw [dec_f (show ¬ ((ws.length : Nat) : Int) < 2 by have := W.two; walk_at "o")]
    walk_at "ss"
    refine b1_lenset hz3.lst (by rw [List.length_map] at hzl; exact hzl) fun q _ hq => ?_
    have hq := hq.mpr W.znd
    walk_at "ss"
    refine len_way hz3 W h8 ?_
    walk_at "ss"
    rw [dec_f (show ¬ ((q : Nat) : Int) < ((ws.length : Nat) : Int) by rw [hq, zs_len]; walk_at "o")]
    walk_at "ss"
    refine wholes (by show 9 < 14; decide) hz3 (by rw [List.length_map] at hzl; exact hzl) fun m4 E4 => ?_
    walk_at "ss"
    have hz4 := hz3.ext E4
    refine len_way hz4 W h8 ?_
    refine items_range (rng8 (Nat.le_trans hwsl h8)) ?_
    refine comp_pure (g := fun _ => .bool true) trivial (fun y hy P hP => ?_) ?_
    · obtain ⟨i, hi0⟩ := List.mem_iff_getElem?.mp hy
      obtain ⟨hi, rfl⟩ := range_get hi0
      have hi : i < ws.length := hi
      walk_at "ss"
      refine way_prev W h8 hz4 hi ?_
      walk_at "ss"
      refine way_at W h8 hz4 hi ?_
      walk_at "ss"
      refine ⟨lid_of (show 2 < 1000 by decide), ?_⟩
      walk_at "ss"
      refine cmp_inP (p := (rg ws (i + (ws.length - 1)), rg ws i)) (E4 a _ ha) ?_ hP
      have := Ar (i + (ws.length - 1))
      rw [show i + (ws.length - 1) + 1 = i + ws.length by walk_at "o", rg_mod (i + ws.length) i (Nat.add_mod_right ..)] at this
      exact this
    refine freshL_x (by rw [List.length_map, range_len]; exact lid_of (by show ws.length < 1000; walk_at "o")) fun c5 m5 hc5 E5 he5 => ?_
    refine b1_all (bs := (rangeV ws.length).map fun _ => true) (by rw [IsL.lst ⟨c5, rfl, he5⟩, List.map_map]; rfl) ?_
    rw [all_true]
    walk_at "ss"
    have E25 := ((E2.trans E3).trans E4).trans E5
    refine turned_spec Wi h8i (fun s hs => sl1 (Oi.sl hs)) (hwi.ext E25) (hz4.ext E5) fun g v6 m6 E6 o6 T => ?_
    walk_at "ss"
    try dsimp only [setV]
    with_reducible refine loopQ_next (hPP _ _ ?_)
    have EF := E.trans (E25.trans E6)
    refine ⟨IsL.stands ⟨c, rfl, he1⟩ ⟨c, rfl, EF _ _ he1⟩, v6, _, _, _, g, rfl, EF, o6.isT, ?_⟩
    rw [List.take_add_one, hws]
    exact .more hPi W Ar T
  · obtain ⟨w', y4, y5, y6, vi, rfl, E, hwi, hPi⟩ := hI
    rw [List.length_map, List.take_length] at hPi
    obtain rfl := hP.unique O hPi
    have Oi := hPi.reach.ok O
    have EE := E1.trans E
    have hf1 := EE _ _ hf
    walk_at "ss"
    refine lenvies_spec Oi (hv.ext EE) hwi fun a m2 E2 ha => ?_
    refine items_list (IsL.seq ⟨a, rfl, ha⟩) (pairs_lid Oi) ?_
    refine comp_pairs0 (g := fun p => .int (p.2 : Nat)) rfl (fun p hp P hP => ?_) ?_
    · walk_at "ss"
      exact hP
    rw [show (pairs t v').map (fun p : Nat × Nat => Val.int (p.2 : Nat)) = (zs ((pairs t v').map (·.2))).map .int by unfold zs; rw [List.map_map, List.map_map]; rfl]
    have hpl := pairs_lt Oi
    refine freshL_x (by rw [List.length_map, zs_len, List.length_map]; exact lid_of (by walk_at "o")) fun b m3 hb E3 hb3 => ?_
    walk_at "ss"
    try dsimp only [setV]
    refine len_ll (hv.ext ((EE.trans E2).trans E3)) (lid_of O.tl) ?_
    refine frees (loc := [_, _, _, _, _, _, _, some (.ref b), _, _, _, _, _, _]) (show 13 < 14 by decide) (fun q => nomatch q) hb3 h8 (fun _ => rfl) fun c2 m4 E4 hc2 => ?_
    walk_at "ss"
    try dsimp only [setV]
    have E24 := (E2.trans E3).trans E4
    refine told_last (E24 _ _ hf1) hml ?_
    walk_at "ss"
    refine told_last (E24 _ _ hf1) hml ?_
    walk_at "ss"
    refine subW_ (xs := [.str (Str.ofString "give"), .int x, .int (j : Nat)]) rfl rfl rfl (lid_of (show 3 < 1000 by decide)) ?_
    walk_at "ss"
    refine whole_spec ?_
    walk_at "ss"
    refine told_last (E24 _ _ hf1) hml ?_
    walk_at "ss"
    refine subW_ (xs := [.str (Str.ofString "give"), .int x, .int (j : Nat)]) rfl rfl rfl (lid_of (show 3 < 1000 by decide)) ?_
    walk_at "ss"
    refine freshL_x (lid_of (show 1 < 1000 by decide)) fun c5 m5 hc5 E5 he5 => ?_
    walk_at "ss"
    have hfl : ((zs (freeOf (pairs t v') t.length)).map Val.int).length < lid := by rw [List.length_map]; exact hF.len h8
    have hhd := free_head hF
    have htk : cutL false ((zs (freeOf (pairs t v') t.length)).map Val.int) 1 = [(j : Int)].map Val.int := by
      show ((zs (freeOf (pairs t v') t.length)).map Val.int).take 1 = _
      cases e : freeOf (pairs t v') t.length with
      | nil => rw [e] at hhd; cases hhd
      | cons y r => rw [e] at hhd; cases hhd; rfl
    refine slQ_ (E5 _ _ hc2) hfl ?_
    rw [htk]
    refine freshL_x (lid_of (show 1 < 1000 by decide)) fun c6 m6 hc6 E6 he6 => ?_
    refine cmp_neII (a := [(j : Int)]) (b := [(j : Int)]) ⟨c5, rfl, E6 _ _ he5⟩ ⟨c6, rfl, he6⟩ ?_
    rw [dec_f (fun q => q rfl)]
    walk_at "ss"
    have E46 := E5.trans E6
    have E26 := E24.trans E46
    refine has_ring_spec Oi hN (hv.ext (EE.trans E26)) (hwi.ext E26) fun m7 E7 => ?_
    walk_at "ss"
    have E27 := E26.trans E7
    refine copy_own (hwi.ext E27) Oi.ul (fun s hs => sl1 (Oi.sl hs)) fun v8 m8 E8 o8 => ?_
    walk_at "ss"
    try dsimp only [setV]
    have hju : j < v'.length := by rw [Oi.len]; exact hF.lt
    have hI8 : IsI m8 (.ref c2) (zs (freeOf (pairs t v') t.length)) := ⟨c2, rfl, ((E46.trans E7).trans E8) _ _ hc2⟩
    have hsl := Oi.sl (getDL_mem hju)
    refine sub_ints (x := (j : Int)) hI8 (by decide) (zs_get hhd) (hF.len h8) ?_
    refine sub_ll o8.isT (nn j) (getDL hju) (lid_of Oi.ul) fun y hy => ?_
    walk_at "ss"
    refine freshL_ (lid_of (show 1 < 1000 by decide)) fun d hd => ?_
    have Ed := Ext.set (o := .list [Val.int x]) hd
    obtain ⟨b', rfl, hb'⟩ := hy
    refine bin_addL (xs := (v'.getD j []).map .int) (ys := [.int x]) (IsL.lst ⟨b', rfl, Ed b' _ hb'⟩) (IsL.lst ⟨d, rfl, set_eq⟩) ?_
    rw [show (v'.getD j []).map Val.int ++ [.int x] = (v'.getD j [] ++ [x]).map .int by rw [List.map_append]; rfl]
    refine freshL_ (by rw [List.length_map, List.length_append]; exact lid_of (by show _ + 1 < 1000; walk_at "o")) fun d2 hd2 => ?_
    have Ed2 := Ed.trans (Ext.set (o := .list ((v'.getD j [] ++ [x]).map .int)) hd2)
    have hkw : (v'.getD j [] ++ [x]).length < 64 := by
      rw [List.length_append, List.length_singleton]
      have h1 := Oi.fit _ (getDL_mem hju)
      have h2 := O.k40
      walk_at "o"
    refine b1_sorted (is := v'.getD j [] ++ [x]) IsL.new hkw fun js hp hs => ?_
    refine freshL_ (by rw [List.length_map, hp.length_eq]; exact lid_of (sl1 hkw)) fun e he => ?_
    walk_at "ss"
    refine sub_ints (x := (j : Int)) ((hI8.ext Ed2).ext (Ext.set he)) (by decide) (zs_get hhd) (hF.len h8) ?_
    have E08 := (EE.trans E27).trans E8
    have o8' := (o8.base (EE.trans E27)).ext Ed2
    refine o8'.relist (E08.trans Ed2) hju Oi.ul he fun m9 E9 o9 keep => ?_
    walk_at "ss"
    have hu : u' = v'.set j js := hG.unique ⟨js, hp, hs, rfl⟩
    rw [← hu] at o9
    exact h _ _ E9 o9
end

section plain
variable {t u v : List (List Int)} {k : Nat} {x : Int}
theorem Reach.more (O : Ok t u k) (h : Reach t u v) (i : Nat) : sm t u i i ≤ sm t v i i := by
  induction h with
  | refl => exact Int.le_refl _
  | step W A T _ ih => exact Int.le_trans (turn_more O W A T i) (ih (T.ok O (by rw [O.len]; exact W)))
theorem GaveTo.more (O : Ok t v k) (hx : 0 ≤ x ∧ x.toNat < k) {j : Nat} (hj : j < t.length) (g : GaveTo v x j u) {i : Nat} (hi : i < t.length) : sm t v i i ≤ sm t u i i := by
  obtain ⟨s, hs, _, rfl⟩ := g.ex
  unfold sm
  rw [getDset' (by rw [O.len]; exact hj)]
  by_cases e : j = i
  · subst e
    rw [if_pos rfl, sumAt_perm hs, sumAt_app]
    have := O.sm0 hi (is := [x]) fun y hy => by rw [List.mem_singleton.mp hy]; exact hx.2
    walk_at "o"
  · rw [if_neg e]; exact Int.le_refl _
theorem Given.more (O : Ok t u k) (hx : 0 ≤ x ∧ x.toNat < k) (G : Given t u x v) {i : Nat} (hi : i < t.length) : sm t u i i ≤ sm t v i i := by
  obtain ⟨w, R, _, j, F, g⟩ := G
  exact Int.le_trans (R.more O i) (g.more (R.ok O) hx F.lt hi)
theorem Reach.still (h : Reach t u v) (hno : NoRing (pairs t u) t.length) : v = u := by
  cases h with
  | refl => rfl
  | step W A _ _ => exact (hno _ W A).elim
theorem Path.len {wss : List (List Nat)} (O : Ok t u k) (h : Path t u wss v) : wss.length + (pairs t v).length ≤ (pairs t u).length := by
  induction h with
  | nil => rw [List.length_nil]; walk_at "o"
  | more P W A T ih =>
    have Ov := P.reach.ok O
    have := T.fewer (by rw [Ov.len]; exact W) Ov.len A.envied
    rw [List.length_append, List.length_singleton]
    walk_at "o"
theorem Path.nil_inv (h : Path t u [] v) : v = u := by
  generalize e : ([] : List (List Nat)) = l at h
  cases h with
  | nil => rfl
  | more _ _ _ _ => exact absurd (congrArg List.length e) (by simp)
theorem lists_eq {a b : List (List Int)} (hp : a.Perm b) (ha : a.Pairwise fun p q => lexLt q p = false) (hb : b.Pairwise fun p q => lexLt q p = false) : a = b :=
  hp.eq_of_pairwise (fun x y _ _ h1 h2 => lex_total x y h2 h1) ha hb
end plain

section
variable {C : CallT} {G : String → Option Val} {Q : Val → Mem → Prop} {X : Nat → Mem → Prop} {m : Mem} {n : Nat} {t u : List (List Int)} {k N : Nat} {v w z : Val} {loc : Loc} {R : Flow → Loc → Mem → Prop} {Y : Nat → Loc → Mem → Prop} {x : Int} {f : Addr}
theorem spoil {m0 : Mem} (h : Own m0 m v u) (E : Ext m0 m) (hu : u.length < 1000) (hs : ∀ s ∈ u, s.length < 1000) {p : Nat} (hp : p < loc.length) (hR : ∀ l m', (l = loc ∨ ∃ y, l = setV loc p y) → Ext m0 m' → (∃ a xs, v = .ref a ∧ m0 a = none ∧ m' a = some (.list xs) ∧ xs.length = u.length) → R .next l m') :
    itemsW .plain v (fun xs => forLoop (bodyF (.one p) (fun Q' l m' => wpSs C G (.cons (.expr (.append (.nm p) (.neg (.int 1)))) .nil) Q' noY l m')) (stands .plain v m) xs R loc m) m := by
  obtain ⟨a, bs, rfl, ha, hn, hbl, h0, hb, hr⟩ := h
  refine items_list (IsL.seq ⟨a, rfl, ha⟩) (by rw [List.length_map, hbl]; exact lid_of hu) ?_
  refine for_inv (fun i l m' => (l = loc ∨ ∃ y, l = setV loc p y) ∧ Ext m0 m' ∧ m' a = some (.list (bs.map .ref)) ∧ ∀ (j : Nat) b r, i ≤ j → bs[j]? = some b → u[j]? = some r → m' b = some (.list (r.map .int))) ⟨.inl rfl, E, ha, fun j b r _ => hr j b r⟩ (fun i x l m' hx hI P hP => ?_) fun l m' hI => hR l m' hI.1 hI.2.1 ⟨a, _, rfl, h0, hI.2.2.1, by rw [List.length_map]; exact hbl⟩
  obtain ⟨hl, E', ha', hr'⟩ := hI
  have hset : setV l p x = setV loc p x := by
    rcases hl with rfl | ⟨y, rfl⟩
    · rfl
    · exact sv_set
  rw [List.getElem?_map] at hx
  obtain ⟨b, q, rfl⟩ := Option.map_eq_some_iff.mp hx
  have hbm := List.mem_of_getElem? q
  have hil : i < u.length := hbl ▸ (List.getElem?_eq_some_iff.mp q).1
  have hbb := hr' i b _ (Nat.le_refl i) q (getDL hil)
  have hb0 := hb b hbm
  refine bodyF_one (s_cons (s_expr (e_append (e_nm (v := .ref b) (by rw [hset]; exact gv_set hp) (isL_ hbb (e_negI (appQ_ hbb (by rw [List.length_map]; exact lid_of (hs _ (getDL_mem hil))) (plain_none (seqQ_next (s_nil ?_)))))))))) 
  have ha2 : (m'.set b (.list ((u.getD i []).map .int ++ [.int (-1)]))) a = some (.list (bs.map .ref)) := by rw [set_ne (Ne.symm hb0.2)]; exact ha'
  with_reducible refine loopQ_next (hP _ _ ?_)
  refine ⟨IsL.stands ⟨a, rfl, ha⟩ ⟨a, rfl, ha2⟩, .inr ⟨_, hset⟩, E'.over hb0.1, ha2, fun j c r hj h1 h2 => ?_⟩
  have hne : c ≠ b := fun e => by
    subst e
    have := (List.getElem?_inj (List.getElem?_eq_some_iff.mp h1).1 hn).mp (h1.trans q.symm)
    walk_at "o"
  rw [set_ne hne]
  exact hr' j c r (by walk_at "o") h1 h2

theorem t_pairs {xs : List Val} {u : List (List Int)} (h : All2 (IsI m) xs u) : ∃ ps : List (Addr × List Int), xs = ps.map (fun p => .ref p.1) ∧ ps.map (·.2) = u ∧ ∀ p ∈ ps, m p.1 = some (.list (p.2.map .int)) := by
  induction h with
  | nil => exact ⟨[], rfl, rfl, fun _ q => nomatch q⟩
  | cons h _ ih =>
    obtain ⟨ps, rfl, rfl, hp⟩ := ih
    obtain ⟨a, rfl, ha⟩ := h
    refine ⟨(a, _) :: ps, rfl, rfl, fun p hp' => ?_⟩
    rcases List.mem_cons.mp hp' with rfl | hp'
    · exact ha
    · exact hp p hp'
theorem b1_sortedT (hv : IsT m v u) (hl : u.length < 64) (h : ∀ us c m', us.Perm u → us.Pairwise (fun p q => lexLt q p = false) → Ext m m' → IsT m' (.ref c) us → Q (.ref c) m') : wpB1 .sorted v Q m := by
  obtain ⟨xs, e1, e2⟩ := hv
  obtain ⟨ps, rfl, hu, hp⟩ := t_pairs e2
  have hpl : ps.length = u.length := by rw [← hu, List.length_map]
  refine ⟨_, e1.lst, .inr ⟨ps, rfl, hp, by walk_at "o", fun qs hq hs => freshL_x (by rw [List.length_map, hq.length_eq]; exact lid_of (by walk_at "o")) fun c m' hc E he => ?_⟩⟩
  refine h (qs.map (·.2)) c m' (by rw [← hu]; exact hq.map _) (List.pairwise_map.mpr hs) E ⟨_, ⟨c, rfl, he⟩, All2.of_get (by rw [List.length_map, List.length_map]) fun i y r g1 g2 => ?_⟩
  rw [List.getElem?_map] at g1 g2
  obtain ⟨p, hp1, rfl⟩ := Option.map_eq_some_iff.mp g1
  rw [hp1] at g2
  cases g2
  exact ⟨p.1, rfl, E _ _ (hp p (hq.mem_iff.mp (List.mem_of_getElem? hp1)))⟩
theorem Ext.setBoth {m m' : Mem} {o : AObj} (E : Ext m m') : Ext (m.set f o) (m'.set f o) := fun b o' e => by
  by_cases q : b = f
  · subst q; rw [set_eq] at e ⊢; exact e
  · rw [set_ne q] at e ⊢; exact E b o' e
theorem Own.both {m0 : Mem} (h : Own m0 m v t) {o o' : AObj} (hf : m0 f = some o) : Own (m0.set f o') (m.set f o') v t := by
  obtain ⟨a, bs, rfl, ha, hn, hl, h0, hb, hr⟩ := h
  have ne : ∀ {c}, m0 c = none → c ≠ f := fun hc e => by subst e; rw [hc] at hf; cases hf
  exact ⟨a, bs, rfl, by rw [set_ne (ne h0)]; exact ha, hn, hl, by rw [set_ne (ne h0)]; exact h0, fun b hb' => ⟨by rw [set_ne (ne (hb b hb').1)]; exact (hb b hb').1, (hb b hb').2⟩, fun j b r h1 h2 => by rw [set_ne (ne (hb b (List.mem_of_getElem? h1)).1)]; exact hr j b r h1 h2⟩
theorem and_false {b : Bool} {e : Ex} {P : Bool → Mem → Prop} (h : P false m) (he : b = true → ∀ P' : Val → Mem → Prop, P' (.bool false) m → wpE C G X e loc P' m) : bsQ true (wpBs C G X true (.cons e .nil) loc P) P b m :=
  And.intro (fun hb => bs_cons (he hb _ (asB_ (bsQ_nil h)))) fun hb => by rw [show b = false from hb]; exact h
theorem good_tail (O : Ok t u k) {u' uF : List (List Int)} (O4 : Ok t u' k) (OF : Ok t uF k) (hx : 0 ≤ x ∧ x.toNat < k) (hn : x ∉ u.flatten) {m1 m2 m5 : Mem} {L : List Val} {v4 vF : Val} {y6 y7 y8 : Option Val} (hv : IsT m v t) (hw : IsT m w u) (hf0 : m f = none) (E1 : Ext m m1) (hf : m1 f = some (.list L)) (hLl : L.length < 900) (E2 : Ext m1 m2) (o4 : Own m1 m2 v4 u') (oF : Own m2 m5 vF uF) (E5 : Ext m2 m5) (hB : Born t u → Born t u') (h : ∀ m', Ext m m' → Q (.bool true) m') :
    wpSs (CN (n + 6)) (globOf GS) (Sts.drop 10 f_L_good_2.body) (retQ Q) (fun c _ m' => X c m') [some v, some w, some (.int x), some (.ref f), some v4, some vF, y6, y7, y8, none, none] m5 := by
  dsimp only [f_L_good_2, sts, Sts.drop]
  have hf5 := (E2.trans E5) _ _ hf
  walk_at "ss"
  refine isL_ hf5 ?_
  walk_at "ss"
  refine ⟨lid_of (show 0 < 1000 by decide), ?_⟩
  walk_at "ss"
  refine ⟨lid_of (show 2 < 1000 by decide), ?_⟩
  refine appQ_ hf5 (lid_of (by walk_at "o")) ?_
  walk_at "ss"
  have E06 : Ext (m2.set f (.list (L ++ [.tup [.str (Str.ofString "ring"), .tup []]]))) (m5.set f (.list (L ++ [.tup [.str (Str.ofString "ring"), .tup []]]))) := E5.setBoth
  have oF6 : Own (m2.set f (.list (L ++ [.tup [.str (Str.ofString "ring"), .tup []]]))) (m5.set f (.list (L ++ [.tup [.str (Str.ofString "ring"), .tup []]]))) vF uF := oF.both (E2 _ _ hf)
  have h40 : IsT (m2.set f (.list (L ++ [.tup [.str (Str.ofString "ring"), .tup []]]))) v4 u' := (o4.apart hf).isT
  have E00 : Ext m (m2.set f (.list (L ++ [.tup [.str (Str.ofString "ring"), .tup []]]))) := (E1.trans E2).over hf0
  refine spoil (u := uF) oF6 E06 OF.ul (fun s hs => sl1 (OF.sl hs)) (by show 7 < 11; decide) fun l m7 hl7 E7 _ => ?_
  have hl' : ∃ y, l = [some v, some w, some (.int x), some (.ref f), some v4, some vF, y6, y, y8, none, none] := by
    rcases hl7 with rfl | ⟨y, rfl⟩
    · exact ⟨_, rfl⟩
    · exact ⟨_, rfl⟩
  obtain ⟨y, rfl⟩ := hl'
  have E07 := E00.trans E7
  walk_at "ss"
  refine lborne_spec O (hv.ext E07) (hw.ext E07) fun b m8 E8 hb => ?_
  have E08 := E07.trans E8
  cases b with
  | false =>
    walk_at "ss"
    exact h _ E08
  | true =>
    have hBu := hb.mp rfl
    walk_at "ss"
    refine lborne_spec O4 (hv.ext E08) (h40.ext (E7.trans E8)) fun b2 m9 E9 hb2 => ?_
    rw [hb2.mpr (hB hBu)]
    have E09 := E08.trans E9
    walk_at "ss"
    refine awarded_spec O hx hn (hv.ext E09) (hw.ext E09) fun vN uN m10 E10 oN hGN => ?_
    obtain ⟨ON, _, bN⟩ := hGN.ok O hx hn
    walk_at "ss"
    refine lborne_spec ON (hv.ext (E09.trans E10)) oN.isT fun b3 m11 E11 hb3 => ?_
    rw [hb3.mpr (bN hBu)]
    walk_at "ss"
    exact h _ ((E09.trans E10).trans E11)
theorem good_spec (O : Ok t u k) (hx : 0 ≤ x ∧ x.toNat < k) (hn : x ∉ u.flatten) (hfl : u.flatten.length < 60) (hv : IsT m v t) (hw : IsT m w u) (h : ∀ m', Ext m m' → Q (.bool true) m') : CN (n + 7) 99 [v, w, .int x] Q X m := by
  have h8 := O.t8
  have hul : u.length ≤ 8 := by rw [O.len]; exact h8
  (refine call_eq rfl rfl ?_; dsimp only [f_L_good_2, sts, loc0, List.map, List.replicate, List.cons_append, List.nil_append, List.length, Nat.reduceAdd, Nat.reduceSub])
  walk_at "ss"
  refine steps_full O hx hn hv hw fun f wss v' u' j m1 E1 hf0 hf hP hN hF hG => ?_
  have hwss : wss.length < 200 := by have := hP.len O; have := pairs_lt O; walk_at "o"
  walk_at "ss"
  try dsimp only [setV]
  refine walked_spec O hx hn (hv.ext E1) (hw.ext E1) hf hwss hP hN hF hG fun v4 m2 E2 o4 => ?_
  walk_at "ss"
  try dsimp only [setV]
  have E02 := E1.trans E2
  refine awarded_spec O hx hn (hv.ext E02) (hw.ext E02) fun vF uF m3 E3 oF hGF => ?_
  have OV := hP.reach.ok O
  have hxv : x ∉ v'.flatten := fun q => hn (((hP.reach.perm O).flatten).mem_iff.mp q)
  have hGv : Gave t v' x u' := ⟨j, hF, hG⟩
  have O4 : Ok t u' k := hGv.ok OV hx hxv
  obtain ⟨OF, pF, bF⟩ := hGF.ok O hx hn
  have E03 := E02.trans E3
  walk_at "ss"
  try dsimp only [setV]
  refine freshL_x (lid_of (show 1 < 1000 by decide)) fun c m4 hc E4 he4 => ?_
  walk_at "ss"
  try dsimp only [setV]
  obtain ⟨ys, e1, e2⟩ := hw.ext (E03.trans E4)
  refine items_list e1.seq (by rw [e2.length]; exact lid_of (by walk_at "o")) ?_
  refine for_inv (fun i l m' => ∃ cT y7, l = [some v, some w, some (.int x), some (.ref f), some v4, some vF, some (.ref cT), y7, none, none, none] ∧ Ext m4 m' ∧ IsI m' (.ref cT) (x :: (u.take i).flatten)) ⟨c, none, rfl, .refl, ⟨c, rfl, he4⟩⟩ (fun i y l m' hy hI P hPP => ?_) fun l m' hI => ?_
  · obtain ⟨cT, y7, rfl, E, hT⟩ := hI
    obtain ⟨s, hs, hys⟩ := e2.get hy
    have hsl := O.sl (List.mem_of_getElem? hs)
    refine bodyF_one ?_
    try dsimp only [setV]
    walk_at "ss"
    obtain ⟨b, rfl, hb⟩ := hys.ext E
    obtain ⟨_, hcT, hcT'⟩ := hT
    cases hcT
    have hfl2 := flat_take_len (u := u) i
    refine bin_addL (IsL.lst ⟨cT, rfl, hcT'⟩) (IsL.lst ⟨b, rfl, hb⟩) ?_
    rw [← List.map_append]
    refine freshL_x (by rw [List.length_map, List.length_append, List.length_cons]; exact lid_of (by walk_at "o")) fun c2 m5 hc2 E5 he5 => ?_
    walk_at "ss"
    try dsimp only [setV]
    with_reducible refine loopQ_next (hPP _ _ ?_)
    refine ⟨e1.stands (e1.ext (E.trans E5)), c2, _, rfl, E.trans E5, c2, rfl, ?_⟩
    rw [he5, List.take_add_one, hs]
    simp
  obtain ⟨cT, y7, rfl, E, hT⟩ := hI
  rw [e2.length, List.take_length] at hT
  have E04 := (E03.trans E4).trans E
  have E34 := E4.trans E
  obtain ⟨a4, bs4, ev4, _⟩ := id o4
  walk_at "ss"
  subst ev4
  rw [show (isLit none (Val.ref a4) == true) = false from rfl]
  walk_at "ss"
  refine len_ll (hv.ext E04) (lid_of O.tl) ?_
  walk_at "ss"
  refine b1_sorted hT (by rw [List.length_cons]; walk_at "o") fun js hjp hjs => ?_
  refine freshL_x (by rw [List.length_map, hjp.length_eq, List.length_cons]; exact lid_of (by walk_at "o")) fun c6 m6 hc6 E6 he6 => ?_
  walk_at "ss"
  have E36 := E34.trans E6
  have pF' : js.Perm uF.flatten := hjp.trans ((List.perm_append_comm (l₁ := [x]) (l₂ := u.flatten)).trans pF.symm)
  have hFl : uF.flatten.length < 64 := by rw [← pF'.length_eq, hjp.length_eq, List.length_cons]; walk_at "o"
  refine lparted_spec OF pF' hjs hFl rfl (oF.isT.ext E36) ⟨c6, rfl, he6⟩ fun m7 E7 => ?_
  walk_at "ss"
  have E37 := E36.trans E7
  have E07 := E03.trans E37
  refine no_less_spec O OF (hv.ext E07) (hw.ext E07) (oF.isT.ext E37) (fun i hi => hGF.more O hx hi) ?_
  walk_at "ss"
  refine b1_len (IsL.seq ⟨f, rfl, ((E2.trans E3).trans E37) _ _ hf⟩) (by rw [List.length_append, List.length_map]; exact lid_of (by show _ + 1 < 1000; walk_at "o")) ?_
  walk_at "ss"
  have hBv : Born t u → Born t u' := fun B => hGv.born OV hx (hP.reach.born O B)
  have hf7 := ((E2.trans E3).trans E37) _ _ hf
  refine and_false ?_ (fun hb P' hP' => ?_)
  rotate_left
  · have hb := of_decide_eq_true hb
    rw [List.length_append, List.length_map] at hb
    have hw0 : wss = [] := List.length_eq_zero_iff.mp (by have : (wss.length : Int) + 1 = 1 := hb; walk_at "o")
    subst hw0
    obtain rfl := hP.nil_inv
    obtain ⟨vw, Rw, Nw, gw⟩ := id hGF
    obtain rfl := Rw.still hN
    obtain rfl := gw.unique hGv
    walk_at "ss"
    refine cmp_neTT (oF.isT.ext E37) (o4.isT.ext (E3.trans E37)) ?_
    rw [dec_f (fun q => q rfl)]
    exact hP'
  walk_at "ss"
  refine no_less_spec O O4 (hv.ext E07) (hw.ext E07) (o4.isT.ext (E3.trans E37)) (fun i hi => Int.le_trans (hP.reach.more O i) (hG.more OV hx hF.lt hi)) ?_
  walk_at "ss"
  obtain ⟨vw, Rw, Nw, gw⟩ := id hGF
  have Ow := Rw.ok O
  have hxw : x ∉ vw.flatten := fun q => hn ((Rw.perm O).flatten.mem_iff.mp q)
  obtain ⟨xs, f1, f2⟩ := oF.isT.ext E37
  have hFl8 : uF.length < 1000 := OF.ul
  refine items_list f1.seq (by rw [f2.length]; exact lid_of hFl8) ?_
  refine comp_own (fun j => (uF.getD j []).filter fun y => decide (y ≠ x)) (by rw [f2.length]; exact hFl8) (fun m' E => f1.stands (f1.ext E)) (fun j y m' hy E P hP => ?_) fun vA m8 E8 oA => ?_
  · obtain ⟨s, hs, hys⟩ := f2.get hy
    have hsl := OF.sl (List.mem_of_getElem? hs)
    have hjs : uF.getD j [] = s := by rw [List.getD_eq_getElem?_getD, hs]; rfl
    replace hys := hys.ext E
    walk_at "ss"
    refine items_list hys.seq (by rw [List.length_map]; exact lid_of (sl1 hsl)) ?_
    refine comp_filter (g := fun y => y) (c := fun y => match y with | .int y => decide (y ≠ x) | _ => false) (IsL.stands (k := .plain) hys hys) (fun y hy P hP => ?_) (fun y hy P hP => ?_) ?_
    · obtain ⟨y, _, rfl⟩ := List.mem_map.mp hy
      walk_at "ss"
      exact hP
    · obtain ⟨y, _, rfl⟩ := List.mem_map.mp hy
      walk_at "ss"
      exact hP
    rw [ints_filter s (fun y => decide (y ≠ x)) _ fun y _ => rfl]
    refine freshL_ (by rw [List.length_map]; exact lid_of (Nat.lt_of_le_of_lt (List.length_filter_le _ _) (sl1 hsl))) fun c hc => ?_
    have := hP c m' .refl hc
    rw [hjs] at this
    exact this
  rw [f2.length, gw.back Ow hxw] at oA
  have hvl : vw.length < 64 := by rw [Ow.len]; walk_at "o"
  refine b1_sortedT oA.isT hvl fun us1 c9 m9 p9 s9 E9 h9 => ?_
  walk_at "ss"
  have E79 := E8.trans E9
  refine b1_sortedT (hw.ext (E07.trans E79)) (by walk_at "o") fun us2 c10 m10 p10 s10 E10 h10 => ?_
  refine cmp_neTT (h9.ext E10) h10 ?_
  rw [lists_eq (p9.trans ((Rw.perm O).trans p10.symm)) s9 s10, dec_f (fun q => q rfl)]
  walk_at "ss"
  refine freshL_x (lid_of (show 1 < 1000 by decide)) fun c11 m11 hc11 E11 he11 => ?_
  have E7b := (E79.trans E10).trans E11
  have E0b := E07.trans E7b
  have E3b := E37.trans E7b
  walk_at "ss"
  have fin : ∀ (y8 : Val) m12, Ext m11 m12 → (y8 = .none ∨ ∃ (g : Addr) (St : List (List (List Int))), y8 = .ref g ∧ IsLL IsT m12 (.ref g) St ∧ ∀ u2, Deals t u [x] u2 → u2 ∈ St) →
      wpSs (CN (n + 6)) (globOf GS) (Sts.drop 9 f_L_good_2.body) (retQ Q) (fun c _ m' => X c m') [some v, some w, some (.int x), some (.ref f), some (.ref a4), some vF, some (.ref cT), y7, some y8, none, none] m12 := fun y8 m12 E12 hy8 => by
    have E0c := E0b.trans E12
    have E3c := E3b.trans E12
    show wpSs _ _ (.cons _ (Sts.drop 10 f_L_good_2.body)) _ _ _ _
    have T := fun (m13 : Mem) (E13 : Ext m12 m13) => good_tail (n := n) (X := X) (y6 := some (.ref cT)) (y7 := y7) (y8 := some y8) O O4 OF hx hn hv hw hf0 E1 hf (by rw [List.length_append, List.length_map]; show _ + 1 < 900; walk_at "o") E2 o4 (oF.ext (E3c.trans E13)) (E3.trans (E3c.trans E13)) hBv h
    generalize Sts.drop 10 f_L_good_2.body = rest at T ⊢
    try dsimp only [f_L_good_2]
    refine s_cons (s_ifs ?_)
    walk_at "ss"
    refine last_right_spec Ow OF hxw Nw gw (hv.ext E0c) (oF.isT.ext E3c) fun m13 E13 => ?_
    walk_at "ss"
    rcases hy8 with rfl | ⟨g, St, rfl, hg, hSt⟩
    · rw [show (isLit none Val.none == false) = false from rfl]
      walk_at "ss"
      exact T m13 E13
    · rw [show (isLit none (Val.ref g) == false) = true from rfl]
      walk_at "ss"
      refine cmp_notinT (oF.isT.ext (E3c.trans E13)) (hg.ext E13 (fun _ _ => IsT.ext E13)) ?_
      rw [decide_eq_true (hSt uF (.more (xs := []) .nil hGF))]
      walk_at "ss"
      exact T m13 E13
  refine fixed_spec (xs := [x]) O (fun y hy => by rw [List.mem_singleton.mp hy]; exact hx) ?_ (by show 1 < 1000; decide) (hv.ext E0b) (hw.ext E0b) ⟨c11, rfl, he11⟩ (fun m12 E12 => ?_) (fun g St m12 E12 hg hSt => ?_)
  · rw [List.nodup_append]
    refine ⟨O.nd, List.nodup_cons.mpr ⟨List.not_mem_nil, List.nodup_nil⟩, fun y hy z hz e => ?_⟩
    rw [List.mem_singleton.mp hz] at e
    exact hn (e ▸ hy)
  · exact seqQ_next (fin .none m12 E12 (.inl rfl))
  · exact seqQ_next (fin (.ref g) m12 E12 (.inr ⟨g, St, rfl, hg, hSt⟩))
end

section
variable {C : CallT} {G : String → Option Val} {Q : Val → Mem → Prop} {X : Nat → Mem → Prop} {m : Mem} {n : Nat} {t u f : List (List Int)} {k N : Nat} {v w : Val} {loc : Loc} {R : Flow → Loc → Mem → Prop} {Y : Nat → Loc → Mem → Prop} {ws : List Nat}

theorem zs_back {fs ls : List Int} {N : Nat} (hp : (fs ++ ls).Perm ((List.range N).map fun (t : Nat) => (t : Int))) : fs = zs (fs.map Int.toNat) ∧ (fs.map Int.toNat).Nodup ∧ ∀ x ∈ fs.map Int.toNat, x < N := by
  have hin : ∀ x ∈ fs, ∃ t : Nat, t < N ∧ x = t := fun x hx => by
    have := hp.mem_iff.mp (List.mem_append_left ls hx)
    simp only [List.mem_map, List.mem_range] at this
    obtain ⟨t, ht, rfl⟩ := this
    exact ⟨t, ht, rfl⟩
  have e : fs = zs (fs.map Int.toNat) := by
    unfold zs
    rw [List.map_map]
    conv => lhs; rw [← List.map_id fs]
    exact List.map_congr_left fun x hx => by obtain ⟨t, _, rfl⟩ := hin x hx; rfl
  refine ⟨e, ?_, fun x hx => ?_⟩
  · have hnd : (fs ++ ls).Nodup := hp.nodup_iff.mpr (by
      rw [List.nodup_iff_pairwise_ne, List.pairwise_map]
      exact List.nodup_range.imp fun h e => h (Int.ofNat.inj e))
    have h1 := (List.nodup_append.mp hnd).1
    rw [e] at h1
    unfold zs at h1
    rw [List.nodup_iff_pairwise_ne, List.pairwise_map] at h1
    exact h1.imp fun h e => h (congrArg _ e)
  · obtain ⟨y, hy, rfl⟩ := List.mem_map.mp hx
    obtain ⟨t, ht, rfl⟩ := hin y hy
    exact ht
theorem table_own {ns : List Int} {h k : Int} (hl : ns.length < 1000) (hh : 0 ≤ h ∧ h ≤ 100) (hk : 0 ≤ k ∧ k ≤ 100) (hQ : ∀ v m', Ext m m' → Own m m' v (tabOf ns h k) → Q v m') : CN (n + 2) 15 [.frz (ns.map .int), .int h, .int k] Q X m := by
  have hmode := fm (cell ns 2) (b := 5) (by decide)
  have htl : (tabOf ns h k).length = h.toNat := by unfold tabOf; rw [List.length_map, List.length_range]
  (refine call_eq rfl rfl ?_; dsimp only [f_L_table, sts, loc0, List.map, List.replicate, List.cons_append, List.nil_append, List.length, Nat.reduceAdd, Nat.reduceSub])
  walk_at "ss"
  refine at_spec (by walk_at "o") hl ?_
  walk_at "ss"
  refine freshL_ (lid_of (by decide)) fun a ha => ?_
  walk_at "ss"
  refine items_range (rng_lid (by walk_at "o")) ?_
  dsimp only [setV]
  refine for_inv (fun i l m' => ∃ y5 y6 y7 y8, l = [some (.frz (ns.map .int)), some (.int h), some (.int k), some (.int ((cell ns 2).fmod 5)), some (.ref a), y5, y6, y7, y8] ∧ ∃ mr bs, Ext m mr ∧ mr a = none ∧ m' = mr.set a (.list (bs.map .ref)) ∧ bs.Nodup ∧ (∀ b ∈ bs, m b = none) ∧ All2 (fun b r => mr b = some (.list (r.map .int))) bs ((tabOf ns h k).take i))
    ⟨none, none, none, none, rfl, m, [], .refl, ha, rfl, List.nodup_nil, (fun b hb => by cases hb), All2.nil⟩ (fun i x l m' hx hI P hP => ?_) fun l m' hI => ?_
  · obtain ⟨y5, y6, y7, y8, rfl, mr, bs, Er, hra, rfl, hbn, hbm, hall⟩ := hI
    obtain ⟨hi, rfl⟩ := range_get hx
    refine bodyF_one ?_
    dsimp only [setV]
    walk_at "ss"
    refine freshL_ (lid_of (by decide)) fun b hb => ?_
    have hab : a ≠ b := ne_of hb set_eq
    have hbr : mr b = none := by rw [set_ne (Ne.symm hab)] at hb; exact hb
    walk_at "ss"
    refine items_range (rng_lid (by walk_at "o")) ?_
    dsimp only [setV]
    refine for_inv (fun j l m' => ∃ y7 y8, l = [some (.frz (ns.map .int)), some (.int h), some (.int k), some (.int ((cell ns 2).fmod 5)), some (.ref a), some (.int i), some (.ref b), y7, y8] ∧ At (mr.set a (.list (bs.map .ref))) b (((rowOf ns k i).take j).map .int) m')
      ⟨y7, y8, rfl, At.start hb⟩ (fun j x l m' hx hI P hP => ?_) fun l m' hI => ?_
    · obtain ⟨y7, y8, rfl, A⟩ := hI
      obtain ⟨hj, rfl⟩ := range_get hx
      refine bodyF_one ?_
      dsimp only [setV]
      walk_at "ss"
      refine bin_mul (.inr (by unfold small; walk_at "o")) ?_
      walk_at "ss"
      dsimp only [setV]
      refine isL_ A.get ?_
      walk_at "ss"
      have hf36 := fm ((i : Int) * k + j) (b := 36) (by decide)
      refine at_spec (by walk_at "o") hl ?_
      walk_at "ss"
      refine mixed_spec ?_
      walk_at "ss"
      refine worthOf_spec hmode fun m3 E3 => ?_
      refine appQ_ (A.grow E3).get (by rw [List.length_map, List.length_take]; exact lid_of (by walk_at "o")) ?_
      walk_at "ss"
      with_reducible refine loopQ_next (hP _ _ ?_)
      refine ⟨trivial, some (.int j), some (.int ((i : Int) * k + j)), rfl, ?_⟩
      have : rowOf ns k i = (List.range k.toNat).map (entry ns k i) := rfl
      rw [this, take_succ_map (α := Nat) _ _ _ hj, ← this, List.map_append]
      exact (A.grow E3).put
    · obtain ⟨y7, y8, rfl, A⟩ := hI
      have hrow : (rowOf ns k i).take (rangeV k).length = rowOf ns k i := by rw [range_len, List.take_of_length_le]; rw [rowOf_len]; exact Nat.le_refl _
      rw [hrow] at A
      walk_at "ss"
      have hma := A.ext a _ set_eq
      refine isL_ hma ?_
      walk_at "ss"
      have hlb : bs.length < 1000 := by rw [hall.length, List.length_take]; walk_at "o"
      refine appQ_ hma (by rw [List.length_map]; exact lid_of hlb) ?_
      walk_at "ss"
      with_reducible refine loopQ_next (hP _ _ ?_)
      have E3 := A.ext
      refine ⟨trivial, some (.int i), some (.ref b), y7, y8, rfl, m'.del a, bs ++ [b], Er.trans (Ext.del hra E3), del_eq, by rw [del_set, List.map_append]; rfl, ?_, fun c hc => ?_, ?_⟩
      · rw [List.nodup_append]
        refine ⟨hbn, List.nodup_cons.mpr ⟨by simp, List.nodup_nil⟩, fun x hx y hy => ?_⟩
        rcases List.mem_singleton.mp hy with rfl
        obtain ⟨j, hj⟩ := List.mem_iff_getElem?.mp hx
        obtain ⟨r, _, hr⟩ := hall.get hj
        exact ne_of hbr hr
      · rcases List.mem_append.mp hc with q | q
        · exact hbm c q
        · rcases List.mem_singleton.mp q with rfl
          exact none_of Er hbr
      · have : tabOf ns h k = (List.range h.toNat).map (rowOf ns k) := rfl
        rw [this, take_succ_map (α := Nat) _ _ _ hi, ← this]
        refine (hall.mono fun c r q => Ext.del hra E3 c _ q).append (.cons ?_ .nil)
        rw [del_ne (Ne.symm hab)]
        exact A.get
  · obtain ⟨y5, y6, y7, y8, rfl, mr, bs, Er, hra, rfl, hbn, hbm, hall⟩ := hI
    walk_at "ss"
    rw [range_len, List.take_of_length_le (by rw [htl]; exact Nat.le_refl _)] at hall
    refine hQ _ _ (Er.trans (Ext.set hra)) ⟨a, bs, rfl, set_eq, hbn, hall.length, ha, fun b hb => ⟨hbm b hb, ?_⟩, fun j b r h1 h2 => ?_⟩
    · obtain ⟨j, hj⟩ := List.mem_iff_getElem?.mp hb
      obtain ⟨r, _, hr⟩ := hall.get hj
      exact ne_of hra hr
    · obtain ⟨r', h3, hr⟩ := hall.get h1
      rw [h2] at h3
      cases h3
      rw [set_ne (ne_of hra hr)]
      exact hr

structure Good (t : List (List Int)) (N k : Nat) : Prop where
  len : t.length = N
  row : ∀ r ∈ t, r.length = k
  wor : ∀ r ∈ t, ∀ x ∈ r, 0 ≤ x ∧ x ≤ 1000000
theorem Good.tab (H : Good t N k) (hN : 1 ≤ N ∧ N ≤ 8) (hk : k ≤ 40) : tabOk t = true := by
  obtain ⟨hl, hr, hw⟩ := H
  cases t with
  | nil => subst hl; exact absurd hN.1 (by decide)
  | cons r t =>
    have h0 := hr r (.head _)
    show (decide ((r :: t).length ≤ 8) && (decide (r.length ≤ 40) && (r :: t).all (rowOk r.length))) = true
    rw [h0, decide_eq_true (hl ▸ hN.2), decide_eq_true hk]
    refine List.all_eq_true.mpr fun x hx => ?_
    unfold rowOk
    rw [Bool.and_eq_true, decide_eq_true_eq, List.all_eq_true]
    exact ⟨hr x hx, fun z hz => decide_eq_true (hw x hx z hz)⟩
theorem Good.of (ns : List Int) {N k : Nat} (hN : 1 ≤ N ∧ N ≤ 8) (hk : k ≤ 40) : Good (tabOf ns (N : Nat) (k : Nat)) N k := by
  have hT := tabOf_ok ns (h := (N : Nat)) (k := (k : Nat)) ⟨by walk_at "o", by walk_at "o"⟩ ⟨by walk_at "o", by walk_at "o"⟩
  obtain ⟨r0, t', _, _, _, hall⟩ := tabOk_row hT
  refine ⟨by unfold tabOf; rw [List.length_map, List.length_range]; rfl, fun r hr => ?_, fun r hr => (hall r hr).2⟩
  obtain ⟨i, _, rfl⟩ := List.mem_map.mp hr
  exact rowOf_len ns k i
theorem Good.set (H : Good t N k) {i : Nat} {r : List Int} (hr : r.length = k) (hw : ∀ x ∈ r, 0 ≤ x ∧ x ≤ 1000000) : Good (t.set i r) N k :=
  ⟨by rw [List.length_set]; exact H.len, fun x hx => by rcases List.mem_or_eq_of_mem_set hx with q | rfl; (· exact H.row x q); (· exact hr), fun x hx => by rcases List.mem_or_eq_of_mem_set hx with q | rfl; (· exact H.wor x q); (· exact hw)⟩
end

section
variable {C : CallT} {G : String → Option Val} {Q : Val → Mem → Prop} {X : Nat → Mem → Prop} {m : Mem} {n : Nat} {t u f : List (List Int)} {k N : Nat} {v w : Val} {loc : Loc} {R : Flow → Loc → Mem → Prop} {Y : Nat → Loc → Mem → Prop} {ws : List Nat}

noncomputable def ent (t : List (List Int)) (i j : Nat) : Int := (t.getD i []).getD j 0
noncomputable def Put (t : List (List Int)) (ws : List Nat) (k : Nat) : Prop := ∀ j, j < k → ent t (rg ws (j + (ws.length - 1))) (rg ws j) > ent t (rg ws (j + (ws.length - 1))) (rg ws (j + (ws.length - 1)))
theorem getDrow {r : List Int} {i j : Nat} {x : Int} (hi : i < r.length) : (r.set i x).getD j 0 = if i = j then x else r.getD j 0 := by
  rw [List.getD_eq_getElem?_getD, List.getElem?_set, List.getD_eq_getElem?_getD]
  by_cases h : i = j
  · subst h; rw [if_pos rfl, if_pos rfl, if_pos hi]; rfl
  · rw [if_neg h, if_neg h]
theorem Put.next (W : Way ws N) (H : Good t N N) (hP : Put t ws k) (hk : k < ws.length) {a b : Int} (hab : a < b) :
    Put (t.set (rg ws (k + (ws.length - 1))) (((t.getD (rg ws (k + (ws.length - 1))) []).set (rg ws (k + (ws.length - 1))) a).set (rg ws k) b)) ws (k + 1) := fun j hj => by
  have h2 := W.two
  have hpt : rg ws (k + (ws.length - 1)) < t.length := by rw [H.len]; exact rg_lt W _
  have hrl := H.row _ (getDL_mem hpt)
  unfold ent
  rw [getDset hpt]
  by_cases e : j = k
  · subst e
    have hq := rg_lt W j
    have hp := rg_lt W (j + (ws.length - 1))
    rw [if_pos rfl]
    generalize t.getD (rg ws (j + (ws.length - 1))) [] = r at hrl
    have hne : rg ws j ≠ rg ws (j + (ws.length - 1)) := by
      have := rg_next W (j + (ws.length - 1))
      rw [show j + (ws.length - 1) + 1 = j + ws.length by walk_at "o", rg_mod (j + ws.length) j (Nat.add_mod_right ..)] at this
      exact this
    generalize rg ws (j + (ws.length - 1)) = p at hne hp
    generalize rg ws j = q at hne hq
    rw [getDrow (j := q) (by rw [List.length_set, hrl]; exact hq), if_pos rfl, getDrow (j := p) (by rw [List.length_set, hrl]; exact hq), if_neg hne, getDrow (by rw [hrl]; exact hp), if_pos rfl]
    exact hab
  · have hne : rg ws (k + (ws.length - 1)) ≠ rg ws (j + (ws.length - 1)) := fun q => by
      have h1 := rg_inj W (i := k + (ws.length - 1) + 1) (j := j + (ws.length - 1) + 1) (rg_mod _ _ (by rw [Nat.add_mod, rg_inj W q, ← Nat.add_mod]))
      rw [show k + (ws.length - 1) + 1 = k + ws.length by walk_at "o", show j + (ws.length - 1) + 1 = j + ws.length by walk_at "o", Nat.add_mod_right, Nat.add_mod_right, Nat.mod_eq_of_lt hk, Nat.mod_eq_of_lt (by walk_at "o")] at h1
      exact e h1.symm
    rw [if_neg hne]
    exact hP j (by walk_at "o")
theorem Put.all (W : Way ws N) (hP : Put t ws ws.length) (i : Nat) : ent t (rg ws i) (rg ws (i + 1)) > ent t (rg ws i) (rg ws i) := by
  have h2 := W.two
  have h := hP ((i + 1) % ws.length) (Nat.mod_lt _ (by walk_at "o"))
  have e1 : rg ws ((i + 1) % ws.length) = rg ws (i + 1) := rg_mod _ _ (Nat.mod_mod ..)
  have e2 : rg ws ((i + 1) % ws.length + (ws.length - 1)) = rg ws i := by
    refine rg_mod _ _ ?_
    rw [Nat.mod_add_mod, show i + 1 + (ws.length - 1) = i + ws.length by walk_at "o", Nat.add_mod_right]
  rw [e1, e2] at h
  exact h
theorem Own.cell {m0 : Mem} (o : Own m0 m v t) (E : Ext m0 m) (H : Good t N k) (hN : N ≤ 8) (hk : k ≤ 40) {i j : Nat} (hi : i < N) (hj : j < k) {x : Int} (hx : 0 ≤ x ∧ x ≤ 1000000) :
    ∃ b, (∀ P : Val → Mem → Prop, P (.ref b) m → subW v (.int (i : Nat)) P m) ∧ ∀ K : Mem → Prop, (∀ m', Ext m0 m' → Own m0 m' v (t.set i ((t.getD i []).set j x)) → Good (t.set i ((t.getD i []).set j x)) N k → K m') → setQ (.ref b) (.int (j : Nat)) (.int x) K m := by
  have hit : i < t.length := by rw [H.len]; exact hi
  have hrl := H.row _ (getDL_mem hit)
  obtain ⟨b, hb0, _, hmb, hsub, hown⟩ := o.turn .refl hit (by rw [H.len]; walk_at "o")
  refine ⟨b, hsub, fun K hK => ?_⟩
  refine setQ_ hmb (by rw [List.length_map, hrl]; exact lid_of (by walk_at "o")) (nn j) (by rw [List.length_map, hrl]; exact hj) ?_
  rw [show (List.map Val.int (t.getD i [])).set (j : Int).toNat (.int x) = ((t.getD i []).set j x).map .int from List.map_set.symm]
  refine hK _ (E.over hb0) (hown _) (H.set (by rw [List.length_set]; exact hrl) fun y hy => ?_)
  rcases List.mem_or_eq_of_mem_set hy with q | rfl
  · exact H.wor _ (getDL_mem hit) y q
  · exact hx

end

section
variable {C : CallT} {G : String → Option Val} {Q : Val → Mem → Prop} {X : Nat → Mem → Prop} {m : Mem} {n : Nat} {t u f : List (List Int)} {k N : Nat} {v w : Val} {loc : Loc} {R : Flow → Loc → Mem → Prop} {Y : Nat → Loc → Mem → Prop} {ws : List Nat}
end

section
variable {C : CallT} {G : String → Option Val} {Q : Val → Mem → Prop} {X : Nat → Mem → Prop} {m : Mem} {n : Nat} {t u : List (List Int)} {k N : Nat} {v w : Val} {loc : Loc} {R : Flow → Loc → Mem → Prop} {Y : Nat → Loc → Mem → Prop} {ws : List Nat}

theorem around_spec {ns : List Int} (hl : ns.length < 1000) (hN : 2 ≤ N ∧ N ≤ 8) (h : ∀ v' m' t ws, Ext m m' → IsT m' v' t → Good t N N → Way ws N → (∀ i, ent t (rg ws i) (rg ws (i + 1)) > ent t (rg ws i) (rg ws i)) → Q v' m') : CN (n + 3) 79 [.frz (ns.map .int), .int (N : Nat)] Q X m := by
  (refine call_eq rfl rfl ?_; dsimp only [f_L_around, sts, loc0, List.map, List.replicate, List.cons_append, List.nil_append, List.length, Nat.reduceAdd, Nat.reduceSub])
  walk_at "ss"
  refine b1_lrange (rng8 hN.2) ?_
  refine freshL_ (by rw [range_len]; exact lid_of (by show N < 1000; walk_at "o")) fun a ha => ?_
  walk_at "ss"
  refine freshL_ (lid_of (by decide)) fun b hb => ?_
  have hab : a ≠ b := ne_of hb set_eq
  walk_at "ss"
  try dsimp only [setV]
  refine at_spec (by decide) hl ?_
  walk_at "ss"
  have hf := fm (cell ns (Int.toNat 49)) (b := (N : Int) - 1) (by walk_at "o")
  generalize hc : 2 + (cell ns (Int.toNat 49)).fmod ((N : Int) - 1) = c
  have hc2 : 2 ≤ c ∧ c ≤ N := by walk_at "o"
  refine items_range ⟨by walk_at "o", by unfold lid; walk_at "o"⟩ ?_
  refine for_inv (fun i l m' => ∃ y4, l = [some (.frz (ns.map .int)), some (.int (N : Nat)), some (.ref a), some (.ref b), y4, none, none] ∧ ∃ ls fs : List Int, m' = (m.set a (.list (ls.map .int))).set b (.list (fs.map .int)) ∧ fs.length = i ∧ (fs ++ ls).Perm ((List.range N).map fun (t : Nat) => (t : Int)))
    ⟨none, rfl, _, [], by rw [ints_range]; rfl, rfl, List.Perm.refl _⟩ (fun i x l m' hx hI P hP => ?_) fun l m' hI => ?_
  · obtain ⟨y4, rfl, ls, fs, rfl, hfl, hp⟩ := hI
    obtain ⟨hi, rfl⟩ := range_get hx
    have hlen := hp.length_eq
    simp only [List.length_append, List.length_map, List.length_range] at hlen
    have hma : ((m.set a (.list (ls.map .int))).set b (.list (fs.map .int))) a = some (.list (ls.map .int)) := by rw [set_ne hab, set_eq]
    refine bodyF_one ?_
    try dsimp only [setV]
    walk_at "ss"
    refine isL_ set_eq ?_
    walk_at "ss"
    refine isL_ hma ?_
    walk_at "ss"
    refine at_spec (by decide) hl ?_
    walk_at "ss"
    refine mixed_spec ?_
    walk_at "ss"
    refine len_ints (is := ls) ⟨a, rfl, hma⟩ (lid_of (by walk_at "o")) ?_
    have hpos : 0 < (ls.length : Int) := by walk_at "o"
    refine bin_mod ⟨by walk_at "o", by unfold tiny; walk_at "o"⟩ ?_
    walk_at "ss"
    have hj := fm ((mixed (cell ns (Int.toNat 50)) i).fdiv 7) hpos
    generalize hje : ((mixed (cell ns (Int.toNat 50)) i).fdiv 7).fmod ls.length = j at hj ⊢
    have hjl : j.toNat < ls.length := by walk_at "o"
    refine popQ_at hma (by rw [List.length_map]; exact lid_of (by walk_at "o")) (place_nat hj.1 (by rw [List.length_map]; exact hjl)) (y := .int ls[j.toNat]) (by rw [List.getElem?_map, List.getElem?_eq_getElem hjl]; rfl) ?_
    refine appQ_ (xs := fs.map .int) (by rw [set_ne (Ne.symm hab), set_eq]) (by rw [List.length_map]; exact lid_of (by walk_at "o")) ?_
    walk_at "ss"
    with_reducible refine loopQ_next (hP _ _ ?_)
    refine ⟨trivial, some (.int i), rfl, ls.eraseIdx j.toNat, fs ++ [ls[j.toNat]], ?_, by rw [List.length_append, hfl]; rfl, ?_⟩
    · rw [set_comm (Ne.symm hab), set_set, set_set, List.map_append]
      congr 2
      rw [erase_map]
    · refine List.Perm.trans ?_ hp
      rw [List.append_assoc]
      exact List.Perm.append_left _ (erase_perm hjl)
  obtain ⟨y4, rfl, ls, fs, rfl, hfl, hp⟩ := hI
  rw [range_len] at hfl
  obtain ⟨e, h1, h2⟩ := zs_back hp
  have W : Way (fs.map Int.toNat) N := ⟨by rw [List.length_map]; walk_at "o", h1, h2⟩
  generalize fs.map Int.toNat = ws at e W
  subst e
  have E0 : Ext m ((m.set a (.list (ls.map .int))).set b (.list ((zs ws).map .int))) := (Ext.set ha).trans (Ext.set (by rw [set_ne (Ne.symm hab)]; rw [set_ne (Ne.symm hab)] at hb; exact hb))
  have hw : IsI ((m.set a (.list (ls.map .int))).set b (.list ((zs ws).map .int))) (.ref b) (zs ws) := IsL.new
  generalize (m.set a (.list (ls.map .int))).set b (.list ((zs ws).map .int)) = m0 at E0 hw
  have h2 := W.two
  have h40 : N ≤ 40 := by walk_at "o"
  walk_at "ss"
  refine table_own hl ⟨nn N, by walk_at "o"⟩ ⟨nn N, by walk_at "o"⟩ fun v m1 E1 o1 => ?_
  walk_at "ss"
  try dsimp only [setV]
  refine len_way (hw.ext E1) W hN.2 ?_
  refine items_range (rng8 (Nat.le_trans W.len hN.2)) ?_
  refine for_inv (fun i l m' => ∃ y4 y6 t, l = [some (.frz (ns.map .int)), some (.int (N : Nat)), some (.ref a), some (.ref b), y4, some v, y6] ∧ Ext m0 m' ∧ Own m0 m' v t ∧ Good t N N ∧ Put t ws i) ⟨_, none, _, rfl, E1, o1, Good.of ns ⟨by walk_at "o", hN.2⟩ h40, fun j hj => absurd hj (Nat.not_lt_zero j)⟩ (fun i x l m' hx hI P hP => ?_) fun l m' hI => ?_
  · obtain ⟨y4, y6, t, rfl, E, o, H, hPut⟩ := hI
    obtain ⟨hi, rfl⟩ := range_get hx
    have hi : i < ws.length := hi
    have hwE := hw.ext E
    have htl : t.length < 1000 := by rw [H.len]; walk_at "o"
    refine bodyF_one ?_
    try dsimp only [setV]
    walk_at "ss"
    have hp := rg_lt W (i + (ws.length - 1))
    have hq := rg_lt W i
    have hpt : rg ws (i + (ws.length - 1)) < t.length := by rw [H.len]; exact hp
    have hrl := H.row _ (getDL_mem hpt)
    refine way_prev W hN.2 hwE hi ?_
    refine sub_ll o.isT (nn _) (x := t.getD (rg ws (i + (ws.length - 1))) []) (getDL hpt) (lid_of htl) fun y hy => ?_
    walk_at "ss"
    refine way_prev W hN.2 hwE hi ?_
    have hget := getD_some (r := t.getD (rg ws (i + (ws.length - 1))) []) (k := rg ws (i + (ws.length - 1))) (by rw [hrl]; exact hp)
    refine sub_ints hy (nn _) hget (lid_of (by rw [hrl]; walk_at "o")) ?_
    have hx0 := H.wor _ (getDL_mem hpt) _ (List.mem_of_getElem? hget)
    walk_at "ss"
    try dsimp only [setV]
    generalize (t.getD (rg ws (i + (ws.length - 1))) []).getD (rg ws (i + (ws.length - 1))) 0 = x0 at hx0
    have ha0 : 0 ≤ mmV false x0 999000 ∧ mmV false x0 999000 ≤ 999000 := by
      dsimp only [mmV]
      split <;> walk_at "o"
    generalize mmV false x0 999000 = a at ha0
    refine way_prev W hN.2 hwE hi ?_
    obtain ⟨b1, hsub1, hset1⟩ := o.cell E H hN.2 h40 hp hp (x := a) ⟨ha0.1, by walk_at "o"⟩
    refine hsub1 _ ?_
    walk_at "ss"
    refine way_prev W hN.2 hwE hi ?_
    refine hset1 _ fun m2 E2 o2 H2 => ?_
    walk_at "ss"
    refine at_spec (by decide) hl ?_
    walk_at "ss"
    have hc := fm (cell ns (Int.toNat 51)) (b := 999) (by decide)
    generalize (cell ns (Int.toNat 51)).fmod 999 = c at hc
    refine way_prev W hN.2 (hw.ext E2) hi ?_
    obtain ⟨b2, hsub2, hset2⟩ := o2.cell E2 H2 hN.2 h40 hp hq (x := a + 1 + c) ⟨by walk_at "o", by walk_at "o"⟩
    refine hsub2 _ ?_
    walk_at "ss"
    refine way_at W hN.2 (hw.ext E2) hi ?_
    refine hset2 _ fun m3 E3 o3 H3 => ?_
    walk_at "ss"
    with_reducible refine loopQ_next (hP _ _ ?_)
    have hP2 := hPut.next W H hi (a := a) (b := a + 1 + c) (by walk_at "o")
    rw [getDset hpt, if_pos rfl, List.set_set] at o3 H3
    exact ⟨trivial, _, _, _, rfl, E3, o3, H3, hP2⟩
  · obtain ⟨y4, y6, t, rfl, E, o, H, hPut⟩ := hI
    rw [range_len] at hPut
    walk_at "ss"
    exact h _ _ t ws (E0.trans E) o.isT H W (hPut.all W)
end

section ahead
variable {t held : List (List Int)} {k : Nat} {x : Int}
noncomputable def aheadOf (x : Int) (held : List (List Int)) : List (List Int) := held.map fun s => s.filter fun y => decide (y ≠ x)
theorem ahead_flat : (aheadOf x held).flatten = held.flatten.filter fun y => decide (y ≠ x) := by unfold aheadOf; rw [List.filter_flatten]
theorem ahead_not : x ∉ (aheadOf x held).flatten := fun q => by
  rw [ahead_flat, List.mem_filter] at q
  exact of_decide_eq_true q.2 rfl
theorem Ok.ahead (O : Ok t held k) : Ok t (aheadOf x held) k := by
  have mem : ∀ s ∈ aheadOf x held, ∃ s' ∈ held, s = s'.filter fun y => decide (y ≠ x) := fun s hs => by
    obtain ⟨s', h1, h2⟩ := List.mem_map.mp hs
    exact ⟨s', h1, h2.symm⟩
  refine ⟨O.tab, O.row, O.k40, by unfold aheadOf; rw [List.length_map]; exact O.len, fun s hs => ?_, List.all_eq_true.mpr fun s hs => ?_, by rw [ahead_flat]; exact O.nd.sublist (List.filter_sublist)⟩
  · obtain ⟨s', h1, rfl⟩ := mem s hs
    exact Nat.le_trans (List.length_filter_le _ _) (O.fit s' h1)
  · obtain ⟨s', h1, rfl⟩ := mem s hs
    have := O.share h1
    simp only [shareOk, thingsOk, Bool.and_eq_true, List.all_eq_true, decide_eq_true_eq] at this ⊢
    exact ⟨⟨fun y hy => this.1.1 y (List.mem_filter.mp hy).1, this.1.2.sublist List.filter_sublist⟩, this.2.sublist List.filter_sublist⟩
end ahead

section
variable {C : CallT} {G : String → Option Val} {Q : Val → Mem → Prop} {X : Nat → Mem → Prop} {m : Mem} {n : Nat} {t u : List (List Int)} {k N : Nat} {v w z : Val} {loc : Loc} {R : Flow → Loc → Mem → Prop} {Y : Nat → Loc → Mem → Prop} {x : Int} {ns : List Int}
theorem two_reads {ts : List (List (List Int))} (h : IsLL IsT m v ts) : Reads m (.list (ts.map dTab)) v := IsLL.reads (fun _ _ => IsT.reads) h
theorem okN_two (ts : List (List (List Int))) : okN 8 (.list (ts.map dTab)) = true := by
  show (ts.map dTab).all (okN 7) = true
  rw [List.all_eq_true]
  intro d hd
  obtain ⟨y, _, rfl⟩ := List.mem_map.mp hd
  exact okN_tab y
theorem cmp_neTs {P : Bool → Mem → Prop} {ts : List (List (List Int))} (hv : IsLL IsT m v ts) (hw : IsLL IsT m w ts) (h : P false m) : wpCmp .ne v w P m := by
  show eqW v w (fun r => P (!r) m) m
  refine eqW_of (two_reads hv) (two_reads hw) (okN_two ts) (okN_two ts) ?_ ⟨_, hv.choose_spec.1.choose_spec.1⟩
  have : Dat.beq (.list (ts.map dTab)) (.list (ts.map dTab)) = true := by
    show Dat.beqs (ts.map dTab) (ts.map dTab) = true
    rw [beqs_map beq_tab]
    exact decide_eq_true rfl
  rw [this]
  exact h
theorem two_list {c : Addr} (hc : m c = some (.list [v, w])) (hv : IsT m v t) (hw : IsT m w u) : IsLL IsT m (.ref c) [t, u] := ⟨_, ⟨c, rfl, hc⟩, .cons hv (.cons hw .nil)⟩
theorem copy_spec {v : Val} {t : List (List Int)} (hv : IsT m v t) (hl : t.length < 1000) (hr : ∀ r ∈ t, r.length < 1000) (hQ : ∀ v m', Ext m m' → IsT m' v t → Q v m') : CN (n + 1) 18 [v] Q X m := copy_own hv hl hr fun v m' E o => hQ v m' E o.isT
theorem law_tail {y0 y1 y2 : Option Val} (O : Ok t u k) (hx : 0 ≤ x ∧ x.toNat < k) (hn : x ∉ u.flatten) (hfl : u.flatten.length < 60) (hv : IsT m v t) (hw : IsT m w u) (h : ∀ m', Q (.bool true) m') :
    wpSs (CN (n + 7)) (globOf GS) (Sts.drop 3 f_law_9.body) (retQ Q) (fun c _ m' => X c m') [y0, y1, y2, some v, some w, some (.int x), none, none, none, none, none, none] m := by
  have hul := O.ul
  dsimp only [f_law_9, sts, Sts.drop]
  walk_at "ss"
  refine copy_spec hv O.tl (fun r hr => O.rl hr) fun vA m1 E1 hA => ?_
  walk_at "ss"
  refine copy_spec (hw.ext E1) hul (fun s hs => sl1 (O.sl hs)) fun vB m2 E2 hB => ?_
  walk_at "ss"
  refine freshL_x (lid_of (show 2 < 1000 by decide)) fun c m3 hc E3 he => ?_
  walk_at "ss"
  try dsimp only [setV]
  refine items_range (by unfold lid; decide) ?_
  have E03 := (E1.trans E2).trans E3
  have hA3 := hA.ext (E2.trans E3)
  have hB3 := hB.ext E3
  refine for_inv (fun i l m' => ∃ y, l = [y0, y1, y2, some v, some w, some (.int x), some (.ref c), y, none, none, none, none] ∧ Ext m3 m') ⟨none, rfl, .refl⟩ (fun i y l m' hy hI P hP => ?_) fun l m' hI => ?_
  · obtain ⟨y, rfl, E⟩ := hI
    refine bodyF_one ?_
    try dsimp only [setV]
    walk_at "ss"
    refine subW_ (xs := [vA, vB]) (IsL.seq ⟨c, rfl, E _ _ he⟩) rfl rfl (lid_of (show 2 < 1000 by decide)) ?_
    walk_at "ss"
    refine subW_ (xs := [vA, vB]) (IsL.seq ⟨c, rfl, E _ _ he⟩) rfl rfl (lid_of (show 2 < 1000 by decide)) ?_
    walk_at "ss"
    refine good_spec O hx hn hfl (hA3.ext E) (hB3.ext E) fun m4 E4 => ?_
    walk_at "ss"
    refine freshL_x (lid_of (show 2 < 1000 by decide)) fun c5 m5 hc5 E5 he5 => ?_
    have E35 := (E.trans E4).trans E5
    have E05 := E03.trans E35
    refine cmp_neTs (two_list (E35 _ _ he) (hA3.ext E35) (hB3.ext E35)) (two_list he5 (hv.ext E05) (hw.ext E05)) ?_
    walk_at "ss"
    with_reducible refine loopQ_next (hP _ _ ?_)
    exact ⟨trivial, _, rfl, E35⟩
  · obtain ⟨y, rfl, E⟩ := hI
    walk_at "ss"
    exact h _
noncomputable def ones (N : Nat) : List (List Int) := (List.range N).map fun (j : Nat) => [(j : Int)]
theorem ones_flat (N : Nat) : (ones N).flatten = zs (List.range N) := by
  unfold ones zs
  induction List.range N with
  | nil => rfl
  | cons y r ih => rw [List.map_cons, List.flatten_cons, ih]; rfl
theorem ones_ok {t3 : List (List Int)} (H : Good t3 N N) (hN : 2 ≤ N ∧ N ≤ 8) {c0 : Int} (hc : 0 ≤ c0 ∧ c0 ≤ 1000000) : Ok ((List.range N).map fun j => t3.getD j [] ++ [c0]) (ones N) (N + 1) := by
  have hl : ((List.range N).map fun j => t3.getD j [] ++ [c0]).length = N := by rw [List.length_map, List.length_range]
  have mem : ∀ r ∈ (List.range N).map fun j => t3.getD j [] ++ [c0], ∃ r0 ∈ t3, r = r0 ++ [c0] := fun r hr => by
    obtain ⟨j, hj, rfl⟩ := List.mem_map.mp hr
    exact ⟨_, getDL_mem (by rw [H.len]; exact List.mem_range.mp hj), rfl⟩
  have G : Good ((List.range N).map fun j => t3.getD j [] ++ [c0]) N (N + 1) := by
    refine ⟨hl, fun r hr => ?_, fun r hr y hy => ?_⟩
    · obtain ⟨r0, h0, rfl⟩ := mem r hr
      rw [List.length_append, H.row r0 h0]; rfl
    · obtain ⟨r0, h0, rfl⟩ := mem r hr
      rcases List.mem_append.mp hy with q | q
      · exact H.wor r0 h0 y q
      · rw [List.mem_singleton.mp q]; exact hc
  have mem2 : ∀ s ∈ ones N, ∃ j, j < N ∧ s = [(j : Int)] := fun s hs => by
    obtain ⟨j, hj, rfl⟩ := List.mem_map.mp hs
    exact ⟨j, List.mem_range.mp hj, rfl⟩
  refine ⟨G.tab ⟨by walk_at "o", hN.2⟩ (by walk_at "o"), G.row, by walk_at "o", by rw [hl]; unfold ones; rw [List.length_map, List.length_range], fun s hs => ?_, List.all_eq_true.mpr fun s hs => ?_, ?_⟩
  · obtain ⟨j, _, rfl⟩ := mem2 s hs
    show 1 ≤ _; walk_at "o"
  · obtain ⟨j, hj, rfl⟩ := mem2 s hs
    simp only [shareOk, thingsOk, Bool.and_eq_true, List.all_eq_true, decide_eq_true_eq]
    refine ⟨⟨fun y hy => ?_, List.nodup_cons.mpr ⟨List.not_mem_nil, List.nodup_nil⟩⟩, List.pairwise_singleton _ _⟩
    rw [List.mem_singleton.mp hy]
    walk_at "o"
  · rw [ones_flat]; exact zs_nd N
theorem shares_ok (ns : List Int) {N K : Nat} (hN : 1 ≤ N ∧ N ≤ 8) (hK : K ≤ 40) : Ok (tabOf ns (N : Nat) (K : Nat)) (sharesOf ns (N : Nat) (K : Nat)) K := by
  have Gd := Good.of ns hN hK
  obtain ⟨s1, s2, s3⟩ := sharesOf_ok ns (N : Nat) (K : Nat)
  refine ⟨Gd.tab hN hK, Gd.row, hK, ?_, s1, s2, s3⟩
  rw [Gd.len]
  unfold sharesOf
  rw [List.length_map, List.length_range]; rfl
theorem flat_le (O : Ok t u k) : u.flatten.length ≤ k := by
  have := int_sub_len O.nd (l' := (List.range k).map fun (i : Nat) => (i : Int)) fun y hy => by
    obtain ⟨s, hs, hq⟩ := List.mem_flatten.mp hy
    obtain ⟨h0, h1⟩ := O.thing hs y hq
    exact List.mem_map.mpr ⟨y.toNat, List.mem_range.mpr h1, Int.toNat_of_nonneg h0⟩
  rw [List.length_map, List.length_range] at this
  exact this
theorem law09 (hl : ns.length ≤ 63) (h : ∀ m', Q (.bool true) m') : CN (n + 8) 100 [.frz (ns.map .int)] Q X m := by
  have hl' : ns.length < 1000 := by walk_at "o"
  have hN0 := heirsOf_in (cell ns 0)
  obtain ⟨N, eN⟩ : ∃ N : Nat, heirsOf (cell ns 0) = (N : Int) := ⟨_, (Int.toNat_of_nonneg (by walk_at "o")).symm⟩
  have hN : 1 ≤ N ∧ N ≤ 8 := by walk_at "o"
  have hK0 := thingsOf_in (cell ns 1)
  obtain ⟨K, eK⟩ : ∃ K : Nat, 1 + thingsOf (cell ns 1) = (K : Int) := ⟨_, (Int.toNat_of_nonneg (by walk_at "o")).symm⟩
  have hK : 1 ≤ K ∧ K ≤ 15 := by walk_at "o"
  refine call_eq rfl rfl ?_
  have T := fun (m : Mem) (t u : List (List Int)) (k : Nat) (v w : Val) (x : Int) (O : Ok t u k) hx hn hfl hv hw => law_tail (m := m) (n := n) (X := X) (v := v) (w := w) (x := x) (y0 := some (.frz (ns.map .int))) (y1 := some (.int (N : Nat))) (y2 := some (.int (K : Nat))) O hx hn hfl hv hw h
  show wpSs _ _ (.cons _ (.cons _ (.cons _ (Sts.drop 3 f_law_9.body)))) _ _ _ _
  generalize Sts.drop 3 f_law_9.body = rest at T ⊢
  dsimp only [loc0, List.map, List.replicate, List.cons_append, List.nil_append, List.length, Nat.reduceAdd, Nat.reduceSub, f_law_9]
  refine s_cons (s_asg ?_)
  walk_at "ss"
  refine at_spec (by decide) hl' ?_
  walk_at "ss"
  refine heirs_spec ?_
  walk_at "ss"
  try dsimp only [setV]
  rw [show heirsOf (cell ns (0 : Int).toNat) = (N : Int) from eN]
  refine at_spec (by decide) hl' ?_
  walk_at "ss"
  refine things_spec ?_
  walk_at "ss"
  try dsimp only [setV]
  rw [show (1 : Int) + thingsOf (cell ns (1 : Int).toNat) = (K : Int) from eK]
  refine at_spec (by decide) hl' ?_
  walk_at "ss"
  have B : wpSs (CN (n + 7)) (globOf GS) (sts [
      .asg 3 (.call 15 (.cons (.nm 0) (.cons (.nm 1) (.cons (.nm 2) .nil)))),
      .asg 4 (.call 16 (.cons (.nm 0) (.cons (.nm 1) (.cons (.nm 2) .nil)))),
      .asg 5 (.bin .mod (.call 10 (.cons (.nm 0) (.cons (.int 53) .nil))) (.nm 2)),
      .asg 4 (.comp (.comp (.nm 11) (.one 11) .plain (.nm 10) (.cons (.cmp .ne (.nm 11) (.nm 5)) .nil)) (.one 10) .plain (.nm 4) .nil)]) (seqQ (fun l m1 => wpSs (CN (n + 7)) (globOf GS) rest (retQ Q) (fun c _ m' => X c m') l m1) (retQ Q)) (fun c _ m' => X c m') [some (.frz (ns.map .int)), some (.int (N : Nat)), some (.int (K : Nat)), none, none, none, none, none, none, none, none, none] m := by
    dsimp only [sts]
    walk_at "ss"
    refine table_own hl' ⟨by walk_at "o", by walk_at "o"⟩ ⟨by walk_at "o", by walk_at "o"⟩ fun vT m1 E1 oT => ?_
    have hT := oT.isT
    clear oT
    walk_at "ss"
    try dsimp only [setV]
    refine shares_spec hl' ⟨by walk_at "o", by walk_at "o"⟩ ⟨by walk_at "o", by walk_at "o"⟩ fun vS m2 E2 hS => ?_
    walk_at "ss"
    try dsimp only [setV]
    refine at_spec (by decide) hl' ?_
    have hf := fm (cell ns (53 : Int).toNat) (b := (K : Int)) (by walk_at "o")
    walk_at "ss"
    try dsimp only [setV]
    generalize (cell ns (53 : Int).toNat).fmod (K : Int) = x at hf ⊢
    have O := shares_ok ns (N := N) (K := K) hN (by walk_at "o")
    obtain ⟨xs, e1, e2⟩ := id hS
    refine items_list e1.seq (by rw [e2.length]; exact lid_of O.ul) ?_
    refine comp_own (fun j => ((sharesOf ns (N : Nat) (K : Nat)).getD j []).filter fun y => decide (y ≠ x)) (by rw [e2.length]; exact O.ul) (fun m' E => e1.stands (e1.ext E)) (fun j y m' hy E P hP => ?_) fun vA m3 E3 oA => ?_
    · obtain ⟨s, hs, hys⟩ := e2.get hy
      have hsl := O.sl (List.mem_of_getElem? hs)
      have hjs : (sharesOf ns (N : Nat) (K : Nat)).getD j [] = s := by rw [List.getD_eq_getElem?_getD, hs]; rfl
      replace hys := hys.ext E
      walk_at "ss"
      refine items_list hys.seq (by rw [List.length_map]; exact lid_of (sl1 hsl)) ?_
      refine comp_filter (g := fun y => y) (c := fun y => match y with | .int y => decide (y ≠ x) | _ => false) (IsL.stands (k := .plain) hys hys) (fun y hy P hP => ?_) (fun y hy P hP => ?_) ?_
      · obtain ⟨y, _, rfl⟩ := List.mem_map.mp hy
        walk_at "ss"
        exact hP
      · obtain ⟨y, _, rfl⟩ := List.mem_map.mp hy
        walk_at "ss"
        exact hP
      rw [ints_filter s (fun y => decide (y ≠ x)) _ fun y _ => rfl]
      refine freshL_ (by rw [List.length_map]; exact lid_of (Nat.lt_of_le_of_lt (List.length_filter_le _ _) (sl1 hsl))) fun c hc => ?_
      have := hP c m' .refl hc
      rw [hjs] at this
      exact this
    have hA : (List.range xs.length).map (fun j => ((sharesOf ns (N : Nat) (K : Nat)).getD j []).filter fun y => decide (y ≠ x)) = aheadOf x (sharesOf ns (N : Nat) (K : Nat)) := by
      unfold aheadOf
      rw [e2.length]
      conv => rhs; rw [← map_getD (sharesOf ns (N : Nat) (K : Nat)), List.map_map]
      rfl
    rw [hA] at oA
    have OA : Ok (tabOf ns (N : Nat) (K : Nat)) (aheadOf x (sharesOf ns (N : Nat) (K : Nat))) K := O.ahead
    walk_at "ss"
    try dsimp only [setV]
    exact T m3 _ _ K vT vA x OA ⟨hf.1, by walk_at "o"⟩ ahead_not (by have := flat_le OA; walk_at "o") (hT.ext (E2.trans E3)) oA.isT
  with_reducible refine bsQ_dec (fun q1 => ?_) (fun q1 => ?_)
  rotate_left
  · rw [q1]
    exact asB_ (ifQ_false B)
  walk_at "ss"
  with_reducible refine ifQ_dec (fun q => ?_) (fun q => ?_)
  rotate_left
  · exact B
  clear B
  have q : (N : Int) > 1 := of_decide_eq_true q
  have hN2 : 2 ≤ N ∧ N ≤ 8 := by walk_at "o"
  try dsimp only [sts]
  walk_at "ss"
  refine around_spec hl' hN2 fun v3 m3 t3 ws E3 hv3 H W hput => ?_
  have hc0 := fm_le (cell ns (52 : Int).toNat) (b := 1000001) (c := 1000000) (by decide) (by decide)
  obtain ⟨xs, e1, e2⟩ := id hv3
  have hxl : xs.length = N := by rw [e2.length, H.len]
  refine items_list e1.seq (by rw [hxl]; exact lid_of (by walk_at "o")) ?_
  refine comp_own (fun j => t3.getD j [] ++ [(cell ns (52 : Int).toNat).fmod 1000001]) (by rw [hxl]; walk_at "o") (fun m' E => e1.stands (e1.ext E)) (fun j y m' hy E P hP => ?_) fun v4 m4 E4 o4 => ?_
  · obtain ⟨s, hs, hys⟩ := e2.get hy
    have hjs : t3.getD j [] = s := by rw [List.getD_eq_getElem?_getD, hs]; rfl
    have hsl : s.length = N := H.row s (List.mem_of_getElem? hs)
    walk_at "ss"
    refine at_spec (by decide) hl' ?_
    walk_at "ss"
    refine freshL_ (lid_of (show 1 < 1000 by decide)) fun d hd => ?_
    have Ed := Ext.set (o := .list [Val.int ((cell ns (52 : Int).toNat).fmod 1000001)]) hd
    obtain ⟨b, rfl, hb⟩ := hys.ext E
    refine bin_addL (IsL.lst ⟨b, rfl, Ed _ _ hb⟩) (IsL.lst ⟨d, rfl, set_eq⟩) ?_
    rw [show s.map Val.int ++ [.int ((cell ns (52 : Int).toNat).fmod 1000001)] = (s ++ [(cell ns (52 : Int).toNat).fmod 1000001]).map .int by rw [List.map_append]; rfl]
    refine freshL_ (by rw [List.length_map, List.length_append, hsl]; exact lid_of (by show N + 1 < 1000; walk_at "o")) fun c2 hc2 => ?_
    have := hP c2 _ Ed hc2
    rw [hjs] at this
    exact this
  rw [hxl] at o4
  walk_at "ss"
  try dsimp only [setV]
  refine items_range (rng8 hN.2) ?_
  refine comp_own (fun j => [(j : Int)]) (by rw [range_len]; show N < 1000; walk_at "o") (fun _ _ => trivial) (fun j y m' hy E P hP => ?_) fun v5 m5 E5 o5 => ?_
  · obtain ⟨hj, rfl⟩ := range_get hy
    walk_at "ss"
    exact freshL_ (lid_of (show 1 < 1000 by decide)) fun c hc => hP c m' .refl hc
  rw [range_len] at o5
  have o5 : Own m4 m5 v5 (ones N) := o5
  have OO := ones_ok H hN2 hc0
  walk_at "ss"
  try dsimp only [setV]
  refine T m5 _ _ (N + 1) v4 v5 (N : Int) OO ⟨nn _, by rw [Int.toNat_natCast]; walk_at "o"⟩ ?_ (by have := flat_le OO; walk_at "o") (o4.isT.ext E5) o5.isT
  rw [ones_flat]
  intro q
  obtain ⟨j, hj, e⟩ := List.mem_map.mp q
  have := List.mem_range.mp hj
  walk_at "o"
end

end TD
open PySem PySem.W PyProof.Rows
namespace TD
theorem law_good {c : ClaimW} {cl : Str → Option Addr} {mean : ExcName → Option Value} {args : List WData} {s₁ s' : Shared} (h1 : ∀ cls, c.raises args cls = false) (h2 : c.post args (.bool true) args = true)
    (k : s₁.heap.StaysIn s'.heap) (hg : s'.gens = #[]) (ho : s'.os = s₁.os) : GoodWG c cl mean args s₁ (.ok (.ret (.bool true))) s' := by
  exact GoodW.toG ⟨.inl ⟨_, .bool true, [], rfl, h1, .bool true, h2, fun _ => ⟨List.nodup_nil, fun _ h => nomatch h⟩⟩, k, ho, hg⟩
end TD
open TD
theorem PySem.Challenge.cw_uf020018_09_holds : PySem.Challenge.rw_uf020018_09.Holds := by
  w_on; refine holds_law law_said fun said => ?_
  refine open_head head_run hd1 hd2 hd3 (by kernel_rfl) (by assumption) hd4 ⟨rfl, rfl, rfl, rfl, rfl, by decide +kernel⟩ ?hw fun d kwd hdn => ?_
  case hw => w_witness2
  intro w s₀ s₁ mg mb G Y fa o pm cd doc dV kV ho hd hcd hD hmg hg args vals as hpre hlay hrd hwl hlo
  refine Ground.open G ?_
  intro T B D TE TW
  clear D TW B TE
  wrow_args hpre hlay hrd hwl hlo
  rename_i ns _ _ _ _ _ _ a vs _ hL _ _ _ hI _ hc _
  refine law_run (FT := FT) (ids := ids09) (gs := GS) (f := 100) (n := 8) (fn := f_law_9) T hg bi_ok (by kernel_rfl) (defs_of (W := ⟨_, _, _, _, _, _, _⟩) T ids_ok) (by walk_at "o") (by decide) rfl ((congrArg mg hdn).symm.trans hmg) hL hI ?_ ?_
  · refine law09 (n := 0) ?_ fun m' => rfl
    walk_at "o"
  · intro s' k hg' ho'
    clear Y hd hcd hD hmg T G
    refine law_good (fun _ => rfl) ?_ k hg' ho'
    wrow_post
