/- The statement TopPicked holds for every input that its row lets in. Conditions: none. -/
import Derived.RangeFuncRecord
import Derived.RangeFuncCalls
import Derived.Below
import Derived.Laws.Cells
import Derived.Laws.StructEq
import Derived.ChangeKeysEq
import Derived.Laws.Cover3
import Derived.Laws.Append
import Derived.Laws.MakeOwn
import Derived.Laws.AppendOwn
import GoSem.Instr.Lookup
import GoSem.Instr.MapUpdate
import GoSem.Instr.MakeSlice
import Derived.Laws.CopyRow
set_option linter.all false
namespace Go.AM
open Go
inductive Cap where
 | nil | ex | ro
 deriving DecidableEq
inductive D where
 | b (x : Bool)
 | i (k : IntKind) (n : Int)
 | s (x : ByteArray)
 | nilf
 | nilm
 | fn (f : Nat) (fst cap : List D)
 | pin (cs : List D)
 | sl (es : List (List D)) (c : Cap)
 | mp (es : List (D × D))
 | agg (cs : List D)
 | tup (ds : List D)
inductive X where
 | un
 | d (x : D)
 | ptr (l s o : Nat)
 | row (l s n : Nat)
 | rp (l s n i o : Nat)
 | map (l s : Nat)
 | fn (f : Nat) (fst cap : List X)
 | yld (k : Nat)
 | agg (cs : List X)
 | tup (cs : List X)
inductive O where
 | cells (cs : List X)
 | row (z : Nat) (es : List (List D)) (w : Bool)
 | nrow
 | map (es : List (D × D))
abbrev TM := List (Nat × X)
abbrev Fr := List (Nat × O)
def aget {α : Type} (k : Nat) : List (Nat × α) → Option α
 | [] => none
 | p :: t => if p.1 = k then some p.2 else aget k t
def aset {α : Type} (k : Nat) (v : α) : List (Nat × α) → List (Nat × α)
 | [] => [(k, v)]
 | p :: t => if p.1 = k then (k, v) :: t else p :: aset k v t
def tget (tm : TM) (t : Nat) : X := (aget t tm).getD .un
def tput (tm : TM) (d : Option Nat) (x : X) : TM :=
 match d with
 | some t => aset t x tm
 | none => tm
structure FS where
 fr : Fr
 lo : List Fr
abbrev Get := Nat → Nat → Option O
def FS.lv (fs : FS) : Nat := fs.lo.length
def FS.get (fs : FS) (l s : Nat) : Option O := if l = fs.lo.length then aget s fs.fr else (fs.lo[l]?).bind (aget s)
def FS.set (fs : FS) (l s : Nat) (o : O) : FS := if l = fs.lo.length then { fs with fr := aset s o fs.fr } else { fs with lo := fs.lo.modify l (aset s o) }
inductive Ex where
 | nor | exit (id : Nat) | ret
 deriving DecidableEq
inductive LSt where
 | rdy | busy | done (e : Ex)
 deriving DecidableEq
structure LRec where
 tm : TM
 lv : Nat
 ps : Array Nat
 assign : Code
 body : Code
 fid : Nat
 st : LSt
structure St where
 tm : TM
 fs : FS
 lp : List LRec
structure zub where
 id : Nat
 sp : List Nat
 soft : List (Nat × Nat)
 forb : List (Nat × List Nat)
structure Hint where
 keep : Option (List Nat)
 rowVars : List Nat
 rowStores : List Nat
 rowCells : List (Nat × Nat)
 rowSites : List Nat
 draws : List zub
def Hint.nil : Hint := ⟨none, [], [], [], [], []⟩
structure Env where
 P : Program
 G : Nat → Option (List D)
 H : Nat → Hint
 F : List Nat
def szT (P : Program) (T : TypeId) : Option Nat := (P.info? T).map (·.size)
def agT (P : Program) (T : TypeId) : Option Bool := (P.underlying T).map fun
 | .struct _ => true
 | .array _ _ => true
 | _ => false
def tyT (P : Program) (T : TypeId) : Option (Nat × Bool) :=
 match szT P T, agT P T with
 | some n, some a => some (n, a)
 | _, _ => none
def fdT (P : Program) (T : TypeId) (i : Nat) : Option (Nat × Nat × Bool) :=
 match P.underlying T with
 | some (.struct fs) => (fs[i]?).bind fun f => (tyT P f.type).map fun p => (f.offset, p.1, p.2)
 | _ => none
def arT (P : Program) (T : TypeId) : Option (Nat × Nat × Bool) :=
 match P.underlying T with
 | some (.array len e) => (tyT P e).map fun p => (len, p.1, p.2)
 | _ => none
def slT (P : Program) (T : TypeId) : Option (Nat × Nat) :=
 match P.underlying T with
 | some (.slice e) => (P.info? e).map fun i => (i.size, i.bytes)
 | _ => none
def mpT (P : Program) (T : TypeId) : Option (TypeId × TypeId) :=
 match P.underlying T with
 | some (.map k e) => some (k, e)
 | _ => none
def cD : Value → Option D
 | .bool b => some (.b b)
 | .int k n => some (.i k n)
 | .string s => some (.s s)
 | .slice none 0 0 => some (.sl [] .nil)
 | .map none => some (.mp [])
 | .nilFunc => some .nilf
 | _ => none
def cDs : List Value → Option (List D)
 | [] => some []
 | v :: vs => match cD v, cDs vs with
  | some d, some ds => some (d :: ds)
  | _, _ => none
def zcT (P : Program) (T : TypeId) : Option (List D) :=
 match (P.info? T).bind (·.zero) with
 | some v => cDs v.cells.toList
 | none => none
def zvT (P : Program) (T : TypeId) : Option D :=
 match (P.info? T).bind (·.zero) with
 | some (.agg cs) => (cDs cs.toList).map .agg
 | some v => cD v
 | none => none
def D.sc : D → Bool
 | .agg _ => false
 | .tup _ => false
 | _ => true
def X.sc : X → Bool
 | .un => false
 | .d x => x.sc
 | .agg _ => false
 | .tup _ => false
 | _ => true
def allD : List X → Option (List D)
 | [] => some []
 | x :: t => match x, allD t with
  | .d y, some ys => some (y :: ys)
  | _, _ => none
def zur (cs : List X) : X :=
 match allD cs with
 | some ds => .d (.agg ds)
 | none => .agg cs
def zOg : X → Option (List X)
 | .d (.agg cs) => some (cs.map .d)
 | .agg cs => some cs
 | x => if x.sc then some [x] else none
def intX : X → Option Int
 | .d (.i _ n) => some n
 | _ => none
def zdc {α : Type} (cs : List α) (o : Nat) (vs : List α) : List α :=
 if o = 0 ∧ vs.length = cs.length then vs else
 match vs with
 | [v] => cs.set o v
 | _ => cs.take o ++ vs ++ cs.drop (o + vs.length)
def grab (ag : Bool) (n : Nat) (cs : List X) : Option X :=
 if ag then (if n ≤ cs.length then some (zur (cs.take n)) else none) else cs.head?
def zEg (ag : Bool) (n : Nat) (cs : List D) : Option D :=
 if ag then (if n ≤ cs.length then some (.agg (cs.take n)) else none) else cs.head?
mutual
def X.refs (l : Nat) (ss : List Nat) : X → Bool
 | .ptr l' s _ => l' = l && ss.contains s
 | .row l' s _ => l' = l && ss.contains s
 | .rp l' s _ _ _ => l' = l && ss.contains s
 | .map l' s => l' = l && ss.contains s
 | .fn _ a b => X.refsL l ss a || X.refsL l ss b
 | .agg cs => X.refsL l ss cs
 | .tup cs => X.refsL l ss cs
 | _ => false
def X.refsL (l : Nat) (ss : List Nat) : List X → Bool
 | [] => false
 | x :: t => X.refs l ss x || X.refsL l ss t
end
mutual
def X.okAt (lp : List LRec) (l : Nat) : X → Bool
 | .d _ => true
 | .un => false
 | .ptr l' _ _ => l' ≤ l
 | .row l' _ _ => l' ≤ l
 | .rp l' _ _ _ _ => l' ≤ l
 | .map l' _ => l' ≤ l
 | .fn _ a b => X.okAtL lp l a && X.okAtL lp l b
 | .yld k => match lp[k]? with
  | some r => r.lv < l
  | none => false
 | .agg cs => X.okAtL lp l cs
 | .tup cs => X.okAtL lp l cs
def X.okAtL (lp : List LRec) (l : Nat) : List X → Bool
 | [] => true
 | x :: t => X.okAt lp l x && X.okAtL lp l t
end
def O.refs (l : Nat) (ss : List Nat) : O → Bool
 | .cells cs => X.refsL l ss cs
 | _ => false
def zeb (st : St) (t : Option Nat) (s : Nat) (o : O) : Option FS :=
 match aget s st.fs.fr with
 | none => some { st.fs with fr := st.fs.fr ++ [(s, o)] }
 | some _ =>
  if st.tm.all (fun p => t == some p.1 || !X.refs st.fs.lv [s] (tget st.tm p.1)) && st.fs.fr.all (fun p => p.1 == s || !O.refs st.fs.lv [s] p.2) && !O.refs st.fs.lv [s] o
  then some { st.fs with fr := aset s o st.fs.fr } else none
def ldX (P : Program) (φ : Get) (T : TypeId) (p : X) : Option X :=
 match tyT P T with
 | none => none
 | some q =>
  match p with
  | .d (.pin cs) => (zEg q.2 q.1 cs).map .d
  | .ptr l s o => match φ l s with
   | some (.cells cs) => grab q.2 q.1 (cs.drop o)
   | _ => none
  | .rp l s k i o => match φ l s with
   | some (.row _ es _) => if es.length = k then (es[i]?).bind fun e => (zEg q.2 q.1 (e.drop o)).map .d else none
   | _ => none
  | _ => none
def stX (P : Program) (lp : List LRec) (fs : FS) (T : TypeId) (p v : X) : Option FS :=
 match szT P T, zOg v with
 | some n, some vs =>
  if vs.length = n then
   match p with
   | .ptr l s o => match fs.get l s with
    | some (.cells cs) => if o + n ≤ cs.length ∧ X.okAtL lp l vs = true then some (fs.set l s (.cells (zdc cs o vs))) else none
    | _ => none
   | .rp l s k i o => match fs.get l s with
    | some (.row z es true) => if es.length = k then (es[i]?).bind fun e => (allD vs).bind fun ds => if o + n ≤ e.length then some (fs.set l s (.row z (es.set i (zdc e o ds)) true)) else none else none
    | _ => none
   | _ => none
  else none
 | _, _ => none
def live (φ : Get) (l s k : Nat) : Bool := match φ l s with
 | some (.row _ es _) => es.length == k
 | _ => false
def zeh (φ : Get) (l s n : Nat) : Bool := match φ l s with
 | some (.row _ es _) => es.length == n
 | some .nrow => n == 0
 | _ => false
def faX (P : Program) (φ : Get) (T : TypeId) (x : X) (f : Nat) : Option X :=
 match fdT P T f with
 | none => none
 | some q =>
  if q.2.1 = 0 then none else
  match x with
  | .d (.pin cs) => some (.d (.pin (cs.drop q.1)))
  | .ptr l s o => some (.ptr l s (o + q.1))
  | .rp l s k i o => if live φ l s k then some (.rp l s k i (o + q.1)) else none
  | _ => none
def iaX (P : Program) (φ : Get) (T : TypeId) (x i : X) : Option X :=
 match intX i with
 | none => none
 | some n =>
  match arT P T with
  | some q =>
   if 0 ≤ n ∧ n < (q.1 : Int) then
    match x with
    | .d (.pin cs) => some (.d (.pin (cs.drop (n.toNat * q.2.1))))
    | .ptr l s o => some (.ptr l s (o + n.toNat * q.2.1))
    | .rp l s k j o => if live φ l s k then some (.rp l s k j (o + n.toNat * q.2.1)) else none
    | _ => none
   else none
  | none =>
   match slT P T with
   | none => none
   | some q =>
    match x with
    | .d (.sl es _) => if 0 ≤ n then (es[n.toNat]?).bind fun e => if e.length = q.1 then some (.d (.pin e)) else none else none
    | .row l s k => match φ l s with
     | some (.row z es _) => if es.length = k ∧ z = q.1 ∧ 0 ≤ n ∧ n < (k : Int) then some (.rp l s k n.toNat 0) else none
     | _ => none
    | _ => none
def zxt (P : Program) (T : TypeId) (x : X) (f : Nat) : Option X :=
 match fdT P T f with
 | none => none
 | some q =>
  match x with
  | .d (.agg cs) => (zEg q.2.2 q.2.1 (cs.drop q.1)).map .d
  | .agg cs => grab q.2.2 q.2.1 (cs.drop q.1)
  | _ => none
def z8t (P : Program) (T : TypeId) (x i : X) : Option X :=
 match intX i with
 | none => none
 | some n =>
  match x with
  | .d (.s b) => match P.underlying T with
   | some .string => if 0 ≤ n then (b[n.toNat]?).map fun c => .d (.i .u8 c.toNat) else none
   | _ => none
  | .d (.agg cs) => match arT P T with
   | some q => if 0 ≤ n ∧ n < (q.1 : Int) then (zEg q.2.2 q.2.1 (cs.drop (n.toNat * q.2.1))).map .d else none
   | none => none
  | _ => none
def zLy : D → Option Bool
 | .sl _ c => some (decide (c = .nil))
 | .nilf => some true
 | .fn _ _ _ => some false
 | .nilm => some true
 | .mp _ => some false
 | _ => none
mutual
def eqD : D → D → Option Bool
 | .b x, .b y => some (x == y)
 | .i k x, .i k' y => if k = k' then some (x == y) else none
 | .s x, .s y => some (x == y)
 | .agg xs, .agg ys => eqL xs ys
 | _, _ => none
def eqL : List D → List D → Option Bool
 | [], [] => some true
 | x :: xs, y :: ys => match eqD x y, eqL xs ys with
  | some a, some b => some (a && b)
  | _, _ => none
 | _, _ => none
end
def eqN : D → D → Option Bool
 | .sl es c, .sl [] .nil => zLy (.sl es c)
 | .nilf, .nilf => some true
 | .fn _ _ _, .nilf => some false
 | _, _ => none
def zTq (op : BinOp) (k : IntKind) (x y : Int) : Option D :=
 if y < 0 then none else
 match op with
 | .shl => some (.i k (k.wrap (x * 2 ^ (min y.toNat k.bits))))
 | .shr => some (.i k (x.fdiv (2 ^ (min y.toNat k.bits))))
 | _ => none
def zat (k : IntKind) (x y : Int) (f : BitVec k.bits → BitVec k.bits → BitVec k.bits) : D :=
 .i k (k.wrap (f (BitVec.ofInt k.bits x) (BitVec.ofInt k.bits y)).toNat)
def zwo (op : BinOp) (k : IntKind) (x y : Int) : Option D :=
 match op with
 | .add => some (.i k (k.wrap (x + y)))
 | .sub => some (.i k (k.wrap (x - y)))
 | .mul => some (.i k (k.wrap (x * y)))
 | .quo => if y = 0 then none else some (.i k (k.wrap (x.tdiv y)))
 | .rem => if y = 0 then none else some (.i k (x.tmod y))
 | .and => some (zat k x y (· &&& ·))
 | .or => some (zat k x y (· ||| ·))
 | .xor => some (zat k x y (· ^^^ ·))
 | .andNot => some (zat k x y (fun a b => a &&& ~~~b))
 | .eql => some (.b (x == y))
 | .neq => some (.b (x != y))
 | .lss => some (.b (decide (x < y)))
 | .leq => some (.b (decide (x ≤ y)))
 | .gtr => some (.b (decide (x > y)))
 | .geq => some (.b (decide (x ≥ y)))
 | _ => none
inductive Leaf where
 | b | i | s
 deriving DecidableEq
def isK : Leaf → D → Bool
 | .b, .b _ => true
 | .i, .i _ _ => true
 | .s, .s _ => true
 | _, _ => false
mutual
def zhg (P : Program) : Nat → TypeId → Option Leaf
 | 0, _ => none
 | n + 1, T => match P.underlying T with
  | some .bool => some .b
  | some (.int _) => some .i
  | some .string => some .s
  | some (.array _ e) => zhg P n e
  | some (.struct fs) => if P.stoodInHeld T then none else zEr P n fs.toList
  | _ => none
def zEr (P : Program) : Nat → List Field → Option Leaf
 | 0, _ => none
 | _ + 1, [] => none
 | n + 1, f :: t => if f.name = "_" then none else
  match t, zhg P n f.type with
  | [], r => r
  | _ :: _, some k => if zEr P n t = some k then some k else none
  | _ :: _, none => none
end
def cvF (P : Program) : List Field → Nat → Option Nat
 | [], o => some o
 | f :: t, o => match szT P f.type with
  | some z => if f.offset = o then cvF P t (o + z) else none
  | none => none
def cvT (P : Program) : Nat → TypeId → Bool
 | 0, _ => false
 | n + 1, T => match P.underlying T with
  | some (.array len e) => (szT P e).isSome && szT P T == (szT P e).map (len * ·) && cvT P n e
  | some (.struct fs) => cvF P fs.toList 0 == szT P T && fs.toList.all fun f => cvT P n f.type
  | some _ => szT P T == some 1
  | none => false
def flT (P : Program) (T : TypeId) : Option Leaf := if cvT P 30 T then zhg P 30 T else none
def z0q (P : Program) (T : TypeId) (p q : D) : Option Bool :=
 match P.underlying T with
 | some (.slice _) => (match p with | .sl es c => eqN (.sl es c) q | _ => none)
 | some (.func _ _ _) => (match p with | .nilf => eqN .nilf q | .fn f a b => eqN (.fn f a b) q | _ => none)
 | some (.map _ _) => (match p with | .nilm => eqN .nilm q | .mp es => eqN (.mp es) q | _ => none)
 | some .string => (match p, q with | .s a, .s b => some (a == b) | _, _ => none)
 | _ => none
def binX (P : Program) (op : BinOp) (T : TypeId) (x y : X) : Option X :=
 match x, y with
 | .d a, .d b =>
  match op, a, b with
  | .shl, .i k p, .i _ q => (zTq .shl k p q).map .d
  | .shr, .i k p, .i _ q => (zTq .shr k p q).map .d
  | op, .i k p, .i k' q => if k = k' then (zwo op k p q).map .d else none
  | .eql, .agg p, .agg q => match flT P T with
   | some k => if (agT P T == some true) && (szT P T == some p.length) && p.all (isK k) && q.all (isK k) then (eqL p q).map fun r => .d (.b r) else none
   | none => none
  | .neq, .agg p, .agg q => match flT P T with
   | some k => if (agT P T == some true) && (szT P T == some p.length) && p.all (isK k) && q.all (isK k) then (eqL p q).map fun r => .d (.b !r) else none
   | none => none
  | .eql, .b p, .b q => match P.underlying T with
   | some .bool => some (.d (.b (p == q)))
   | _ => none
  | .neq, .b p, .b q => match P.underlying T with
   | some .bool => some (.d (.b (!(p == q))))
   | _ => none
  | .eql, p, q => (z0q P T p q).map fun r => .d (.b r)
  | .neq, p, q => (z0q P T p q).map fun r => .d (.b !r)
  | _, _, _ => none
 | .fn _ _ _, .d .nilf => match op, P.underlying T with
  | .eql, some (.func _ _ _) => some (.d (.b false))
  | .neq, some (.func _ _ _) => some (.d (.b true))
  | _, _ => none
 | _, _ => none
def unX (op : UnOp) (x : X) : Option X :=
 match op, x with
 | .neg, .d (.i k n) => some (.d (.i k (k.wrap (0 - n))))
 | .not, .d (.b t) => some (.d (.b !t))
 | _, _ => none
def zMv (P : Program) (src dst : TypeId) (x : X) : Option X :=
 match P.underlying src, P.underlying dst, x with
 | some (.int _), some (.int k), .d (.i _ n) => some (.d (.i k (k.wrap n)))
 | some .string, some .string, .d (.s b) => some (.d (.s b))
 | _, _, _ => none
def zar (place : Nat → Option (Nat × Nat)) (cs : List X) : List (Nat × X) → Option (List X)
 | [] => some cs
 | p :: r => match place p.1, zOg p.2 with
  | some q, some vs => if vs.length = q.2 ∧ q.1 + q.2 ≤ cs.length then zar place (zdc cs q.1 vs) r else none
  | _, _ => none
def plT (P : Program) (T : TypeId) : Option (Nat → Option (Nat × Nat)) :=
 match P.underlying T with
 | some (.struct fs) => if (fs.toList.all fun f => (szT P f.type).isSome) = true then some fun i => (fs[i]?).map fun f => (f.offset, (szT P f.type).getD 0) else none
 | some (.array _ e) => (szT P e).map fun z => fun i => some (i * z, z)
 | _ => none
def zwu (P : Program) (T : TypeId) (parts : List (Nat × X)) : Option X :=
 match zcT P T, plT P T with
 | some zs, some pl => (zar pl (zs.map .d) parts).map zur
 | _, _ => none
def zXq (n : Nat) (es : List (List D)) : List (Nat × X) → Option (List (List D))
 | [] => some es
 | p :: r => match (zOg p.2).bind allD with
  | some vs => if vs.length = n ∧ p.1 < es.length then zXq n (es.set p.1 vs) r else none
  | none => none
def zeT (P : Program) (T : TypeId) : Option (List D) :=
 match P.underlying T with
 | some (.slice e) => zcT P e
 | _ => none
def okS (P : Program) (T : TypeId) : Option (Nat × List D) :=
 match slT P T, zeT P T with
 | some q, some z => if q.2 ≤ 256 ∧ 0 < q.1 ∧ z.length = q.1 then some (q.1, z) else none
 | _, _ => none
def zch (P : Program) (T : TypeId) (len : Nat) (parts : List (Nat × X)) : Option X :=
 match okS P T with
 | some q => if len * q.1 ≤ 16777216 then (zXq q.1 (List.replicate len q.2) parts).map fun es => .d (.sl es .ex) else none
 | none => none
def zfg (k : D) : List (D × D) → Option (Option D)
 | [] => some none
 | p :: t => match eqD k p.1 with
  | some true => some (some p.2)
  | some false => zfg k t
  | none => none
def setD (k v : D) : List (D × D) → Option (List (D × D))
 | [] => some [(k, v)]
 | p :: t => match eqD k p.1 with
  | some true => some ((p.1, v) :: t)
  | some false => (setD k v t).map (p :: ·)
  | none => none
def zne (P : Program) (T : TypeId) (k : D) : Bool :=
 match flT P T, k with
 | some l, .agg cs => szT P T == some cs.length && agT P T == some true && cs.all (isK l)
 | some l, d => agT P T == some false && isK l d
 | none, _ => false
def zSn (P : Program) (φ : Get) (T : TypeId) (m k : X) (ok : Bool) : Option X :=
 match mpT P T, k with
 | some q, .d kd =>
  if zne P q.1 kd then
   match zvT P q.2, (match m with
    | .d (.mp es) => some es
    | .d .nilm => some []
    | .map l s => match φ l s with
     | some (.map es) => some es
     | _ => none
    | _ => none) with
   | some z, some es => (zfg kd es).map fun r => if ok then .d (.tup [r.getD z, .b r.isSome]) else .d (r.getD z)
   | _, _ => none
  else none
 | _, _ => none
def mupX (P : Program) (fs : FS) (T : TypeId) (m k v : X) : Option FS :=
 match mpT P T, m, k, v with
 | some q, .map l s, .d kd, .d vd =>
  if zne P q.1 kd then
   match fs.get l s with
   | some (.map es) => (setD kd vd es).map fun es' => fs.set l s (.map es')
   | _ => none
  else none
 | _, _, _, _ => none
def entD (k z : D) : List (D × D) → Option (List (D × D) × D × Nat)
 | [] => some ([(k, z)], z, 0)
 | p :: t => match eqD k p.1 with
  | some true => some (p :: t, p.2, 0)
  | some false => (entD k z t).map fun r => (p :: r.1, r.2.1, r.2.2 + 1)
  | none => none
def zoh (P : Program) (fs : FS) (T : TypeId) (m k : X) : Option (X × FS) :=
 match mpT P T, m, k with
 | some q, .map l s, .d kd =>
  if zne P q.1 kd then
   match zvT P q.2, fs.get l s with
   | some z, some (.map es) => (entD kd z es).map fun r => (.d (.tup [r.2.1, .i .i64 (r.2.2 : Int)]), fs.set l s (.map r.1))
   | _, _ => none
  else none
 | _, _, _ => none
def estX (fs : FS) (m n v : X) : Option FS :=
 match m, n, v with
 | .map l s, .d (.i .i64 n), .d vd =>
  match fs.get l s with
  | some (.map es) => if 0 ≤ n then (es[n.toNat]?).map fun p => fs.set l s (.map (es.set n.toNat (p.1, vd))) else none
  | _ => none
 | _, _, _ => none
def toD (φ : Get) : X → Option D
 | .d x => some x
 | .row l s n => match φ l s with
  | some (.row _ es false) => if es.length = n then some (.sl es .ro) else none
  | some .nrow => if n = 0 then some (.sl [] .nil) else none
  | _ => none
 | _ => none
def toDs (φ : Get) : List X → Option (List D)
 | [] => some []
 | x :: t => match toD φ x, toDs φ t with
  | some d, some ds => some (d :: ds)
  | _, _ => none
def toDA (φ : Get) : X → Option D
 | .agg cs => (toDs φ cs).map .agg
 | x => toD φ x
def zkb (φ : Get) : List X → Option (List D)
 | [] => some []
 | x :: t => match zkb φ t, toDA φ x with
  | some ds, some d => some (d :: ds)
  | _, _ => none
def lend (fs : FS) : X → FS
 | .row l s _ => match fs.get l s with
  | some (.row z es true) => fs.set l s (.row z es false)
  | _ => fs
 | _ => fs
def z9 (fs : FS) : X → FS
 | .agg cs => cs.foldl lend fs
 | x => lend fs x
def asD (φ : Get) (x : X) : X := match toDA φ x with
 | some r => .d r
 | none => x
def LIM : Nat := 4398046511104
def LIMW : Nat := 549755813888
def limB (b : Nat) : Nat := if b ≤ 32 then LIM else LIMW
def limS (P : Program) (T : TypeId) : Nat := match slT P T with
 | some q => limB q.2
 | none => 0
def z6c (φ : Get) : X → Option (List (List D))
 | .d (.sl es _) => some es
 | .row l s n => match φ l s with
  | some (.row _ es _) => if es.length = n then some es else none
  | some .nrow => if n = 0 then some [] else none
  | _ => none
 | _ => none
def appQ (P : Program) (φ : Get) (T : TypeId) (s x : X) : Option X :=
 match okS P T, s, z6c φ x with
 | some q, .d (.sl es c), some xs =>
  if es.length + xs.length ≤ limS P T ∧ (xs.all fun e => e.length == q.1) = true ∧ (es.all fun e => e.length == q.1) = true then
   (if xs.isEmpty then some (.d (.sl es c)) else if c = .ro then none else some (.d (.sl (es ++ xs) .ro)))
  else none
 | _, _, _ => none
def appL (P : Program) (fs : FS) (T : TypeId) (s x : X) : Option (X × FS) :=
 match okS P T, s, z6c fs.get x with
 | some q, .row l t n, some xs =>
  if n + xs.length ≤ limS P T ∧ (xs.all fun e => e.length == q.1) = true then
   match fs.get l t with
   | some (.row z es w) => if es.length = n ∧ z = q.1 then some (.row l t (n + xs.length), fs.set l t (.row z (es ++ xs) w)) else none
   | some .nrow => if n = 0 then (if xs.isEmpty then some (.row l t 0, fs) else some (.row l t xs.length, fs.set l t (.row q.1 xs true))) else none
   | _ => none
  else none
 | _, _, _ => none
def lenX (P : Program) (φ : Get) (T : TypeId) (x : X) : Option X :=
 match P.underlying T, x with
 | some (.slice _), .d (.sl es _) => some (.d (.i .i64 es.length))
 | some (.slice _), .row l s n => if zeh φ l s n then some (.d (.i .i64 n)) else none
 | some .string, .d (.s b) => some (.d (.i .i64 b.size))
 | some (.array n _), _ => some (.d (.i .i64 n))
 | some (.map _ _), .d .nilm => some (.d (.i .i64 0))
 | some (.map _ _), .d (.mp es) => some (.d (.i .i64 es.length))
 | some (.map _ _), .map l s => match φ l s with
  | some (.map es) => some (.d (.i .i64 es.length))
  | _ => none
 | _, _ => none
def maxL (mx : Bool) (k : IntKind) (a : Int) : List X → Option Int
 | [] => some a
 | x :: t => match x with
  | .d (.i _ b) => maxL mx k (if mx then (if b > a then b else a) else (if b < a then b else a)) t
  | _ => none
def maxX (mx : Bool) : List X → Option X
 | .d (.i k a) :: t => (maxL mx k a t).map fun n => .d (.i k n)
 | _ => none
def cutX (z : Nat) (es : List (List D)) (c : Cap) (lo hi mx : Option Int) : Option D :=
 let l := lo.getD 0
 let h := hi.getD es.length
 if 0 ≤ l ∧ l ≤ h ∧ h ≤ es.length ∧ (l = 0 ∨ (es.all fun e => e.length == z) = true) then
  match mx with
  | some m => if h ≤ m ∧ m ≤ es.length ∧ hi.isSome = true then some (.sl ((es.take h.toNat).drop l.toNat) (if c = .nil then .nil else if m = h then .ex else .ro)) else none
  | none => some (.sl ((es.take h.toNat).drop l.toNat) (if c = .nil then .nil else if c = .ex ∧ h = es.length then .ex else .ro))
 else none
def optI (ρ : Operand → X) : Option Operand → Option (Option Int)
 | none => some none
 | some a => (intX (ρ a)).map some
def z7b (P : Program) (φ : Get) (T : TypeId) (ρ : Operand → X) (x : X) (lo hi mx : Option Operand) : Option X :=
 match optI ρ lo, optI ρ hi, optI ρ mx with
 | some l, some h, some m =>
  match P.underlying T, x with
  | some (.slice _), .d (.sl es c) => (slT P T).bind fun q => (cutX q.1 es c l h m).map .d
  | some (.slice _), .row a b n => match toD φ (.row a b n) with
   | some (.sl es c) => (slT P T).bind fun q => (cutX q.1 es c l h m).map .d
   | _ => none
  | some .string, .d (.s b) =>
   if m.isNone then
    (let p := l.getD 0; let q := h.getD b.size
     if 0 ≤ p ∧ p ≤ q ∧ q ≤ (b.size : Int) then some (.d (.s (b.extract p.toNat q.toNat))) else none)
   else none
  | _, _ => none
 | _, _, _ => none
def extX (x : X) (i : Nat) : Option X :=
 match x with
 | .d (.tup ds) => (ds[i]?).map .d
 | .tup xs => xs[i]?
 | _ => none
def mkFn (fn : Fn) (fst cap : List X) : Option X :=
 match fn with
 | .func f => some (match allD fst, allD cap with
  | some a, some b => .d (.fn f a b)
  | _, _ => .fn f fst cap)
 | _ => none
abbrev Rec := Nat → Code → St → Option (Ex × St)
def params (k : Nat) : List X → TM
 | [] => []
 | x :: t => (k, x) :: params (k + 1) t
def z0d (fs : FS) : X → Option D
 | .d x => some x
 | .ptr l s o => if l = fs.lo.length then (match aget s fs.fr with
  | some (.cells cs) => (allD cs).map fun ds => .pin (ds.drop o)
  | _ => none) else none
 | .map l s => if l = fs.lo.length then (match aget s fs.fr with
  | some (.map es) => some (.mp es)
  | _ => none) else none
 | .row l s n => if l = fs.lo.length then (match aget s fs.fr with
  | some (.row _ es _) => if es.length = n then some (.sl es .ro) else none
  | some .nrow => if n = 0 then some (.sl [] .nil) else none
  | _ => none) else toD fs.get (.row l s n)
 | _ => none
def z0m (fs : FS) : List X → Option (List D)
 | [] => some []
 | x :: t => match z0d fs x, z0m fs t with
  | some d, some ds => some (d :: ds)
  | _, _ => none
def ztj (fs : FS) : X → Option D
 | .fn f a b => match z0m fs a, z0m fs b with
  | some p, some q => some (.fn f p q)
  | _, _ => none
 | x => z0d fs x
def zdo (fs : FS) : List X → Option (List D)
 | [] => some []
 | x :: t => match ztj fs x, zdo fs t with
  | some d, some ds => some (d :: ds)
  | _, _ => none
def snap (fs : FS) : X → Option D
 | .agg cs => (zdo fs cs).map .agg
 | x => ztj fs x
def resX (P : Program) (st : St) : ResultVar → Option X
 | .tmp t => some (tget st.tm t)
 | .cell a T => ldX P st.fs.get T (tget st.tm a)
def zNl (P : Program) (st : St) : List ResultVar → Option (List X)
 | [] => some []
 | r :: t => match resX P st r, zNl P st t with
  | some x, some xs => some (x :: xs)
  | _, _ => none
def zFc (fs : FS) : List X → Option (List D)
 | [] => some []
 | x :: t => match snap fs x, zFc fs t with
  | some d, some ds => some (d :: ds)
  | _, _ => none
def tupD : List D → D
 | [d] => d
 | ds => .tup ds
def fnOf (E : Env) (f n : Nat) : Option (Func × Code) :=
 if E.F.contains f then
 match E.P.funcs[f]? with
 | some fn => match fn.body with
  | some c => if n ≤ fn.ntmps ∧ (fn.name == "runtime.NumGoroutine") = false then some (fn, c) else none
  | none => none
 | none => none
 else none
def run (E : Env) (rec : Rec) (f : Nat) (args : List X) (lo : List Fr) (lp : List LRec) : Option (List X × St) :=
 match fnOf E f args.length with
 | some q => match rec f q.2 { tm := params 0 args, fs := { fr := [], lo := lo }, lp := lp } with
  | some r => if r.1 = .nor ∨ r.1 = .ret then (zNl E.P r.2 q.1.results.toList).map fun xs => (xs, r.2) else none
  | none => none
 | none => none
def zI (E : Env) (rec : Rec) (f : Nat) (ds : List D) : Option D :=
 match run E rec f (ds.map .d) [] [] with
 | some q => (zFc q.2.fs q.1).map tupD
 | none => none
def zod (lo : List Fr) : Option FS :=
 match lo.getLast? with
 | some fr => some { fr := fr, lo := lo.dropLast }
 | none => none
def zbb (E : Env) (rec : Rec) (f : Nat) (args : List X) (fs : FS) (lp : List LRec) : Option (D × FS × List LRec) :=
 match run E rec f args (fs.lo ++ [fs.fr]) lp with
 | some q => match zFc q.2.fs q.1, zod q.2.fs.lo with
  | some ds, some fs' => some (tupD ds, fs', q.2.lp)
  | _, _ => none
 | none => none
def zNk (tm : TM) : List Nat → List X → TM
 | t :: ts, x :: xs => zNk (aset t x tm) ts xs
 | _, _ => tm
def round (rec : Rec) (k : Nat) (args : List X) (fs : FS) (lp : List LRec) : Option (D × FS × List LRec) :=
 match lp[k]? with
 | some r =>
  if r.st = .rdy ∧ args.length = r.ps.size then
   match allD args with
   | some _ =>
    match rec r.fid r.assign { tm := zNk r.tm r.ps.toList args, fs := { fr := [], lo := fs.lo ++ [fs.fr] }, lp := lp } with
    | some q =>
     if q.1 = .nor ∧ (q.2.lp[k]?).map (·.st) = some .rdy then
      match rec r.fid r.body { q.2 with lp := q.2.lp.set k { r with st := .busy } } with
      | some q2 => match zod q2.2.fs.lo with
       | some fs' => some (.b (decide (q2.1 = .nor)), fs', q2.2.lp.set k { r with st := if q2.1 = .nor then .rdy else .done q2.1 })
       | none => none
      | none => none
     else none
    | none => none
   | none => none
  else none
 | none => none
def zX : X → Option (Nat × List X × List X)
 | .d (.fn f a b) => some (f, a.map .d, b.map .d)
 | .fn f a b => some (f, a, b)
 | _ => none
def evA (E : Env) (tm : TM) : Operand → X
 | .tmp t => tget tm t
 | .const v => (match cD v with | some d => .d d | none => .un)
 | .global g => (match E.G g with | some cs => .d (.pin cs) | none => .un)
 | .func f => .d (.fn f [] [])
def evQ (E : Env) (cp : Nat → List D → Option D) (ρ : Operand → X) (φ : Get) (op : Op) : Option X :=
 match op with
 | .move x => some (ρ x)
 | .assign x => some (ρ x)
 | .pick c a b => match ρ c with
  | .d (.b t) => some (if t then ρ a else ρ b)
  | _ => none
 | .load T a => ldX E.P φ T (ρ a)
 | .fieldAddr T x f => faX E.P φ T (ρ x) f
 | .indexAddr T x i => iaX E.P φ T (ρ x) (ρ i)
 | .field T x f => zxt E.P T (ρ x) f
 | .index T x i => z8t E.P T (ρ x) (ρ i)
 | .binOp o T x y _ => binX E.P o T (ρ x) (ρ y)
 | .unOp o _ x => unX o (ρ x)
 | .convert s d x => zMv E.P s d (ρ x)
 | .build T ps => zwu E.P T (ps.toList.map fun p => (p.1, ρ p.2))
 | .buildSlice T n ps => zch E.P T n (ps.toList.map fun p => (p.1, ρ p.2))
 | .makeFunc fn a b => mkFn fn (a.toList.map ρ) (b.toList.map ρ)
 | .slice T x lo hi mx => z7b E.P φ T ρ (ρ x) lo hi mx
 | .lookup T m k ok => zSn E.P φ T (ρ m) (ρ k) ok
 | .extract t i => extX (ρ t) i
 | .makeSlice T n c => match okS E.P T, intX (ρ n), intX (ρ c) with
  | some q, some n, some c => if 0 ≤ n ∧ n = c ∧ n ≤ (limS E.P T : Int) then some (.d (.sl (List.replicate n.toNat q.2) .ex)) else none
  | _, _, _ => none
 | .call c => match c.callee with
  | .builtin b => match b, c.argTypes.toList, c.args.toList.map ρ with
   | .len, T :: _, x :: _ => lenX E.P φ T x
   | .append, T :: U :: _, [s, x] => if T = U then appQ E.P φ T s x else none
   | .max, _, xs => maxX true xs
   | .min, _, xs => maxX false xs
   | _, _, _ => none
  | .value f => match zX (ρ f) with
   | some q => match zkb φ (q.2.1 ++ c.args.toList.map ρ ++ q.2.2) with
    | some ds => (cp q.1 ds).map .d
    | none => none
   | none => none
  | .invoke _ _ => none
 | _ => none
def zKf (E : Env) (ρ : Operand → X) (φ : Get) (op : Op) : Bool := (evQ E (fun _ _ => some (.b true)) ρ φ op).isSome
def zyj (st : St) (d : Nat) (fs : FS) (cs : List X) : List (Nat × Nat) → Option (FS × List X)
 | [] => some (fs, cs)
 | p :: t => if p.1 = d then
   (match cs[p.2]? with
    | some (.d (.sl [] .nil)) => if cs.all (fun x => !X.refs fs.lv [2000 + 16 * d + p.2] x) then (zeb { st with fs := fs } (some d) (2000 + 16 * d + p.2) .nrow).bind fun fs' => zyj st d fs' (cs.set p.2 (.row fs.lv (2000 + 16 * d + p.2) 0)) t else none
    | _ => none)
  else zyj st d fs cs t
def z5m : O → Nat → Bool
 | .row _ es true, n => es.length == n
 | .nrow, n => n == 0
 | _, _ => false
def zIe (st : St) (fs : FS) (d : Nat) (r : List X × St) : Option (X × FS × List LRec) := match r.1 with
 | [.row l s n] => if l = r.2.fs.lo.length then (match aget s r.2.fs.fr with
  | some o => if z5m o n = true then (zeb { st with fs := fs } (some d) d o).map fun fs' => (.row fs.lv d n, fs', st.lp) else none
  | none => none) else none
 | [.d (.sl [] .nil)] => (zeb { st with fs := fs } (some d) d .nrow).map fun fs' => (.row fs.lv d 0, fs', st.lp)
 | _ => none
def zTv : D → X
 | .b x => .d (.b x)
 | .i k n => .d (.i k n)
 | _ => .un
def zDh : D → X
 | .tup ds => .tup (ds.map zTv)
 | x => zTv x
def zMh (h : Hint) (d : Nat) : Bool := h.rowStores.contains (4000000 + d)
def zhn : X → Bool
 | .d (.sl es c) => decide (c = .nil) && es.isEmpty
 | _ => false
def zPn (h : Hint) (a : Operand) (x : X) : Bool := match a with
 | .tmp ta => h.rowStores.contains ta && zhn x
 | _ => false
theorem zmu {x : X} (h : zhn x = true) : x = .d (.sl [] .nil) := by
 cases x with
 | d y =>
  cases y with
  | sl es c =>
   simp only [zhn, Bool.and_eq_true, decide_eq_true_eq, List.isEmpty_iff] at h
   rw [h.1, h.2]
  | _ => simp [zhn] at h
 | _ => simp [zhn] at h
theorem zYx {h : Hint} {ta : Nat} {x : X} (hr : zPn h (.tmp ta) x = true) : x = .d (.sl [] .nil) := by
 simp only [zPn, Bool.and_eq_true] at hr
 exact zmu hr.2
def zMq (φ : Get) : X → Bool
 | .row l s 0 => match φ l s with
  | some .nrow => true
  | _ => false
 | _ => false
def zipK (φ : Get) : List X → List X → List X
 | c :: cs, v :: vs => (if zMq φ c && zhn v then c else v) :: zipK φ cs vs
 | _, vs => vs
def zjl (h : Hint) (a : Operand) : Bool := match a with
 | .tmp ta => h.rowStores.contains (9000000 + ta)
 | _ => false
def zAr (φ : Get) (p v : X) : X := match p, v with
 | .ptr l s o, .d (.agg ds) => match φ l s with
  | some (.cells cs) => .agg (zipK φ (cs.drop o) (ds.map .d))
  | _ => .d (.agg ds)
 | _, v => v
def evL (E : Env) (rec : Rec) (h : Hint) (st : St) (t : Option Nat) (op : Op) : Option (X × FS × List LRec) :=
 let ρ := evA E st.tm
 match op with
 | .alloc T => match t, zcT E.P T with
  | some d, some zs => (zyj st d st.fs (zs.map .d) h.rowCells).bind fun q => (zeb { st with fs := q.1 } (some d) d (.cells q.2)).map fun fs => (.ptr st.fs.lv d 0, fs, st.lp)
  | _, _ => none
 | .box T x => match t, zOg (ρ x), szT E.P T with
  | some d, some cs, some n => if cs.length = n ∧ X.okAtL st.lp st.fs.lv cs = true then (zeb st (some d) d (.cells cs)).map fun fs => (.ptr st.fs.lv d 0, fs, st.lp) else none
  | _, _, _ => none
 | .store T a x => if zPn h a (ρ x) = true then match a with
    | .tmp ta => (zeb st none (1000 + ta) .nrow).bind fun fs => (stX E.P st.lp fs T (ρ a) (.row fs.lv (1000 + ta) 0)).map fun fs => (.d (.tup []), fs, st.lp)
    | _ => none
   else (stX E.P st.lp st.fs T (ρ a) (if zjl h a then zAr st.fs.get (ρ a) (ρ x) else ρ x)).map fun fs => (.d (.tup []), fs, st.lp)
 | .mapUpdate T m k v =>
  let fs := z9 st.fs (ρ v)
  match toDA fs.get (ρ v) with
  | some d => (mupX E.P fs T (ρ m) (ρ k) (.d d)).map fun fs => (.d (.tup []), fs, st.lp)
  | none => none
 | .insert T m k v => (mupX E.P st.fs T (ρ m) (ρ k) (ρ v)).map fun fs => (.d (.tup []), fs, st.lp)
 | .mapEntry T m k => (zoh E.P st.fs T (ρ m) (ρ k)).map fun q => (q.1, q.2, st.lp)
 | .entryStore _ m n v => (estX st.fs (ρ m) (ρ n) (ρ v)).map fun fs => (.d (.tup []), fs, st.lp)
 | .makeMap T none => match t, mpT E.P T with
  | some d, some _ => (zeb st (some d) d (.map [])).map fun fs => (.map st.fs.lv d, fs, st.lp)
  | _, _ => none
 | .makeSlice T n c => match t, okS E.P T, intX (ρ n), intX (ρ c) with
  | some d, some q, some n, some c =>
   if 0 ≤ n ∧ n = c ∧ n ≤ (limS E.P T : Int) then
    (zeb st (some d) d (.row q.1 (List.replicate n.toNat q.2) true)).map fun fs => (.row st.fs.lv d n.toNat, fs, st.lp)
   else none
  | _, _, _, _ => none
 | .assign x => match t with
  | some d =>
   if h.rowVars.contains (1000000 + d) then (toDA (z9 st.fs (ρ x)).get (ρ x)).map fun r => (.d r, z9 st.fs (ρ x), st.lp)
   else match ρ x with
    | .d (.sl [] .nil) => (zeb st (some d) d .nrow).map fun fs => (.row st.fs.lv d 0, fs, st.lp)
    | v => some (v, st.fs, st.lp)
  | none => some (ρ x, st.fs, st.lp)
 | .buildSlice T n ps => match t with
  | some d =>
   if h.rowVars.contains (2000000 + d) then
    let fs := (ps.toList.map fun p => ρ p.2).foldl z9 st.fs
    (zch E.P T n (ps.toList.map fun p => (p.1, asD fs.get (ρ p.2)))).map fun x => (x, fs, st.lp)
   else match slT E.P T, zch E.P T n (ps.toList.map fun p => (p.1, ρ p.2)) with
    | some q, some (.d (.sl es .ex)) => (zeb st (some d) d (.row q.1 es true)).map fun fs => (.row st.fs.lv d es.length, fs, st.lp)
    | _, _ => none
  | none => none
 | .slice T x lo hi mx =>
  let fs := lend st.fs (ρ x)
  (z7b E.P fs.get T ρ (ρ x) lo hi mx).map fun r => (r, fs, st.lp)
 | .call c => match c.callee with
  | .builtin .append => match c.argTypes.toList, c.args.toList.map ρ with
   | T :: U :: _, [s, x] =>
    if T = U then
     match s with
     | .row _ _ _ => (appL E.P st.fs T s x).map fun q => (q.1, q.2, st.lp)
     | _ => match t, slT E.P T, appQ E.P st.fs.get T s x, s, x with
      | some d, some q, some (.d (.sl es _)), .d (.sl ss .ex), .d (.sl xs _) =>
       if h.rowSites.contains d ∧ (ss.isEmpty || !xs.isEmpty) = true then (zeb st (some d) d (.row q.1 es true)).map fun fs => (.row st.fs.lv d es.length, fs, st.lp) else none
      | _, _, _, _, _ => none
    else none
   | _, _ => none
  | .value f =>
   match ρ f with
   | .yld k => (round rec k (c.args.toList.map ρ) st.fs st.lp).map fun q => (.d q.1, q.2.1, q.2.2)
   | fv => match zX fv with
    | some q =>
     let args := q.2.1 ++ c.args.toList.map ρ ++ q.2.2
     let fs := args.foldl z9 st.fs
     match zkb fs.get args with
     | some ds => match t with
      | some d => if h.rowSites.contains d then
        (run E rec q.1 (ds.map .d) [] []).bind (zIe st fs d)
       else if zMh h d then (zI E rec q.1 ds).map fun r => (zDh r, st.fs, st.lp)
       else (zI E rec q.1 ds).map fun r => (.d r, fs, st.lp)
      | none => (zI E rec q.1 ds).map fun r => (.d r, fs, st.lp)
     | none => (zbb E rec q.1 args st.fs st.lp).map fun r => (.d r.1, r.2.1, r.2.2)
    | none => none
  | _ => none
 | _ => none
def adS (d j : Nat) : Nat := 1000000 + 64 * d + j
abbrev Mv := List (Nat × Nat × O)
def adC (st : St) (lv d j : Nat) (x : X) : Option (X × Mv) :=
 match x with
 | .row l s n => if l = lv + 1 then (match aget s st.fs.fr with
   | some (.row z es w) => some (.row lv (adS d j) n, [(s, adS d j, .row z es w)])
   | some .nrow => some (.row lv (adS d j) n, [(s, adS d j, .nrow)])
   | _ => none) else if X.okAt st.lp lv (.row l s n) then some (.row l s n, []) else none
 | .map l s => if l = lv + 1 then (match aget s st.fs.fr with
   | some (.map es) => some (.map lv (adS d j), [(s, adS d j, .map es)])
   | _ => none) else if X.okAt st.lp lv (.map l s) then some (.map l s, []) else none
 | x => if X.okAt st.lp lv x then some (x, []) else none
def adCs (st : St) (lv d : Nat) : Nat → List X → Option (List X × Mv)
 | _, [] => some ([], [])
 | j, x :: t => match adC st lv d j x, adCs st lv d (j + 1) t with
  | some p, some q => some (p.1 :: q.1, p.2 ++ q.2)
  | _, _ => none
def adA (st : St) (lv d j : Nat) : X → Option (X × Mv)
 | .agg cs => (adCs st lv d j cs).map fun p => (.agg p.1, p.2)
 | x => adC st lv d j x
def adRs (st : St) (lv d : Nat) : Nat → List X → Option (List X × Mv)
 | _, [] => some ([], [])
 | j, x :: t => match adA st lv d j x, adRs st lv d (j + 16) t with
  | some p, some q => some (p.1 :: q.1, p.2 ++ q.2)
  | _, _ => none
def tupX : List X → X
 | [x] => x
 | xs => .tup xs
def apart : List Nat → Bool
 | [] => true
 | x :: t => !t.contains x && apart t
def okMv (fr : Fr) (mv : Mv) : Bool := apart (mv.map (·.1)) && apart (mv.map (·.2.1)) && mv.all fun p => (aget p.2.1 fr).isNone
def adopt (d : Nat) (r : List X × St) : Option (X × FS) :=
 match zod r.2.fs.lo with
 | some fs' => match adRs r.2 fs'.lo.length d 0 r.1 with
  | some p => if okMv fs'.fr p.2 then some (tupX p.1, { fs' with fr := fs'.fr ++ p.2.map fun q => (q.2.1, q.2.2) }) else none
  | none => none
 | none => none
def zUw (h : Hint) (o : Oper) : Bool := match o.op, o.dst with
 | .call _, some d => h.rowSites.contains (8000000 + d)
 | _, _ => false
def evAd (E : Env) (rec : Rec) (ρ : Operand → X) (fs : FS) (lp : List LRec) (dst : Option Nat) (op : Op) : Option (X × FS × List LRec) :=
 match op, dst with
 | .call c, some d => match c.callee with
  | .value f => match zX (ρ f) with
   | some q => (run E rec q.1 (q.2.1 ++ c.args.toList.map ρ ++ q.2.2) (fs.lo ++ [fs.fr]) lp).bind fun r => (adopt d r).map fun p => (p.1, p.2, r.2.lp)
   | none => none
  | _ => none
 | _, _ => none
def zhv (h : Hint) (o : Oper) : Bool := match o.op, o.dst with
 | .load _ _, some d => h.rowVars.contains (3000000 + d)
 | _, _ => false
def evFz (E : Env) (ρ : Operand → X) (fs : FS) (lp : List LRec) (op : Op) : Option (X × FS × List LRec) :=
 match op with
 | .load T a => (ldX E.P fs.get T (ρ a)).bind fun x => (toDA (z9 fs x).get x).map fun r => (.d r, z9 fs x, lp)
 | _ => none
def zQh (ops : Array Oper) (tm : TM) (o : Oper) : Option Bool :=
 match o.guard with
 | none => some true
 | some g => match (ops[g.1]?).bind (·.dst) with
  | none => some false
  | some t => match tget tm t with
   | .d (.b x) => some (x == g.2)
   | .d (.tup []) => some false
   | _ => none
def useL (h : Hint) (o : Oper) : Bool :=
 match o.dst with
 | none => false
 | some d => match o.op with
  | .assign _ => h.rowVars.contains d
  | .call _ => h.rowSites.contains d
  | .makeSlice _ _ _ => h.rowSites.contains d
  | .buildSlice _ _ _ => h.rowSites.contains d
  | _ => false
def evOp (E : Env) (rec : Rec) (fid : Nat) (ops : Array Oper) (sp : Bool) (st : St) (o : Oper) : Option St :=
 match zQh ops st.tm o with
 | none => none
 | some false => some { st with tm := tput st.tm o.dst (.d (.tup [])) }
 | some true =>
  if sp && zUw (E.H fid) o then (evAd E rec (evA E st.tm) st.fs st.lp o.dst o.op).map fun q => { tm := tput st.tm o.dst q.1, fs := q.2.1, lp := q.2.2 } else
  if sp && zhv (E.H fid) o then (evFz E (evA E st.tm) st.fs st.lp o.op).map fun q => { tm := tput st.tm o.dst q.1, fs := q.2.1, lp := q.2.2 } else
  if !(sp && useL (E.H fid) o) && zKf E (evA E st.tm) st.fs.get o.op then (evQ E (zI E rec) (evA E st.tm) st.fs.get o.op).map fun x => { st with tm := tput st.tm o.dst x }
  else if sp then (evL E rec (E.H fid) st o.dst o.op).map fun q => { tm := tput st.tm o.dst q.1, fs := q.2.1, lp := q.2.2 } else none
def zdn (E : Env) (rec : Rec) (fid : Nat) (ops : Array Oper) : List Oper → St → Option St
 | [], st => some st
 | o :: t, st => (evOp E rec fid ops true st o).bind (zdn E rec fid ops t)
def zMf (h : Hint) (tm : TM) : TM :=
 match h.keep with
 | some ks => tm.filter fun p => ks.contains p.1
 | none => tm
def zwb (o : Oper) : Option (Nat × TypeId) :=
 match o.op, o.dst with
 | .alloc T, some d => some (d, T)
 | _, _ => none
def z3i (P : Program) : List Oper → FS → Option FS
 | [], fs => some fs
 | o :: t, fs => match zwb o with
  | none => z3i P t fs
  | some q => match aget q.1 fs.fr, zcT P q.2 with
   | none, some zs => z3i P t { fs with fr := fs.fr ++ [(q.1, .cells (zs.map .d))] }
   | _, _ => none
def zci (E : Env) (st : St) (ss : List Nat) (op : Op) : Bool := op.operands.toList.any fun a => X.refs st.fs.lv ss (evA E st.tm a)
def zYe (E : Env) (h : zub) (i : Nat) (st : St) (op : Op) : Bool := match aget i h.forb with
 | some ss => zci E st ss op
 | none => false
def zvj (E : Env) (st : St) (dst : Option Nat) (s : Nat) (T : TypeId) (a x : Operand) : Option St := match evA E st.tm a with
 | .ptr l s' o => if l = st.fs.lv ∧ s' = s then (stX E.P st.lp st.fs T (.ptr l s' o) (evA E st.tm x)).map fun fs => { tm := tput st.tm dst (.d (.tup [])), fs := fs, lp := st.lp } else none
 | _ => none
def zSk : Op → Option (TypeId × Operand × Operand)
 | .store T a x => some (T, a, x)
 | _ => none
def zgg : Op → Option (TypeId × Operand × Operand)
 | .call c => match c.callee with
  | .builtin .append => match c.argTypes.toList, c.args.toList with
   | T :: U :: _, [s, x] => if T = U then some (T, s, x) else none
   | _, _ => none
  | _ => none
 | _ => none
def zDf : Op → Option (TypeId × Nat × Nat)
 | .mapEntry T (.tmp m) (.tmp k) => some (T, m, k)
 | _ => none
def zIt (q : TypeId × Nat × Nat) : Op → Bool
 | .lookup T (.tmp m) (.tmp k) false => T == q.1 && m == q.2.1 && k == q.2.2
 | .binOp .. => true
 | _ => false
def zJk (E : Env) (st : St) (s : Nat) (T : TypeId) (a x : Operand) : Option St :=
 match slT E.P T, appQ E.P st.fs.get T (evA E st.tm a) (evA E st.tm x), evA E st.tm a, evA E st.tm x, st.fs.get st.fs.lv s with
 | some q, some (.d (.sl es _)), .d (.sl ss .ex), .d (.sl xs _), some .nrow =>
  if (ss.isEmpty || !xs.isEmpty) = true then some { tm := tput st.tm (some s) (.row st.fs.lv s es.length), fs := st.fs.set st.fs.lv s (.row q.1 es true), lp := st.lp } else none
 | _, _, _, _, _ => none
def rowD (h : zub) (i : Nat) (o : Oper) : Option Nat := match aget i h.soft, zgg o.op with
 | some s, some _ => if o.dst = some s then some s else none
 | _, _ => none
def zKh (l s : Nat) : X → Bool
 | .d _ => true
 | .row l' s' _ => decide (l' = l) && decide (s' = s)
 | _ => false
def zcl (l s : Nat) : X → Bool
 | .agg cs => cs.all (zKh l s)
 | x => zKh l s x
def zPe (E : Env) (st : St) (s : Nat) (op : Op) : Bool := (st.fs.get st.fs.lv s).isSome && match op with
 | .store _ a _ => (match evA E st.tm a with
  | .rp l s' _ _ _ => decide (l = st.fs.lv) && decide (s' = s)
  | _ => false)
 | .mapUpdate _ m _ v => (match evA E st.tm m, evA E st.tm v with
  | .map l s', .d _ => decide (l = st.fs.lv) && decide (s' = s)
  | _, _ => false)
 | .slice _ x _ _ _ => (match evA E st.tm x with
  | .row l s' _ => decide (l = st.fs.lv) && decide (s' = s)
  | _ => false)
 | .call c => (match c.callee with
  | .builtin .append => (match c.args.toList.map (evA E st.tm) with
   | [.row l s' _, .d _] => decide (l = st.fs.lv) && decide (s' = s)
   | _ => false)
  | .value f => (match zX (evA E st.tm f) with
   | some q => (q.2.1 ++ c.args.toList.map (evA E st.tm) ++ q.2.2).all (zcl st.fs.lv s)
   | none => false)
  | _ => false)
 | _ => false
def zFd (E : Env) (rec : Rec) (st : St) (op : Op) : Option (X × FS) := match op with
 | .store T a x => (stX E.P st.lp st.fs T (evA E st.tm a) (evA E st.tm x)).map fun fs => (.d (.tup []), fs)
 | .mapUpdate T m k v => (mupX E.P st.fs T (evA E st.tm m) (evA E st.tm k) (evA E st.tm v)).map fun fs => (.d (.tup []), fs)
 | .slice T x lo hi mx => (z7b E.P (lend st.fs (evA E st.tm x)).get T (evA E st.tm) (evA E st.tm x) lo hi mx).map fun r => (r, lend st.fs (evA E st.tm x))
 | .call c => match c.callee with
  | .builtin .append => match c.argTypes.toList, c.args.toList.map (evA E st.tm) with
   | T :: U :: _, [s, x] => if T = U then appL E.P st.fs T s x else none
   | _, _ => none
  | .value f => match zX (evA E st.tm f) with
   | some q => (zkb ((q.2.1 ++ c.args.toList.map (evA E st.tm) ++ q.2.2).foldl z9 st.fs).get (q.2.1 ++ c.args.toList.map (evA E st.tm) ++ q.2.2)).bind fun ds => (zI E rec q.1 ds).map fun r => (.d r, (q.2.1 ++ c.args.toList.map (evA E st.tm) ++ q.2.2).foldl z9 st.fs)
   | none => none
  | _ => none
 | _ => none
def zhf (E : Env) (rec : Rec) (st : St) (o : Oper) : Option St := (zFd E rec st o.op).map fun q => { tm := tput st.tm o.dst q.1, fs := q.2, lp := st.lp }
def z6j (s : Nat) : Bool := decide (6000000 ≤ s)
def zqg (E : Env) (st : St) : Op → Bool
 | .store _ a _ => (match evA E st.tm a with
  | .rp _ _ _ _ _ => true
  | _ => false)
 | _ => false
def zBy : Op → Bool
 | .move _ => true
 | .binOp .. => true
 | _ => false
def zjj (h : zub) (i : Nat) (o : Oper) : Bool := (match o.op with
 | .slice .. => true
 | .call _ => true
 | .mapUpdate .. => true
 | _ => false) && (rowD h i o).isNone
def wide (s : Nat) (op : Op) : Bool := z6j s || (zDf op).isSome
def zai (op op' : Op) : Bool := match zDf op with
 | some q => zIt q op'
 | none => zBy op'
def zRk (h : zub) : Nat → List Oper → FS → Option FS
 | _, [], fs => some fs
 | i, o :: t, fs => match rowD h i o with
  | none => zRk h (i + 1) t fs
  | some s => match aget s fs.fr with
   | none => zRk h (i + 1) t { fs with fr := fs.fr ++ [(s, .nrow)] }
   | some _ => none
def z2q (P : Program) (h : zub) (os : List Oper) (fs : FS) : Option FS := (z3i P os fs).bind (zRk h 0 os)
def zCb (E : Env) (rec : Rec) (fid : Nat) (ops : Array Oper) (h : zub) (i : Nat) (st : St) (o : Oper) : Option St :=
 if zYe E h i st o.op then none else
 match zwb o with
 | some q => if o.guard.isNone then some { tm := tput st.tm (some q.1) (.ptr st.fs.lv q.1 0), fs := st.fs, lp := st.lp } else none
 | none => match aget i h.soft with
  | some s => if z6j s then (if (o.guard.isNone && zqg E st o.op) = true then zhf E rec st o else none)
   else if (zPe E st s o.op && (rowD h i o).isNone) = true then (if o.guard.isNone then zhf E rec st o else none) else match zSk o.op with
   | some q => if o.guard.isNone then zvj E st o.dst s q.1 q.2.1 q.2.2 else none
   | none => match zgg o.op with
    | some q => if o.guard.isNone ∧ o.dst = some s then zJk E st s q.1 q.2.1 q.2.2 else none
    | none => match zDf o.op with
     | some q => if o.guard.isNone then (zoh E.P st.fs q.1 (tget st.tm q.2.1) (tget st.tm q.2.2)).map fun r => { tm := tput st.tm o.dst r.1, fs := r.2, lp := st.lp } else none
     | none => none
  | none => evOp E rec fid ops (h.sp.contains i) st o
def zYm (E : Env) (rec : Rec) (fid : Nat) (ops : Array Oper) (h : zub) : Nat → List Oper → St → Option St
 | _, [], st => some st
 | i, o :: t, st => (zCb E rec fid ops h i st o).bind (zYm E rec fid ops h (i + 1) t)
def znn (h : Hint) (id : Nat) : Option zub := h.draws.find? (fun d => d.id == id)
def zml (E : Env) (rec : Rec) (fid id : Nat) (ops : Array Oper) (draw : Bool) (st : St) : Option St :=
 if draw then
  match znn (E.H fid) id with
  | some h => (z2q E.P h ops.toList st.fs).bind fun fs => zYm E rec fid ops h 0 ops.toList { st with tm := zMf (E.H fid) st.tm, fs := fs }
  | none => none
 else zdn E rec fid ops ops.toList { st with tm := zMf (E.H fid) st.tm }
def z3o (E : Env) (rec : Rec) (fid id : Nat) (ops : Array Oper) (draw : Bool) (st : St) : Option St := (zml E rec fid id ops draw st).map fun s => { s with tm := zMf (E.H fid) s.tm }
def zNn (st0 st : St) : Option St :=
 let tm := st0.tm.map fun p => (p.1, tget st.tm p.1)
 let gone := (st.fs.fr.filter fun p => (aget p.1 st0.fs.fr).isNone).map (·.1)
 let fr := st.fs.fr.filter fun p => (aget p.1 st0.fs.fr).isSome
 if tm.all (fun p => !X.refs st.fs.lv gone p.2) && fr.all (fun p => !O.refs st.fs.lv gone p.2) then some { tm := tm, fs := { st.fs with fr := fr }, lp := st.lp } else none
def step (E : Env) (rec : Rec) (fid : Nat) (c : Code) (st : St) : Option (Ex × St) :=
 match c with
 | .skip => some (.nor, st)
 | .label _ => some (.nor, st)
 | .region id ops draw => (z3o E rec fid id ops draw st).map fun s => (.nor, s)
 | .seq a b => match rec fid a st with
  | some r => if r.1 = .nor then rec fid b r.2 else some r
  | none => none
 | .cond c a b => match evA E st.tm c with
  | .d (.b t) => rec fid (if t then a else b) st
  | _ => none
 | .block id c => (rec fid c st).map fun r => (if r.1 = .exit id then .nor else r.1, r.2)
 | .loop c => match rec fid c st with
  | some r => if r.1 = .nor then (zNn st r.2).bind fun s => rec fid (.loop c) s else some r
  | none => none
 | .rangeFunc f ps assign body => match zX (evA E st.tm f) with
  | some q =>
   match zbb E rec q.1 (q.2.1 ++ [.yld st.lp.length] ++ q.2.2) st.fs (st.lp ++ [{ tm := st.tm, lv := st.fs.lv, ps := ps, assign := assign, body := body, fid := fid, st := .rdy }]) with
   | some r => match r.2.2[st.lp.length]? with
    | some l => match l.st with
     | .rdy => some (.nor, { st with fs := r.2.1, lp := r.2.2.dropLast })
     | .done e => some (e, { st with fs := r.2.1, lp := r.2.2.dropLast })
     | .busy => none
    | none => none
   | none => none
  | none => none
 | .exit id => some (.exit id, st)
 | .scope c => rec fid c st
 | .ret => some (.ret, st)
 | .goto _ => none
 | .refuse _ => none
def evN (E : Env) : Nat → Rec
 | 0 => fun _ _ _ => none
 | n + 1 => step E (evN E n)
end Go.AM
namespace Go.AM
open Go Go.RowKit
structure Imm where
 cell : Nat → Nat → Option Value
 map : Nat → Option (Array MapEntry)
structure Imm.le (m m' : Imm) : Prop where
 cell : ∀ b o v, m.cell b o = some v → m'.cell b o = some v
 map : ∀ r e, m.map r = some e → m'.map r = some e
theorem Imm.le.refl (m : Imm) : m.le m := ⟨fun _ _ _ h => h, fun _ _ h => h⟩
theorem Imm.le.trans {a b c : Imm} (h : a.le b) (k : b.le c) : a.le c := ⟨fun _ _ _ x => k.cell _ _ _ (h.cell _ _ _ x), fun _ _ x => k.map _ _ (h.map _ _ x)⟩
def sc1 : Value → Prop
 | .agg _ => False
 | .tuple _ => False
 | _ => True
inductive DR (m : Imm) : D → Value → Prop
 | b (x : Bool) : DR m (.b x) (.bool x)
 | i (k : IntKind) (n : Int) : DR m (.i k n) (.int k n)
 | s (x : ByteArray) : DR m (.s x) (.string x)
 | nilf : DR m .nilf .nilFunc
 | nilm : DR m .nilm (.map none)
 | mpn : DR m (.mp []) (.map none)
 | fn {f : Nat} {a b : List D} {av bv : Array Value} (ha : av.size = a.length) (hb : bv.size = b.length)
   (h1 : ∀ (j : Nat) d, a[j]? = some d → DR m d (av.getD j undef)) (h2 : ∀ (j : Nat) d, b[j]? = some d → DR m d (bv.getD j undef)) : DR m (.fn f a b) (.func (.func f) av bv)
 | pin {cs : List D} {β o : Nat} (g : Nat → Value) (hs : ∀ d, d ∈ cs → d.sc = true) (h : ∀ j d, cs[j]? = some d → m.cell β (o + j) = some (g j))
   (h' : ∀ (j : Nat) d, cs[j]? = some d → DR m d (g j)) : DR m (.pin cs) (.pointer (some ⟨β, o, none⟩))
 | nils : DR m (.sl [] .nil) (.slice none 0 0)
 | sl {es : List (List D)} {c : Cap} {β o cap : Nat} {sp : Option Nat} (z : Nat) (g : Nat → Nat → Value) (hsp : es ≠ [] → sp = none) (hc : c ≠ .nil) (hex : c = .ex → cap = es.length) (hcap : es.length ≤ cap)
   (hz : ∀ e, e ∈ es → e.length = z) (hs : ∀ e, e ∈ es → ∀ d, d ∈ e → d.sc = true)
   (h : ∀ (i j : Nat) e d, es[i]? = some e → e[j]? = some d → m.cell β (o + (i * z + j)) = some (g i j))
   (h' : ∀ (i j : Nat) e d, es[i]? = some e → e[j]? = some d → DR m d (g i j)) : DR m (.sl es c) (.slice (some ⟨β, o, sp⟩) es.length cap)
 | mp {es : List (D × D)} {r : Nat} (ents : Array MapEntry) (hr : m.map r = some ents) (hn : ents.size = es.length)
   (hk : ∀ (j : Nat) p, es[j]? = some p → DR m p.1 (ents.getD j default).key) (hv : ∀ (j : Nat) p, es[j]? = some p → DR m p.2 (ents.getD j default).val) : DR m (.mp es) (.map (some r))
 | agg {cs : List D} {arr : Array Value} (hn : arr.size = cs.length) (hs : ∀ d, d ∈ cs → d.sc = true) (h : ∀ (j : Nat) d, cs[j]? = some d → DR m d (arr.getD j undef)) : DR m (.agg cs) (.agg arr)
 | tup {ds : List D} {arr : Array Value} (hn : arr.size = ds.length) (h : ∀ (j : Nat) d, ds[j]? = some d → DR m d (arr.getD j undef)) : DR m (.tup ds) (.tuple arr)
theorem DR.mono {m m' : Imm} (hm : m.le m') {d : D} {v : Value} (h : DR m d v) : DR m' d v := by
 induction h with
 | b x => exact .b x
 | i k n => exact .i k n
 | s x => exact .s x
 | nilf => exact .nilf
 | nilm => exact .nilm
 | mpn => exact .mpn
 | fn ha hb _ _ i1 i2 => exact .fn ha hb i1 i2
 | pin g hs h _ i => exact .pin g hs (fun j d e => hm.cell _ _ _ (h j d e)) i
 | nils => exact .nils
 | sl z g hsp hc hex hcap hz hs h _ i => exact .sl z g hsp hc hex hcap hz hs (fun i j e d a b => hm.cell _ _ _ (h i j e d a b)) i
 | mp ents hr hn _ _ i1 i2 => exact .mp ents (hm.map _ _ hr) hn i1 i2
 | agg hn hs _ i => exact .agg hn hs i
 | tup hn _ i => exact .tup hn i
theorem DR.sc1 {m : Imm} {d : D} {v : Value} (h : DR m d v) (hd : d.sc = true) : sc1 v := by
 cases h <;> first | trivial | simp [D.sc] at hd
inductive RO where
 | blk (β : Nat)
 | hdr (z : Nat) (a : Option Addr) (n cap : Nat)
 | map (r : Nat)
def RO.le : RO → RO → Prop
 | .blk a, .blk b => a = b
 | .map a, .map b => a = b
 | .hdr z a n c, .hdr z' a' n' c' => n < n' ∨ (z = z' ∧ a = a' ∧ n = n' ∧ c = c')
 | _, _ => False
theorem RO.le.refl (a : RO) : a.le a := by cases a <;> simp [RO.le]
theorem RO.le.trans {a b c : RO} (h : a.le b) (k : b.le c) : a.le c := by
 cases a <;> cases b <;> cases c <;> simp_all only [RO.le]
 rcases h with h | ⟨rfl, rfl, rfl, rfl⟩
 ·rcases k with k | ⟨rfl, rfl, rfl, rfl⟩
  ·exact .inl (by omega)
  ·exact .inl h
 ·exact k
abbrev RM := Nat → Nat → Option RO
abbrev LM := Nat → Option Nat
inductive XR (m : Imm) (R : RM) (L : LM) : X → Value → Prop
 | un (v : Value) : XR m R L .un v
 | d {x : D} {v : Value} (h : DR m x v) : XR m R L (.d x) v
 | ptr {l s o β : Nat} (h : R l s = some (.blk β)) : XR m R L (.ptr l s o) (.pointer (some ⟨β, o, none⟩))
 | row {l s n z k cap : Nat} {a a' : Option Addr} {n' c' : Nat} (h : R l s = some (.hdr z a k cap)) (hn : n ≤ k) (hv : n = k → a' = a ∧ n' = k ∧ c' = cap) : XR m R L (.row l s n) (.slice a' n' c')
 | rp {l s n i o z k cap : Nat} {a p : Option Addr} (h : R l s = some (.hdr z a k cap)) (hn : n ≤ k) (hv : n = k → i < n ∧ ∃ β, a = some ⟨β, 0, none⟩ ∧ p = some ⟨β, i * z + o, none⟩) : XR m R L (.rp l s n i o) (.pointer p)
 | map {l s r : Nat} (h : R l s = some (.map r)) : XR m R L (.map l s) (.map (some r))
 | fn {f : Nat} {a b : List X} {av bv : Array Value} (ha : av.size = a.length) (hb : bv.size = b.length)
   (h1 : ∀ (j : Nat) d, a[j]? = some d → XR m R L d (av.getD j undef)) (h2 : ∀ (j : Nat) d, b[j]? = some d → XR m R L d (bv.getD j undef)) : XR m R L (.fn f a b) (.func (.func f) av bv)
 | yld {k q : Nat} (h : L k = some q) : XR m R L (.yld k) (.func (.yield q) #[] #[])
 | agg {cs : List X} {arr : Array Value} (hn : arr.size = cs.length) (hs : ∀ d, d ∈ cs → d.sc = true) (h : ∀ (j : Nat) d, cs[j]? = some d → XR m R L d (arr.getD j undef)) : XR m R L (.agg cs) (.agg arr)
 | tup {ds : List X} {arr : Array Value} (hn : arr.size = ds.length) (h : ∀ (j : Nat) d, ds[j]? = some d → XR m R L d (arr.getD j undef)) : XR m R L (.tup ds) (.tuple arr)
def RLe (R R' : RM) : Prop := ∀ l s o, R l s = some o → ∃ o', R' l s = some o' ∧ o.le o'
def LLe (L L' : LM) : Prop := ∀ k q, L k = some q → L' k = some q
theorem RLe.refl (R : RM) : RLe R R := fun _ _ o h => ⟨o, h, RO.le.refl o⟩
theorem LLe.refl (L : LM) : LLe L L := fun _ _ h => h
theorem RLe.trans {a b c : RM} (h : RLe a b) (k : RLe b c) : RLe a c := fun l s o x =>
 let ⟨o1, h1, l1⟩ := h l s o x; let ⟨o2, h2, l2⟩ := k l s o1 h1; ⟨o2, h2, l1.trans l2⟩
theorem LLe.trans {a b c : LM} (h : LLe a b) (k : LLe b c) : LLe a c := fun x q e => k x q (h x q e)
theorem XR.mono {m m' : Imm} {R R' : RM} {L L' : LM} (hm : m.le m') (hR : RLe R R') (hL : LLe L L') {x : X} {v : Value} (h : XR m R L x v) : XR m' R' L' x v := by
 induction h with
 | un v => exact .un v
 | d h => exact .d (h.mono hm)
 | ptr h =>
  obtain ⟨o', h1, h2⟩ := hR _ _ _ h
  cases o' <;> simp [RO.le] at h2
  subst h2
  exact .ptr h1
 | row h hn hv =>
  obtain ⟨o', h1, h2⟩ := hR _ _ _ h
  cases o' <;> simp [RO.le] at h2
  rcases h2 with h2 | ⟨rfl, rfl, rfl, rfl⟩
  ·exact .row h1 (by omega) (fun e => by omega)
  ·exact .row h1 hn hv
 | rp h hn hv =>
  obtain ⟨o', h1, h2⟩ := hR _ _ _ h
  cases o' <;> simp [RO.le] at h2
  rcases h2 with h2 | ⟨rfl, rfl, rfl, rfl⟩
  ·exact .rp h1 (by omega) (fun e => by omega)
  ·exact .rp h1 hn hv
 | map h =>
  obtain ⟨o', h1, h2⟩ := hR _ _ _ h
  cases o' <;> simp [RO.le] at h2
  subst h2
  exact .map h1
 | fn ha hb _ _ i1 i2 => exact .fn ha hb i1 i2
 | yld h => exact .yld (hL _ _ h)
 | agg hn hs _ i => exact .agg hn hs i
 | tup hn _ i => exact .tup hn i
theorem XR.sc1 {m : Imm} {R : RM} {L : LM} {x : X} {v : Value} (h : XR m R L x v) (hx : x.sc = true) : sc1 v := by
 cases h with
 | d h => exact h.sc1 hx
 | un => simp [X.sc] at hx
 | agg => simp [X.sc] at hx
 | tup => simp [X.sc] at hx
 | _ => trivial
theorem z7e {l : Nat} {ss : List Nat} : ∀ {xs : List X}, X.refsL l ss xs = false → ∀ (j : Nat) x, xs[j]? = some x → X.refs l ss x = false
 | [], _, j, x, h => by simp at h
 | y :: t, h, j, x, hx => by
  simp only [X.refsL, Bool.or_eq_false_iff] at h
  cases j with
  | zero => simp at hx; subst hx; exact h.1
  | succ j => simp at hx; exact z7e h.2 j x hx
theorem XR.other {m : Imm} {R R' : RM} {L : LM} {l : Nat} {ss : List Nat} (hR : ∀ l' s, ¬ (l' = l ∧ s ∈ ss) → R' l' s = R l' s) {x : X} {v : Value} (h : XR m R L x v) : X.refs l ss x = false → XR m R' L x v := by
 have key : ∀ l' s, (decide (l' = l) && ss.contains s) = false → R' l' s = R l' s := fun l' s e => hR l' s (by
  rintro ⟨rfl, hs⟩
  simp [hs] at e)
 induction h with
 | un v => exact fun _ => .un v
 | d h => exact fun _ => .d h
 | ptr h => exact fun e => .ptr (by rw [key _ _ (by simpa [X.refs] using e)]; exact h)
 | row h hn hv => exact fun e => .row (by rw [key _ _ (by simpa [X.refs] using e)]; exact h) hn hv
 | rp h hn hv => exact fun e => .rp (by rw [key _ _ (by simpa [X.refs] using e)]; exact h) hn hv
 | map h => exact fun e => .map (by rw [key _ _ (by simpa [X.refs] using e)]; exact h)
 | fn ha hb _ _ i1 i2 =>
  intro e
  simp only [X.refs, Bool.or_eq_false_iff] at e
  exact .fn ha hb (fun j d hd => i1 j d hd (z7e e.1 j d hd)) (fun j d hd => i2 j d hd (z7e e.2 j d hd))
 | yld h => exact fun _ => .yld h
 | agg hn hs _ i =>
  intro e
  simp only [X.refs] at e
  exact .agg hn hs (fun j d hd => i j d hd (z7e e j d hd))
 | tup hn _ i =>
  intro e
  simp only [X.refs] at e
  exact .tup hn (fun j d hd => i j d hd (z7e e j d hd))
def RM.upto (R : RM) (l : Nat) : RM := fun l' s => if l' ≤ l then R l' s else none
def LM.below (L : LM) (lp : List LRec) (l : Nat) : LM := fun k => match lp[k]? with
 | some r => if r.lv < l then L k else none
 | none => none
theorem RM.upto_le (R : RM) (l : Nat) : RLe (R.upto l) R := fun l' s o h => by
 simp only [RM.upto] at h
 split at h
 ·exact ⟨o, h, RO.le.refl o⟩
 ·simp at h
theorem RLe.upto {R R' : RM} (h : RLe R R') (l : Nat) : RLe (R.upto l) (R'.upto l) := fun l' s o e => by
 simp only [RM.upto] at e ⊢
 split at e
 ·rename_i hl; rw [if_pos hl]; exact h _ _ _ e
 ·simp at e
theorem LM.below_mono (L : LM) (lp : List LRec) {l l' : Nat} (h : l ≤ l') : LLe (L.below lp l) (L.below lp l') := fun k q e => by
 simp only [LM.below] at e ⊢
 split at e
 ·rename_i r hr
  split at e
  ·rw [if_pos (by omega)]; exact e
  ·simp at e
 ·simp at e
theorem zbh {lp : List LRec} {l : Nat} : ∀ {xs : List X}, X.okAtL lp l xs = true → ∀ (j : Nat) x, xs[j]? = some x → X.okAt lp l x = true
 | [], _, j, x, h => by simp at h
 | y :: t, h, j, x, hx => by
  simp only [X.okAtL, Bool.and_eq_true] at h
  cases j with
  | zero => simp at hx; subst hx; exact h.1
  | succ j => simp at hx; exact zbh h.2 j x hx
theorem XR.at_level {m : Imm} {R : RM} {L : LM} {lp : List LRec} {l top : Nat} {x : X} {v : Value} (h : XR m R (L.below lp top) x v) : X.okAt lp l x = true → XR m (R.upto l) (L.below lp l) x v := by
 have key : ∀ l' s, l' ≤ l → (R.upto l) l' s = R l' s := fun l' s e => by simp [RM.upto, e]
 induction h with
 | un v => intro e; simp [X.okAt] at e
 | d h => exact fun _ => .d h
 | ptr h => exact fun e => .ptr (by rw [key _ _ (by simpa [X.okAt] using e)]; exact h)
 | row h hn hv => exact fun e => .row (by rw [key _ _ (by simpa [X.okAt] using e)]; exact h) hn hv
 | rp h hn hv => exact fun e => .rp (by rw [key _ _ (by simpa [X.okAt] using e)]; exact h) hn hv
 | map h => exact fun e => .map (by rw [key _ _ (by simpa [X.okAt] using e)]; exact h)
 | fn ha hb _ _ i1 i2 =>
  intro e
  simp only [X.okAt, Bool.and_eq_true] at e
  exact .fn ha hb (fun j d hd => i1 j d hd (zbh e.1 j d hd)) (fun j d hd => i2 j d hd (zbh e.2 j d hd))
 | yld h =>
  intro e
  simp only [X.okAt] at e
  refine .yld ?_
  simp only [LM.below] at h ⊢
  split at e
  ·rename_i r hr
   simp only [hr] at h ⊢
   split at h
   ·rw [if_pos (by simpa using e)]; exact h
   ·simp at h
  ·simp at e
 | agg hn hs _ i =>
  intro e
  simp only [X.okAt] at e
  exact .agg hn hs (fun j d hd => i j d hd (zbh e j d hd))
 | tup hn _ i =>
  intro e
  simp only [X.okAt] at e
  exact .tup hn (fun j d hd => i j d hd (zbh e j d hd))
theorem zLf {α : Type} (k : Nat) (v : α) : ∀ l : List (Nat × α), aget k (aset k v l) = some v
 | [] => by simp [aset, aget]
 | p :: t => by
  simp only [aset]
  split
  ·simp [aget]
  ·rename_i h; simp [aget, h, zLf k v t]
theorem zXe {α : Type} {k k' : Nat} (v : α) (h : k' ≠ k) : ∀ l : List (Nat × α), aget k' (aset k v l) = aget k' l
 | [] => by simp [aset, aget, Ne.symm h]
 | p :: t => by
  simp only [aset]
  split
  ·rename_i e; simp [aget, Ne.symm h, e]
  ·simp only [aget]
   split
   ·rfl
   ·exact zXe v h t
theorem z2d {α : Type} (k : Nat) : ∀ l l' : List (Nat × α), aget k (l ++ l') = (match aget k l with | some v => some v | none => aget k l')
 | [], l' => by simp [aget]
 | p :: t, l' => by
  simp only [List.cons_append, aget]
  split
  ·rfl
  ·exact z2d k t l'
theorem z6h {α : Type} {k : Nat} {v : α} (f : Nat × α → Bool) : ∀ {l : List (Nat × α)}, (∀ p, p ∈ l → p.1 = k → f p = true) → aget k l = some v → aget k (l.filter f) = some v
 | [], _, h => by simp [aget] at h
 | p :: t, hf, h => by
  simp only [aget] at h
  split at h
  ·rename_i e
   rw [List.filter_cons, if_pos (hf p (by simp) e)]
   simp [aget, e]; simpa using h
  ·rename_i e
   rw [List.filter_cons]
   split
   ·simp only [aget, e, if_false]; exact z6h f (fun q hq => hf q (by simp [hq])) h
   ·exact z6h f (fun q hq => hf q (by simp [hq])) h
theorem zgi (tm : TM) (d : Option Nat) (x : X) (t : Nat) : tget (tput tm d x) t = if d = some t then x else tget tm t := by
 cases d with
 | none => simp [tput]
 | some k =>
  simp only [tput, tget, Option.some.injEq]
  split
  ·rename_i e; subst e; simp [zLf]
  ·rename_i e; rw [zXe _ (Ne.symm e)]
theorem FS.get_set (fs : FS) (l s : Nat) (o : O) (h : (fs.get l s).isSome = true) (l' s' : Nat) : (fs.set l s o).get l' s' = if l' = l ∧ s' = s then some o else fs.get l' s' := by
 unfold FS.set FS.get at *
 by_cases e : l = fs.lo.length
 ·simp only [e, if_true] at h ⊢
  by_cases e' : l' = fs.lo.length
  ·simp only [e', if_true, true_and]
   split
   ·rename_i h; rw [h, zLf]
   ·rename_i h; rw [zXe _ h]
  ·simp [e']
 ·simp only [e, if_false] at h ⊢
  have hl : l < fs.lo.length := by
   rcases Nat.lt_or_ge l fs.lo.length with g | g
   ·exact g
   ·simp [List.getElem?_eq_none g] at h
  simp only [List.length_modify]
  by_cases e' : l' = fs.lo.length
  ·simp only [e', if_true]
   rw [if_neg (by omega)]
  ·simp only [e', if_false]
   rw [List.getElem?_modify]
   by_cases e2 : l = l'
   ·subst e2
    simp only [if_true, true_and]
    rw [List.getElem?_eq_getElem hl]
    simp only [Option.map_eq_map, Option.map_some, Option.bind_some]
    split
    ·rename_i h; rw [h, zLf]
    ·rename_i h; rw [zXe _ h]
   ·simp only [e2, if_false]
    rw [if_neg (by omega)]
    cases fs.lo[l']? <;> simp
theorem FS.lo_set (fs : FS) (l s : Nat) (o : O) : (fs.set l s o).lo.length = fs.lo.length := by
 unfold FS.set
 split <;> simp
end Go.AM
namespace Go.AM
open Go Go.RowKit
def z8s (N : Nat) (ops : Array Oper) : Bool := ops.toList.all fun o => match o.dst with
 | some d => decide (d < N)
 | none => true
def zsb (ops : Array Oper) (o : Oper) : List Nat :=
 (match o.guard with
  | some g => ((ops[g.1]?).bind (·.dst)).toList
  | none => []) ++ o.op.operands.toList.filterMap fun | .tmp t => some t | _ => none
def zgc (b : Array Nat) (i j : Nat) : Bool := (b.getD j 0).testBit i
def zZw (o : Oper) (s : Nat) : Bool :=
 match o.op with
 | .store .. => o.guard.isNone
 | .slice .. => o.guard.isNone
 | .call _ => o.guard.isNone
 | .mapEntry .. => o.guard.isNone
 | .mapUpdate .. => o.guard.isNone
 | _ => false
def zaq (ops : Array Oper) (o p : Oper) : Bool :=
 (match o.dst with
  | some d => p.dst != some d && !(zsb ops p).contains d
  | none => true) &&
 (match p.dst with
  | some d => !(zsb ops o).contains d
  | none => true)
def zOo (ops : Array Oper) (h : zub) : Bool :=
 let b := Region.before ops
 let n := ops.size
 let o := fun i => ops.getD i default
 (List.range n).all (fun j => (o j).after.toList.all fun e => !Region.binds .any e || decide (e.on < j)) &&
 (List.range n).all (fun j => (List.range j).all fun i => zgc b i j || zaq ops (o i) (o j)) &&
 h.sp.all (fun j => (List.range n).all fun i => decide (i = j) || (if i < j then zgc b i j else zgc b j i)) &&
 h.soft.all (fun p => decide (p.1 < n) && zZw (o p.1) p.2 &&
  (List.range n).all fun i => decide (i = p.1) || zgc b i p.1 || zgc b p.1 i ||
   (if wide p.2 (o p.1).op then zai (o p.1).op (o i).op && (aget i h.soft).isNone
    else (match aget i h.forb with | some ss => ss.contains p.2 | none => false) && (match aget i h.soft with | some s => s != p.2 | none => true))) &&
 (List.range n).all (fun j => ((zwb (o j)).isNone && (rowD h j (o j)).isNone) || (List.range j).all fun i => !h.sp.contains i) &&
 h.soft.all (fun p => !zjj h p.1 (o p.1) || (List.range n).all fun j => (zwb (o j)).isNone && (rowD h j (o j)).isNone)
def zXb (h : Hint) (N : Nat) : Code → Bool
 | .region id ops draw => z8s N ops && (!draw || (match znn h id with | some d => zOo ops d | none => true))
 | .seq a b => zXb h N a && zXb h N b
 | .cond _ a b => zXb h N a && zXb h N b
 | .block _ c => zXb h N c
 | .loop c => zXb h N c
 | .rangeFunc _ ps a b => ps.toList.all (fun t => decide (t < N)) && zXb h N a && zXb h N b
 | .scope c => zXb h N c
 | _ => true
def zuw (E : Env) : Bool := E.F.all fun f => match E.P.funcs[f]? with
 | some fn => match fn.body with
  | some c => zXb (E.H f) fn.ntmps c
  | none => true
 | none => true
def RO.block : RO → Option Nat
 | .blk β => some β
 | .map r => some r
 | .hdr _ a _ cap => if cap = 0 then none else a.map (·.block)
def stv : LSt → LoopState
 | .rdy => .ready
 | .busy => .busy
 | .done _ => .done
def exc : Ex → Option Code
 | .nor => none
 | .exit id => some (.exit id)
 | .ret => some .ret
def pdv : LSt → Option Code
 | .done e => exc e
 | _ => none
def OR (m : Imm) (R : RM) (L : LM) (w : World) : O → RO → Prop
 | .cells cs, .blk β => ∃ arr T, w.heap[β]? = some (.cells arr T (0, 0)) ∧ arr.size = cs.length ∧ (∀ x, x ∈ cs → x.sc = true) ∧
   (∀ (j : Nat) x, cs[j]? = some x → XR m R L x (arr.getD j undef)) ∧ ∀ o, m.cell β o = none
 | .row z es wr, .hdr z' a n cap => z' = z ∧ 0 < z ∧ n = es.length ∧ n ≤ cap ∧ (∀ e, e ∈ es → e.length = z) ∧ (∀ e, e ∈ es → ∀ d, d ∈ e → d.sc = true) ∧
   ∃ β o sp, a = some ⟨β, o, sp⟩ ∧ (0 < cap → sp = none ∧ o = 0 ∧ ∃ arr T, w.heap[β]? = some (.cells arr T (0, 0)) ∧ arr.size = cap * z ∧
    (∀ (i j : Nat) e d, es[i]? = some e → e[j]? = some d → DR m d (arr.getD (i * z + j) undef)) ∧ (∀ o, n * z ≤ o → m.cell β o = none) ∧
    (wr = true → ∀ o, m.cell β o = none) ∧ (wr = false → ∀ o, o < n * z → m.cell β o = some (arr.getD o undef)))
 | .nrow, .hdr z a n cap => z = 0 ∧ a = none ∧ n = 0 ∧ cap = 0
 | .map es, .map r => ∃ ents c, w.heap[r]? = some (.map ents c) ∧ ents.size = es.length ∧ (∀ (j : Nat) p, es[j]? = some p → DR m p.1 (ents.getD j default).key) ∧
   (∀ (j : Nat) p, es[j]? = some p → DR m p.2 (ents.getD j default).val) ∧ m.map r = none ∧ c = ents.size ∧ ∀ j, j < ents.size → (ents.getD j default).born = j
 | _, _ => False
def LR (E : Env) (m : Imm) (R : RM) (L : LM) (w : World) (r : LRec) (q : Nat) : Prop :=
 ∃ arr fn df, w.heap[q]? = some (.loop { state := stv r.st, pending := pdv r.st, fn := fn, tmps := arr, params := r.ps, assign := r.assign, body := r.body, defers := df }) ∧
  (∀ t, XR m R L (tget r.tm t) (arr.getD t undef)) ∧ (∀ t, t ∈ r.ps.toList → t < arr.size) ∧ zXb (E.H r.fid) arr.size r.assign = true ∧ zXb (E.H r.fid) arr.size r.body = true
structure Base where
 w : World
 m : Imm
structure WR (E : Env) (m : Imm) (n0 : Nat) (w0 : Base) (R : RM) (L : LM) (fs : FS) (lp : List LRec) (w : World) : Prop where
 imm : ∀ b o v, m.cell b o = some v → w.cell? ⟨b, o, none⟩ = some v
 immm : ∀ r e, m.map r = some e → ∃ c, w.heap[r]? = some (.map e c)
 obj : ∀ l s ro, R l s = some ro → ∃ o, fs.get l s = some o ∧ OR m (R.upto l) (L.below lp l) w o ro
 disj : ∀ l s ro l' s' ro' β, R l s = some ro → R l' s' = some ro' → ro.block = some β → ro'.block = some β → l = l' ∧ s = s'
 base : ∀ l s ro β, R l s = some ro → ro.block = some β → n0 ≤ β
 below : Below n0 w0.w w
 own : ∀ b o v, m.cell b o = some v → w0.m.cell b o = some v ∨ n0 ≤ b
 ownm : ∀ r e, m.map r = some e → w0.m.map r = some e ∨ n0 ≤ r
 loops : ∀ k r, lp[k]? = some r → r.lv < fs.lo.length ∧ ∃ q, L k = some q ∧ n0 ≤ q ∧ LR E m (R.upto r.lv) (L.below lp r.lv) w r q
 linj : ∀ k k' q, k < lp.length → k' < lp.length → L k = some q → L k' = some q → k = k'
 glob : ∀ g cs, E.G g = some cs → DR m (.pin cs) (.pointer (some ⟨g, 0, none⟩))
 n0le : n0 ≤ w.heap.size
def TR (m : Imm) (R : RM) (L : LM) (tm : TM) (arr : Array Value) : Prop := ∀ t, XR m R L (tget tm t) (arr.getD t undef)
theorem OR.mono {m m' : Imm} {R R' : RM} {L L' : LM} {w w' : World} {o : O} {ro : RO} (hm : m.le m') (hR : RLe R R') (hL : LLe L L')
  (hb : ∀ β, ro.block = some β → w'.heap[β]? = w.heap[β]? ∧ (∀ o, m'.cell β o = m.cell β o) ∧ m'.map β = m.map β) (h : OR m R L w o ro) : OR m' R' L' w' o ro := by
 cases o <;> cases ro <;> simp only [OR] at h ⊢
 ·obtain ⟨arr, T, h1, h2, h3, h4, h5⟩ := h
  obtain ⟨e1, e2, _⟩ := hb _ rfl
  exact ⟨arr, T, by rw [e1]; exact h1, h2, h3, fun j x hx => (h4 j x hx).mono hm hR hL, fun o => by rw [e2]; exact h5 o⟩
 ·obtain ⟨h1, h2, h3, h4, h5, h6, β, o, sp, h7, h8⟩ := h
  refine ⟨h1, h2, h3, h4, h5, h6, β, o, sp, h7, fun hc => ?_⟩
  obtain ⟨h10, h9, arr, T, a1, a2, a3, a4, a5, a6⟩ := h8 hc
  obtain ⟨e1, e2, _⟩ := hb β (by subst h7; simp [RO.block]; omega)
  exact ⟨h10, h9, arr, T, by rw [e1]; exact a1, a2, fun i j e d x y => (a3 i j e d x y).mono hm, fun o ho => by rw [e2]; exact a4 o ho, fun hw o => by rw [e2]; exact a5 hw o, fun hw o ho => by rw [e2]; exact a6 hw o ho⟩
 ·exact h
 ·obtain ⟨ents, c, h1, h2, h3, h4, h5, h6⟩ := h
  obtain ⟨e1, _, e3⟩ := hb _ rfl
  exact ⟨ents, c, by rw [e1]; exact h1, h2, fun j p x => (h3 j p x).mono hm, fun j p x => (h4 j p x).mono hm, by rw [e3]; exact h5, h6⟩
theorem OR.lt {m : Imm} {R : RM} {L : LM} {w : World} {o : O} {ro : RO} (h : OR m R L w o ro) {β : Nat} (hb : ro.block = some β) : β < w.heap.size := by
 cases o <;> cases ro <;> simp only [OR] at h <;> simp only [RO.block] at hb
 ·obtain ⟨arr, T, h1, _⟩ := h
  simp at hb; subst hb
  exact (Array.getElem?_eq_some_iff.1 h1).1
 ·obtain ⟨h1, h2, h3, h4, h5, h6, β', o, sp, rfl, h8⟩ := h
  split at hb
  ·simp at hb
  ·rename_i hc
   simp at hb; subst hb
   obtain ⟨_, _, arr, T, a1, _⟩ := h8 (by omega)
   exact (Array.getElem?_eq_some_iff.1 a1).1
 ·obtain ⟨_, _, _, h⟩ := h
  simp [h] at hb
 ·obtain ⟨ents, c, h1, _⟩ := h
  simp at hb; subst hb
  exact (Array.getElem?_eq_some_iff.1 h1).1
theorem LR.mono {E : Env} {m m' : Imm} {R R' : RM} {L L' : LM} {w w' : World} {r : LRec} {q : Nat} (hm : m.le m') (hR : RLe R R') (hL : LLe L L') (hw : w'.heap[q]? = w.heap[q]?) (h : LR E m R L w r q) : LR E m' R' L' w' r q := by
 obtain ⟨arr, fn, df, h1, h2, h3⟩ := h
 exact ⟨arr, fn, df, by rw [hw]; exact h1, fun t => (h2 t).mono hm hR hL, h3⟩
theorem LR.lt {E : Env} {m : Imm} {R : RM} {L : LM} {w : World} {r : LRec} {q : Nat} (h : LR E m R L w r q) : q < w.heap.size := by
 obtain ⟨arr, fn, df, h1, _⟩ := h
 exact (Array.getElem?_eq_some_iff.1 h1).1
theorem TR.mono {m m' : Imm} {R R' : RM} {L L' : LM} {tm : TM} {arr : Array Value} (hm : m.le m') (hR : RLe R R') (hL : LLe L L') (h : TR m R L tm arr) : TR m' R' L' tm arr := fun t => (h t).mono hm hR hL
theorem zph {w w' : World} {a : Addr} (h : w'.heap[a.block]? = w.heap[a.block]?) : w'.cell? a = w.cell? a := by simp only [World.cell?, h]
theorem WR.grow {E : Env} {m : Imm} {n0 : Nat} {w0 : Base} {R : RM} {L : LM} {fs : FS} {lp : List LRec} {w : World} (h : WR E m n0 w0 R L fs lp w) {m' : Imm} {w' : World} (hm : m.le m')
  (hw : Below w.heap.size w w')
  (hn : ∀ b o v, m'.cell b o = some v → m.cell b o = some v ∨ (w.heap.size ≤ b ∧ w'.cell? ⟨b, o, none⟩ = some v))
  (hn' : ∀ r e, m'.map r = some e → m.map r = some e ∨ (w.heap.size ≤ r ∧ ∃ c, w'.heap[r]? = some (.map e c))) : WR E m' n0 w0 R L fs lp w' where
 imm b o v hv := by
  rcases hn b o v hv with h1 | h1
  ·have := h.imm b o v h1
   rw [zph (hw.block _ (World.block_lt_of_cell? w _ this))]
   exact this
  ·exact h1.2
 immm r e hv := by
  rcases hn' r e hv with h1 | h1
  ·obtain ⟨c, hc⟩ := h.immm r e h1
   exact ⟨c, by rw [hw.block _ (Array.getElem?_eq_some_iff.1 hc).1]; exact hc⟩
  ·exact h1.2
 obj l s ro hr := by
  obtain ⟨o, h1, h2⟩ := h.obj l s ro hr
  refine ⟨o, h1, h2.mono hm (RLe.refl _) (LLe.refl _) fun β hβ => ?_⟩
  have hlt := h2.lt hβ
  refine ⟨hw.block _ hlt, fun o => ?_, ?_⟩
  ·cases hc : m.cell β o with
   | some v => rw [hm.cell _ _ _ hc]
   | none =>
    cases hc' : m'.cell β o with
    | none => rfl
    | some v =>
     rcases hn β o v hc' with h3 | h3
     ·rw [hc] at h3; cases h3
     ·omega
  ·cases hc : m.map β with
   | some v => rw [hm.map _ _ hc]
   | none =>
    cases hc' : m'.map β with
    | none => rfl
    | some v =>
     rcases hn' β v hc' with h3 | h3
     ·rw [hc] at h3; cases h3
     ·omega
 disj := h.disj
 base := h.base
 below := h.below.trans (hw.mono h.n0le)
 own b o v hv := by
  rcases hn b o v hv with h1 | h1
  ·exact h.own b o v h1
  ·exact .inr (Nat.le_trans h.n0le h1.1)
 ownm r e hv := by
  rcases hn' r e hv with h1 | h1
  ·exact h.ownm r e h1
  ·exact .inr (Nat.le_trans h.n0le h1.1)
 loops k r hk := by
  obtain ⟨h1, q, h2, h3, h4⟩ := h.loops k r hk
  exact ⟨h1, q, h2, h3, h4.mono hm (RLe.refl _) (LLe.refl _) (hw.block _ h4.lt)⟩
 linj := h.linj
 glob g cs hg := (h.glob g cs hg).mono hm
 n0le := Nat.le_trans h.n0le hw.size
theorem zRx (ds : List D) : allD (ds.map .d) = some ds := by
 induction ds with
 | nil => rfl
 | cons d t ih => simp [allD, ih]
theorem zGe : ∀ {cs : List X} {ds : List D}, allD cs = some ds → cs = ds.map .d
 | [], ds, h => by simp [allD] at h; subst h; rfl
 | x :: t, ds, h => by
  simp only [allD] at h
  split at h
  ·rename_i y ys hx
   simp at h
   subst h
   rw [zGe hx]; simp
  ·simp at h
@[simp] theorem zYs (ds : List D) : zur (ds.map .d) = .d (.agg ds) := by simp [zur, zRx]
theorem XR.mkAgg {m : Imm} {R : RM} {L : LM} {cs : List X} {arr : Array Value} (hn : arr.size = cs.length) (hs : ∀ x, x ∈ cs → x.sc = true) (h : ∀ (j : Nat) x, cs[j]? = some x → XR m R L x (arr.getD j undef)) : XR m R L (zur cs) (.agg arr) := by
 unfold AM.zur
 split
 ·rename_i ds hd
  obtain rfl := zGe hd
  refine .d (.agg (by simpa using hn) (fun d hd => hs (.d d) (by simp [hd])) fun j d hj => ?_)
  have := h j (.d d) (by simp [hj])
  cases this with
  | d h => exact h
 ·exact .agg hn hs h
theorem zXl {ag : Bool} {n : Nat} {ds : List D} {d : D} (h : zEg ag n ds = some d) : grab ag n (ds.map .d) = some (.d d) := by
 unfold zEg at h
 unfold grab
 cases ag
 ·simp at h ⊢
  exact h
 ·simp only [if_true] at h ⊢
  split at h
  ·rename_i hn
   rw [if_pos (by simpa using hn), ← List.map_take, zYs]
   simpa using h
  ·simp at h
section
variable {P : Program}
theorem z4k {T : TypeId} {n : Nat} {ag : Bool} (h : tyT P T = some (n, ag)) : szT P T = some n ∧ agT P T = some ag := by
 unfold tyT at h
 split at h
 ·rename_i a b h1 h2
  simp at h
  exact ⟨by rw [h1, h.1], by rw [h2, h.2]⟩
 ·simp at h
theorem zhq {T : TypeId} {n : Nat} (h : szT P T = some n) : ∃ i, P.info? T = some i ∧ i.size = n := by
 unfold szT at h
 simpa using h
theorem zHc {T : TypeId} {n : Nat} (h : szT P T = some n) (w : World) : (sizeOf T).run P w = .ok n w := by
 obtain ⟨i, h1, h2⟩ := zhq h
 simp [sizeOf, typeInfo, h1, h2]
theorem zMk {T : TypeId} {ag : Bool} (h : agT P T = some ag) (w : World) : (isAgg T).run P w = .ok ag w := by
 unfold agT at h
 simp only [Option.map_eq_some_iff] at h
 obtain ⟨d, h1, h2⟩ := h
 unfold isAgg
 rw [Sem.run_bind, run_underlying h1]
 subst h2
 cases d <;> rfl
theorem zVz (β o j : Nat) (sp : Option Nat) : (⟨β, o, sp⟩ : Addr).add j = ⟨β, o + j, if j = 0 then sp else none⟩ := by
 unfold Addr.add
 split
 ·rename_i h; simp [h]
 ·rfl
theorem zQj (β o j : Nat) : (⟨β, o, none⟩ : Addr).add j = ⟨β, o + j, none⟩ := by
 unfold Addr.add
 split
 ·rename_i h; simp [h]
 ·rfl
theorem zYh {m : Imm} {R : RM} {L : LM} {T : TypeId} {n : Nat} {ag : Bool} (ht : tyT P T = some (n, ag)) {cs : List X} {x : X} (hg : grab ag n cs = some x) {w : World} {β o : Nat}
  (f : Nat → Value) (hc : ∀ (j : Nat) y, cs[j]? = some y → w.cell? ⟨β, o + j, none⟩ = some (f j)) (hs : ∀ y, y ∈ cs → y.sc = true) (hx : ∀ (j : Nat) y, cs[j]? = some y → XR m R L y (f j)) :
  ∃ v, (loadVar T ⟨β, o, none⟩).run P w = .ok v w ∧ XR m R L x v := by
 obtain ⟨h1, h2⟩ := z4k ht
 unfold loadVar
 rw [Sem.run_bind, zMk h2]
 simp only [Result.andThen_ok]
 unfold grab at hg
 cases ag
 ·simp only [Bool.false_eq_true, if_false] at hg ⊢
  have hj : cs[0]? = some x := by cases cs <;> simp_all
  refine ⟨f 0, ?_, hx 0 x hj⟩
  have := hc 0 x hj
  simp only [Nat.add_zero] at this
  simp [this]
 ·simp only [if_true] at hg ⊢
  split at hg
  ·rename_i hn
   simp only [Option.some.injEq] at hg
   subst hg
   refine ⟨.agg ((List.range n).map f).toArray, ?_, ?_⟩
   ·rw [Sem.run_bind, zHc h1]
    simp only [Result.andThen_ok]
    rw [Sem.run_bind]
    rw [run_loadCells w ⟨β, o, none⟩ n f fun j hj => by
     rw [zQj]
     exact hc j cs[j] (by simp)]
    simp
   ·refine XR.mkAgg (by simp; omega) (fun y hy => hs y (List.mem_of_mem_take hy)) fun j y hj => ?_
    have hj' : j < n := by
     have := (List.getElem?_eq_some_iff.1 hj).1
     simp at this; omega
    rw [List.getElem?_take, if_pos hj'] at hj
    have := hx j y hj
    simpa [Array.getD, hj'] using this
  ·simp at hg
end
end Go.AM
set_option linter.unusedSimpArgs false
set_option linter.unusedVariables false
namespace Go.AM
open Go Go.RowKit
theorem DR.pin_drop {m : Imm} {cs : List D} {β o : Nat} (h : DR m (.pin cs) (.pointer (some ⟨β, o, none⟩))) (k : Nat) : DR m (.pin (cs.drop k)) (.pointer (some ⟨β, o + k, none⟩)) := by
 cases h with
 | pin g hs h h' =>
  refine .pin (fun j => g (k + j)) (fun d hd => hs d (List.mem_of_mem_drop hd)) (fun j d hj => ?_) (fun j d hj => ?_)
  ·rw [List.getElem?_drop] at hj
   rw [Nat.add_assoc]
   exact h _ _ hj
  ·rw [List.getElem?_drop] at hj
   exact h' _ _ hj
theorem DR.pin_addr {m : Imm} {cs : List D} {v : Value} (h : DR m (.pin cs) v) : ∃ β o, v = .pointer (some ⟨β, o, none⟩) := by
 cases h with
 | pin => exact ⟨_, _, rfl⟩
theorem DR.pin_cells {m : Imm} {cs : List D} {β o : Nat} (h : DR m (.pin cs) (.pointer (some ⟨β, o, none⟩))) :
  ∃ g : Nat → Value, (∀ d, d ∈ cs → d.sc = true) ∧ (∀ j d, cs[j]? = some d → m.cell β (o + j) = some (g j)) ∧ ∀ (j : Nat) d, cs[j]? = some d → DR m d (g j) := by
 cases h with
 | pin g hs h h' => exact ⟨g, hs, h, h'⟩
section
variable {E : Env} {m : Imm} {n0 : Nat} {w0 : Base} {R : RM} {L : LM} {fs : FS} {lp : List LRec} {w : World}
theorem WR.lvl (H : WR E m n0 w0 R L fs lp w) {l s : Nat} {ro : RO} (h : R l s = some ro) : l ≤ fs.lo.length := by
 obtain ⟨o, h1, _⟩ := H.obj l s ro h
 unfold FS.get at h1
 split at h1
 ·omega
 ·rcases Nat.lt_or_ge l fs.lo.length with g | g
  ·omega
  ·simp [List.getElem?_eq_none g] at h1
theorem WR.obj' (H : WR E m n0 w0 R L fs lp w) {l s : Nat} {ro : RO} (h : R l s = some ro) : ∃ o, fs.get l s = some o ∧ OR m R (L.below lp fs.lo.length) w o ro := by
 obtain ⟨o, h1, h2⟩ := H.obj l s ro h
 exact ⟨o, h1, h2.mono (Imm.le.refl m) (RM.upto_le R l) (L.below_mono lp (H.lvl h)) fun β _ => ⟨rfl, fun _ => rfl, rfl⟩⟩
theorem zS {α : Type} {l : List α} {i : Nat} {x : α} (h : l[i]? = some x) : i < l.length := (List.getElem?_eq_some_iff.1 h).1
theorem zUf {i j z n c : Nat} (hi : i < n) (hj : j < z) (hc : n ≤ c) : i * z + j < c * z := by
 have h1 : (i + 1) * z ≤ c * z := Nat.mul_le_mul_right z (by omega)
 rw [Nat.add_mul] at h1
 omega
def QOK (E : Env) (m : Imm) (n0 : Nat) (w0 : Base) (R : RM) (L : LM) (fs : FS) (lp : List LRec) (w : World) (x : X) (s : Sem Value) : Prop :=
 ∃ v w' m', s.run E.P w = .ok v w' ∧ m.le m' ∧ WR E m' n0 w0 R L fs lp w' ∧ Below w.heap.size w w' ∧ XR m' R (L.below lp fs.lo.length) x v
theorem QOK.same (H : WR E m n0 w0 R L fs lp w) {x : X} {s : Sem Value} {v : Value} (h : s.run E.P w = .ok v w) (hx : XR m R (L.below lp fs.lo.length) x v) : QOK E m n0 w0 R L fs lp w x s :=
 ⟨v, w, m, h, Imm.le.refl m, H, Below.refl _ _, hx⟩
theorem zWt (H : WR E m n0 w0 R L fs lp w) {l s z k cap : Nat} {a : Option Addr} (h : R l s = some (.hdr z a k cap)) {z' : Nat} {es : List (List D)} {wr : Bool} (hg : fs.get l s = some (.row z' es wr)) {i : Nat} {e : List D} (he : es[i]? = some e) :
  ∃ (β : Nat) (f : Nat → Value), a = some ⟨β, 0, none⟩ ∧ es.length = k ∧ z' = z ∧ e.length = z ∧ (∀ d, d ∈ e → d.sc = true) ∧ (∀ (j : Nat) d, e[j]? = some d → w.cell? ⟨β, i * z + j, none⟩ = some (f j)) ∧ ∀ (j : Nat) d, e[j]? = some d → DR m d (f j) := by
 obtain ⟨o, h1, h2⟩ := H.obj' h
 rw [hg] at h1
 simp only [Option.some.injEq] at h1
 subst h1
 obtain ⟨e1, e2, e3, e4, e5, e6, β, o, sp, e7, e8⟩ := h2
 have hi := zS he
 obtain ⟨rfl, rfl, arr, T, b1, b2, b3, _⟩ := e8 (by omega)
 have hm : e ∈ es := List.mem_of_getElem? he
 refine ⟨β, fun j => arr.getD (i * z' + j) undef, e7, e3.symm, e1.symm, e1 ▸ e5 e hm, e6 e hm, fun j d hd => ?_, fun j d hd => b3 i j e d he hd⟩
 have hj := zS hd
 rw [e5 e hm] at hj
 have hlt : i * z' + j < arr.size := by rw [b2]; exact zUf hi hj (by omega)
 subst e1
 simp [World.cell?, b1, Array.getD, hlt]
theorem zqu (H : WR E m n0 w0 R L fs lp w) {l s z k cap n : Nat} {a : Option Addr} (hl : live fs.get l s n = true) (h : R l s = some (.hdr z a k cap)) : n = k := by
 unfold live at hl
 split at hl
 ·rename_i z' es wr hg
  obtain ⟨o, h1, h2⟩ := H.obj' h
  rw [hg] at h1
  simp only [Option.some.injEq] at h1
  subst h1
  obtain ⟨_, _, e3, _⟩ := h2
  have := beq_iff_eq.1 hl
  omega
 ·simp at hl
theorem z5u (H : WR E m n0 w0 R L fs lp w) {T : TypeId} {p x : X} {v : Value} (hp : XR m R (L.below lp fs.lo.length) p v) (h : ldX E.P fs.get T p = some x) : ∃ u, (Instr.loadAt T v).run E.P w = .ok u w ∧ XR m R (L.below lp fs.lo.length) x u := by
 unfold ldX at h
 split at h
 ·simp at h
 ·rename_i q hq
  obtain ⟨n, ag⟩ := q
  simp only at h
  split at h
  ·rename_i cs
   obtain ⟨d, hd, rfl⟩ := Option.map_eq_some_iff.1 h
   cases hp with
   | d hp =>
    obtain ⟨β, o, rfl⟩ := hp.pin_addr
    obtain ⟨g, hs, hc, hr⟩ := hp.pin_cells
    obtain ⟨v, h1, h2⟩ := zYh (P := E.P) (m := m) (R := R) (L := L.below lp fs.lo.length) hq (zXl hd) (w := w) (β := β) (o := o) g
     (fun j y hj => by
      simp only [List.getElem?_map, Option.map_eq_some_iff] at hj
      obtain ⟨d, hj, rfl⟩ := hj
      exact H.imm _ _ _ (hc j d hj))
     (fun y hy => by
      simp only [List.mem_map] at hy
      obtain ⟨d, hd, rfl⟩ := hy
      exact hs d hd)
     (fun j y hj => by
      simp only [List.getElem?_map, Option.map_eq_some_iff] at hj
      obtain ⟨d, hj, rfl⟩ := hj
      exact .d (hr j d hj))
    exact ⟨_, by simpa [Instr.loadAt, Instr.sureAddr] using h1, h2⟩
  ·rename_i l s o
   split at h
   ·rename_i cs hcs
    cases hp with
    | @ptr _ _ _ β hb =>
     obtain ⟨ob, h1, h2⟩ := H.obj' hb
     rw [hcs] at h1
     simp only [Option.some.injEq] at h1
     subst h1
     obtain ⟨arr, T', a1, a2, a3, a4, _⟩ := h2
     obtain ⟨v, h1, h2⟩ := zYh (P := E.P) (m := m) (R := R) (L := L.below lp fs.lo.length) hq h (w := w) (β := β) (o := o) (fun j => arr.getD (o + j) undef)
      (fun j y hj => by
       rw [List.getElem?_drop] at hj
       have := zS hj
       have hlt : o + j < arr.size := by omega
       simp [World.cell?, a1, Array.getD, hlt])
      (fun y hy => a3 y (List.mem_of_mem_drop hy))
      (fun j y hj => by
       rw [List.getElem?_drop] at hj
       exact a4 _ _ hj)
     exact ⟨_, by simpa [Instr.loadAt, Instr.sureAddr] using h1, h2⟩
   ·simp at h
  ·rename_i l s k i o
   split at h
   ·rename_i z es wr hg
    split at h
    ·rename_i hk
     simp only [Option.bind_eq_some_iff, Option.map_eq_some_iff] at h
     obtain ⟨e, he, d, hd, rfl⟩ := h
     cases hp with
     | rp hb hn hv =>
      obtain ⟨β, f, rfl, k1, k2, k3, k4, k5, k6⟩ := zWt H hb hg he
      obtain ⟨_, β', hβ, rfl⟩ := hv (by omega)
      simp only [Option.some.injEq, Addr.mk.injEq, and_true] at hβ
      subst hβ
      obtain ⟨v, h1, h2⟩ := zYh (P := E.P) (m := m) (R := R) (L := L.below lp fs.lo.length) hq (zXl hd) (w := w) (β := β) (o := i * _ + o) (fun j => f (o + j))
       (fun j y hj => by
        simp only [List.getElem?_map, Option.map_eq_some_iff] at hj
        obtain ⟨d, hj, rfl⟩ := hj
        rw [List.getElem?_drop] at hj
        rw [Nat.add_assoc]
        exact k5 _ _ hj)
       (fun y hy => by
        simp only [List.mem_map] at hy
        obtain ⟨d, hd, rfl⟩ := hy
        exact k4 d (List.mem_of_mem_drop hd))
       (fun j y hj => by
        simp only [List.getElem?_map, Option.map_eq_some_iff] at hj
        obtain ⟨d, hj, rfl⟩ := hj
        rw [List.getElem?_drop] at hj
        exact .d (k6 _ _ hj))
      exact ⟨_, by simpa [Instr.loadAt, Instr.sureAddr] using h1, h2⟩
    ·simp at h
   ·simp at h
  ·simp at h
theorem zzz (H : WR E m n0 w0 R L fs lp w) {T : TypeId} {p x : X} {v : Value} (hp : XR m R (L.below lp fs.lo.length) p v) (h : ldX E.P fs.get T p = some x) : QOK E m n0 w0 R L fs lp w x (Instr.loadAt T v) := by
 obtain ⟨u, h1, h2⟩ := z5u H hp h
 exact QOK.same H h1 h2
theorem z7t {P : Program} {T : TypeId} {f off n : Nat} {ag : Bool} (h : fdT P T f = some (off, n, ag)) : ∃ fs fl, P.underlying T = some (.struct fs) ∧ fs[f]? = some fl ∧ fl.offset = off ∧ tyT P fl.type = some (n, ag) := by
 unfold fdT at h
 split at h
 ·rename_i fs hu
  simp only [Option.bind_eq_some_iff, Option.map_eq_some_iff] at h
  obtain ⟨fl, h1, p, h2, h3⟩ := h
  simp only [Prod.mk.injEq] at h3
  obtain ⟨h4, h5, h6⟩ := h3
  exact ⟨fs, fl, hu, h1, h4, by rw [h2, ← h5, ← h6]⟩
 ·simp at h
theorem zEt {P : Program} {T : TypeId} {len n : Nat} {ag : Bool} (h : arT P T = some (len, n, ag)) : ∃ e, P.underlying T = some (.array len e) ∧ tyT P e = some (n, ag) := by
 unfold arT at h
 split at h
 ·rename_i len' e hu
  simp only [Option.map_eq_some_iff] at h
  obtain ⟨p, h2, h3⟩ := h
  simp only [Prod.mk.injEq] at h3
  obtain ⟨rfl, h5, h6⟩ := h3
  exact ⟨e, hu, by rw [h2, ← h5, ← h6]⟩
 ·simp at h
theorem znq {P : Program} {T : TypeId} {n b : Nat} (h : slT P T = some (n, b)) : ∃ e i, P.underlying T = some (.slice e) ∧ P.info? e = some i ∧ i.size = n ∧ i.bytes = b := by
 unfold slT at h
 split at h
 ·rename_i e hu
  simp only [Option.map_eq_some_iff, Prod.mk.injEq] at h
  obtain ⟨i, h1, h2, h3⟩ := h
  exact ⟨e, i, hu, h1, h2, h3⟩
 ·simp at h
theorem zum {P : Program} {T : TypeId} {f off n : Nat} {ag : Bool} (h : fdT P T f = some (off, n, ag)) (hn : n ≠ 0) (β o : Nat) (w : World) :
  (Instr.fieldAt T (.pointer (some ⟨β, o, none⟩)) f).run P w = .ok (.pointer (some ⟨β, o + off, none⟩)) w := by
 obtain ⟨fs, fl, h1, h2, rfl, h4⟩ := z7t h
 have h5 := zHc (P := P) (z4k h4).1 w
 simp only [Instr.fieldAt, Sem.run_bind, run_underlying h1, Result.andThen_ok, h2, Instr.sureAddr, Sem.run_pure, Go.fieldPlace, h5, Sem.run_ite, if_neg hn, zQj]
theorem zRu (H : WR E m n0 w0 R L fs lp w) {T : TypeId} {f : Nat} {p x : X} {v : Value} (hp : XR m R (L.below lp fs.lo.length) p v) (h : faX E.P fs.get T p f = some x) : QOK E m n0 w0 R L fs lp w x (Instr.fieldAt T v f) := by
 unfold faX at h
 split at h
 ·simp at h
 ·rename_i q hq
  obtain ⟨off, n, ag⟩ := q
  simp only at h
  split at h
  ·simp at h
  ·rename_i hn
   split at h
   ·simp only [Option.some.injEq] at h
    subst h
    cases hp with
    | d hp =>
     obtain ⟨β, o, rfl⟩ := hp.pin_addr
     exact QOK.same H (zum hq hn β o w) (.d (hp.pin_drop off))
   ·simp only [Option.some.injEq] at h
    subst h
    cases hp with
    | ptr hb => exact QOK.same H (zum hq hn _ _ w) (.ptr hb)
   ·split at h
    ·rename_i l s k i o hk
     simp only [Option.some.injEq] at h
     subst h
     cases hp with
     | rp hb hn' hv =>
      have hkk := zqu H hk hb
      obtain ⟨hi, β, rfl, rfl⟩ := hv hkk
      exact QOK.same H (zum hq hn _ _ w) (.rp hb hn' fun _ => ⟨hi, β, rfl, by rw [Nat.add_assoc]⟩)
    ·simp at h
   ·simp at h
theorem znj {P : Program} {T : TypeId} {len n : Nat} {ag : Bool} (h : arT P T = some (len, n, ag)) (k : IntKind) (i : Int) (h0 : 0 ≤ i) (h1 : i < (len : Int)) (β o : Nat) (w : World) :
  (Instr.indexAt T (.pointer (some ⟨β, o, none⟩)) (.int k i)).run P w = .ok (.pointer (some ⟨β, o + i.toNat * n, none⟩)) w := by
 obtain ⟨e, h2, h3⟩ := zEt h
 have h5 := zHc (P := P) (z4k h3).1 w
 simp only [Instr.indexAt, asIntOf, Sem.run_bind, Sem.run_pure, run_underlying h2, Result.andThen_ok, Instr.sureAddr]
 simp only [Sem.run_ite, h0, h1, and_self, if_true, Sem.run_bind, h5, Result.andThen_ok, Sem.run_pure, zQj]
theorem zFm {P : Program} {T : TypeId} {n b : Nat} (h : slT P T = some (n, b)) (k : IntKind) (i : Int) (len cap : Nat) (h0 : 0 ≤ i) (h1 : i < (len : Int)) (β o : Nat) (w : World) :
  (Instr.indexAt T (.slice (some ⟨β, o, none⟩) len cap) (.int k i)).run P w = .ok (.pointer (some ⟨β, o + i.toNat * n, none⟩)) w := by
 obtain ⟨e, inf, h2, h3, rfl, _⟩ := znq h
 have h5 : (sizeOf e).run P w = .ok inf.size w := by simp [sizeOf, typeInfo, h3]
 simp only [Instr.indexAt, asIntOf, Sem.run_bind, Sem.run_pure, run_underlying h2, Result.andThen_ok]
 simp only [Sem.run_ite, h0, h1, and_self, if_true, Sem.run_bind, h5, Result.andThen_ok, Sem.run_pure, zQj]
theorem zvq {m : Imm} {R : RM} {L : LM} {x : X} {v : Value} {n : Int} (h : XR m R L x v) (hi : intX x = some n) : ∃ k, v = .int k n := by
 unfold intX at hi
 split at hi
 ·simp only [Option.some.injEq] at hi
  subst hi
  cases h with
  | d h => cases h with
   | i => exact ⟨_, rfl⟩
 ·simp at hi
theorem DR.sl_elem {m : Imm} {es : List (List D)} {c : Cap} {v : Value} (h : DR m (.sl es c) v) {i : Nat} {e : List D} (he : es[i]? = some e) :
  ∃ β o cap, v = .slice (some ⟨β, o, none⟩) es.length cap ∧ DR m (.pin e) (.pointer (some ⟨β, o + i * e.length, none⟩)) := by
 cases h with
 | nils => simp at he
 | @sl _ _ β o cap sp z g hsp hc hex hcap hz hs h h' =>
  have hm : e ∈ es := List.mem_of_getElem? he
  obtain rfl := hsp (List.ne_nil_of_mem hm)
  refine ⟨β, o, cap, rfl, .pin (fun j => g i j) (hs e hm) (fun j d hd => ?_) (fun j d hd => h' i j e d he hd)⟩
  rw [hz e hm, Nat.add_assoc]
  exact h i j e d he hd
theorem zNu (H : WR E m n0 w0 R L fs lp w) {T : TypeId} {p i x : X} {v iv : Value} (hp : XR m R (L.below lp fs.lo.length) p v) (hi : XR m R (L.below lp fs.lo.length) i iv) (h : iaX E.P fs.get T p i = some x) : QOK E m n0 w0 R L fs lp w x (Instr.indexAt T v iv) := by
 unfold iaX at h
 split at h
 ·simp at h
 ·rename_i n hn
  obtain ⟨k, rfl⟩ := zvq hi hn
  split at h
  ·rename_i q hq
   obtain ⟨len, sz, ag⟩ := q
   simp only at h
   split at h
   ·rename_i hb
    split at h
    ·simp only [Option.some.injEq] at h
     subst h
     cases hp with
     | d hp =>
      obtain ⟨β, o, rfl⟩ := hp.pin_addr
      exact QOK.same H (znj hq k n hb.1 hb.2 β o w) (.d (hp.pin_drop _))
    ·simp only [Option.some.injEq] at h
     subst h
     cases hp with
     | ptr hb' => exact QOK.same H (znj hq k n hb.1 hb.2 _ _ w) (.ptr hb')
    ·split at h
     ·rename_i l s k' j o hk
      simp only [Option.some.injEq] at h
      subst h
      cases hp with
      | rp hb' hn' hv =>
       have hkk := zqu H hk hb'
       obtain ⟨hi, β, rfl, rfl⟩ := hv hkk
       exact QOK.same H (znj hq k n hb.1 hb.2 _ _ w) (.rp hb' hn' fun _ => ⟨hi, β, rfl, by rw [Nat.add_assoc]⟩)
     ·simp at h
    ·simp at h
   ·simp at h
  ·split at h
   ·simp at h
   ·rename_i q hq
    obtain ⟨sz, by_⟩ := q
    simp only at h
    split at h
    ·rename_i es c
     split at h
     ·rename_i h0
      simp only [Option.bind_eq_some_iff] at h
      obtain ⟨e, he, h⟩ := h
      split at h
      ·rename_i hz
       simp only [Option.some.injEq] at h
       subst h
       cases hp with
       | d hp =>
        obtain ⟨β, o, cap, rfl, hd⟩ := hp.sl_elem he
        have := zS he
        rw [hz] at hd
        exact QOK.same H (zFm hq k n es.length cap h0 (by omega) β o w) (.d hd)
      ·simp at h
     ·simp at h
    ·rename_i l s k'
     split at h
     ·rename_i z es wr hg
      split at h
      ·rename_i hc
       obtain ⟨c1, c2, c3, c4⟩ := hc
       simp only [Option.some.injEq] at h
       subst h
       cases hp with
       | @row _ _ _ z' kk cap a a' n' c' hb hn' hv =>
        have hlt : n.toNat < es.length := by omega
        obtain ⟨β, f, rfl, k1, k2, _⟩ := zWt H hb hg (List.getElem?_eq_getElem hlt)
        obtain ⟨rfl, rfl, rfl⟩ := hv (by omega)
        refine QOK.same H (zFm hq k n _ _ c3 (by omega) β 0 w) (.rp hb hn' fun _ => ⟨by omega, β, rfl, ?_⟩)
        rw [← k2, c2]; simp
      ·simp at h
     ·simp at h
    ·simp at h
theorem z1t {m : Imm} {R : RM} {L : LM} {P : Program} {T : TypeId} {n : Nat} {ag : Bool} (ht : tyT P T = some (n, ag)) {cs : List X} {arr : Array Value} {o : Nat} {x : X} (hg : grab ag n (cs.drop o) = some x)
  (hn : arr.size = cs.length) (hs : ∀ y, y ∈ cs → y.sc = true) (hx : ∀ (j : Nat) y, cs[j]? = some y → XR m R L y (arr.getD j undef)) (w : World) : ∃ v, (part T arr o).run P w = .ok v w ∧ XR m R L x v := by
 obtain ⟨h1, h2⟩ := z4k ht
 unfold part
 rw [Sem.run_bind, zMk h2]
 simp only [Result.andThen_ok]
 unfold grab at hg
 cases ag
 ·simp only [Bool.false_eq_true, if_false] at hg ⊢
  have hj : cs[o]? = some x := by rw [List.head?_drop] at hg; exact hg
  have hlt := zS hj
  refine ⟨arr.getD o undef, ?_, hx o x hj⟩
  have : o < arr.size := by omega
  simp [this, Array.getD]
 ·simp only [if_true] at hg ⊢
  split at hg
  ·rename_i hle
   simp only [Option.some.injEq] at hg
   subst hg
   simp only [List.length_drop] at hle
   refine ⟨.agg (arr.extract o (o + n)), ?_, ?_⟩
   ·rw [Sem.run_bind, zHc h1]
    simp
   ·by_cases hz : n = 0
    ·subst hz
     refine XR.mkAgg (by simp; omega) (fun y hy => by simp at hy) fun j y hj => by simp at hj
    refine XR.mkAgg (by simp; omega) (fun y hy => hs y (List.mem_of_mem_drop (List.mem_of_mem_take hy))) fun j y hj => ?_
    have hj' : j < n := by
     have := (List.getElem?_eq_some_iff.1 hj).1
     simp at this; omega
    rw [List.getElem?_take, if_pos hj', List.getElem?_drop] at hj
    have := hx _ y hj
    have hlt := zS hj
    have e1 : j < min (o + n) arr.size - o := by omega
    have e2 : o + j < arr.size := by omega
    simpa [Array.getD, e1, e2] using this
  ·simp at hg
def aggX : X → Option (List X)
 | .d (.agg ds) => some (ds.map .d)
 | .agg cs => some cs
 | _ => none
theorem z1l {m : Imm} {R : RM} {L : LM} {x : X} {v : Value} (h : XR m R L x v) {cs : List X} (hc : aggX x = some cs) :
  ∃ arr, v = .agg arr ∧ arr.size = cs.length ∧ (∀ y, y ∈ cs → y.sc = true) ∧ ∀ (j : Nat) y, cs[j]? = some y → XR m R L y (arr.getD j undef) := by
 unfold aggX at hc
 split at hc
 ·simp only [Option.some.injEq] at hc
  subst hc
  cases h with
  | d h => cases h with
   | agg hn hs h =>
    refine ⟨_, rfl, by simpa using hn, fun y hy => ?_, fun j y hj => ?_⟩
    ·simp only [List.mem_map] at hy
     obtain ⟨d, hd, rfl⟩ := hy
     exact hs d hd
    ·simp only [List.getElem?_map, Option.map_eq_some_iff] at hj
     obtain ⟨d, hj, rfl⟩ := hj
     exact .d (h j d hj)
 ·simp only [Option.some.injEq] at hc
  subst hc
  cases h with
  | agg hn hs h => exact ⟨_, rfl, hn, hs, h⟩
 ·simp at hc
theorem zfz (H : WR E m n0 w0 R L fs lp w) {T : TypeId} {f : Nat} {p x : X} {v : Value} (hp : XR m R (L.below lp fs.lo.length) p v) (h : zxt E.P T p f = some x) : QOK E m n0 w0 R L fs lp w x (Instr.field T v f) := by
 unfold zxt at h
 split at h
 ·simp at h
 ·rename_i q hq
  obtain ⟨off, n, ag⟩ := q
  obtain ⟨fds, fl, h1, h2, rfl, h4⟩ := z7t hq
  obtain ⟨cs, hc, hg⟩ : ∃ cs, aggX p = some cs ∧ grab ag n (cs.drop fl.offset) = some x := by
   simp only at h
   split at h
   ·rename_i cs
    obtain ⟨d, hd, rfl⟩ := Option.map_eq_some_iff.1 h
    exact ⟨_, rfl, by rw [← List.map_drop]; exact zXl hd⟩
   ·exact ⟨_, rfl, h⟩
   ·simp at h
  obtain ⟨arr, rfl, a1, a2, a3⟩ := z1l hp hc
  obtain ⟨v, r1, r2⟩ := z1t h4 hg a1 a2 a3 w
  refine QOK.same H ?_ r2
  simp only [Instr.field, Sem.run_bind, run_underlying h1, Result.andThen_ok, h2, asAgg, Sem.run_pure, r1]
theorem zvz (H : WR E m n0 w0 R L fs lp w) {T : TypeId} {p i x : X} {v iv : Value} (hp : XR m R (L.below lp fs.lo.length) p v) (hi : XR m R (L.below lp fs.lo.length) i iv) (h : z8t E.P T p i = some x) : QOK E m n0 w0 R L fs lp w x (Instr.index T v iv) := by
 unfold z8t at h
 split at h
 ·simp at h
 ·rename_i n hn
  obtain ⟨k, rfl⟩ := zvq hi hn
  split at h
  ·rename_i b
   split at h
   ·rename_i hu
    split at h
    ·rename_i h0
     obtain ⟨c, hc, rfl⟩ := Option.map_eq_some_iff.1 h
     cases hp with
     | d hp => cases hp with
      | s =>
       refine QOK.same H (v := .int .u8 c.toNat) ?_ (.d (.i _ _))
       simp [Instr.index, asIntOf, run_underlying hu, h0, hc]
    ·simp at h
   ·simp at h
  ·rename_i cs
   split at h
   ·rename_i q hq
    obtain ⟨len, sz, ag⟩ := q
    simp only at h
    split at h
    ·rename_i hb
     obtain ⟨d, hd, rfl⟩ := Option.map_eq_some_iff.1 h
     obtain ⟨e, h1, h2⟩ := zEt hq
     obtain ⟨arr, rfl, a1, a2, a3⟩ := z1l (cs := cs.map X.d) hp rfl
     obtain ⟨v, r1, r2⟩ := z1t (o := n.toNat * sz) h2 (by rw [← List.map_drop]; exact zXl hd) a1 a2 a3 w
     refine QOK.same H ?_ r2
     have h5 := zHc (P := E.P) (z4k h2).1 w
     simp only [Instr.index, asIntOf, Sem.run_bind, Sem.run_pure, run_underlying h1, Result.andThen_ok]
     simp only [Sem.run_ite, hb, and_self, if_true, Sem.run_bind, h5, Result.andThen_ok, r1]
    ·simp at h
   ·simp at h
  ·simp at h
end
end Go.AM
set_option linter.unusedSimpArgs false
set_option linter.unusedVariables false
namespace Go.AM
open Go Go.RowKit
structure PW (m : Imm) (cs : List D) (arr : Array Value) : Prop where
 size : arr.size = cs.length
 at_ : ∀ (j : Nat) d, cs[j]? = some d → DR m d (arr.getD j undef)
theorem zDn : ∀ {a b c d : List D}, a.length = b.length → ∀ {r : Bool}, eqL (a ++ c) (b ++ d) = some r → ∃ r1 r2, eqL a b = some r1 ∧ eqL c d = some r2 ∧ r = (r1 && r2)
 | [], [], c, d, _, r, h => ⟨true, r, rfl, h, by simp⟩
 | x :: a, y :: b, c, d, hl, r, h => by
  simp only [List.cons_append, eqL] at h
  split at h
  ·rename_i p q h1 h2
   obtain ⟨r1, r2, e1, e2, rfl⟩ := zDn (by simpa using hl) h2
   simp only [Option.some.injEq] at h
   subst h
   exact ⟨p && r1, r2, by simp [eqL, h1, e1], e2, by simp [Bool.and_assoc]⟩
  ·simp at h
theorem z9r : ∀ {a b : List D} {r : Bool}, eqL a b = some r → a.length = b.length
 | [], [], _, _ => rfl
 | [], _ :: _, _, h => by simp [eqL] at h
 | _ :: _, [], _, h => by simp [eqL] at h
 | x :: a, y :: b, r, h => by
  simp only [eqL] at h
  split at h
  ·rename_i p q h1 h2
   simp [z9r h2]
  ·simp at h
theorem znx {a b : ByteArray} (h : (a == b) = true) : a = b := by
 obtain ⟨⟨x⟩⟩ := a
 obtain ⟨⟨y⟩⟩ := b
 have h' : ((⟨x⟩ : Array UInt8) == ⟨y⟩) = true := h
 have := beq_iff_eq.1 h'
 rw [this]
theorem zpu {m m' : Imm} {k : Leaf} {x y : D} (hx : isK k x = true) (h : eqD x y = some true) {v u : Value} (hv : DR m x v) (hu : DR m' y u) : v = u := by
 cases x <;> cases k <;> simp [isK] at hx <;> cases y <;> simp [eqD] at h
 ·subst h; cases hv; cases hu; rfl
 ·obtain ⟨rfl, rfl⟩ := h; cases hv; cases hu; rfl
 ·have := znx h; subst this; cases hv; cases hu; rfl
theorem ztu {m m' : Imm} {k : Leaf} : ∀ {xs ys : List D} (n : Nat) (xa ya : Array Value), xs.all (isK k) = true → eqL xs ys = some true → (∀ (j : Nat) d, xs[j]? = some d → DR m d (xa.getD (n + j) undef)) → (∀ (j : Nat) d, ys[j]? = some d → DR m' d (ya.getD (n + j) undef)) →
  ∀ j, j < xs.length → xa.getD (n + j) undef = ya.getD (n + j) undef
 | [], _, n, xa, ya, _, _, _, _, j, hj => by simp at hj
 | x :: xs, [], n, xa, ya, _, h, _, _, j, hj => by simp [eqL] at h
 | x :: xs, y :: ys, n, xa, ya, ha, h, h1, h2, j, hj => by
  simp only [eqL] at h
  split at h
  ·rename_i p q e1 e2
   simp only [Option.some.injEq, Bool.and_eq_true] at h
   obtain ⟨rfl, rfl⟩ := h
   simp only [List.all_cons, Bool.and_eq_true] at ha
   cases j with
   | zero => exact zpu ha.1 e1 (h1 0 x rfl) (h2 0 y rfl)
   | succ j =>
    have := ztu (n + 1) xa ya ha.2 e2 (fun j d hd => by have := h1 (j + 1) d hd; rwa [show n + (j + 1) = n + 1 + j by omega] at this) (fun j d hd => by have := h2 (j + 1) d hd; rwa [show n + (j + 1) = n + 1 + j by omega] at this) j (by simpa using hj)
    rwa [show n + (j + 1) = n + 1 + j by omega]
  ·simp at h
theorem PW.same {m m' : Imm} {k : Leaf} {xs ys : List D} {xa ya : Array Value} (hx : PW m xs xa) (hy : PW m' ys ya) (hk : xs.all (isK k) = true) (h : eqL xs ys = some true) : xa = ya := by
 have hl := z9r h
 apply Array.ext
 ·rw [hx.size, hy.size, hl]
 ·intro i h1 h2
  have := ztu 0 xa ya hk h (by simpa using hx.at_) (by simpa using hy.at_) i (by rw [← hx.size]; exact h1)
  simpa [Array.getD, h1, h2] using this
section
variable {P : Program}
def aggD : TypeDesc → Bool
 | .struct _ => true
 | .array _ _ => true
 | _ => false
theorem zir {T : TypeId} {d : TypeDesc} (h : P.underlying T = some d) : agT P T = some (aggD d) := by
 unfold agT
 rw [h]
 cases d <;> rfl
theorem z5d {T : TypeId} {z : Nat} (h1 : szT P T = some z) (h2 : agT P T = some true) (arr : Array Value) (o : Nat) (w : World) : (part T arr o).run P w = .ok (.agg (arr.extract o (o + z))) w := by
 unfold part
 rw [Sem.run_bind, zMk h2]
 simp only [Result.andThen_ok, if_true]
 rw [Sem.run_bind, zHc h1]
 simp
theorem zem {T : TypeId} (h2 : agT P T = some false) (arr : Array Value) (o : Nat) (ho : o < arr.size) (w : World) : (part T arr o).run P w = .ok (arr.getD o undef) w := by
 unfold part
 rw [Sem.run_bind, zMk h2]
 simp [ho, Array.getD]
theorem PW.extract {m : Imm} {xs : List D} {xa : Array Value} (h : PW m xs xa) (o z : Nat) (hz : o + z ≤ xs.length) : PW m ((xs.drop o).take z) (xa.extract o (o + z)) := by
 refine ⟨by simp [h.size]; omega, fun j d hd => ?_⟩
 have hj := zS hd
 simp only [List.length_take, List.length_drop] at hj
 rw [List.getElem?_take, if_pos (by omega), List.getElem?_drop] at hd
 have := h.at_ _ _ hd
 have hlt := zS hd
 rw [← h.size] at hlt
 have e1 : j < min (o + z) xa.size - o := by omega
 simpa [Array.getD, e1, hlt] using this
def EqOk (P : Program) (n : Nat) (k : Leaf) (T : TypeId) : Prop :=
 ∀ (m : Imm) (d : Nat) (w : World) (z : Nat) (xs ys : List D) (xa ya : Array Value) (o : Nat) (r : Bool), szT P T = some z → PW m xs xa → PW m ys ya → o + z ≤ xs.length → o + z ≤ ys.length →
  xs.all (isK k) = true → ys.all (isK k) = true → eqL ((xs.drop o).take z) ((ys.drop o).take z) = some r →
  ∃ a b, (part T xa o).run P w = .ok a w ∧ (part T ya o).run P w = .ok b w ∧ (Op.equalIn (d + n) T a b).run P w = .ok r w
theorem zQk (l : List D) (o a b : Nat) : (l.drop o).take (a + b) = (l.drop o).take a ++ (l.drop (o + a)).take b := by
 rw [List.take_add, List.drop_drop]
theorem zHp {m : Imm} {n : Nat} {k : Leaf} (d : Nat) (w : World) {xs ys : List D} {xa ya : Array Value} (hx : PW m xs xa) (hy : PW m ys ya) (hkx : xs.all (isK k) = true) (hky : ys.all (isK k) = true) :
  ∀ (fs : List Field) (o tot : Nat) (r : Bool), cvF P fs o = some tot → o ≤ tot → (∀ f, f ∈ fs → f.name ≠ "_" ∧ EqOk P n k f.type) → tot ≤ xs.length → tot ≤ ys.length → eqL ((xs.drop o).take (tot - o)) ((ys.drop o).take (tot - o)) = some r →
   (Op.eqFields (d + n) xa ya fs).run P w = .ok r w
 | [], o, tot, r, hc, _, _, _, _, h => by
  simp only [cvF, Option.some.injEq] at hc
  subst hc
  simp [eqL] at h
  simp [Op.eqFields, h]
 | f :: fs, o, tot, r, hc, hot, hall, h1, h2, h => by
  simp only [cvF] at hc
  split at hc
  ·rename_i z hz
   split at hc
   ·rename_i ho
    subst ho
    obtain ⟨hn, hf⟩ := hall f (by simp)
    have hle : f.offset + z ≤ tot := by
     clear h h1 h2 hall hot hf hn
     generalize f.offset + z = p at hc
     induction fs generalizing p with
     | nil => simp [cvF] at hc; omega
     | cons g fs ih =>
      simp only [cvF] at hc
      split at hc
      ·rename_i z' _
       split at hc
       ·rename_i e; have := ih _ hc; omega
       ·simp at hc
      ·simp at hc
    rw [show tot - f.offset = z + (tot - (f.offset + z)) by omega, zQk, zQk] at h
    obtain ⟨r1, r2, e1, e2, rfl⟩ := zDn (by simp; omega) h
    obtain ⟨a, b, p1, p2, p3⟩ := hf m d w z xs ys xa ya f.offset r1 hz hx hy (by omega) (by omega) hkx hky e1
    have ih := zHp d w hx hy hkx hky fs (f.offset + z) tot r2 hc hle (fun g hg => hall g (by simp [hg])) h1 h2 e2
    simp only [Op.eqFields, hn, ne_eq, not_false_eq_true, if_true, Sem.run_bind, p1, p2, p3, Result.andThen_ok, Sem.run_ite]
    cases r1
    ·simp
    ·simpa using ih
   ·simp at hc
  ·simp at hc
theorem zcr {m : Imm} {n : Nat} {k : Leaf} {e : TypeId} (d : Nat) (w : World) {xs ys : List D} {xa ya : Array Value} (hx : PW m xs xa) (hy : PW m ys ya) (hkx : xs.all (isK k) = true) (hky : ys.all (isK k) = true) {ze : Nat} (hze : szT P e = some ze) (he : EqOk P n k e) (base : Nat) :
  ∀ (c s : Nat) (r : Bool), (s + c) * ze ≤ xs.length → (s + c) * ze ≤ ys.length → eqL ((xs.drop (s * ze)).take (c * ze)) ((ys.drop (s * ze)).take (c * ze)) = some r →
   (Op.eqItems (d + n) e ze xa ya (List.range' s c)).run P w = .ok r w
 | 0, s, r, _, _, h => by
  simp [eqL] at h
  simp [Op.eqItems, h]
 | c + 1, s, r, h1, h2, h => by
  have hs : (s + (c + 1)) * ze = s * ze + ze + c * ze := by rw [Nat.add_mul, Nat.add_mul]; omega
  rw [show (c + 1) * ze = ze + c * ze by rw [Nat.add_mul]; omega, zQk, zQk] at h
  obtain ⟨r1, r2, e1, e2, rfl⟩ := zDn (by simp; omega) h
  obtain ⟨a, b, p1, p2, p3⟩ := he m d w ze xs ys xa ya (s * ze) r1 hze hx hy (by omega) (by omega) hkx hky e1
  have hs' : s * ze + ze = (s + 1) * ze := by rw [Nat.add_mul]; omega
  rw [hs'] at e2
  have ih := zcr d w hx hy hkx hky hze he base c (s + 1) r2 (by rw [show s + 1 + c = s + (c + 1) by omega]; exact h1) (by rw [show s + 1 + c = s + (c + 1) by omega]; exact h2) e2
  rw [List.range'_succ]
  simp only [Op.eqItems, Sem.run_bind, p1, p2, p3, Result.andThen_ok, Sem.run_ite]
  cases r1
  ·simp
  ·simpa using ih
theorem zFv {T : TypeId} {z : Nat} (h : szT P T = some z) : P.cellsOf T = z := by
 obtain ⟨i, h1, h2⟩ := zhq h
 simp [Program.cellsOf, h1, h2]
theorem zTl {n : Nat} {k : Leaf} : ∀ {fs : List Field} {c : Nat}, zEr P c fs = some k → ∀ f, f ∈ fs → f.name ≠ "_" ∧ ∃ c', c' < c ∧ zhg P c' f.type = some k
 | [], c, h, f, hf => by simp at hf
 | g :: fs, 0, h, f, hf => by simp [zEr] at h
 | g :: fs, c + 1, h, f, hf => by
  simp only [zEr] at h
  split at h
  ·simp at h
  ·rename_i hn
   split at h
   ·simp at hf; subst hf
    exact ⟨hn, c, by omega, h⟩
   ·rename_i k' hk
    split at h
    ·rename_i h2
     simp only [Option.some.injEq] at h
     subst h
     simp only [List.mem_cons] at hf
     rcases hf with rfl | hf
     ·exact ⟨hn, c, by omega, hk⟩
     ·obtain ⟨a, c', b1, b2⟩ := zTl (n := n) h2 f (by simpa using hf)
      exact ⟨a, c', by omega, b2⟩
    ·simp at h
   ·simp at h
theorem zgm {n : Nat} {k : Leaf} {T : TypeId} (hs : szT P T = some 1) (ha : agT P T = some false)
  (hq : ∀ (m : Imm) (d : Nat) (w : World) (x y : D) (v u : Value) (r : Bool), isK k x = true → isK k y = true → DR m x v → DR m y u → eqD x y = some r → (Op.equalIn (d + (n + 1)) T v u).run P w = .ok r w) : EqOk P (n + 1) k T := by
 intro m d w z xs ys xa ya o r hz hx hy h1 h2 hkx hky h
 rw [hs] at hz
 simp only [Option.some.injEq] at hz
 subst hz
 have ex : ∃ x, xs[o]? = some x := ⟨xs[o], List.getElem?_eq_getElem (by omega)⟩
 have ey : ∃ y, ys[o]? = some y := ⟨ys[o], List.getElem?_eq_getElem (by omega)⟩
 obtain ⟨x, ex⟩ := ex
 obtain ⟨y, ey⟩ := ey
 have t1 : (xs.drop o).take 1 = [x] := by
  have := List.getElem?_eq_some_iff.1 ex
  obtain ⟨hlt, rfl⟩ := this
  rw [List.drop_eq_getElem_cons hlt]; rfl
 have t2 : (ys.drop o).take 1 = [y] := by
  have := List.getElem?_eq_some_iff.1 ey
  obtain ⟨hlt, rfl⟩ := this
  rw [List.drop_eq_getElem_cons hlt]; rfl
 rw [t1, t2] at h
 simp only [eqL] at h
 cases hd : eqD x y with
 | none => rw [hd] at h; simp at h
 | some r' =>
  rw [hd] at h
  simp at h
  subst h
  rw [List.all_eq_true] at hkx hky
  refine ⟨xa.getD o undef, ya.getD o undef, zem ha _ _ (by rw [hx.size]; exact zS ex) w, zem ha _ _ (by rw [hy.size]; exact zS ey) w, ?_⟩
  exact hq m d w x y _ _ r' (hkx x (List.mem_of_getElem? ex)) (hky y (List.mem_of_getElem? ey)) (hx.at_ o x ex) (hy.at_ o y ey) hd
theorem zFx : ∀ (c : Nat) (N : Nat) (k : Leaf) (T : TypeId), c ≤ N → zhg P c T = some k → cvT P N T = true → EqOk P c k T := by
 intro c
 induction c using Nat.strongRecOn with
 | _ c IH =>
 intro N k T hc hl hv
 cases c with
 | zero => simp [zhg] at hl
 | succ c =>
 obtain ⟨N, rfl⟩ : ∃ q, N = q + 1 := ⟨N - 1, by omega⟩
 unfold zhg at hl
 unfold cvT at hv
 cases hu : P.underlying T with
 | none => simp [hu] at hl
 | some kd =>
  have hag := zir hu
  cases kd with
  | bool =>
   simp only [hu, Option.some.injEq] at hl hv
   subst hl
   refine zgm (by simpa using hv) (by simpa [aggD] using hag) fun m d w x y v u r hx hy hv hu' h => ?_
   cases x <;> simp [isK] at hx
   cases y <;> simp [isK] at hy
   cases hv; cases hu'
   simp [eqD] at h
   subst h
   exact run_equalIn_bool' w (d + c) T _ _ hu
  | int q =>
   simp only [hu, Option.some.injEq] at hl hv
   subst hl
   refine zgm (by simpa using hv) (by simpa [aggD] using hag) fun m d w x y v u r hx hy hv hu' h => ?_
   cases x <;> simp [isK] at hx
   cases y <;> simp [isK] at hy
   cases hv; cases hu'
   simp [eqD] at h
   obtain ⟨rfl, rfl⟩ := h
   exact run_equalIn_int w (d + c) T _ _ _ _ hu
  | string =>
   simp only [hu, Option.some.injEq] at hl hv
   subst hl
   refine zgm (by simpa using hv) (by simpa [aggD] using hag) fun m d w x y v u r hx hy hv hu' h => ?_
   cases x <;> simp [isK] at hx
   cases y <;> simp [isK] at hy
   cases hv; cases hu'
   simp only [eqD, Option.some.injEq] at h
   subst h
   rw [beq_toListBytes]
   exact run_equalIn_string w (d + c) T _ _ hu
  | array len e =>
   simp only [hu] at hl hv
   simp only [Bool.and_eq_true, beq_iff_eq] at hv
   obtain ⟨⟨v1, v2⟩, v3⟩ := hv
   obtain ⟨ze, hze⟩ := Option.isSome_iff_exists.1 v1
   rw [hze] at v2
   have he := IH c (by omega) N k e (by omega) hl v3
   intro m d w z xs ys xa ya o r hz hx hy h1 h2 hkx hky h
   rw [v2] at hz
   simp only [Option.map_some, Option.some.injEq] at hz
   subst hz
   simp only [aggD] at hag
   refine ⟨_, _, z5d (by rw [v2]; rfl) hag xa o w, z5d (by rw [v2]; rfl) hag ya o w, ?_⟩
   obtain ⟨i, hi⟩ := info_of_underlying hu
   obtain ⟨ie, hie, _⟩ := zhq hze
   rw [show d + (c + 1) = d + c + 1 by omega, run_equalIn_array w (d + c) _ _ hu hie, zFv hze, List.range_eq_range']
   have hkx' : ((xs.drop o).take (len * ze)).all (isK k) = true := by
    rw [List.all_eq_true] at hkx ⊢
    exact fun x hx => hkx x (List.mem_of_mem_drop (List.mem_of_mem_take hx))
   have hky' : ((ys.drop o).take (len * ze)).all (isK k) = true := by
    rw [List.all_eq_true] at hky ⊢
    exact fun x hx => hky x (List.mem_of_mem_drop (List.mem_of_mem_take hx))
   refine zcr d w (hx.extract o _ (by omega)) (hy.extract o _ (by omega)) hkx' hky' hze he 0 len 0 r (by simp; omega) (by simp; omega) ?_
   simpa [List.take_take] using h
  | struct fs =>
   simp only [hu] at hl hv
   simp only [Bool.and_eq_true, beq_iff_eq] at hv
   obtain ⟨v1, v2⟩ := hv
   split at hl
   ·simp at hl
   ·rename_i hst
    intro m d w z xs ys xa ya o r hz hx hy h1 h2 hkx hky h
    simp only [aggD] at hag
    refine ⟨_, _, z5d hz hag xa o w, z5d hz hag ya o w, ?_⟩
    have hfo : P.fieldsOf T = fs := by simp [Program.fieldsOf, hu]
    rw [show d + (c + 1) = d + c + 1 by omega, run_equalIn_struct w (d + c) T _ _ (by rw [hfo]; exact hu) (by simpa using hst), hfo]
    have hkx' : ((xs.drop o).take z).all (isK k) = true := by
     rw [List.all_eq_true] at hkx ⊢
     exact fun x hx => hkx x (List.mem_of_mem_drop (List.mem_of_mem_take hx))
    have hky' : ((ys.drop o).take z).all (isK k) = true := by
     rw [List.all_eq_true] at hky ⊢
     exact fun x hx => hky x (List.mem_of_mem_drop (List.mem_of_mem_take hx))
    rw [List.all_eq_true] at v2
    refine zHp (n := c) d w (hx.extract o z h1) (hy.extract o z h2) hkx' hky' fs.toList 0 z r (by rw [v1]; exact hz) (by omega) (fun f hf => ?_) (by simp; omega) (by simp; omega) (by simpa [List.take_take] using h)
    obtain ⟨a, c', b1, b2⟩ := zTl (n := 0) hl f hf
    refine ⟨a, ?_⟩
    have h3 := IH c' (by omega) N k f.type (by omega) b2 (v2 f hf)
    intro m d w z xs ys xa ya o r g1 g2 g3 g4 g5 g6 g7 g8
    have := h3 m (d + (c - c')) w z xs ys xa ya o r g1 g2 g3 g4 g5 g6 g7 g8
    rwa [show d + (c - c') + c' = d + c by omega] at this
  | _ => simp [hu] at hl
theorem zWn {m : Imm} {T : TypeId} {k : Leaf} (hk : flT P T = some k) (hag : agT P T = some true) {xs ys : List D} {xa ya : Array Value} (hx : PW m xs xa) (hy : PW m ys ya) (hz : szT P T = some xs.length) (hkx : xs.all (isK k) = true) (hky : ys.all (isK k) = true) {r : Bool} (h : eqL xs ys = some r) (d : Nat) (w : World) :
  (Op.equalIn (d + 30) T (.agg xa) (.agg ya)).run P w = .ok r w := by
 unfold flT at hk
 split at hk
 ·rename_i hv
  have hl := z9r h
  obtain ⟨a, b, p1, p2, p3⟩ := zFx 30 30 k T (by omega) hk hv m d w xs.length xs ys xa ya 0 r hz hx hy (by omega) (by omega) hkx hky (by rw [List.drop_zero, List.drop_zero, List.take_length, hl, List.take_length]; exact h)
  rw [z5d hz hag] at p1 p2
  simp only [Result.ok.injEq, and_true] at p1 p2
  subst p1; subst p2
  have e1 : xa.extract 0 (0 + xs.length) = xa := by rw [Nat.zero_add, ← hx.size]; simp
  have e2 : ya.extract 0 (0 + xs.length) = ya := by rw [Nat.zero_add, hl, ← hy.size]; simp
  rwa [e1, e2] at p3
 ·simp at hk
theorem zLr : ∀ (c : Nat) (k : Leaf) (T : TypeId), zhg P c T = some k → ∀ d, c ≤ d → P.eqGuardType d T = false := by
 intro c
 induction c using Nat.strongRecOn with
 | _ c IH =>
 intro k T hl d hd
 cases c with
 | zero => simp [zhg] at hl
 | succ c =>
 obtain ⟨d, rfl⟩ : ∃ q, d = q + 1 := ⟨d - 1, by omega⟩
 unfold zhg at hl
 unfold Program.eqGuardType
 cases hu : P.underlying T with
 | none => simp
 | some kd =>
  cases kd with
  | array len e =>
   simp only [hu] at hl
   exact IH c (by omega) k e hl d (by omega)
  | struct fs =>
   simp only [hu] at hl
   split at hl
   ·simp at hl
   ·simp only
    rw [Array.any_eq_false']
    intro f hf
    obtain ⟨a, c', b1, b2⟩ := zTl (n := 0) hl f (by simpa using hf)
    simp [IH c' (by omega) k f.type b2 d (by omega)]
  | interface ms => simp [hu] at hl
  | _ => simp
end
end Go.AM
set_option linter.unusedSimpArgs false
set_option linter.unusedVariables false
namespace Go.AM
open Go Go.RowKit
section
variable {E : Env} {m : Imm} {n0 : Nat} {w0 : Base} {R : RM} {L : LM} {fs : FS} {lp : List LRec} {w : World}
theorem z1f {op : BinOp} {T : TypeId} {ox oy : Operand} {a b : Value} (h : (eqGuard op T ox oy a b).run E.P w = .ok () w) {v : Value} (h2 : (binOp op T a b).run E.P w = .ok v w) :
  (do eqGuard op T ox oy a b; binOp op T a b : Sem Value).run E.P w = .ok v w := by
 show ((eqGuard op T ox oy a b) >>= fun _ => binOp op T a b).run E.P w = _
 rw [Sem.run_bind, h]
 exact h2
theorem zvo (op : BinOp) (T : TypeId) (ox oy : Operand) (k k' : IntKind) (a b : Int) : (eqGuard op T ox oy (.int k a) (.int k' b)).run E.P w = .ok () w := by cases op <;> rfl
theorem z6v (op : BinOp) (T : TypeId) (ox oy : Operand) (a b : Bool) : (eqGuard op T ox oy (.bool a) (.bool b)).run E.P w = .ok () w := by cases op <;> rfl
theorem zju (op : BinOp) (T : TypeId) (ox oy : Operand) (a b : ByteArray) : (eqGuard op T ox oy (.string a) (.string b)).run E.P w = .ok () w := by cases op <;> rfl
theorem zDp (op : BinOp) (T : TypeId) (ox oy : Operand) (a b : Option Addr) (n c n' c' : Nat) : (eqGuard op T ox oy (.slice a n c) (.slice b n' c')).run E.P w = .ok () w := by cases op <;> rfl
theorem z6x (op : BinOp) (T : TypeId) (ox oy : Operand) : (eqGuard op T ox oy .nilFunc .nilFunc).run E.P w = .ok () w := by cases op <;> rfl
theorem zXp (op : BinOp) (T : TypeId) (ox oy : Operand) (f : Fn) (a b : Array Value) : (eqGuard op T ox oy (.func f a b) .nilFunc).run E.P w = .ok () w := by cases op <;> rfl
theorem zWy {op : BinOp} {k : IntKind} {a b : Int} {d : D} (h : zwo op k a b = some d) (hop : op ≠ .shl ∧ op ≠ .shr) (T : TypeId) : ∃ v, (binOp op T (.int k a) (.int k b)).run E.P w = .ok v w ∧ DR m d v := by
 cases op <;> simp only [zwo, Option.some.injEq] at h <;> try (simp at h; done)
 case add => subst h; exact ⟨_, by simp [binOp, Op.intArith], .i _ _⟩
 case sub => subst h; exact ⟨_, by simp [binOp, Op.intArith], .i _ _⟩
 case mul => subst h; exact ⟨_, by simp [binOp, Op.intArith], .i _ _⟩
 case quo =>
  split at h
  ·simp at h
  ·rename_i hb
   simp only [Option.some.injEq] at h
   subst h
   exact ⟨_, by simp [binOp, Op.intDiv, hb], .i _ _⟩
 case rem =>
  split at h
  ·simp at h
  ·rename_i hb
   simp only [Option.some.injEq] at h
   subst h
   exact ⟨_, by simp [binOp, Op.intDiv, hb], .i _ _⟩
 case and => subst h; exact ⟨_, by simp [binOp, Op.intBits], .i _ _⟩
 case or => subst h; exact ⟨_, by simp [binOp, Op.intBits], .i _ _⟩
 case xor => subst h; exact ⟨_, by simp [binOp, Op.intBits], .i _ _⟩
 case andNot => subst h; exact ⟨_, by simp [binOp, Op.intBits], .i _ _⟩
 case eql => subst h; exact ⟨_, by simp [binOp, Op.intCmp], .b _⟩
 case neq => subst h; exact ⟨_, by simp [binOp, Op.intCmp], .b _⟩
 case lss => subst h; exact ⟨_, by simp [binOp, Op.intCmp], .b _⟩
 case leq => subst h; exact ⟨_, by simp [binOp, Op.intCmp], .b _⟩
 case gtr => subst h; exact ⟨_, by simp [binOp, Op.intCmp], .b _⟩
 case geq => subst h; exact ⟨_, by simp [binOp, Op.intCmp], .b _⟩
theorem zCs {op : BinOp} {k k' : IntKind} {a b : Int} {d : D} (h : zTq op k a b = some d) (T : TypeId) : ∃ v, (binOp op T (.int k a) (.int k' b)).run E.P w = .ok v w ∧ DR m d v := by
 unfold zTq at h
 split at h
 ·simp at h
 ·rename_i hb
  split at h
  ·simp only [Option.some.injEq] at h
   subst h
   exact ⟨_, by simp [binOp, Op.shift, hb], .i _ _⟩
  ·simp only [Option.some.injEq] at h
   subst h
   exact ⟨_, by simp [binOp, Op.shift, hb], .i _ _⟩
  ·simp at h
theorem z0l (T : TypeId) (x y : Value) : Op.equal T x y = Op.equalIn (9999 + 1) T x y := rfl
theorem zVy {T : TypeId} {a b : Array TypeId} {c : Bool} (he : E.P.underlying T = some (.func a b c)) (d : Nat) : (Op.equalIn (d + 1) T .nilFunc .nilFunc).run E.P w = .ok true w := by simp [Op.equalIn, run_underlying he]
theorem z6r {T : TypeId} {a b : Array TypeId} {c : Bool} (he : E.P.underlying T = some (.func a b c)) (d : Nat) (f : Fn) (x y : Array Value) : (Op.equalIn (d + 1) T (.func f x y) .nilFunc).run E.P w = .ok false w := by simp [Op.equalIn, run_underlying he]
theorem zYn {T : TypeId} {a b : Option Addr} {n c n' c' : Nat} {r : Bool} (h : (Op.equal T (.slice a n c) (.slice b n' c')).run E.P w = .ok r w) :
  (binOp .eql T (.slice a n c) (.slice b n' c')).run E.P w = .ok (.bool r) w ∧ (binOp .neq T (.slice a n c) (.slice b n' c')).run E.P w = .ok (.bool !r) w := by
 constructor
 ·show ((Op.equal T (.slice a n c) (.slice b n' c')) >>= fun q => (pure (Value.bool q) : Sem Value)).run E.P w = _
  rw [Sem.run_bind, h]; rfl
 ·show ((Op.equal T (.slice a n c) (.slice b n' c')) >>= fun q => (pure (Value.bool !q) : Sem Value)).run E.P w = _
  rw [Sem.run_bind, h]; rfl
theorem zOv {T : TypeId} {r : Bool} (h : (Op.equal T .nilFunc .nilFunc).run E.P w = .ok r w) :
  (binOp .eql T .nilFunc .nilFunc).run E.P w = .ok (.bool r) w ∧ (binOp .neq T .nilFunc .nilFunc).run E.P w = .ok (.bool !r) w := by
 constructor
 ·show ((Op.equal T .nilFunc .nilFunc) >>= fun q => (pure (Value.bool q) : Sem Value)).run E.P w = _
  rw [Sem.run_bind, h]; rfl
 ·show ((Op.equal T .nilFunc .nilFunc) >>= fun q => (pure (Value.bool !q) : Sem Value)).run E.P w = _
  rw [Sem.run_bind, h]; rfl
theorem zCn {T : TypeId} {f : Fn} {x y : Array Value} {r : Bool} (h : (Op.equal T (.func f x y) .nilFunc).run E.P w = .ok r w) :
  (binOp .eql T (.func f x y) .nilFunc).run E.P w = .ok (.bool r) w ∧ (binOp .neq T (.func f x y) .nilFunc).run E.P w = .ok (.bool !r) w := by
 constructor
 ·show ((Op.equal T (.func f x y) .nilFunc) >>= fun q => (pure (Value.bool q) : Sem Value)).run E.P w = _
  rw [Sem.run_bind, h]; rfl
 ·show ((Op.equal T (.func f x y) .nilFunc) >>= fun q => (pure (Value.bool !q) : Sem Value)).run E.P w = _
  rw [Sem.run_bind, h]; rfl
def zUi (P : Program) (w : World) (T : TypeId) (v u : Value) (r : Bool) : Prop :=
 (∀ op ox oy, (eqGuard op T ox oy v u).run P w = .ok () w) ∧ (binOp .eql T v u).run P w = .ok (.bool r) w ∧ (binOp .neq T v u).run P w = .ok (.bool !r) w
theorem z0z {es : List (List D)} {c : Cap} {y : D} {r : Bool} (h : eqN (.sl es c) y = some r) : y = .sl [] .nil ∧ r = decide (c = .nil) := by
 cases y with
 | sl es' c' =>
  cases es' with
  | nil =>
   cases c' with
   | nil => simp only [eqN, zLy, Option.some.injEq] at h; exact ⟨rfl, h.symm⟩
   | ex => simp [eqN] at h
   | ro => simp [eqN] at h
  | cons a b => simp [eqN] at h
 | _ => simp [eqN] at h
theorem z5w {T e : TypeId} {es : List (List D)} {c : Cap} {y : D} {r : Bool} (he : E.P.underlying T = some (.slice e)) (h : eqN (.sl es c) y = some r) {v u : Value} (hx : DR m (.sl es c) v) (hy : DR m y u) : zUi E.P w T v u r := by
 obtain ⟨rfl, rfl⟩ := z0z h
 cases hy with
 | sl z g hsp hc => exact absurd rfl hc
 | nils =>
  cases hx with
  | nils =>
   have := zYn (E := E) (w := w) (run_equal_slice_nil w T e none 0 0 he)
   exact ⟨fun op ox oy => zDp op T ox oy _ _ _ _ _ _, by simpa using this.1, by simpa using this.2⟩
  | @sl _ _ β o cap sp z g hsp hc hex =>
   have := zYn (E := E) (w := w) (run_equal_slice_nil w T e (some ⟨β, o, sp⟩) es.length cap he)
   exact ⟨fun op ox oy => zDp op T ox oy _ _ _ _ _ _, by rw [decide_eq_false hc]; exact this.1, by rw [decide_eq_false hc]; exact this.2⟩
theorem zGt {T : TypeId} {a b : Array TypeId} {c : Bool} {x y : D} {r : Bool} (he : E.P.underlying T = some (.func a b c)) (hk : x = .nilf ∨ ∃ f p q, x = .fn f p q) (h : eqN x y = some r) {v u : Value} (hx : DR m x v) (hy : DR m y u) : zUi E.P w T v u r := by
 unfold eqN at h
 split at h
 ·rcases hk with h1 | ⟨_, _, _, h1⟩ <;> cases h1
 ·simp at h; subst h; cases hx; cases hy
  have := zOv (E := E) (w := w) (T := T) (r := true) (by rw [z0l]; exact zVy he _)
  exact ⟨fun op ox oy => z6x op T ox oy, this.1, this.2⟩
 ·rename_i f p q
  simp at h; subst h; cases hy
  cases hx with
  | @fn _ _ _ av bv =>
  have := zCn (E := E) (w := w) (T := T) (r := false) (f := .func f) (x := av) (y := bv) (by rw [z0l]; exact z6r he _ _ _ _)
  exact ⟨fun op ox oy => zXp op T ox oy _ _ _, this.1, this.2⟩
 ·simp at h
theorem zZu {T a b : TypeId} {x y : D} {r : Bool} (he : E.P.underlying T = some (.map a b)) (hk : x = .nilm ∨ ∃ e, x = .mp e) (h : eqN x y = some r) {v u : Value} (hx : DR m x v) (hy : DR m y u) : zUi E.P w T v u r := by
 rcases hk with rfl | ⟨e, rfl⟩ <;> simp [eqN] at h
theorem z8u {T : TypeId} (hu : E.P.underlying T = some .bool) (a b : Bool) : zUi E.P w T (.bool a) (.bool b) (a == b) :=
 ⟨fun op ox oy => z6v op T ox oy a b, run_eql_bool w T a b hu, run_neq_bool w T a b hu⟩
theorem z8w (T : TypeId) (a b : ByteArray) : zUi E.P w T (.string a) (.string b) (a == b) :=
 ⟨fun op ox oy => zju op T ox oy a b, by rw [beq_toListBytes]; rfl, by rw [beq_toListBytes]; rfl⟩
theorem zhx (hdep : 30 ≤ E.P.depth) {T : TypeId} {k : Leaf} (hk : flT E.P T = some k) {p q : List D} {r : Bool} (hc : ((agT E.P T == some true) && (szT E.P T == some p.length) && p.all (isK k) && q.all (isK k)) = true) (he : eqL p q = some r) {v u : Value} (hx : DR m (.agg p) v) (hy : DR m (.agg q) u) :
  zUi E.P w T v u r := by
 simp only [Bool.and_eq_true, beq_iff_eq] at hc
 obtain ⟨⟨⟨hag, c1⟩, c2⟩, c3⟩ := hc
 cases hx with
 | agg hn hs h =>
  cases hy with
  | agg hn' hs' h' =>
   have key := zWn hk hag ⟨hn, h⟩ ⟨hn', h'⟩ c1 c2 c3 he 9970 w
   have hfl : ∃ c, zhg E.P c T = some k ∧ c ≤ 30 := by
    unfold flT at hk
    split at hk
    ·exact ⟨30, hk, by omega⟩
    ·simp at hk
   obtain ⟨c, hl, hc⟩ := hfl
   have hg := zLr c k T hl E.P.depth (by omega)
   refine ⟨fun op ox oy => run_eqGuard_agg w op T ox oy _ _ hg, ?_, ?_⟩
   ·rw [run_eql_struct, key]; rfl
   ·rw [run_neq_struct, key]; rfl
theorem zUi.eql (H : WR E m n0 w0 R L fs lp w) {T : TypeId} {v u : Value} {r : Bool} (h : zUi E.P w T v u r) (ox oy : Operand) : QOK E m n0 w0 R L fs lp w (.d (.b r)) (do eqGuard .eql T ox oy v u; binOp .eql T v u) :=
 QOK.same H (z1f (h.1 _ _ _) h.2.1) (.d (.b _))
theorem zUi.neq (H : WR E m n0 w0 R L fs lp w) {T : TypeId} {v u : Value} {r : Bool} (h : zUi E.P w T v u r) (ox oy : Operand) : QOK E m n0 w0 R L fs lp w (.d (.b !r)) (do eqGuard .neq T ox oy v u; binOp .neq T v u) :=
 QOK.same H (z1f (h.1 _ _ _) h.2.2) (.d (.b _))
theorem zWr {T : TypeId} {p q : D} {v u : Value} (hp : DR m p v) (hq : DR m q u) {r : Bool} (h : z0q E.P T p q = some r) : zUi E.P w T v u r := by
 unfold z0q at h
 split at h
 ·cases p with
  | sl es c => exact z5w (by assumption) h hp hq
  | _ => simp at h
 ·cases p with
  | nilf => exact zGt (by assumption) (.inl rfl) h hp hq
  | fn f a b => exact zGt (by assumption) (.inr ⟨_, _, _, rfl⟩) h hp hq
  | _ => simp at h
 ·cases p with
  | nilm => exact zZu (by assumption) (.inl rfl) h hp hq
  | mp es => exact zZu (by assumption) (.inr ⟨_, rfl⟩) h hp hq
  | _ => simp at h
 ·cases p with
  | s a =>
   cases q with
   | s b =>
    simp only [Option.some.injEq] at h
    subst h
    cases hp; cases hq
    exact z8w T _ _
   | _ => simp at h
  | _ => simp at h
 ·simp at h
theorem zCA (hdep : 30 ≤ E.P.depth) (H : WR E m n0 w0 R L fs lp w) {op : BinOp} {T : TypeId} {p q x : X} {v u : Value} (hp : XR m R (L.below lp fs.lo.length) p v) (hq : XR m R (L.below lp fs.lo.length) q u) (ox oy : Operand) (h : binX E.P op T p q = some x) :
  QOK E m n0 w0 R L fs lp w x (do eqGuard op T ox oy v u; binOp op T v u) := by
 unfold binX at h
 split at h
 ·rename_i a b
  cases hp with
  | d hp =>
  cases hq with
  | d hq =>
  split at h
  ·obtain ⟨d, hd, rfl⟩ := Option.map_eq_some_iff.1 h
   cases hp; cases hq
   obtain ⟨v, r1, r2⟩ := zCs (E := E) (m := m) (w := w) hd T
   exact QOK.same H (z1f (zvo ..) r1) (.d r2)
  ·obtain ⟨d, hd, rfl⟩ := Option.map_eq_some_iff.1 h
   cases hp; cases hq
   obtain ⟨v, r1, r2⟩ := zCs (E := E) (m := m) (w := w) hd T
   exact QOK.same H (z1f (zvo ..) r1) (.d r2)
  ·rename_i k a k' b hn1 hn2
   split at h
   ·rename_i hk
    subst hk
    obtain ⟨d, hd, rfl⟩ := Option.map_eq_some_iff.1 h
    cases hp; cases hq
    have hop : op ≠ BinOp.shl ∧ op ≠ BinOp.shr := by
     constructor
     ·intro e; subst e; simp [zwo] at hd
     ·intro e; subst e; simp [zwo] at hd
    obtain ⟨v, r1, r2⟩ := zWy (E := E) (m := m) (w := w) hd hop T
    exact QOK.same H (z1f (zvo ..) r1) (.d r2)
   ·simp at h
  ·rename_i p q
   split at h
   ·rename_i k hk
    split at h
    ·rename_i hc
     obtain ⟨r, hr, rfl⟩ := Option.map_eq_some_iff.1 h
     exact (zhx hdep hk hc hr hp hq).eql H ox oy
    ·simp at h
   ·simp at h
  ·rename_i p q
   split at h
   ·rename_i k hk
    split at h
    ·rename_i hc
     obtain ⟨r, hr, rfl⟩ := Option.map_eq_some_iff.1 h
     exact (zhx hdep hk hc hr hp hq).neq H ox oy
    ·simp at h
   ·simp at h
  ·split at h
   ·simp only [Option.some.injEq] at h
    subst h
    cases hp; cases hq
    exact (z8u (by assumption) _ _).eql H ox oy
   ·simp at h
  ·split at h
   ·simp only [Option.some.injEq] at h
    subst h
    cases hp; cases hq
    exact (z8u (by assumption) _ _).neq H ox oy
   ·simp at h
  ·obtain ⟨r, hr, rfl⟩ := Option.map_eq_some_iff.1 h
   exact (zWr hp hq hr).eql H ox oy
  ·obtain ⟨r, hr, rfl⟩ := Option.map_eq_some_iff.1 h
   exact (zWr hp hq hr).neq H ox oy
  ·simp at h
 ·rename_i f fa fb
  split at h
  ·rename_i hu
   simp only [Option.some.injEq] at h
   subst h
   cases hp with
   | @fn _ _ _ av bv ha hb h1 h2 =>
    cases hq with
    | d hq =>
     cases hq
     have := zCn (E := E) (w := w) (T := T) (r := false) (x := av) (y := bv) (f := .func f) (by rw [z0l]; exact z6r hu _ _ _ _)
     exact QOK.same H (z1f (zXp ..) this.1) (.d (.b _))
  ·rename_i hu
   simp only [Option.some.injEq] at h
   subst h
   cases hp with
   | @fn _ _ _ av bv ha hb h1 h2 =>
    cases hq with
    | d hq =>
     cases hq
     have := zCn (E := E) (w := w) (T := T) (r := false) (x := av) (y := bv) (f := .func f) (by rw [z0l]; exact z6r hu _ _ _ _)
     exact QOK.same H (z1f (zXp ..) this.2) (.d (.b _))
  ·simp at h
 ·simp at h
end
end Go.AM
set_option linter.unusedSimpArgs false
set_option linter.unusedVariables false
namespace Go.AM
open Go Go.RowKit
section
variable {E : Env} {m : Imm} {n0 : Nat} {w0 : Base} {R : RM} {L : LM} {fs : FS} {lp : List LRec} {w : World}
theorem q_un (H : WR E m n0 w0 R L fs lp w) {op : UnOp} {p x : X} {v : Value} (hp : XR m R (L.below lp fs.lo.length) p v) (h : unX op p = some x) : QOK E m n0 w0 R L fs lp w x (Op.unary op v) := by
 unfold unX at h
 split at h
 ·simp only [Option.some.injEq] at h; subst h
  cases hp with
  | d hp => cases hp; exact QOK.same H (by simp [Op.unary, Op.intArith]) (.d (.i _ _))
 ·simp only [Option.some.injEq] at h; subst h
  cases hp with
  | d hp => cases hp; exact QOK.same H (by simp [Op.unary]) (.d (.b _))
 ·simp at h
theorem z3z (H : WR E m n0 w0 R L fs lp w) {s d : TypeId} {p x : X} {v : Value} (hp : XR m R (L.below lp fs.lo.length) p v) (h : zMv E.P s d p = some x) : QOK E m n0 w0 R L fs lp w x (convert s d v) := by
 unfold zMv at h
 split at h
 ·rename_i h1 h2
  simp only [Option.some.injEq] at h; subst h
  cases hp with
  | d hp => cases hp; exact QOK.same H (by simp [convert, run_underlying h1, run_underlying h2, Conv.intToInt]) (.d (.i _ _))
 ·rename_i h1 h2
  simp only [Option.some.injEq] at h; subst h
  cases hp with
  | d hp => cases hp; exact QOK.same H (by simp [convert, run_underlying h1, run_underlying h2]) (.d (.s _))
 ·simp at h
theorem zkx (H : WR E m n0 w0 R L fs lp w) {i : Nat} {p x : X} {v : Value} (hp : XR m R (L.below lp fs.lo.length) p v)
  (h : extX p i = some x) : QOK E m n0 w0 R L fs lp w x (Instr.extract v i) := by
 have key : ∃ arr, v = .tuple arr ∧ i < arr.size ∧ XR m R (L.below lp fs.lo.length) x (arr.getD i undef) := by
  unfold extX at h
  split at h
  ·obtain ⟨d, hd, rfl⟩ := Option.map_eq_some_iff.1 h
   cases hp with
   | d hp => cases hp with
    | tup hn h' => exact ⟨_, rfl, by rw [hn]; exact zS hd, .d (h' i d hd)⟩
  ·cases hp with
   | tup hn h' => exact ⟨_, rfl, by rw [hn]; exact zS h, h' i x h⟩
  ·simp at h
 obtain ⟨arr, rfl, hi, hx⟩ := key
 refine QOK.same H ?_ hx
 simp [Instr.extract, hi, Array.getD]
theorem XRs.of {m : Imm} {R : RM} {L : LM} {ρx : Operand → X} {ρv : Operand → Value} (hρ : ∀ a, XR m R L (ρx a) (ρv a)) (as : Array Operand) (j : Nat) (x : X) (h : (as.toList.map ρx)[j]? = some x) : XR m R L x ((as.map ρv).getD j undef) := by
 simp only [List.getElem?_map, Option.map_eq_some_iff] at h
 obtain ⟨a, ha, rfl⟩ := h
 have hj := zS ha
 simp only [Array.length_toList] at hj
 have : as[j] = a := by
  have := (List.getElem?_eq_some_iff.1 ha).2
  simpa using this
 simp [Array.getD, hj, this, hρ]
theorem z1z (H : WR E m n0 w0 R L fs lp w) {ρx : Operand → X} {ρv : Operand → Value} (hρ : ∀ a, XR m R (L.below lp fs.lo.length) (ρx a) (ρv a)) {fn : Fn} {a b : Array Operand} {x : X} (h : mkFn fn (a.toList.map ρx) (b.toList.map ρx) = some x) :
  QOK E m n0 w0 R L fs lp w x (Instr.makeFunc fn (a.map ρv) (b.map ρv)) := by
 unfold mkFn at h
 split at h
 ·rename_i f
  simp only [Option.some.injEq] at h
  subst h
  refine QOK.same H (v := .func (.func f) (a.map ρv) (b.map ρv)) rfl ?_
  split
  ·rename_i p q h1 h2
   have e1 := zGe h1
   have e2 := zGe h2
   refine .d (.fn ?_ ?_ (fun j d hd => ?_) fun j d hd => ?_)
   ·have := congrArg List.length e1; simpa using this
   ·have := congrArg List.length e2; simpa using this
   ·have := XRs.of hρ a j (.d d) (by rw [e1]; simp [hd])
    cases this with | d h => exact h
   ·have := XRs.of hρ b j (.d d) (by rw [e2]; simp [hd])
    cases this with | d h => exact h
  ·exact .fn (by simp) (by simp) (fun j d hd => XRs.of hρ a j d hd) (fun j d hd => XRs.of hρ b j d hd)
 ·simp at h
theorem zVk (H : WR E m n0 w0 R L fs lp w) {l s n : Nat} {v : Value} (h : XR m R (L.below lp fs.lo.length) (.row l s n) v) : ∃ z a k cap a' n' c', v = .slice a' n' c' ∧ R l s = some (.hdr z a k cap) ∧ n ≤ k ∧ (n = k → a' = a ∧ n' = k ∧ c' = cap) := by
 cases h with
 | row h hn hv => exact ⟨_, _, _, _, _, _, _, rfl, h, hn, hv⟩
theorem zSy (H : WR E m n0 w0 R L fs lp w) {l s z k cap n : Nat} {a : Option Addr} (h : R l s = some (.hdr z a k cap)) (hl : zeh fs.get l s n = true) : n = k := by
 unfold zeh at hl
 obtain ⟨o, h1, h2⟩ := H.obj' h
 rw [h1] at hl
 cases o with
 | row z' es wr =>
  obtain ⟨_, _, e3, _⟩ := h2
  have := beq_iff_eq.1 hl
  omega
 | nrow =>
  obtain ⟨_, _, e3, _⟩ := h2
  have := beq_iff_eq.1 hl
  omega
 | _ => simp at hl
theorem zPB (H : WR E m n0 w0 R L fs lp w) {T : TypeId} {ts : Array TypeId} {ty : TypeId} {args : Array Value} {p x : X} {v : Value} (hp : XR m R (L.below lp fs.lo.length) p v) (ht : ts[0]? = some T) (ha : args[0]? = some v) (h : lenX E.P fs.get T p = some x) :
  QOK E m n0 w0 R L fs lp w x (Builtin.len_ ts ty args) := by
 unfold lenX at h
 split at h
 ·rename_i es c hu
  simp only [Option.some.injEq] at h; subst h
  cases hp with
  | d hp =>
   cases hp with
   | nils => exact QOK.same H (v := .int .i64 0) (by simp [Builtin.len_, ht, ha, run_underlying hu, goInt]) (.d (.i _ _))
   | sl z g => exact QOK.same H (v := .int .i64 es.length) (by simp [Builtin.len_, ht, ha, run_underlying hu, goInt]) (.d (.i _ _))
 ·rename_i l s n hu
  split at h
  ·rename_i hl
   simp only [Option.some.injEq] at h; subst h
   obtain ⟨z, a, k, cap, a', n', c', rfl, h1, h2, h3⟩ := zVk H hp
   have e := zSy H h1 hl
   obtain ⟨rfl, rfl, rfl⟩ := h3 e
   subst e
   exact QOK.same H (v := .int .i64 n) (by simp [Builtin.len_, ht, ha, run_underlying hu, goInt]) (.d (.i _ _))
  ·simp at h
 ·rename_i hu
  simp only [Option.some.injEq] at h; subst h
  cases hp with
  | d hp => cases hp; exact QOK.same H (by simp [Builtin.len_, ht, ha, run_underlying hu, goInt]) (.d (.i _ _))
 ·rename_i n e hu
  simp only [Option.some.injEq] at h; subst h
  refine QOK.same H (v := .int .i64 n) ?_ (.d (.i _ _))
  cases v <;> simp [Builtin.len_, ht, ha, run_underlying hu, goInt]
 ·rename_i hu
  simp only [Option.some.injEq] at h; subst h
  cases hp with
  | d hp => cases hp; exact QOK.same H (v := .int .i64 0) (by simp [Builtin.len_, ht, ha, run_underlying hu, goInt]) (.d (.i _ _))
 ·rename_i es hu
  simp only [Option.some.injEq] at h; subst h
  cases hp with
  | d hp =>
   cases hp with
   | mpn => exact QOK.same H (v := .int .i64 0) (by simp [Builtin.len_, ht, ha, run_underlying hu, goInt]) (.d (.i _ _))
   | mp ents hr hn hk hv =>
    obtain ⟨c, hc⟩ := H.immm _ _ hr
    exact QOK.same H (v := .int .i64 es.length) (by simp [Builtin.len_, ht, ha, run_underlying hu, goInt, getObj, Sem.run, hc, hn]) (.d (.i _ _))
 ·rename_i hu
  split at h
  ·rename_i es hg
   simp only [Option.some.injEq] at h; subst h
   cases hp with
   | map hr =>
    obtain ⟨o, h1, h2⟩ := H.obj' hr
    rw [hg] at h1
    simp only [Option.some.injEq] at h1
    subst h1
    obtain ⟨ents, c, g1, g2, _⟩ := h2
    exact QOK.same H (v := .int .i64 es.length) (by simp [Builtin.len_, ht, ha, run_underlying hu, goInt, getObj, Sem.run, g1, g2]) (.d (.i _ _))
  ·simp at h
 ·simp at h
theorem zyt (mx : Bool) (k : IntKind) : ∀ (t : List X) (vs : List Value) (a n : Int), vs.length = t.length → (∀ (j : Nat) x v, t[j]? = some x → vs[j]? = some v → XR m R (L.below lp fs.lo.length) x v) → maxL mx k a t = some n →
  ((if mx then vs.foldlM Builtin.max2 (.int k a) else vs.foldlM Builtin.min2 (.int k a) : Sem Value)).run E.P w = .ok (.int k n) w
 | [], [], a, n, _, _, h => by
  simp only [maxL, Option.some.injEq] at h; subst h
  cases mx <;> simp
 | x :: t, v :: vs, a, n, hl, hx, h => by
  simp only [maxL] at h
  split at h
  ·rename_i k' b
   have h0 := hx 0 _ v rfl rfl
   cases h0 with
   | d h0 =>
    cases h0
    have ih := zyt mx k t vs _ n (by simpa using hl) (fun j x v h1 h2 => hx (j + 1) x v (by simpa using h1) (by simpa using h2)) h
    cases mx
    ·simp only [Bool.false_eq_true, if_false] at ih ⊢
     rw [List.foldlM_cons, Sem.run_bind]
     simp only [Builtin.min2, Sem.run_pure, Result.andThen_ok]
     exact ih
    ·simp only [if_true] at ih ⊢
     rw [List.foldlM_cons, Sem.run_bind]
     simp only [Builtin.max2, Sem.run_pure, Result.andThen_ok]
     exact ih
  ·simp at h
theorem zGy (H : WR E m n0 w0 R L fs lp w) {ρx : Operand → X} {ρv : Operand → Value} (hρ : ∀ a, XR m R (L.below lp fs.lo.length) (ρx a) (ρv a)) (mx : Bool) {as : Array Operand} {x : X} (ts : Array TypeId) (ty : TypeId) (h : maxX mx (as.toList.map ρx) = some x) :
  QOK E m n0 w0 R L fs lp w x (if mx then Builtin.max_ ts ty (as.map ρv) else Builtin.min_ ts ty (as.map ρv)) := by
 unfold maxX at h
 split at h
 ·rename_i k a t ht
  obtain ⟨n, hn, rfl⟩ := Option.map_eq_some_iff.1 h
  obtain ⟨o, os, ho⟩ : ∃ o os, as.toList = o :: os := by
   cases hh : as.toList with
   | nil => rw [hh] at ht; simp at ht
   | cons o os => exact ⟨o, os, rfl⟩
  rw [ho] at ht
  simp only [List.map_cons, List.cons.injEq] at ht
  obtain ⟨h1, rfl⟩ := ht
  have h0 := hρ o
  rw [h1] at h0
  have hv : ρv o = .int k a := by
   generalize ρv o = v at h0
   cases h0 with | d h0 => cases h0; rfl
  refine QOK.same H (v := .int k n) ?_ (.d (.i _ _))
  have key := zyt (E := E) (w := w) (m := m) (R := R) (L := L) (fs := fs) (lp := lp) mx k (os.map ρx) (os.map ρv) a n (by simp) (fun j x v e1 e2 => by
   simp only [List.getElem?_map, Option.map_eq_some_iff] at e1 e2
   obtain ⟨p, hp, rfl⟩ := e1
   obtain ⟨q, hq, rfl⟩ := e2
   rw [hp] at hq
   simp only [Option.some.injEq] at hq
   subst hq
   exact hρ p) hn
  cases mx
  ·simp only [Bool.false_eq_true, if_false] at key ⊢
   simp only [Builtin.min_, Array.toList_map, ho, List.map_cons, hv]
   exact key
  ·simp only [if_true] at key ⊢
   simp only [Builtin.max_, Array.toList_map, ho, List.map_cons, hv]
   exact key
 ·simp at h
theorem zah {P : Program} (k : IntKind) (i : Int) (y : Nat) (code : BoundsCode) (h0 : 0 ≤ i) (h1 : i ≤ y) (w : World) : (Instr.sliceBound (.int k i) y code).run P w = .ok i.toNat w := by
 simp [Instr.sliceBound, asIntOf, h0, h1]
def OptV (o : Option Int) (v : Option Value) : Prop := match o, v with
 | none, none => True
 | some i, some v => ∃ k, v = .int k i
 | _, _ => False
theorem z8r {P : Program} {lo : Option Int} {lv : Option Value} (hl : OptV lo lv) (h1 : 0 ≤ lo.getD 0) (y A B : Nat) (code : BoundsCode) (h2 : lo.getD 0 ≤ y) (w : World) :
  (match lv with
   | some v => (do let l ← Instr.sliceBound v y code; pure (l, A, B) : Sem (Nat × Nat × Nat))
   | none => (do let l ← (pure 0 : Sem Nat); pure (l, A, B) : Sem (Nat × Nat × Nat))).run P w = .ok ((lo.getD 0).toNat, A, B) w := by
 cases lo with
 | none =>
  cases lv with
  | none => simp
  | some v => simp [OptV] at hl
 | some i =>
  cases lv with
  | none => simp [OptV] at hl
  | some v =>
   obtain ⟨k, rfl⟩ := hl
   simp only [Option.getD_some] at *
   simp only [Sem.run_bind, zah k i y code h1 h2 w, Result.andThen_ok, Sem.run_pure]
theorem zyi {P : Program} {lo hi mx : Option Int} {lv hv mv : Option Value} (hl : OptV lo lv) (hh : OptV hi hv) (hm : OptV mx mv) (b : Bool) (len cap : Nat)
  (h1 : 0 ≤ lo.getD 0) (h2 : lo.getD 0 ≤ hi.getD len) (h3 : hi.getD len ≤ mx.getD cap) (h4 : mx.getD cap ≤ cap) (h5 : mx.isSome = true → hi.isSome = true) (w : World) :
  (Instr.sliceBounds b len cap lv hv mv).run P w = .ok ((lo.getD 0).toNat, (hi.getD len).toNat, (mx.getD cap).toNat) w := by
 cases mx with
 | none =>
  cases mv with
  | some v => simp [OptV] at hm
  | none =>
   simp only [Option.getD_none, Int.toNat_natCast] at *
   cases hi with
   | none =>
    cases hv with
    | some v => simp [OptV] at hh
    | none =>
     simp only [Option.getD_none, Int.toNat_natCast] at *
     unfold Instr.sliceBounds
     simp only [Sem.run_bind, Sem.run_pure, Result.andThen_ok]
     exact z8r hl h1 len len cap _ h2 w
   | some i =>
    cases hv with
    | none => simp [OptV] at hh
    | some v =>
     obtain ⟨k, rfl⟩ := hh
     simp only [Option.getD_some] at *
     unfold Instr.sliceBounds
     simp only [Sem.run_bind, Sem.run_pure, Result.andThen_ok]
     rw [zah k i cap _ (by omega) h3 w]
     simp only [Result.andThen_ok]
     exact z8r hl h1 i.toNat i.toNat cap _ (by omega) w
 | some mi =>
  cases mv with
  | none => simp [OptV] at hm
  | some v =>
   obtain ⟨k, rfl⟩ := hm
   cases hi with
   | none => simp at h5
   | some i =>
    cases hv with
    | none => simp [OptV] at hh
    | some v =>
     obtain ⟨k', rfl⟩ := hh
     simp only [Option.getD_some] at *
     unfold Instr.sliceBounds
     simp only [Sem.run_bind, Sem.run_pure, Result.andThen_ok]
     rw [zah k mi cap _ (by omega) h4 w]
     simp only [Result.andThen_ok]
     rw [zah k' i mi.toNat _ (by omega) (by omega) w]
     simp only [Result.andThen_ok]
     exact z8r hl h1 i.toNat i.toNat mi.toNat _ (by omega) w
theorem zqq {ρx : Operand → X} {ρv : Operand → Value} (hρ : ∀ a, XR m R L (ρx a) (ρv a)) {a : Option Operand} {o : Option Int} (h : optI ρx a = some o) : OptV o (a.map ρv) := by
 cases a with
 | none => simp only [optI, Option.some.injEq] at h; subst h; trivial
 | some a =>
  simp only [optI] at h
  obtain ⟨n, hn, rfl⟩ := Option.map_eq_some_iff.1 h
  obtain ⟨k, hk⟩ := zvq (hρ a) hn
  exact ⟨k, hk⟩
theorem z4r (H : WR E m n0 w0 R L fs lp w) {l s n : Nat} {v : Value} (h : XR m R (L.below lp fs.lo.length) (.row l s n) v) {d : D} (hd : toD fs.get (.row l s n) = some d) : DR m d v := by
 obtain ⟨z, a, k, cap, a', n', c', rfl, h1, h2, h3⟩ := zVk H h
 obtain ⟨o, g1, g2⟩ := H.obj' h1
 unfold toD at hd
 simp only at hd
 rw [g1] at hd
 cases o with
 | row z' es wr =>
  cases wr with
  | true => simp at hd
  | false =>
   simp only at hd
   split at hd
   ·rename_i hn
    simp only [Option.some.injEq] at hd
    subst hd
    obtain ⟨e1, e2, e3, e4, e5, e6, β, o, sp, e7, e8⟩ := g2
    obtain ⟨rfl, rfl, rfl⟩ := h3 (by omega)
    subst e7
    subst e3
    by_cases hc : 0 < c'
    ·obtain ⟨rfl, rfl, arr, T, b1, b2, b3, b4, b5, b6⟩ := e8 hc
     refine .sl z' (fun i j => arr.getD (i * z' + j) undef) (fun _ => rfl) (by simp) (by simp) e4 e5 e6 (fun i j e d he hd => ?_) b3
     rw [Nat.zero_add]
     have hj := zS hd
     rw [e5 e (List.mem_of_getElem? he)] at hj
     exact b6 rfl _ (zUf (zS he) hj (Nat.le_refl _))
    ·have he : es = [] := List.eq_nil_of_length_eq_zero (by omega)
     subst he
     exact .sl z' (fun _ _ => undef) (fun h => absurd rfl h) (by simp) (by simp) e4 e5 e6 (fun i j e d he hd => by simp at he) (fun i j e d he hd => by simp at he)
   ·simp at hd
 | nrow =>
  simp only at hd
  split at hd
  ·rename_i hn
   simp only [Option.some.injEq] at hd
   subst hd
   obtain ⟨e1, e2, e3, e4⟩ := g2
   obtain ⟨rfl, rfl, rfl⟩ := h3 (by omega)
   subst e2; subst e3; subst e4
   exact .nils
  ·simp at hd
 | _ => simp at hd
theorem zYu {T : TypeId} {z b : Nat} (hq : slT E.P T = some (z, b)) {es : List (List D)} {c : Cap} {v : Value} (hv : DR m (.sl es c) v) {lo hi mx : Option Int} {lv hv' mv : Option Value} (hl : OptV lo lv) (hh : OptV hi hv') (hm : OptV mx mv) {d : D} (h : cutX z es c lo hi mx = some d) (w : World) :
  ∃ u, (Instr.sliceAt T v lv hv' mv).run E.P w = .ok u w ∧ DR m d u := by
 obtain ⟨e, inf, h1, h2, rfl, _⟩ := znq hq
 unfold cutX at h
 simp only at h
 split at h
 ·rename_i hc
  obtain ⟨c1, c2, c3, c4⟩ := hc
  have hsz : (sizeOf e).run E.P w = .ok inf.size w := by simp [sizeOf, typeInfo, h2]
  cases hv with
  | nils =>
   simp only [List.length_nil, Int.natCast_zero] at c2 c3 h
   have e1 : lo.getD 0 = 0 := by omega
   have e2 : hi.getD 0 = 0 := by omega
   have hmx : mx.getD 0 = 0 ∧ (mx.isSome = true → hi.isSome = true) ∧ d = .sl [] .nil := by
    cases mx with
    | none => simp at h; exact ⟨rfl, by simp, h.symm⟩
    | some mi =>
     simp only at h
     split at h
     ·rename_i hm'
      simp at h
      exact ⟨by simp; omega, fun _ => hm'.2.2, h.symm⟩
     ·simp at h
   obtain ⟨m1, m2, rfl⟩ := hmx
   refine ⟨.slice none 0 0, ?_, .nils⟩
   have hb : (Instr.sliceBounds true 0 0 lv hv' mv).run E.P w = .ok ((lo.getD 0).toNat, (hi.getD 0).toNat, (mx.getD 0).toNat) w := zyi (P := E.P) hl hh hm true 0 0 c1 c2 (show hi.getD 0 ≤ mx.getD 0 by omega) (show mx.getD 0 ≤ 0 by omega) m2 w
   simp only [Instr.sliceAt, Sem.run_bind, run_underlying h1, Result.andThen_ok, Instr.slice]
   rw [hb]
   simp only [Result.andThen_ok, Sem.run_bind, hsz, m1, e1]
   simp [e2]
  | @sl _ _ β o cap sp z g hsp k1 k2 k3 k4 k5 k6 k7 =>
   have hmx : hi.getD es.length ≤ mx.getD (cap : Int) ∧ mx.getD (cap : Int) ≤ cap ∧ (mx.isSome = true → hi.isSome = true) ∧
     ∃ c', d = .sl ((es.take (hi.getD es.length).toNat).drop (lo.getD 0).toNat) c' ∧ c' ≠ .nil ∧ (c' = .ex → mx.getD (cap : Int) = hi.getD es.length) := by
    cases mx with
    | none =>
     simp only [if_neg k1, Option.some.injEq] at h
     subst h
     refine ⟨by simp; omega, by simp, by simp, _, rfl, by split <;> simp, fun e => ?_⟩
     split at e
     ·rename_i e'
      rw [k2 e'.1, e'.2]; simp
     ·cases e
    | some mi =>
     simp only [if_neg k1] at h
     split at h
     ·rename_i hm'
      simp only [Option.some.injEq] at h
      subst h
      refine ⟨by simp; omega, by simp; omega, fun _ => hm'.2.2, _, rfl, by split <;> simp, fun e => ?_⟩
      split at e
      ·rename_i e'; simpa using e'
      ·cases e
     ·simp at h
   obtain ⟨m1, m2, m3, c', rfl, m4, m5⟩ := hmx
   have hb := zyi (P := E.P) hl hh hm true es.length cap c1 c2 m1 m2 m3 w
   refine ⟨.slice (some (if (mx.getD (cap : Int)).toNat = (lo.getD 0).toNat then ⟨β, o, sp⟩ else ⟨β, o + (lo.getD 0).toNat * inf.size, if (lo.getD 0).toNat * inf.size = 0 then sp else none⟩)) ((hi.getD es.length).toNat - (lo.getD 0).toNat) ((mx.getD (cap : Int)).toNat - (lo.getD 0).toNat), ?_, ?_⟩
   ·simp only [Instr.sliceAt, Sem.run_bind, run_underlying h1, Result.andThen_ok, Instr.slice]
    rw [hb]
    simp only [Result.andThen_ok, Sem.run_bind, hsz]
    simp only [Sem.run_pure, Result.ok.injEq, and_true, Value.slice.injEq]
    split <;> simp [zVz]
   ·generalize hL : (lo.getD 0).toNat = l at *
    generalize hH : (hi.getD (es.length : Int)).toNat = hh' at *
    generalize hM : (mx.getD (cap : Int)).toNat = mm at *
    have b1 : l ≤ hh' := by omega
    have b2 : hh' ≤ es.length := by omega
    have b3 : hh' ≤ mm := by omega
    have hlen : ((es.take hh').drop l).length = hh' - l := by simp; omega
    rw [← hlen]
    have hget : ∀ (i : Nat) e, ((es.take hh').drop l)[i]? = some e → es[l + i]? = some e := by
     intro i e he
     rw [List.getElem?_drop, List.getElem?_take] at he
     split at he
     ·exact he
     ·simp at he
    by_cases he : mm = l
    ·rw [if_pos he]
     have : (es.take hh').drop l = [] := List.eq_nil_of_length_eq_zero (by rw [hlen]; omega)
     rw [this]
     refine .sl z (fun _ _ => undef) (fun h => absurd rfl h) m4 (fun e => ?_) (by simp) (by simp) (by simp) (by simp) (by simp)
     have := m5 e
     simp; omega
    ·rw [if_neg he]
     refine .sl z (fun i j => g (l + i) j) (fun h => by rw [hsp fun h0 => h (by rw [h0]; simp)]; split <;> rfl) m4 (fun e => ?_) (by rw [hlen]; omega) (fun e he => k4 e (List.mem_of_mem_take (List.mem_of_mem_drop he))) (fun e he => k5 e (List.mem_of_mem_take (List.mem_of_mem_drop he))) (fun i j e d he hd => ?_) (fun i j e d he hd => k7 _ _ _ _ (hget i e he) hd)
     ·have := m5 e
      rw [hlen]; omega
     ·have hes := hget _ _ he
      have hz : l = 0 ∨ inf.size = z := by
       rcases c4 with c4 | c4
       ·left; omega
       ·right
        rw [List.all_eq_true] at c4
        have hm := List.mem_of_getElem? hes
        have := c4 e hm
        rw [k4 e hm] at this
        exact (beq_iff_eq.1 this).symm
      have := k6 _ _ _ _ hes hd
      have e3 : o + l * inf.size + (i * z + j) = o + ((l + i) * z + j) := by
       rcases hz with rfl | hz
       ·simp
       ·rw [hz, Nat.add_mul]; omega
      rw [e3]; exact this
 ·simp at h
theorem znv (H : WR E m n0 w0 R L fs lp w) {ρx : Operand → X} {ρv : Operand → Value} (hρ : ∀ a, XR m R (L.below lp fs.lo.length) (ρx a) (ρv a)) {T : TypeId} {p x : X} {v : Value} (hp : XR m R (L.below lp fs.lo.length) p v) {lo hi mx : Option Operand} (h : z7b E.P fs.get T ρx p lo hi mx = some x) :
  QOK E m n0 w0 R L fs lp w x (Instr.sliceAt T v (lo.map ρv) (hi.map ρv) (mx.map ρv)) := by
 unfold z7b at h
 split at h
 ·rename_i l h' mm hl hh hm
  have ol := zqq hρ hl
  have oh := zqq hρ hh
  have om := zqq hρ hm
  split at h
  ·rename_i es c hu
   simp only [Option.bind_eq_some_iff, Option.map_eq_some_iff] at h
   obtain ⟨q, hq, d, hd, rfl⟩ := h
   cases hp with
   | d hp =>
    obtain ⟨u, r1, r2⟩ := zYu (z := q.1) (b := q.2) hq hp ol oh om hd w
    exact QOK.same H r1 (.d r2)
  ·rename_i a b n hu
   split at h
   ·rename_i es c hes
    simp only [Option.bind_eq_some_iff, Option.map_eq_some_iff] at h
    obtain ⟨q, hq, d, hd, rfl⟩ := h
    obtain ⟨u, r1, r2⟩ := zYu (z := q.1) (b := q.2) hq (z4r H hp hes) ol oh om hd w
    exact QOK.same H r1 (.d r2)
   ·simp at h
  ·rename_i b hu
   split at h
   ·rename_i hmn
    simp only at h
    split at h
    ·rename_i hc
     obtain ⟨c1, c2, c3⟩ := hc
     simp only [Option.some.injEq] at h
     subst h
     cases hp with
     | d hp =>
      cases hp
      have hmx : mx.map ρv = none ∧ mm = none := by
       cases mm with
       | none =>
        cases hmv : mx.map ρv with
        | none => exact ⟨rfl, rfl⟩
        | some v => rw [hmv] at om; simp [OptV] at om
       | some i => simp at hmn
      obtain ⟨m1, m2⟩ := hmx
      refine QOK.same H (v := .string (b.extract (l.getD 0).toNat (h'.getD b.size).toNat)) ?_ (.d (.s _))
      have hb := zyi (P := E.P) (mx := none) (mv := none) ol oh trivial false b.size b.size c1 c2 c3 (by simp) (by simp) w
      simp only [Instr.sliceAt, Sem.run_bind, run_underlying hu, Result.andThen_ok, Instr.slice, m1]
      simp only [Option.isSome_none, Bool.false_eq_true, if_false, Sem.run_bind, Sem.run_pure, Result.andThen_ok, hb]
    ·simp at h
   ·simp at h
  ·simp at h
 ·simp at h
end
end Go.AM
set_option linter.unusedSimpArgs false
set_option linter.unusedVariables false
namespace Go.AM
open Go Go.RowKit
theorem zws : ∀ (l : List Value) (s off : Nat) (cells : Array Value), off + s + l.length ≤ cells.size →
  ((l.zipIdx s).foldl (fun cs p => cs.setIfInBounds (off + p.2) p.1) cells).size = cells.size ∧
  ∀ k, ((l.zipIdx s).foldl (fun cs p => cs.setIfInBounds (off + p.2) p.1) cells).getD k undef = if off + s ≤ k ∧ k < off + s + l.length then l.getD (k - (off + s)) undef else cells.getD k undef
 | [], s, off, cells, h => by
  refine ⟨rfl, fun k => ?_⟩
  simp only [List.zipIdx_nil, List.foldl_nil, List.length_nil, Nat.add_zero]
  rw [if_neg (by omega)]
 | v :: l, s, off, cells, h => by
  simp only [List.length_cons] at h
  obtain ⟨h1, h2⟩ := zws l (s + 1) off (cells.setIfInBounds (off + s) v) (by simp; omega)
  simp only [List.zipIdx_cons, List.foldl_cons]
  refine ⟨by rw [h1]; simp, fun k => ?_⟩
  rw [h2]
  simp only [List.length_cons]
  by_cases e : k = off + s
  ·subst e
   rw [if_neg (by omega), if_pos (by omega)]
   have : off + s < cells.size := by omega
   simp [Array.getD, this]
  ·by_cases e2 : off + (s + 1) ≤ k ∧ k < off + (s + 1) + l.length
   ·rw [if_pos e2, if_pos (by omega)]
    rw [show k - (off + s) = (k - (off + (s + 1))) + 1 by omega]
    simp
   ·rw [if_neg e2, if_neg (by omega)]
    simp only [Array.getD, Array.size_setIfInBounds]
    split
    ·rw [Array.getInternal_eq_getElem, Array.getInternal_eq_getElem, Array.getElem_setIfInBounds_ne _ (by omega)]
    ·rfl
theorem z0s (vc cells : Array Value) (off : Nat) (h : off + vc.size ≤ cells.size) :
  (vc.zipIdx.foldl (fun cs p => cs.setIfInBounds (off + p.2) p.1) cells).size = cells.size ∧
  ∀ k, (vc.zipIdx.foldl (fun cs p => cs.setIfInBounds (off + p.2) p.1) cells).getD k undef = if off ≤ k ∧ k < off + vc.size then vc.getD (k - off) undef else cells.getD k undef := by
 have := zws vc.toList 0 off cells (by simpa using h)
 rw [← Array.foldl_toList, Array.toList_zipIdx]
 refine ⟨this.1, fun k => ?_⟩
 rw [this.2]
 simp [Array.getD_eq_getD_getElem?, List.getD_eq_getElem?_getD]
section
variable {E : Env} {m : Imm} {n0 : Nat} {w0 : Base} {R : RM} {L : LM} {fs : FS} {lp : List LRec} {w : World}
theorem ztn {α : Type} (cs : List α) (o : Nat) (vs : List α) (h : o + vs.length ≤ cs.length) (k : Nat) : (zdc cs o vs)[k]? = if o ≤ k ∧ k < o + vs.length then vs[k - o]? else cs[k]? := by
 unfold zdc
 split
 ·rename_i e
  obtain ⟨rfl, e⟩ := e
  simp only [Nat.zero_le, true_and, Nat.zero_add, Nat.sub_zero]
  split
  ·rfl
  ·rename_i hk
   rw [List.getElem?_eq_none (by omega), List.getElem?_eq_none (by omega)]
 ·split
  ·rename_i v
   simp only [List.length_singleton] at h ⊢
   rw [List.getElem?_set]
   by_cases e : o = k
   ·subst e
    simp; omega
   ·rw [if_neg e, if_neg (by omega)]
  ·rw [List.getElem?_append, List.getElem?_append]
   simp only [List.length_append, List.length_take]
   have hm : min o cs.length = o := by omega
   rw [hm]
   by_cases h1 : k < o
   ·rw [if_pos (by omega), if_pos h1, if_neg (by omega), List.getElem?_take, if_pos h1]
   ·by_cases h2 : k < o + vs.length
    ·rw [if_pos h2, if_neg h1, if_pos (by omega)]
    ·rw [if_neg h2, if_neg (by omega), List.getElem?_drop]
     congr 1; omega
theorem zjk {α : Type} (cs : List α) (o : Nat) (vs : List α) (h : o + vs.length ≤ cs.length) : (zdc cs o vs).length = cs.length := by
 unfold zdc
 split
 ·rename_i e; exact e.2
 ·split
  ·simp
  ·simp; omega
theorem zgn {α : Type} {cs : List α} {o : Nat} {vs : List α} {x : α} (h : x ∈ zdc cs o vs) : x ∈ cs ∨ x ∈ vs := by
 unfold zdc at h
 split at h
 ·exact .inr h
 ·split at h
  ·rcases List.mem_or_eq_of_mem_set h with h | h
   ·exact .inl h
   ·exact .inr (by simp [h])
  ·simp only [List.mem_append] at h
   rcases h with (h | h) | h
   ·exact .inl (List.mem_of_mem_take h)
   ·exact .inr h
   ·exact .inl (List.mem_of_mem_drop h)
theorem zTn {R : RM} {L : LM} {x : X} {v : Value} (h : XR m R L x v) {cs : List X} (hc : zOg x = some cs) :
  v.cells.size = cs.length ∧ (∀ y, y ∈ cs → y.sc = true) ∧ ∀ (j : Nat) y, cs[j]? = some y → XR m R L y (v.cells.getD j undef) := by
 unfold zOg at hc
 split at hc
 ·obtain ⟨arr, rfl, a1, a2, a3⟩ := z1l h (cs := cs) (by simpa [aggX] using hc)
  exact ⟨a1, a2, a3⟩
 ·obtain ⟨arr, rfl, a1, a2, a3⟩ := z1l h (cs := cs) (by simpa [aggX] using hc)
  exact ⟨a1, a2, a3⟩
 ·split at hc
  ·rename_i hs
   simp only [Option.some.injEq] at hc
   subst hc
   have hv : v.cells = #[v] := by
    have := h.sc1 hs
    cases v <;> first | rfl | (simp [sc1] at this)
   rw [hv]
   refine ⟨rfl, by simpa using hs, fun j y hj => ?_⟩
   cases j with
   | zero => simp at hj; subst hj; exact h
   | succ j => simp at hj
  ·simp at hc
structure PX (m : Imm) (R : RM) (L : LM) (cs : List X) (arr : Array Value) : Prop where
 size : arr.size = cs.length
 sc : ∀ y, y ∈ cs → y.sc = true
 at_ : ∀ (j : Nat) y, cs[j]? = some y → XR m R L y (arr.getD j undef)
theorem zfv {R : RM} {L : LM} {pl : Nat → Option (Nat × Nat)} : ∀ (px : List (Nat × X)) (pv : List (Nat × Value)) (cs cs' : List X) (arr : Array Value), pv.length = px.length → (∀ (j : Nat) a b, px[j]? = some a → pv[j]? = some b → a.1 = b.1 ∧ XR m R L a.2 b.2) →
  PX m R L cs arr → zar pl cs px = some cs' → ∃ arr', Instr.fill pl arr pv = some arr' ∧ PX m R L cs' arr'
 | [], [], cs, cs', arr, _, _, h, hf => by
  simp only [zar, Option.some.injEq] at hf
  subst hf
  exact ⟨arr, rfl, h⟩
 | a :: px, b :: pv, cs, cs', arr, hl, hx, h, hf => by
  simp only [zar] at hf
  split at hf
  ·rename_i q vs hq hv
   split at hf
   ·rename_i hc
    obtain ⟨hab, h0⟩ := hx 0 a b rfl rfl
    obtain ⟨c1, c2, c3⟩ := zTn h0 hv
    obtain ⟨off, size⟩ := q
    simp only at hc
    have hle : off + b.2.cells.size ≤ arr.size := by rw [c1, h.size]; omega
    obtain ⟨s1, s2⟩ := z0s b.2.cells arr off hle
    have hlen := zjk cs off vs (by omega)
    obtain ⟨arr', r1, r2⟩ := zfv px pv (zdc cs off vs) cs' (b.2.cells.zipIdx.foldl (fun cs p => cs.setIfInBounds (off + p.2) p.1) arr) (by simpa using hl)
     (fun j x y h1 h2 => hx (j + 1) x y (by simpa using h1) (by simpa using h2))
     ⟨by rw [s1, h.size, hlen], fun y hy => (zgn hy).elim (h.sc y) (c2 y), fun j y hj => by
      rw [ztn cs off vs (by omega)] at hj
      rw [s2, c1]
      split at hj
      ·rename_i hk
       rw [if_pos hk]
       exact c3 _ y hj
      ·rename_i hk
       rw [if_neg hk]
       exact h.at_ j y hj⟩ hf
    refine ⟨arr', ?_, r2⟩
    obtain ⟨i, v⟩ := b
    simp only at hab
    simp only [Instr.fill]
    rw [← hab, hq]
    simp only
    rw [if_neg (by
     simp only [Bool.or_eq_true, decide_eq_true_eq, not_or]
     simp only at c1 hle
     constructor
     ·simp; omega
     ·omega)]
    exact r1
   ·simp at hf
  ·simp at hf
 | [], b :: pv, _, _, _, hl, _, _, _ => by simp at hl
 | a :: px, [], _, _, _, hl, _, _, _ => by simp at hl
theorem zZt {v : Value} {d : D} (h : cD v = some d) (m : Imm) : DR m d v := by
 unfold cD at h
 split at h <;> simp at h
 ·subst h; exact .b _
 ·subst h; exact .i _ _
 ·subst h; exact .s _
 ·subst h; exact .nils
 ·subst h; exact .mpn
 ·subst h; exact .nilf
theorem zRB {v : Value} {d : D} (h : cD v = some d) : d.sc = true := by
 unfold cD at h
 split at h <;> simp at h <;> subst h <;> rfl
theorem zZr : ∀ {vs : List Value} {ds : List D}, cDs vs = some ds → vs.length = ds.length ∧ (∀ d, d ∈ ds → d.sc = true) ∧ ∀ (m : Imm) (j : Nat) d v, ds[j]? = some d → vs[j]? = some v → DR m d v
 | [], ds, h => by simp [cDs] at h; subst h; simp
 | v :: vs, ds, h => by
  simp only [cDs] at h
  split at h
  ·rename_i d ds' h1 h2
   simp at h; subst h
   obtain ⟨a, b, c⟩ := zZr h2
   refine ⟨by simp [a], fun x hx => ?_, fun m j x u hj hu => ?_⟩
   ·simp only [List.mem_cons] at hx
    rcases hx with rfl | hx
    ·exact zRB h1
    ·exact b x hx
   ·cases j with
    | zero => simp at hj hu; subst hj; subst hu; exact zZt h1 m
    | succ j => simp at hj hu; exact c m j x u hj hu
  ·simp at h
theorem z2o {P : Program} {T : TypeId} {ds : List D} (h : zcT P T = some ds) : ∃ i z, P.info? T = some i ∧ i.zero = some z ∧ z.cells.size = ds.length ∧ (∀ d, d ∈ ds → d.sc = true) ∧ ∀ (m : Imm) (j : Nat) d, ds[j]? = some d → DR m d (z.cells.getD j undef) := by
 unfold zcT at h
 split at h
 ·rename_i v hv
  simp only [Option.bind_eq_some_iff] at hv
  obtain ⟨i, h1, h2⟩ := hv
  obtain ⟨a, b, c⟩ := zZr h
  refine ⟨i, v, h1, h2, by simpa using a, b, fun m j d hd => ?_⟩
  have hj := zS hd
  rw [← a] at hj
  exact c m j d _ hd (by
   simp only [Array.length_toList] at hj
   simp [Array.getD, hj])
 ·simp at h
theorem zkj {P : Program} {T : TypeId} {i : TypeInfo} {z : Value} (h1 : P.info? T = some i) (h2 : i.zero = some z) (w : World) : (zeroValue T).run P w = .ok z w := by simp [zeroValue, typeInfo, h1, h2]
theorem zxr {P : Program} : ∀ (fds : List Field), (fds.all fun f => (szT P f.type).isSome) = true → ∀ w : World,
  (fds.mapM fun f => (do pure (f.offset, ← sizeOf f.type) : Sem (Nat × Nat))).run P w = .ok (fds.map fun f => (f.offset, (szT P f.type).getD 0)) w
 | [], _, w => by simp
 | f :: fds, h, w => by
  simp only [List.all_cons, Bool.and_eq_true] at h
  obtain ⟨z, hz⟩ := Option.isSome_iff_exists.1 h.1
  rw [List.mapM_cons]
  simp only [Sem.run_bind, zHc hz, Result.andThen_ok, Sem.run_pure, zxr fds h.2 w, hz, Option.getD_some, List.map_cons]
theorem z2y {P : Program} {T : TypeId} {pl : Nat → Option (Nat × Nat)} (h : plT P T = some pl) (pv : List (Nat × Value)) {i : TypeInfo} {z : Value} (h1 : P.info? T = some i) (h2 : i.zero = some z) {arr : Array Value} (hf : Instr.fill pl z.cells pv = some arr) (parts : Array (Nat × Value)) (hp : parts.toList = pv)
  (w : World) : (Instr.build T parts).run P w = .ok (.agg arr) w := by
 unfold plT at h
 subst hp
 split at h
 ·rename_i fds hu
  split at h
  ·rename_i hall
   simp only [Option.some.injEq] at h
   have hm : (fds.mapM fun f => (do pure (f.offset, ← sizeOf f.type) : Sem (Nat × Nat))).run P w = .ok (fds.toList.map fun f => (f.offset, (szT P f.type).getD 0)).toArray w := by
    rw [Array.mapM_eq_mapM_toList, Sem.run_map, zxr fds.toList hall w]
    rfl
   have hpl : (fun i => ((fds.toList.map fun f => (f.offset, (szT P f.type).getD 0)).toArray)[i]?) = pl := by
    rw [← h]
    funext i
    simp
   simp only [Instr.build, Sem.run_bind, zkj h1 h2, Result.andThen_ok, run_underlying hu]
   rw [hm]
   simp only [Result.andThen_ok]
   rw [hpl, hf]
   rfl
  ·simp at h
 ·rename_i n e hu
  obtain ⟨z', hz, rfl⟩ := Option.map_eq_some_iff.1 h
  simp only [Instr.build, Sem.run_bind, zkj h1 h2, Result.andThen_ok, run_underlying hu, zHc hz]
  simp only [Sem.run_pure, Result.andThen_ok, hf]
 ·simp at h
theorem zUt {R : RM} {L : LM} {ρx : Operand → X} {ρv : Operand → Value} (hρ : ∀ a, XR m R L (ρx a) (ρv a)) (ps : Array (Nat × Operand)) (j : Nat) (a : Nat × X) (b : Nat × Value) (h1 : (ps.toList.map fun p => (p.1, ρx p.2))[j]? = some a) (h2 : ((ps.map fun p => (p.1, ρv p.2)).toList)[j]? = some b) : a.1 = b.1 ∧ XR m R L a.2 b.2 := by
 rw [Array.toList_map] at h2
 simp only [List.getElem?_map, Option.map_eq_some_iff] at h1 h2
 obtain ⟨p, hp, rfl⟩ := h1
 obtain ⟨q, hq, rfl⟩ := h2
 rw [hp] at hq
 simp only [Option.some.injEq] at hq
 subst hq
 exact ⟨rfl, hρ _⟩
theorem znz (H : WR E m n0 w0 R L fs lp w) {ρx : Operand → X} {ρv : Operand → Value} (hρ : ∀ a, XR m R (L.below lp fs.lo.length) (ρx a) (ρv a)) {T : TypeId} {ps : Array (Nat × Operand)} {x : X} (h : zwu E.P T (ps.toList.map fun p => (p.1, ρx p.2)) = some x) :
  QOK E m n0 w0 R L fs lp w x (Instr.build T (ps.map fun p => (p.1, ρv p.2))) := by
 unfold zwu at h
 split at h
 ·rename_i zs pl hz hpl
  obtain ⟨cs, hf, rfl⟩ := Option.map_eq_some_iff.1 h
  obtain ⟨i, z, z1, z2, z3, z4, z5⟩ := z2o hz
  obtain ⟨arr, f1, f2⟩ := zfv (m := m) (R := R) (L := L.below lp fs.lo.length) _ (ps.map fun p => (p.1, ρv p.2)).toList _ cs z.cells (by simp) (fun j a b h1 h2 => zUt hρ ps j a b h1 h2)
   ⟨by simpa using z3, fun y hy => by
    simp only [List.mem_map] at hy
    obtain ⟨d, hd, rfl⟩ := hy
    exact z4 d hd, fun j y hj => by
    simp only [List.getElem?_map, Option.map_eq_some_iff] at hj
    obtain ⟨d, hj, rfl⟩ := hj
    exact .d (z5 m j d hj)⟩ hf
  exact QOK.same H (z2y hpl _ z1 z2 f1 _ rfl w) (XR.mkAgg f2.size f2.sc f2.at_)
 ·simp at h
def Imm.add (m : Imm) (β : Nat) (arr : Array Value) (n : Nat) : Imm := { m with cell := fun b o => if b = β ∧ o < n then arr[o]? else m.cell b o }
theorem Imm.add_le {m : Imm} {β n : Nat} {arr : Array Value} (h : ∀ o, m.cell β o = none) : m.le (m.add β arr n) :=
 ⟨(fun b o v hv => by
  simp only [Imm.add]
  rw [if_neg]
  ·exact hv
  ·rintro ⟨rfl, _⟩
   rw [h] at hv; cases hv), fun r e h => h⟩
theorem WR.fresh (H : WR E m n0 w0 R L fs lp w) {β : Nat} (h : w.heap.size ≤ β) (o : Nat) : m.cell β o = none := by
 cases hc : m.cell β o with
 | none => rfl
 | some v =>
  have := World.block_lt_of_cell? w _ (H.imm _ _ _ hc)
  simp at this; omega
theorem WR.addImm (H : WR E m n0 w0 R L fs lp w) {w' : World} {arr : Array Value} {T : TypeId} {β : Nat} (n : Nat) (hb : Below w.heap.size w w') (hβ : w.heap.size ≤ β) (ha : w'.heap[β]? = some (.cells arr T (0, 0))) : WR E (m.add β arr n) n0 w0 R L fs lp w' := by
 refine H.grow (Imm.add_le fun o => H.fresh hβ o) hb (fun b o v hv => ?_) (fun r e h => .inl h)
 simp only [Imm.add] at hv
 split at hv
 ·rename_i e
  obtain ⟨rfl, _⟩ := e
  exact .inr ⟨hβ, by simp [World.cell?, ha, hv]⟩
 ·exact .inl hv
theorem Imm.add_at {m : Imm} {β n o : Nat} {arr : Array Value} (h : o < n) (h2 : o < arr.size) : (m.add β arr n).cell β o = some (arr.getD o undef) := by
 simp [Imm.add, h, Array.getD, h2]
theorem zzb (w : World) (o : Obj) : (w.alloc o).heap[w.heap.size]? = some o := World.alloc_heap_new w o
theorem DR.fresh {m' : Imm} {es : List (List D)} {z : Nat} {arr : Array Value} {β cap : Nat} {c : Cap} (hc : c ≠ .nil) (hex : c = .ex → cap = es.length) (hcap : es.length ≤ cap) (hz : ∀ e, e ∈ es → e.length = z) (hs : ∀ e, e ∈ es → ∀ d, d ∈ e → d.sc = true) (hn : es.length * z ≤ arr.size)
  (ha : ∀ o, o < es.length * z → m'.cell β o = some (arr.getD o undef)) (h : ∀ (i j : Nat) e d, es[i]? = some e → e[j]? = some d → DR m' d (arr.getD (i * z + j) undef)) : DR m' (.sl es c) (.slice (some ⟨β, 0, none⟩) es.length cap) := by
 refine .sl z (fun i j => arr.getD (i * z + j) undef) (fun _ => rfl) hc hex hcap hz hs (fun i j e d he hd => ?_) h
 rw [Nat.zero_add]
 have hj := zS hd
 rw [hz e (List.mem_of_getElem? he)] at hj
 exact ha _ (zUf (zS he) hj (Nat.le_refl _))
structure RC (m : Imm) (z : Nat) (es : List (List D)) (arr : Array Value) : Prop where
 len : ∀ e, e ∈ es → e.length = z
 sc : ∀ e, e ∈ es → ∀ d, d ∈ e → d.sc = true
 at_ : ∀ (i j : Nat) e d, es[i]? = some e → e[j]? = some d → DR m d (arr.getD (i * z + j) undef)
theorem zYr {cs : List X} {ds : List D} (h : allD cs = some ds) {R : RM} {L : LM} {m : Imm} {arr : Array Value} (hx : ∀ (j : Nat) y, cs[j]? = some y → XR m R L y (arr.getD j undef)) (j : Nat) (d : D) (hd : ds[j]? = some d) : DR m d (arr.getD j undef) := by
 have := zGe h
 subst this
 have := hx j (.d d) (by simp [hd])
 cases this with
 | d h => exact h
theorem zvt {R : RM} {L : LM} {z : Nat} : ∀ (px : List (Nat × X)) (pv : List (Nat × Value)) (es es' : List (List D)) (arr : Array Value), pv.length = px.length → (∀ (j : Nat) a b, px[j]? = some a → pv[j]? = some b → a.1 = b.1 ∧ XR m R L a.2 b.2) →
  arr.size = es.length * z → RC m z es arr → zXq z es px = some es' → ∃ arr', Instr.fill (fun i => some (i * z, z)) arr pv = some arr' ∧ arr'.size = arr.size ∧ es'.length = es.length ∧ RC m z es' arr'
 | [], [], es, es', arr, _, _, _, h, hf => by
  simp only [zXq, Option.some.injEq] at hf
  subst hf
  exact ⟨arr, rfl, rfl, rfl, h⟩
 | a :: px, b :: pv, es, es', arr, hl, hx, hsz, h, hf => by
  simp only [zXq] at hf
  split at hf
  ·rename_i vs hv
   simp only [Option.bind_eq_some_iff] at hv
   obtain ⟨cs, hcs, hds⟩ := hv
   split at hf
   ·rename_i hc
    obtain ⟨hab, h0⟩ := hx 0 a b rfl rfl
    obtain ⟨c1, c2, c3⟩ := zTn h0 hcs
    have hlen : cs.length = vs.length := by have := zGe hds; subst this; simp
    have hle : a.1 * z + b.2.cells.size ≤ arr.size := by
     rw [c1, hlen, hc.1, hsz]
     have : (a.1 + 1) * z ≤ es.length * z := Nat.mul_le_mul_right z hc.2
     rw [Nat.add_mul] at this; omega
    obtain ⟨s1, s2⟩ := z0s b.2.cells arr (a.1 * z) hle
    obtain ⟨arr', r1, r2, r3, r4⟩ := zvt px pv (es.set a.1 vs) es' (b.2.cells.zipIdx.foldl (fun cs p => cs.setIfInBounds (a.1 * z + p.2) p.1) arr) (by simpa using hl)
     (fun j x y h1 h2 => hx (j + 1) x y (by simpa using h1) (by simpa using h2))
     (by rw [s1, hsz]; simp)
     ⟨fun e he => by
      rcases List.mem_or_eq_of_mem_set he with he | rfl
      ·exact h.len e he
      ·exact hc.1, fun e he d hd => by
      rcases List.mem_or_eq_of_mem_set he with he | rfl
      ·exact h.sc e he d hd
      ·have := zGe hds; subst this
       exact c2 (.d d) (by simp [hd]), fun i j e d he hd => by
      rw [s2, c1, hlen, hc.1]
      rw [List.getElem?_set] at he
      split at he
      ·rename_i e1
       subst e1
       split at he
       ·simp only [Option.some.injEq] at he
        subst he
        have hj := zS hd
        rw [if_pos ⟨by omega, by omega⟩, show a.1 * z + j - a.1 * z = j by omega]
        exact zYr hds c3 j d hd
       ·simp at he
      ·rename_i e1
       have hj := zS hd
       rw [h.len e (List.mem_of_getElem? he)] at hj
       rw [if_neg]
       ·exact h.at_ i j e d he hd
       ·rintro ⟨q1, q2⟩
        rcases Nat.lt_or_ge i a.1 with g | g
        ·have : (i + 1) * z ≤ a.1 * z := Nat.mul_le_mul_right z g
         rw [Nat.add_mul] at this; omega
        ·have g' : a.1 + 1 ≤ i := by omega
         have : (a.1 + 1) * z ≤ i * z := Nat.mul_le_mul_right z g'
         rw [Nat.add_mul] at this; omega⟩ hf
    refine ⟨arr', ?_, by rw [r2, s1], by rw [r3]; simp, r4⟩
    obtain ⟨i, v⟩ := b
    simp only at hab
    simp only [Instr.fill]
    rw [← hab]
    rw [if_neg (by
     simp only [Bool.or_eq_true, decide_eq_true_eq, not_or]
     simp only at c1 hle
     constructor
     ·simp; omega
     ·omega)]
    exact r1
   ·simp at hf
  ·simp at hf
 | [], b :: pv, _, _, _, hl, _, _, _, _ => by simp at hl
 | a :: px, [], _, _, _, hl, _, _, _, _ => by simp at hl
theorem zcf {P : Program} {T : TypeId} {n : Nat} {z : List D} (h : okS P T = some (n, z)) : ∃ e i v, P.underlying T = some (.slice e) ∧ P.info? e = some i ∧ i.size = n ∧ (i.bytes ≤ 256 ∧ limS P T * i.bytes ≤ 140737488355328 ∧ limS P T ≤ 4398046511104) ∧ 0 < n ∧ z.length = n ∧ i.zero = some v ∧ v.cells.size = n ∧ (∀ d, d ∈ z → d.sc = true) ∧ ∀ (m : Imm) (j : Nat) d, z[j]? = some d → DR m d (v.cells.getD j undef) := by
 unfold okS at h
 split at h
 ·rename_i q z' hq hz
  split at h
  ·rename_i hc
   simp only [Option.some.injEq, Prod.mk.injEq] at h
   obtain ⟨h1, h2⟩ := h
   subst h2
   obtain ⟨n', b⟩ := q
   simp only at h1 hc
   subst h1
   obtain ⟨e, i, e1, e2, e3, e4⟩ := znq hq
   unfold zeT at hz
   rw [e1] at hz
   obtain ⟨i', v, z1, z2, z3, z4, z5⟩ := z2o hz
   rw [e2] at z1
   simp only [Option.some.injEq] at z1
   subst z1
   have hb : i.bytes = b := by omega
   have hl : limS P T = limB b := by unfold limS; rw [hq]
   have h32 : i.bytes ≤ 256 ∧ limS P T * i.bytes ≤ 140737488355328 ∧ limS P T ≤ 4398046511104 := by
    rw [hl, hb]
    unfold limB
    split
    ·rename_i h32
     exact ⟨hc.1, Nat.mul_le_mul (Nat.le_refl LIM) h32, Nat.le_refl _⟩
    ·exact ⟨hc.1, Nat.mul_le_mul (Nat.le_refl LIMW) hc.1, by decide⟩
   exact ⟨e, i, v, e1, e2, e3, h32, hc.2.1, hc.2.2, z2, by omega, z4, z5⟩
  ·simp at h
 ·simp at h
theorem zBu {m : Imm} {n z : Nat} {zs : List D} {v : Value} (hz : zs.length = z) (hp : 0 < z) (hv : v.cells.size = z) (hs : ∀ d, d ∈ zs → d.sc = true) (hd : ∀ (m : Imm) (j : Nat) d, zs[j]? = some d → DR m d (v.cells.getD j undef)) {arr : Array Value} (ha : ∀ k, k < n * z → arr.getD k undef = v.cells.getD (k % z) undef) : RC m z (List.replicate n zs) arr := by
 refine ⟨fun e he => ?_, fun e he => ?_, fun i j e d he hd' => ?_⟩
 ·rw [List.mem_replicate] at he; rw [he.2]; exact hz
 ·rw [List.mem_replicate] at he; rw [he.2]; exact hs
 ·have hi := zS he
  simp only [List.length_replicate] at hi
  rw [List.getElem?_replicate, if_pos hi] at he
  simp only [Option.some.injEq] at he
  subst he
  have hj := zS hd'
  rw [hz] at hj
  rw [ha _ (zUf hi hj (Nat.le_refl _))]
  have : (i * z + j) % z = j := by
   rw [Nat.add_comm, Nat.add_mul_mod_self_right, Nat.mod_eq_of_lt hj]
  rw [this]
  exact hd m j d hd'
theorem zot (a : Array Value) (k : Nat) (h : k < a.size) : a[k]! = a.getD k undef := by
 rw [getElem!_pos a k h]
 simp [Array.getD, h]
theorem zRr (zc : Array Value) (N : Nat) (hp : 0 < zc.size) (k : Nat) (hk : k < N) : ((Array.range N).map (zc[· % zc.size]!)).getD k undef = zc.getD (k % zc.size) undef := by
 have : k < ((Array.range N).map (zc[· % zc.size]!)).size := by simpa using hk
 rw [Array.getD, dif_pos this]
 simp only [Array.getInternal_eq_getElem, Array.getElem_map, Array.getElem_range]
 exact zot _ _ (Nat.mod_lt _ hp)
theorem z8q (H : WR E m n0 w0 R L fs lp w) {ρx : Operand → X} {ρv : Operand → Value} (hρ : ∀ a, XR m R (L.below lp fs.lo.length) (ρx a) (ρv a)) {T : TypeId} {n : Nat} {ps : Array (Nat × Operand)} {x : X} (h : zch E.P T n (ps.toList.map fun p => (p.1, ρx p.2)) = some x) :
  ∃ z zs es arr e, okS E.P T = some (z, zs) ∧ x = .d (.sl es .ex) ∧ (Instr.buildSlice T n (ps.map fun p => (p.1, ρv p.2))).run E.P w = .ok (.slice (some ⟨w.heap.size, 0, none⟩) es.length es.length) (w.alloc (.cells arr e)) ∧ arr.size = es.length * z ∧ RC m z es arr := by
 unfold zch at h
 split at h
 ·rename_i q hq
  obtain ⟨z, zs⟩ := q
  simp only at h
  split at h
  ·rename_i hlim
   obtain ⟨es, hf, rfl⟩ := Option.map_eq_some_iff.1 h
   obtain ⟨e, i, v, e1, e2, e3, e4, e5, e6, e7, e8, e9, e10⟩ := zcf hq
   have hsz : (sizeOf e).run E.P w = .ok z w := by simp [sizeOf, typeInfo, e2, e3]
   let arr0 : Array Value := (Array.range (n * z)).map ((if n * z = 0 then #[] else v.cells)[· % (if n * z = 0 then (#[] : Array Value) else v.cells).size]!)
   have ha0 : arr0.size = n * z := by simp [arr0]
   have hget : ∀ k, k < n * z → arr0.getD k undef = v.cells.getD (k % z) undef := by
    intro k hk
    have hne : ¬ n * z = 0 := by omega
    simp only [arr0, if_neg hne]
    rw [zRr v.cells (n * z) (by omega) k hk, e8]
   obtain ⟨arr, f1, f2, f3, f4⟩ := zvt (m := m) (R := R) (L := L.below lp fs.lo.length) (z := z) _ (ps.map fun p => (p.1, ρv p.2)).toList (List.replicate n zs) es arr0 (by simp) (fun j a b h1 h2 => zUt hρ ps j a b h1 h2) (by simp [ha0]) (zBu e6 e5 e8 e9 e10 hget) hf
   simp only [List.length_replicate] at f3
   subst f3
   refine ⟨z, zs, es, arr, e, hq, rfl, ?_, by rw [f2, ha0], f4⟩
   simp only [Instr.buildSlice, Sem.run_bind, run_underlying e1, Result.andThen_ok, hsz]
   rw [Sem.run_ite, if_neg (show ¬ (es.length * z > 2 ^ 24) by omega)]
   by_cases hz : es.length * z = 0
   ·rw [if_pos hz]
    simp only [Sem.run_bind, Sem.run_pure, Result.andThen_ok]
    simp only [arr0, if_pos hz] at f1
    rw [f1]
    simp only [Sem.run_bind, newRow, newObj, Sem.run, Result.andThen_ok, Sem.run_pure]
    rfl
   ·rw [if_neg hz]
    simp only [Sem.run_bind, zkj e2 e7, Result.andThen_ok, Sem.run_pure]
    simp only [arr0, if_neg hz] at f1
    rw [f1]
    simp only [Sem.run_bind, newRow, newObj, Sem.run, Result.andThen_ok, Sem.run_pure]
    rfl
  ·simp at h
 ·simp at h
theorem zHt (H : WR E m n0 w0 R L fs lp w) {ρx : Operand → X} {ρv : Operand → Value} (hρ : ∀ a, XR m R (L.below lp fs.lo.length) (ρx a) (ρv a)) {T : TypeId} {n : Nat} {ps : Array (Nat × Operand)} {x : X} (h : zch E.P T n (ps.toList.map fun p => (p.1, ρx p.2)) = some x) :
  QOK E m n0 w0 R L fs lp w x (Instr.buildSlice T n (ps.map fun p => (p.1, ρv p.2))) := by
 obtain ⟨z, zs, es, arr, e, hq, rfl, hrun, f2, f4⟩ := z8q H hρ h
 have hbel : Below w.heap.size w (w.alloc (.cells arr e)) := (Below.refl _ _).alloc (Nat.le_refl _) _
 have hle : m.le (m.add w.heap.size arr (es.length * z)) := Imm.add_le fun o => H.fresh (Nat.le_refl _) o
 refine ⟨_, _, m.add w.heap.size arr (es.length * z), hrun, hle, H.addImm (es.length * z) hbel (Nat.le_refl _) (zzb w _), hbel, .d ?_⟩
 refine DR.fresh (by simp) (fun _ => rfl) (Nat.le_refl _) f4.len f4.sc (by rw [f2]; exact Nat.le_refl _) (fun o ho => ?_) fun i j e' d he hd => (f4.at_ i j e' d he hd).mono hle
 exact Imm.add_at ho (by rw [f2]; exact ho)
end
end Go.AM
set_option linter.unusedSimpArgs false
set_option linter.unusedVariables false
namespace Go.AM
open Go Go.RowKit
section
variable {P : Program}
def CkOk (P : Program) (n : Nat) (T : TypeId) : Prop :=
 ∀ (em : Bool) (d : Nat) (w : World) (z : Nat) (xa : Array Value) (o : Nat), szT P T = some z → o + z ≤ xa.size → ∃ a, (part T xa o).run P w = .ok a w ∧ (Instr.checkKey em (d + n) T a).run P w = .ok () w
theorem z5r {n : Nat} {T : TypeId} {kd : TypeDesc} (hu : P.underlying T = some kd) (hk : (match kd with | .bool => true | .int _ => true | .string => true | _ => false) = true) (hs : szT P T = some 1) : CkOk P (n + 1) T := by
 intro em d w z xa o hz ho
 rw [hs] at hz
 simp only [Option.some.injEq] at hz
 subst hz
 have hag := zir hu
 refine ⟨_, zem (by cases kd <;> simp_all [aggD]) _ _ (by omega) w, ?_⟩
 rw [show d + (n + 1) = d + n + 1 by omega, Instr.checkKey]
 simp only [Sem.run_bind, run_underlying hu, Result.andThen_ok]
 cases kd <;> simp at hk <;> simp
theorem zrx : ∀ {fs : List Field} {o tot : Nat}, cvF P fs o = some tot → o ≤ tot
 | [], o, tot, h => by simp [cvF] at h; omega
 | f :: fs, o, tot, h => by
  simp only [cvF] at h
  split at h
  ·split at h
   ·have := zrx h; omega
   ·simp at h
  ·simp at h
theorem z5x : ∀ (c : Nat) (N : Nat) (k : Leaf) (T : TypeId), c ≤ N → zhg P c T = some k → cvT P N T = true → CkOk P c T := by
 intro c
 induction c using Nat.strongRecOn with
 | _ c IH =>
 intro N k T hc hl hv
 cases c with
 | zero => simp [zhg] at hl
 | succ c =>
 obtain ⟨N, rfl⟩ : ∃ q, N = q + 1 := ⟨N - 1, by omega⟩
 unfold zhg at hl
 unfold cvT at hv
 cases hu : P.underlying T with
 | none => simp [hu] at hl
 | some kd =>
  have hag := zir hu
  cases kd with
  | bool =>
   simp only [hu] at hv
   exact z5r hu rfl (by simpa using hv)
  | int q =>
   simp only [hu] at hv
   exact z5r hu rfl (by simpa using hv)
  | string =>
   simp only [hu] at hv
   exact z5r hu rfl (by simpa using hv)
  | array len e =>
   simp only [hu] at hl hv
   simp only [Bool.and_eq_true, beq_iff_eq] at hv
   obtain ⟨⟨v1, v2⟩, v3⟩ := hv
   obtain ⟨ze, hze⟩ := Option.isSome_iff_exists.1 v1
   rw [hze] at v2
   have he := IH c (by omega) N k e (by omega) hl v3
   intro em d w z xa o hz ho
   rw [v2] at hz
   simp only [Option.map_some, Option.some.injEq] at hz
   subst hz
   simp only [aggD] at hag
   refine ⟨_, z5d (by rw [v2]; rfl) hag xa o w, ?_⟩
   rw [show d + (c + 1) = d + c + 1 by omega, Instr.checkKey]
   simp only [Sem.run_bind, run_underlying hu, Result.andThen_ok]
   simp only [Std.Legacy.Range.forIn_eq_forIn_range', Std.Legacy.Range.size, Nat.sub_zero, Nat.add_one_sub_one, Nat.div_one]
   have each : ∀ j, j ∈ List.range' 0 len → ∃ a, (part e (xa.extract o (o + len * ze)) (j * ze)).run P w = .ok a w ∧ (Instr.checkKey em (d + c) e a).run P w = .ok () w := by
    intro j hj
    simp only [List.mem_range'_1] at hj
    refine he em d w ze _ _ hze ?_
    have h1 : (j + 1) * ze ≤ len * ze := Nat.mul_le_mul_right ze (by omega)
    rw [Nat.add_mul] at h1
    simp; omega
   generalize List.range' 0 len = is at each
   induction is with
   | nil => simp
   | cons j is ih =>
    obtain ⟨a, p1, p2⟩ := each j (by simp)
    simp only [List.forIn_cons, Sem.run_bind, zHc hze, Result.andThen_ok, p1, p2, Sem.run_pure]
    exact ih (fun y hy => each y (by simp [hy]))
  | struct fs =>
   simp only [hu] at hl hv
   simp only [Bool.and_eq_true, beq_iff_eq] at hv
   obtain ⟨v1, v2⟩ := hv
   split at hl
   ·simp at hl
   ·rename_i hst
    intro em d w z xa o hz ho
    simp only [aggD] at hag
    refine ⟨_, z5d hz hag xa o w, ?_⟩
    rw [show d + (c + 1) = d + c + 1 by omega, Instr.checkKey]
    simp only [Sem.run_bind, run_underlying hu, Result.andThen_ok]
    rw [← Array.forIn_toList]
    rw [List.all_eq_true] at v2
    have each : ∀ f, f ∈ fs.toList → f.name ≠ "_" ∧ ∃ a, (part f.type (xa.extract o (o + z)) f.offset).run P w = .ok a w ∧ (Instr.checkKey em (d + c) f.type a).run P w = .ok () w := by
     intro f hf
     obtain ⟨a, c', b1, b2⟩ := zTl (n := 0) hl f hf
     refine ⟨a, ?_⟩
     have h3 := IH c' (by omega) N k f.type (by omega) b2 (v2 f hf)
     have hin : ∀ (l : List Field) (q tot : Nat), cvF P l q = some tot → f ∈ l → ∃ zf, szT P f.type = some zf ∧ f.offset + zf ≤ tot := by
      intro l
      induction l with
      | nil => intro q tot _ h; simp at h
      | cons g l ih =>
       intro q tot h hm
       simp only [cvF] at h
       split at h
       ·rename_i zg hzg
        split at h
        ·rename_i e
         simp only [List.mem_cons] at hm
         rcases hm with rfl | hm
         ·refine ⟨zg, hzg, ?_⟩
          have := zrx h
          omega
         ·exact ih _ _ h hm
        ·simp at h
       ·simp at h
     obtain ⟨zf, hzf, hle⟩ := hin fs.toList 0 z (by rw [v1]; exact hz) hf
     obtain ⟨b, p1, p2⟩ := h3 em (d + (c - c')) w zf (xa.extract o (o + z)) f.offset hzf (by simp; omega)
     rw [show d + (c - c') + c' = d + c by omega] at p2
     exact ⟨b, p1, p2⟩
    generalize fs.toList = l at each
    clear v1 v2 hl
    induction l with
    | nil => simp
    | cons f l ih =>
     obtain ⟨hn, a, p1, p2⟩ := each f (by simp)
     simp only [List.forIn_cons, Sem.run_bind, hn, ne_eq, not_false_eq_true, if_true, Result.andThen_ok, p1, p2, Sem.run_pure]
     exact ih (fun y hy => each y (by simp [hy]))
  | _ => simp [hu] at hl
theorem zIn {T : TypeId} {k : D} (h : zne P T k = true) : ∃ l, flT P T = some l ∧ ((∃ cs, k = .agg cs ∧ szT P T = some cs.length ∧ agT P T = some true ∧ cs.all (isK l) = true) ∨ (agT P T = some false ∧ isK l k = true)) := by
 unfold zne at h
 split at h
 ·rename_i l cs hl
  simp only [Bool.and_eq_true, beq_iff_eq] at h
  exact ⟨l, hl, .inl ⟨cs, rfl, h.1.1, h.1.2, h.2⟩⟩
 ·rename_i l hl _
  simp only [Bool.and_eq_true, beq_iff_eq] at h
  exact ⟨l, hl, .inr ⟨h.1, h.2⟩⟩
 ·simp at h
theorem z0t {T : TypeId} {l : Leaf} (h : flT P T = some l) (ha : agT P T = some false) : ∃ kd, P.underlying T = some kd ∧ (match kd with | .bool => l = .b | .int _ => l = .i | .string => l = .s | _ => False) := by
 unfold flT at h
 split at h
 ·unfold zhg at h
  cases hu : P.underlying T with
  | none => simp [hu] at h
  | some kd =>
   have hag := zir hu
   rw [ha] at hag
   cases kd <;> simp [hu] at h <;> simp [aggD] at hag <;> exact ⟨_, rfl, by simp [h]⟩
 ·simp at h
theorem zih {T : TypeId} {k : D} (h : zne P T k = true) {m : Imm} {v : Value} (hv : DR m k v) (em : Bool) (w : World) : (Instr.checkKey em 10000 T v).run P w = .ok () w := by
 obtain ⟨l, hl, h | h⟩ := zIn h
 ·obtain ⟨cs, rfl, h1, h2, h3⟩ := h
  cases hv with
  | agg hn hs hx =>
   unfold flT at hl
   split at hl
   ·rename_i hc
    obtain ⟨a, p1, p2⟩ := z5x 30 30 l T (by omega) hl hc em 9970 w cs.length _ 0 h1 (by rw [hn]; omega)
    rw [z5d h1 h2] at p1
    simp only [Result.ok.injEq, and_true] at p1
    subst p1
    rw [Nat.zero_add, ← hn, Array.extract_size] at p2
    exact p2
   ·simp at hl
 ·obtain ⟨kd, hu, hk⟩ := z0t hl h.1
  rw [show (10000 : Nat) = 9999 + 1 from rfl, Instr.checkKey]
  simp only [Sem.run_bind, run_underlying hu, Result.andThen_ok]
  cases kd <;> simp at hk <;> simp
def idxD (k : D) : List (D × D) → Option (Option Nat)
 | [] => some none
 | p :: t => match eqD k p.1 with
  | some true => some (some 0)
  | some false => (idxD k t).map (Option.map (· + 1))
  | none => none
theorem zls {k : D} : ∀ {es : List (D × D)} {r : Option D}, zfg k es = some r → ∃ i, idxD k es = some i ∧ (i = none → r = none) ∧ ∀ j, i = some j → ∃ p, es[j]? = some p ∧ r = some p.2
 | [], r, h => by
  simp only [zfg, Option.some.injEq] at h
  exact ⟨none, rfl, fun _ => h.symm, fun j e => by simp at e⟩
 | p :: t, r, h => by
  simp only [zfg] at h
  simp only [idxD]
  split at h
  ·rename_i e
   simp only [Option.some.injEq] at h
   exact ⟨some 0, by first | rfl | rw [e], fun e => by simp at e, fun j e => by simp at e; subst e; exact ⟨p, rfl, h.symm⟩⟩
  ·rename_i e
   obtain ⟨i, h1, h2, h3⟩ := zls h
   refine ⟨i.map (· + 1), by first | (rw [e, h1]; rfl) | (rw [h1]; rfl), fun e => h2 (by simpa using e), fun j e => ?_⟩
   cases i with
   | none => simp at e
   | some i => simp at e; subst e; simpa using h3 i rfl
  ·simp at h
theorem zTt {k v : D} : ∀ {es es' : List (D × D)}, setD k v es = some es' → ∃ i, idxD k es = some i ∧ (i = none → es' = es ++ [(k, v)]) ∧ ∀ j, i = some j → ∃ p, es[j]? = some p ∧ eqD k p.1 = some true ∧ es' = es.set j (p.1, v)
 | [], r, h => by
  simp only [setD, Option.some.injEq] at h
  exact ⟨none, rfl, fun _ => h.symm, fun j e => by simp at e⟩
 | p :: t, r, h => by
  simp only [setD] at h
  simp only [idxD]
  split at h
  ·rename_i e
   simp only [Option.some.injEq] at h
   exact ⟨some 0, by first | rfl | rw [e], fun e => by simp at e, fun j e' => by simp at e'; subst e'; exact ⟨p, rfl, e, h.symm⟩⟩
  ·rename_i e
   obtain ⟨es', h0, rfl⟩ := Option.map_eq_some_iff.1 h
   obtain ⟨i, h1, h2, h3⟩ := zTt h0
   refine ⟨i.map (· + 1), by first | (rw [e, h1]; rfl) | (rw [h1]; rfl), fun e => by rw [h2 (by simpa using e)]; rfl, fun j e => ?_⟩
   cases i with
   | none => simp at e
   | some i =>
    simp at e; subst e
    obtain ⟨q, a, b, c⟩ := h3 i rfl
    exact ⟨q, by simpa using a, b, by rw [c]; rfl⟩
  ·simp at h
theorem zdv {l : Leaf} : ∀ {xs ys : List D} {r : Bool}, eqL xs ys = some r → xs.all (isK l) = true → ys.all (isK l) = true
 | [], [], _, _, _ => rfl
 | [], y :: ys, _, h, _ => by simp [eqL] at h
 | x :: xs, [], _, h, _ => by simp [eqL] at h
 | x :: xs, y :: ys, r, h, hx => by
  simp only [eqL] at h
  split at h
  ·rename_i a b ha hb
   simp only [List.all_cons, Bool.and_eq_true] at hx ⊢
   refine ⟨?_, zdv hb hx.2⟩
   have h1 := hx.1
   cases l <;> cases x <;> simp [isK] at h1 <;> cases y <;> simp [eqD] at ha <;> rfl
  ·simp at h
structure Ents (m : Imm) (es : List (D × D)) (ents : List MapEntry) : Prop where
 size : ents.length = es.length
 key : ∀ (j : Nat) p e, es[j]? = some p → ents[j]? = some e → DR m p.1 e.key
 val : ∀ (j : Nat) p e, es[j]? = some p → ents[j]? = some e → DR m p.2 e.val
theorem zhs {T : TypeId} {k : D} (hk : zne P T k = true) {m : Imm} {kv : Value} (hv : DR m k kv) (w : World) {es : List (D × D)} {ents : List MapEntry} (hE : Ents m es ents) {i : Option Nat} (h : idxD k es = some i) :
  ∃ r, (Instr.findKey T kv ents).run P w = .ok r w ∧ (i = none → r = none) ∧ ∀ j, i = some j → ∃ e, ents[j]? = some e ∧ r = some (j, e.val) := by
 obtain ⟨l, hl, hc⟩ := zIn hk
 have main : ∀ (kd : TypeDesc), P.underlying T = some kd → ∀ (n : Nat) (es : List (D × D)) (ents : List MapEntry) (i : Option Nat), Ents m es ents → idxD k es = some i →
   ∃ r, (match Instr.findNow kd kv ents n with | some r => (pure r : Sem (Option (Nat × Value))) | none => Instr.findAsking T kv ents n).run P w = .ok r w ∧ (Instr.findAsking T kv ents n).run P w = .ok r w ∧ (i = none → r = none) ∧ ∀ j, i = some j → ∃ e, ents[j]? = some e ∧ r = some (n + j, e.val) := by
  intro kd hu n es
  induction es generalizing n with
  | nil =>
   intro ents i hE h
   have : ents = [] := List.eq_nil_of_length_eq_zero hE.size
   subst this
   simp only [idxD, Option.some.injEq] at h
   subst h
   exact ⟨none, by simp [Instr.findNow], by simp [Instr.findAsking], fun _ => rfl, fun j e => by simp at e⟩
  | cons p es ih =>
   intro ents i hE h
   cases ents with
   | nil => have := hE.size; simp at this
   | cons e ents =>
   have hE' : Ents m es ents := ⟨by have := hE.size; simpa using this, fun j p' e' h1 h2 => hE.key (j + 1) p' e' (by simpa using h1) (by simpa using h2), fun j p' e' h1 h2 => hE.val (j + 1) p' e' (by simpa using h1) (by simpa using h2)⟩
   have hpk := hE.key 0 p e rfl rfl
   simp only [idxD] at h
   have hcmp : ∀ b, eqD k p.1 = some b → (Op.equal T kv e.key).run P w = .ok b w ∧ (Instr.sameNow kd kv e.key = some b ∨ Instr.sameNow kd kv e.key = none) := by
    intro b hb
    generalize e.key = ek at hpk ⊢
    rcases hc with ⟨cs, rfl, c1, c2, c3⟩ | ⟨c1, c2⟩
    ·cases hp1 : p.1 with
     | agg ys =>
      rw [hp1] at hb hpk
      simp only [eqD] at hb
      cases hv with
      | agg hn hs hx =>
       cases hpk with
       | agg hn' hs' hx' =>
        refine ⟨?_, .inr (by cases kd <;> rfl)⟩
        exact zWn hl c2 ⟨hn, hx⟩ ⟨hn', hx'⟩ c1 c3 (zdv hb c3) hb 9970 w
     | _ => rw [hp1] at hb; simp [eqD] at hb
    ·obtain ⟨kd', hu', hkd⟩ := z0t hl c1
     rw [hu] at hu'
     simp only [Option.some.injEq] at hu'
     subst hu'
     cases kd with
     | bool =>
      simp only at hkd; subst hkd
      cases k <;> simp [isK] at c2
      cases hp1 : p.1 <;> rw [hp1] at hb hpk <;> simp [eqD] at hb
      cases hv; cases hpk
      refine ⟨?_, .inl (by simp [Instr.sameNow, hb])⟩
      subst hb
      exact run_equalIn_bool' w 9999 T _ _ hu
     | int q =>
      simp only at hkd; subst hkd
      cases k <;> simp [isK] at c2
      cases hp1 : p.1 <;> rw [hp1] at hb hpk <;> simp [eqD] at hb
      obtain ⟨rfl, hb⟩ := hb
      cases hv; cases hpk
      refine ⟨?_, .inl (by simp [Instr.sameNow, hb])⟩
      subst hb
      exact run_equalIn_int w 9999 T _ _ _ _ hu
     | string =>
      simp only at hkd; subst hkd
      cases k <;> simp [isK] at c2
      cases hp1 : p.1 <;> rw [hp1] at hb hpk <;> simp [eqD] at hb
      cases hv; cases hpk
      refine ⟨?_, .inl (by simp [Instr.sameNow, hb])⟩
      subst hb
      rw [beq_toListBytes]
      exact run_equalIn_string w 9999 T _ _ hu
     | _ => simp at hkd
   split at h
   ·rename_i hb
    simp only [Option.some.injEq] at h
    subst h
    obtain ⟨q1, q2⟩ := hcmp true hb
    have ask : (Instr.findAsking T kv (e :: ents) n).run P w = .ok (some (n, e.val)) w := by simp [Instr.findAsking, q1]
    refine ⟨some (n, e.val), ?_, ask, fun h => by simp at h, fun j hj => by simp at hj; subst hj; exact ⟨e, rfl, rfl⟩⟩
    rcases q2 with q2 | q2
    ·simp [Instr.findNow, q2]
    ·simpa [Instr.findNow, q2] using ask
   ·rename_i hb
    obtain ⟨i', hi', rfl⟩ := Option.map_eq_some_iff.1 h
    obtain ⟨q1, q2⟩ := hcmp false hb
    obtain ⟨r, r1, r2, r3, r4⟩ := ih (n + 1) ents i' hE' hi'
    have ask : (Instr.findAsking T kv (e :: ents) n).run P w = .ok r w := by simp [Instr.findAsking, q1, r2]
    refine ⟨r, ?_, ask, fun h => r3 (by simpa using h), fun j hj => ?_⟩
    ·rcases q2 with q2 | q2
     ·simp only [Instr.findNow, q2]
      split
      ·rename_i a ha
       rw [ha] at r1
       exact r1
      ·exact ask
     ·simpa [Instr.findNow, q2] using ask
    ·cases i' with
     | none => simp at hj
     | some i' =>
      simp at hj; subst hj
      obtain ⟨e', a1, a2⟩ := r4 i' rfl
      exact ⟨e', by simpa using a1, by rw [a2]; simp; omega⟩
   ·simp at h
 have hu : ∃ kd, P.underlying T = some kd := by
  rcases hc with ⟨cs, rfl, c1, c2, c3⟩ | ⟨c1, c2⟩
  ·unfold agT at c2
   cases hu : P.underlying T with
   | none => simp [hu] at c2
   | some kd => exact ⟨kd, rfl⟩
  ·obtain ⟨kd, hu, _⟩ := z0t hl c1
   exact ⟨kd, hu⟩
 obtain ⟨kd, hu⟩ := hu
 obtain ⟨r, r1, r2, r3, r4⟩ := main kd hu 0 es ents i hE h
 refine ⟨r, ?_, r3, fun j hj => by simpa using r4 j hj⟩
 unfold Instr.findKey
 rw [Sem.run_bind, run_underlying hu]
 exact r1
end
theorem Ents.of {m : Imm} {es : List (D × D)} {ents : Array MapEntry} (hn : ents.size = es.length) (hk : ∀ (j : Nat) p, es[j]? = some p → DR m p.1 (ents.getD j default).key)
  (hv : ∀ (j : Nat) p, es[j]? = some p → DR m p.2 (ents.getD j default).val) : Ents m es ents.toList := by
 have at_ : ∀ (j : Nat) e, ents.toList[j]? = some e → ents.getD j default = e := fun j e h => by
  rw [Array.getElem?_toList] at h
  obtain ⟨h1, h2⟩ := Array.getElem?_eq_some_iff.1 h
  simp [Array.getD, h1, h2]
 exact ⟨by simpa using hn, fun j p e h1 h2 => by have := hk j p h1; rwa [at_ j e h2] at this, fun j p e h1 h2 => by have := hv j p h1; rwa [at_ j e h2] at this⟩
section
variable {E : Env} {m : Imm} {n0 : Nat} {w0 : Base} {R : RM} {L : LM} {fs : FS} {lp : List LRec} {w : World}
theorem zuv {P : Program} {T : TypeId} {d : D} (h : zvT P T = some d) : ∃ v, (∀ w : World, (zeroValue T).run P w = .ok v w) ∧ ∀ m : Imm, DR m d v := by
 unfold zvT at h
 cases hz : (P.info? T).bind (·.zero) with
 | none => rw [hz] at h; simp at h
 | some z =>
  obtain ⟨i, h1, h2⟩ := Option.bind_eq_some_iff.1 hz
  refine ⟨z, fun w => zkj h1 h2 w, fun m => ?_⟩
  rw [hz] at h
  split at h
  ·rename_i cs hcs
   simp only [Option.some.injEq] at hcs
   subst hcs
   obtain ⟨ds, hd, rfl⟩ := Option.map_eq_some_iff.1 h
   obtain ⟨a, b, c⟩ := zZr hd
   refine .agg (by simpa using a) b fun j d hj => ?_
   have hlt : j < cs.size := by have := zS hj; simp at a; omega
   have := c m j d cs[j] hj (by simp [hlt])
   simpa [Array.getD, hlt] using this
  ·rename_i v _ hv
   simp only [Option.some.injEq] at hv
   subst hv
   exact zZt h m
  ·rename_i hn
   simp at hn
theorem zmy (H : WR E m n0 w0 R L fs lp w) {p : X} {v : Value} {es : List (D × D)} (h : (match p with
    | .d (.mp es) => some es
    | .d .nilm => some []
    | .map l s => match fs.get l s with
     | some (.map es) => some es
     | _ => none
    | _ => none) = some es) (hp : XR m R (L.below lp fs.lo.length) p v) :
  (v = .map none ∧ es = []) ∨ ∃ r ents c, v = .map (some r) ∧ w.heap[r]? = some (.map ents c) ∧ Ents m es ents.toList := by
 cases p with
 | d x =>
  cases x <;> simp at h
  ·subst h
   cases hp with | d hp => cases hp; exact .inl ⟨rfl, rfl⟩
  ·subst h
   cases hp with | d hp => cases hp with
    | mpn => exact .inl ⟨rfl, rfl⟩
    | mp ents hr hn hk hv =>
     obtain ⟨c, hc⟩ := H.immm _ _ hr
     exact .inr ⟨_, ents, c, rfl, hc, .of hn hk hv⟩
 | map l s =>
  simp only at h
  split at h
  ·rename_i es' hg
   simp only [Option.some.injEq] at h
   subst h
   cases hp with
   | map hb =>
    obtain ⟨o, h1, h2⟩ := H.obj' hb
    rw [hg] at h1
    simp only [Option.some.injEq] at h1
    subst h1
    obtain ⟨ents, c, a1, a2, a3, a4, _⟩ := h2
    exact .inr ⟨_, ents, c, rfl, a1, .of a2 a3 a4⟩
  ·simp at h
 | _ => simp at h
theorem zBz (H : WR E m n0 w0 R L fs lp w) {T : TypeId} {p k x : X} {v u : Value} (hp : XR m R (L.below lp fs.lo.length) p v) (hk : XR m R (L.below lp fs.lo.length) k u) {ok : Bool} (h : zSn E.P fs.get T p k ok = some x) :
  QOK E m n0 w0 R L fs lp w x (Instr.lookup T v u ok) := by
 unfold zSn at h
 split at h
 ·rename_i q kd hq
  cases hk with
  | d hk =>
  split at h
  ·rename_i hko
   split at h
   ·rename_i z es hz hes
    obtain ⟨r, hr, rfl⟩ := Option.map_eq_some_iff.1 h
    obtain ⟨i, i1, i2, i3⟩ := zls hr
    obtain ⟨zv, z1, z2⟩ := zuv hz
    have hmt : E.P.underlying T = some (.map q.1 q.2) := by
     unfold mpT at hq
     split at hq
     ·rename_i a b hu; simp at hq; subst hq; exact hu
     ·simp at hq
    have fin : ∀ (ents : List MapEntry), Ents m es ents → ∃ rv : Option (Nat × Value), (Instr.findKey q.1 u ents).run E.P w = .ok rv w ∧ ((rv = none ∧ r = none) ∨ ∃ j y d, rv = some (j, y) ∧ r = some d ∧ DR m d y) := by
     intro ents hE
     obtain ⟨rv, r1, r2, r3⟩ := zhs hko hk w hE i1
     refine ⟨rv, r1, ?_⟩
     cases i with
     | none => exact .inl ⟨r2 rfl, i2 rfl⟩
     | some j =>
      obtain ⟨p, p1, p2⟩ := i3 j rfl
      obtain ⟨e, e1, e2⟩ := r3 j rfl
      exact .inr ⟨j, e.val, p.2, e2, p2, hE.val j p e p1 e1⟩
    have done : ∀ y d, DR m d y → ∀ b : Bool, XR m R (L.below lp fs.lo.length) (if ok then .d (.tup [d, .b b]) else .d d) (if ok then .tuple #[y, .bool b] else y) := by
     intro y d hd b
     cases ok
     ·exact .d hd
     ·refine .d (.tup rfl fun j d' hj => ?_)
      match j with
      | 0 => simp at hj; subst hj; exact hd
      | 1 => simp at hj; subst hj; exact .b b
      | j + 2 => simp at hj
    rcases zmy H hes hp with ⟨rfl, rfl⟩ | ⟨rr, ents, c, rfl, hw, hE⟩
    ·obtain ⟨rv, r1, r2⟩ := fin [] ⟨rfl, fun j p e h => by simp at h, fun j p e h => by simp at h⟩
     have ck := zih hko hk true w
     rcases r2 with ⟨rfl, rfl⟩ | ⟨j, y, d, rfl, rfl, hd⟩
     ·refine QOK.same H (v := if ok then .tuple #[zv, .bool false] else zv) ?_ (done zv z (z2 m) false)
      simp [Instr.lookup, run_underlying hmt, ck, r1, z1]
     ·refine QOK.same H (v := if ok then .tuple #[y, .bool true] else y) ?_ (done y d hd true)
      simp [Instr.lookup, run_underlying hmt, ck, r1]
    ·obtain ⟨rv, r1, r2⟩ := fin ents.toList hE
     have ck := zih hko hk ents.isEmpty w
     have hg : (getObj rr).run E.P w = .ok (.map ents c) w := by simp [getObj, Sem.run, hw]
     rcases r2 with ⟨rfl, rfl⟩ | ⟨j, y, d, rfl, rfl, hd⟩
     ·refine QOK.same H (v := if ok then .tuple #[zv, .bool false] else zv) ?_ (done zv z (z2 m) false)
      simp [Instr.lookup, run_underlying hmt, hg, ck, r1, z1]
     ·refine QOK.same H (v := if ok then .tuple #[y, .bool true] else y) ?_ (done y d hd true)
      simp [Instr.lookup, run_underlying hmt, hg, ck, r1]
   ·simp at h
  ·simp at h
 ·simp at h
theorem zzn {x : X} {n : Int} {R : RM} {L : LM} (h : intX x = some n) {v : Value} (hx : XR m R L x v) : ∃ k, v = .int k n := by
 unfold intX at h
 split at h
 ·simp only [Option.some.injEq] at h
  subst h
  cases hx with | d hx => cases hx; exact ⟨_, rfl⟩
 ·simp at h
theorem z9t {T : TypeId} {z : Nat} {zs : List D} (hq : okS E.P T = some (z, zs)) {n : Int} (h0 : 0 ≤ n) (h1 : n ≤ (limS E.P T : Int)) (k k' : IntKind) :
  ∃ arr e, (Instr.makeSlice T (.int k n) (.int k' n)).run E.P w = .ok (.slice (some ⟨w.heap.size, 0, none⟩) n.toNat n.toNat) (w.alloc (.cells arr e)) ∧ arr.size = n.toNat * z ∧ ∀ m : Imm, RC m z (List.replicate n.toNat zs) arr := by
 obtain ⟨e, i, v, e1, e2, e3, e4, e5, e6, e7, e8, e9, e10⟩ := zcf hq
 obtain ⟨e4, e41, e42⟩ := e4
 have hb : (i.bytes : Int) * n ≤ 140737488355328 := by
  have k1 : (i.bytes : Int) * n ≤ (i.bytes : Int) * (limS E.P T : Int) := Int.mul_le_mul_of_nonneg_left h1 (by omega)
  have k2 : ((i.bytes * limS E.P T : Nat) : Int) ≤ 140737488355328 := by
   rw [Nat.mul_comm]
   generalize limS E.P T * i.bytes = u at e41
   omega
  rw [Int.natCast_mul] at k2
  generalize (i.bytes : Int) * n = u at *
  generalize (i.bytes : Int) * (limS E.P T : Int) = u' at *
  omega
 refine ⟨_, e, run_make w T e i v e1 e2 e7 k k' n n h0 (Int.le_refl n) (by omega) (by omega), ?_, fun m => zBu e6 e5 e8 e9 e10 fun q hq => ?_⟩
 ·simp [madeCells, e3]
 ·rw [e3]
  unfold madeCells
  rw [zRr v.cells (n.toNat * z) (by omega) q hq, e8]
theorem zRz (H : WR E m n0 w0 R L fs lp w) {T : TypeId} {z : Nat} {zs : List D} (hq : okS E.P T = some (z, zs)) {n : Int} (h0 : 0 ≤ n) (h1 : n ≤ (limS E.P T : Int)) (k k' : IntKind) :
  QOK E m n0 w0 R L fs lp w (.d (.sl (List.replicate n.toNat zs) .ex)) (Instr.makeSlice T (.int k n) (.int k' n)) := by
 obtain ⟨arr, e, r1, r2, r3⟩ := z9t (w := w) hq h0 h1 k k'
 have hbel : Below w.heap.size w (w.alloc (.cells arr e)) := (Below.refl _ _).alloc (Nat.le_refl _) _
 have hle : m.le (m.add w.heap.size arr (n.toNat * z)) := Imm.add_le fun o => H.fresh (Nat.le_refl _) o
 refine ⟨_, _, m.add w.heap.size arr (n.toNat * z), r1, hle, H.addImm (n.toNat * z) hbel (Nat.le_refl _) (zzb w _), hbel, .d ?_⟩
 have f4 := r3 m
 have hl : (List.replicate n.toNat zs).length = n.toNat := by simp
 have := DR.fresh (m' := m.add w.heap.size arr (n.toNat * z)) (es := List.replicate n.toNat zs) (c := .ex) (β := w.heap.size) (cap := n.toNat) (by simp) (fun _ => hl.symm) (by rw [hl]; exact Nat.le_refl _) f4.len f4.sc (by rw [hl, r2]; exact Nat.le_refl _)
  (fun o ho => by rw [hl] at ho; exact Imm.add_at ho (by omega)) fun i j e' d he hd => (f4.at_ i j e' d he hd).mono hle
 rwa [hl] at this
structure EC (m : Imm) (z : Nat) (es : List (List D)) (g : Nat → Value) : Prop where
 sc : ∀ e, e ∈ es → ∀ d, d ∈ e → d.sc = true
 at_ : ∀ (i j : Nat) e d, es[i]? = some e → e[j]? = some d → DR m d (g (i * z + j))
theorem z0r {α : Type} {es : List (List α)} {z : Nat} (hz : (es.all fun e => e.length == z) = true) {k : Nat} (hp : 0 < z) (hk : k < es.length * z) : ∃ e d, es[k / z]? = some e ∧ e[k % z]? = some d := by
 have h1 : k / z < es.length := Nat.div_lt_of_lt_mul (by rwa [Nat.mul_comm])
 have h2 : es[k / z]? = some es[k / z] := List.getElem?_eq_getElem h1
 rw [List.all_eq_true] at hz
 have h3 : (es[k / z]).length = z := by simpa using hz _ (List.getElem_mem h1)
 exact ⟨_, _, h2, List.getElem?_eq_getElem (by rw [h3]; exact Nat.mod_lt _ hp)⟩
theorem zKt {i j z : Nat} (h : j < z) : (i * z + j) / z = i ∧ (i * z + j) % z = j := by
 constructor
 ·rw [Nat.mul_comm, Nat.mul_add_div (by omega), Nat.div_eq_of_lt h, Nat.add_zero]
 ·rw [Nat.mul_comm, Nat.mul_add_mod, Nat.mod_eq_of_lt h]
theorem zFo (H : WR E m n0 w0 R L fs lp w) {x : X} {v : Value} (hx : XR m R (L.below lp fs.lo.length) x v) {es : List (List D)} (h : z6c fs.get x = some es) {z : Nat} (hz : (es.all fun e => e.length == z) = true) (hp : 0 < z) :
  ∃ a n c, v = .slice a n c ∧ n = es.length ∧ (es = [] ∨ ∃ (β o : Nat) (g : Nat → Value), a = some ⟨β, o, none⟩ ∧ (∀ j, j < n * z → w.cell? ⟨β, o + j, none⟩ = some (g j)) ∧ EC m z es g) := by
 have hlen : ∀ e, e ∈ es → e.length = z := by
  rw [List.all_eq_true] at hz
  exact fun e he => by simpa using hz e he
 cases x with
 | d y =>
  cases y with
  | sl es' c =>
   simp only [z6c, Option.some.injEq] at h
   subst h
   cases hx with
   | d hx =>
    cases hx with
    | nils => exact ⟨_, _, _, rfl, rfl, .inl rfl⟩
    | @sl _ _ β o cap sp z' g hsp hc hex hcap hz' hs h1 h2 =>
     refine ⟨_, _, _, rfl, rfl, ?_⟩
     cases hes : es' with
     | nil => exact .inl rfl
     | cons e0 t =>
      have he0 : e0 ∈ es' := by rw [hes]; simp
      obtain rfl := hsp (List.ne_nil_of_mem he0)
      have : z' = z := by rw [← hz' e0 he0, hlen e0 he0]
      subst this
      rw [← hes]
      refine .inr ⟨β, o, fun k => g (k / z') (k % z'), rfl, fun k hk => ?_, hs, fun i j e d he hd => ?_⟩
      ·obtain ⟨e, d, a1, a2⟩ := z0r hz hp hk
       have := H.imm _ _ _ (h1 _ _ e d a1 a2)
       rwa [Nat.mul_comm, Nat.div_add_mod] at this
      ·have hj := zS hd
       rw [hz' e (List.mem_of_getElem? he)] at hj
       obtain ⟨a1, a2⟩ := zKt (i := i) hj
       simp only [a1, a2]
       exact h2 i j e d he hd
  | _ => simp [z6c] at h
 | row l s n =>
  obtain ⟨z1, a, k, cap, a', n', c', rfl, hb, hn, hv⟩ := zVk H hx
  simp only [z6c] at h
  obtain ⟨o, o1, o2⟩ := H.obj' hb
  split at h
  ·rename_i z2 es' wr hg
   split at h
   ·rename_i hl
    simp only [Option.some.injEq] at h
    subst h
    rw [hg] at o1
    simp only [Option.some.injEq] at o1
    subst o1
    have hk : n = k := by obtain ⟨_, _, o3, _⟩ := o2; omega
    obtain ⟨rfl, rfl, rfl⟩ := hv hk
    refine ⟨_, _, _, rfl, by omega, ?_⟩
    cases hes : es' with
    | nil => exact .inl rfl
    | cons e0 t =>
     have he0 : e0 ∈ es' := by rw [hes]; simp
     obtain ⟨rfl, p2, p3, p4, p5, p6, β, o, sp, p7, p8⟩ := o2
     have hne : 0 < es'.length := by rw [hes]; simp
     obtain ⟨rfl, rfl, arr, T, a1, a2, a3, _⟩ := p8 (by omega)
     have : z1 = z := by rw [← p5 e0 he0, hlen e0 he0]
     subst this
     rw [← hes]
     refine .inr ⟨β, 0, fun k => arr.getD k undef, p7, fun j hj => ?_, p6, fun i j e d he hd => a3 i j e d he hd⟩
     have : j < arr.size := by
      rw [a2]
      exact Nat.lt_of_lt_of_le hj (Nat.mul_le_mul_right _ p4)
     simp [World.cell?, a1, Array.getD, this]
   ·simp at h
  ·rename_i hg
   split at h
   ·rename_i hl
    simp only [Option.some.injEq] at h
    subst h
    subst hl
    rw [hg] at o1
    simp only [Option.some.injEq] at o1
    subst o1
    obtain ⟨q1, q2, rfl, q4⟩ := o2
    obtain ⟨rfl, rfl, rfl⟩ := hv rfl
    exact ⟨_, _, _, rfl, rfl, .inl rfl⟩
   ·simp at h
  ·simp at h
 | _ => simp [z6c] at h
theorem zil {ts : Array TypeId} {args : Array Value} {T : TypeId} {s x : Value} (ty : TypeId) (h1 : ts[0]? = some T) (h2 : ts[1]? = some T) (h3 : args[0]? = some s) (h4 : args[1]? = some x) : Builtin.append_ ts ty args = Builtin.append_ #[T, T] ty #[s, x] := by
 simp [Builtin.append_, h1, h2, h3, h4]
theorem zAg {T : TypeId} {z : Nat} {zs : List D} (hq : okS E.P T = some (z, zs)) (ty : TypeId) {a b : Option Addr} {n c k : Nat} (hn : n ≤ c) :
  (Builtin.append_ #[T, T] ty #[.slice a n c, .slice b 0 k]).run E.P w = .ok (.slice a n c) w := by
 obtain ⟨e, i, v, e1, e2, e3, e4, e5, e6, e7, e8, e9, e10⟩ := zcf hq
 have hf : (Builtin.firstCells i.size 0 (.slice b 0 k)).run E.P w = .ok #[] w := by
  cases b with
  | none => simp [Builtin.firstCells]
  | some b => exact run_firstCells_some w i.size 0 b 0 k [] (by simp) (fun j v h => by simp at h)
 cases a with
 | none => simp [Builtin.append_, run_underlying e1, sizeOf, typeInfo, e2, Builtin.lenOf, hn, hf]
 | some a => simp [Builtin.append_, run_underlying e1, sizeOf, typeInfo, e2, Builtin.lenOf, hn, hf, storeCells]
theorem zOn {T : TypeId} {z : Nat} {zs : List D} (hq : okS E.P T = some (z, zs)) (ty : TypeId) {a : Option Addr} {n c k c' β' o' : Nat} {g g' : Nat → Value}
  (ha : (a = none ∧ n = 0 ∧ c = 0) ∨ ∃ β o sp, a = some ⟨β, o, sp⟩ ∧ (0 < n → sp = none) ∧ ∀ j, j < n * z → w.cell? ⟨β, o + j, none⟩ = some (g j))
  (hx : ∀ j, j < k * z → w.cell? ⟨β', o' + j, none⟩ = some (g' j)) (hc : c < n + k) (hk : 0 < k) (hlim : n + k ≤ limS E.P T) :
  ∃ arr e cap, (Builtin.append_ #[T, T] ty #[.slice a n c, .slice (some ⟨β', o', none⟩) k c']).run E.P w = .ok (.slice (some ⟨w.heap.size, 0, none⟩) (n + k) cap) (w.drew.alloc (.cells arr e)) ∧
   n + k ≤ cap ∧ arr.size = cap * z ∧ (∀ j, j < n * z → arr.getD j undef = g j) ∧ ∀ j, j < k * z → arr.getD (n * z + j) undef = g' j := by
 obtain ⟨e, i, v, e1, e2, e3, e4, e5, e6, e7, e8, e9, e10⟩ := zcf hq
 obtain ⟨e4, e41, e42⟩ := e4
 have hb : (n + k) * i.bytes ≤ 140737488355328 := Nat.le_trans (Nat.mul_le_mul hlim (Nat.le_refl _)) e41
 have hcap := grownCap_ge w (n + k) c e
 have hnews : ∀ j v, ((List.range (k * z)).map g')[j]? = some v → w.cell? ((⟨β', o', none⟩ : Addr).add j) = some v := by
  intro j v hj
  rw [List.getElem?_map] at hj
  obtain ⟨q, hq, rfl⟩ := Option.map_eq_some_iff.1 hj
  have hlt := zS hq
  simp at hlt
  simp [hlt] at hq
  subst hq
  rw [zQj]
  exact hx _ hlt
 rcases ha with ⟨rfl, rfl, rfl⟩ | ⟨β, o, sp, rfl, hsp, ho⟩
 ·have hrun := run_append_nil (P := E.P) w T ty e i v e1 e2 e7 ⟨β', o', none⟩ k c' ((List.range (k * z)).map g') (by simp [e3]) hnews hk (by omega) (by rw [Nat.zero_add] at hb; omega)
  rw [Nat.zero_add]
  refine ⟨_, e, grownCap w k 0 e, hrun, by simpa using hcap, ?_, fun j hj => by simp at hj, fun j hj => ?_⟩
  ·have : k ≤ grownCap w k 0 e := by simpa using hcap
   rw [Array.size_append, size_zeroCells, e8, List.size_toArray, List.length_map, List.length_range, ← Nat.add_mul]
   congr 1; omega
  ·rw [Nat.zero_mul, Nat.zero_add, Array.getD_eq_getD_getElem?, Array.getElem?_append_left (by simp; exact hj)]
   simp [hj]
 ·have hnews' : ∀ j v, ((List.range (n * z)).map g)[j]? = some v → w.cell? ((⟨β, o, sp⟩ : Addr).add j) = some v := by
   intro j v hj
   rw [List.getElem?_map] at hj
   obtain ⟨q, hq, rfl⟩ := Option.map_eq_some_iff.1 hj
   have hlt := zS hq
   simp at hlt
   obtain rfl := hsp (Nat.pos_of_ne_zero fun h => by rw [h] at hlt; simp at hlt)
   simp [hlt] at hq
   subst hq
   rw [zQj]
   exact ho _ hlt
  refine ⟨_, e, grownCap w (n + k) c e, run_append_grow (P := E.P) w T ty e i v e1 e2 e7 ⟨β, o, sp⟩ n c ((List.range (n * z)).map g) (by simp [e3]) hnews' ⟨β', o', none⟩ k c' ((List.range (k * z)).map g') (by simp [e3]) hnews hc (by omega)
   (growslice_fits hc (by omega)), hcap, ?_, fun j hj => ?_, fun j hj => ?_⟩
  ·rw [Array.size_append, Array.size_append, size_zeroCells, e8, List.size_toArray, List.size_toArray, List.length_map, List.length_map, List.length_range, List.length_range, ← Nat.add_mul, ← Nat.add_mul]
   congr 1; omega
  ·rw [Array.getD_eq_getD_getElem?, Array.getElem?_append_left (by simp; omega), Array.getElem?_append_left (by simp; exact hj)]
   simp [hj]
  ·rw [Array.getD_eq_getD_getElem?, Array.getElem?_append_left (by simp; exact hj), Array.getElem?_append_right (by simp)]
   simp [hj]
theorem EC.append {z : Nat} {es xs : List (List D)} {g g' : Nat → Value} {arr : Array Value} (h1 : EC m z es g) (h2 : EC m z xs g') (hz : (es.all fun e => e.length == z) = true) (hz' : (xs.all fun e => e.length == z) = true)
  (ha : ∀ j, j < es.length * z → arr.getD j undef = g j) (hb : ∀ j, j < xs.length * z → arr.getD (es.length * z + j) undef = g' j) : RC m z (es ++ xs) arr := by
 rw [List.all_eq_true] at hz hz'
 refine ⟨fun e he => ?_, fun e he => ?_, fun i j e d hi hj => ?_⟩
 ·rcases List.mem_append.1 he with h | h
  ·simpa using hz e h
  ·simpa using hz' e h
 ·rcases List.mem_append.1 he with h | h
  ·exact h1.sc e h
  ·exact h2.sc e h
 ·rcases Nat.lt_or_ge i es.length with hlt | hge
  ·rw [List.getElem?_append_left hlt] at hi
   have hjl := zS hj
   have : e.length = z := by simpa using hz e (List.mem_of_getElem? hi)
   rw [ha _ (zUf hlt (by omega) (Nat.le_refl _))]
   exact h1.at_ i j e d hi hj
  ·rw [List.getElem?_append_right hge] at hi
   have hjl := zS hj
   have : e.length = z := by simpa using hz' e (List.mem_of_getElem? hi)
   have hil := zS hi
   have e1 : i * z + j = es.length * z + ((i - es.length) * z + j) := by
    have : i * z = es.length * z + (i - es.length) * z := by rw [← Nat.add_mul]; congr 1; omega
    omega
   rw [e1, hb _ (zUf hil (by omega) (Nat.le_refl _))]
   exact h2.at_ _ j e d hi hj
theorem zvs (H : WR E m n0 w0 R L fs lp w) {es : List (List D)} {c : Cap} {v : Value} (hv : DR m (.sl es c) v) {z : Nat} (hz : (es.all fun e => e.length == z) = true) (hp : 0 < z) :
  ∃ a cap g, v = .slice a es.length cap ∧ es.length ≤ cap ∧ (c = .ex → cap = es.length) ∧ (c = .nil → cap = 0) ∧ ((a = none ∧ es.length = 0 ∧ cap = 0) ∨ ∃ β o sp, a = some ⟨β, o, sp⟩ ∧ (0 < es.length → sp = none) ∧ ∀ j, j < es.length * z → w.cell? ⟨β, o + j, none⟩ = some (g j)) ∧ EC m z es g := by
 cases hv with
 | nils => exact ⟨none, 0, fun _ => undef, rfl, Nat.le_refl _, fun _ => rfl, fun _ => rfl, .inl ⟨rfl, rfl, rfl⟩, ⟨fun e he => by simp at he, fun i j e d he => by simp at he⟩⟩
 | @sl _ _ β o cap sp z' g hsp hc hex hcap hz' hs h1 h2 =>
  rw [List.all_eq_true] at hz
  refine ⟨_, cap, fun k => g (k / z) (k % z), rfl, hcap, hex, fun h => absurd h hc, .inr ⟨β, o, sp, rfl, fun h => hsp (List.ne_nil_of_length_pos h), fun j hj => ?_⟩, hs, fun i j e d hi hj => ?_⟩
  ·obtain ⟨e, d, a1, a2⟩ := z0r (List.all_eq_true.2 hz) hp hj
   have he := List.mem_of_getElem? a1
   have : z' = z := by rw [← hz' e he]; simpa using hz e he
   subst this
   have := H.imm _ _ _ (h1 _ _ e d a1 a2)
   rwa [Nat.mul_comm, Nat.div_add_mod] at this
  ·have he := List.mem_of_getElem? hi
   have : z' = z := by rw [← hz' e he]; simpa using hz e he
   subst this
   have hjl := zS hj
   rw [hz' e he] at hjl
   obtain ⟨a1, a2⟩ := zKt (i := i) hjl
   simp only [a1, a2]
   exact h2 i j e d hi hj
theorem z0x (H : WR E m n0 w0 R L fs lp w) {T : TypeId} {ts : Array TypeId} {args : Array Value} (ty : TypeId) {s y x : X} {v u : Value} (hs : XR m R (L.below lp fs.lo.length) s v) (hy : XR m R (L.below lp fs.lo.length) y u)
  (h1 : ts[0]? = some T) (h2 : ts[1]? = some T) (h3 : args[0]? = some v) (h4 : args[1]? = some u) (h : appQ E.P fs.get T s y = some x) : QOK E m n0 w0 R L fs lp w x (Builtin.append_ ts ty args) := by
 rw [zil ty h1 h2 h3 h4]
 unfold appQ at h
 split at h
 ·rename_i q es c xs hq hxs
  obtain ⟨z, zs⟩ := q
  simp only at h
  split at h
  ·rename_i hc
   obtain ⟨c1, c2, c3⟩ := hc
   have hp : 0 < z := by obtain ⟨e, i, v, e1, e2, e3, e4, e5, _⟩ := zcf hq; exact e5
   obtain ⟨a', n', c', rfl, hn', hcs⟩ := zFo H hy hxs c2 hp
   cases hs with
   | d hs =>
   obtain ⟨a, cap, g, rfl, hcap, hex, hnil, hbase, hec⟩ := zvs H hs c3 hp
   split at h
   ·rename_i hem
    simp only [Option.some.injEq] at h
    subst h
    have : n' = 0 := by rw [hn']; simpa using hem
    subst this
    exact QOK.same H (zAg hq ty hcap) (.d hs)
   ·rename_i hne
    split at h
    ·simp at h
    ·rename_i hro
     simp only [Option.some.injEq] at h
     subst h
     rcases hcs with hcs | ⟨β', o', g', rfl, hcells, hec'⟩
     ·simp [hcs] at hne
     ·have hpos : 0 < n' := by
       rw [hn']
       cases xs with
       | nil => simp at hne
       | cons _ _ => simp
      have hlt : cap < es.length + n' := by
       cases c with
       | nil => rw [hnil rfl]; omega
       | ex => rw [hex rfl]; omega
       | ro => exact absurd rfl hro
      subst hn'
      obtain ⟨arr, e, cap', r1, r2, r3, r4, r5⟩ := zOn (w := w) hq ty (c' := c') hbase hcells hlt hpos c1
      have f4 : RC m z (es ++ xs) arr := hec.append hec' c3 c2 r4 r5
      have hbel : Below w.heap.size w (w.drew.alloc (.cells arr e)) := (Below.refl _ _).drew.alloc (Nat.le_refl _) _
      have hle : m.le (m.add w.heap.size arr ((es.length + xs.length) * z)) := Imm.add_le fun o => H.fresh (Nat.le_refl _) o
      have hsz : (es.length + xs.length) * z ≤ arr.size := by rw [r3]; exact Nat.mul_le_mul_right _ r2
      refine ⟨_, _, m.add w.heap.size arr ((es.length + xs.length) * z), r1, hle, H.addImm _ hbel (Nat.le_refl _) (zzb w.drew _), hbel, .d ?_⟩
      have hl : (es ++ xs).length = es.length + xs.length := by simp
      rw [← hl] at r2 hsz hle ⊢
      exact DR.fresh (by simp) (fun h => by simp at h) r2 f4.len f4.sc hsz (fun o ho => Imm.add_at ho (by omega)) fun i j e' d he hd => (f4.at_ i j e' d he hd).mono hle
  ·simp at h
 ·simp at h
end
end Go.AM
set_option linter.unusedSimpArgs false
set_option linter.unusedVariables false
namespace Go.AM
open Go Go.RowKit
structure Only (β : Option Nat) (w w' : World) : Prop where
 os : w'.os = w.os
 tape : w'.tape = w.tape
 output : w'.output = w.output
 size : w.heap.size ≤ w'.heap.size
 block : ∀ k, k < w.heap.size → some k ≠ β → w'.heap[k]? = w.heap[k]?
theorem Only.below {β : Option Nat} {w w' : World} (h : Only β w w') {n0 : Nat} {w0 : World} (H : Below n0 w0 w) (hn : ∀ k, β = some k → n0 ≤ k) (hs : n0 ≤ w.heap.size) : Below n0 w0 w' :=
 ⟨h.os.trans H.os, h.tape.trans H.tape, h.output.trans H.output, Nat.le_trans H.size h.size, fun k hk => (h.block k (by omega) fun e => by have := hn k e.symm; omega).trans (H.block k hk)⟩
theorem Only.of_below {w w' : World} (h : Below w.heap.size w w') : Only none w w' := ⟨h.os, h.tape, h.output, h.size, fun k hk _ => h.block k hk⟩
def zlf (w w' : World) : Prop := w.heap.size ≤ w'.heap.size ∧ ∀ (b : Nat) (d : Option (List Deferred)), w.heap[b]? = some (Obj.deferred d) → w'.heap[b]? = some (Obj.deferred d)
theorem zlf.refl (w : World) : zlf w w := ⟨Nat.le_refl _, fun _ _ h => h⟩
theorem zlf.trans {a b c : World} (h : zlf a b) (k : zlf b c) : zlf a c := ⟨Nat.le_trans h.1 k.1, fun x d e => k.2 x d (h.2 x d e)⟩
theorem zlf.of_below {w w' : World} (h : Below w.heap.size w w') : zlf w w' := ⟨h.size, fun b d e => by rw [h.block b (Array.getElem?_eq_some_iff.1 e).1]; exact e⟩
theorem Only.dkeep {β : Option Nat} {w w' : World} (h : Only β w w') (hb : ∀ k, β = some k → ∀ d, w.heap[k]? ≠ some (.deferred d)) : zlf w w' := ⟨h.size, fun b d e => by
 rw [h.block b (Array.getElem?_eq_some_iff.1 e).1 fun q => hb b q.symm d e]; exact e⟩
def RM.put (R : RM) (l s : Nat) (ro : RO) : RM := fun l' s' => if l' = l ∧ s' = s then some ro else R l' s'
theorem RM.put_at (R : RM) (l s : Nat) (ro : RO) : (R.put l s ro) l s = some ro := by simp [RM.put]
theorem RM.put_ne (R : RM) {l s l' s' : Nat} (ro : RO) (h : ¬ (l' = l ∧ s' = s)) : (R.put l s ro) l' s' = R l' s' := by simp [RM.put, h]
theorem RM.put_le {R : RM} {l s : Nat} {ro : RO} (h : ∀ o, R l s = some o → o.le ro) : RLe R (R.put l s ro) := fun l' s' o e => by
 by_cases hq : l' = l ∧ s' = s
 ·obtain ⟨rfl, rfl⟩ := hq
  exact ⟨ro, RM.put_at .., h o e⟩
 ·exact ⟨o, by rw [RM.put_ne _ _ hq]; exact e, RO.le.refl o⟩
theorem RM.put_upto (R : RM) (l s : Nat) (ro : RO) (n : Nat) (h : n < l) : (R.put l s ro).upto n = R.upto n := by
 funext l' s'
 simp only [RM.upto]
 split
 ·rw [RM.put_ne]
  omega
 ·rfl
section
variable {E : Env} {m : Imm} {n0 : Nat} {w0 : Base} {R : RM} {L : LM} {fs : FS} {lp : List LRec} {w : World}
theorem OR.kind {m : Imm} {R : RM} {L : LM} {w : World} {o : O} {ro : RO} (h : OR m R L w o ro) {β : Nat} (hb : ro.block = some β) :
  (∃ arr T f, w.heap[β]? = some (.cells arr T f)) ∨ (m.map β = none ∧ ∃ e c, w.heap[β]? = some (.map e c)) := by
 cases o <;> cases ro <;> simp only [OR] at h <;> simp only [RO.block] at hb
 ·obtain ⟨arr, T, h1, _⟩ := h
  simp at hb; subst hb
  exact .inl ⟨_, _, _, h1⟩
 ·obtain ⟨h1, h2, h3, h4, h5, h6, β', o, sp, rfl, h8⟩ := h
  split at hb
  ·simp at hb
  ·simp at hb; subst hb
   obtain ⟨_, _, arr, T, a1, _⟩ := h8 (by omega)
   exact .inl ⟨_, _, _, a1⟩
 ·obtain ⟨_, _, _, h⟩ := h
  simp [h] at hb
 ·obtain ⟨ents, c, h1, _, _, _, h2, _⟩ := h
  simp at hb; subst hb
  exact .inr ⟨h2, _, _, h1⟩
theorem WR.kind (H : WR E m n0 w0 R L fs lp w) {l s : Nat} {ro : RO} (h : R l s = some ro) {β : Nat} (hb : ro.block = some β) :
  ((∃ arr T f, w.heap[β]? = some (.cells arr T f)) ∨ ∃ e c, w.heap[β]? = some (.map e c)) ∧ m.map β = none ∧ β < w.heap.size ∧ n0 ≤ β := by
 obtain ⟨o, h1, h2⟩ := H.obj l s ro h
 rcases h2.kind hb with ⟨a, b, c, k⟩ | ⟨k1, a, b, k2⟩
 ·refine ⟨.inl ⟨a, b, c, k⟩, ?_, h2.lt hb, H.base _ _ _ _ h hb⟩
  cases hm : m.map β with
  | none => rfl
  | some e =>
   obtain ⟨c, hc⟩ := H.immm _ _ hm
   rw [k] at hc; simp at hc
 ·exact ⟨.inr ⟨a, b, k2⟩, k1, h2.lt hb, H.base _ _ _ _ h hb⟩
theorem WR.upto_top (H : WR E m n0 w0 R L fs lp w) : RLe R (R.upto fs.lo.length) := fun l s o h => ⟨o, by simp [RM.upto, H.lvl h, h], RO.le.refl o⟩
theorem WR.change (H : WR E m n0 w0 R L fs lp w) {l s : Nat} {ro ro' : RO} {o' : O} {m' : Imm} {w' : World} (hr : R l s = some ro) (hro : ro.le ro') (hm : m.le m')
  (hcell : ∀ b o v, m'.cell b o = some v → m.cell b o = some v ∨ (ro'.block = some b ∧ w'.cell? ⟨b, o, none⟩ = some v)) (hmap : m'.map = m.map)
  (hw : Only ro.block w w') (hkeep : ∀ β o v, ro.block = some β → m.cell β o = some v → w'.cell? ⟨β, o, none⟩ = some v)
  (hblk : ∀ β, ro'.block = some β → ro.block = some β ∨ w.heap.size ≤ β)
  (ho : OR m' ((R.put l s ro').upto l) (L.below lp l) w' o' ro') : WR E m' n0 w0 (R.put l s ro') L (fs.set l s o') lp w' ∧ RLe R (R.put l s ro') := by
 have hle : RLe R (R.put l s ro') := RM.put_le fun o e => by rw [hr] at e; simp at e; subst e; exact hro
 have hsome : (fs.get l s).isSome = true := by obtain ⟨o, h1, _⟩ := H.obj l s ro hr; simp [h1]
 refine ⟨?_, hle⟩
 constructor
 case imm =>
  intro b o v hv
  rcases hcell b o v hv with h1 | h1
  ·by_cases hb : ro.block = some b
   ·exact hkeep b o v hb h1
   ·have := H.imm b o v h1
    rw [zph (hw.block b (World.block_lt_of_cell? w _ this) fun e => hb e.symm)]
    exact this
  ·exact h1.2
 case immm =>
  intro r e hv
  rw [hmap] at hv
  obtain ⟨c, hc⟩ := H.immm r e hv
  refine ⟨c, ?_⟩
  rw [hw.block r (Array.getElem?_eq_some_iff.1 hc).1 fun q => by have := (H.kind hr q.symm).2.1; rw [this] at hv; simp at hv]
  exact hc
 case obj =>
  intro l' s' ro'' h
  by_cases hq : l' = l ∧ s' = s
  ·obtain ⟨rfl, rfl⟩ := hq
   rw [RM.put_at] at h
   simp only [Option.some.injEq] at h
   subst h
   exact ⟨o', by rw [FS.get_set _ _ _ _ hsome]; simp, ho⟩
  ·rw [RM.put_ne _ _ hq] at h
   obtain ⟨o2, h1, h2⟩ := H.obj l' s' ro'' h
   refine ⟨o2, by rw [FS.get_set _ _ _ _ hsome, if_neg hq]; exact h1, h2.mono hm (hle.upto l') (LLe.refl _) fun β hβ => ?_⟩
   have hlt := h2.lt hβ
   have hne : some β ≠ ro.block := fun e => hq (H.disj _ _ _ _ _ _ β h hr hβ e.symm)
   refine ⟨hw.block β hlt hne, fun o => ?_, by rw [hmap]⟩
   cases hc : m.cell β o with
   | some v => rw [hm.cell _ _ _ hc]
   | none =>
    cases hc' : m'.cell β o with
    | none => rfl
    | some v =>
     rcases hcell β o v hc' with h3 | h3
     ·rw [hc] at h3; cases h3
     ·rcases hblk β h3.1 with h4 | h4
      ·exact absurd h4.symm hne
      ·omega
 case disj =>
  intro l1 s1 r1 l2 s2 r2 β h1 h2 b1 b2
  by_cases q1 : l1 = l ∧ s1 = s
  ·by_cases q2 : l2 = l ∧ s2 = s
   ·exact ⟨q1.1.trans q2.1.symm, q1.2.trans q2.2.symm⟩
   ·obtain ⟨rfl, rfl⟩ := q1
    rw [RM.put_at] at h1
    simp only [Option.some.injEq] at h1
    subst h1
    rw [RM.put_ne _ _ q2] at h2
    rcases hblk β b1 with h4 | h4
    ·exact H.disj _ _ _ _ _ _ β hr h2 h4 b2
    ·have := (H.kind h2 b2).2.2.1; omega
  ·rw [RM.put_ne _ _ q1] at h1
   by_cases q2 : l2 = l ∧ s2 = s
   ·obtain ⟨rfl, rfl⟩ := q2
    rw [RM.put_at] at h2
    simp only [Option.some.injEq] at h2
    subst h2
    rcases hblk β b2 with h4 | h4
    ·exact H.disj _ _ _ _ _ _ β h1 hr b1 h4
    ·have := (H.kind h1 b1).2.2.1; omega
   ·rw [RM.put_ne _ _ q2] at h2
    exact H.disj _ _ _ _ _ _ β h1 h2 b1 b2
 case base =>
  intro l' s' ro'' β h hb
  by_cases hq : l' = l ∧ s' = s
  ·obtain ⟨rfl, rfl⟩ := hq
   rw [RM.put_at] at h
   simp only [Option.some.injEq] at h
   subst h
   rcases hblk β hb with h4 | h4
   ·exact H.base _ _ _ _ hr h4
   ·have := H.n0le; omega
  ·rw [RM.put_ne _ _ hq] at h
   exact H.base _ _ _ _ h hb
 case below => exact hw.below H.below (fun k e => H.base _ _ _ _ hr e) H.n0le
 case own =>
  intro b o v hv
  rcases hcell b o v hv with h1 | h1
  ·exact H.own b o v h1
  ·rcases hblk b h1.1 with h4 | h4
   ·exact .inr (H.base _ _ _ _ hr h4)
   ·exact .inr (Nat.le_trans H.n0le h4)
 case ownm => intro r e hv; rw [hmap] at hv; exact H.ownm r e hv
 case loops =>
  intro k r hk
  obtain ⟨h1, q, h2, h3, h4⟩ := H.loops k r hk
  refine ⟨by rw [FS.lo_set]; exact h1, q, h2, h3, h4.mono hm (hle.upto _) (LLe.refl _) (hw.block q h4.lt fun e => ?_)⟩
  obtain ⟨arr, fn, df, g1, _⟩ := h4
  rcases (H.kind hr e.symm).1 with ⟨a, b, c, g⟩ | ⟨a, b, g⟩ <;> rw [g] at g1 <;> simp at g1
 case linj => exact H.linj
 case glob => exact fun g cs hg => (H.glob g cs hg).mono hm
 case n0le => exact Nat.le_trans H.n0le hw.size
theorem z8g {α : Type} {k : Nat} {v : α} : ∀ {l : List (Nat × α)}, aget k l = some v → (k, v) ∈ l
 | [], h => by simp [aget] at h
 | p :: t, h => by
  simp only [aget] at h
  split at h
  ·rename_i e
   simp only [Option.some.injEq] at h
   subst h; subst e
   simp
  ·simp [z8g h]
theorem z0k {st : St} {t : Option Nat} {s : Nat} {o : O} {fs' : FS} (h : zeb st t s o = some fs') :
  fs'.lo = st.fs.lo ∧ (∀ l' s', fs'.get l' s' = if l' = st.fs.lo.length ∧ s' = s then some o else st.fs.get l' s') ∧
  (st.fs.get st.fs.lo.length s = none ∨ ((∀ t', t ≠ some t' → X.refs st.fs.lo.length [s] (tget st.tm t') = false) ∧ (∀ p, p ∈ st.fs.fr → p.1 ≠ s → O.refs st.fs.lo.length [s] p.2 = false) ∧ O.refs st.fs.lo.length [s] o = false)) := by
 have hg : ∀ s, st.fs.get st.fs.lo.length s = aget s st.fs.fr := fun s => by simp [FS.get]
 have gen : ∀ fr' : Fr, (∀ s', aget s' fr' = if s' = s then some o else aget s' st.fs.fr) → ∀ l' s', ({ st.fs with fr := fr' } : FS).get l' s' = if l' = st.fs.lo.length ∧ s' = s then some o else st.fs.get l' s' := by
  intro fr' hf l' s'
  simp only [FS.get]
  by_cases e : l' = st.fs.lo.length
  ·simp only [e, if_true, true_and, hf]
  ·simp [e]
 unfold zeb at h
 split at h
 ·rename_i hn
  simp only [Option.some.injEq] at h
  subst h
  refine ⟨rfl, gen _ fun s' => ?_, .inl (by rw [hg]; exact hn)⟩
  rw [z2d]
  by_cases e : s' = s
  ·subst e; rw [hn]; simp [aget]
  ·rw [if_neg e]
   cases aget s' st.fs.fr with
   | some v => rfl
   | none => simp [aget, Ne.symm e]
 ·split at h
  ·rename_i hc
   simp only [Option.some.injEq] at h
   subst h
   simp only [Bool.and_eq_true, List.all_eq_true, Bool.or_eq_true, beq_iff_eq, Bool.not_eq_true', FS.lv] at hc
   refine ⟨rfl, gen _ fun s' => ?_, .inr ⟨fun t' ht => ?_, fun p hp ht => ?_, hc.2⟩⟩
   ·by_cases e : s' = s
    ·subst e; rw [zLf]; simp
    ·rw [zXe _ e, if_neg e]
   ·cases hg : aget t' st.tm with
    | none => simp [tget, hg, X.refs]
    | some x =>
     rcases hc.1.1 _ (z8g hg) with h1 | h1
     ·exact absurd h1 ht
     ·exact h1
   ·rcases hc.1.2 p hp with h1 | h1
    ·exact absurd h1 ht
    ·exact h1
  ·simp at h
theorem XR.put {m m' : Imm} {L : LM} {l s : Nat} {ro : RO} (hm : m.le m') {x : X} {v : Value} (hx : XR m R L x v) (h : R l s = none ∨ X.refs l [s] x = false) : XR m' (R.put l s ro) L x v := by
 rcases h with h | h
 ·exact hx.mono hm (RM.put_le fun o e => by rw [h] at e; simp at e) (LLe.refl _)
 ·exact (hx.other (l := l) (ss := [s]) (fun l' s' e => RM.put_ne _ _ (by simpa using e)) h).mono hm (RLe.refl _) (LLe.refl _)
def TRx (t : Option Nat) (m : Imm) (R : RM) (L : LM) (tm : TM) (arr : Array Value) : Prop := ∀ t', t ≠ some t' → XR m R L (tget tm t') (arr.getD t' undef)
theorem OR.cells_refs {R : RM} {l s : Nat} {L : LM} {w : World} {o : O} {ro ro' : RO} (h : OR m R L w o ro) (hr : O.refs l [s] o = false) : OR m (R.put l s ro') L w o ro := by
 cases o <;> cases ro <;> simp only [OR] at h ⊢
 ·obtain ⟨arr, T, h1, h2, h3, h4, h5⟩ := h
  simp only [O.refs] at hr
  exact ⟨arr, T, h1, h2, h3, fun j x hx => (h4 j x hx).put (Imm.le.refl m) (.inr (z7e hr j x hx)), h5⟩
 ·exact h
 ·exact h
 ·exact h
theorem RM.upto_put (R : RM) (l s : Nat) (ro : RO) {n : Nat} (h : l ≤ n) : (R.put l s ro).upto n = (R.upto n).put l s ro := by
 funext l' s'
 simp only [RM.upto, RM.put]
 by_cases e : l' = l ∧ s' = s
 ·simp [e, h]
 ·simp [e]
theorem WR.slotCore {st : St} (H : WR E m n0 w0 R L st.fs lp w) {t : Option Nat} {s : Nat} {o : O} {fs' : FS} (s1 : fs'.lo = st.fs.lo) (s2 : ∀ l' s', fs'.get l' s' = if l' = st.fs.lo.length ∧ s' = s then some o else st.fs.get l' s')
  (s3 : R st.fs.lo.length s = none ∨ ((∀ t', t ≠ some t' → X.refs st.fs.lo.length [s] (tget st.tm t') = false) ∧ (∀ p, p ∈ st.fs.fr → p.1 ≠ s → O.refs st.fs.lo.length [s] p.2 = false) ∧ O.refs st.fs.lo.length [s] o = false)) {ro : RO} {m' : Imm} {w' : World} (hm : m.le m')
  (hcell : ∀ b o v, m'.cell b o = some v → m.cell b o = some v ∨ (ro.block = some b ∧ w'.cell? ⟨b, o, none⟩ = some v)) (hmap : m'.map = m.map)
  (hw : Below w.heap.size w w') (hblk : ∀ β, ro.block = some β → n0 ≤ β ∧ ∀ l' s' ro', R l' s' = some ro' → ro'.block ≠ some β)
  (ho : (R st.fs.lo.length s = none ∨ O.refs st.fs.lo.length [s] o = false) → OR m' ((R.put st.fs.lo.length s ro).upto st.fs.lo.length) (L.below lp st.fs.lo.length) w' o ro) :
  WR E m' n0 w0 (R.put st.fs.lo.length s ro) L fs' lp w' ∧ fs'.lo.length = st.fs.lo.length ∧
  (∀ l' s' o', l' < st.fs.lo.length → R l' s' = some o' → ∃ o'', (R.put st.fs.lo.length s ro) l' s' = some o'' ∧ o'.le o'') ∧
  ∀ arr, TRx t m R (L.below lp st.fs.lo.length) st.tm arr → TRx t m' (R.put st.fs.lo.length s ro) (L.below lp st.fs.lo.length) st.tm arr := by
 have hR : R st.fs.lo.length s = none → R st.fs.lo.length s = none := id
 refine ⟨?_, by rw [s1], fun l' s' o' hl h => ⟨o', by rw [RM.put_ne _ _ (by omega)]; exact h, RO.le.refl _⟩, fun arr hT t' ht => ?_⟩
 ·constructor
  case imm =>
   intro b o v hv
   rcases hcell b o v hv with h1 | h1
   ·have := H.imm b o v h1
    rw [zph (hw.block b (World.block_lt_of_cell? w _ this))]
    exact this
   ·exact h1.2
  case immm =>
   intro r e hv
   rw [hmap] at hv
   obtain ⟨c, hc⟩ := H.immm r e hv
   exact ⟨c, by rw [hw.block r (Array.getElem?_eq_some_iff.1 hc).1]; exact hc⟩
  case obj =>
   intro l' s' ro'' h
   by_cases hq : l' = st.fs.lo.length ∧ s' = s
   ·obtain ⟨rfl, rfl⟩ := hq
    rw [RM.put_at] at h
    simp only [Option.some.injEq] at h
    subst h
    refine ⟨o, by rw [s2]; simp, ho ?_⟩
    rcases s3 with s3 | s3
    ·exact .inl (hR s3)
    ·exact .inr s3.2.2
   ·rw [RM.put_ne _ _ hq] at h
    obtain ⟨o2, h1, h2⟩ := H.obj l' s' ro'' h
    refine ⟨o2, by rw [s2, if_neg hq]; exact h1, ?_⟩
    have hlvl := H.lvl h
    have hbl : ∀ β, ro''.block = some β → w'.heap[β]? = w.heap[β]? ∧ (∀ o, m'.cell β o = m.cell β o) ∧ m'.map β = m.map β := by
     intro β hβ
     have hlt := h2.lt hβ
     refine ⟨hw.block β hlt, fun o => ?_, by rw [hmap]⟩
     cases hc : m.cell β o with
     | some v => rw [hm.cell _ _ _ hc]
     | none =>
      cases hc' : m'.cell β o with
      | none => rfl
      | some v =>
       rcases hcell β o v hc' with h3 | h3
       ·rw [hc] at h3; cases h3
       ·exact absurd hβ ((hblk β h3.1).2 _ _ _ h)
    rcases Nat.lt_or_ge l' st.fs.lo.length with hl | hl
    ·rw [RM.put_upto _ _ _ _ _ hl]
     exact h2.mono hm (RLe.refl _) (LLe.refl _) hbl
    ·have : l' = st.fs.lo.length := by omega
     subst this
     rw [RM.upto_put _ _ _ _ (Nat.le_refl _)]
     rcases s3 with s3 | s3
     ·refine h2.mono hm (RM.put_le fun o e => ?_) (LLe.refl _) hbl
      simp [RM.upto, hR s3] at e
     ·have hmem : (s', o2) ∈ st.fs.fr := z8g (by simpa [FS.get] using h1)
      have := s3.2.1 _ hmem (fun e => hq ⟨rfl, e⟩)
      exact (OR.cells_refs h2 this).mono hm (RLe.refl _) (LLe.refl _) hbl
  case disj =>
   intro l1 s1' r1 l2 s2' r2 β h1 h2 b1 b2
   by_cases q1 : l1 = st.fs.lo.length ∧ s1' = s
   ·by_cases q2 : l2 = st.fs.lo.length ∧ s2' = s
    ·exact ⟨q1.1.trans q2.1.symm, q1.2.trans q2.2.symm⟩
    ·obtain ⟨rfl, rfl⟩ := q1
     rw [RM.put_at] at h1
     simp only [Option.some.injEq] at h1
     subst h1
     rw [RM.put_ne _ _ q2] at h2
     exact absurd b2 ((hblk β b1).2 _ _ _ h2)
   ·rw [RM.put_ne _ _ q1] at h1
    by_cases q2 : l2 = st.fs.lo.length ∧ s2' = s
    ·obtain ⟨rfl, rfl⟩ := q2
     rw [RM.put_at] at h2
     simp only [Option.some.injEq] at h2
     subst h2
     exact absurd b1 ((hblk β b2).2 _ _ _ h1)
    ·rw [RM.put_ne _ _ q2] at h2
     exact H.disj _ _ _ _ _ _ β h1 h2 b1 b2
  case base =>
   intro l' s' ro'' β h hb
   by_cases hq : l' = st.fs.lo.length ∧ s' = s
   ·obtain ⟨rfl, rfl⟩ := hq
    rw [RM.put_at] at h
    simp only [Option.some.injEq] at h
    subst h
    exact (hblk β hb).1
   ·rw [RM.put_ne _ _ hq] at h
    exact H.base _ _ _ _ h hb
  case below => exact H.below.trans (hw.mono H.n0le)
  case own =>
   intro b o v hv
   rcases hcell b o v hv with h1 | h1
   ·exact H.own b o v h1
   ·exact .inr (hblk b h1.1).1
  case ownm => intro r e hv; rw [hmap] at hv; exact H.ownm r e hv
  case loops =>
   intro k r hk
   obtain ⟨h1, q, h2, h3, h4⟩ := H.loops k r hk
   refine ⟨by rw [s1]; exact h1, q, h2, h3, ?_⟩
   rw [RM.put_upto _ _ _ _ _ h1]
   exact h4.mono hm (RLe.refl _) (LLe.refl _) (hw.block q h4.lt)
  case linj => exact H.linj
  case glob => exact fun g cs hg => (H.glob g cs hg).mono hm
  case n0le => exact Nat.le_trans H.n0le hw.size
 ·have hx := hT t' ht
  refine hx.put hm ?_
  rcases s3 with s3 | s3
  ·exact .inl (hR s3)
  ·exact .inr (s3.1 t' ht)
theorem WR.slotG {st : St} (H : WR E m n0 w0 R L st.fs lp w) {t : Option Nat} {s : Nat} {o : O} {fs' : FS} (hs : zeb st t s o = some fs') {ro : RO} {m' : Imm} {w' : World} (hm : m.le m')
  (hcell : ∀ b o v, m'.cell b o = some v → m.cell b o = some v ∨ (ro.block = some b ∧ w'.cell? ⟨b, o, none⟩ = some v)) (hmap : m'.map = m.map)
  (hw : Below w.heap.size w w') (hblk : ∀ β, ro.block = some β → n0 ≤ β ∧ ∀ l' s' ro', R l' s' = some ro' → ro'.block ≠ some β)
  (ho : (R st.fs.lo.length s = none ∨ O.refs st.fs.lo.length [s] o = false) → OR m' ((R.put st.fs.lo.length s ro).upto st.fs.lo.length) (L.below lp st.fs.lo.length) w' o ro) :
  WR E m' n0 w0 (R.put st.fs.lo.length s ro) L fs' lp w' ∧ fs'.lo.length = st.fs.lo.length ∧
  (∀ l' s' o', l' < st.fs.lo.length → R l' s' = some o' → ∃ o'', (R.put st.fs.lo.length s ro) l' s' = some o'' ∧ o'.le o'') ∧
  ∀ arr, TRx t m R (L.below lp st.fs.lo.length) st.tm arr → TRx t m' (R.put st.fs.lo.length s ro) (L.below lp st.fs.lo.length) st.tm arr := by
 obtain ⟨s1, s2, s3⟩ := z0k hs
 refine WR.slotCore H s1 s2 (s3.imp (fun h => ?_) id) hm hcell hmap hw hblk ho
 cases hq : R st.fs.lo.length s with
 | none => rfl
 | some o => obtain ⟨o', h1, _⟩ := H.obj _ _ _ hq; rw [h] at h1; simp at h1
theorem WR.slot {st : St} (H : WR E m n0 w0 R L st.fs lp w) {t : Option Nat} {s : Nat} {o : O} {fs' : FS} (hs : zeb st t s o = some fs') {ro : RO} {m' : Imm} {w' : World} (hm : m.le m')
  (hcell : ∀ b o v, m'.cell b o = some v → m.cell b o = some v ∨ (ro.block = some b ∧ w'.cell? ⟨b, o, none⟩ = some v)) (hmap : m'.map = m.map)
  (hw : Below w.heap.size w w') (hblk : ∀ β, ro.block = some β → w.heap.size ≤ β)
  (ho : (R st.fs.lo.length s = none ∨ O.refs st.fs.lo.length [s] o = false) → OR m' ((R.put st.fs.lo.length s ro).upto st.fs.lo.length) (L.below lp st.fs.lo.length) w' o ro) :
  WR E m' n0 w0 (R.put st.fs.lo.length s ro) L fs' lp w' ∧ fs'.lo.length = st.fs.lo.length ∧
  (∀ l' s' o', l' < st.fs.lo.length → R l' s' = some o' → ∃ o'', (R.put st.fs.lo.length s ro) l' s' = some o'' ∧ o'.le o'') ∧
  ∀ arr, TRx t m R (L.below lp st.fs.lo.length) st.tm arr → TRx t m' (R.put st.fs.lo.length s ro) (L.below lp st.fs.lo.length) st.tm arr :=
 WR.slotG H hs hm hcell hmap hw (fun β e => ⟨Nat.le_trans H.n0le (hblk β e), fun l' s' ro' h hb => by have := (H.kind h hb).2.2.1; have := hblk β e; omega⟩) ho
end
end Go.AM
set_option linter.unusedSimpArgs false
set_option linter.unusedVariables false
namespace Go.AM
open Go Go.RowKit
def zpc (lp lp' : List LRec) : Prop := lp'.length = lp.length ∧ ∀ (k : Nat) r, lp[k]? = some r → ∃ s, lp'[k]? = some { r with st := s }
theorem zpc.refl (lp : List LRec) : zpc lp lp := ⟨rfl, fun k r h => ⟨r.st, h⟩⟩
theorem zpc.trans {a b c : List LRec} (h : zpc a b) (k : zpc b c) : zpc a c := ⟨k.1.trans h.1, fun i r e => by
 obtain ⟨s, h1⟩ := h.2 i r e
 obtain ⟨s', h2⟩ := k.2 i _ h1
 exact ⟨s', h2⟩⟩
theorem zpc.below {lp lp' : List LRec} (h : zpc lp lp') (L : LM) (l : Nat) : L.below lp' l = L.below lp l := by
 funext k
 simp only [LM.below]
 cases hk : lp[k]? with
 | none =>
  have : lp'[k]? = none := by
   rw [List.getElem?_eq_none_iff] at hk ⊢
   rw [h.1]; exact hk
  rw [this]
 | some r =>
  obtain ⟨s, h1⟩ := h.2 k r hk
  rw [h1]
structure SC (E : Env) (n0 : Nat) (w0 : Base) (L : LM) (t : Option Nat) (tm : TM) (m : Imm) (R : RM) (fs : FS) (lp : List LRec) (w : World) (m' : Imm) (R' : RM) (fs' : FS) (lp' : List LRec) (w' : World) : Prop where
 mle : m.le m'
 wr : WR E m' n0 w0 R' L fs' lp' w'
 low : ∀ l s o, l < fs.lo.length → R l s = some o → ∃ o', R' l s = some o' ∧ o.le o'
 lv : fs'.lo.length = fs.lo.length
 lps : zpc lp lp'
 dk : zlf w w'
 tms : ∀ arr, TRx t m R (L.below lp fs.lo.length) tm arr → TRx t m' R' (L.below lp' fs'.lo.length) tm arr
theorem SC.trans {E : Env} {n0 : Nat} {w0 : Base} {L : LM} {t : Option Nat} {tm : TM} {m m1 m2 : Imm} {R R1 R2 : RM} {fs fs1 fs2 : FS} {lp lp1 lp2 : List LRec} {w w1 w2 : World}
  (h : SC E n0 w0 L t tm m R fs lp w m1 R1 fs1 lp1 w1) (k : SC E n0 w0 L t tm m1 R1 fs1 lp1 w1 m2 R2 fs2 lp2 w2) : SC E n0 w0 L t tm m R fs lp w m2 R2 fs2 lp2 w2 where
 mle := h.mle.trans k.mle
 wr := k.wr
 low l s o hl e := by
  obtain ⟨o1, h1, h2⟩ := h.low l s o hl e
  obtain ⟨o2, k1, k2⟩ := k.low l s o1 (by rw [h.lv]; exact hl) h1
  exact ⟨o2, k1, h2.trans k2⟩
 lv := k.lv.trans h.lv
 lps := h.lps.trans k.lps
 dk := h.dk.trans k.dk
 tms arr e := k.tms arr (h.tms arr e)
theorem SC.grow {E : Env} {n0 : Nat} {w0 : Base} {L : LM} {t : Option Nat} {tm : TM} {m m' : Imm} {R R' : RM} {fs fs' : FS} {lp : List LRec} {w w' : World}
  (hm : m.le m') (hR : RLe R R') (hwr : WR E m' n0 w0 R' L fs' lp w') (hl : fs'.lo.length = fs.lo.length) (hd : zlf w w') : SC E n0 w0 L t tm m R fs lp w m' R' fs' lp w' :=
 ⟨hm, hwr, fun l s o _ e => hR l s o e, hl, zpc.refl lp, hd, fun arr h t' ht => by rw [hl]; exact (h t' ht).mono hm hR (LLe.refl _)⟩
def LOK (E : Env) (n0 : Nat) (w0 : Base) (L : LM) (t : Option Nat) (tm : TM) (m : Imm) (R : RM) (fs : FS) (lp : List LRec) (w : World) (x : X) (fs' : FS) (lp' : List LRec) (run : Value → World → Prop) : Prop :=
 ∃ v w' m' R', run v w' ∧ SC E n0 w0 L t tm m R fs lp w m' R' fs' lp' w' ∧ XR m' R' (L.below lp' fs'.lo.length) x v
section
variable {E : Env} {m : Imm} {n0 : Nat} {w0 : Base} {R : RM} {L : LM} {fs : FS} {lp : List LRec} {w : World}
theorem QOK.lok {x : X} {s : Sem Value} (h : QOK E m n0 w0 R L fs lp w x s) (t : Option Nat) (tm : TM) : LOK E n0 w0 L t tm m R fs lp w x fs lp (fun v w' => s.run E.P w = .ok v w') := by
 obtain ⟨v, w', m', h1, h2, h3, h4, h5⟩ := h
 exact ⟨v, w', m', R, h1, .grow h2 (RLe.refl R) h3 rfl (.of_below h4), h5⟩
theorem XR.within {st : St} (H : WR E m n0 w0 R L st.fs lp w) {s : Nat} {ro : RO} {x : X} {v : Value} (hx : XR m R (L.below lp st.fs.lo.length) x v) (h : R st.fs.lo.length s = none ∨ X.refs st.fs.lo.length [s] x = false) :
  XR m ((R.put st.fs.lo.length s ro).upto st.fs.lo.length) (L.below lp st.fs.lo.length) x v := by
 rw [RM.upto_put _ _ _ _ (Nat.le_refl _)]
 refine (hx.mono (Imm.le.refl m) H.upto_top (LLe.refl _)).put (Imm.le.refl m) ?_
 rcases h with h | h
 ·left; simp [RM.upto, h]
 ·exact .inr h
theorem zrr {st : St} (H : WR E m n0 w0 R L st.fs lp w) {t : Option Nat} {s : Nat} {cs : List X} {fs' : FS} (hs : zeb st t s (.cells cs) = some fs') {arr : Array Value} (T : TypeId)
  (hn : arr.size = cs.length) (hsc : ∀ x, x ∈ cs → x.sc = true) (hx : ∀ (j : Nat) x, cs[j]? = some x → XR m R (L.below lp st.fs.lo.length) x (arr.getD j undef)) :
  SC E n0 w0 L t st.tm m R st.fs lp w m (R.put st.fs.lo.length s (.blk w.heap.size)) fs' lp (w.alloc (.cells arr T)) := by
 have hbel : Below w.heap.size w (w.alloc (.cells arr T)) := (Below.refl _ _).alloc (Nat.le_refl _) _
 obtain ⟨a, b, c, d⟩ := WR.slot (ro := .blk w.heap.size) (m' := m) (w' := w.alloc (.cells arr T)) H hs (Imm.le.refl m) (fun _ _ _ h => .inl h) rfl hbel (fun β e => by simp [RO.block] at e; omega)
  (fun hf => ⟨arr, T, zzb w _, hn, hsc, fun j x hj => (hx j x hj).within H (by
   rcases hf with hf | hf
   ·exact .inl hf
   ·exact .inr (z7e hf j x hj)), fun o => H.fresh (Nat.le_refl _) o⟩)
 exact ⟨Imm.le.refl m, a, c, b, zpc.refl lp, .of_below hbel, fun arr h => by rw [b]; exact d arr h⟩
theorem z5j {st : St} (H : WR E m n0 w0 R L st.fs lp w) {t : Option Nat} {s : Nat} {fs' : FS} (hs : zeb st t s .nrow = some fs') :
  SC E n0 w0 L t st.tm m R st.fs lp w m (R.put st.fs.lo.length s (.hdr 0 none 0 0)) fs' lp w := by
 obtain ⟨a, b, c, d⟩ := WR.slot (ro := .hdr 0 none 0 0) (m' := m) (w' := w) H hs (Imm.le.refl m) (fun _ _ _ h => .inl h) rfl (Below.refl _ _) (fun β e => by simp [RO.block] at e)
  (fun _ => ⟨rfl, rfl, rfl, rfl⟩)
 exact ⟨Imm.le.refl m, a, c, b, zpc.refl lp, .refl w, fun arr h => by rw [b]; exact d arr h⟩
theorem zgy {st : St} (H : WR E m n0 w0 R L st.fs lp w) {t : Option Nat} {s : Nat} {fs' : FS} (hs : zeb st t s (.map []) = some fs') :
  SC E n0 w0 L t st.tm m R st.fs lp w m (R.put st.fs.lo.length s (.map w.heap.size)) fs' lp (w.alloc (.map #[] 0)) := by
 have hbel : Below w.heap.size w (w.alloc (.map #[] 0)) := (Below.refl _ _).alloc (Nat.le_refl _) _
 obtain ⟨a, b, c, d⟩ := WR.slot (ro := .map w.heap.size) (m' := m) (w' := w.alloc (.map #[] 0)) H hs (Imm.le.refl m) (fun _ _ _ h => .inl h) rfl hbel (fun β e => by simp [RO.block] at e; omega)
  (fun _ => ⟨#[], 0, zzb w _, rfl, fun j p h => by simp at h, fun j p h => by simp at h, (by
   cases hm : m.map w.heap.size with
   | none => rfl
   | some e =>
    obtain ⟨c, hc⟩ := H.immm _ _ hm
    have := (Array.getElem?_eq_some_iff.1 hc).1
    omega), rfl, fun j h => by simp at h⟩)
 exact ⟨Imm.le.refl m, a, c, b, zpc.refl lp, .of_below hbel, fun arr h => by rw [b]; exact d arr h⟩
theorem zyu {st : St} (H : WR E m n0 w0 R L st.fs lp w) {t : Option Nat} {s z : Nat} {es : List (List D)} {fs' : FS} (hs : zeb st t s (.row z es true) = some fs') {arr : Array Value} {T : TypeId} {w1 : World} {cap : Nat}
  (hbel : Below w.heap.size w w1) (hb : w1.heap[w.heap.size]? = some (.cells arr T (0, 0))) (hz : 0 < z) (hcap : es.length ≤ cap) (ha : arr.size = cap * z) (hc : RC m z es arr) :
  SC E n0 w0 L t st.tm m R st.fs lp w m (R.put st.fs.lo.length s (.hdr z (some ⟨w.heap.size, 0, none⟩) es.length cap)) fs' lp w1 := by
 obtain ⟨a, b, c, d⟩ := WR.slot (ro := .hdr z (some ⟨w.heap.size, 0, none⟩) es.length cap) (m' := m) (w' := w1) H hs (Imm.le.refl m) (fun _ _ _ h => .inl h) rfl hbel (fun β e => by simp only [RO.block] at e; split at e <;> simp at e; omega)
  (fun _ => ⟨rfl, hz, rfl, hcap, hc.len, hc.sc, w.heap.size, 0, none, rfl, fun _ => ⟨rfl, rfl, arr, T, hb, ha, hc.at_, fun o _ => H.fresh (Nat.le_refl _) o, fun _ o => H.fresh (Nat.le_refl _) o, fun e => by simp at e⟩⟩)
 exact ⟨Imm.le.refl m, a, c, b, zpc.refl lp, .of_below hbel, fun arr h => by rw [b]; exact d arr h⟩
end
end Go.AM
set_option linter.unusedSimpArgs false
set_option linter.unusedVariables false
namespace Go.AM
open Go Go.RowKit
section
variable {E : Env} {m : Imm} {n0 : Nat} {w0 : Base} {R : RM} {L : LM} {fs : FS} {lp : List LRec} {w : World}
theorem zax {cs : List X} {arr : Array Value} {j : Nat} {x : X} (hx : ∀ (i : Nat) y, cs[i]? = some y → XR m R L y (arr.getD i undef)) (h : XR m R L x (arr.getD j undef)) (i : Nat) (y : X) (hi : (cs.set j x)[i]? = some y) : XR m R L y (arr.getD i undef) := by
 rw [List.getElem?_set] at hi
 split at hi
 ·rename_i e
  subst e
  split at hi
  ·simp only [Option.some.injEq] at hi
   subst hi
   exact h
  ·simp at hi
 ·exact hx i y hi
theorem zuq {st : St} {d : Nat} {arr : Array Value} : ∀ (l : List (Nat × Nat)) (R : RM) (fs fs' : FS) (cs cs' : List X), WR E m n0 w0 R L fs st.lp w → zyj st d fs cs l = some (fs', cs') → arr.size = cs.length → (∀ x, x ∈ cs → x.sc = true) → (∀ (j : Nat) x, cs[j]? = some x → XR m R (L.below st.lp fs.lo.length) x (arr.getD j undef)) →
  ∃ R', SC E n0 w0 L (some d) st.tm m R fs st.lp w m R' fs' st.lp w ∧ arr.size = cs'.length ∧ (∀ x, x ∈ cs' → x.sc = true) ∧ ∀ (j : Nat) x, cs'[j]? = some x → XR m R' (L.below st.lp fs'.lo.length) x (arr.getD j undef)
 | [], R, fs, fs', cs, cs', H, h, h1, h2, h3 => by
  simp only [zyj, Option.some.injEq, Prod.mk.injEq] at h
  obtain ⟨rfl, rfl⟩ := h
  exact ⟨R, .grow (Imm.le.refl m) (RLe.refl R) H rfl (.refl w), h1, h2, h3⟩
 | p :: l, R, fs, fs', cs, cs', H, h, h1, h2, h3 => by
  simp only [zyj] at h
  split at h
  ·split at h
   ·rename_i hcell
    split at h
    ·rename_i hall
     obtain ⟨fs1, hs, h⟩ := Option.bind_eq_some_iff.1 h
     have k := z5j (st := { st with fs := fs }) H hs
     rw [List.all_eq_true] at hall
     have hx1 : ∀ (j : Nat) x, cs[j]? = some x → XR m (R.put fs.lo.length (2000 + 16 * d + p.2) (.hdr 0 none 0 0)) (L.below st.lp fs1.lo.length) x (arr.getD j undef) := by
      intro j x hj
      rw [k.lv]
      exact (h3 j x hj).put (Imm.le.refl m) (.inr (by simpa [FS.lv] using hall x (List.mem_of_getElem? hj)))
     obtain ⟨R', a, b, c, e⟩ := zuq l _ fs1 fs' (cs.set p.2 (.row fs.lv (2000 + 16 * d + p.2) 0)) cs' k.wr h (by simpa using h1) (fun x hx => by
      rcases List.mem_or_eq_of_mem_set hx with hx | rfl
      ·exact h2 x hx
      ·rfl) (zax hx1 (by
       have := h3 _ _ hcell
       cases this with
       | d hd =>
        have hv : arr.getD p.2 undef = .slice none 0 0 := by
         generalize arr.getD p.2 undef = v at hd
         cases hd with
         | nils => rfl
         | sl z g hsp hc => exact absurd rfl hc
        rw [hv]
        exact .row (RM.put_at ..) (Nat.le_refl _) fun _ => ⟨rfl, rfl, rfl⟩))
     exact ⟨R', k.trans a, b, c, e⟩
    ·simp at h
   ·simp at h
  ·exact zuq l R fs fs' cs cs' H h h1 h2 h3
theorem zhz {st : St} (H : WR E m n0 w0 R L st.fs st.lp w) {T : TypeId} {d : Nat} {zs : List D} (hz : zcT E.P T = some zs) {rc : List (Nat × Nat)} {q : FS × List X} (hq : zyj st d st.fs (zs.map .d) rc = some q) {fs' : FS} (hs : zeb { st with fs := q.1 } (some d) d (.cells q.2) = some fs') :
  LOK E n0 w0 L (some d) st.tm m R st.fs st.lp w (.ptr st.fs.lv d 0) fs' st.lp (fun v w' => (Instr.alloc T true (.tuple #[])).run E.P w = .ok v w') := by
 obtain ⟨i, z, z1, z2, z3, z4, z5⟩ := z2o hz
 obtain ⟨R', a, b, c, e⟩ := zuq (arr := z.cells) rc R st.fs q.1 (zs.map .d) q.2 H hq (by simpa using z3) (fun x hx => by
  obtain ⟨y, hy, rfl⟩ := List.mem_map.1 hx
  exact z4 y hy) (fun j x hx => by
  rw [List.getElem?_map] at hx
  obtain ⟨y, hy, rfl⟩ := Option.map_eq_some_iff.1 hx
  exact .d (z5 m j y hy))
 have k := zrr (st := { st with fs := q.1 }) a.wr hs T b c e
 refine ⟨.pointer (some ⟨w.heap.size, 0, none⟩), _, m, _, ?_, a.trans k, ?_⟩
 ·simp only [Instr.alloc, Sem.run_bind, zkj z1 z2, Result.andThen_ok, newVar, newRow, run_newObj_alloc, Sem.run_pure]
 ·rw [show st.fs.lv = q.1.lo.length from a.lv.symm]
  exact .ptr (RM.put_at ..)
theorem zjA {st : St} (H : WR E m n0 w0 R L st.fs st.lp w) {T : TypeId} {d : Nat} {x : X} {v : Value} (hx : XR m R (L.below st.lp st.fs.lo.length) x v) {cs : List X} (hc : zOg x = some cs) {fs' : FS} (hs : zeb st (some d) d (.cells cs) = some fs') :
  LOK E n0 w0 L (some d) st.tm m R st.fs st.lp w (.ptr st.fs.lv d 0) fs' st.lp (fun u w' => (Instr.box T v).run E.P w = .ok u w') := by
 obtain ⟨a, b, c⟩ := zTn hx hc
 have k := zrr H hs T a b c
 refine ⟨.pointer (some ⟨w.heap.size, 0, none⟩), _, m, _, ?_, k, .ptr (RM.put_at ..)⟩
 simp only [Instr.box, Sem.run_bind, newVar, newRow, run_newObj_alloc, Result.andThen_ok, Sem.run_pure]
theorem zgx {st : St} (H : WR E m n0 w0 R L st.fs st.lp w) {T : TypeId} {d : Nat} {fs' : FS} (hs : zeb st (some d) d (.map []) = some fs') :
  LOK E n0 w0 L (some d) st.tm m R st.fs st.lp w (.map st.fs.lv d) fs' st.lp (fun u w' => (Instr.makeMap T none).run E.P w = .ok u w') := by
 have k := zgy H hs
 refine ⟨.map (some w.heap.size), _, m, _, ?_, k, .map (RM.put_at ..)⟩
 simp [Instr.makeMap, run_newObj_alloc]
theorem zEB {st : St} (H : WR E m n0 w0 R L st.fs st.lp w) {d : Nat} {fs' : FS} (hs : zeb st (some d) d .nrow = some fs') :
  LOK E n0 w0 L (some d) st.tm m R st.fs st.lp w (.row st.fs.lv d 0) fs' st.lp (fun u w' => u = .slice none 0 0 ∧ w' = w) :=
 ⟨_, w, m, _, ⟨rfl, rfl⟩, z5j H hs, .row (RM.put_at ..) (Nat.le_refl _) fun _ => ⟨rfl, rfl, rfl⟩⟩
theorem zOz {st : St} (H : WR E m n0 w0 R L st.fs st.lp w) {T : TypeId} {z : Nat} {zs : List D} (hq : okS E.P T = some (z, zs)) {n : Int} (h0 : 0 ≤ n) (h1 : n ≤ (limS E.P T : Int)) (k k' : IntKind) {d : Nat} {fs' : FS}
  (hs : zeb st (some d) d (.row z (List.replicate n.toNat zs) true) = some fs') :
  LOK E n0 w0 L (some d) st.tm m R st.fs st.lp w (.row st.fs.lv d n.toNat) fs' st.lp (fun u w' => (Instr.makeSlice T (.int k n) (.int k' n)).run E.P w = .ok u w') := by
 obtain ⟨arr, e, r1, r2, r3⟩ := z9t (w := w) hq h0 h1 k k'
 have hbel : Below w.heap.size w (w.alloc (.cells arr e)) := (Below.refl _ _).alloc (Nat.le_refl _) _
 have hl : (List.replicate n.toNat zs).length = n.toNat := by simp
 obtain ⟨_, _, _, _, _, _, _, hp, _⟩ := zcf hq
 have s := zyu (cap := n.toNat) H hs hbel (zzb w _) hp (by rw [hl]; exact Nat.le_refl _) r2 (r3 m)
 exact ⟨_, _, m, _, r1, s, .row (RM.put_at ..) (by rw [hl]; exact Nat.le_refl _) fun _ => ⟨rfl, hl.symm, rfl⟩⟩
theorem zrz {st : St} (H : WR E m n0 w0 R L st.fs st.lp w) {ρx : Operand → X} {ρv : Operand → Value} (hρ : ∀ a, XR m R (L.below st.lp st.fs.lo.length) (ρx a) (ρv a)) {T : TypeId} {n : Nat} {ps : Array (Nat × Operand)} {es : List (List D)} {q : Nat × Nat} (hq : slT E.P T = some q) (h : zch E.P T n (ps.toList.map fun p => (p.1, ρx p.2)) = some (.d (.sl es .ex))) {d : Nat} {fs' : FS}
  (hs : zeb st (some d) d (.row q.1 es true) = some fs') :
  LOK E n0 w0 L (some d) st.tm m R st.fs st.lp w (.row st.fs.lv d es.length) fs' st.lp (fun u w' => (Instr.buildSlice T n (ps.map fun p => (p.1, ρv p.2))).run E.P w = .ok u w') := by
 obtain ⟨z, zs, es', arr, e, hk, hx, hrun, f2, f4⟩ := z8q H hρ h
 simp only [X.d.injEq, D.sl.injEq, and_true] at hx
 subst hx
 have hz : q.1 = z := by
  have := hk
  unfold okS at this
  rw [hq] at this
  split at this
  ·rename_i q' z' h1 h2
   simp only [Option.some.injEq] at h1
   subst h1
   split at this
   ·simp only [Option.some.injEq, Prod.mk.injEq] at this; exact this.1
   ·simp at this
  ·simp at this
 rw [hz] at hs
 have hbel : Below w.heap.size w (w.alloc (.cells arr e)) := (Below.refl _ _).alloc (Nat.le_refl _) _
 obtain ⟨_, _, _, _, _, _, _, hp, _⟩ := zcf hk
 have s := zyu (cap := es.length) H hs hbel (zzb w _) hp (Nat.le_refl _) f2 f4
 exact ⟨_, _, m, _, hrun, s, .row (RM.put_at ..) (Nat.le_refl _) fun _ => ⟨rfl, rfl, rfl⟩⟩
theorem RM.put_same {R : RM} {l s : Nat} {ro : RO} (h : R l s = some ro) : R.put l s ro = R := by
 funext l' s'
 simp only [RM.put]
 split
 ·rename_i e
  obtain ⟨rfl, rfl⟩ := e
  exact h.symm
 ·rfl
theorem zsg (w : World) (β : Nat) (arr : Array Value) : Only (some β) w (w.setRow β arr) :=
 ⟨rfl, rfl, rfl, by simp [World.setRow], fun k _ hk => by simp [World.setRow, Array.getElem?_modify]; intro e; exact absurd (by rw [e]) hk⟩
theorem zCr {v : Value} (h : sc1 v) : v.oneCell' = true := by cases v <;> first | rfl | exact h.elim
theorem zOr {β o n : Nat} {T T' : TypeId} {arr : Array Value} {v : Value} (hw : w.heap[β]? = some (.cells arr T' (0, 0))) (hsz : szT E.P T = some n) (hv : v.cells.size = n) (h1 : ∀ u, u ∈ v.cells.toList → u.oneCell' = true) (hl : o + n ≤ arr.size) :
  ∃ arr', (Instr.storeAt T (.pointer (some ⟨β, o, none⟩)) v).run E.P w = .ok () (w.setRow β arr') ∧ (w.setRow β arr').heap[β]? = some (.cells arr' T' (0, 0)) ∧ arr'.size = arr.size ∧ ∀ k, arr'.getD k undef = if o ≤ k ∧ k < o + n then v.cells.getD (k - o) undef else arr.getD k undef := by
 have hr := run_storeCells_at E.P β o T' v.cells.toList 0 arr w hw (by simp; omega) h1
 refine ⟨(arr.toList.take (o + 0) ++ v.cells.toList ++ arr.toList.drop (o + 0 + v.cells.toList.length)).toArray, ?_, setRow_heap w β arr _ T' _ hw, ?_, fun k => ?_⟩
 ·simp only [Instr.storeAt, Instr.sureAddr, storeVar, Sem.run_bind, Sem.run_pure, Result.andThen_ok, zHc hsz, hv]
  simpa using hr
 ·simp; omega
 ·have : v.cells.toList.length = n := by simpa using hv
  rw [Array.getD_eq_getD_getElem?, Array.getD_eq_getD_getElem?, Array.getD_eq_getD_getElem?]
  simp only [List.getElem?_toArray, Nat.add_zero, this]
  rw [List.append_assoc, List.getElem?_append]
  simp only [List.length_take, Array.length_toList]
  by_cases c1 : k < o
  ·rw [if_pos (by omega), if_neg (by omega), List.getElem?_take, if_pos c1, Array.getElem?_toList]
  ·rw [if_neg (by omega), show min o arr.size = o by omega, List.getElem?_append]
   by_cases c2 : k < o + n
   ·rw [if_pos (by rw [this]; omega), if_pos ⟨by omega, c2⟩, Array.getElem?_toList]
   ·rw [if_neg (by rw [this]; omega), if_neg (by omega), List.getElem?_drop, this, show o + n + (k - o - n) = k by omega, Array.getElem?_toList]
theorem z7o (H : WR E m n0 w0 R L fs lp w) {t : Option Nat} {tm : TM} {T : TypeId} {p x : X} {pv v : Value} (hp : XR m R (L.below lp fs.lo.length) p pv) (hx : XR m R (L.below lp fs.lo.length) x v) {fs' : FS} (h : stX E.P lp fs T p x = some fs') :
  ∃ w', (Instr.storeAt T pv v).run E.P w = .ok () w' ∧ SC E n0 w0 L t tm m R fs lp w m R fs' lp w' := by
 unfold stX at h
 split at h
 ·rename_i n vs hsz hvs
  obtain ⟨c1, c2, c3⟩ := zTn hx hvs
  have hone : ∀ u, u ∈ v.cells.toList → u.oneCell' = true := by
   intro u hu
   obtain ⟨j, hj⟩ := List.mem_iff_getElem?.1 hu
   rw [Array.getElem?_toList] at hj
   have hlt := (Array.getElem?_eq_some_iff.1 hj).1
   have hlt' : j < vs.length := by omega
   have := c3 j vs[j] (List.getElem?_eq_getElem hlt')
   have e : v.cells.getD j undef = u := by rw [Array.getD_eq_getD_getElem?, hj]; rfl
   rw [e] at this
   exact zCr (this.sc1 (c2 _ (List.getElem_mem hlt')))
  split at h
  ·rename_i hn
   split at h
   ·rename_i l s o
    split at h
    ·rename_i cs hcs
     split at h
     ·rename_i hc
      obtain ⟨hc1, hc2⟩ := hc
      simp only [Option.some.injEq] at h
      subst h
      cases hp with
      | @ptr _ _ _ β hb =>
      obtain ⟨ob, o1, o2⟩ := H.obj l s _ hb
      rw [hcs] at o1
      simp only [Option.some.injEq] at o1
      subst o1
      obtain ⟨arr, T', a1, a2, a3, a4, a5⟩ := o2
      obtain ⟨arr', r1, r2, r3, r4⟩ := zOr (o := o) a1 hsz (c1.trans hn) hone (by rw [a2]; exact hc1)
      have hlen : o + vs.length ≤ cs.length := by rw [hn]; exact hc1
      have key := H.change (ro' := .blk β) (o' := .cells (zdc cs o vs)) (m' := m) (w' := w.setRow β arr') hb (RO.le.refl _) (Imm.le.refl m) (fun _ _ _ h => .inl h) rfl
       (by simpa [RO.block] using zsg w β arr') (fun b o v e hv => by simp [RO.block] at e; subst e; rw [a5] at hv; simp at hv) (fun b e => .inl e)
       ⟨arr', T', r2, by rw [r3, zjk _ _ _ hlen]; exact a2, fun y hy => by
        rcases zgn hy with hy | hy
        ·exact a3 y hy
        ·exact c2 y hy, fun j y hj => by
        rw [ztn _ _ _ hlen] at hj
        rw [r4 j, RM.put_same hb]
        rw [hn] at hj
        split at hj
        ·rename_i e
         rw [if_pos e]
         exact (c3 _ _ hj).at_level (zbh hc2 _ _ hj)
        ·rename_i e
         rw [if_neg e]
         exact a4 _ _ hj, a5⟩
      rw [RM.put_same hb] at key
      refine ⟨_, r1, .grow (Imm.le.refl m) (RLe.refl R) key.1 (FS.lo_set ..) ((zsg w β arr').dkeep fun k e d => ?_)⟩
      simp only [Option.some.injEq] at e
      subst e
      rw [a1]; simp
     ·simp at h
    ·simp at h
   ·rename_i l s k i o
    split at h
    ·rename_i z es hcs
     split at h
     ·rename_i hk
      obtain ⟨e, he, h⟩ := Option.bind_eq_some_iff.1 h
      obtain ⟨ds, hds, h⟩ := Option.bind_eq_some_iff.1 h
      split at h
      ·rename_i hc
       simp only [Option.some.injEq] at h
       subst h
       cases hp with
       | @rp _ _ _ _ _ z0 k' cap a p hb hnk hv =>
       obtain ⟨ob, o1, o2⟩ := H.obj l s _ hb
       rw [hcs] at o1
       simp only [Option.some.injEq] at o1
       subst o1
       obtain ⟨rfl, q2, q3, q4, q5, q6, β0, o0, sp0, q7, q8⟩ := o2
       have hi := zS he
       obtain ⟨hin, β, hβ, rfl⟩ := hv (by omega)
       rw [q7] at hβ
       simp only [Option.some.injEq, Addr.mk.injEq] at hβ
       obtain ⟨rfl, rfl, rfl⟩ := hβ
       subst q7
       obtain ⟨_, _, arr, T', a1, a2, a3, a4, a5, _⟩ := q8 (by omega)
       have hmem := List.mem_of_getElem? he
       have hel := q5 e hmem
       have hmul : i * z0 + z0 ≤ cap * z0 := by
        have := Nat.mul_le_mul_right z0 (show i + 1 ≤ cap by omega)
        rwa [Nat.add_mul, Nat.one_mul] at this
       obtain ⟨arr', r1, r2, r3, r4⟩ := zOr (o := i * z0 + o) a1 hsz (c1.trans hn) hone (by rw [a2]; omega)
       have hdl : ds.length = n := by
        have := zGe hds
        rw [← hn, this]; simp
       have hlen : o + ds.length ≤ e.length := by rw [hdl]; exact hc
       have hblk : (RO.hdr z0 (some ⟨β0, 0, none⟩) k' cap).block = some β0 := by simp [RO.block]; omega
       have key := H.change (ro' := .hdr z0 (some ⟨β0, 0, none⟩) k' cap) (o' := .row z0 (es.set i (zdc e o ds)) true) (m' := m) (w' := w.setRow β0 arr') hb (RO.le.refl _) (Imm.le.refl m) (fun _ _ _ h => .inl h) rfl
        (by rw [hblk]; exact zsg w β0 arr') (fun b o v e hv => by rw [hblk] at e; simp only [Option.some.injEq] at e; subst e; rw [a5 rfl] at hv; simp at hv) (fun b e => .inl e)
        ⟨rfl, q2, by simpa using q3, q4, fun y hy => by
         rcases List.mem_or_eq_of_mem_set hy with hy | rfl
         ·exact q5 y hy
         ·rw [zjk _ _ _ hlen]; exact hel, fun y hy dd hdd => by
         rcases List.mem_or_eq_of_mem_set hy with hy | rfl
         ·exact q6 y hy dd hdd
         ·rcases zgn hdd with hdd | hdd
          ·exact q6 e hmem dd hdd
          ·have := zGe hds
           have := c2 (.d dd) (by rw [this]; exact List.mem_map_of_mem hdd)
           simpa [X.sc] using this, β0, 0, none, rfl, fun _ => ⟨rfl, rfl, arr', T', r2, by rw [r3]; exact a2, fun i' j' e' d' he' hd' => by
         rw [r4]
         rw [List.getElem?_set] at he'
         split at he'
         ·rename_i hii
          subst hii
          first | rw [if_pos hi] at he' | skip
          simp only [Option.some.injEq] at he'
          subst he'
          rw [ztn _ _ _ hlen, hdl] at hd'
          split at hd'
          ·rename_i hin
           rw [if_pos (by omega)]
           have := zYr hds c3 (j' - o) d' hd'
           rwa [show i * z0 + j' - (i * z0 + o) = j' - o by omega]
          ·rename_i hin
           rw [if_neg (by omega)]
           exact a3 i j' e d' he hd'
         ·rename_i hii
          have hj := zS hd'
          rw [q5 e' (List.mem_of_getElem? he')] at hj
          rw [if_neg]
          ·exact a3 i' j' e' d' he' hd'
          ·rw [hel] at hc
           rintro ⟨g1, g2⟩
           rcases Nat.lt_or_gt_of_ne hii with g | g
           ·have := Nat.mul_le_mul_right z0 (show i + 1 ≤ i' by omega)
            rw [Nat.add_mul] at this
            omega
           ·have := Nat.mul_le_mul_right z0 (show i' + 1 ≤ i by omega)
            rw [Nat.add_mul] at this
            omega, a4, a5, fun e => by simp at e⟩⟩
       rw [RM.put_same hb] at key
       refine ⟨_, r1, .grow (Imm.le.refl m) (RLe.refl R) key.1 (FS.lo_set ..) ((zsg w β0 arr').dkeep fun k e d => ?_)⟩
       simp only [Option.some.injEq] at e
       subst e
       rw [a1]; simp
      ·simp at h
     ·simp at h
    ·simp at h
   ·simp at h
  ·simp at h
 ·simp at h
end
end Go.AM
