/- The statement ShelfPast holds for every input that its row lets in. Conditions: none. -/
import Derived.KernelRfl
import Derived.OpenShut
import Derived.ChangeSlices
import Derived.ProofKit
import Derived.LaidMore
import Derived.Stop.Joined
import Derived.Below
import Derived.ChangeSame
import Derived.Carry
import Derived.Test.YtfoohlabifhplaaDoorProg
import Derived.Test.YtfoohlabifhplaaDoorB
set_option linter.all false
set_option linter.unusedSimpArgs false
set_option linter.unusedVariables false
namespace Go.AM
open Go Go.RowKit
abbrev SL (α : Type) := List α × Cap
abbrev di (n : Int) : D := .i .i64 n
abbrev db (b : Bool) : D := .b b
abbrev xi (n : Int) : X := .d (.i .i64 n)
abbrev xb (b : Bool) : X := .d (.b b)
abbrev w64 (n : Int) : Int := IntKind.i64.wrap n
def eI (n : Int) : List D := [.i .i64 n]
def eB (b : Bool) : List D := [.b b]
def eL {α : Type} (e : α → List D) (l : SL α) : List D := [.sl (l.1.map e) l.2]
abbrev dl {α : Type} (e : α → List D) (l : List α) (c : Cap) : D := .sl (l.map e) c
def aB (n : Nat) (f : Nat → Bool) : List D := (List.range n).map fun k => .b (f k)
def aI (n : Nat) (f : Nat → Int) : List D := (List.range n).map fun k => .i .i64 (f k)
def upd {α : Type} (f : Nat → α) (i : Nat) (v : α) : Nat → α := fun k => if k = i then v else f k
section
variable {α β γ : Type} {G : Prop}
theorem zm {c : Bool} {A B : Option α} {r : α} (h : cond c A B = some r) (t : c = true → A = some r → G) (f : c = false → B = some r → G) : G := by
 cases c
 ·exact f rfl h
 ·exact t rfl h
theorem zP {c : Bool} {A : Option α} {r : α} (h : cond c A none = some r) (t : c = true → A = some r → G) : G := by
 cases c
 ·simp at h
 ·exact t rfl h
theorem zk {x : Option β} {f : β → Option α} {r : α} (h : x.bind f = some r) (t : ∀ y, x = some y → f y = some r → G) : G := by
 cases x with
 | none => simp at h
 | some y => exact t y rfl h
theorem zDd {v : β ⊕ γ} {f : β → Option α} {g : γ → Option α} {r : α} (h : Sum.elim f g v = some r) (t : ∀ a, v = .inl a → f a = some r → G) (u : ∀ b, v = .inr b → g b = some r → G) : G := by
 cases v with
 | inl a => exact t a rfl h
 | inr b => exact u b rfl h
theorem zH {x r : α} {g : α → D} {y : Option D} (h : some x = some r) (p : y = some (g x)) : y = some (g r) := by
 simp only [Option.some.injEq] at h; rw [← h]; exact p
end
theorem zz {α : Type} {x r : α} {g : α → Ex × St} {y : Option (Ex × St)} (h : some x = some r) (p : y = some (g x)) : y = some (g r) := by
 simp only [Option.some.injEq] at h; rw [← h]; exact p
theorem ztb {α : Type} {x r : α} {g : α → D × FS × List LRec} {y : Option (D × FS × List LRec)} (h : some x = some r) (p : y = some (g x)) : y = some (g r) := by
 simp only [Option.some.injEq] at h; rw [← h]; exact p
theorem ob {p : Prop} {s : List Prop} (h : p) (t : All s) : All (p :: s) := by
 cases s with
 | nil => exact h
 | cons q s => exact ⟨h, t⟩
theorem ob0 : All [] := trivial
def zN (E : Env) (fid : Nat) (c : Code) {S R : Type} (S0 : S → St) (R0 : R → Ex × St) (s : S) : S ⊕ R → Prop
 | .inl s' => ∀ r, ev E fid c (S0 s') = r → ev E fid c (S0 s) = r
 | .inr r => ev E fid c (S0 s) = some (R0 r)
section
variable {E : Env} {V : Ovs} {C : Cuts} {fid : Nat} {c : Code}
theorem zvv {S R : Type} {S0 : S → St} {R0 : R → Ex × St} {s s' : S} {x : S ⊕ R} {rs : List Nat} (h : some (Sum.inl s') = some x) {n : Nat} {P : List Prop} (hP : All P) (hr : zHi E V C rs n fid c (S0 s) = some (.inl (S0 s'), P)) : zN E fid c S0 R0 s x := by
 simp only [Option.some.injEq] at h
 subst h
 exact fun r hk => zQs hP hr hk
theorem z2v {S R : Type} {S0 : S → St} {R0 : R → Ex × St} {s : S} {r : R} {x : S ⊕ R} (h : some (Sum.inr r) = some x) {n : Nat} {P : List Prop} (hP : All P) (hr : zHi E V C [] n fid c (S0 s) = some (.inr (R0 r), P)) : zN E fid c S0 R0 s x := by
 simp only [Option.some.injEq] at h
 subst h
 exact zDt hP hr
theorem zvi {S R : Type} {S0 : S → St} {R0 : R → Ex × St} {body : S → Option (S ⊕ R)} (h : ∀ s x, body s = some x → zN E fid c S0 R0 s x) : ∀ (m : Nat) (s : S) (r : R), iter body m s = some r → ev E fid c (S0 s) = some (R0 r)
 | 0, s, r, hi => by simp [iter] at hi
 | m + 1, s, r, hi => by
  simp only [iter] at hi
  cases hb : body s with
  | none => simp [hb] at hi
  | some x =>
   have hx := h s x hb
   cases x with
   | inl s' => simp only [hb] at hi; exact hx _ (zvi h m s' r hi)
   | inr r' => simp only [hb, Option.some.injEq] at hi; subst hi; exact hx
def zLi (id : Nat) : Code → Option Code
 | .seq a b => match zLi id a with
  | some c => some c
  | none => zLi id b
 | .cond _ a b => match zLi id a with
  | some c => some c
  | none => zLi id b
 | .block i c => if i = id then some c else zLi id c
 | .loop c => zLi id c
 | .scope c => zLi id c
 | .rangeFunc _ _ a b => match zLi id a with
  | some c => some c
  | none => zLi id b
 | _ => none
def zFi (id : Nat) : Code → Option Code
 | .seq a b => match zFi id a with
  | some c => some c
  | none => zFi id b
 | .cond _ a b => match zFi id a with
  | some c => some c
  | none => zFi id b
 | .block _ c => zFi id c
 | .loop c => zFi id c
 | .scope c => zFi id c
 | .rangeFunc _ _ a b => match zFi id a with
  | some c => some c
  | none => zFi id b
 | .region i ops d => if i = id then some (.region i ops d) else none
 | _ => none
def zGi (t : Nat) : Code → Option Code
 | .seq a b => match zGi t a with
  | some c => some c
  | none => zGi t b
 | .cond c a b => match (match c with | .tmp u => decide (u = t) | _ => false) with
  | true => some (.cond c a b)
  | false => match zGi t a with
   | some c => some c
   | none => zGi t b
 | .block _ c => zGi t c
 | .loop c => zGi t c
 | .scope c => zGi t c
 | .rangeFunc _ _ a b => match zGi t a with
  | some c => some c
  | none => zGi t b
 | _ => none
def zAr (E : Env) (f : Nat) : Code := match E.P.funcs[f]? with
 | some fn => fn.body.getD .skip
 | none => .skip
def blk (E : Env) (f id : Nat) : Code := (zLi id (zAr E f)).getD .skip
def rgn (E : Env) (f id : Nat) : Code := (zFi id (zAr E f)).getD .skip
def cnd (E : Env) (f t : Nat) : Code := (zGi t (zAr E f)).getD .skip
def rfA : Code → Code
 | .rangeFunc _ _ a _ => a
 | _ => .skip
def rfB : Code → Code
 | .rangeFunc _ _ _ b => b
 | _ => .skip
def rfP : Code → Array Nat
 | .rangeFunc _ ps _ _ => ps
 | _ => #[]
theorem zE {id : Nat} {st : St} {r : Ex × St} {r' : Ex × St} (h : ev E fid c st = some r) (e : (if r.1 = .exit id then Ex.nor else r.1, r.2) = r') : ev E fid (.block id c) st = some r' := by
 rw [zdi]; simp only [step, h, Option.map_some, e]
end
theorem o_b {e b : Bool} (h : e = b) : some (X.d (.b e)) = some (X.d (.b b)) := by rw [h]
theorem zZw {x y : Int} (k : IntKind) (h : (y == 0) = false) : (if y = 0 then none else some (D.i k (x.tmod y))).map X.d = some (X.d (.i k (x.tmod y))) := by
 rw [if_neg (by simpa using h)]; rfl
def zF (x y : Int) : Int := w64 (x * 2 ^ (min y.toNat 64))
def zV (x y : Int) : Int := x.fdiv (2 ^ (min y.toNat 64))
theorem zec {x y : Int} (h : decide (y < 0) = false) : (if y < 0 then none else some (D.i .i64 (IntKind.i64.wrap (x * 2 ^ (min y.toNat IntKind.i64.bits))))).map X.d = some (xi (zF x y)) := by
 rw [if_neg (by simpa using h)]; rfl
theorem zbe {x y : Int} (h : decide (y < 0) = false) : (if y < 0 then none else some (D.i .i64 (x.fdiv (2 ^ (min y.toNat IntKind.i64.bits))))).map X.d = some (xi (zV x y)) := by
 rw [if_neg (by simpa using h)]; rfl
def idx {α : Type} (l : List α) (n : Int) : Option α := if 0 ≤ n then l[n.toNat]? else none
theorem o_ia {α : Type} {e : α → List D} {l : List α} {n : Int} {y : α} (z : Nat) (h : idx l n = some y) (hz : (e y).length = z) :
  (if 0 ≤ n then ((l.map e)[n.toNat]?).bind fun e => if e.length = z then some (X.d (.pin e)) else none else none) = some (X.d (.pin (e y))) := by
 unfold idx at h
 split at h
 ·rename_i h0
  rw [if_pos h0, List.getElem?_map, h]
  simp [hz]
 ·simp at h
theorem zr {α : Type} (e : α → List D) (l : List α) : some (X.d (.i .i64 ((l.map e).length : Int))) = some (xi (l.length : Int)) := by rw [List.length_map]
theorem zPc {n : Int} {m : Nat} (l s o z j : Nat) (h : (decide (0 ≤ n) && decide (n < (m : Int))) = true) (hj : o + n.toNat * z = j) : (if 0 ≤ n ∧ n < (m : Int) then some (X.ptr l s (o + n.toNat * z)) else none) = some (X.ptr l s j) := by
 rw [if_pos (by simpa using h), hj]
theorem zit {n : Int} (cs : List D) (m z : Nat) {j : Nat} (h : n = (j : Int)) (hj : j < m) : (if 0 ≤ n ∧ n < (m : Int) then some (X.d (.pin (cs.drop (n.toNat * z)))) else none) = some (X.d (.pin (cs.drop (j * z)))) := by
 subst h
 rw [if_pos ⟨by omega, by omega⟩]; rfl
theorem z8k (n : Nat) (f : Nat → Bool) : (aB n f).length = n := by simp [aB]
theorem zuq (n : Nat) (f : Nat → Int) : (aI n f).length = n := by simp [aI]
theorem zFp {n j : Nat} (f : Nat → Bool) (h : j < n) : (aB n f)[j]? = some (.b (f j)) := by simp [aB, h]
theorem zVv {n j : Nat} (f : Nat → Int) (h : j < n) : (aI n f)[j]? = some (.i .i64 (f j)) := by simp [aI, h]
theorem zjt {α : Type} (l : List α) (j : Nat) : (l.drop j).head? = l[j]? := by simp
theorem zEp (n : Nat) (f : Nat → Bool) (j : Nat) (h : j < n) : grab false 1 (((aB n f).map X.d).drop j) = some (xb (f j)) := by
 simp [grab, zjt, zFp f h]
theorem zos (n m j : Nat) (f : Nat → Bool) (h : j + m ≤ n) : ((aB n f).drop j).take m = aB m (fun k => f (j + k)) := by
 apply List.ext_getElem?
 intro i
 by_cases hi : i < m
 ·rw [List.getElem?_take_of_lt hi, List.getElem?_drop, zFp f (by omega), zFp _ hi]
 ·rw [List.getElem?_eq_none (by simp; omega), List.getElem?_eq_none (by simp [aB]; omega)]
theorem z3v (n m : Nat) (f : Nat → Bool) (j : Nat) (h : j + m ≤ n) : grab true m (((aB n f).map X.d).drop j) = some (.d (.agg (aB m (fun k => f (j + k))))) := by
 unfold grab
 rw [if_pos rfl, if_pos (by simp [z8k]; omega), ← List.map_drop, ← List.map_take, zos n m j f h, zeq]
theorem zYv (n : Nat) (f : Nat → Bool) (j : Nat) (v : Bool) : ((aB n f).map X.d).set j (xb v) = (aB n (upd f j v)).map X.d := by
 apply List.ext_getElem?
 intro i
 by_cases hi : i < n
 ·by_cases hj : j = i
  ·subst hj; simp [aB, upd, hi]
  ·rw [List.getElem?_set_ne hj]; simp [aB, upd, hi, Ne.symm hj]
 ·rw [List.getElem?_eq_none (by simp [aB]; omega), List.getElem?_eq_none (by simp [aB]; omega)]
theorem zbt {α : Type} (cs : List α) (j : Nat) (v : α) (h : cs.length ≠ 1) : zQc cs j [v] = cs.set j v := by
 unfold zQc
 rw [if_neg (by simp; omega)]
theorem zCi (n : Nat) (f : Nat → Bool) (j : Nat) (v : Bool) (h : j < n) (hn : n ≠ 1 := by decide) : j + 1 ≤ ((aB n f).map X.d).length ∧ zQc ((aB n f).map X.d) j [xb v] = (aB n (upd f j v)).map X.d :=
 ⟨by simp [z8k]; omega, by rw [zbt _ _ _ (by simpa [z8k] using hn), zYv]⟩
theorem zNp (n : Nat) (f : Nat → Bool) (i : Int) (h : (decide (0 ≤ i) && decide (i < (n : Int))) = true) : (if 0 ≤ i ∧ i < (n : Int) then (z9g false 1 ((aB n f).drop (i.toNat * 1))).map X.d else none) = some (xb (f i.toNat)) := by
 have h' : 0 ≤ i ∧ i < (n : Int) := by simpa using h
 rw [if_pos h']
 simp [z9g, zFp f (show i.toNat < n by omega)]
theorem zlp (m z : Nat) (f : Nat → Bool) (i : Int) (h : (decide (0 ≤ i) && decide (i < (m : Int))) = true) : (if 0 ≤ i ∧ i < (m : Int) then (z9g true z ((aB (m * z) f).drop (i.toNat * z))).map X.d else none) = some (.d (.agg (aB z (fun k => f (i.toNat * z + k))))) := by
 have h' : 0 ≤ i ∧ i < (m : Int) := by simpa using h
 have hb : i.toNat * z + z ≤ m * z := by
  have : (i.toNat + 1) * z ≤ m * z := Nat.mul_le_mul_right z (by omega)
  rw [Nat.add_mul, Nat.one_mul] at this; exact this
 rw [if_pos h']
 unfold z9g
 rw [if_pos rfl, if_pos (by simp [z8k]; omega), zos _ _ _ f hb]; rfl
def eqB (f g : Nat → Bool) : Nat → Nat → Bool
 | _, 0 => true
 | i, n + 1 => (f i == g i) && eqB f g (i + 1) n
def znb (x y : Int) : Int := w64 (BitVec.ofInt 64 x &&& BitVec.ofInt 64 y).toNat
def or64 (x y : Int) : Int := w64 (BitVec.ofInt 64 x ||| BitVec.ofInt 64 y).toNat
def zfi (x y : Int) : Int := w64 (BitVec.ofInt 64 x &&& ~~~ BitVec.ofInt 64 y).toNat
def rowO {α : Type} (b : Bool) (z : Nat) (e : α → List D) (l : List α) (w : Bool) : O := cond (b && l.isEmpty) .nrow (.row z (l.map e) w)
def rcap {α : Type} (b : Bool) (l : List α) : Cap := cond (b && l.isEmpty) .nil .ro
def xcap {α : Type} (b : Bool) (l : List α) : Cap := cond (b && l.isEmpty) .nil .ex
section
variable {α : Type} {b : Bool} {z : Nat} {e : α → List D} {l : List α} {w : Bool}
theorem zWh (b : Bool) (z : Nat) (e : α → List D) (l : List α) (w : Bool) : (b = true ∧ l = [] ∧ rowO b z e l w = .nrow) ∨ (rowO b z e l w = .row z (l.map e) w ∧ (b && l.isEmpty) = false) := by
 unfold rowO
 cases b with
 | false => exact .inr ⟨rfl, rfl⟩
 | true =>
  cases l with
  | nil => exact .inl ⟨rfl, rfl, rfl⟩
  | cons a t => exact .inr ⟨rfl, rfl⟩
theorem zwg (b : Bool) (z : Nat) (e : α → List D) (l : List α) (w : Bool) : ∀ l' ss, O.refs l' ss (rowO b z e l w) = false := by
 intro l' ss
 unfold rowO
 cases (b && l.isEmpty) <;> rfl
theorem zSl (hz : ∀ y, (e y).length = z) (l : List α) : ((l.map e).all fun e => e.length == z) = true := by
 rw [List.all_eq_true]
 intro x hx
 obtain ⟨y, _, rfl⟩ := List.mem_map.1 hx
 simp [hz y]
theorem zkx (l2 : List α) (hz : ∀ y, (e y).length = z) (h : decide (l.length + l2.length ≤ LIM) = true) : appO z (rowO b z e l w) l.length (l2.map e) = some ((l ++ l2).length, rowO b z e (l ++ l2) (w || (b && l.isEmpty))) := by
 have h' : l.length + l2.length ≤ LIM := by simpa using h
 unfold appO
 rw [if_pos ⟨by simpa using h', zSl hz l2⟩]
 rcases zWh b z e l w with ⟨rfl, rfl, hr⟩ | ⟨hr, hf⟩
 ·rw [hr]
  simp only [List.length_nil, if_true, List.nil_append, List.isEmpty_nil, Bool.and_self, Bool.or_true]
  cases l2 with
  | nil => rfl
  | cons a t => simp [rowO]
 ·rw [hr, hf]
  simp only [List.length_map, and_self, if_true, List.length_append, Bool.or_false]
  unfold rowO
  have : (b && (l ++ l2).isEmpty) = false := by
   cases b with
   | false => rfl
   | true =>
    cases l with
    | nil => simp at hf
    | cons a t => rfl
  rw [this]
  simp
theorem o_ap (x : α) (hz : ∀ y, (e y).length = z) (h : decide (l.length + 1 ≤ LIM) = true) : appO z (rowO b z e l w) l.length [e x] = some ((l ++ [x]).length, rowO b z e (l ++ [x]) (w || (b && l.isEmpty))) := zkx [x] hz h
theorem zGt : zCg (fun _ _ => some (rowO b z e l w)) 0 0 l.length = true := by
 unfold zCg
 rcases zWh b z e l w with ⟨rfl, rfl, hr⟩ | ⟨hr, hf⟩ <;> rw [hr] <;> simp
theorem zZh (b : Bool) (z : Nat) (e : α → List D) (l : List α) (w : Bool) : (if zCg (fun _ _ => some (rowO b z e l w)) 0 0 l.length = true then some (X.d (.i .i64 ((l.length : Nat) : Int))) else none) = some (xi (l.length : Int)) := by
 rw [if_pos zGt]
theorem zLm {n : Int} {y : α} (h : idx l n = some y) : 0 ≤ n ∧ n < (l.length : Int) ∧ l[n.toNat]? = some y := by
 unfold idx at h
 split at h
 ·rename_i h0
  obtain ⟨hl, _⟩ := List.getElem?_eq_some_iff.1 h
  exact ⟨h0, by omega, h⟩
 ·simp at h
theorem zFm {n : Int} {y : α} (h : idx l n = some y) : rowO b z e l w = .row z (l.map e) w := by
 obtain ⟨h0, h1, _⟩ := zLm h
 rcases zWh b z e l w with ⟨_, rfl, _⟩ | ⟨hr, _⟩
 ·simp at h1; omega
 ·exact hr
theorem zXw {P : Program} {T : TypeId} {lv s : Nat} {n : Int} {y : α} {bt : Nat} (ha : arT P T = none) (hs : slT P T = some (z, bt)) (h : idx l n = some y) : iaX P (fun _ _ => some (rowO b z e l w)) T (.row lv s l.length) (xi n) = some (.rp lv s l.length n.toNat 0) := by
 obtain ⟨h0, h1, _⟩ := zLm h
 simp only [iaX, intX, ha, hs, zFm (b := b) (z := z) (e := e) (w := w) h]
 rw [if_pos ⟨by simp, by trivial, h0, h1⟩]
theorem zxw {P : Program} {T : TypeId} {lv s o : Nat} {n : Int} {y : α} {q : Nat × Bool} {x : X} (ht : tyT P T = some q) (h : idx l n = some y) (hx : (z9g q.2 q.1 ((e y).drop o)).map X.d = some x) : ldX P (fun _ _ => some (rowO b z e l w)) T (.rp lv s l.length n.toNat o) = some x := by
 obtain ⟨h0, h1, h2⟩ := zLm h
 simp only [ldX, ht, zFm (b := b) (z := z) (e := e) (w := w) h]
 rw [if_pos (by simp), List.getElem?_map, h2]
 exact hx
theorem zYw {P : Program} {T : TypeId} {lv s o f : Nat} {n : Int} {y : α} {q : Nat × Nat × Bool} (hf : fdT P T f = some q) (hq : q.2.1 ≠ 0) (h : idx l n = some y) : faX P (fun _ _ => some (rowO b z e l w)) T (.rp lv s l.length n.toNat o) f = some (.rp lv s l.length n.toNat (o + q.1)) := by
 simp only [faX, hf, hq, if_false, live, zFm (b := b) (z := z) (e := e) (w := w) h]
 simp
theorem o_rs {o n : Nat} {ds : List D} {i : Int} {y y' : α} (h : idx l i = some y) (hn : o + n ≤ (e y).length) (hy : zQc (e y) o ds = e y') : stO (rowO b z e l true) l.length i.toNat o n ds = some (rowO b z e (l.set i.toNat y') true) := by
 obtain ⟨h0, h1, h2⟩ := zLm h
 simp only [stO, zFm (b := b) (z := z) (e := e) (w := true) h]
 rw [if_pos (by simp), List.getElem?_map, h2]
 simp only [Option.map_some, Option.bind_some]
 rw [if_pos hn, hy]
 have hne : (b && (l.set i.toNat y').isEmpty) = false := by
  cases b with
  | false => rfl
  | true =>
   cases l with
   | nil => simp at h1; omega
   | cons a t => cases i.toNat <;> rfl
 unfold rowO
 rw [hne]
 simp [List.map_set]
theorem zBt (b : Bool) (z : Nat) (e : α → List D) (l : List α) (w : Bool) : zeh (rowO b z e l w) = rowO b z e l false := by
 unfold rowO
 cases (b && l.isEmpty) <;> cases w <;> rfl
theorem z1u (b : Bool) (z : Nat) (e : α → List D) (l : List α) (lv s : Nat) : toD (fun _ _ => some (rowO b z e l false)) (.row lv s l.length) = some (dl e l (rcap b l)) := by
 rcases zWh b z e l false with ⟨rfl, rfl, hr⟩ | ⟨hr, hf⟩
 ·simp [toD, hr, rcap]
 ·simp [toD, hr, rcap, hf]
theorem o_cr (b : Bool) (z : Nat) (e : α → List D) (l : List α) (w : Bool) (lv s : Nat) : zeh (rowO b z e l w) = rowO b z e l false ∧ toD (fun _ _ => some (rowO b z e l false)) (.row lv s l.length) = some (dl e l (rcap b l)) := ⟨zBt b z e l w, z1u b z e l lv s⟩
theorem o_sr {P : Program} {T U : TypeId} {ρ : Operand → X} {lv s by' : Nat} (b : Bool) (z : Nat) (e : α → List D) (l : List α) (w : Bool) {lo hi mx : Option Operand} (hu : P.underlying T = some (.slice U)) (hs : slT P T = some (z, by')) (h1 : optI ρ lo = some none) (h2 : optI ρ hi = some (some (l.length : Int))) (h3 : optI ρ mx = some (some (l.length : Int))) :
  zeh (rowO b z e l w) = rowO b z e l false ∧ zUd P (fun _ _ => some (rowO b z e l false)) T ρ (.row lv s l.length) lo hi mx = some (.d (dl e l (xcap b l))) := by
 refine ⟨zBt b z e l w, ?_⟩
 simp only [zUd, h1, h2, h3, hu, z1u, hs, Option.bind_some]
 simp only [cutX, Option.getD_none, Option.getD_some]
 rw [if_pos ⟨by omega, by omega, by simp, .inl (by trivial)⟩, if_pos ⟨by omega, by simp, rfl⟩]
 simp only [Option.map_some, Int.toNat_natCast]
 rw [List.take_of_length_le (by simp)]
 unfold rcap xcap
 cases (b && l.isEmpty) <;> simp
theorem zeu {fr : Fr} {s : Nat} (b : Bool) (z : Nat) (e : α → List D) (l : List α) (w : Bool) (h : aget s fr = some (rowO b z e l w)) : z7d ⟨fr, []⟩ (.row 0 s l.length) = some (dl e l (rcap b l)) := by
 unfold z7d
 simp only [List.length_nil, if_true, h]
 rcases zWh b z e l w with ⟨rfl, rfl, hr⟩ | ⟨hr, hf⟩
 ·simp [hr, rcap]
 ·simp [hr, rcap, hf]
theorem zYt {fr : Fr} {s : Nat} (b : Bool) (z : Nat) (e : α → List D) (l : List α) (w : Bool) (h : aget s fr = some (rowO b z e l w)) : snap ⟨fr, []⟩ (.row 0 s l.length) = some (dl e l (rcap b l)) := by
 have := zeu b z e l w h
 simpa only [snap] using this
theorem o_s1 {fs : FS} {x : X} {t : List X} {d : D} {ds : List D} (h : snap fs x = some d) (k : zVc fs t = some ds) : zVc fs (x :: t) = some (d :: ds) := by simp only [zVc, h, k]
theorem o_s0 {fs : FS} : zVc fs [] = some [] := rfl
theorem o_ns {P : Program} {φ : Get} {T : TypeId} {q : Nat × List D} {c : Cap} (l : List α) (hq : okS P T = some q) (hz : ∀ y, (e y).length = q.1) (h : decide (l.length ≤ LIM) = true) : ∃ k, appQ P φ T (.d (.sl [] .ex)) (.d (.sl (l.map e) c)) = some (.d (.sl (l.map e) k)) := by
 have h' : l.length ≤ LIM := by simpa using h
 simp only [appQ, hq, z3d]
 rw [if_pos ⟨by simpa using h', zSl hz l, by simp⟩]
 cases l with
 | nil => exact ⟨.ex, rfl⟩
 | cons a t => exact ⟨.ro, rfl⟩
theorem zom (l : List α) (e : α → List D) : (l.map e).length = l.length := by simp
theorem o_rh {α : Type} (b : Bool) (z : Nat) (e : α → List D) (l : List α) : zaj (rowO b z e l true) l.length = true := by
 unfold rowO
 cases l with
 | nil => cases b <;> rfl
 | cons a t => simp [zaj]
theorem zvw {P : Program} {φ : Get} {T : TypeId} {q : Nat × List D} {c c' : Cap} (l l2 : List α) (hq : okS P T = some q) (hz : ∀ y, (e y).length = q.1) (hc : decide (c = .ro) = false) (h : decide (l.length + l2.length ≤ LIM) = true) : appQ P φ T (.d (.sl (l.map e) c)) (.d (.sl (l2.map e) c')) = some (.d (dl e (l ++ l2) (cond l2.isEmpty c .ro))) := by
 have h' : l.length + l2.length ≤ LIM := by simpa using h
 simp only [appQ, hq, z3d]
 rw [if_pos ⟨by simpa using h', zSl hz l2, zSl hz l⟩]
 cases l2 with
 | nil => simp
 | cons a t =>
  simp only [List.map_cons, List.isEmpty_cons, Bool.false_eq_true, if_false, cond_false]
  rw [if_neg (by simpa using hc)]
  simp
theorem o_ad {P : Program} {φ : Get} {T : TypeId} {q : Nat × List D} {c : Cap} (l : List α) (x : α) (hq : okS P T = some q) (hz : ∀ y, (e y).length = q.1) (hc : decide (c = .ro) = false) (h : decide (l.length + 1 ≤ LIM) = true) : appQ P φ T (.d (.sl (l.map e) c)) (.d (.sl [e x] .ex)) = some (.d (dl e (l ++ [x]) .ro)) := by
 have h' : l.length + 1 ≤ LIM := by simpa using h
 simp only [appQ, hq, z3d]
 rw [if_pos ⟨by simpa using h', by simp [hz], zSl hz l⟩]
 simp only [List.isEmpty_cons, Bool.false_eq_true, if_false]
 rw [if_neg (by simpa using hc)]
 simp
end
def ccap (c : Cap) : Cap := if c = .nil then .nil else .ex
theorem zde {α : Type} {e : α → List D} {z : Nat} (l : List α) (c : Cap) : (cutX z (l.map e) c none (some (l.length : Int)) (some (l.length : Int))).map X.d = some (.d (dl e l (ccap c))) := by
 simp only [cutX, Option.getD_none, Option.getD_some]
 rw [if_pos ⟨by omega, by omega, by simp, .inl (by trivial)⟩, if_pos ⟨by omega, by simp, rfl⟩]
 simp only [if_true, Int.toNat_natCast, Option.map_some]
 rw [List.take_of_length_le (by simp)]
 rfl
def em {κ ν : Type} (ek : κ → D) (ev : ν → D) (m : List (κ × ν)) : List (D × D) := m.map fun p => (ek p.1, ev p.2)
def zX {κ ν : Type} (q : κ → κ → Bool) (k : κ) : List (κ × ν) → Option ν
 | [] => none
 | p :: t => cond (q k p.1) (some p.2) (zX q k t)
def mset {κ ν : Type} (q : κ → κ → Bool) (k : κ) (v : ν) : List (κ × ν) → List (κ × ν)
 | [] => [(k, v)]
 | p :: t => cond (q k p.1) ((p.1, v) :: t) (p :: mset q k v t)
section
variable {κ ν : Type} {ek : κ → D} {evl : ν → D} {q : κ → κ → Bool}
theorem zbs (hq : ∀ a b, eqD (ek a) (ek b) = some (q a b)) (k : κ) : ∀ m : List (κ × ν), z2k (ek k) (em ek evl m) = some ((zX q k m).map evl)
 | [] => rfl
 | p :: t => by
  simp only [em, List.map_cons, z2k, hq, zX]
  cases q k p.1
  ·exact zbs hq k t
  ·rfl
theorem zzp (hq : ∀ a b, eqD (ek a) (ek b) = some (q a b)) (k : κ) (v : ν) : ∀ m : List (κ × ν), setD (ek k) (evl v) (em ek evl m) = some (em ek evl (mset q k v m))
 | [] => rfl
 | p :: t => by
  simp only [em, List.map_cons, setD, hq, mset]
  cases q k p.1
  ·have := zzp hq k v t
   simp only [em] at this
   simp only [this, Option.map_some, cond_false, List.map_cons]
  ·rfl
theorem zDh (hq : ∀ a b, eqD (ek a) (ek b) = some (q a b)) (k : κ) (m : List (κ × ν)) (z : ν) : ((z2k (ek k) (em ek evl m)).map fun r => X.d (r.getD (evl z))) = some (.d (evl ((zX q k m).getD z))) := by
 rw [zbs hq]
 simp only [Option.map_some]
 cases zX q k m <;> rfl
end
end Go.AM
set_option linter.unusedSimpArgs false
set_option linter.unusedVariables false
namespace Go.AM
open Go Go.RowKit
def zsf (W : World) : Imm := ⟨fun b o => W.cell? ⟨b, o, none⟩, fun _ => none⟩
theorem zQt {E : Env} {W : World} (hg : ∀ g cs, E.G g = some cs → DR (zsf W) (.pin cs) (.pointer (some ⟨g, 0, none⟩))) : IW E (zsf W) W :=
 ⟨fun b o v h => h, fun r e h => by simp [zsf] at h, hg⟩
def z2m : Value → Prop
 | .slice (some a) _ _ => a.spot = none
 | _ => True
theorem zCt {n : Int} (h : (Lit.int .i64 n).wf = true) : -9223372036854775808 ≤ n ∧ n ≤ 9223372036854775807 := by
 simpa [Lit.wf, IntKind.has, IntKind.min, IntKind.max, IntKind.signed, IntKind.bits] using h
def zxb (P : Program) (W : World) (T : TypeId) (ns : Bool) {α : Type} (e : α → List D) (good : α → Prop) : Prop :=
 ∀ (H : Type) (enc : TypeId × Value → H) (sp : Nat → Bool) (held : Bool) (fuel : Nat) (cs : List Value) (x : DataW H × List MemPlace), DataW.trod enc P W 0 sp held fuel T cs = some x → (ns = true → ∀ v, v ∈ cs → z2m v) →
  ∃ a : α, cs.length = (e a).length ∧ (∀ (j : Nat) d, (e a)[j]? = some d → ∃ v, cs[j]? = some v ∧ DR (zsf W) d v ∧ d.sc = true) ∧ good a
section
variable {P : Program} {W : World}
theorem zGd {T : TypeId} (ns : Bool) (hT : P.underlying T = some (.int .i64)) : zxb P W T ns eI (fun n => -9223372036854775808 ≤ n ∧ n ≤ 9223372036854775807) := by
 intro H enc sp held fuel cs x h _
 obtain ⟨n, rfl, _, hw⟩ := DataW.trod_int hT h
 refine ⟨n, rfl, fun j d hd => ?_, zCt hw⟩
 cases j with
 | zero => simp only [eI, List.getElem?_cons_zero, Option.some.injEq] at hd; subst hd; exact ⟨_, rfl, .i _ _, rfl⟩
 | succ j => simp [eI] at hd
theorem zGs {T : TypeId} (ns : Bool) (hT : P.underlying T = some .bool) : zxb P W T ns eB (fun _ => True) := by
 intro H enc sp held fuel cs x h _
 obtain ⟨b, rfl, _⟩ := DataW.trod_bool hT h
 refine ⟨b, rfl, fun j d hd => ?_, trivial⟩
 cases j with
 | zero => simp only [eB, List.getElem?_cons_zero, Option.some.injEq] at hd; subst hd; exact ⟨_, rfl, .b _, rfl⟩
 | succ j => simp [eB] at hd
theorem zxb.map {T : TypeId} {ns : Bool} {α β : Type} {e : α → List D} {e' : β → List D} {good : α → Prop} {good' : β → Prop} (h : zxb P W T ns e good) (g : α → β) (he : ∀ a, e' (g a) = e a) (hg : ∀ a, good a → good' (g a)) : zxb P W T ns e' good' := by
 intro H enc sp held fuel cs x hx hs
 obtain ⟨a, h1, h2, h3⟩ := h _ enc sp held fuel cs x hx hs
 exact ⟨g a, by rw [he]; exact h1, by rw [he]; exact h2, hg a h3⟩
def zkn (P : Program) (W : World) (fs : List Field) (off : Nat) (ns : Bool) {α : Type} (e : α → List D) (good : α → Prop) : Prop :=
 ∀ (H : Type) (enc : TypeId × Value → H) (sp : Nat → Bool) (held : Bool) (fuel : Nat) (cs : List Value), (∀ f, f ∈ fs → ∃ y, DataW.trod enc P W 0 sp held fuel f.type ((cs.drop f.offset).take (P.cellsOf f.type)) = some y) → (ns = true → ∀ v, v ∈ cs → z2m v) →
  ∃ a : α, (∀ (j : Nat) d, (e a)[j]? = some d → ∃ v, cs[off + j]? = some v ∧ DR (zsf W) d v ∧ d.sc = true) ∧ good a
theorem zyg (off : Nat) (ns : Bool) : zkn P W [] off ns (fun _ : Unit => []) (fun _ => True) := by
 intro H enc sp held fuel cs _ _
 exact ⟨(), fun j d h => by simp at h, trivial⟩
theorem zdb {f : Field} {fs : List Field} {off z : Nat} {ns : Bool} {α β : Type} {e : α → List D} {e' : β → List D} {good : α → Prop} {good' : β → Prop} (hf : zxb P W f.type ns e good) (ho : f.offset = off) (hz : ∀ a, (e a).length = z) (h : zkn P W fs (off + z) ns e' good') :
  zkn P W (f :: fs) off ns (fun p : α × β => e p.1 ++ e' p.2) (fun p => good p.1 ∧ good' p.2) := by
 intro H enc sp held fuel cs hx hs
 obtain ⟨y, hy⟩ := hx f (by simp)
 obtain ⟨a, h1, h2, h3⟩ := hf _ enc sp held fuel _ y hy (fun hn v hv => hs hn v (List.mem_of_mem_drop (List.mem_of_mem_take hv)))
 obtain ⟨b, k1, k2⟩ := h _ enc sp held fuel cs (fun g hg => hx g (by simp [hg])) hs
 refine ⟨(a, b), fun j d hd => ?_, h3, k2⟩
 simp only at hd
 by_cases hj : j < z
 ·rw [List.getElem?_append_left (by rw [hz]; exact hj)] at hd
  obtain ⟨v, v1, v2⟩ := h2 j d hd
  refine ⟨v, ?_, v2⟩
  rw [List.getElem?_take] at v1
  split at v1
  ·rw [List.getElem?_drop, ho] at v1; exact v1
  ·simp at v1
 ·rw [List.getElem?_append_right (by rw [hz]; omega), hz] at hd
  obtain ⟨v, v1, v2⟩ := k1 _ d hd
  refine ⟨v, ?_, v2⟩
  rw [show off + z + (j - z) = off + j by omega] at v1
  exact v1
theorem zMr {T : TypeId} {ns : Bool} {fs : Array Field} {α : Type} {e : α → List D} {good : α → Prop} (hT : P.underlying T = some (.struct fs)) (hz : ∀ a, (e a).length = P.cellsOf T) (h : zkn P W fs.toList 0 ns e good) : zxb P W T ns e good := by
 intro H enc sp held fuel cs x hx hs
 obtain ⟨xs, n, rfl, _, hl, hn, hf⟩ := DataW.trod_struct hT hx
 obtain ⟨a, h1, h2⟩ := h _ enc sp held n cs (fun f hf' => by
  obtain ⟨i, hi⟩ := List.mem_iff_getElem?.1 hf'
  rw [Array.getElem?_toList] at hi
  have hlt := (Array.getElem?_eq_some_iff.1 hi).1
  exact ⟨xs[i], by rw [hf i f hi]; exact List.getElem?_eq_getElem (by omega)⟩) hs
 exact ⟨a, by rw [hl, hz], fun j d hd => by simpa using h1 j d hd, h2⟩
def zph (P : Program) (T : TypeId) : Array Field := match P.underlying T with
 | some (.struct fs) => fs
 | _ => #[]
def zM (P : Program) (T : TypeId) (i : Nat) : Field := ((zph P T)[i]?).getD default
theorem zOe {T : TypeId} {ns : Bool} {fs : Array Field} {l : List Field} {α : Type} {e : α → List D} {good : α → Prop} (hT : P.underlying T = some (.struct fs)) (hl : fs.toList = l) (hz : ∀ a, (e a).length = P.cellsOf T) (h : zkn P W l 0 ns e good) : zxb P W T ns e good :=
 zMr hT hz (hl ▸ h)
def z2f {α : Type} (good : α → Prop) (s : SL α) : Prop := (∀ a, a ∈ s.1 → good a) ∧ ((s.2 = .nil ∧ s.1 = []) ∨ s.2 = .ro) ∧ s.1.length ≤ maxLen
theorem zbo {α β : Type} : ∀ (l : List β) (p : Nat → β → α → Prop), (∀ (i : Nat) b, l[i]? = some b → ∃ a, p i b a) → ∃ al : List α, al.length = l.length ∧ ∀ (i : Nat) b a, l[i]? = some b → al[i]? = some a → p i b a
 | [], p, _ => ⟨[], rfl, fun i b a h => by simp at h⟩
 | b :: t, p, h => by
  obtain ⟨a, ha⟩ := h 0 b rfl
  obtain ⟨al, h1, h2⟩ := zbo t (fun i => p (i + 1)) fun i b hb => h (i + 1) b (by simpa using hb)
  refine ⟨a :: al, by simp [h1], fun i b' a' hb ha' => ?_⟩
  cases i with
  | zero =>
   simp only [List.getElem?_cons_zero, Option.some.injEq] at hb ha'
   subst hb; subst ha'; exact ha
  | succ i => exact h2 i b' a' (by simpa using hb) (by simpa using ha')
theorem zMi {T U : TypeId} {α : Type} {e : α → List D} {good : α → Prop} (hT : P.underlying T = some (.slice U)) (hU : zxb P W U false e good) (hz : ∀ a, (e a).length = P.cellsOf U) (hp : 0 < P.cellsOf U) :
  zxb P W T true (eL e) (z2f good) := by
 intro H enc sp held fuel cs x hx hs
 have one : ∀ (s : SL α) (v : Value), cs = [v] → DR (zsf W) (.sl (s.1.map e) s.2) v → ∀ (j : Nat) d, (eL e s)[j]? = some d → ∃ v, cs[j]? = some v ∧ DR (zsf W) d v ∧ d.sc = true := by
  intro s v hcs hd j d hj
  cases j with
  | zero => simp only [eL, List.getElem?_cons_zero, Option.some.injEq] at hj; subst hj; exact ⟨v, by rw [hcs]; rfl, hd, rfl⟩
  | succ j => simp [eL] at hj
 rcases DataW.trod_slice hT hx with ⟨rfl, _⟩ | ⟨a, len, cap, elems, rest, n, _, rfl, _, hb, hl, hm, hlen, hel, _, _⟩
 ·exact ⟨([], .nil), rfl, one ([], .nil) _ rfl .nils, fun a h => by simp at h, .inl ⟨rfl, rfl⟩, by simp⟩
 ·have hspot : a.spot = none := hs rfl (.slice (some a) len cap) (by simp)
  obtain ⟨β, o, sp'⟩ := a
  simp only at hspot
  subst hspot
  obtain ⟨al, h1, h2⟩ := zbo elems (fun i y a => (∀ (j : Nat) d, (e a)[j]? = some d → ∃ v, W.cell? ⟨β, o + (i * P.cellsOf U + j), none⟩ = some v ∧ DR (zsf W) d v ∧ d.sc = true) ∧ good a) (fun i y hy => by
   have hi : i < len := by rw [← hlen]; exact (List.getElem?_eq_some_iff.1 hy).1
   have := hel i hi
   rw [hy] at this
   obtain ⟨cs', hc, ht⟩ := Option.bind_eq_some_iff.1 this
   obtain ⟨a, a1, a2, a3⟩ := hU _ enc sp held n cs' y ht (fun h => by simp at h)
   refine ⟨a, fun j d hd => ?_, a3⟩
   obtain ⟨v, v1, v2⟩ := a2 j d hd
   refine ⟨v, ?_, v2⟩
   have hj : j < P.cellsOf U := by rw [← hz a]; exact (List.getElem?_eq_some_iff.1 hd).1
   have h3 := (World.cells?_some hc).2.2 j hj
   rw [v1] at h3
   rw [← h3]
   congr 1
   by_cases h0 : i * P.cellsOf U = 0
   ·by_cases hj0 : j = 0
    ·simp [Addr.add, h0, hj0]
    ·simp [Addr.add, h0, hj0]
   ·by_cases hj0 : j = 0
    ·simp [Addr.add, h0, hj0]
    ·simp [Addr.add, h0, hj0, Nat.add_assoc])
  have hal : al.length = len := by rw [h1, hlen]
  refine ⟨(al, .ro), rfl, one (al, .ro) _ rfl ?_, fun x hx => ?_, .inr rfl, by rw [show (al, Cap.ro).1.length = len from hal]; omega⟩
  ·have hsl : DR (zsf W) (.sl (al.map e) .ro) (.slice (some ⟨β, o, none⟩) (al.map e).length cap) := by
    have get : ∀ (i j : Nat) e' d, (al.map e)[i]? = some e' → e'[j]? = some d → ∃ v, W.cell? ⟨β, o + (i * P.cellsOf U + j), none⟩ = some v ∧ DR (zsf W) d v ∧ d.sc = true := by
     intro i j e' d he hd
     rw [List.getElem?_map] at he
     obtain ⟨a, ha, rfl⟩ := Option.map_eq_some_iff.1 he
     have hi : i < elems.length := by rw [← h1]; exact (List.getElem?_eq_some_iff.1 ha).1
     exact (h2 i _ a (List.getElem?_eq_getElem hi) ha).1 j d hd
    refine .sl (P.cellsOf U) (fun i j => ((W.cell? ⟨β, o + (i * P.cellsOf U + j), none⟩).getD undef)) (by simp) (by simp) (by simp [hal, hl]) (fun e' he => ?_) (fun e' he d hd => ?_) (fun i j e' d he hd => ?_) (fun i j e' d he hd => ?_)
    ·obtain ⟨a, _, rfl⟩ := List.mem_map.1 he; exact hz a
    ·obtain ⟨i, hi⟩ := List.mem_iff_getElem?.1 he
     obtain ⟨j, hj⟩ := List.mem_iff_getElem?.1 hd
     obtain ⟨v, _, _, h⟩ := get i j e' d hi hj
     exact h
    ·obtain ⟨v, hv, _⟩ := get i j e' d he hd
     show W.cell? _ = _
     rw [hv]; rfl
    ·obtain ⟨v, hv, h, _⟩ := get i j e' d he hd
     rw [hv]; exact h
   simpa [hal] using hsl
  ·obtain ⟨i, hi⟩ := List.mem_iff_getElem?.1 hx
   have hlt : i < elems.length := by rw [← h1]; exact (List.getElem?_eq_some_iff.1 hi).1
   exact (h2 i _ x (List.getElem?_eq_getElem hlt) hi).2
theorem zFt {T U : TypeId} {n : Nat} (hT : P.underlying T = some (.array n U)) (hU : P.underlying U = some (.int .i64)) (hc : P.cellsOf U = 1) (ns : Bool) (hl : P.cellsOf T = n) : zxb P W T ns (aI n) (fun f => ∀ k, k < n → -9223372036854775808 ≤ f k ∧ f k ≤ 9223372036854775807) := by
 intro H enc sp held fuel cs x hx _
 obtain ⟨xs, m, rfl, _, h1, h2, h3⟩ := DataW.trod_array hT hx
 have each : ∀ i, i < n → ∃ k : Int, cs[i]? = some (.int .i64 k) ∧ -9223372036854775808 ≤ k ∧ k ≤ 9223372036854775807 := by
  intro i hi
  have := h3 i hi
  rw [List.getElem?_eq_getElem (by omega), hc, Nat.mul_one] at this
  obtain ⟨k, hk, _, hw⟩ := DataW.trod_int hU this
  refine ⟨k, ?_, zCt hw⟩
  have h4 : ((cs.drop i).take 1)[0]? = some (.int .i64 k) := by rw [hk]; rfl
  simpa using h4
 let f : Nat → Int := fun i => match cs[i]? with
  | some (.int _ k) => k
  | _ => 0
 have hf : ∀ i, i < n → cs[i]? = some (.int .i64 (f i)) ∧ -9223372036854775808 ≤ f i ∧ f i ≤ 9223372036854775807 := by
  intro i hi
  obtain ⟨k, hk, hb⟩ := each i hi
  have : f i = k := by simp only [f, hk]
  rw [this]; exact ⟨hk, hb⟩
 refine ⟨f, by rw [h1, hl, zuq], fun j d hd => ?_, fun k hk => (hf k hk).2⟩
 have hj : j < n := by rw [← zuq n f]; exact (List.getElem?_eq_some_iff.1 hd).1
 rw [zVv f hj] at hd
 simp only [Option.some.injEq] at hd
 subst hd
 exact ⟨_, (hf j hj).1, .i _ _, rfl⟩
end
end Go.AM
set_option linter.unusedSimpArgs false
set_option linter.unusedVariables false
namespace Go.AM
open Go Go.RowKit Go.ChangeShapes Go.WideShapes Go.ChangeAt
section
variable {H : Type} {enc : TypeId × Value → H} {P : Program}
theorem zCq {f : Func} {s : ChangeSpec} {apart fresh handsOn again : Bool} {W W' : World} {args : Array Value} {v : Value} {ds gs : List (DataW H)} {before pa pv : List MemPlace}
  (hW : DataW.Whole enc P f.params.toList s.vars apart W args.toList ds gs before)
  (hres : ∀ (b : Nat) (sp : Nat → Bool) (hd : Bool), DataW.TrodAll enc P W' b sp hd f.resultTypes.toList (v.resultList f.resultTypes.size) (s.fn H (ds ++ gs)).results [])
  (hargs : ∀ sp : Nat → Bool, (∀ p ∈ before, sp p.block = true) → DataW.TrodAll enc P W' 0 sp true f.params.toList args.toList (s.fn H (ds ++ gs)).args pa)
  (hvars : ∀ sp : Nat → Bool, (∀ p ∈ before, sp p.block = true) → DataW.TrodVars enc P W' sp s.vars (s.fn H (ds ++ gs)).vars pv)
  (hps : before = pa ++ pv) (hb : Below W.heap.size W W')
  (hok : ∀ (j : Nat) (t : TypeId) (r : Value), f.resultTypes[j]? = some t → (v.resultList f.resultTypes.size)[j]? = some r → Value.okWide P W' .any 0 t r) :
  s.post enc P f apart fresh handsOn again W args v W' := by
 have hlt : ∀ p ∈ before, p.block < W.heap.size := fun p hp => hW.lt p hp
 have hold : ∀ p ∈ before, (fun b => decide (b < W.heap.size)) p.block = true := fun p hp => by simpa using hlt p hp
 refine ⟨ds, gs, before, [], pa, pv, hW, hres _ _ _, hargs _ hold, hvars _ hold, World.keptBut_mono (fun p hp => ⟨hp, ?_⟩) (hb.frame (· ∈ before)), fun _ => ?_⟩
 ·rw [hps, List.mem_append] at hp
  exact Or.inr hp
 ·obtain ⟨_, _, _, _, _, hz, hn⟩ := hW
  refine ⟨hok, _, _, ([] ++ pa) ++ pv, ⟨[] ++ pa, pv, trodAll_append (hargs _ (fun _ _ => rfl)) (hres _ _ _), hvars _ (fun _ _ => rfl), rfl, ?_, ?_⟩, ?_⟩
  ·intro b off hp
   have hin : MemPlace.cell b off ∈ before := by rw [hps]; simpa using hp
   rw [hb.frozen (hlt _ hin)]
   exact hz b off hin
  ·intro ha
   have := hn ha
   rw [hps] at this
   simpa using this
  ·intro p hp _
   rw [hps]
   simpa using hp
end
theorem zTr {P : Program} {W : World} {r : Go.Reach} {base : Nat} {t : TypeId} {v : Value} (h : Cell.okWide P W r base t v) : z2m v := by
 unfold z2m
 split
 ·rename_i a n c
  unfold Cell.okWide at h
  cases hu : P.underlying t with
  | none => simp [hu, Cell.ok] at h
  | some u =>
   cases u <;> simp [hu, Cell.ok] at h
   exact h.2.2.2.1
 ·trivial
theorem zEs {P : Program} {W : World} {r : Go.Reach} {base : Nat} {t : TypeId} {cs : Array Value} (h : Row.okWide P W r base t cs) : ∀ v, v ∈ cs.toList → z2m v := by
 obtain ⟨ts, _, _, h⟩ := h
 intro v hv
 obtain ⟨i, hi⟩ := List.mem_iff_getElem?.1 hv
 obtain ⟨u, _, hu⟩ := h i v (by rwa [Array.getElem?_toList] at hi)
 exact zTr hu
theorem zcs {P : Program} {W : World} {H : Type} {enc : TypeId × Value → H} {T : TypeId} {α : Type} {e : α → List D} {good : α → Prop} {ns : Bool} (ho : zxb P W T ns e good) {r : Go.Reach} {base : Nat} {v : Value} {d : DataW H} {ps : List MemPlace} {sp : Nat → Bool} {held : Bool}
  (hT : (match P.underlying T with | some (.struct _) => true | some (.array _ _) => true | _ => false) = true) (hval : Value.okWide P W r base T v) (h : DataW.Trod enc P W 0 sp held T v d ps) : ∃ a, DR (zsf W) (.agg (e a)) v ∧ good a := by
 have hc : ∃ cs, v = .agg cs ∧ cs.size = P.cellsOf T ∧ Row.okWide P W r base T cs := by
  unfold Value.okWide at hval
  split at hval
  ·exact hval
  ·exact hval
  ·rename_i h1 h2
   exfalso
   cases hu : P.underlying T with
   | none => simp [hu] at hT
   | some u => cases u <;> simp [hu] at hT <;> simp_all
 obtain ⟨cs, rfl, _, hrow⟩ := hc
 obtain ⟨fuel, ht⟩ := h
 obtain ⟨a, a1, a2, a3⟩ := ho _ enc sp held fuel cs.toList _ ht (fun _ => zEs hrow)
 refine ⟨a, .agg (by simpa using a1) (fun d hd => ?_) (fun j d hd => ?_), a3⟩
 ·obtain ⟨j, hj⟩ := List.mem_iff_getElem?.1 hd
  obtain ⟨_, _, _, h⟩ := a2 j d hj
  exact h
 ·obtain ⟨v, hv, hd', _⟩ := a2 j d hd
  rw [Array.getElem?_toList] at hv
  rw [Array.getD_eq_getD_getElem?, hv]
  exact hd'
end Go.AM
set_option maxRecDepth 100000
namespace Go.AM
open Go Go.Proofs
def TE_H : Nat → Hint
 | 3 => ⟨some [0, 1, 2, 3, 4, 5, 6, 7, 8, 9, 10, 11, 12, 45, 75], [], [], [], [], [⟨3, [12], [], []⟩]⟩
 | 4 => ⟨some [0, 1, 2, 3, 4, 5, 6, 7, 8, 9, 10, 33], [], [], [], [], []⟩
 | 5 => ⟨some [0, 1, 2, 3, 4, 5, 6, 7, 29, 31], [], [], [], [], [⟨7, [4, 23, 25], [], []⟩]⟩
 | 6 => ⟨some [0, 1, 2, 3, 4, 5, 6, 25], [], [], [], [], []⟩
 | 7 => ⟨some [0, 1, 2, 4, 5, 6, 7, 8, 9, 10, 11, 12, 13, 14, 15, 16, 17, 18, 19, 20, 21, 24, 34, 47, 52, 58, 105, 110, 130, 135, 155], [], [], [], [], [⟨16, [11, 16], [], []⟩, ⟨17, [20], [], []⟩, ⟨29, [9], [], []⟩]⟩
 | 8 => ⟨some [0, 1, 2, 3, 4, 5, 6, 7, 8, 9, 10, 11, 12, 13, 14, 15, 16, 17, 26, 47, 66, 78, 158, 207], [], [], [], [85], [⟨3, [10, 11, 12], [], []⟩, ⟨6, [8, 10], [], []⟩, ⟨7, [7], [], []⟩, ⟨9, [8], [], []⟩, ⟨14, [10, 12, 14], [], []⟩, ⟨15, [7, 12], [], []⟩, ⟨17, [7, 12], [], []⟩, ⟨18, [18], [], []⟩, ⟨20, [], [], []⟩]⟩
 | 9 => ⟨some [0, 1, 2, 3, 4, 5, 6, 7, 8, 9, 10, 11, 12, 13, 14, 17, 38, 61, 71, 90, 94], [], [], [], [66], [⟨3, [10, 11, 12], [], []⟩, ⟨15, [7, 12], [], []⟩, ⟨19, [10, 12], [], []⟩]⟩
 | 10 => ⟨some [0, 1, 2, 3, 4, 5, 6, 7, 8, 9, 10, 11, 12, 13, 14, 15, 16, 17, 26, 44, 96, 98], [], [38], [], [33], [⟨3, [5], [(4, 7)], [(1, [7])]⟩, ⟨4, [6, 8], [], []⟩, ⟨9, [8, 10], [], []⟩, ⟨10, [10, 11, 12], [], []⟩, ⟨17, [12, 14], [], []⟩]⟩
 | 11 => ⟨some [0, 1, 2, 3, 4, 5, 6, 7, 8, 9, 10, 11, 12, 13, 14, 15, 16, 17, 18, 19, 20, 21, 24, 34, 79, 122, 135, 180], [], [], [], [], [⟨4, [5, 6, 7], [], []⟩, ⟨31, [10, 11, 12], [], []⟩]⟩
 | 12 => ⟨some [0, 1, 2, 4, 5, 6, 8, 9, 11, 13, 14, 22, 39, 90, 118], [], [], [], [], [⟨13, [9, 10], [], []⟩]⟩
 | 13 => ⟨some [0, 1, 2, 3, 5, 6, 7, 8, 9, 10, 11, 12, 13, 14, 15, 16, 17, 18, 19, 22, 32, 53, 58, 103], [], [], [], [], [⟨6, [10, 11, 12], [], []⟩]⟩
 | 14 => ⟨some [0, 1, 2, 4, 5, 6, 7, 8, 9, 10, 11, 12, 13, 14, 15, 16, 17, 18, 19, 20, 32, 58, 84, 90, 123, 132, 163], [], [], [], [], []⟩
 | 15 => ⟨some [0, 1, 2, 4, 6, 8, 10, 12, 14, 16, 18, 19, 21, 23, 25, 27, 29, 31, 33, 34, 35, 36, 37, 38, 39, 40, 41, 42, 43, 44, 45, 109, 213, 268, 329, 384], [], [], [], [55, 57], [⟨1, [12], [], []⟩, ⟨4, [7], [], []⟩, ⟨6, [7], [], []⟩, ⟨7, [7], [], []⟩, ⟨46, [9], [(6, 357)], [(2, [357]), (3, [357])]⟩, ⟨58, [48, 66, 71, 73], [], []⟩]⟩
 | 16 => ⟨some [0, 1, 2, 3, 6, 7, 8, 16], [], [], [], [], [⟨1, [5, 6], [], []⟩]⟩
 | 17 => ⟨some [0, 1, 2, 3, 6, 7, 8, 16], [], [], [], [], [⟨1, [5, 6], [], []⟩]⟩
 | 18 => ⟨some [0, 1, 2, 3, 5, 7, 9, 11, 40, 41, 42, 43, 61, 62, 63, 64, 92, 93, 94, 95, 123, 124, 125, 126, 159], [], [], [], [], []⟩
 | 19 => ⟨some [0, 1, 2, 3, 4, 5, 6, 7, 8, 9, 10, 11, 46, 71, 103, 135, 166], [], [], [], [], []⟩
 | 20 => ⟨some [0, 1, 2, 3, 4, 8, 9, 10, 18], [], [], [], [], [⟨1, [5, 6], [], []⟩]⟩
 | 21 => ⟨some [0, 1, 2, 3, 4, 8, 9, 10, 18], [], [], [], [], [⟨1, [5, 6], [], []⟩]⟩
 | 22 => ⟨some [0, 1, 2, 3, 6, 7, 8, 9, 10, 11, 19, 29], [], [], [], [], [⟨1, [5, 6], [], []⟩]⟩
 | 23 => ⟨some [0, 1, 2, 3, 6, 7, 8, 9, 10, 11, 19, 33], [], [], [], [], [⟨1, [5, 6], [], []⟩]⟩
 | 24 => ⟨some [0, 1, 2, 3, 4, 5, 6, 7, 8, 9, 10, 11, 12, 65], [], [], [], [], [⟨5, [30], [], []⟩, ⟨11, [33, 38, 40], [], []⟩]⟩
 | 25 => ⟨some [0, 1, 2, 4, 5, 6, 7, 8, 9, 10, 20, 34, 54], [7], [], [], [40], [⟨1, [7, 8], [], []⟩]⟩
 | 26 => ⟨some [0, 1, 2, 4, 5, 6, 7, 8, 9, 19, 32], [], [], [], [], [⟨1, [7, 8], [], []⟩, ⟨4, [7, 8], [], []⟩]⟩
 | 27 => ⟨some [0, 1, 4, 5, 6, 18], [], [], [], [], [⟨5, [9], [], []⟩]⟩
 | 28 => ⟨some [0, 1, 2, 4, 5, 6, 7, 8, 9, 10, 20, 35], [], [], [], [41], [⟨1, [7, 8], [], []⟩]⟩
 | 29 => ⟨some [0, 1, 2, 4, 5, 6, 7, 8, 9, 10, 11, 12, 13, 23, 37, 47, 60, 105], [8], [], [], [], [⟨1, [7, 8], [], []⟩, ⟨4, [7, 8], [], []⟩, ⟨13, [20], [(19, 11)], [(8, [11]), (9, [11]), (10, [11]), (11, [11]), (12, [11]), (13, [11]), (14, [11]), (15, [11]), (16, [11])]⟩, ⟨14, [22], [], []⟩]⟩
 | 30 => ⟨some [0, 1, 2, 3, 4, 5, 8, 9, 10, 11, 12, 13, 14, 15, 16, 26, 29, 41, 42, 43], [14], [], [], [33], []⟩
 | 31 => ⟨some [0, 1, 2, 3, 4, 8, 9, 10, 24], [], [], [], [], []⟩
 | 32 => ⟨some [0, 1, 2, 3, 6, 7, 8, 9, 10, 11, 13, 18, 25, 38, 47, 78], [], [], [], [34], [⟨7, [6, 7], [], []⟩, ⟨13, [19], [], []⟩]⟩
 | 33 => ⟨some [0, 1, 2, 3, 4, 5, 6, 7, 8, 12, 18, 19, 20, 28], [], [], [], [], []⟩
 | 34 => ⟨some [0, 1, 2, 3, 4, 5, 6, 7, 8, 9, 10, 11, 12, 16, 25, 30, 40, 50, 57, 94], [], [], [], [], []⟩
 | 35 => ⟨some [0, 1, 2, 3, 4, 5, 6, 7, 8, 12, 15, 16, 17, 18, 35], [5], [], [], [], [⟨9, [8], [], []⟩]⟩
 | 36 => ⟨some [0, 1, 2, 3, 4, 5, 6, 7, 8, 9, 10, 11, 12, 13, 14, 18, 24, 44, 60, 73], [5], [], [], [], [⟨9, [7, 8, 9], [], []⟩]⟩
 | 37 => ⟨some [0, 1, 2, 3, 4, 5, 6, 7, 8, 9, 10, 50, 82, 117, 152], [], [], [], [], [⟨5, [6, 20, 22], [], []⟩]⟩
 | 38 => ⟨some [0, 1, 2, 4, 5, 6, 7, 8, 9, 10, 11, 12, 13, 14, 15, 16, 17, 18, 19, 20, 21, 22, 27, 56, 80, 87, 106, 152, 169, 174, 210, 244], [14], [236], [(7, 0), (7, 1)], [50], [⟨7, [13, 15], [], []⟩, ⟨15, [9, 10], [], []⟩, ⟨25, [33], [], []⟩, ⟨36, [21], [], []⟩, ⟨49, [25], [], []⟩, ⟨51, [5], [(3, 4), (4, 5)], [(1, [4]), (2, [4, 5])]⟩]⟩
 | 39 => ⟨some [0, 1, 2, 4], [], [], [], [], []⟩
 | 40 => ⟨some [0, 1, 4, 5, 9, 17], [], [], [], [], []⟩
 | 41 => ⟨some [0, 1, 4, 5, 7, 12], [], [], [], [], []⟩
 | 42 => ⟨some [0, 1, 4], [], [], [], [], []⟩
 | 43 => ⟨some [0, 1, 2, 3, 6], [], [], [], [], []⟩
 | 44 => ⟨some [0, 1, 2, 3, 8], [], [], [], [], []⟩
 | 45 => ⟨some [0, 1, 2, 3, 4], [], [], [], [], []⟩
 | 46 => ⟨some [0, 1, 2, 4, 5, 6, 13, 19], [], [8], [], [], [⟨7, [8, 10], [], []⟩]⟩
 | 47 => ⟨some [0, 1, 4, 5, 6, 10, 26], [], [], [], [], []⟩
 | 48 => ⟨some [0, 1, 4, 5, 6, 9, 14], [5], [], [], [], []⟩
 | 49 => ⟨some [0, 1, 4, 5, 15, 26], [], [], [], [], [⟨4, [], [], []⟩, ⟨5, [9], [], []⟩]⟩
 | 50 => ⟨some [0, 2, 3], [], [], [], [], []⟩
 | 51 => ⟨some [0, 1, 2, 4, 5, 9, 12, 15], [], [], [], [], []⟩
 | 52 => ⟨some [0, 1, 2, 3, 6], [], [], [], [], []⟩
 | 53 => ⟨some [0, 1, 2, 3, 4, 5, 6, 7, 8, 9, 10, 17, 18, 19, 25, 26, 27, 38, 39], [], [], [], [], [⟨2, [3, 4, 5], [], []⟩, ⟨13, [14], [], []⟩]⟩
 | 54 => ⟨some [0, 1, 2, 3, 4, 5, 6, 11, 12], [], [], [], [], [⟨5, [18], [], []⟩]⟩
 | 55 => ⟨some [0, 1, 2, 4, 5, 9, 12, 15], [], [], [], [], []⟩
 | 56 => ⟨some [0, 1, 2, 3, 6], [], [], [], [], []⟩
 | 57 => ⟨some [0, 2, 3, 4, 11], [], [], [], [], [⟨5, [16, 17], [], []⟩]⟩
 | 58 => ⟨some [0, 1, 4, 5, 6, 7, 11, 21, 34], [5], [], [], [], []⟩
 | 59 => ⟨some [0, 1, 2, 3, 6, 7, 8, 9, 10, 11, 12, 19, 41], [8], [], [], [], [⟨6, [7, 8], [], []⟩]⟩
 | 60 => ⟨some [0, 1, 2, 6], [], [], [], [], []⟩
 | 61 => ⟨some [0, 1, 2, 3, 6], [], [], [], [], []⟩
 | 62 => ⟨some [0, 1, 2, 6], [], [], [], [], []⟩
 | 63 => ⟨some [0, 1, 2, 4], [], [], [], [], []⟩
 | 64 => ⟨some [0, 1, 4, 5, 9, 17], [], [], [], [], []⟩
 | 65 => ⟨some [0, 1, 4, 6, 7, 8, 9, 10], [], [], [], [], []⟩
 | 66 => ⟨some [0, 2, 4], [], [], [], [7], []⟩
 | 67 => ⟨some [0, 1, 2, 3, 4, 11, 12, 13, 24], [], [], [], [], [⟨5, [], [], []⟩]⟩
 | 68 => ⟨some [0, 2, 4], [], [], [], [7], []⟩
 | 69 => ⟨some [0, 1, 2, 3, 4], [], [], [], [], []⟩
 | 70 => ⟨some [0, 2, 4], [], [], [], [7], []⟩
 | 71 => ⟨some [0, 1, 2, 3], [], [], [], [], []⟩
 | 72 => ⟨some [0, 1, 2, 4, 5, 6, 7, 8, 9, 10, 11, 17, 31, 38, 46], [9], [], [], [], []⟩
 | 73 => ⟨some [0, 1, 2, 3, 4, 8, 9, 10, 11, 12, 13, 14, 15, 16, 27, 34, 53, 65, 82, 87], [9], [], [], [], [⟨21, [10, 11], [], []⟩]⟩
 | 74 => ⟨some [0, 1, 2, 4, 5, 6, 7, 8, 9, 15, 55, 68, 70], [], [], [], [11], [⟨5, [33, 34], [], []⟩, ⟨9, [], [], []⟩, ⟨13, [27], [], []⟩]⟩
 | 75 => ⟨some [0, 1, 2, 3, 4, 8, 9, 10, 11, 12, 13, 17, 24, 37, 59], [], [], [], [], [⟨9, [15, 20], [], []⟩]⟩
 | 76 => ⟨some [0, 1, 2, 4, 5, 6, 9, 10, 11, 20], [], [], [], [], []⟩
 | 77 => ⟨some [0, 2, 3, 4, 8], [], [], [], [], []⟩
 | 78 => ⟨some [0, 1, 2, 4, 5, 10, 20], [], [], [], [], [⟨6, [6], [], []⟩]⟩
 | 79 => ⟨some [0, 1, 4, 7], [], [], [], [], []⟩
 | 80 => ⟨some [0, 1, 4], [], [], [], [], []⟩
 | 81 => ⟨some [0, 1, 2, 3, 4, 5, 6, 7, 8, 10, 18, 19, 20, 26, 27, 28, 38, 42, 43, 50, 51, 52, 53], [], [], [], [], [⟨9, [], [], []⟩, ⟨18, [14], [], []⟩]⟩
 | 82 => ⟨some [0, 1, 2, 3, 4, 5, 6, 7, 8, 9, 10, 11, 12, 13, 19, 20, 21, 31, 32, 33, 52, 59, 60, 61, 66, 67, 83, 84, 85, 118], [], [], [], [], [⟨21, [9], [], []⟩, ⟨29, [13], [], []⟩]⟩
 | 83 => ⟨some [0, 1, 2], [], [], [], [], []⟩
 | 84 => ⟨some [0, 1, 2], [], [], [], [], []⟩
 | 85 => ⟨some [0, 1, 2], [], [], [], [], []⟩
 | 86 => ⟨some [0, 1, 2, 4, 5, 10, 18], [], [], [], [], []⟩
 | 87 => ⟨some [0, 1], [], [], [], [], []⟩
 | 88 => ⟨some [0, 1, 4], [], [], [], [7], []⟩
 | 89 => ⟨some [0, 1, 2, 3, 4, 8, 9, 10, 11, 23, 46], [], [], [], [], [⟨7, [12, 13], [], []⟩]⟩
 | 90 => ⟨some [0, 1, 2, 3, 4, 24], [], [], [], [], []⟩
 | 91 => ⟨some [0, 1, 2, 3, 4, 5, 6], [], [], [], [], []⟩
 | 92 => ⟨some [0, 1, 2, 3, 6, 7, 8, 9, 11, 12, 15, 16, 17, 18, 26, 36, 37, 38, 39, 52, 57], [7], [], [], [], []⟩
 | 93 => ⟨some [0, 1, 2, 3, 4, 5, 6, 7, 8, 9, 10, 11, 12, 14, 15, 21, 40], [], [], [], [], [⟨7, [6, 7], [], []⟩]⟩
 | 94 => ⟨some [0, 1, 2, 3, 4, 5, 7, 8], [], [], [], [], []⟩
 | 95 => ⟨some [0, 1, 2, 3, 4, 6, 7, 8, 9, 12, 13, 14, 15, 37, 38, 39], [], [], [], [], []⟩
 | 96 => ⟨some [0, 1, 3, 4, 5, 6, 7, 16], [], [], [], [], []⟩
 | 97 => ⟨some [0, 1, 2, 3, 5, 6, 7, 8, 9, 14, 15, 16, 20, 21, 22, 23, 41, 42, 76, 81], [], [], [], [], [⟨6, [11], [], []⟩]⟩
 | 114 => ⟨some [0, 1, 2, 6], [], [], [], [], []⟩
 | 115 => ⟨some [0, 1, 2, 6], [], [], [], [], []⟩
 | _ => .nil
def TE_G : Nat → Option (List D)
 | 0 => some [(.fn 114 [] []), (.fn 115 [] [])]
 | _ => none
def TE_F : List Nat := [3, 4, 5, 6, 7, 8, 9, 10, 11, 12, 13, 14, 15, 16, 17, 18, 19, 20, 21, 22, 23, 24, 25, 26, 27, 28, 29, 30, 31, 32, 33, 34, 35, 36, 37, 38, 39, 40, 41, 42, 43, 44, 45, 46, 47, 48, 49, 50, 51, 52, 53, 54, 55, 56, 57, 58, 59, 60, 61, 62, 63, 64, 65, 66, 67, 68, 69, 70, 71, 72, 73, 74, 75, 76, 77, 78, 79, 80, 81, 82, 83, 84, 85, 86, 87, 88, 89, 90, 91, 92, 93, 94, 95, 96, 97, 114, 115]
noncomputable def TE : Env := ⟨Tryd.prog, TE_G, TE_H, TE_F⟩
end Go.AM
set_option linter.unusedVariables false
set_option maxRecDepth 100000
namespace Go.AM
open Go
structure zt where
 Low : Int
 High : Int
def zlb (x : zt) : List D := eI x.Low ++ eI x.High
structure zQ where
 Begin : zt
 Room : Int
def zj (x : zQ) : List D := zlb x.Begin ++ eI x.Room
structure zC where
 Day : Int
 Shelf : Int
 Back : Bool
 By : zt
def zo (x : zC) : List D := eI x.Day ++ eI x.Shelf ++ eB x.Back ++ zlb x.By
structure zy where
 Shelf : Int
 Days : zt
 By : zt
def zi (x : zy) : List D := eI x.Shelf ++ zlb x.Days ++ zlb x.By
structure zl where
 Day : Int
 Shelf : Int
 Read : Int
 Err : Int
def zh (x : zl) : List D := eI x.Day ++ eI x.Shelf ++ eI x.Read ++ eI x.Err
structure zb where
 Days : Int
 Shelves : (SL zQ)
 Moves : (SL zC)
 Deliveries : (SL zy)
 Counts : (SL zl)
def za (x : zb) : List D := eI x.Days ++ (eL zj) x.Shelves ++ (eL zo) x.Moves ++ (eL zi) x.Deliveries ++ (eL zh) x.Counts
structure zd where
 ShelfBook : zb
 shelf : Int
 left : Int
def zn (x : zd) : List D := za x.ShelfBook ++ eI x.shelf ++ eI x.left
structure zq where
 day : Int
 came : Int
def zw (x : zq) : List D := eI x.day ++ eI x.came
structure zA where
 way : Int
 by_ : zt
def zL (x : zA) : List D := eI x.way ++ zlb x.by_
def zx (a b : zq) : Bool := ((a.day == b.day) && ((a.came == b.came) && true))
abbrev zt0 := (Nat → Bool)
abbrev zt1 := (Bool × Int)
abbrev zt2 := (List (zq × (Nat → Bool)))
abbrev zt3 := ((SL Int) → Int → Int → Option ((SL Int) × Bool))
abbrev zt4 := (Int × Bool)
abbrev zt5 := (Int × (SL zQ) × (SL zC) × (SL zy) × (SL zl) × Int × Int × Int × Int)
abbrev zt6 := (Int × (List (zq × (Nat → Bool))))
abbrev zt7 := ((SL Int) × Int)
abbrev zt8 := (zt × Int)
abbrev zt9 := (List zl)
abbrev zt10 := (Int × (List zA))
abbrev zt11 := (Int × (Nat → Bool))
abbrev zt12 := (List zA)
abbrev zt13 := ((SL Int) × Int × Bool)
def zU (k : Nat) (p0 p1 p2 : Int) : Option Bool :=
 cond (decide (p1 ≤ p0)) (
 some (decide (p0 ≤ p2))) (
 some false)
def zqi (r : Bool) : D := (db r)
def zHd (k : Nat) (p0 : zt) (p1 p2 : Int) : Option Bool :=
 cond (decide (p1 ≤ p0.Low)) (
 cond (decide (p0.Low ≤ p0.High)) (
 some (decide (p0.High ≤ p2))) (
 some false)) (
 some false)
def zAg (r : Bool) : D := (db r)
def zwf (k : Nat) (p0 : zb) : Option Bool :=
 (zU k p0.Days 1 12).bind fun v201 =>
 cond v201 (
 (zU k (p0.Shelves.1.length : Int) 1 4).bind fun v204 =>
 cond v204 (
 cond (decide ((p0.Moves.1.length : Int) ≤ 10)) (
 cond (decide ((p0.Deliveries.1.length : Int) ≤ 3)) (
 some (decide ((p0.Counts.1.length : Int) ≤ 8))) (
 some false)) (
 some false)) (
 some false)) (
 some false)
def zlf (k : Nat) (p0 : zb) (s2_6 : Bool) (s2_9 : Int) (v402 : zQ) : Option Bool :=
 cond s2_6 (
 (zU k v402.Room 1 60).bind fun v502 =>
 cond v502 (
 (zHd k v402.Begin 0 v402.Room).bind fun v505 =>
 some v505) (
 some false)) (
 some false)
def zUc (k : Nat) (p0 : zb) (s2_6 : Bool) (s2_9 : Int) : Option ((Bool × Int) ⊕ (Bool × Int)) :=
 cond (decide (s2_9 < (p0.Shelves.1.length : Int))) (
 (idx p0.Shelves.1 s2_9).bind fun v402 =>
 (zlf k p0 s2_6 s2_9 v402).bind fun v404 =>
 some (Sum.inl (v404, (w64 (s2_9 + 1))))) (
 some (Sum.inr (s2_6, s2_9)))
def ztf (k : Nat) (p0 : zb) (v3 : zt1) (s5_6 : Bool) (s5_13 : Int) (v702 : zC) : Option Bool :=
 cond s5_6 (
 (zU k v702.Day 0 (w64 (p0.Days - 1))).bind fun v802 =>
 cond v802 (
 (zU k v702.Shelf 0 (w64 ((p0.Shelves.1.length : Int) - 1))).bind fun v805 =>
 cond v805 (
 (zHd k v702.By 0 60).bind fun v808 =>
 some v808) (
 some false)) (
 some false)) (
 some false)
def zRc (k : Nat) (p0 : zb) (v3 : zt1) (s5_6 : Bool) (s5_13 : Int) : Option ((Bool × Int) ⊕ (Bool × Int)) :=
 cond (decide (s5_13 < (p0.Moves.1.length : Int))) (
 (idx p0.Moves.1 s5_13).bind fun v702 =>
 (ztf k p0 v3 s5_6 s5_13 v702).bind fun v704 =>
 some (Sum.inl (v704, (w64 (s5_13 + 1))))) (
 some (Sum.inr (s5_6, s5_13)))
def zYe (k : Nat) (p0 : zb) (v3 v5 : zt1) (s8_6 : Bool) (s8_17 : Int) (v1002 : zy) : Option Bool :=
 cond s8_6 (
 (zU k v1002.Shelf 0 (w64 ((p0.Shelves.1.length : Int) - 1))).bind fun v1102 =>
 cond v1102 (
 (zHd k v1002.Days 0 (w64 (p0.Days - 1))).bind fun v1105 =>
 cond v1105 (
 (zHd k v1002.By 0 60).bind fun v1108 =>
 some v1108) (
 some false)) (
 some false)) (
 some false)
def zMc (k : Nat) (p0 : zb) (v3 v5 : zt1) (s8_6 : Bool) (s8_17 : Int) : Option ((Bool × Int) ⊕ (Bool × Int)) :=
 cond (decide (s8_17 < (p0.Deliveries.1.length : Int))) (
 (idx p0.Deliveries.1 s8_17).bind fun v1002 =>
 (zYe k p0 v3 v5 s8_6 s8_17 v1002).bind fun v1004 =>
 some (Sum.inl (v1004, (w64 (s8_17 + 1))))) (
 some (Sum.inr (s8_6, s8_17)))
def zVe (k : Nat) (p0 : zb) (v3 v5 v7 : zt1) (s11_6 : Bool) (s11_21 : Int) (v1302 : zl) : Option Bool :=
 cond s11_6 (
 (zU k v1302.Day 0 (w64 (p0.Days - 1))).bind fun v1402 =>
 cond v1402 (
 (zU k v1302.Shelf 0 (w64 ((p0.Shelves.1.length : Int) - 1))).bind fun v1405 =>
 cond v1405 (
 (zU k v1302.Read 0 60).bind fun v1408 =>
 cond v1408 (
 (zU k v1302.Err 0 20).bind fun v1411 =>
 some v1411) (
 some false)) (
 some false)) (
 some false)) (
 some false)
def zzc (k : Nat) (p0 : zb) (v3 v5 v7 : zt1) (s11_6 : Bool) (s11_21 : Int) : Option ((Bool × Int) ⊕ (Bool × Int)) :=
 cond (decide (s11_21 < (p0.Counts.1.length : Int))) (
 (idx p0.Counts.1 s11_21).bind fun v1302 =>
 (zVe k p0 v3 v5 v7 s11_6 s11_21 v1302).bind fun v1304 =>
 some (Sum.inl (v1304, (w64 (s11_21 + 1))))) (
 some (Sum.inr (s11_6, s11_21)))
def zge (k : Nat) (p0 : zb) : Option Int :=
 (zwf k p0).bind fun v1 =>
 (iter (fun s => zUc k p0 s.1 s.2) k (v1, 0)).bind fun v3 =>
 (iter (fun s => zRc k p0 v3 s.1 s.2) k (v3.1, 0)).bind fun v5 =>
 (iter (fun s => zMc k p0 v3 v5 s.1 s.2) k (v5.1, 0)).bind fun v7 =>
 (iter (fun s => zzc k p0 v3 v5 v7 s.1 s.2) k (v7.1, 0)).bind fun v9 =>
 cond (!v9.1) (
 some 40) (
 some 0)
def zgj (r : Int) : D := (di r)
def zZ (k : Nat) (p0 p1 p2 : Int) : Option Bool :=
 cond (decide (p1 ≤ p0)) (
 some (decide (p0 ≤ p2))) (
 some false)
def zxf (r : Bool) : D := (db r)
def zEb (k : Nat) (p0 : zt) (p1 p2 : Int) : Option Bool :=
 cond (decide (p1 ≤ p0.Low)) (
 cond (decide (p0.Low ≤ p0.High)) (
 some (decide (p0.High ≤ p2))) (
 some false)) (
 some false)
def zAd (r : Bool) : D := (db r)
def zHc (k : Nat) (p0 : zb) : Option Bool :=
 (zge k p0).bind fun v201 =>
 cond (v201 == 0) (
 (zZ k p0.Days 1 12).bind fun v204 =>
 cond v204 (
 (zZ k (p0.Shelves.1.length : Int) 1 4).bind fun v207 =>
 cond v207 (
 cond (decide ((p0.Moves.1.length : Int) ≤ 10)) (
 cond (decide ((p0.Deliveries.1.length : Int) ≤ 3)) (
 some (decide ((p0.Counts.1.length : Int) ≤ 8))) (
 some false)) (
 some false)) (
 some false)) (
 some false)) (
 some false)
def z1b (k : Nat) (p0 : zb) (s2_6 : Bool) (s2_7 : Int) : Option Bool :=
 cond s2_6 (
 some (decide (s2_7 < (p0.Shelves.1.length : Int)))) (
 some false)
def zxd (k : Nat) (p0 : zb) (s2_6 : Bool) (s2_7 : Int) : Option Bool :=
 (idx p0.Shelves.1 s2_7).bind fun v701 =>
 (zZ k v701.Room 1 60).bind fun v703 =>
 cond v703 (
 (idx p0.Shelves.1 s2_7).bind fun v706 =>
 (idx p0.Shelves.1 s2_7).bind fun v708 =>
 (zEb k v706.Begin 0 v708.Room).bind fun v710 =>
 some v710) (
 some false)
def z2b (k : Nat) (p0 : zb) (s2_6 : Bool) (s2_7 : Int) : Option ((Bool × Int) ⊕ (Bool × Int)) :=
 (z1b k p0 s2_6 s2_7).bind fun v501 =>
 cond v501 (
 (zxd k p0 s2_6 s2_7).bind fun v504 =>
 some (Sum.inl (v504, (w64 (s2_7 + 1))))) (
 some (Sum.inr (s2_6, s2_7)))
def zQb (k : Nat) (p0 : zb) (v3 : zt1) (s7_6 : Bool) (s7_9 : Int) : Option Bool :=
 cond s7_6 (
 some (decide (s7_9 < (p0.Moves.1.length : Int)))) (
 some false)
def zgd (k : Nat) (p0 : zb) (v3 : zt1) (s7_6 : Bool) (s7_9 : Int) (v1004 : zC) : Option Bool :=
 (zZ k v1004.Day 0 (w64 (p0.Days - 1))).bind fun v1201 =>
 cond v1201 (
 (zZ k v1004.Shelf 0 (w64 ((p0.Shelves.1.length : Int) - 1))).bind fun v1204 =>
 cond v1204 (
 (zEb k v1004.By 0 60).bind fun v1207 =>
 some v1207) (
 some false)) (
 some false)
def z0b (k : Nat) (p0 : zb) (v3 : zt1) (s7_6 : Bool) (s7_9 : Int) : Option ((Bool × Int) ⊕ (Bool × Int)) :=
 (zQb k p0 v3 s7_6 s7_9).bind fun v1001 =>
 cond v1001 (
 (idx p0.Moves.1 s7_9).bind fun v1004 =>
 (zgd k p0 v3 s7_6 s7_9 v1004).bind fun v1006 =>
 some (Sum.inl (v1006, (w64 (s7_9 + 1))))) (
 some (Sum.inr (s7_6, s7_9)))
def zUb (k : Nat) (p0 : zb) (v3 v5 : zt1) (s12_6 : Bool) (s12_11 : Int) : Option Bool :=
 cond s12_6 (
 some (decide (s12_11 < (p0.Deliveries.1.length : Int)))) (
 some false)
def zed (k : Nat) (p0 : zb) (v3 v5 : zt1) (s12_6 : Bool) (s12_11 : Int) (v1504 : zy) : Option Bool :=
 (zZ k v1504.Shelf 0 (w64 ((p0.Shelves.1.length : Int) - 1))).bind fun v1701 =>
 cond v1701 (
 (zEb k v1504.Days 0 (w64 (p0.Days - 1))).bind fun v1704 =>
 cond v1704 (
 (zEb k v1504.By 0 60).bind fun v1707 =>
 some v1707) (
 some false)) (
 some false)
def zOb (k : Nat) (p0 : zb) (v3 v5 : zt1) (s12_6 : Bool) (s12_11 : Int) : Option ((Bool × Int) ⊕ (Bool × Int)) :=
 (zUb k p0 v3 v5 s12_6 s12_11).bind fun v1501 =>
 cond v1501 (
 (idx p0.Deliveries.1 s12_11).bind fun v1504 =>
 (zed k p0 v3 v5 s12_6 s12_11 v1504).bind fun v1506 =>
 some (Sum.inl (v1506, (w64 (s12_11 + 1))))) (
 some (Sum.inr (s12_6, s12_11)))
def zPb (k : Nat) (p0 : zb) (v3 v5 v7 : zt1) (s17_6 : Bool) (s17_13 : Int) : Option Bool :=
 cond s17_6 (
 some (decide (s17_13 < (p0.Counts.1.length : Int)))) (
 some false)
def zcd (k : Nat) (p0 : zb) (v3 v5 v7 : zt1) (s17_6 : Bool) (s17_13 : Int) (v2004 : zl) : Option Bool :=
 (zZ k v2004.Day 0 (w64 (p0.Days - 1))).bind fun v2201 =>
 cond v2201 (
 (zZ k v2004.Shelf 0 (w64 ((p0.Shelves.1.length : Int) - 1))).bind fun v2204 =>
 cond v2204 (
 (zZ k v2004.Read 0 60).bind fun v2207 =>
 cond v2207 (
 (zZ k v2004.Err 0 20).bind fun v2210 =>
 some v2210) (
 some false)) (
 some false)) (
 some false)
def zSb (k : Nat) (p0 : zb) (v3 v5 v7 : zt1) (s17_6 : Bool) (s17_13 : Int) : Option ((Bool × Int) ⊕ (Bool × Int)) :=
 (zPb k p0 v3 v5 v7 s17_6 s17_13).bind fun v2001 =>
 cond v2001 (
 (idx p0.Counts.1 s17_13).bind fun v2004 =>
 (zcd k p0 v3 v5 v7 s17_6 s17_13 v2004).bind fun v2006 =>
 some (Sum.inl (v2006, (w64 (s17_13 + 1))))) (
 some (Sum.inr (s17_6, s17_13)))
def zpd (k : Nat) (p0 : zb) : Option Bool :=
 (zHc k p0).bind fun v1 =>
 (iter (fun s => z2b k p0 s.1 s.2) k (v1, 0)).bind fun v3 =>
 (iter (fun s => z0b k p0 v3 s.1 s.2) k (v3.1, 0)).bind fun v5 =>
 (iter (fun s => zOb k p0 v3 v5 s.1 s.2) k (v5.1, 0)).bind fun v7 =>
 (iter (fun s => zSb k p0 v3 v5 v7 s.1 s.2) k (v7.1, 0)).bind fun v9 =>
 some v9.1
def zyh (r : Bool) : D := (db r)
def zpb (k : Nat) (p0 p1 : Int) : Option zt :=
 some (⟨p0, p1⟩ : zt)
def zUi (r : zt) : D := (.agg [(di r.Low), (di r.High)])
def zJb (k : Nat) (p0 p1 p2 p3 : Int) : Option zl :=
 some (⟨p0, p1, p2, p3⟩ : zl)
def zxh (r : zl) : D := (.agg (zh r))
def zsb (k : Nat) (p0 : (SL zl)) : Option zb :=
 (zpb k 10 12).bind fun v1 =>
 (zpb k 5 5).bind fun v3 =>
 (zpb k 3 4).bind fun v5 =>
 (zpb k 5 8).bind fun v7 =>
 (zpb k 0 2).bind fun v9 =>
 (zpb k 2 2).bind fun v11 =>
 (zpb k 1 3).bind fun v13 =>
 (zpb k 10 10).bind fun v15 =>
 (zJb k 2 0 12 2).bind fun v17 =>
 (zJb k 1 1 3 0).bind fun v19 =>
 cond (decide (([v17, v19] : List zl).length + p0.1.length ≤ LIM)) (
 some (⟨5, ([(⟨v1, 30⟩ : zQ), (⟨v3, 10⟩ : zQ)], .ex), ([(⟨0, 0, false, v5⟩ : zC), (⟨2, 0, false, v7⟩ : zC), (⟨3, 0, true, v9⟩ : zC), (⟨1, 1, false, v11⟩ : zC)], .ex), ([(⟨0, v13, v15⟩ : zy)], .ex), ((([v17, v19] : List zl) ++ p0.1), (cond p0.1.isEmpty .ex .ro))⟩ : zb)) none
def zIh (r : zb) : D := (.agg (za r))
def zte (k : Nat) (p0 : zb) (p1 p2 : Int) : Option Bool :=
 (zU k p1 0 (w64 ((p0.Shelves.1.length : Int) - 1))).bind fun v1 =>
 cond v1 (
 (zU k p2 0 (w64 (p0.Days - 1))).bind fun v4 =>
 some v4) (
 some false)
def zui (r : Bool) : D := (db r)
def zkd (k : Nat) (p0 : zd) (s1_7 : Int) (s1_16 : zt0) : Option ((Int × (Nat → Bool)) ⊕ (Int × (Nat → Bool))) :=
 (idx p0.ShelfBook.Shelves.1 p0.shelf).bind fun v201 =>
 cond (decide (s1_7 ≤ v201.Begin.High)) (
 cond (decide (0 ≤ s1_7) && decide (s1_7 < 61)) (
 some (Sum.inl ((w64 (s1_7 + 1)), (upd s1_16 s1_7.toNat true)))) none) (
 some (Sum.inr (s1_7, s1_16)))
def zoe (k : Nat) (p0 : zd) : Option (Nat → Bool) :=
 (idx p0.ShelfBook.Shelves.1 p0.shelf).bind fun v1 =>
 (iter (fun s => zkd k p0 s.1 s.2) k (v1.Begin.Low, (fun _ => false))).bind fun v3 =>
 some v3.2
def z3i (r : zt0) : D := (.agg (aB 61 r))
def zMe (k : Nat) : Option (Nat → Bool) :=
 some (fun _ => false)
def z4k (r : zt0) : D := (.agg (aB 61 r))
def zJd (k : Nat) (p0 : zd) (p1 p2 : Int) : Option (Int × (SL zQ) × (SL zC) × (SL zy) × (SL zl) × Int × Int × Int × Int) :=
 some (p0.ShelfBook.Days, p0.ShelfBook.Shelves, p0.ShelfBook.Moves, p0.ShelfBook.Deliveries, p0.ShelfBook.Counts, p0.shelf, p0.left, p2, p1)
def zxj (r : zt5) : D := (.fn 97 [] [(.pin [(di r.1), (dl zj r.2.1.1 r.2.1.2), (dl zo r.2.2.1.1 r.2.2.1.2), (dl zi r.2.2.2.1.1 r.2.2.2.1.2), (dl zh r.2.2.2.2.1.1 r.2.2.2.2.1.2), (di r.2.2.2.2.2.1), (di r.2.2.2.2.2.2.1)]), (.pin [(di r.2.2.2.2.2.2.2.1)]), (.pin [(di r.2.2.2.2.2.2.2.2)])])
def zmd (k : Nat) (p0 : zd) (p1 p2 s1_12 : Int) (s1_20 : zt12) : Option ((Int × (List zA)) ⊕ (Int × (List zA))) :=
 cond (decide (s1_12 < (p0.ShelfBook.Deliveries.1.length : Int))) (
 (idx p0.ShelfBook.Deliveries.1 s1_12).bind fun v302 =>
 cond (decide (s1_12 < 0)) (
 none) (
 cond ((znb (zV p2 s1_12) 1) == 1) (
 cond (decide (s1_20.length + 1 ≤ LIM)) (
 some (Sum.inl ((w64 (s1_12 + 1)), (s1_20 ++ [(⟨1, v302.By⟩ : zA)])))) none) (
 some (Sum.inl ((w64 (s1_12 + 1)), s1_20))))) (
 some (Sum.inr (s1_12, s1_20)))
def zxe (k : Nat) (p0 : zd) (p1 p2 : Int) (v1 : zt10) (s3_16 : Int) (s3_24 : zt12) (v702 : zC) : Option Bool :=
 cond (v702.Day == p1) (
 some (v702.Shelf == p0.shelf)) (
 some false)
def z0f (k : Nat) (p0 : zd) (p1 p2 : Int) (v1 : zt10) (s3_16 : Int) (s3_24 : zt12) (v702 : zC) (cb : Bool) : Option (Bool × Int) :=
 cond cb (
 some (true, 1)) (
 some (false, 0))
def znd (k : Nat) (p0 : zd) (p1 p2 : Int) (v1 : zt10) (s3_16 : Int) (s3_24 : zt12) : Option ((Int × (List zA)) ⊕ (Int × (List zA))) :=
 cond (decide (s3_16 < (p0.ShelfBook.Moves.1.length : Int))) (
 (idx p0.ShelfBook.Moves.1 s3_16).bind fun v702 =>
 (zxe k p0 p1 p2 v1 s3_16 s3_24 v702).bind fun v704 =>
 cond v704 (
 (z0f k p0 p1 p2 v1 s3_16 s3_24 v702 v702.Back).bind fun v707 =>
 cond (decide (s3_24.length + 1 ≤ LIM)) (
 some (Sum.inl ((w64 (s3_16 + 1)), (s3_24 ++ [(⟨v707.2, v702.By⟩ : zA)])))) none) (
 some (Sum.inl ((w64 (s3_16 + 1)), s3_24)))) (
 some (Sum.inr (s3_16, s3_24)))
def zud (k : Nat) (p0 : zd) (p1 p2 : Int) : Option (SL zA) :=
 (iter (fun s => zmd k p0 p1 p2 s.1 s.2) k (0, ([] : List zA))).bind fun v1 =>
 (iter (fun s => znd k p0 p1 p2 v1 s.1 s.2) k (0, v1.2)).bind fun v3 =>
 some (v3.2, (rcap true v3.2))
def zSi (r : (SL zA)) : D := (dl zL r.1 r.2)
def zjb (k : Nat) (p0 : zt0) : Option (Nat → Bool) :=
 some p0
def zXg (r : zt0) : D := (.fn 96 [] [(.pin (aB 61 r))])
def z4f (k : Nat) (p0 : zd) (p1 p2 : Int) : Option Int :=
 some (w64 (p1 - p2))
def zCj (r : Int) : D := (di r)
def z1f (k : Nat) (p0 : zd) (p1 p2 : Int) : Option Int :=
 some (w64 (p1 + p2))
def zIj (r : Int) : D := (di r)
def z2c (k : Nat) (p0 : zd) (p1 : zt0) (p2 : Int) (p3 : zt) (v1 : zt0) (s1_2 s9_14 : Int) (s9_27 : zt0) (v1203 : Int) (v1207 : Bool) : Option (Bool × (Nat → Bool)) :=
 cond v1207 (
 cond (decide (0 ≤ v1203) && decide (v1203 < 61)) (
 some (true, (upd s9_27 v1203.toNat true))) none) (
 some (false, s9_27))
def z1c (k : Nat) (p0 : zd) (p1 : zt0) (p2 : Int) (p3 : zt) (v1 : zt0) (s1_2 s9_14 : Int) (s9_27 : zt0) (v1204 : Int) (v1208 : Bool) : Option (Bool × (Nat → Bool)) :=
 cond v1208 (
 cond (decide (0 ≤ v1204) && decide (v1204 < 61)) (
 some (true, (upd s9_27 v1204.toNat true))) none) (
 some (false, s9_27))
def z3b (k : Nat) (p0 : zd) (p1 : zt0) (p2 : Int) (p3 : zt) (v1 : zt0) (s1_2 s9_14 : Int) (s9_27 : zt0) : Option ((Int × (Nat → Bool)) ⊕ (Int × (Nat → Bool))) :=
 cond (decide (s9_14 ≤ p3.High)) (
 cond (p2 == 0) (
 (z4f k p0 s1_2 s9_14).bind fun v1203 =>
 (idx p0.ShelfBook.Shelves.1 p0.shelf).bind fun v1205 =>
 (zU k v1203 0 v1205.Room).bind fun v1207 =>
 (z2c k p0 p1 p2 p3 v1 s1_2 s9_14 s9_27 v1203 v1207).bind fun v1209 =>
 some (Sum.inl ((w64 (s9_14 + 1)), v1209.2))) (
 cond (p2 == 1) (
 (z1f k p0 s1_2 s9_14).bind fun v1204 =>
 (idx p0.ShelfBook.Shelves.1 p0.shelf).bind fun v1206 =>
 (zU k v1204 0 v1206.Room).bind fun v1208 =>
 (z1c k p0 p1 p2 p3 v1 s1_2 s9_14 s9_27 v1204 v1208).bind fun v1210 =>
 some (Sum.inl ((w64 (s9_14 + 1)), v1210.2))) (
 none))) (
 some (Sum.inr (s9_14, s9_27)))
def zBe (k : Nat) (p0 : zd) (p1 : zt0) (p2 : Int) (p3 : zt) (v1 : zt0) (s1_2 : Int) (s1_15 : zt0) : Option (Nat → Bool) :=
 cond (v1 s1_2.toNat) (
 (iter (fun s => z3b k p0 p1 p2 p3 v1 s1_2 s.1 s.2) k (p3.Low, s1_15)).bind fun v902 =>
 some v902.2) (
 some s1_15)
def zrd (k : Nat) (p0 : zd) (p1 : zt0) (p2 : Int) (p3 : zt) (v1 : zt0) (s1_2 : Int) (s1_15 : zt0) : Option ((Int × (Nat → Bool)) ⊕ (Int × (Nat → Bool))) :=
 cond (decide (s1_2 < 61)) (
 cond (decide (0 ≤ s1_2) && decide (s1_2 < 61)) (
 (zBe k p0 p1 p2 p3 v1 s1_2 s1_15).bind fun v803 =>
 some (Sum.inl ((w64 (s1_2 + 1)), v803))) none) (
 some (Sum.inr (s1_2, s1_15)))
def zKc (k : Nat) (p0 : zd) (p1 : zt0) (p2 : Int) (p3 : zt) : Option (Nat → Bool) :=
 (zjb k p1).bind fun v1 =>
 (iter (fun s => zrd k p0 p1 p2 p3 v1 s.1 s.2) k (0, (fun _ => false))).bind fun v3 =>
 some v3.2
def zRi (r : zt0) : D := (.agg (aB 61 r))
def zId (k : Nat) (p0 : zd) (p1 : zt0) (p2 s1_11 : Int) (s1_19 : zt0) (v602 : zl) : Option Bool :=
 cond (v602.Day != p2) (
 some true) (
 cond (v602.Shelf != p0.shelf) (
 some true) (
 cond (decide (s1_11 < 0)) (
 none) (
 some ((znb (zV p0.left s1_11) 1) == 1))))
def zRd (k : Nat) (p0 : zd) (p1 : zt0) (p2 s1_11 : Int) (v602 : zl) (s7_15 : Int) (s7_23 : zt0) : Option (Nat → Bool) :=
 cond (decide (0 ≤ s7_15) && decide (s7_15 < 61)) (
 cond (s7_23 s7_15.toNat) (
 (zU k s7_15 (w64 (v602.Read - v602.Err)) (w64 (v602.Read + v602.Err))).bind fun v1003 =>
 some (upd s7_23 s7_15.toNat v1003)) (
 some (upd s7_23 s7_15.toNat false))) none
def zac (k : Nat) (p0 : zd) (p1 : zt0) (p2 s1_11 : Int) (v602 : zl) (s7_15 : Int) (s7_23 : zt0) : Option ((Int × (Nat → Bool)) ⊕ (Int × (Nat → Bool))) :=
 cond (decide (s7_15 < 61)) (
 (zRd k p0 p1 p2 s1_11 v602 s7_15 s7_23).bind fun v902 =>
 some (Sum.inl ((w64 (s7_15 + 1)), v902))) (
 some (Sum.inr (s7_15, s7_23)))
def zNc (k : Nat) (p0 : zd) (p1 : zt0) (p2 s1_11 : Int) (s1_19 : zt0) : Option ((Int × (Nat → Bool)) ⊕ (Int × (Nat → Bool))) :=
 cond (decide (s1_11 < (p0.ShelfBook.Counts.1.length : Int))) (
 (idx p0.ShelfBook.Counts.1 s1_11).bind fun v602 =>
 (zId k p0 p1 p2 s1_11 s1_19 v602).bind fun v604 =>
 cond v604 (
 some (Sum.inl ((w64 (s1_11 + 1)), s1_19))) (
 (iter (fun s => zac k p0 p1 p2 s1_11 v602 s.1 s.2) k (0, s1_19)).bind fun v607 =>
 some (Sum.inl ((w64 (s1_11 + 1)), v607.2)))) (
 some (Sum.inr (s1_11, s1_19)))
def zTc (k : Nat) (p0 : zd) (p1 : zt0) (p2 : Int) : Option (Nat → Bool) :=
 (iter (fun s => zNc k p0 p1 p2 s.1 s.2) k (0, p1)).bind fun v1 =>
 some v1.2
def zEh (r : zt0) : D := (.agg (aB 61 r))
def z5g (k : Nat) (p0 p1 v1 : zt0) (s1_2 : Int) (s1_3 : zt0) : Option (Nat → Bool) :=
 cond (v1 s1_2.toNat) (
 cond (decide (0 ≤ s1_2) && decide (s1_2 < 61)) (
 some (upd s1_3 s1_2.toNat true)) none) (
 some s1_3)
def zVf (k : Nat) (p0 p1 v1 : zt0) (s1_2 : Int) (s1_3 : zt0) : Option ((Int × (Nat → Bool)) ⊕ (Int × (Nat → Bool))) :=
 cond (decide (s1_2 < 61)) (
 cond (decide (0 ≤ s1_2) && decide (s1_2 < 61)) (
 (z5g k p0 p1 v1 s1_2 s1_3).bind fun v303 =>
 some (Sum.inl ((w64 (s1_2 + 1)), v303))) none) (
 some (Sum.inr (s1_2, s1_3)))
def zBg (k : Nat) (p0 p1 : zt0) : Option (Nat → Bool) :=
 (zjb k p1).bind fun v1 =>
 (iter (fun s => zVf k p0 p1 v1 s.1 s.2) k (0, p0)).bind fun v3 =>
 some v3.2
def zsn (r : zt0) : D := (.agg (aB 61 r))
def z6d (k : Nat) (p0 : zd) (s1_8 s21_11 : Int) (s21_19 : zt2) (v3105 : zt5) (s31_10 : Int) (s31_18 : zt2) (s36_15 : Int) (v3802 : zy) : Option Bool :=
 cond ((znb (zV v3105.2.2.2.2.2.2.2.1 s36_15) 1) == 1) (
 cond (!((znb (zV s31_10 s36_15) 1) == 1)) (
 some true) (
 cond ((znb (zV s31_10 s36_15) 1) == 1) (
 cond (!((znb (zV v3105.2.2.2.2.2.2.2.1 s36_15) 1) == 1)) (
 (zU k v3105.2.2.2.2.2.2.2.2 v3802.Days.Low v3802.Days.High).bind fun v3905 =>
 cond (!v3905) (
 some true) (
 some false)) (
 some false)) (
 some false))) (
 cond ((znb (zV s31_10 s36_15) 1) == 1) (
 cond (!((znb (zV v3105.2.2.2.2.2.2.2.1 s36_15) 1) == 1)) (
 (zU k v3105.2.2.2.2.2.2.2.2 v3802.Days.Low v3802.Days.High).bind fun v3904 =>
 cond (!v3904) (
 some true) (
 cond (!((znb (zV s31_10 s36_15) 1) == 1)) (
 some (decide (v3105.2.2.2.2.2.2.2.2 ≥ v3802.Days.High))) (
 some false))) (
 cond (!((znb (zV s31_10 s36_15) 1) == 1)) (
 some (decide (v3105.2.2.2.2.2.2.2.2 ≥ v3802.Days.High))) (
 some false))) (
 cond (!((znb (zV s31_10 s36_15) 1) == 1)) (
 some (decide (v3105.2.2.2.2.2.2.2.2 ≥ v3802.Days.High))) (
 some false)))
def zmc (k : Nat) (p0 : zd) (s1_8 s21_11 : Int) (s21_19 : zt2) (v3105 : zt5) (s31_10 : Int) (s31_18 : zt2) (s36_15 : Int) : Option (Int ⊕ ((Int × Bool × Bool × Int × Int × Int × Int × Int) ⊕ ((Int × Bool × Bool × Int × Int × Int × Int × Int) ⊕ Int))) :=
 cond (decide (s36_15 < (v3105.2.2.2.1.1.length : Int))) (
 (idx v3105.2.2.2.1.1 s36_15).bind fun v3802 =>
 cond (decide (s36_15 < 0)) (
 none) (
 cond (v3802.Shelf != v3105.2.2.2.2.2.1) (
 cond ((znb (zV s31_10 s36_15) 1) == 1) (
 some (Sum.inr (Sum.inl (s36_15, ((znb (zV v3105.2.2.2.2.2.2.2.1 s36_15) 1) == 1), ((znb (zV s31_10 s36_15) 1) == 1), v3802.Shelf, v3802.Days.Low, v3802.Days.High, v3802.By.Low, v3802.By.High)))) (
 some (Sum.inl (w64 (s36_15 + 1))))) (
 (z6d k p0 s1_8 s21_11 s21_19 v3105 s31_10 s31_18 s36_15 v3802).bind fun v3806 =>
 cond v3806 (
 some (Sum.inr (Sum.inr (Sum.inl (s36_15, ((znb (zV v3105.2.2.2.2.2.2.2.1 s36_15) 1) == 1), ((znb (zV s31_10 s36_15) 1) == 1), v3802.Shelf, v3802.Days.Low, v3802.Days.High, v3802.By.Low, v3802.By.High))))) (
 some (Sum.inl (w64 (s36_15 + 1))))))) (
 some (Sum.inr (Sum.inr (Sum.inr s36_15))))
def ztc (k : Nat) (p0 : zd) (s1_8 s21_11 : Int) (s21_19 : zt2) (v3105 : zt5) (s31_10 : Int) (s31_18 : zt2) (v3606 : (SL zA)) (s39_27 : Int) (s39_28 : zt0) : Option ((Int × (Nat → Bool)) ⊕ (Int × (Nat → Bool))) :=
 cond (decide (s39_27 < (v3606.1.length : Int))) (
 (idx v3606.1 s39_27).bind fun v4002 =>
 (zKc k p0 s39_28 v4002.way v4002.by_).bind fun v4004 =>
 some (Sum.inl ((w64 (s39_27 + 1)), v4004))) (
 some (Sum.inr (s39_27, s39_28)))
def znc (k : Nat) (p0 : zd) (s1_8 s21_11 : Int) (s21_19 : zt2) (v3105 : zt5) (s31_10 : Int) (s31_18 : zt2) : Option ((Int × (List (zq × (Nat → Bool)))) ⊕ (Int × (List (zq × (Nat → Bool))))) :=
 cond (decide (s31_10 < (zF 1 (v3105.2.2.2.1.1.length : Int)))) (
 (iter (fun s => zmc k p0 s1_8 s21_11 s21_19 v3105 s31_10 s31_18 s) k 0).bind fun v3602 =>
 Sum.elim (fun v3605 =>
 some (Sum.inl ((w64 (s31_10 + 1)), s31_18))) (fun w2_0 =>
 Sum.elim (fun v3605 =>
 some (Sum.inl ((w64 (s31_10 + 1)), s31_18))) (fun w2_1 =>
 (fun v3605 =>
 (zud k p0 s1_8 (zfi s31_10 s21_11)).bind fun v3606 =>
 (iter (fun s => ztc k p0 s1_8 s21_11 s21_19 v3105 s31_10 s31_18 v3606 s.1 s.2) k (0, ((zX zx (⟨(w64 (s1_8 - 1)), s21_11⟩ : zq) s21_19).getD (fun _ => false)))).bind fun v3608 =>
 (zTc k p0 v3608.2 s1_8).bind fun v3610 =>
 (zBg k ((zX zx (⟨s1_8, s31_10⟩ : zq) s31_18).getD (fun _ => false)) v3610).bind fun v3612 =>
 some (Sum.inl ((w64 (s31_10 + 1)), (mset zx (⟨s1_8, s31_10⟩ : zq) v3612 s31_18)))) w2_1) w2_0) v3602) (
 some (Sum.inr (s31_10, s31_18)))
def zsc (k : Nat) (p0 : zd) (s1_8 s21_11 : Int) (s21_19 : zt2) : Option ((Int × (List (zq × (Nat → Bool)))) ⊕ (Int × (List (zq × (Nat → Bool))))) :=
 cond (decide (s21_11 < (zF 1 (p0.ShelfBook.Deliveries.1.length : Int)))) (
 (zMe k).bind fun v3102 =>
 cond (eqB ((zX zx (⟨(w64 (s1_8 - 1)), s21_11⟩ : zq) s21_19).getD (fun _ => false)) v3102 0 61) (
 some (Sum.inl ((w64 (s21_11 + 1)), s21_19))) (
 (zJd k p0 s1_8 s21_11).bind fun v3105 =>
 cond (decide ((v3105.2.2.2.1.1.length : Int) < 0)) (
 none) (
 (iter (fun s => znc k p0 s1_8 s21_11 s21_19 v3105 s.1 s.2) k (0, s21_19)).bind fun v3108 =>
 some (Sum.inl ((w64 (s21_11 + 1)), v3108.2))))) (
 some (Sum.inr (s21_11, s21_19)))
def zqd (k : Nat) (p0 : zd) (s1_8 : Int) (s1_16 : zt2) : Option ((Int × (List (zq × (Nat → Bool)))) ⊕ (Int × (List (zq × (Nat → Bool))))) :=
 cond (decide (s1_8 < p0.ShelfBook.Days)) (
 cond (decide ((p0.ShelfBook.Deliveries.1.length : Int) < 0)) (
 none) (
 (iter (fun s => zsc k p0 s1_8 s.1 s.2) k (0, s1_16)).bind fun v2103 =>
 some (Sum.inl ((w64 (s1_8 + 1)), v2103.2)))) (
 some (Sum.inr (s1_8, s1_16)))
def ztd (k : Nat) (p0 : zd) : Option (List (zq × (Nat → Bool))) :=
 (zoe k p0).bind fun v1 =>
 (iter (fun s => zqd k p0 s.1 s.2) k (0, [((⟨(-1), 0⟩ : zq), v1)])).bind fun v3 =>
 some v3.2
def zbj (r : zt2) : D := (.mp (em (fun k => D.agg (zw k)) (fun v => D.agg ((aB 61) v)) r))
def zVd (k : Nat) (p0 : zd) (v1 : zt2) (s1_10 : Int) : Option (Int ⊕ (Int ⊕ Int)) :=
 cond (decide (s1_10 < (zF 1 (p0.ShelfBook.Deliveries.1.length : Int)))) (
 (zMe k).bind fun v202 =>
 cond (!(eqB ((zX zx (⟨(w64 (p0.ShelfBook.Days - 1)), s1_10⟩ : zq) v1).getD (fun _ => false)) v202 0 61)) (
 some (Sum.inr (Sum.inl s1_10))) (
 some (Sum.inl (w64 (s1_10 + 1))))) (
 some (Sum.inr (Sum.inr s1_10)))
def zvd (k : Nat) (p0 : zd) : Option Bool :=
 (ztd k p0).bind fun v1 =>
 cond (decide ((p0.ShelfBook.Deliveries.1.length : Int) < 0)) (
 none) (
 (iter (fun s => zVd k p0 v1 s) k 0).bind fun v4 =>
 Sum.elim (fun v7 =>
 some true) (fun w3_0 =>
 (fun v7 =>
 some false) w3_0) v4)
def zoh (r : Bool) : D := (db r)
def zQe (k : Nat) (p0 : zb) (p1 s1_8 : Int) : Option (Int ⊕ (Int ⊕ Int)) :=
 cond (decide (s1_8 < (p0.Shelves.1.length : Int))) (
 (zvd k (⟨p0, s1_8, p1⟩ : zd)).bind fun v202 =>
 cond (!v202) (
 some (Sum.inr (Sum.inl s1_8))) (
 some (Sum.inl (w64 (s1_8 + 1))))) (
 some (Sum.inr (Sum.inr s1_8)))
def zyb (k : Nat) (p0 : zb) (p1 : Int) : Option Bool :=
 (iter (fun s => zQe k p0 p1 s) k 0).bind fun v1 =>
 Sum.elim (fun v4 =>
 some false) (fun w1_0 =>
 (fun v4 =>
 some true) w1_0) v1
def zgi (r : Bool) : D := (db r)
def zZc (k : Nat) (p0 : zb) (p1 : Bool) : Option Int :=
 (zge k p0).bind fun v1 =>
 cond (v1 != 0) (
 some v1) (
 cond (!p1) (
 some 41) (
 (zyb k p0 0).bind fun v5 =>
 cond (!v5) (
 some 42) (
 some 0)))
def zUf (r : Int) : D := (di r)
def zOc (k : Nat) (p0 : zd) (s1_8 : Int) (s1_16 : zt2) (v302 : zQ) (s3_12 : Int) (s3_21 : zt0) : Option ((Int × (Nat → Bool)) ⊕ (Int × (Nat → Bool))) :=
 cond (decide (s3_12 < (w64 (v302.Room + 1)))) (
 cond (decide (0 ≤ s3_12) && decide (s3_12 < 61)) (
 some (Sum.inl ((w64 (s3_12 + 1)), (upd s3_21 s3_12.toNat true)))) none) (
 some (Sum.inr (s3_12, s3_21)))
def zEd (k : Nat) (p0 : zd) (s1_8 : Int) (s1_16 : zt2) : Option ((Int × (List (zq × (Nat → Bool)))) ⊕ (Int × (List (zq × (Nat → Bool))))) :=
 cond (decide (s1_8 < (zF 1 (p0.ShelfBook.Deliveries.1.length : Int)))) (
 (idx p0.ShelfBook.Shelves.1 p0.shelf).bind fun v302 =>
 (iter (fun s => zOc k p0 s1_8 s1_16 v302 s.1 s.2) k (0, (fun _ => false))).bind fun v304 =>
 some (Sum.inl ((w64 (s1_8 + 1)), (mset zx (⟨(w64 (p0.ShelfBook.Days - 1)), s1_8⟩ : zq) v304.2 s1_16)))) (
 some (Sum.inr (s1_8, s1_16)))
def zye (k : Nat) (p0 : zd) (v2 : zt6) (s4_18 s24_12 : Int) (v3402 : zt5) (s34_10 : Int) (s34_18 : zt2) (s39_15 : Int) (v4102 : zy) : Option Bool :=
 cond ((znb (zV v3402.2.2.2.2.2.2.2.1 s39_15) 1) == 1) (
 cond (!((znb (zV s34_10 s39_15) 1) == 1)) (
 some true) (
 cond ((znb (zV s34_10 s39_15) 1) == 1) (
 cond (!((znb (zV v3402.2.2.2.2.2.2.2.1 s39_15) 1) == 1)) (
 (zU k v3402.2.2.2.2.2.2.2.2 v4102.Days.Low v4102.Days.High).bind fun v4205 =>
 cond (!v4205) (
 some true) (
 some false)) (
 some false)) (
 some false))) (
 cond ((znb (zV s34_10 s39_15) 1) == 1) (
 cond (!((znb (zV v3402.2.2.2.2.2.2.2.1 s39_15) 1) == 1)) (
 (zU k v3402.2.2.2.2.2.2.2.2 v4102.Days.Low v4102.Days.High).bind fun v4204 =>
 cond (!v4204) (
 some true) (
 cond (!((znb (zV s34_10 s39_15) 1) == 1)) (
 some (decide (v3402.2.2.2.2.2.2.2.2 ≥ v4102.Days.High))) (
 some false))) (
 cond (!((znb (zV s34_10 s39_15) 1) == 1)) (
 some (decide (v3402.2.2.2.2.2.2.2.2 ≥ v4102.Days.High))) (
 some false))) (
 cond (!((znb (zV s34_10 s39_15) 1) == 1)) (
 some (decide (v3402.2.2.2.2.2.2.2.2 ≥ v4102.Days.High))) (
 some false)))
def zCc (k : Nat) (p0 : zd) (v2 : zt6) (s4_18 s24_12 : Int) (v3402 : zt5) (s34_10 : Int) (s34_18 : zt2) (s39_15 : Int) : Option (Int ⊕ ((Int × Bool × Bool × Int × Int × Int × Int × Int) ⊕ ((Int × Bool × Bool × Int × Int × Int × Int × Int) ⊕ Int))) :=
 cond (decide (s39_15 < (v3402.2.2.2.1.1.length : Int))) (
 (idx v3402.2.2.2.1.1 s39_15).bind fun v4102 =>
 cond (decide (s39_15 < 0)) (
 none) (
 cond (v4102.Shelf != v3402.2.2.2.2.2.1) (
 cond ((znb (zV s34_10 s39_15) 1) == 1) (
 some (Sum.inr (Sum.inl (s39_15, ((znb (zV v3402.2.2.2.2.2.2.2.1 s39_15) 1) == 1), ((znb (zV s34_10 s39_15) 1) == 1), v4102.Shelf, v4102.Days.Low, v4102.Days.High, v4102.By.Low, v4102.By.High)))) (
 some (Sum.inl (w64 (s39_15 + 1))))) (
 (zye k p0 v2 s4_18 s24_12 v3402 s34_10 s34_18 s39_15 v4102).bind fun v4106 =>
 cond v4106 (
 some (Sum.inr (Sum.inr (Sum.inl (s39_15, ((znb (zV v3402.2.2.2.2.2.2.2.1 s39_15) 1) == 1), ((znb (zV s34_10 s39_15) 1) == 1), v4102.Shelf, v4102.Days.Low, v4102.Days.High, v4102.By.Low, v4102.By.High))))) (
 some (Sum.inl (w64 (s39_15 + 1))))))) (
 some (Sum.inr (Sum.inr (Sum.inr s39_15))))
def zEc (k : Nat) (p0 : zd) (v2 : zt6) (s4_18 s24_12 : Int) (v3402 : zt5) (s34_10 : Int) (s34_18 : zt2) (v3908 : (SL zA)) (s42_27 : Int) (s42_28 : zt0) : Option ((Int × (Nat → Bool)) ⊕ (Int × (Nat → Bool))) :=
 cond (decide (s42_27 < (v3908.1.length : Int))) (
 (idx v3908.1 (w64 ((w64 ((v3908.1.length : Int) - 1)) - s42_27))).bind fun v4302 =>
 (zKc k p0 s42_28 (w64 (1 - v4302.way)) v4302.by_).bind fun v4304 =>
 some (Sum.inl ((w64 (s42_27 + 1)), v4304))) (
 some (Sum.inr (s42_27, s42_28)))
def zDc (k : Nat) (p0 : zd) (v2 : zt6) (s4_18 s24_12 : Int) (v3402 : zt5) (s34_10 : Int) (s34_18 : zt2) : Option ((Int × (List (zq × (Nat → Bool)))) ⊕ (Int × (List (zq × (Nat → Bool))))) :=
 cond (decide (s34_10 < (zF 1 (v3402.2.2.2.1.1.length : Int)))) (
 (iter (fun s => zCc k p0 v2 s4_18 s24_12 v3402 s34_10 s34_18 s) k 0).bind fun v3902 =>
 Sum.elim (fun v3905 =>
 some (Sum.inl ((w64 (s34_10 + 1)), s34_18))) (fun w2_0 =>
 Sum.elim (fun v3905 =>
 some (Sum.inl ((w64 (s34_10 + 1)), s34_18))) (fun w2_1 =>
 (fun v3905 =>
 (zTc k p0 ((zX zx (⟨s4_18, s34_10⟩ : zq) s34_18).getD (fun _ => false)) s4_18).bind fun v3906 =>
 (zud k p0 s4_18 (zfi s34_10 s24_12)).bind fun v3908 =>
 (iter (fun s => zEc k p0 v2 s4_18 s24_12 v3402 s34_10 s34_18 v3908 s.1 s.2) k (0, v3906)).bind fun v3910 =>
 (zBg k ((zX zx (⟨(w64 (s4_18 - 1)), s24_12⟩ : zq) s34_18).getD (fun _ => false)) v3910.2).bind fun v3912 =>
 some (Sum.inl ((w64 (s34_10 + 1)), (mset zx (⟨(w64 (s4_18 - 1)), s24_12⟩ : zq) v3912 s34_18)))) w2_1) w2_0) v3902) (
 some (Sum.inr (s34_10, s34_18)))
def zBc (k : Nat) (p0 : zd) (v2 : zt6) (s4_18 s24_12 : Int) (s24_20 : zt2) : Option ((Int × (List (zq × (Nat → Bool)))) ⊕ (Int × (List (zq × (Nat → Bool))))) :=
 cond (decide (s24_12 < (zF 1 (p0.ShelfBook.Deliveries.1.length : Int)))) (
 (zJd k p0 s4_18 s24_12).bind fun v3402 =>
 cond (decide ((v3402.2.2.2.1.1.length : Int) < 0)) (
 none) (
 (iter (fun s => zDc k p0 v2 s4_18 s24_12 v3402 s.1 s.2) k (0, s24_20)).bind fun v3405 =>
 some (Sum.inl ((w64 (s24_12 + 1)), v3405.2)))) (
 some (Sum.inr (s24_12, s24_20)))
def zFd (k : Nat) (p0 : zd) (v2 : zt6) (s4_17 : zt2) (s4_18 : Int) : Option (((List (zq × (Nat → Bool))) × Int) ⊕ ((List (zq × (Nat → Bool))) × Int)) :=
 cond (decide (s4_18 > 0)) (
 cond (decide ((p0.ShelfBook.Deliveries.1.length : Int) < 0)) (
 none) (
 (iter (fun s => zBc k p0 v2 s4_18 s.1 s.2) k (0, s4_17)).bind fun v2403 =>
 some (Sum.inl (v2403.2, (w64 (s4_18 - 1)))))) (
 some (Sum.inr (s4_17, s4_18)))
def zWe (k : Nat) (p0 : zd) : Option (List (zq × (Nat → Bool))) :=
 cond (decide ((p0.ShelfBook.Deliveries.1.length : Int) < 0)) (
 none) (
 (iter (fun s => zEd k p0 s.1 s.2) k (0, [])).bind fun v2 =>
 (iter (fun s => zFd k p0 v2 s.1 s.2) k (v2.2, (w64 (p0.ShelfBook.Days - 1)))).bind fun v4 =>
 some v4.1)
def zFj (r : zt2) : D := (.mp (em (fun k => D.agg (zw k)) (fun v => D.agg ((aB 61) v)) r))
def zKd (k : Nat) (p0 : zd) (v1 v3 : zt2) (s1_10 s13_13 : Int) (v1902 : zt0) (s19_2 : Int) (s19_11 : zt0) : Option (Nat → Bool) :=
 cond (decide (0 ≤ s1_10) && decide (s1_10 < 12)) (
 cond (decide (0 ≤ s19_2) && decide (s19_2 < 61)) (
 cond (s19_11 ((s1_10.toNat * 61) + s19_2.toNat)) (
 some (upd s19_11 ((s1_10.toNat * 61) + s19_2.toNat) true)) (
 some (upd s19_11 ((s1_10.toNat * 61) + s19_2.toNat) (((zX zx (⟨s1_10, s13_13⟩ : zq) v3).getD (fun _ => false)) s19_2.toNat)))) none) none
def zNd (k : Nat) (p0 : zd) (v1 v3 : zt2) (s1_10 s13_13 : Int) (v1902 : zt0) (s19_2 : Int) (s19_11 : zt0) : Option (Nat → Bool) :=
 cond (v1902 s19_2.toNat) (
 (zKd k p0 v1 v3 s1_10 s13_13 v1902 s19_2 s19_11).bind fun v2302 =>
 some v2302) (
 some s19_11)
def zcc (k : Nat) (p0 : zd) (v1 v3 : zt2) (s1_10 s13_13 : Int) (v1902 : zt0) (s19_2 : Int) (s19_11 : zt0) : Option ((Int × (Nat → Bool)) ⊕ (Int × (Nat → Bool))) :=
 cond (decide (s19_2 < 61)) (
 cond (decide (0 ≤ s19_2) && decide (s19_2 < 61)) (
 (zNd k p0 v1 v3 s1_10 s13_13 v1902 s19_2 s19_11).bind fun v2203 =>
 some (Sum.inl ((w64 (s19_2 + 1)), v2203))) none) (
 some (Sum.inr (s19_2, s19_11)))
def zdc (k : Nat) (p0 : zd) (v1 v3 : zt2) (s1_10 s13_13 : Int) (s13_22 : zt0) : Option ((Int × (Nat → Bool)) ⊕ (Int × (Nat → Bool))) :=
 cond (decide (s13_13 < (zF 1 (p0.ShelfBook.Deliveries.1.length : Int)))) (
 (zjb k ((zX zx (⟨s1_10, s13_13⟩ : zq) v1).getD (fun _ => false))).bind fun v1902 =>
 (iter (fun s => zcc k p0 v1 v3 s1_10 s13_13 v1902 s.1 s.2) k (0, s13_22)).bind fun v1904 =>
 some (Sum.inl ((w64 (s13_13 + 1)), v1904.2))) (
 some (Sum.inr (s13_13, s13_22)))
def z5c (k : Nat) (p0 : zd) (v1 v3 : zt2) (s1_10 : Int) (s1_19 : zt0) : Option ((Int × (Nat → Bool)) ⊕ (Int × (Nat → Bool))) :=
 cond (decide (s1_10 < p0.ShelfBook.Days)) (
 cond (decide ((p0.ShelfBook.Deliveries.1.length : Int) < 0)) (
 none) (
 (iter (fun s => zdc k p0 v1 v3 s1_10 s.1 s.2) k (0, s1_19)).bind fun v1303 =>
 some (Sum.inl ((w64 (s1_10 + 1)), v1303.2)))) (
 some (Sum.inr (s1_10, s1_19)))
def zib (k : Nat) (p0 : zd) : Option (Nat → Bool) :=
 (ztd k p0).bind fun v1 =>
 (zWe k p0).bind fun v3 =>
 (iter (fun s => z5c k p0 v1 v3 s.1 s.2) k (0, (fun _ => false))).bind fun v5 =>
 some v5.2
def z7h (r : zt0) : D := (.agg (aB 732 r))
def zAe (k : Nat) (p0 : zt) : Option Int :=
 some p0.Low
def zsh (r : Int) : D := (di r)
def zNb (k : Nat) (p1 : (SL Int)) (s1_0 s1_5 : Int) : Option ((Int × Int) ⊕ (Int × Int)) :=
 cond (decide (s1_5 < (p1.1.length : Int))) (
 (idx p1.1 s1_5).bind fun v202 =>
 some (Sum.inl ((if v202 > s1_0 then v202 else s1_0), (w64 (s1_5 + 1))))) (
 some (Sum.inr (s1_0, s1_5)))
def zgc (k : Nat) (p0 : Int) (p1 : (SL Int)) : Option Int :=
 (iter (fun s => zNb k p1 s.1 s.2) k (p0, 0)).bind fun v1 =>
 some v1.1
def zCh (r : Int) : D := (di r)
def zze (k : Nat) (p0 : zt) : Option Int :=
 some p0.High
def zwh (r : Int) : D := (di r)
def zae (k : Nat) (p0 v1 : zt0) (s1_2 s1_6 s1_7 : Int) : Option (Int × Int) :=
 cond (v1 s1_2.toNat) (
 (zAe k (⟨s1_6, s1_7⟩ : zt)).bind fun v402 =>
 (zgc k (w64 (0 - v402)) ([(w64 (0 - s1_2))], .ex)).bind fun v404 =>
 (zze k (⟨s1_6, s1_7⟩ : zt)).bind fun v406 =>
 (zgc k v406 ([s1_2], .ex)).bind fun v408 =>
 some ((w64 (0 - v404)), v408)) (
 some (s1_6, s1_7))
def z4c (k : Nat) (p0 v1 : zt0) (s1_2 s1_6 s1_7 : Int) : Option ((Int × Int × Int) ⊕ (Int × Int × Int)) :=
 cond (decide (s1_2 < 61)) (
 cond (decide (0 ≤ s1_2) && decide (s1_2 < 61)) (
 (zae k p0 v1 s1_2 s1_6 s1_7).bind fun v303 =>
 some (Sum.inl ((w64 (s1_2 + 1)), v303.1, v303.2))) none) (
 some (Sum.inr (s1_2, s1_6, s1_7)))
def zzb (k : Nat) (p0 : zt0) : Option zt :=
 (zjb k p0).bind fun v1 =>
 (iter (fun s => z4c k p0 v1 s.1 s.2.1 s.2.2) k (0, 60, 0)).bind fun v3 =>
 some (⟨v3.2.1, v3.2.2⟩ : zt)
def z5h (r : zt) : D := (.agg [(di r.Low), (di r.High)])
def zEf (k : Nat) (p0 : zb) (p1 p2 : Int) : Option (zt × Int) :=
 (zte k p0 p1 p2).bind fun v1 =>
 (zZc k p0 v1).bind fun v3 =>
 cond (v3 != 0) (
 some ((⟨0, 0⟩ : zt), v3)) (
 (zib k (⟨p0, p1, 0⟩ : zd)).bind fun v6 =>
 cond (decide (0 ≤ p2) && decide (p2 < 12)) (
 (zzb k (fun k => v6 (p2.toNat * 61 + k))).bind fun v9 =>
 some (v9, 0)) none)
def zil (r : zt8) : D := (.tup [(.agg [(di r.1.Low), (di r.1.High)]), (di r.2)])
def zAf (k : Nat) (p0 : zb) (p1 p2 p3 : Int) : Option (Bool × Int) :=
 (zte k p0 p1 p2).bind fun v1 =>
 (zZc k p0 v1).bind fun v3 =>
 cond (v3 != 0) (
 some (false, v3)) (
 (zU k p3 0 60).bind fun v6 =>
 cond v6 (
 (zib k (⟨p0, p1, 0⟩ : zd)).bind fun v9 =>
 cond (decide (0 ≤ p2) && decide (p2 < 12)) (
 cond (decide (0 ≤ p3) && decide (p3 < 61)) (
 some (((fun k => v9 (p2.toNat * 61 + k)) p3.toNat), 0)) none) none) (
 some (false, 0)))
def zJi (r : zt1) : D := (.tup [(db r.1), (di r.2)])
def zmj (k : Nat) (p0 : zb) (p1 p2 v3 : Int) (v6 : zt0) (s1_11 s1_12 : Int) : Option ((Int × Int) ⊕ (Int × Int)) :=
 cond (decide (s1_12 < p0.Days)) (
 cond (decide (0 ≤ s1_12) && decide (s1_12 < 12)) (
 (zzb k (fun k => v6 ((s1_12.toNat * 61) + k))).bind fun v203 =>
 (zgc k (w64 (0 - s1_11)) ([(w64 (0 - v203.Low))], .ex)).bind fun v205 =>
 some (Sum.inl ((w64 (0 - v205)), (w64 (s1_12 + 1))))) none) (
 some (Sum.inr (s1_11, s1_12)))
def zpm (k : Nat) (p0 : zb) (p1 p2 : Int) : Option (Int × Int) :=
 (zte k p0 p1 p2).bind fun v1 =>
 (zZc k p0 v1).bind fun v3 =>
 cond (v3 != 0) (
 some (0, v3)) (
 (zib k (⟨p0, p1, 0⟩ : zd)).bind fun v6 =>
 (iter (fun s => zmj k p0 p1 p2 v3 v6 s.1 s.2) k (60, p2)).bind fun v8 =>
 some (v8.1, 0))
def zik (r : (Int × Int)) : D := (.tup [(di r.1), (di r.2)])
def zfk (k : Nat) (p0 : zb) (p1 v3 : Int) (v6 : zy) (s1_10 : Int) (s1_16 : (List Int)) : Option ((Int × (List Int)) ⊕ (Int × (List Int))) :=
 cond (decide (s1_10 ≤ v6.Days.High)) (
 cond (decide (p0.Deliveries.2 = .nil)) (
 none) (
 cond (decide (p0.Deliveries.1.length ≤ LIM)) (
 (idx p0.Deliveries.1 p1).bind fun v304 =>
 (zvd k (⟨(⟨p0.Days, p0.Shelves, p0.Moves, ((p0.Deliveries.1.set p1.toNat (⟨v304.Shelf, (⟨s1_10, s1_10⟩ : zt), v304.By⟩ : zy)), (rcap false (p0.Deliveries.1.set p1.toNat (⟨v304.Shelf, (⟨s1_10, s1_10⟩ : zt), v304.By⟩ : zy)))), p0.Counts⟩ : zb), v6.Shelf, 0⟩ : zd)).bind fun v306 =>
 cond v306 (
 cond (decide (s1_16.length + 1 ≤ LIM)) (
 some (Sum.inl ((w64 (s1_10 + 1)), (s1_16 ++ [s1_10])))) none) (
 some (Sum.inl ((w64 (s1_10 + 1)), s1_16)))) none)) (
 some (Sum.inr (s1_10, s1_16)))
def zyn (k : Nat) (p0 : zb) (p1 : Int) : Option ((SL Int) × Int) :=
 (zU k p1 0 (w64 ((p0.Deliveries.1.length : Int) - 1))).bind fun v1 =>
 (zZc k p0 v1).bind fun v3 =>
 cond (v3 != 0) (
 some (([], .nil), v3)) (
 (idx p0.Deliveries.1 p1).bind fun v6 =>
 (iter (fun s => zfk k p0 p1 v3 v6 s.1 s.2) k (v6.Days.Low, ([] : List Int))).bind fun v8 =>
 some ((v8.2, (xcap true v8.2)), 0))
def zjl (r : zt7) : D := (.tup [(dl eI r.1.1 r.1.2), (di r.2)])
def zdf (k : Nat) (p0 p1 : (SL Int)) (s1_3 : Bool) (s1_4 : Int) : Option Bool :=
 cond s1_3 (
 some (decide (s1_4 < (p0.1.length : Int)))) (
 some false)
def z3e (k : Nat) (p0 p1 : (SL Int)) (s1_3 : Bool) (s1_4 : Int) : Option ((Bool × Int) ⊕ (Bool × Int)) :=
 (zdf k p0 p1 s1_3 s1_4).bind fun v301 =>
 cond v301 (
 (idx p0.1 s1_4).bind fun v304 =>
 (idx p1.1 s1_4).bind fun v306 =>
 some (Sum.inl ((v304 == v306), (w64 (s1_4 + 1))))) (
 some (Sum.inr (s1_3, s1_4)))
def zld (k : Nat) (p0 p1 : (SL Int)) : Option Bool :=
 (iter (fun s => z3e k p0 p1 s.1 s.2) k (((p0.1.length : Int) == (p1.1.length : Int)), 0)).bind fun v1 =>
 some v1.1
def zuh (r : Bool) : D := (db r)
def zni (k : Nat) (p0 : zb) (p1 v3 : Int) (v6 : zC) (s1_9 : Int) (s1_17 : zt0) : Option ((Int × (Nat → Bool)) ⊕ (Int × (Nat → Bool))) :=
 cond (decide (s1_9 ≤ v6.By.High)) (
 cond (decide (p0.Moves.2 = .nil)) (
 none) (
 cond (decide (p0.Moves.1.length ≤ LIM)) (
 (idx p0.Moves.1 p1).bind fun v204 =>
 (zvd k (⟨(⟨p0.Days, p0.Shelves, ((p0.Moves.1.set p1.toNat (⟨v204.Day, v204.Shelf, v204.Back, (⟨s1_9, s1_9⟩ : zt)⟩ : zC)), (rcap false (p0.Moves.1.set p1.toNat (⟨v204.Day, v204.Shelf, v204.Back, (⟨s1_9, s1_9⟩ : zt)⟩ : zC)))), p0.Deliveries, p0.Counts⟩ : zb), v6.Shelf, 0⟩ : zd)).bind fun v206 =>
 cond (decide (0 ≤ s1_9) && decide (s1_9 < 61)) (
 some (Sum.inl ((w64 (s1_9 + 1)), (upd s1_17 s1_9.toNat v206)))) none) none)) (
 some (Sum.inr (s1_9, s1_17)))
def zBl (k : Nat) (p0 : zb) (p1 : Int) : Option (zt × Int) :=
 (zU k p1 0 (w64 ((p0.Moves.1.length : Int) - 1))).bind fun v1 =>
 (zZc k p0 v1).bind fun v3 =>
 cond (v3 != 0) (
 some ((⟨0, 0⟩ : zt), v3)) (
 (idx p0.Moves.1 p1).bind fun v6 =>
 (iter (fun s => zni k p0 p1 v3 v6 s.1 s.2) k (v6.By.Low, (fun _ => false))).bind fun v8 =>
 (zzb k v8.2).bind fun v10 =>
 some (v10, 0))
def znj (r : zt8) : D := (.tup [(.agg [(di r.1.Low), (di r.1.High)]), (di r.2)])
def zbh (k : Nat) (p0 : zb) (p1 p2 p3 : Int) (v1 : zt1) (s1_15 : Int) (s1_26 : zt9) (s1_27 : Bool) (s1_28 : (List Int)) : Option ((Int × (List zl) × Bool × (List Int)) ⊕ (Int × (List zl) × Bool × (List Int))) :=
 cond (decide (s1_15 < p0.Days)) (
 (zib k (⟨(⟨p0.Days, p0.Shelves, p0.Moves, p0.Deliveries, (s1_26, (rcap true s1_26))⟩ : zb), p1, 0⟩ : zd)).bind fun v202 =>
 cond (decide (0 ≤ s1_15) && decide (s1_15 < 12)) (
 (zzb k (fun k => v202 (s1_15.toNat * 61 + k))).bind fun v205 =>
 cond (decide (s1_26.length + 1 ≤ LIM)) (
 cond (decide (s1_28.length + 1 ≤ LIM)) (
 some (Sum.inl ((w64 (s1_15 + 1)), (s1_26 ++ [(⟨s1_15, p1, v205.Low, 0⟩ : zl)]), (false || (true && s1_26.isEmpty)), (s1_28 ++ [v205.Low])))) none) none) none) (
 some (Sum.inr (s1_15, s1_26, s1_27, s1_28)))
def zah (k : Nat) (p0 : zb) (p1 p2 p3 : Int) (v1 : zt1) (s2_15 : Int) (s2_26 : zt9) (s2_27 : Bool) (s2_28 : (List Int)) : Option ((Int × (List zl) × Bool × (List Int)) ⊕ (Int × (List zl) × Bool × (List Int))) :=
 cond (decide (s2_15 < p0.Days)) (
 (zib k (⟨(⟨p0.Days, p0.Shelves, p0.Moves, p0.Deliveries, (s2_26, (rcap false s2_26))⟩ : zb), p1, 0⟩ : zd)).bind fun v302 =>
 cond (decide (0 ≤ s2_15) && decide (s2_15 < 12)) (
 (zzb k (fun k => v302 (s2_15.toNat * 61 + k))).bind fun v305 =>
 cond (decide (s2_26.length + 1 ≤ LIM)) (
 cond (decide (s2_28.length + 1 ≤ LIM)) (
 some (Sum.inl ((w64 (s2_15 + 1)), (s2_26 ++ [(⟨s2_15, p1, v305.Low, 0⟩ : zl)]), (false || (false && s2_26.isEmpty)), (s2_28 ++ [v305.Low])))) none) none) none) (
 some (Sum.inr (s2_15, s2_26, s2_27, s2_28)))
def ztg (k : Nat) (p0 : zb) (p1 p2 p3 : Int) : Option ((SL Int) × Int) :=
 (zAf k p0 p1 p2 p3).bind fun v1 =>
 cond (v1.2 != 0) (
 some (([], .nil), v1.2)) (
 cond (!v1.1) (
 some (([], .nil), 4)) (
 cond (decide (p0.Counts.2 = .nil)) (
 cond (decide (([] : List zl).length + 1 ≤ LIM)) (
 (iter (fun s => zbh k p0 p1 p2 p3 v1 s.1 s.2.1 s.2.2.1 s.2.2.2) k (0, ([(⟨p2, p1, p3, 0⟩ : zl)] : List zl), true, ([] : List Int))).bind fun v7 =>
 some ((v7.2.2.2, (xcap true v7.2.2.2)), 0)) none) (
 cond (decide (p0.Counts.1.length ≤ LIM)) (
 cond (decide (p0.Counts.1.length + 1 ≤ LIM)) (
 (iter (fun s => zah k p0 p1 p2 p3 v1 s.1 s.2.1 s.2.2.1 s.2.2.2) k (0, (p0.Counts.1 ++ [(⟨p2, p1, p3, 0⟩ : zl)]), true, ([] : List Int))).bind fun v8 =>
 some ((v8.2.2.2, (xcap true v8.2.2.2)), 0)) none) none)))
def zgg (r : zt7) : D := (.tup [(dl eI r.1.1 r.1.2), (di r.2)])
def zu (r : ((SL Int) × Bool)) : D := (.tup [(dl eI r.1.1 r.1.2), (db r.2)])
def zmi (k : Nat) (p0 : zb) (r0 : (SL Int)) (r1 r2 : Int) (cb : Bool) (rc : zt3) : Option (Int × Bool) :=
 cond cb (
 (idx r0.1 (w64 ((r0.1.length : Int) - 1))).bind fun v402 =>
 some ((w64 (v402 + 1)), true)) (
 some (0, false))
def zji (k : Nat) (p0 : zb) (r0 : (SL Int)) (r1 r2 : Int) (v302 : zt4) (rc : zt3) (s4_8 : Int) : Option (Int ⊕ (((SL Int) × Int × Bool) ⊕ Int)) :=
 cond (decide (s4_8 < (p0.Counts.1.length : Int))) (
 cond (decide ((ccap r0.2) = Cap.ro)) (
 none) (
 cond (decide (r0.1.length + 1 ≤ LIM)) (
 cond (decide (s4_8 < 0)) (
 none) (
 (rc ((r0.1 ++ [s4_8]), .ro) (or64 r1 (zF 1 s4_8)) r2).bind fun v505 =>
 cond v505.2 (
 some (Sum.inr (Sum.inl (v505.1, s4_8, v505.2)))) (
 some (Sum.inl (w64 (s4_8 + 1)))))) none)) (
 some (Sum.inr (Sum.inr s4_8)))
def zUg (k : Nat) (p0 : zb) (rc : zt3) (r0 : (SL Int)) (r1 r2 : Int) : Option ((SL Int) × Bool) :=
 cond ((r0.1.length : Int) == r2) (
 (zyb k p0 r1).bind fun v302 =>
 some (r0, v302)) (
 (zmi k p0 r0 r1 r2 (decide ((r0.1.length : Int) > 0)) rc).bind fun v302 =>
 (iter (fun s => zji k p0 r0 r1 r2 v302 rc s) k v302.1).bind fun v304 =>
 Sum.elim (fun v307 =>
 some (v307.1, true)) (fun w3_0 =>
 (fun v307 =>
 some (([], .nil), false)) w3_0) v304)
def zAi (k : Nat) (p0 : zb) (r0 : (SL Int)) (r1 r2 : Int) (cb : Bool) (rc : zt3) : Option (Int × Bool) :=
 cond cb (
 (idx r0.1 (w64 ((r0.1.length : Int) - 1))).bind fun v602 =>
 some ((w64 (v602 + 1)), true)) (
 some (0, false))
def zki (k : Nat) (p0 : zb) (r0 : (SL Int)) (r1 r2 : Int) (v502 : zt4) (rc : zt3) (s6_8 : Int) : Option (Int ⊕ (((SL Int) × Int × Bool) ⊕ Int)) :=
 cond (decide (s6_8 < (p0.Counts.1.length : Int))) (
 cond (decide ((ccap r0.2) = Cap.ro)) (
 none) (
 cond (decide (r0.1.length + 1 ≤ LIM)) (
 cond (decide (s6_8 < 0)) (
 none) (
 (rc ((r0.1 ++ [s6_8]), .ro) (or64 r1 (zF 1 s6_8)) r2).bind fun v705 =>
 cond v705.2 (
 some (Sum.inr (Sum.inl (v705.1, s6_8, v705.2)))) (
 some (Sum.inl (w64 (s6_8 + 1)))))) none)) (
 some (Sum.inr (Sum.inr s6_8)))
def zFg (k : Nat) (p0 : zb) (rc : zt3) (r0 : (SL Int)) (r1 r2 : Int) : Option ((SL Int) × Bool) :=
 cond ((r0.1.length : Int) == r2) (
 (zyb k p0 r1).bind fun v502 =>
 some (r0, v502)) (
 (zAi k p0 r0 r1 r2 (decide ((r0.1.length : Int) > 0)) rc).bind fun v502 =>
 (iter (fun s => zki k p0 r0 r1 r2 v502 rc s) k v502.1).bind fun v504 =>
 Sum.elim (fun v507 =>
 some (v507.1, true)) (fun w3_0 =>
 (fun v507 =>
 some (([], .nil), false)) w3_0) v504)
def zai (k : Nat) (p0 : zb) (r0 : (SL Int)) (r1 r2 : Int) (cb : Bool) (rc : zt3) : Option (Int × Bool) :=
 cond cb (
 (idx r0.1 (w64 ((r0.1.length : Int) - 1))).bind fun v802 =>
 some ((w64 (v802 + 1)), true)) (
 some (0, false))
def zei (k : Nat) (p0 : zb) (r0 : (SL Int)) (r1 r2 : Int) (v702 : zt4) (rc : zt3) (s8_8 : Int) : Option (Int ⊕ (((SL Int) × Int × Bool) ⊕ Int)) :=
 cond (decide (s8_8 < (p0.Counts.1.length : Int))) (
 cond (decide ((ccap r0.2) = Cap.ro)) (
 none) (
 cond (decide (r0.1.length + 1 ≤ LIM)) (
 cond (decide (s8_8 < 0)) (
 none) (
 (rc ((r0.1 ++ [s8_8]), .ro) (or64 r1 (zF 1 s8_8)) r2).bind fun v905 =>
 cond v905.2 (
 some (Sum.inr (Sum.inl (v905.1, s8_8, v905.2)))) (
 some (Sum.inl (w64 (s8_8 + 1)))))) none)) (
 some (Sum.inr (Sum.inr s8_8)))
def zQg (k : Nat) (p0 : zb) (rc : zt3) (r0 : (SL Int)) (r1 r2 : Int) : Option ((SL Int) × Bool) :=
 cond ((r0.1.length : Int) == r2) (
 (zyb k p0 r1).bind fun v702 =>
 some (r0, v702)) (
 (zai k p0 r0 r1 r2 (decide ((r0.1.length : Int) > 0)) rc).bind fun v702 =>
 (iter (fun s => zei k p0 r0 r1 r2 v702 rc s) k v702.1).bind fun v704 =>
 Sum.elim (fun v707 =>
 some (v707.1, true)) (fun w3_0 =>
 (fun v707 =>
 some (([], .nil), false)) w3_0) v704)
def zbi (k : Nat) (p0 : zb) (r0 : (SL Int)) (r1 r2 : Int) (cb : Bool) (rc : zt3) : Option (Int × Bool) :=
 cond cb (
 (idx r0.1 (w64 ((r0.1.length : Int) - 1))).bind fun v1002 =>
 some ((w64 (v1002 + 1)), true)) (
 some (0, false))
def z1h (k : Nat) (p0 : zb) (r0 : (SL Int)) (r1 r2 : Int) (v902 : zt4) (rc : zt3) (s10_8 : Int) : Option (Int ⊕ (((SL Int) × Int × Bool) ⊕ Int)) :=
 cond (decide (s10_8 < (p0.Counts.1.length : Int))) (
 cond (decide ((ccap r0.2) = Cap.ro)) (
 none) (
 cond (decide (r0.1.length + 1 ≤ LIM)) (
 cond (decide (s10_8 < 0)) (
 none) (
 (rc ((r0.1 ++ [s10_8]), .ro) (or64 r1 (zF 1 s10_8)) r2).bind fun v1105 =>
 cond v1105.2 (
 some (Sum.inr (Sum.inl (v1105.1, s10_8, v1105.2)))) (
 some (Sum.inl (w64 (s10_8 + 1)))))) none)) (
 some (Sum.inr (Sum.inr s10_8)))
def zJg (k : Nat) (p0 : zb) (rc : zt3) (r0 : (SL Int)) (r1 r2 : Int) : Option ((SL Int) × Bool) :=
 cond ((r0.1.length : Int) == r2) (
 (zyb k p0 r1).bind fun v902 =>
 some (r0, v902)) (
 (zbi k p0 r0 r1 r2 (decide ((r0.1.length : Int) > 0)) rc).bind fun v902 =>
 (iter (fun s => z1h k p0 r0 r1 r2 v902 rc s) k v902.1).bind fun v904 =>
 Sum.elim (fun v907 =>
 some (v907.1, true)) (fun w3_0 =>
 (fun v907 =>
 some (([], .nil), false)) w3_0) v904)
def zNh (k : Nat) (p0 : zb) (r0 : (SL Int)) (r1 r2 : Int) (cb : Bool) (rc : zt3) : Option (Int × Bool) :=
 cond cb (
 (idx r0.1 (w64 ((r0.1.length : Int) - 1))).bind fun v1202 =>
 some ((w64 (v1202 + 1)), true)) (
 some (0, false))
def zJh (k : Nat) (p0 : zb) (r0 : (SL Int)) (r1 r2 : Int) (v1102 : zt4) (rc : zt3) (s12_8 : Int) : Option (Int ⊕ (((SL Int) × Int × Bool) ⊕ Int)) :=
 cond (decide (s12_8 < (p0.Counts.1.length : Int))) (
 cond (decide ((ccap r0.2) = Cap.ro)) (
 none) (
 cond (decide (r0.1.length + 1 ≤ LIM)) (
 cond (decide (s12_8 < 0)) (
 none) (
 (rc ((r0.1 ++ [s12_8]), .ro) (or64 r1 (zF 1 s12_8)) r2).bind fun v1305 =>
 cond v1305.2 (
 some (Sum.inr (Sum.inl (v1305.1, s12_8, v1305.2)))) (
 some (Sum.inl (w64 (s12_8 + 1)))))) none)) (
 some (Sum.inr (Sum.inr s12_8)))
def zPg (k : Nat) (p0 : zb) (rc : zt3) (r0 : (SL Int)) (r1 r2 : Int) : Option ((SL Int) × Bool) :=
 cond ((r0.1.length : Int) == r2) (
 (zyb k p0 r1).bind fun v1102 =>
 some (r0, v1102)) (
 (zNh k p0 r0 r1 r2 (decide ((r0.1.length : Int) > 0)) rc).bind fun v1102 =>
 (iter (fun s => zJh k p0 r0 r1 r2 v1102 rc s) k v1102.1).bind fun v1104 =>
 Sum.elim (fun v1107 =>
 some (v1107.1, true)) (fun w3_0 =>
 (fun v1107 =>
 some (([], .nil), false)) w3_0) v1104)
def zOh (k : Nat) (p0 : zb) (r0 : (SL Int)) (r1 r2 : Int) (cb : Bool) (rc : zt3) : Option (Int × Bool) :=
 cond cb (
 (idx r0.1 (w64 ((r0.1.length : Int) - 1))).bind fun v1402 =>
 some ((w64 (v1402 + 1)), true)) (
 some (0, false))
def zFh (k : Nat) (p0 : zb) (r0 : (SL Int)) (r1 r2 : Int) (v1302 : zt4) (rc : zt3) (s14_8 : Int) : Option (Int ⊕ (((SL Int) × Int × Bool) ⊕ Int)) :=
 cond (decide (s14_8 < (p0.Counts.1.length : Int))) (
 cond (decide ((ccap r0.2) = Cap.ro)) (
 none) (
 cond (decide (r0.1.length + 1 ≤ LIM)) (
 cond (decide (s14_8 < 0)) (
 none) (
 (rc ((r0.1 ++ [s14_8]), .ro) (or64 r1 (zF 1 s14_8)) r2).bind fun v1505 =>
 cond v1505.2 (
 some (Sum.inr (Sum.inl (v1505.1, s14_8, v1505.2)))) (
 some (Sum.inl (w64 (s14_8 + 1)))))) none)) (
 some (Sum.inr (Sum.inr s14_8)))
def zLg (k : Nat) (p0 : zb) (rc : zt3) (r0 : (SL Int)) (r1 r2 : Int) : Option ((SL Int) × Bool) :=
 cond ((r0.1.length : Int) == r2) (
 (zyb k p0 r1).bind fun v1302 =>
 some (r0, v1302)) (
 (zOh k p0 r0 r1 r2 (decide ((r0.1.length : Int) > 0)) rc).bind fun v1302 =>
 (iter (fun s => zFh k p0 r0 r1 r2 v1302 rc s) k v1302.1).bind fun v1304 =>
 Sum.elim (fun v1307 =>
 some (v1307.1, true)) (fun w3_0 =>
 (fun v1307 =>
 some (([], .nil), false)) w3_0) v1304)
def zLh (k : Nat) (p0 : zb) (r0 : (SL Int)) (r1 r2 : Int) (cb : Bool) (rc : zt3) : Option (Int × Bool) :=
 cond cb (
 (idx r0.1 (w64 ((r0.1.length : Int) - 1))).bind fun v1602 =>
 some ((w64 (v1602 + 1)), true)) (
 some (0, false))
def zAh (k : Nat) (p0 : zb) (r0 : (SL Int)) (r1 r2 : Int) (v1502 : zt4) (rc : zt3) (s16_8 : Int) : Option (Int ⊕ (((SL Int) × Int × Bool) ⊕ Int)) :=
 cond (decide (s16_8 < (p0.Counts.1.length : Int))) (
 cond (decide ((ccap r0.2) = Cap.ro)) (
 none) (
 cond (decide (r0.1.length + 1 ≤ LIM)) (
 cond (decide (s16_8 < 0)) (
 none) (
 (rc ((r0.1 ++ [s16_8]), .ro) (or64 r1 (zF 1 s16_8)) r2).bind fun v1705 =>
 cond v1705.2 (
 some (Sum.inr (Sum.inl (v1705.1, s16_8, v1705.2)))) (
 some (Sum.inl (w64 (s16_8 + 1)))))) none)) (
 some (Sum.inr (Sum.inr s16_8)))
def zNg (k : Nat) (p0 : zb) (rc : zt3) (r0 : (SL Int)) (r1 r2 : Int) : Option ((SL Int) × Bool) :=
 cond ((r0.1.length : Int) == r2) (
 (zyb k p0 r1).bind fun v1502 =>
 some (r0, v1502)) (
 (zLh k p0 r0 r1 r2 (decide ((r0.1.length : Int) > 0)) rc).bind fun v1502 =>
 (iter (fun s => zAh k p0 r0 r1 r2 v1502 rc s) k v1502.1).bind fun v1504 =>
 Sum.elim (fun v1507 =>
 some (v1507.1, true)) (fun w3_0 =>
 (fun v1507 =>
 some (([], .nil), false)) w3_0) v1504)
def zPh (k : Nat) (p0 : zb) (r0 : (SL Int)) (r1 r2 : Int) (cb : Bool) (rc : zt3) : Option (Int × Bool) :=
 cond cb (
 (idx r0.1 (w64 ((r0.1.length : Int) - 1))).bind fun v1802 =>
 some ((w64 (v1802 + 1)), true)) (
 some (0, false))
def zTh (k : Nat) (p0 : zb) (r0 : (SL Int)) (r1 r2 : Int) (v1702 : zt4) (rc : zt3) (s18_8 : Int) : Option (Int ⊕ (((SL Int) × Int × Bool) ⊕ Int)) :=
 cond (decide (s18_8 < (p0.Counts.1.length : Int))) (
 cond (decide ((ccap r0.2) = Cap.ro)) (
 none) (
 cond (decide (r0.1.length + 1 ≤ LIM)) (
 cond (decide (s18_8 < 0)) (
 none) (
 (rc ((r0.1 ++ [s18_8]), .ro) (or64 r1 (zF 1 s18_8)) r2).bind fun v1905 =>
 cond v1905.2 (
 some (Sum.inr (Sum.inl (v1905.1, s18_8, v1905.2)))) (
 some (Sum.inl (w64 (s18_8 + 1)))))) none)) (
 some (Sum.inr (Sum.inr s18_8)))
def zWg (k : Nat) (p0 : zb) (rc : zt3) (r0 : (SL Int)) (r1 r2 : Int) : Option ((SL Int) × Bool) :=
 cond ((r0.1.length : Int) == r2) (
 (zyb k p0 r1).bind fun v1702 =>
 some (r0, v1702)) (
 (zPh k p0 r0 r1 r2 (decide ((r0.1.length : Int) > 0)) rc).bind fun v1702 =>
 (iter (fun s => zTh k p0 r0 r1 r2 v1702 rc s) k v1702.1).bind fun v1704 =>
 Sum.elim (fun v1707 =>
 some (v1707.1, true)) (fun w3_0 =>
 (fun v1707 =>
 some (([], .nil), false)) w3_0) v1704)
def zVh (k : Nat) (p0 : zb) (r0 : (SL Int)) (r1 r2 : Int) (cb : Bool) (rc : zt3) : Option (Int × Bool) :=
 cond cb (
 (idx r0.1 (w64 ((r0.1.length : Int) - 1))).bind fun v2002 =>
 some ((w64 (v2002 + 1)), true)) (
 some (0, false))
def zBh (k : Nat) (p0 : zb) (r0 : (SL Int)) (r1 r2 : Int) (v1902 : zt4) (rc : zt3) (s20_8 : Int) : Option (Int ⊕ (((SL Int) × Int × Bool) ⊕ Int)) :=
 cond (decide (s20_8 < (p0.Counts.1.length : Int))) (
 cond (decide ((ccap r0.2) = Cap.ro)) (
 none) (
 cond (decide (r0.1.length + 1 ≤ LIM)) (
 cond (decide (s20_8 < 0)) (
 none) (
 (rc ((r0.1 ++ [s20_8]), .ro) (or64 r1 (zF 1 s20_8)) r2).bind fun v2105 =>
 cond v2105.2 (
 some (Sum.inr (Sum.inl (v2105.1, s20_8, v2105.2)))) (
 some (Sum.inl (w64 (s20_8 + 1)))))) none)) (
 some (Sum.inr (Sum.inr s20_8)))
def zTg (k : Nat) (p0 : zb) (rc : zt3) (r0 : (SL Int)) (r1 r2 : Int) : Option ((SL Int) × Bool) :=
 cond ((r0.1.length : Int) == r2) (
 (zyb k p0 r1).bind fun v1902 =>
 some (r0, v1902)) (
 (zVh k p0 r0 r1 r2 (decide ((r0.1.length : Int) > 0)) rc).bind fun v1902 =>
 (iter (fun s => zBh k p0 r0 r1 r2 v1902 rc s) k v1902.1).bind fun v1904 =>
 Sum.elim (fun v1907 =>
 some (v1907.1, true)) (fun w3_0 =>
 (fun v1907 =>
 some (([], .nil), false)) w3_0) v1904)
def zoi (k : Nat) (p0 : zb) (n : Nat) (r0 : (SL Int)) (r1 r2 : Int) : Option ((SL Int) × Bool) := (zUg k p0 (zFg k p0 (zQg k p0 (zJg k p0 (zPg k p0 (zLg k p0 (zNg k p0 (zWg k p0 (zTg k p0 (fun _r0 _r1 _r2 => none)))))))))) r0 r1 r2
def zii (k : Nat) (p0 : zb) (v1 s1_10 : Int) : Option (Int ⊕ (((SL Int) × Int × (SL Int) × Bool) ⊕ Int)) :=
 cond (decide (s1_10 < (w64 ((p0.Counts.1.length : Int) + 1)))) (
 (zoi k p0 9 ([], .nil) 0 s1_10).bind fun v2102 =>
 cond v2102.2 (
 some (Sum.inr (Sum.inl ((v2102.1.1, (ccap v2102.1.2)), s1_10, v2102.1, v2102.2)))) (
 some (Sum.inl (w64 (s1_10 + 1))))) (
 some (Sum.inr (Sum.inr s1_10)))
def zGl (k : Nat) (p0 : zb) : Option ((SL Int) × Int) :=
 (zge k p0).bind fun v1 =>
 cond (v1 != 0) (
 some (([], .nil), v1)) (
 (iter (fun s => zii k p0 v1 s) k 0).bind fun v4 =>
 Sum.elim (fun v7 =>
 some (v7.1, 0)) (fun w3_0 =>
 (fun v7 =>
 some (([], .nil), 4)) w3_0) v4)
def z6g (r : zt7) : D := (.tup [(dl eI r.1.1 r.1.2), (di r.2)])
def zlj (k : Nat) (p0 : zb) (v1 s1_11 : Int) (s1_17 : (List Int)) : Option ((Int × (List Int)) ⊕ (Int × (List Int))) :=
 cond (decide (s1_11 < (p0.Counts.1.length : Int))) (
 (idx p0.Counts.1 s1_11).bind fun v202 =>
 (zib k (⟨p0, v202.Shelf, 0⟩ : zd)).bind fun v204 =>
 cond (decide (s1_11 < 0)) (
 none) (
 (zib k (⟨p0, v202.Shelf, (zF 1 s1_11)⟩ : zd)).bind fun v207 =>
 cond (!(eqB v204 v207 0 732)) (
 some (Sum.inl ((w64 (s1_11 + 1)), s1_17))) (
 cond (decide (s1_17.length + 1 ≤ LIM)) (
 some (Sum.inl ((w64 (s1_11 + 1)), (s1_17 ++ [s1_11])))) none))) (
 some (Sum.inr (s1_11, s1_17)))
def zMm (k : Nat) (p0 : zb) : Option ((SL Int) × Int) :=
 (zZc k p0 true).bind fun v1 =>
 cond (v1 != 0) (
 some (([], .nil), v1)) (
 (iter (fun s => zlj k p0 v1 s.1 s.2) k (0, ([] : List Int))).bind fun v4 =>
 some ((v4.2, (xcap true v4.2)), 0))
def zqk (r : zt7) : D := (.tup [(dl eI r.1.1 r.1.2), (di r.2)])
def zme (k : Nat) (v3 : zt8) (v7 : zt1) (v11 : (Int × Int)) (v15 : zt7) : Option Bool :=
 cond (v3.2 != 0) (
 some true) (
 cond (v7.2 != 0) (
 some true) (
 cond (v11.2 != 0) (
 some true) (
 cond (v15.2 != 0) (
 some true) (
 (zpb k 6 19).bind fun v205 =>
 cond (!((v3.1.Low == v205.Low) && ((v3.1.High == v205.High) && true))) (
 some true) (
 cond (!v7.1) (
 some true) (
 cond (v11.1 != 6) (
 some true) (
 (zld k v15.1 ([1, 2], .ex)).bind fun v210 =>
 some (!v210))))))))
def zLb (k : Nat) : Option Bool :=
 (zsb k ([], .nil)).bind fun v1 =>
 (zEf k v1 0 1).bind fun v3 =>
 (zsb k ([], .nil)).bind fun v5 =>
 (zAf k v5 0 1 9).bind fun v7 =>
 (zsb k ([], .nil)).bind fun v9 =>
 (zpm k v9 0 0).bind fun v11 =>
 (zsb k ([], .nil)).bind fun v13 =>
 (zyn k v13 0).bind fun v15 =>
 (zme k v3 v7 v11 v15).bind fun v17 =>
 cond v17 (
 some false) (
 (zsb k ([], .nil)).bind fun v20 =>
 (zBl k v20 1).bind fun v22 =>
 (zsb k ([], .nil)).bind fun v24 =>
 (ztg k v24 0 2 14).bind fun v26 =>
 (zJb k 0 0 12 2).bind fun v28 =>
 (zJb k 4 0 20 1).bind fun v30 =>
 (zsb k ([v28, v30], .ex)).bind fun v32 =>
 (zGl k v32).bind fun v34 =>
 (zsb k ([], .nil)).bind fun v36 =>
 (zMm k v36).bind fun v38 =>
 cond (v22.2 == 0) (
 cond (v26.2 == 0) (
 cond (v34.2 == 0) (
 cond (v38.2 == 0) (
 (zpb k 5 8).bind fun v44 =>
 cond ((v22.1.Low == v44.Low) && ((v22.1.High == v44.High) && true)) (
 cond ((v26.1.1.length : Int) == 5) (
 (idx v26.1.1 2).bind fun v48 =>
 cond (v48 == 14) (
 (zld k v34.1 ([2, 3], .ex)).bind fun v51 =>
 cond v51 (
 (zld k v38.1 ([1], .ex)).bind fun v54 =>
 some v54) (
 some false)) (
 some false)) (
 some false)) (
 some false)) (
 some false)) (
 some false)) (
 some false)) (
 some false))
def z6 (r : Bool) : D := (db r)
def zSc (k : Nat) (p0 p1 : Int) (cb : Bool) : Option (Int × Bool) :=
 cond cb (
 some ((w64 ((p0.tmod p1) + p1)), true)) (
 some ((p0.tmod p1), false))
def zkc (k : Nat) (p0 p1 : Int) : Option Int :=
 cond (decide (p1 < 1)) (
 some 0) (
 cond (p1 == 0) (
 none) (
 (zSc k p0 p1 (decide ((p0.tmod p1) < 0))).bind fun v3 =>
 some v3.1))
def zMf (r : Int) : D := (di r)
def zWb (k : Nat) (p0 : zb) (p1 : (Nat → Int)) (v4 v6 : Int) (v8 : zt8) (v11 : zt7) : Option Bool :=
 cond (v11.2 != 0) (
 some true) (
 some ((v11.1.1.length : Int) != p0.Days))
def zXb (k : Nat) (p0 : zb) (p1 : (Nat → Int)) (v4 v6 : Int) (v8 : zt8) (v11 : zt7) (s2_15 : Int) (s2_28 : zt9) (v504 : zt1) : Option Bool :=
 cond (v504.2 != 0) (
 some true) (
 some (!v504.1))
def zYb (k : Nat) (p0 : zb) (p1 : (Nat → Int)) (v4 v6 : Int) (v8 : zt8) (v11 : zt7) (s2_15 : Int) (s2_28 : zt9) (v504 : zt1) (cb : Bool) : Option (Bool × (List zl)) :=
 cond cb (
 (idx v11.1.1 s2_15).bind fun v702 =>
 (zJb k s2_15 v4 v702 0).bind fun v704 =>
 cond (decide (s2_28.length + 1 ≤ LIM)) (
 some (true, (s2_28 ++ [v704]))) none) (
 some (false, s2_28))
def zBb (k : Nat) (p0 : zb) (p1 : (Nat → Int)) (v4 v6 : Int) (v8 : zt8) (v11 : zt7) (s2_15 : Int) (s2_28 : zt9) : Option ((Int × (List zl)) ⊕ ((Int × Bool × Int × (List zl)) ⊕ (Int × (List zl)))) :=
 cond (decide (s2_15 < p0.Days)) (
 (idx v11.1.1 s2_15).bind fun v502 =>
 (zAf k p0 v4 s2_15 v502).bind fun v504 =>
 (zXb k p0 p1 v4 v6 v8 v11 s2_15 s2_28 v504).bind fun v506 =>
 cond v506 (
 some (Sum.inr (Sum.inl (s2_15, v504.1, v504.2, s2_28)))) (
 (zYb k p0 p1 v4 v6 v8 v11 s2_15 s2_28 v504 (decide ((s2_28.length : Int) < 8))).bind fun v509 =>
 some (Sum.inl ((w64 (s2_15 + 1)), v509.2)))) (
 some (Sum.inr (Sum.inr (s2_15, s2_28))))
def zTb (k : Nat) (p0 : zb) (p1 : (Nat → Int)) : Option Bool :=
 (zpd k p0).bind fun v1 =>
 cond (!v1) (
 (zLb k).bind fun v4 =>
 some v4) (
 (zkc k (p1 0) (p0.Shelves.1.length : Int)).bind fun v4 =>
 (zkc k (p1 1) p0.Days).bind fun v6 =>
 (zEf k p0 v4 v6).bind fun v8 =>
 cond (v8.2 != 0) (
 cond (v8.2 == 42) (
 (zLb k).bind fun v12 =>
 some v12) (
 some false)) (
 (ztg k p0 v4 v6 v8.1.High).bind fun v11 =>
 (zWb k p0 p1 v4 v6 v8 v11).bind fun v13 =>
 cond v13 (
 some false) (
 cond (decide (p0.Counts.1.length ≤ LIM)) (
 (iter (fun s => zBb k p0 p1 v4 v6 v8 v11 s.1 s.2) k (0, p0.Counts.1)).bind fun v17 =>
 Sum.elim (fun v20 =>
 some false) (fun w11_0 =>
 (fun v20 =>
 (zEf k (⟨p0.Days, p0.Shelves, p0.Moves, p0.Deliveries, (v20.2, (rcap false v20.2))⟩ : zb) v4 v6).bind fun v21 =>
 cond (v21.2 == 0) (
 (zLb k).bind fun v24 =>
 some v24) (
 some false)) w11_0) v17) none)))
def zgb (r : Bool) : D := (db r)
end Go.AM
