/- The statement ShelfIdle holds for every input that its row lets in. Conditions: none. -/
import Derived.KernelRfl
import Derived.OpenShut
import Derived.ChangeSlices
import Derived.ProofKit
import Derived.LaidMore
import Derived.Stop.Joined
import Derived.Below
import Derived.ChangeSame
import Derived.Carry
import Derived.Test.YtfoohlabifhplaaDoorProg
import Derived.Test.YtfoohlabifhplaaDoorB
set_option linter.all false
set_option linter.unusedSimpArgs false
set_option linter.unusedVariables false
namespace Go.AM
open Go Go.RowKit
abbrev SL (α : Type) := List α × Cap
abbrev di (n : Int) : D := .i .i64 n
abbrev db (b : Bool) : D := .b b
abbrev xi (n : Int) : X := .d (.i .i64 n)
abbrev xb (b : Bool) : X := .d (.b b)
abbrev w64 (n : Int) : Int := IntKind.i64.wrap n
def eI (n : Int) : List D := [.i .i64 n]
def eB (b : Bool) : List D := [.b b]
def eL {α : Type} (e : α → List D) (l : SL α) : List D := [.sl (l.1.map e) l.2]
abbrev dl {α : Type} (e : α → List D) (l : List α) (c : Cap) : D := .sl (l.map e) c
def aB (n : Nat) (f : Nat → Bool) : List D := (List.range n).map fun k => .b (f k)
def upd {α : Type} (f : Nat → α) (i : Nat) (v : α) : Nat → α := fun k => if k = i then v else f k
section
variable {α β γ : Type} {G : Prop}
theorem zl {c : Bool} {A B : Option α} {r : α} (h : cond c A B = some r) (t : c = true → A = some r → G) (f : c = false → B = some r → G) : G := by
 cases c
 ·exact f rfl h
 ·exact t rfl h
theorem zR {c : Bool} {A : Option α} {r : α} (h : cond c A none = some r) (t : c = true → A = some r → G) : G := by
 cases c
 ·simp at h
 ·exact t rfl h
theorem zj {x : Option β} {f : β → Option α} {r : α} (h : x.bind f = some r) (t : ∀ y, x = some y → f y = some r → G) : G := by
 cases x with
 | none => simp at h
 | some y => exact t y rfl h
theorem zsc {v : β ⊕ γ} {f : β → Option α} {g : γ → Option α} {r : α} (h : Sum.elim f g v = some r) (t : ∀ a, v = .inl a → f a = some r → G) (u : ∀ b, v = .inr b → g b = some r → G) : G := by
 cases v with
 | inl a => exact t a rfl h
 | inr b => exact u b rfl h
theorem zF {x r : α} {g : α → D} {y : Option D} (h : some x = some r) (p : y = some (g x)) : y = some (g r) := by
 simp only [Option.some.injEq] at h; rw [← h]; exact p
end
theorem zz {α : Type} {x r : α} {g : α → Ex × St} {y : Option (Ex × St)} (h : some x = some r) (p : y = some (g x)) : y = some (g r) := by
 simp only [Option.some.injEq] at h; rw [← h]; exact p
theorem zCb {α : Type} {x r : α} {g : α → D × FS × List LRec} {y : Option (D × FS × List LRec)} (h : some x = some r) (p : y = some (g x)) : y = some (g r) := by
 simp only [Option.some.injEq] at h; rw [← h]; exact p
theorem ob {p : Prop} {s : List Prop} (h : p) (t : All s) : All (p :: s) := by
 cases s with
 | nil => exact h
 | cons q s => exact ⟨h, t⟩
theorem ob0 : All [] := trivial
def zO (E : Env) (fid : Nat) (c : Code) {S R : Type} (S0 : S → St) (R0 : R → Ex × St) (s : S) : S ⊕ R → Prop
 | .inl s' => ∀ r, ev E fid c (S0 s') = r → ev E fid c (S0 s) = r
 | .inr r => ev E fid c (S0 s) = some (R0 r)
section
variable {E : Env} {V : Ovs} {C : Cuts} {fid : Nat} {c : Code}
theorem zcw {S R : Type} {S0 : S → St} {R0 : R → Ex × St} {s s' : S} {x : S ⊕ R} {rs : List Nat} (h : some (Sum.inl s') = some x) {n : Nat} {P : List Prop} (hP : All P) (hr : zmj E V C rs n fid c (S0 s) = some (.inl (S0 s'), P)) : zO E fid c S0 R0 s x := by
 simp only [Option.some.injEq] at h
 subst h
 exact fun r hk => zwt hP hr hk
theorem zex {S R : Type} {S0 : S → St} {R0 : R → Ex × St} {s : S} {r : R} {x : S ⊕ R} (h : some (Sum.inr r) = some x) {n : Nat} {P : List Prop} (hP : All P) (hr : zmj E V C [] n fid c (S0 s) = some (.inr (R0 r), P)) : zO E fid c S0 R0 s x := by
 simp only [Option.some.injEq] at h
 subst h
 exact zlu hP hr
theorem zaj {S R : Type} {S0 : S → St} {R0 : R → Ex × St} {body : S → Option (S ⊕ R)} (h : ∀ s x, body s = some x → zO E fid c S0 R0 s x) : ∀ (m : Nat) (s : S) (r : R), iter body m s = some r → ev E fid c (S0 s) = some (R0 r)
 | 0, s, r, hi => by simp [iter] at hi
 | m + 1, s, r, hi => by
  simp only [iter] at hi
  cases hb : body s with
  | none => simp [hb] at hi
  | some x =>
   have hx := h s x hb
   cases x with
   | inl s' => simp only [hb] at hi; exact hx _ (zaj h m s' r hi)
   | inr r' => simp only [hb, Option.some.injEq] at hi; subst hi; exact hx
def zpj (id : Nat) : Code → Option Code
 | .seq a b => match zpj id a with
  | some c => some c
  | none => zpj id b
 | .cond _ a b => match zpj id a with
  | some c => some c
  | none => zpj id b
 | .block i c => if i = id then some c else zpj id c
 | .loop c => zpj id c
 | .scope c => zpj id c
 | .rangeFunc _ _ a b => match zpj id a with
  | some c => some c
  | none => zpj id b
 | _ => none
def zvj (id : Nat) : Code → Option Code
 | .seq a b => match zvj id a with
  | some c => some c
  | none => zvj id b
 | .cond _ a b => match zvj id a with
  | some c => some c
  | none => zvj id b
 | .block _ c => zvj id c
 | .loop c => zvj id c
 | .scope c => zvj id c
 | .rangeFunc _ _ a b => match zvj id a with
  | some c => some c
  | none => zvj id b
 | .region i ops d => if i = id then some (.region i ops d) else none
 | _ => none
def zoj (t : Nat) : Code → Option Code
 | .seq a b => match zoj t a with
  | some c => some c
  | none => zoj t b
 | .cond c a b => match (match c with | .tmp u => decide (u = t) | _ => false) with
  | true => some (.cond c a b)
  | false => match zoj t a with
   | some c => some c
   | none => zoj t b
 | .block _ c => zoj t c
 | .loop c => zoj t c
 | .scope c => zoj t c
 | .rangeFunc _ _ a b => match zoj t a with
  | some c => some c
  | none => zoj t b
 | _ => none
def z8r (E : Env) (f : Nat) : Code := match E.P.funcs[f]? with
 | some fn => fn.body.getD .skip
 | none => .skip
def blk (E : Env) (f id : Nat) : Code := (zpj id (z8r E f)).getD .skip
def rgn (E : Env) (f id : Nat) : Code := (zvj id (z8r E f)).getD .skip
def cnd (E : Env) (f t : Nat) : Code := (zoj t (z8r E f)).getD .skip
def rfA : Code → Code
 | .rangeFunc _ _ a _ => a
 | _ => .skip
def rfB : Code → Code
 | .rangeFunc _ _ _ b => b
 | _ => .skip
def rfP : Code → Array Nat
 | .rangeFunc _ ps _ _ => ps
 | _ => #[]
theorem zC {id : Nat} {st : St} {r : Ex × St} {r' : Ex × St} (h : ev E fid c st = some r) (e : (if r.1 = .exit id then Ex.nor else r.1, r.2) = r') : ev E fid (.block id c) st = some r' := by
 rw [z4i]; simp only [step, h, Option.map_some, e]
end
theorem o_b {e b : Bool} (h : e = b) : some (X.d (.b e)) = some (X.d (.b b)) := by rw [h]
theorem zqx {x y : Int} (k : IntKind) (h : (y == 0) = false) : (if y = 0 then none else some (D.i k (x.tmod y))).map X.d = some (X.d (.i k (x.tmod y))) := by
 rw [if_neg (by simpa using h)]; rfl
def zG (x y : Int) : Int := w64 (x * 2 ^ (min y.toNat 64))
def zY (x y : Int) : Int := x.fdiv (2 ^ (min y.toNat 64))
theorem znc {x y : Int} (h : decide (y < 0) = false) : (if y < 0 then none else some (D.i .i64 (IntKind.i64.wrap (x * 2 ^ (min y.toNat IntKind.i64.bits))))).map X.d = some (xi (zG x y)) := by
 rw [if_neg (by simpa using h)]; rfl
theorem zLe {x y : Int} (h : decide (y < 0) = false) : (if y < 0 then none else some (D.i .i64 (x.fdiv (2 ^ (min y.toNat IntKind.i64.bits))))).map X.d = some (xi (zY x y)) := by
 rw [if_neg (by simpa using h)]; rfl
def idx {α : Type} (l : List α) (n : Int) : Option α := if 0 ≤ n then l[n.toNat]? else none
theorem o_ia {α : Type} {e : α → List D} {l : List α} {n : Int} {y : α} (z : Nat) (h : idx l n = some y) (hz : (e y).length = z) :
  (if 0 ≤ n then ((l.map e)[n.toNat]?).bind fun e => if e.length = z then some (X.d (.pin e)) else none else none) = some (X.d (.pin (e y))) := by
 unfold idx at h
 split at h
 ·rename_i h0
  rw [if_pos h0, List.getElem?_map, h]
  simp [hz]
 ·simp at h
theorem zr {α : Type} (e : α → List D) (l : List α) : some (X.d (.i .i64 ((l.map e).length : Int))) = some (xi (l.length : Int)) := by rw [List.length_map]
theorem z5c {n : Int} {m : Nat} (l s o z j : Nat) (h : (decide (0 ≤ n) && decide (n < (m : Int))) = true) (hj : o + n.toNat * z = j) : (if 0 ≤ n ∧ n < (m : Int) then some (X.ptr l s (o + n.toNat * z)) else none) = some (X.ptr l s j) := by
 rw [if_pos (by simpa using h), hj]
theorem zLu {n : Int} (cs : List D) (m z : Nat) {j : Nat} (h : n = (j : Int)) (hj : j < m) : (if 0 ≤ n ∧ n < (m : Int) then some (X.d (.pin (cs.drop (n.toNat * z)))) else none) = some (X.d (.pin (cs.drop (j * z)))) := by
 subst h
 rw [if_pos ⟨by omega, by omega⟩]; rfl
theorem zRl (n : Nat) (f : Nat → Bool) : (aB n f).length = n := by simp [aB]
theorem zhq {n j : Nat} (f : Nat → Bool) (h : j < n) : (aB n f)[j]? = some (.b (f j)) := by simp [aB, h]
theorem zJu {α : Type} (l : List α) (j : Nat) : (l.drop j).head? = l[j]? := by simp
theorem zqq (n : Nat) (f : Nat → Bool) (j : Nat) (h : j < n) : grab false 1 (((aB n f).map X.d).drop j) = some (xb (f j)) := by
 simp [grab, zJu, zhq f h]
theorem z5s (n m j : Nat) (f : Nat → Bool) (h : j + m ≤ n) : ((aB n f).drop j).take m = aB m (fun k => f (j + k)) := by
 apply List.ext_getElem?
 intro i
 by_cases hi : i < m
 ·rw [List.getElem?_take_of_lt hi, List.getElem?_drop, zhq f (by omega), zhq _ hi]
 ·rw [List.getElem?_eq_none (by simp; omega), List.getElem?_eq_none (by simp [aB]; omega)]
theorem z1w (n m : Nat) (f : Nat → Bool) (j : Nat) (h : j + m ≤ n) : grab true m (((aB n f).map X.d).drop j) = some (.d (.agg (aB m (fun k => f (j + k))))) := by
 unfold grab
 rw [if_pos rfl, if_pos (by simp [zRl]; omega), ← List.map_drop, ← List.map_take, z5s n m j f h, zjr]
theorem z8w (n : Nat) (f : Nat → Bool) (j : Nat) (v : Bool) : ((aB n f).map X.d).set j (xb v) = (aB n (upd f j v)).map X.d := by
 apply List.ext_getElem?
 intro i
 by_cases hi : i < n
 ·by_cases hj : j = i
  ·subst hj; simp [aB, upd, hi]
  ·rw [List.getElem?_set_ne hj]; simp [aB, upd, hi, Ne.symm hj]
 ·rw [List.getElem?_eq_none (by simp [aB]; omega), List.getElem?_eq_none (by simp [aB]; omega)]
theorem zOt {α : Type} (cs : List α) (j : Nat) (v : α) (h : cs.length ≠ 1) : z3c cs j [v] = cs.set j v := by
 unfold z3c
 rw [if_neg (by simp; omega)]
theorem zrj (n : Nat) (f : Nat → Bool) (j : Nat) (v : Bool) (h : j < n) (hn : n ≠ 1 := by decide) : j + 1 ≤ ((aB n f).map X.d).length ∧ z3c ((aB n f).map X.d) j [xb v] = (aB n (upd f j v)).map X.d :=
 ⟨by simp [zRl]; omega, by rw [zOt _ _ _ (by simpa [zRl] using hn), z8w]⟩
theorem z4p (n : Nat) (f : Nat → Bool) (i : Int) (h : (decide (0 ≤ i) && decide (i < (n : Int))) = true) : (if 0 ≤ i ∧ i < (n : Int) then (zVh false 1 ((aB n f).drop (i.toNat * 1))).map X.d else none) = some (xb (f i.toNat)) := by
 have h' : 0 ≤ i ∧ i < (n : Int) := by simpa using h
 rw [if_pos h']
 simp [zVh, zhq f (show i.toNat < n by omega)]
theorem z1p (m z : Nat) (f : Nat → Bool) (i : Int) (h : (decide (0 ≤ i) && decide (i < (m : Int))) = true) : (if 0 ≤ i ∧ i < (m : Int) then (zVh true z ((aB (m * z) f).drop (i.toNat * z))).map X.d else none) = some (.d (.agg (aB z (fun k => f (i.toNat * z + k))))) := by
 have h' : 0 ≤ i ∧ i < (m : Int) := by simpa using h
 have hb : i.toNat * z + z ≤ m * z := by
  have : (i.toNat + 1) * z ≤ m * z := Nat.mul_le_mul_right z (by omega)
  rw [Nat.add_mul, Nat.one_mul] at this; exact this
 rw [if_pos h']
 unfold zVh
 rw [if_pos rfl, if_pos (by simp [zRl]; omega), z5s _ _ _ f hb]; rfl
def eqB (f g : Nat → Bool) : Nat → Nat → Bool
 | _, 0 => true
 | i, n + 1 => (f i == g i) && eqB f g (i + 1) n
def zsb (x y : Int) : Int := w64 (BitVec.ofInt 64 x &&& BitVec.ofInt 64 y).toNat
def or64 (x y : Int) : Int := w64 (BitVec.ofInt 64 x ||| BitVec.ofInt 64 y).toNat
def zWi (x y : Int) : Int := w64 (BitVec.ofInt 64 x &&& ~~~ BitVec.ofInt 64 y).toNat
def rowO {α : Type} (b : Bool) (z : Nat) (e : α → List D) (l : List α) (w : Bool) : O := cond (b && l.isEmpty) .nrow (.row z (l.map e) w)
def rcap {α : Type} (b : Bool) (l : List α) : Cap := cond (b && l.isEmpty) .nil .ro
def xcap {α : Type} (b : Bool) (l : List α) : Cap := cond (b && l.isEmpty) .nil .ex
section
variable {α : Type} {b : Bool} {z : Nat} {e : α → List D} {l : List α} {w : Bool}
theorem zxi (b : Bool) (z : Nat) (e : α → List D) (l : List α) (w : Bool) : (b = true ∧ l = [] ∧ rowO b z e l w = .nrow) ∨ (rowO b z e l w = .row z (l.map e) w ∧ (b && l.isEmpty) = false) := by
 unfold rowO
 cases b with
 | false => exact .inr ⟨rfl, rfl⟩
 | true =>
  cases l with
  | nil => exact .inl ⟨rfl, rfl, rfl⟩
  | cons a t => exact .inr ⟨rfl, rfl⟩
theorem zQg (b : Bool) (z : Nat) (e : α → List D) (l : List α) (w : Bool) : ∀ l' ss, O.refs l' ss (rowO b z e l w) = false := by
 intro l' ss
 unfold rowO
 cases (b && l.isEmpty) <;> rfl
theorem z3m (hz : ∀ y, (e y).length = z) (l : List α) : ((l.map e).all fun e => e.length == z) = true := by
 rw [List.all_eq_true]
 intro x hx
 obtain ⟨y, _, rfl⟩ := List.mem_map.1 hx
 simp [hz y]
theorem zJy (l2 : List α) (hz : ∀ y, (e y).length = z) (h : decide (l.length + l2.length ≤ LIM) = true) : appO z (rowO b z e l w) l.length (l2.map e) = some ((l ++ l2).length, rowO b z e (l ++ l2) (w || (b && l.isEmpty))) := by
 have h' : l.length + l2.length ≤ LIM := by simpa using h
 unfold appO
 rw [if_pos ⟨by simpa using h', z3m hz l2⟩]
 rcases zxi b z e l w with ⟨rfl, rfl, hr⟩ | ⟨hr, hf⟩
 ·rw [hr]
  simp only [List.length_nil, if_true, List.nil_append, List.isEmpty_nil, Bool.and_self, Bool.or_true]
  cases l2 with
  | nil => rfl
  | cons a t => simp [rowO]
 ·rw [hr, hf]
  simp only [List.length_map, and_self, if_true, List.length_append, Bool.or_false]
  unfold rowO
  have : (b && (l ++ l2).isEmpty) = false := by
   cases b with
   | false => rfl
   | true =>
    cases l with
    | nil => simp at hf
    | cons a t => rfl
  rw [this]
  simp
theorem o_ap (x : α) (hz : ∀ y, (e y).length = z) (h : decide (l.length + 1 ≤ LIM) = true) : appO z (rowO b z e l w) l.length [e x] = some ((l ++ [x]).length, rowO b z e (l ++ [x]) (w || (b && l.isEmpty))) := zJy [x] hz h
theorem zyu : zch (fun _ _ => some (rowO b z e l w)) 0 0 l.length = true := by
 unfold zch
 rcases zxi b z e l w with ⟨rfl, rfl, hr⟩ | ⟨hr, hf⟩ <;> rw [hr] <;> simp
theorem zFj (b : Bool) (z : Nat) (e : α → List D) (l : List α) (w : Bool) : (if zch (fun _ _ => some (rowO b z e l w)) 0 0 l.length = true then some (X.d (.i .i64 ((l.length : Nat) : Int))) else none) = some (xi (l.length : Int)) := by
 rw [if_pos zyu]
theorem zwn {n : Int} {y : α} (h : idx l n = some y) : 0 ≤ n ∧ n < (l.length : Int) ∧ l[n.toNat]? = some y := by
 unfold idx at h
 split at h
 ·rename_i h0
  obtain ⟨hl, _⟩ := List.getElem?_eq_some_iff.1 h
  exact ⟨h0, by omega, h⟩
 ·simp at h
theorem zrn {n : Int} {y : α} (h : idx l n = some y) : rowO b z e l w = .row z (l.map e) w := by
 obtain ⟨h0, h1, _⟩ := zwn h
 rcases zxi b z e l w with ⟨_, rfl, _⟩ | ⟨hr, _⟩
 ·simp at h1; omega
 ·exact hr
theorem zny {P : Program} {T : TypeId} {lv s : Nat} {n : Int} {y : α} {bt : Nat} (ha : arT P T = none) (hs : slT P T = some (z, bt)) (h : idx l n = some y) : iaX P (fun _ _ => some (rowO b z e l w)) T (.row lv s l.length) (xi n) = some (.rp lv s l.length n.toNat 0) := by
 obtain ⟨h0, h1, _⟩ := zwn h
 simp only [iaX, intX, ha, hs, zrn (b := b) (z := z) (e := e) (w := w) h]
 rw [if_pos ⟨by simp, by trivial, h0, h1⟩]
theorem zry {P : Program} {T : TypeId} {lv s o : Nat} {n : Int} {y : α} {q : Nat × Bool} {x : X} (ht : tyT P T = some q) (h : idx l n = some y) (hx : (zVh q.2 q.1 ((e y).drop o)).map X.d = some x) : ldX P (fun _ _ => some (rowO b z e l w)) T (.rp lv s l.length n.toNat o) = some x := by
 obtain ⟨h0, h1, h2⟩ := zwn h
 simp only [ldX, ht, zrn (b := b) (z := z) (e := e) (w := w) h]
 rw [if_pos (by simp), List.getElem?_map, h2]
 exact hx
theorem zTx {P : Program} {T : TypeId} {lv s o f : Nat} {n : Int} {y : α} {q : Nat × Nat × Bool} (hf : fdT P T f = some q) (hq : q.2.1 ≠ 0) (h : idx l n = some y) : faX P (fun _ _ => some (rowO b z e l w)) T (.rp lv s l.length n.toNat o) f = some (.rp lv s l.length n.toNat (o + q.1)) := by
 simp only [faX, hf, hq, if_false, live, zrn (b := b) (z := z) (e := e) (w := w) h]
 simp
theorem o_rs {o n : Nat} {ds : List D} {i : Int} {y y' : α} (h : idx l i = some y) (hn : o + n ≤ (e y).length) (hy : z3c (e y) o ds = e y') : stO (rowO b z e l true) l.length i.toNat o n ds = some (rowO b z e (l.set i.toNat y') true) := by
 obtain ⟨h0, h1, h2⟩ := zwn h
 simp only [stO, zrn (b := b) (z := z) (e := e) (w := true) h]
 rw [if_pos (by simp), List.getElem?_map, h2]
 simp only [Option.map_some, Option.bind_some]
 rw [if_pos hn, hy]
 have hne : (b && (l.set i.toNat y').isEmpty) = false := by
  cases b with
  | false => rfl
  | true =>
   cases l with
   | nil => simp at h1; omega
   | cons a t => cases i.toNat <;> rfl
 unfold rowO
 rw [hne]
 simp [List.map_set]
theorem zxu (b : Bool) (z : Nat) (e : α → List D) (l : List α) (w : Bool) : zTh (rowO b z e l w) = rowO b z e l false := by
 unfold rowO
 cases (b && l.isEmpty) <;> cases w <;> rfl
theorem z1v (b : Bool) (z : Nat) (e : α → List D) (l : List α) (lv s : Nat) : toD (fun _ _ => some (rowO b z e l false)) (.row lv s l.length) = some (dl e l (rcap b l)) := by
 rcases zxi b z e l false with ⟨rfl, rfl, hr⟩ | ⟨hr, hf⟩
 ·simp [toD, hr, rcap]
 ·simp [toD, hr, rcap, hf]
theorem o_cr (b : Bool) (z : Nat) (e : α → List D) (l : List α) (w : Bool) (lv s : Nat) : zTh (rowO b z e l w) = rowO b z e l false ∧ toD (fun _ _ => some (rowO b z e l false)) (.row lv s l.length) = some (dl e l (rcap b l)) := ⟨zxu b z e l w, z1v b z e l lv s⟩
theorem o_sr {P : Program} {T U : TypeId} {ρ : Operand → X} {lv s by' : Nat} (b : Bool) (z : Nat) (e : α → List D) (l : List α) (w : Bool) {lo hi mx : Option Operand} (hu : P.underlying T = some (.slice U)) (hs : slT P T = some (z, by')) (h1 : optI ρ lo = some none) (h2 : optI ρ hi = some (some (l.length : Int))) (h3 : optI ρ mx = some (some (l.length : Int))) :
  zTh (rowO b z e l w) = rowO b z e l false ∧ zCe P (fun _ _ => some (rowO b z e l false)) T ρ (.row lv s l.length) lo hi mx = some (.d (dl e l (xcap b l))) := by
 refine ⟨zxu b z e l w, ?_⟩
 simp only [zCe, h1, h2, h3, hu, z1v, hs, Option.bind_some]
 simp only [cutX, Option.getD_none, Option.getD_some]
 rw [if_pos ⟨by omega, by omega, by simp, .inl (by trivial)⟩, if_pos ⟨by omega, by simp, rfl⟩]
 simp only [Option.map_some, Int.toNat_natCast]
 rw [List.take_of_length_le (by simp)]
 unfold rcap xcap
 cases (b && l.isEmpty) <;> simp
theorem zOr {fr : Fr} {s : Nat} (b : Bool) (z : Nat) (e : α → List D) (l : List α) (w : Bool) (h : aget s fr = some (rowO b z e l w)) : zie ⟨fr, []⟩ (.row 0 s l.length) = some (dl e l (rcap b l)) := by
 unfold zie
 simp only [List.length_nil, if_true, h]
 rcases zxi b z e l w with ⟨rfl, rfl, hr⟩ | ⟨hr, hf⟩
 ·simp [hr, rcap]
 ·simp [hr, rcap, hf]
theorem zsu {fr : Fr} {s : Nat} (b : Bool) (z : Nat) (e : α → List D) (l : List α) (w : Bool) (h : aget s fr = some (rowO b z e l w)) : snap ⟨fr, []⟩ (.row 0 s l.length) = some (dl e l (rcap b l)) := by
 have := zOr b z e l w h
 simpa only [snap] using this
theorem o_s1 {fs : FS} {x : X} {t : List X} {d : D} {ds : List D} (h : snap fs x = some d) (k : zad fs t = some ds) : zad fs (x :: t) = some (d :: ds) := by simp only [zad, h, k]
theorem o_s0 {fs : FS} : zad fs [] = some [] := rfl
theorem o_c1 {fs : FS} {x : X} {t : List X} {d : D} {ds : List D} (h : zie fs x = some d) (k : zXe fs t = some ds) : zXe fs (x :: t) = some (d :: ds) := by simp only [zXe, h, k]
theorem o_c0 {fs : FS} : zXe fs [] = some [] := rfl
theorem o_cd {fs : FS} {x : D} {t : List X} {ds : List D} (k : zXe fs t = some ds) : zXe fs (.d x :: t) = some (x :: ds) := by simp only [zXe, zie, k]
theorem zbx {fs : FS} {cs : List X} {ds : List D} (h : zXe fs cs = some ds) : snap fs (.agg cs) = some (.agg ds) := by simp only [snap, h, Option.map_some]
theorem o_ns {P : Program} {φ : Get} {T : TypeId} {q : Nat × List D} {c : Cap} (l : List α) (hq : okS P T = some q) (hz : ∀ y, (e y).length = q.1) (h : decide (l.length ≤ LIM) = true) : ∃ k, appQ P φ T (.d (.sl [] .ex)) (.d (.sl (l.map e) c)) = some (.d (.sl (l.map e) k)) := by
 have h' : l.length ≤ LIM := by simpa using h
 simp only [appQ, hq, zye]
 rw [if_pos ⟨by simpa using h', z3m hz l, by simp⟩]
 cases l with
 | nil => exact ⟨.ex, rfl⟩
 | cons a t => exact ⟨.ro, rfl⟩
theorem zOl (l : List α) (e : α → List D) : (l.map e).length = l.length := by simp
theorem z8x {P : Program} {φ : Get} {T : TypeId} {q : Nat × List D} {c c' : Cap} (l l2 : List α) (hq : okS P T = some q) (hz : ∀ y, (e y).length = q.1) (hc : decide (c = .ro) = false) (h : decide (l.length + l2.length ≤ LIM) = true) : appQ P φ T (.d (.sl (l.map e) c)) (.d (.sl (l2.map e) c')) = some (.d (dl e (l ++ l2) (cond l2.isEmpty c .ro))) := by
 have h' : l.length + l2.length ≤ LIM := by simpa using h
 simp only [appQ, hq, zye]
 rw [if_pos ⟨by simpa using h', z3m hz l2, z3m hz l⟩]
 cases l2 with
 | nil => simp
 | cons a t =>
  simp only [List.map_cons, List.isEmpty_cons, Bool.false_eq_true, if_false, cond_false]
  rw [if_neg (by simpa using hc)]
  simp
theorem o_ad {P : Program} {φ : Get} {T : TypeId} {q : Nat × List D} {c : Cap} (l : List α) (x : α) (hq : okS P T = some q) (hz : ∀ y, (e y).length = q.1) (hc : decide (c = .ro) = false) (h : decide (l.length + 1 ≤ LIM) = true) : appQ P φ T (.d (.sl (l.map e) c)) (.d (.sl [e x] .ex)) = some (.d (dl e (l ++ [x]) .ro)) := by
 have h' : l.length + 1 ≤ LIM := by simpa using h
 simp only [appQ, hq, zye]
 rw [if_pos ⟨by simpa using h', by simp [hz], z3m hz l⟩]
 simp only [List.isEmpty_cons, Bool.false_eq_true, if_false]
 rw [if_neg (by simpa using hc)]
 simp
end
def ccap (c : Cap) : Cap := if c = .nil then .nil else .ex
theorem zFe {α : Type} {e : α → List D} {z : Nat} (l : List α) (c : Cap) : (cutX z (l.map e) c none (some (l.length : Int)) (some (l.length : Int))).map X.d = some (.d (dl e l (ccap c))) := by
 simp only [cutX, Option.getD_none, Option.getD_some]
 rw [if_pos ⟨by omega, by omega, by simp, .inl (by trivial)⟩, if_pos ⟨by omega, by simp, rfl⟩]
 simp only [if_true, Int.toNat_natCast, Option.map_some]
 rw [List.take_of_length_le (by simp)]
 rfl
def em {κ ν : Type} (ek : κ → D) (ev : ν → D) (m : List (κ × ν)) : List (D × D) := m.map fun p => (ek p.1, ev p.2)
def z7 {κ ν : Type} (q : κ → κ → Bool) (k : κ) : List (κ × ν) → Option ν
 | [] => none
 | p :: t => cond (q k p.1) (some p.2) (z7 q k t)
def mset {κ ν : Type} (q : κ → κ → Bool) (k : κ) (v : ν) : List (κ × ν) → List (κ × ν)
 | [] => [(k, v)]
 | p :: t => cond (q k p.1) ((p.1, v) :: t) (p :: mset q k v t)
section
variable {κ ν : Type} {ek : κ → D} {evl : ν → D} {q : κ → κ → Bool}
theorem zlt (hq : ∀ a b, eqD (ek a) (ek b) = some (q a b)) (k : κ) : ∀ m : List (κ × ν), zJl (ek k) (em ek evl m) = some ((z7 q k m).map evl)
 | [] => rfl
 | p :: t => by
  simp only [em, List.map_cons, zJl, hq, z7]
  cases q k p.1
  ·exact zlt hq k t
  ·rfl
theorem z5p (hq : ∀ a b, eqD (ek a) (ek b) = some (q a b)) (k : κ) (v : ν) : ∀ m : List (κ × ν), setD (ek k) (evl v) (em ek evl m) = some (em ek evl (mset q k v m))
 | [] => rfl
 | p :: t => by
  simp only [em, List.map_cons, setD, hq, mset]
  cases q k p.1
  ·have := z5p hq k v t
   simp only [em] at this
   simp only [this, Option.map_some, cond_false, List.map_cons]
  ·rfl
theorem zii (hq : ∀ a b, eqD (ek a) (ek b) = some (q a b)) (k : κ) (m : List (κ × ν)) (z : ν) : ((zJl (ek k) (em ek evl m)).map fun r => X.d (r.getD (evl z))) = some (.d (evl ((z7 q k m).getD z))) := by
 rw [zlt hq]
 simp only [Option.map_some]
 cases z7 q k m <;> rfl
end
end Go.AM
set_option linter.unusedSimpArgs false
set_option linter.unusedVariables false
namespace Go.AM
open Go Go.RowKit
def z3e (W : World) : Imm := ⟨fun b o => W.cell? ⟨b, o, none⟩, fun _ => none⟩
theorem zZu {E : Env} {W : World} (hg : ∀ g cs, E.G g = some cs → DR (z3e W) (.pin cs) (.pointer (some ⟨g, 0, none⟩))) : IW E (z3e W) W :=
 ⟨fun b o v h => h, fun r e h => by simp [z3e] at h, hg⟩
def z3n : Value → Prop
 | .slice (some a) _ _ => a.spot = none
 | _ => True
theorem zVw {n : Int} (h : (Lit.int .i64 n).wf = true) : -9223372036854775808 ≤ n ∧ n ≤ 9223372036854775807 := by
 simpa [Lit.wf, IntKind.has, IntKind.min, IntKind.max, IntKind.signed, IntKind.bits] using h
def zEb (P : Program) (W : World) (T : TypeId) (ns : Bool) {α : Type} (e : α → List D) (good : α → Prop) : Prop :=
 ∀ (H : Type) (enc : TypeId × Value → H) (sp : Nat → Bool) (held : Bool) (fuel : Nat) (cs : List Value) (x : DataW H × List MemPlace), DataW.trod enc P W 0 sp held fuel T cs = some x → (ns = true → ∀ v, v ∈ cs → z3n v) →
  ∃ a : α, cs.length = (e a).length ∧ (∀ (j : Nat) d, (e a)[j]? = some d → ∃ v, cs[j]? = some v ∧ DR (z3e W) d v ∧ d.sc = true) ∧ good a
section
variable {P : Program} {W : World}
theorem zzd {T : TypeId} (ns : Bool) (hT : P.underlying T = some (.int .i64)) : zEb P W T ns eI (fun n => -9223372036854775808 ≤ n ∧ n ≤ 9223372036854775807) := by
 intro H enc sp held fuel cs x h _
 obtain ⟨n, rfl, _, hw⟩ := DataW.trod_int hT h
 refine ⟨n, rfl, fun j d hd => ?_, zVw hw⟩
 cases j with
 | zero => simp only [eI, List.getElem?_cons_zero, Option.some.injEq] at hd; subst hd; exact ⟨_, rfl, .i _ _, rfl⟩
 | succ j => simp [eI] at hd
theorem z0t {T : TypeId} (ns : Bool) (hT : P.underlying T = some .bool) : zEb P W T ns eB (fun _ => True) := by
 intro H enc sp held fuel cs x h _
 obtain ⟨b, rfl, _⟩ := DataW.trod_bool hT h
 refine ⟨b, rfl, fun j d hd => ?_, trivial⟩
 cases j with
 | zero => simp only [eB, List.getElem?_cons_zero, Option.some.injEq] at hd; subst hd; exact ⟨_, rfl, .b _, rfl⟩
 | succ j => simp [eB] at hd
theorem zEb.map {T : TypeId} {ns : Bool} {α β : Type} {e : α → List D} {e' : β → List D} {good : α → Prop} {good' : β → Prop} (h : zEb P W T ns e good) (g : α → β) (he : ∀ a, e' (g a) = e a) (hg : ∀ a, good a → good' (g a)) : zEb P W T ns e' good' := by
 intro H enc sp held fuel cs x hx hs
 obtain ⟨a, h1, h2, h3⟩ := h _ enc sp held fuel cs x hx hs
 exact ⟨g a, by rw [he]; exact h1, by rw [he]; exact h2, hg a h3⟩
def zio (P : Program) (W : World) (fs : List Field) (off : Nat) (ns : Bool) {α : Type} (e : α → List D) (good : α → Prop) : Prop :=
 ∀ (H : Type) (enc : TypeId × Value → H) (sp : Nat → Bool) (held : Bool) (fuel : Nat) (cs : List Value), (∀ f, f ∈ fs → ∃ y, DataW.trod enc P W 0 sp held fuel f.type ((cs.drop f.offset).take (P.cellsOf f.type)) = some y) → (ns = true → ∀ v, v ∈ cs → z3n v) →
  ∃ a : α, (∀ (j : Nat) d, (e a)[j]? = some d → ∃ v, cs[off + j]? = some v ∧ DR (z3e W) d v ∧ d.sc = true) ∧ good a
theorem zgh (off : Nat) (ns : Bool) : zio P W [] off ns (fun _ : Unit => []) (fun _ => True) := by
 intro H enc sp held fuel cs _ _
 exact ⟨(), fun j d h => by simp at h, trivial⟩
theorem zkb {f : Field} {fs : List Field} {off z : Nat} {ns : Bool} {α β : Type} {e : α → List D} {e' : β → List D} {good : α → Prop} {good' : β → Prop} (hf : zEb P W f.type ns e good) (ho : f.offset = off) (hz : ∀ a, (e a).length = z) (h : zio P W fs (off + z) ns e' good') :
  zio P W (f :: fs) off ns (fun p : α × β => e p.1 ++ e' p.2) (fun p => good p.1 ∧ good' p.2) := by
 intro H enc sp held fuel cs hx hs
 obtain ⟨y, hy⟩ := hx f (by simp)
 obtain ⟨a, h1, h2, h3⟩ := hf _ enc sp held fuel _ y hy (fun hn v hv => hs hn v (List.mem_of_mem_drop (List.mem_of_mem_take hv)))
 obtain ⟨b, k1, k2⟩ := h _ enc sp held fuel cs (fun g hg => hx g (by simp [hg])) hs
 refine ⟨(a, b), fun j d hd => ?_, h3, k2⟩
 simp only at hd
 by_cases hj : j < z
 ·rw [List.getElem?_append_left (by rw [hz]; exact hj)] at hd
  obtain ⟨v, v1, v2⟩ := h2 j d hd
  refine ⟨v, ?_, v2⟩
  rw [List.getElem?_take] at v1
  split at v1
  ·rw [List.getElem?_drop, ho] at v1; exact v1
  ·simp at v1
 ·rw [List.getElem?_append_right (by rw [hz]; omega), hz] at hd
  obtain ⟨v, v1, v2⟩ := k1 _ d hd
  refine ⟨v, ?_, v2⟩
  rw [show off + z + (j - z) = off + j by omega] at v1
  exact v1
theorem zbs {T : TypeId} {ns : Bool} {fs : Array Field} {α : Type} {e : α → List D} {good : α → Prop} (hT : P.underlying T = some (.struct fs)) (hz : ∀ a, (e a).length = P.cellsOf T) (h : zio P W fs.toList 0 ns e good) : zEb P W T ns e good := by
 intro H enc sp held fuel cs x hx hs
 obtain ⟨xs, n, rfl, _, hl, hn, hf⟩ := DataW.trod_struct hT hx
 obtain ⟨a, h1, h2⟩ := h _ enc sp held n cs (fun f hf' => by
  obtain ⟨i, hi⟩ := List.mem_iff_getElem?.1 hf'
  rw [Array.getElem?_toList] at hi
  have hlt := (Array.getElem?_eq_some_iff.1 hi).1
  exact ⟨xs[i], by rw [hf i f hi]; exact List.getElem?_eq_getElem (by omega)⟩) hs
 exact ⟨a, by rw [hl, hz], fun j d hd => by simpa using h1 j d hd, h2⟩
def zZh (P : Program) (T : TypeId) : Array Field := match P.underlying T with
 | some (.struct fs) => fs
 | _ => #[]
def zN (P : Program) (T : TypeId) (i : Nat) : Field := ((zZh P T)[i]?).getD default
theorem zjf {T : TypeId} {ns : Bool} {fs : Array Field} {l : List Field} {α : Type} {e : α → List D} {good : α → Prop} (hT : P.underlying T = some (.struct fs)) (hl : fs.toList = l) (hz : ∀ a, (e a).length = P.cellsOf T) (h : zio P W l 0 ns e good) : zEb P W T ns e good :=
 zbs hT hz (hl ▸ h)
def zkh {α : Type} (good : α → Prop) (s : SL α) : Prop := (∀ a, a ∈ s.1 → good a) ∧ ((s.2 = .nil ∧ s.1 = []) ∨ s.2 = .ro) ∧ s.1.length ≤ maxLen
theorem zRo {α β : Type} : ∀ (l : List β) (p : Nat → β → α → Prop), (∀ (i : Nat) b, l[i]? = some b → ∃ a, p i b a) → ∃ al : List α, al.length = l.length ∧ ∀ (i : Nat) b a, l[i]? = some b → al[i]? = some a → p i b a
 | [], p, _ => ⟨[], rfl, fun i b a h => by simp at h⟩
 | b :: t, p, h => by
  obtain ⟨a, ha⟩ := h 0 b rfl
  obtain ⟨al, h1, h2⟩ := zRo t (fun i => p (i + 1)) fun i b hb => h (i + 1) b (by simpa using hb)
  refine ⟨a :: al, by simp [h1], fun i b' a' hb ha' => ?_⟩
  cases i with
  | zero =>
   simp only [List.getElem?_cons_zero, Option.some.injEq] at hb ha'
   subst hb; subst ha'; exact ha
  | succ i => exact h2 i b' a' (by simpa using hb) (by simpa using ha')
theorem znj {T U : TypeId} {α : Type} {e : α → List D} {good : α → Prop} (hT : P.underlying T = some (.slice U)) (hU : zEb P W U false e good) (hz : ∀ a, (e a).length = P.cellsOf U) (hp : 0 < P.cellsOf U) :
  zEb P W T true (eL e) (zkh good) := by
 intro H enc sp held fuel cs x hx hs
 have one : ∀ (s : SL α) (v : Value), cs = [v] → DR (z3e W) (.sl (s.1.map e) s.2) v → ∀ (j : Nat) d, (eL e s)[j]? = some d → ∃ v, cs[j]? = some v ∧ DR (z3e W) d v ∧ d.sc = true := by
  intro s v hcs hd j d hj
  cases j with
  | zero => simp only [eL, List.getElem?_cons_zero, Option.some.injEq] at hj; subst hj; exact ⟨v, by rw [hcs]; rfl, hd, rfl⟩
  | succ j => simp [eL] at hj
 rcases DataW.trod_slice hT hx with ⟨rfl, _⟩ | ⟨a, len, cap, elems, rest, n, _, rfl, _, hb, hl, hm, hlen, hel, _, _⟩
 ·exact ⟨([], .nil), rfl, one ([], .nil) _ rfl .nils, fun a h => by simp at h, .inl ⟨rfl, rfl⟩, by simp⟩
 ·have hspot : a.spot = none := hs rfl (.slice (some a) len cap) (by simp)
  obtain ⟨β, o, sp'⟩ := a
  simp only at hspot
  subst hspot
  obtain ⟨al, h1, h2⟩ := zRo elems (fun i y a => (∀ (j : Nat) d, (e a)[j]? = some d → ∃ v, W.cell? ⟨β, o + (i * P.cellsOf U + j), none⟩ = some v ∧ DR (z3e W) d v ∧ d.sc = true) ∧ good a) (fun i y hy => by
   have hi : i < len := by rw [← hlen]; exact (List.getElem?_eq_some_iff.1 hy).1
   have := hel i hi
   rw [hy] at this
   obtain ⟨cs', hc, ht⟩ := Option.bind_eq_some_iff.1 this
   obtain ⟨a, a1, a2, a3⟩ := hU _ enc sp held n cs' y ht (fun h => by simp at h)
   refine ⟨a, fun j d hd => ?_, a3⟩
   obtain ⟨v, v1, v2⟩ := a2 j d hd
   refine ⟨v, ?_, v2⟩
   have hj : j < P.cellsOf U := by rw [← hz a]; exact (List.getElem?_eq_some_iff.1 hd).1
   have h3 := (World.cells?_some hc).2.2 j hj
   rw [v1] at h3
   rw [← h3]
   congr 1
   by_cases h0 : i * P.cellsOf U = 0
   ·by_cases hj0 : j = 0
    ·simp [Addr.add, h0, hj0]
    ·simp [Addr.add, h0, hj0]
   ·by_cases hj0 : j = 0
    ·simp [Addr.add, h0, hj0]
    ·simp [Addr.add, h0, hj0, Nat.add_assoc])
  have hal : al.length = len := by rw [h1, hlen]
  refine ⟨(al, .ro), rfl, one (al, .ro) _ rfl ?_, fun x hx => ?_, .inr rfl, by rw [show (al, Cap.ro).1.length = len from hal]; omega⟩
  ·have hsl : DR (z3e W) (.sl (al.map e) .ro) (.slice (some ⟨β, o, none⟩) (al.map e).length cap) := by
    have get : ∀ (i j : Nat) e' d, (al.map e)[i]? = some e' → e'[j]? = some d → ∃ v, W.cell? ⟨β, o + (i * P.cellsOf U + j), none⟩ = some v ∧ DR (z3e W) d v ∧ d.sc = true := by
     intro i j e' d he hd
     rw [List.getElem?_map] at he
     obtain ⟨a, ha, rfl⟩ := Option.map_eq_some_iff.1 he
     have hi : i < elems.length := by rw [← h1]; exact (List.getElem?_eq_some_iff.1 ha).1
     exact (h2 i _ a (List.getElem?_eq_getElem hi) ha).1 j d hd
    refine .sl (P.cellsOf U) (fun i j => ((W.cell? ⟨β, o + (i * P.cellsOf U + j), none⟩).getD undef)) (by simp) (by simp) (by simp [hal, hl]) (fun e' he => ?_) (fun e' he d hd => ?_) (fun i j e' d he hd => ?_) (fun i j e' d he hd => ?_)
    ·obtain ⟨a, _, rfl⟩ := List.mem_map.1 he; exact hz a
    ·obtain ⟨i, hi⟩ := List.mem_iff_getElem?.1 he
     obtain ⟨j, hj⟩ := List.mem_iff_getElem?.1 hd
     obtain ⟨v, _, _, h⟩ := get i j e' d hi hj
     exact h
    ·obtain ⟨v, hv, _⟩ := get i j e' d he hd
     show W.cell? _ = _
     rw [hv]; rfl
    ·obtain ⟨v, hv, h, _⟩ := get i j e' d he hd
     rw [hv]; exact h
   simpa [hal] using hsl
  ·obtain ⟨i, hi⟩ := List.mem_iff_getElem?.1 hx
   have hlt : i < elems.length := by rw [← h1]; exact (List.getElem?_eq_some_iff.1 hi).1
   exact (h2 i _ x (List.getElem?_eq_getElem hlt) hi).2
end
end Go.AM
set_option linter.unusedSimpArgs false
set_option linter.unusedVariables false
namespace Go.AM
open Go Go.RowKit Go.ChangeShapes Go.WideShapes Go.ChangeAt
section
variable {H : Type} {enc : TypeId × Value → H} {P : Program}
theorem zxr {f : Func} {s : ChangeSpec} {apart fresh handsOn again : Bool} {W W' : World} {args : Array Value} {v : Value} {ds gs : List (DataW H)} {before pa pv : List MemPlace}
  (hW : DataW.Whole enc P f.params.toList s.vars apart W args.toList ds gs before)
  (hres : ∀ (b : Nat) (sp : Nat → Bool) (hd : Bool), DataW.TrodAll enc P W' b sp hd f.resultTypes.toList (v.resultList f.resultTypes.size) (s.fn H (ds ++ gs)).results [])
  (hargs : ∀ sp : Nat → Bool, (∀ p ∈ before, sp p.block = true) → DataW.TrodAll enc P W' 0 sp true f.params.toList args.toList (s.fn H (ds ++ gs)).args pa)
  (hvars : ∀ sp : Nat → Bool, (∀ p ∈ before, sp p.block = true) → DataW.TrodVars enc P W' sp s.vars (s.fn H (ds ++ gs)).vars pv)
  (hps : before = pa ++ pv) (hb : Below W.heap.size W W')
  (hok : ∀ (j : Nat) (t : TypeId) (r : Value), f.resultTypes[j]? = some t → (v.resultList f.resultTypes.size)[j]? = some r → Value.okWide P W' .any 0 t r) :
  s.post enc P f apart fresh handsOn again W args v W' := by
 have hlt : ∀ p ∈ before, p.block < W.heap.size := fun p hp => hW.lt p hp
 have hold : ∀ p ∈ before, (fun b => decide (b < W.heap.size)) p.block = true := fun p hp => by simpa using hlt p hp
 refine ⟨ds, gs, before, [], pa, pv, hW, hres _ _ _, hargs _ hold, hvars _ hold, World.keptBut_mono (fun p hp => ⟨hp, ?_⟩) (hb.frame (· ∈ before)), fun _ => ?_⟩
 ·rw [hps, List.mem_append] at hp
  exact Or.inr hp
 ·obtain ⟨_, _, _, _, _, hz, hn⟩ := hW
  refine ⟨hok, _, _, ([] ++ pa) ++ pv, ⟨[] ++ pa, pv, trodAll_append (hargs _ (fun _ _ => rfl)) (hres _ _ _), hvars _ (fun _ _ => rfl), rfl, ?_, ?_⟩, ?_⟩
  ·intro b off hp
   have hin : MemPlace.cell b off ∈ before := by rw [hps]; simpa using hp
   rw [hb.frozen (hlt _ hin)]
   exact hz b off hin
  ·intro ha
   have := hn ha
   rw [hps] at this
   simpa using this
  ·intro p hp _
   rw [hps]
   simpa using hp
end
theorem z0o {P : Program} {W : World} {r : Go.Reach} {base : Nat} {t : TypeId} {v : Value} (h : Cell.okWide P W r base t v) : z3n v := by
 unfold z3n
 split
 ·rename_i a n c
  unfold Cell.okWide at h
  cases hu : P.underlying t with
  | none => simp [hu, Cell.ok] at h
  | some u =>
   cases u <;> simp [hu, Cell.ok] at h
   exact h.2.2.2.1
 ·trivial
theorem zWt {P : Program} {W : World} {r : Go.Reach} {base : Nat} {t : TypeId} {cs : Array Value} (h : Row.okWide P W r base t cs) : ∀ v, v ∈ cs.toList → z3n v := by
 obtain ⟨ts, _, _, h⟩ := h
 intro v hv
 obtain ⟨i, hi⟩ := List.mem_iff_getElem?.1 hv
 obtain ⟨u, _, hu⟩ := h i v (by rwa [Array.getElem?_toList] at hi)
 exact z0o hu
theorem zJw {P : Program} {W : World} {H : Type} {enc : TypeId × Value → H} {T : TypeId} {α : Type} {e : α → List D} {good : α → Prop} {ns : Bool} (ho : zEb P W T ns e good) {r : Go.Reach} {base : Nat} {v : Value} {d : DataW H} {ps : List MemPlace} {sp : Nat → Bool} {held : Bool}
  (hT : (match P.underlying T with | some (.struct _) => true | some (.array _ _) => true | _ => false) = true) (hval : Value.okWide P W r base T v) (h : DataW.Trod enc P W 0 sp held T v d ps) : ∃ a, DR (z3e W) (.agg (e a)) v ∧ good a := by
 have hc : ∃ cs, v = .agg cs ∧ cs.size = P.cellsOf T ∧ Row.okWide P W r base T cs := by
  unfold Value.okWide at hval
  split at hval
  ·exact hval
  ·exact hval
  ·rename_i h1 h2
   exfalso
   cases hu : P.underlying T with
   | none => simp [hu] at hT
   | some u => cases u <;> simp [hu] at hT <;> simp_all
 obtain ⟨cs, rfl, _, hrow⟩ := hc
 obtain ⟨fuel, ht⟩ := h
 obtain ⟨a, a1, a2, a3⟩ := ho _ enc sp held fuel cs.toList _ ht (fun _ => zWt hrow)
 refine ⟨a, .agg (by simpa using a1) (fun d hd => ?_) (fun j d hd => ?_), a3⟩
 ·obtain ⟨j, hj⟩ := List.mem_iff_getElem?.1 hd
  obtain ⟨_, _, _, h⟩ := a2 j d hj
  exact h
 ·obtain ⟨v, hv, hd', _⟩ := a2 j d hd
  rw [Array.getElem?_toList] at hv
  rw [Array.getD_eq_getD_getElem?, hv]
  exact hd'
theorem zdw {P : Program} {W : World} {H : Type} {enc : TypeId × Value → H} {T : TypeId} {α : Type} {e : α → List D} {good : α → Prop} {ns : Bool} (ho : zEb P W T ns e good) {r : Go.Reach} {base : Nat} {v : Value} {d : DataW H} {ps : List MemPlace} {sp : Nat → Bool} {held : Bool}
  (hT : (match P.underlying T with | some (.struct _) => false | some (.array _ _) => false | _ => true) = true) (hval : Value.okWide P W r base T v) (hv1 : v.cells.toList = [v]) (h : DataW.Trod enc P W 0 sp held T v d ps) : ∃ a d, e a = [d] ∧ DR (z3e W) d v ∧ good a := by
 have hc : Cell.okWide P W r base T v := by
  unfold Value.okWide at hval
  split at hval
  ·rename_i h1; simp [h1] at hT
  ·rename_i h1; simp [h1] at hT
  ·exact hval
 obtain ⟨fuel, ht⟩ := h
 rw [hv1] at ht
 obtain ⟨a, a1, a2, a3⟩ := ho _ enc sp held fuel [v] _ ht (fun _ u hu => by simp at hu; subst hu; exact z0o hc)
 cases he : e a with
 | nil => rw [he] at a1; simp at a1
 | cons d t =>
  cases t with
  | cons d' t => rw [he] at a1; simp at a1
  | nil =>
   obtain ⟨u, hu, hd, _⟩ := a2 0 d (by rw [he]; rfl)
   simp at hu
   subst hu
   exact ⟨a, d, he, hd, a3⟩
theorem znv {P : Program} {W : World} {T : TypeId} {r : Go.Reach} {base : Nat} {v : Value} (hT : (match P.underlying T with | some (.struct _) => false | some (.array _ _) => false | _ => true) = true) (hval : Value.okWide P W r base T v) : v.cells.toList = [v] := by
 have hc : Cell.okWide P W r base T v := by
  unfold Value.okWide at hval
  split at hval
  ·rename_i h1; simp [h1] at hT
  ·rename_i h1; simp [h1] at hT
  ·exact hval
 cases v with
 | agg cs =>
  exfalso
  unfold Cell.okWide at hc
  cases hu : P.underlying T with
  | none => simp [hu, Cell.ok] at hc
  | some u => cases u <;> simp [hu, Cell.ok] at hc
 | _ => rfl
theorem znw {P : Program} {W : World} {H : Type} {enc : TypeId × Value → H} {T : TypeId} {r : Go.Reach} {base : Nat} {v : Value} {d : DataW H} {ps : List MemPlace} {sp : Nat → Bool} {held : Bool}
  (hT : P.underlying T = some (.int .i64)) (hval : Value.okWide P W r base T v) (h : DataW.Trod enc P W 0 sp held T v d ps) : ∃ n : Int, DR (z3e W) (.i .i64 n) v ∧ (-9223372036854775808 ≤ n ∧ n ≤ 9223372036854775807) := by
 obtain ⟨a, d', he, hd, hg⟩ := zdw (zzd true hT) (by rw [hT]) hval (znv (by rw [hT]) hval) h
 cases he
 exact ⟨a, hd, hg⟩
end Go.AM
set_option maxRecDepth 100000
namespace Go.AM
open Go Go.Proofs
def TE_H : Nat → Hint
 | 3 => ⟨some [0, 1, 2, 3, 4, 5, 6, 7, 8, 9, 10, 11, 12, 45, 75], [], [], [], [], [⟨3, [12], [], []⟩]⟩
 | 4 => ⟨some [0, 1, 2, 3, 4, 5, 6, 7, 8, 9, 10, 33], [], [], [], [], []⟩
 | 5 => ⟨some [0, 1, 2, 3, 4, 5, 6, 7, 29, 31], [], [], [], [], [⟨7, [4, 23, 25], [], []⟩]⟩
 | 6 => ⟨some [0, 1, 2, 3, 4, 5, 6, 25], [], [], [], [], []⟩
 | 7 => ⟨some [0, 1, 2, 4, 5, 6, 7, 8, 9, 10, 11, 12, 13, 14, 15, 16, 17, 18, 19, 20, 21, 24, 34, 47, 52, 58, 105, 110, 130, 135, 155], [], [], [], [], [⟨16, [11, 16], [], []⟩, ⟨17, [20], [], []⟩, ⟨29, [9], [], []⟩]⟩
 | 8 => ⟨some [0, 1, 2, 3, 4, 5, 6, 7, 8, 9, 10, 11, 12, 13, 14, 15, 16, 17, 26, 47, 66, 78, 158, 207], [], [], [], [85], [⟨3, [10, 11, 12], [], []⟩, ⟨6, [8, 10], [], []⟩, ⟨7, [7], [], []⟩, ⟨9, [8], [], []⟩, ⟨14, [10, 12, 14], [], []⟩, ⟨15, [7, 12], [], []⟩, ⟨17, [7, 12], [], []⟩, ⟨18, [18], [], []⟩, ⟨20, [], [], []⟩]⟩
 | 9 => ⟨some [0, 1, 2, 3, 4, 5, 6, 7, 8, 9, 10, 11, 12, 13, 14, 17, 38, 61, 71, 90, 94], [], [], [], [], [⟨3, [10, 11, 12], [], []⟩, ⟨15, [7, 12], [], []⟩, ⟨19, [10, 12], [], []⟩]⟩
 | 10 => ⟨some [0, 1, 2, 3, 4, 5, 6, 7, 8, 9, 10, 11, 12, 13, 14, 15, 16, 17, 26, 44, 96, 98], [], [38], [], [33], [⟨3, [5], [(4, 7)], [(1, [7])]⟩, ⟨4, [6, 8], [], []⟩, ⟨9, [8, 10], [], []⟩, ⟨10, [10, 11, 12], [], []⟩, ⟨17, [12, 14], [], []⟩]⟩
 | 11 => ⟨some [0, 1, 2, 3, 4, 5, 6, 7, 8, 9, 10, 11, 12, 13, 14, 15, 16, 17, 18, 19, 20, 21, 24, 34, 79, 122, 135, 180], [], [], [], [], [⟨4, [5, 6, 7], [], []⟩, ⟨31, [10, 11, 12], [], []⟩]⟩
 | 12 => ⟨some [0, 1, 2, 4, 5, 6, 8, 9, 11, 13, 14, 22, 39, 90, 118], [], [], [], [], [⟨13, [9, 10], [], []⟩]⟩
 | 13 => ⟨some [0, 1, 2, 3, 5, 6, 7, 8, 9, 10, 11, 12, 13, 14, 15, 16, 17, 18, 19, 22, 32, 53, 58, 103], [], [], [], [], [⟨6, [10, 11, 12], [], []⟩]⟩
 | 14 => ⟨some [0, 1, 2, 4, 5, 6, 7, 8, 9, 10, 11, 12, 13, 14, 15, 16, 17, 18, 19, 20, 32, 58, 84, 90, 123, 132, 163], [], [], [], [], []⟩
 | 15 => ⟨some [0, 1, 2, 4, 6, 8, 10, 12, 14, 16, 18, 19, 21, 23, 25, 27, 29, 31, 33, 34, 35, 36, 37, 38, 39, 40, 41, 42, 43, 44, 45, 109, 213, 268, 329, 384], [], [], [], [55, 57], [⟨1, [12], [], []⟩, ⟨4, [7], [], []⟩, ⟨6, [7], [], []⟩, ⟨7, [7], [], []⟩, ⟨46, [9], [(6, 357)], [(2, [357]), (3, [357])]⟩, ⟨58, [48, 66, 71, 73], [], []⟩]⟩
 | 16 => ⟨some [0, 1, 2, 3, 6, 7, 8, 16], [], [], [], [], [⟨1, [5, 6], [], []⟩]⟩
 | 17 => ⟨some [0, 1, 2, 3, 6, 7, 8, 16], [], [], [], [], [⟨1, [5, 6], [], []⟩]⟩
 | 18 => ⟨some [0, 1, 2, 3, 5, 7, 9, 11, 40, 41, 42, 43, 61, 62, 63, 64, 92, 93, 94, 95, 123, 124, 125, 126, 159], [], [], [], [], []⟩
 | 19 => ⟨some [0, 1, 2, 3, 4, 5, 6, 7, 8, 9, 10, 11, 46, 71, 103, 135, 166], [], [], [], [], []⟩
 | 20 => ⟨some [0, 1, 2, 3, 4, 8, 9, 10, 18], [], [], [], [], [⟨1, [5, 6], [], []⟩]⟩
 | 21 => ⟨some [0, 1, 2, 3, 4, 8, 9, 10, 18], [], [], [], [], [⟨1, [5, 6], [], []⟩]⟩
 | 22 => ⟨some [0, 1, 2, 3, 6, 7, 8, 9, 10, 11, 19, 29], [], [], [], [], [⟨1, [5, 6], [], []⟩]⟩
 | 23 => ⟨some [0, 1, 2, 3, 6, 7, 8, 9, 10, 11, 19, 33], [], [], [], [], [⟨1, [5, 6], [], []⟩]⟩
 | 24 => ⟨some [0, 1, 2, 3, 4, 5, 6, 7, 8, 9, 10, 11, 12, 65], [], [], [], [], [⟨5, [30], [], []⟩, ⟨11, [33, 38, 40], [], []⟩]⟩
 | 25 => ⟨some [0, 1, 2, 4, 5, 6, 7, 8, 9, 10, 20, 34, 54], [7], [], [], [40], [⟨1, [7, 8], [], []⟩]⟩
 | 26 => ⟨some [0, 1, 2, 4, 5, 6, 7, 8, 9, 19, 32], [], [], [], [], [⟨1, [7, 8], [], []⟩, ⟨4, [7, 8], [], []⟩]⟩
 | 27 => ⟨some [0, 1, 4, 5, 6, 18], [], [], [], [], [⟨5, [9], [], []⟩]⟩
 | 28 => ⟨some [0, 1, 2, 4, 5, 6, 7, 8, 9, 10, 20, 35], [], [], [], [41], [⟨1, [7, 8], [], []⟩]⟩
 | 29 => ⟨some [0, 1, 2, 4, 5, 6, 7, 8, 9, 10, 11, 12, 13, 23, 37, 47, 60, 105], [8], [], [], [], [⟨1, [7, 8], [], []⟩, ⟨4, [7, 8], [], []⟩, ⟨13, [20], [(19, 11)], [(8, [11]), (9, [11]), (10, [11]), (11, [11]), (12, [11]), (13, [11]), (14, [11]), (15, [11]), (16, [11])]⟩, ⟨14, [22], [], []⟩]⟩
 | 30 => ⟨some [0, 1, 2, 3, 4, 5, 8, 9, 10, 11, 12, 13, 14, 15, 16, 26, 29, 41, 42, 43], [14], [], [], [33], []⟩
 | 31 => ⟨some [0, 1, 2, 3, 4, 8, 9, 10, 24], [], [], [], [], []⟩
 | 32 => ⟨some [0, 1, 2, 3, 6, 7, 8, 9, 10, 11, 13, 18, 25, 38, 47, 78], [], [], [], [34], [⟨7, [6, 7], [], []⟩, ⟨13, [19], [], []⟩]⟩
 | 33 => ⟨some [0, 1, 2, 3, 4, 5, 6, 7, 8, 12, 18, 19, 20, 28], [], [], [], [], []⟩
 | 34 => ⟨some [0, 1, 2, 3, 4, 5, 6, 7, 8, 9, 10, 11, 12, 16, 25, 30, 40, 50, 57, 94], [], [], [], [], []⟩
 | 35 => ⟨some [0, 1, 2, 3, 4, 5, 6, 7, 8, 12, 15, 16, 17, 18, 35], [5], [], [], [], [⟨9, [8], [], []⟩]⟩
 | 36 => ⟨some [0, 1, 2, 3, 4, 5, 6, 7, 8, 9, 10, 11, 12, 13, 14, 18, 24, 44, 60, 73], [5], [], [], [], [⟨9, [7, 8, 9], [], []⟩]⟩
 | 37 => ⟨some [0, 1, 2, 3, 4, 5, 6, 7, 8, 9, 10, 50, 82, 117, 152], [], [], [], [], [⟨5, [6, 20, 22], [], []⟩]⟩
 | 38 => ⟨some [0, 1, 2, 4, 5, 6, 7, 8, 9, 10, 11, 12, 13, 14, 15, 16, 17, 18, 19, 20, 21, 22, 27, 56, 80, 87, 106, 152, 169, 174, 210, 244], [14], [236], [(7, 0), (7, 1)], [50], [⟨7, [13, 15], [], []⟩, ⟨15, [9, 10], [], []⟩, ⟨25, [33], [], []⟩, ⟨36, [21], [], []⟩, ⟨49, [25], [], []⟩, ⟨51, [5], [(3, 4), (4, 5)], [(1, [4]), (2, [4, 5])]⟩]⟩
 | 39 => ⟨some [0, 1, 2, 4], [], [], [], [], []⟩
 | 40 => ⟨some [0, 1, 4, 5, 9, 17], [], [], [], [], []⟩
 | 41 => ⟨some [0, 1, 4, 5, 7, 12], [], [], [], [], []⟩
 | 42 => ⟨some [0, 1, 4], [], [], [], [], []⟩
 | 43 => ⟨some [0, 1, 2, 3, 6], [], [], [], [], []⟩
 | 44 => ⟨some [0, 1, 2, 3, 8], [], [], [], [], []⟩
 | 45 => ⟨some [0, 1, 2, 3, 4], [], [], [], [], []⟩
 | 46 => ⟨some [0, 1, 2, 4, 5, 6, 13, 19], [], [8], [], [], [⟨7, [8, 10], [], []⟩]⟩
 | 47 => ⟨some [0, 1, 4, 5, 6, 10, 26], [], [], [], [], []⟩
 | 48 => ⟨some [0, 1, 4, 5, 6, 9, 14], [5], [], [], [], []⟩
 | 49 => ⟨some [0, 1, 4, 5, 15, 26], [], [], [], [], [⟨4, [], [], []⟩, ⟨5, [9], [], []⟩]⟩
 | 50 => ⟨some [0, 2, 3], [], [], [], [], []⟩
 | 51 => ⟨some [0, 1, 2, 4, 5, 9, 12, 15], [], [], [], [], []⟩
 | 52 => ⟨some [0, 1, 2, 3, 6], [], [], [], [], []⟩
 | 53 => ⟨some [0, 1, 2, 3, 4, 5, 6, 7, 8, 9, 10, 17, 18, 19, 25, 26, 27, 38, 39], [], [], [], [], [⟨2, [3, 4, 5], [], []⟩, ⟨13, [14], [], []⟩]⟩
 | 54 => ⟨some [0, 1, 2, 3, 4, 5, 6, 11, 12], [], [], [], [], [⟨5, [18], [], []⟩]⟩
 | 55 => ⟨some [0, 1, 2, 4, 5, 9, 12, 15], [], [], [], [], []⟩
 | 56 => ⟨some [0, 1, 2, 3, 6], [], [], [], [], []⟩
 | 57 => ⟨some [0, 2, 3, 4, 11], [], [], [], [], [⟨5, [16, 17], [], []⟩]⟩
 | 58 => ⟨some [0, 1, 4, 5, 6, 7, 11, 21, 34], [5], [], [], [], []⟩
 | 59 => ⟨some [0, 1, 2, 3, 6, 7, 8, 9, 10, 11, 12, 19, 41], [8], [], [], [], [⟨6, [7, 8], [], []⟩]⟩
 | 60 => ⟨some [0, 1, 2, 6], [], [], [], [], []⟩
 | 61 => ⟨some [0, 1, 2, 3, 6], [], [], [], [], []⟩
 | 62 => ⟨some [0, 1, 2, 6], [], [], [], [], []⟩
 | 63 => ⟨some [0, 1, 2, 4], [], [], [], [], []⟩
 | 64 => ⟨some [0, 1, 4, 5, 9, 17], [], [], [], [], []⟩
 | 65 => ⟨some [0, 1, 4, 6, 7, 8, 9, 10], [], [], [], [], []⟩
 | 66 => ⟨some [0, 2, 4], [], [], [], [7], []⟩
 | 67 => ⟨some [0, 1, 2, 3, 4, 11, 12, 13, 24], [], [], [], [], [⟨5, [], [], []⟩]⟩
 | 68 => ⟨some [0, 2, 4], [], [], [], [7], []⟩
 | 69 => ⟨some [0, 1, 2, 3, 4], [], [], [], [], []⟩
 | 70 => ⟨some [0, 2, 4], [], [], [], [7], []⟩
 | 71 => ⟨some [0, 1, 2, 3], [], [], [], [], []⟩
 | 72 => ⟨some [0, 1, 2, 4, 5, 6, 7, 8, 9, 10, 11, 17, 31, 38, 46], [9], [], [], [], []⟩
 | 73 => ⟨some [0, 1, 2, 3, 4, 8, 9, 10, 11, 12, 13, 14, 15, 16, 27, 34, 53, 65, 82, 87], [9], [], [], [], [⟨21, [10, 11], [], []⟩]⟩
 | 74 => ⟨some [0, 1, 2, 4, 5, 6, 7, 8, 9, 15, 55, 68, 70], [], [], [], [11], [⟨5, [33, 34], [], []⟩, ⟨9, [], [], []⟩, ⟨13, [27], [], []⟩]⟩
 | 75 => ⟨some [0, 1, 2, 3, 4, 8, 9, 10, 11, 12, 13, 17, 24, 37, 59], [], [], [], [], [⟨9, [15, 20], [], []⟩]⟩
 | 76 => ⟨some [0, 1, 2, 4, 5, 6, 9, 10, 11, 20], [], [], [], [], []⟩
 | 77 => ⟨some [0, 2, 3, 4, 8], [], [], [], [], []⟩
 | 78 => ⟨some [0, 1, 2, 4, 5, 10, 20], [], [], [], [], [⟨6, [6], [], []⟩]⟩
 | 79 => ⟨some [0, 1, 4, 7], [], [], [], [], []⟩
 | 80 => ⟨some [0, 1, 4], [], [], [], [], []⟩
 | 81 => ⟨some [0, 1, 2, 3, 4, 5, 6, 7, 8, 10, 18, 19, 20, 26, 27, 28, 38, 42, 43, 50, 51, 52, 53], [], [], [], [], [⟨9, [], [], []⟩, ⟨18, [14], [], []⟩]⟩
 | 82 => ⟨some [0, 1, 2, 3, 4, 5, 6, 7, 8, 9, 10, 11, 12, 13, 19, 20, 21, 31, 32, 33, 52, 59, 60, 61, 66, 67, 83, 84, 85, 118], [], [], [], [], [⟨21, [9], [], []⟩, ⟨29, [13], [], []⟩]⟩
 | 83 => ⟨some [0, 1, 2], [], [], [], [], []⟩
 | 84 => ⟨some [0, 1, 2], [], [], [], [], []⟩
 | 85 => ⟨some [0, 1, 2], [], [], [], [], []⟩
 | 86 => ⟨some [0, 1, 2, 4, 5, 10, 18], [], [], [], [], []⟩
 | 87 => ⟨some [0, 1], [], [], [], [], []⟩
 | 88 => ⟨some [0, 1, 4], [], [], [], [7], []⟩
 | 89 => ⟨some [0, 1, 2, 3, 4, 8, 9, 10, 11, 23, 46], [], [], [], [], [⟨7, [12, 13], [], []⟩]⟩
 | 90 => ⟨some [0, 1, 2, 3, 4, 24], [], [], [], [], []⟩
 | 91 => ⟨some [0, 1, 2, 3, 4, 5, 6], [], [], [], [], []⟩
 | 92 => ⟨some [0, 1, 2, 3, 6, 7, 8, 9, 11, 12, 15, 16, 17, 18, 26, 36, 37, 38, 39, 52, 57], [7], [], [], [], []⟩
 | 93 => ⟨some [0, 1, 2, 3, 4, 5, 6, 7, 8, 9, 10, 11, 12, 14, 15, 21, 40], [], [], [], [], [⟨7, [6, 7], [], []⟩]⟩
 | 94 => ⟨some [0, 1, 2, 3, 4, 5, 7, 8], [], [], [], [], []⟩
 | 95 => ⟨some [0, 1, 2, 3, 4, 6, 7, 8, 9, 12, 13, 14, 15, 37, 38, 39], [], [], [], [], []⟩
 | 96 => ⟨some [0, 1, 3, 4, 5, 6, 7, 16], [], [], [], [], []⟩
 | 97 => ⟨some [0, 1, 2, 3, 5, 6, 7, 8, 9, 14, 15, 16, 20, 21, 22, 23, 41, 42, 76, 81], [], [], [], [], [⟨6, [11], [], []⟩]⟩
 | 114 => ⟨some [0, 1, 2, 6], [], [], [], [], []⟩
 | 115 => ⟨some [0, 1, 2, 6], [], [], [], [], []⟩
 | _ => .nil
def TE_G : Nat → Option (List D)
 | 0 => some [(.fn 114 [] []), (.fn 115 [] [])]
 | _ => none
def TE_F : List Nat := [3, 4, 5, 6, 7, 8, 9, 10, 11, 12, 13, 14, 15, 16, 17, 18, 19, 20, 21, 22, 23, 24, 25, 26, 27, 28, 29, 30, 31, 32, 33, 34, 35, 36, 37, 38, 39, 40, 41, 42, 43, 44, 45, 46, 47, 48, 49, 50, 51, 52, 53, 54, 55, 56, 57, 58, 59, 60, 61, 62, 63, 64, 65, 66, 67, 68, 69, 70, 71, 72, 73, 74, 75, 76, 77, 78, 79, 80, 81, 82, 83, 84, 85, 86, 87, 88, 89, 90, 91, 92, 93, 94, 95, 96, 97, 114, 115]
noncomputable def TE : Env := ⟨Tryd.prog, TE_G, TE_H, TE_F⟩
end Go.AM
set_option linter.unusedVariables false
set_option maxRecDepth 100000
namespace Go.AM
open Go
structure zt where
 Low : Int
 High : Int
def zob (x : zt) : List D := eI x.Low ++ eI x.High
structure zS where
 Begin : zt
 Room : Int
def zk (x : zS) : List D := zob x.Begin ++ eI x.Room
structure zD where
 Day : Int
 Shelf : Int
 Back : Bool
 By : zt
def zn (x : zD) : List D := eI x.Day ++ eI x.Shelf ++ eB x.Back ++ zob x.By
structure zy where
 Shelf : Int
 Days : zt
 By : zt
def zh (x : zy) : List D := eI x.Shelf ++ zob x.Days ++ zob x.By
structure zo where
 Day : Int
 Shelf : Int
 Read : Int
 Err : Int
def zi (x : zo) : List D := eI x.Day ++ eI x.Shelf ++ eI x.Read ++ eI x.Err
structure za where
 Days : Int
 Shelves : (SL zS)
 Moves : (SL zD)
 Deliveries : (SL zy)
 Counts : (SL zo)
def zb (x : za) : List D := eI x.Days ++ (eL zk) x.Shelves ++ (eL zn) x.Moves ++ (eL zh) x.Deliveries ++ (eL zi) x.Counts
structure zd where
 ShelfBook : za
 shelf : Int
 left : Int
def zm (x : zd) : List D := zb x.ShelfBook ++ eI x.shelf ++ eI x.left
structure zq where
 day : Int
 came : Int
def zw (x : zq) : List D := eI x.day ++ eI x.came
structure zA where
 way : Int
 by_ : zt
def zK (x : zA) : List D := eI x.way ++ zob x.by_
def zx (a b : zq) : Bool := ((a.day == b.day) && ((a.came == b.came) && true))
abbrev zt0 := (Nat → Bool)
abbrev zt1 := (Bool × Int)
abbrev zt2 := (List (zq × (Nat → Bool)))
abbrev zt3 := ((SL Int) → Int → Int → Option ((SL Int) × Bool))
abbrev zt4 := (Int × Bool)
abbrev zt5 := ((SL Int) × Int)
abbrev zt6 := (Int × (SL zS) × (SL zD) × (SL zy) × (SL zo) × Int × Int × Int × Int)
abbrev zt7 := (Int × (List (zq × (Nat → Bool))))
abbrev zt8 := (zt × Int)
abbrev zt9 := (Int × (List zA))
abbrev zt10 := (Int × (Nat → Bool))
abbrev zt11 := (List zA)
abbrev zt12 := (List zo)
abbrev zt13 := ((SL Int) × Int × Bool)
def zX (k : Nat) (p0 p1 p2 : Int) : Option Bool :=
 cond (decide (p1 ≤ p0)) (
 some (decide (p0 ≤ p2))) (
 some false)
def zfj (r : Bool) : D := (db r)
def z8d (k : Nat) (p0 : zt) (p1 p2 : Int) : Option Bool :=
 cond (decide (p1 ≤ p0.Low)) (
 cond (decide (p0.Low ≤ p0.High)) (
 some (decide (p0.High ≤ p2))) (
 some false)) (
 some false)
def zah (r : Bool) : D := (db r)
def zYf (k : Nat) (p0 : za) : Option Bool :=
 (zX k p0.Days 1 12).bind fun v201 =>
 cond v201 (
 (zX k (p0.Shelves.1.length : Int) 1 4).bind fun v204 =>
 cond v204 (
 cond (decide ((p0.Moves.1.length : Int) ≤ 10)) (
 cond (decide ((p0.Deliveries.1.length : Int) ≤ 3)) (
 some (decide ((p0.Counts.1.length : Int) ≤ 8))) (
 some false)) (
 some false)) (
 some false)) (
 some false)
def zcg (k : Nat) (p0 : za) (s2_6 : Bool) (s2_9 : Int) (v402 : zS) : Option Bool :=
 cond s2_6 (
 (zX k v402.Room 1 60).bind fun v502 =>
 cond v502 (
 (z8d k v402.Begin 0 v402.Room).bind fun v505 =>
 some v505) (
 some false)) (
 some false)
def z2c (k : Nat) (p0 : za) (s2_6 : Bool) (s2_9 : Int) : Option ((Bool × Int) ⊕ (Bool × Int)) :=
 cond (decide (s2_9 < (p0.Shelves.1.length : Int))) (
 (idx p0.Shelves.1 s2_9).bind fun v402 =>
 (zcg k p0 s2_6 s2_9 v402).bind fun v404 =>
 some (Sum.inl (v404, (w64 (s2_9 + 1))))) (
 some (Sum.inr (s2_6, s2_9)))
def z6f (k : Nat) (p0 : za) (v3 : zt1) (s5_6 : Bool) (s5_13 : Int) (v702 : zD) : Option Bool :=
 cond s5_6 (
 (zX k v702.Day 0 (w64 (p0.Days - 1))).bind fun v802 =>
 cond v802 (
 (zX k v702.Shelf 0 (w64 ((p0.Shelves.1.length : Int) - 1))).bind fun v805 =>
 cond v805 (
 (z8d k v702.By 0 60).bind fun v808 =>
 some v808) (
 some false)) (
 some false)) (
 some false)
def z8c (k : Nat) (p0 : za) (v3 : zt1) (s5_6 : Bool) (s5_13 : Int) : Option ((Bool × Int) ⊕ (Bool × Int)) :=
 cond (decide (s5_13 < (p0.Moves.1.length : Int))) (
 (idx p0.Moves.1 s5_13).bind fun v702 =>
 (z6f k p0 v3 s5_6 s5_13 v702).bind fun v704 =>
 some (Sum.inl (v704, (w64 (s5_13 + 1))))) (
 some (Sum.inr (s5_6, s5_13)))
def ztf (k : Nat) (p0 : za) (v3 v5 : zt1) (s8_6 : Bool) (s8_17 : Int) (v1002 : zy) : Option Bool :=
 cond s8_6 (
 (zX k v1002.Shelf 0 (w64 ((p0.Shelves.1.length : Int) - 1))).bind fun v1102 =>
 cond v1102 (
 (z8d k v1002.Days 0 (w64 (p0.Days - 1))).bind fun v1105 =>
 cond v1105 (
 (z8d k v1002.By 0 60).bind fun v1108 =>
 some v1108) (
 some false)) (
 some false)) (
 some false)
def z0c (k : Nat) (p0 : za) (v3 v5 : zt1) (s8_6 : Bool) (s8_17 : Int) : Option ((Bool × Int) ⊕ (Bool × Int)) :=
 cond (decide (s8_17 < (p0.Deliveries.1.length : Int))) (
 (idx p0.Deliveries.1 s8_17).bind fun v1002 =>
 (ztf k p0 v3 v5 s8_6 s8_17 v1002).bind fun v1004 =>
 some (Sum.inl (v1004, (w64 (s8_17 + 1))))) (
 some (Sum.inr (s8_6, s8_17)))
def zAf (k : Nat) (p0 : za) (v3 v5 v7 : zt1) (s11_6 : Bool) (s11_21 : Int) (v1302 : zo) : Option Bool :=
 cond s11_6 (
 (zX k v1302.Day 0 (w64 (p0.Days - 1))).bind fun v1402 =>
 cond v1402 (
 (zX k v1302.Shelf 0 (w64 ((p0.Shelves.1.length : Int) - 1))).bind fun v1405 =>
 cond v1405 (
 (zX k v1302.Read 0 60).bind fun v1408 =>
 cond v1408 (
 (zX k v1302.Err 0 20).bind fun v1411 =>
 some v1411) (
 some false)) (
 some false)) (
 some false)) (
 some false)
def zIc (k : Nat) (p0 : za) (v3 v5 v7 : zt1) (s11_6 : Bool) (s11_21 : Int) : Option ((Bool × Int) ⊕ (Bool × Int)) :=
 cond (decide (s11_21 < (p0.Counts.1.length : Int))) (
 (idx p0.Counts.1 s11_21).bind fun v1302 =>
 (zAf k p0 v3 v5 v7 s11_6 s11_21 v1302).bind fun v1304 =>
 some (Sum.inl (v1304, (w64 (s11_21 + 1))))) (
 some (Sum.inr (s11_6, s11_21)))
def zOe (k : Nat) (p0 : za) : Option Int :=
 (zYf k p0).bind fun v1 =>
 (iter (fun s => z2c k p0 s.1 s.2) k (v1, 0)).bind fun v3 =>
 (iter (fun s => z8c k p0 v3 s.1 s.2) k (v3.1, 0)).bind fun v5 =>
 (iter (fun s => z0c k p0 v3 v5 s.1 s.2) k (v5.1, 0)).bind fun v7 =>
 (iter (fun s => zIc k p0 v3 v5 v7 s.1 s.2) k (v7.1, 0)).bind fun v9 =>
 cond (!v9.1) (
 some 40) (
 some 0)
def zak (r : Int) : D := (di r)
def zSd (k : Nat) (p0 : zd) (s1_7 : Int) (s1_16 : zt0) : Option ((Int × (Nat → Bool)) ⊕ (Int × (Nat → Bool))) :=
 (idx p0.ShelfBook.Shelves.1 p0.shelf).bind fun v201 =>
 cond (decide (s1_7 ≤ v201.Begin.High)) (
 cond (decide (0 ≤ s1_7) && decide (s1_7 < 61)) (
 some (Sum.inl ((w64 (s1_7 + 1)), (upd s1_16 s1_7.toNat true)))) none) (
 some (Sum.inr (s1_7, s1_16)))
def zYe (k : Nat) (p0 : zd) : Option (Nat → Bool) :=
 (idx p0.ShelfBook.Shelves.1 p0.shelf).bind fun v1 =>
 (iter (fun s => zSd k p0 s.1 s.2) k (v1.Begin.Low, (fun _ => false))).bind fun v3 =>
 some v3.2
def zMj (r : zt0) : D := (.agg (aB 61 r))
def zkf (k : Nat) : Option (Nat → Bool) :=
 some (fun _ => false)
def z0l (r : zt0) : D := (.agg (aB 61 r))
def zfe (k : Nat) (p0 : zd) (p1 p2 : Int) : Option (Int × (SL zS) × (SL zD) × (SL zy) × (SL zo) × Int × Int × Int × Int) :=
 some (p0.ShelfBook.Days, p0.ShelfBook.Shelves, p0.ShelfBook.Moves, p0.ShelfBook.Deliveries, p0.ShelfBook.Counts, p0.shelf, p0.left, p2, p1)
def zjk (r : zt6) : D := (.fn 97 [] [(.pin [(di r.1), (dl zk r.2.1.1 r.2.1.2), (dl zn r.2.2.1.1 r.2.2.1.2), (dl zh r.2.2.2.1.1 r.2.2.2.1.2), (dl zi r.2.2.2.2.1.1 r.2.2.2.2.1.2), (di r.2.2.2.2.2.1), (di r.2.2.2.2.2.2.1)]), (.pin [(di r.2.2.2.2.2.2.2.1)]), (.pin [(di r.2.2.2.2.2.2.2.2)])])
def zQd (k : Nat) (p0 : zd) (p1 p2 s1_12 : Int) (s1_20 : zt11) : Option ((Int × (List zA)) ⊕ (Int × (List zA))) :=
 cond (decide (s1_12 < (p0.ShelfBook.Deliveries.1.length : Int))) (
 (idx p0.ShelfBook.Deliveries.1 s1_12).bind fun v302 =>
 cond (decide (s1_12 < 0)) (
 none) (
 cond ((zsb (zY p2 s1_12) 1) == 1) (
 cond (decide (s1_20.length + 1 ≤ LIM)) (
 some (Sum.inl ((w64 (s1_12 + 1)), (s1_20 ++ [(⟨1, v302.By⟩ : zA)])))) none) (
 some (Sum.inl ((w64 (s1_12 + 1)), s1_20))))) (
 some (Sum.inr (s1_12, s1_20)))
def z7e (k : Nat) (p0 : zd) (p1 p2 : Int) (v1 : zt9) (s3_16 : Int) (s3_24 : zt11) (v702 : zD) : Option Bool :=
 cond (v702.Day == p1) (
 some (v702.Shelf == p0.shelf)) (
 some false)
def zGg (k : Nat) (p0 : zd) (p1 p2 : Int) (v1 : zt9) (s3_16 : Int) (s3_24 : zt11) (v702 : zD) (cb : Bool) : Option (Bool × Int) :=
 cond cb (
 some (true, 1)) (
 some (false, 0))
def zTd (k : Nat) (p0 : zd) (p1 p2 : Int) (v1 : zt9) (s3_16 : Int) (s3_24 : zt11) : Option ((Int × (List zA)) ⊕ (Int × (List zA))) :=
 cond (decide (s3_16 < (p0.ShelfBook.Moves.1.length : Int))) (
 (idx p0.ShelfBook.Moves.1 s3_16).bind fun v702 =>
 (z7e k p0 p1 p2 v1 s3_16 s3_24 v702).bind fun v704 =>
 cond v704 (
 (zGg k p0 p1 p2 v1 s3_16 s3_24 v702 v702.Back).bind fun v707 =>
 cond (decide (s3_24.length + 1 ≤ LIM)) (
 some (Sum.inl ((w64 (s3_16 + 1)), (s3_24 ++ [(⟨v707.2, v702.By⟩ : zA)])))) none) (
 some (Sum.inl ((w64 (s3_16 + 1)), s3_24)))) (
 some (Sum.inr (s3_16, s3_24)))
def zXd (k : Nat) (p0 : zd) (p1 p2 : Int) : Option (SL zA) :=
 (iter (fun s => zQd k p0 p1 p2 s.1 s.2) k (0, ([] : List zA))).bind fun v1 =>
 (iter (fun s => zTd k p0 p1 p2 v1 s.1 s.2) k (0, v1.2)).bind fun v3 =>
 some (v3.2, (rcap true v3.2))
def zXj (r : (SL zA)) : D := (dl zK r.1 r.2)
def zmb (k : Nat) (p0 : zt0) : Option (Nat → Bool) :=
 some p0
def zKh (r : zt0) : D := (.fn 96 [] [(.pin (aB 61 r))])
def zPg (k : Nat) (p0 : zd) (p1 p2 : Int) : Option Int :=
 some (w64 (p1 - p2))
def zpk (r : Int) : D := (di r)
def zJg (k : Nat) (p0 : zd) (p1 p2 : Int) : Option Int :=
 some (w64 (p1 + p2))
def zqk (r : Int) : D := (di r)
def zfd (k : Nat) (p0 : zd) (p1 : zt0) (p2 : Int) (p3 : zt) (v1 : zt0) (s1_2 s9_14 : Int) (s9_27 : zt0) (v1203 : Int) (v1207 : Bool) : Option (Bool × (Nat → Bool)) :=
 cond v1207 (
 cond (decide (0 ≤ v1203) && decide (v1203 < 61)) (
 some (true, (upd s9_27 v1203.toNat true))) none) (
 some (false, s9_27))
def zpd (k : Nat) (p0 : zd) (p1 : zt0) (p2 : Int) (p3 : zt) (v1 : zt0) (s1_2 s9_14 : Int) (s9_27 : zt0) (v1204 : Int) (v1208 : Bool) : Option (Bool × (Nat → Bool)) :=
 cond v1208 (
 cond (decide (0 ≤ v1204) && decide (v1204 < 61)) (
 some (true, (upd s9_27 v1204.toNat true))) none) (
 some (false, s9_27))
def zcc (k : Nat) (p0 : zd) (p1 : zt0) (p2 : Int) (p3 : zt) (v1 : zt0) (s1_2 s9_14 : Int) (s9_27 : zt0) : Option ((Int × (Nat → Bool)) ⊕ (Int × (Nat → Bool))) :=
 cond (decide (s9_14 ≤ p3.High)) (
 cond (p2 == 0) (
 (zPg k p0 s1_2 s9_14).bind fun v1203 =>
 (idx p0.ShelfBook.Shelves.1 p0.shelf).bind fun v1205 =>
 (zX k v1203 0 v1205.Room).bind fun v1207 =>
 (zfd k p0 p1 p2 p3 v1 s1_2 s9_14 s9_27 v1203 v1207).bind fun v1209 =>
 some (Sum.inl ((w64 (s9_14 + 1)), v1209.2))) (
 cond (p2 == 1) (
 (zJg k p0 s1_2 s9_14).bind fun v1204 =>
 (idx p0.ShelfBook.Shelves.1 p0.shelf).bind fun v1206 =>
 (zX k v1204 0 v1206.Room).bind fun v1208 =>
 (zpd k p0 p1 p2 p3 v1 s1_2 s9_14 s9_27 v1204 v1208).bind fun v1210 =>
 some (Sum.inl ((w64 (s9_14 + 1)), v1210.2))) (
 none))) (
 some (Sum.inr (s9_14, s9_27)))
def z5e (k : Nat) (p0 : zd) (p1 : zt0) (p2 : Int) (p3 : zt) (v1 : zt0) (s1_2 : Int) (s1_15 : zt0) : Option (Nat → Bool) :=
 cond (v1 s1_2.toNat) (
 (iter (fun s => zcc k p0 p1 p2 p3 v1 s1_2 s.1 s.2) k (p3.Low, s1_15)).bind fun v902 =>
 some v902.2) (
 some s1_15)
def zRd (k : Nat) (p0 : zd) (p1 : zt0) (p2 : Int) (p3 : zt) (v1 : zt0) (s1_2 : Int) (s1_15 : zt0) : Option ((Int × (Nat → Bool)) ⊕ (Int × (Nat → Bool))) :=
 cond (decide (s1_2 < 61)) (
 cond (decide (0 ≤ s1_2) && decide (s1_2 < 61)) (
 (z5e k p0 p1 p2 p3 v1 s1_2 s1_15).bind fun v803 =>
 some (Sum.inl ((w64 (s1_2 + 1)), v803))) none) (
 some (Sum.inr (s1_2, s1_15)))
def zYc (k : Nat) (p0 : zd) (p1 : zt0) (p2 : Int) (p3 : zt) : Option (Nat → Bool) :=
 (zmb k p1).bind fun v1 =>
 (iter (fun s => zRd k p0 p1 p2 p3 v1 s.1 s.2) k (0, (fun _ => false))).bind fun v3 =>
 some v3.2
def zWj (r : zt0) : D := (.agg (aB 61 r))
def zhe (k : Nat) (p0 : zd) (p1 : zt0) (p2 s1_11 : Int) (s1_19 : zt0) (v602 : zo) : Option Bool :=
 cond (v602.Day != p2) (
 some true) (
 cond (v602.Shelf != p0.shelf) (
 some true) (
 cond (decide (s1_11 < 0)) (
 none) (
 some ((zsb (zY p0.left s1_11) 1) == 1))))
def zee (k : Nat) (p0 : zd) (p1 : zt0) (p2 s1_11 : Int) (v602 : zo) (s7_15 : Int) (s7_23 : zt0) : Option (Nat → Bool) :=
 cond (decide (0 ≤ s7_15) && decide (s7_15 < 61)) (
 cond (s7_23 s7_15.toNat) (
 (zX k s7_15 (w64 (v602.Read - v602.Err)) (w64 (v602.Read + v602.Err))).bind fun v1003 =>
 some (upd s7_23 s7_15.toNat v1003)) (
 some (upd s7_23 s7_15.toNat false))) none
def zlc (k : Nat) (p0 : zd) (p1 : zt0) (p2 s1_11 : Int) (v602 : zo) (s7_15 : Int) (s7_23 : zt0) : Option ((Int × (Nat → Bool)) ⊕ (Int × (Nat → Bool))) :=
 cond (decide (s7_15 < 61)) (
 (zee k p0 p1 p2 s1_11 v602 s7_15 s7_23).bind fun v902 =>
 some (Sum.inl ((w64 (s7_15 + 1)), v902))) (
 some (Sum.inr (s7_15, s7_23)))
def zZc (k : Nat) (p0 : zd) (p1 : zt0) (p2 s1_11 : Int) (s1_19 : zt0) : Option ((Int × (Nat → Bool)) ⊕ (Int × (Nat → Bool))) :=
 cond (decide (s1_11 < (p0.ShelfBook.Counts.1.length : Int))) (
 (idx p0.ShelfBook.Counts.1 s1_11).bind fun v602 =>
 (zhe k p0 p1 p2 s1_11 s1_19 v602).bind fun v604 =>
 cond v604 (
 some (Sum.inl ((w64 (s1_11 + 1)), s1_19))) (
 (iter (fun s => zlc k p0 p1 p2 s1_11 v602 s.1 s.2) k (0, s1_19)).bind fun v607 =>
 some (Sum.inl ((w64 (s1_11 + 1)), v607.2)))) (
 some (Sum.inr (s1_11, s1_19)))
def z6c (k : Nat) (p0 : zd) (p1 : zt0) (p2 : Int) : Option (Nat → Bool) :=
 (iter (fun s => zZc k p0 p1 p2 s.1 s.2) k (0, p1)).bind fun v1 =>
 some v1.2
def zFi (r : zt0) : D := (.agg (aB 61 r))
def zUh (k : Nat) (p0 p1 v1 : zt0) (s1_2 : Int) (s1_3 : zt0) : Option (Nat → Bool) :=
 cond (v1 s1_2.toNat) (
 cond (decide (0 ≤ s1_2) && decide (s1_2 < 61)) (
 some (upd s1_3 s1_2.toNat true)) none) (
 some s1_3)
def zzg (k : Nat) (p0 p1 v1 : zt0) (s1_2 : Int) (s1_3 : zt0) : Option ((Int × (Nat → Bool)) ⊕ (Int × (Nat → Bool))) :=
 cond (decide (s1_2 < 61)) (
 cond (decide (0 ≤ s1_2) && decide (s1_2 < 61)) (
 (zUh k p0 p1 v1 s1_2 s1_3).bind fun v303 =>
 some (Sum.inl ((w64 (s1_2 + 1)), v303))) none) (
 some (Sum.inr (s1_2, s1_3)))
def zdh (k : Nat) (p0 p1 : zt0) : Option (Nat → Bool) :=
 (zmb k p1).bind fun v1 =>
 (iter (fun s => zzg k p0 p1 v1 s.1 s.2) k (0, p0)).bind fun v3 =>
 some v3.2
def zko (r : zt0) : D := (.agg (aB 61 r))
def zKe (k : Nat) (p0 : zd) (s1_8 s21_11 : Int) (s21_19 : zt2) (v3105 : zt6) (s31_10 : Int) (s31_18 : zt2) (s36_15 : Int) (v3802 : zy) : Option Bool :=
 cond ((zsb (zY v3105.2.2.2.2.2.2.2.1 s36_15) 1) == 1) (
 cond (!((zsb (zY s31_10 s36_15) 1) == 1)) (
 some true) (
 cond ((zsb (zY s31_10 s36_15) 1) == 1) (
 cond (!((zsb (zY v3105.2.2.2.2.2.2.2.1 s36_15) 1) == 1)) (
 (zX k v3105.2.2.2.2.2.2.2.2 v3802.Days.Low v3802.Days.High).bind fun v3905 =>
 cond (!v3905) (
 some true) (
 some false)) (
 some false)) (
 some false))) (
 cond ((zsb (zY s31_10 s36_15) 1) == 1) (
 cond (!((zsb (zY v3105.2.2.2.2.2.2.2.1 s36_15) 1) == 1)) (
 (zX k v3105.2.2.2.2.2.2.2.2 v3802.Days.Low v3802.Days.High).bind fun v3904 =>
 cond (!v3904) (
 some true) (
 cond (!((zsb (zY s31_10 s36_15) 1) == 1)) (
 some (decide (v3105.2.2.2.2.2.2.2.2 ≥ v3802.Days.High))) (
 some false))) (
 cond (!((zsb (zY s31_10 s36_15) 1) == 1)) (
 some (decide (v3105.2.2.2.2.2.2.2.2 ≥ v3802.Days.High))) (
 some false))) (
 cond (!((zsb (zY s31_10 s36_15) 1) == 1)) (
 some (decide (v3105.2.2.2.2.2.2.2.2 ≥ v3802.Days.High))) (
 some false)))
def zyc (k : Nat) (p0 : zd) (s1_8 s21_11 : Int) (s21_19 : zt2) (v3105 : zt6) (s31_10 : Int) (s31_18 : zt2) (s36_15 : Int) : Option (Int ⊕ ((Int × Bool × Bool × Int × Int × Int × Int × Int) ⊕ ((Int × Bool × Bool × Int × Int × Int × Int × Int) ⊕ Int))) :=
 cond (decide (s36_15 < (v3105.2.2.2.1.1.length : Int))) (
 (idx v3105.2.2.2.1.1 s36_15).bind fun v3802 =>
 cond (decide (s36_15 < 0)) (
 none) (
 cond (v3802.Shelf != v3105.2.2.2.2.2.1) (
 cond ((zsb (zY s31_10 s36_15) 1) == 1) (
 some (Sum.inr (Sum.inl (s36_15, ((zsb (zY v3105.2.2.2.2.2.2.2.1 s36_15) 1) == 1), ((zsb (zY s31_10 s36_15) 1) == 1), v3802.Shelf, v3802.Days.Low, v3802.Days.High, v3802.By.Low, v3802.By.High)))) (
 some (Sum.inl (w64 (s36_15 + 1))))) (
 (zKe k p0 s1_8 s21_11 s21_19 v3105 s31_10 s31_18 s36_15 v3802).bind fun v3806 =>
 cond v3806 (
 some (Sum.inr (Sum.inr (Sum.inl (s36_15, ((zsb (zY v3105.2.2.2.2.2.2.2.1 s36_15) 1) == 1), ((zsb (zY s31_10 s36_15) 1) == 1), v3802.Shelf, v3802.Days.Low, v3802.Days.High, v3802.By.Low, v3802.By.High))))) (
 some (Sum.inl (w64 (s36_15 + 1))))))) (
 some (Sum.inr (Sum.inr (Sum.inr s36_15))))
def zDc (k : Nat) (p0 : zd) (s1_8 s21_11 : Int) (s21_19 : zt2) (v3105 : zt6) (s31_10 : Int) (s31_18 : zt2) (v3606 : (SL zA)) (s39_27 : Int) (s39_28 : zt0) : Option ((Int × (Nat → Bool)) ⊕ (Int × (Nat → Bool))) :=
 cond (decide (s39_27 < (v3606.1.length : Int))) (
 (idx v3606.1 s39_27).bind fun v4002 =>
 (zYc k p0 s39_28 v4002.way v4002.by_).bind fun v4004 =>
 some (Sum.inl ((w64 (s39_27 + 1)), v4004))) (
 some (Sum.inr (s39_27, s39_28)))
def zzc (k : Nat) (p0 : zd) (s1_8 s21_11 : Int) (s21_19 : zt2) (v3105 : zt6) (s31_10 : Int) (s31_18 : zt2) : Option ((Int × (List (zq × (Nat → Bool)))) ⊕ (Int × (List (zq × (Nat → Bool))))) :=
 cond (decide (s31_10 < (zG 1 (v3105.2.2.2.1.1.length : Int)))) (
 (iter (fun s => zyc k p0 s1_8 s21_11 s21_19 v3105 s31_10 s31_18 s) k 0).bind fun v3602 =>
 Sum.elim (fun v3605 =>
 some (Sum.inl ((w64 (s31_10 + 1)), s31_18))) (fun w2_0 =>
 Sum.elim (fun v3605 =>
 some (Sum.inl ((w64 (s31_10 + 1)), s31_18))) (fun w2_1 =>
 (fun v3605 =>
 (zXd k p0 s1_8 (zWi s31_10 s21_11)).bind fun v3606 =>
 (iter (fun s => zDc k p0 s1_8 s21_11 s21_19 v3105 s31_10 s31_18 v3606 s.1 s.2) k (0, ((z7 zx (⟨(w64 (s1_8 - 1)), s21_11⟩ : zq) s21_19).getD (fun _ => false)))).bind fun v3608 =>
 (z6c k p0 v3608.2 s1_8).bind fun v3610 =>
 (zdh k ((z7 zx (⟨s1_8, s31_10⟩ : zq) s31_18).getD (fun _ => false)) v3610).bind fun v3612 =>
 some (Sum.inl ((w64 (s31_10 + 1)), (mset zx (⟨s1_8, s31_10⟩ : zq) v3612 s31_18)))) w2_1) w2_0) v3602) (
 some (Sum.inr (s31_10, s31_18)))
def zCc (k : Nat) (p0 : zd) (s1_8 s21_11 : Int) (s21_19 : zt2) : Option ((Int × (List (zq × (Nat → Bool)))) ⊕ (Int × (List (zq × (Nat → Bool))))) :=
 cond (decide (s21_11 < (zG 1 (p0.ShelfBook.Deliveries.1.length : Int)))) (
 (zkf k).bind fun v3102 =>
 cond (eqB ((z7 zx (⟨(w64 (s1_8 - 1)), s21_11⟩ : zq) s21_19).getD (fun _ => false)) v3102 0 61) (
 some (Sum.inl ((w64 (s21_11 + 1)), s21_19))) (
 (zfe k p0 s1_8 s21_11).bind fun v3105 =>
 cond (decide ((v3105.2.2.2.1.1.length : Int) < 0)) (
 none) (
 (iter (fun s => zzc k p0 s1_8 s21_11 s21_19 v3105 s.1 s.2) k (0, s21_19)).bind fun v3108 =>
 some (Sum.inl ((w64 (s21_11 + 1)), v3108.2))))) (
 some (Sum.inr (s21_11, s21_19)))
def zLd (k : Nat) (p0 : zd) (s1_8 : Int) (s1_16 : zt2) : Option ((Int × (List (zq × (Nat → Bool)))) ⊕ (Int × (List (zq × (Nat → Bool))))) :=
 cond (decide (s1_8 < p0.ShelfBook.Days)) (
 cond (decide ((p0.ShelfBook.Deliveries.1.length : Int) < 0)) (
 none) (
 (iter (fun s => zCc k p0 s1_8 s.1 s.2) k (0, s1_16)).bind fun v2103 =>
 some (Sum.inl ((w64 (s1_8 + 1)), v2103.2)))) (
 some (Sum.inr (s1_8, s1_16)))
def zUd (k : Nat) (p0 : zd) : Option (List (zq × (Nat → Bool))) :=
 (zYe k p0).bind fun v1 =>
 (iter (fun s => zLd k p0 s.1 s.2) k (0, [((⟨(-1), 0⟩ : zq), v1)])).bind fun v3 =>
 some v3.2
def zBj (r : zt2) : D := (.mp (em (fun k => D.agg (zw k)) (fun v => D.agg ((aB 61) v)) r))
def zue (k : Nat) (p0 : zd) (v1 : zt2) (s1_10 : Int) : Option (Int ⊕ (Int ⊕ Int)) :=
 cond (decide (s1_10 < (zG 1 (p0.ShelfBook.Deliveries.1.length : Int)))) (
 (zkf k).bind fun v202 =>
 cond (!(eqB ((z7 zx (⟨(w64 (p0.ShelfBook.Days - 1)), s1_10⟩ : zq) v1).getD (fun _ => false)) v202 0 61)) (
 some (Sum.inr (Sum.inl s1_10))) (
 some (Sum.inl (w64 (s1_10 + 1))))) (
 some (Sum.inr (Sum.inr s1_10)))
def zWd (k : Nat) (p0 : zd) : Option Bool :=
 (zUd k p0).bind fun v1 =>
 cond (decide ((p0.ShelfBook.Deliveries.1.length : Int) < 0)) (
 none) (
 (iter (fun s => zue k p0 v1 s) k 0).bind fun v4 =>
 Sum.elim (fun v7 =>
 some true) (fun w3_0 =>
 (fun v7 =>
 some false) w3_0) v4)
def z7h (r : Bool) : D := (db r)
def znf (k : Nat) (p0 : za) (p1 s1_8 : Int) : Option (Int ⊕ (Int ⊕ Int)) :=
 cond (decide (s1_8 < (p0.Shelves.1.length : Int))) (
 (zWd k (⟨p0, s1_8, p1⟩ : zd)).bind fun v202 =>
 cond (!v202) (
 some (Sum.inr (Sum.inl s1_8))) (
 some (Sum.inl (w64 (s1_8 + 1))))) (
 some (Sum.inr (Sum.inr s1_8)))
def zGb (k : Nat) (p0 : za) (p1 : Int) : Option Bool :=
 (iter (fun s => znf k p0 p1 s) k 0).bind fun v1 =>
 Sum.elim (fun v4 =>
 some false) (fun w1_0 =>
 (fun v4 =>
 some true) w1_0) v1
def zTi (r : Bool) : D := (db r)
def zRc (k : Nat) (p0 : za) (p1 : Bool) : Option Int :=
 (zOe k p0).bind fun v1 =>
 cond (v1 != 0) (
 some v1) (
 cond (!p1) (
 some 41) (
 (zGb k p0 0).bind fun v5 =>
 cond (!v5) (
 some 42) (
 some 0)))
def zEg (r : Int) : D := (di r)
def z4c (k : Nat) (p0 : zd) (s1_8 : Int) (s1_16 : zt2) (v302 : zS) (s3_12 : Int) (s3_21 : zt0) : Option ((Int × (Nat → Bool)) ⊕ (Int × (Nat → Bool))) :=
 cond (decide (s3_12 < (w64 (v302.Room + 1)))) (
 cond (decide (0 ≤ s3_12) && decide (s3_12 < 61)) (
 some (Sum.inl ((w64 (s3_12 + 1)), (upd s3_21 s3_12.toNat true)))) none) (
 some (Sum.inr (s3_12, s3_21)))
def z7d (k : Nat) (p0 : zd) (s1_8 : Int) (s1_16 : zt2) : Option ((Int × (List (zq × (Nat → Bool)))) ⊕ (Int × (List (zq × (Nat → Bool))))) :=
 cond (decide (s1_8 < (zG 1 (p0.ShelfBook.Deliveries.1.length : Int)))) (
 (idx p0.ShelfBook.Shelves.1 p0.shelf).bind fun v302 =>
 (iter (fun s => z4c k p0 s1_8 s1_16 v302 s.1 s.2) k (0, (fun _ => false))).bind fun v304 =>
 some (Sum.inl ((w64 (s1_8 + 1)), (mset zx (⟨(w64 (p0.ShelfBook.Days - 1)), s1_8⟩ : zq) v304.2 s1_16)))) (
 some (Sum.inr (s1_8, s1_16)))
def z9e (k : Nat) (p0 : zd) (v2 : zt7) (s4_18 s24_12 : Int) (v3402 : zt6) (s34_10 : Int) (s34_18 : zt2) (s39_15 : Int) (v4102 : zy) : Option Bool :=
 cond ((zsb (zY v3402.2.2.2.2.2.2.2.1 s39_15) 1) == 1) (
 cond (!((zsb (zY s34_10 s39_15) 1) == 1)) (
 some true) (
 cond ((zsb (zY s34_10 s39_15) 1) == 1) (
 cond (!((zsb (zY v3402.2.2.2.2.2.2.2.1 s39_15) 1) == 1)) (
 (zX k v3402.2.2.2.2.2.2.2.2 v4102.Days.Low v4102.Days.High).bind fun v4205 =>
 cond (!v4205) (
 some true) (
 some false)) (
 some false)) (
 some false))) (
 cond ((zsb (zY s34_10 s39_15) 1) == 1) (
 cond (!((zsb (zY v3402.2.2.2.2.2.2.2.1 s39_15) 1) == 1)) (
 (zX k v3402.2.2.2.2.2.2.2.2 v4102.Days.Low v4102.Days.High).bind fun v4204 =>
 cond (!v4204) (
 some true) (
 cond (!((zsb (zY s34_10 s39_15) 1) == 1)) (
 some (decide (v3402.2.2.2.2.2.2.2.2 ≥ v4102.Days.High))) (
 some false))) (
 cond (!((zsb (zY s34_10 s39_15) 1) == 1)) (
 some (decide (v3402.2.2.2.2.2.2.2.2 ≥ v4102.Days.High))) (
 some false))) (
 cond (!((zsb (zY s34_10 s39_15) 1) == 1)) (
 some (decide (v3402.2.2.2.2.2.2.2.2 ≥ v4102.Days.High))) (
 some false)))
def zNc (k : Nat) (p0 : zd) (v2 : zt7) (s4_18 s24_12 : Int) (v3402 : zt6) (s34_10 : Int) (s34_18 : zt2) (s39_15 : Int) : Option (Int ⊕ ((Int × Bool × Bool × Int × Int × Int × Int × Int) ⊕ ((Int × Bool × Bool × Int × Int × Int × Int × Int) ⊕ Int))) :=
 cond (decide (s39_15 < (v3402.2.2.2.1.1.length : Int))) (
 (idx v3402.2.2.2.1.1 s39_15).bind fun v4102 =>
 cond (decide (s39_15 < 0)) (
 none) (
 cond (v4102.Shelf != v3402.2.2.2.2.2.1) (
 cond ((zsb (zY s34_10 s39_15) 1) == 1) (
 some (Sum.inr (Sum.inl (s39_15, ((zsb (zY v3402.2.2.2.2.2.2.2.1 s39_15) 1) == 1), ((zsb (zY s34_10 s39_15) 1) == 1), v4102.Shelf, v4102.Days.Low, v4102.Days.High, v4102.By.Low, v4102.By.High)))) (
 some (Sum.inl (w64 (s39_15 + 1))))) (
 (z9e k p0 v2 s4_18 s24_12 v3402 s34_10 s34_18 s39_15 v4102).bind fun v4106 =>
 cond v4106 (
 some (Sum.inr (Sum.inr (Sum.inl (s39_15, ((zsb (zY v3402.2.2.2.2.2.2.2.1 s39_15) 1) == 1), ((zsb (zY s34_10 s39_15) 1) == 1), v4102.Shelf, v4102.Days.Low, v4102.Days.High, v4102.By.Low, v4102.By.High))))) (
 some (Sum.inl (w64 (s39_15 + 1))))))) (
 some (Sum.inr (Sum.inr (Sum.inr s39_15))))
def zLc (k : Nat) (p0 : zd) (v2 : zt7) (s4_18 s24_12 : Int) (v3402 : zt6) (s34_10 : Int) (s34_18 : zt2) (v3908 : (SL zA)) (s42_27 : Int) (s42_28 : zt0) : Option ((Int × (Nat → Bool)) ⊕ (Int × (Nat → Bool))) :=
 cond (decide (s42_27 < (v3908.1.length : Int))) (
 (idx v3908.1 (w64 ((w64 ((v3908.1.length : Int) - 1)) - s42_27))).bind fun v4302 =>
 (zYc k p0 s42_28 (w64 (1 - v4302.way)) v4302.by_).bind fun v4304 =>
 some (Sum.inl ((w64 (s42_27 + 1)), v4304))) (
 some (Sum.inr (s42_27, s42_28)))
def zKc (k : Nat) (p0 : zd) (v2 : zt7) (s4_18 s24_12 : Int) (v3402 : zt6) (s34_10 : Int) (s34_18 : zt2) : Option ((Int × (List (zq × (Nat → Bool)))) ⊕ (Int × (List (zq × (Nat → Bool))))) :=
 cond (decide (s34_10 < (zG 1 (v3402.2.2.2.1.1.length : Int)))) (
 (iter (fun s => zNc k p0 v2 s4_18 s24_12 v3402 s34_10 s34_18 s) k 0).bind fun v3902 =>
 Sum.elim (fun v3905 =>
 some (Sum.inl ((w64 (s34_10 + 1)), s34_18))) (fun w2_0 =>
 Sum.elim (fun v3905 =>
 some (Sum.inl ((w64 (s34_10 + 1)), s34_18))) (fun w2_1 =>
 (fun v3905 =>
 (z6c k p0 ((z7 zx (⟨s4_18, s34_10⟩ : zq) s34_18).getD (fun _ => false)) s4_18).bind fun v3906 =>
 (zXd k p0 s4_18 (zWi s34_10 s24_12)).bind fun v3908 =>
 (iter (fun s => zLc k p0 v2 s4_18 s24_12 v3402 s34_10 s34_18 v3908 s.1 s.2) k (0, v3906)).bind fun v3910 =>
 (zdh k ((z7 zx (⟨(w64 (s4_18 - 1)), s24_12⟩ : zq) s34_18).getD (fun _ => false)) v3910.2).bind fun v3912 =>
 some (Sum.inl ((w64 (s34_10 + 1)), (mset zx (⟨(w64 (s4_18 - 1)), s24_12⟩ : zq) v3912 s34_18)))) w2_1) w2_0) v3902) (
 some (Sum.inr (s34_10, s34_18)))
def zMc (k : Nat) (p0 : zd) (v2 : zt7) (s4_18 s24_12 : Int) (s24_20 : zt2) : Option ((Int × (List (zq × (Nat → Bool)))) ⊕ (Int × (List (zq × (Nat → Bool))))) :=
 cond (decide (s24_12 < (zG 1 (p0.ShelfBook.Deliveries.1.length : Int)))) (
 (zfe k p0 s4_18 s24_12).bind fun v3402 =>
 cond (decide ((v3402.2.2.2.1.1.length : Int) < 0)) (
 none) (
 (iter (fun s => zKc k p0 v2 s4_18 s24_12 v3402 s.1 s.2) k (0, s24_20)).bind fun v3405 =>
 some (Sum.inl ((w64 (s24_12 + 1)), v3405.2)))) (
 some (Sum.inr (s24_12, s24_20)))
def z5d (k : Nat) (p0 : zd) (v2 : zt7) (s4_17 : zt2) (s4_18 : Int) : Option (((List (zq × (Nat → Bool))) × Int) ⊕ ((List (zq × (Nat → Bool))) × Int)) :=
 cond (decide (s4_18 > 0)) (
 cond (decide ((p0.ShelfBook.Deliveries.1.length : Int) < 0)) (
 none) (
 (iter (fun s => zMc k p0 v2 s4_18 s.1 s.2) k (0, s4_17)).bind fun v2403 =>
 some (Sum.inl (v2403.2, (w64 (s4_18 - 1)))))) (
 some (Sum.inr (s4_17, s4_18)))
def zxf (k : Nat) (p0 : zd) : Option (List (zq × (Nat → Bool))) :=
 cond (decide ((p0.ShelfBook.Deliveries.1.length : Int) < 0)) (
 none) (
 (iter (fun s => z7d k p0 s.1 s.2) k (0, [])).bind fun v2 =>
 (iter (fun s => z5d k p0 v2 s.1 s.2) k (v2.2, (w64 (p0.ShelfBook.Days - 1)))).bind fun v4 =>
 some v4.1)
def zik (r : zt2) : D := (.mp (em (fun k => D.agg (zw k)) (fun v => D.agg ((aB 61) v)) r))
def zme (k : Nat) (p0 : zd) (v1 v3 : zt2) (s1_10 s13_13 : Int) (v1902 : zt0) (s19_2 : Int) (s19_11 : zt0) : Option (Nat → Bool) :=
 cond (decide (0 ≤ s1_10) && decide (s1_10 < 12)) (
 cond (decide (0 ≤ s19_2) && decide (s19_2 < 61)) (
 cond (s19_11 ((s1_10.toNat * 61) + s19_2.toNat)) (
 some (upd s19_11 ((s1_10.toNat * 61) + s19_2.toNat) true)) (
 some (upd s19_11 ((s1_10.toNat * 61) + s19_2.toNat) (((z7 zx (⟨s1_10, s13_13⟩ : zq) v3).getD (fun _ => false)) s19_2.toNat)))) none) none
def zle (k : Nat) (p0 : zd) (v1 v3 : zt2) (s1_10 s13_13 : Int) (v1902 : zt0) (s19_2 : Int) (s19_11 : zt0) : Option (Nat → Bool) :=
 cond (v1902 s19_2.toNat) (
 (zme k p0 v1 v3 s1_10 s13_13 v1902 s19_2 s19_11).bind fun v2302 =>
 some v2302) (
 some s19_11)
def zmc (k : Nat) (p0 : zd) (v1 v3 : zt2) (s1_10 s13_13 : Int) (v1902 : zt0) (s19_2 : Int) (s19_11 : zt0) : Option ((Int × (Nat → Bool)) ⊕ (Int × (Nat → Bool))) :=
 cond (decide (s19_2 < 61)) (
 cond (decide (0 ≤ s19_2) && decide (s19_2 < 61)) (
 (zle k p0 v1 v3 s1_10 s13_13 v1902 s19_2 s19_11).bind fun v2203 =>
 some (Sum.inl ((w64 (s19_2 + 1)), v2203))) none) (
 some (Sum.inr (s19_2, s19_11)))
def zkc (k : Nat) (p0 : zd) (v1 v3 : zt2) (s1_10 s13_13 : Int) (s13_22 : zt0) : Option ((Int × (Nat → Bool)) ⊕ (Int × (Nat → Bool))) :=
 cond (decide (s13_13 < (zG 1 (p0.ShelfBook.Deliveries.1.length : Int)))) (
 (zmb k ((z7 zx (⟨s1_10, s13_13⟩ : zq) v1).getD (fun _ => false))).bind fun v1902 =>
 (iter (fun s => zmc k p0 v1 v3 s1_10 s13_13 v1902 s.1 s.2) k (0, s13_22)).bind fun v1904 =>
 some (Sum.inl ((w64 (s13_13 + 1)), v1904.2))) (
 some (Sum.inr (s13_13, s13_22)))
def zmd (k : Nat) (p0 : zd) (v1 v3 : zt2) (s1_10 : Int) (s1_19 : zt0) : Option ((Int × (Nat → Bool)) ⊕ (Int × (Nat → Bool))) :=
 cond (decide (s1_10 < p0.ShelfBook.Days)) (
 cond (decide ((p0.ShelfBook.Deliveries.1.length : Int) < 0)) (
 none) (
 (iter (fun s => zkc k p0 v1 v3 s1_10 s.1 s.2) k (0, s1_19)).bind fun v1303 =>
 some (Sum.inl ((w64 (s1_10 + 1)), v1303.2)))) (
 some (Sum.inr (s1_10, s1_19)))
def zwb (k : Nat) (p0 : zd) : Option (Nat → Bool) :=
 (zUd k p0).bind fun v1 =>
 (zxf k p0).bind fun v3 =>
 (iter (fun s => zmd k p0 v1 v3 s.1 s.2) k (0, (fun _ => false))).bind fun v5 =>
 some v5.2
def zOi (r : zt0) : D := (.agg (aB 732 r))
def zCg (k : Nat) (p0 : za) (v1 s1_11 : Int) (s1_17 : (List Int)) : Option ((Int × (List Int)) ⊕ (Int × (List Int))) :=
 cond (decide (s1_11 < (p0.Counts.1.length : Int))) (
 (idx p0.Counts.1 s1_11).bind fun v202 =>
 (zwb k (⟨p0, v202.Shelf, 0⟩ : zd)).bind fun v204 =>
 cond (decide (s1_11 < 0)) (
 none) (
 (zwb k (⟨p0, v202.Shelf, (zG 1 s1_11)⟩ : zd)).bind fun v207 =>
 cond (!(eqB v204 v207 0 732)) (
 some (Sum.inl ((w64 (s1_11 + 1)), s1_17))) (
 cond (decide (s1_17.length + 1 ≤ LIM)) (
 some (Sum.inl ((w64 (s1_11 + 1)), (s1_17 ++ [s1_11])))) none))) (
 some (Sum.inr (s1_11, s1_17)))
def z9g (k : Nat) (p0 : za) : Option ((SL Int) × Int) :=
 (zRc k p0 true).bind fun v1 =>
 cond (v1 != 0) (
 some (([], .nil), v1)) (
 (iter (fun s => zCg k p0 v1 s.1 s.2) k (0, ([] : List Int))).bind fun v4 =>
 some ((v4.2, (xcap true v4.2)), 0))
def znl (r : zt5) : D := (.tup [(dl eI r.1.1 r.1.2), (di r.2)])
def zab (k : Nat) (p0 p1 p2 : Int) : Option Bool :=
 cond (decide (p1 ≤ p0)) (
 some (decide (p0 ≤ p2))) (
 some false)
def z0f (r : Bool) : D := (db r)
def zzb (k : Nat) (p0 : zt) (p1 p2 : Int) : Option Bool :=
 cond (decide (p1 ≤ p0.Low)) (
 cond (decide (p0.Low ≤ p0.High)) (
 some (decide (p0.High ≤ p2))) (
 some false)) (
 some false)
def zZd (r : Bool) : D := (db r)
def zQc (k : Nat) (p0 : za) : Option Bool :=
 (zOe k p0).bind fun v201 =>
 cond (v201 == 0) (
 (zab k p0.Days 1 12).bind fun v204 =>
 cond v204 (
 (zab k (p0.Shelves.1.length : Int) 1 4).bind fun v207 =>
 cond v207 (
 cond (decide ((p0.Moves.1.length : Int) ≤ 10)) (
 cond (decide ((p0.Deliveries.1.length : Int) ≤ 3)) (
 some (decide ((p0.Counts.1.length : Int) ≤ 8))) (
 some false)) (
 some false)) (
 some false)) (
 some false)) (
 some false)
def zac (k : Nat) (p0 : za) (s2_6 : Bool) (s2_7 : Int) : Option Bool :=
 cond s2_6 (
 some (decide (s2_7 < (p0.Shelves.1.length : Int)))) (
 some false)
def z4d (k : Nat) (p0 : za) (s2_6 : Bool) (s2_7 : Int) : Option Bool :=
 (idx p0.Shelves.1 s2_7).bind fun v701 =>
 (zab k v701.Room 1 60).bind fun v703 =>
 cond v703 (
 (idx p0.Shelves.1 s2_7).bind fun v706 =>
 (idx p0.Shelves.1 s2_7).bind fun v708 =>
 (zzb k v706.Begin 0 v708.Room).bind fun v710 =>
 some v710) (
 some false)
def z9b (k : Nat) (p0 : za) (s2_6 : Bool) (s2_7 : Int) : Option ((Bool × Int) ⊕ (Bool × Int)) :=
 (zac k p0 s2_6 s2_7).bind fun v501 =>
 cond v501 (
 (z4d k p0 s2_6 s2_7).bind fun v504 =>
 some (Sum.inl (v504, (w64 (s2_7 + 1))))) (
 some (Sum.inr (s2_6, s2_7)))
def z2b (k : Nat) (p0 : za) (v3 : zt1) (s7_6 : Bool) (s7_9 : Int) : Option Bool :=
 cond s7_6 (
 some (decide (s7_9 < (p0.Moves.1.length : Int)))) (
 some false)
def zCd (k : Nat) (p0 : za) (v3 : zt1) (s7_6 : Bool) (s7_9 : Int) (v1004 : zD) : Option Bool :=
 (zab k v1004.Day 0 (w64 (p0.Days - 1))).bind fun v1201 =>
 cond v1201 (
 (zab k v1004.Shelf 0 (w64 ((p0.Shelves.1.length : Int) - 1))).bind fun v1204 =>
 cond v1204 (
 (zzb k v1004.By 0 60).bind fun v1207 =>
 some v1207) (
 some false)) (
 some false)
def zbc (k : Nat) (p0 : za) (v3 : zt1) (s7_6 : Bool) (s7_9 : Int) : Option ((Bool × Int) ⊕ (Bool × Int)) :=
 (z2b k p0 v3 s7_6 s7_9).bind fun v1001 =>
 cond v1001 (
 (idx p0.Moves.1 s7_9).bind fun v1004 =>
 (zCd k p0 v3 s7_6 s7_9 v1004).bind fun v1006 =>
 some (Sum.inl (v1006, (w64 (s7_9 + 1))))) (
 some (Sum.inr (s7_6, s7_9)))
def z3b (k : Nat) (p0 : za) (v3 v5 : zt1) (s12_6 : Bool) (s12_11 : Int) : Option Bool :=
 cond s12_6 (
 some (decide (s12_11 < (p0.Deliveries.1.length : Int)))) (
 some false)
def zGd (k : Nat) (p0 : za) (v3 v5 : zt1) (s12_6 : Bool) (s12_11 : Int) (v1504 : zy) : Option Bool :=
 (zab k v1504.Shelf 0 (w64 ((p0.Shelves.1.length : Int) - 1))).bind fun v1701 =>
 cond v1701 (
 (zzb k v1504.Days 0 (w64 (p0.Days - 1))).bind fun v1704 =>
 cond v1704 (
 (zzb k v1504.By 0 60).bind fun v1707 =>
 some v1707) (
 some false)) (
 some false)
def z1b (k : Nat) (p0 : za) (v3 v5 : zt1) (s12_6 : Bool) (s12_11 : Int) : Option ((Bool × Int) ⊕ (Bool × Int)) :=
 (z3b k p0 v3 v5 s12_6 s12_11).bind fun v1501 =>
 cond v1501 (
 (idx p0.Deliveries.1 s12_11).bind fun v1504 =>
 (zGd k p0 v3 v5 s12_6 s12_11 v1504).bind fun v1506 =>
 some (Sum.inl (v1506, (w64 (s12_11 + 1))))) (
 some (Sum.inr (s12_6, s12_11)))
def zZb (k : Nat) (p0 : za) (v3 v5 v7 : zt1) (s17_6 : Bool) (s17_13 : Int) : Option Bool :=
 cond s17_6 (
 some (decide (s17_13 < (p0.Counts.1.length : Int)))) (
 some false)
def zEd (k : Nat) (p0 : za) (v3 v5 v7 : zt1) (s17_6 : Bool) (s17_13 : Int) (v2004 : zo) : Option Bool :=
 (zab k v2004.Day 0 (w64 (p0.Days - 1))).bind fun v2201 =>
 cond v2201 (
 (zab k v2004.Shelf 0 (w64 ((p0.Shelves.1.length : Int) - 1))).bind fun v2204 =>
 cond v2204 (
 (zab k v2004.Read 0 60).bind fun v2207 =>
 cond v2207 (
 (zab k v2004.Err 0 20).bind fun v2210 =>
 some v2210) (
 some false)) (
 some false)) (
 some false)
def zWb (k : Nat) (p0 : za) (v3 v5 v7 : zt1) (s17_6 : Bool) (s17_13 : Int) : Option ((Bool × Int) ⊕ (Bool × Int)) :=
 (zZb k p0 v3 v5 v7 s17_6 s17_13).bind fun v2001 =>
 cond v2001 (
 (idx p0.Counts.1 s17_13).bind fun v2004 =>
 (zEd k p0 v3 v5 v7 s17_6 s17_13 v2004).bind fun v2006 =>
 some (Sum.inl (v2006, (w64 (s17_13 + 1))))) (
 some (Sum.inr (s17_6, s17_13)))
def zMd (k : Nat) (p0 : za) : Option Bool :=
 (zQc k p0).bind fun v1 =>
 (iter (fun s => z9b k p0 s.1 s.2) k (v1, 0)).bind fun v3 =>
 (iter (fun s => zbc k p0 v3 s.1 s.2) k (v3.1, 0)).bind fun v5 =>
 (iter (fun s => z1b k p0 v3 v5 s.1 s.2) k (v5.1, 0)).bind fun v7 =>
 (iter (fun s => zWb k p0 v3 v5 v7 s.1 s.2) k (v7.1, 0)).bind fun v9 =>
 some v9.1
def zai (r : Bool) : D := (db r)
def ztb (k : Nat) (p0 p1 : Int) : Option zt :=
 some (⟨p0, p1⟩ : zt)
def zGj (r : zt) : D := (.agg [(di r.Low), (di r.High)])
def zPc (k : Nat) (p0 p1 p2 p3 : Int) : Option zo :=
 some (⟨p0, p1, p2, p3⟩ : zo)
def zhi (r : zo) : D := (.agg (zi r))
def zAb (k : Nat) (p0 : (SL zo)) : Option za :=
 (ztb k 10 12).bind fun v1 =>
 (ztb k 5 5).bind fun v3 =>
 (ztb k 3 4).bind fun v5 =>
 (ztb k 5 8).bind fun v7 =>
 (ztb k 0 2).bind fun v9 =>
 (ztb k 2 2).bind fun v11 =>
 (ztb k 1 3).bind fun v13 =>
 (ztb k 10 10).bind fun v15 =>
 (zPc k 2 0 12 2).bind fun v17 =>
 (zPc k 1 1 3 0).bind fun v19 =>
 cond (decide (([v17, v19] : List zo).length + p0.1.length ≤ LIM)) (
 some (⟨5, ([(⟨v1, 30⟩ : zS), (⟨v3, 10⟩ : zS)], .ex), ([(⟨0, 0, false, v5⟩ : zD), (⟨2, 0, false, v7⟩ : zD), (⟨3, 0, true, v9⟩ : zD), (⟨1, 1, false, v11⟩ : zD)], .ex), ([(⟨0, v13, v15⟩ : zy)], .ex), ((([v17, v19] : List zo) ++ p0.1), (cond p0.1.isEmpty .ex .ro))⟩ : za)) none
def zCi (r : za) : D := (.agg (zb r))
def zVe (k : Nat) (p0 : za) (p1 p2 : Int) : Option Bool :=
 (zX k p1 0 (w64 ((p0.Shelves.1.length : Int) - 1))).bind fun v1 =>
 cond v1 (
 (zX k p2 0 (w64 (p0.Days - 1))).bind fun v4 =>
 some v4) (
 some false)
def zUi (r : Bool) : D := (db r)
def z8e (k : Nat) (p0 : zt) : Option Int :=
 some p0.Low
def zfi (r : Int) : D := (di r)
def zRb (k : Nat) (p1 : (SL Int)) (s1_0 s1_5 : Int) : Option ((Int × Int) ⊕ (Int × Int)) :=
 cond (decide (s1_5 < (p1.1.length : Int))) (
 (idx p1.1 s1_5).bind fun v202 =>
 some (Sum.inl ((if v202 > s1_0 then v202 else s1_0), (w64 (s1_5 + 1))))) (
 some (Sum.inr (s1_0, s1_5)))
def zrc (k : Nat) (p0 : Int) (p1 : (SL Int)) : Option Int :=
 (iter (fun s => zRb k p1 s.1 s.2) k (p0, 0)).bind fun v1 =>
 some v1.1
def zEi (r : Int) : D := (di r)
def z6e (k : Nat) (p0 : zt) : Option Int :=
 some p0.High
def z9h (r : Int) : D := (di r)
def zEe (k : Nat) (p0 v1 : zt0) (s1_2 s1_6 s1_7 : Int) : Option (Int × Int) :=
 cond (v1 s1_2.toNat) (
 (z8e k (⟨s1_6, s1_7⟩ : zt)).bind fun v402 =>
 (zrc k (w64 (0 - v402)) ([(w64 (0 - s1_2))], .ex)).bind fun v404 =>
 (z6e k (⟨s1_6, s1_7⟩ : zt)).bind fun v406 =>
 (zrc k v406 ([s1_2], .ex)).bind fun v408 =>
 some ((w64 (0 - v404)), v408)) (
 some (s1_6, s1_7))
def zqd (k : Nat) (p0 v1 : zt0) (s1_2 s1_6 s1_7 : Int) : Option ((Int × Int × Int) ⊕ (Int × Int × Int)) :=
 cond (decide (s1_2 < 61)) (
 cond (decide (0 ≤ s1_2) && decide (s1_2 < 61)) (
 (zEe k p0 v1 s1_2 s1_6 s1_7).bind fun v303 =>
 some (Sum.inl ((w64 (s1_2 + 1)), v303.1, v303.2))) none) (
 some (Sum.inr (s1_2, s1_6, s1_7)))
def zOb (k : Nat) (p0 : zt0) : Option zt :=
 (zmb k p0).bind fun v1 =>
 (iter (fun s => zqd k p0 v1 s.1 s.2.1 s.2.2) k (0, 60, 0)).bind fun v3 =>
 some (⟨v3.2.1, v3.2.2⟩ : zt)
def zQi (r : zt) : D := (.agg [(di r.Low), (di r.High)])
def zgg (k : Nat) (p0 : za) (p1 p2 : Int) : Option (zt × Int) :=
 (zVe k p0 p1 p2).bind fun v1 =>
 (zRc k p0 v1).bind fun v3 =>
 cond (v3 != 0) (
 some ((⟨0, 0⟩ : zt), v3)) (
 (zwb k (⟨p0, p1, 0⟩ : zd)).bind fun v6 =>
 cond (decide (0 ≤ p2) && decide (p2 < 12)) (
 (zOb k (fun k => v6 (p2.toNat * 61 + k))).bind fun v9 =>
 some (v9, 0)) none)
def zwm (r : zt8) : D := (.tup [(.agg [(di r.1.Low), (di r.1.High)]), (di r.2)])
def zrf (k : Nat) (p0 : za) (p1 p2 p3 : Int) : Option (Bool × Int) :=
 (zVe k p0 p1 p2).bind fun v1 =>
 (zRc k p0 v1).bind fun v3 =>
 cond (v3 != 0) (
 some (false, v3)) (
 (zX k p3 0 60).bind fun v6 =>
 cond v6 (
 (zwb k (⟨p0, p1, 0⟩ : zd)).bind fun v9 =>
 cond (decide (0 ≤ p2) && decide (p2 < 12)) (
 cond (decide (0 ≤ p3) && decide (p3 < 61)) (
 some (((fun k => v9 (p2.toNat * 61 + k)) p3.toNat), 0)) none) none) (
 some (false, 0)))
def zkj (r : zt1) : D := (.tup [(db r.1), (di r.2)])
def zek (k : Nat) (p0 : za) (p1 p2 v3 : Int) (v6 : zt0) (s1_11 s1_12 : Int) : Option ((Int × Int) ⊕ (Int × Int)) :=
 cond (decide (s1_12 < p0.Days)) (
 cond (decide (0 ≤ s1_12) && decide (s1_12 < 12)) (
 (zOb k (fun k => v6 ((s1_12.toNat * 61) + k))).bind fun v203 =>
 (zrc k (w64 (0 - s1_11)) ([(w64 (0 - v203.Low))], .ex)).bind fun v205 =>
 some (Sum.inl ((w64 (0 - v205)), (w64 (s1_12 + 1))))) none) (
 some (Sum.inr (s1_11, s1_12)))
def zen (k : Nat) (p0 : za) (p1 p2 : Int) : Option (Int × Int) :=
 (zVe k p0 p1 p2).bind fun v1 =>
 (zRc k p0 v1).bind fun v3 =>
 cond (v3 != 0) (
 some (0, v3)) (
 (zwb k (⟨p0, p1, 0⟩ : zd)).bind fun v6 =>
 (iter (fun s => zek k p0 p1 p2 v3 v6 s.1 s.2) k (60, p2)).bind fun v8 =>
 some (v8.1, 0))
def zWk (r : (Int × Int)) : D := (.tup [(di r.1), (di r.2)])
def zll (k : Nat) (p0 : za) (p1 v3 : Int) (v6 : zy) (s1_10 : Int) (s1_16 : (List Int)) : Option ((Int × (List Int)) ⊕ (Int × (List Int))) :=
 cond (decide (s1_10 ≤ v6.Days.High)) (
 cond (decide (p0.Deliveries.2 = .nil)) (
 none) (
 cond (decide (p0.Deliveries.1.length ≤ LIM)) (
 (idx p0.Deliveries.1 p1).bind fun v304 =>
 (zWd k (⟨(⟨p0.Days, p0.Shelves, p0.Moves, ((p0.Deliveries.1.set p1.toNat (⟨v304.Shelf, (⟨s1_10, s1_10⟩ : zt), v304.By⟩ : zy)), (rcap false (p0.Deliveries.1.set p1.toNat (⟨v304.Shelf, (⟨s1_10, s1_10⟩ : zt), v304.By⟩ : zy)))), p0.Counts⟩ : za), v6.Shelf, 0⟩ : zd)).bind fun v306 =>
 cond v306 (
 cond (decide (s1_16.length + 1 ≤ LIM)) (
 some (Sum.inl ((w64 (s1_10 + 1)), (s1_16 ++ [s1_10])))) none) (
 some (Sum.inl ((w64 (s1_10 + 1)), s1_16)))) none)) (
 some (Sum.inr (s1_10, s1_16)))
def zSn (k : Nat) (p0 : za) (p1 : Int) : Option ((SL Int) × Int) :=
 (zX k p1 0 (w64 ((p0.Deliveries.1.length : Int) - 1))).bind fun v1 =>
 (zRc k p0 v1).bind fun v3 =>
 cond (v3 != 0) (
 some (([], .nil), v3)) (
 (idx p0.Deliveries.1 p1).bind fun v6 =>
 (iter (fun s => zll k p0 p1 v3 v6 s.1 s.2) k (v6.Days.Low, ([] : List Int))).bind fun v8 =>
 some ((v8.2, (xcap true v8.2)), 0))
def zdm (r : zt5) : D := (.tup [(dl eI r.1.1 r.1.2), (di r.2)])
def zKf (k : Nat) (p0 p1 : (SL Int)) (s1_3 : Bool) (s1_4 : Int) : Option Bool :=
 cond s1_3 (
 some (decide (s1_4 < (p0.1.length : Int)))) (
 some false)
def zOf (k : Nat) (p0 p1 : (SL Int)) (s1_3 : Bool) (s1_4 : Int) : Option ((Bool × Int) ⊕ (Bool × Int)) :=
 (zKf k p0 p1 s1_3 s1_4).bind fun v301 =>
 cond v301 (
 (idx p0.1 s1_4).bind fun v304 =>
 (idx p1.1 s1_4).bind fun v306 =>
 some (Sum.inl ((v304 == v306), (w64 (s1_4 + 1))))) (
 some (Sum.inr (s1_3, s1_4)))
def zPd (k : Nat) (p0 p1 : (SL Int)) : Option Bool :=
 (iter (fun s => zOf k p0 p1 s.1 s.2) k (((p0.1.length : Int) == (p1.1.length : Int)), 0)).bind fun v1 =>
 some v1.1
def zgi (r : Bool) : D := (db r)
def z6i (k : Nat) (p0 : za) (p1 v3 : Int) (v6 : zD) (s1_9 : Int) (s1_17 : zt0) : Option ((Int × (Nat → Bool)) ⊕ (Int × (Nat → Bool))) :=
 cond (decide (s1_9 ≤ v6.By.High)) (
 cond (decide (p0.Moves.2 = .nil)) (
 none) (
 cond (decide (p0.Moves.1.length ≤ LIM)) (
 (idx p0.Moves.1 p1).bind fun v204 =>
 (zWd k (⟨(⟨p0.Days, p0.Shelves, ((p0.Moves.1.set p1.toNat (⟨v204.Day, v204.Shelf, v204.Back, (⟨s1_9, s1_9⟩ : zt)⟩ : zD)), (rcap false (p0.Moves.1.set p1.toNat (⟨v204.Day, v204.Shelf, v204.Back, (⟨s1_9, s1_9⟩ : zt)⟩ : zD)))), p0.Deliveries, p0.Counts⟩ : za), v6.Shelf, 0⟩ : zd)).bind fun v206 =>
 cond (decide (0 ≤ s1_9) && decide (s1_9 < 61)) (
 some (Sum.inl ((w64 (s1_9 + 1)), (upd s1_17 s1_9.toNat v206)))) none) none)) (
 some (Sum.inr (s1_9, s1_17)))
def zmm (k : Nat) (p0 : za) (p1 : Int) : Option (zt × Int) :=
 (zX k p1 0 (w64 ((p0.Moves.1.length : Int) - 1))).bind fun v1 =>
 (zRc k p0 v1).bind fun v3 =>
 cond (v3 != 0) (
 some ((⟨0, 0⟩ : zt), v3)) (
 (idx p0.Moves.1 p1).bind fun v6 =>
 (iter (fun s => z6i k p0 p1 v3 v6 s.1 s.2) k (v6.By.Low, (fun _ => false))).bind fun v8 =>
 (zOb k v8.2).bind fun v10 =>
 some (v10, 0))
def z2j (r : zt8) : D := (.tup [(.agg [(di r.1.Low), (di r.1.High)]), (di r.2)])
def z7j (k : Nat) (p0 : za) (p1 p2 p3 : Int) (v1 : zt1) (s1_15 : Int) (s1_26 : zt12) (s1_27 : Bool) (s1_28 : (List Int)) : Option ((Int × (List zo) × Bool × (List Int)) ⊕ (Int × (List zo) × Bool × (List Int))) :=
 cond (decide (s1_15 < p0.Days)) (
 (zwb k (⟨(⟨p0.Days, p0.Shelves, p0.Moves, p0.Deliveries, (s1_26, (rcap true s1_26))⟩ : za), p1, 0⟩ : zd)).bind fun v202 =>
 cond (decide (0 ≤ s1_15) && decide (s1_15 < 12)) (
 (zOb k (fun k => v202 (s1_15.toNat * 61 + k))).bind fun v205 =>
 cond (decide (s1_26.length + 1 ≤ LIM)) (
 cond (decide (s1_28.length + 1 ≤ LIM)) (
 some (Sum.inl ((w64 (s1_15 + 1)), (s1_26 ++ [(⟨s1_15, p1, v205.Low, 0⟩ : zo)]), (false || (true && s1_26.isEmpty)), (s1_28 ++ [v205.Low])))) none) none) none) (
 some (Sum.inr (s1_15, s1_26, s1_27, s1_28)))
def z4j (k : Nat) (p0 : za) (p1 p2 p3 : Int) (v1 : zt1) (s2_15 : Int) (s2_26 : zt12) (s2_27 : Bool) (s2_28 : (List Int)) : Option ((Int × (List zo) × Bool × (List Int)) ⊕ (Int × (List zo) × Bool × (List Int))) :=
 cond (decide (s2_15 < p0.Days)) (
 (zwb k (⟨(⟨p0.Days, p0.Shelves, p0.Moves, p0.Deliveries, (s2_26, (rcap false s2_26))⟩ : za), p1, 0⟩ : zd)).bind fun v302 =>
 cond (decide (0 ≤ s2_15) && decide (s2_15 < 12)) (
 (zOb k (fun k => v302 (s2_15.toNat * 61 + k))).bind fun v305 =>
 cond (decide (s2_26.length + 1 ≤ LIM)) (
 cond (decide (s2_28.length + 1 ≤ LIM)) (
 some (Sum.inl ((w64 (s2_15 + 1)), (s2_26 ++ [(⟨s2_15, p1, v305.Low, 0⟩ : zo)]), (false || (false && s2_26.isEmpty)), (s2_28 ++ [v305.Low])))) none) none) none) (
 some (Sum.inr (s2_15, s2_26, s2_27, s2_28)))
def zun (k : Nat) (p0 : za) (p1 p2 p3 : Int) : Option ((SL Int) × Int) :=
 (zrf k p0 p1 p2 p3).bind fun v1 =>
 cond (v1.2 != 0) (
 some (([], .nil), v1.2)) (
 cond (!v1.1) (
 some (([], .nil), 4)) (
 cond (decide (p0.Counts.2 = .nil)) (
 cond (decide (([] : List zo).length + 1 ≤ LIM)) (
 (iter (fun s => z7j k p0 p1 p2 p3 v1 s.1 s.2.1 s.2.2.1 s.2.2.2) k (0, ([(⟨p2, p1, p3, 0⟩ : zo)] : List zo), true, ([] : List Int))).bind fun v7 =>
 some ((v7.2.2.2, (xcap true v7.2.2.2)), 0)) none) (
 cond (decide (p0.Counts.1.length ≤ LIM)) (
 cond (decide (p0.Counts.1.length + 1 ≤ LIM)) (
 (iter (fun s => z4j k p0 p1 p2 p3 v1 s.1 s.2.1 s.2.2.1 s.2.2.2) k (0, (p0.Counts.1 ++ [(⟨p2, p1, p3, 0⟩ : zo)]), true, ([] : List Int))).bind fun v8 =>
 some ((v8.2.2.2, (xcap true v8.2.2.2)), 0)) none) none)))
def zRg (r : zt5) : D := (.tup [(dl eI r.1.1 r.1.2), (di r.2)])
def zu (r : ((SL Int) × Bool)) : D := (.tup [(dl eI r.1.1 r.1.2), (db r.2)])
def zej (k : Nat) (p0 : za) (r0 : (SL Int)) (r1 r2 : Int) (cb : Bool) (rc : zt3) : Option (Int × Bool) :=
 cond cb (
 (idx r0.1 (w64 ((r0.1.length : Int) - 1))).bind fun v402 =>
 some ((w64 (v402 + 1)), true)) (
 some (0, false))
def zSi (k : Nat) (p0 : za) (r0 : (SL Int)) (r1 r2 : Int) (v302 : zt4) (rc : zt3) (s4_8 : Int) : Option (Int ⊕ (((SL Int) × Int × Bool) ⊕ Int)) :=
 cond (decide (s4_8 < (p0.Counts.1.length : Int))) (
 cond (decide ((ccap r0.2) = Cap.ro)) (
 none) (
 cond (decide (r0.1.length + 1 ≤ LIM)) (
 cond (decide (s4_8 < 0)) (
 none) (
 (rc ((r0.1 ++ [s4_8]), .ro) (or64 r1 (zG 1 s4_8)) r2).bind fun v505 =>
 cond v505.2 (
 some (Sum.inr (Sum.inl (v505.1, s4_8, v505.2)))) (
 some (Sum.inl (w64 (s4_8 + 1)))))) none)) (
 some (Sum.inr (Sum.inr s4_8)))
def zth (k : Nat) (p0 : za) (rc : zt3) (r0 : (SL Int)) (r1 r2 : Int) : Option ((SL Int) × Bool) :=
 cond ((r0.1.length : Int) == r2) (
 (zGb k p0 r1).bind fun v302 =>
 some (r0, v302)) (
 (zej k p0 r0 r1 r2 (decide ((r0.1.length : Int) > 0)) rc).bind fun v302 =>
 (iter (fun s => zSi k p0 r0 r1 r2 v302 rc s) k v302.1).bind fun v304 =>
 Sum.elim (fun v307 =>
 some (v307.1, true)) (fun w3_0 =>
 (fun v307 =>
 some (([], .nil), false)) w3_0) v304)
def zhj (k : Nat) (p0 : za) (r0 : (SL Int)) (r1 r2 : Int) (cb : Bool) (rc : zt3) : Option (Int × Bool) :=
 cond cb (
 (idx r0.1 (w64 ((r0.1.length : Int) - 1))).bind fun v602 =>
 some ((w64 (v602 + 1)), true)) (
 some (0, false))
def z2i (k : Nat) (p0 : za) (r0 : (SL Int)) (r1 r2 : Int) (v502 : zt4) (rc : zt3) (s6_8 : Int) : Option (Int ⊕ (((SL Int) × Int × Bool) ⊕ Int)) :=
 cond (decide (s6_8 < (p0.Counts.1.length : Int))) (
 cond (decide ((ccap r0.2) = Cap.ro)) (
 none) (
 cond (decide (r0.1.length + 1 ≤ LIM)) (
 cond (decide (s6_8 < 0)) (
 none) (
 (rc ((r0.1 ++ [s6_8]), .ro) (or64 r1 (zG 1 s6_8)) r2).bind fun v705 =>
 cond v705.2 (
 some (Sum.inr (Sum.inl (v705.1, s6_8, v705.2)))) (
 some (Sum.inl (w64 (s6_8 + 1)))))) none)) (
 some (Sum.inr (Sum.inr s6_8)))
def zqh (k : Nat) (p0 : za) (rc : zt3) (r0 : (SL Int)) (r1 r2 : Int) : Option ((SL Int) × Bool) :=
 cond ((r0.1.length : Int) == r2) (
 (zGb k p0 r1).bind fun v502 =>
 some (r0, v502)) (
 (zhj k p0 r0 r1 r2 (decide ((r0.1.length : Int) > 0)) rc).bind fun v502 =>
 (iter (fun s => z2i k p0 r0 r1 r2 v502 rc s) k v502.1).bind fun v504 =>
 Sum.elim (fun v507 =>
 some (v507.1, true)) (fun w3_0 =>
 (fun v507 =>
 some (([], .nil), false)) w3_0) v504)
def z1i (k : Nat) (p0 : za) (r0 : (SL Int)) (r1 r2 : Int) (cb : Bool) (rc : zt3) : Option (Int × Bool) :=
 cond cb (
 (idx r0.1 (w64 ((r0.1.length : Int) - 1))).bind fun v802 =>
 some ((w64 (v802 + 1)), true)) (
 some (0, false))
def zZi (k : Nat) (p0 : za) (r0 : (SL Int)) (r1 r2 : Int) (v702 : zt4) (rc : zt3) (s8_8 : Int) : Option (Int ⊕ (((SL Int) × Int × Bool) ⊕ Int)) :=
 cond (decide (s8_8 < (p0.Counts.1.length : Int))) (
 cond (decide ((ccap r0.2) = Cap.ro)) (
 none) (
 cond (decide (r0.1.length + 1 ≤ LIM)) (
 cond (decide (s8_8 < 0)) (
 none) (
 (rc ((r0.1 ++ [s8_8]), .ro) (or64 r1 (zG 1 s8_8)) r2).bind fun v905 =>
 cond v905.2 (
 some (Sum.inr (Sum.inl (v905.1, s8_8, v905.2)))) (
 some (Sum.inl (w64 (s8_8 + 1)))))) none)) (
 some (Sum.inr (Sum.inr s8_8)))
def zEh (k : Nat) (p0 : za) (rc : zt3) (r0 : (SL Int)) (r1 r2 : Int) : Option ((SL Int) × Bool) :=
 cond ((r0.1.length : Int) == r2) (
 (zGb k p0 r1).bind fun v702 =>
 some (r0, v702)) (
 (z1i k p0 r0 r1 r2 (decide ((r0.1.length : Int) > 0)) rc).bind fun v702 =>
 (iter (fun s => zZi k p0 r0 r1 r2 v702 rc s) k v702.1).bind fun v704 =>
 Sum.elim (fun v707 =>
 some (v707.1, true)) (fun w3_0 =>
 (fun v707 =>
 some (([], .nil), false)) w3_0) v704)
def zYi (k : Nat) (p0 : za) (r0 : (SL Int)) (r1 r2 : Int) (cb : Bool) (rc : zt3) : Option (Int × Bool) :=
 cond cb (
 (idx r0.1 (w64 ((r0.1.length : Int) - 1))).bind fun v1002 =>
 some ((w64 (v1002 + 1)), true)) (
 some (0, false))
def zIi (k : Nat) (p0 : za) (r0 : (SL Int)) (r1 r2 : Int) (v902 : zt4) (rc : zt3) (s10_8 : Int) : Option (Int ⊕ (((SL Int) × Int × Bool) ⊕ Int)) :=
 cond (decide (s10_8 < (p0.Counts.1.length : Int))) (
 cond (decide ((ccap r0.2) = Cap.ro)) (
 none) (
 cond (decide (r0.1.length + 1 ≤ LIM)) (
 cond (decide (s10_8 < 0)) (
 none) (
 (rc ((r0.1 ++ [s10_8]), .ro) (or64 r1 (zG 1 s10_8)) r2).bind fun v1105 =>
 cond v1105.2 (
 some (Sum.inr (Sum.inl (v1105.1, s10_8, v1105.2)))) (
 some (Sum.inl (w64 (s10_8 + 1)))))) none)) (
 some (Sum.inr (Sum.inr s10_8)))
def zuh (k : Nat) (p0 : za) (rc : zt3) (r0 : (SL Int)) (r1 r2 : Int) : Option ((SL Int) × Bool) :=
 cond ((r0.1.length : Int) == r2) (
 (zGb k p0 r1).bind fun v902 =>
 some (r0, v902)) (
 (zYi k p0 r0 r1 r2 (decide ((r0.1.length : Int) > 0)) rc).bind fun v902 =>
 (iter (fun s => zIi k p0 r0 r1 r2 v902 rc s) k v902.1).bind fun v904 =>
 Sum.elim (fun v907 =>
 some (v907.1, true)) (fun w3_0 =>
 (fun v907 =>
 some (([], .nil), false)) w3_0) v904)
def zmi (k : Nat) (p0 : za) (r0 : (SL Int)) (r1 r2 : Int) (cb : Bool) (rc : zt3) : Option (Int × Bool) :=
 cond cb (
 (idx r0.1 (w64 ((r0.1.length : Int) - 1))).bind fun v1202 =>
 some ((w64 (v1202 + 1)), true)) (
 some (0, false))
def zui (k : Nat) (p0 : za) (r0 : (SL Int)) (r1 r2 : Int) (v1102 : zt4) (rc : zt3) (s12_8 : Int) : Option (Int ⊕ (((SL Int) × Int × Bool) ⊕ Int)) :=
 cond (decide (s12_8 < (p0.Counts.1.length : Int))) (
 cond (decide ((ccap r0.2) = Cap.ro)) (
 none) (
 cond (decide (r0.1.length + 1 ≤ LIM)) (
 cond (decide (s12_8 < 0)) (
 none) (
 (rc ((r0.1 ++ [s12_8]), .ro) (or64 r1 (zG 1 s12_8)) r2).bind fun v1305 =>
 cond v1305.2 (
 some (Sum.inr (Sum.inl (v1305.1, s12_8, v1305.2)))) (
 some (Sum.inl (w64 (s12_8 + 1)))))) none)) (
 some (Sum.inr (Sum.inr s12_8)))
def zxh (k : Nat) (p0 : za) (rc : zt3) (r0 : (SL Int)) (r1 r2 : Int) : Option ((SL Int) × Bool) :=
 cond ((r0.1.length : Int) == r2) (
 (zGb k p0 r1).bind fun v1102 =>
 some (r0, v1102)) (
 (zmi k p0 r0 r1 r2 (decide ((r0.1.length : Int) > 0)) rc).bind fun v1102 =>
 (iter (fun s => zui k p0 r0 r1 r2 v1102 rc s) k v1102.1).bind fun v1104 =>
 Sum.elim (fun v1107 =>
 some (v1107.1, true)) (fun w3_0 =>
 (fun v1107 =>
 some (([], .nil), false)) w3_0) v1104)
def zJi (k : Nat) (p0 : za) (r0 : (SL Int)) (r1 r2 : Int) (cb : Bool) (rc : zt3) : Option (Int × Bool) :=
 cond cb (
 (idx r0.1 (w64 ((r0.1.length : Int) - 1))).bind fun v1402 =>
 some ((w64 (v1402 + 1)), true)) (
 some (0, false))
def zri (k : Nat) (p0 : za) (r0 : (SL Int)) (r1 r2 : Int) (v1302 : zt4) (rc : zt3) (s14_8 : Int) : Option (Int ⊕ (((SL Int) × Int × Bool) ⊕ Int)) :=
 cond (decide (s14_8 < (p0.Counts.1.length : Int))) (
 cond (decide ((ccap r0.2) = Cap.ro)) (
 none) (
 cond (decide (r0.1.length + 1 ≤ LIM)) (
 cond (decide (s14_8 < 0)) (
 none) (
 (rc ((r0.1 ++ [s14_8]), .ro) (or64 r1 (zG 1 s14_8)) r2).bind fun v1505 =>
 cond v1505.2 (
 some (Sum.inr (Sum.inl (v1505.1, s14_8, v1505.2)))) (
 some (Sum.inl (w64 (s14_8 + 1)))))) none)) (
 some (Sum.inr (Sum.inr s14_8)))
def zFh (k : Nat) (p0 : za) (rc : zt3) (r0 : (SL Int)) (r1 r2 : Int) : Option ((SL Int) × Bool) :=
 cond ((r0.1.length : Int) == r2) (
 (zGb k p0 r1).bind fun v1302 =>
 some (r0, v1302)) (
 (zJi k p0 r0 r1 r2 (decide ((r0.1.length : Int) > 0)) rc).bind fun v1302 =>
 (iter (fun s => zri k p0 r0 r1 r2 v1302 rc s) k v1302.1).bind fun v1304 =>
 Sum.elim (fun v1307 =>
 some (v1307.1, true)) (fun w3_0 =>
 (fun v1307 =>
 some (([], .nil), false)) w3_0) v1304)
def zwi (k : Nat) (p0 : za) (r0 : (SL Int)) (r1 r2 : Int) (cb : Bool) (rc : zt3) : Option (Int × Bool) :=
 cond cb (
 (idx r0.1 (w64 ((r0.1.length : Int) - 1))).bind fun v1602 =>
 some ((w64 (v1602 + 1)), true)) (
 some (0, false))
def zni (k : Nat) (p0 : za) (r0 : (SL Int)) (r1 r2 : Int) (v1502 : zt4) (rc : zt3) (s16_8 : Int) : Option (Int ⊕ (((SL Int) × Int × Bool) ⊕ Int)) :=
 cond (decide (s16_8 < (p0.Counts.1.length : Int))) (
 cond (decide ((ccap r0.2) = Cap.ro)) (
 none) (
 cond (decide (r0.1.length + 1 ≤ LIM)) (
 cond (decide (s16_8 < 0)) (
 none) (
 (rc ((r0.1 ++ [s16_8]), .ro) (or64 r1 (zG 1 s16_8)) r2).bind fun v1705 =>
 cond v1705.2 (
 some (Sum.inr (Sum.inl (v1705.1, s16_8, v1705.2)))) (
 some (Sum.inl (w64 (s16_8 + 1)))))) none)) (
 some (Sum.inr (Sum.inr s16_8)))
def zzh (k : Nat) (p0 : za) (rc : zt3) (r0 : (SL Int)) (r1 r2 : Int) : Option ((SL Int) × Bool) :=
 cond ((r0.1.length : Int) == r2) (
 (zGb k p0 r1).bind fun v1502 =>
 some (r0, v1502)) (
 (zwi k p0 r0 r1 r2 (decide ((r0.1.length : Int) > 0)) rc).bind fun v1502 =>
 (iter (fun s => zni k p0 r0 r1 r2 v1502 rc s) k v1502.1).bind fun v1504 =>
 Sum.elim (fun v1507 =>
 some (v1507.1, true)) (fun w3_0 =>
 (fun v1507 =>
 some (([], .nil), false)) w3_0) v1504)
def zji (k : Nat) (p0 : za) (r0 : (SL Int)) (r1 r2 : Int) (cb : Bool) (rc : zt3) : Option (Int × Bool) :=
 cond cb (
 (idx r0.1 (w64 ((r0.1.length : Int) - 1))).bind fun v1802 =>
 some ((w64 (v1802 + 1)), true)) (
 some (0, false))
def zBi (k : Nat) (p0 : za) (r0 : (SL Int)) (r1 r2 : Int) (v1702 : zt4) (rc : zt3) (s18_8 : Int) : Option (Int ⊕ (((SL Int) × Int × Bool) ⊕ Int)) :=
 cond (decide (s18_8 < (p0.Counts.1.length : Int))) (
 cond (decide ((ccap r0.2) = Cap.ro)) (
 none) (
 cond (decide (r0.1.length + 1 ≤ LIM)) (
 cond (decide (s18_8 < 0)) (
 none) (
 (rc ((r0.1 ++ [s18_8]), .ro) (or64 r1 (zG 1 s18_8)) r2).bind fun v1905 =>
 cond v1905.2 (
 some (Sum.inr (Sum.inl (v1905.1, s18_8, v1905.2)))) (
 some (Sum.inl (w64 (s18_8 + 1)))))) none)) (
 some (Sum.inr (Sum.inr s18_8)))
def zvh (k : Nat) (p0 : za) (rc : zt3) (r0 : (SL Int)) (r1 r2 : Int) : Option ((SL Int) × Bool) :=
 cond ((r0.1.length : Int) == r2) (
 (zGb k p0 r1).bind fun v1702 =>
 some (r0, v1702)) (
 (zji k p0 r0 r1 r2 (decide ((r0.1.length : Int) > 0)) rc).bind fun v1702 =>
 (iter (fun s => zBi k p0 r0 r1 r2 v1702 rc s) k v1702.1).bind fun v1704 =>
 Sum.elim (fun v1707 =>
 some (v1707.1, true)) (fun w3_0 =>
 (fun v1707 =>
 some (([], .nil), false)) w3_0) v1704)
def zoi (k : Nat) (p0 : za) (r0 : (SL Int)) (r1 r2 : Int) (cb : Bool) (rc : zt3) : Option (Int × Bool) :=
 cond cb (
 (idx r0.1 (w64 ((r0.1.length : Int) - 1))).bind fun v2002 =>
 some ((w64 (v2002 + 1)), true)) (
 some (0, false))
def zyi (k : Nat) (p0 : za) (r0 : (SL Int)) (r1 r2 : Int) (v1902 : zt4) (rc : zt3) (s20_8 : Int) : Option (Int ⊕ (((SL Int) × Int × Bool) ⊕ Int)) :=
 cond (decide (s20_8 < (p0.Counts.1.length : Int))) (
 cond (decide ((ccap r0.2) = Cap.ro)) (
 none) (
 cond (decide (r0.1.length + 1 ≤ LIM)) (
 cond (decide (s20_8 < 0)) (
 none) (
 (rc ((r0.1 ++ [s20_8]), .ro) (or64 r1 (zG 1 s20_8)) r2).bind fun v2105 =>
 cond v2105.2 (
 some (Sum.inr (Sum.inl (v2105.1, s20_8, v2105.2)))) (
 some (Sum.inl (w64 (s20_8 + 1)))))) none)) (
 some (Sum.inr (Sum.inr s20_8)))
def zCh (k : Nat) (p0 : za) (rc : zt3) (r0 : (SL Int)) (r1 r2 : Int) : Option ((SL Int) × Bool) :=
 cond ((r0.1.length : Int) == r2) (
 (zGb k p0 r1).bind fun v1902 =>
 some (r0, v1902)) (
 (zoi k p0 r0 r1 r2 (decide ((r0.1.length : Int) > 0)) rc).bind fun v1902 =>
 (iter (fun s => zyi k p0 r0 r1 r2 v1902 rc s) k v1902.1).bind fun v1904 =>
 Sum.elim (fun v1907 =>
 some (v1907.1, true)) (fun w3_0 =>
 (fun v1907 =>
 some (([], .nil), false)) w3_0) v1904)
def zXi (k : Nat) (p0 : za) (n : Nat) (r0 : (SL Int)) (r1 r2 : Int) : Option ((SL Int) × Bool) := (zth k p0 (zqh k p0 (zEh k p0 (zuh k p0 (zxh k p0 (zFh k p0 (zzh k p0 (zvh k p0 (zCh k p0 (fun _r0 _r1 _r2 => none)))))))))) r0 r1 r2
def zbj (k : Nat) (p0 : za) (v1 s1_10 : Int) : Option (Int ⊕ (((SL Int) × Int × (SL Int) × Bool) ⊕ Int)) :=
 cond (decide (s1_10 < (w64 ((p0.Counts.1.length : Int) + 1)))) (
 (zXi k p0 9 ([], .nil) 0 s1_10).bind fun v2102 =>
 cond v2102.2 (
 some (Sum.inr (Sum.inl ((v2102.1.1, (ccap v2102.1.2)), s1_10, v2102.1, v2102.2)))) (
 some (Sum.inl (w64 (s1_10 + 1))))) (
 some (Sum.inr (Sum.inr s1_10)))
def zem (k : Nat) (p0 : za) : Option ((SL Int) × Int) :=
 (zOe k p0).bind fun v1 =>
 cond (v1 != 0) (
 some (([], .nil), v1)) (
 (iter (fun s => zbj k p0 v1 s) k 0).bind fun v4 =>
 Sum.elim (fun v7 =>
 some (v7.1, 0)) (fun w3_0 =>
 (fun v7 =>
 some (([], .nil), 4)) w3_0) v4)
def zSh (r : zt5) : D := (.tup [(dl eI r.1.1 r.1.2), (di r.2)])
def zQe (k : Nat) (v3 : zt8) (v7 : zt1) (v11 : (Int × Int)) (v15 : zt5) : Option Bool :=
 cond (v3.2 != 0) (
 some true) (
 cond (v7.2 != 0) (
 some true) (
 cond (v11.2 != 0) (
 some true) (
 cond (v15.2 != 0) (
 some true) (
 (ztb k 6 19).bind fun v205 =>
 cond (!((v3.1.Low == v205.Low) && ((v3.1.High == v205.High) && true))) (
 some true) (
 cond (!v7.1) (
 some true) (
 cond (v11.1 != 6) (
 some true) (
 (zPd k v15.1 ([1, 2], .ex)).bind fun v210 =>
 some (!v210))))))))
def zHb (k : Nat) : Option Bool :=
 (zAb k ([], .nil)).bind fun v1 =>
 (zgg k v1 0 1).bind fun v3 =>
 (zAb k ([], .nil)).bind fun v5 =>
 (zrf k v5 0 1 9).bind fun v7 =>
 (zAb k ([], .nil)).bind fun v9 =>
 (zen k v9 0 0).bind fun v11 =>
 (zAb k ([], .nil)).bind fun v13 =>
 (zSn k v13 0).bind fun v15 =>
 (zQe k v3 v7 v11 v15).bind fun v17 =>
 cond v17 (
 some false) (
 (zAb k ([], .nil)).bind fun v20 =>
 (zmm k v20 1).bind fun v22 =>
 (zAb k ([], .nil)).bind fun v24 =>
 (zun k v24 0 2 14).bind fun v26 =>
 (zPc k 0 0 12 2).bind fun v28 =>
 (zPc k 4 0 20 1).bind fun v30 =>
 (zAb k ([v28, v30], .ex)).bind fun v32 =>
 (zem k v32).bind fun v34 =>
 (zAb k ([], .nil)).bind fun v36 =>
 (z9g k v36).bind fun v38 =>
 cond (v22.2 == 0) (
 cond (v26.2 == 0) (
 cond (v34.2 == 0) (
 cond (v38.2 == 0) (
 (ztb k 5 8).bind fun v44 =>
 cond ((v22.1.Low == v44.Low) && ((v22.1.High == v44.High) && true)) (
 cond ((v26.1.1.length : Int) == 5) (
 (idx v26.1.1 2).bind fun v48 =>
 cond (v48 == 14) (
 (zPd k v34.1 ([2, 3], .ex)).bind fun v51 =>
 cond v51 (
 (zPd k v38.1 ([1], .ex)).bind fun v54 =>
 some v54) (
 some false)) (
 some false)) (
 some false)) (
 some false)) (
 some false)) (
 some false)) (
 some false)) (
 some false))
def zbb (r : Bool) : D := (db r)
def zHd (k : Nat) (p0 : (SL Int)) (p1 s1_3 s1_4 : Int) : Option Bool :=
 (idx p0.1 s1_4).bind fun v401 =>
 cond (decide (v401 ≤ s1_3)) (
 some true) (
 (idx p0.1 s1_4).bind fun v404 =>
 some (decide (v404 ≥ p1)))
def zFc (k : Nat) (p0 : (SL Int)) (p1 s1_3 s1_4 : Int) : Option ((Int × Int) ⊕ ((Int × Int) ⊕ (Int × Int))) :=
 cond (decide (s1_4 < (p0.1.length : Int))) (
 (zHd k p0 p1 s1_3 s1_4).bind fun v302 =>
 cond v302 (
 some (Sum.inr (Sum.inl (s1_3, s1_4)))) (
 (idx p0.1 s1_4).bind fun v305 =>
 some (Sum.inl (v305, (w64 (s1_4 + 1)))))) (
 some (Sum.inr (Sum.inr (s1_3, s1_4))))
def zud (k : Nat) (p0 : (SL Int)) (p1 : Int) : Option Bool :=
 (iter (fun s => zFc k p0 p1 s.1 s.2) k ((-1), 0)).bind fun v1 =>
 Sum.elim (fun v4 =>
 some false) (fun w1_0 =>
 (fun v4 =>
 some true) w1_0) v1
def zUf (r : Bool) : D := (db r)
def z9c (k : Nat) (p0 p1 : Int) (cb : Bool) : Option (Int × Bool) :=
 cond cb (
 some ((w64 ((p0.tmod p1) + p1)), true)) (
 some ((p0.tmod p1), false))
def zae (k : Nat) (p0 p1 : Int) : Option Int :=
 cond (decide (p1 < 1)) (
 some 0) (
 cond (p1 == 0) (
 none) (
 (z9c k p0 p1 (decide ((p0.tmod p1) < 0))).bind fun v3 =>
 some v3.1))
def zkg (r : Int) : D := (di r)
def zVc (k : Nat) (p0 : (SL Int)) (p1 s1_3 : Int) : Option (Int ⊕ (Int ⊕ Int)) :=
 cond (decide (s1_3 < (p0.1.length : Int))) (
 (idx p0.1 s1_3).bind fun v202 =>
 cond (v202 == p1) (
 some (Sum.inr (Sum.inl s1_3))) (
 some (Sum.inl (w64 (s1_3 + 1))))) (
 some (Sum.inr (Sum.inr s1_3)))
def zOc (k : Nat) (p0 : (SL Int)) (p1 : Int) : Option Int :=
 (iter (fun s => zVc k p0 p1 s) k 0).bind fun v1 =>
 Sum.elim (fun v4 =>
 some v4) (fun w1_0 =>
 (fun v4 =>
 some (-1)) w1_0) v1
def zbg (r : Int) : D := (di r)
def zwc (k : Nat) (p0 : za) (p1 : (SL Int)) (s1_6 : Int) (s1_21 : zt12) : Option ((Int × (List zo)) ⊕ (Int × (List zo))) :=
 cond (decide (s1_6 < (p0.Counts.1.length : Int))) (
 (zOc k p1 s1_6).bind fun v302 =>
 cond (decide (v302 < 0)) (
 (idx p0.Counts.1 s1_6).bind fun v305 =>
 cond (decide (s1_21.length + 1 ≤ LIM)) (
 some (Sum.inl ((w64 (s1_6 + 1)), (s1_21 ++ [v305])))) none) (
 some (Sum.inl ((w64 (s1_6 + 1)), s1_21)))) (
 some (Sum.inr (s1_6, s1_21)))
def z7c (k : Nat) (p0 : za) (p1 : (SL Int)) : Option za :=
 (iter (fun s => zwc k p0 p1 s.1 s.2) k (0, ([] : List zo))).bind fun v1 =>
 some (⟨p0.Days, p0.Shelves, p0.Moves, p0.Deliveries, (v1.2, (rcap true v1.2))⟩ : za)
def znh (r : za) : D := (.agg (zb r))
def zOd (k : Nat) (p0 p1 : zt) : Option Bool :=
 cond (decide (p1.Low ≤ p0.Low)) (
 some (decide (p0.High ≤ p1.High))) (
 some false)
def z3f (r : Bool) : D := (db r)
def z6b (k : Nat) (p0 : za) (p1 : Int) (v1 : zt5) : Option Bool :=
 (zMd k p0).bind fun v201 =>
 cond (!v201) (
 some true) (
 some (v1.2 != 0))
def z7b (k : Nat) (p0 : za) (p1 : Int) (v1 : zt5) : Option Bool :=
 (zud k v1.1 (p0.Counts.1.length : Int)).bind fun v301 =>
 cond (!v301) (
 some true) (
 some ((p0.Counts.1.length : Int) == 0))
def zVb (k : Nat) (p0 : za) (p1 : Int) (v1 : zt5) (v9 : Int) (v11 : za) (s3_13 : Int) (s17_12 : Bool) (s17_15 : Int) (v2402 v2404 : zt8) : Option Bool :=
 cond (v2402.2 != 0) (
 some true) (
 cond (v2404.2 != 0) (
 some true) (
 (zOd k v2402.1 v2404.1).bind fun v2503 =>
 cond (!v2503) (
 some true) (
 (zzb k v2404.1 0 60).bind fun v2506 =>
 some (!v2506))))
def zpb (k : Nat) (p0 : za) (p1 : Int) (v1 : zt5) (v9 : Int) (v11 : za) (s3_13 s17_15 : Int) (v2402 v2404 : zt8) (s25_12 : Bool) (s25_20 : Int) : Option Bool :=
 cond s25_12 (
 some (decide (s25_20 ≤ v2404.1.High))) (
 some false)
def zUb (k : Nat) (p0 : za) (p1 : Int) (v1 : zt5) (v9 : Int) (v11 : za) (s3_13 s17_15 : Int) (v2402 v2404 : zt8) (s25_12 : Bool) (s25_20 : Int) (v2804 v2806 : zt1) : Option Bool :=
 cond (v2804.2 != 0) (
 some true) (
 cond (v2806.2 != 0) (
 some true) (
 cond v2804.1 (
 some (!v2806.1)) (
 some false)))
def zhb (k : Nat) (p0 : za) (p1 : Int) (v1 : zt5) (v9 : Int) (v11 : za) (s3_13 s17_15 : Int) (v2402 v2404 : zt8) (s25_12 : Bool) (s25_20 : Int) : Option ((Bool × Int) ⊕ ((Bool × Int × Bool × Int × Bool × Int) ⊕ (Bool × Int))) :=
 (zpb k p0 p1 v1 v9 v11 s3_13 s17_15 v2402 v2404 s25_12 s25_20).bind fun v2801 =>
 cond v2801 (
 (zrf k p0 s3_13 s17_15 s25_20).bind fun v2804 =>
 (zrf k v11 s3_13 s17_15 s25_20).bind fun v2806 =>
 (zUb k p0 p1 v1 v9 v11 s3_13 s17_15 v2402 v2404 s25_12 s25_20 v2804 v2806).bind fun v2808 =>
 cond v2808 (
 some (Sum.inr (Sum.inl (s25_12, s25_20, v2804.1, v2804.2, v2806.1, v2806.2)))) (
 some (Sum.inl ((v2804.1 == v2806.1), (w64 (s25_20 + 1)))))) (
 some (Sum.inr (Sum.inr (s25_12, s25_20))))
def zIb (k : Nat) (p0 : za) (p1 : Int) (v1 : zt5) (v9 : Int) (v11 : za) (s3_13 : Int) (s17_12 : Bool) (s17_15 : Int) : Option ((Bool × Int) ⊕ ((Bool × Int × Int × Int × Int × Int × Int × Int) ⊕ ((Bool × Int × Int × Int × Int × Bool × Int × Bool × Int × Int × Int × Int × Int) ⊕ (Bool × Int)))) :=
 cond (decide (s17_15 < p0.Days)) (
 (zgg k p0 s3_13 s17_15).bind fun v2402 =>
 (zgg k v11 s3_13 s17_15).bind fun v2404 =>
 (zVb k p0 p1 v1 v9 v11 s3_13 s17_12 s17_15 v2402 v2404).bind fun v2406 =>
 cond v2406 (
 some (Sum.inr (Sum.inl (s17_12, s17_15, v2402.2, v2404.2, v2402.1.Low, v2402.1.High, v2404.1.Low, v2404.1.High)))) (
 (iter (fun s => zhb k p0 p1 v1 v9 v11 s3_13 s17_15 v2402 v2404 s.1 s.2) k (s17_12, v2404.1.Low)).bind fun v2409 =>
 Sum.elim (fun v2412 =>
 some (Sum.inr (Sum.inr (Sum.inl (v2412.1, s17_15, v2402.2, v2404.2, v2412.2.1, v2412.2.2.1, v2412.2.2.2.1, v2412.2.2.2.2.1, v2412.2.2.2.2.2, v2402.1.Low, v2402.1.High, v2404.1.Low, v2404.1.High))))) (fun w6_0 =>
 (fun v2412 =>
 some (Sum.inl (v2412.1, (w64 (s17_15 + 1))))) w6_0) v2409)) (
 some (Sum.inr (Sum.inr (Sum.inr (s17_12, s17_15)))))
def z5b (k : Nat) (p0 : za) (p1 : Int) (v1 : zt5) (v9 : Int) (v11 : za) (s3_12 : Bool) (s3_13 : Int) : Option ((Bool × Int) ⊕ ((Bool × Int × Int × Int × Int × Int × Int × Int × Int) ⊕ ((Bool × Int × Int × Int × Int × Int × Bool × Int × Bool × Int × Int × Int × Int × Int) ⊕ (Bool × Int)))) :=
 cond (decide (s3_13 < (p0.Shelves.1.length : Int))) (
 (iter (fun s => zIb k p0 p1 v1 v9 v11 s3_13 s.1 s.2) k (s3_12, 0)).bind fun v1702 =>
 Sum.elim (fun v1705 =>
 some (Sum.inr (Sum.inl (v1705.1, s3_13, v1705.2.1, v1705.2.2.1, v1705.2.2.2.1, v1705.2.2.2.2.1, v1705.2.2.2.2.2.1, v1705.2.2.2.2.2.2.1, v1705.2.2.2.2.2.2.2)))) (fun w2_0 =>
 Sum.elim (fun v1705 =>
 some (Sum.inr (Sum.inr (Sum.inl (v1705.1, s3_13, v1705.2.1, v1705.2.2.1, v1705.2.2.2.1, v1705.2.2.2.2.1, v1705.2.2.2.2.2.1, v1705.2.2.2.2.2.2.1, v1705.2.2.2.2.2.2.2.1, v1705.2.2.2.2.2.2.2.2.1, v1705.2.2.2.2.2.2.2.2.2.1, v1705.2.2.2.2.2.2.2.2.2.2.1, v1705.2.2.2.2.2.2.2.2.2.2.2.1, v1705.2.2.2.2.2.2.2.2.2.2.2.2))))) (fun w2_1 =>
 (fun v1705 =>
 some (Sum.inl (v1705.1, (w64 (s3_13 + 1))))) w2_1) w2_0) v1702) (
 some (Sum.inr (Sum.inr (Sum.inr (s3_12, s3_13)))))
def z0b (k : Nat) (p0 : za) (p1 : Int) : Option Bool :=
 (z9g k p0).bind fun v1 =>
 (z6b k p0 p1 v1).bind fun v3 =>
 cond v3 (
 cond (v1.2 == 40) (
 cond ((v1.1.1.length : Int) == 0) (
 (zHb k).bind fun v8 =>
 some v8) (
 some false)) (
 cond (v1.2 == 42) (
 cond ((v1.1.1.length : Int) == 0) (
 (zHb k).bind fun v9 =>
 some v9) (
 some false)) (
 some false))) (
 (z7b k p0 p1 v1).bind fun v6 =>
 cond v6 (
 cond ((p0.Counts.1.length : Int) == 0) (
 cond ((v1.1.1.length : Int) == 0) (
 (zHb k).bind fun v11 =>
 some v11) (
 some false)) (
 some false)) (
 (zae k p1 (p0.Counts.1.length : Int)).bind fun v9 =>
 (z7c k p0 ([v9], .ex)).bind fun v11 =>
 (iter (fun s => z5b k p0 p1 v1 v9 v11 s.1 s.2) k (true, 0)).bind fun v13 =>
 Sum.elim (fun v16 =>
 some false) (fun w8_0 =>
 Sum.elim (fun v16 =>
 some false) (fun w8_1 =>
 (fun v16 =>
 (zOc k v1.1 v9).bind fun v17 =>
 cond (v16.1 == (decide (v17 ≥ 0))) (
 (zHb k).bind fun v20 =>
 some v20) (
 some false)) w8_1) w8_0) v13))
def zU (r : Bool) : D := (db r)
end Go.AM
