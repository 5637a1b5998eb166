/- The statement ShelfWider holds for every input that its row lets in. Conditions: none. -/
import Derived.Test.YtfoohlabifhplaaDoorE
set_option linter.all false
set_option linter.unusedVariables false
namespace Go.AM
open Go
def zvd (ds : List zn) (C : Nat) : List zL := (ds.zipIdx.filter fun p => C.testBit p.2).map fun p => ⟨1, p.1.By⟩
def zLf (x : zl) (day : Int) (ms : List zq) : List zL := (ms.filter fun m => m.Day == day && m.Shelf == x.shelf).map fun m => ⟨if m.Back then 1 else 0, m.By⟩
def zzk (x : zl) (day : Int) (C : Nat) : List zL := zvd x.ShelfBook.Deliveries.1 C ++ zLf x day x.ShelfBook.Moves.1
theorem zEm (x : zl) (day : Int) {ms : List zq} {j : Nat} (h : j < ms.length) : zLf x day (ms.take (j + 1)) = zLf x day (ms.take j) ++ (if (ms[j].Day == day && ms[j].Shelf == x.shelf) = true then [⟨if ms[j].Back then 1 else 0, ms[j].By⟩] else []) := by
 rw [List.take_succ_eq_append_getElem h]
 unfold zLf
 rw [List.filter_append, List.map_append]
 by_cases hc : (ms[j].Day == day && ms[j].Shelf == x.shelf) = true <;> simp [List.filter, hc]
theorem zOj (C : Nat) {ds : List zn} {j : Nat} (h : j < ds.length) : zvd (ds.take (j + 1)) C = zvd (ds.take j) C ++ (if C.testBit j = true then [⟨1, ds[j].By⟩] else []) := by
 rw [List.take_succ_eq_append_getElem h]
 unfold zvd
 rw [List.zipIdx_append, List.filter_append, List.map_append]
 have hl : (ds.take j).length = j := by rw [List.length_take]; omega
 by_cases hc : C.testBit j = true <;> simp [List.filter, hc, hl, Nat.min_eq_left (Nat.le_of_lt h)]
theorem ztn (C : Nat) (ds : List zn) : (zvd ds C).length ≤ ds.length := by
 unfold zvd
 rw [List.length_map]
 exact Nat.le_trans (List.length_filter_le _ _) (by simp)
theorem zcq (x : zl) (day : Int) (ms : List zq) : (zLf x day ms).length ≤ ms.length := by
 unfold zLf
 rw [List.length_map]
 exact List.length_filter_le _ _
theorem zQr {x : zl} (hx : On x) {k : Nat} (hk : 5000 < k) {day : Int} {C : Nat} (hC : C < 8) :
  Ok (zrd k x day (C : Int)) (fun r => r.1 = zzk x day C) := by
 unfold zrd
 have hd := hx.fine.ndeliveries
 have hm := hx.fine.nmoves
 refine Ok.bind (Ok.count x.ShelfBook.Deliveries.1.length (fun j z => z.1 = (j : Int) ∧ z.2 = zvd (x.ShelfBook.Deliveries.1.take j) C) (Q := fun r : Int × List zL => r.2 = zvd x.ShelfBook.Deliveries.1 C) ?_ ?_ ?_ (by omega)) fun v1 hv1 => ?_
 ·rintro j ⟨i, g⟩ hj ⟨hi, hg⟩
  obtain rfl : i = (j : Int) := hi
  obtain rfl : g = zvd (x.ShelfBook.Deliveries.1.take j) C := hg
  have c3 : decide ((j : Int) < 0) = false := by simp
  have hlen : (zvd (x.ShelfBook.Deliveries.1.take j) C).length ≤ 3 := Nat.le_trans (ztn C _) (by rw [List.length_take]; omega)
  have c4 : decide ((zvd (x.ShelfBook.Deliveries.1.take j) C).length + 1 ≤ LIM) = true := decide_eq_true (by show _ ≤ 1073741824; omega)
  simp only [zkd, zic hj, cond_true, zQb hj, Option.bind_some, c3, cond_false, zUl (show j < 64 by omega) (show C < 2 ^ 63 by omega), c4, zub hj (by omega : x.ShelfBook.Deliveries.1.length < 9223372036854775808)]
  cases hb : C.testBit j with
  | true => exact Ok.pure ⟨rfl, by rw [zOj C hj, hb]; rfl⟩
  | false => exact Ok.pure ⟨rfl, by rw [zOj C hj, hb]; simp⟩
 ·rintro ⟨i, g⟩ ⟨hi, hg⟩
  obtain rfl : i = (x.ShelfBook.Deliveries.1.length : Int) := hi
  have c1 : decide ((x.ShelfBook.Deliveries.1.length : Int) < (x.ShelfBook.Deliveries.1.length : Int)) = false := by simp
  simp only [zkd, c1, cond_false]
  refine Ok.pure ?_
  show g = _
  have hg' : g = zvd (x.ShelfBook.Deliveries.1.take x.ShelfBook.Deliveries.1.length) C := hg
  rw [hg', List.take_length]
 ·exact ⟨rfl, rfl⟩
 ·refine Ok.bind (Ok.count x.ShelfBook.Moves.1.length (fun j z => z.1 = (j : Int) ∧ z.2 = zvd x.ShelfBook.Deliveries.1 C ++ zLf x day (x.ShelfBook.Moves.1.take j)) (Q := fun r : Int × List zL => r.2 = zzk x day C) ?_ ?_ ?_ (by omega)) fun r hr => Ok.pure hr
  ·rintro j ⟨i, g⟩ hj ⟨hi, hg⟩
   obtain rfl : i = (j : Int) := hi
   obtain rfl : g = zvd x.ShelfBook.Deliveries.1 C ++ zLf x day (x.ShelfBook.Moves.1.take j) := hg
   have hlen : (zvd x.ShelfBook.Deliveries.1 C ++ zLf x day (x.ShelfBook.Moves.1.take j)).length ≤ 13 := by
    rw [List.length_append]
    have := ztn C x.ShelfBook.Deliveries.1
    have h2 := zcq x day (x.ShelfBook.Moves.1.take j)
    rw [List.length_take] at h2
    omega
   have c4 : decide ((zvd x.ShelfBook.Deliveries.1 C ++ zLf x day (x.ShelfBook.Moves.1.take j)).length + 1 ≤ LIM) = true := decide_eq_true (by show _ ≤ 1073741824; omega)
   have ms := zEm x day hj
   simp only [zpd, zic hj, cond_true, zQb hj, Option.bind_some, zye, c4, zub hj (by omega : x.ShelfBook.Moves.1.length < 9223372036854775808)]
   generalize x.ShelfBook.Moves.1[j] = m at *
   cases h1 : m.Day == day with
   | false =>
    simp only [h1, Bool.false_and] at ms
    exact Ok.pure ⟨rfl, by rw [ms]; simp⟩
   | true =>
    cases h2 : m.Shelf == x.shelf with
    | false =>
     simp only [h1, h2, Bool.and_false] at ms
     exact Ok.pure ⟨rfl, by rw [ms]; simp⟩
    | true =>
     simp only [h1, h2, Bool.and_true] at ms
     cases hb : m.Back with
     | true => exact Ok.pure ⟨rfl, by rw [ms, hb]; simp⟩
     | false => exact Ok.pure ⟨rfl, by rw [ms, hb]; simp⟩
  ·rintro ⟨i, g⟩ ⟨hi, hg⟩
   obtain rfl : i = (x.ShelfBook.Moves.1.length : Int) := hi
   have c1 : decide ((x.ShelfBook.Moves.1.length : Int) < (x.ShelfBook.Moves.1.length : Int)) = false := by simp
   simp only [zpd, c1, cond_false]
   refine Ok.pure ?_
   show g = _
   have hg' : g = zvd x.ShelfBook.Deliveries.1 C ++ zLf x day (x.ShelfBook.Moves.1.take x.ShelfBook.Moves.1.length) := hg
   rw [hg', List.take_length]; rfl
  ·refine ⟨rfl, ?_⟩
   have : v1.2 = zvd x.ShelfBook.Deliveries.1 C := hv1
   simp [this, zLf]
end Go.AM
set_option linter.unusedVariables false
namespace Go.AM
open Go
def z3f (x : zl) (day : Int) (B C : Nat) (i : Nat) (d : zn) : Prop :=
 if d.Shelf = x.shelf then (B.testBit i = true → C.testBit i = true) ∧ (C.testBit i = true → B.testBit i = false → d.Days.Low ≤ day ∧ day ≤ d.Days.High) ∧ (C.testBit i = false → day < d.Days.High)
 else C.testBit i = false
def Next (x : zl) (day : Int) (B C : Nat) : Prop := ∀ i d, x.ShelfBook.Deliveries.1[i]? = some d → z3f x day B C i d
abbrev zwi (x : zl) (day : Int) (B : Nat) : Int × (SL zt) × (SL zq) × (SL zn) × (SL zo) × Int × Int × Int × Int :=
 (x.ShelfBook.Days, x.ShelfBook.Shelves, x.ShelfBook.Moves, x.ShelfBook.Deliveries, x.ShelfBook.Counts, x.shelf, x.left, (B : Int), day)
theorem zzu {x : zl} (hx : On x) {k : Nat} (hk : 5000 < k) {day : Int} {B C : Nat} (hB : B < 8) (hC : C < 8) (a1 a2 : Int) (m1 m2 : List (zy × (Nat → Bool))) :
  Ok (iter (fun s => zuc k x a1 a2 m1 (zwi x day B) (C : Int) m2 s) k 0) (fun r => match r with
   | .inl _ => ¬ Next x day B C
   | .inr (.inl _) => ¬ Next x day B C
   | .inr (.inr _) => Next x day B C) := by
 have hd := hx.fine.ndeliveries
 refine Ok.count x.ShelfBook.Deliveries.1.length (fun j s => s = (j : Int) ∧ ∀ i d, i < j → x.ShelfBook.Deliveries.1[i]? = some d → z3f x day B C i d) ?_ ?_ ⟨rfl, fun i d h => absurd h (by omega)⟩ (by omega)
 ·rintro j s hj ⟨rfl, hg⟩
  have c3 : decide ((j : Int) < 0) = false := by simp
  have hget : x.ShelfBook.Deliveries.1[j]? = some x.ShelfBook.Deliveries.1[j] := List.getElem?_eq_getElem hj
  simp only [zuc, zic hj, cond_true, zQb hj, Option.bind_some, c3, cond_false, zUl (show j < 64 by omega) (show B < 2 ^ 63 by omega), zUl (show j < 64 by omega) (show C < 2 ^ 63 by omega), zub hj (by omega : x.ShelfBook.Deliveries.1.length < 9223372036854775808), zce, zGd]
  generalize x.ShelfBook.Deliveries.1[j] = d at *
  have bad : ¬ z3f x day B C j d → ¬ Next x day B C := fun h hn => h (hn j d hget)
  have good : z3f x day B C j d → ∀ i e, i < j + 1 → x.ShelfBook.Deliveries.1[i]? = some e → z3f x day B C i e := by
   intro h i e hi he
   by_cases hij : i = j
   ·subst hij; rw [hget] at he; cases he; exact h
   ·exact hg i e (by omega) he
  by_cases hs : d.Shelf = x.shelf
  ·have e1 : (d.Shelf != x.shelf) = false := by simp [hs]
   simp only [e1, cond_false]
   unfold z3f at bad good
   rw [if_pos hs] at bad good
   cases hb : B.testBit j <;> cases hc : C.testBit j <;> simp only [hb, hc, cond_true, cond_false, Bool.not_true, Bool.not_false, Option.bind_some] at bad good ⊢
   ·by_cases hq : day ≥ d.Days.High
    ·simp only [hq, decide_true, cond_true]
     exact Ok.pure (bad fun h => by have := h.2.2 trivial; omega)
    ·simp only [hq, decide_false, cond_false]
     exact Ok.pure ⟨rfl, good ⟨by simp, by simp, fun _ => by omega⟩⟩
   ·cases hw : decide (d.Days.Low ≤ day) && decide (day ≤ d.Days.High) with
    | true =>
     simp only [Bool.not_true, cond_false, Option.bind_some]
     simp only [Bool.and_eq_true, decide_eq_true_eq] at hw
     exact Ok.pure ⟨rfl, good ⟨by simp, fun _ _ => hw, by simp⟩⟩
    | false =>
     simp only [Bool.not_false, cond_true, Option.bind_some]
     rw [← Bool.not_eq_true, Bool.and_eq_true, decide_eq_true_eq, decide_eq_true_eq] at hw
     exact Ok.pure (bad fun h => hw (h.2.1 trivial trivial))
   ·exact Ok.pure (bad fun h => by have := h.1 trivial; cases this)
   ·exact Ok.pure ⟨rfl, good ⟨by simp, by simp, by simp⟩⟩
  ·have e1 : (d.Shelf != x.shelf) = true := by simp [hs]
   simp only [e1, cond_true]
   unfold z3f at bad good
   rw [if_neg hs] at bad good
   cases hc : C.testBit j with
   | true => exact Ok.pure (bad fun h => by rw [hc] at h; cases h)
   | false => exact Ok.pure ⟨rfl, good hc⟩
 ·rintro s ⟨rfl, hg⟩
  have c1 : decide ((x.ShelfBook.Deliveries.1.length : Int) < (x.ShelfBook.Deliveries.1.length : Int)) = false := by simp
  simp only [zuc, c1, cond_false]
  exact Ok.pure fun i d h => hg i d (List.getElem?_eq_some_iff.1 h).1 h
def Run (x : zl) : List zL → Nat → Nat → Prop
 | [], m, n => m = n
 | w :: t, m, n => ∃ q : Nat, (q : Int) ≤ (zS x).Room ∧ Step w.way w.by_ m q ∧ Run x t q n
def zKn (w : zL) : Prop := (w.way = 0 ∨ w.way = 1) ∧ zVe w.by_ 0 60
def In (x : zl) (p : Nat → Bool) : Prop := ∀ n : Nat, p n = true → (n : Int) ≤ (zS x).Room
theorem zOf (x : zl) : ∀ (l l' : List zL) (m n : Nat), Run x (l ++ l') m n ↔ ∃ q, Run x l m q ∧ Run x l' q n
 | [], l', m, n => ⟨fun h => ⟨m, rfl, h⟩, fun ⟨q, h1, h2⟩ => by obtain rfl : m = q := h1; exact h2⟩
 | w :: t, l', m, n => by
  simp only [List.cons_append, Run, zOf x t l']
  constructor
  ·rintro ⟨q, h1, h2, q', h3, h4⟩; exact ⟨q', ⟨q, h1, h2, h3⟩, h4⟩
  ·rintro ⟨q', ⟨q, h1, h2, h3⟩, h4⟩; exact ⟨q, h1, h2, q', h3, h4⟩
theorem z5o {x : zl} (hx : On x) (day : Int) (C : Nat) : ∀ w ∈ zzk x day C, zKn w := by
 intro w hw
 unfold zzk zvd zLf at hw
 rw [List.mem_append, List.mem_map, List.mem_map] at hw
 rcases hw with ⟨p, hp, rfl⟩ | ⟨m, hm, rfl⟩
 ·have h1 : p ∈ x.ShelfBook.Deliveries.1.zipIdx := (List.mem_filter.1 hp).1
  have h2 := List.mem_zipIdx h1
  have h3 : p.1 ∈ x.ShelfBook.Deliveries.1 := by
   have h4 := h2.2.2
   rw [h4]
   exact List.getElem_mem _
  exact ⟨.inr rfl, (hx.fine.deliveries _ h3).2.2⟩
 ·have h1 : m ∈ x.ShelfBook.Moves.1 := (List.mem_filter.1 hm).1
  refine ⟨?_, (hx.fine.moves _ h1).2.2⟩
  cases m.Back
  ·exact .inl rfl
  ·exact .inr rfl
theorem zyq {x : zl} (hx : On x) (day : Int) (C : Nat) : (zzk x day C).length ≤ 13 := by
 unfold zzk
 rw [List.length_append]
 have h1 := ztn C x.ShelfBook.Deliveries.1
 have h2 := zcq x day x.ShelfBook.Moves.1
 have h3 := hx.fine.ndeliveries
 have h4 := hx.fine.nmoves
 omega
theorem zPp {x : zl} (hx : On x) {k : Nat} (hk : 5000 < k) {p g : Nat → Bool} (l : List zL) {w : zL} (hw : zKn w) (hg : In x g ∧ ∀ n, g n = true ↔ ∃ m, p m = true ∧ Run x l m n) :
  Ok (zLc k x g w.way w.by_) (fun r => In x r ∧ ∀ n, r n = true ↔ ∃ m, p m = true ∧ Run x (l ++ [w]) m n) := by
 obtain ⟨⟨hr1, hr2⟩, _⟩ := hx.shelf
 refine (zdu hx hk hw.1 hw.2).mono fun r hr => ⟨fun n h => ((hr n).1 h).1, fun n => ?_⟩
 rw [hr n]
 constructor
 ·rintro ⟨h1, m, h2, h3, h4⟩
  obtain ⟨m0, h5, h6⟩ := (hg.2 m).1 h3
  exact ⟨m0, h5, (zOf x l [w] m0 n).2 ⟨m, h6, n, h1, h4, rfl⟩⟩
 ·rintro ⟨m0, h5, h6⟩
  obtain ⟨m, h7, q, h8, h9, h10⟩ := (zOf x l [w] m0 n).1 h6
  obtain rfl : q = n := h10
  have h3 : g m = true := (hg.2 m).2 ⟨m0, h5, h7⟩
  exact ⟨h8, m, by have := hg.1 m h3; omega, h3, h9⟩
theorem zQt {x : zl} (hx : On x) {k : Nat} (hk : 5000 < k) {day : Int} {a1 a2 a3 : Int} {B : Nat} {m1 m2 : List (zy × (Nat → Bool))} {ws : SL zL} (hf : ∀ w ∈ ws.1, zKn w) (hl : ws.1.length ≤ 13) {p : Nat → Bool} (hp : In x p) :
  Ok (iter (fun s => zsc k x a1 a2 m1 (zwi x day B) a3 m2 ws s.1 s.2) k (0, p)) (fun r : Int × (Nat → Bool) => In x r.2 ∧ ∀ n, r.2 n = true ↔ ∃ m, p m = true ∧ Run x ws.1 m n) := by
 refine Ok.count ws.1.length (fun j z => z.1 = (j : Int) ∧ In x z.2 ∧ ∀ n, z.2 n = true ↔ ∃ m, p m = true ∧ Run x (ws.1.take j) m n) ?_ ?_ ⟨rfl, hp, fun n => ?_⟩ (by omega)
 ·rintro j ⟨i, g⟩ hj ⟨hi, hg⟩
  obtain rfl : i = (j : Int) := hi
  simp only [zsc, zic hj, cond_true, zQb hj, Option.bind_some, zub hj (by omega : ws.1.length < 9223372036854775808)]
  have hw := hf _ (List.getElem_mem hj)
  refine Ok.bind (zPp hx hk (ws.1.take j) hw hg) fun r hr => Ok.pure ⟨rfl, ?_⟩
  rw [List.take_succ_eq_append_getElem hj]
  exact hr
 ·rintro ⟨i, g⟩ ⟨hi, hg⟩
  obtain rfl : i = (ws.1.length : Int) := hi
  have c1 : decide ((ws.1.length : Int) < (ws.1.length : Int)) = false := by simp
  simp only [zsc, c1, cond_false]
  rw [List.take_length] at hg
  exact Ok.pure hg
 ·simp [Run]
end Go.AM
set_option linter.unusedVariables false
namespace Go.AM
open Go
abbrev SM := List (zy × (Nat → Bool))
def look (m : SM) (d C : Int) : Nat → Bool := (zhb zF (⟨d, C⟩ : zy) m).getD (fun _ => false)
theorem zpr (a b : zy) : zF a b = true ↔ a = b := by
 obtain ⟨a1, a2⟩ := a
 obtain ⟨b1, b2⟩ := b
 simp [zF]
open Classical in
theorem zPo (m : SM) (d C d' C' : Int) (v : Nat → Bool) : look (mset zF (⟨d, C⟩ : zy) v m) d' C' = if d' = d ∧ C' = C then v else look m d' C' := by
 unfold look
 rw [z5q zpr]
 by_cases h : d' = d ∧ C' = C
 ·obtain ⟨rfl, rfl⟩ := h
  simp
 ·rw [if_neg h, if_neg]
  intro e
  simp only [zy.mk.injEq] at e
  exact h e
def nset (x : zl) : Nat := 2 ^ x.ShelfBook.Deliveries.1.length
def Via (x : zl) (day : Int) (B C : Nat) (m n : Nat) : Prop := Next x day B C ∧ Run x (zzk x day (dif C B)) m n ∧ zIi x day n
def zYe (x : zl) : Nat → Nat → Nat → Prop
 | 0, C, n => C = 0 ∧ (zS x).Begin.Low ≤ (n : Int) ∧ (n : Int) ≤ (zS x).Begin.High
 | d + 1, C, n => C < nset x ∧ ∃ B m, B < nset x ∧ zYe x d B m ∧ Via x (d : Int) B C m n
theorem zOo {x : zl} : ∀ (l : List zL) (m n : Nat), Run x l m n → (m : Int) ≤ (zS x).Room → (n : Int) ≤ (zS x).Room
 | [], m, n, h, hm => by obtain rfl : m = n := h; exact hm
 | w :: t, m, n, ⟨q, h1, h2, h3⟩, hm => zOo t q n h3 h1
theorem z6g {x : zl} (hx : On x) : ∀ (d C n : Nat), zYe x d C n → (n : Int) ≤ (zS x).Room
 | 0, C, n, h => by
  obtain ⟨_, h1, h2, h3⟩ := hx.shelf
  exact Int.le_trans h.2.2 h3
 | d + 1, C, n, ⟨_, B, m, _, h1, h2⟩ => zOo _ m n h2.2.1 (z6g hx d B m h1)
theorem zmi {x : zl} (hx : On x) : nset x ≤ 8 := by
 unfold nset
 have := hx.fine.ndeliveries
 exact Nat.le_trans (Nat.pow_le_pow_right (by omega) this) (by decide)
theorem zMd {x : zl} (hx : On x) : zT 1 (x.ShelfBook.Deliveries.1.length : Int) = (nset x : Int) := by
 have := hx.fine.ndeliveries
 rw [zjt (by omega)]
 unfold nset
 push_cast
 rfl
theorem zkt {x : zl} (hx : On x) {k : Nat} (hk : 5000 < k) {j B : Nat} (hj : j < 12) (hB : B < nset x) {m0 : SM} (hin : ∀ n : Nat, look m0 ((j : Int) - 1) B n = true → (n : Int) ≤ (zS x).Room) {m : SM} :
  Ok (iter (fun s => zwc k x (j : Int) (B : Int) m0 (zwi x (j : Int) B) s.1 s.2) k (0, m)) (fun r : Int × SM => ∀ (d : Int) (C : Int) (n : Nat), look r.2 d C n = true ↔ look m d C n = true ∨ (d = (j : Int) ∧ ∃ C' : Nat, C = (C' : Int) ∧ C' < nset x ∧ ∃ q, look m0 ((j : Int) - 1) B q = true ∧ Via x (j : Int) B C' q n)) := by
 have h8 := zmi hx
 refine Ok.count (nset x) (fun c z => z.1 = (c : Int) ∧ ∀ (d : Int) (C : Int) (n : Nat), look z.2 d C n = true ↔ look m d C n = true ∨ (d = (j : Int) ∧ ∃ C' : Nat, C = (C' : Int) ∧ C' < c ∧ ∃ q, look m0 ((j : Int) - 1) B q = true ∧ Via x (j : Int) B C' q n)) ?_ ?_ ⟨rfl, fun d C n => ?_⟩ (by omega)
 ·rintro c ⟨i, g⟩ hc ⟨hi, hg⟩
  obtain rfl : i = (c : Int) := hi
  have c1 : decide ((c : Int) < (nset x : Int)) = true := by simp; omega
  have c2 : w64 ((c : Int) + 1) = ((c + 1 : Nat) : Int) := zub hc (by omega)
  have skip : ¬ Next x (j : Int) B c → ∀ (d : Int) (C : Int) (n : Nat), look g d C n = true ↔ look m d C n = true ∨ (d = (j : Int) ∧ ∃ C' : Nat, C = (C' : Int) ∧ C' < c + 1 ∧ ∃ q, look m0 ((j : Int) - 1) B q = true ∧ Via x (j : Int) B C' q n) := by
   intro hn d C n
   rw [hg d C n]
   refine or_congr_right (and_congr_right fun _ => ⟨?_, ?_⟩)
   ·rintro ⟨C', h1, h2, h3⟩; exact ⟨C', h1, by omega, h3⟩
   ·rintro ⟨C', h1, h2, q, h3, h4⟩
    refine ⟨C', h1, ?_, q, h3, h4⟩
    have : C' ≠ c := fun e => hn (e ▸ h4.1)
    omega
  simp only [zwc, zwi, zMd hx, c1, cond_true]
  refine Ok.bind (zzu hx hk (day := (j : Int)) (show B < 8 by omega) (show c < 8 by omega) (j : Int) (B : Int) m0 g) fun r hr => ?_
  rcases r with r | r | r
  ·simp only [Sum.elim_inl, c2]
   exact Ok.pure ⟨rfl, skip hr⟩
  ·simp only [Sum.elim_inr, Sum.elim_inl, c2]
   exact Ok.pure ⟨rfl, skip hr⟩
  ·simp only [Sum.elim_inr, c2]
   have hn : Next x (j : Int) B c := hr
   obtain ⟨e1, e2, e3, e4⟩ := zuq (x := c) (y := B) (by omega) (by omega)
   rw [e1]
   refine Ok.bind (zQr hx hk (day := (j : Int)) (show dif c B < 8 by omega)) fun ws hws => ?_
   have w1 : w64 ((j : Int) - 1) = (j : Int) - 1 := zqb (by omega) (by omega)
   rw [w1]
   refine Ok.bind (zQt hx hk (day := (j : Int)) (a1 := (j : Int)) (a2 := (B : Int)) (a3 := (c : Int)) (B := B) (m1 := m0) (m2 := g) (ws := ws) (by rw [hws]; exact z5o hx _ _) (by rw [hws]; exact zyq hx _ _) (p := look m0 ((j : Int) - 1) B) hin) fun r1 hr1 => ?_
   refine Ok.bind (zIp hx hk) fun r2 hr2 => ?_
   refine Ok.bind (z5r hk) fun r3 hr3 => Ok.pure ⟨rfl, fun d C n => ?_⟩
   have hroom : (zS x).Room ≤ 60 := hx.shelf.1.2
   rw [zPo]
   by_cases h : d = (j : Int) ∧ C = (c : Int)
   ·obtain ⟨rfl, rfl⟩ := h
    rw [if_pos ⟨rfl, rfl⟩, hr3 n, hr2 n]
    show look g (j : Int) (c : Int) n = true ∨ _ ↔ _
    rw [hg, hr1.2 n, hws]
    constructor
    ·rintro ((h | ⟨h1, C', h2, h3, h4⟩) | ⟨h1, ⟨q, h2, h3⟩, h4⟩)
     ·exact .inl h
     ·exact .inr ⟨rfl, C', h2, by omega, h4⟩
     ·exact .inr ⟨rfl, c, rfl, by omega, q, h2, hn, h3, h4 h1⟩
    ·rintro (h | ⟨h1, C', h2, h3, q, h4, h5, h6, h7⟩)
     ·exact .inl (.inl h)
     ·obtain rfl : C' = c := by omega
      have := zOo _ _ _ h6 (hin q h4)
      exact .inr ⟨by omega, ⟨q, h4, h6⟩, fun _ => h7⟩
   ·rw [if_neg h, hg d C n]
    refine or_congr_right (and_congr_right fun hd => ⟨?_, ?_⟩)
    ·rintro ⟨C', h1, h2, h3⟩; exact ⟨C', h1, by omega, h3⟩
    ·rintro ⟨C', h1, h2, h3⟩
     refine ⟨C', h1, ?_, h3⟩
     have : C' ≠ c := fun e => h ⟨hd, by rw [h1, e]⟩
     omega
 ·rintro ⟨i, g⟩ ⟨hi, hg⟩
  obtain rfl : i = (nset x : Int) := hi
  have c1 : decide ((nset x : Int) < (nset x : Int)) = false := by simp
  simp only [zwc, zwi, zMd hx, c1, cond_false]
  exact Ok.pure hg
 ·simp
theorem zht {x : zl} (hx : On x) {k : Nat} (hk : 5000 < k) {j : Nat} (hj : j < 12) {m : SM} (hm : ∀ (d : Int) (C : Int) (n : Nat), look m d C n = true ↔ ∃ (e C' : Nat), d = (e : Int) - 1 ∧ C = (C' : Int) ∧ e ≤ j ∧ zYe x e C' n) :
  Ok (iter (fun s => zvc k x (j : Int) s.1 s.2) k (0, m)) (fun r : Int × SM => ∀ (d : Int) (C : Int) (n : Nat), look r.2 d C n = true ↔ ∃ (e C' : Nat), d = (e : Int) - 1 ∧ C = (C' : Int) ∧ e ≤ j + 1 ∧ zYe x e C' n) := by
 have h8 := zmi hx
 refine Ok.count (nset x) (fun c z => z.1 = (c : Int) ∧ ∀ (d : Int) (C : Int) (n : Nat), look z.2 d C n = true ↔ look m d C n = true ∨ (d = (j : Int) ∧ ∃ C' : Nat, C = (C' : Int) ∧ C' < nset x ∧ ∃ B q, B < c ∧ zYe x j B q ∧ Via x (j : Int) B C' q n)) ?_ ?_ ⟨rfl, fun d C n => ?_⟩ (by omega)
 ·rintro c ⟨i, g⟩ hc ⟨hi, hg⟩
  obtain rfl : i = (c : Int) := hi
  have c1 : decide ((c : Int) < (nset x : Int)) = true := by simp; omega
  have c2 : w64 ((c : Int) + 1) = ((c + 1 : Nat) : Int) := zub hc (by omega)
  have w1 : w64 ((j : Int) - 1) = (j : Int) - 1 := zqb (by omega) (by omega)
  have c4 : decide ((x.ShelfBook.Deliveries.1.length : Int) < 0) = false := by simp
  have was : ∀ q : Nat, look g ((j : Int) - 1) (c : Int) q = true ↔ zYe x j c q := by
   intro q
   rw [hg, hm]
   constructor
   ·rintro (⟨e, C', h1, h2, h3, h4⟩ | ⟨h1, _⟩)
    ·obtain rfl : e = j := by omega
     obtain rfl : C' = c := by omega
     exact h4
    ·omega
   ·intro h
    exact .inl ⟨j, c, rfl, rfl, by omega, h⟩
  simp only [zvc, zMd hx, c1, cond_true, zNe, Option.bind_some, w1]
  cases hb : eqB ((zhb zF (⟨(j : Int) - 1, (c : Int)⟩ : zy) g).getD (fun _ => false)) (fun _ => false) 0 61 with
  | true =>
   have none : ∀ q, ¬ zYe x j c q := by
    intro q hq
    have h1 := (zLn _ _ _ _).1 hb q (by omega) (by have := z6g hx _ _ _ hq; have := hx.shelf.1.2; omega)
    have h2 := (was q).2 hq
    unfold look at h2
    rw [h1] at h2; cases h2
   simp only [cond_true, c2]
   refine Ok.pure ⟨rfl, fun d C n => ?_⟩
   rw [hg d C n]
   refine or_congr_right (and_congr_right fun _ => ⟨?_, ?_⟩)
   ·rintro ⟨C', h1, h2, B, q, h3, h4⟩; exact ⟨C', h1, h2, B, q, by omega, h4⟩
   ·rintro ⟨C', h1, h2, B, q, h3, h4, h5⟩
    refine ⟨C', h1, h2, B, q, ?_, h4, h5⟩
    have : B ≠ c := fun e => none q (e ▸ h4)
    omega
  | false =>
   simp only [cond_false, zOd, Option.bind_some, c4]
   refine Ok.bind (zkt hx hk hj (B := c) hc (m0 := g) (fun n h => z6g hx _ _ _ ((was n).1 h)) (m := g)) fun r hr => ?_
   rw [c2]
   refine Ok.pure ⟨rfl, fun d C n => ?_⟩
   rw [hr d C n, hg d C n]
   constructor
   ·rintro ((h | ⟨h1, C', h2, h3, B, q, h4, h5⟩) | ⟨h1, C', h2, h3, q, h4, h5⟩)
    ·exact .inl h
    ·exact .inr ⟨h1, C', h2, h3, B, q, by omega, h5⟩
    ·exact .inr ⟨h1, C', h2, h3, c, q, by omega, (was q).1 h4, h5⟩
   ·rintro (h | ⟨h1, C', h2, h3, B, q, h4, h5, h6⟩)
    ·exact .inl (.inl h)
    ·by_cases e : B = c
     ·exact .inr ⟨h1, C', h2, h3, q, (was q).2 (e ▸ h5), e ▸ h6⟩
     ·exact .inl (.inr ⟨h1, C', h2, h3, B, q, by omega, h5, h6⟩)
 ·rintro ⟨i, g⟩ ⟨hi, hg⟩
  obtain rfl : i = (nset x : Int) := hi
  have c1 : decide ((nset x : Int) < (nset x : Int)) = false := by simp
  simp only [zvc, zMd hx, c1, cond_false]
  refine Ok.pure fun d C n => ?_
  rw [hg d C n, hm d C n]
  constructor
  ·rintro (⟨e, C', h1, h2, h3, h4⟩ | ⟨h1, C', h2, h3, B, q, h4, h5, h6⟩)
   ·exact ⟨e, C', h1, h2, by omega, h4⟩
   ·exact ⟨j + 1, C', by rw [h1]; push_cast; omega, h2, by omega, h3, B, q, h4, h5, h6⟩
  ·rintro ⟨e, C', h1, h2, h3, h4⟩
   by_cases he : e = j + 1
   ·subst he
    obtain ⟨h5, B, q, h6, h7, h8⟩ := h4
    exact .inr ⟨by rw [h1]; push_cast; omega, C', h2, h5, B, q, h6, h7, h8⟩
   ·exact .inl ⟨e, C', h1, h2, by omega, h4⟩
 ·simp
theorem z3q {x : zl} (hx : On x) {k : Nat} (hk : 5000 < k) :
  Ok (zsd k x) (fun r => ∀ (d : Int) (C : Int) (n : Nat), look r d C n = true ↔ ∃ (e C' : Nat), d = (e : Int) - 1 ∧ C = (C' : Int) ∧ (e : Int) ≤ x.ShelfBook.Days ∧ zYe x e C' n) := by
 have hd := hx.fine.days
 unfold zsd
 refine Ok.bind (zBu hx hk) fun p hp => ?_
 refine Ok.bind (Ok.count x.ShelfBook.Days.toNat (fun j z => z.1 = (j : Int) ∧ ∀ (d : Int) (C : Int) (n : Nat), look z.2 d C n = true ↔ ∃ (e C' : Nat), d = (e : Int) - 1 ∧ C = (C' : Int) ∧ e ≤ j ∧ zYe x e C' n) (Q := fun r : Int × SM => ∀ (d : Int) (C : Int) (n : Nat), look r.2 d C n = true ↔ ∃ (e C' : Nat), d = (e : Int) - 1 ∧ C = (C' : Int) ∧ (e : Int) ≤ x.ShelfBook.Days ∧ zYe x e C' n) ?_ ?_ ⟨rfl, fun d C n => ?_⟩ (by omega)) fun r hr => Ok.pure hr
 ·rintro j ⟨i, g⟩ hj ⟨hi, hg⟩
  obtain rfl : i = (j : Int) := hi
  have c1 : decide ((j : Int) < x.ShelfBook.Days) = true := by simp; omega
  have c2 : w64 ((j : Int) + 1) = ((j + 1 : Nat) : Int) := zub (n := 12) (by omega) (by omega)
  have c4 : decide ((x.ShelfBook.Deliveries.1.length : Int) < 0) = false := by simp
  simp only [zld, c1, c4, cond_true, cond_false, c2]
  exact Ok.bind (zht hx hk (by omega) hg) fun r hr => Ok.pure ⟨rfl, hr⟩
 ·rintro ⟨i, g⟩ ⟨hi, hg⟩
  have c1 : decide (i < x.ShelfBook.Days) = false := by simp only [decide_eq_false_iff_not]; omega
  simp only [zld, c1, cond_false]
  refine Ok.pure fun d C n => ?_
  rw [hg d C n]
  constructor
  ·rintro ⟨e, C', h1, h2, h3, h4⟩; exact ⟨e, C', h1, h2, by omega, h4⟩
  ·rintro ⟨e, C', h1, h2, h3, h4⟩; exact ⟨e, C', h1, h2, by omega, h4⟩
 ·unfold look
  simp only [zhb]
  cases hq : zF ⟨d, C⟩ ⟨-1, 0⟩ with
  | true =>
   have h1 := (zpr _ _).1 hq
   simp only [zy.mk.injEq] at h1
   simp only [cond_true, Option.getD_some]
   rw [hp n]
   constructor
   ·intro h
    exact ⟨0, 0, by omega, by omega, by omega, rfl, h⟩
   ·rintro ⟨e, C', h2, h3, h4, h5⟩
    obtain rfl : e = 0 := by omega
    exact h5.2
  | false =>
   simp only [cond_false, Option.getD_none]
   constructor
   ·intro h; cases h
   ·rintro ⟨e, C', h2, h3, h4, h5⟩
    obtain rfl : e = 0 := by omega
    obtain rfl : C' = 0 := h5.1
    have : zF ⟨d, C⟩ ⟨-1, 0⟩ = true := (zpr _ _).2 (by rw [h2, h3]; rfl)
    rw [this] at hq; cases hq
end Go.AM
set_option linter.unusedVariables false
namespace Go.AM
open Go
def zMh (x : zl) : Prop := ∃ C n, C < nset x ∧ zYe x x.ShelfBook.Days.toNat C n
theorem z2v {x : zl} (hx : On x) {k : Nat} (hk : 5000 < k) : Ok (ztd k x) (fun r => r = true ↔ zMh x) := by
 have hd := hx.fine.days
 have h8 := zmi hx
 unfold ztd
 refine Ok.bind (z3q hx hk) fun m hm => ?_
 have c4 : decide ((x.ShelfBook.Deliveries.1.length : Int) < 0) = false := by simp
 have w1 : w64 (x.ShelfBook.Days - 1) = x.ShelfBook.Days - 1 := zqb (by omega) (by omega)
 have at_ : ∀ (c n : Nat), look m (x.ShelfBook.Days - 1) (c : Int) n = true ↔ zYe x x.ShelfBook.Days.toNat c n := by
  intro c n
  rw [hm]
  constructor
  ·rintro ⟨e, C', h1, h2, h3, h4⟩
   obtain rfl : e = x.ShelfBook.Days.toNat := by omega
   obtain rfl : C' = c := by omega
   exact h4
  ·intro h
   exact ⟨x.ShelfBook.Days.toNat, c, by omega, rfl, by omega, h⟩
 simp only [c4, cond_false]
 refine Ok.bind (Ok.count (nset x) (fun j s => s = (j : Int) ∧ ∀ C n, C < j → ¬ zYe x x.ShelfBook.Days.toNat C n) (Q := fun r : Int ⊕ Int => match r with
  | .inl _ => zMh x
  | .inr _ => ¬ zMh x) ?_ ?_ ⟨rfl, fun C n h => absurd h (by omega)⟩ (by omega)) fun r hr => ?_
 ·rintro j s hj ⟨rfl, hg⟩
  have c1 : decide ((j : Int) < (nset x : Int)) = true := by simp; omega
  simp only [z1d, zMd hx, c1, cond_true, zNe, Option.bind_some, w1]
  cases hb : eqB ((zhb zF (⟨x.ShelfBook.Days - 1, (j : Int)⟩ : zy) m).getD (fun _ => false)) (fun _ => false) 0 61 with
  | true =>
   simp only [Bool.not_true, cond_false]
   refine Ok.pure ⟨zub hj (by omega), fun C n hC hn => ?_⟩
   by_cases e : C = j
   ·subst e
    have h1 := (zLn _ _ _ _).1 hb n (by omega) (by have := z6g hx _ _ _ hn; have := hx.shelf.1.2; omega)
    have h2 := (at_ C n).2 hn
    unfold look at h2
    rw [h1] at h2; cases h2
   ·exact hg C n (by omega) hn
  | false =>
   simp only [Bool.not_false, cond_true]
   refine Ok.pure ?_
   show zMh x
   apply Classical.byContradiction
   intro hn
   have : eqB ((zhb zF (⟨x.ShelfBook.Days - 1, (j : Int)⟩ : zy) m).getD (fun _ => false)) (fun _ => false) 0 61 = true := by
    rw [zLn]
    intro n _ _
    cases hl : (zhb zF (⟨x.ShelfBook.Days - 1, (j : Int)⟩ : zy) m).getD (fun _ => false) n with
    | false => rfl
    | true => exact absurd ⟨j, n, hj, (at_ j n).1 hl⟩ hn
   rw [this] at hb; cases hb
 ·rintro s ⟨rfl, hg⟩
  have c1 : decide ((nset x : Int) < (nset x : Int)) = false := by simp
  simp only [z1d, zMd hx, c1, cond_false]
  refine Ok.pure ?_
  show ¬ zMh x
  rintro ⟨C, n, h1, h2⟩
  exact hg C n h1 h2
 ·rcases r with r | r
  ·exact Ok.pure ⟨fun _ => hr, fun _ => rfl⟩
  ·exact Ok.pure ⟨fun h => (Bool.noConfusion h), fun h => absurd h hr⟩
def zKf (b : zb) (left : Int) : Prop := ∀ s : Nat, s < b.Shelves.1.length → zMh ⟨b, (s : Int), left⟩
theorem zUt {b : zb} (hb : Fine b) {left : Int} (h0 : 0 ≤ left) (h1 : left < 9223372036854775808) {k : Nat} (hk : 5000 < k) : Ok (zIb k b left) (fun r => r = true ↔ zKf b left) := by
 have hn := hb.nshelves
 unfold zIb
 refine Ok.bind (Ok.count b.Shelves.1.length (fun j s => s = (j : Int) ∧ ∀ i : Nat, i < j → zMh ⟨b, (i : Int), left⟩) (Q := fun r : Int ⊕ Int => match r with
  | .inl _ => ¬ zKf b left
  | .inr _ => zKf b left) ?_ ?_ ⟨rfl, fun i h => absurd h (by omega)⟩ (by omega)) fun r hr => ?_
 ·rintro j s hj ⟨rfl, hg⟩
  simp only [zRe, zic hj, cond_true]
  refine Ok.bind (z2v (x := ⟨b, (j : Int), left⟩) ⟨hb, by simp, by simpa using hj, h0, h1⟩ hk) fun r hr => ?_
  cases r with
  | true =>
   refine Ok.pure ⟨zub hj (by omega), fun i hi => ?_⟩
   by_cases e : i = j
   ·exact e ▸ hr.1 rfl
   ·exact hg i (by omega)
  | false =>
   refine Ok.pure ?_
   show ¬ zKf b left
   intro h
   have := hr.2 (h j hj)
   cases this
 ·rintro s ⟨rfl, hg⟩
  have c1 : decide ((b.Shelves.1.length : Int) < (b.Shelves.1.length : Int)) = false := by simp
  simp only [zRe, c1, cond_false]
  exact Ok.pure hg
 ·rcases r with r | r
  ·exact Ok.pure ⟨fun h => (Bool.noConfusion h), fun h => absurd h hr⟩
  ·exact Ok.pure ⟨fun _ => hr, fun _ => rfl⟩
end Go.AM
set_option linter.unusedVariables false
namespace Go.AM
open Go
def z4g (w : zL) : zL := ⟨1 - w.way, w.by_⟩
theorem zMu (w : zL) : (z4g w).way = 1 - w.way := rfl
theorem zcv (w : zL) : (z4g w).by_ = w.by_ := rfl
theorem zfq {w : zL} (hw : w.way = 0 ∨ w.way = 1) (m n : Nat) : Step (1 - w.way) w.by_ n m ↔ Step w.way w.by_ m n := by
 unfold Step
 rcases hw with h | h
 ·rw [h]
  simp
  constructor
  ·rintro ⟨t, h1, h2, h3⟩; exact ⟨t, h1, h2, by omega⟩
  ·rintro ⟨t, h1, h2, h3⟩; exact ⟨t, h1, h2, by omega⟩
 ·rw [h]
  simp
  constructor
  ·rintro ⟨t, h1, h2, h3⟩; exact ⟨t, h1, h2, by omega⟩
  ·rintro ⟨t, h1, h2, h3⟩; exact ⟨t, h1, h2, by omega⟩
theorem zwo (x : zl) : ∀ (l : List zL), (∀ w ∈ l, zKn w) → ∀ m n : Nat, (Run x (l.reverse.map z4g) n m ∧ (n : Int) ≤ (zS x).Room) ↔ (Run x l m n ∧ (m : Int) ≤ (zS x).Room)
 | [], _, m, n => by
  show (n = m ∧ _) ↔ (m = n ∧ _)
  constructor
  ·rintro ⟨rfl, h⟩; exact ⟨rfl, h⟩
  ·rintro ⟨rfl, h⟩; exact ⟨rfl, h⟩
 | w :: t, hf, m, n => by
  have hw := (hf w (by simp)).1
  have ih := zwo x t (fun v hv => hf v (by simp [hv]))
  rw [List.reverse_cons, List.map_append, List.map_cons, List.map_nil]
  constructor
  ·rintro ⟨h1, h2⟩
   obtain ⟨q, h3, q', h4, h5, h6⟩ := (zOf x _ _ n m).1 h1
   obtain rfl : q' = m := h6
   obtain ⟨h7, h8⟩ := (ih q n).1 ⟨h3, h2⟩
   exact ⟨⟨q, h8, (zfq hw q' q).1 h5, h7⟩, h4⟩
  ·rintro ⟨⟨q, h3, h4, h5⟩, h2⟩
   obtain ⟨h6, h7⟩ := (ih q n).2 ⟨h5, h3⟩
   exact ⟨(zOf x _ _ n m).2 ⟨q, h6, m, h2, (zfq hw m q).2 h4, rfl⟩, h7⟩
def Goon (x : zl) : Nat → Nat → Nat → Prop
 | 0, C, n => C < nset x ∧ (n : Int) ≤ (zS x).Room
 | t + 1, B, m => B < nset x ∧ (m : Int) ≤ (zS x).Room ∧ ∃ C n, C < nset x ∧ Via x (x.ShelfBook.Days - 1 - t) B C m n ∧ Goon x t C n
theorem zEu {x : zl} (hx : On x) {k : Nat} (hk : 5000 < k) {day : Int} {B C : Nat} (hB : B < 8) (hC : C < 8) (v2 : Int × SM) (a1 a2 : Int) (m2 : SM) :
  Ok (iter (fun s => zDc k x v2 a1 a2 (zwi x day B) (C : Int) m2 s) k 0) (fun r => match r with
   | .inl _ => ¬ Next x day B C
   | .inr (.inl _) => ¬ Next x day B C
   | .inr (.inr _) => Next x day B C) := by
 have hd := hx.fine.ndeliveries
 refine Ok.count x.ShelfBook.Deliveries.1.length (fun j s => s = (j : Int) ∧ ∀ i d, i < j → x.ShelfBook.Deliveries.1[i]? = some d → z3f x day B C i d) ?_ ?_ ⟨rfl, fun i d h => absurd h (by omega)⟩ (by omega)
 ·rintro j s hj ⟨rfl, hg⟩
  have c3 : decide ((j : Int) < 0) = false := by simp
  have hget : x.ShelfBook.Deliveries.1[j]? = some x.ShelfBook.Deliveries.1[j] := List.getElem?_eq_getElem hj
  simp only [zDc, zic hj, cond_true, zQb hj, Option.bind_some, c3, cond_false, zUl (show j < 64 by omega) (show B < 2 ^ 63 by omega), zUl (show j < 64 by omega) (show C < 2 ^ 63 by omega), zub hj (by omega : x.ShelfBook.Deliveries.1.length < 9223372036854775808), zze, zGd]
  generalize x.ShelfBook.Deliveries.1[j] = d at *
  have bad : ¬ z3f x day B C j d → ¬ Next x day B C := fun h hn => h (hn j d hget)
  have good : z3f x day B C j d → ∀ i e, i < j + 1 → x.ShelfBook.Deliveries.1[i]? = some e → z3f x day B C i e := by
   intro h i e hi he
   by_cases hij : i = j
   ·subst hij; rw [hget] at he; cases he; exact h
   ·exact hg i e (by omega) he
  by_cases hs : d.Shelf = x.shelf
  ·have e1 : (d.Shelf != x.shelf) = false := by simp [hs]
   simp only [e1, cond_false]
   unfold z3f at bad good
   rw [if_pos hs] at bad good
   cases hb : B.testBit j <;> cases hc : C.testBit j <;> simp only [hb, hc, cond_true, cond_false, Bool.not_true, Bool.not_false, Option.bind_some] at bad good ⊢
   ·by_cases hq : day ≥ d.Days.High
    ·simp only [hq, decide_true, cond_true]
     exact Ok.pure (bad fun h => by have := h.2.2 trivial; omega)
    ·simp only [hq, decide_false, cond_false]
     exact Ok.pure ⟨rfl, good ⟨by simp, by simp, fun _ => by omega⟩⟩
   ·cases hw : decide (d.Days.Low ≤ day) && decide (day ≤ d.Days.High) with
    | true =>
     simp only [Bool.not_true, cond_false, Option.bind_some]
     simp only [Bool.and_eq_true, decide_eq_true_eq] at hw
     exact Ok.pure ⟨rfl, good ⟨by simp, fun _ _ => hw, by simp⟩⟩
    | false =>
     simp only [Bool.not_false, cond_true, Option.bind_some]
     rw [← Bool.not_eq_true, Bool.and_eq_true, decide_eq_true_eq, decide_eq_true_eq] at hw
     exact Ok.pure (bad fun h => hw (h.2.1 trivial trivial))
   ·exact Ok.pure (bad fun h => by have := h.1 trivial; cases this)
   ·exact Ok.pure ⟨rfl, good ⟨by simp, by simp, by simp⟩⟩
  ·have e1 : (d.Shelf != x.shelf) = true := by simp [hs]
   simp only [e1, cond_true]
   unfold z3f at bad good
   rw [if_neg hs] at bad good
   cases hc : C.testBit j with
   | true => exact Ok.pure (bad fun h => by rw [hc] at h; cases h)
   | false => exact Ok.pure ⟨rfl, good hc⟩
 ·rintro s ⟨rfl, hg⟩
  have c1 : decide ((x.ShelfBook.Deliveries.1.length : Int) < (x.ShelfBook.Deliveries.1.length : Int)) = false := by simp
  simp only [zDc, c1, cond_false]
  exact Ok.pure fun i d h => hg i d (List.getElem?_eq_some_iff.1 h).1 h
theorem zBt {x : zl} (hx : On x) {k : Nat} (hk : 5000 < k) {day : Int} {v2 : Int × SM} {a1 a2 a3 : Int} {B : Nat} {m2 : SM} {ws : SL zL} (hf : ∀ w ∈ ws.1, zKn w) (hl : ws.1.length ≤ 13) {p : Nat → Bool} (hp : In x p) :
  Ok (iter (fun s => zFc k x v2 a1 a2 (zwi x day B) a3 m2 ws s.1 s.2) k (0, p)) (fun r : Int × (Nat → Bool) => In x r.2 ∧ ∀ n, r.2 n = true ↔ (n : Int) ≤ (zS x).Room ∧ ∃ m, p m = true ∧ Run x ws.1 n m) := by
 have hrl : (ws.1.reverse.map z4g).length = ws.1.length := by simp
 refine (Ok.count ws.1.length (fun j z => z.1 = (j : Int) ∧ In x z.2 ∧ ∀ n, z.2 n = true ↔ ∃ m, p m = true ∧ Run x ((ws.1.reverse.map z4g).take j) m n) (Q := fun r : Int × (Nat → Bool) => In x r.2 ∧ ∀ n, r.2 n = true ↔ ∃ m, p m = true ∧ Run x (ws.1.reverse.map z4g) m n) ?_ ?_ ⟨rfl, hp, fun n => ?_⟩ (by omega)).mono fun r hr => ⟨hr.1, fun n => ?_⟩
 ·rintro j ⟨i, g⟩ hj ⟨hi, hg⟩
  obtain rfl : i = (j : Int) := hi
  have w1 : w64 ((ws.1.length : Int) - 1) = (ws.1.length : Int) - 1 := zqb (by omega) (by omega)
  have w2 : w64 ((ws.1.length : Int) - 1 - (j : Int)) = ((ws.1.length - 1 - j : Nat) : Int) := by rw [zqb (by omega) (by omega)]; omega
  have hj2 : ws.1.length - 1 - j < ws.1.length := by omega
  have hj3 : j < (ws.1.reverse.map z4g).length := by omega
  have hw := hf _ (List.getElem_mem hj2)
  have hget : (ws.1.reverse.map z4g)[j] = z4g ws.1[ws.1.length - 1 - j] := by simp
  have w3 : w64 (1 - ws.1[ws.1.length - 1 - j].way) = 1 - ws.1[ws.1.length - 1 - j].way := by rcases hw.1 with h | h <;> rw [h] <;> decide
  have hfw : zKn (z4g ws.1[ws.1.length - 1 - j]) := ⟨by rcases hw.1 with h | h <;> simp [z4g, h], hw.2⟩
  simp only [zFc, zic hj, cond_true, w1, w2, zQb hj2, Option.bind_some, w3, zub hj (by omega : ws.1.length < 9223372036854775808)]
  have hmv := zPp hx hk ((ws.1.reverse.map z4g).take j) hfw hg
  rw [zMu, zcv] at hmv
  refine Ok.bind hmv fun r hr => Ok.pure ⟨rfl, ?_⟩
  rw [List.take_succ_eq_append_getElem hj3, hget]
  exact hr
 ·rintro ⟨i, g⟩ ⟨hi, hg⟩
  obtain rfl : i = (ws.1.length : Int) := hi
  have c1 : decide ((ws.1.length : Int) < (ws.1.length : Int)) = false := by simp
  simp only [zFc, c1, cond_false]
  rw [← hrl, List.take_length] at hg
  exact Ok.pure hg
 ·simp [Run]
 ·rw [hr.2 n]
  constructor
  ·rintro ⟨m, h1, h2⟩
   obtain ⟨h3, h4⟩ := (zwo x ws.1 hf n m).1 ⟨h2, hp m h1⟩
   exact ⟨h4, m, h1, h3⟩
  ·rintro ⟨h4, m, h1, h3⟩
   exact ⟨m, h1, ((zwo x ws.1 hf n m).2 ⟨h3, h4⟩).1⟩
end Go.AM
set_option linter.unusedVariables false
namespace Go.AM
open Go
theorem zYt {x : zl} (hx : On x) {k : Nat} (hk : 5000 < k) {v2 : Int × SM} {j B : Nat} (hj0 : 0 < j) (hj : j < 12) (hB : B < nset x) {m : SM} (hin : ∀ (C n : Nat), look m (j : Int) C n = true → (n : Int) ≤ (zS x).Room) :
  Ok (iter (fun s => zBc k x v2 (j : Int) (B : Int) (zwi x (j : Int) B) s.1 s.2) k (0, m)) (fun r : Int × SM => ∀ (d : Int) (C : Int) (n : Nat), look r.2 d C n = true ↔ look m d C n = true ∨ (d = (j : Int) - 1 ∧ C = (B : Int) ∧ (n : Int) ≤ (zS x).Room ∧ ∃ C' : Nat, C' < nset x ∧ ∃ q, look m (j : Int) C' q = true ∧ Via x (j : Int) B C' n q)) := by
 have h8 := zmi hx
 refine Ok.count (nset x) (fun c z => z.1 = (c : Int) ∧ ∀ (d : Int) (C : Int) (n : Nat), look z.2 d C n = true ↔ look m d C n = true ∨ (d = (j : Int) - 1 ∧ C = (B : Int) ∧ (n : Int) ≤ (zS x).Room ∧ ∃ C' : Nat, C' < c ∧ ∃ q, look m (j : Int) C' q = true ∧ Via x (j : Int) B C' n q)) ?_ ?_ ⟨rfl, fun d C n => ?_⟩ (by omega)
 ·rintro c ⟨i, g⟩ hc ⟨hi, hg⟩
  obtain rfl : i = (c : Int) := hi
  have c1 : decide ((c : Int) < (nset x : Int)) = true := by simp; omega
  have c2 : w64 ((c : Int) + 1) = ((c + 1 : Nat) : Int) := zub hc (by omega)
  have skip : ¬ Next x (j : Int) B c → ∀ (d : Int) (C : Int) (n : Nat), look g d C n = true ↔ look m d C n = true ∨ (d = (j : Int) - 1 ∧ C = (B : Int) ∧ (n : Int) ≤ (zS x).Room ∧ ∃ C' : Nat, C' < c + 1 ∧ ∃ q, look m (j : Int) C' q = true ∧ Via x (j : Int) B C' n q) := by
   intro hn d C n
   rw [hg d C n]
   refine or_congr_right (and_congr_right fun _ => and_congr_right fun _ => and_congr_right fun _ => ⟨?_, ?_⟩)
   ·rintro ⟨C', h2, h3⟩; exact ⟨C', by omega, h3⟩
   ·rintro ⟨C', h2, q, h3, h4⟩
    refine ⟨C', ?_, q, h3, h4⟩
    have : C' ≠ c := fun e => hn (e ▸ h4.1)
    omega
  simp only [zBc, zwi, zMd hx, c1, cond_true]
  refine Ok.bind (zEu hx hk (day := (j : Int)) (show B < 8 by omega) (show c < 8 by omega) v2 (j : Int) (B : Int) g) fun r hr => ?_
  rcases r with r | r | r
  ·simp only [Sum.elim_inl, c2]
   exact Ok.pure ⟨rfl, skip hr⟩
  ·simp only [Sum.elim_inr, Sum.elim_inl, c2]
   exact Ok.pure ⟨rfl, skip hr⟩
  ·simp only [Sum.elim_inr, c2]
   have hn : Next x (j : Int) B c := hr
   have hroom : (zS x).Room ≤ 60 := hx.shelf.1.2
   have same : ∀ q, look g (j : Int) (c : Int) q = true ↔ look m (j : Int) (c : Int) q = true := by
    intro q
    rw [hg]
    constructor
    ·rintro (h | ⟨h, _⟩)
     ·exact h
     ·omega
    ·exact .inl
   obtain ⟨e1, e2, e3, e4⟩ := zuq (x := c) (y := B) (by omega) (by omega)
   rw [e1]
   refine Ok.bind (zIp hx hk) fun r2 hr2 => ?_
   refine Ok.bind (zQr hx hk (day := (j : Int)) (show dif c B < 8 by omega)) fun ws hws => ?_
   have w1 : w64 ((j : Int) - 1) = (j : Int) - 1 := zqb (by omega) (by omega)
   rw [w1]
   have h2 : ∀ q, r2 q = true ↔ look m (j : Int) (c : Int) q = true ∧ zIi x (j : Int) q := by
    intro q
    rw [hr2 q]
    show look g (j : Int) (c : Int) q = true ∧ _ ↔ _
    rw [same]
    exact and_congr_right fun h => ⟨fun h' => h' (by have := hin c q h; omega), fun h' _ => h'⟩
   refine Ok.bind (zBt hx hk (day := (j : Int)) (v2 := v2) (a1 := (j : Int)) (a2 := (B : Int)) (a3 := (c : Int)) (B := B) (m2 := g) (ws := ws) (by rw [hws]; exact z5o hx _ _) (by rw [hws]; exact zyq hx _ _) (p := r2) (fun q hq => hin c q ((h2 q).1 hq).1)) fun r1 hr1 => ?_
   refine Ok.bind (z5r hk) fun r3 hr3 => Ok.pure ⟨rfl, fun d C n => ?_⟩
   rw [zPo]
   by_cases h : d = (j : Int) - 1 ∧ C = (B : Int)
   ·obtain ⟨rfl, rfl⟩ := h
    rw [if_pos ⟨rfl, rfl⟩, hr3 n]
    show look g ((j : Int) - 1) (B : Int) n = true ∨ _ ↔ _
    rw [hg, hr1.2 n, hws]
    constructor
    ·rintro ((h | ⟨h1, h3, h4, C', h5, h6⟩) | ⟨h1, h3, q, h4, h5⟩)
     ·exact .inl h
     ·exact .inr ⟨rfl, rfl, h4, C', by omega, h6⟩
     ·exact .inr ⟨rfl, rfl, h3, c, by omega, q, ((h2 q).1 h4).1, hn, h5, ((h2 q).1 h4).2⟩
    ·rintro (h | ⟨h1, h3, h4, C', h5, q, h6, h7, h9, h10⟩)
     ·exact .inl (.inl h)
     ·by_cases e : C' = c
      ·subst e
       exact .inr ⟨by omega, h4, q, (h2 q).2 ⟨h6, h10⟩, h9⟩
      ·exact .inl (.inr ⟨rfl, rfl, h4, C', by omega, q, h6, h7, h9, h10⟩)
   ·rw [if_neg h, hg d C n]
    refine or_congr_right ⟨?_, ?_⟩
    ·rintro ⟨h1, h3, _⟩; exact absurd ⟨h1, h3⟩ h
    ·rintro ⟨h1, h3, _⟩; exact absurd ⟨h1, h3⟩ h
 ·rintro ⟨i, g⟩ ⟨hi, hg⟩
  obtain rfl : i = (nset x : Int) := hi
  have c1 : decide ((nset x : Int) < (nset x : Int)) = false := by simp
  simp only [zBc, zwi, zMd hx, c1, cond_false]
  exact Ok.pure hg
 ·simp
theorem zcu {x : zl} (hx : On x) {k : Nat} (hk : 5000 < k) {v2 : Int × SM} {j : Nat} (hj0 : 0 < j) (hj : j < 12) {m : SM} (hin : ∀ (C n : Nat), look m (j : Int) C n = true → (n : Int) ≤ (zS x).Room) :
  Ok (iter (fun s => zCc k x v2 (j : Int) s.1 s.2) k (0, m)) (fun r : Int × SM => ∀ (d : Int) (C : Int) (n : Nat), look r.2 d C n = true ↔ look m d C n = true ∨ (d = (j : Int) - 1 ∧ ∃ B : Nat, B < nset x ∧ C = (B : Int) ∧ (n : Int) ≤ (zS x).Room ∧ ∃ C' : Nat, C' < nset x ∧ ∃ q, look m (j : Int) C' q = true ∧ Via x (j : Int) B C' n q)) := by
 have h8 := zmi hx
 refine Ok.count (nset x) (fun c z => z.1 = (c : Int) ∧ ∀ (d : Int) (C : Int) (n : Nat), look z.2 d C n = true ↔ look m d C n = true ∨ (d = (j : Int) - 1 ∧ ∃ B : Nat, B < c ∧ C = (B : Int) ∧ (n : Int) ≤ (zS x).Room ∧ ∃ C' : Nat, C' < nset x ∧ ∃ q, look m (j : Int) C' q = true ∧ Via x (j : Int) B C' n q)) ?_ ?_ ⟨rfl, fun d C n => ?_⟩ (by omega)
 ·rintro c ⟨i, g⟩ hc ⟨hi, hg⟩
  obtain rfl : i = (c : Int) := hi
  have c1 : decide ((c : Int) < (nset x : Int)) = true := by simp; omega
  have c2 : w64 ((c : Int) + 1) = ((c + 1 : Nat) : Int) := zub hc (by omega)
  have c4 : decide ((x.ShelfBook.Deliveries.1.length : Int) < 0) = false := by simp
  have same : ∀ (C : Int) q, look g (j : Int) C q = true ↔ look m (j : Int) C q = true := by
   intro C q
   rw [hg]
   constructor
   ·rintro (h | ⟨h, _⟩)
    ·exact h
    ·omega
   ·exact .inl
  simp only [zCc, zMd hx, c1, cond_true, zOd, Option.bind_some, c4, cond_false]
  refine Ok.bind (zYt hx hk (v2 := v2) hj0 hj (B := c) hc (m := g) (fun C n h => hin C n ((same C n).1 h))) fun r hr => ?_
  rw [c2]
  refine Ok.pure ⟨rfl, fun d C n => ?_⟩
  rw [hr d C n, hg d C n]
  constructor
  ·rintro ((h | ⟨h1, B, h2, h3⟩) | ⟨h1, h2, h3, C', h4, q, h5, h6⟩)
   ·exact .inl h
   ·exact .inr ⟨h1, B, by omega, h3⟩
   ·exact .inr ⟨h1, c, by omega, h2, h3, C', h4, q, (same C' q).1 h5, h6⟩
  ·rintro (h | ⟨h1, B, h2, h3, h4, C', h5, q, h6, h7⟩)
   ·exact .inl (.inl h)
   ·by_cases e : B = c
    ·subst e
     exact .inr ⟨h1, h3, h4, C', h5, q, (same C' q).2 h6, h7⟩
    ·exact .inl (.inr ⟨h1, B, by omega, h3, h4, C', h5, q, h6, h7⟩)
 ·rintro ⟨i, g⟩ ⟨hi, hg⟩
  obtain rfl : i = (nset x : Int) := hi
  have c1 : decide ((nset x : Int) < (nset x : Int)) = false := by simp
  simp only [zCc, zMd hx, c1, cond_false]
  exact Ok.pure hg
 ·simp
theorem zFv {x : zl} : ∀ (t C n : Nat), Goon x t C n → (n : Int) ≤ (zS x).Room
 | 0, C, n, h => h.2
 | t + 1, C, n, h => h.2.1
theorem zEv {x : zl} (hx : On x) {k : Nat} (hk : 5000 < k) (a : Int) (m : SM) :
  Ok (iter (fun s => zSc k x a m (zS x) s.1 s.2) k (0, (fun _ => false))) (fun r : Int × (Nat → Bool) => ∀ n : Nat, r.2 n = true ↔ (n : Int) ≤ (zS x).Room) := by
 obtain ⟨⟨hr1, hr2⟩, _⟩ := hx.shelf
 have w1 : w64 ((zS x).Room + 1) = (zS x).Room + 1 := zqb (by omega) (by omega)
 refine Ok.count ((zS x).Room + 1).toNat (fun j z => z.1 = (j : Int) ∧ ∀ n : Nat, z.2 n = true ↔ n < j) ?_ ?_ ⟨rfl, fun n => by simp⟩ (by omega)
 ·rintro j ⟨i, g⟩ hj ⟨hi, hg⟩
  obtain rfl : i = (j : Int) := hi
  have c1 : decide ((j : Int) < (zS x).Room + 1) = true := by simp; omega
  have c2 : (decide ((0 : Int) ≤ (j : Int)) && decide ((j : Int) < 61)) = true := by simp; omega
  simp only [zSc, w1, c1, c2, cond_true, Int.toNat_natCast]
  refine Ok.pure ⟨zub (n := 61) (by omega) (by omega), fun n => ?_⟩
  show upd g j true n = true ↔ _
  have := hg n
  rw [z6j, this]
  omega
 ·rintro ⟨i, g⟩ ⟨hi, hg⟩
  have c1 : decide (i < (zS x).Room + 1) = false := by simp only [decide_eq_false_iff_not]; omega
  simp only [zSc, w1, c1, cond_false]
  refine Ok.pure fun n => ?_
  have := hg n
  rw [this]
  omega
theorem zxv {x : zl} (hx : On x) {k : Nat} (hk : 5000 < k) :
  Ok (zXe k x) (fun r => ∀ (d : Int) (C : Int) (n : Nat), look r d C n = true ↔ ∃ (e B : Nat), (e : Int) ≤ x.ShelfBook.Days - 1 ∧ d = x.ShelfBook.Days - 1 - e ∧ C = (B : Int) ∧ Goon x e B n) := by
 have hd := hx.fine.days
 have h8 := zmi hx
 have c4 : decide ((x.ShelfBook.Deliveries.1.length : Int) < 0) = false := by simp
 have w1 : w64 (x.ShelfBook.Days - 1) = x.ShelfBook.Days - 1 := zqb (by omega) (by omega)
 unfold zXe
 rw [c4, cond_false, w1]
 refine Ok.bind (Ok.count (nset x) (fun c z => z.1 = (c : Int) ∧ ∀ (d : Int) (C : Int) (n : Nat), look z.2 d C n = true ↔ ∃ B : Nat, B < c ∧ d = x.ShelfBook.Days - 1 ∧ C = (B : Int) ∧ (n : Int) ≤ (zS x).Room) (Q := fun r : Int × SM => ∀ (d : Int) (C : Int) (n : Nat), look r.2 d C n = true ↔ ∃ B : Nat, B < nset x ∧ d = x.ShelfBook.Days - 1 ∧ C = (B : Int) ∧ (n : Int) ≤ (zS x).Room) ?_ ?_ ⟨rfl, fun d C n => ?_⟩ (by omega)) fun v2 hv2 => ?_
 ·rintro c ⟨i, g⟩ hc ⟨hi, hg⟩
  obtain rfl : i = (c : Int) := hi
  have c1 : decide ((c : Int) < (nset x : Int)) = true := by simp; omega
  have c2 : w64 ((c : Int) + 1) = ((c + 1 : Nat) : Int) := zub hc (by omega)
  simp only [zFd, zMd hx, c1, cond_true, hx.idx, Option.bind_some, w1, c2]
  refine Ok.bind (zEv hx hk (c : Int) g) fun r hr => Ok.pure ⟨rfl, fun d C n => ?_⟩
  rw [zPo]
  by_cases h : d = x.ShelfBook.Days - 1 ∧ C = (c : Int)
  ·obtain ⟨rfl, rfl⟩ := h
   rw [if_pos ⟨rfl, rfl⟩, hr n]
   constructor
   ·intro h; exact ⟨c, by omega, rfl, rfl, h⟩
   ·rintro ⟨B, h1, h2, h3, h4⟩; exact h4
  ·rw [if_neg h, hg d C n]
   constructor
   ·rintro ⟨B, h1, h2⟩; exact ⟨B, by omega, h2⟩
   ·rintro ⟨B, h1, h2, h3, h4⟩
    refine ⟨B, ?_, h2, h3, h4⟩
    have : B ≠ c := fun e => h ⟨h2, by rw [h3, e]⟩
    omega
 ·rintro ⟨i, g⟩ ⟨hi, hg⟩
  obtain rfl : i = (nset x : Int) := hi
  have c1 : decide ((nset x : Int) < (nset x : Int)) = false := by simp
  simp only [zFd, zMd hx, c1, cond_false]
  exact Ok.pure hg
 ·simp [look, zhb]
 ·refine Ok.bind (Ok.count (x.ShelfBook.Days - 1).toNat (fun t z => z.2 = x.ShelfBook.Days - 1 - t ∧ ∀ (d : Int) (C : Int) (n : Nat), look z.1 d C n = true ↔ ∃ (e B : Nat), e ≤ t ∧ d = x.ShelfBook.Days - 1 - e ∧ C = (B : Int) ∧ Goon x e B n) (Q := fun r : SM × Int => ∀ (d : Int) (C : Int) (n : Nat), look r.1 d C n = true ↔ ∃ (e B : Nat), (e : Int) ≤ x.ShelfBook.Days - 1 ∧ d = x.ShelfBook.Days - 1 - e ∧ C = (B : Int) ∧ Goon x e B n) ?_ ?_ ⟨by simp, fun d C n => ?_⟩ (by omega)) fun r hr => Ok.pure hr
  ·rintro t ⟨g, i⟩ ht ⟨hi, hg⟩
   obtain ⟨j, hj⟩ : ∃ j : Nat, x.ShelfBook.Days - 1 - t = (j : Int) := ⟨(x.ShelfBook.Days - 1 - t).toNat, by omega⟩
   obtain rfl : i = (j : Int) := hi.trans hj
   have c1 : decide ((j : Int) > 0) = true := by simp; omega
   have w2 : w64 ((j : Int) - 1) = x.ShelfBook.Days - 1 - ((t + 1 : Nat) : Int) := by rw [zqb (by omega) (by omega)]; push_cast; omega
   simp only [zCd, c1, c4, cond_true, cond_false, w2]
   have at_ : ∀ (C : Nat) (n : Nat), look g (j : Int) C n = true ↔ Goon x t C n := by
    intro C n
    rw [hg]
    constructor
    ·rintro ⟨e, B, h1, h2, h3, h4⟩
     obtain rfl : e = t := by omega
     obtain rfl : B = C := by omega
     exact h4
    ·intro h; exact ⟨t, C, by omega, by omega, rfl, h⟩
   refine Ok.bind (zcu hx hk (v2 := v2) (by omega) (by omega) (m := g) (fun C n h => zFv _ _ _ ((at_ C n).1 h))) fun r hr => Ok.pure ⟨rfl, fun d C n => ?_⟩
   show look r.2 d C n = true ↔ _
   rw [hr d C n, hg d C n]
   constructor
   ·rintro (⟨e, B, h1, h2⟩ | ⟨h1, B, h2, h3, h4, C', h5, q, h6, h7⟩)
    ·exact ⟨e, B, by omega, h2⟩
    ·exact ⟨t + 1, B, by omega, by rw [h1]; push_cast; omega, h3, h2, h4, C', q, h5, by rw [hj]; exact h7, (at_ C' q).1 h6⟩
   ·rintro ⟨e, B, h1, h2, h3, h4⟩
    by_cases he : e = t + 1
    ·subst he
     obtain ⟨h5, h6, C', q, h7, h9, h10⟩ := h4
     exact .inr ⟨by rw [h2]; push_cast; omega, B, h5, h3, h6, C', h7, q, (at_ C' q).2 h10, by rw [← hj]; exact h9⟩
    ·exact .inl ⟨e, B, by omega, h2, h3, h4⟩
  ·rintro ⟨g, i⟩ ⟨hi, hg⟩
   have c1 : decide (i > 0) = false := by
    have hi' : i = x.ShelfBook.Days - 1 - ((x.ShelfBook.Days - 1).toNat : Int) := hi
    simp only [decide_eq_false_iff_not]; omega
   simp only [zCd, c1, cond_false]
   refine Ok.pure fun d C n => ?_
   show look g d C n = true ↔ _
   rw [hg d C n]
   constructor
   ·rintro ⟨e, B, h1, h2⟩; exact ⟨e, B, by omega, h2⟩
   ·rintro ⟨e, B, h1, h2⟩; exact ⟨e, B, by omega, h2⟩
  ·rw [hv2]
   constructor
   ·rintro ⟨B, h1, h2, h3, h4⟩; exact ⟨0, B, by omega, by simpa using h2, h3, h1, h4⟩
   ·rintro ⟨e, B, h1, h2, h3, h4⟩
    obtain rfl : e = 0 := by omega
    exact ⟨B, h4.1, by simpa using h2, h3, h4.2⟩
end Go.AM
set_option linter.unusedVariables false
namespace Go.AM
open Go
def zUh (x : zl) (day n : Nat) : Prop := ∃ C, zYe x (day + 1) C n ∧ Goon x (x.ShelfBook.Days - 1 - day).toNat C n
theorem zpu {x : zl} {d C n : Nat} (h : zYe x (d + 1) C n) : C < nset x := h.1
theorem zGs {x : zl} {k : Nat} (hk : 5000 < k) {v1 v3 : SM} {day : Nat} (hday : day < 12) (C : Int) (p : Nat → Bool) (f : Nat → Bool) :
  Ok (iter (fun s => zhc k x v1 v3 (day : Int) C p s.1 s.2) k (0, f)) (fun r : Int × (Nat → Bool) => ∀ i : Nat, r.2 i = true ↔ f i = true ∨ ∃ n : Nat, n ≤ 60 ∧ i = day * 61 + n ∧ p n = true ∧ look v3 (day : Int) C n = true) := by
 refine z6o hk (fun j (g : Nat → Bool) => ∀ i : Nat, g i = true ↔ f i = true ∨ ∃ n : Nat, n < j ∧ i = day * 61 + n ∧ p n = true ∧ look v3 (day : Int) C n = true) ?_ ?_ ?_
 ·intro j g hj hg
  have c1 : decide ((j : Int) < 61) = true := by simp; omega
  have c2 : decide ((0 : Int) ≤ (j : Int)) = true := by simp
  have c3 : decide ((0 : Int) ≤ (day : Int)) = true := by simp
  have c5 : decide ((day : Int) < 12) = true := by simp; omega
  simp only [zhc, c1, c2, Bool.and_self, cond_true, zPd, Int.toNat_natCast, zCn hj]
  cases hp : p j with
  | false =>
   simp only [cond_false, Option.bind_some]
   refine Ok.pure ⟨_, rfl, fun i => ?_⟩
   rw [hg i]
   refine or_congr_right ⟨?_, ?_⟩
   ·rintro ⟨n, h1, h2⟩; exact ⟨n, by omega, h2⟩
   ·rintro ⟨n, h1, h2, h3, h4⟩
    refine ⟨n, ?_, h2, h3, h4⟩
    have : n ≠ j := fun e => by rw [e, hp] at h3; cases h3
    omega
  | true =>
   simp only [cond_true, zNd, c1, c2, c3, c5, Bool.and_self, Int.toNat_natCast]
   cases hgj : g (day * 61 + j) with
   | true =>
    simp only [cond_true, Option.bind_some]
    refine Ok.pure ⟨_, rfl, fun i => ?_⟩
    rw [z6j, hg i]
    constructor
    ·rintro (rfl | h | ⟨n, h1, h2⟩)
     ·rcases (hg _).1 hgj with h | ⟨n, h1, h2⟩
      ·exact .inl h
      ·exact .inr ⟨n, by omega, h2⟩
     ·exact .inl h
     ·exact .inr ⟨n, by omega, h2⟩
    ·rintro (h | ⟨n, h1, h2, h3⟩)
     ·exact .inr (.inl h)
     ·by_cases e : n = j
      ·exact .inl (by rw [h2, e])
      ·exact .inr (.inr ⟨n, by omega, h2, h3⟩)
   | false =>
    simp only [cond_false, Option.bind_some]
    refine Ok.pure ⟨_, rfl, fun i => ?_⟩
    show upd g (day * 61 + j) (look v3 (day : Int) C j) i = true ↔ _
    rw [zAo, hg i]
    constructor
    ·rintro (⟨h1, h2⟩ | ⟨h1, h | ⟨n, h2, h3⟩⟩)
     ·exact .inr ⟨j, by omega, h1, hp, h2⟩
     ·exact .inl h
     ·exact .inr ⟨n, by omega, h3⟩
    ·rintro (h | ⟨n, h1, h2, h3, h4⟩)
     ·refine .inr ⟨fun e => ?_, .inl h⟩
      have := (hg i).2 (.inl h)
      rw [e, hgj] at this; cases this
     ·by_cases e : n = j
      ·subst e; exact .inl ⟨h2, h4⟩
      ·exact .inr ⟨by omega, .inr ⟨n, by omega, h2, h3, h4⟩⟩
 ·intro g hg
  simp only [zhc, show decide ((61 : Int) < 61) = false from rfl, cond_false]
  refine Ok.pure ⟨_, rfl, fun i => ?_⟩
  rw [hg i]
  refine or_congr_right ⟨?_, ?_⟩
  ·rintro ⟨n, h1, h2⟩; exact ⟨n, by omega, h2⟩
  ·rintro ⟨n, h1, h2⟩; exact ⟨n, by omega, h2⟩
 ·intro i
  simp
theorem z3s {x : zl} (hx : On x) {k : Nat} (hk : 5000 < k) {v1 v3 : SM} {day : Nat} (hday : day < 12) (f : Nat → Bool) :
  Ok (iter (fun s => zfc k x v1 v3 (day : Int) s.1 s.2) k (0, f)) (fun r : Int × (Nat → Bool) => ∀ i : Nat, r.2 i = true ↔ f i = true ∨ ∃ C n : Nat, C < nset x ∧ n ≤ 60 ∧ i = day * 61 + n ∧ look v1 (day : Int) C n = true ∧ look v3 (day : Int) C n = true) := by
 have h8 := zmi hx
 refine Ok.count (nset x) (fun c z => z.1 = (c : Int) ∧ ∀ i : Nat, z.2 i = true ↔ f i = true ∨ ∃ C n : Nat, C < c ∧ n ≤ 60 ∧ i = day * 61 + n ∧ look v1 (day : Int) C n = true ∧ look v3 (day : Int) C n = true) ?_ ?_ ⟨rfl, fun i => by simp⟩ (by omega)
 ·rintro c ⟨i, g⟩ hc ⟨hi, hg⟩
  obtain rfl : i = (c : Int) := hi
  have c1 : decide ((c : Int) < (nset x : Int)) = true := by simp; omega
  have c2 : w64 ((c : Int) + 1) = ((c + 1 : Nat) : Int) := zub hc (by omega)
  simp only [zfc, zMd hx, c1, cond_true, zvb, Option.bind_some, c2]
  refine Ok.bind (zGs hk hday (c : Int) (look v1 (day : Int) c) g) fun r hr => Ok.pure ⟨rfl, fun i => ?_⟩
  have h1 := hg i
  rw [hr i, h1]
  constructor
  ·rintro ((h | ⟨C, n, h1, h2⟩) | ⟨n, h1, h2⟩)
   ·exact .inl h
   ·exact .inr ⟨C, n, by omega, h2⟩
   ·exact .inr ⟨c, n, by omega, h1, h2⟩
  ·rintro (h | ⟨C, n, h1, h2⟩)
   ·exact .inl (.inl h)
   ·by_cases e : C = c
    ·subst e; exact .inr ⟨n, h2⟩
    ·exact .inl (.inr ⟨C, n, by omega, h2⟩)
 ·rintro ⟨i, g⟩ ⟨hi, hg⟩
  obtain rfl : i = (nset x : Int) := hi
  have c1 : decide ((nset x : Int) < (nset x : Int)) = false := by simp
  simp only [zfc, zMd hx, c1, cond_false]
  exact Ok.pure hg
theorem znt {x : zl} (hx : On x) {k : Nat} (hk : 5000 < k) : Ok (zAb k x) (fun r => ∀ i : Nat, r i = true ↔ ∃ day n : Nat, (day : Int) < x.ShelfBook.Days ∧ i = day * 61 + n ∧ zUh x day n) := by
 have hd := hx.fine.days
 have hroom : (zS x).Room ≤ 60 := hx.shelf.1.2
 unfold zAb
 refine Ok.bind (z3q hx hk) fun v1 h1 => ?_
 refine Ok.bind (zxv hx hk) fun v3 h3 => ?_
 have at_ : ∀ day n : Nat, (day : Int) < x.ShelfBook.Days → ((∃ C, C < nset x ∧ n ≤ 60 ∧ look v1 (day : Int) (C : Nat) n = true ∧ look v3 (day : Int) (C : Nat) n = true) ↔ zUh x day n) := by
  intro day n hday
  constructor
  ·rintro ⟨C, h4, h5, h6, h7⟩
   obtain ⟨e, C', h8, h9, h10, h11⟩ := (h1 _ _ _).1 h6
   obtain ⟨e', B, h12, h13, h14, h15⟩ := (h3 _ _ _).1 h7
   obtain rfl : C' = C := by omega
   obtain rfl : B = C' := by omega
   obtain rfl : e = day + 1 := by omega
   have : e' = (x.ShelfBook.Days - 1 - day).toNat := by omega
   exact ⟨B, h11, this ▸ h15⟩
  ·rintro ⟨C, h4, h5⟩
   have := z6g hx _ _ _ h4
   exact ⟨C, zpu h4, by omega, (h1 _ _ _).2 ⟨day + 1, C, by push_cast; omega, rfl, by push_cast; omega, h4⟩, (h3 _ _ _).2 ⟨(x.ShelfBook.Days - 1 - day).toNat, C, by omega, by omega, rfl, h5⟩⟩
 refine Ok.bind (Ok.count x.ShelfBook.Days.toNat (fun j z => z.1 = (j : Int) ∧ ∀ i : Nat, z.2 i = true ↔ ∃ day n : Nat, day < j ∧ i = day * 61 + n ∧ zUh x day n) (Q := fun r : Int × (Nat → Bool) => ∀ i : Nat, r.2 i = true ↔ ∃ day n : Nat, (day : Int) < x.ShelfBook.Days ∧ i = day * 61 + n ∧ zUh x day n) ?_ ?_ ⟨rfl, fun i => by simp⟩ (by omega)) fun r hr => Ok.pure hr
 ·rintro j ⟨i, g⟩ hj ⟨hi, hg⟩
  obtain rfl : i = (j : Int) := hi
  have c1 : decide ((j : Int) < x.ShelfBook.Days) = true := by simp; omega
  have c2 : w64 ((j : Int) + 1) = ((j + 1 : Nat) : Int) := zub (n := 12) (by omega) (by omega)
  have c4 : decide ((x.ShelfBook.Deliveries.1.length : Int) < 0) = false := by simp
  simp only [z1c, c1, c4, cond_true, cond_false, c2]
  refine Ok.bind (z3s hx hk (by omega) g) fun r hr => Ok.pure ⟨rfl, fun i => ?_⟩
  have h5 := hg i
  rw [hr i, h5]
  constructor
  ·rintro (⟨day, n, h6, h7⟩ | ⟨C, n, h6, h7, h8, h9⟩)
   ·exact ⟨day, n, by omega, h7⟩
   ·exact ⟨j, n, by omega, h8, (at_ j n (by omega)).1 ⟨C, h6, h7, h9⟩⟩
  ·rintro ⟨day, n, h6, h7, h8⟩
   by_cases e : day = j
   ·subst e
    obtain ⟨C, h9, h10, h11⟩ := (at_ day n (by omega)).2 h8
    exact .inr ⟨C, n, h9, h10, h7, h11⟩
   ·exact .inl ⟨day, n, by omega, h7, h8⟩
 ·rintro ⟨i, g⟩ ⟨hi, hg⟩
  have c1 : decide (i < x.ShelfBook.Days) = false := by
   have hi' : i = ((x.ShelfBook.Days.toNat : Nat) : Int) := hi
   simp only [decide_eq_false_iff_not]; omega
  simp only [z1c, c1, cond_false]
  refine Ok.pure fun i => ?_
  have h5 := hg i
  rw [h5]
  constructor
  ·rintro ⟨day, n, h6, h7⟩; exact ⟨day, n, by omega, h7⟩
  ·rintro ⟨day, n, h6, h7⟩; exact ⟨day, n, by omega, h7⟩
end Go.AM
set_option linter.unusedVariables false
namespace Go.AM
open Go
theorem zkr {k : Nat} (hk : 5000 < k) (a b : Int) (c : Cap) : zkc k a ([b], c) = some (if b > a then b else a) := by
 obtain ⟨k, rfl⟩ : ∃ k', k = k' + 2 := ⟨k - 2, by omega⟩
 unfold zkc
 have h1 : zTb (k + 2) ([b], c) a 0 = some (.inl ((if b > a then b else a), 1)) := by
  have : w64 (1 : Int) = 1 := zqb (by omega) (by omega)
  simp [zTb, idx, this]
 have h2 : ∀ z, zTb (k + 2) ([b], c) z 1 = some (.inr (z, 1)) := by
  intro z
  simp [zTb]
 simp [iter, h1, h2]
def zlp (p : Nat → Bool) (m : Nat) (lo hi : Int) : Prop :=
 (∀ n, n < m → p n = true → lo ≤ (n : Int) ∧ (n : Int) ≤ hi) ∧ ((lo = 60 ∧ hi = 0 ∧ ∀ n, n < m → p n = false) ∨ ∃ a b : Nat, a < m ∧ b < m ∧ p a = true ∧ p b = true ∧ lo = (a : Int) ∧ hi = (b : Int))
theorem zvv {k : Nat} (hk : 5000 < k) (p : Nat → Bool) : Ok (zPb k p) (fun s => zlp p 61 s.Low s.High) := by
 unfold zPb zvb
 rw [Option.bind_some]
 refine Ok.bind (z6o hk (fun j (z : Int × Int) => zlp p j z.1 z.2) (Q := fun r : Int × Int × Int => zlp p 61 r.2.1 r.2.2) ?_ ?_ ?_) fun r hr => Ok.pure hr
 ·rintro j ⟨lo, hi⟩ hj ⟨h1, h2⟩
  have c1 : decide ((j : Int) < 61) = true := by simp; omega
  have c2 : decide ((0 : Int) ≤ (j : Int)) = true := by simp
  simp only [z2c, c1, c2, Bool.and_self, cond_true, z7d, Int.toNat_natCast, zCn hj]
  have hlo : 0 ≤ lo ∧ lo ≤ 60 ∧ 0 ≤ hi ∧ hi ≤ 60 := by
   rcases h2 with ⟨h3, h4, _⟩ | ⟨a, b, h3, h4, _, _, h5, h6⟩
   ·simp only at h3 h4; omega
   ·simp only at h5 h6; omega
  cases hp : p j with
  | false =>
   simp only [cond_false, Option.bind_some]
   refine Ok.pure ⟨_, rfl, fun n hn hpn => ?_, ?_⟩
   ·have : n ≠ j := fun e => by rw [e, hp] at hpn; cases hpn
    exact h1 n (by omega) hpn
   ·rcases h2 with ⟨h3, h4, h5⟩ | ⟨a, b, h3, h4, h5⟩
    ·refine .inl ⟨h3, h4, fun n hn => ?_⟩
     by_cases e : n = j
     ·rw [e, hp]
     ·exact h5 n (by omega)
    ·exact .inr ⟨a, b, by omega, by omega, h5⟩
  | true =>
   have w1 : w64 (0 - lo) = -lo := by rw [zqb (by omega) (by omega)]; omega
   have w2 : w64 (0 - (j : Int)) = -(j : Int) := by rw [zqb (by omega) (by omega)]; omega
   simp only [cond_true, zAe, zwe, Option.bind_some, zkr hk, w1, w2]
   have w3 : w64 (0 - (if -(j : Int) > -lo then -(j : Int) else -lo)) = if (j : Int) < lo then (j : Int) else lo := by
    rw [zqb (by split <;> omega) (by split <;> omega)]
    split <;> split <;> omega
   rw [w3]
   refine Ok.pure ⟨_, rfl, fun n hn hpn => ?_, ?_⟩
   ·simp only
    by_cases e : n = j
    ·subst e; constructor <;> split <;> omega
    ·have := h1 n (by omega) hpn
     simp only at this
     constructor <;> split <;> omega
   ·right
    rcases h2 with ⟨h3, h4, h5⟩ | ⟨a, b, h3, h4, h5, h6, h7, h8⟩
    ·simp only at h3 h4
     refine ⟨j, j, by omega, by omega, hp, hp, ?_, ?_⟩ <;> simp only <;> split <;> omega
    ·simp only at h7 h8
     refine ⟨if (j : Int) < lo then j else a, if (j : Int) > hi then j else b, by split <;> omega, by split <;> omega, by split <;> assumption, by split <;> assumption, ?_, ?_⟩ <;> simp only <;> split <;> omega
 ·rintro ⟨lo, hi⟩ h
  simp only [z2c, show decide ((61 : Int) < 61) = false from rfl, cond_false]
  exact Ok.pure ⟨_, rfl, h⟩
 ·exact ⟨fun n h => absurd h (by omega), .inl ⟨rfl, rfl, fun n h => absurd h (by omega)⟩⟩
end Go.AM
set_option linter.unusedVariables false
namespace Go.AM
open Go
def zOs (b : zb) (right : Bool) (true_ : Prop) (e : Int) : Prop :=
 (¬ Fine b ∧ e = 40) ∨ (Fine b ∧ right = false ∧ e = 41) ∨ (Fine b ∧ right = true ∧ ¬ true_ ∧ e = 42) ∨ (Fine b ∧ right = true ∧ true_ ∧ e = 0)
theorem zeu {k : Nat} {b : zb} (hs : zFf b) (hd : b.Days ≤ 9223372036854775807) (hk : Fuel k b) (right : Bool) : Ok (zZc k b right) (zOs b right (zKf b 0)) := by
 unfold zZc
 refine Ok.bind (zKr hs hd hk) fun e he => ?_
 rcases he with ⟨rfl, hf⟩ | ⟨rfl, hf⟩
 ·cases right with
  | false => exact Ok.pure (.inr (.inl ⟨hf, rfl, rfl⟩))
  | true =>
   show Ok ((zIb k b 0).bind _) _
   refine Ok.bind (zUt hf (by omega) (by omega) hk.k0) fun r hr => ?_
   cases r with
   | false => exact Ok.pure (.inr (.inr (.inl ⟨hf, rfl, fun h => Bool.noConfusion (hr.2 h), rfl⟩)))
   | true => exact Ok.pure (.inr (.inr (.inr ⟨hf, rfl, hr.1 rfl, rfl⟩)))
 ·exact Ok.pure (.inl ⟨hf, rfl⟩)
end Go.AM
set_option linter.unusedVariables false
namespace Go.AM
open Go
structure zZg (x : zl) (N : Nat) (Cs v : Nat → Nat) : Prop where
 c0 : Cs 0 = 0
 v0 : (zS x).Begin.Low ≤ (v 0 : Int) ∧ (v 0 : Int) ≤ (zS x).Begin.High
 step : ∀ e, e < N → Cs (e + 1) < nset x ∧ Via x (e : Int) (Cs e) (Cs (e + 1)) (v e) (v (e + 1))
theorem z7e (x : zl) : ∀ (d C n : Nat), zYe x d C n ↔ ∃ Cs v, zZg x d Cs v ∧ Cs d = C ∧ v d = n
 | 0, C, n => by
  constructor
  ·rintro ⟨rfl, h⟩
   exact ⟨fun _ => 0, fun _ => n, ⟨rfl, h, fun e he => absurd he (by omega)⟩, rfl, rfl⟩
  ·rintro ⟨Cs, v, h, rfl, rfl⟩
   exact ⟨h.c0, h.v0⟩
 | d + 1, C, n => by
  constructor
  ·rintro ⟨h1, B, m, h2, h3, h4⟩
   obtain ⟨Cs, v, h, rfl, rfl⟩ := (z7e x d B m).1 h3
   refine ⟨fun i => if i = d + 1 then C else Cs i, fun i => if i = d + 1 then n else v i, ⟨by simpa using h.c0, by simpa using h.v0, fun e he => ?_⟩, by simp, by simp⟩
   by_cases hd : e = d
   ·subst hd
    have : ¬ e = e + 1 := by omega
    simp only [this, if_true, if_false]
    exact ⟨h1, h4⟩
   ·have e1 : ¬ e = d + 1 := by omega
    have e2 : ¬ e + 1 = d + 1 := by omega
    simp only [e1, e2, if_false]
    exact h.step e (by omega)
  ·rintro ⟨Cs, v, h, rfl, rfl⟩
   have h1 := h.step d (by omega)
   have hB : Cs d < nset x := by
    cases d with
    | zero => rw [h.c0]; unfold nset; exact Nat.two_pow_pos _
    | succ d => exact (h.step d (by omega)).1
   exact ⟨h1.1, Cs d, v d, hB, (z7e x d _ _).2 ⟨Cs, v, ⟨h.c0, h.v0, fun e he => h.step e (by omega)⟩, rfl, rfl⟩, h1.2⟩
theorem zCp {x : zl} (hx : On x) {N : Nat} (hN : (N : Int) = x.ShelfBook.Days) : ∀ (t d : Nat) (Cs v : Nat → Nat), d + t = N → zZg x d Cs v → Goon x t (Cs d) (v d) → ∃ Cs' v', zZg x N Cs' v' ∧ (∀ i, i ≤ d → Cs' i = Cs i ∧ v' i = v i)
 | 0, d, Cs, v, hd, h, hg => ⟨Cs, v, (by omega : d = N) ▸ h, fun i _ => ⟨rfl, rfl⟩⟩
 | t + 1, d, Cs, v, hd, h, hg => by
  obtain ⟨h1, h2, C, n, h3, h4, h5⟩ := hg
  have he : x.ShelfBook.Days - 1 - (t : Int) = (d : Int) := by omega
  rw [he] at h4
  have hc : zZg x (d + 1) (fun i => if i = d + 1 then C else Cs i) (fun i => if i = d + 1 then n else v i) := by
   refine ⟨by simpa using h.c0, by simpa using h.v0, fun e he => ?_⟩
   by_cases hd : e = d
   ·subst hd
    have : ¬ e = e + 1 := by omega
    simp only [this, if_true, if_false]
    exact ⟨h3, h4⟩
   ·have e1 : ¬ e = d + 1 := by omega
    have e2 : ¬ e + 1 = d + 1 := by omega
    simp only [e1, e2, if_false]
    exact h.step e (by omega)
  obtain ⟨Cs', v', h6, h7⟩ := zCp hx hN t (d + 1) _ _ (by omega) hc (by simpa using h5)
  refine ⟨Cs', v', h6, fun i hi => ?_⟩
  have h8 := h7 i (by omega)
  have e1 : ¬ i = d + 1 := by omega
  simpa only [e1, if_false] using h8
theorem zsk {x : zl} (hx : On x) {N : Nat} {Cs v : Nat → Nat} (h : zZg x N Cs v) : ∀ d, d ≤ N → (v d : Int) ≤ (zS x).Room ∧ Cs d < nset x := by
 intro d hd
 have hc : zYe x d (Cs d) (v d) := (z7e x d _ _).2 ⟨Cs, v, ⟨h.c0, h.v0, fun e he => h.step e (by omega)⟩, rfl, rfl⟩
 refine ⟨z6g hx _ _ _ hc, ?_⟩
 cases d with
 | zero => rw [h.c0]; unfold nset; exact Nat.two_pow_pos _
 | succ d => exact hc.1
theorem zyp {x : zl} (hx : On x) {N : Nat} (hN : (N : Int) = x.ShelfBook.Days) {Cs v : Nat → Nat} (h : zZg x N Cs v) : ∀ t d, d + t = N → Goon x t (Cs d) (v d)
 | 0, d, hd => ⟨(zsk hx h d (by omega)).2, (zsk hx h d (by omega)).1⟩
 | t + 1, d, hd => by
  have he : x.ShelfBook.Days - 1 - (t : Int) = (d : Int) := by omega
  have hs := h.step d (by omega)
  exact ⟨(zsk hx h d (by omega)).2, (zsk hx h d (by omega)).1, Cs (d + 1), v (d + 1), hs.1, by rw [he]; exact hs.2, zyp hx hN h t (d + 1) (by omega)⟩
theorem zDl {x : zl} (hx : On x) {day n : Nat} (hday : (day : Int) < x.ShelfBook.Days) : zUh x day n ↔ ∃ Cs v, zZg x x.ShelfBook.Days.toNat Cs v ∧ v (day + 1) = n := by
 have hN : ((x.ShelfBook.Days.toNat : Nat) : Int) = x.ShelfBook.Days := by omega
 constructor
 ·rintro ⟨C, h1, h2⟩
  obtain ⟨Cs, v, h, rfl, rfl⟩ := (z7e x _ _ _).1 h1
  obtain ⟨Cs', v', h3, h4⟩ := zCp hx hN _ (day + 1) Cs v (by omega) h h2
  exact ⟨Cs', v', h3, (h4 (day + 1) (by omega)).2⟩
 ·rintro ⟨Cs, v, h, rfl⟩
  exact ⟨Cs (day + 1), (z7e x _ _ _).2 ⟨Cs, v, ⟨h.c0, h.v0, fun e he => h.step e (by omega)⟩, rfl, rfl⟩, zyp hx hN h _ _ (by omega)⟩
theorem zyl {x : zl} (hx : On x) : zMh x ↔ ∃ Cs v, zZg x x.ShelfBook.Days.toNat Cs v := by
 constructor
 ·rintro ⟨C, n, h1, h2⟩
  obtain ⟨Cs, v, h, _⟩ := (z7e x _ _ _).1 h2
  exact ⟨Cs, v, h⟩
 ·rintro ⟨Cs, v, h⟩
  exact ⟨_, _, (zsk hx h _ (Nat.le_refl _)).2, (z7e x _ _ _).2 ⟨Cs, v, h, rfl, rfl⟩⟩
end Go.AM
namespace Go.AM
open Go
section
variable {α β : Type}
end
end Go.AM
namespace Go.AM
open Go
section
variable {α β : Type}
theorem zZq : ∀ {l l' : List Int}, l.Pairwise (· < ·) → l'.Pairwise (· < ·) → (∀ x, x ∈ l ↔ x ∈ l') → l = l'
 | [], [], _, _, _ => rfl
 | [], b :: t, _, _, h => by have := (h b).2 (.head _); cases this
 | a :: t, [], _, _, h => by have := (h a).1 (.head _); cases this
 | a :: t, b :: t', h1, h2, h => by
  obtain ⟨h3, h4⟩ := List.pairwise_cons.1 h1
  obtain ⟨h5, h6⟩ := List.pairwise_cons.1 h2
  have hab : a = b := by
   have ha := (h a).1 (.head _)
   have hb := (h b).2 (.head _)
   cases ha with
   | head => rfl
   | tail _ ha =>
    cases hb with
    | head => rfl
    | tail _ hb =>
     have := h5 a ha
     have := h3 b hb
     omega
  subst hab
  rw [zZq h4 h6 fun x => ?_]
  have hx := h x
  constructor
  ·intro hm
   have := h3 x hm
   cases hx.1 (.tail _ hm) with
   | head => omega
   | tail _ h => exact h
  ·intro hm
   have := h5 x hm
   cases hx.2 (.tail _ hm) with
   | head => omega
   | tail _ h => exact h
end
end Go.AM
set_option linter.unusedVariables false
namespace Go.AM
open Go
theorem zFq (k : Nat) (a b : Int) : zib k a b = some ⟨a, b⟩ := rfl
def InS (s : zm) (n : Int) : Prop := s.Low ≤ n ∧ n ≤ s.High

end Go.AM
set_option linter.unusedVariables false
namespace Go.AM
open Go
def Ends (P : Int → Prop) (s : zm) : Prop := P s.Low ∧ P s.High ∧ ∀ n, P n → InS s n
theorem Ends.eq {P : Int → Prop} {s t : zm} (hs : Ends P s) (ht : Ends P t) : s = t := by
 have h1 := hs.2.2 _ ht.1
 have h2 := hs.2.2 _ ht.2.1
 have h3 := ht.2.2 _ hs.1
 have h4 := ht.2.2 _ hs.2.1
 unfold InS at *
 cases s; cases t
 simp only at *
 congr 1 <;> omega
end Go.AM
set_option linter.unusedVariables false
namespace Go.AM
open Go
def z0l (b : zb) (s d : Int) : Prop := (0 ≤ s ∧ s ≤ (b.Shelves.1.length : Int) - 1) ∧ 0 ≤ d ∧ d ≤ b.Days - 1
def AskE (b : zb) (q T : Prop) (e : Int) : Prop :=
 (¬ Fine b ∧ e = 40) ∨ (Fine b ∧ ¬ q ∧ e = 41) ∨ (Fine b ∧ q ∧ ¬ T ∧ e = 42) ∨ (Fine b ∧ q ∧ T ∧ e = 0)
theorem AskE.eq {b : zb} {q T : Prop} {e f : Int} (h : AskE b q T e) (g : AskE b q T f) : e = f := by
 unfold AskE at *
 rcases h with ⟨h1, h2⟩ | ⟨h1, h2, h3⟩ | ⟨h1, h2, h3, h4⟩ | ⟨h1, h2, h3, h4⟩ <;> rcases g with ⟨g1, g2⟩ | ⟨g1, g2, g3⟩ | ⟨g1, g2, g3, g4⟩ | ⟨g1, g2, g3, g4⟩ <;> first | omega | exact absurd h1 g1 | exact absurd g1 h1 | exact absurd h2 g2 | exact absurd g2 h2 | exact absurd h3 g3 | exact absurd g3 h3
theorem AskE.ok {b : zb} {q T : Prop} {e : Int} (h : AskE b q T e) (he : e = 0) : Fine b ∧ q ∧ T := by
 unfold AskE at h
 rcases h with ⟨h1, h2⟩ | ⟨h1, h2, h3⟩ | ⟨h1, h2, h3, h4⟩ | ⟨h1, h2, h3, h4⟩
 ·omega
 ·omega
 ·omega
 ·exact ⟨h1, h2, h3⟩
theorem zzv {b : zb} {right : Bool} {q T : Prop} {e : Int} (hr : Fine b → (right = true ↔ q)) (h : zOs b right T e) : AskE b q T e := by
 unfold zOs at h
 unfold AskE
 rcases h with ⟨h1, h2⟩ | ⟨h1, h2, h3⟩ | ⟨h1, h2, h3, h4⟩ | ⟨h1, h2, h3, h4⟩
 ·exact .inl ⟨h1, h2⟩
 ·exact .inr (.inl ⟨h1, fun hq => (by rw [(hr h1).2 hq] at h2; cases h2), h3⟩)
 ·exact .inr (.inr (.inl ⟨h1, (hr h1).1 h2, h3, h4⟩))
 ·exact .inr (.inr (.inr ⟨h1, (hr h1).1 h2, h3, h4⟩))
theorem znn {b : zb} (hf : Fine b) : w64 (b.Days - 1) = b.Days - 1 := by
 have := hf.days
 exact zqb (by omega) (by omega)
theorem zKt {b : zb} (hs : zFf b) (k : Nat) (s d : Int) : ∃ r, zve k b s d = some r ∧ (Fine b → (r = true ↔ z0l b s d)) := by
 refine ⟨(decide (0 ≤ s) && decide (s ≤ (b.Shelves.1.length : Int) - 1)) && (decide (0 ≤ d) && decide (d ≤ w64 (b.Days - 1))), by simp only [zve, zGd, Option.bind_some, zyc, zti hs.shelves], fun hf => ?_⟩
 rw [znn hf]
 simp only [Bool.and_eq_true, decide_eq_true_eq, z0l]
def zZl (b : zb) (s : Int) (d : Nat) (n : Int) : Prop := ∃ m : Nat, n = m ∧ zUh ⟨b, s, 0⟩ d m
theorem zGv {b : zb} (hf : Fine b) {s d : Int} (h : z0l b s d) : On (⟨b, s, 0⟩ : zl) := ⟨hf, h.1.1, by have := h.1.2; show s < (b.Shelves.1.length : Int); omega, Int.le_refl _, by show (0 : Int) < _; omega⟩
theorem ztu {b : zb} {s : Int} (hT : zKf b 0) (h0 : 0 ≤ s) (h1 : s ≤ (b.Shelves.1.length : Int) - 1) : zMh (⟨b, s, 0⟩ : zl) := by
 have := hT s.toNat (by omega)
 rwa [Int.toNat_of_nonneg h0] at this
theorem zvt {x : zl} (hx : On x) (hc : zMh x) {d : Nat} (hd : (d : Int) < x.ShelfBook.Days) : ∃ n, zUh x d n := by
 obtain ⟨Cs, v, h⟩ := (zyl hx).1 hc
 exact ⟨v (d + 1), (zDl hx hd).2 ⟨Cs, v, h, rfl⟩⟩
theorem zto {x : zl} (hx : On x) {d n : Nat} (h : zUh x d n) : n ≤ 60 := by
 obtain ⟨C, h1, _⟩ := h
 have := z6g hx _ _ _ h1
 have := hx.shelf.1.2
 omega
theorem zdt {x : zl} (hx : On x) {v : Nat → Bool} (h : ∀ i : Nat, v i = true ↔ ∃ day n : Nat, (day : Int) < x.ShelfBook.Days ∧ i = day * 61 + n ∧ zUh x day n) {d n : Nat} (hd : (d : Int) < x.ShelfBook.Days) (hn : n ≤ 60) : v (d * 61 + n) = true ↔ zUh x d n := by
 rw [h]
 constructor
 ·rintro ⟨day, m, h1, h2, h3⟩
  have := zto hx h3
  obtain rfl : day = d := by omega
  obtain rfl : n = m := by omega
  exact h3
 ·exact fun h3 => ⟨d, n, hd, rfl, h3⟩
theorem zIt {b : zb} {s : Int} (hx : On (⟨b, s, 0⟩ : zl)) (hc : zMh (⟨b, s, 0⟩ : zl)) {v : Nat → Bool} {d : Nat} (hd : (d : Int) < b.Days) (h : ∀ n, n ≤ 60 → (v n = true ↔ zUh ⟨b, s, 0⟩ d n)) {t : zm} (ht : zlp v 61 t.Low t.High) : Ends (zZl b s d) t := by
 obtain ⟨h1, h2⟩ := ht
 rcases h2 with ⟨h3, h4, h5⟩ | ⟨a, c, h3, h4, h5, h6, h7, h8⟩
 ·obtain ⟨n, hn⟩ := zvt hx hc hd
  have hle := zto hx hn
  have := h5 n (by omega)
  rw [(h n hle).2 hn] at this; cases this
 ·refine ⟨⟨a, h7, (h a (by omega)).1 h5⟩, ⟨c, h8, (h c (by omega)).1 h6⟩, ?_⟩
  rintro n ⟨m, rfl, hm⟩
  have hle := zto hx hm
  exact h1 m (by omega) ((h m hle).2 hm)
section
variable {b : zb} {k : Nat}
theorem zit (hs : zFf b) (hd : b.Days ≤ 9223372036854775807) (hk : Fuel k b) (s d : Int) : Ok (zKb k b s d) (fun r => AskE b (z0l b s d) (zKf b 0) r.2 ∧ (r.2 ≠ 0 → r.1 = ⟨0, 0⟩) ∧ (r.2 = 0 → Ends (zZl b s d.toNat) r.1)) := by
 obtain ⟨r, h1, h2⟩ := zKt hs k s d
 unfold zKb
 rw [h1, Option.bind_some]
 refine Ok.bind (zeu hs hd hk r) fun e he => ?_
 have hE := zzv h2 he
 cases hc : e != 0 with
 | true =>
  rw [cond_true]
  have hne : e ≠ 0 := by simpa using hc
  exact Ok.pure ⟨hE, fun _ => rfl, fun h => absurd h hne⟩
 | false =>
  rw [cond_false]
  obtain rfl : e = 0 := by simpa using hc
  obtain ⟨hf, hq, hT⟩ := hE.ok rfl
  have hx := zGv hf hq
  have hdays := hf.days
  have hcan := ztu hT hq.1.1 hq.1.2
  refine Ok.bind (znt hx hk.k0) fun v hv => ?_
  have hq2 := hq.2
  have c1 : (decide (0 ≤ d) && decide (d < 12)) = true := by simp; omega
  rw [c1, cond_true]
  have hdl : ((d.toNat : Nat) : Int) < b.Days := by omega
  refine Ok.bind (zvv hk.k0 _) fun t ht => Ok.pure ⟨hE, fun h => absurd rfl h, fun _ => ?_⟩
  exact zIt hx hcan hdl (fun n hn => zdt hx hv hdl hn) ht
def zin (b : zb) (s d n : Int) : Prop := (∀ (j : Nat) m, d ≤ j → (j : Int) < b.Days → zZl b s j m → n ≤ m) ∧ ∃ j : Nat, d ≤ j ∧ (j : Int) < b.Days ∧ zZl b s j n
theorem zin.eq {s d n m : Int} (h : zin b s d n) (g : zin b s d m) : n = m := by
 obtain ⟨h1, j, h2, h3, h4⟩ := h
 obtain ⟨g1, i, g2, g3, g4⟩ := g
 have := h1 i m g2 g3 g4
 have := g1 j n h2 h3 h4
 omega
end
end Go.AM
set_option linter.unusedVariables false
namespace Go.AM
open Go
structure zWs (S n : Nat) (l : List Int) : Prop where
 climbs : l.Pairwise (· < ·)
 mem : ∀ x, x ∈ l ↔ ∃ i : Nat, x = (i : Int) ∧ i < n ∧ S.testBit i = true
 len : l.length ≤ n
theorem zWs.eq {S n : Nat} {l l' : List Int} (h : zWs S n l) (h' : zWs S n l') : l = l' := zZq h.climbs h'.climbs fun x => (h.mem x).trans (h'.mem x).symm
end Go.AM
set_option linter.unusedVariables false
namespace Go.AM
open Go
abbrev zXu (l : List Nat) : Prop := l.Pairwise (· < ·)
def ltL (a c : List Nat) : Prop := ∃ x, x ∈ a ∧ x ∉ c ∧ ∀ y, y < x → (y ∈ a ↔ y ∈ c)
theorem zov {a c : List Nat} (h : ltL a c) (g : ltL c a) : False := by
 obtain ⟨x, h1, h2, h3⟩ := h
 obtain ⟨y, g1, g2, g3⟩ := g
 rcases Nat.lt_trichotomy x y with h4 | h4 | h4
 ·exact h2 ((g3 x h4).2 h1)
 ·subst h4; exact h2 g1
 ·exact g2 ((h3 y h4).2 g1)
def leS (a c : List Nat) : Prop := a.length < c.length ∨ (a.length = c.length ∧ (a = c ∨ ltL a c))
theorem zsu {a c : List Nat} (h : leS a c) (g : leS c a) : a = c := by
 rcases h with h | ⟨h, h'⟩ <;> rcases g with g | ⟨g, g'⟩
 ·omega
 ·omega
 ·omega
 ·rcases h' with rfl | h'
  ·rfl
  ·rcases g' with rfl | g'
   ·rfl
   ·exact (zov h' g').elim
structure Best (n : Nat) (P : List Nat → Prop) (l : List Nat) : Prop where
 climb : zXu l
 lt : ∀ i ∈ l, i < n
 ok : P l
 least : ∀ l', zXu l' → (∀ i ∈ l', i < n) → P l' → leS l l'
theorem Best.eq {n : Nat} {P : List Nat → Prop} {l l' : List Nat} (h : Best n P l) (g : Best n P l') : l = l' := zsu (h.least l' g.climb g.lt g.ok) (g.least l h.climb h.lt h.ok)
end Go.AM
set_option linter.unusedVariables false
namespace Go.AM
open Go
def zEw (b : zb) (s : Nat) (i : Nat) : Prop := ∃ c, b.Counts.1[i]? = some c ∧ c.Shelf = (s : Int)
section
variable {b : zb} {k : Nat}
end
end Go.AM
set_option linter.unusedVariables false
namespace Go.AM
open Go
theorem z9t {k : Nat} {b : zb} (hs : zFf b) (hd : b.Days ≤ 9223372036854775807) (hk : Fuel k b) : Ok (zHc k b) (fun r => r = true ↔ Fine b) := by
 unfold zHc
 refine Ok.bind (zKr hs hd hk) fun e he => ?_
 rcases he with ⟨rfl, hf⟩ | ⟨rfl, hf⟩
 ·have hf2 := hf
  obtain ⟨h1, h2, h3, h4, h5, _⟩ := hf2
  simp only [BEq.rfl, cond_true, znk, Option.bind_some, zyc]
  refine Ok.pure ⟨fun _ => hf, fun _ => ?_⟩
  simp only [Bool.and_eq_true, decide_eq_true_eq]
  omega
 ·rw [show ((40 : Int) == 0) = false from rfl, cond_false]
  exact Ok.pure ⟨fun h => Bool.noConfusion h, fun h => absurd h hf⟩
theorem Ok.held {f : Bool × Int → Option ((Bool × Int) ⊕ (Bool × Int))} (acc : Bool) (n : Nat)
  (next : acc = true → ∀ j : Nat, j < n → Ok (f (true, (j : Int))) (fun x => x = .inl (true, ((j + 1 : Nat) : Int))))
  (out : ∀ i, f (false, i) = some (.inr (false, i)))
  (last : f (true, (n : Int)) = some (.inr (true, (n : Int)))) {k : Nat} (hk : n < k) : Ok (Go.AM.iter f k (acc, 0)) (fun r => r.1 = acc) := by
 cases acc with
 | false =>
  refine Ok.count 0 (fun j s => s = (false, 0)) (fun j s hj => absurd hj (by omega)) ?_ rfl (by omega)
  rintro s rfl
  rw [out]
  exact Ok.pure rfl
 | true =>
  refine Ok.count n (fun j s => s = (true, (j : Int))) ?_ ?_ rfl hk
  ·rintro j s hj rfl
   refine (next rfl j hj).mono ?_
   rintro x rfl
   rfl
  ·rintro s rfl
   rw [last]
   exact Ok.pure rfl
theorem zru {k : Nat} {b : zb} (hs : zFf b) (hd : b.Days ≤ 9223372036854775807) (hk : Fuel k b) : Ok (zmd k b) (fun r => r = true ↔ Fine b) := by
 unfold zmd
 refine (z9t hs hd hk).bind fun r1 h1 => ?_
 refine Ok.bind (Ok.held r1 b.Shelves.1.length (fun e j hj => ?_) (fun i => by simp [z6b, z5b]) (by simp [z6b, z5b]) hk.shelves) fun r2 h2 => ?_
 ·have hf := h1.1 e
  obtain ⟨⟨a1, a2⟩, a3, a4, a5⟩ := hf.shelves _ (List.getElem_mem hj)
  have hn := hf.nshelves
  simp only [z6b, z5b, zyd, zic hj, cond_true, zQb hj, Option.bind_some, znk, z8k, zyc, zub hj hs.shelves]
  generalize b.Shelves.1[j] = x at *
  have : (decide (1 ≤ x.Room) && decide (x.Room ≤ 60) && (decide (0 ≤ x.Begin.Low) && (decide (x.Begin.Low ≤ x.Begin.High) && decide (x.Begin.High ≤ x.Room)))) = true := by simp only [Bool.and_eq_true, decide_eq_true_eq]; omega
  rw [this]
  exact Ok.pure rfl
 refine Ok.bind (Ok.held r2.1 b.Moves.1.length (fun e j hj => ?_) (fun i => by simp [z7b, z0b]) (by simp [z7b, z0b]) hk.moves) fun r3 h3 => ?_
 ·have hf := h1.1 (h2 ▸ e)
  obtain ⟨⟨a1, a2⟩, ⟨a3, a4⟩, a5, a6, a7⟩ := hf.moves _ (List.getElem_mem hj)
  simp only [z7b, z0b, zbd, zic hj, cond_true, zQb hj, Option.bind_some, znk, z8k, zyc, zub hj hs.moves, znn hf, zti hs.shelves]
  generalize b.Moves.1[j] = x at *
  have : (decide (0 ≤ x.Day) && decide (x.Day ≤ b.Days - 1) && (decide (0 ≤ x.Shelf) && decide (x.Shelf ≤ (b.Shelves.1.length : Int) - 1) && (decide (0 ≤ x.By.Low) && (decide (x.By.Low ≤ x.By.High) && decide (x.By.High ≤ 60))))) = true := by simp only [Bool.and_eq_true, decide_eq_true_eq]; omega
  rw [this]
  exact Ok.pure rfl
 refine Ok.bind (Ok.held r3.1 b.Deliveries.1.length (fun e j hj => ?_) (fun i => by simp [z2b, z1b]) (by simp [z2b, z1b]) hk.deliveries) fun r4 h4 => ?_
 ·have hf := h1.1 (h2 ▸ h3 ▸ e)
  obtain ⟨⟨a1, a2⟩, ⟨a3, a4, a8⟩, a5, a6, a7⟩ := hf.deliveries _ (List.getElem_mem hj)
  simp only [z2b, z1b, zed, zic hj, cond_true, zQb hj, Option.bind_some, znk, z8k, zyc, zub hj hs.deliveries, znn hf, zti hs.shelves]
  generalize b.Deliveries.1[j] = x at *
  have : (decide (0 ≤ x.Shelf) && decide (x.Shelf ≤ (b.Shelves.1.length : Int) - 1) && ((decide (0 ≤ x.Days.Low) && (decide (x.Days.Low ≤ x.Days.High) && decide (x.Days.High ≤ b.Days - 1))) && (decide (0 ≤ x.By.Low) && (decide (x.By.Low ≤ x.By.High) && decide (x.By.High ≤ 60))))) = true := by simp only [Bool.and_eq_true, decide_eq_true_eq]; omega
  rw [this]
  exact Ok.pure rfl
 refine Ok.bind (Ok.held r4.1 b.Counts.1.length (fun e j hj => ?_) (fun i => by simp [zZb, z3b]) (by simp [zZb, z3b]) hk.counts) fun r5 h5 => ?_
 ·have hf := h1.1 (h2 ▸ h3 ▸ h4 ▸ e)
  obtain ⟨⟨a1, a2⟩, ⟨a3, a4⟩, ⟨a5, a6⟩, a7, a8⟩ := hf.counts _ (List.getElem_mem hj)
  simp only [zZb, z3b, zhd, zic hj, cond_true, zQb hj, Option.bind_some, znk, z8k, zyc, zub hj hs.counts, znn hf, zti hs.shelves]
  generalize b.Counts.1[j] = x at *
  have : (decide (0 ≤ x.Day) && decide (x.Day ≤ b.Days - 1) && (decide (0 ≤ x.Shelf) && decide (x.Shelf ≤ (b.Shelves.1.length : Int) - 1) && (decide (0 ≤ x.Read) && decide (x.Read ≤ 60) && (decide (0 ≤ x.Err) && decide (x.Err ≤ 20))))) = true := by simp only [Bool.and_eq_true, decide_eq_true_eq]; omega
  rw [this]
  exact Ok.pure rfl
 refine Ok.pure ?_
 rw [h5, h4, h3, h2, h1]
theorem zsh {k : Nat} {a : Int} {n : Nat} (hn : 1 ≤ n) (hn2 : n ≤ 1000000) : Ok (zY k a (n : Int)) (fun r => ∃ i : Nat, r = (i : Int) ∧ i < n) := by
 unfold zY
 have c1 : decide ((n : Int) < 1) = false := by simp; omega
 have c2 : ((n : Int) == 0) = false := by simp; omega
 rw [c1, c2, cond_false, cond_false]
 have h1 := Int.tmod_lt_of_pos a (show (0 : Int) < n by omega)
 have h2 : -(n : Int) < a.tmod n := by
  have := Int.lt_tmod_of_pos a (show (0 : Int) < n by omega)
  exact this
 cases hc : decide (a.tmod (n : Int) < 0) with
 | true =>
  have := of_decide_eq_true hc
  simp only [zUc, cond_true, Option.bind_some]
  refine Ok.pure ⟨(a.tmod n + n).toNat, ?_, by omega⟩
  rw [zqb (by omega) (by omega)]
  omega
 | false =>
  have := of_decide_eq_false hc
  simp only [zUc, cond_false, Option.bind_some]
  exact Ok.pure ⟨(a.tmod n).toNat, by omega, by omega⟩
theorem onL {b : zb} (hf : Fine b) {s : Int} (h0 : 0 ≤ s) (h1 : s ≤ (b.Shelves.1.length : Int) - 1) {L : Nat} (hL : L < 2 ^ 60) : On (⟨b, s, (L : Int)⟩ : zl) := ⟨hf, h0, by show s < (b.Shelves.1.length : Int); omega, by show (0 : Int) ≤ (L : Int); omega, by show (L : Int) < _; omega⟩
end Go.AM
set_option linter.unusedVariables false
namespace Go.AM
open Go
section
open Classical
variable {b : zb}
noncomputable def part (b : zb) (s : Nat) (l : List Nat) : List Nat := l.filter fun i => decide (zEw b s i)
end
end Go.AM
set_option linter.unusedVariables false
namespace Go.AM
open Go
theorem z5t (k : Nat) (s t : zm) : zsb k s t = some (decide (t.Low ≤ s.Low) && decide (s.High ≤ t.High)) := by
 simp only [zsb, zyc]
section
variable {b : zb} {k : Nat}
end
end Go.AM
set_option linter.unusedVariables false
namespace Go.AM
open Go
theorem Ends.congr {P Q : Int → Prop} {s : zm} (h : Ends P s) (e : ∀ n, P n ↔ Q n) : Ends Q s := ⟨(e _).1 h.1, (e _).1 h.2.1, fun n hn => h.2.2 n ((e n).2 hn)⟩
theorem zEt {k : Nat} {b : zb} (hf : Fine b) (a : Int) : Ok (zY k a b.Days) (fun r => ∃ i : Nat, r = (i : Int) ∧ i < b.Days.toNat) := by
 have hdays := hf.days
 have hday : b.Days = ((b.Days.toNat : Nat) : Int) := by omega
 rw [hday]
 exact (zsh (by omega) (by omega)).mono fun r hr => by
  obtain ⟨i, h1, h2⟩ := hr
  exact ⟨i, h1, by omega⟩
section
variable {b : zb} {k : Nat}
end
end Go.AM
set_option linter.unusedVariables false
namespace Go.AM
open Go
def SubS (s t : zm) : Prop := t.Low ≤ s.Low ∧ s.High ≤ t.High
theorem SubS.refl (s : zm) : SubS s s := ⟨Int.le_refl _, Int.le_refl _⟩
def WidS (a c : zt) : Prop := c.Room = a.Room ∧ SubS a.Begin c.Begin
def WidM (a c : zq) : Prop := c.Day = a.Day ∧ c.Shelf = a.Shelf ∧ c.Back = a.Back ∧ SubS a.By c.By
def WidD (a c : zn) : Prop := c.Shelf = a.Shelf ∧ SubS a.Days c.Days ∧ SubS a.By c.By
def WidC (a c : zo) : Prop := c.Day = a.Day ∧ c.Shelf = a.Shelf ∧ c.Read = a.Read ∧ a.Err ≤ c.Err
def Each {α : Type} (R : α → α → Prop) (l l' : List α) : Prop := l'.length = l.length ∧ ∀ (i : Nat) a c, l[i]? = some a → l'[i]? = some c → R a c
theorem Each.same {α : Type} {R : α → α → Prop} (h : ∀ a, R a a) (l : List α) : Each R l l := ⟨rfl, fun i a c h1 h2 => by rw [h1] at h2; cases h2; exact h a⟩
theorem Each.set {α : Type} {R : α → α → Prop} (h : ∀ a, R a a) {l : List α} {i : Nat} {a y : α} (ha : l[i]? = some a) (hy : R a y) : Each R l (l.set i y) := by
 refine ⟨by rw [List.length_set], fun j b c h1 h2 => ?_⟩
 by_cases e : i = j
 ·subst e
  rw [h1] at ha
  cases ha
  rw [List.getElem?_set_self (List.getElem?_eq_some_iff.1 h1).1] at h2
  cases h2
  exact hy
 ·rw [List.getElem?_set_ne e, h1] at h2
  cases h2
  exact h b
theorem Each.at {α : Type} {R : α → α → Prop} {l l' : List α} (h : Each R l l') {j : Nat} (hj : j < l.length) (hj' : j < l'.length) : R l[j] l'[j] := h.2 j _ _ (List.getElem?_eq_getElem hj) (List.getElem?_eq_getElem hj')
structure Wid (b x : zb) : Prop where
 days : x.Days = b.Days
 shelves : Each WidS b.Shelves.1 x.Shelves.1
 moves : Each WidM b.Moves.1 x.Moves.1
 deliveries : Each WidD b.Deliveries.1 x.Deliveries.1
 counts : Each WidC b.Counts.1 x.Counts.1
theorem zZi (a : zt) : WidS a a := ⟨rfl, .refl _⟩
theorem zRi (a : zq) : WidM a a := ⟨rfl, rfl, rfl, .refl _⟩
theorem zLi (a : zn) : WidD a a := ⟨rfl, .refl _, .refl _⟩
theorem z8i (a : zo) : WidC a a := ⟨rfl, rfl, rfl, Int.le_refl _⟩
section
variable {b x : zb} {s : Nat}
abbrev shl (b : zb) (s : Nat) : zl := ⟨b, (s : Int), 0⟩
theorem Wid.shelf (h : Wid b x) (hs : s < b.Shelves.1.length) : WidS (zS (shl b s)) (zS (shl x s)) := by
 have hs' : s < x.Shelves.1.length := by rw [h.shelves.1]; exact hs
 have e1 : zS (shl b s) = b.Shelves.1[s] := by
  show b.Shelves.1.getD (s : Int).toNat _ = _
  rw [List.getD_eq_getElem?_getD, Int.toNat_natCast, List.getElem?_eq_getElem hs, Option.getD_some]
 have e2 : zS (shl x s) = x.Shelves.1[s] := by
  show x.Shelves.1.getD (s : Int).toNat _ = _
  rw [List.getD_eq_getElem?_getD, Int.toNat_natCast, List.getElem?_eq_getElem hs', Option.getD_some]
 rw [e1, e2]
 exact h.shelves.at hs hs'
theorem z8t {way : Int} {u t : zm} (h : SubS u t) {m n : Nat} (hs : Step way u m n) : Step way t m n := by
 obtain ⟨q, h1, h2, h3⟩ := hs
 exact ⟨q, Int.le_trans h.1 h1, Int.le_trans h2 h.2, h3⟩
theorem z8n (hr : (zS (shl x s)).Room = (zS (shl b s)).Room) {way : Int} {u t : zm} (h : SubS u t) {m n : Nat} (hR : Run (shl b s) [⟨way, u⟩] m n) : Run (shl x s) [⟨way, t⟩] m n := by
 obtain ⟨q, h1, h2, h3⟩ := hR
 exact ⟨q, by rw [hr]; exact h1, z8t h h2, h3⟩
theorem zQl {L M L' M' : List zL} (h1 : ∀ m n, Run (shl b s) L m n → Run (shl x s) L' m n) (h2 : ∀ m n, Run (shl b s) M m n → Run (shl x s) M' m n) (m n : Nat) (h : Run (shl b s) (L ++ M) m n) : Run (shl x s) (L' ++ M') m n := by
 obtain ⟨q, h3, h4⟩ := (zOf _ _ _ _ _).1 h
 exact (zOf _ _ _ _ _).2 ⟨q, h1 _ _ h3, h2 _ _ h4⟩
theorem zCr (h : Wid b x) (hr : (zS (shl x s)).Room = (zS (shl b s)).Room) (C : Nat) : ∀ j, j ≤ b.Deliveries.1.length → ∀ m n, Run (shl b s) (zvd (b.Deliveries.1.take j) C) m n → Run (shl x s) (zvd (x.Deliveries.1.take j) C) m n
 | 0, _, m, n, hR => by
  have e : m = n := hR
  exact e
 | j + 1, hj, m, n, hR => by
  have hj' : j < x.Deliveries.1.length := by rw [h.deliveries.1]; omega
  rw [zOj C (by omega : j < b.Deliveries.1.length)] at hR
  rw [zOj C hj']
  refine zQl (zCr h hr C j (by omega)) (fun m n hR => ?_) m n hR
  by_cases hb : C.testBit j = true
  ·rw [if_pos hb] at hR ⊢
   exact z8n hr (h.deliveries.at (by omega) hj').2.2 hR
  ·rw [if_neg hb] at hR ⊢
   exact hR
theorem zGr (h : Wid b x) (hr : (zS (shl x s)).Room = (zS (shl b s)).Room) (day : Int) : ∀ j, j ≤ b.Moves.1.length → ∀ m n, Run (shl b s) (zLf (shl b s) day (b.Moves.1.take j)) m n → Run (shl x s) (zLf (shl x s) day (x.Moves.1.take j)) m n
 | 0, _, m, n, hR => by
  have e : m = n := hR
  exact e
 | j + 1, hj, m, n, hR => by
  have hj' : j < x.Moves.1.length := by rw [h.moves.1]; omega
  rw [zEm (shl b s) day (by omega : j < b.Moves.1.length)] at hR
  rw [zEm (shl x s) day hj']
  refine zQl (zGr h hr day j (by omega)) (fun m n hR => ?_) m n hR
  obtain ⟨e1, e2, e3, e4⟩ := h.moves.at (by omega) hj'
  rw [e1, e2, e3]
  by_cases hb : (b.Moves.1[j].Day == day && b.Moves.1[j].Shelf == (s : Int)) = true
  ·rw [if_pos hb] at hR ⊢
   exact z8n hr e4 hR
  ·rw [if_neg hb] at hR ⊢
   exact hR
theorem zsq (h : Wid b x) (hs : s < b.Shelves.1.length) {N : Nat} {Cs v : Nat → Nat} (hc : zZg (shl b s) N Cs v) : zZg (shl x s) N Cs v := by
 obtain ⟨hr, hb1, hb2⟩ := h.shelf hs
 have hn : nset (shl x s) = nset (shl b s) := by
  show 2 ^ x.Deliveries.1.length = 2 ^ b.Deliveries.1.length
  rw [h.deliveries.1]
 refine ⟨hc.c0, ⟨Int.le_trans hb1 hc.v0.1, Int.le_trans hc.v0.2 hb2⟩, fun e he => ?_⟩
 obtain ⟨h1, h2, h3, h4⟩ := hc.step e he
 refine ⟨by rw [hn]; exact h1, fun i D' hD' => ?_, ?_, fun i c' hc' => ?_⟩
 ·have hi := (List.getElem?_eq_some_iff.1 hD').1
  have hi2 : i < x.Deliveries.1.length := hi
  rw [h.deliveries.1] at hi2
  have hw := h.deliveries.2 i _ _ (List.getElem?_eq_getElem hi2) hD'
  have h5 := h2 i _ (List.getElem?_eq_getElem hi2)
  generalize b.Deliveries.1[i] = D at *
  obtain ⟨w1, w2, w3⟩ := hw
  unfold z3f at h5 ⊢
  rw [w1]
  by_cases hsh : D.Shelf = (shl b s).shelf
  ·rw [if_pos hsh] at h5
   rw [if_pos hsh]
   obtain ⟨h6, h7, h8⟩ := h5
   refine ⟨h6, fun a c => ?_, fun a => ?_⟩
   ·obtain ⟨h9, h10⟩ := h7 a c
    exact ⟨Int.le_trans w2.1 h9, Int.le_trans h10 w2.2⟩
   ·exact Int.lt_of_lt_of_le (h8 a) w2.2
  ·rw [if_neg hsh] at h5
   rw [if_neg hsh]
   exact h5
 ·have k1 := zCr (s := s) h hr (dif (Cs (e + 1)) (Cs e)) _ (Nat.le_refl _)
  have k2 := zGr (s := s) h hr (e : Int) _ (Nat.le_refl _)
  rw [List.take_length, List.take_of_length_le (by rw [h.deliveries.1]; exact Nat.le_refl _)] at k1
  rw [List.take_length, List.take_of_length_le (by rw [h.moves.1]; exact Nat.le_refl _)] at k2
  exact zQl k1 k2 _ _ h3
 ·have hi := (List.getElem?_eq_some_iff.1 hc').1
  have hi2 : i < x.Counts.1.length := hi
  rw [h.counts.1] at hi2
  obtain ⟨w1, w2, w3, w4⟩ := h.counts.2 i _ _ (List.getElem?_eq_getElem hi2) hc'
  have h5 := h4 i _ (List.getElem?_eq_getElem hi2)
  generalize b.Counts.1[i] = c at *
  intro a1 a2 a3
  have := h5 (by rw [← w1]; exact a1) (by rw [← w2]; exact a2) a3
  rw [w3]
  exact ⟨by omega, by omega⟩
theorem zFu (hf : Fine b) (hx : Fine x) (h : Wid b x) (hT : zKf b 0) : zKf x 0 := by
 intro s hs
 rw [h.shelves.1] at hs
 obtain ⟨Cs, v, hc⟩ := (zyl (onL hf (s := (s : Int)) (by omega) (by omega) (L := 0) (by omega))).1 (hT s hs)
 refine (zyl (onL hx (s := (s : Int)) (by omega) (by rw [h.shelves.1]; omega) (L := 0) (by omega))).2 ⟨Cs, v, ?_⟩
 show zZg (shl x s) x.Days.toNat Cs v
 rw [h.days]
 exact zsq h hs hc
theorem zgq (hf : Fine b) (hx : Fine x) (h : Wid b x) (hs : s < b.Shelves.1.length) {d : Nat} (hd : (d : Int) < b.Days) {n : Int} (hS : zZl b (s : Int) d n) : zZl x (s : Int) d n := by
 obtain ⟨m, rfl, hm⟩ := hS
 obtain ⟨Cs, v, hc, hv⟩ := (zDl (onL hf (s := (s : Int)) (by omega) (by omega) (L := 0) (by omega)) hd).1 hm
 refine ⟨m, rfl, (zDl (onL hx (s := (s : Int)) (by omega) (by rw [h.shelves.1]; omega) (L := 0) (by omega)) (by show (d : Int) < x.Days; rw [h.days]; exact hd)).2 ⟨Cs, v, ?_, hv⟩⟩
 show zZg (shl x s) x.Days.toNat Cs v
 rw [h.days]
 exact zsq h hs hc
variable {k : Nat}
theorem zHu (hs : zFf b) (hd : b.Days ≤ 9223372036854775807) (hk : Fuel k b) (hf : Fine b) (hsx : zFf x) (hkx : Fuel k x) (hx : Fine x) (h : Wid b x) (hc : zK k = some true) {d : Nat} (hsl : s < b.Shelves.1.length) (hdl : d < b.Days.toNat) :
  Ok ((zKb k b (s : Int) (d : Int)).bind fun v20 => (zKb k x (s : Int) (d : Int)).bind fun v22 => cond (v20.2 == 0) (cond (v22.2 == 0) ((zsb k v20.1 v22.1).bind fun v26 => cond v26 ((zK k).bind fun v29 => some v29) (cond (v20.2 == 42) ((zK k).bind fun v30 => some v30) (some false))) (cond (v20.2 == 42) (cond (v22.2 == v20.2) ((zK k).bind fun v28 => some v28) (some false)) (some false))) (cond (v20.2 == 42) (cond (v22.2 == 0) ((zK k).bind fun v27 => some v27) (cond (v22.2 == v20.2) ((zK k).bind fun v28 => some v28) (some false))) (some false))) (fun r => r = true) := by
 have hdays := hf.days
 have hq : z0l b (s : Int) (d : Int) := ⟨⟨by omega, by omega⟩, by omega, by omega⟩
 have hqx : z0l x (s : Int) (d : Int) := ⟨⟨by omega, by rw [h.shelves.1]; omega⟩, by omega, by rw [h.days]; omega⟩
 refine Ok.bind (zit hs hd hk _ _) fun a ha => ?_
 refine Ok.bind (zit hsx (by rw [h.days]; exact hd) hkx _ _) fun c hc' => ?_
 obtain ⟨aE, _, a2⟩ := ha
 obtain ⟨cE, _, c2⟩ := hc'
 have c42 : c.2 = 42 ∨ c.2 = 0 := by
  rcases cE with ⟨h1, _⟩ | ⟨_, h1, _⟩ | ⟨_, _, _, h1⟩ | ⟨_, _, _, h1⟩
  ·exact absurd hx h1
  ·exact absurd hqx h1
  ·exact .inl h1
  ·exact .inr h1
 rcases aE with ⟨h1, _⟩ | ⟨_, h1, _⟩ | ⟨_, _, hT, h1⟩ | ⟨_, _, hT, h1⟩
 ·exact absurd hf h1
 ·exact absurd hq h1
 ·rcases c42 with e | e
  ·rw [h1, e, hc]; exact Ok.pure rfl
  ·rw [h1, e, hc]; exact Ok.pure rfl
 ·have e : c.2 = 0 := cE.eq (.inr (.inr (.inr ⟨hx, hqx, zFu hf hx h hT, rfl⟩)))
  have hA := a2 h1
  have hC := c2 e
  rw [Int.toNat_natCast] at hA hC
  have i1 := hC.2.2 _ (zgq hf hx h hsl (by omega) hA.1)
  have i2 := hC.2.2 _ (zgq hf hx h hsl (by omega) hA.2.1)
  unfold InS at i1 i2
  have hin : (decide (c.1.Low ≤ a.1.Low) && decide (a.1.High ≤ c.1.High)) = true := by
   rw [Bool.and_eq_true, decide_eq_true_eq, decide_eq_true_eq]
   exact ⟨i1.1, i2.2⟩
  rw [h1, e, z5t, Option.bind_some, hin, hc]
  exact Ok.pure rfl
def widL (k : Nat) (b x : zb) (n : Nat → Int) : Option Bool := (zY k (n 3) (b.Shelves.1.length : Int)).bind fun v18 => (zY k (n 4) b.Days).bind fun v20 => (zKb k b v18 v20).bind fun v20_ => (zKb k x v18 v20).bind fun v22 => cond (v20_.2 == 0) (cond (v22.2 == 0) ((zsb k v20_.1 v22.1).bind fun v26 => cond v26 ((zK k).bind fun v29 => some v29) (cond (v20_.2 == 42) ((zK k).bind fun v30 => some v30) (some false))) (cond (v20_.2 == 42) (cond (v22.2 == v20_.2) ((zK k).bind fun v28 => some v28) (some false)) (some false))) (cond (v20_.2 == 42) (cond (v22.2 == 0) ((zK k).bind fun v27 => some v27) (cond (v22.2 == v20_.2) ((zK k).bind fun v28 => some v28) (some false))) (some false))
theorem zDq (hs : zFf b) (hd : b.Days ≤ 9223372036854775807) (hk : Fuel k b) (hc : zK k = some true) (n : Nat → Int) : zVb k b n = some true := by
 apply Ok.eq
 have hk0 := hk.k0
 unfold zVb
 refine Ok.bind (zru hs hd hk) fun so hso => ?_
 cases so with
 | false =>
  rw [Bool.not_false, cond_true, hc]
  exact Ok.pure rfl
 | true =>
  have hf := hso.1 rfl
  have hns := hf.nshelves
  have hdays := hf.days
  have hnm := hf.nmoves
  have hnd := hf.ndeliveries
  have hnc := hf.ncounts
  have lims : ∀ m : Nat, m ≤ 1000 → decide (m ≤ LIM) = true := fun m h => decide_eq_true (by show m ≤ 1073741824; omega)
  have wd : w64 (b.Days - 1) = b.Days - 1 := znn hf
  rw [Bool.not_true, cond_false]
  refine Ok.bind (zsh (n := 6) (by omega) (by omega)) fun by_ hby => ?_
  obtain ⟨q, rfl, hq⟩ := hby
  refine Ok.bind (zsh (n := 5) (by omega) (by omega)) fun kind hkind => ?_
  obtain ⟨kd, rfl, hkd⟩ := hkind
  have fin : ∀ {x : zb}, zFf x → Fuel k x → Fine x → Wid b x → Ok (widL k b x n) (fun r => r = true) := by
   intro x hsx hkx hx hw
   unfold widL
   refine Ok.bind (zsh (by omega) (by omega)) fun s hsp => ?_
   obtain ⟨s, rfl, hsl⟩ := hsp
   refine Ok.bind (zEt hf (n 4)) fun d hdp => ?_
   obtain ⟨d, rfl, hdl⟩ := hdp
   exact zHu hs hd hk hf hsx hkx hx hw hc hsl hdl
  cases hk1 : ((kd : Int) == 0) with
  | true =>
   rw [cond_true]
   refine Ok.bind (zsh (by omega) (by omega)) fun i hi => ?_
   obtain ⟨i, rfl, hi⟩ := hi
   have hge := List.getElem?_eq_getElem hi
   have hfs := hf.shelves _ (List.getElem_mem hi)
   simp only [zQb hi, Option.bind_some, zFq, lims _ (show b.Shelves.1.length ≤ 1000 by omega), cond_true]
   obtain ⟨⟨f1, f2⟩, f3, f4, f5⟩ := hfs
   have w1 : w64 (b.Shelves.1[i].Begin.Low - (q : Int)) = b.Shelves.1[i].Begin.Low - q := zqb (by omega) (by omega)
   have w2 : w64 (b.Shelves.1[i].Begin.High + (q : Int)) = b.Shelves.1[i].Begin.High + q := zqb (by omega) (by omega)
   rw [w1, w2]
   have hset : ∀ (y : zt) (κ : Cap), zuh y → WidS b.Shelves.1[i] y → Ok (widL k b ⟨b.Days, (b.Shelves.1.set i y, κ), b.Moves, b.Deliveries, b.Counts⟩ n) (fun r => r = true) := fun y κ hy1 hy2 =>
    fin (x := ⟨b.Days, (b.Shelves.1.set i y, κ), b.Moves, b.Deliveries, b.Counts⟩) ⟨by show (b.Shelves.1.set i y).length < _; rw [List.length_set]; omega, hs.moves, hs.deliveries, hs.counts⟩ ⟨hk.k0, by show (b.Shelves.1.set i y).length < k; rw [List.length_set]; exact hk.shelves, hk.moves, hk.deliveries, hk.counts⟩
     ⟨hf.days, by show 1 ≤ (b.Shelves.1.set i y).length ∧ (b.Shelves.1.set i y).length ≤ _; rw [List.length_set]; exact hf.nshelves, hf.nmoves, hf.ndeliveries, hf.ncounts, fun z hz => by
      rcases List.mem_or_eq_of_mem_set hz with h | rfl
      ·exact hf.shelves z h
      ·exact hy1, fun m hm => by
      have := hf.moves m hm
      unfold z9h at this ⊢
      show _ ∧ (0 ≤ m.Shelf ∧ m.Shelf ≤ ((b.Shelves.1.set i y).length : Int) - 1) ∧ _
      rw [List.length_set]; exact this, fun m hm => by
      have := hf.deliveries m hm
      unfold zme at this ⊢
      show (0 ≤ m.Shelf ∧ m.Shelf ≤ ((b.Shelves.1.set i y).length : Int) - 1) ∧ _
      rw [List.length_set]; exact this, fun m hm => by
      have := hf.counts m hm
      unfold zvh at this ⊢
      show _ ∧ (0 ≤ m.Shelf ∧ m.Shelf ≤ ((b.Shelves.1.set i y).length : Int) - 1) ∧ _
      rw [List.length_set]; exact this⟩
     ⟨rfl, .set zZi hge hy2, .same zRi _, .same zLi _, .same z8i _⟩
   rw [Int.toNat_natCast]
   refine hset _ _ ⟨⟨f1, f2⟩, ?_⟩ ⟨rfl, ?_⟩
   ·unfold zVe; simp only; split <;> split <;> omega
   ·unfold SubS; simp only; split <;> split <;> omega
  | false =>
   rw [cond_false]
   have hJ2 : zWb k b n (q : Int) (kd : Int) = some ((kd : Int) == 1 && decide ((b.Moves.1.length : Int) > 0)) := by
    unfold zWb
    cases ((kd : Int) == 1) <;> rfl
   have hJ4 : zXb k b n (q : Int) (kd : Int) = some (decide ((kd : Int) < 4) && decide ((b.Deliveries.1.length : Int) > 0)) := by
    unfold zXb
    cases (decide ((kd : Int) < 4)) <;> rfl
   rw [hJ2, Option.bind_some]
   cases hk2 : ((kd : Int) == 1 && decide ((b.Moves.1.length : Int) > 0)) with
   | true =>
    rw [Bool.and_eq_true, decide_eq_true_eq] at hk2
    rw [cond_true]
    refine Ok.bind (zsh (by omega) (by omega)) fun i hi => ?_
    obtain ⟨i, rfl, hi⟩ := hi
    have hge := List.getElem?_eq_getElem hi
    have hfs := hf.moves _ (List.getElem_mem hi)
    simp only [zQb hi, Option.bind_some, zFq, lims _ (show b.Moves.1.length ≤ 1000 by omega), cond_true]
    obtain ⟨f1, f2, f3, f4, f5⟩ := hfs
    have w1 : w64 (b.Moves.1[i].By.Low - (q : Int)) = b.Moves.1[i].By.Low - q := zqb (by omega) (by omega)
    have w2 : w64 (b.Moves.1[i].By.High + (q : Int)) = b.Moves.1[i].By.High + q := zqb (by omega) (by omega)
    rw [w1, w2]
    have hset : ∀ (y : zq) (κ : Cap), z9h b y → WidM b.Moves.1[i] y → Ok (widL k b ⟨b.Days, b.Shelves, (b.Moves.1.set i y, κ), b.Deliveries, b.Counts⟩ n) (fun r => r = true) := fun y κ hy1 hy2 =>
     fin (x := ⟨b.Days, b.Shelves, (b.Moves.1.set i y, κ), b.Deliveries, b.Counts⟩) ⟨hs.shelves, by show (b.Moves.1.set i y).length < _; rw [List.length_set]; omega, hs.deliveries, hs.counts⟩ ⟨hk.k0, hk.shelves, by show (b.Moves.1.set i y).length < k; rw [List.length_set]; exact hk.moves, hk.deliveries, hk.counts⟩
      ⟨hf.days, hf.nshelves, by show (b.Moves.1.set i y).length ≤ _; rw [List.length_set]; exact hf.nmoves, hf.ndeliveries, hf.ncounts, hf.shelves, fun z hz => by
       rcases List.mem_or_eq_of_mem_set hz with h | rfl
       ·exact hf.moves z h
       ·exact hy1, hf.deliveries, hf.counts⟩
      ⟨rfl, .same zZi _, .set zRi hge hy2, .same zLi _, .same z8i _⟩
    rw [Int.toNat_natCast]
    refine hset _ _ ⟨f1, f2, ?_⟩ ⟨rfl, rfl, rfl, ?_⟩
    ·unfold zVe; simp only; split <;> split <;> omega
    ·unfold SubS; simp only; split <;> split <;> omega
   | false =>
    rw [cond_false, hJ4, Option.bind_some]
    cases hk3 : (decide ((kd : Int) < 4) && decide ((b.Deliveries.1.length : Int) > 0)) with
    | true =>
     rw [Bool.and_eq_true, decide_eq_true_eq, decide_eq_true_eq] at hk3
     rw [cond_true]
     refine Ok.bind (zsh (by omega) (by omega)) fun i hi => ?_
     obtain ⟨i, rfl, hi⟩ := hi
     have hge := List.getElem?_eq_getElem hi
     have hfs := hf.deliveries _ (List.getElem_mem hi)
     obtain ⟨f1, ⟨f2, f3, f4⟩, f5, f6, f7⟩ := hfs
     have w1 : w64 (b.Deliveries.1[i].By.Low - (q : Int)) = b.Deliveries.1[i].By.Low - q := zqb (by omega) (by omega)
     have w2 : w64 (b.Deliveries.1[i].By.High + (q : Int)) = b.Deliveries.1[i].By.High + q := zqb (by omega) (by omega)
     have w3 : w64 (b.Deliveries.1[i].Days.Low - (q : Int)) = b.Deliveries.1[i].Days.Low - q := zqb (by omega) (by omega)
     have w4 : w64 (b.Deliveries.1[i].Days.High + (q : Int)) = b.Deliveries.1[i].Days.High + q := zqb (by omega) (by omega)
     have hJ18 : Ok (zSb k b n (q : Int) (kd : Int) (i : Int) b.Deliveries.1[i] ((kd : Int) == 2)) (fun v => zme b ⟨b.Deliveries.1[i].Shelf, ⟨v.2.1, v.2.2.1⟩, ⟨v.2.2.2.1, v.2.2.2.2⟩⟩ ∧ WidD b.Deliveries.1[i] ⟨b.Deliveries.1[i].Shelf, ⟨v.2.1, v.2.2.1⟩, ⟨v.2.2.2.1, v.2.2.2.2⟩⟩) := by
      unfold zSb
      cases ((kd : Int) == 2) with
      | true =>
       rw [cond_true, zFq, w1, w2]
       refine Ok.pure ⟨⟨f1, ⟨f2, f3, f4⟩, ?_⟩, rfl, .refl _, ?_⟩
       ·unfold zVe; simp only; split <;> split <;> omega
       ·unfold SubS; simp only; split <;> split <;> omega
      | false =>
       rw [cond_false, zFq, w3, w4, wd]
       refine Ok.pure ⟨⟨f1, ?_, f5, f6, f7⟩, rfl, ?_, .refl _⟩
       ·unfold zVe; simp only; split <;> split <;> omega
       ·unfold SubS; simp only; split <;> split <;> omega
     simp only [zQb hi, Option.bind_some, lims _ (show b.Deliveries.1.length ≤ 1000 by omega), cond_true]
     refine Ok.bind hJ18 fun v hv => ?_
     have hset : ∀ (y : zn) (κ : Cap), zme b y → WidD b.Deliveries.1[i] y → Ok (widL k b ⟨b.Days, b.Shelves, b.Moves, (b.Deliveries.1.set i y, κ), b.Counts⟩ n) (fun r => r = true) := fun y κ hy1 hy2 =>
      fin (x := ⟨b.Days, b.Shelves, b.Moves, (b.Deliveries.1.set i y, κ), b.Counts⟩) ⟨hs.shelves, hs.moves, by show (b.Deliveries.1.set i y).length < _; rw [List.length_set]; omega, hs.counts⟩ ⟨hk.k0, hk.shelves, hk.moves, by show (b.Deliveries.1.set i y).length < k; rw [List.length_set]; exact hk.deliveries, hk.counts⟩
       ⟨hf.days, hf.nshelves, hf.nmoves, by show (b.Deliveries.1.set i y).length ≤ _; rw [List.length_set]; exact hf.ndeliveries, hf.ncounts, hf.shelves, hf.moves, fun z hz => by
        rcases List.mem_or_eq_of_mem_set hz with h | rfl
        ·exact hf.deliveries z h
        ·exact hy1, hf.counts⟩
       ⟨rfl, .same zZi _, .same zRi _, .set zLi hge hy2, .same z8i _⟩
     rw [Int.toNat_natCast]
     exact hset _ _ hv.1 hv.2
    | false =>
     rw [cond_false]
     cases hk4 : decide ((b.Counts.1.length : Int) > 0) with
     | true =>
      rw [decide_eq_true_eq] at hk4
      rw [cond_true]
      refine Ok.bind (zsh (by omega) (by omega)) fun i hi => ?_
      obtain ⟨i, rfl, hi⟩ := hi
      have hge := List.getElem?_eq_getElem hi
      have hfs := hf.counts _ (List.getElem_mem hi)
      obtain ⟨f1, f2, f3, f4, f5⟩ := hfs
      have w1 : w64 (b.Counts.1[i].Err + (q : Int)) = b.Counts.1[i].Err + q := zqb (by omega) (by omega)
      simp only [zQb hi, Option.bind_some, lims _ (show b.Counts.1.length ≤ 1000 by omega), cond_true]
      rw [w1]
      have hset : ∀ (y : zo) (κ : Cap), zvh b y → WidC b.Counts.1[i] y → Ok (widL k b ⟨b.Days, b.Shelves, b.Moves, b.Deliveries, (b.Counts.1.set i y, κ)⟩ n) (fun r => r = true) := fun y κ hy1 hy2 =>
       fin (x := ⟨b.Days, b.Shelves, b.Moves, b.Deliveries, (b.Counts.1.set i y, κ)⟩) ⟨hs.shelves, hs.moves, hs.deliveries, by show (b.Counts.1.set i y).length < _; rw [List.length_set]; omega⟩ ⟨hk.k0, hk.shelves, hk.moves, hk.deliveries, by show (b.Counts.1.set i y).length < k; rw [List.length_set]; exact hk.counts⟩
        ⟨hf.days, hf.nshelves, hf.nmoves, hf.ndeliveries, by show (b.Counts.1.set i y).length ≤ _; rw [List.length_set]; exact hf.ncounts, hf.shelves, hf.moves, hf.deliveries, fun z hz => by
         rcases List.mem_or_eq_of_mem_set hz with h | rfl
         ·exact hf.counts z h
         ·exact hy1⟩
        ⟨rfl, .same zZi _, .same zRi _, .same zLi _, .set z8i hge hy2⟩
      rw [Int.toNat_natCast]
      refine hset _ _ ⟨f1, f2, f3, ?_, ?_⟩ ⟨rfl, rfl, rfl, ?_⟩
      ·simp only; split <;> omega
      ·simp only; split <;> omega
      ·simp only; split <;> omega
     | false =>
      rw [cond_false]
      exact fin hs hk hf ⟨rfl, .same zZi _, .same zRi _, .same zLi _, .same z8i _⟩
end
end Go.AM
set_option linter.unusedVariables false
namespace Go.AM
open Go
def zUb (x : zm) : Prop := (-9223372036854775808 ≤ x.Low ∧ x.Low ≤ 9223372036854775807) ∧ (-9223372036854775808 ≤ x.High ∧ x.High ≤ 9223372036854775807) ∧ True
def zUe (x : zt) : Prop := zUb x.Begin ∧ (-9223372036854775808 ≤ x.Room ∧ x.Room ≤ 9223372036854775807) ∧ True
def zhf (x : zq) : Prop := (-9223372036854775808 ≤ x.Day ∧ x.Day ≤ 9223372036854775807) ∧ (-9223372036854775808 ≤ x.Shelf ∧ x.Shelf ≤ 9223372036854775807) ∧ True ∧ zUb x.By ∧ True
def zHd (x : zn) : Prop := (-9223372036854775808 ≤ x.Shelf ∧ x.Shelf ≤ 9223372036854775807) ∧ zUb x.Days ∧ zUb x.By ∧ True
def zOe (x : zo) : Prop := (-9223372036854775808 ≤ x.Day ∧ x.Day ≤ 9223372036854775807) ∧ (-9223372036854775808 ≤ x.Shelf ∧ x.Shelf ≤ 9223372036854775807) ∧ (-9223372036854775808 ≤ x.Read ∧ x.Read ≤ 9223372036854775807) ∧ (-9223372036854775808 ≤ x.Err ∧ x.Err ≤ 9223372036854775807) ∧ True
def z9c (x : zb) : Prop := (-9223372036854775808 ≤ x.Days ∧ x.Days ≤ 9223372036854775807) ∧ zAg (fun a => zUe a) x.Shelves ∧ zAg (fun a => zhf a) x.Moves ∧ zAg (fun a => zHd a) x.Deliveries ∧ zAg (fun a => zOe a) x.Counts ∧ True
end Go.AM
set_option maxRecDepth 1000000
namespace Go.AM
open Go
theorem zIr (k : Nat) : zK (k + 300) = some true := by kernel_rfl
end Go.AM
set_option linter.unusedVariables false
namespace Go.AM
open Go
theorem zrs {b : zb} (h : z9c b) : zFf b ∧ b.Days ≤ 9223372036854775807 := by
 obtain ⟨⟨_, h0⟩, h1, h2, h3, h4, _⟩ := h
 have e : maxLen = 9223372036854775807 := by decide
 have l1 := h1.2.2
 have l2 := h2.2.2
 have l3 := h3.2.2
 have l4 := h4.2.2
 rw [e] at l1 l2 l3 l4
 exact ⟨⟨by omega, by omega, by omega, by omega⟩, h0⟩
def z8s (b : zb) : Nat := 500000 + b.Shelves.1.length + b.Moves.1.length + b.Deliveries.1.length + b.Counts.1.length
theorem zqv (b : zb) : Fuel (z8s b + 300) b := by
 unfold z8s
 exact ⟨by omega, by omega, by omega, by omega, by omega⟩
end Go.AM
set_option linter.unusedVariables false
namespace Go.AM
open Go
theorem zbv (b : zb) (n : Nat → Int) (hb : z9c b) (hn : ∀ k, k < 5 → -9223372036854775808 ≤ n k ∧ n k ≤ 9223372036854775807) : ∃ k, zVb k b n = some true := by
 obtain ⟨hs, hd⟩ := zrs hb
 exact ⟨_, zDq hs hd (zqv b) (zIr _) n⟩
end Go.AM
