/- The statement ShelfTrue holds for every input that its row lets in. Conditions: none. -/
import Derived.Test.YtfoohlabifhplaaDoorE
set_option linter.all false
namespace Go.AM
open Go
def cat {α β : Type} (g : α → Nat → List β) (l : List α) : List β := l.zipIdx.flatMap fun p => g p.1 p.2
section
variable {α β : Type}
theorem zag (g : α → Nat → List β) {l : List α} {j : Nat} (h : j < l.length) : cat g (l.take (j + 1)) = cat g (l.take j) ++ g l[j] j := by
 rw [List.take_succ_eq_append_getElem h]
 unfold cat
 rw [List.zipIdx_append, List.flatMap_append]
 have hl : (l.take j).length = j := by rw [List.length_take]; omega
 simp [hl, Nat.min_eq_left (Nat.le_of_lt h)]
theorem z5p {l : List α} {p : α × Nat} (h : p ∈ l.zipIdx) : l[p.2]? = some p.1 := by
 have := List.mem_zipIdx h
 have h2 := this.2.2
 simp only [Nat.sub_zero, Nat.zero_add] at h2 this
 rw [h2]
 exact List.getElem?_eq_getElem this.2.1
theorem zdv {l : List α} {a : α} {i : Nat} (h : l[i]? = some a) : (a, i) ∈ l.zipIdx := by
 obtain ⟨hi, rfl⟩ := List.getElem?_eq_some_iff.1 h
 rw [List.mem_iff_getElem?]
 exact ⟨i, by simp [List.getElem?_zipIdx, hi]⟩
theorem zBs {g : α → Nat → List β} {l : List α} {b : β} : b ∈ cat g l ↔ ∃ i a, l[i]? = some a ∧ b ∈ g a i := by
 unfold cat
 rw [List.mem_flatMap]
 constructor
 ·rintro ⟨p, hp, hb⟩; exact ⟨p.2, p.1, z5p hp, hb⟩
 ·rintro ⟨i, a, ha, hb⟩; exact ⟨(a, i), zdv ha, hb⟩
theorem zbm {γ : Type} (g : α → Nat → List β) (f : β → γ) (l : List α) : (cat g l).map f = cat (fun a i => (g a i).map f) l := by
 unfold cat
 rw [List.map_flatMap]
theorem zQk {n : Nat} (h : n ≤ 1000000) : decide (n ≤ LIM) = true := decide_eq_true (by show _ ≤ 1073741824; omega)
end
end Go.AM
namespace Go.AM
open Go
section
variable {α β : Type}
theorem zwv {γ : Type} {g : α → Nat → List β} {g' : γ → Nat → List β} {l : List α} {l' : List γ} (hl : l.length = l'.length) (h : ∀ i a a', l[i]? = some a → l'[i]? = some a' → g a i = g' a' i) : cat g l = cat g' l' := by
 unfold cat
 rw [List.flatMap_def, List.flatMap_def]
 congr 1
 apply List.ext_getElem?
 intro i
 rw [List.getElem?_map, List.getElem?_map, List.getElem?_zipIdx, List.getElem?_zipIdx]
 cases h1 : l[i]? with
 | none =>
  have : l'[i]? = none := by
   rw [List.getElem?_eq_none_iff] at h1 ⊢
   omega
  rw [this]; rfl
 | some a =>
  have hi := (List.getElem?_eq_some_iff.1 h1).1
  have h2 := List.getElem?_eq_getElem (show i < l'.length by omega)
  rw [h2]
  simp only [Option.map_some, Nat.zero_add]
  rw [h i a _ h1 h2]
theorem zUz (g : α → Nat → List β) : ∀ (l : List α) (n i : Nat) (b : β), n = l.length → (cat g l)[i]? = some b → ∃ j a, l[j]? = some a ∧ (cat g (l.take j)).length ≤ i ∧ (g a j)[i - (cat g (l.take j)).length]? = some b := by
 intro l n
 have key : ∀ n, n ≤ l.length → ∀ i b, (cat g (l.take n))[i]? = some b → ∃ j a, l[j]? = some a ∧ (cat g (l.take j)).length ≤ i ∧ (g a j)[i - (cat g (l.take j)).length]? = some b := by
  intro n
  induction n with
  | zero => intro _ i b h; simp [cat] at h
  | succ n ih =>
   intro hn i b h
   rw [zag g (by omega)] at h
   by_cases hi : i < (cat g (l.take n)).length
   ·rw [List.getElem?_append_left hi] at h
    exact ih (by omega) i b h
   ·rw [List.getElem?_append_right (by omega)] at h
    exact ⟨n, l[n], List.getElem?_eq_getElem (by omega), by omega, h⟩
 intro i b _ h
 refine key l.length (Nat.le_refl _) i b ?_
 rwa [List.take_length]
theorem zOy (g : α → Nat → List β) {l : List α} {j : Nat} {a : α} (h : l[j]? = some a) {t : Nat} {b : β} (hb : (g a j)[t]? = some b) : (cat g l)[(cat g (l.take j)).length + t]? = some b := by
 have key : ∀ n, j < n → n ≤ l.length → (cat g (l.take n))[(cat g (l.take j)).length + t]? = some b := by
  intro n
  induction n with
  | zero => intro h0; omega
  | succ n ih =>
   intro hj hn
   rw [zag g (by omega)]
   by_cases e : n = j
   ·subst e
    rw [List.getElem?_append_right (by omega)]
    have : l[n] = a := by
     have h2 := List.getElem?_eq_getElem (show n < l.length by omega)
     rw [h] at h2; exact (Option.some.inj h2).symm
    rw [this]
    have e2 : (cat g (l.take n)).length + t - (cat g (l.take n)).length = t := by omega
    rw [e2]; exact hb
   ·have h2 := ih (by omega) (by omega)
    rw [List.getElem?_append_left (List.getElem?_eq_some_iff.1 h2).1]
    exact h2
 have h2 := key l.length (List.getElem?_eq_some_iff.1 h).1 (Nat.le_refl _)
 rwa [List.take_length] at h2
theorem zAu : ∀ {l l' : List Int}, l.Pairwise (· < ·) → l'.Pairwise (· < ·) → (∀ x, x ∈ l ↔ x ∈ l') → l = l'
 | [], [], _, _, _ => rfl
 | [], b :: t, _, _, h => by have := (h b).2 (.head _); cases this
 | a :: t, [], _, _, h => by have := (h a).1 (.head _); cases this
 | a :: t, b :: t', h1, h2, h => by
  obtain ⟨h3, h4⟩ := List.pairwise_cons.1 h1
  obtain ⟨h5, h6⟩ := List.pairwise_cons.1 h2
  have hab : a = b := by
   have ha := (h a).1 (.head _)
   have hb := (h b).2 (.head _)
   cases ha with
   | head => rfl
   | tail _ ha =>
    cases hb with
    | head => rfl
    | tail _ hb =>
     have := h5 a ha
     have := h3 b hb
     omega
  subst hab
  rw [zAu h4 h6 fun x => ?_]
  have hx := h x
  constructor
  ·intro hm
   have := h3 x hm
   cases hx.1 (.tail _ hm) with
   | head => omega
   | tail _ h => exact h
  ·intro hm
   have := h5 x hm
   cases hx.2 (.tail _ hm) with
   | head => omega
   | tail _ h => exact h
theorem zzv {l : List Int} {n : Int} (h : l.Pairwise (· < ·)) (hl : ∀ x ∈ l, x < n) : (l ++ [n]).Pairwise (· < ·) := by
 rw [List.pairwise_append]
 refine ⟨h, List.pairwise_singleton _ _, fun a ha b hb => ?_⟩
 rw [List.mem_singleton.1 hb]
 exact hl a ha
theorem zqA {x y : Nat} (hx : x < 2 ^ 63) (hy : y < 2 ^ 63) : or64 (x : Int) (y : Int) = ((x ||| y : Nat) : Int) := by
 unfold or64
 have hb : (BitVec.ofInt 64 (x : Int) ||| BitVec.ofInt 64 (y : Int)).toNat = x ||| y := by
  rw [BitVec.toNat_or, BitVec.ofInt_natCast, BitVec.ofInt_natCast, BitVec.toNat_ofNat, BitVec.toNat_ofNat, Nat.mod_eq_of_lt (by omega), Nat.mod_eq_of_lt (by omega)]
 have h2 : x ||| y < 2 ^ 63 := Nat.or_lt_two_pow hx hy
 rw [hb, z7 (by omega) (by omega)]
theorem zup {α : Type} {l : List α} {i : Nat} (h : i < l.length) : ∃ a, l[i]? = some a ∧ a ∈ l := ⟨l[i], List.getElem?_eq_getElem h, List.getElem_mem h⟩
end
end Go.AM
set_option linter.unusedVariables false
namespace Go.AM
open Go
def zDy (b : za) (s : Int) (j : Nat) (w : List Int) : Prop := w.length = j ∧ ∀ i d, i < j → b.Deliveries.1[i]? = some d → ∃ c, w[i]? = some c ∧ d.Days.Low ≤ c ∧ c ≤ (if d.Shelf = s then d.Days.High else d.Days.Low)
end Go.AM
set_option linter.unusedVariables false
namespace Go.AM
open Go
def comm (s t : zr) : zr := ⟨if t.Low > s.Low then t.Low else s.Low, if t.High < s.High then t.High else s.High⟩
theorem zdw (k : Nat) (a b : Int) : zcb k a b = some ⟨a, b⟩ := rfl
theorem zCw (k : Nat) (s : zr) (n : Int) : zWd k s n = some (decide (s.Low ≤ n) && decide (n ≤ s.High)) := by
 simp only [zWd, zak, Option.bind_some]
def InS (s : zr) (n : Int) : Prop := s.Low ≤ n ∧ n ≤ s.High
theorem z2y (s t : zr) (n : Int) : InS (comm s t) n ↔ InS s n ∧ InS t n := by
 unfold InS comm
 simp only
 split <;> split <;> omega
def zLg (x : zd) (d : Int) (s : zr) (p : zo × Nat) : zr :=
 if p.1.Shelf = x.shelf ∧ p.1.Day = d ∧ x.left.toNat.testBit p.2 = false then comm s ⟨p.1.Read - p.1.Err, p.1.Read + p.1.Err⟩ else s
def cntS (x : zd) (d : Int) : zr := x.ShelfBook.Counts.1.zipIdx.foldl (zLg x d) ⟨0, (zC x).Room⟩
theorem zbr (x : zd) (d n : Int) : ∀ (l : List (zo × Nat)) (s : zr), InS (l.foldl (zLg x d) s) n ↔ InS s n ∧ ∀ p ∈ l, p.1.Shelf = x.shelf → p.1.Day = d → x.left.toNat.testBit p.2 = false → p.1.Read - p.1.Err ≤ n ∧ n ≤ p.1.Read + p.1.Err
 | [], s => by simp
 | p :: t, s => by
  rw [List.foldl_cons, zbr x d n t]
  have : InS (zLg x d s p) n ↔ InS s n ∧ (p.1.Shelf = x.shelf → p.1.Day = d → x.left.toNat.testBit p.2 = false → p.1.Read - p.1.Err ≤ n ∧ n ≤ p.1.Read + p.1.Err) := by
   unfold zLg
   by_cases h : p.1.Shelf = x.shelf ∧ p.1.Day = d ∧ x.left.toNat.testBit p.2 = false
   ·rw [if_pos h, z2y]
    obtain ⟨h1, h2, h3⟩ := h
    simp [h1, h2, h3, InS]
   ·rw [if_neg h]
    constructor
    ·intro h1; exact ⟨h1, fun h2 h3 h4 => absurd ⟨h2, h3, h4⟩ h⟩
    ·exact fun h1 => h1.1
  rw [this]
  constructor
  ·rintro ⟨⟨h1, h2⟩, h3⟩
   refine ⟨h1, fun q hq => ?_⟩
   cases hq with
   | head => exact h2
   | tail _ h => exact h3 q h
  ·rintro ⟨h1, h2⟩
   exact ⟨⟨h1, h2 p (.head _)⟩, fun q hq => h2 q (.tail _ hq)⟩
theorem zIs {x : zd} (d : Int) (n : Nat) : InS (cntS x d) n ↔ (n : Int) ≤ (zC x).Room ∧ zgf x d n := by
 unfold cntS
 rw [zbr]
 unfold zgf z6g InS
 simp only
 constructor
 ·rintro ⟨⟨_, h1⟩, h2⟩
  exact ⟨h1, fun i c hc h3 h4 h5 => h2 (c, i) (zdv hc) h4 h3 h5⟩
 ·rintro ⟨h1, h2⟩
  exact ⟨⟨by omega, h1⟩, fun p hp h3 h4 h5 => h2 p.2 p.1 (z5p hp) h4 h3 h5⟩
def zbo (s : zr) : Prop := -100 ≤ s.Low ∧ s.Low ≤ 100 ∧ -100 ≤ s.High ∧ s.High ≤ 100
theorem zpu (x : zd) (d : Int) : ∀ (l : List (zo × Nat)) (s : zr), zbo s → (∀ p ∈ l, (0 ≤ p.1.Read ∧ p.1.Read ≤ 60) ∧ (0 ≤ p.1.Err ∧ p.1.Err ≤ 20)) → zbo (l.foldl (zLg x d) s) ∧ s.Low ≤ (l.foldl (zLg x d) s).Low
 | [], s, hs, _ => ⟨hs, Int.le_refl _⟩
 | p :: t, s, hs, hl => by
  have h1 := hl p (.head _)
  have h2 : zbo (zLg x d s p) ∧ s.Low ≤ (zLg x d s p).Low := by
   unfold zLg zbo at *
   split
   ·unfold comm; simp only; split <;> split <;> omega
   ·exact ⟨hs, Int.le_refl _⟩
  have h3 := zpu x d t _ h2.1 fun q hq => hl q (.tail _ hq)
  exact ⟨h3.1, Int.le_trans h2.2 h3.2⟩
theorem zKy {x : zd} (hx : On x) (d : Int) : zbo (cntS x d) ∧ 0 ≤ (cntS x d).Low := by
 refine zpu x d _ _ ?_ fun p hp => ?_
 ·have := hx.shelf.1; unfold zbo; simp only; omega
 ·have := z5p hp
  have := hx.fine.counts _ (List.mem_of_getElem? this)
  exact this.2.2
structure z5n where
 by_ : zr
 within : zr
 move : Int
 day : Int
abbrev Ev := z5n
def evDg (x : zd) (w : List Int) (d : Int) (D : zu) (i : Nat) : List Ev := if D.Shelf = x.shelf ∧ w[i]? = some d then [⟨D.By, ⟨0, (zC x).Room⟩, -1, -1⟩] else []
def evMg (x : zd) (d : Int) (m : zx) (i : Nat) : List Ev := if m.Shelf = x.shelf ∧ m.Day = d then [⟨if m.Back = true then m.By else ⟨-m.By.High, -m.By.Low⟩, ⟨0, (zC x).Room⟩, i, -1⟩] else []
def evC (x : zd) (d : Int) : Ev := ⟨⟨0, 0⟩, cntS x d, -1, d⟩
def z8c (x : zd) (w : List Int) (d : Int) : List Ev := cat (evDg x w d) x.ShelfBook.Deliveries.1 ++ cat (evMg x d) x.ShelfBook.Moves.1 ++ [evC x d]
def evsL (x : zd) (w : List Int) (N : Nat) : List Ev := (List.range N).flatMap fun d : Nat => z8c x w d
theorem zAc (x : zd) (w : List Int) (N : Nat) : evsL x w (N + 1) = evsL x w N ++ z8c x w N := by
 unfold evsL
 rw [List.range_succ, List.flatMap_append]
 simp
end Go.AM
set_option linter.unusedVariables false
namespace Go.AM
open Go
def zZp (e : Ev) (m n : Int) : Prop := InS e.by_ (n - m) ∧ InS e.within n
def zwg (l : List Ev) (v : Nat → Int) : Prop := ∀ i e, l[i]? = some e → zZp e (v i) (v (i + 1))
def zfe (s : zr) (l : List Ev) (v : Nat → Int) : Prop := InS s (v 0) ∧ zwg l v
section
variable {s : zr} {l : List Ev}
end
end Go.AM
set_option linter.unusedVariables false
namespace Go.AM
open Go
def Nd (x : zd) : Nat := x.ShelfBook.Days.toNat
def Way (x : zd) (w : List Int) : Prop := zDy x.ShelfBook x.shelf x.ShelfBook.Deliveries.1.length w
def zIh (x : zd) (w : List Int) (v : Nat → Int) : Prop := zfe (zC x).Begin (evsL x w (Nd x)) v
def RCan (x : zd) : Prop := ∃ w v, Way x w ∧ zIh x w v
def zZs (b : za) (left : Int) : Prop := ∀ s : Nat, s < b.Shelves.1.length → RCan ⟨b, (s : Int), left⟩
end Go.AM
set_option linter.unusedVariables false
namespace Go.AM
open Go
theorem z7o (x : zd) (w : List Int) (d : Nat) : ∀ n, ∃ l, evsL x w (d + n) = evsL x w d ++ l
 | 0 => ⟨[], by simp⟩
 | n + 1 => by
  obtain ⟨l, h⟩ := z7o x w d n
  exact ⟨l ++ z8c x w ((d + n : Nat) : Int), by rw [← Nat.add_assoc, zAc, h, List.append_assoc]⟩
theorem zio (x : zd) (w : List Int) {d N : Nat} (h : d ≤ N) : (evsL x w d).length ≤ (evsL x w N).length := by
 obtain ⟨l, hl⟩ := z7o x w d (N - d)
 have : d + (N - d) = N := by omega
 rw [this] at hl
 rw [hl, List.length_append]
 omega
def ztz (x : zd) (d : Nat) (n : Int) : Prop := ∃ w v, Way x w ∧ zIh x w v ∧ v (evsL x w (d + 1)).length = n
def Ends (P : Int → Prop) (s : zr) : Prop := P s.Low ∧ P s.High ∧ ∀ n, P n → InS s n
theorem Ends.eq {P : Int → Prop} {s t : zr} (hs : Ends P s) (ht : Ends P t) : s = t := by
 have h1 := hs.2.2 _ ht.1
 have h2 := hs.2.2 _ ht.2.1
 have h3 := ht.2.2 _ hs.1
 have h4 := ht.2.2 _ hs.2.1
 unfold InS at *
 cases s; cases t
 simp only at *
 congr 1 <;> omega
end Go.AM
set_option linter.unusedVariables false
namespace Go.AM
open Go
theorem zRs {α β : Type} {g g' : α → Nat → List β} : ∀ (l : List (α × Nat)), (∀ p ∈ l, g p.1 p.2 = g' p.1 p.2) → (l.flatMap fun p => g p.1 p.2) = l.flatMap fun p => g' p.1 p.2
 | [], _ => rfl
 | p :: t, h => by
  rw [List.flatMap_cons, List.flatMap_cons, h p (.head _), zRs t fun q hq => h q (.tail _ hq)]
theorem z6m {α β : Type} {g g' : α → Nat → List β} {l : List α} (h : ∀ i a, l[i]? = some a → g a i = g' a i) : cat g l = cat g' l := by
 unfold cat
 exact zRs _ fun p hp => h p.2 p.1 (z5p hp)
theorem zhx (C : Nat) (ds : List zu) : zte ds C = cat (fun D i => if C.testBit i = true then [(⟨1, D.By⟩ : zD)] else []) ds := by
 have : ∀ j, j ≤ ds.length → zte (ds.take j) C = cat (fun D i => if C.testBit i = true then [(⟨1, D.By⟩ : zD)] else []) (ds.take j) := by
  intro j
  induction j with
  | zero => intro _; rfl
  | succ j ih =>
   intro hj
   rw [zZo C (by omega), zag _ (by omega), ih (by omega)]
 have h := this ds.length (Nat.le_refl _)
 rwa [List.take_length] at h
theorem z3w (x : zd) (day : Int) (ms : List zx) : zjh x day ms = cat (fun m _ => if (m.Day == day && m.Shelf == x.shelf) = true then [(⟨if m.Back then 1 else 0, m.By⟩ : zD)] else []) ms := by
 have : ∀ j, j ≤ ms.length → zjh x day (ms.take j) = cat (fun m _ => if (m.Day == day && m.Shelf == x.shelf) = true then [(⟨if m.Back then 1 else 0, m.By⟩ : zD)] else []) (ms.take j) := by
  intro j
  induction j with
  | zero => intro _; rfl
  | succ j ih =>
   intro hj
   rw [zIr x day (by omega), zag _ (by omega), ih (by omega)]
 have h := this ms.length (Nat.le_refl _)
 rwa [List.take_length] at h
def zAo (e : Ev) : zr × zr := (e.by_, e.within)
def evW (x : zd) (w : zD) : zr × zr := (if w.way = 0 then ⟨-w.by_.High, -w.by_.Low⟩ else w.by_, ⟨0, (zC x).Room⟩)
def zDt (x : zd) (w : List Int) (d : Int) (C : Nat) : Prop := ∀ i D, x.ShelfBook.Deliveries.1[i]? = some D → (C.testBit i = true ↔ D.Shelf = x.shelf ∧ w[i]? = some d)
theorem zYy {x : zd} {w : List Int} {d : Int} {C : Nat} (h : zDt x w d C) : (cat (evDg x w d) x.ShelfBook.Deliveries.1 ++ cat (evMg x d) x.ShelfBook.Moves.1).map zAo = (zKh x d C).map (evW x) := by
 unfold zKh
 rw [zhx, z3w, List.map_append, List.map_append, zbm, zbm, zbm, zbm]
 congr 1
 ·refine z6m fun i D hD => ?_
  unfold evDg
  have h1 := h i D hD
  by_cases hc : C.testBit i = true
  ·rw [if_pos hc, if_pos (h1.1 hc)]
   simp [zAo, evW]
  ·rw [if_neg hc, if_neg fun h2 => hc (h1.2 h2)]
   rfl
 ·refine z6m fun i m hm => ?_
  unfold evMg
  by_cases hc : m.Shelf = x.shelf ∧ m.Day = d
  ·have : (m.Day == d && m.Shelf == x.shelf) = true := by simp [hc]
   rw [if_pos hc, if_pos this]
   cases m.Back <;> simp [zAo, evW]
  ·have : ¬ (m.Day == d && m.Shelf == x.shelf) = true := by
    simp only [Bool.and_eq_true, beq_iff_eq]
    exact fun h2 => hc ⟨h2.2, h2.1⟩
   rw [if_neg hc, if_neg this]
   rfl
theorem zos {e : Ev} {l : List Ev} {u : Nat → Int} : zwg (e :: l) u ↔ zZp e (u 0) (u 1) ∧ zwg l fun i => u (i + 1) := by
 constructor
 ·intro h
  exact ⟨h 0 e rfl, fun i e' he => h (i + 1) e' he⟩
 ·rintro ⟨h1, h2⟩ i e' he
  cases i with
  | zero => cases he; exact h1
  | succ i => exact h2 i e' he
theorem zKd {l l' : List Ev} {u : Nat → Int} : zwg (l ++ l') u ↔ zwg l u ∧ zwg l' fun i => u (l.length + i) := by
 constructor
 ·intro h
  refine ⟨fun i e he => h i e ?_, fun i e he => ?_⟩
  ·rw [List.getElem?_append_left (List.getElem?_eq_some_iff.1 he).1]; exact he
  ·have := h (l.length + i) e (by rw [List.getElem?_append_right (by omega)]; simpa using he)
   exact this
 ·rintro ⟨h1, h2⟩ i e he
  by_cases hi : i < l.length
  ·rw [List.getElem?_append_left hi] at he
   exact h1 i e he
  ·rw [List.getElem?_append_right (by omega)] at he
   have := h2 (i - l.length) e he
   have e1 : l.length + (i - l.length) = i := by omega
   have e2 : l.length + (i - l.length + 1) = i + 1 := by omega
   simp only [e1, e2] at this
   exact this
theorem zgx {l : List Ev} {f : Ev → Ev} {V : Nat → Int} : zwg (l.map f) V ↔ ∀ i e, l[i]? = some e → zZp (f e) (V i) (V (i + 1)) := by
 unfold zwg
 constructor
 ·intro h i e he
  exact h i (f e) (by rw [List.getElem?_map, he]; rfl)
 ·intro h i e he
  rw [List.getElem?_map] at he
  cases h1 : l[i]? with
  | none => rw [h1] at he; cases he
  | some e' => rw [h1] at he; cases he; exact h i e' h1
theorem zTr {x : zd} {w : zD} {e : Ev} (hk : zAo e = evW x w) (m : Nat) (q : Int) : zZp e m q ↔ ∃ p : Nat, (p : Int) = q ∧ (p : Int) ≤ (zC x).Room ∧ Step w.way w.by_ m p := by
 unfold zAo evW at hk
 have h1 : e.by_ = _ := congrArg Prod.fst hk
 have h2 : e.within = _ := congrArg Prod.snd hk
 unfold zZp InS Step
 rw [h1, h2]
 simp only
 by_cases hw : w.way = 0
 ·simp only [hw, if_true]
  constructor
  ·rintro ⟨⟨a, b⟩, c, d⟩
   exact ⟨q.toNat, by omega, by omega, m - q, by omega, by omega, by omega⟩
  ·rintro ⟨p, rfl, a, t, b, c, d⟩
   omega
 ·simp only [hw, if_false]
  constructor
  ·rintro ⟨⟨a, b⟩, c, d⟩
   exact ⟨q.toNat, by omega, by omega, q - m, by omega, by omega, by omega⟩
  ·rintro ⟨p, rfl, a, t, b, c, d⟩
   omega
theorem zGp {x : zd} : ∀ (ws : List zD) (L : List Ev), L.map zAo = ws.map (evW x) → ∀ m n : Nat, Run x ws m n ↔ ∃ u : Nat → Int, zwg L u ∧ u 0 = m ∧ u L.length = n
 | [], L, h, m, n => by
  obtain rfl : L = [] := List.map_eq_nil_iff.1 h
  show m = n ↔ _
  constructor
  ·rintro rfl
   exact ⟨fun _ => m, fun i e he => by simp at he, rfl, rfl⟩
  ·rintro ⟨u, _, h1, h2⟩
   have h3 : u 0 = n := h2
   omega
 | w :: t, [], h, m, n => by simp at h
 | w :: t, e :: L, h, m, n => by
  rw [List.map_cons, List.map_cons] at h
  have hk : zAo e = evW x w := (List.cons.inj h).1
  have ht := (List.cons.inj h).2
  constructor
  ·rintro ⟨q, h1, h2, h3⟩
   obtain ⟨u, h4, h5, h6⟩ := (zGp t L ht q n).1 h3
   refine ⟨fun i => match i with | 0 => (m : Int) | i + 1 => u i, zos.2 ⟨?_, h4⟩, rfl, h6⟩
   show zZp e (m : Int) (u 0)
   exact (zTr hk m _).2 ⟨q, h5.symm, h1, h2⟩
  ·rintro ⟨u, h4, h5, h6⟩
   obtain ⟨h7, h8⟩ := zos.1 h4
   rw [h5] at h7
   obtain ⟨q, h9, h10, h11⟩ := (zTr hk m _).1 h7
   exact ⟨q, h10, h11, (zGp t L ht q n).2 ⟨_, h8, h9.symm, h6⟩⟩
theorem z0s {x : zd} {w : List Int} {d : Int} {C : Nat} (h : zDt x w d C) {m n : Nat} (hm : (m : Int) ≤ (zC x).Room) :
  (Run x (zKh x d C) m n ∧ zgf x d n) ↔ ∃ u : Nat → Int, zwg (z8c x w d) u ∧ u 0 = m ∧ u (z8c x w d).length = n := by
 have hrs := zGp (zKh x d C) _ (zYy h) m n
 constructor
 ·rintro ⟨h1, h2⟩
  obtain ⟨u, h3, h4, h5⟩ := hrs.1 h1
  refine ⟨fun i => if i ≤ (cat (evDg x w d) x.ShelfBook.Deliveries.1 ++ cat (evMg x d) x.ShelfBook.Moves.1).length then u i else n, ?_, by simpa using h4, ?_⟩
  ·unfold z8c
   refine zKd.2 ⟨fun i e he => ?_, fun i e he => ?_⟩
   ·have hi := (List.getElem?_eq_some_iff.1 he).1
    have a1 : i ≤ (cat (evDg x w d) x.ShelfBook.Deliveries.1 ++ cat (evMg x d) x.ShelfBook.Moves.1).length := by omega
    have a2 : i + 1 ≤ (cat (evDg x w d) x.ShelfBook.Deliveries.1 ++ cat (evMg x d) x.ShelfBook.Moves.1).length := by omega
    simp only [a1, a2, if_true]
    exact h3 i e he
   ·cases i with
    | zero =>
     cases he
     have a2 : ¬ (cat (evDg x w d) x.ShelfBook.Deliveries.1 ++ cat (evMg x d) x.ShelfBook.Moves.1).length + 1 ≤ (cat (evDg x w d) x.ShelfBook.Deliveries.1 ++ cat (evMg x d) x.ShelfBook.Moves.1).length := by omega
     simp only [Nat.add_zero, Nat.zero_add, Nat.le_refl, if_true, a2, if_false]
     rw [h5]
     refine ⟨?_, (zIs d n).2 ⟨z6o _ m n h1 hm, h2⟩⟩
     show InS (⟨0, 0⟩ : zr) _
     unfold InS; simp
    | succ i => cases he
  ·unfold z8c
   generalize cat (evDg x w d) x.ShelfBook.Deliveries.1 ++ cat (evMg x d) x.ShelfBook.Moves.1 = A
   show (if (A ++ [evC x d]).length ≤ A.length then u (A ++ [evC x d]).length else (n : Int)) = n
   rw [if_neg (by simp)]
 ·rintro ⟨u, h3, h4, h5⟩
  unfold z8c at h3 h5
  obtain ⟨h6, h7⟩ := zKd.1 h3
  have h8 := h7 0 (evC x d) rfl
  rw [List.length_append, List.length_singleton] at h5
  simp only [Nat.add_zero, Nat.zero_add] at h8
  rw [h5] at h8
  obtain ⟨h9, h10⟩ := h8
  have h11 : InS (⟨0, 0⟩ : zr) _ := h9
  unfold InS at h11
  simp only at h11
  exact ⟨hrs.2 ⟨u, h6, h4, by omega⟩, ((zIs d n).1 h10).2⟩
theorem zkv (p : Nat → Bool) : ∀ n, ∃ C, C < 2 ^ n ∧ ∀ i, C.testBit i = (decide (i < n) && p i)
 | 0 => ⟨0, by simp, fun i => by simp⟩
 | n + 1 => by
  obtain ⟨C, h1, h2⟩ := zkv p n
  have hp : (2 : Nat) ^ (n + 1) = 2 ^ n + 2 ^ n := by rw [Nat.pow_succ]; omega
  cases hpn : p n with
  | false =>
   refine ⟨C, by omega, fun i => ?_⟩
   rw [h2 i]
   by_cases e : i = n
   ·subst e; simp [hpn]
   ·have : decide (i < n + 1) = decide (i < n) := by
     by_cases h3 : i < n
     ·simp [h3]; omega
     ·simp [h3]; omega
    rw [this]
  | true =>
   refine ⟨2 ^ n + C, by omega, fun i => ?_⟩
   by_cases e : i = n
   ·subst e
    rw [Nat.testBit_two_pow_add_eq, h2 i]
    simp [hpn]
   ·by_cases h3 : i < n
    ·rw [Nat.testBit_two_pow_add_gt h3, h2 i]
     have : i < n + 1 := by omega
     simp [h3, this]
    ·rw [Nat.testBit_lt_two_pow (Nat.lt_of_lt_of_le (show 2 ^ n + C < 2 ^ (n + 1) by omega) (Nat.pow_le_pow_right (by omega) (by omega)))]
     have : ¬ i < n + 1 := by omega
     simp [this]
theorem zww {C : Nat} (h : ∀ i, C.testBit i = false) : C = 0 := Nat.eq_of_testBit_eq fun i => by rw [h i]; simp
theorem zav {x y : Nat} (hx : x < 2 ^ 63) (hy : y < 2 ^ 63) (i : Nat) : (dif x y).testBit i = (x.testBit i && !y.testBit i) := (zIp hx hy).2.2.2 i
end Go.AM
set_option linter.unusedVariables false
namespace Go.AM
open Go
theorem z1r {l : List Ev} {u u' : Nat → Int} (h : ∀ i, i ≤ l.length → u i = u' i) (hu : zwg l u) : zwg l u' := by
 intro i e he
 have hi := (List.getElem?_eq_some_iff.1 he).1
 rw [← h i (by omega), ← h (i + 1) (by omega)]
 exact hu i e he
theorem zPz (x : zd) (w : List Int) (e : Nat) : ∃ C, C < nset x ∧ ∀ i, C.testBit i = true ↔ ∃ D c, x.ShelfBook.Deliveries.1[i]? = some D ∧ D.Shelf = x.shelf ∧ w[i]? = some c ∧ c < (e : Int) := by
 obtain ⟨C, h1, h2⟩ := zkv (fun i => match x.ShelfBook.Deliveries.1[i]?, w[i]? with
  | some D, some c => decide (D.Shelf = x.shelf) && decide (c < (e : Int))
  | _, _ => false) x.ShelfBook.Deliveries.1.length
 refine ⟨C, h1, fun i => ?_⟩
 rw [h2 i, Bool.and_eq_true, decide_eq_true_eq]
 constructor
 ·rintro ⟨h3, h4⟩
  obtain ⟨D, hD, _⟩ := zup h3
  rw [hD] at h4
  cases hw : w[i]? with
  | none => rw [hw] at h4; cases h4
  | some c =>
   rw [hw] at h4
   simp only [Bool.and_eq_true, decide_eq_true_eq] at h4
   exact ⟨D, c, hD, h4.1, rfl, h4.2⟩
 ·rintro ⟨D, c, h3, h4, h5, h6⟩
  refine ⟨(List.getElem?_eq_some_iff.1 h3).1, ?_⟩
  rw [h3, h5]
  simp [h4, h6]
theorem zCp {x : zd} {w : List Int} (hw : Way x w) {i : Nat} {D : zu} (hD : x.ShelfBook.Deliveries.1[i]? = some D) : ∃ c, w[i]? = some c ∧ D.Days.Low ≤ c ∧ c ≤ (if D.Shelf = x.shelf then D.Days.High else D.Days.Low) :=
 hw.2 i D (List.getElem?_eq_some_iff.1 hD).1 hD
theorem zso {x : zd} (hx : On x) {w : List Int} {V : Nat → Int} (h : zIh x w V) : ∀ i, i ≤ (evsL x w (Nd x)).length → 0 ≤ V i ∧ V i ≤ (zC x).Room
 | 0, _ => by
  obtain ⟨_, h1, h2, h3⟩ := hx.shelf
  have h0 := h.1
  unfold InS at h0
  omega
 | i + 1, hi => by
  obtain ⟨e, he, hm⟩ := zup (show i < (evsL x w (Nd x)).length by omega)
  have h1 := (h.2 i e he).2
  have h2 : 0 ≤ e.within.Low ∧ e.within.High ≤ (zC x).Room := by
   unfold evsL at hm
   obtain ⟨d, _, hm⟩ := List.mem_flatMap.1 hm
   unfold z8c at hm
   rw [List.mem_append, List.mem_append] at hm
   rcases hm with (hm | hm) | hm
   ·obtain ⟨i, D, hD, he⟩ := zBs.1 hm
    unfold evDg at he
    split at he
    ·obtain rfl := List.mem_singleton.1 he
     exact ⟨Int.le_refl _, Int.le_refl _⟩
    ·cases he
   ·obtain ⟨i, D, hD, he⟩ := zBs.1 hm
    unfold evMg at he
    split at he
    ·obtain rfl := List.mem_singleton.1 he
     exact ⟨Int.le_refl _, Int.le_refl _⟩
    ·cases he
   ·obtain rfl := List.mem_singleton.1 hm
    refine ⟨(zKy hx d).2, ?_⟩
    have := (zbr x d (cntS x d).High x.ShelfBook.Counts.1.zipIdx ⟨0, (zC x).Room⟩)
    have hhi : ∀ (l : List (zo × Nat)) (s : zr), (l.foldl (zLg x d) s).High ≤ s.High := by
     intro l
     induction l with
     | nil => intro s; exact Int.le_refl _
     | cons p t ih =>
      intro s
      refine Int.le_trans (ih _) ?_
      unfold zLg comm
      split
      ·simp only
       by_cases h : p.1.Read + p.1.Err < s.High <;> simp only [h, if_true, if_false] <;> omega
      ·exact Int.le_refl _
    exact hhi _ _
  unfold InS at h1
  omega
theorem ztr {x : zd} (hx : On x) {w : List Int} {V : Nat → Int} (hw : Way x w) (h : zIh x w V) : ∃ Cs v, zFi x (Nd x) Cs v ∧ ∀ d, d ≤ Nd x → (v d : Int) = V (evsL x w d).length := by
 have hd := hx.fine.days
 have h8 := zai hx
 have hset := zPz x w
 refine ⟨fun e => (hset e).choose, fun d => (V (evsL x w d).length).toNat, ⟨?_, ?_, fun e he => ⟨?_, ?_, ?_⟩⟩, fun d hd => ?_⟩
 ·refine zww fun i => ?_
  have h1 := (hset 0).choose_spec.2 i
  cases hb : (hset 0).choose.testBit i with
  | false => rfl
  | true =>
   obtain ⟨D, c, h2, h3, h4, h5⟩ := h1.1 hb
   obtain ⟨c', h6, h7, _⟩ := zCp hw h2
   rw [h4] at h6; cases h6
   have := (hx.fine.deliveries _ (List.mem_of_getElem? h2)).2.1.1
   omega
 ·have h0 := h.1
  have h1 := zso hx h 0 (by omega)
  unfold InS at h0
  have : (evsL x w 0).length = 0 := rfl
  rw [this]
  omega
 ·exact (hset (e + 1)).choose_spec.1
 ·intro i D hD
  have hB := (hset e).choose_spec.2 i
  have hC := (hset (e + 1)).choose_spec.2 i
  obtain ⟨c, h6, h7, h8⟩ := zCp hw hD
  have hb : (hset e).choose.testBit i = true ↔ D.Shelf = x.shelf ∧ c < (e : Int) := by
   rw [hB]
   constructor
   ·rintro ⟨D', c', h1, h2, h3, h4⟩
    rw [hD] at h1; rw [h6] at h3; cases h1; cases h3
    exact ⟨h2, h4⟩
   ·rintro ⟨h2, h4⟩; exact ⟨D, c, hD, h2, h6, h4⟩
  have hc : (hset (e + 1)).choose.testBit i = true ↔ D.Shelf = x.shelf ∧ c < ((e + 1 : Nat) : Int) := by
   rw [hC]
   constructor
   ·rintro ⟨D', c', h1, h2, h3, h4⟩
    rw [hD] at h1; rw [h6] at h3; cases h1; cases h3
    exact ⟨h2, h4⟩
   ·rintro ⟨h2, h4⟩; exact ⟨D, c, hD, h2, h6, h4⟩
  unfold zFf
  by_cases hs : D.Shelf = x.shelf
  ·rw [if_pos hs]
   rw [if_pos hs] at h8
   refine ⟨fun h1 => hc.2 ⟨hs, by have := (hb.1 h1).2; push_cast; omega⟩, fun h1 h2 => ?_, fun h1 => ?_⟩
   ·have h3 := (hc.1 h1).2
    have h4 : ¬ c < (e : Int) := fun h4 => by rw [hb.2 ⟨hs, h4⟩] at h2; cases h2
    push_cast at h3
    omega
   ·have h4 : ¬ c < ((e + 1 : Nat) : Int) := fun h4 => by rw [hc.2 ⟨hs, h4⟩] at h1; cases h1
    push_cast at h4
    omega
  ·rw [if_neg hs]
   cases hb' : (hset (e + 1)).choose.testBit i with
   | false => rfl
   | true => exact absurd (hc.1 hb').1 hs
 ·have hB := (hset e).choose_spec
  have hC := (hset (e + 1)).choose_spec
  have hon : zDt x w e (dif (hset (e + 1)).choose (hset e).choose) := by
   intro i D hD
   rw [zav (by omega) (by omega), Bool.and_eq_true, Bool.not_eq_true', hC.2 i, ← Bool.not_eq_true, hB.2 i]
   obtain ⟨c, h6, h7, h8⟩ := zCp hw hD
   constructor
   ·rintro ⟨⟨D', c', h1, h2, h3, h4⟩, h5⟩
    rw [hD] at h1; rw [h6] at h3; cases h1; cases h3
    refine ⟨h2, ?_⟩
    have : ¬ c < (e : Int) := fun h9 => h5 ⟨D, c, hD, h2, h6, h9⟩
    rw [h6]
    congr 1
    push_cast at h4
    omega
   ·rintro ⟨h1, h2⟩
    refine ⟨⟨D, e, hD, h1, h2, by push_cast; omega⟩, ?_⟩
    rintro ⟨D', c', h3, h4, h5, h9⟩
    rw [h2] at h5; cases h5
    omega
  have hsteps : zwg (z8c x w e) fun i => V ((evsL x w e).length + i) := by
   obtain ⟨l, hl⟩ := z7o x w (e + 1) (Nd x - (e + 1))
   have e1 : e + 1 + (Nd x - (e + 1)) = Nd x := by have : e < Nd x := he; omega
   rw [e1] at hl
   have h1 := h.2
   rw [hl, zAc, List.append_assoc] at h1
   have h2 := (zKd.1 h1).2
   exact (zKd.1 h2).1
  have he' : e < Nd x := he
  have r0 := zso hx h (evsL x w e).length (zio x w (by omega))
  have r1 := zso hx h (evsL x w (e + 1)).length (zio x w (by omega))
  refine (z0s hon (by omega)).2 ⟨_, hsteps, ?_, ?_⟩
  ·show V ((evsL x w e).length + 0) = _
   rw [Nat.add_zero]
   omega
  ·show V ((evsL x w e).length + (z8c x w e).length) = _
   have : (evsL x w (e + 1)).length = (evsL x w e).length + (z8c x w e).length := by rw [zAc, List.length_append]
   rw [← this]
   omega
 ·have := zso hx h (evsL x w d).length (zio x w hd)
  show (((V (evsL x w d).length).toNat : Nat) : Int) = _
  omega
theorem zjr {x : zd} {N : Nat} {Cs v : Nat → Nat} (h : zFi x N Cs v) {i : Nat} {D : zu} (hD : x.ShelfBook.Deliveries.1[i]? = some D) (hs : D.Shelf = x.shelf) : ∀ t e, e + t ≤ N → (Cs e).testBit i = true → (Cs (e + t)).testBit i = true
 | 0, e, _, hb => hb
 | t + 1, e, he, hb => by
  have h1 := zjr h hD hs t e (by omega) hb
  have h2 := (h.step (e + t) (by omega)).2.1 i D hD
  unfold zFf at h2
  rw [if_pos hs] at h2
  exact h2.1 h1
theorem zmt {C : Nat → Nat} {i : Nat} (h0 : C 0 = 0) : ∀ N, (C N).testBit i = true → ∃ e, e < N ∧ (C e).testBit i = false ∧ (C (e + 1)).testBit i = true
 | 0, h => by rw [h0] at h; simp at h
 | N + 1, h => by
  cases hb : (C N).testBit i with
  | false => exact ⟨N, by omega, hb, h⟩
  | true =>
   obtain ⟨e, h1, h2⟩ := zmt h0 N hb
   exact ⟨e, by omega, h2⟩
theorem ziv {n : Nat} {P : Nat → Int → Prop} (h : ∀ i, i < n → ∃ c, P i c) : ∃ w : List Int, w.length = n ∧ ∀ i, i < n → ∃ c, w[i]? = some c ∧ P i c := by
 induction n with
 | zero => exact ⟨[], rfl, fun i h => absurd h (by omega)⟩
 | succ n ih =>
  obtain ⟨w, h1, h2⟩ := ih fun i hi => h i (by omega)
  obtain ⟨c, hc⟩ := h n (by omega)
  refine ⟨w ++ [c], by simp [h1], fun i hi => ?_⟩
  by_cases e : i = n
  ·subst e
   exact ⟨c, by rw [← h1]; simp, hc⟩
  ·obtain ⟨c', h3, h4⟩ := h2 i (by omega)
   exact ⟨c', by rw [List.getElem?_append_left (by omega)]; exact h3, h4⟩
theorem zKw {x : zd} (hx : On x) {Cs v : Nat → Nat} (h : zFi x (Nd x) Cs v) : ∃ w, Way x w ∧ ∀ e, e < Nd x → zDt x w e (dif (Cs (e + 1)) (Cs e)) := by
 have hd := hx.fine.days
 have h8 := zai hx
 have hlt : ∀ e, e ≤ Nd x → Cs e < 2 ^ 63 := by
  intro e he
  have := (zIi hx h e he).2
  omega
 obtain ⟨w, h1, h2⟩ := ziv (n := x.ShelfBook.Deliveries.1.length) (P := fun i c => ∀ D, x.ShelfBook.Deliveries.1[i]? = some D → (D.Days.Low ≤ c ∧ c ≤ (if D.Shelf = x.shelf then D.Days.High else D.Days.Low)) ∧ (D.Shelf = x.shelf → ∃ e : Nat, c = e ∧ e < Nd x ∧ (Cs e).testBit i = false ∧ (Cs (e + 1)).testBit i = true)) (by
  intro i hi
  obtain ⟨D, hD, hm⟩ := zup hi
  obtain ⟨_, ⟨hd1, hd2, hd3⟩, _⟩ := hx.fine.deliveries _ hm
  by_cases hs : D.Shelf = x.shelf
  ·have hN : (Cs (Nd x)).testBit i = true := by
    have h3 : Nd x - 1 + 1 = Nd x := by unfold Nd; omega
    have h4 := (h.step (Nd x - 1) (by omega)).2.1 i D hD
    rw [h3] at h4
    unfold zFf at h4
    rw [if_pos hs] at h4
    cases hb : (Cs (Nd x)).testBit i with
    | true => rfl
    | false =>
     have := h4.2.2 hb
     unfold Nd at this
     omega
   obtain ⟨e, h3, h4, h5⟩ := zmt h.c0 _ hN
   have h6 := (h.step e h3).2.1 i D hD
   unfold zFf at h6
   rw [if_pos hs] at h6
   have h7 := h6.2.1 h5 h4
   refine ⟨e, fun D' hD' => ?_⟩
   rw [hD] at hD'; cases hD'
   rw [if_pos hs]
   exact ⟨h7, fun _ => ⟨e, rfl, h3, h4, h5⟩⟩
  ·refine ⟨D.Days.Low, fun D' hD' => ?_⟩
   rw [hD] at hD'; cases hD'
   rw [if_neg hs]
   exact ⟨⟨Int.le_refl _, Int.le_refl _⟩, fun h => absurd h hs⟩)
 refine ⟨w, ⟨h1, fun i D hi hD => ?_⟩, fun e he i D hD => ?_⟩
 ·obtain ⟨c, h3, h4⟩ := h2 i hi
  exact ⟨c, h3, (h4 D hD).1⟩
 ·obtain ⟨c, h3, h4⟩ := h2 i (List.getElem?_eq_some_iff.1 hD).1
  rw [zav (hlt _ (by omega)) (hlt _ (by omega)), Bool.and_eq_true, Bool.not_eq_true']
  constructor
  ·rintro ⟨h5, h6⟩
   have hs : D.Shelf = x.shelf := by
    refine Classical.byContradiction fun hs => ?_
    have h7 := (h.step e he).2.1 i D hD
    unfold zFf at h7
    rw [if_neg hs] at h7
    rw [h7] at h5; cases h5
   obtain ⟨e', rfl, h7, h8, h9⟩ := (h4 D hD).2 hs
   refine ⟨hs, ?_⟩
   have : e' = e := by
    rcases Nat.lt_trichotomy e' e with h10 | h10 | h10
    ·have := zjr h hD hs (e - (e' + 1)) (e' + 1) (by omega) h9
     have e1 : e' + 1 + (e - (e' + 1)) = e := by omega
     rw [e1, h6] at this; cases this
    ·exact h10
    ·have := zjr h hD hs (e' - (e + 1)) (e + 1) (by omega) h5
     have e1 : e + 1 + (e' - (e + 1)) = e' := by omega
     rw [e1, h8] at this; cases this
   rw [h3, this]
  ·rintro ⟨hs, h5⟩
   obtain ⟨e', rfl, h7, h8, h9⟩ := (h4 D hD).2 hs
   rw [h3] at h5
   have : e' = e := by have := Option.some.inj h5; omega
   subst this
   exact ⟨h9, h8⟩
theorem zfs {x : zd} (hx : On x) {Cs v : Nat → Nat} (h : zFi x (Nd x) Cs v) : ∃ w V, Way x w ∧ zIh x w V ∧ (∀ d, d ≤ Nd x → V (evsL x w d).length = v d) := by
 obtain ⟨w, hw, hon⟩ := zKw hx h
 suffices ∀ d, d ≤ Nd x → ∃ V : Nat → Int, V 0 = v 0 ∧ zwg (evsL x w d) V ∧ ∀ d', d' ≤ d → V (evsL x w d').length = v d' by
  obtain ⟨V, h1, h2, h3⟩ := this (Nd x) (Nat.le_refl _)
  have h4 := h.v0
  exact ⟨w, V, hw, ⟨by unfold InS; rw [h1]; exact h4, h2⟩, h3⟩
 intro d
 induction d with
 | zero =>
  intro _
  refine ⟨fun _ => v 0, rfl, fun i e he => by simp [evsL] at he, fun d' hd' => ?_⟩
  obtain rfl : d' = 0 := by omega
  rfl
 | succ d ih =>
  intro hd
  obtain ⟨V, h1, h2, h3⟩ := ih (by omega)
  have hin := (zIi hx h d (by omega)).1
  obtain ⟨u, h4, h5, h6⟩ := (z0s (hon d (by omega)) hin).1 (h.step d (by omega)).2.2
  have hlen := h3 d (Nat.le_refl _)
  refine ⟨fun i => if i ≤ (evsL x w d).length then V i else u (i - (evsL x w d).length), by simpa using h1, ?_, fun d' hd' => ?_⟩
  ·rw [zAc]
   refine zKd.2 ⟨z1r (fun i hi => ?_) h2, z1r (fun i hi => ?_) h4⟩
   ·simp only [hi, if_true]
   ·by_cases hi0 : i = 0
    ·subst hi0
     simp only [Nat.add_zero, Nat.le_refl, if_true]
     rw [hlen, h5]
    ·have a1 : ¬ (evsL x w d).length + i ≤ (evsL x w d).length := by omega
     simp only [a1, if_false]
     congr 1
     omega
  ·by_cases e : d' = d + 1
   ·subst e
    have hl : (evsL x w (d + 1)).length = (evsL x w d).length + (z8c x w d).length := by rw [zAc, List.length_append]
    have hpos : 0 < (z8c x w d).length := by unfold z8c; simp only [List.length_append, List.length_singleton]; omega
    have a1 : ¬ (evsL x w (d + 1)).length ≤ (evsL x w d).length := by omega
    simp only [a1, if_false]
    rw [← h6]
    congr 1
    omega
   ·have a1 : (evsL x w d').length ≤ (evsL x w d).length := zio x w (by omega)
    simp only [a1, if_true]
    exact h3 d' (by omega)
theorem zFm {x : zd} (hx : On x) : zHh x ↔ RCan x := by
 rw [zzq hx]
 constructor
 ·rintro ⟨Cs, v, h⟩
  obtain ⟨w, V, h1, h2, _⟩ := zfs hx h
  exact ⟨w, V, h1, h2⟩
 ·rintro ⟨w, V, h1, h2⟩
  obtain ⟨Cs, v, h, _⟩ := ztr hx h1 h2
  exact ⟨Cs, v, h⟩
theorem zvu {x : zd} (hx : On x) {d : Nat} (hd : (d : Int) < x.ShelfBook.Days) (n : Int) : (∃ m : Nat, n = m ∧ zEi x d m) ↔ ztz x d n := by
 constructor
 ·rintro ⟨m, rfl, h⟩
  obtain ⟨Cs, v, h1, rfl⟩ := (zBn hx hd).1 h
  obtain ⟨w, V, h2, h3, h4⟩ := zfs hx h1
  exact ⟨w, V, h2, h3, h4 _ (by unfold Nd; omega)⟩
 ·rintro ⟨w, V, h1, h2, rfl⟩
  obtain ⟨Cs, v, h3, h4⟩ := ztr hx h1 h2
  exact ⟨v (d + 1), (h4 _ (by unfold Nd; omega)).symm, (zBn hx hd).2 ⟨Cs, v, h3, rfl⟩⟩
theorem z8v {b : za} (hb : Fine b) {left : Int} (h0 : 0 ≤ left) (h1 : left < 9223372036854775808) : zsc b left ↔ zZs b left := by
 unfold zsc zZs
 constructor
 ·intro h s hs
  exact (zFm ⟨hb, by simp, by simpa using hs, h0, h1⟩).1 (h s hs)
 ·intro h s hs
  exact (zFm ⟨hb, by simp, by simpa using hs, h0, h1⟩).2 (h s hs)
end Go.AM
set_option linter.unusedVariables false
namespace Go.AM
open Go
def zVk (b : za) (s d : Int) : Prop := (0 ≤ s ∧ s ≤ (b.Shelves.1.length : Int) - 1) ∧ 0 ≤ d ∧ d ≤ b.Days - 1
def AskE (b : za) (q T : Prop) (e : Int) : Prop :=
 (¬ Fine b ∧ e = 40) ∨ (Fine b ∧ ¬ q ∧ e = 41) ∨ (Fine b ∧ q ∧ ¬ T ∧ e = 42) ∨ (Fine b ∧ q ∧ T ∧ e = 0)
theorem AskE.eq {b : za} {q T : Prop} {e f : Int} (h : AskE b q T e) (g : AskE b q T f) : e = f := by
 unfold AskE at *
 rcases h with ⟨h1, h2⟩ | ⟨h1, h2, h3⟩ | ⟨h1, h2, h3, h4⟩ | ⟨h1, h2, h3, h4⟩ <;> rcases g with ⟨g1, g2⟩ | ⟨g1, g2, g3⟩ | ⟨g1, g2, g3, g4⟩ | ⟨g1, g2, g3, g4⟩ <;> first | omega | exact absurd h1 g1 | exact absurd g1 h1 | exact absurd h2 g2 | exact absurd g2 h2 | exact absurd h3 g3 | exact absurd g3 h3
theorem AskE.ok {b : za} {q T : Prop} {e : Int} (h : AskE b q T e) (he : e = 0) : Fine b ∧ q ∧ T := by
 unfold AskE at h
 rcases h with ⟨h1, h2⟩ | ⟨h1, h2, h3⟩ | ⟨h1, h2, h3, h4⟩ | ⟨h1, h2, h3, h4⟩
 ·omega
 ·omega
 ·omega
 ·exact ⟨h1, h2, h3⟩
theorem zAs {b : za} {right : Bool} {q T : Prop} {e : Int} (hr : Fine b → (right = true ↔ q)) (h : z6v b right T e) : AskE b q T e := by
 unfold z6v at h
 unfold AskE
 rcases h with ⟨h1, h2⟩ | ⟨h1, h2, h3⟩ | ⟨h1, h2, h3, h4⟩ | ⟨h1, h2, h3, h4⟩
 ·exact .inl ⟨h1, h2⟩
 ·exact .inr (.inl ⟨h1, fun hq => (by rw [(hr h1).2 hq] at h2; cases h2), h3⟩)
 ·exact .inr (.inr (.inl ⟨h1, (hr h1).1 h2, h3, h4⟩))
 ·exact .inr (.inr (.inr ⟨h1, (hr h1).1 h2, h3, h4⟩))
theorem zhs {b : za} (hf : Fine b) : w64 (b.Days - 1) = b.Days - 1 := by
 have := hf.days
 exact z7 (by omega) (by omega)
theorem zUs {b : za} (hs : zLd b) (k : Nat) (s d : Int) : ∃ r, zpf k b s d = some r ∧ (Fine b → (r = true ↔ zVk b s d)) := by
 refine ⟨(decide (0 ≤ s) && decide (s ≤ (b.Shelves.1.length : Int) - 1)) && (decide (0 ≤ d) && decide (d ≤ w64 (b.Days - 1))), by simp only [zpf, z9c, Option.bind_some, zpd, z5h hs.shelves], fun hf => ?_⟩
 rw [zhs hf]
 simp only [Bool.and_eq_true, decide_eq_true_eq, zVk]
def z1k (b : za) (s : Int) (d : Nat) (n : Int) : Prop := ∃ m : Nat, n = m ∧ zEi ⟨b, s, 0⟩ d m
theorem zfv {b : za} (hf : Fine b) {s d : Int} (h : zVk b s d) : On (⟨b, s, 0⟩ : zd) := ⟨hf, h.1.1, by have := h.1.2; show s < (b.Shelves.1.length : Int); omega, Int.le_refl _, by show (0 : Int) < _; omega⟩
theorem zUt {b : za} {s : Int} (hT : zsc b 0) (h0 : 0 ≤ s) (h1 : s ≤ (b.Shelves.1.length : Int) - 1) : zHh (⟨b, s, 0⟩ : zd) := by
 have := hT s.toNat (by omega)
 rwa [Int.toNat_of_nonneg h0] at this
theorem zVw {x : zd} (hx : On x) (hc : zHh x) {d : Nat} (hd : (d : Int) < x.ShelfBook.Days) : ∃ n, zEi x d n := by
 obtain ⟨Cs, v, h⟩ := (zzq hx).1 hc
 exact ⟨v (d + 1), (zBn hx hd).2 ⟨Cs, v, h, rfl⟩⟩
theorem zWo {x : zd} (hx : On x) {d n : Nat} (h : zEi x d n) : n ≤ 60 := by
 obtain ⟨C, h1, _⟩ := h
 have := zJi hx _ _ _ h1
 have := hx.shelf.1.2
 omega
theorem zrt {x : zd} (hx : On x) {v : Nat → Bool} (h : ∀ i : Nat, v i = true ↔ ∃ day n : Nat, (day : Int) < x.ShelfBook.Days ∧ i = day * 61 + n ∧ zEi x day n) {d n : Nat} (hd : (d : Int) < x.ShelfBook.Days) (hn : n ≤ 60) : v (d * 61 + n) = true ↔ zEi x d n := by
 rw [h]
 constructor
 ·rintro ⟨day, m, h1, h2, h3⟩
  have := zWo hx h3
  obtain rfl : day = d := by omega
  obtain rfl : n = m := by omega
  exact h3
 ·exact fun h3 => ⟨d, n, hd, rfl, h3⟩
theorem zuw {b : za} {s : Int} (hx : On (⟨b, s, 0⟩ : zd)) (hc : zHh (⟨b, s, 0⟩ : zd)) {v : Nat → Bool} {d : Nat} (hd : (d : Int) < b.Days) (h : ∀ n, n ≤ 60 → (v n = true ↔ zEi ⟨b, s, 0⟩ d n)) {t : zr} (ht : zns v 61 t.Low t.High) : Ends (z1k b s d) t := by
 obtain ⟨h1, h2⟩ := ht
 rcases h2 with ⟨h3, h4, h5⟩ | ⟨a, c, h3, h4, h5, h6, h7, h8⟩
 ·obtain ⟨n, hn⟩ := zVw hx hc hd
  have hle := zWo hx hn
  have := h5 n (by omega)
  rw [(h n hle).2 hn] at this; cases this
 ·refine ⟨⟨a, h7, (h a (by omega)).1 h5⟩, ⟨c, h8, (h c (by omega)).1 h6⟩, ?_⟩
  rintro n ⟨m, rfl, hm⟩
  have hle := zWo hx hm
  exact h1 m (by omega) ((h m hle).2 hm)
section
variable {b : za} {k : Nat}
theorem zHz (hs : zLd b) (hd : b.Days ≤ 9223372036854775807) (hk : Fuel k b) (s d : Int) : Ok (zNh k b s d) (fun r => AskE b (zVk b s d) (zsc b 0) r.2 ∧ (r.2 ≠ 0 → r.1 = ⟨0, 0⟩) ∧ (r.2 = 0 → Ends (z1k b s d.toNat) r.1)) := by
 obtain ⟨r, h1, h2⟩ := zUs hs k s d
 unfold zNh
 rw [h1, Option.bind_some]
 refine Ok.bind (zYq hs hd hk r) fun e he => ?_
 have hE := zAs h2 he
 cases hc : e != 0 with
 | true =>
  rw [cond_true]
  have hne : e ≠ 0 := by simpa using hc
  exact Ok.pure ⟨hE, fun _ => rfl, fun h => absurd h hne⟩
 | false =>
  rw [cond_false]
  obtain rfl : e = 0 := by simpa using hc
  obtain ⟨hf, hq, hT⟩ := hE.ok rfl
  have hx := zfv hf hq
  have hdays := hf.days
  have hcan := zUt hT hq.1.1 hq.1.2
  refine Ok.bind (zbt hx hk.k0) fun v hv => ?_
  have hq2 := hq.2
  have c1 : (decide (0 ≤ d) && decide (d < 12)) = true := by simp; omega
  rw [c1, cond_true]
  have hdl : ((d.toNat : Nat) : Int) < b.Days := by omega
  refine Ok.bind (z9u hk.k0 _) fun t ht => Ok.pure ⟨hE, fun h => absurd rfl h, fun _ => ?_⟩
  exact zuw hx hcan hdl (fun n hn => zrt hx hv hdl hn) ht
theorem zkz (hs : zLd b) (hd : b.Days ≤ 9223372036854775807) (hk : Fuel k b) (s d n : Int) : Ok (z8g k b s d n) (fun r => AskE b (zVk b s d) (zsc b 0) r.2 ∧ (r.1 = true ↔ r.2 = 0 ∧ z1k b s d.toNat n)) := by
 obtain ⟨r, h1, h2⟩ := zUs hs k s d
 unfold z8g
 rw [h1, Option.bind_some]
 refine Ok.bind (zYq hs hd hk r) fun e he => ?_
 have hE := zAs h2 he
 cases hc : e != 0 with
 | true =>
  rw [cond_true]
  have hne : e ≠ 0 := by simpa using hc
  exact Ok.pure ⟨hE, fun h => Bool.noConfusion h, fun h => absurd h.1 hne⟩
 | false =>
  rw [cond_false]
  obtain rfl : e = 0 := by simpa using hc
  obtain ⟨hf, hq, hT⟩ := hE.ok rfl
  have hx := zfv hf hq
  have hdays := hf.days
  have hq2 := hq.2
  have c1 : (decide (0 ≤ d) && decide (d < 12)) = true := by simp; omega
  have hdl : ((d.toNat : Nat) : Int) < b.Days := by omega
  rw [z9c, Option.bind_some]
  cases hw : decide (0 ≤ n) && decide (n ≤ 60) with
  | true =>
   rw [cond_true]
   simp only [Bool.and_eq_true, decide_eq_true_eq] at hw
   have c2 : (decide (0 ≤ n) && decide (n < 61)) = true := by simp; omega
   refine Ok.bind (zbt hx hk.k0) fun v hv => ?_
   rw [c1, c2, cond_true, cond_true]
   refine Ok.pure ⟨hE, ?_⟩
   show v (d.toNat * 61 + n.toNat) = true ↔ _
   rw [zrt hx hv hdl (by omega)]
   constructor
   ·exact fun h => ⟨rfl, n.toNat, by omega, h⟩
   ·rintro ⟨_, m, rfl, h⟩
    rwa [Int.toNat_natCast]
  | false =>
   rw [cond_false]
   rw [← Bool.not_eq_true, Bool.and_eq_true, decide_eq_true_eq, decide_eq_true_eq] at hw
   refine Ok.pure ⟨hE, fun h => Bool.noConfusion h, ?_⟩
   rintro ⟨_, m, rfl, h⟩
   have := zWo hx h
   omega
def zEp (b : za) (s d n : Int) : Prop := (∀ (j : Nat) m, d ≤ j → (j : Int) < b.Days → z1k b s j m → n ≤ m) ∧ ∃ j : Nat, d ≤ j ∧ (j : Int) < b.Days ∧ z1k b s j n
theorem zEp.eq {s d n m : Int} (h : zEp b s d n) (g : zEp b s d m) : n = m := by
 obtain ⟨h1, j, h2, h3, h4⟩ := h
 obtain ⟨g1, i, g2, g3, g4⟩ := g
 have := h1 i m g2 g3 g4
 have := g1 j n h2 h3 h4
 omega
end
end Go.AM
set_option linter.unusedVariables false
namespace Go.AM
open Go
structure zQv (S n : Nat) (l : List Int) : Prop where
 climbs : l.Pairwise (· < ·)
 mem : ∀ x, x ∈ l ↔ ∃ i : Nat, x = (i : Int) ∧ i < n ∧ S.testBit i = true
 len : l.length ≤ n
theorem zQv.eq {S n : Nat} {l l' : List Int} (h : zQv S n l) (h' : zQv S n l') : l = l' := zAu h.climbs h'.climbs fun x => (h.mem x).trans (h'.mem x).symm
structure Caps (b : za) : Prop where
 moves : b.Moves.2 = .nil → b.Moves.1 = []
 deliveries : b.Deliveries.2 = .nil → b.Deliveries.1 = []
 counts : b.Counts.2 = .nil → b.Counts.1 = []
def zMg (b : za) (i : Nat) (D : zu) (c : Cap) : za := ⟨b.Days, b.Shelves, b.Moves, (b.Deliveries.1.set i D, c), b.Counts⟩
def zoe (b : za) (i : Nat) (m : zx) (c : Cap) : za := ⟨b.Days, b.Shelves, (b.Moves.1.set i m, c), b.Deliveries, b.Counts⟩
theorem zVu {b : za} (hf : Fine b) {i : Nat} {D : zu} {c : Cap} (hD : zWg b D) : Fine (zMg b i D c) := by
 refine ⟨hf.days, hf.nshelves, hf.nmoves, ?_, hf.ncounts, hf.shelves, hf.moves, fun d hd => ?_, hf.counts⟩
 ·show (b.Deliveries.1.set i D).length ≤ 3
  rw [List.length_set]; exact hf.ndeliveries
 ·rcases List.mem_or_eq_of_mem_set hd with h | rfl
  ·exact hf.deliveries d h
  ·exact hD
theorem zIu {b : za} (hf : Fine b) {i : Nat} {m : zx} {c : Cap} (hm : z3j b m) : Fine (zoe b i m c) := by
 refine ⟨hf.days, hf.nshelves, ?_, hf.ndeliveries, hf.ncounts, hf.shelves, fun d hd => ?_, hf.deliveries, hf.counts⟩
 ·show (b.Moves.1.set i m).length ≤ 10
  rw [List.length_set]; exact hf.nmoves
 ·rcases List.mem_or_eq_of_mem_set hd with h | rfl
  ·exact hf.moves d h
  ·exact hm
theorem zot {b : za} (hf : Fine b) {i : Nat} {D : zu} {c : Cap} (hD : zWg b D) : zGk 40 (zMg b i D c) := (zVu hf hD).up
theorem zFr {b : za} (hf : Fine b) {i : Nat} {m : zx} {c : Cap} (hm : z3j b m) : zGk 40 (zoe b i m c) := (zIu hf hm).up
theorem z1v {b : za} {s l : Int} {i : Nat} {D D' : zu} {c : Cap} (hD : b.Deliveries.1[i]? = some D) (h1 : D'.Shelf = D.Shelf) (h2 : D'.By = D.By) (w : List Int) (N : Nat) : evsL ⟨zMg b i D' c, s, l⟩ w N = evsL ⟨b, s, l⟩ w N := by
 unfold evsL
 congr 1
 funext d
 unfold z8c
 have e1 : cat (evDg (⟨zMg b i D' c, s, l⟩ : zd) w d) (zMg b i D' c).Deliveries.1 = cat (evDg (⟨b, s, l⟩ : zd) w d) b.Deliveries.1 := by
  refine zwv (by show (b.Deliveries.1.set i D').length = _; rw [List.length_set]) fun j a a' ha ha' => ?_
  have ha2 : (b.Deliveries.1.set i D')[j]? = some a := ha
  rw [List.getElem?_set] at ha2
  by_cases e : i = j
  ·subst e
   rw [if_pos rfl, if_pos (List.getElem?_eq_some_iff.1 hD).1] at ha2
   cases ha2
   rw [hD] at ha'; cases ha'
   unfold evDg
   rw [h1, h2]
   rfl
  ·rw [if_neg e] at ha2
   rw [ha2] at ha'; cases ha'
   rfl
 rw [e1]
 rfl
theorem z4s {b : za} {s l : Int} {i : Nat} {D : zu} {d : Int} {c : Cap} (hD : b.Deliveries.1[i]? = some D) (hs : D.Shelf = s) (h1 : D.Days.Low ≤ d) (h2 : d ≤ D.Days.High) (w : List Int) :
  Way ⟨zMg b i ⟨D.Shelf, ⟨d, d⟩, D.By⟩ c, s, l⟩ w ↔ Way ⟨b, s, l⟩ w ∧ w[i]? = some d := by
 have hi := (List.getElem?_eq_some_iff.1 hD).1
 have hget : ∀ j, (zMg b i ⟨D.Shelf, ⟨d, d⟩, D.By⟩ c).Deliveries.1[j]? = if i = j then some (⟨D.Shelf, ⟨d, d⟩, D.By⟩ : zu) else b.Deliveries.1[j]? := by
  intro j
  show (b.Deliveries.1.set i _)[j]? = _
  rw [List.getElem?_set]
  by_cases e : i = j
  ·rw [if_pos e, if_pos e, if_pos hi]
  ·rw [if_neg e, if_neg e]
 have hlen : (zMg b i ⟨D.Shelf, ⟨d, d⟩, D.By⟩ c).Deliveries.1.length = b.Deliveries.1.length := List.length_set
 unfold Way zDy
 simp only [hlen]
 constructor
 ·rintro ⟨h3, h4⟩
  have h5 := h4 i ⟨D.Shelf, ⟨d, d⟩, D.By⟩ hi (by rw [hget, if_pos rfl])
  simp only [hs, if_true] at h5
  obtain ⟨e, h6, h7, h8⟩ := h5
  obtain rfl : e = d := by omega
  refine ⟨⟨h3, fun j E hj hE => ?_⟩, h6⟩
  by_cases e2 : i = j
  ·subst e2
   rw [hD] at hE; cases hE
   exact ⟨e, h6, h1, by rw [if_pos hs]; exact h2⟩
  ·exact h4 j E hj (by rw [hget, if_neg e2]; exact hE)
 ·rintro ⟨⟨h3, h4⟩, h5⟩
  refine ⟨h3, fun j E hj hE => ?_⟩
  rw [hget] at hE
  by_cases e2 : i = j
  ·subst e2
   rw [if_pos rfl] at hE; cases hE
   exact ⟨d, h5, Int.le_refl _, by simp only [hs, if_true]; exact Int.le_refl _⟩
  ·rw [if_neg e2] at hE
   exact h4 j E hj hE
theorem zOv {b : za} (hf : Fine b) {s : Int} {i : Nat} {D : zu} {d : Int} {c : Cap} (hD : b.Deliveries.1[i]? = some D) (hs : D.Shelf = s) (h1 : D.Days.Low ≤ d) (h2 : d ≤ D.Days.High) :
  zHh ⟨zMg b i ⟨D.Shelf, ⟨d, d⟩, D.By⟩ c, s, 0⟩ ↔ ∃ w V, Way ⟨b, s, 0⟩ w ∧ zIh ⟨b, s, 0⟩ w V ∧ w[i]? = some d := by
 have hDf := hf.deliveries _ (List.mem_of_getElem? hD)
 obtain ⟨hd1, ⟨hd2, hd3, hd4⟩, hd5⟩ := hDf
 have hx : On (⟨zMg b i ⟨D.Shelf, ⟨d, d⟩, D.By⟩ c, s, 0⟩ : zd) := by
  refine ⟨zot hf ⟨hd1, ⟨?_, Int.le_refl _, ?_⟩, hd5⟩, ?_, ?_, Int.le_refl _, ?_⟩
  ·show 0 ≤ d; omega
  ·show d ≤ b.Days - 1; omega
  ·show 0 ≤ s; omega
  ·show s < (b.Shelves.1.length : Int); omega
  ·show (0 : Int) < _; omega
 rw [zFm hx]
 unfold RCan zIh
 have hev : ∀ w, evsL (⟨zMg b i ⟨D.Shelf, ⟨d, d⟩, D.By⟩ c, s, 0⟩ : zd) w (Nd ⟨zMg b i ⟨D.Shelf, ⟨d, d⟩, D.By⟩ c, s, 0⟩) = evsL ⟨b, s, 0⟩ w (Nd ⟨b, s, 0⟩) := fun w => z1v (D' := ⟨D.Shelf, ⟨d, d⟩, D.By⟩) hD rfl rfl w _
 constructor
 ·rintro ⟨w, V, h3, h4⟩
  rw [hev] at h4
  obtain ⟨h5, h6⟩ := (z4s hD hs h1 h2 w).1 h3
  exact ⟨w, V, h5, h4, h6⟩
 ·rintro ⟨w, V, h3, h4, h5⟩
  refine ⟨w, V, (z4s hD hs h1 h2 w).2 ⟨h3, h5⟩, ?_⟩
  rw [hev]
  exact h4
end Go.AM
set_option linter.unusedVariables false
namespace Go.AM
open Go
def ints (l : List Nat) : List Int := l.map fun i : Nat => (i : Int)
theorem zGo (l : List Nat) : (ints l).length = l.length := by simp [ints]
theorem z2s (l : List Nat) (i : Nat) : ints (l ++ [i]) = ints l ++ [(i : Int)] := by simp [ints]
def z8i (l : List Nat) : Nat := l.foldl (fun a i => a ||| 2 ^ i) 0
theorem zCv (l : List Nat) (i : Nat) : z8i (l ++ [i]) = z8i l ||| 2 ^ i := by simp [z8i]
theorem zhy {l : List Nat} {n : Nat} (h : ∀ i ∈ l, i < n) : z8i l < 2 ^ n := by
 unfold z8i
 have : ∀ (l : List Nat) (a : Nat), a < 2 ^ n → (∀ i ∈ l, i < n) → l.foldl (fun a i => a ||| 2 ^ i) a < 2 ^ n := by
  intro l
  induction l with
  | nil => intro a ha _; exact ha
  | cons x t ih =>
   intro a ha h
   refine ih _ (Nat.or_lt_two_pow ha ?_) fun i hi => h i (.tail _ hi)
   exact Nat.pow_lt_pow_right (by omega) (h x (.head _))
 exact this l 0 (Nat.two_pow_pos n) h
abbrev zFk (l : List Nat) : Prop := l.Pairwise (· < ·)
def ltL (a c : List Nat) : Prop := ∃ x, x ∈ a ∧ x ∉ c ∧ ∀ y, y < x → (y ∈ a ↔ y ∈ c)
theorem z6y {a c : List Nat} (h : ltL a c) (g : ltL c a) : False := by
 obtain ⟨x, h1, h2, h3⟩ := h
 obtain ⟨y, g1, g2, g3⟩ := g
 rcases Nat.lt_trichotomy x y with h4 | h4 | h4
 ·exact h2 ((g3 x h4).2 h1)
 ·subst h4; exact h2 g1
 ·exact g2 ((h3 y h4).2 g1)
def leS (a c : List Nat) : Prop := a.length < c.length ∨ (a.length = c.length ∧ (a = c ∨ ltL a c))
theorem zey {a c : List Nat} (h : leS a c) (g : leS c a) : a = c := by
 rcases h with h | ⟨h, h'⟩ <;> rcases g with g | ⟨g, g'⟩
 ·omega
 ·omega
 ·omega
 ·rcases h' with rfl | h'
  ·rfl
  ·rcases g' with rfl | g'
   ·rfl
   ·exact (z6y h' g').elim
structure Best (n : Nat) (P : List Nat → Prop) (l : List Nat) : Prop where
 climb : zFk l
 lt : ∀ i ∈ l, i < n
 ok : P l
 least : ∀ l', zFk l' → (∀ i ∈ l', i < n) → P l' → leS l l'
theorem Best.eq {n : Nat} {P : List Nat → Prop} {l l' : List Nat} (h : Best n P l) (g : Best n P l') : l = l' := zey (h.least l' g.climb g.lt g.ok) (g.least l h.climb h.lt h.ok)
theorem zht {l : List Nat} {n : Nat} (h : zFk l) (hl : ∀ i ∈ l, i < n) : l.length ≤ n := by
 have hsub : ∀ (n : Nat) (l : List Nat), zFk l → (∀ i ∈ l, i < n) → l.length ≤ n := by
  intro n
  induction n with
  | zero =>
   intro l _ hl
   cases l with
   | nil => exact Nat.le_refl _
   | cons a t => exact absurd (hl a (.head _)) (by omega)
  | succ n ih =>
   intro l h hl
   rcases List.eq_nil_or_concat l with rfl | ⟨t, x, rfl⟩
   ·exact Nat.zero_le _
   ·rw [List.concat_eq_append] at h hl ⊢
    have h := List.pairwise_append.1 h
    have h1 := ih t h.1 fun i hi => by
     have h2 := h.2.2 i hi x (.head _)
     have h3 := hl x (by simp)
     omega
    simp; omega
 exact hsub n l h hl
end Go.AM
set_option linter.unusedVariables false
namespace Go.AM
open Go
def Ext (n : Nat) (s : List Nat) (many : Nat) (l : List Nat) : Prop := (∃ t, l = s ++ t) ∧ l.length = many ∧ zFk l ∧ ∀ i ∈ l, i < n
def zkh (b : za) (l : List Nat) : Prop := zsc b (z8i l : Int)
def zty (b : za) (s : List Nat) (many : Nat) (r : SL Int × Bool) : Prop :=
 (r.2 = true ∧ ∃ l, r.1.1 = ints l ∧ Ext b.Counts.1.length s many l ∧ zkh b l ∧ ∀ l', Ext b.Counts.1.length s many l' → zkh b l' → l' = l ∨ ltL l l') ∨
 (r.2 = false ∧ ∀ l', Ext b.Counts.1.length s many l' → ¬ zkh b l')
def zFy (b : za) (many j : Nat) (f : SL Int → Int → Int → Option (SL Int × Bool)) : Prop :=
 ∀ (s : List Nat) (c : Cap), zFk s → (∀ i ∈ s, i < b.Counts.1.length) → s.length = j → Ok (f (ints s, c) (z8i s : Int) (many : Int)) (zty b s many)
theorem zhz (c : Cap) : decide (ccap c = Cap.ro) = false := by cases c <;> rfl
theorem zaf {b : za} (hf : Fine b) {k : Nat} (hk : 5000 < k) {many j : Nat} (hm : many ≤ b.Counts.1.length) (hj : j ≤ many) {rc : SL Int → Int → Int → Option (SL Int × Bool)} (hrc : j < many → zFy b many (j + 1) rc) : zFy b many j (zib k b rc) := by
 intro s c hs hlt hlen
 have hn := hf.ncounts
 have hbl : z8i s < 2 ^ 8 := Nat.lt_of_lt_of_le (zhy hlt) (Nat.pow_le_pow_right (by omega) hn)
 unfold zib
 by_cases e : s.length = many
 ·have c1 : (((ints s, c) : SL Int).1.length : Int) == (many : Int) := by show ((ints s).length : Int) == _; rw [zGo]; simp [e]
  rw [c1, cond_true]
  refine Ok.bind (zWs hf (by omega) (by omega) hk) fun v hv => Ok.pure ?_
  have only : ∀ l', Ext b.Counts.1.length s many l' → l' = s := by
   rintro l' ⟨⟨t, rfl⟩, h2, _⟩
   rw [List.length_append] at h2
   have : t = [] := List.length_eq_zero_iff.1 (by omega)
   rw [this, List.append_nil]
  cases v with
  | true => exact .inl ⟨rfl, s, rfl, ⟨⟨[], by simp⟩, e, hs, hlt⟩, hv.1 rfl, fun l' h _ => .inl (only l' h)⟩
  | false =>
   refine .inr ⟨rfl, fun l' h hp => ?_⟩
   rw [only l' h] at hp
   have := hv.2 hp
   cases this
 ·have c1 : ((((ints s, c) : SL Int).1.length : Int) == (many : Int)) = false := by show (((ints s).length : Int) == _) = false; rw [zGo]; simp; omega
  rw [c1, cond_false]
  obtain ⟨from_, hfrom, hJ⟩ : ∃ from_ : Nat, ((∀ i, (∀ x ∈ s, x < i) ↔ from_ ≤ i) ∧ from_ ≤ b.Counts.1.length) ∧ ∃ v, zZg k b (ints s, c) (z8i s : Int) (many : Int) (decide ((((ints s, c) : SL Int).1.length : Int) > 0)) rc = some ((from_ : Int), v) := by
   rcases List.eq_nil_or_concat s with rfl | ⟨s', x, rfl⟩
   ·exact ⟨0, ⟨fun i => by simp, Nat.zero_le _⟩, false, rfl⟩
   ·rw [List.concat_eq_append] at hs hlt ⊢
    have hx := hlt x (by simp)
    refine ⟨x + 1, ⟨fun i => ⟨fun h => h x (by simp), fun h y hy => ?_⟩, by omega⟩, true, ?_⟩
    ·rcases List.mem_append.1 hy with hy | hy
     ·have := (List.pairwise_append.1 hs).2.2 y hy x (.head _)
      omega
     ·rw [List.mem_singleton.1 hy]; omega
    ·have hl : (ints (s' ++ [x])).length = s'.length + 1 := by rw [zGo]; simp
     have c2 : decide ((((ints (s' ++ [x]), c) : SL Int).1.length : Int) > 0) = true := by show decide (((ints (s' ++ [x])).length : Int) > 0) = true; rw [hl]; simp only [decide_eq_true_eq]; omega
     rw [c2]
     have hb : s'.length ≤ 8 := by
      have h1 := zht hs hlt
      simp at h1; omega
     have w1 : w64 ((((ints (s' ++ [x]), c) : SL Int).1.length : Int) - 1) = (s'.length : Int) := by
      show w64 (((ints (s' ++ [x])).length : Int) - 1) = _
      rw [hl, z7 (by omega) (by omega)]; omega
     have hg : idx (ints (s' ++ [x])) (s'.length : Int) = some (x : Int) := by
      rw [z2s, zab (by simp [ints])]
      simp [ints]
     have w2 : w64 ((x : Int) + 1) = ((x + 1 : Nat) : Int) := by rw [z7 (by omega) (by omega)]; push_cast; rfl
     simp only [zZg, cond_true, w1, hg, Option.bind_some, w2]
  obtain ⟨hfrom, hfn⟩ := hfrom
  obtain ⟨v, hJ⟩ := hJ
  rw [hJ, Option.bind_some]
  have hjm : j < many := by omega
  have hrc' := hrc hjm
  refine Ok.bind (Ok.count (b.Counts.1.length - from_) (fun t z => z = ((from_ + t : Nat) : Int) ∧ ∀ i, from_ ≤ i → i < from_ + t → ∀ l', Ext b.Counts.1.length (s ++ [i]) many l' → ¬ zkh b l') (Q := fun r : (SL Int × Int × Bool) ⊕ Int => match r with
   | .inl z => ∃ l, z.1.1 = ints l ∧ Ext b.Counts.1.length s many l ∧ zkh b l ∧ ∀ l', Ext b.Counts.1.length s many l' → zkh b l' → l' = l ∨ ltL l l'
   | .inr _ => ∀ l', Ext b.Counts.1.length s many l' → ¬ zkh b l') ?_ ?_ ⟨rfl, fun i h1 h2 => absurd h2 (by omega)⟩ (by omega)) fun r hr => ?_
  ·rintro t z ht ⟨rfl, hg⟩
   have hi : from_ + t < b.Counts.1.length := by omega
   have c2 : decide ((((from_ + t : Nat) : Int)) < (b.Counts.1.length : Int)) = true := by simp; omega
   have c3 : decide ((((from_ + t : Nat) : Int)) < 0) = false := by simp only [decide_eq_false_iff_not]; omega
   have hll : ((ints s).length + 1) ≤ 1000000 := by rw [zGo]; omega
   have h2i : 2 ^ (from_ + t) < 2 ^ 8 := Nat.pow_lt_pow_right (by omega) (by omega)
   have e2 : zJ 1 ((from_ + t : Nat) : Int) = ((2 ^ (from_ + t) : Nat) : Int) := by
    rw [zit (by omega)]
    push_cast
    rfl
   have e3 : or64 (z8i s : Int) (zJ 1 ((from_ + t : Nat) : Int)) = ((z8i (s ++ [from_ + t]) : Nat) : Int) := by
    rw [e2, zqA (by omega) (by omega), zCv]
   have e4 : ((ints s, c) : SL Int).1 ++ [((from_ + t : Nat) : Int)] = ints (s ++ [from_ + t]) := by rw [z2s]
   have hs2 : zFk (s ++ [from_ + t]) := by
    refine List.pairwise_append.2 ⟨hs, List.pairwise_singleton _ _, fun x hx y hy => ?_⟩
    rw [List.mem_singleton.1 hy]
    exact (hfrom (from_ + t)).2 (by omega) x hx
   have hlt2 : ∀ i ∈ s ++ [from_ + t], i < b.Counts.1.length := by
    intro i hi'
    rcases List.mem_append.1 hi' with h | h
    ·exact hlt i h
    ·rw [List.mem_singleton.1 h]; exact hi
   simp only [zHg, c2, c3, cond_true, cond_false, zhz, zQk hll, e3, e4]
   refine Ok.bind (hrc' (s ++ [from_ + t]) .ro hs2 hlt2 (by simp [hlen])) fun r hr => ?_
   rcases hr with ⟨hb, l, h1, h2, h3, h4⟩ | ⟨hb, h1⟩
   ·rw [hb, cond_true]
    refine Ok.pure ⟨l, h1, ?_, h3, fun l' hl' hp => ?_⟩
    ·obtain ⟨⟨t', ht'⟩, h5⟩ := h2
     exact ⟨⟨[from_ + t] ++ t', by rw [ht', List.append_assoc]⟩, h5⟩
    ·obtain ⟨⟨t', rfl⟩, h5, h6, h7⟩ := hl'
     cases t' with
     | nil => rw [List.append_nil] at h5; omega
     | cons i' t' =>
      have hsp := List.pairwise_append.1 h6
      have hi' : from_ ≤ i' := (hfrom i').1 fun x hx => hsp.2.2 x hx i' (.head _)
      have hext : Ext b.Counts.1.length (s ++ [i']) many (s ++ i' :: t') := ⟨⟨t', by simp⟩, h5, h6, h7⟩
      by_cases e5 : i' = from_ + t
      ·subst e5
       exact h4 _ hext hp
      ·by_cases e6 : i' < from_ + t
       ·exact absurd hp (hg i' hi' e6 _ hext)
       ·right
        obtain ⟨⟨t2, rfl⟩, h8, h9, h10⟩ := h2
        have hc9 := List.pairwise_append.1 h9
        refine ⟨from_ + t, by simp, fun h => ?_, fun y hy => ?_⟩
        ·rcases List.mem_append.1 h with h | h
         ·have := (hfrom (from_ + t)).2 (by omega) _ h
          omega
         ·have hc := List.pairwise_cons.1 hsp.2.1
          cases h with
          | head => exact e5 rfl
          | tail _ h =>
           have := hc.1 _ h
           omega
        ·have hc := List.pairwise_cons.1 hsp.2.1
         constructor
         ·intro h
          rcases List.mem_append.1 h with h | h
          ·rcases List.mem_append.1 h with h | h
           ·exact List.mem_append.2 (.inl h)
           ·rw [List.mem_singleton.1 h] at hy; omega
          ·have := hc9.2.2 (from_ + t) (by simp) y h
           omega
         ·intro h
          rcases List.mem_append.1 h with h | h
          ·exact List.mem_append.2 (.inl (List.mem_append.2 (.inl h)))
          ·cases h with
           | head => omega
           | tail _ h =>
            have := hc.1 _ h
            omega
   ·rw [hb, cond_false]
    have e5 : w64 (((from_ + t : Nat) : Int) + 1) = ((from_ + (t + 1) : Nat) : Int) := by rw [z7 (by omega) (by omega)]; push_cast; omega
    rw [e5]
    refine Ok.pure ⟨rfl, fun i h2 h3 => ?_⟩
    by_cases e6 : i = from_ + t
    ·subst e6; exact h1
    ·exact hg i h2 (by omega)
  ·rintro z ⟨rfl, hg⟩
   have c2 : decide ((((from_ + (b.Counts.1.length - from_) : Nat) : Int)) < (b.Counts.1.length : Int)) = false := by simp only [decide_eq_false_iff_not]; omega
   simp only [zHg, c2, cond_false]
   refine Ok.pure fun l' hl' hp => ?_
   obtain ⟨⟨t', rfl⟩, h5, h6, h7⟩ := hl'
   cases t' with
   | nil => rw [List.append_nil] at h5; omega
   | cons i' t' =>
    have hsp := List.pairwise_append.1 h6
    have hi' : from_ ≤ i' := (hfrom i').1 fun x hx => hsp.2.2 x hx i' (.head _)
    have hi2 := h7 i' (by simp)
    exact hg i' hi' (by omega) _ ⟨⟨t', by simp⟩, h5, h6, h7⟩ hp
  ·cases r with
   | inl z => exact Ok.pure (.inl ⟨rfl, hr⟩)
   | inr z => exact Ok.pure (.inr ⟨rfl, hr⟩)
theorem zNA (k : Nat) (b : za) (rc : SL Int → Int → Int → Option (SL Int × Bool)) : zBg k b rc = zib k b rc := rfl
theorem zlA (k : Nat) (b : za) (rc : SL Int → Int → Int → Option (SL Int × Bool)) : zCg k b rc = zib k b rc := rfl
theorem zWz (k : Nat) (b : za) (rc : SL Int → Int → Int → Option (SL Int × Bool)) : zzg k b rc = zib k b rc := rfl
theorem z5z (k : Nat) (b : za) (rc : SL Int → Int → Int → Option (SL Int × Bool)) : zAg k b rc = zib k b rc := rfl
theorem zTB (k : Nat) (b : za) (rc : SL Int → Int → Int → Option (SL Int × Bool)) : zDg k b rc = zib k b rc := rfl
theorem zhB (k : Nat) (b : za) (rc : SL Int → Int → Int → Option (SL Int × Bool)) : zyg k b rc = zib k b rc := rfl
theorem zpB (k : Nat) (b : za) (rc : SL Int → Int → Int → Option (SL Int × Bool)) : zFg k b rc = zib k b rc := rfl
theorem ztB (k : Nat) (b : za) (rc : SL Int → Int → Int → Option (SL Int × Bool)) : zxg k b rc = zib k b rc := rfl
theorem zIw {b : za} (hf : Fine b) {k : Nat} (hk : 5000 < k) {many : Nat} (hm : many ≤ b.Counts.1.length) : Ok (zYg k b 9 ([], .nil) 0 (many : Int)) (zty b [] many) := by
 have hn := hf.ncounts
 unfold zYg
 rw [zNA, zlA, zWz, z5z, zTB, zhB, zpB, ztB]
 refine zaf hf hk hm (Nat.zero_le _) (fun h1 => ?_) [] .nil .nil (fun i h => by cases h) rfl
 refine zaf hf hk hm h1 fun h2 => ?_
 refine zaf hf hk hm h2 fun h3 => ?_
 refine zaf hf hk hm h3 fun h4 => ?_
 refine zaf hf hk hm h4 fun h5 => ?_
 refine zaf hf hk hm h5 fun h6 => ?_
 refine zaf hf hk hm h6 fun h7 => ?_
 refine zaf hf hk hm h7 fun h8 => ?_
 exact zaf hf hk hm h8 fun h9 => absurd h9 (by omega)
def z1x (b : za) (r : SL Int × Int) : Prop :=
 (¬ Fine b ∧ r.1.1 = [] ∧ r.2 = 40) ∨ (Fine b ∧ r.2 = 0 ∧ ∃ l, r.1.1 = ints l ∧ Best b.Counts.1.length (zkh b) l) ∨ (Fine b ∧ r.2 = 4 ∧ r.1.1 = [] ∧ ∀ l, zFk l → (∀ i ∈ l, i < b.Counts.1.length) → ¬ zkh b l)
theorem z8x {b : za} {k : Nat} (hs : zLd b) (hd : b.Days ≤ 9223372036854775807) (hk : Fuel k b) : Ok (zuh k b) (z1x b) := by
 unfold zuh
 refine Ok.bind (zUq hs hd hk) fun e he => ?_
 rcases he with ⟨rfl, hf⟩ | ⟨rfl, hf⟩
 ·rw [show ((0 : Int) != 0) = false from rfl, cond_false]
  have hn := hf.ncounts
  have w1 : w64 ((b.Counts.1.length : Int) + 1) = ((b.Counts.1.length + 1 : Nat) : Int) := by rw [z7 (by omega) (by omega)]; push_cast; rfl
  refine Ok.bind (Ok.count (b.Counts.1.length + 1) (fun j z => z = (j : Int) ∧ ∀ l, l.length < j → zFk l → (∀ i ∈ l, i < b.Counts.1.length) → ¬ zkh b l) (Q := fun r : (SL Int × Int × SL Int × Bool) ⊕ Int => match r with
   | .inl z => ∃ l, z.1.1 = ints l ∧ Best b.Counts.1.length (zkh b) l
   | .inr _ => ∀ l, zFk l → (∀ i ∈ l, i < b.Counts.1.length) → ¬ zkh b l) ?_ ?_ ⟨rfl, fun l h => absurd h (by omega)⟩ (by have := hk.k0; omega)) fun r hr => ?_
  ·rintro j z hj ⟨rfl, hg⟩
   have c1 : decide ((j : Int) < ((b.Counts.1.length + 1 : Nat) : Int)) = true := by simp; omega
   simp only [zRg, w1, c1, cond_true, z6 hj (by omega : b.Counts.1.length + 1 < 9223372036854775808)]
   refine Ok.bind (zIw hf hk.k0 (by omega)) fun r hr => ?_
   rcases hr with ⟨hb, l, h1, h2, h3, h4⟩ | ⟨hb, h1⟩
   ·rw [hb, cond_true]
    obtain ⟨_, h5, h6, h7⟩ := h2
    refine Ok.pure ⟨l, h1, h6, h7, h3, fun l' h8 h9 h10 => ?_⟩
    by_cases e : l'.length < j
    ·exact absurd h10 (hg l' e h8 h9)
    ·by_cases e2 : l'.length = j
     ·refine .inr ⟨by omega, ?_⟩
      rcases h4 l' ⟨⟨l', rfl⟩, e2, h8, h9⟩ h10 with h | h
      ·exact .inl h.symm
      ·exact .inr h
     ·exact .inl (by omega)
   ·rw [hb, cond_false]
    refine Ok.pure ⟨rfl, fun l h2 h3 h4 => ?_⟩
    by_cases e : l.length = j
    ·exact h1 l ⟨⟨l, rfl⟩, e, h3, h4⟩
    ·exact hg l (by omega) h3 h4
  ·rintro z ⟨rfl, hg⟩
   have c1 : decide (((b.Counts.1.length + 1 : Nat) : Int) < ((b.Counts.1.length + 1 : Nat) : Int)) = false := by simp
   simp only [zRg, w1, c1, cond_false]
   refine Ok.pure fun l h1 h2 => ?_
   exact hg l (by have := zht h1 h2; omega) h1 h2
  ·cases r with
   | inl z => exact Ok.pure (.inr (.inl ⟨hf, rfl, hr⟩))
   | inr z => exact Ok.pure (.inr (.inr ⟨hf, rfl, rfl, hr⟩))
 ·exact Ok.pure (.inl ⟨hf, rfl, rfl⟩)
end Go.AM
set_option linter.unusedVariables false
namespace Go.AM
open Go
def zDA (b : za) (s : Nat) (i : Nat) : Prop := ∃ c, b.Counts.1[i]? = some c ∧ c.Shelf = (s : Int)
section
variable {b : za} {k : Nat}
end
end Go.AM
set_option linter.unusedVariables false
namespace Go.AM
open Go
theorem zVx {k : Nat} {b : za} (hs : zLd b) (hd : b.Days ≤ 9223372036854775807) (hk : Fuel k b) : Ok (zfd k b) (fun r => r = true ↔ Fine b) := by
 unfold zfd
 refine Ok.bind (zUq hs hd hk) fun e he => ?_
 rcases he with ⟨rfl, hf⟩ | ⟨rfl, hf⟩
 ·have hf2 := hf
  obtain ⟨h1, h2, h3, h4, h5, _⟩ := hf2
  simp only [BEq.rfl, cond_true, zak, Option.bind_some, zpd]
  refine Ok.pure ⟨fun _ => hf, fun _ => ?_⟩
  simp only [Bool.and_eq_true, decide_eq_true_eq]
  omega
 ·rw [show ((40 : Int) == 0) = false from rfl, cond_false]
  exact Ok.pure ⟨fun h => Bool.noConfusion h, fun h => absurd h hf⟩
theorem Ok.held {f : Bool × Int → Option ((Bool × Int) ⊕ (Bool × Int))} (acc : Bool) (n : Nat)
  (next : acc = true → ∀ j : Nat, j < n → Ok (f (true, (j : Int))) (fun x => x = .inl (true, ((j + 1 : Nat) : Int))))
  (out : ∀ i, f (false, i) = some (.inr (false, i)))
  (last : f (true, (n : Int)) = some (.inr (true, (n : Int)))) {k : Nat} (hk : n < k) : Ok (Go.AM.iter f k (acc, 0)) (fun r => r.1 = acc) := by
 cases acc with
 | false =>
  refine Ok.count 0 (fun j s => s = (false, 0)) (fun j s hj => absurd hj (by omega)) ?_ rfl (by omega)
  rintro s rfl
  rw [out]
  exact Ok.pure rfl
 | true =>
  refine Ok.count n (fun j s => s = (true, (j : Int))) ?_ ?_ rfl hk
  ·rintro j s hj rfl
   refine (next rfl j hj).mono ?_
   rintro x rfl
   rfl
  ·rintro s rfl
   rw [last]
   exact Ok.pure rfl
theorem zAx {k : Nat} {b : za} (hs : zLd b) (hd : b.Days ≤ 9223372036854775807) (hk : Fuel k b) : Ok (zhe k b) (fun r => r = true ↔ Fine b) := by
 unfold zhe
 refine (zVx hs hd hk).bind fun r1 h1 => ?_
 refine Ok.bind (Ok.held r1 b.Shelves.1.length (fun e j hj => ?_) (fun i => by simp [zxc, zyc]) (by simp [zxc, zyc]) hk.shelves) fun r2 h2 => ?_
 ·have hf := h1.1 e
  obtain ⟨⟨a1, a2⟩, a3, a4, a5⟩ := hf.shelves _ (List.getElem_mem hj)
  have hn := hf.nshelves
  simp only [zxc, zyc, zve, zrb hj, cond_true, zab hj, Option.bind_some, zak, z7m, zpd, z6 hj hs.shelves]
  generalize b.Shelves.1[j] = x at *
  have : (decide (1 ≤ x.Room) && decide (x.Room ≤ 60) && (decide (0 ≤ x.Begin.Low) && (decide (x.Begin.Low ≤ x.Begin.High) && decide (x.Begin.High ≤ x.Room)))) = true := by simp only [Bool.and_eq_true, decide_eq_true_eq]; omega
  rw [this]
  exact Ok.pure rfl
 refine Ok.bind (Ok.held r2.1 b.Moves.1.length (fun e j hj => ?_) (fun i => by simp [zzc, zkc]) (by simp [zzc, zkc]) hk.moves) fun r3 h3 => ?_
 ·have hf := h1.1 (h2 ▸ e)
  obtain ⟨⟨a1, a2⟩, ⟨a3, a4⟩, a5, a6, a7⟩ := hf.moves _ (List.getElem_mem hj)
  simp only [zzc, zkc, z6d, zrb hj, cond_true, zab hj, Option.bind_some, zak, z7m, zpd, z6 hj hs.moves, zhs hf, z5h hs.shelves]
  generalize b.Moves.1[j] = x at *
  have : (decide (0 ≤ x.Day) && decide (x.Day ≤ b.Days - 1) && (decide (0 ≤ x.Shelf) && decide (x.Shelf ≤ (b.Shelves.1.length : Int) - 1) && (decide (0 ≤ x.By.Low) && (decide (x.By.Low ≤ x.By.High) && decide (x.By.High ≤ 60))))) = true := by simp only [Bool.and_eq_true, decide_eq_true_eq]; omega
  rw [this]
  exact Ok.pure rfl
 refine Ok.bind (Ok.held r3.1 b.Deliveries.1.length (fun e j hj => ?_) (fun i => by simp [zoc, zrc]) (by simp [zoc, zrc]) hk.deliveries) fun r4 h4 => ?_
 ·have hf := h1.1 (h2 ▸ h3 ▸ e)
  obtain ⟨⟨a1, a2⟩, ⟨a3, a4, a8⟩, a5, a6, a7⟩ := hf.deliveries _ (List.getElem_mem hj)
  simp only [zoc, zrc, z8d, zrb hj, cond_true, zab hj, Option.bind_some, zak, z7m, zpd, z6 hj hs.deliveries, zhs hf, z5h hs.shelves]
  generalize b.Deliveries.1[j] = x at *
  have : (decide (0 ≤ x.Shelf) && decide (x.Shelf ≤ (b.Shelves.1.length : Int) - 1) && ((decide (0 ≤ x.Days.Low) && (decide (x.Days.Low ≤ x.Days.High) && decide (x.Days.High ≤ b.Days - 1))) && (decide (0 ≤ x.By.Low) && (decide (x.By.Low ≤ x.By.High) && decide (x.By.High ≤ 60))))) = true := by simp only [Bool.and_eq_true, decide_eq_true_eq]; omega
  rw [this]
  exact Ok.pure rfl
 refine Ok.bind (Ok.held r4.1 b.Counts.1.length (fun e j hj => ?_) (fun i => by simp [znc, zpc]) (by simp [znc, zpc]) hk.counts) fun r5 h5 => ?_
 ·have hf := h1.1 (h2 ▸ h3 ▸ h4 ▸ e)
  obtain ⟨⟨a1, a2⟩, ⟨a3, a4⟩, ⟨a5, a6⟩, a7, a8⟩ := hf.counts _ (List.getElem_mem hj)
  simp only [znc, zpc, zae, zrb hj, cond_true, zab hj, Option.bind_some, zak, z7m, zpd, z6 hj hs.counts, zhs hf, z5h hs.shelves]
  generalize b.Counts.1[j] = x at *
  have : (decide (0 ≤ x.Day) && decide (x.Day ≤ b.Days - 1) && (decide (0 ≤ x.Shelf) && decide (x.Shelf ≤ (b.Shelves.1.length : Int) - 1) && (decide (0 ≤ x.Read) && decide (x.Read ≤ 60) && (decide (0 ≤ x.Err) && decide (x.Err ≤ 20))))) = true := by simp only [Bool.and_eq_true, decide_eq_true_eq]; omega
  rw [this]
  exact Ok.pure rfl
 refine Ok.pure ?_
 rw [h5, h4, h3, h2, h1]
theorem zqx {k : Nat} {l : SL Int} (hk : l.1.length < k) (hs : l.1.length < 9223372036854775808) (x : Int) : Ok (zie k l x) (fun r => (0 ≤ r ∧ x ∈ l.1) ∨ (r < 0 ∧ x ∉ l.1)) := by
 unfold zie
 refine Ok.bind (Ok.count l.1.length (fun j s => s = (j : Int) ∧ x ∉ l.1.take j) (Q := fun r : Int ⊕ Int => match r with
  | .inl z => 0 ≤ z ∧ x ∈ l.1
  | .inr _ => x ∉ l.1) ?_ ?_ ⟨rfl, by simp⟩ hk) fun r hr => ?_
 ·rintro j s hj ⟨rfl, hg⟩
  simp only [zjd, zrb hj, cond_true, zab hj, Option.bind_some, z6 hj hs]
  by_cases e : l.1[j] = x
  ·have c : (l.1[j] == x) = true := by simp [e]
   rw [c, cond_true]
   exact Ok.pure ⟨by omega, e ▸ List.getElem_mem hj⟩
  ·have c : (l.1[j] == x) = false := by simp [e]
   rw [c, cond_false]
   refine Ok.pure ⟨rfl, ?_⟩
   rw [List.take_succ_eq_append_getElem hj, List.mem_append, List.mem_singleton]
   rintro (h | h)
   ·exact hg h
   ·exact e h.symm
 ·rintro s ⟨rfl, hg⟩
  have c1 : decide ((l.1.length : Int) < (l.1.length : Int)) = false := by simp
  simp only [zjd, c1, cond_false]
  rw [List.take_length] at hg
  exact Ok.pure hg
 ·cases r with
  | inl z => exact Ok.pure (.inl hr)
  | inr z => exact Ok.pure (.inr ⟨by decide, hr⟩)
def zEf (b : za) (C : SL zo) : za := ⟨b.Days, b.Shelves, b.Moves, b.Deliveries, C⟩
theorem zvr {b : za} (hf : Fine b) {C : SL zo} (hn : C.1.length ≤ 8) (hC : ∀ c ∈ C.1, zIk b c) : Fine (zEf b C) :=
 ⟨hf.days, hf.nshelves, hf.nmoves, hf.ndeliveries, hn, hf.shelves, hf.moves, hf.deliveries, hC⟩
theorem zXu {b : za} (hs : zLd b) {C : SL zo} (h : C.1.length < 9223372036854775808) : zLd (zEf b C) := ⟨hs.shelves, hs.moves, hs.deliveries, h⟩
theorem zlw {k : Nat} {b : za} (hk : Fuel k b) {C : SL zo} (h : C.1.length < k) : Fuel k (zEf b C) := ⟨hk.k0, hk.shelves, hk.moves, hk.deliveries, h⟩
theorem onL {b : za} (hf : Fine b) {s : Int} (h0 : 0 ≤ s) (h1 : s ≤ (b.Shelves.1.length : Int) - 1) {L : Nat} (hL : L < 2 ^ 60) : On (⟨b, s, (L : Int)⟩ : zd) := ⟨hf, h0, by show s < (b.Shelves.1.length : Int); omega, by show (0 : Int) ≤ (L : Int); omega, by show (L : Int) < _; omega⟩
end Go.AM
set_option linter.unusedVariables false
namespace Go.AM
open Go
section
open Classical
variable {b : za}
noncomputable def part (b : za) (s : Nat) (l : List Nat) : List Nat := l.filter fun i => decide (zDA b s i)
end
end Go.AM
set_option linter.unusedVariables false
namespace Go.AM
open Go
def z1p (i : Int) (n : Nat) : Prop := 0 ≤ i ∧ i ≤ (n : Int) - 1
def zDr (b : za) (i : Nat) (d : Int) : Prop := ∃ D w V, b.Deliveries.1[i]? = some D ∧ Way ⟨b, D.Shelf, 0⟩ w ∧ zIh ⟨b, D.Shelf, 0⟩ w V ∧ w[i]? = some d
theorem zNy {b : za} (hf : Fine b) {m : zx} (hm : m ∈ b.Moves.1) : On (⟨b, m.Shelf, 0⟩ : zd) := by
 obtain ⟨_, ⟨h1, h2⟩, _⟩ := hf.moves _ hm
 exact ⟨hf, h1, by show m.Shelf < (b.Shelves.1.length : Int); omega, Int.le_refl _, by show (0 : Int) < _; omega⟩
section
variable {b : za} {k : Nat}
theorem zet (hs : zLd b) (hd : b.Days ≤ 9223372036854775807) (hk : Fuel k b) {right : Bool} {q : Prop} (hr : right = true ↔ q) : Ok (zkd k b right) (AskE b q (zsc b 0)) :=
 (zYq hs hd hk right).mono fun e he => zAs (fun _ => hr) he
theorem zlv (i : Int) (n : Nat) : (decide (0 ≤ i) && decide (i ≤ (n : Int) - 1)) = true ↔ z1p i n := by
 simp only [Bool.and_eq_true, decide_eq_true_eq, z1p]
def zGz (b : za) (i : Int) (r : SL Int × Int) : Prop := AskE b (z1p i b.Deliveries.1.length) (zsc b 0) r.2 ∧ (r.2 ≠ 0 → r.1.1 = []) ∧ (r.2 = 0 → r.1.1.Pairwise (· < ·) ∧ ∀ d, d ∈ r.1.1 ↔ zDr b i.toNat d) ∧ r.1.1.length ≤ 100
theorem zJz (hs : zLd b) (hc : Caps b) (hd : b.Days ≤ 9223372036854775807) (hk : Fuel k b) (i : Int) : Ok (z3i k b i) (zGz b i) := by
 unfold z3i
 rw [z9c, Option.bind_some, z5h hs.deliveries]
 refine Ok.bind (zet hs hd hk (zlv i _)) fun e hE => ?_
 cases hc0 : e != 0 with
 | true =>
  rw [cond_true]
  have hne : e ≠ 0 := by simpa using hc0
  exact Ok.pure ⟨hE, fun _ => rfl, fun h => absurd h hne, Nat.zero_le _⟩
 | false =>
  rw [cond_false]
  obtain rfl : e = 0 := by simpa using hc0
  obtain ⟨hf, hq, hT⟩ := hE.ok rfl
  obtain ⟨hq1, hq2⟩ := hq
  have hi : i.toNat < b.Deliveries.1.length := by omega
  have hget := List.getElem?_eq_getElem hi
  have hm := List.getElem_mem hi
  rw [zTn hq1 hi, Option.bind_some]
  have hne : b.Deliveries.2 ≠ .nil := fun h => by rw [hc.deliveries h] at hi; simp at hi
  have hnd := hf.ndeliveries
  have hdays := hf.days
  have hi2 := zTn hq1 hi
  generalize b.Deliveries.1[i.toNat] = D at *
  obtain ⟨hd1, ⟨hd2, hd3, hd4⟩, hd5⟩ := hf.deliveries _ hm
  refine Ok.bind (Ok.count (D.Days.High + 1 - D.Days.Low).toNat (fun j z => z.1 = D.Days.Low + j ∧ z.2.Pairwise (· < ·) ∧ z.2.length ≤ j ∧ ∀ d, d ∈ z.2 ↔ d < D.Days.Low + j ∧ zDr b i.toNat d) (Q := fun z : Int × List Int => z.2.Pairwise (· < ·) ∧ z.2.length ≤ 100 ∧ ∀ d, d ∈ z.2 ↔ zDr b i.toNat d) ?_ ?_ ⟨by simp, .nil, Nat.le_refl _, fun d => ?_⟩ (by have := hk.k0; omega)) fun r hr => Ok.pure ⟨hE, fun h => absurd rfl h, fun _ => ⟨hr.1, hr.2.2⟩, hr.2.1⟩
  ·rintro j ⟨d, l⟩ hj ⟨hd, h1, h2, h3⟩
   obtain rfl : d = D.Days.Low + j := hd
   have c1 : decide (D.Days.Low + (j : Int) ≤ D.Days.High) = true := by simp; omega
   have c2 : decide (b.Deliveries.2 = .nil) = false := by simp [hne]
   have c3 : decide (b.Deliveries.1.length ≤ LIM) = true := zQk (by omega)
   have c4 : w64 (D.Days.Low + (j : Int) + 1) = D.Days.Low + ((j + 1 : Nat) : Int) := by rw [z7 (by omega) (by omega)]; push_cast; omega
   have hx : On (⟨zMg b i.toNat ⟨D.Shelf, ⟨D.Days.Low + (j : Int), D.Days.Low + (j : Int)⟩, D.By⟩ (rcap false (b.Deliveries.1.set i.toNat ⟨D.Shelf, ⟨D.Days.Low + (j : Int), D.Days.Low + (j : Int)⟩, D.By⟩)), D.Shelf, 0⟩ : zd) := by
    refine ⟨zot hf ⟨hd1, ⟨?_, Int.le_refl _, ?_⟩, hd5⟩, hd1.1, ?_, Int.le_refl _, ?_⟩
    ·show 0 ≤ D.Days.Low + (j : Int); omega
    ·show D.Days.Low + (j : Int) ≤ b.Days - 1; omega
    ·show D.Shelf < (b.Shelves.1.length : Int); omega
    ·show (0 : Int) < _; omega
   simp only [z2h, c1, c2, c3, cond_true, cond_false, hi2, Option.bind_some, c4]
   refine Ok.bind (z1t hx hk.k0) fun v hv => ?_
   have hv2 : v = true ↔ zDr b i.toNat (D.Days.Low + j) := by
    rw [hv]
    refine (zOv hf hget rfl (by omega) (by omega)).trans ?_
    constructor
    ·rintro ⟨w, V, h4, h5, h6⟩; exact ⟨D, w, V, hget, h4, h5, h6⟩
    ·rintro ⟨D', w, V, h4, h5, h6, h7⟩
     rw [hget] at h4; cases h4
     exact ⟨w, V, h5, h6, h7⟩
   have hlen : l.length + 1 ≤ 1000000 := by have : l.length ≤ j := h2; omega
   cases v with
   | true =>
    rw [cond_true, zQk hlen, cond_true]
    refine Ok.pure ⟨rfl, zzv h1 fun x hx => ((h3 x).1 hx).1, by have : l.length ≤ j := h2; simp; omega, fun d => ?_⟩
    rw [List.mem_append, List.mem_singleton, h3 d]
    constructor
    ·rintro (⟨h4, h5⟩ | rfl)
     ·exact ⟨by push_cast; omega, h5⟩
     ·exact ⟨by push_cast; omega, hv2.1 rfl⟩
    ·rintro ⟨h4, h5⟩
     by_cases e : d = D.Days.Low + j
     ·exact .inr e
     ·exact .inl ⟨by push_cast at h4; omega, h5⟩
   | false =>
    rw [cond_false]
    refine Ok.pure ⟨rfl, h1, by have : l.length ≤ j := h2; show l.length ≤ _; omega, fun d => ?_⟩
    rw [h3 d]
    constructor
    ·rintro ⟨h4, h5⟩; exact ⟨by push_cast; omega, h5⟩
    ·rintro ⟨h4, h5⟩
     refine ⟨?_, h5⟩
     have : d ≠ D.Days.Low + j := fun e => by rw [e] at h5; have := hv2.2 h5; cases this
     push_cast at h4; omega
  ·rintro ⟨d, l⟩ ⟨hd, h1, h2, h3⟩
   have hd' : d = D.Days.Low + ((D.Days.High + 1 - D.Days.Low).toNat : Int) := hd
   have c1 : decide (d ≤ D.Days.High) = false := by simp only [decide_eq_false_iff_not]; omega
   simp only [z2h, c1, cond_false]
   refine Ok.pure ⟨h1, by have : l.length ≤ _ := h2; show l.length ≤ _; omega, fun d => ?_⟩
   rw [h3 d]
   constructor
   ·exact fun h => h.2
   ·rintro h
    refine ⟨?_, h⟩
    obtain ⟨D', w, V, h4, h5, h6, h7⟩ := h
    rw [hget] at h4; cases h4
    obtain ⟨c, h8, h9, h10⟩ := zCp h5 hget
    rw [h7] at h8; cases h8
    rw [if_pos rfl] at h10
    omega
  ·constructor
   ·intro h; cases h
   ·rintro ⟨h4, D', w, V, h5, h6, h7, h8⟩
    rw [hget] at h5; cases h5
    obtain ⟨c, h9, h10, h11⟩ := zCp h6 hget
    rw [h8] at h9; cases h9
    simp at h4
    omega
end
end Go.AM
set_option linter.unusedVariables false
namespace Go.AM
open Go
section
variable {b : za} {k : Nat}
theorem z5x (hs : zLd b) (hd : b.Days ≤ 9223372036854775807) (hk : Fuel k b) (hf : Fine b) (hT : zsc b 0) {s d : Int} (hq : zVk b s d) : Ok (zNh k b s d) (fun r => r.2 = 0 ∧ Ends (z1k b s d.toNat) r.1) := by
 refine (zHz hs hd hk s d).mono fun r hr => ?_
 have h0 : r.2 = 0 := by
  rcases hr.1 with ⟨h1, h2⟩ | ⟨h1, h2, h3⟩ | ⟨h1, h2, h3, h4⟩ | ⟨h1, h2, h3, h4⟩
  ·exact absurd hf h1
  ·exact absurd hq h2
  ·exact absurd hT h3
  ·exact h4
 exact ⟨h0, hr.2.2 h0⟩
theorem zpx (hs : zLd b) (hd : b.Days ≤ 9223372036854775807) (hk : Fuel k b) (hf : Fine b) (hT : zsc b 0) {s d : Int} (hq : zVk b s d) (n : Int) : Ok (z8g k b s d n) (fun r => r.2 = 0 ∧ (r.1 = true ↔ z1k b s d.toNat n)) := by
 refine (zkz hs hd hk s d n).mono fun r hr => ?_
 have h0 : r.2 = 0 := by
  rcases hr.1 with ⟨h1, h2⟩ | ⟨h1, h2, h3⟩ | ⟨h1, h2, h3, h4⟩ | ⟨h1, h2, h3, h4⟩
  ·exact absurd hf h1
  ·exact absurd hq h2
  ·exact absurd hT h3
  ·exact h4
 exact ⟨h0, by rw [hr.2]; exact ⟨fun h => h.2, fun h => ⟨h0, h⟩⟩⟩
end
end Go.AM
set_option linter.unusedVariables false
namespace Go.AM
open Go
theorem zgy {b : za} {C : SL zo} {s : Int} (day : Int) (n : Nat) : zgf ⟨zEf b C, s, 0⟩ day n ↔ ∀ c ∈ C.1, c.Day = day → c.Shelf = s → c.Read - c.Err ≤ (n : Int) ∧ (n : Int) ≤ c.Read + c.Err := by
 unfold zgf z6g
 constructor
 ·intro h c hc hd hs
  obtain ⟨i, hi, he⟩ := List.getElem_of_mem hc
  exact h i c (by show C.1[i]? = some c; rw [List.getElem?_eq_getElem hi, he]) hd hs (by simp)
 ·intro h i c hi hd hs _
  exact h c (List.mem_of_getElem? hi) hd hs
theorem Ends.congr {P Q : Int → Prop} {s : zr} (h : Ends P s) (e : ∀ n, P n ↔ Q n) : Ends Q s := ⟨(e _).1 h.1, (e _).1 h.2.1, fun n hn => h.2.2 n ((e n).2 hn)⟩
section
variable {b : za} {k : Nat}
end
end Go.AM
set_option linter.unusedVariables false
namespace Go.AM
open Go
theorem zyu {k : Nat} {a : Int} {n : Nat} (hn : 1 ≤ n) (hn2 : n < 9223372036854775808) : Ok (zqd k a (n : Int)) (fun r => ∃ i : Nat, r = (i : Int) ∧ i < n) := by
 unfold zqd
 have c1 : decide ((n : Int) < 1) = false := by simp; omega
 have c2 : ((n : Int) == 0) = false := by simp; omega
 rw [c1, c2, cond_false, cond_false]
 have h1 := Int.tmod_lt_of_pos a (show (0 : Int) < n by omega)
 have h2 : -(n : Int) < a.tmod n := Int.lt_tmod_of_pos a (show (0 : Int) < n by omega)
 cases hc : decide (a.tmod (n : Int) < 0) with
 | true =>
  have := of_decide_eq_true hc
  simp only [zud, cond_true, Option.bind_some]
  refine Ok.pure ⟨(a.tmod n + n).toNat, ?_, by omega⟩
  rw [z7 (by omega) (by omega)]
  omega
 | false =>
  have := of_decide_eq_false hc
  simp only [zud, cond_false, Option.bind_some]
  exact Ok.pure ⟨(a.tmod n).toNat, by omega, by omega⟩
theorem zko {k : Nat} {l : SL Int} (hl : l.1.length < 9223372036854775808) (x : Int) : Ok (zQb k l x) (fun _ => True) := by
 unfold zQb
 by_cases h : l.1.length = 0
 ·rw [show ((l.1.length : Int) == 0) = true by simp [h], cond_true]
  exact Ok.pure trivial
 ·rw [show ((l.1.length : Int) == 0) = false by simp only [beq_eq_false_iff_ne, ne_eq]; omega, cond_false]
  refine Ok.bind (zyu (by omega) hl) fun r hr => ?_
  obtain ⟨i, rfl, hi⟩ := hr
  rw [zab hi, Option.bind_some]
  exact Ok.pure trivial
theorem zMp {k : Nat} {s : zr} (h1 : -1000 ≤ s.Low) (h2 : s.Low ≤ 1000) (h3 : -1000 ≤ s.High) (h4 : s.High ≤ 1000) (x : Int) : Ok (z4b k s x) (fun r => s.Low ≤ r ∧ (s.Low ≤ s.High → r ≤ s.High) ∧ (s.High ≤ s.Low → r = s.Low)) := by
 unfold z4b
 by_cases h : s.High ≤ s.Low
 ·rw [show decide (s.High ≤ s.Low) = true by simp [h], cond_true]
  exact Ok.pure ⟨Int.le_refl _, fun h => h, fun _ => rfl⟩
 ·have e : w64 (w64 (s.High - s.Low) + 1) = (((s.High - s.Low + 1).toNat : Nat) : Int) := by
   rw [z7 (show -9223372036854775808 ≤ s.High - s.Low by omega) (by omega), z7 (by omega) (by omega)]; omega
  rw [show decide (s.High ≤ s.Low) = false by simp; omega, cond_false, e, show decide ((((s.High - s.Low + 1).toNat : Nat) : Int) < 1) = false by simp only [decide_eq_false_iff_not]; omega, cond_false]
  refine Ok.bind (zyu (by omega) (by omega)) fun r hr => ?_
  obtain ⟨i, rfl, hi⟩ := hr
  rw [z7 (by omega) (by omega)]
  exact Ok.pure ⟨by omega, fun _ => by omega, fun h' => absurd h' h⟩
def zXn (b : za) (w : List Int) : Prop := w.length = b.Deliveries.1.length ∧ ∀ (i : Nat) D, b.Deliveries.1[i]? = some D → ∃ c, w[i]? = some c ∧ D.Days.Low ≤ c ∧ c ≤ D.Days.High
section
variable {b : za} {k : Nat}
theorem zTu (hf : Fine b) (hk : 5000 < k) {l : SL Int} (hl : l.1.length < 9223372036854775808) :
  Ok (iter (fun z => zWb k b l z.1 z.2.1 z.2.2) k (0, 0, ([] : List Int))) (fun r => zXn b r.2.2) := by
 have hn := hf.ndeliveries
 have hdays := hf.days
 refine Ok.count b.Deliveries.1.length (fun j z => z.2.1 = (j : Int) ∧ z.2.2.length = j ∧ ∀ (i : Nat) D, i < j → b.Deliveries.1[i]? = some D → ∃ c, z.2.2[i]? = some c ∧ D.Days.Low ≤ c ∧ c ≤ D.Days.High) ?_ ?_ ⟨rfl, rfl, fun i D h => by omega⟩ (by omega)
 ·rintro j ⟨nx, j', w⟩ hj ⟨hj', hlen, hw⟩
  obtain rfl : j' = (j : Int) := hj'
  have hlen : w.length = j := hlen
  have hfd := hf.deliveries _ (List.getElem_mem hj)
  have hl1 : w.length + 1 ≤ 1000000 := by omega
  simp only [zWb, zrb hj, cond_true, zab hj, Option.bind_some, zQk hl1, z6 hj (by omega : b.Deliveries.1.length < 9223372036854775808)]
  refine Ok.bind (zko hl _) fun t _ => ?_
  obtain ⟨_, ⟨d1, d2, d3⟩, _⟩ := hfd
  refine Ok.bind (zMp (by omega) (by omega) (by omega) (by omega) t) fun c hc => ?_
  refine Ok.pure ⟨rfl, by show (w ++ [c]).length = _; simp; omega, fun i D hi hD => ?_⟩
  show ∃ c', (w ++ [c])[i]? = some c' ∧ _
  by_cases e : i = j
  ·subst e
   rw [List.getElem?_eq_getElem hj] at hD
   cases hD
   refine ⟨c, by rw [List.getElem?_append_right (by omega), hlen, Nat.sub_self]; rfl, hc.1, hc.2.1 (by omega)⟩
  ·obtain ⟨c', h1, h2⟩ := hw i D (by omega) hD
   have h1 : w[i]? = some c' := h1
   exact ⟨c', by rw [List.getElem?_append_left (by omega)]; exact h1, h2⟩
 ·rintro ⟨nx, j', w⟩ ⟨hj', hlen, hw⟩
  have hj2 : j' = (b.Deliveries.1.length : Int) := hj'
  have c1 : decide (j' < (b.Deliveries.1.length : Int)) = false := by simp only [decide_eq_false_iff_not]; omega
  simp only [zWb, c1, cond_false]
  exact Ok.pure ⟨hlen, fun i D hD => hw i D (List.getElem?_eq_some_iff.1 hD).1 hD⟩
end
end Go.AM
set_option linter.unusedVariables false
namespace Go.AM
open Go
section
variable {b : za} {k : Nat}
def Well (x : zd) (f : Bool) (now : Int) (R : Nat → Prop) : Prop := f = true → ∃ m : Nat, now = (m : Int) ∧ (m : Int) ≤ (zC x).Room ∧ R m
end
end Go.AM
set_option linter.unusedVariables false
namespace Go.AM
open Go
def zth (V : Nat → Int) (l : Nat) (n : Int) (i : Nat) : Int := if i ≤ l then V i else n
theorem zFd {V : Nat → Int} {l i : Nat} {n : Int} (h : i ≤ l) : zth V l n i = V i := if_pos h
theorem zgi {V : Nat → Int} {l i : Nat} {n : Int} (h : l < i) : zth V l n i = n := if_neg (by omega)
theorem zLp {s : zr} {L : List Ev} {V : Nat → Int} {e : Ev} {n : Int} (h : zfe s L V) (h1 : InS e.by_ (n - V L.length)) (h2 : InS e.within n) : zfe s (L ++ [e]) (zth V L.length n) := by
 refine ⟨by rw [zFd (by omega)]; exact h.1, fun i e' he => ?_⟩
 by_cases hi : i < L.length
 ·rw [List.getElem?_append_left hi] at he
  rw [zFd (by omega), zFd (by omega)]
  exact h.2 i e' he
 ·have hlt := (List.getElem?_eq_some_iff.1 he).1
  rw [List.length_append, List.length_singleton] at hlt
  obtain rfl : i = L.length := by omega
  rw [List.getElem?_append_right (by omega), Nat.sub_self] at he
  cases he
  rw [zFd (by omega), zgi (by omega)]
  exact ⟨h1, h2⟩
def UpTo (l : Nat) (G : (Nat → Int) → Prop) : Prop := ∀ V V', (∀ i, i ≤ l → V' i = V i) → G V → G V'
theorem UpTo.further {l l' : Nat} {G : (Nat → Int) → Prop} (h : UpTo l G) (hl : l ≤ l') {V : Nat → Int} {n : Int} (hG : G V) : G (zth V l' n) := h V _ (fun i hi => zFd (by omega)) hG
section
variable {b : za} {k : Nat}
theorem zsw (hf : Fine b) (hk : 5000 < k) {l : SL Int} (hl : l.1.length < 9223372036854775808) {s e : Nat} (hs : s < b.Shelves.1.length) {v1 : Int × Int × (List Int)} (hw : zXn b v1.2.2) (a1 : List (SL Int)) (a2 a3 : List Int) (nx0 : Int) {f0 : Bool} {now0 : Int}
  {L0 : List Ev} {G : (Nat → Int) → Prop} (hG : UpTo L0.length G) (h0 : Well ⟨b, (s : Int), 0⟩ f0 now0 fun m => ∃ V, zfe (zC ⟨b, (s : Int), 0⟩).Begin L0 V ∧ V L0.length = (m : Int) ∧ G V) :
  Ok (iter (fun z => zGb k b l v1 (s : Int) a1 (zC ⟨b, (s : Int), 0⟩) (e : Int) a2 a3 z.1 z.2.1 z.2.2.1 z.2.2.2) k (nx0, f0, now0, 0))
   (fun r => Well ⟨b, (s : Int), 0⟩ r.2.1 r.2.2.1 fun m => ∃ V, zfe (zC ⟨b, (s : Int), 0⟩).Begin (L0 ++ cat (evDg ⟨b, (s : Int), 0⟩ v1.2.2 (e : Int)) b.Deliveries.1) V ∧ V (L0 ++ cat (evDg ⟨b, (s : Int), 0⟩ v1.2.2 (e : Int)) b.Deliveries.1).length = (m : Int) ∧ G V) := by
 have hn := hf.ndeliveries
 have hx : On (⟨b, (s : Int), 0⟩ : zd) := onL hf (by omega) (by omega) (L := 0) (by omega)
 have hroom := hx.shelf.1
 refine Ok.count b.Deliveries.1.length (fun j z => z.2.2.2 = (j : Int) ∧ Well ⟨b, (s : Int), 0⟩ z.2.1 z.2.2.1 fun m => ∃ V, zfe (zC ⟨b, (s : Int), 0⟩).Begin (L0 ++ cat (evDg ⟨b, (s : Int), 0⟩ v1.2.2 (e : Int)) (b.Deliveries.1.take j)) V ∧ V (L0 ++ cat (evDg ⟨b, (s : Int), 0⟩ v1.2.2 (e : Int)) (b.Deliveries.1.take j)).length = (m : Int) ∧ G V) ?_ ?_ ⟨rfl, fun h => ?_⟩ (by omega)
 ·rintro j ⟨nx, f, now, j'⟩ hj ⟨hj', hI⟩
  obtain rfl : j' = (j : Int) := hj'
  have hI : Well ⟨b, (s : Int), 0⟩ f now fun m => ∃ V, zfe (zC ⟨b, (s : Int), 0⟩).Begin (L0 ++ cat (evDg ⟨b, (s : Int), 0⟩ v1.2.2 (e : Int)) (b.Deliveries.1.take j)) V ∧ V (L0 ++ cat (evDg ⟨b, (s : Int), 0⟩ v1.2.2 (e : Int)) (b.Deliveries.1.take j)).length = (m : Int) ∧ G V := hI
  have hge := List.getElem?_eq_getElem hj
  obtain ⟨c, hc, _, _⟩ := hw.2 j _ hge
  obtain ⟨hcl, hce⟩ := List.getElem?_eq_some_iff.1 hc
  have hfd := hf.deliveries _ (List.getElem_mem hj)
  obtain ⟨_, _, b1, b2, b3⟩ := hfd
  have hsucc := z6 hj (by omega : b.Deliveries.1.length < 9223372036854775808)
  have hcs := zag (evDg ⟨b, (s : Int), 0⟩ v1.2.2 (e : Int)) hj
  have hJ : zdc k b l v1 (s : Int) a1 (zC ⟨b, (s : Int), 0⟩) (e : Int) a2 a3 nx f now (j : Int) = some (b.Deliveries.1[j].Shelf == (s : Int) && c == (e : Int)) := by
   unfold zdc
   rw [zab hj, Option.bind_some]
   cases hq : b.Deliveries.1[j].Shelf == (s : Int) with
   | true => rw [cond_true, zab hcl, Option.bind_some, hce]; rfl
   | false => rfl
  simp only [zGb, zrb hj, cond_true, hJ, Option.bind_some, hsucc]
  cases hq : b.Deliveries.1[j].Shelf == (s : Int) && c == (e : Int) with
  | false =>
   have hg : evDg ⟨b, (s : Int), 0⟩ v1.2.2 (e : Int) b.Deliveries.1[j] j = [] := by
    unfold evDg
    rw [if_neg]
    rintro ⟨h1, h2⟩
    rw [hc] at h2
    cases h2
    have h1 : b.Deliveries.1[j].Shelf = (s : Int) := h1
    rw [h1] at hq
    simp at hq
   rw [hg, List.append_nil] at hcs
   simp only [zcc, cond_false, Option.bind_some]
   refine Ok.pure ⟨rfl, ?_⟩
   rw [hcs]
   exact hI
  | true =>
   rw [Bool.and_eq_true, beq_iff_eq, beq_iff_eq] at hq
   have hg : evDg ⟨b, (s : Int), 0⟩ v1.2.2 (e : Int) b.Deliveries.1[j] j = [⟨b.Deliveries.1[j].By, ⟨0, (zC ⟨b, (s : Int), 0⟩).Room⟩, -1, -1⟩] := by
    unfold evDg
    rw [if_pos ⟨hq.1, by rw [hc, hq.2]⟩]
   simp only [zcc, cond_true, zab hj, Option.bind_some, zdw]
   rw [hg] at hcs
   generalize w64 ((zC ⟨b, (s : Int), 0⟩).Room - now) = free
   have hu : b.Deliveries.1[j].By.Low ≤ (if (if free < b.Deliveries.1[j].By.High then free else b.Deliveries.1[j].By.High) > b.Deliveries.1[j].By.Low then (if free < b.Deliveries.1[j].By.High then free else b.Deliveries.1[j].By.High) else b.Deliveries.1[j].By.Low) ∧ (if (if free < b.Deliveries.1[j].By.High then free else b.Deliveries.1[j].By.High) > b.Deliveries.1[j].By.Low then (if free < b.Deliveries.1[j].By.High then free else b.Deliveries.1[j].By.High) else b.Deliveries.1[j].By.Low) ≤ b.Deliveries.1[j].By.High := by
    split <;> split <;> omega
   generalize (if (if free < b.Deliveries.1[j].By.High then free else b.Deliveries.1[j].By.High) > b.Deliveries.1[j].By.Low then (if free < b.Deliveries.1[j].By.High then free else b.Deliveries.1[j].By.High) else b.Deliveries.1[j].By.Low) = u at *
   refine Ok.bind (Ok.bind (zko hl _) fun t _ => ?_) fun y hy => hy
   refine Ok.bind (zMp (by show -1000 ≤ b.Deliveries.1[j].By.Low; omega) (by show b.Deliveries.1[j].By.Low ≤ 1000; omega) (by show -1000 ≤ u; omega) (by show u ≤ 1000; omega) t) fun r hr => ?_
   have hJ2 : zhc k b l v1 (s : Int) a1 (zC ⟨b, (s : Int), 0⟩) (e : Int) a2 a3 nx f now (j : Int) r = some (f && decide (w64 (now + r) ≤ (zC ⟨b, (s : Int), 0⟩).Room)) := by
    unfold zhc
    cases f <;> rfl
   rw [hJ2, Option.bind_some]
   refine Ok.pure (Ok.pure ⟨rfl, fun hf' => ?_⟩)
   have hf' : (f && decide (w64 (now + r) ≤ (zC ⟨b, (s : Int), 0⟩).Room)) = true := hf'
   rw [Bool.and_eq_true, decide_eq_true_eq] at hf'
   obtain ⟨m, h1, h2, V, h3, h4, h5⟩ := hI hf'.1
   have hr1 : b.Deliveries.1[j].By.Low ≤ r := hr.1
   have hr2 : r ≤ u := hr.2.1 hu.1
   have hwm : w64 (now + r) = now + r := z7 (by omega) (by omega)
   rw [hwm] at hf'
   refine ⟨(now + r).toNat, by show w64 (now + r) = _; rw [hwm]; omega, by omega, zth V (L0 ++ cat (evDg ⟨b, (s : Int), 0⟩ v1.2.2 (e : Int)) (b.Deliveries.1.take j)).length (now + r), ?_, ?_, hG.further (by rw [List.length_append]; omega) h5⟩
   ·rw [hcs, ← List.append_assoc]
    refine zLp h3 ?_ ?_
    ·rw [h4]; unfold InS; simp only; omega
    ·unfold InS; simp only; omega
   ·rw [hcs, ← List.append_assoc, List.length_append (bs := [_]), List.length_singleton, zgi (by omega)]
    omega
 ·rintro ⟨nx, f, now, j'⟩ ⟨hj', hI⟩
  have hj2 : j' = (b.Deliveries.1.length : Int) := hj'
  have c1 : decide (j' < (b.Deliveries.1.length : Int)) = false := by simp only [decide_eq_false_iff_not]; omega
  simp only [zGb, c1, cond_false]
  rw [List.take_length] at hI
  exact Ok.pure hI
 ·obtain ⟨m, h1, h2, h3⟩ := h0 h
  exact ⟨m, h1, h2, by simpa [cat] using h3⟩
end
end Go.AM
set_option linter.unusedVariables false
namespace Go.AM
open Go
def zAt (b : za) (s e : Nat) (l j : Nat) (M : List Int) (V : Nat → Int) : Prop :=
 ∀ (i : Nat) D, i < j → b.Moves.1[i]? = some D → D.Shelf = (s : Int) → D.Day = (e : Int) → ∃ t, M[i]? = some t ∧
  V (l + (cat (evMg ⟨b, (s : Int), 0⟩ (e : Int)) (b.Moves.1.take i)).length + 1) - V (l + (cat (evMg ⟨b, (s : Int), 0⟩ (e : Int)) (b.Moves.1.take i)).length) = if D.Back = true then t else -t
theorem zyo {α β : Type} (g : α → Nat → List β) (l : List α) : ∀ (i j : Nat), i ≤ j → (cat g (l.take i)).length ≤ (cat g (l.take j)).length := by
 intro i j h
 induction j with
 | zero =>
  obtain rfl : i = 0 := by omega
  exact Nat.le_refl _
 | succ j ih =>
  by_cases e : i = j + 1
  ·subst e; exact Nat.le_refl _
  ·refine Nat.le_trans (ih (by omega)) ?_
   by_cases hj : j < l.length
   ·rw [zag g hj, List.length_append]; omega
   ·rw [List.take_of_length_le (by omega), List.take_of_length_le (show l.length ≤ j + 1 by omega)]; exact Nat.le_refl _
section
variable {b : za} {k : Nat}
theorem zTv (hf : Fine b) (hk : 5000 < k) {l : SL Int} (hl : l.1.length < 9223372036854775808) {s e : Nat} (hs : s < b.Shelves.1.length) (v1 : Int × Int × (List Int)) (a1 : List (SL Int)) (a3 : List Int) (vv : Int × Bool × Int × Int) (nx0 : Int) {f0 : Bool} {now0 : Int} {M0 : List Int} (hM0 : M0.length = b.Moves.1.length)
  {L0 : List Ev} {G : (Nat → Int) → Prop} (hG : UpTo L0.length G) (h0 : Well ⟨b, (s : Int), 0⟩ f0 now0 fun m => ∃ V, zfe (zC ⟨b, (s : Int), 0⟩).Begin L0 V ∧ V L0.length = (m : Int) ∧ G V) :
  Ok (iter (fun z => zHb k b l v1 (s : Int) a1 (zC ⟨b, (s : Int), 0⟩) (e : Int) a3 vv z.1 z.2.1 z.2.2.1 z.2.2.2.1 z.2.2.2.2) k (nx0, f0, now0, 0, M0))
   (fun r => r.2.2.2.2.length = b.Moves.1.length ∧ (∀ (i : Nat) D, b.Moves.1[i]? = some D → ¬ (D.Shelf = (s : Int) ∧ D.Day = (e : Int)) → r.2.2.2.2[i]? = M0[i]?) ∧ Well ⟨b, (s : Int), 0⟩ r.2.1 r.2.2.1 fun m => ∃ V, zfe (zC ⟨b, (s : Int), 0⟩).Begin (L0 ++ cat (evMg ⟨b, (s : Int), 0⟩ (e : Int)) b.Moves.1) V ∧ V (L0 ++ cat (evMg ⟨b, (s : Int), 0⟩ (e : Int)) b.Moves.1).length = (m : Int) ∧ G V ∧ zAt b s e L0.length b.Moves.1.length r.2.2.2.2 V) := by
 have hn := hf.nmoves
 have hx : On (⟨b, (s : Int), 0⟩ : zd) := onL hf (by omega) (by omega) (L := 0) (by omega)
 have hroom := hx.shelf.1
 refine Ok.count b.Moves.1.length (fun j z => z.2.2.2.1 = (j : Int) ∧ z.2.2.2.2.length = b.Moves.1.length ∧ (∀ (i : Nat) D, b.Moves.1[i]? = some D → ¬ (D.Shelf = (s : Int) ∧ D.Day = (e : Int)) → z.2.2.2.2[i]? = M0[i]?) ∧ Well ⟨b, (s : Int), 0⟩ z.2.1 z.2.2.1 fun m => ∃ V, zfe (zC ⟨b, (s : Int), 0⟩).Begin (L0 ++ cat (evMg ⟨b, (s : Int), 0⟩ (e : Int)) (b.Moves.1.take j)) V ∧ V (L0 ++ cat (evMg ⟨b, (s : Int), 0⟩ (e : Int)) (b.Moves.1.take j)).length = (m : Int) ∧ G V ∧ zAt b s e L0.length j z.2.2.2.2 V) ?_ ?_ ⟨rfl, hM0, fun i D _ _ => rfl, fun h => ?_⟩ (by omega)
 ·rintro j ⟨nx, f, now, j', M⟩ hj ⟨hj', hlen, hoth, hI⟩
  obtain rfl : j' = (j : Int) := hj'
  have hlen : M.length = b.Moves.1.length := hlen
  have hoth : ∀ (i : Nat) D, b.Moves.1[i]? = some D → ¬ (D.Shelf = (s : Int) ∧ D.Day = (e : Int)) → M[i]? = M0[i]? := hoth
  have hI : Well ⟨b, (s : Int), 0⟩ f now fun m => ∃ V, zfe (zC ⟨b, (s : Int), 0⟩).Begin (L0 ++ cat (evMg ⟨b, (s : Int), 0⟩ (e : Int)) (b.Moves.1.take j)) V ∧ V (L0 ++ cat (evMg ⟨b, (s : Int), 0⟩ (e : Int)) (b.Moves.1.take j)).length = (m : Int) ∧ G V ∧ zAt b s e L0.length j M V := hI
  have hge := List.getElem?_eq_getElem hj
  have hjM : j < M.length := by omega
  have hfd := hf.moves _ (List.getElem_mem hj)
  have hcs := zag (evMg ⟨b, (s : Int), 0⟩ (e : Int)) hj
  have hsucc := z6 hj (by omega : b.Moves.1.length < 9223372036854775808)
  have hJ : zgc k b l v1 (s : Int) a1 (zC ⟨b, (s : Int), 0⟩) (e : Int) a3 vv nx f now (j : Int) M b.Moves.1[j] = some (b.Moves.1[j].Shelf != (s : Int) || b.Moves.1[j].Day != (e : Int)) := by
   unfold zgc
   cases hq : b.Moves.1[j].Shelf != (s : Int) <;> rfl
  simp only [zHb, zrb hj, cond_true, zab hj, zab hjM, hJ, Option.bind_some, hsucc]
  by_cases hq : b.Moves.1[j].Shelf = (s : Int) ∧ b.Moves.1[j].Day = (e : Int)
  ·have hg : evMg ⟨b, (s : Int), 0⟩ (e : Int) b.Moves.1[j] j = [⟨if b.Moves.1[j].Back = true then b.Moves.1[j].By else ⟨-b.Moves.1[j].By.High, -b.Moves.1[j].By.Low⟩, ⟨0, (zC ⟨b, (s : Int), 0⟩).Room⟩, j, -1⟩] := by
    unfold evMg
    rw [if_pos hq]
   rw [hg] at hcs
   rw [show (b.Moves.1[j].Shelf != (s : Int) || b.Moves.1[j].Day != (e : Int)) = false by simp [hq.1, hq.2], cond_false]
   obtain ⟨_, _, b1, b2, b3⟩ := hfd
   have hJ7 : zec k b l v1 (s : Int) a1 (zC ⟨b, (s : Int), 0⟩) (e : Int) a3 vv nx f now (j : Int) M b.Moves.1[j] b.Moves.1[j].Back = some (cond b.Moves.1[j].Back (w64 ((zC ⟨b, (s : Int), 0⟩).Room - now)) now, b.Moves.1[j].Back) := by
    unfold zec
    cases b.Moves.1[j].Back <;> rfl
   simp only [hJ7, Option.bind_some, zdw]
   generalize hmost : cond b.Moves.1[j].Back (w64 ((zC ⟨b, (s : Int), 0⟩).Room - now)) now = most
   have hu : b.Moves.1[j].By.Low ≤ (if (if most < b.Moves.1[j].By.High then most else b.Moves.1[j].By.High) > b.Moves.1[j].By.Low then (if most < b.Moves.1[j].By.High then most else b.Moves.1[j].By.High) else b.Moves.1[j].By.Low) ∧ (if (if most < b.Moves.1[j].By.High then most else b.Moves.1[j].By.High) > b.Moves.1[j].By.Low then (if most < b.Moves.1[j].By.High then most else b.Moves.1[j].By.High) else b.Moves.1[j].By.Low) ≤ b.Moves.1[j].By.High := by
    split <;> split <;> omega
   generalize (if (if most < b.Moves.1[j].By.High then most else b.Moves.1[j].By.High) > b.Moves.1[j].By.Low then (if most < b.Moves.1[j].By.High then most else b.Moves.1[j].By.High) else b.Moves.1[j].By.Low) = u at *
   refine Ok.bind (zko hl _) fun t _ => ?_
   refine Ok.bind (zMp (by show -1000 ≤ b.Moves.1[j].By.Low; omega) (by show b.Moves.1[j].By.Low ≤ 1000; omega) (by show -1000 ≤ u; omega) (by show u ≤ 1000; omega) t) fun r hr => ?_
   have hr1 : b.Moves.1[j].By.Low ≤ r := hr.1
   have hr2 : r ≤ u := hr.2.1 hu.1
   have hset : idx (M.set ((j : Int)).toNat r) (j : Int) = some r := by
    rw [Int.toNat_natCast, zab (by rw [List.length_set]; omega)]
    simp
   have hJ8 : zfc k b l v1 (s : Int) a1 (zC ⟨b, (s : Int), 0⟩) (e : Int) a3 vv nx f now (j : Int) M b.Moves.1[j] (most, b.Moves.1[j].Back) r = some (f && decide (r ≤ most)) := by
    unfold zfc
    rw [hset]
    cases f <;> rfl
   have hJ9 : ∀ g, zjc k b l v1 (s : Int) a1 (zC ⟨b, (s : Int), 0⟩) (e : Int) a3 vv nx now (j : Int) M b.Moves.1[j] (most, b.Moves.1[j].Back) r g b.Moves.1[j].Back = some (cond b.Moves.1[j].Back (w64 (now + r)) (w64 (now - r)), b.Moves.1[j].Back) := by
    intro g
    unfold zjc
    rw [hset]
    cases b.Moves.1[j].Back <;> rfl
   simp only [hJ8, hJ9, Option.bind_some]
   refine Ok.pure ⟨rfl, ?_, fun i D hD hne => ?_, fun hf' => ?_⟩
   ·show (M.set ((j : Int)).toNat r).length = _
    rw [List.length_set]; exact hlen
   ·show (M.set ((j : Int)).toNat r)[i]? = _
    rw [Int.toNat_natCast]
    by_cases hij : i = j
    ·subst hij
     rw [hge] at hD
     cases hD
     exact absurd hq hne
    ·rw [List.getElem?_set_ne (fun h => hij h.symm)]
     exact hoth i D hD hne
   ·have hf' : (f && decide (r ≤ most)) = true := hf'
    rw [Bool.and_eq_true, decide_eq_true_eq] at hf'
    obtain ⟨m, h1, h2, V, h3, h4, h5, h6⟩ := hI hf'.1
    have hwr : w64 ((zC ⟨b, (s : Int), 0⟩).Room - now) = (zC ⟨b, (s : Int), 0⟩).Room - now := z7 (by omega) (by omega)
    have hwp : w64 (now + r) = now + r := z7 (by omega) (by omega)
    have hwm : w64 (now - r) = now - r := z7 (by omega) (by omega)
    rw [hwr] at hmost
    have hv : ∃ n : Int, cond b.Moves.1[j].Back (w64 (now + r)) (w64 (now - r)) = n ∧ 0 ≤ n ∧ n ≤ (zC ⟨b, (s : Int), 0⟩).Room ∧ n - now = (if b.Moves.1[j].Back = true then r else -r) := by
     rw [hwp, hwm]
     cases hb : b.Moves.1[j].Back with
     | true => rw [hb] at hmost; simp only [cond_true] at hmost ⊢; exact ⟨_, rfl, by omega, by omega, by simp; omega⟩
     | false => rw [hb] at hmost; simp only [cond_false] at hmost ⊢; exact ⟨_, rfl, by omega, by omega, by simp; omega⟩
    obtain ⟨n, hn1, hn2, hn3, hn4⟩ := hv
    refine ⟨n.toNat, by show cond b.Moves.1[j].Back (w64 (now + r)) (w64 (now - r)) = _; rw [hn1]; omega, by omega, zth V (L0 ++ cat (evMg ⟨b, (s : Int), 0⟩ (e : Int)) (b.Moves.1.take j)).length n, ?_, ?_, hG.further (by rw [List.length_append]; omega) h5, fun i D hi hD hs' he' => ?_⟩
    ·rw [hcs, ← List.append_assoc]
     refine zLp h3 ?_ ?_
     ·rw [h4, ← h1, hn4]
      unfold InS
      cases hb : b.Moves.1[j].Back <;> simp <;> omega
     ·unfold InS; simp only; omega
    ·rw [hcs, ← List.append_assoc, List.length_append (bs := [_]), List.length_singleton, zgi (by omega)]
     omega
    ·by_cases hij : i = j
     ·subst hij
      rw [hge] at hD
      cases hD
      refine ⟨r, ?_, ?_⟩
      ·show (M.set ((i : Int)).toNat r)[i]? = some r
       rw [Int.toNat_natCast, List.getElem?_set_self (by omega)]
      ·rw [← List.length_append, zgi (by omega), zFd (Nat.le_refl _), h4, ← h1, hn4]
     ·have hi' : i < j := by omega
      obtain ⟨t', t1, t2⟩ := h6 i D hi' hD hs' he'
      refine ⟨t', ?_, ?_⟩
      ·show (M.set ((j : Int)).toNat r)[i]? = some t'
       rw [Int.toNat_natCast, List.getElem?_set_ne (fun h => hij h.symm)]
       exact t1
      ·have hgi : (evMg ⟨b, (s : Int), 0⟩ (e : Int) D i).length = 1 := by
        unfold evMg
        rw [if_pos ⟨hs', he'⟩]; rfl
       have hiL := (List.getElem?_eq_some_iff.1 hD).1
       have hDi : b.Moves.1[i] = D := (List.getElem?_eq_some_iff.1 hD).2
       have h7 := zag (evMg ⟨b, (s : Int), 0⟩ (e : Int)) hiL
       rw [hDi] at h7
       have h8 := congrArg List.length h7
       rw [List.length_append, hgi] at h8
       have h9 := zyo (evMg ⟨b, (s : Int), 0⟩ (e : Int)) b.Moves.1 (i + 1) j (by omega)
       rw [zFd (by rw [List.length_append]; omega), zFd (by rw [List.length_append]; omega)]
       exact t2
  ·have hg : evMg ⟨b, (s : Int), 0⟩ (e : Int) b.Moves.1[j] j = [] := by
    unfold evMg
    rw [if_neg hq]
   rw [hg, List.append_nil] at hcs
   rw [show (b.Moves.1[j].Shelf != (s : Int) || b.Moves.1[j].Day != (e : Int)) = true by
    rw [Bool.or_eq_true, bne_iff_ne, bne_iff_ne]
    by_cases h : b.Moves.1[j].Shelf = (s : Int)
    ·exact .inr fun h' => hq ⟨h, h'⟩
    ·exact .inl h, cond_true]
   refine Ok.pure ⟨rfl, hlen, hoth, fun hf' => ?_⟩
   obtain ⟨m, h1, h2, V, h3, h4, h5, h6⟩ := hI hf'
   refine ⟨m, h1, h2, V, by rw [hcs]; exact h3, by rw [hcs]; exact h4, h5, fun i D hi hD hs' he' => ?_⟩
   by_cases hij : i = j
   ·subst hij
    rw [hge] at hD
    cases hD
    exact absurd ⟨hs', he'⟩ hq
   ·exact h6 i D (by omega) hD hs' he'
 ·rintro ⟨nx, f, now, j', M⟩ ⟨hj', hlen, hoth, hI⟩
  have hj2 : j' = (b.Moves.1.length : Int) := hj'
  have c1 : decide (j' < (b.Moves.1.length : Int)) = false := by simp only [decide_eq_false_iff_not]; omega
  simp only [zHb, c1, cond_false]
  rw [List.take_length] at hI
  exact Ok.pure ⟨hlen, hoth, hI⟩
 ·obtain ⟨m, h1, h2, V, h3, h4, h5⟩ := h0 h
  exact ⟨m, h1, h2, V, by simpa [cat] using h3, by simpa [cat] using h4, h5, fun i D hi => by omega⟩
end
end Go.AM
set_option linter.unusedVariables false
namespace Go.AM
open Go
section
variable {b : za} {C C' : SL zo} {s : Int} {w : List Int}
theorem z0v (d : Int) : (z8c ⟨zEf b C, s, 0⟩ w d).length = (z8c ⟨zEf b C', s, 0⟩ w d).length := by
 unfold z8c
 rw [List.length_append, List.length_append (bs := [_])]
 rfl
theorem z0p : ∀ N, (evsL ⟨zEf b C, s, 0⟩ w N).length = (evsL ⟨zEf b C', s, 0⟩ w N).length
 | 0 => rfl
 | N + 1 => by rw [zAc, zAc, List.length_append, List.length_append, z0p N, z0v (C' := C')]
theorem zFq {V : Nat → Int} : ∀ N, zwg (evsL ⟨zEf b C, s, 0⟩ w N) V → (∀ d : Nat, d < N → InS (cntS ⟨zEf b C', s, 0⟩ (d : Int)) (V (evsL ⟨zEf b C, s, 0⟩ w (d + 1)).length)) → zwg (evsL ⟨zEf b C', s, 0⟩ w N) V
 | 0, h, _ => fun i e he => by simp [evsL] at he
 | N + 1, h, hc => by
  rw [zAc] at h ⊢
  obtain ⟨h1, h2⟩ := zKd.1 h
  refine zKd.2 ⟨zFq N h1 fun d hd => hc d (by omega), ?_⟩
  have hl := hc N (by omega)
  rw [zAc, List.length_append] at hl
  rw [← z0p (C := C) N]
  unfold z8c at h2 hl ⊢
  obtain ⟨h3, h4⟩ := zKd.1 h2
  refine zKd.2 ⟨h3, fun i e he => ?_⟩
  cases i with
  | succ i => simp at he
  | zero =>
   have he : some (evC ⟨zEf b C', s, 0⟩ (N : Int)) = some e := he
   cases he
   obtain ⟨h5, _⟩ := h4 0 _ rfl
   refine ⟨h5, ?_⟩
   rw [List.length_append, List.length_singleton] at hl
   exact hl
end
end Go.AM
set_option linter.unusedVariables false
namespace Go.AM
open Go
abbrev bare (b : za) (s : Nat) : zd := ⟨zEf b ([], .nil), (s : Int), 0⟩
theorem zNx (b : za) (s : Nat) (d : Int) : cntS (bare b s) d = ⟨0, (zC (bare b s)).Room⟩ := rfl
structure Told (b : za) (s : Nat) (w : List Int) (N : Nat) (row M : List Int) (V : Nat → Int) : Prop where
 row : ∀ d : Nat, d < N → row[d]? = some (V (evsL (bare b s) w (d + 1)).length)
 moved : ∀ d : Nat, d < N → zAt b s d ((evsL (bare b s) w d).length + (cat (evDg (bare b s) w (d : Int)) b.Deliveries.1).length) b.Moves.1.length M V
theorem zzu (x : zd) (w : List Int) : ∀ (d e : Nat), d ≤ e → (evsL x w d).length ≤ (evsL x w e).length := by
 intro d e h
 induction e with
 | zero =>
  obtain rfl : d = 0 := by omega
  exact Nat.le_refl _
 | succ e ih =>
  by_cases h' : d = e + 1
  ·subst h'; exact Nat.le_refl _
  ·rw [zAc, List.length_append]
   have := ih (by omega)
   omega
theorem zTt (b : za) (s : Nat) (w : List Int) (d : Nat) : (evsL (bare b s) w (d + 1)).length = (evsL (bare b s) w d).length + (cat (evDg (bare b s) w (d : Int)) b.Deliveries.1).length + (cat (evMg ⟨b, (s : Int), 0⟩ (d : Int)) b.Moves.1).length + 1 := by
 rw [zAc, List.length_append]
 unfold z8c
 rw [List.length_append, List.length_append, List.length_singleton]
 show _ + ((cat (evDg (bare b s) w (d : Int)) b.Deliveries.1).length + (cat (evMg ⟨b, (s : Int), 0⟩ (d : Int)) b.Moves.1).length + 1) = _
 omega
theorem znt (b : za) (s : Nat) (w : List Int) (N : Nat) (row M : List Int) : UpTo (evsL (bare b s) w N).length (Told b s w N row M) := by
 intro V V' hV h
 refine ⟨fun d hd => ?_, fun d hd i D hi hD hs he => ?_⟩
 ·rw [hV _ (zzu _ _ _ _ (by omega))]
  exact h.row d hd
 ·obtain ⟨t, h1, h2⟩ := h.moved d hd i D hi hD hs he
  refine ⟨t, h1, ?_⟩
  have h3 := zzu (bare b s) w (d + 1) N (by omega)
  have h4 := zTt b s w d
  have h5 := zag (evMg ⟨b, (s : Int), 0⟩ (d : Int)) hi
  have h6 := zyo (evMg ⟨b, (s : Int), 0⟩ (d : Int)) b.Moves.1 (i + 1) b.Moves.1.length (by omega)
  rw [List.take_length] at h6
  have h7 := zyo (evMg ⟨b, (s : Int), 0⟩ (d : Int)) b.Moves.1 i (i + 1) (by omega)
  rw [hV _ (by omega), hV _ (by omega)]
  exact h2
section
variable {b : za} {k : Nat}
theorem zPv (hf : Fine b) (hk : 5000 < k) {l : SL Int} (hl : l.1.length < 9223372036854775808) {s : Nat} (hs : s < b.Shelves.1.length) {v1 : Int × Int × (List Int)} (hw : zXn b v1.2.2) (a1 : List (SL Int)) (nx0 : Int) {f0 : Bool} {now0 : Int} {M0 : List Int} (hM0 : M0.length = b.Moves.1.length) {P : Prop} (h0 : f0 = true → P)
  (hnow : InS (zC (bare b s)).Begin now0) :
  Ok (iter (fun z => zIb k b l v1 (s : Int) a1 (zC (bare b s)) z.1 z.2.1 z.2.2.1 z.2.2.2.1 z.2.2.2.2.1 z.2.2.2.2.2) k (nx0, f0, now0, 0, M0, ([] : List Int)))
   (fun r => r.2.2.2.2.1.length = b.Moves.1.length ∧ r.2.2.2.2.2.length = b.Days.toNat ∧ (∀ (i : Nat) D, b.Moves.1[i]? = some D → D.Shelf ≠ (s : Int) → r.2.2.2.2.1[i]? = M0[i]?) ∧
    (r.2.1 = true → P ∧ ∃ V, zfe (zC (bare b s)).Begin (evsL (bare b s) v1.2.2 b.Days.toNat) V ∧ Told b s v1.2.2 b.Days.toNat r.2.2.2.2.2 r.2.2.2.2.1 V)) := by
 have hdays := hf.days
 have hx : On (⟨b, (s : Int), 0⟩ : zd) := onL hf (by omega) (by omega) (L := 0) (by omega)
 have hsh := hx.shelf
 have hD : ((b.Days.toNat : Nat) : Int) = b.Days := by omega
 refine Ok.count b.Days.toNat (fun j z => z.2.2.2.1 = (j : Int) ∧ z.2.2.2.2.1.length = b.Moves.1.length ∧ z.2.2.2.2.2.length = j ∧ (∀ (i : Nat) D, b.Moves.1[i]? = some D → D.Shelf ≠ (s : Int) → z.2.2.2.2.1[i]? = M0[i]?) ∧
  Well ⟨b, (s : Int), 0⟩ z.2.1 z.2.2.1 fun m => ∃ V, zfe (zC (bare b s)).Begin (evsL (bare b s) v1.2.2 j) V ∧ V (evsL (bare b s) v1.2.2 j).length = (m : Int) ∧ (P ∧ Told b s v1.2.2 j z.2.2.2.2.2 z.2.2.2.2.1 V)) ?_ ?_ ⟨rfl, hM0, rfl, fun i D _ _ => rfl, fun h => ?_⟩ (by omega)
 ·rintro j ⟨nx, f, now, d, M, row⟩ hj ⟨hj', hlen, hrl, hoth, hI⟩
  obtain rfl : d = (j : Int) := hj'
  have hlen : M.length = b.Moves.1.length := hlen
  have hrl : row.length = j := hrl
  have hoth : ∀ (i : Nat) D, b.Moves.1[i]? = some D → D.Shelf ≠ (s : Int) → M[i]? = M0[i]? := hoth
  have hI : Well ⟨b, (s : Int), 0⟩ f now fun m => ∃ V, zfe (zC ⟨b, (s : Int), 0⟩).Begin (evsL (bare b s) v1.2.2 j) V ∧ V (evsL (bare b s) v1.2.2 j).length = (m : Int) ∧ (P ∧ Told b s v1.2.2 j row M V) := hI
  have c1 : decide ((j : Int) < b.Days) = true := decide_eq_true (by omega)
  have hsucc : w64 ((j : Int) + 1) = ((j + 1 : Nat) : Int) := by rw [z7 (by omega) (by omega)]; push_cast; rfl
  have hup : UpTo (evsL (bare b s) v1.2.2 j).length (fun V => P ∧ Told b s v1.2.2 j row M V) := fun V V' hV h => ⟨h.1, znt b s v1.2.2 j row M V V' hV h.2⟩
  have hlim : row.length + 1 ≤ 1000000 := by omega
  simp only [zIb, c1, cond_true, hsucc, zQk hlim]
  refine Ok.bind (zsw hf hk hl hs hw a1 M row nx hup hI) fun r1 hr1 => ?_
  have hup2 : UpTo (evsL (bare b s) v1.2.2 j ++ cat (evDg ⟨b, (s : Int), 0⟩ v1.2.2 (j : Int)) b.Deliveries.1).length (fun V => P ∧ Told b s v1.2.2 j row M V) := fun V V' hV h => hup V V' (fun i hi => hV i (by rw [List.length_append]; omega)) h
  refine Ok.bind (zTv hf hk hl hs v1 a1 row r1 r1.1 hlen hup2 hr1) fun r2 hr2 => ?_
  obtain ⟨q1, q2, q3⟩ := hr2
  refine Ok.pure ⟨rfl, q1, by show (row ++ [r2.2.2.1]).length = j + 1; simp; omega, fun i D hD' hne => ?_, fun hf' => ?_⟩
  ·exact (q2 i D hD' fun h => hne h.1).trans (hoth i D hD' hne)
  ·obtain ⟨m, h1, h2, V, h3, h4, ⟨hP, h5⟩, h6⟩ := q3 hf'
   have hlL := zTt b s v1.2.2 j
   have hev : evsL (bare b s) v1.2.2 (j + 1) = (evsL (bare b s) v1.2.2 j ++ cat (evDg ⟨b, (s : Int), 0⟩ v1.2.2 (j : Int)) b.Deliveries.1 ++ cat (evMg ⟨b, (s : Int), 0⟩ (j : Int)) b.Moves.1) ++ [evC (bare b s) (j : Int)] := by
    rw [zAc, List.append_assoc, List.append_assoc]
    unfold z8c
    rw [List.append_assoc]
    rfl
   refine ⟨m, h1, h2, zth V (evsL (bare b s) v1.2.2 j ++ cat (evDg ⟨b, (s : Int), 0⟩ v1.2.2 (j : Int)) b.Deliveries.1 ++ cat (evMg ⟨b, (s : Int), 0⟩ (j : Int)) b.Moves.1).length m, ?_, ?_, hP, ?_⟩
   ·rw [hev]
    refine zLp h3 ?_ ?_
    ·rw [h4]
     unfold InS evC
     simp
    ·unfold evC InS
     rw [zNx]
     exact ⟨by simp, h2⟩
   ·rw [hev, List.length_append (bs := [_]), List.length_singleton, zgi (by omega)]
   ·generalize hLL : (evsL (bare b s) v1.2.2 j ++ cat (evDg ⟨b, (s : Int), 0⟩ v1.2.2 (j : Int)) b.Deliveries.1 ++ cat (evMg ⟨b, (s : Int), 0⟩ (j : Int)) b.Moves.1).length = LL at *
    have hLL2 : LL = (evsL (bare b s) v1.2.2 j).length + (cat (evDg ⟨b, (s : Int), 0⟩ v1.2.2 (j : Int)) b.Deliveries.1).length + (cat (evMg ⟨b, (s : Int), 0⟩ (j : Int)) b.Moves.1).length := by
     rw [← hLL, List.length_append, List.length_append]
    have h5' : Told b s v1.2.2 j row M (zth V LL m) := znt b s v1.2.2 j row M V _ (fun i hi => zFd (by omega)) h5
    refine ⟨fun d hd => ?_, fun d hd i D hi hD' hs' he' => ?_⟩
    ·show (row ++ [r2.2.2.1])[d]? = _
     by_cases e : d = j
     ·subst e
      rw [List.getElem?_append_right (by omega), hrl, Nat.sub_self, h1]
      rw [zgi (by rw [hlL]; show LL < _ + (cat (evDg ⟨b, (s : Int), 0⟩ v1.2.2 (d : Int)) b.Deliveries.1).length + _ + 1; omega)]
      rfl
     ·rw [List.getElem?_append_left (by omega)]
      exact h5'.row d (by omega)
    ·by_cases e : d = j
     ·subst e
      obtain ⟨t, t1, t2⟩ := h6 i D hi hD' hs' he'
      refine ⟨t, t1, ?_⟩
      have h7 := zag (evMg ⟨b, (s : Int), 0⟩ (d : Int)) hi
      have h8 := congrArg List.length h7
      have h9 := zyo (evMg ⟨b, (s : Int), 0⟩ (d : Int)) b.Moves.1 (i + 1) b.Moves.1.length (by omega)
      rw [List.take_length] at h9
      have h10 : (evMg ⟨b, (s : Int), 0⟩ (d : Int) b.Moves.1[i] i).length = 1 := by
       have hDi : b.Moves.1[i] = D := (List.getElem?_eq_some_iff.1 hD').2
       unfold evMg
       rw [hDi, if_pos ⟨hs', he'⟩]; rfl
      rw [List.length_append, h10] at h8
      rw [List.length_append] at t2
      show zth V LL m ((evsL (bare b s) v1.2.2 d).length + (cat (evDg ⟨b, (s : Int), 0⟩ v1.2.2 (d : Int)) b.Deliveries.1).length + (cat (evMg ⟨b, (s : Int), 0⟩ (d : Int)) (b.Moves.1.take i)).length + 1) - zth V LL m ((evsL (bare b s) v1.2.2 d).length + (cat (evDg ⟨b, (s : Int), 0⟩ v1.2.2 (d : Int)) b.Deliveries.1).length + (cat (evMg ⟨b, (s : Int), 0⟩ (d : Int)) (b.Moves.1.take i)).length) = _
      rw [zFd (by omega), zFd (by omega)]
      exact t2
     ·obtain ⟨t, t1, t2⟩ := h5'.moved d (by omega) i D hi hD' hs' he'
      refine ⟨t, (q2 i D hD' ?_).trans t1, t2⟩
      rintro ⟨_, h⟩
      rw [he'] at h
      omega
 ·rintro ⟨nx, f, now, d, M, row⟩ ⟨hj', hlen, hrl, hoth, hI⟩
  obtain rfl : d = ((b.Days.toNat : Nat) : Int) := hj'
  have c1 : decide (((b.Days.toNat : Nat) : Int) < b.Days) = false := by simp only [decide_eq_false_iff_not]; omega
  simp only [zIb, c1, cond_false]
  refine Ok.pure ⟨hlen, hrl, hoth, fun hf' => ?_⟩
  obtain ⟨m, h1, h2, V, h3, h4, h5, h6⟩ := hI hf'
  exact ⟨h5, V, h3, h6⟩
 ·unfold InS at hnow
  have hb2 : 0 ≤ (zC (bare b s)).Begin.Low ∧ (zC (bare b s)).Begin.High ≤ (zC (bare b s)).Room := ⟨hsh.2.1, hsh.2.2.2⟩
  refine ⟨now0.toNat, by show now0 = _; omega, by show ((now0.toNat : Nat) : Int) ≤ (zC (bare b s)).Room; omega, fun _ => now0, ⟨hnow, fun i e he => by simp [evsL] at he⟩, by show now0 = _; omega, h0 h, fun d hd => by omega, fun d hd => by omega⟩
end
end Go.AM
set_option linter.unusedVariables false
namespace Go.AM
open Go
theorem zyz {b : za} {s : Nat} {w : List Int} {N : Nat} {row M M' : List Int} {V : Nat → Int} (h : Told b s w N row M V) (e : ∀ (i : Nat) D, b.Moves.1[i]? = some D → D.Shelf = (s : Int) → M'[i]? = M[i]?) : Told b s w N row M' V := by
 refine ⟨h.row, fun d hd i D hi hD hs he => ?_⟩
 obtain ⟨t, h1, h2⟩ := h.moved d hd i D hi hD hs he
 exact ⟨t, by rw [e i D hD hs]; exact h1, h2⟩
def zto (b : za) (w M : List Int) (S : List (SL Int)) (s : Nat) : Prop :=
 ∃ V row κ, S[s]? = some (row, κ) ∧ row.length = b.Days.toNat ∧ zfe (zC (bare b s)).Begin (evsL (bare b s) w b.Days.toNat) V ∧ Told b s w b.Days.toNat row M V
theorem zSw {b : za} (hf : Fine b) : Fine (zEf b ([], .nil)) := zvr hf (by simp) (by simp)
theorem zgt {b : za} (hf : Fine b) {w : List Int} {s : Nat} (hs : s < b.Shelves.1.length) {V : Nat → Int} (hp : zfe (zC (bare b s)).Begin (evsL (bare b s) w b.Days.toNat) V) {d : Nat} (hd : d < b.Days.toNat) : 0 ≤ V (evsL (bare b s) w (d + 1)).length ∧ V (evsL (bare b s) w (d + 1)).length ≤ (zC (bare b s)).Room ∧ (zC (bare b s)).Room ≤ 60 := by
 have hx : On (bare b s) := onL (zSw hf) (by omega) (by show (s : Int) ≤ (b.Shelves.1.length : Int) - 1; omega) (L := 0) (by omega)
 have h1 := zso hx (w := w) (V := V) hp (evsL (bare b s) w (d + 1)).length (zio _ _ (by show d + 1 ≤ b.Days.toNat; omega))
 have h2 := hx.shelf.1.2
 exact ⟨h1.1, h1.2, h2⟩
section
variable {b : za} {k : Nat}
theorem zoy (hf : Fine b) (hk : 5000 < k) {l : SL Int} (hl : l.1.length < 9223372036854775808) {v1 : Int × Int × (List Int)} (hw : zXn b v1.2.2) (nx0 : Int) {M0 : List Int} (hM0 : M0.length = b.Moves.1.length) :
  Ok (iter (fun z => zVb k b l v1 z.1 z.2.1 z.2.2.1 z.2.2.2.1 z.2.2.2.2) k (nx0, true, 0, ([] : List (SL Int)), M0))
   (fun r => r.2.1 = true → ∀ s, s < b.Shelves.1.length → zto b v1.2.2 r.2.2.2.2 r.2.2.2.1 s) := by
 have hns := hf.nshelves
 refine Ok.count b.Shelves.1.length (fun j z => z.2.2.1 = (j : Int) ∧ z.2.2.2.1.length = j ∧ z.2.2.2.2.length = b.Moves.1.length ∧ (z.2.1 = true → ∀ s, s < j → zto b v1.2.2 z.2.2.2.2 z.2.2.2.1 s)) ?_ ?_ ⟨rfl, rfl, hM0, fun _ s h => by omega⟩ (by omega)
 ·rintro j ⟨nx, f, j', S, M⟩ hj ⟨hj', hSl, hMl, hI⟩
  obtain rfl : j' = (j : Int) := hj'
  have hSl : S.length = j := hSl
  have hMl : M.length = b.Moves.1.length := hMl
  have hI : f = true → ∀ s, s < j → zto b v1.2.2 M S s := hI
  have hx : On (⟨b, (j : Int), 0⟩ : zd) := onL hf (by omega) (by omega) (L := 0) (by omega)
  have hsh := hx.shelf
  have hidx : idx b.Shelves.1 (j : Int) = some (zC (bare b j)) := hx.idx
  have hsucc := z6 hj (by omega : b.Shelves.1.length < 9223372036854775808)
  have hlim : S.length + 1 ≤ 1000000 := by omega
  have hb1 : 0 ≤ (zC (bare b j)).Begin.Low := hsh.2.1
  have hb2 : (zC (bare b j)).Begin.Low ≤ (zC (bare b j)).Begin.High := hsh.2.2.1
  have hb3 : (zC (bare b j)).Begin.High ≤ (zC (bare b j)).Room := hsh.2.2.2
  have hb4 : (zC (bare b j)).Room ≤ 60 := hsh.1.2
  simp only [zVb, zrb hj, cond_true, hidx, Option.bind_some, hsucc, zQk hlim]
  refine Ok.bind (zko hl _) fun t _ => ?_
  refine Ok.bind (zMp (by omega) (by omega) (by omega) (by omega) t) fun n0 hn0 => ?_
  refine Ok.bind (zPv hf hk hl hj hw S _ hMl hI ⟨hn0.1, hn0.2.1 hb2⟩) fun r hr => ?_
  obtain ⟨q1, q2, q3, q4⟩ := hr
  refine Ok.pure ⟨rfl, by show (S ++ [_]).length = j + 1; simp; omega, q1, fun hf' s hs => ?_⟩
  obtain ⟨hP, V, h3, h4⟩ := q4 hf'
  show zto b v1.2.2 r.2.2.2.2.1 (S ++ [(r.2.2.2.2.2, _)]) s
  by_cases e : s = j
  ·subst e
   exact ⟨V, r.2.2.2.2.2, _, by rw [List.getElem?_append_right (by omega), hSl, Nat.sub_self]; rfl, q2, h3, h4⟩
  ·obtain ⟨V', row, κ, g1, g2, g3, g4⟩ := hP s (by omega)
   exact ⟨V', row, κ, by rw [List.getElem?_append_left (by omega)]; exact g1, g2, g3, zyz g4 fun i D hD hs' => q3 i D hD (by omega)⟩
 ·rintro ⟨nx, f, j', S, M⟩ ⟨hj', hSl, hMl, hI⟩
  obtain rfl : j' = (b.Shelves.1.length : Int) := hj'
  have c1 : decide ((b.Shelves.1.length : Int) < (b.Shelves.1.length : Int)) = false := by simp
  simp only [zVb, c1, cond_false]
  exact Ok.pure hI
def zKs (b : za) (S : List (SL Int)) (c c' : zo) : Prop :=
 c'.Day = c.Day ∧ c'.Shelf = c.Shelf ∧ c'.Err = c.Err ∧ (0 ≤ c'.Read ∧ c'.Read ≤ 60) ∧ ∃ row κ n, S[c.Shelf.toNat]? = some (row, κ) ∧ row[c.Day.toNat]? = some n ∧ c'.Read - c.Err ≤ n ∧ n ≤ c'.Read + c.Err
theorem zyv (hf : Fine b) (hk : 5000 < k) {l : SL Int} (hl : l.1.length < 9223372036854775808) {v1 : Int × Int × (List Int)} {v4 : Int × Bool × Int × (List (SL Int)) × (List Int)} (h4 : v4.2.1 = true → ∀ s, s < b.Shelves.1.length → zto b v1.2.2 v4.2.2.2.2 v4.2.2.2.1 s) :
  Ok (iter (fun z => zpb k b l v1 v4 z.1 z.2) k (0, ([] : List zo)))
   (fun r => v4.2.1 = true → r.2.length = b.Counts.1.length ∧ ∀ (i : Nat) c', r.2[i]? = some c' → ∃ c, b.Counts.1[i]? = some c ∧ zKs b v4.2.2.2.1 c c') := by
 have hn := hf.ncounts
 have hdays := hf.days
 obtain ⟨q0, f, q1, S, M⟩ := v4
 cases f with
 | false =>
  refine Ok.count 0 (fun _ _ => True) (fun j s h => by omega) ?_ trivial (by omega)
  rintro ⟨i, C⟩ _
  simp only [zpb, zhb, cond_false, Option.bind_some]
  exact Ok.pure fun h => by cases h
 | true =>
  have h4 : ∀ s, s < b.Shelves.1.length → zto b v1.2.2 M S s := h4 rfl
  refine Ok.count b.Counts.1.length (fun j z => z.1 = (j : Int) ∧ z.2.length = j ∧ ∀ (i : Nat) c', z.2[i]? = some c' → ∃ c, b.Counts.1[i]? = some c ∧ zKs b S c c') ?_ ?_ ⟨rfl, rfl, fun i c' h => by simp at h⟩ (by omega)
  ·rintro j ⟨j', C⟩ hj ⟨hj', hCl, hI⟩
   obtain rfl : j' = (j : Int) := hj'
   have hCl : C.length = j := hCl
   have hI : ∀ (i : Nat) c', C[i]? = some c' → ∃ c, b.Counts.1[i]? = some c ∧ zKs b S c c' := hI
   have hge := List.getElem?_eq_getElem hj
   have hfc := hf.counts _ (List.getElem_mem hj)
   have hsucc := z6 hj (by omega : b.Counts.1.length < 9223372036854775808)
   have hlim : C.length + 1 ≤ 1000000 := by omega
   have hJ : zhb k b l v1 (q0, true, q1, S, M) (j : Int) C = some true := by
    unfold zhb
    simp only [cond_true, zrb hj]
   obtain ⟨⟨c1, c2⟩, ⟨c3, c4⟩, ⟨c5, c6⟩, c7, c8⟩ := hfc
   generalize hcc : b.Counts.1[j] = c at *
   obtain ⟨V, row, κ, g1, g2, g3, g4⟩ := h4 c.Shelf.toNat (by omega)
   have g5 := g4.row c.Day.toNat (by omega)
   have g6 := zgt hf (by omega) g3 (show c.Day.toNat < b.Days.toNat by omega)
   generalize V (evsL (bare b c.Shelf.toNat) v1.2.2 (c.Day.toNat + 1)).length = n at *
   obtain ⟨g7, g8⟩ := List.getElem?_eq_some_iff.1 g1
   have i1 : idx S c.Shelf = some (row, κ) := by
    rw [show c.Shelf = ((c.Shelf.toNat : Nat) : Int) by omega, zab g7, g8]
   obtain ⟨g9, g10⟩ := List.getElem?_eq_some_iff.1 g5
   have i2 : idx row c.Day = some n := by
    rw [show c.Day = ((c.Day.toNat : Nat) : Int) by omega, zab g9, g10]
   have w1 : w64 (0 - c.Err) = -c.Err := by rw [z7 (by omega) (by omega)]; omega
   simp only [zpb, hJ, Option.bind_some, cond_true, zab hj, hcc, i1, i2, zdw, w1, hsucc, zQk hlim]
   refine Ok.bind (zko hl _) fun t _ => ?_
   refine Ok.bind (zMp (by show -1000 ≤ -c.Err; omega) (by show -c.Err ≤ 1000; omega) (by show -1000 ≤ c.Err; omega) (by show c.Err ≤ 1000; omega) t) fun r hr => ?_
   have hr1 : -c.Err ≤ r := hr.1
   have hr2 : r ≤ c.Err := hr.2.1 (by show -c.Err ≤ c.Err; omega)
   have w2 : w64 (n + r) = n + r := z7 (by omega) (by omega)
   rw [w2]
   refine Ok.pure ⟨rfl, by show (C ++ [_]).length = j + 1; simp; omega, fun i c' hc' => ?_⟩
   by_cases e : i = j
   ·subst e
    have hc' : (C ++ [_])[i]? = some c' := hc'
    rw [List.getElem?_append_right (by omega), hCl, Nat.sub_self] at hc'
    cases hc'
    refine ⟨c, by rw [hge], rfl, rfl, rfl, ?_, row, κ, n, g1, g5, ?_⟩
    ·simp only
     split <;> split <;> omega
    ·simp only
     split <;> split <;> omega
   ·have hc' : (C ++ [_])[i]? = some c' := hc'
    have hlt := (List.getElem?_eq_some_iff.1 hc').1
    rw [List.length_append, List.length_singleton] at hlt
    rw [List.getElem?_append_left (by omega)] at hc'
    exact hI i c' hc'
  ·rintro ⟨j', C⟩ ⟨hj', hCl, hI⟩
   obtain rfl : j' = (b.Counts.1.length : Int) := hj'
   have c1 : decide ((b.Counts.1.length : Int) < (b.Counts.1.length : Int)) = false := by simp
   have hJ : zhb k b l v1 (q0, true, q1, S, M) (b.Counts.1.length : Int) C = some false := by
    unfold zhb
    simp only [cond_true, c1]
   simp only [zpb, hJ, Option.bind_some, cond_false]
   exact Ok.pure fun _ => ⟨hCl, hI⟩
structure ztg (b y : za) (x : z5b) : Prop where
 days : zXn b x.days.1
 counts : ∃ C : List zo, y = zEf b (C, rcap true C) ∧ C.length ≤ 8
 fine : Fine y
 shelf : ∀ s, s < b.Shelves.1.length → ∃ V row κ, x.stocks.1[s]? = some (row, κ) ∧ row.length = b.Days.toNat ∧ zfe (zC (bare b s)).Begin (evsL ⟨y, (s : Int), 0⟩ x.days.1 b.Days.toNat) V ∧ Told b s x.days.1 b.Days.toNat row x.moved.1 V
theorem zSu (hf : Fine b) (hk : 5000 < k) {l : SL Int} (hl : l.1.length < 9223372036854775808) :
  Ok (zhd k b l) (fun r => r.2.2 = true → ztg b r.2.1 r.1) := by
 have hnm := hf.nmoves
 unfold zhd
 refine Ok.bind (zTu hf hk hl) fun v1 hv1 => ?_
 have c1 : (decide (0 ≤ (b.Moves.1.length : Int)) && decide ((b.Moves.1.length : Int) ≤ (LIM : Int))) = true := by
  rw [Bool.and_eq_true, decide_eq_true_eq, decide_eq_true_eq]
  exact ⟨by omega, by show _ ≤ (1073741824 : Int); omega⟩
 rw [c1, cond_true]
 refine Ok.bind (zoy hf hk hl hv1 v1.1 (M0 := List.replicate (b.Moves.1.length : Int).toNat 0) (by simp)) fun v4 hv4 => ?_
 refine Ok.bind (zyv hf hk hl hv4) fun v6 hv6 => ?_
 refine Ok.pure fun hf' => ?_
 have hf' : v4.2.1 = true := hf'
 have h4 := hv4 hf'
 obtain ⟨h5, h6⟩ := hv6 hf'
 have hfy : Fine (zEf b (v6.2, rcap true v6.2)) := by
  refine zvr hf (by show v6.2.length ≤ 8; have := hf.ncounts; omega) fun c' hc' => ?_
  obtain ⟨i, hi, he⟩ := List.getElem_of_mem hc'
  obtain ⟨c, g1, g2, g3, g4, g5, _⟩ := h6 i c' (by rw [List.getElem?_eq_getElem hi, he])
  obtain ⟨⟨c1, c2⟩, ⟨c3, c4⟩, ⟨c5, c6⟩, c7, c8⟩ := hf.counts c (List.mem_of_getElem? g1)
  exact ⟨⟨by omega, by omega⟩, ⟨by omega, by omega⟩, g5, by omega, by omega⟩
 refine ⟨hv1, ⟨_, rfl, by show v6.2.length ≤ 8; have := hf.ncounts; omega⟩, hfy, fun s hs => ?_⟩
 obtain ⟨V, row, κ, g1, g2, g3, g4⟩ := h4 s hs
 refine ⟨V, row, κ, g1, g2, ⟨g3.1, zFq (C := ([], .nil)) _ g3.2 fun d hd => ?_⟩, g4⟩
 have hr := zgt hf hs g3 hd
 have hrow := g4.row d hd
 generalize hn : V (evsL (bare b s) v1.2.2 (d + 1)).length = n at *
 obtain ⟨m, rfl⟩ : ∃ m : Nat, n = m := ⟨n.toNat, by omega⟩
 rw [zIs]
 refine ⟨hr.2.1, ?_⟩
 rw [zgy]
 intro c' hc' hd' hs'
 obtain ⟨i, hi, he⟩ := List.getElem_of_mem hc'
 obtain ⟨c, k1, k2, k3, k4, k5, row', κ', n', k6, k7, k8⟩ := h6 i c' (by rw [List.getElem?_eq_getElem hi, he])
 have e1 : c.Shelf.toNat = s := by omega
 have e2 : c.Day.toNat = d := by omega
 rw [e1, g1] at k6
 cases k6
 rw [e2, hrow] at k7
 cases k7
 omega
end
end Go.AM
set_option linter.unusedVariables false
namespace Go.AM
open Go
def mvEv (x : zd) (M : zx) (m : Nat) : Ev := ⟨if M.Back = true then M.By else ⟨-M.By.High, -M.By.Low⟩, ⟨0, (zC x).Room⟩, (m : Int), -1⟩
def zAh (x : zd) (w : List Int) (M : zx) (m : Nat) : Nat := (evsL x w M.Day.toNat).length + (cat (evDg x w (M.Day.toNat : Nat)) x.ShelfBook.Deliveries.1).length + (cat (evMg x (M.Day.toNat : Nat)) (x.ShelfBook.Moves.1.take m)).length
theorem zNw {x : zd} {w : List Int} {d : Int} {e : Ev} (h : e ∈ cat (evDg x w d) x.ShelfBook.Deliveries.1) : e.move = -1 := by
 obtain ⟨i, D, _, he⟩ := zBs.1 h
 unfold evDg at he
 split at he
 ·rw [List.mem_singleton.1 he]
 ·cases he
theorem zsu {x : zd} {w : List Int} {m : Nat} : ∀ (N i : Nat) (e : Ev), (evsL x w N)[i]? = some e → e.move = (m : Int) → ∃ M, x.ShelfBook.Moves.1[m]? = some M ∧ M.Shelf = x.shelf ∧ i = zAh x w M m ∧ e = mvEv x M m
 | 0, i, e, h, _ => by simp [evsL] at h
 | N + 1, i, e, h, hm => by
  rw [zAc] at h
  by_cases hi : i < (evsL x w N).length
  ·rw [List.getElem?_append_left hi] at h
   exact zsu N i e h hm
  ·rw [List.getElem?_append_right (by omega)] at h
   unfold z8c at h
   by_cases h2 : i - (evsL x w N).length < (cat (evDg x w N) x.ShelfBook.Deliveries.1 ++ cat (evMg x N) x.ShelfBook.Moves.1).length
   ·rw [List.getElem?_append_left h2] at h
    by_cases h3 : i - (evsL x w N).length < (cat (evDg x w N) x.ShelfBook.Deliveries.1).length
    ·rw [List.getElem?_append_left h3] at h
     have := zNw (List.mem_of_getElem? h)
     omega
    ·rw [List.getElem?_append_right (by omega)] at h
     obtain ⟨j, M, hM, hle, hg⟩ := zUz _ _ _ _ _ rfl h
     unfold evMg at hg
     split at hg
     ·rename_i hc
      obtain ⟨h4, h5⟩ := List.getElem?_eq_some_iff.1 hg
      rw [List.length_singleton] at h4
      have h6 : i - (evsL x w N).length - (cat (evDg x w N) x.ShelfBook.Deliveries.1).length - (cat (evMg x N) (x.ShelfBook.Moves.1.take j)).length = 0 := by
       unfold evMg
       omega
      have h7 : e = ⟨if M.Back = true then M.By else ⟨-M.By.High, -M.By.Low⟩, ⟨0, (zC x).Room⟩, (j : Int), -1⟩ := by
       rw [← h5]
       have : ∀ (l : Ev) (t : Nat) (h : t < [l].length), [l][t] = l := fun l t h => by
        have : t = 0 := by simp at h; omega
        subst this; rfl
       exact this _ _ _
      have h8 : j = m := by rw [h7] at hm; have h9 : (j : Int) = m := hm; omega
      subst h8
      refine ⟨M, hM, hc.1, ?_, h7⟩
      have h9 : M.Day.toNat = N := by have := hc.2; omega
      unfold zAh
      rw [h9]
      change (cat (evMg x N) (x.ShelfBook.Moves.1.take j)).length ≤ _ at hle
      omega
     ·simp at hg
   ·rw [List.getElem?_append_right (by omega)] at h
    have := List.mem_of_getElem? h
    rw [List.mem_singleton.1 this] at hm
    have h9 : (-1 : Int) = m := hm
    omega
theorem zEq {x : zd} (w : List Int) {m N : Nat} {M : zx} (hM : x.ShelfBook.Moves.1[m]? = some M) (hs : M.Shelf = x.shelf) (h0 : 0 ≤ M.Day) (hN : M.Day.toNat < N) : (evsL x w N)[zAh x w M m]? = some (mvEv x M m) := by
 obtain ⟨l, hl⟩ := z7o x w (M.Day.toNat + 1) (N - (M.Day.toNat + 1))
 have e1 : M.Day.toNat + 1 + (N - (M.Day.toNat + 1)) = N := by omega
 rw [e1] at hl
 have hg : (evMg x (M.Day.toNat : Nat) M m)[0]? = some (mvEv x M m) := by
  unfold evMg mvEv
  rw [if_pos ⟨hs, by omega⟩]
  rfl
 have h1 := zOy (evMg x (M.Day.toNat : Nat)) hM hg
 have h1' := (List.getElem?_eq_some_iff.1 h1).1
 rw [hl, zAc]
 unfold z8c
 have hlen : zAh x w M m = (evsL x w M.Day.toNat).length + ((cat (evDg x w (M.Day.toNat : Nat)) x.ShelfBook.Deliveries.1).length + ((cat (evMg x (M.Day.toNat : Nat)) (x.ShelfBook.Moves.1.take m)).length + 0)) := by unfold zAh; omega
 rw [hlen, List.append_assoc, List.append_assoc, List.append_assoc, List.getElem?_append_right (by omega), Nat.add_sub_cancel_left, List.getElem?_append_right (by omega), Nat.add_sub_cancel_left, List.getElem?_append_left h1']
 exact h1
def Was (x : zd) (w : List Int) (V : Nat → Int) (M : zx) (m : Nat) (n : Int) : Prop := V (zAh x w M m + 1) - V (zAh x w M m) = if M.Back = true then n else -n
def zsh (b : za) (m : Nat) (n : Int) : Prop := ∃ M w V, b.Moves.1[m]? = some M ∧ Way ⟨b, M.Shelf, 0⟩ w ∧ zIh ⟨b, M.Shelf, 0⟩ w V ∧ Was ⟨b, M.Shelf, 0⟩ w V M m n
def zlj (M : zx) (m : Nat) (n : Int) (e : Ev) : Ev := if e.move = (m : Int) then ⟨if M.Back = true then ⟨n, n⟩ else ⟨-n, -n⟩, e.within, e.move, e.day⟩ else e
theorem z2u {b : za} {s l : Int} {m : Nat} {M : zx} {n : Int} {c : Cap} (hM : b.Moves.1[m]? = some M) (w : List Int) (N : Nat) : evsL ⟨zoe b m ⟨M.Day, M.Shelf, M.Back, ⟨n, n⟩⟩ c, s, l⟩ w N = (evsL ⟨b, s, l⟩ w N).map (zlj M m n) := by
 unfold evsL
 rw [List.map_flatMap]
 congr 1
 funext d
 unfold z8c
 rw [List.map_append, List.map_append]
 have e1 : (cat (evDg (⟨b, s, l⟩ : zd) w d) b.Deliveries.1).map (zlj M m n) = cat (evDg (⟨b, s, l⟩ : zd) w d) b.Deliveries.1 := by
  rw [zbm]
  refine z6m fun i a _ => ?_
  unfold evDg
  split
  ·simp only [List.map_cons, List.map_nil, zlj]
   rw [if_neg (by omega)]
  ·rfl
 have e2 : cat (evMg (⟨zoe b m ⟨M.Day, M.Shelf, M.Back, ⟨n, n⟩⟩ c, s, l⟩ : zd) d) (zoe b m ⟨M.Day, M.Shelf, M.Back, ⟨n, n⟩⟩ c).Moves.1 = (cat (evMg (⟨b, s, l⟩ : zd) d) b.Moves.1).map (zlj M m n) := by
  rw [zbm]
  refine zwv (by show (b.Moves.1.set m _).length = _; rw [List.length_set]) fun j a a' ha ha' => ?_
  have ha2 : (b.Moves.1.set m (⟨M.Day, M.Shelf, M.Back, ⟨n, n⟩⟩ : zx))[j]? = some a := ha
  rw [List.getElem?_set] at ha2
  by_cases e : m = j
  ·subst e
   rw [if_pos rfl, if_pos (List.getElem?_eq_some_iff.1 hM).1] at ha2
   cases ha2
   rw [hM] at ha'; cases ha'
   unfold evMg
   simp only
   split
   ·simp only [List.map_cons, List.map_nil, zlj, if_true]
    rfl
   ·rfl
  ·rw [if_neg e] at ha2
   rw [ha2] at ha'; cases ha'
   unfold evMg
   simp only
   split
   ·simp only [List.map_cons, List.map_nil, zlj]
    rw [if_neg (show ¬ (j : Int) = (m : Int) by omega)]
    rfl
   ·rfl
 have e3 : [evC (⟨zoe b m ⟨M.Day, M.Shelf, M.Back, ⟨n, n⟩⟩ c, s, l⟩ : zd) d] = [evC (⟨b, s, l⟩ : zd) d].map (zlj M m n) := by
  simp only [List.map_cons, List.map_nil, zlj]
  rw [if_neg (by show ¬ (-1 : Int) = m; omega)]
  rfl
 rw [e1, ← e2, ← e3]
 rfl
theorem zUu {b : za} (hf : Fine b) {m : Nat} {M : zx} {n : Int} {c : Cap} (hM : b.Moves.1[m]? = some M) (h1 : M.By.Low ≤ n) (h2 : n ≤ M.By.High) :
  zHh ⟨zoe b m ⟨M.Day, M.Shelf, M.Back, ⟨n, n⟩⟩ c, M.Shelf, 0⟩ ↔ zsh b m n := by
 have hMf := hf.moves _ (List.mem_of_getElem? hM)
 obtain ⟨hd1, hd2, hd3, hd4, hd5⟩ := hMf
 have hx : On (⟨zoe b m ⟨M.Day, M.Shelf, M.Back, ⟨n, n⟩⟩ c, M.Shelf, 0⟩ : zd) := by
  refine ⟨zFr hf ⟨hd1, hd2, ?_, Int.le_refl _, ?_⟩, hd2.1, ?_, Int.le_refl _, ?_⟩
  ·show 0 ≤ n; omega
  ·show n ≤ 60; omega
  ·show M.Shelf < (b.Shelves.1.length : Int); omega
  ·show (0 : Int) < _; omega
 have hdays := hf.days
 rw [zFm hx]
 have hmem : ∀ w i e, (evsL (⟨b, M.Shelf, 0⟩ : zd) w (Nd ⟨b, M.Shelf, 0⟩))[i]? = some e → e.move = (m : Int) → i = zAh ⟨b, M.Shelf, 0⟩ w M m ∧ e = mvEv ⟨b, M.Shelf, 0⟩ M m := by
  intro w i e he hm
  obtain ⟨M', h3, h4, h5, h6⟩ := zsu _ i e he hm
  have h3' : b.Moves.1[m]? = some M' := h3
  rw [hM] at h3'; cases h3'
  exact ⟨h5, h6⟩
 have hat : ∀ w, (evsL (⟨b, M.Shelf, 0⟩ : zd) w (Nd ⟨b, M.Shelf, 0⟩))[zAh ⟨b, M.Shelf, 0⟩ w M m]? = some (mvEv ⟨b, M.Shelf, 0⟩ M m) := fun w => zEq w hM rfl hd1.1 (by unfold Nd; show _ < b.Days.toNat; omega)
 have hway : ∀ w, Way (⟨zoe b m ⟨M.Day, M.Shelf, M.Back, ⟨n, n⟩⟩ c, M.Shelf, 0⟩ : zd) w ↔ Way ⟨b, M.Shelf, 0⟩ w := fun w => Iff.rfl
 have hp : ∀ w V, zIh (⟨zoe b m ⟨M.Day, M.Shelf, M.Back, ⟨n, n⟩⟩ c, M.Shelf, 0⟩ : zd) w V ↔ zIh ⟨b, M.Shelf, 0⟩ w V ∧ Was ⟨b, M.Shelf, 0⟩ w V M m n := by
  intro w V
  unfold zIh zfe
  have hev := z2u (s := M.Shelf) (l := 0) (n := n) (c := c) hM w (Nd ⟨b, M.Shelf, 0⟩)
  rw [show evsL (⟨zoe b m ⟨M.Day, M.Shelf, M.Back, ⟨n, n⟩⟩ c, M.Shelf, 0⟩ : zd) w (Nd ⟨zoe b m ⟨M.Day, M.Shelf, M.Back, ⟨n, n⟩⟩ c, M.Shelf, 0⟩) = evsL (⟨zoe b m ⟨M.Day, M.Shelf, M.Back, ⟨n, n⟩⟩ c, M.Shelf, 0⟩ : zd) w (Nd ⟨b, M.Shelf, 0⟩) from rfl, hev, zgx]
  rw [show (zC (⟨zoe b m ⟨M.Day, M.Shelf, M.Back, ⟨n, n⟩⟩ c, M.Shelf, 0⟩ : zd)) = zC (⟨b, M.Shelf, 0⟩ : zd) from rfl]
  constructor
  ·rintro ⟨h3, h4⟩
   refine ⟨⟨h3, fun i e he => ?_⟩, ?_⟩
   ·have h5 := h4 i e he
    unfold zlj at h5
    split at h5
    ·rename_i hm
     obtain ⟨_, rfl⟩ := hmem w i e he hm
     refine ⟨?_, h5.2⟩
     have h6 := h5.1
     unfold mvEv InS at *
     simp only at h6 ⊢
     cases hb : M.Back with
     | true => rw [hb] at h6; simp only [if_true] at h6 ⊢; omega
     | false => rw [hb] at h6; simp only [Bool.false_eq_true, if_false] at h6 ⊢; omega
    ·exact h5
   ·have h5 := h4 _ _ (hat w)
    unfold zlj at h5
    rw [if_pos (show (mvEv (⟨b, M.Shelf, 0⟩ : zd) M m).move = (m : Int) from rfl)] at h5
    have h6 := h5.1
    unfold Was InS at *
    simp only at h6
    cases hb : M.Back with
    | true => rw [hb] at h6; simp only [if_true] at h6 ⊢; omega
    | false => rw [hb] at h6; simp only [Bool.false_eq_true, if_false] at h6 ⊢; omega
  ·rintro ⟨⟨h3, h4⟩, h5⟩
   refine ⟨h3, fun i e he => ?_⟩
   have h6 := h4 i e he
   unfold zlj
   split
   ·rename_i hm
    obtain ⟨rfl, rfl⟩ := hmem w i e he hm
    refine ⟨?_, h6.2⟩
    unfold Was at h5
    unfold InS
    simp only
    cases hb : M.Back with
    | true => rw [hb] at h5; simp only [if_true] at h5 ⊢; omega
    | false => rw [hb] at h5; simp only [Bool.false_eq_true, if_false] at h5 ⊢; omega
   ·exact h6
 constructor
 ·rintro ⟨w, V, h3, h4⟩
  obtain ⟨h5, h6⟩ := (hp w V).1 h4
  exact ⟨M, w, V, hM, (hway w).1 h3, h5, h6⟩
 ·rintro ⟨M', w, V, h3, h4, h5, h6⟩
  rw [hM] at h3; cases h3
  exact ⟨w, V, (hway w).2 h4, (hp w V).2 ⟨h5, h6⟩⟩
theorem zOo {b : za} (hf : Fine b) {m : Nat} {M : zx} {n : Int} (hM : b.Moves.1[m]? = some M) (h : zsh b m n) : M.By.Low ≤ n ∧ n ≤ M.By.High := by
 obtain ⟨M', w, V, h1, h2, h3, h4⟩ := h
 rw [hM] at h1; cases h1
 obtain ⟨hd1, _⟩ := hf.moves _ (List.mem_of_getElem? hM)
 have hdays := hf.days
 have h5 := h3.2 _ _ (zEq (x := ⟨b, M.Shelf, 0⟩) w hM rfl hd1.1 (by unfold Nd; show _ < b.Days.toNat; omega))
 have h6 := h5.1
 unfold Was at h4
 rw [h4] at h6
 unfold mvEv InS at h6
 simp only at h6
 cases hb : M.Back with
 | true => rw [hb] at h6; simp only [if_true] at h6; omega
 | false => rw [hb] at h6; simp only [Bool.false_eq_true, if_false] at h6; omega
theorem zpy {b : za} (hf : Fine b) {m : Nat} {M : zx} (hM : b.Moves.1[m]? = some M) (hT : zsc b 0) : ∃ n, zsh b m n := by
 have hx := zNy hf (List.mem_of_getElem? hM)
 have hc := zUt hT hx.lo (by have := hx.hi; show M.Shelf ≤ _; have h2 : M.Shelf < (b.Shelves.1.length : Int) := this; omega)
 obtain ⟨w, V, h1, h2⟩ := (zFm hx).1 hc
 cases hb : M.Back with
 | true => exact ⟨V (zAh ⟨b, M.Shelf, 0⟩ w M m + 1) - V (zAh ⟨b, M.Shelf, 0⟩ w M m), M, w, V, hM, h1, h2, by unfold Was; rw [hb]; simp⟩
 | false => exact ⟨-(V (zAh ⟨b, M.Shelf, 0⟩ w M m + 1) - V (zAh ⟨b, M.Shelf, 0⟩ w M m)), M, w, V, hM, h1, h2, by unfold Was; rw [hb]; simp⟩
section
variable {b : za} {k : Nat}
def z7x (b : za) (i : Int) (r : zr × Int) : Prop := AskE b (z1p i b.Moves.1.length) (zsc b 0) r.2 ∧ (r.2 ≠ 0 → r.1 = ⟨0, 0⟩) ∧ (r.2 = 0 → Ends (zsh b i.toNat) r.1)
theorem z2x (hs : zLd b) (hc : Caps b) (hd : b.Days ≤ 9223372036854775807) (hk : Fuel k b) (i : Int) : Ok (zrh k b i) (z7x b i) := by
 unfold zrh
 rw [z9c, Option.bind_some, z5h hs.moves]
 refine Ok.bind (zet hs hd hk (zlv i _)) fun e hE => ?_
 cases hc0 : e != 0 with
 | true =>
  rw [cond_true]
  have hne : e ≠ 0 := by simpa using hc0
  exact Ok.pure ⟨hE, fun _ => rfl, fun h => absurd h hne⟩
 | false =>
  rw [cond_false]
  obtain rfl : e = 0 := by simpa using hc0
  obtain ⟨hf, hq, hT⟩ := hE.ok rfl
  obtain ⟨hq1, hq2⟩ := hq
  have hi : i.toNat < b.Moves.1.length := by omega
  have hget := List.getElem?_eq_getElem hi
  have hm := List.getElem_mem hi
  have hi2 := zTn hq1 hi
  have hne : b.Moves.2 ≠ .nil := fun h => by rw [hc.moves h] at hi; simp at hi
  have hnm := hf.nmoves
  rw [zTn hq1 hi, Option.bind_some]
  generalize b.Moves.1[i.toNat] = M at *
  obtain ⟨hd1, hd2, hd3, hd4, hd5⟩ := hf.moves _ hm
  refine Ok.bind (Ok.count (M.By.High + 1 - M.By.Low).toNat (fun j z => z.1 = M.By.Low + j ∧ ∀ n : Nat, z.2 n = true ↔ (n : Int) < M.By.Low + j ∧ zsh b i.toNat n) (Q := fun z : Int × (Nat → Bool) => ∀ n : Nat, z.2 n = true ↔ zsh b i.toNat n) ?_ ?_ ⟨by simp, fun n => ?_⟩ (by have := hk.k0; omega)) fun r hr => ?_
  ·rintro j ⟨n, g⟩ hj ⟨hn, hg⟩
   obtain rfl : n = M.By.Low + j := hn
   have c1 : decide (M.By.Low + (j : Int) ≤ M.By.High) = true := by simp; omega
   have c2 : decide (b.Moves.2 = .nil) = false := by simp [hne]
   have c3 : decide (b.Moves.1.length ≤ LIM) = true := zQk (by omega)
   have c4 : w64 (M.By.Low + (j : Int) + 1) = M.By.Low + ((j + 1 : Nat) : Int) := by rw [z7 (by omega) (by omega)]; push_cast; omega
   have c5 : (decide (0 ≤ M.By.Low + (j : Int)) && decide (M.By.Low + (j : Int) < 61)) = true := by simp; omega
   have hx : On (⟨zoe b i.toNat ⟨M.Day, M.Shelf, M.Back, ⟨M.By.Low + (j : Int), M.By.Low + (j : Int)⟩⟩ (rcap false (b.Moves.1.set i.toNat ⟨M.Day, M.Shelf, M.Back, ⟨M.By.Low + (j : Int), M.By.Low + (j : Int)⟩⟩)), M.Shelf, 0⟩ : zd) := by
    refine ⟨zFr hf ⟨hd1, hd2, ?_, Int.le_refl _, ?_⟩, hd2.1, ?_, Int.le_refl _, ?_⟩
    ·show 0 ≤ M.By.Low + (j : Int); omega
    ·show M.By.Low + (j : Int) ≤ 60; omega
    ·show M.Shelf < (b.Shelves.1.length : Int); omega
    ·show (0 : Int) < _; omega
   simp only [z2g, c1, c2, c3, c5, cond_true, cond_false, hi2, Option.bind_some, c4]
   refine Ok.bind (z1t hx hk.k0) fun v hv => ?_
   have hv2 : v = true ↔ zsh b i.toNat (M.By.Low + j) := by
    rw [hv]
    exact zUu hf hget (by omega) (by omega)
   refine Ok.pure ⟨rfl, fun n => ?_⟩
   have hj0 : (((M.By.Low + (j : Int)).toNat : Nat) : Int) = M.By.Low + j := by omega
   rw [zBo, hg n]
   constructor
   ·rintro (⟨h1, h2⟩ | ⟨h1, h2, h3⟩)
    ·subst h1
     rw [hj0]
     exact ⟨by push_cast; omega, hv2.1 h2⟩
    ·exact ⟨by push_cast; omega, h3⟩
   ·rintro ⟨h1, h2⟩
    by_cases e : n = (M.By.Low + (j : Int)).toNat
    ·subst e
     rw [hj0] at h2
     exact .inl ⟨rfl, hv2.2 h2⟩
    ·exact .inr ⟨e, by push_cast at h1; omega, h2⟩
  ·rintro ⟨n, g⟩ ⟨hn, hg⟩
   have hn' : n = M.By.Low + ((M.By.High + 1 - M.By.Low).toNat : Int) := hn
   have c1 : decide (n ≤ M.By.High) = false := by simp only [decide_eq_false_iff_not]; omega
   simp only [z2g, c1, cond_false]
   refine Ok.pure fun n => ?_
   rw [hg n]
   constructor
   ·exact fun h => h.2
   ·intro h
    have := zOo hf hget h
    exact ⟨by omega, h⟩
  ·constructor
   ·intro h; cases h
   ·rintro ⟨h4, h⟩
    have := zOo hf hget h
    simp at h4
    omega
  ·refine Ok.bind (z9u hk.k0 r.2) fun t ht => Ok.pure ⟨hE, fun h => absurd rfl h, fun _ => ?_⟩
   obtain ⟨h1, h2⟩ := ht
   rcases h2 with ⟨h3, h4, h5⟩ | ⟨a, c, h3, h4, h5, h6, h7, h8⟩
   ·obtain ⟨n, hn⟩ := zpy hf hget hT
    have hin := zOo hf hget hn
    have hnn : n = ((n.toNat : Nat) : Int) := by omega
    rw [hnn] at hn
    have := h5 n.toNat (by omega)
    rw [(hr _).2 hn] at this
    cases this
   ·refine ⟨?_, ?_, fun n hn => ?_⟩
    ·show zsh b i.toNat t.Low
     rw [h7]; exact (hr a).1 h5
    ·show zsh b i.toNat t.High
     rw [h8]; exact (hr c).1 h6
    ·have hin := zOo hf hget hn
     have hnn : n = ((n.toNat : Nat) : Int) := by omega
     rw [hnn] at hn ⊢
     exact h1 _ (by omega) ((hr _).2 hn)
end
end Go.AM
set_option linter.unusedVariables false
namespace Go.AM
open Go
theorem n00 : ((0 : Int) != 0) = false := rfl
theorem ltS (n : Int) : decide (n < n) = false := by simp
theorem zRw {α : Type} {l : List α} (h : rcap true l = .nil) : l = [] := by
 cases l with
 | nil => rfl
 | cons a t => cases h
theorem zQz {x : zd} {w : List Int} (hw : zXn x.ShelfBook w) : ∃ w', Way x w' ∧ ∀ (i : Nat) D, x.ShelfBook.Deliveries.1[i]? = some D → D.Shelf = x.shelf → w'[i]? = w[i]? := by
 obtain ⟨w', h1, h2⟩ := ziv (n := x.ShelfBook.Deliveries.1.length) (P := fun i c => ∃ D cw, x.ShelfBook.Deliveries.1[i]? = some D ∧ w[i]? = some cw ∧ c = if D.Shelf = x.shelf then cw else D.Days.Low) (fun i hi => by
  obtain ⟨cw, h3, _⟩ := hw.2 i _ (List.getElem?_eq_getElem hi)
  exact ⟨_, _, cw, List.getElem?_eq_getElem hi, h3, rfl⟩)
 refine ⟨w', ⟨h1, fun i D hi hD => ?_⟩, fun i D hD hs => ?_⟩
 ·obtain ⟨c, h3, D', cw, h4, h5, h6⟩ := h2 i hi
  rw [hD] at h4
  cases h4
  obtain ⟨cw', h7, h8, h9⟩ := hw.2 i D hD
  rw [h5] at h7
  cases h7
  refine ⟨c, h3, ?_⟩
  rw [h6]
  split <;> omega
 ·obtain ⟨c, h3, D', cw, h4, h5, h6⟩ := h2 i (List.getElem?_eq_some_iff.1 hD).1
  rw [hD] at h4
  cases h4
  rw [if_pos hs] at h6
  rw [h3, h5, h6]
theorem zNt {x : zd} {w w' : List Int} (h : ∀ (i : Nat) D, x.ShelfBook.Deliveries.1[i]? = some D → D.Shelf = x.shelf → w'[i]? = w[i]?) (d : Int) : cat (evDg x w' d) x.ShelfBook.Deliveries.1 = cat (evDg x w d) x.ShelfBook.Deliveries.1 :=
 z6m fun i D hD => by
  unfold evDg
  by_cases hs : D.Shelf = x.shelf
  ·rw [h i D hD hs]
  ·rw [if_neg fun h => hs h.1, if_neg fun h => hs h.1]
theorem zhv {x : zd} {w w' : List Int} (h : ∀ (i : Nat) D, x.ShelfBook.Deliveries.1[i]? = some D → D.Shelf = x.shelf → w'[i]? = w[i]?) : ∀ N, evsL x w' N = evsL x w N
 | 0 => rfl
 | N + 1 => by
  rw [zAc, zAc, zhv h N]
  unfold z8c
  rw [zNt h]
structure zin (y : za) (x : z5b) (s : Nat) (w : List Int) (V : Nat → Int) (row : List Int) (κ : Cap) : Prop where
 way : Way ⟨y, (s : Int), 0⟩ w
 path : zIh ⟨y, (s : Int), 0⟩ w V
 srow : x.stocks.1[s]? = some (row, κ)
 len : row.length = y.Days.toNat
 at_ : ∀ d : Nat, d < y.Days.toNat → row[d]? = some (V (evsL ⟨y, (s : Int), 0⟩ w (d + 1)).length)
 days : ∀ (i : Nat) D, y.Deliveries.1[i]? = some D → D.Shelf = (s : Int) → w[i]? = x.days.1[i]?
 moved : ∀ (i : Nat) D, y.Moves.1[i]? = some D → D.Shelf = (s : Int) → ∃ t, x.moved.1[i]? = some t ∧ Was ⟨y, (s : Int), 0⟩ w V D i t
section
variable {b y : za} {x : z5b}
theorem ztg.went (hf : Fine b) (h : ztg b y x) {s : Nat} (hs : s < b.Shelves.1.length) : ∃ w V row κ, zin y x s w V row κ := by
 obtain ⟨V, row, κ, h1, h2, h3, h4⟩ := h.shelf s hs
 obtain ⟨C, rfl, hC⟩ := h.counts
 have hdays := hf.days
 obtain ⟨w', g1, g2⟩ := zQz (x := ⟨zEf b (C, rcap true C), (s : Int), 0⟩) (w := x.days.1) h.days
 have g3 := zhv g2
 refine ⟨w', V, row, κ, g1, ?_, h1, h2, fun d hd => ?_, g2, fun i D hD hs' => ?_⟩
 ·unfold zIh
  rw [g3]
  exact h3
 ·rw [g3, z0p (C' := ([], .nil))]
  exact h4.row d hd
 ·have hm := (hf.moves D (List.mem_of_getElem? hD)).1
  obtain ⟨t, t1, t2⟩ := h4.moved D.Day.toNat (by omega) i D (List.getElem?_eq_some_iff.1 hD).1 hD hs' (by omega)
  refine ⟨t, t1, ?_⟩
  unfold Was zAh
  rw [g3, zNt g2, z0p (C' := ([], .nil))]
  exact t2
theorem ztg.true (hf : Fine b) (h : ztg b y x) : zsc y 0 := by
 obtain ⟨C, hy, hC⟩ := h.counts
 rw [z8v h.fine (Int.le_refl 0) (by omega)]
 intro s hs
 obtain ⟨w, V, row, κ, g⟩ := h.went hf (s := s) (by rw [hy] at hs; exact hs)
 exact ⟨w, V, g.way, g.path⟩
theorem zin.stock (hf : Fine y) {s : Nat} (hs : s < y.Shelves.1.length) {w : List Int} {V : Nat → Int} {row : List Int} {κ : Cap} (g : zin y x s w V row κ) {d : Nat} (hd : d < y.Days.toNat) : ∃ n, row[d]? = some n ∧ z1k y (s : Int) d n := by
 refine ⟨_, g.at_ d hd, ?_⟩
 have hx : On (⟨y, (s : Int), 0⟩ : zd) := onL hf (by omega) (by omega) (L := 0) (by omega)
 exact (zvu hx (by show (d : Int) < y.Days; omega) _).2 ⟨w, V, g.way, g.path, rfl⟩
theorem ztg.due (hf : Fine b) (h : ztg b y x) {i : Nat} (hi : i < b.Deliveries.1.length) : ∃ c, x.days.1[i]? = some c ∧ zDr y i c := by
 have hD := List.getElem?_eq_getElem hi
 obtain ⟨⟨d1, d2⟩, _⟩ := hf.deliveries _ (List.getElem_mem hi)
 obtain ⟨c, hc, _⟩ := h.days.2 i _ hD
 refine ⟨c, hc, ?_⟩
 generalize b.Deliveries.1[i] = D at *
 obtain ⟨w, V, row, κ, g⟩ := h.went hf (s := D.Shelf.toNat) (by omega)
 obtain ⟨C, rfl, hC⟩ := h.counts
 have e : ((D.Shelf.toNat : Nat) : Int) = D.Shelf := by omega
 have g1 := g.way
 have g2 := g.path
 have g3 := g.days i D hD e.symm
 rw [e] at g1 g2
 exact ⟨D, w, V, hD, g1, g2, g3.trans hc⟩
theorem ztg.taken (hf : Fine b) (h : ztg b y x) {i : Nat} (hi : i < b.Moves.1.length) : ∃ n, x.moved.1[i]? = some n ∧ zsh y i n := by
 have hD := List.getElem?_eq_getElem hi
 obtain ⟨_, ⟨d1, d2⟩, _⟩ := hf.moves _ (List.getElem_mem hi)
 generalize b.Moves.1[i] = D at *
 obtain ⟨w, V, row, κ, g⟩ := h.went hf (s := D.Shelf.toNat) (by omega)
 obtain ⟨C, rfl, hC⟩ := h.counts
 have e : ((D.Shelf.toNat : Nat) : Int) = D.Shelf := by omega
 have g1 := g.way
 have g2 := g.path
 obtain ⟨t, g3, g4⟩ := g.moved i D hD e.symm
 rw [e] at g1 g2 g4
 exact ⟨t, g3, D, w, V, hD, g1, g2, g4⟩
theorem z5y {a : List Nat} (h : leS a []) : a = [] := by
 rcases h with h | ⟨h, _⟩
 ·simp at h
 ·exact List.length_eq_zero_iff.1 (by simpa using h)
variable {k : Nat}
theorem zcz (hs : zLd y) (hd : y.Days ≤ 9223372036854775807) (hk : Fuel k y) (hf : Fine y) (hT : zsc y 0) (hbd : b.Days = y.Days) (l : SL Int) (f : Bool) (v7 : SL Int × Int) {s : Nat} (hsl : s < y.Shelves.1.length) {w : List Int} {V : Nat → Int} {row : List Int} {κ : Cap} (g : zin y x s w V row κ) :
  Ok (iter (fun z => zMb k b l (x, y, f) v7 (s : Int) z) k 0) (fun r => ∃ i, r = .inr i) := by
 have hdays := hf.days
 have hk0 := hk.k0
 obtain ⟨g7, g8⟩ := List.getElem?_eq_some_iff.1 g.srow
 refine Ok.count y.Days.toNat (fun j z => z = (j : Int)) ?_ ?_ rfl (by omega)
 ·rintro j z hj rfl
  obtain ⟨n, g9, g10⟩ := g.stock hf hsl hj
  obtain ⟨g11, g12⟩ := List.getElem?_eq_some_iff.1 g9
  have hq : zVk y (s : Int) (j : Int) := ⟨⟨by omega, by omega⟩, by omega, by omega⟩
  have c1 : decide ((j : Int) < b.Days) = true := decide_eq_true (by omega)
  have hsucc : w64 ((j : Int) + 1) = ((j + 1 : Nat) : Int) := by rw [z7 (by omega) (by omega)]; push_cast; rfl
  simp only [zMb, c1, cond_true, hsucc]
  refine Ok.bind (z5x hs hd hk hf hT hq) fun a ha => ?_
  simp only [zab g7, g8, zab g11, g12, Option.bind_some]
  refine Ok.bind (zpx hs hd hk hf hT hq n) fun c hc => ?_
  obtain ⟨a1, a2⟩ := ha
  obtain ⟨c1, c2⟩ := hc
  have hin := a2.2.2 n (by rw [Int.toNat_natCast]; exact g10)
  have hJ : zwc k b l (x, y, f) v7 (s : Int) (j : Int) a c = some false := by
   unfold zwc
   rw [a1, c1, c2.2 (by rw [Int.toNat_natCast]; exact g10)]
   simp only [n00, cond_false, Bool.not_true, zab g7, g8, zab g11, g12, Option.bind_some, zCw]
   unfold InS at hin
   simp [hin.1, hin.2]
  rw [hJ, Option.bind_some, cond_false]
  exact Ok.pure rfl
 ·rintro z rfl
  have c1 : decide (((y.Days.toNat : Nat) : Int) < b.Days) = false := by simp only [decide_eq_false_iff_not]; omega
  simp only [zMb, c1, cond_false]
  exact Ok.pure ⟨_, rfl⟩
theorem zju (hs : zLd b) (hcp : Caps b) (hd : b.Days ≤ 9223372036854775807) (hk : Fuel k b) (hc : z9b k = some true) {l : SL Int} (hl : l.1.length < 9223372036854775808) : zlc k b l = some true := by
 apply Ok.eq
 have hk0 := hk.k0
 unfold zlc
 refine Ok.bind (zAx hs hd hk) fun so hso => ?_
 cases so with
 | false =>
  rw [Bool.not_false, cond_true, hc]
  exact Ok.pure rfl
 | true =>
  have hf := hso.1 rfl
  rw [Bool.not_true, cond_false]
  refine Ok.bind (zSu hf (by omega) hl) fun r hr => ?_
  obtain ⟨x, y, is⟩ := r
  cases is with
  | false =>
   simp only [Bool.not_false, cond_true, hc, Option.bind_some]
   exact Ok.pure rfl
  | true =>
   simp only [Bool.not_true, cond_false]
   have hH : ztg b y x := hr rfl
   have hT := hH.true hf
   have hfy := hH.fine
   obtain ⟨C, hy, hC⟩ := hH.counts
   have hsy : zLd y := by rw [hy]; exact zXu hs (by show C.length < _; omega)
   have hdy : y.Days ≤ 9223372036854775807 := by rw [hy]; exact hd
   have hky : Fuel k y := by rw [hy]; exact zlw hk (by show C.length < k; omega)
   have hcy : Caps y := by rw [hy]; exact ⟨hcp.moves, hcp.deliveries, zRw⟩
   have e1 : b.Days = y.Days := by rw [hy]; rfl
   have e2 : b.Shelves = y.Shelves := by rw [hy]; rfl
   have e3 : b.Deliveries = y.Deliveries := by rw [hy]; rfl
   have e4 : b.Moves = y.Moves := by rw [hy]; rfl
   have hns := hf.nshelves
   have hnd := hf.ndeliveries
   have hnm := hf.nmoves
   refine Ok.bind (z8x hsy hdy hky) fun w hw => ?_
   have hw : w.1.1 = [] ∧ w.2 = 0 := by
    rcases hw with ⟨h1, _⟩ | ⟨_, h1, l', h2, h3⟩ | ⟨_, _, _, h1⟩
    ·exact absurd hfy h1
    ·refine ⟨?_, h1⟩
     have := z5y (h3.least [] List.Pairwise.nil (by simp) hT)
     rw [h2, this]; rfl
    ·exact absurd hT (h1 [] List.Pairwise.nil (by simp))
   have hJ1 : zuc k b l (x, y, true) w = some false := by
    unfold zuc
    rw [hw.1, hw.2]; rfl
   rw [hJ1, Option.bind_some, cond_false]
   have hL2 : Ok (iter (fun z => zLb k b l (x, y, true) w z) k 0) (fun r => ∃ i, r = .inr i) := by
    refine Ok.count b.Shelves.1.length (fun j z => z = (j : Int)) ?_ ?_ rfl (by omega)
    ·rintro j z hj rfl
     obtain ⟨w', V, row, κ, g⟩ := hH.went hf hj
     simp only [zLb, zrb hj, cond_true, z6 hj (by omega : b.Shelves.1.length < 9223372036854775808)]
     refine Ok.bind (zcz (b := b) hsy hdy hky hfy hT e1 l true w (by rw [← e2]; exact hj) g) fun r hr => ?_
     obtain ⟨i, rfl⟩ := hr
     exact Ok.pure rfl
    ·rintro z rfl
     simp only [zLb, ltS, cond_false]
     exact Ok.pure ⟨_, rfl⟩
   refine Ok.bind hL2 fun r2 hr2 => ?_
   obtain ⟨i2, rfl⟩ := hr2
   simp only [Sum.elim_inr]
   have hL9 : Ok (iter (fun z => zNb k b l (x, y, true) w i2 z) k 0) (fun r => ∃ i, r = .inr i) := by
    refine Ok.count b.Deliveries.1.length (fun j z => z = (j : Int)) ?_ ?_ rfl (by omega)
    ·rintro j z hj rfl
     obtain ⟨c, c1, c2⟩ := hH.due hf hj
     obtain ⟨c3, c4⟩ := List.getElem?_eq_some_iff.1 c1
     simp only [zNb, zrb hj, cond_true, z6 hj (by omega : b.Deliveries.1.length < 9223372036854775808)]
     refine Ok.bind (zJz hsy hcy hdy hky (j : Int)) fun a ha => ?_
     obtain ⟨a1, a2, a3, a4⟩ := ha
     have hq : z1p (j : Int) y.Deliveries.1.length := by rw [← e3]; exact ⟨by omega, by omega⟩
     have a0 : a.2 = 0 := a1.eq (.inr (.inr (.inr ⟨hfy, hq, hT, rfl⟩)))
     have hmem := ((a3 a0).2 c).2 (by rw [Int.toNat_natCast]; exact c2)
     simp only [z7c, a0, n00, cond_false, zab c3, c4, Option.bind_some]
     refine Ok.bind (P := fun q : Bool => q = false) (Ok.bind (zqx (k := k) (l := a.1) (by omega) (by omega) c) fun p hp => Ok.pure (show decide (p < 0) = false from ?_)) fun q hq => ?_
     ·rcases hp with ⟨h1, _⟩ | ⟨_, h1⟩
      ·simp only [decide_eq_false_iff_not]; omega
      ·exact absurd hmem h1
     ·rw [hq, cond_false]
      exact Ok.pure rfl
    ·rintro z rfl
     simp only [zNb, ltS, cond_false]
     exact Ok.pure ⟨_, rfl⟩
   refine Ok.bind hL9 fun r3 hr3 => ?_
   obtain ⟨i3, rfl⟩ := hr3
   simp only [Sum.elim_inr]
   have hL12 : Ok (iter (fun z => zFb k b l (x, y, true) w i2 i3 z) k 0) (fun r => ∃ i, r = .inr i) := by
    refine Ok.count b.Moves.1.length (fun j z => z = (j : Int)) ?_ ?_ rfl (by omega)
    ·rintro j z hj rfl
     obtain ⟨c, c1, c2⟩ := hH.taken hf hj
     obtain ⟨c3, c4⟩ := List.getElem?_eq_some_iff.1 c1
     simp only [zFb, zrb hj, cond_true, z6 hj (by omega : b.Moves.1.length < 9223372036854775808)]
     refine Ok.bind (z2x hsy hcy hdy hky (j : Int)) fun a ha => ?_
     obtain ⟨a1, a2, a3⟩ := ha
     have hq : z1p (j : Int) y.Moves.1.length := by rw [← e4]; exact ⟨by omega, by omega⟩
     have a0 : a.2 = 0 := a1.eq (.inr (.inr (.inr ⟨hfy, hq, hT, rfl⟩)))
     have hin := (a3 a0).2.2 c (by rw [Int.toNat_natCast]; exact c2)
     unfold InS at hin
     have hJ : zic k b l (x, y, true) w i2 i3 (j : Int) a = some false := by
      unfold zic
      simp only [a0, n00, cond_false, zab c3, c4, Option.bind_some, zCw]
      simp [hin.1, hin.2]
     rw [hJ, Option.bind_some, cond_false]
     exact Ok.pure rfl
    ·rintro z rfl
     simp only [zFb, ltS, cond_false]
     exact Ok.pure ⟨_, rfl⟩
   refine Ok.bind hL12 fun r4 hr4 => ?_
   obtain ⟨i4, rfl⟩ := hr4
   simp only [Sum.elim_inr, hc, Option.bind_some]
   exact Ok.pure rfl
end
end Go.AM
set_option linter.unusedVariables false
namespace Go.AM
open Go
def z6b (x : zr) : Prop := (-9223372036854775808 ≤ x.Low ∧ x.Low ≤ 9223372036854775807) ∧ (-9223372036854775808 ≤ x.High ∧ x.High ≤ 9223372036854775807) ∧ True
def z3f (x : zt) : Prop := z6b x.Begin ∧ (-9223372036854775808 ≤ x.Room ∧ x.Room ≤ 9223372036854775807) ∧ True
def zEg (x : zx) : Prop := (-9223372036854775808 ≤ x.Day ∧ x.Day ≤ 9223372036854775807) ∧ (-9223372036854775808 ≤ x.Shelf ∧ x.Shelf ≤ 9223372036854775807) ∧ True ∧ z6b x.By ∧ True
def zOe (x : zu) : Prop := (-9223372036854775808 ≤ x.Shelf ∧ x.Shelf ≤ 9223372036854775807) ∧ z6b x.Days ∧ z6b x.By ∧ True
def zYf (x : zo) : Prop := (-9223372036854775808 ≤ x.Day ∧ x.Day ≤ 9223372036854775807) ∧ (-9223372036854775808 ≤ x.Shelf ∧ x.Shelf ≤ 9223372036854775807) ∧ (-9223372036854775808 ≤ x.Read ∧ x.Read ≤ 9223372036854775807) ∧ (-9223372036854775808 ≤ x.Err ∧ x.Err ≤ 9223372036854775807) ∧ True
def z4c (x : za) : Prop := (-9223372036854775808 ≤ x.Days ∧ x.Days ≤ 9223372036854775807) ∧ zDf (fun a => z3f a) x.Shelves ∧ zDf (fun a => zEg a) x.Moves ∧ zDf (fun a => zOe a) x.Deliveries ∧ zDf (fun a => zYf a) x.Counts ∧ True
end Go.AM
set_option maxRecDepth 1000000
namespace Go.AM
open Go
theorem zmu (k : Nat) : z9b (k + 300) = some true := by kernel_rfl
end Go.AM
set_option linter.unusedVariables false
namespace Go.AM
open Go
theorem zVv {b : za} (h : z4c b) : zLd b ∧ b.Days ≤ 9223372036854775807 := by
 obtain ⟨⟨_, h0⟩, h1, h2, h3, h4, _⟩ := h
 have e : maxLen = 9223372036854775807 := by decide
 have l1 := h1.2.2
 have l2 := h2.2.2
 have l3 := h3.2.2
 have l4 := h4.2.2
 rw [e] at l1 l2 l3 l4
 exact ⟨⟨by omega, by omega, by omega, by omega⟩, h0⟩
def zlx (b : za) : Nat := 500000 + b.Shelves.1.length + b.Moves.1.length + b.Deliveries.1.length + b.Counts.1.length
theorem zbz (b : za) : Fuel (zlx b + 300) b := by
 unfold zlx
 exact ⟨by omega, by omega, by omega, by omega, by omega⟩
theorem zVq {α : Type} {good : α → Prop} {s : SL α} (h : zDf good s) : s.2 = .nil → s.1 = [] := by
 intro e
 rcases h.2.1 with h | h
 ·exact h.2
 ·rw [h] at e; cases e
theorem zfx {b : za} (h : z4c b) : Caps b := by
 obtain ⟨_, h1, h2, h3, h4, _⟩ := h
 exact ⟨zVq h2, zVq h3, zVq h4⟩
end Go.AM
set_option linter.unusedVariables false
namespace Go.AM
open Go
theorem zqz (b : za) (l : SL Int) (hb : z4c b) (hl : zDf (fun a => -9223372036854775808 ≤ a ∧ a ≤ 9223372036854775807) l) : ∃ k, zlc k b l = some true := by
 obtain ⟨hs, hd⟩ := zVv hb
 have e : maxLen = 9223372036854775807 := by decide
 have := hl.2.2
 exact ⟨_, zju hs (zfx hb) hd (zbz b) (zmu _) (by omega)⟩
end Go.AM
