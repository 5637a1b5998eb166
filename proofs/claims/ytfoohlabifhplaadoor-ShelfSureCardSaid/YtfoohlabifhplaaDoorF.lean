/- The statement ShelfSure holds for every input that its row lets in. Conditions: none. -/
import Derived.Test.YtfoohlabifhplaaDoorE
set_option linter.all false
set_option linter.unusedVariables false
namespace Go.AM
open Go
theorem zks {α β : Type} {g g' : α → Nat → List β} : ∀ (l : List (α × Nat)), (∀ p ∈ l, g p.1 p.2 = g' p.1 p.2) → (l.flatMap fun p => g p.1 p.2) = l.flatMap fun p => g' p.1 p.2
 | [], _ => rfl
 | p :: t, h => by
  rw [List.flatMap_cons, List.flatMap_cons, h p (.head _), zks t fun q hq => h q (.tail _ hq)]
theorem zoo {α β : Type} {g g' : α → Nat → List β} {l : List α} (h : ∀ i a, l[i]? = some a → g a i = g' a i) : cat g l = cat g' l := by
 unfold cat
 exact zks _ fun p hp => h p.2 p.1 (zep hp)
theorem zcw (C : Nat) (ds : List zw) : zce ds C = cat (fun D i => if C.testBit i = true then [(⟨1, D.By⟩ : zD)] else []) ds := by
 have : ∀ j, j ≤ ds.length → zce (ds.take j) C = cat (fun D i => if C.testBit i = true then [(⟨1, D.By⟩ : zD)] else []) (ds.take j) := by
  intro j
  induction j with
  | zero => intro _; rfl
  | succ j ih =>
   intro hj
   rw [zao C (by omega), z8g _ (by omega), ih (by omega)]
 have h := this ds.length (Nat.le_refl _)
 rwa [List.take_length] at h
theorem zqv (x : zd) (day : Int) (ms : List zB) : zyg x day ms = cat (fun m _ => if (m.Day == day && m.Shelf == x.shelf) = true then [(⟨if m.Back then 1 else 0, m.By⟩ : zD)] else []) ms := by
 have : ∀ j, j ≤ ms.length → zyg x day (ms.take j) = cat (fun m _ => if (m.Day == day && m.Shelf == x.shelf) = true then [(⟨if m.Back then 1 else 0, m.By⟩ : zD)] else []) (ms.take j) := by
  intro j
  induction j with
  | zero => intro _; rfl
  | succ j ih =>
   intro hj
   rw [zor x day (by omega), z8g _ (by omega), ih (by omega)]
 have h := this ms.length (Nat.le_refl _)
 rwa [List.take_length] at h
def z7n (e : Ev) : zr × zr := (e.by_, e.within)
def evW (x : zd) (w : zD) : zr × zr := (if w.way = 0 then ⟨-w.by_.High, -w.by_.Low⟩ else w.by_, ⟨0, (zC x).Room⟩)
def zBs (x : zd) (w : List Int) (d : Int) (C : Nat) : Prop := ∀ i D, x.ShelfBook.Deliveries.1[i]? = some D → (C.testBit i = true ↔ D.Shelf = x.shelf ∧ w[i]? = some d)
theorem zEx {x : zd} {w : List Int} {d : Int} {C : Nat} (h : zBs x w d C) : (cat (evDg x w d) x.ShelfBook.Deliveries.1 ++ cat (evMg x d) x.ShelfBook.Moves.1).map z7n = (zch x d C).map (evW x) := by
 unfold zch
 rw [zcw, zqv, List.map_append, List.map_append, zgp, zgp, zgp, zgp]
 congr 1
 ·refine zoo fun i D hD => ?_
  unfold evDg
  have h1 := h i D hD
  by_cases hc : C.testBit i = true
  ·rw [if_pos hc, if_pos (h1.1 hc)]
   simp [z7n, evW]
  ·rw [if_neg hc, if_neg fun h2 => hc (h1.2 h2)]
   rfl
 ·refine zoo fun i m hm => ?_
  unfold evMg
  by_cases hc : m.Shelf = x.shelf ∧ m.Day = d
  ·have : (m.Day == d && m.Shelf == x.shelf) = true := by simp [hc]
   rw [if_pos hc, if_pos this]
   cases m.Back <;> simp [z7n, evW]
  ·have : ¬ (m.Day == d && m.Shelf == x.shelf) = true := by
    simp only [Bool.and_eq_true, beq_iff_eq]
    exact fun h2 => hc ⟨h2.2, h2.1⟩
   rw [if_neg hc, if_neg this]
   rfl
theorem zDq {e : Ev} {l : List Ev} {u : Nat → Int} : zMg (e :: l) u ↔ zir e (u 0) (u 1) ∧ zMg l fun i => u (i + 1) := by
 constructor
 ·intro h
  exact ⟨h 0 e rfl, fun i e' he => h (i + 1) e' he⟩
 ·rintro ⟨h1, h2⟩ i e' he
  cases i with
  | zero => cases he; exact h1
  | succ i => exact h2 i e' he
theorem zvd {l l' : List Ev} {u : Nat → Int} : zMg (l ++ l') u ↔ zMg l u ∧ zMg l' fun i => u (l.length + i) := by
 constructor
 ·intro h
  refine ⟨fun i e he => h i e ?_, fun i e he => ?_⟩
  ·rw [List.getElem?_append_left (List.getElem?_eq_some_iff.1 he).1]; exact he
  ·have := h (l.length + i) e (by rw [List.getElem?_append_right (by omega)]; simpa using he)
   exact this
 ·rintro ⟨h1, h2⟩ i e he
  by_cases hi : i < l.length
  ·rw [List.getElem?_append_left hi] at he
   exact h1 i e he
  ·rw [List.getElem?_append_right (by omega)] at he
   have := h2 (i - l.length) e he
   have e1 : l.length + (i - l.length) = i := by omega
   have e2 : l.length + (i - l.length + 1) = i + 1 := by omega
   simp only [e1, e2] at this
   exact this
theorem zxq {x : zd} {w : zD} {e : Ev} (hk : z7n e = evW x w) (m : Nat) (q : Int) : zir e m q ↔ ∃ p : Nat, (p : Int) = q ∧ (p : Int) ≤ (zC x).Room ∧ Step w.way w.by_ m p := by
 unfold z7n evW at hk
 have h1 : e.by_ = _ := congrArg Prod.fst hk
 have h2 : e.within = _ := congrArg Prod.snd hk
 unfold zir InS Step
 rw [h1, h2]
 simp only
 by_cases hw : w.way = 0
 ·simp only [hw, if_true]
  constructor
  ·rintro ⟨⟨a, b⟩, c, d⟩
   exact ⟨q.toNat, by omega, by omega, m - q, by omega, by omega, by omega⟩
  ·rintro ⟨p, rfl, a, t, b, c, d⟩
   omega
 ·simp only [hw, if_false]
  constructor
  ·rintro ⟨⟨a, b⟩, c, d⟩
   exact ⟨q.toNat, by omega, by omega, q - m, by omega, by omega, by omega⟩
  ·rintro ⟨p, rfl, a, t, b, c, d⟩
   omega
theorem z0o {x : zd} : ∀ (ws : List zD) (L : List Ev), L.map z7n = ws.map (evW x) → ∀ m n : Nat, Run x ws m n ↔ ∃ u : Nat → Int, zMg L u ∧ u 0 = m ∧ u L.length = n
 | [], L, h, m, n => by
  obtain rfl : L = [] := List.map_eq_nil_iff.1 h
  show m = n ↔ _
  constructor
  ·rintro rfl
   exact ⟨fun _ => m, fun i e he => by simp at he, rfl, rfl⟩
  ·rintro ⟨u, _, h1, h2⟩
   have h3 : u 0 = n := h2
   omega
 | w :: t, [], h, m, n => by simp at h
 | w :: t, e :: L, h, m, n => by
  rw [List.map_cons, List.map_cons] at h
  have hk : z7n e = evW x w := (List.cons.inj h).1
  have ht := (List.cons.inj h).2
  constructor
  ·rintro ⟨q, h1, h2, h3⟩
   obtain ⟨u, h4, h5, h6⟩ := (z0o t L ht q n).1 h3
   refine ⟨fun i => match i with | 0 => (m : Int) | i + 1 => u i, zDq.2 ⟨?_, h4⟩, rfl, h6⟩
   show zir e (m : Int) (u 0)
   exact (zxq hk m _).2 ⟨q, h5.symm, h1, h2⟩
  ·rintro ⟨u, h4, h5, h6⟩
   obtain ⟨h7, h8⟩ := zDq.1 h4
   rw [h5] at h7
   obtain ⟨q, h9, h10, h11⟩ := (zxq hk m _).1 h7
   exact ⟨q, h10, h11, (z0o t L ht q n).2 ⟨_, h8, h9.symm, h6⟩⟩
theorem zns {x : zd} {w : List Int} {d : Int} {C : Nat} (h : zBs x w d C) {m n : Nat} (hm : (m : Int) ≤ (zC x).Room) :
  (Run x (zch x d C) m n ∧ zSe x d n) ↔ ∃ u : Nat → Int, zMg (zOd x w d) u ∧ u 0 = m ∧ u (zOd x w d).length = n := by
 have hrs := z0o (zch x d C) _ (zEx h) m n
 constructor
 ·rintro ⟨h1, h2⟩
  obtain ⟨u, h3, h4, h5⟩ := hrs.1 h1
  refine ⟨fun i => if i ≤ (cat (evDg x w d) x.ShelfBook.Deliveries.1 ++ cat (evMg x d) x.ShelfBook.Moves.1).length then u i else n, ?_, by simpa using h4, ?_⟩
  ·unfold zOd
   refine zvd.2 ⟨fun i e he => ?_, fun i e he => ?_⟩
   ·have hi := (List.getElem?_eq_some_iff.1 he).1
    have a1 : i ≤ (cat (evDg x w d) x.ShelfBook.Deliveries.1 ++ cat (evMg x d) x.ShelfBook.Moves.1).length := by omega
    have a2 : i + 1 ≤ (cat (evDg x w d) x.ShelfBook.Deliveries.1 ++ cat (evMg x d) x.ShelfBook.Moves.1).length := by omega
    simp only [a1, a2, if_true]
    exact h3 i e he
   ·cases i with
    | zero =>
     cases he
     have a2 : ¬ (cat (evDg x w d) x.ShelfBook.Deliveries.1 ++ cat (evMg x d) x.ShelfBook.Moves.1).length + 1 ≤ (cat (evDg x w d) x.ShelfBook.Deliveries.1 ++ cat (evMg x d) x.ShelfBook.Moves.1).length := by omega
     simp only [Nat.add_zero, Nat.zero_add, Nat.le_refl, if_true, a2, if_false]
     rw [h5]
     refine ⟨?_, (zNr d n).2 ⟨zEn _ m n h1 hm, h2⟩⟩
     show InS (⟨0, 0⟩ : zr) _
     unfold InS; simp
    | succ i => cases he
  ·unfold zOd
   generalize cat (evDg x w d) x.ShelfBook.Deliveries.1 ++ cat (evMg x d) x.ShelfBook.Moves.1 = A
   show (if (A ++ [evC x d]).length ≤ A.length then u (A ++ [evC x d]).length else (n : Int)) = n
   rw [if_neg (by simp)]
 ·rintro ⟨u, h3, h4, h5⟩
  unfold zOd at h3 h5
  obtain ⟨h6, h7⟩ := zvd.1 h3
  have h8 := h7 0 (evC x d) rfl
  rw [List.length_append, List.length_singleton] at h5
  simp only [Nat.add_zero, Nat.zero_add] at h8
  rw [h5] at h8
  obtain ⟨h9, h10⟩ := h8
  have h11 : InS (⟨0, 0⟩ : zr) _ := h9
  unfold InS at h11
  simp only at h11
  exact ⟨hrs.2 ⟨u, h6, h4, by omega⟩, ((zNr d n).1 h10).2⟩
theorem zvu (p : Nat → Bool) : ∀ n, ∃ C, C < 2 ^ n ∧ ∀ i, C.testBit i = (decide (i < n) && p i)
 | 0 => ⟨0, by simp, fun i => by simp⟩
 | n + 1 => by
  obtain ⟨C, h1, h2⟩ := zvu p n
  have hp : (2 : Nat) ^ (n + 1) = 2 ^ n + 2 ^ n := by rw [Nat.pow_succ]; omega
  cases hpn : p n with
  | false =>
   refine ⟨C, by omega, fun i => ?_⟩
   rw [h2 i]
   by_cases e : i = n
   ·subst e; simp [hpn]
   ·have : decide (i < n + 1) = decide (i < n) := by
     by_cases h3 : i < n
     ·simp [h3]; omega
     ·simp [h3]; omega
    rw [this]
  | true =>
   refine ⟨2 ^ n + C, by omega, fun i => ?_⟩
   by_cases e : i = n
   ·subst e
    rw [Nat.testBit_two_pow_add_eq, h2 i]
    simp [hpn]
   ·by_cases h3 : i < n
    ·rw [Nat.testBit_two_pow_add_gt h3, h2 i]
     have : i < n + 1 := by omega
     simp [h3, this]
    ·rw [Nat.testBit_lt_two_pow (Nat.lt_of_lt_of_le (show 2 ^ n + C < 2 ^ (n + 1) by omega) (Nat.pow_le_pow_right (by omega) (by omega)))]
     have : ¬ i < n + 1 := by omega
     simp [this]
theorem zhw {C : Nat} (h : ∀ i, C.testBit i = false) : C = 0 := Nat.eq_of_testBit_eq fun i => by rw [h i]; simp
theorem ztu {x y : Nat} (hx : x < 2 ^ 63) (hy : y < 2 ^ 63) (i : Nat) : (dif x y).testBit i = (x.testBit i && !y.testBit i) := (zWo hx hy).2.2.2 i
end Go.AM
set_option linter.unusedVariables false
namespace Go.AM
open Go
theorem zkr {l : List Ev} {u u' : Nat → Int} (h : ∀ i, i ≤ l.length → u i = u' i) (hu : zMg l u) : zMg l u' := by
 intro i e he
 have hi := (List.getElem?_eq_some_iff.1 he).1
 rw [← h i (by omega), ← h (i + 1) (by omega)]
 exact hu i e he
theorem zuy (x : zd) (w : List Int) (e : Nat) : ∃ C, C < nset x ∧ ∀ i, C.testBit i = true ↔ ∃ D c, x.ShelfBook.Deliveries.1[i]? = some D ∧ D.Shelf = x.shelf ∧ w[i]? = some c ∧ c < (e : Int) := by
 obtain ⟨C, h1, h2⟩ := zvu (fun i => match x.ShelfBook.Deliveries.1[i]?, w[i]? with
  | some D, some c => decide (D.Shelf = x.shelf) && decide (c < (e : Int))
  | _, _ => false) x.ShelfBook.Deliveries.1.length
 refine ⟨C, h1, fun i => ?_⟩
 rw [h2 i, Bool.and_eq_true, decide_eq_true_eq]
 constructor
 ·rintro ⟨h3, h4⟩
  obtain ⟨D, hD, _⟩ := zpo h3
  rw [hD] at h4
  cases hw : w[i]? with
  | none => rw [hw] at h4; cases h4
  | some c =>
   rw [hw] at h4
   simp only [Bool.and_eq_true, decide_eq_true_eq] at h4
   exact ⟨D, c, hD, h4.1, rfl, h4.2⟩
 ·rintro ⟨D, c, h3, h4, h5, h6⟩
  refine ⟨(List.getElem?_eq_some_iff.1 h3).1, ?_⟩
  rw [h3, h5]
  simp [h4, h6]
theorem zPs {x : zd} {w : List Int} (hw : Way x w) {i : Nat} {D : zw} (hD : x.ShelfBook.Deliveries.1[i]? = some D) : ∃ c, w[i]? = some c ∧ D.Days.Low ≤ c ∧ c ≤ (if D.Shelf = x.shelf then D.Days.High else D.Days.Low) :=
 hw.2 i D (List.getElem?_eq_some_iff.1 hD).1 hD
theorem z9m {x : zd} (hx : On x) {w : List Int} {V : Nat → Int} (h : zQn x w V) : ∀ i, i ≤ (evsL x w (Nd x)).length → 0 ≤ V i ∧ V i ≤ (zC x).Room
 | 0, _ => by
  obtain ⟨_, h1, h2, h3⟩ := hx.shelf
  have h0 := h.1
  unfold InS at h0
  omega
 | i + 1, hi => by
  obtain ⟨e, he, hm⟩ := zpo (show i < (evsL x w (Nd x)).length by omega)
  have h1 := (h.2 i e he).2
  have h2 : 0 ≤ e.within.Low ∧ e.within.High ≤ (zC x).Room := by
   unfold evsL at hm
   obtain ⟨d, _, hm⟩ := List.mem_flatMap.1 hm
   unfold zOd at hm
   rw [List.mem_append, List.mem_append] at hm
   rcases hm with (hm | hm) | hm
   ·obtain ⟨i, D, hD, he⟩ := zcu.1 hm
    unfold evDg at he
    split at he
    ·obtain rfl := List.mem_singleton.1 he
     exact ⟨Int.le_refl _, Int.le_refl _⟩
    ·cases he
   ·obtain ⟨i, D, hD, he⟩ := zcu.1 hm
    unfold evMg at he
    split at he
    ·obtain rfl := List.mem_singleton.1 he
     exact ⟨Int.le_refl _, Int.le_refl _⟩
    ·cases he
   ·obtain rfl := List.mem_singleton.1 hm
    refine ⟨(zZx hx d).2, ?_⟩
    have := (z3p x d (cntS x d).High x.ShelfBook.Counts.1.zipIdx ⟨0, (zC x).Room⟩)
    have hhi : ∀ (l : List (zo × Nat)) (s : zr), (l.foldl (z8f x d) s).High ≤ s.High := by
     intro l
     induction l with
     | nil => intro s; exact Int.le_refl _
     | cons p t ih =>
      intro s
      refine Int.le_trans (ih _) ?_
      unfold z8f comm
      split
      ·simp only
       by_cases h : p.1.Read + p.1.Err < s.High <;> simp only [h, if_true, if_false] <;> omega
      ·exact Int.le_refl _
    exact hhi _ _
  unfold InS at h1
  omega
theorem zlr {x : zd} (hx : On x) {w : List Int} {V : Nat → Int} (hw : Way x w) (h : zQn x w V) : ∃ Cs v, zXh x (Nd x) Cs v ∧ ∀ d, d ≤ Nd x → (v d : Int) = V (evsL x w d).length := by
 have hd := hx.fine.days
 have h8 := zrh hx
 have hset := zuy x w
 refine ⟨fun e => (hset e).choose, fun d => (V (evsL x w d).length).toNat, ⟨?_, ?_, fun e he => ⟨?_, ?_, ?_⟩⟩, fun d hd => ?_⟩
 ·refine zhw fun i => ?_
  have h1 := (hset 0).choose_spec.2 i
  cases hb : (hset 0).choose.testBit i with
  | false => rfl
  | true =>
   obtain ⟨D, c, h2, h3, h4, h5⟩ := h1.1 hb
   obtain ⟨c', h6, h7, _⟩ := zPs hw h2
   rw [h4] at h6; cases h6
   have := (hx.fine.deliveries _ (List.mem_of_getElem? h2)).2.1.1
   omega
 ·have h0 := h.1
  have h1 := z9m hx h 0 (by omega)
  unfold InS at h0
  have : (evsL x w 0).length = 0 := rfl
  rw [this]
  omega
 ·exact (hset (e + 1)).choose_spec.1
 ·intro i D hD
  have hB := (hset e).choose_spec.2 i
  have hC := (hset (e + 1)).choose_spec.2 i
  obtain ⟨c, h6, h7, h8⟩ := zPs hw hD
  have hb : (hset e).choose.testBit i = true ↔ D.Shelf = x.shelf ∧ c < (e : Int) := by
   rw [hB]
   constructor
   ·rintro ⟨D', c', h1, h2, h3, h4⟩
    rw [hD] at h1; rw [h6] at h3; cases h1; cases h3
    exact ⟨h2, h4⟩
   ·rintro ⟨h2, h4⟩; exact ⟨D, c, hD, h2, h6, h4⟩
  have hc : (hset (e + 1)).choose.testBit i = true ↔ D.Shelf = x.shelf ∧ c < ((e + 1 : Nat) : Int) := by
   rw [hC]
   constructor
   ·rintro ⟨D', c', h1, h2, h3, h4⟩
    rw [hD] at h1; rw [h6] at h3; cases h1; cases h3
    exact ⟨h2, h4⟩
   ·rintro ⟨h2, h4⟩; exact ⟨D, c, hD, h2, h6, h4⟩
  unfold zef
  by_cases hs : D.Shelf = x.shelf
  ·rw [if_pos hs]
   rw [if_pos hs] at h8
   refine ⟨fun h1 => hc.2 ⟨hs, by have := (hb.1 h1).2; push_cast; omega⟩, fun h1 h2 => ?_, fun h1 => ?_⟩
   ·have h3 := (hc.1 h1).2
    have h4 : ¬ c < (e : Int) := fun h4 => by rw [hb.2 ⟨hs, h4⟩] at h2; cases h2
    push_cast at h3
    omega
   ·have h4 : ¬ c < ((e + 1 : Nat) : Int) := fun h4 => by rw [hc.2 ⟨hs, h4⟩] at h1; cases h1
    push_cast at h4
    omega
  ·rw [if_neg hs]
   cases hb' : (hset (e + 1)).choose.testBit i with
   | false => rfl
   | true => exact absurd (hc.1 hb').1 hs
 ·have hB := (hset e).choose_spec
  have hC := (hset (e + 1)).choose_spec
  have hon : zBs x w e (dif (hset (e + 1)).choose (hset e).choose) := by
   intro i D hD
   rw [ztu (by omega) (by omega), Bool.and_eq_true, Bool.not_eq_true', hC.2 i, ← Bool.not_eq_true, hB.2 i]
   obtain ⟨c, h6, h7, h8⟩ := zPs hw hD
   constructor
   ·rintro ⟨⟨D', c', h1, h2, h3, h4⟩, h5⟩
    rw [hD] at h1; rw [h6] at h3; cases h1; cases h3
    refine ⟨h2, ?_⟩
    have : ¬ c < (e : Int) := fun h9 => h5 ⟨D, c, hD, h2, h6, h9⟩
    rw [h6]
    congr 1
    push_cast at h4
    omega
   ·rintro ⟨h1, h2⟩
    refine ⟨⟨D, e, hD, h1, h2, by push_cast; omega⟩, ?_⟩
    rintro ⟨D', c', h3, h4, h5, h9⟩
    rw [h2] at h5; cases h5
    omega
  have hsteps : zMg (zOd x w e) fun i => V ((evsL x w e).length + i) := by
   obtain ⟨l, hl⟩ := z8p x w (e + 1) (Nd x - (e + 1))
   have e1 : e + 1 + (Nd x - (e + 1)) = Nd x := by have : e < Nd x := he; omega
   rw [e1] at hl
   have h1 := h.2
   rw [hl, zVc, List.append_assoc] at h1
   have h2 := (zvd.1 h1).2
   exact (zvd.1 h2).1
  have he' : e < Nd x := he
  have r0 := z9m hx h (evsL x w e).length (zyn x w (by omega))
  have r1 := z9m hx h (evsL x w (e + 1)).length (zyn x w (by omega))
  refine (zns hon (by omega)).2 ⟨_, hsteps, ?_, ?_⟩
  ·show V ((evsL x w e).length + 0) = _
   rw [Nat.add_zero]
   omega
  ·show V ((evsL x w e).length + (zOd x w e).length) = _
   have : (evsL x w (e + 1)).length = (evsL x w e).length + (zOd x w e).length := by rw [zVc, List.length_append]
   rw [← this]
   omega
 ·have := z9m hx h (evsL x w d).length (zyn x w hd)
  show (((V (evsL x w d).length).toNat : Nat) : Int) = _
  omega
theorem zqq {x : zd} {N : Nat} {Cs v : Nat → Nat} (h : zXh x N Cs v) {i : Nat} {D : zw} (hD : x.ShelfBook.Deliveries.1[i]? = some D) (hs : D.Shelf = x.shelf) : ∀ t e, e + t ≤ N → (Cs e).testBit i = true → (Cs (e + t)).testBit i = true
 | 0, e, _, hb => hb
 | t + 1, e, he, hb => by
  have h1 := zqq h hD hs t e (by omega) hb
  have h2 := (h.step (e + t) (by omega)).2.1 i D hD
  unfold zef at h2
  rw [if_pos hs] at h2
  exact h2.1 h1
theorem z2r {C : Nat → Nat} {i : Nat} (h0 : C 0 = 0) : ∀ N, (C N).testBit i = true → ∃ e, e < N ∧ (C e).testBit i = false ∧ (C (e + 1)).testBit i = true
 | 0, h => by rw [h0] at h; simp at h
 | N + 1, h => by
  cases hb : (C N).testBit i with
  | false => exact ⟨N, by omega, hb, h⟩
  | true =>
   obtain ⟨e, h1, h2⟩ := z2r h0 N hb
   exact ⟨e, by omega, h2⟩
theorem zou {n : Nat} {P : Nat → Int → Prop} (h : ∀ i, i < n → ∃ c, P i c) : ∃ w : List Int, w.length = n ∧ ∀ i, i < n → ∃ c, w[i]? = some c ∧ P i c := by
 induction n with
 | zero => exact ⟨[], rfl, fun i h => absurd h (by omega)⟩
 | succ n ih =>
  obtain ⟨w, h1, h2⟩ := ih fun i hi => h i (by omega)
  obtain ⟨c, hc⟩ := h n (by omega)
  refine ⟨w ++ [c], by simp [h1], fun i hi => ?_⟩
  by_cases e : i = n
  ·subst e
   exact ⟨c, by rw [← h1]; simp, hc⟩
  ·obtain ⟨c', h3, h4⟩ := h2 i (by omega)
   exact ⟨c', by rw [List.getElem?_append_left (by omega)]; exact h3, h4⟩
theorem zXv {x : zd} (hx : On x) {Cs v : Nat → Nat} (h : zXh x (Nd x) Cs v) : ∃ w, Way x w ∧ ∀ e, e < Nd x → zBs x w e (dif (Cs (e + 1)) (Cs e)) := by
 have hd := hx.fine.days
 have h8 := zrh hx
 have hlt : ∀ e, e ≤ Nd x → Cs e < 2 ^ 63 := by
  intro e he
  have := (zai hx h e he).2
  omega
 obtain ⟨w, h1, h2⟩ := zou (n := x.ShelfBook.Deliveries.1.length) (P := fun i c => ∀ D, x.ShelfBook.Deliveries.1[i]? = some D → (D.Days.Low ≤ c ∧ c ≤ (if D.Shelf = x.shelf then D.Days.High else D.Days.Low)) ∧ (D.Shelf = x.shelf → ∃ e : Nat, c = e ∧ e < Nd x ∧ (Cs e).testBit i = false ∧ (Cs (e + 1)).testBit i = true)) (by
  intro i hi
  obtain ⟨D, hD, hm⟩ := zpo hi
  obtain ⟨_, ⟨hd1, hd2, hd3⟩, _⟩ := hx.fine.deliveries _ hm
  by_cases hs : D.Shelf = x.shelf
  ·have hN : (Cs (Nd x)).testBit i = true := by
    have h3 : Nd x - 1 + 1 = Nd x := by unfold Nd; omega
    have h4 := (h.step (Nd x - 1) (by omega)).2.1 i D hD
    rw [h3] at h4
    unfold zef at h4
    rw [if_pos hs] at h4
    cases hb : (Cs (Nd x)).testBit i with
    | true => rfl
    | false =>
     have := h4.2.2 hb
     unfold Nd at this
     omega
   obtain ⟨e, h3, h4, h5⟩ := z2r h.c0 _ hN
   have h6 := (h.step e h3).2.1 i D hD
   unfold zef at h6
   rw [if_pos hs] at h6
   have h7 := h6.2.1 h5 h4
   refine ⟨e, fun D' hD' => ?_⟩
   rw [hD] at hD'; cases hD'
   rw [if_pos hs]
   exact ⟨h7, fun _ => ⟨e, rfl, h3, h4, h5⟩⟩
  ·refine ⟨D.Days.Low, fun D' hD' => ?_⟩
   rw [hD] at hD'; cases hD'
   rw [if_neg hs]
   exact ⟨⟨Int.le_refl _, Int.le_refl _⟩, fun h => absurd h hs⟩)
 refine ⟨w, ⟨h1, fun i D hi hD => ?_⟩, fun e he i D hD => ?_⟩
 ·obtain ⟨c, h3, h4⟩ := h2 i hi
  exact ⟨c, h3, (h4 D hD).1⟩
 ·obtain ⟨c, h3, h4⟩ := h2 i (List.getElem?_eq_some_iff.1 hD).1
  rw [ztu (hlt _ (by omega)) (hlt _ (by omega)), Bool.and_eq_true, Bool.not_eq_true']
  constructor
  ·rintro ⟨h5, h6⟩
   have hs : D.Shelf = x.shelf := by
    refine Classical.byContradiction fun hs => ?_
    have h7 := (h.step e he).2.1 i D hD
    unfold zef at h7
    rw [if_neg hs] at h7
    rw [h7] at h5; cases h5
   obtain ⟨e', rfl, h7, h8, h9⟩ := (h4 D hD).2 hs
   refine ⟨hs, ?_⟩
   have : e' = e := by
    rcases Nat.lt_trichotomy e' e with h10 | h10 | h10
    ·have := zqq h hD hs (e - (e' + 1)) (e' + 1) (by omega) h9
     have e1 : e' + 1 + (e - (e' + 1)) = e := by omega
     rw [e1, h6] at this; cases this
    ·exact h10
    ·have := zqq h hD hs (e' - (e + 1)) (e + 1) (by omega) h5
     have e1 : e + 1 + (e' - (e + 1)) = e' := by omega
     rw [e1, h8] at this; cases this
   rw [h3, this]
  ·rintro ⟨hs, h5⟩
   obtain ⟨e', rfl, h7, h8, h9⟩ := (h4 D hD).2 hs
   rw [h3] at h5
   have : e' = e := by have := Option.some.inj h5; omega
   subst this
   exact ⟨h9, h8⟩
theorem zXq {x : zd} (hx : On x) {Cs v : Nat → Nat} (h : zXh x (Nd x) Cs v) : ∃ w V, Way x w ∧ zQn x w V ∧ (∀ d, d ≤ Nd x → V (evsL x w d).length = v d) := by
 obtain ⟨w, hw, hon⟩ := zXv hx h
 suffices ∀ d, d ≤ Nd x → ∃ V : Nat → Int, V 0 = v 0 ∧ zMg (evsL x w d) V ∧ ∀ d', d' ≤ d → V (evsL x w d').length = v d' by
  obtain ⟨V, h1, h2, h3⟩ := this (Nd x) (Nat.le_refl _)
  have h4 := h.v0
  exact ⟨w, V, hw, ⟨by unfold InS; rw [h1]; exact h4, h2⟩, h3⟩
 intro d
 induction d with
 | zero =>
  intro _
  refine ⟨fun _ => v 0, rfl, fun i e he => by simp [evsL] at he, fun d' hd' => ?_⟩
  obtain rfl : d' = 0 := by omega
  rfl
 | succ d ih =>
  intro hd
  obtain ⟨V, h1, h2, h3⟩ := ih (by omega)
  have hin := (zai hx h d (by omega)).1
  obtain ⟨u, h4, h5, h6⟩ := (zns (hon d (by omega)) hin).1 (h.step d (by omega)).2.2
  have hlen := h3 d (Nat.le_refl _)
  refine ⟨fun i => if i ≤ (evsL x w d).length then V i else u (i - (evsL x w d).length), by simpa using h1, ?_, fun d' hd' => ?_⟩
  ·rw [zVc]
   refine zvd.2 ⟨zkr (fun i hi => ?_) h2, zkr (fun i hi => ?_) h4⟩
   ·simp only [hi, if_true]
   ·by_cases hi0 : i = 0
    ·subst hi0
     simp only [Nat.add_zero, Nat.le_refl, if_true]
     rw [hlen, h5]
    ·have a1 : ¬ (evsL x w d).length + i ≤ (evsL x w d).length := by omega
     simp only [a1, if_false]
     congr 1
     omega
  ·by_cases e : d' = d + 1
   ·subst e
    have hl : (evsL x w (d + 1)).length = (evsL x w d).length + (zOd x w d).length := by rw [zVc, List.length_append]
    have hpos : 0 < (zOd x w d).length := by unfold zOd; simp only [List.length_append, List.length_singleton]; omega
    have a1 : ¬ (evsL x w (d + 1)).length ≤ (evsL x w d).length := by omega
    simp only [a1, if_false]
    rw [← h6]
    congr 1
    omega
   ·have a1 : (evsL x w d').length ≤ (evsL x w d).length := zyn x w (by omega)
    simp only [a1, if_true]
    exact h3 d' (by omega)
theorem zVs {x : zd} (hx : On x) : z0h x ↔ RCan x := by
 rw [zHp hx]
 constructor
 ·rintro ⟨Cs, v, h⟩
  obtain ⟨w, V, h1, h2, _⟩ := zXq hx h
  exact ⟨w, V, h1, h2⟩
 ·rintro ⟨w, V, h1, h2⟩
  obtain ⟨Cs, v, h, _⟩ := zlr hx h1 h2
  exact ⟨Cs, v, h⟩
theorem zKs {x : zd} (hx : On x) {d : Nat} (hd : (d : Int) < x.ShelfBook.Days) (n : Int) : (∃ m : Nat, n = m ∧ zVh x d m) ↔ zty x d n := by
 constructor
 ·rintro ⟨m, rfl, h⟩
  obtain ⟨Cs, v, h1, rfl⟩ := (zOm hx hd).1 h
  obtain ⟨w, V, h2, h3, h4⟩ := zXq hx h1
  exact ⟨w, V, h2, h3, h4 _ (by unfold Nd; omega)⟩
 ·rintro ⟨w, V, h1, h2, rfl⟩
  obtain ⟨Cs, v, h3, h4⟩ := zlr hx h1 h2
  exact ⟨v (d + 1), (h4 _ (by unfold Nd; omega)).symm, (zOm hx hd).2 ⟨Cs, v, h3, rfl⟩⟩
theorem zDu {b : zb} (hb : Fine b) {left : Int} (h0 : 0 ≤ left) (h1 : left < 9223372036854775808) : z4d b left ↔ zos b left := by
 unfold z4d zos
 constructor
 ·intro h s hs
  exact (zVs ⟨hb, by simp, by simpa using hs, h0, h1⟩).1 (h s hs)
 ·intro h s hs
  exact (zVs ⟨hb, by simp, by simpa using hs, h0, h1⟩).2 (h s hs)
end Go.AM
set_option linter.unusedVariables false
namespace Go.AM
open Go
def zZj (b : zb) (s d : Int) : Prop := (0 ≤ s ∧ s ≤ (b.Shelves.1.length : Int) - 1) ∧ 0 ≤ d ∧ d ≤ b.Days - 1
def AskE (b : zb) (q T : Prop) (e : Int) : Prop :=
 (¬ Fine b ∧ e = 40) ∨ (Fine b ∧ ¬ q ∧ e = 41) ∨ (Fine b ∧ q ∧ ¬ T ∧ e = 42) ∨ (Fine b ∧ q ∧ T ∧ e = 0)
theorem AskE.eq {b : zb} {q T : Prop} {e f : Int} (h : AskE b q T e) (g : AskE b q T f) : e = f := by
 unfold AskE at *
 rcases h with ⟨h1, h2⟩ | ⟨h1, h2, h3⟩ | ⟨h1, h2, h3, h4⟩ | ⟨h1, h2, h3, h4⟩ <;> rcases g with ⟨g1, g2⟩ | ⟨g1, g2, g3⟩ | ⟨g1, g2, g3, g4⟩ | ⟨g1, g2, g3, g4⟩ <;> first | omega | exact absurd h1 g1 | exact absurd g1 h1 | exact absurd h2 g2 | exact absurd g2 h2 | exact absurd h3 g3 | exact absurd g3 h3
theorem AskE.ok {b : zb} {q T : Prop} {e : Int} (h : AskE b q T e) (he : e = 0) : Fine b ∧ q ∧ T := by
 unfold AskE at h
 rcases h with ⟨h1, h2⟩ | ⟨h1, h2, h3⟩ | ⟨h1, h2, h3, h4⟩ | ⟨h1, h2, h3, h4⟩
 ·omega
 ·omega
 ·omega
 ·exact ⟨h1, h2, h3⟩
theorem zku {b : zb} {right : Bool} {q T : Prop} {e : Int} (hr : Fine b → (right = true ↔ q)) (h : zjv b right T e) : AskE b q T e := by
 unfold zjv at h
 unfold AskE
 rcases h with ⟨h1, h2⟩ | ⟨h1, h2, h3⟩ | ⟨h1, h2, h3, h4⟩ | ⟨h1, h2, h3, h4⟩
 ·exact .inl ⟨h1, h2⟩
 ·exact .inr (.inl ⟨h1, fun hq => (by rw [(hr h1).2 hq] at h2; cases h2), h3⟩)
 ·exact .inr (.inr (.inl ⟨h1, (hr h1).1 h2, h3, h4⟩))
 ·exact .inr (.inr (.inr ⟨h1, (hr h1).1 h2, h3, h4⟩))
theorem zAq {b : zb} (hf : Fine b) : w64 (b.Days - 1) = b.Days - 1 := by
 have := hf.days
 exact z8 (by omega) (by omega)
theorem zas {b : zb} (hs : zff b) (k : Nat) (s d : Int) : ∃ r, zVe k b s d = some r ∧ (Fine b → (r = true ↔ zZj b s d)) := by
 refine ⟨(decide (0 ≤ s) && decide (s ≤ (b.Shelves.1.length : Int) - 1)) && (decide (0 ≤ d) && decide (d ≤ w64 (b.Days - 1))), by simp only [zVe, zie, Option.bind_some, z8c, zij hs.shelves], fun hf => ?_⟩
 rw [zAq hf]
 simp only [Bool.and_eq_true, decide_eq_true_eq, zZj]
def z2g (b : zb) (s : Int) (d : Nat) (n : Int) : Prop := ∃ m : Nat, n = m ∧ zVh ⟨b, s, 0⟩ d m
theorem zpu {b : zb} (hf : Fine b) {s d : Int} (h : zZj b s d) : On (⟨b, s, 0⟩ : zd) := ⟨hf, h.1.1, by have := h.1.2; show s < (b.Shelves.1.length : Int); omega, Int.le_refl _, by show (0 : Int) < _; omega⟩
theorem z5s {b : zb} {s : Int} (hT : z4d b 0) (h0 : 0 ≤ s) (h1 : s ≤ (b.Shelves.1.length : Int) - 1) : z0h (⟨b, s, 0⟩ : zd) := by
 have := hT s.toNat (by omega)
 rwa [Int.toNat_of_nonneg h0] at this
theorem z9v {x : zd} (hx : On x) (hc : z0h x) {d : Nat} (hd : (d : Int) < x.ShelfBook.Days) : ∃ n, zVh x d n := by
 obtain ⟨Cs, v, h⟩ := (zHp hx).1 hc
 exact ⟨v (d + 1), (zOm hx hd).2 ⟨Cs, v, h, rfl⟩⟩
theorem z2n {x : zd} (hx : On x) {d n : Nat} (h : zVh x d n) : n ≤ 60 := by
 obtain ⟨C, h1, _⟩ := h
 have := z3h hx _ _ _ h1
 have := hx.shelf.1.2
 omega
theorem zqs {x : zd} (hx : On x) {v : Nat → Bool} (h : ∀ i : Nat, v i = true ↔ ∃ day n : Nat, (day : Int) < x.ShelfBook.Days ∧ i = day * 61 + n ∧ zVh x day n) {d n : Nat} (hd : (d : Int) < x.ShelfBook.Days) (hn : n ≤ 60) : v (d * 61 + n) = true ↔ zVh x d n := by
 rw [h]
 constructor
 ·rintro ⟨day, m, h1, h2, h3⟩
  have := z2n hx h3
  obtain rfl : day = d := by omega
  obtain rfl : n = m := by omega
  exact h3
 ·exact fun h3 => ⟨d, n, hd, rfl, h3⟩
theorem z5r {b : zb} {s : Int} (hx : On (⟨b, s, 0⟩ : zd)) (hc : z0h (⟨b, s, 0⟩ : zd)) {v : Nat → Bool} {d : Nat} (hd : (d : Int) < b.Days) (h : ∀ n, n ≤ 60 → (v n = true ↔ zVh ⟨b, s, 0⟩ d n)) {t : zr} (ht : zjr v 61 t.Low t.High) : Ends (z2g b s d) t := by
 obtain ⟨h1, h2⟩ := ht
 rcases h2 with ⟨h3, h4, h5⟩ | ⟨a, c, h3, h4, h5, h6, h7, h8⟩
 ·obtain ⟨n, hn⟩ := z9v hx hc hd
  have hle := z2n hx hn
  have := h5 n (by omega)
  rw [(h n hle).2 hn] at this; cases this
 ·refine ⟨⟨a, h7, (h a (by omega)).1 h5⟩, ⟨c, h8, (h c (by omega)).1 h6⟩, ?_⟩
  rintro n ⟨m, rfl, hm⟩
  have hle := z2n hx hm
  exact h1 m (by omega) ((h m hle).2 hm)
section
variable {b : zb} {k : Nat}
theorem zxy (hs : zff b) (hd : b.Days ≤ 9223372036854775807) (hk : Fuel k b) (s d : Int) : Ok (zWg k b s d) (fun r => AskE b (zZj b s d) (z4d b 0) r.2 ∧ (r.2 ≠ 0 → r.1 = ⟨0, 0⟩) ∧ (r.2 = 0 → Ends (z2g b s d.toNat) r.1)) := by
 obtain ⟨r, h1, h2⟩ := zas hs k s d
 unfold zWg
 rw [h1, Option.bind_some]
 refine Ok.bind (zlt hs hd hk r) fun e he => ?_
 have hE := zku h2 he
 cases hc : e != 0 with
 | true =>
  rw [cond_true]
  have hne : e ≠ 0 := by simpa using hc
  exact Ok.pure ⟨hE, fun _ => rfl, fun h => absurd h hne⟩
 | false =>
  rw [cond_false]
  obtain rfl : e = 0 := by simpa using hc
  obtain ⟨hf, hq, hT⟩ := hE.ok rfl
  have hx := zpu hf hq
  have hdays := hf.days
  have hcan := z5s hT hq.1.1 hq.1.2
  refine Ok.bind (zjs hx hk.k0) fun v hv => ?_
  have hq2 := hq.2
  have c1 : (decide (0 ≤ d) && decide (d < 12)) = true := by simp; omega
  rw [c1, cond_true]
  have hdl : ((d.toNat : Nat) : Int) < b.Days := by omega
  refine Ok.bind (zau hk.k0 _) fun t ht => Ok.pure ⟨hE, fun h => absurd rfl h, fun _ => ?_⟩
  exact z5r hx hcan hdl (fun n hn => zqs hx hv hdl hn) ht
def zgi (b : zb) (s d n : Int) : Prop := (∀ (j : Nat) m, d ≤ j → (j : Int) < b.Days → z2g b s j m → n ≤ m) ∧ ∃ j : Nat, d ≤ j ∧ (j : Int) < b.Days ∧ z2g b s j n
theorem zgi.eq {s d n m : Int} (h : zgi b s d n) (g : zgi b s d m) : n = m := by
 obtain ⟨h1, j, h2, h3, h4⟩ := h
 obtain ⟨g1, i, g2, g3, g4⟩ := g
 have := h1 i m g2 g3 g4
 have := g1 j n h2 h3 h4
 omega
theorem z1x (hs : zff b) (hd : b.Days ≤ 9223372036854775807) (hk : Fuel k b) (s d : Int) : Ok (zyf k b s d) (fun r => AskE b (zZj b s d) (z4d b 0) r.2 ∧ (r.2 ≠ 0 → r.1 = 0) ∧ (r.2 = 0 → zgi b s d r.1)) := by
 obtain ⟨r, h1, h2⟩ := zas hs k s d
 unfold zyf
 rw [h1, Option.bind_some]
 refine Ok.bind (zlt hs hd hk r) fun e he => ?_
 have hE := zku h2 he
 cases hc : e != 0 with
 | true =>
  rw [cond_true]
  have hne : e ≠ 0 := by simpa using hc
  exact Ok.pure ⟨hE, fun _ => rfl, fun h => absurd h hne⟩
 | false =>
  rw [cond_false]
  obtain rfl : e = 0 := by simpa using hc
  obtain ⟨hf, hq, hT⟩ := hE.ok rfl
  have hx := zpu hf hq
  have hdays := hf.days
  have hcan := z5s hT hq.1.1 hq.1.2
  have hq2 := hq.2
  refine Ok.bind (zjs hx hk.k0) fun v hv => ?_
  have hle : ∀ j m, z2g b s j m → m ≤ 60 := by
   rintro j m ⟨m', rfl, h⟩
   have := z2n hx h
   omega
  have hge : ∀ j m, z2g b s j m → 0 ≤ m := by
   rintro j m ⟨m', rfl, h⟩
   omega
  refine Ok.bind (Ok.count (b.Days - d).toNat (fun j z => z.2 = d + j ∧ (0 ≤ z.1 ∧ z.1 ≤ 60) ∧ (∀ (i : Nat) m, d ≤ i → (i : Int) < d + j → z2g b s i m → z.1 ≤ m) ∧ ((j = 0 ∧ z.1 = 60) ∨ ∃ i : Nat, d ≤ i ∧ (i : Int) < d + j ∧ z2g b s i z.1)) (Q := fun z : Int × Int => zgi b s d z.1) ?_ ?_ ⟨by simp, by omega, fun i m h3 h4 => by simp at h4; omega, .inl ⟨rfl, rfl⟩⟩ (by have := hk.k0; omega)) fun r hr => Ok.pure ⟨hE, fun h => absurd rfl h, fun _ => hr⟩
  ·rintro j ⟨n, i⟩ hj ⟨hi, hn, h3, h4⟩
   obtain rfl : i = d + j := hi
   have c1 : decide (d + (j : Int) < b.Days) = true := by simp; omega
   have c2 : (decide (0 ≤ d + (j : Int)) && decide (d + (j : Int) < 12)) = true := by simp; omega
   have hdl : (((d + (j : Int)).toNat : Nat) : Int) < b.Days := by omega
   have c3 : w64 (d + (j : Int) + 1) = d + ((j + 1 : Nat) : Int) := by rw [z8 (by omega) (by omega)]; push_cast; omega
   simp only [zAg, c1, c2, cond_true]
   refine Ok.bind (zau hk.k0 _) fun t ht => ?_
   have hends := z5r hx hcan hdl (fun n hn => zqs hx hv hdl hn) ht
   have hlow := hends.1
   have hl1 := hle _ _ hlow
   have hl2 := hge _ _ hlow
   have hn' : 0 ≤ n ∧ n ≤ 60 := hn
   have w1 : w64 (0 - n) = -n := by rw [z8 (by omega) (by omega)]; omega
   have w2 : w64 (0 - t.Low) = -t.Low := by rw [z8 (by omega) (by omega)]; omega
   have w3 : w64 (0 - (if -t.Low > -n then -t.Low else -n)) = if t.Low < n then t.Low else n := by
    rw [z8 (by split <;> omega) (by split <;> omega)]
    split <;> split <;> omega
   rw [w1, w2, zno hk.k0, Option.bind_some, w3, c3]
   have hday : ((((d + (j : Int)).toNat : Nat)) : Int) = d + j := by omega
   refine Ok.pure ⟨rfl, ?_, fun i m h5 h6 h7 => ?_, .inr ?_⟩
   ·show 0 ≤ (if t.Low < n then t.Low else n) ∧ (if t.Low < n then t.Low else n) ≤ 60
    split <;> omega
   ·show (if t.Low < n then t.Low else n) ≤ m
    by_cases e : (i : Int) = d + j
    ·have : i = (d + (j : Int)).toNat := by omega
     subst this
     have h8 := (hends.2.2 m h7).1
     split <;> omega
    ·have h8 := h3 i m h5 (by push_cast at h6; omega) h7
     have h8' : n ≤ m := h8
     split <;> omega
   ·show ∃ i : Nat, d ≤ i ∧ (i : Int) < d + ((j + 1 : Nat) : Int) ∧ z2g b s i (if t.Low < n then t.Low else n)
    by_cases e : t.Low < n
    ·rw [if_pos e]
     exact ⟨(d + (j : Int)).toNat, by omega, by push_cast; omega, hlow⟩
    ·rw [if_neg e]
     rcases h4 with ⟨rfl, h5⟩ | ⟨i, h5, h6, h7⟩
     ·have h5' : n = 60 := h5
      have : t.Low = n := by omega
      exact ⟨(d + ((0 : Nat) : Int)).toNat, by omega, by push_cast; omega, this ▸ hlow⟩
     ·exact ⟨i, h5, by push_cast; omega, h7⟩
  ·rintro ⟨n, i⟩ ⟨hi, hn, h3, h4⟩
   have hi' : i = d + ((b.Days - d).toNat : Int) := hi
   have c1 : decide (i < b.Days) = false := by simp only [decide_eq_false_iff_not]; omega
   simp only [zAg, c1, cond_false]
   refine Ok.pure ⟨fun i m h5 h6 h7 => h3 i m h5 (by omega) h7, ?_⟩
   rcases h4 with ⟨h5, _⟩ | ⟨i, h5, h6, h7⟩
   ·omega
   ·exact ⟨i, h5, by omega, h7⟩
end
end Go.AM
set_option linter.unusedVariables false
namespace Go.AM
open Go
structure zhv (S n : Nat) (l : List Int) : Prop where
 climbs : l.Pairwise (· < ·)
 mem : ∀ x, x ∈ l ↔ ∃ i : Nat, x = (i : Int) ∧ i < n ∧ S.testBit i = true
 len : l.length ≤ n
theorem zhv.eq {S n : Nat} {l l' : List Int} (h : zhv S n l) (h' : zhv S n l') : l = l' := zct h.climbs h'.climbs fun x => (h.mem x).trans (h'.mem x).symm
end Go.AM
set_option linter.unusedVariables false
namespace Go.AM
open Go
abbrev zmx (l : List Nat) : Prop := l.Pairwise (· < ·)
def ltL (a c : List Nat) : Prop := ∃ x, x ∈ a ∧ x ∉ c ∧ ∀ y, y < x → (y ∈ a ↔ y ∈ c)
theorem zBx {a c : List Nat} (h : ltL a c) (g : ltL c a) : False := by
 obtain ⟨x, h1, h2, h3⟩ := h
 obtain ⟨y, g1, g2, g3⟩ := g
 rcases Nat.lt_trichotomy x y with h4 | h4 | h4
 ·exact h2 ((g3 x h4).2 h1)
 ·subst h4; exact h2 g1
 ·exact g2 ((h3 y h4).2 g1)
def leS (a c : List Nat) : Prop := a.length < c.length ∨ (a.length = c.length ∧ (a = c ∨ ltL a c))
theorem zvw {a c : List Nat} (h : leS a c) (g : leS c a) : a = c := by
 rcases h with h | ⟨h, h'⟩ <;> rcases g with g | ⟨g, g'⟩
 ·omega
 ·omega
 ·omega
 ·rcases h' with rfl | h'
  ·rfl
  ·rcases g' with rfl | g'
   ·rfl
   ·exact (zBx h' g').elim
structure Best (n : Nat) (P : List Nat → Prop) (l : List Nat) : Prop where
 climb : zmx l
 lt : ∀ i ∈ l, i < n
 ok : P l
 least : ∀ l', zmx l' → (∀ i ∈ l', i < n) → P l' → leS l l'
theorem Best.eq {n : Nat} {P : List Nat → Prop} {l l' : List Nat} (h : Best n P l) (g : Best n P l') : l = l' := zvw (h.least l' g.climb g.lt g.ok) (g.least l h.climb h.lt h.ok)
end Go.AM
set_option linter.unusedVariables false
namespace Go.AM
open Go
def zIz (b : zb) (s : Nat) (i : Nat) : Prop := ∃ c, b.Counts.1[i]? = some c ∧ c.Shelf = (s : Int)
section
variable {b : zb} {k : Nat}
end
end Go.AM
set_option linter.unusedVariables false
namespace Go.AM
open Go
theorem zuw {k : Nat} {b : zb} (hs : zff b) (hd : b.Days ≤ 9223372036854775807) (hk : Fuel k b) : Ok (z3c k b) (fun r => r = true ↔ Fine b) := by
 unfold z3c
 refine Ok.bind (z8s hs hd hk) fun e he => ?_
 rcases he with ⟨rfl, hf⟩ | ⟨rfl, hf⟩
 ·have hf2 := hf
  obtain ⟨h1, h2, h3, h4, h5, _⟩ := hf2
  simp only [BEq.rfl, cond_true, zol, Option.bind_some, z8c]
  refine Ok.pure ⟨fun _ => hf, fun _ => ?_⟩
  simp only [Bool.and_eq_true, decide_eq_true_eq]
  omega
 ·rw [show ((40 : Int) == 0) = false from rfl, cond_false]
  exact Ok.pure ⟨fun h => Bool.noConfusion h, fun h => absurd h hf⟩
theorem Ok.held {f : Bool × Int → Option ((Bool × Int) ⊕ (Bool × Int))} (acc : Bool) (n : Nat)
  (next : acc = true → ∀ j : Nat, j < n → Ok (f (true, (j : Int))) (fun x => x = .inl (true, ((j + 1 : Nat) : Int))))
  (out : ∀ i, f (false, i) = some (.inr (false, i)))
  (last : f (true, (n : Int)) = some (.inr (true, (n : Int)))) {k : Nat} (hk : n < k) : Ok (Go.AM.iter f k (acc, 0)) (fun r => r.1 = acc) := by
 cases acc with
 | false =>
  refine Ok.count 0 (fun j s => s = (false, 0)) (fun j s hj => absurd hj (by omega)) ?_ rfl (by omega)
  rintro s rfl
  rw [out]
  exact Ok.pure rfl
 | true =>
  refine Ok.count n (fun j s => s = (true, (j : Int))) ?_ ?_ rfl hk
  ·rintro j s hj rfl
   refine (next rfl j hj).mono ?_
   rintro x rfl
   rfl
  ·rintro s rfl
   rw [last]
   exact Ok.pure rfl
theorem ztw {k : Nat} {b : zb} (hs : zff b) (hd : b.Days ≤ 9223372036854775807) (hk : Fuel k b) : Ok (zRd k b) (fun r => r = true ↔ Fine b) := by
 unfold zRd
 refine (zuw hs hd hk).bind fun r1 h1 => ?_
 refine Ok.bind (Ok.held r1 b.Shelves.1.length (fun e j hj => ?_) (fun i => by simp [zkc, zmc]) (by simp [zkc, zmc]) hk.shelves) fun r2 h2 => ?_
 ·have hf := h1.1 e
  obtain ⟨⟨a1, a2⟩, a3, a4, a5⟩ := hf.shelves _ (List.getElem_mem hj)
  have hn := hf.nshelves
  simp only [zkc, zmc, zbe, zIb hj, cond_true, zib hj, Option.bind_some, zol, zkm, z8c, zbb hj hs.shelves]
  generalize b.Shelves.1[j] = x at *
  have : (decide (1 ≤ x.Room) && decide (x.Room ≤ 60) && (decide (0 ≤ x.Begin.Low) && (decide (x.Begin.Low ≤ x.Begin.High) && decide (x.Begin.High ≤ x.Room)))) = true := by simp only [Bool.and_eq_true, decide_eq_true_eq]; omega
  rw [this]
  exact Ok.pure rfl
 refine Ok.bind (Ok.held r2.1 b.Moves.1.length (fun e j hj => ?_) (fun i => by simp [zjc, zcc]) (by simp [zjc, zcc]) hk.moves) fun r3 h3 => ?_
 ·have hf := h1.1 (h2 ▸ e)
  obtain ⟨⟨a1, a2⟩, ⟨a3, a4⟩, a5, a6, a7⟩ := hf.moves _ (List.getElem_mem hj)
  simp only [zjc, zcc, zKd, zIb hj, cond_true, zib hj, Option.bind_some, zol, zkm, z8c, zbb hj hs.moves, zAq hf, zij hs.shelves]
  generalize b.Moves.1[j] = x at *
  have : (decide (0 ≤ x.Day) && decide (x.Day ≤ b.Days - 1) && (decide (0 ≤ x.Shelf) && decide (x.Shelf ≤ (b.Shelves.1.length : Int) - 1) && (decide (0 ≤ x.By.Low) && (decide (x.By.Low ≤ x.By.High) && decide (x.By.High ≤ 60))))) = true := by simp only [Bool.and_eq_true, decide_eq_true_eq]; omega
  rw [this]
  exact Ok.pure rfl
 refine Ok.bind (Ok.held r3.1 b.Deliveries.1.length (fun e j hj => ?_) (fun i => by simp [zbc, zac]) (by simp [zbc, zac]) hk.deliveries) fun r4 h4 => ?_
 ·have hf := h1.1 (h2 ▸ h3 ▸ e)
  obtain ⟨⟨a1, a2⟩, ⟨a3, a4, a8⟩, a5, a6, a7⟩ := hf.deliveries _ (List.getElem_mem hj)
  simp only [zbc, zac, zId, zIb hj, cond_true, zib hj, Option.bind_some, zol, zkm, z8c, zbb hj hs.deliveries, zAq hf, zij hs.shelves]
  generalize b.Deliveries.1[j] = x at *
  have : (decide (0 ≤ x.Shelf) && decide (x.Shelf ≤ (b.Shelves.1.length : Int) - 1) && ((decide (0 ≤ x.Days.Low) && (decide (x.Days.Low ≤ x.Days.High) && decide (x.Days.High ≤ b.Days - 1))) && (decide (0 ≤ x.By.Low) && (decide (x.By.Low ≤ x.By.High) && decide (x.By.High ≤ 60))))) = true := by simp only [Bool.and_eq_true, decide_eq_true_eq]; omega
  rw [this]
  exact Ok.pure rfl
 refine Ok.bind (Ok.held r4.1 b.Counts.1.length (fun e j hj => ?_) (fun i => by simp [zdc, zec]) (by simp [zdc, zec]) hk.counts) fun r5 h5 => ?_
 ·have hf := h1.1 (h2 ▸ h3 ▸ h4 ▸ e)
  obtain ⟨⟨a1, a2⟩, ⟨a3, a4⟩, ⟨a5, a6⟩, a7, a8⟩ := hf.counts _ (List.getElem_mem hj)
  simp only [zdc, zec, zLd, zIb hj, cond_true, zib hj, Option.bind_some, zol, zkm, z8c, zbb hj hs.counts, zAq hf, zij hs.shelves]
  generalize b.Counts.1[j] = x at *
  have : (decide (0 ≤ x.Day) && decide (x.Day ≤ b.Days - 1) && (decide (0 ≤ x.Shelf) && decide (x.Shelf ≤ (b.Shelves.1.length : Int) - 1) && (decide (0 ≤ x.Read) && decide (x.Read ≤ 60) && (decide (0 ≤ x.Err) && decide (x.Err ≤ 20))))) = true := by simp only [Bool.and_eq_true, decide_eq_true_eq]; omega
  rw [this]
  exact Ok.pure rfl
 refine Ok.pure ?_
 rw [h5, h4, h3, h2, h1]
theorem zbu {k : Nat} {a : Int} {n : Nat} (hn : 1 ≤ n) (hn2 : n ≤ 1000000) : Ok (zob k a (n : Int)) (fun r => ∃ i : Nat, r = (i : Int) ∧ i < n) := by
 unfold zob
 have c1 : decide ((n : Int) < 1) = false := by simp; omega
 have c2 : ((n : Int) == 0) = false := by simp; omega
 rw [c1, c2, cond_false, cond_false]
 have h1 := Int.tmod_lt_of_pos a (show (0 : Int) < n by omega)
 have h2 : -(n : Int) < a.tmod n := by
  have := Int.lt_tmod_of_pos a (show (0 : Int) < n by omega)
  exact this
 cases hc : decide (a.tmod (n : Int) < 0) with
 | true =>
  have := of_decide_eq_true hc
  simp only [zZb, cond_true, Option.bind_some]
  refine Ok.pure ⟨(a.tmod n + n).toNat, ?_, by omega⟩
  rw [z8 (by omega) (by omega)]
  omega
 | false =>
  have := of_decide_eq_false hc
  simp only [zZb, cond_false, Option.bind_some]
  exact Ok.pure ⟨(a.tmod n).toNat, by omega, by omega⟩
def zhf (b : zb) (C : SL zo) : zb := ⟨b.Days, b.Shelves, b.Moves, b.Deliveries, C⟩
theorem zcr {b : zb} (hf : Fine b) {C : SL zo} (hn : C.1.length ≤ 8) (hC : ∀ c ∈ C.1, zhk b c) : Fine (zhf b C) :=
 ⟨hf.days, hf.nshelves, hf.nmoves, hf.ndeliveries, hn, hf.shelves, hf.moves, hf.deliveries, hC⟩
theorem zWt {b : zb} (hs : zff b) {C : SL zo} (h : C.1.length < 9223372036854775808) : zff (zhf b C) := ⟨hs.shelves, hs.moves, hs.deliveries, h⟩
theorem zSu {k : Nat} {b : zb} (hk : Fuel k b) {C : SL zo} (h : C.1.length < k) : Fuel k (zhf b C) := ⟨hk.k0, hk.shelves, hk.moves, hk.deliveries, h⟩
theorem onL {b : zb} (hf : Fine b) {s : Int} (h0 : 0 ≤ s) (h1 : s ≤ (b.Shelves.1.length : Int) - 1) {L : Nat} (hL : L < 2 ^ 60) : On (⟨b, s, (L : Int)⟩ : zd) := ⟨hf, h0, by show s < (b.Shelves.1.length : Int); omega, by show (0 : Int) ≤ (L : Int); omega, by show (L : Int) < _; omega⟩
end Go.AM
set_option linter.unusedVariables false
namespace Go.AM
open Go
section
open Classical
variable {b : zb}
noncomputable def part (b : zb) (s : Nat) (l : List Nat) : List Nat := l.filter fun i => decide (zIz b s i)
end
end Go.AM
set_option linter.unusedVariables false
namespace Go.AM
open Go
section
variable {b : zb} {k : Nat}
theorem zrw (hs : zff b) (hd : b.Days ≤ 9223372036854775807) (hk : Fuel k b) (hf : Fine b) (hT : z4d b 0) {s d : Int} (hq : zZj b s d) : Ok (zWg k b s d) (fun r => r.2 = 0 ∧ Ends (z2g b s d.toNat) r.1) := by
 refine (zxy hs hd hk s d).mono fun r hr => ?_
 have h0 : r.2 = 0 := by
  rcases hr.1 with ⟨h1, h2⟩ | ⟨h1, h2, h3⟩ | ⟨h1, h2, h3, h4⟩ | ⟨h1, h2, h3, h4⟩
  ·exact absurd hf h1
  ·exact absurd hq h2
  ·exact absurd hT h3
  ·exact h4
 exact ⟨h0, hr.2.2 h0⟩
end
end Go.AM
set_option linter.unusedVariables false
namespace Go.AM
open Go
theorem zex {b : zb} {C : SL zo} {s : Int} (day : Int) (n : Nat) : zSe ⟨zhf b C, s, 0⟩ day n ↔ ∀ c ∈ C.1, c.Day = day → c.Shelf = s → c.Read - c.Err ≤ (n : Int) ∧ (n : Int) ≤ c.Read + c.Err := by
 unfold zSe zmg
 constructor
 ·intro h c hc hd hs
  obtain ⟨i, hi, he⟩ := List.getElem_of_mem hc
  exact h i c (by show C.1[i]? = some c; rw [List.getElem?_eq_getElem hi, he]) hd hs (by simp)
 ·intro h i c hi hd hs _
  exact h c (List.mem_of_getElem? hi) hd hs
theorem Ends.congr {P Q : Int → Prop} {s : zr} (h : Ends P s) (e : ∀ n, P n ↔ Q n) : Ends Q s := ⟨(e _).1 h.1, (e _).1 h.2.1, fun n hn => h.2.2 n ((e n).2 hn)⟩
theorem zEv {k : Nat} {b : zb} (hf : Fine b) (a : Int) : Ok (zob k a b.Days) (fun r => ∃ i : Nat, r = (i : Int) ∧ i < b.Days.toNat) := by
 have hdays := hf.days
 have hday : b.Days = ((b.Days.toNat : Nat) : Int) := by omega
 rw [hday]
 exact (zbu (by omega) (by omega)).mono fun r hr => by
  obtain ⟨i, h1, h2⟩ := hr
  exact ⟨i, h1, by omega⟩
section
variable {b : zb} {k : Nat}
end
end Go.AM
set_option linter.unusedVariables false
namespace Go.AM
open Go
theorem zpt {k : Nat} {a : Int} {n : Nat} (hn : 1 ≤ n) (hn2 : n < 9223372036854775808) : Ok (zob k a (n : Int)) (fun r => ∃ i : Nat, r = (i : Int) ∧ i < n) := by
 unfold zob
 have c1 : decide ((n : Int) < 1) = false := by simp; omega
 have c2 : ((n : Int) == 0) = false := by simp; omega
 rw [c1, c2, cond_false, cond_false]
 have h1 := Int.tmod_lt_of_pos a (show (0 : Int) < n by omega)
 have h2 : -(n : Int) < a.tmod n := Int.lt_tmod_of_pos a (show (0 : Int) < n by omega)
 cases hc : decide (a.tmod (n : Int) < 0) with
 | true =>
  have := of_decide_eq_true hc
  simp only [zZb, cond_true, Option.bind_some]
  refine Ok.pure ⟨(a.tmod n + n).toNat, ?_, by omega⟩
  rw [z8 (by omega) (by omega)]
  omega
 | false =>
  have := of_decide_eq_false hc
  simp only [zZb, cond_false, Option.bind_some]
  exact Ok.pure ⟨(a.tmod n).toNat, by omega, by omega⟩
theorem z3m {k : Nat} {l : SL Int} (hl : l.1.length < 9223372036854775808) (x : Int) : Ok (zNb k l x) (fun _ => True) := by
 unfold zNb
 by_cases h : l.1.length = 0
 ·rw [show ((l.1.length : Int) == 0) = true by simp [h], cond_true]
  exact Ok.pure trivial
 ·rw [show ((l.1.length : Int) == 0) = false by simp only [beq_eq_false_iff_ne, ne_eq]; omega, cond_false]
  refine Ok.bind (zpt (by omega) hl) fun r hr => ?_
  obtain ⟨i, rfl, hi⟩ := hr
  rw [zib hi, Option.bind_some]
  exact Ok.pure trivial
theorem zzo {k : Nat} {s : zr} (h1 : -1000 ≤ s.Low) (h2 : s.Low ≤ 1000) (h3 : -1000 ≤ s.High) (h4 : s.High ≤ 1000) (x : Int) : Ok (zWb k s x) (fun r => s.Low ≤ r ∧ (s.Low ≤ s.High → r ≤ s.High) ∧ (s.High ≤ s.Low → r = s.Low)) := by
 unfold zWb
 by_cases h : s.High ≤ s.Low
 ·rw [show decide (s.High ≤ s.Low) = true by simp [h], cond_true]
  exact Ok.pure ⟨Int.le_refl _, fun h => h, fun _ => rfl⟩
 ·have e : w64 (w64 (s.High - s.Low) + 1) = (((s.High - s.Low + 1).toNat : Nat) : Int) := by
   rw [z8 (show -9223372036854775808 ≤ s.High - s.Low by omega) (by omega), z8 (by omega) (by omega)]; omega
  rw [show decide (s.High ≤ s.Low) = false by simp; omega, cond_false, e, show decide ((((s.High - s.Low + 1).toNat : Nat) : Int) < 1) = false by simp only [decide_eq_false_iff_not]; omega, cond_false]
  refine Ok.bind (zpt (by omega) (by omega)) fun r hr => ?_
  obtain ⟨i, rfl, hi⟩ := hr
  rw [z8 (by omega) (by omega)]
  exact Ok.pure ⟨by omega, fun _ => by omega, fun h' => absurd h' h⟩
def zcn (b : zb) (w : List Int) : Prop := w.length = b.Deliveries.1.length ∧ ∀ (i : Nat) D, b.Deliveries.1[i]? = some D → ∃ c, w[i]? = some c ∧ D.Days.Low ≤ c ∧ c ≤ D.Days.High
section
variable {b : zb} {k : Nat}
theorem zVt (hf : Fine b) (hk : 5000 < k) {l : SL Int} (hl : l.1.length < 9223372036854775808) :
  Ok (iter (fun z => zQb k b l z.1 z.2.1 z.2.2) k (0, 0, ([] : List Int))) (fun r => zcn b r.2.2) := by
 have hn := hf.ndeliveries
 have hdays := hf.days
 refine Ok.count b.Deliveries.1.length (fun j z => z.2.1 = (j : Int) ∧ z.2.2.length = j ∧ ∀ (i : Nat) D, i < j → b.Deliveries.1[i]? = some D → ∃ c, z.2.2[i]? = some c ∧ D.Days.Low ≤ c ∧ c ≤ D.Days.High) ?_ ?_ ⟨rfl, rfl, fun i D h => by omega⟩ (by omega)
 ·rintro j ⟨nx, j', w⟩ hj ⟨hj', hlen, hw⟩
  obtain rfl : j' = (j : Int) := hj'
  have hlen : w.length = j := hlen
  have hfd := hf.deliveries _ (List.getElem_mem hj)
  have hl1 : w.length + 1 ≤ 1000000 := by omega
  simp only [zQb, zIb hj, cond_true, zib hj, Option.bind_some, zJq hl1, zbb hj (by omega : b.Deliveries.1.length < 9223372036854775808)]
  refine Ok.bind (z3m hl _) fun t _ => ?_
  obtain ⟨_, ⟨d1, d2, d3⟩, _⟩ := hfd
  refine Ok.bind (zzo (by omega) (by omega) (by omega) (by omega) t) fun c hc => ?_
  refine Ok.pure ⟨rfl, by show (w ++ [c]).length = _; simp; omega, fun i D hi hD => ?_⟩
  show ∃ c', (w ++ [c])[i]? = some c' ∧ _
  by_cases e : i = j
  ·subst e
   rw [List.getElem?_eq_getElem hj] at hD
   cases hD
   refine ⟨c, by rw [List.getElem?_append_right (by omega), hlen, Nat.sub_self]; rfl, hc.1, hc.2.1 (by omega)⟩
  ·obtain ⟨c', h1, h2⟩ := hw i D (by omega) hD
   have h1 : w[i]? = some c' := h1
   exact ⟨c', by rw [List.getElem?_append_left (by omega)]; exact h1, h2⟩
 ·rintro ⟨nx, j', w⟩ ⟨hj', hlen, hw⟩
  have hj2 : j' = (b.Deliveries.1.length : Int) := hj'
  have c1 : decide (j' < (b.Deliveries.1.length : Int)) = false := by simp only [decide_eq_false_iff_not]; omega
  simp only [zQb, c1, cond_false]
  exact Ok.pure ⟨hlen, fun i D hD => hw i D (List.getElem?_eq_some_iff.1 hD).1 hD⟩
end
end Go.AM
set_option linter.unusedVariables false
namespace Go.AM
open Go
section
variable {b : zb} {k : Nat}
def Well (x : zd) (f : Bool) (now : Int) (R : Nat → Prop) : Prop := f = true → ∃ m : Nat, now = (m : Int) ∧ (m : Int) ≤ (zC x).Room ∧ R m
end
end Go.AM
set_option linter.unusedVariables false
namespace Go.AM
open Go
def zHg (V : Nat → Int) (l : Nat) (n : Int) (i : Nat) : Int := if i ≤ l then V i else n
theorem zod {V : Nat → Int} {l i : Nat} {n : Int} (h : i ≤ l) : zHg V l n i = V i := if_pos h
theorem zih {V : Nat → Int} {l i : Nat} {n : Int} (h : l < i) : zHg V l n i = n := if_neg (by omega)
theorem zVo {s : zr} {L : List Ev} {V : Nat → Int} {e : Ev} {n : Int} (h : zje s L V) (h1 : InS e.by_ (n - V L.length)) (h2 : InS e.within n) : zje s (L ++ [e]) (zHg V L.length n) := by
 refine ⟨by rw [zod (by omega)]; exact h.1, fun i e' he => ?_⟩
 by_cases hi : i < L.length
 ·rw [List.getElem?_append_left hi] at he
  rw [zod (by omega), zod (by omega)]
  exact h.2 i e' he
 ·have hlt := (List.getElem?_eq_some_iff.1 he).1
  rw [List.length_append, List.length_singleton] at hlt
  obtain rfl : i = L.length := by omega
  rw [List.getElem?_append_right (by omega), Nat.sub_self] at he
  cases he
  rw [zod (by omega), zih (by omega)]
  exact ⟨h1, h2⟩
def UpTo (l : Nat) (G : (Nat → Int) → Prop) : Prop := ∀ V V', (∀ i, i ≤ l → V' i = V i) → G V → G V'
theorem UpTo.further {l l' : Nat} {G : (Nat → Int) → Prop} (h : UpTo l G) (hl : l ≤ l') {V : Nat → Int} {n : Int} (hG : G V) : G (zHg V l' n) := h V _ (fun i hi => zod (by omega)) hG
section
variable {b : zb} {k : Nat}
theorem z8u (hf : Fine b) (hk : 5000 < k) {l : SL Int} (hl : l.1.length < 9223372036854775808) {s e : Nat} (hs : s < b.Shelves.1.length) {v1 : Int × Int × (List Int)} (hw : zcn b v1.2.2) (a1 : List (SL Int)) (a2 a3 : List Int) (nx0 : Int) {f0 : Bool} {now0 : Int}
  {L0 : List Ev} {G : (Nat → Int) → Prop} (hG : UpTo L0.length G) (h0 : Well ⟨b, (s : Int), 0⟩ f0 now0 fun m => ∃ V, zje (zC ⟨b, (s : Int), 0⟩).Begin L0 V ∧ V L0.length = (m : Int) ∧ G V) :
  Ok (iter (fun z => zDb k b l v1 (s : Int) a1 (zC ⟨b, (s : Int), 0⟩) (e : Int) a2 a3 z.1 z.2.1 z.2.2.1 z.2.2.2) k (nx0, f0, now0, 0))
   (fun r => Well ⟨b, (s : Int), 0⟩ r.2.1 r.2.2.1 fun m => ∃ V, zje (zC ⟨b, (s : Int), 0⟩).Begin (L0 ++ cat (evDg ⟨b, (s : Int), 0⟩ v1.2.2 (e : Int)) b.Deliveries.1) V ∧ V (L0 ++ cat (evDg ⟨b, (s : Int), 0⟩ v1.2.2 (e : Int)) b.Deliveries.1).length = (m : Int) ∧ G V) := by
 have hn := hf.ndeliveries
 have hx : On (⟨b, (s : Int), 0⟩ : zd) := onL hf (by omega) (by omega) (L := 0) (by omega)
 have hroom := hx.shelf.1
 refine Ok.count b.Deliveries.1.length (fun j z => z.2.2.2 = (j : Int) ∧ Well ⟨b, (s : Int), 0⟩ z.2.1 z.2.2.1 fun m => ∃ V, zje (zC ⟨b, (s : Int), 0⟩).Begin (L0 ++ cat (evDg ⟨b, (s : Int), 0⟩ v1.2.2 (e : Int)) (b.Deliveries.1.take j)) V ∧ V (L0 ++ cat (evDg ⟨b, (s : Int), 0⟩ v1.2.2 (e : Int)) (b.Deliveries.1.take j)).length = (m : Int) ∧ G V) ?_ ?_ ⟨rfl, fun h => ?_⟩ (by omega)
 ·rintro j ⟨nx, f, now, j'⟩ hj ⟨hj', hI⟩
  obtain rfl : j' = (j : Int) := hj'
  have hI : Well ⟨b, (s : Int), 0⟩ f now fun m => ∃ V, zje (zC ⟨b, (s : Int), 0⟩).Begin (L0 ++ cat (evDg ⟨b, (s : Int), 0⟩ v1.2.2 (e : Int)) (b.Deliveries.1.take j)) V ∧ V (L0 ++ cat (evDg ⟨b, (s : Int), 0⟩ v1.2.2 (e : Int)) (b.Deliveries.1.take j)).length = (m : Int) ∧ G V := hI
  have hge := List.getElem?_eq_getElem hj
  obtain ⟨c, hc, _, _⟩ := hw.2 j _ hge
  obtain ⟨hcl, hce⟩ := List.getElem?_eq_some_iff.1 hc
  have hfd := hf.deliveries _ (List.getElem_mem hj)
  obtain ⟨_, _, b1, b2, b3⟩ := hfd
  have hsucc := zbb hj (by omega : b.Deliveries.1.length < 9223372036854775808)
  have hcs := z8g (evDg ⟨b, (s : Int), 0⟩ v1.2.2 (e : Int)) hj
  have hJ : z4b k b l v1 (s : Int) a1 (zC ⟨b, (s : Int), 0⟩) (e : Int) a2 a3 nx f now (j : Int) = some (b.Deliveries.1[j].Shelf == (s : Int) && c == (e : Int)) := by
   unfold z4b
   rw [zib hj, Option.bind_some]
   cases hq : b.Deliveries.1[j].Shelf == (s : Int) with
   | true => rw [cond_true, zib hcl, Option.bind_some, hce]; rfl
   | false => rfl
  simp only [zDb, zIb hj, cond_true, hJ, Option.bind_some, hsucc]
  cases hq : b.Deliveries.1[j].Shelf == (s : Int) && c == (e : Int) with
  | false =>
   have hg : evDg ⟨b, (s : Int), 0⟩ v1.2.2 (e : Int) b.Deliveries.1[j] j = [] := by
    unfold evDg
    rw [if_neg]
    rintro ⟨h1, h2⟩
    rw [hc] at h2
    cases h2
    have h1 : b.Deliveries.1[j].Shelf = (s : Int) := h1
    rw [h1] at hq
    simp at hq
   rw [hg, List.append_nil] at hcs
   simp only [z2b, cond_false, Option.bind_some]
   refine Ok.pure ⟨rfl, ?_⟩
   rw [hcs]
   exact hI
  | true =>
   rw [Bool.and_eq_true, beq_iff_eq, beq_iff_eq] at hq
   have hg : evDg ⟨b, (s : Int), 0⟩ v1.2.2 (e : Int) b.Deliveries.1[j] j = [⟨b.Deliveries.1[j].By, ⟨0, (zC ⟨b, (s : Int), 0⟩).Room⟩, -1, -1⟩] := by
    unfold evDg
    rw [if_pos ⟨hq.1, by rw [hc, hq.2]⟩]
   simp only [z2b, cond_true, zib hj, Option.bind_some, zxu]
   rw [hg] at hcs
   generalize w64 ((zC ⟨b, (s : Int), 0⟩).Room - now) = free
   have hu : b.Deliveries.1[j].By.Low ≤ (if (if free < b.Deliveries.1[j].By.High then free else b.Deliveries.1[j].By.High) > b.Deliveries.1[j].By.Low then (if free < b.Deliveries.1[j].By.High then free else b.Deliveries.1[j].By.High) else b.Deliveries.1[j].By.Low) ∧ (if (if free < b.Deliveries.1[j].By.High then free else b.Deliveries.1[j].By.High) > b.Deliveries.1[j].By.Low then (if free < b.Deliveries.1[j].By.High then free else b.Deliveries.1[j].By.High) else b.Deliveries.1[j].By.Low) ≤ b.Deliveries.1[j].By.High := by
    split <;> split <;> omega
   generalize (if (if free < b.Deliveries.1[j].By.High then free else b.Deliveries.1[j].By.High) > b.Deliveries.1[j].By.Low then (if free < b.Deliveries.1[j].By.High then free else b.Deliveries.1[j].By.High) else b.Deliveries.1[j].By.Low) = u at *
   refine Ok.bind (Ok.bind (z3m hl _) fun t _ => ?_) fun y hy => hy
   refine Ok.bind (zzo (by show -1000 ≤ b.Deliveries.1[j].By.Low; omega) (by show b.Deliveries.1[j].By.Low ≤ 1000; omega) (by show -1000 ≤ u; omega) (by show u ≤ 1000; omega) t) fun r hr => ?_
   have hJ2 : z8b k b l v1 (s : Int) a1 (zC ⟨b, (s : Int), 0⟩) (e : Int) a2 a3 nx f now (j : Int) r = some (f && decide (w64 (now + r) ≤ (zC ⟨b, (s : Int), 0⟩).Room)) := by
    unfold z8b
    cases f <;> rfl
   rw [hJ2, Option.bind_some]
   refine Ok.pure (Ok.pure ⟨rfl, fun hf' => ?_⟩)
   have hf' : (f && decide (w64 (now + r) ≤ (zC ⟨b, (s : Int), 0⟩).Room)) = true := hf'
   rw [Bool.and_eq_true, decide_eq_true_eq] at hf'
   obtain ⟨m, h1, h2, V, h3, h4, h5⟩ := hI hf'.1
   have hr1 : b.Deliveries.1[j].By.Low ≤ r := hr.1
   have hr2 : r ≤ u := hr.2.1 hu.1
   have hwm : w64 (now + r) = now + r := z8 (by omega) (by omega)
   rw [hwm] at hf'
   refine ⟨(now + r).toNat, by show w64 (now + r) = _; rw [hwm]; omega, by omega, zHg V (L0 ++ cat (evDg ⟨b, (s : Int), 0⟩ v1.2.2 (e : Int)) (b.Deliveries.1.take j)).length (now + r), ?_, ?_, hG.further (by rw [List.length_append]; omega) h5⟩
   ·rw [hcs, ← List.append_assoc]
    refine zVo h3 ?_ ?_
    ·rw [h4]; unfold InS; simp only; omega
    ·unfold InS; simp only; omega
   ·rw [hcs, ← List.append_assoc, List.length_append (bs := [_]), List.length_singleton, zih (by omega)]
    omega
 ·rintro ⟨nx, f, now, j'⟩ ⟨hj', hI⟩
  have hj2 : j' = (b.Deliveries.1.length : Int) := hj'
  have c1 : decide (j' < (b.Deliveries.1.length : Int)) = false := by simp only [decide_eq_false_iff_not]; omega
  simp only [zDb, c1, cond_false]
  rw [List.take_length] at hI
  exact Ok.pure hI
 ·obtain ⟨m, h1, h2, h3⟩ := h0 h
  exact ⟨m, h1, h2, by simpa [cat] using h3⟩
end
end Go.AM
set_option linter.unusedVariables false
namespace Go.AM
open Go
def zus (b : zb) (s e : Nat) (l j : Nat) (M : List Int) (V : Nat → Int) : Prop :=
 ∀ (i : Nat) D, i < j → b.Moves.1[i]? = some D → D.Shelf = (s : Int) → D.Day = (e : Int) → ∃ t, M[i]? = some t ∧
  V (l + (cat (evMg ⟨b, (s : Int), 0⟩ (e : Int)) (b.Moves.1.take i)).length + 1) - V (l + (cat (evMg ⟨b, (s : Int), 0⟩ (e : Int)) (b.Moves.1.take i)).length) = if D.Back = true then t else -t
theorem z0n {α β : Type} (g : α → Nat → List β) (l : List α) : ∀ (i j : Nat), i ≤ j → (cat g (l.take i)).length ≤ (cat g (l.take j)).length := by
 intro i j h
 induction j with
 | zero =>
  obtain rfl : i = 0 := by omega
  exact Nat.le_refl _
 | succ j ih =>
  by_cases e : i = j + 1
  ·subst e; exact Nat.le_refl _
  ·refine Nat.le_trans (ih (by omega)) ?_
   by_cases hj : j < l.length
   ·rw [z8g g hj, List.length_append]; omega
   ·rw [List.take_of_length_le (by omega), List.take_of_length_le (show l.length ≤ j + 1 by omega)]; exact Nat.le_refl _
section
variable {b : zb} {k : Nat}
theorem zmv (hf : Fine b) (hk : 5000 < k) {l : SL Int} (hl : l.1.length < 9223372036854775808) {s e : Nat} (hs : s < b.Shelves.1.length) (v1 : Int × Int × (List Int)) (a1 : List (SL Int)) (a3 : List Int) (vv : Int × Bool × Int × Int) (nx0 : Int) {f0 : Bool} {now0 : Int} {M0 : List Int} (hM0 : M0.length = b.Moves.1.length)
  {L0 : List Ev} {G : (Nat → Int) → Prop} (hG : UpTo L0.length G) (h0 : Well ⟨b, (s : Int), 0⟩ f0 now0 fun m => ∃ V, zje (zC ⟨b, (s : Int), 0⟩).Begin L0 V ∧ V L0.length = (m : Int) ∧ G V) :
  Ok (iter (fun z => zCb k b l v1 (s : Int) a1 (zC ⟨b, (s : Int), 0⟩) (e : Int) a3 vv z.1 z.2.1 z.2.2.1 z.2.2.2.1 z.2.2.2.2) k (nx0, f0, now0, 0, M0))
   (fun r => r.2.2.2.2.length = b.Moves.1.length ∧ (∀ (i : Nat) D, b.Moves.1[i]? = some D → ¬ (D.Shelf = (s : Int) ∧ D.Day = (e : Int)) → r.2.2.2.2[i]? = M0[i]?) ∧ Well ⟨b, (s : Int), 0⟩ r.2.1 r.2.2.1 fun m => ∃ V, zje (zC ⟨b, (s : Int), 0⟩).Begin (L0 ++ cat (evMg ⟨b, (s : Int), 0⟩ (e : Int)) b.Moves.1) V ∧ V (L0 ++ cat (evMg ⟨b, (s : Int), 0⟩ (e : Int)) b.Moves.1).length = (m : Int) ∧ G V ∧ zus b s e L0.length b.Moves.1.length r.2.2.2.2 V) := by
 have hn := hf.nmoves
 have hx : On (⟨b, (s : Int), 0⟩ : zd) := onL hf (by omega) (by omega) (L := 0) (by omega)
 have hroom := hx.shelf.1
 refine Ok.count b.Moves.1.length (fun j z => z.2.2.2.1 = (j : Int) ∧ z.2.2.2.2.length = b.Moves.1.length ∧ (∀ (i : Nat) D, b.Moves.1[i]? = some D → ¬ (D.Shelf = (s : Int) ∧ D.Day = (e : Int)) → z.2.2.2.2[i]? = M0[i]?) ∧ Well ⟨b, (s : Int), 0⟩ z.2.1 z.2.2.1 fun m => ∃ V, zje (zC ⟨b, (s : Int), 0⟩).Begin (L0 ++ cat (evMg ⟨b, (s : Int), 0⟩ (e : Int)) (b.Moves.1.take j)) V ∧ V (L0 ++ cat (evMg ⟨b, (s : Int), 0⟩ (e : Int)) (b.Moves.1.take j)).length = (m : Int) ∧ G V ∧ zus b s e L0.length j z.2.2.2.2 V) ?_ ?_ ⟨rfl, hM0, fun i D _ _ => rfl, fun h => ?_⟩ (by omega)
 ·rintro j ⟨nx, f, now, j', M⟩ hj ⟨hj', hlen, hoth, hI⟩
  obtain rfl : j' = (j : Int) := hj'
  have hlen : M.length = b.Moves.1.length := hlen
  have hoth : ∀ (i : Nat) D, b.Moves.1[i]? = some D → ¬ (D.Shelf = (s : Int) ∧ D.Day = (e : Int)) → M[i]? = M0[i]? := hoth
  have hI : Well ⟨b, (s : Int), 0⟩ f now fun m => ∃ V, zje (zC ⟨b, (s : Int), 0⟩).Begin (L0 ++ cat (evMg ⟨b, (s : Int), 0⟩ (e : Int)) (b.Moves.1.take j)) V ∧ V (L0 ++ cat (evMg ⟨b, (s : Int), 0⟩ (e : Int)) (b.Moves.1.take j)).length = (m : Int) ∧ G V ∧ zus b s e L0.length j M V := hI
  have hge := List.getElem?_eq_getElem hj
  have hjM : j < M.length := by omega
  have hfd := hf.moves _ (List.getElem_mem hj)
  have hcs := z8g (evMg ⟨b, (s : Int), 0⟩ (e : Int)) hj
  have hsucc := zbb hj (by omega : b.Moves.1.length < 9223372036854775808)
  have hJ : z7b k b l v1 (s : Int) a1 (zC ⟨b, (s : Int), 0⟩) (e : Int) a3 vv nx f now (j : Int) M b.Moves.1[j] = some (b.Moves.1[j].Shelf != (s : Int) || b.Moves.1[j].Day != (e : Int)) := by
   unfold z7b
   cases hq : b.Moves.1[j].Shelf != (s : Int) <;> rfl
  simp only [zCb, zIb hj, cond_true, zib hj, zib hjM, hJ, Option.bind_some, hsucc]
  by_cases hq : b.Moves.1[j].Shelf = (s : Int) ∧ b.Moves.1[j].Day = (e : Int)
  ·have hg : evMg ⟨b, (s : Int), 0⟩ (e : Int) b.Moves.1[j] j = [⟨if b.Moves.1[j].Back = true then b.Moves.1[j].By else ⟨-b.Moves.1[j].By.High, -b.Moves.1[j].By.Low⟩, ⟨0, (zC ⟨b, (s : Int), 0⟩).Room⟩, j, -1⟩] := by
    unfold evMg
    rw [if_pos hq]
   rw [hg] at hcs
   rw [show (b.Moves.1[j].Shelf != (s : Int) || b.Moves.1[j].Day != (e : Int)) = false by simp [hq.1, hq.2], cond_false]
   obtain ⟨_, _, b1, b2, b3⟩ := hfd
   have hJ7 : z3b k b l v1 (s : Int) a1 (zC ⟨b, (s : Int), 0⟩) (e : Int) a3 vv nx f now (j : Int) M b.Moves.1[j] b.Moves.1[j].Back = some (cond b.Moves.1[j].Back (w64 ((zC ⟨b, (s : Int), 0⟩).Room - now)) now, b.Moves.1[j].Back) := by
    unfold z3b
    cases b.Moves.1[j].Back <;> rfl
   simp only [hJ7, Option.bind_some, zxu]
   generalize hmost : cond b.Moves.1[j].Back (w64 ((zC ⟨b, (s : Int), 0⟩).Room - now)) now = most
   have hu : b.Moves.1[j].By.Low ≤ (if (if most < b.Moves.1[j].By.High then most else b.Moves.1[j].By.High) > b.Moves.1[j].By.Low then (if most < b.Moves.1[j].By.High then most else b.Moves.1[j].By.High) else b.Moves.1[j].By.Low) ∧ (if (if most < b.Moves.1[j].By.High then most else b.Moves.1[j].By.High) > b.Moves.1[j].By.Low then (if most < b.Moves.1[j].By.High then most else b.Moves.1[j].By.High) else b.Moves.1[j].By.Low) ≤ b.Moves.1[j].By.High := by
    split <;> split <;> omega
   generalize (if (if most < b.Moves.1[j].By.High then most else b.Moves.1[j].By.High) > b.Moves.1[j].By.Low then (if most < b.Moves.1[j].By.High then most else b.Moves.1[j].By.High) else b.Moves.1[j].By.Low) = u at *
   refine Ok.bind (z3m hl _) fun t _ => ?_
   refine Ok.bind (zzo (by show -1000 ≤ b.Moves.1[j].By.Low; omega) (by show b.Moves.1[j].By.Low ≤ 1000; omega) (by show -1000 ≤ u; omega) (by show u ≤ 1000; omega) t) fun r hr => ?_
   have hr1 : b.Moves.1[j].By.Low ≤ r := hr.1
   have hr2 : r ≤ u := hr.2.1 hu.1
   have hset : idx (M.set ((j : Int)).toNat r) (j : Int) = some r := by
    rw [Int.toNat_natCast, zib (by rw [List.length_set]; omega)]
    simp
   have hJ8 : z6b k b l v1 (s : Int) a1 (zC ⟨b, (s : Int), 0⟩) (e : Int) a3 vv nx f now (j : Int) M b.Moves.1[j] (most, b.Moves.1[j].Back) r = some (f && decide (r ≤ most)) := by
    unfold z6b
    rw [hset]
    cases f <;> rfl
   have hJ9 : ∀ g, z5b k b l v1 (s : Int) a1 (zC ⟨b, (s : Int), 0⟩) (e : Int) a3 vv nx now (j : Int) M b.Moves.1[j] (most, b.Moves.1[j].Back) r g b.Moves.1[j].Back = some (cond b.Moves.1[j].Back (w64 (now + r)) (w64 (now - r)), b.Moves.1[j].Back) := by
    intro g
    unfold z5b
    rw [hset]
    cases b.Moves.1[j].Back <;> rfl
   simp only [hJ8, hJ9, Option.bind_some]
   refine Ok.pure ⟨rfl, ?_, fun i D hD hne => ?_, fun hf' => ?_⟩
   ·show (M.set ((j : Int)).toNat r).length = _
    rw [List.length_set]; exact hlen
   ·show (M.set ((j : Int)).toNat r)[i]? = _
    rw [Int.toNat_natCast]
    by_cases hij : i = j
    ·subst hij
     rw [hge] at hD
     cases hD
     exact absurd hq hne
    ·rw [List.getElem?_set_ne (fun h => hij h.symm)]
     exact hoth i D hD hne
   ·have hf' : (f && decide (r ≤ most)) = true := hf'
    rw [Bool.and_eq_true, decide_eq_true_eq] at hf'
    obtain ⟨m, h1, h2, V, h3, h4, h5, h6⟩ := hI hf'.1
    have hwr : w64 ((zC ⟨b, (s : Int), 0⟩).Room - now) = (zC ⟨b, (s : Int), 0⟩).Room - now := z8 (by omega) (by omega)
    have hwp : w64 (now + r) = now + r := z8 (by omega) (by omega)
    have hwm : w64 (now - r) = now - r := z8 (by omega) (by omega)
    rw [hwr] at hmost
    have hv : ∃ n : Int, cond b.Moves.1[j].Back (w64 (now + r)) (w64 (now - r)) = n ∧ 0 ≤ n ∧ n ≤ (zC ⟨b, (s : Int), 0⟩).Room ∧ n - now = (if b.Moves.1[j].Back = true then r else -r) := by
     rw [hwp, hwm]
     cases hb : b.Moves.1[j].Back with
     | true => rw [hb] at hmost; simp only [cond_true] at hmost ⊢; exact ⟨_, rfl, by omega, by omega, by simp; omega⟩
     | false => rw [hb] at hmost; simp only [cond_false] at hmost ⊢; exact ⟨_, rfl, by omega, by omega, by simp; omega⟩
    obtain ⟨n, hn1, hn2, hn3, hn4⟩ := hv
    refine ⟨n.toNat, by show cond b.Moves.1[j].Back (w64 (now + r)) (w64 (now - r)) = _; rw [hn1]; omega, by omega, zHg V (L0 ++ cat (evMg ⟨b, (s : Int), 0⟩ (e : Int)) (b.Moves.1.take j)).length n, ?_, ?_, hG.further (by rw [List.length_append]; omega) h5, fun i D hi hD hs' he' => ?_⟩
    ·rw [hcs, ← List.append_assoc]
     refine zVo h3 ?_ ?_
     ·rw [h4, ← h1, hn4]
      unfold InS
      cases hb : b.Moves.1[j].Back <;> simp <;> omega
     ·unfold InS; simp only; omega
    ·rw [hcs, ← List.append_assoc, List.length_append (bs := [_]), List.length_singleton, zih (by omega)]
     omega
    ·by_cases hij : i = j
     ·subst hij
      rw [hge] at hD
      cases hD
      refine ⟨r, ?_, ?_⟩
      ·show (M.set ((i : Int)).toNat r)[i]? = some r
       rw [Int.toNat_natCast, List.getElem?_set_self (by omega)]
      ·rw [← List.length_append, zih (by omega), zod (Nat.le_refl _), h4, ← h1, hn4]
     ·have hi' : i < j := by omega
      obtain ⟨t', t1, t2⟩ := h6 i D hi' hD hs' he'
      refine ⟨t', ?_, ?_⟩
      ·show (M.set ((j : Int)).toNat r)[i]? = some t'
       rw [Int.toNat_natCast, List.getElem?_set_ne (fun h => hij h.symm)]
       exact t1
      ·have hgi : (evMg ⟨b, (s : Int), 0⟩ (e : Int) D i).length = 1 := by
        unfold evMg
        rw [if_pos ⟨hs', he'⟩]; rfl
       have hiL := (List.getElem?_eq_some_iff.1 hD).1
       have hDi : b.Moves.1[i] = D := (List.getElem?_eq_some_iff.1 hD).2
       have h7 := z8g (evMg ⟨b, (s : Int), 0⟩ (e : Int)) hiL
       rw [hDi] at h7
       have h8 := congrArg List.length h7
       rw [List.length_append, hgi] at h8
       have h9 := z0n (evMg ⟨b, (s : Int), 0⟩ (e : Int)) b.Moves.1 (i + 1) j (by omega)
       rw [zod (by rw [List.length_append]; omega), zod (by rw [List.length_append]; omega)]
       exact t2
  ·have hg : evMg ⟨b, (s : Int), 0⟩ (e : Int) b.Moves.1[j] j = [] := by
    unfold evMg
    rw [if_neg hq]
   rw [hg, List.append_nil] at hcs
   rw [show (b.Moves.1[j].Shelf != (s : Int) || b.Moves.1[j].Day != (e : Int)) = true by
    rw [Bool.or_eq_true, bne_iff_ne, bne_iff_ne]
    by_cases h : b.Moves.1[j].Shelf = (s : Int)
    ·exact .inr fun h' => hq ⟨h, h'⟩
    ·exact .inl h, cond_true]
   refine Ok.pure ⟨rfl, hlen, hoth, fun hf' => ?_⟩
   obtain ⟨m, h1, h2, V, h3, h4, h5, h6⟩ := hI hf'
   refine ⟨m, h1, h2, V, by rw [hcs]; exact h3, by rw [hcs]; exact h4, h5, fun i D hi hD hs' he' => ?_⟩
   by_cases hij : i = j
   ·subst hij
    rw [hge] at hD
    cases hD
    exact absurd ⟨hs', he'⟩ hq
   ·exact h6 i D (by omega) hD hs' he'
 ·rintro ⟨nx, f, now, j', M⟩ ⟨hj', hlen, hoth, hI⟩
  have hj2 : j' = (b.Moves.1.length : Int) := hj'
  have c1 : decide (j' < (b.Moves.1.length : Int)) = false := by simp only [decide_eq_false_iff_not]; omega
  simp only [zCb, c1, cond_false]
  rw [List.take_length] at hI
  exact Ok.pure ⟨hlen, hoth, hI⟩
 ·obtain ⟨m, h1, h2, V, h3, h4, h5⟩ := h0 h
  exact ⟨m, h1, h2, V, by simpa [cat] using h3, by simpa [cat] using h4, h5, fun i D hi => by omega⟩
end
end Go.AM
set_option linter.unusedVariables false
namespace Go.AM
open Go
section
variable {b : zb} {C C' : SL zo} {s : Int} {w : List Int}
theorem zHu (d : Int) : (zOd ⟨zhf b C, s, 0⟩ w d).length = (zOd ⟨zhf b C', s, 0⟩ w d).length := by
 unfold zOd
 rw [List.length_append, List.length_append (bs := [_])]
 rfl
theorem zcp : ∀ N, (evsL ⟨zhf b C, s, 0⟩ w N).length = (evsL ⟨zhf b C', s, 0⟩ w N).length
 | 0 => rfl
 | N + 1 => by rw [zVc, zVc, List.length_append, List.length_append, zcp N, zHu (C' := C')]
theorem zNp {V : Nat → Int} : ∀ N, zMg (evsL ⟨zhf b C, s, 0⟩ w N) V → (∀ d : Nat, d < N → InS (cntS ⟨zhf b C', s, 0⟩ (d : Int)) (V (evsL ⟨zhf b C, s, 0⟩ w (d + 1)).length)) → zMg (evsL ⟨zhf b C', s, 0⟩ w N) V
 | 0, h, _ => fun i e he => by simp [evsL] at he
 | N + 1, h, hc => by
  rw [zVc] at h ⊢
  obtain ⟨h1, h2⟩ := zvd.1 h
  refine zvd.2 ⟨zNp N h1 fun d hd => hc d (by omega), ?_⟩
  have hl := hc N (by omega)
  rw [zVc, List.length_append] at hl
  rw [← zcp (C := C) N]
  unfold zOd at h2 hl ⊢
  obtain ⟨h3, h4⟩ := zvd.1 h2
  refine zvd.2 ⟨h3, fun i e he => ?_⟩
  cases i with
  | succ i => simp at he
  | zero =>
   have he : some (evC ⟨zhf b C', s, 0⟩ (N : Int)) = some e := he
   cases he
   obtain ⟨h5, _⟩ := h4 0 _ rfl
   refine ⟨h5, ?_⟩
   rw [List.length_append, List.length_singleton] at hl
   exact hl
end
end Go.AM
set_option linter.unusedVariables false
namespace Go.AM
open Go
abbrev bare (b : zb) (s : Nat) : zd := ⟨zhf b ([], .nil), (s : Int), 0⟩
theorem zDw (b : zb) (s : Nat) (d : Int) : cntS (bare b s) d = ⟨0, (zC (bare b s)).Room⟩ := rfl
structure Told (b : zb) (s : Nat) (w : List Int) (N : Nat) (row M : List Int) (V : Nat → Int) : Prop where
 row : ∀ d : Nat, d < N → row[d]? = some (V (evsL (bare b s) w (d + 1)).length)
 moved : ∀ d : Nat, d < N → zus b s d ((evsL (bare b s) w d).length + (cat (evDg (bare b s) w (d : Int)) b.Deliveries.1).length) b.Moves.1.length M V
theorem zkt (x : zd) (w : List Int) : ∀ (d e : Nat), d ≤ e → (evsL x w d).length ≤ (evsL x w e).length := by
 intro d e h
 induction e with
 | zero =>
  obtain rfl : d = 0 := by omega
  exact Nat.le_refl _
 | succ e ih =>
  by_cases h' : d = e + 1
  ·subst h'; exact Nat.le_refl _
  ·rw [zVc, List.length_append]
   have := ih (by omega)
   omega
theorem zLs (b : zb) (s : Nat) (w : List Int) (d : Nat) : (evsL (bare b s) w (d + 1)).length = (evsL (bare b s) w d).length + (cat (evDg (bare b s) w (d : Int)) b.Deliveries.1).length + (cat (evMg ⟨b, (s : Int), 0⟩ (d : Int)) b.Moves.1).length + 1 := by
 rw [zVc, List.length_append]
 unfold zOd
 rw [List.length_append, List.length_append, List.length_singleton]
 show _ + ((cat (evDg (bare b s) w (d : Int)) b.Deliveries.1).length + (cat (evMg ⟨b, (s : Int), 0⟩ (d : Int)) b.Moves.1).length + 1) = _
 omega
theorem zfs (b : zb) (s : Nat) (w : List Int) (N : Nat) (row M : List Int) : UpTo (evsL (bare b s) w N).length (Told b s w N row M) := by
 intro V V' hV h
 refine ⟨fun d hd => ?_, fun d hd i D hi hD hs he => ?_⟩
 ·rw [hV _ (zkt _ _ _ _ (by omega))]
  exact h.row d hd
 ·obtain ⟨t, h1, h2⟩ := h.moved d hd i D hi hD hs he
  refine ⟨t, h1, ?_⟩
  have h3 := zkt (bare b s) w (d + 1) N (by omega)
  have h4 := zLs b s w d
  have h5 := z8g (evMg ⟨b, (s : Int), 0⟩ (d : Int)) hi
  have h6 := z0n (evMg ⟨b, (s : Int), 0⟩ (d : Int)) b.Moves.1 (i + 1) b.Moves.1.length (by omega)
  rw [List.take_length] at h6
  have h7 := z0n (evMg ⟨b, (s : Int), 0⟩ (d : Int)) b.Moves.1 i (i + 1) (by omega)
  rw [hV _ (by omega), hV _ (by omega)]
  exact h2
section
variable {b : zb} {k : Nat}
theorem zMu (hf : Fine b) (hk : 5000 < k) {l : SL Int} (hl : l.1.length < 9223372036854775808) {s : Nat} (hs : s < b.Shelves.1.length) {v1 : Int × Int × (List Int)} (hw : zcn b v1.2.2) (a1 : List (SL Int)) (nx0 : Int) {f0 : Bool} {now0 : Int} {M0 : List Int} (hM0 : M0.length = b.Moves.1.length) {P : Prop} (h0 : f0 = true → P)
  (hnow : InS (zC (bare b s)).Begin now0) :
  Ok (iter (fun z => zFb k b l v1 (s : Int) a1 (zC (bare b s)) z.1 z.2.1 z.2.2.1 z.2.2.2.1 z.2.2.2.2.1 z.2.2.2.2.2) k (nx0, f0, now0, 0, M0, ([] : List Int)))
   (fun r => r.2.2.2.2.1.length = b.Moves.1.length ∧ r.2.2.2.2.2.length = b.Days.toNat ∧ (∀ (i : Nat) D, b.Moves.1[i]? = some D → D.Shelf ≠ (s : Int) → r.2.2.2.2.1[i]? = M0[i]?) ∧
    (r.2.1 = true → P ∧ ∃ V, zje (zC (bare b s)).Begin (evsL (bare b s) v1.2.2 b.Days.toNat) V ∧ Told b s v1.2.2 b.Days.toNat r.2.2.2.2.2 r.2.2.2.2.1 V)) := by
 have hdays := hf.days
 have hx : On (⟨b, (s : Int), 0⟩ : zd) := onL hf (by omega) (by omega) (L := 0) (by omega)
 have hsh := hx.shelf
 have hD : ((b.Days.toNat : Nat) : Int) = b.Days := by omega
 refine Ok.count b.Days.toNat (fun j z => z.2.2.2.1 = (j : Int) ∧ z.2.2.2.2.1.length = b.Moves.1.length ∧ z.2.2.2.2.2.length = j ∧ (∀ (i : Nat) D, b.Moves.1[i]? = some D → D.Shelf ≠ (s : Int) → z.2.2.2.2.1[i]? = M0[i]?) ∧
  Well ⟨b, (s : Int), 0⟩ z.2.1 z.2.2.1 fun m => ∃ V, zje (zC (bare b s)).Begin (evsL (bare b s) v1.2.2 j) V ∧ V (evsL (bare b s) v1.2.2 j).length = (m : Int) ∧ (P ∧ Told b s v1.2.2 j z.2.2.2.2.2 z.2.2.2.2.1 V)) ?_ ?_ ⟨rfl, hM0, rfl, fun i D _ _ => rfl, fun h => ?_⟩ (by omega)
 ·rintro j ⟨nx, f, now, d, M, row⟩ hj ⟨hj', hlen, hrl, hoth, hI⟩
  obtain rfl : d = (j : Int) := hj'
  have hlen : M.length = b.Moves.1.length := hlen
  have hrl : row.length = j := hrl
  have hoth : ∀ (i : Nat) D, b.Moves.1[i]? = some D → D.Shelf ≠ (s : Int) → M[i]? = M0[i]? := hoth
  have hI : Well ⟨b, (s : Int), 0⟩ f now fun m => ∃ V, zje (zC ⟨b, (s : Int), 0⟩).Begin (evsL (bare b s) v1.2.2 j) V ∧ V (evsL (bare b s) v1.2.2 j).length = (m : Int) ∧ (P ∧ Told b s v1.2.2 j row M V) := hI
  have c1 : decide ((j : Int) < b.Days) = true := decide_eq_true (by omega)
  have hsucc : w64 ((j : Int) + 1) = ((j + 1 : Nat) : Int) := by rw [z8 (by omega) (by omega)]; push_cast; rfl
  have hup : UpTo (evsL (bare b s) v1.2.2 j).length (fun V => P ∧ Told b s v1.2.2 j row M V) := fun V V' hV h => ⟨h.1, zfs b s v1.2.2 j row M V V' hV h.2⟩
  have hlim : row.length + 1 ≤ 1000000 := by omega
  simp only [zFb, c1, cond_true, hsucc, zJq hlim]
  refine Ok.bind (z8u hf hk hl hs hw a1 M row nx hup hI) fun r1 hr1 => ?_
  have hup2 : UpTo (evsL (bare b s) v1.2.2 j ++ cat (evDg ⟨b, (s : Int), 0⟩ v1.2.2 (j : Int)) b.Deliveries.1).length (fun V => P ∧ Told b s v1.2.2 j row M V) := fun V V' hV h => hup V V' (fun i hi => hV i (by rw [List.length_append]; omega)) h
  refine Ok.bind (zmv hf hk hl hs v1 a1 row r1 r1.1 hlen hup2 hr1) fun r2 hr2 => ?_
  obtain ⟨q1, q2, q3⟩ := hr2
  refine Ok.pure ⟨rfl, q1, by show (row ++ [r2.2.2.1]).length = j + 1; simp; omega, fun i D hD' hne => ?_, fun hf' => ?_⟩
  ·exact (q2 i D hD' fun h => hne h.1).trans (hoth i D hD' hne)
  ·obtain ⟨m, h1, h2, V, h3, h4, ⟨hP, h5⟩, h6⟩ := q3 hf'
   have hlL := zLs b s v1.2.2 j
   have hev : evsL (bare b s) v1.2.2 (j + 1) = (evsL (bare b s) v1.2.2 j ++ cat (evDg ⟨b, (s : Int), 0⟩ v1.2.2 (j : Int)) b.Deliveries.1 ++ cat (evMg ⟨b, (s : Int), 0⟩ (j : Int)) b.Moves.1) ++ [evC (bare b s) (j : Int)] := by
    rw [zVc, List.append_assoc, List.append_assoc]
    unfold zOd
    rw [List.append_assoc]
    rfl
   refine ⟨m, h1, h2, zHg V (evsL (bare b s) v1.2.2 j ++ cat (evDg ⟨b, (s : Int), 0⟩ v1.2.2 (j : Int)) b.Deliveries.1 ++ cat (evMg ⟨b, (s : Int), 0⟩ (j : Int)) b.Moves.1).length m, ?_, ?_, hP, ?_⟩
   ·rw [hev]
    refine zVo h3 ?_ ?_
    ·rw [h4]
     unfold InS evC
     simp
    ·unfold evC InS
     rw [zDw]
     exact ⟨by simp, h2⟩
   ·rw [hev, List.length_append (bs := [_]), List.length_singleton, zih (by omega)]
   ·generalize hLL : (evsL (bare b s) v1.2.2 j ++ cat (evDg ⟨b, (s : Int), 0⟩ v1.2.2 (j : Int)) b.Deliveries.1 ++ cat (evMg ⟨b, (s : Int), 0⟩ (j : Int)) b.Moves.1).length = LL at *
    have hLL2 : LL = (evsL (bare b s) v1.2.2 j).length + (cat (evDg ⟨b, (s : Int), 0⟩ v1.2.2 (j : Int)) b.Deliveries.1).length + (cat (evMg ⟨b, (s : Int), 0⟩ (j : Int)) b.Moves.1).length := by
     rw [← hLL, List.length_append, List.length_append]
    have h5' : Told b s v1.2.2 j row M (zHg V LL m) := zfs b s v1.2.2 j row M V _ (fun i hi => zod (by omega)) h5
    refine ⟨fun d hd => ?_, fun d hd i D hi hD' hs' he' => ?_⟩
    ·show (row ++ [r2.2.2.1])[d]? = _
     by_cases e : d = j
     ·subst e
      rw [List.getElem?_append_right (by omega), hrl, Nat.sub_self, h1]
      rw [zih (by rw [hlL]; show LL < _ + (cat (evDg ⟨b, (s : Int), 0⟩ v1.2.2 (d : Int)) b.Deliveries.1).length + _ + 1; omega)]
      rfl
     ·rw [List.getElem?_append_left (by omega)]
      exact h5'.row d (by omega)
    ·by_cases e : d = j
     ·subst e
      obtain ⟨t, t1, t2⟩ := h6 i D hi hD' hs' he'
      refine ⟨t, t1, ?_⟩
      have h7 := z8g (evMg ⟨b, (s : Int), 0⟩ (d : Int)) hi
      have h8 := congrArg List.length h7
      have h9 := z0n (evMg ⟨b, (s : Int), 0⟩ (d : Int)) b.Moves.1 (i + 1) b.Moves.1.length (by omega)
      rw [List.take_length] at h9
      have h10 : (evMg ⟨b, (s : Int), 0⟩ (d : Int) b.Moves.1[i] i).length = 1 := by
       have hDi : b.Moves.1[i] = D := (List.getElem?_eq_some_iff.1 hD').2
       unfold evMg
       rw [hDi, if_pos ⟨hs', he'⟩]; rfl
      rw [List.length_append, h10] at h8
      rw [List.length_append] at t2
      show zHg V LL m ((evsL (bare b s) v1.2.2 d).length + (cat (evDg ⟨b, (s : Int), 0⟩ v1.2.2 (d : Int)) b.Deliveries.1).length + (cat (evMg ⟨b, (s : Int), 0⟩ (d : Int)) (b.Moves.1.take i)).length + 1) - zHg V LL m ((evsL (bare b s) v1.2.2 d).length + (cat (evDg ⟨b, (s : Int), 0⟩ v1.2.2 (d : Int)) b.Deliveries.1).length + (cat (evMg ⟨b, (s : Int), 0⟩ (d : Int)) (b.Moves.1.take i)).length) = _
      rw [zod (by omega), zod (by omega)]
      exact t2
     ·obtain ⟨t, t1, t2⟩ := h5'.moved d (by omega) i D hi hD' hs' he'
      refine ⟨t, (q2 i D hD' ?_).trans t1, t2⟩
      rintro ⟨_, h⟩
      rw [he'] at h
      omega
 ·rintro ⟨nx, f, now, d, M, row⟩ ⟨hj', hlen, hrl, hoth, hI⟩
  obtain rfl : d = ((b.Days.toNat : Nat) : Int) := hj'
  have c1 : decide (((b.Days.toNat : Nat) : Int) < b.Days) = false := by simp only [decide_eq_false_iff_not]; omega
  simp only [zFb, c1, cond_false]
  refine Ok.pure ⟨hlen, hrl, hoth, fun hf' => ?_⟩
  obtain ⟨m, h1, h2, V, h3, h4, h5, h6⟩ := hI hf'
  exact ⟨h5, V, h3, h6⟩
 ·unfold InS at hnow
  have hb2 : 0 ≤ (zC (bare b s)).Begin.Low ∧ (zC (bare b s)).Begin.High ≤ (zC (bare b s)).Room := ⟨hsh.2.1, hsh.2.2.2⟩
  refine ⟨now0.toNat, by show now0 = _; omega, by show ((now0.toNat : Nat) : Int) ≤ (zC (bare b s)).Room; omega, fun _ => now0, ⟨hnow, fun i e he => by simp [evsL] at he⟩, by show now0 = _; omega, h0 h, fun d hd => by omega, fun d hd => by omega⟩
end
end Go.AM
set_option linter.unusedVariables false
namespace Go.AM
open Go
theorem zwy {b : zb} {s : Nat} {w : List Int} {N : Nat} {row M M' : List Int} {V : Nat → Int} (h : Told b s w N row M V) (e : ∀ (i : Nat) D, b.Moves.1[i]? = some D → D.Shelf = (s : Int) → M'[i]? = M[i]?) : Told b s w N row M' V := by
 refine ⟨h.row, fun d hd i D hi hD hs he => ?_⟩
 obtain ⟨t, h1, h2⟩ := h.moved d hd i D hi hD hs he
 exact ⟨t, by rw [e i D hD hs]; exact h1, h2⟩
def zrn (b : zb) (w M : List Int) (S : List (SL Int)) (s : Nat) : Prop :=
 ∃ V row κ, S[s]? = some (row, κ) ∧ row.length = b.Days.toNat ∧ zje (zC (bare b s)).Begin (evsL (bare b s) w b.Days.toNat) V ∧ Told b s w b.Days.toNat row M V
theorem zLv {b : zb} (hf : Fine b) : Fine (zhf b ([], .nil)) := zcr hf (by simp) (by simp)
theorem zbs {b : zb} (hf : Fine b) {w : List Int} {s : Nat} (hs : s < b.Shelves.1.length) {V : Nat → Int} (hp : zje (zC (bare b s)).Begin (evsL (bare b s) w b.Days.toNat) V) {d : Nat} (hd : d < b.Days.toNat) : 0 ≤ V (evsL (bare b s) w (d + 1)).length ∧ V (evsL (bare b s) w (d + 1)).length ≤ (zC (bare b s)).Room ∧ (zC (bare b s)).Room ≤ 60 := by
 have hx : On (bare b s) := onL (zLv hf) (by omega) (by show (s : Int) ≤ (b.Shelves.1.length : Int) - 1; omega) (L := 0) (by omega)
 have h1 := z9m hx (w := w) (V := V) hp (evsL (bare b s) w (d + 1)).length (zyn _ _ (by show d + 1 ≤ b.Days.toNat; omega))
 have h2 := hx.shelf.1.2
 exact ⟨h1.1, h1.2, h2⟩
section
variable {b : zb} {k : Nat}
theorem zRw (hf : Fine b) (hk : 5000 < k) {l : SL Int} (hl : l.1.length < 9223372036854775808) {v1 : Int × Int × (List Int)} (hw : zcn b v1.2.2) (nx0 : Int) {M0 : List Int} (hM0 : M0.length = b.Moves.1.length) :
  Ok (iter (fun z => zPb k b l v1 z.1 z.2.1 z.2.2.1 z.2.2.2.1 z.2.2.2.2) k (nx0, true, 0, ([] : List (SL Int)), M0))
   (fun r => r.2.1 = true → ∀ s, s < b.Shelves.1.length → zrn b v1.2.2 r.2.2.2.2 r.2.2.2.1 s) := by
 have hns := hf.nshelves
 refine Ok.count b.Shelves.1.length (fun j z => z.2.2.1 = (j : Int) ∧ z.2.2.2.1.length = j ∧ z.2.2.2.2.length = b.Moves.1.length ∧ (z.2.1 = true → ∀ s, s < j → zrn b v1.2.2 z.2.2.2.2 z.2.2.2.1 s)) ?_ ?_ ⟨rfl, rfl, hM0, fun _ s h => by omega⟩ (by omega)
 ·rintro j ⟨nx, f, j', S, M⟩ hj ⟨hj', hSl, hMl, hI⟩
  obtain rfl : j' = (j : Int) := hj'
  have hSl : S.length = j := hSl
  have hMl : M.length = b.Moves.1.length := hMl
  have hI : f = true → ∀ s, s < j → zrn b v1.2.2 M S s := hI
  have hx : On (⟨b, (j : Int), 0⟩ : zd) := onL hf (by omega) (by omega) (L := 0) (by omega)
  have hsh := hx.shelf
  have hidx : idx b.Shelves.1 (j : Int) = some (zC (bare b j)) := hx.idx
  have hsucc := zbb hj (by omega : b.Shelves.1.length < 9223372036854775808)
  have hlim : S.length + 1 ≤ 1000000 := by omega
  have hb1 : 0 ≤ (zC (bare b j)).Begin.Low := hsh.2.1
  have hb2 : (zC (bare b j)).Begin.Low ≤ (zC (bare b j)).Begin.High := hsh.2.2.1
  have hb3 : (zC (bare b j)).Begin.High ≤ (zC (bare b j)).Room := hsh.2.2.2
  have hb4 : (zC (bare b j)).Room ≤ 60 := hsh.1.2
  simp only [zPb, zIb hj, cond_true, hidx, Option.bind_some, hsucc, zJq hlim]
  refine Ok.bind (z3m hl _) fun t _ => ?_
  refine Ok.bind (zzo (by omega) (by omega) (by omega) (by omega) t) fun n0 hn0 => ?_
  refine Ok.bind (zMu hf hk hl hj hw S _ hMl hI ⟨hn0.1, hn0.2.1 hb2⟩) fun r hr => ?_
  obtain ⟨q1, q2, q3, q4⟩ := hr
  refine Ok.pure ⟨rfl, by show (S ++ [_]).length = j + 1; simp; omega, q1, fun hf' s hs => ?_⟩
  obtain ⟨hP, V, h3, h4⟩ := q4 hf'
  show zrn b v1.2.2 r.2.2.2.2.1 (S ++ [(r.2.2.2.2.2, _)]) s
  by_cases e : s = j
  ·subst e
   exact ⟨V, r.2.2.2.2.2, _, by rw [List.getElem?_append_right (by omega), hSl, Nat.sub_self]; rfl, q2, h3, h4⟩
  ·obtain ⟨V', row, κ, g1, g2, g3, g4⟩ := hP s (by omega)
   exact ⟨V', row, κ, by rw [List.getElem?_append_left (by omega)]; exact g1, g2, g3, zwy g4 fun i D hD hs' => q3 i D hD (by omega)⟩
 ·rintro ⟨nx, f, j', S, M⟩ ⟨hj', hSl, hMl, hI⟩
  obtain rfl : j' = (b.Shelves.1.length : Int) := hj'
  have c1 : decide ((b.Shelves.1.length : Int) < (b.Shelves.1.length : Int)) = false := by simp
  simp only [zPb, c1, cond_false]
  exact Ok.pure hI
def zBr (b : zb) (S : List (SL Int)) (c c' : zo) : Prop :=
 c'.Day = c.Day ∧ c'.Shelf = c.Shelf ∧ c'.Err = c.Err ∧ (0 ≤ c'.Read ∧ c'.Read ≤ 60) ∧ ∃ row κ n, S[c.Shelf.toNat]? = some (row, κ) ∧ row[c.Day.toNat]? = some n ∧ c'.Read - c.Err ≤ n ∧ n ≤ c'.Read + c.Err
theorem zZu (hf : Fine b) (hk : 5000 < k) {l : SL Int} (hl : l.1.length < 9223372036854775808) {v1 : Int × Int × (List Int)} {v4 : Int × Bool × Int × (List (SL Int)) × (List Int)} (h4 : v4.2.1 = true → ∀ s, s < b.Shelves.1.length → zrn b v1.2.2 v4.2.2.2.2 v4.2.2.2.1 s) :
  Ok (iter (fun z => znb k b l v1 v4 z.1 z.2) k (0, ([] : List zo)))
   (fun r => v4.2.1 = true → r.2.length = b.Counts.1.length ∧ ∀ (i : Nat) c', r.2[i]? = some c' → ∃ c, b.Counts.1[i]? = some c ∧ zBr b v4.2.2.2.1 c c') := by
 have hn := hf.ncounts
 have hdays := hf.days
 obtain ⟨q0, f, q1, S, M⟩ := v4
 cases f with
 | false =>
  refine Ok.count 0 (fun _ _ => True) (fun j s h => by omega) ?_ trivial (by omega)
  rintro ⟨i, C⟩ _
  simp only [znb, zgb, cond_false, Option.bind_some]
  exact Ok.pure fun h => by cases h
 | true =>
  have h4 : ∀ s, s < b.Shelves.1.length → zrn b v1.2.2 M S s := h4 rfl
  refine Ok.count b.Counts.1.length (fun j z => z.1 = (j : Int) ∧ z.2.length = j ∧ ∀ (i : Nat) c', z.2[i]? = some c' → ∃ c, b.Counts.1[i]? = some c ∧ zBr b S c c') ?_ ?_ ⟨rfl, rfl, fun i c' h => by simp at h⟩ (by omega)
  ·rintro j ⟨j', C⟩ hj ⟨hj', hCl, hI⟩
   obtain rfl : j' = (j : Int) := hj'
   have hCl : C.length = j := hCl
   have hI : ∀ (i : Nat) c', C[i]? = some c' → ∃ c, b.Counts.1[i]? = some c ∧ zBr b S c c' := hI
   have hge := List.getElem?_eq_getElem hj
   have hfc := hf.counts _ (List.getElem_mem hj)
   have hsucc := zbb hj (by omega : b.Counts.1.length < 9223372036854775808)
   have hlim : C.length + 1 ≤ 1000000 := by omega
   have hJ : zgb k b l v1 (q0, true, q1, S, M) (j : Int) C = some true := by
    unfold zgb
    simp only [cond_true, zIb hj]
   obtain ⟨⟨c1, c2⟩, ⟨c3, c4⟩, ⟨c5, c6⟩, c7, c8⟩ := hfc
   generalize hcc : b.Counts.1[j] = c at *
   obtain ⟨V, row, κ, g1, g2, g3, g4⟩ := h4 c.Shelf.toNat (by omega)
   have g5 := g4.row c.Day.toNat (by omega)
   have g6 := zbs hf (by omega) g3 (show c.Day.toNat < b.Days.toNat by omega)
   generalize V (evsL (bare b c.Shelf.toNat) v1.2.2 (c.Day.toNat + 1)).length = n at *
   obtain ⟨g7, g8⟩ := List.getElem?_eq_some_iff.1 g1
   have i1 : idx S c.Shelf = some (row, κ) := by
    rw [show c.Shelf = ((c.Shelf.toNat : Nat) : Int) by omega, zib g7, g8]
   obtain ⟨g9, g10⟩ := List.getElem?_eq_some_iff.1 g5
   have i2 : idx row c.Day = some n := by
    rw [show c.Day = ((c.Day.toNat : Nat) : Int) by omega, zib g9, g10]
   have w1 : w64 (0 - c.Err) = -c.Err := by rw [z8 (by omega) (by omega)]; omega
   simp only [znb, hJ, Option.bind_some, cond_true, zib hj, hcc, i1, i2, zxu, w1, hsucc, zJq hlim]
   refine Ok.bind (z3m hl _) fun t _ => ?_
   refine Ok.bind (zzo (by show -1000 ≤ -c.Err; omega) (by show -c.Err ≤ 1000; omega) (by show -1000 ≤ c.Err; omega) (by show c.Err ≤ 1000; omega) t) fun r hr => ?_
   have hr1 : -c.Err ≤ r := hr.1
   have hr2 : r ≤ c.Err := hr.2.1 (by show -c.Err ≤ c.Err; omega)
   have w2 : w64 (n + r) = n + r := z8 (by omega) (by omega)
   rw [w2]
   refine Ok.pure ⟨rfl, by show (C ++ [_]).length = j + 1; simp; omega, fun i c' hc' => ?_⟩
   by_cases e : i = j
   ·subst e
    have hc' : (C ++ [_])[i]? = some c' := hc'
    rw [List.getElem?_append_right (by omega), hCl, Nat.sub_self] at hc'
    cases hc'
    refine ⟨c, by rw [hge], rfl, rfl, rfl, ?_, row, κ, n, g1, g5, ?_⟩
    ·simp only
     split <;> split <;> omega
    ·simp only
     split <;> split <;> omega
   ·have hc' : (C ++ [_])[i]? = some c' := hc'
    have hlt := (List.getElem?_eq_some_iff.1 hc').1
    rw [List.length_append, List.length_singleton] at hlt
    rw [List.getElem?_append_left (by omega)] at hc'
    exact hI i c' hc'
  ·rintro ⟨j', C⟩ ⟨hj', hCl, hI⟩
   obtain rfl : j' = (b.Counts.1.length : Int) := hj'
   have c1 : decide ((b.Counts.1.length : Int) < (b.Counts.1.length : Int)) = false := by simp
   have hJ : zgb k b l v1 (q0, true, q1, S, M) (b.Counts.1.length : Int) C = some false := by
    unfold zgb
    simp only [cond_true, c1]
   simp only [znb, hJ, Option.bind_some, cond_false]
   exact Ok.pure fun _ => ⟨hCl, hI⟩
structure zkj (b y : zb) (x : zEb) : Prop where
 days : zcn b x.days.1
 counts : ∃ C : List zo, y = zhf b (C, rcap true C) ∧ C.length ≤ 8
 fine : Fine y
 shelf : ∀ s, s < b.Shelves.1.length → ∃ V row κ, x.stocks.1[s]? = some (row, κ) ∧ row.length = b.Days.toNat ∧ zje (zC (bare b s)).Begin (evsL ⟨y, (s : Int), 0⟩ x.days.1 b.Days.toNat) V ∧ Told b s x.days.1 b.Days.toNat row x.moved.1 V
theorem zRt (hf : Fine b) (hk : 5000 < k) {l : SL Int} (hl : l.1.length < 9223372036854775808) :
  Ok (z2c k b l) (fun r => r.2.2 = true → zkj b r.2.1 r.1) := by
 have hnm := hf.nmoves
 unfold z2c
 refine Ok.bind (zVt hf hk hl) fun v1 hv1 => ?_
 have c1 : (decide (0 ≤ (b.Moves.1.length : Int)) && decide ((b.Moves.1.length : Int) ≤ (LIM : Int))) = true := by
  rw [Bool.and_eq_true, decide_eq_true_eq, decide_eq_true_eq]
  exact ⟨by omega, by show _ ≤ (1073741824 : Int); omega⟩
 rw [c1, cond_true]
 refine Ok.bind (zRw hf hk hl hv1 v1.1 (M0 := List.replicate (b.Moves.1.length : Int).toNat 0) (by simp)) fun v4 hv4 => ?_
 refine Ok.bind (zZu hf hk hl hv4) fun v6 hv6 => ?_
 refine Ok.pure fun hf' => ?_
 have hf' : v4.2.1 = true := hf'
 have h4 := hv4 hf'
 obtain ⟨h5, h6⟩ := hv6 hf'
 have hfy : Fine (zhf b (v6.2, rcap true v6.2)) := by
  refine zcr hf (by show v6.2.length ≤ 8; have := hf.ncounts; omega) fun c' hc' => ?_
  obtain ⟨i, hi, he⟩ := List.getElem_of_mem hc'
  obtain ⟨c, g1, g2, g3, g4, g5, _⟩ := h6 i c' (by rw [List.getElem?_eq_getElem hi, he])
  obtain ⟨⟨c1, c2⟩, ⟨c3, c4⟩, ⟨c5, c6⟩, c7, c8⟩ := hf.counts c (List.mem_of_getElem? g1)
  exact ⟨⟨by omega, by omega⟩, ⟨by omega, by omega⟩, g5, by omega, by omega⟩
 refine ⟨hv1, ⟨_, rfl, by show v6.2.length ≤ 8; have := hf.ncounts; omega⟩, hfy, fun s hs => ?_⟩
 obtain ⟨V, row, κ, g1, g2, g3, g4⟩ := h4 s hs
 refine ⟨V, row, κ, g1, g2, ⟨g3.1, zNp (C := ([], .nil)) _ g3.2 fun d hd => ?_⟩, g4⟩
 have hr := zbs hf hs g3 hd
 have hrow := g4.row d hd
 generalize hn : V (evsL (bare b s) v1.2.2 (d + 1)).length = n at *
 obtain ⟨m, rfl⟩ : ∃ m : Nat, n = m := ⟨n.toNat, by omega⟩
 rw [zNr]
 refine ⟨hr.2.1, ?_⟩
 rw [zex]
 intro c' hc' hd' hs'
 obtain ⟨i, hi, he⟩ := List.getElem_of_mem hc'
 obtain ⟨c, k1, k2, k3, k4, k5, row', κ', n', k6, k7, k8⟩ := h6 i c' (by rw [List.getElem?_eq_getElem hi, he])
 have e1 : c.Shelf.toNat = s := by omega
 have e2 : c.Day.toNat = d := by omega
 rw [e1, g1] at k6
 cases k6
 rw [e2, hrow] at k7
 cases k7
 omega
end
end Go.AM
set_option linter.unusedVariables false
namespace Go.AM
open Go
def zXu (x : zd) (w : List Int) (M : zB) (m : Nat) : Nat := (evsL x w M.Day.toNat).length + (cat (evDg x w (M.Day.toNat : Nat)) x.ShelfBook.Deliveries.1).length + (cat (evMg x (M.Day.toNat : Nat)) (x.ShelfBook.Moves.1.take m)).length
def Was (x : zd) (w : List Int) (V : Nat → Int) (M : zB) (m : Nat) (n : Int) : Prop := V (zXu x w M m + 1) - V (zXu x w M m) = if M.Back = true then n else -n
section
variable {b : zb} {k : Nat}
end
end Go.AM
set_option linter.unusedVariables false
namespace Go.AM
open Go
theorem z8x {x : zd} {w : List Int} (hw : zcn x.ShelfBook w) : ∃ w', Way x w' ∧ ∀ (i : Nat) D, x.ShelfBook.Deliveries.1[i]? = some D → D.Shelf = x.shelf → w'[i]? = w[i]? := by
 obtain ⟨w', h1, h2⟩ := zou (n := x.ShelfBook.Deliveries.1.length) (P := fun i c => ∃ D cw, x.ShelfBook.Deliveries.1[i]? = some D ∧ w[i]? = some cw ∧ c = if D.Shelf = x.shelf then cw else D.Days.Low) (fun i hi => by
  obtain ⟨cw, h3, _⟩ := hw.2 i _ (List.getElem?_eq_getElem hi)
  exact ⟨_, _, cw, List.getElem?_eq_getElem hi, h3, rfl⟩)
 refine ⟨w', ⟨h1, fun i D hi hD => ?_⟩, fun i D hD hs => ?_⟩
 ·obtain ⟨c, h3, D', cw, h4, h5, h6⟩ := h2 i hi
  rw [hD] at h4
  cases h4
  obtain ⟨cw', h7, h8, h9⟩ := hw.2 i D hD
  rw [h5] at h7
  cases h7
  refine ⟨c, h3, ?_⟩
  rw [h6]
  split <;> omega
 ·obtain ⟨c, h3, D', cw, h4, h5, h6⟩ := h2 i (List.getElem?_eq_some_iff.1 hD).1
  rw [hD] at h4
  cases h4
  rw [if_pos hs] at h6
  rw [h3, h5, h6]
theorem z2s {x : zd} {w w' : List Int} (h : ∀ (i : Nat) D, x.ShelfBook.Deliveries.1[i]? = some D → D.Shelf = x.shelf → w'[i]? = w[i]?) (d : Int) : cat (evDg x w' d) x.ShelfBook.Deliveries.1 = cat (evDg x w d) x.ShelfBook.Deliveries.1 :=
 zoo fun i D hD => by
  unfold evDg
  by_cases hs : D.Shelf = x.shelf
  ·rw [h i D hD hs]
  ·rw [if_neg fun h => hs h.1, if_neg fun h => hs h.1]
theorem z3t {x : zd} {w w' : List Int} (h : ∀ (i : Nat) D, x.ShelfBook.Deliveries.1[i]? = some D → D.Shelf = x.shelf → w'[i]? = w[i]?) : ∀ N, evsL x w' N = evsL x w N
 | 0 => rfl
 | N + 1 => by
  rw [zVc, zVc, z3t h N]
  unfold zOd
  rw [z2s h]
structure zBo (y : zb) (x : zEb) (s : Nat) (w : List Int) (V : Nat → Int) (row : List Int) (κ : Cap) : Prop where
 way : Way ⟨y, (s : Int), 0⟩ w
 path : zQn ⟨y, (s : Int), 0⟩ w V
 srow : x.stocks.1[s]? = some (row, κ)
 len : row.length = y.Days.toNat
 at_ : ∀ d : Nat, d < y.Days.toNat → row[d]? = some (V (evsL ⟨y, (s : Int), 0⟩ w (d + 1)).length)
 days : ∀ (i : Nat) D, y.Deliveries.1[i]? = some D → D.Shelf = (s : Int) → w[i]? = x.days.1[i]?
 moved : ∀ (i : Nat) D, y.Moves.1[i]? = some D → D.Shelf = (s : Int) → ∃ t, x.moved.1[i]? = some t ∧ Was ⟨y, (s : Int), 0⟩ w V D i t
section
variable {b y : zb} {x : zEb}
theorem zkj.went (hf : Fine b) (h : zkj b y x) {s : Nat} (hs : s < b.Shelves.1.length) : ∃ w V row κ, zBo y x s w V row κ := by
 obtain ⟨V, row, κ, h1, h2, h3, h4⟩ := h.shelf s hs
 obtain ⟨C, rfl, hC⟩ := h.counts
 have hdays := hf.days
 obtain ⟨w', g1, g2⟩ := z8x (x := ⟨zhf b (C, rcap true C), (s : Int), 0⟩) (w := x.days.1) h.days
 have g3 := z3t g2
 refine ⟨w', V, row, κ, g1, ?_, h1, h2, fun d hd => ?_, g2, fun i D hD hs' => ?_⟩
 ·unfold zQn
  rw [g3]
  exact h3
 ·rw [g3, zcp (C' := ([], .nil))]
  exact h4.row d hd
 ·have hm := (hf.moves D (List.mem_of_getElem? hD)).1
  obtain ⟨t, t1, t2⟩ := h4.moved D.Day.toNat (by omega) i D (List.getElem?_eq_some_iff.1 hD).1 hD hs' (by omega)
  refine ⟨t, t1, ?_⟩
  unfold Was zXu
  rw [g3, z2s g2, zcp (C' := ([], .nil))]
  exact t2
theorem zkj.true (hf : Fine b) (h : zkj b y x) : z4d y 0 := by
 obtain ⟨C, hy, hC⟩ := h.counts
 rw [zDu h.fine (Int.le_refl 0) (by omega)]
 intro s hs
 obtain ⟨w, V, row, κ, g⟩ := h.went hf (s := s) (by rw [hy] at hs; exact hs)
 exact ⟨w, V, g.way, g.path⟩
theorem zBo.stock (hf : Fine y) {s : Nat} (hs : s < y.Shelves.1.length) {w : List Int} {V : Nat → Int} {row : List Int} {κ : Cap} (g : zBo y x s w V row κ) {d : Nat} (hd : d < y.Days.toNat) : ∃ n, row[d]? = some n ∧ z2g y (s : Int) d n := by
 refine ⟨_, g.at_ d hd, ?_⟩
 have hx : On (⟨y, (s : Int), 0⟩ : zd) := onL hf (by omega) (by omega) (L := 0) (by omega)
 exact (zKs hx (by show (d : Int) < y.Days; omega) _).2 ⟨w, V, g.way, g.path, rfl⟩
variable {k : Nat}
end
end Go.AM
set_option linter.unusedVariables false
namespace Go.AM
open Go
section
variable {b y : zb} {x : zEb} {k : Nat}
theorem zds (hs : zff y) (hd : y.Days ≤ 9223372036854775807) (hk : Fuel k y) (hf : Fine y) (hT : z4d y 0) {s d : Int} (hq : zZj y s d) : Ok (zyf k y s d) (fun r => r.2 = 0 ∧ zgi y s d r.1) := by
 refine (z1x hs hd hk s d).mono fun r hr => ?_
 have h0 : r.2 = 0 := hr.1.eq (.inr (.inr (.inr ⟨hf, hq, hT, rfl⟩)))
 exact ⟨h0, hr.2.2 h0⟩
theorem zHs (hs : zff b) (hd : b.Days ≤ 9223372036854775807) (hk : Fuel k b) (hc : zXb k = some true) {l : SL Int} (hl : l.1.length < 9223372036854775808) (n : Nat → Int) : zfc k b l n = some true := by
 apply Ok.eq
 have hk0 := hk.k0
 unfold zfc
 refine Ok.bind (ztw hs hd hk) fun so hso => ?_
 cases so with
 | false =>
  rw [Bool.not_false, cond_true, hc]
  exact Ok.pure rfl
 | true =>
  have hf := hso.1 rfl
  have hns := hf.nshelves
  have hdays := hf.days
  rw [Bool.not_true, cond_false]
  refine Ok.bind (zRt hf (by omega) hl) fun r hr => ?_
  obtain ⟨x, y, is⟩ := r
  cases is with
  | false =>
   simp only [Bool.not_false, cond_true, hc, Option.bind_some]
   exact Ok.pure rfl
  | true =>
   simp only [Bool.not_true, cond_false]
   have hH : zkj b y x := hr rfl
   have hT := hH.true hf
   have hfy := hH.fine
   obtain ⟨C, hy, hC⟩ := hH.counts
   have hsy : zff y := by rw [hy]; exact zWt hs (by show C.length < _; omega)
   have hdy : y.Days ≤ 9223372036854775807 := by rw [hy]; exact hd
   have hky : Fuel k y := by rw [hy]; exact zSu hk (by show C.length < k; omega)
   have e1 : b.Days = y.Days := by rw [hy]; rfl
   have e2 : b.Shelves = y.Shelves := by rw [hy]; rfl
   refine Ok.bind (zbu (by omega) (by omega)) fun s hsp => ?_
   obtain ⟨s, rfl, hsl⟩ := hsp
   refine Ok.bind (zEv hf (n 1)) fun d hdp => ?_
   obtain ⟨d, rfl, hdl⟩ := hdp
   obtain ⟨w, V, row, κ, g⟩ := hH.went hf hsl
   rw [e2] at hsl
   rw [e1] at hdl hdays
   have hq : ∀ j : Nat, (j : Int) < y.Days → zZj y (s : Int) (j : Int) := fun j hj => ⟨⟨by omega, by omega⟩, by omega, by omega⟩
   refine Ok.bind (zds hsy hdy hky hfy hT (hq d (by omega))) fun v hv => ?_
   obtain ⟨hv0, hv1, jm, hj1, hj2, hj3⟩ := hv
   rw [hv0, show ((0 : Int) != 0) = false from rfl, cond_false]
   obtain ⟨g7, g8⟩ := List.getElem?_eq_some_iff.1 g.srow
   have hL1 : Ok (iter (fun z => zJb k b l n (x, y, true) (s : Int) (d : Int) v z.1 z.2) k (false, (d : Int))) (fun r => ∃ i, r = .inr (true, i)) := by
    refine Ok.count (y.Days.toNat - d) (fun t z => z.2 = ((d + t : Nat) : Int) ∧ (jm < d + t → z.1 = true)) ?_ ?_ ⟨rfl, fun h => by omega⟩ (by omega)
    ·rintro t ⟨f, j⟩ ht ⟨hz, hI⟩
     obtain rfl : j = ((d + t : Nat) : Int) := hz
     have hI : jm < d + t → f = true := hI
     have hjl : d + t < y.Days.toNat := by omega
     have hjl2 : ((d + t : Nat) : Int) < y.Days := by omega
     obtain ⟨m, g9, g10⟩ := g.stock hfy hsl hjl
     obtain ⟨g11, g12⟩ := List.getElem?_eq_some_iff.1 g9
     have c1 : decide (((d + t : Nat) : Int) < b.Days) = true := decide_eq_true (by omega)
     have hsucc : w64 (((d + t : Nat) : Int) + 1) = ((d + (t + 1) : Nat) : Int) := by rw [z8 (by omega) (by omega)]; push_cast; omega
     have hidx : idx row ((d + t : Nat) : Int) = some m := by rw [zib g11, g12]
     have hidx2 : idx x.stocks.1 (s : Int) = some (row, κ) := by rw [zib g7, g8]
     simp only [zJb, c1, cond_true, hsucc]
     refine Ok.bind (zrw hsy hdy hky hfy hT (hq (d + t) hjl2)) fun a ha => ?_
     refine Ok.bind (zds hsy hdy hky hfy hT (hq (d + t) hjl2)) fun c hc' => ?_
     obtain ⟨a1, a2⟩ := ha
     rw [Int.toNat_natCast] at a2
     obtain ⟨p1, p2, jc, p3, p4, p5⟩ := hc'
     have q1 : v.1 ≤ m := hv1 (d + t) m (by omega) hjl2 g10
     have q2 : v.1 ≤ a.1.Low := hv1 (d + t) _ (by omega) hjl2 a2.1
     have q3 : v.1 ≤ c.1 := hv1 jc _ (by omega) p4 p5
     have hJ : zgc k b l n (x, y, true) (s : Int) (d : Int) v f ((d + t : Nat) : Int) a c = some false := by
      unfold zgc
      have d1 : decide (m < v.1) = false := by simp only [decide_eq_false_iff_not]; omega
      have d2 : decide (a.1.Low < v.1) = false := by simp only [decide_eq_false_iff_not]; omega
      have d3 : decide (c.1 < v.1) = false := by simp only [decide_eq_false_iff_not]; omega
      simp only [a1, p1, show ((0 : Int) != 0) = false from rfl, cond_false, hidx2, hidx, Option.bind_some, d1, d2, d3]
     have hJ5 : zhc k b l n (x, y, true) (s : Int) (d : Int) v f ((d + t : Nat) : Int) a c = some (f || (a.1.Low == v.1)) := by
      unfold zhc
      cases f <;> rfl
     rw [hJ, Option.bind_some, cond_false, hJ5, Option.bind_some]
     refine Ok.pure ⟨rfl, fun h => ?_⟩
     show (f || (a.1.Low == v.1)) = true
     by_cases e : jm = d + t
     ·have r1 : a.1.Low ≤ v.1 := (a2.2.2 v.1 (by rw [← e]; exact hj3)).1
      have : a.1.Low = v.1 := by omega
      simp [this]
     ·rw [hI (by omega)]; rfl
    ·rintro ⟨f, j⟩ ⟨hz, hI⟩
     obtain rfl : j = ((d + (y.Days.toNat - d) : Nat) : Int) := hz
     have hI : jm < d + (y.Days.toNat - d) → f = true := hI
     have c1 : decide (((d + (y.Days.toNat - d) : Nat) : Int) < b.Days) = false := by simp only [decide_eq_false_iff_not]; omega
     simp only [zJb, c1, cond_false]
     exact Ok.pure ⟨_, by rw [hI (by omega)]⟩
   refine Ok.bind hL1 fun r hr => ?_
   obtain ⟨i, rfl⟩ := hr
   simp only [Sum.elim_inr, cond_true, hc, Option.bind_some]
   exact Ok.pure rfl
end
end Go.AM
set_option linter.unusedVariables false
namespace Go.AM
open Go
def zYb (x : zr) : Prop := (-9223372036854775808 ≤ x.Low ∧ x.Low ≤ 9223372036854775807) ∧ (-9223372036854775808 ≤ x.High ∧ x.High ≤ 9223372036854775807) ∧ True
def zIf (x : zt) : Prop := zYb x.Begin ∧ (-9223372036854775808 ≤ x.Room ∧ x.Room ≤ 9223372036854775807) ∧ True
def z5f (x : zB) : Prop := (-9223372036854775808 ≤ x.Day ∧ x.Day ≤ 9223372036854775807) ∧ (-9223372036854775808 ≤ x.Shelf ∧ x.Shelf ≤ 9223372036854775807) ∧ True ∧ zYb x.By ∧ True
def zte (x : zw) : Prop := (-9223372036854775808 ≤ x.Shelf ∧ x.Shelf ≤ 9223372036854775807) ∧ zYb x.Days ∧ zYb x.By ∧ True
def zEf (x : zo) : Prop := (-9223372036854775808 ≤ x.Day ∧ x.Day ≤ 9223372036854775807) ∧ (-9223372036854775808 ≤ x.Shelf ∧ x.Shelf ≤ 9223372036854775807) ∧ (-9223372036854775808 ≤ x.Read ∧ x.Read ≤ 9223372036854775807) ∧ (-9223372036854775808 ≤ x.Err ∧ x.Err ≤ 9223372036854775807) ∧ True
def zDd (x : zb) : Prop := (-9223372036854775808 ≤ x.Days ∧ x.Days ≤ 9223372036854775807) ∧ zHf (fun a => zIf a) x.Shelves ∧ zHf (fun a => z5f a) x.Moves ∧ zHf (fun a => zte a) x.Deliveries ∧ zHf (fun a => zEf a) x.Counts ∧ True
end Go.AM
set_option maxRecDepth 1000000
namespace Go.AM
open Go
theorem zUs (k : Nat) : zXb (k + 300) = some true := by kernel_rfl
end Go.AM
set_option linter.unusedVariables false
namespace Go.AM
open Go
theorem zgv {b : zb} (h : zDd b) : zff b ∧ b.Days ≤ 9223372036854775807 := by
 obtain ⟨⟨_, h0⟩, h1, h2, h3, h4, _⟩ := h
 have e : maxLen = 9223372036854775807 := by decide
 have l1 := h1.2.2
 have l2 := h2.2.2
 have l3 := h3.2.2
 have l4 := h4.2.2
 rw [e] at l1 l2 l3 l4
 exact ⟨⟨by omega, by omega, by omega, by omega⟩, h0⟩
def zFv (b : zb) : Nat := 500000 + b.Shelves.1.length + b.Moves.1.length + b.Deliveries.1.length + b.Counts.1.length
theorem zNx (b : zb) : Fuel (zFv b + 300) b := by
 unfold zFv
 exact ⟨by omega, by omega, by omega, by omega, by omega⟩
end Go.AM
set_option linter.unusedVariables false
namespace Go.AM
open Go
theorem z6x (b : zb) (l : SL Int) (n : Nat → Int) (hb : zDd b) (hl : zHf (fun a => -9223372036854775808 ≤ a ∧ a ≤ 9223372036854775807) l) (hn : ∀ k, k < 2 → -9223372036854775808 ≤ n k ∧ n k ≤ 9223372036854775807) : ∃ k, zfc k b l n = some true := by
 obtain ⟨hs, hd⟩ := zgv hb
 have e : maxLen = 9223372036854775807 := by decide
 have := hl.2.2
 exact ⟨_, zHs hs hd (zNx b) (zUs _) (by omega) n⟩
end Go.AM
