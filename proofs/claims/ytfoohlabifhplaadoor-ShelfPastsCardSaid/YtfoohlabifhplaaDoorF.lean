/- The statement ShelfPasts holds for every input that its row lets in. Conditions: none. -/
import Derived.Test.YtfoohlabifhplaaDoorE
set_option linter.all false
set_option linter.unusedVariables false
namespace Go.AM
open Go
theorem zgv {k : Nat} (hk : 5000 < k) (a b : Int) (c : Cap) : zDc k a ([b], c) = some (if b > a then b else a) := by
 obtain ⟨k, rfl⟩ : ∃ k', k = k' + 2 := ⟨k - 2, by omega⟩
 unfold zDc
 have h1 : zZb (k + 2) ([b], c) a 0 = some (.inl ((if b > a then b else a), 1)) := by
  have : w64 (1 : Int) = 1 := zkb (by omega) (by omega)
  simp [zZb, idx, this]
 have h2 : ∀ z, zZb (k + 2) ([b], c) z 1 = some (.inr (z, 1)) := by
  intro z
  simp [zZb]
 simp [iter, h1, h2]
def zGs (p : Nat → Bool) (m : Nat) (lo hi : Int) : Prop :=
 (∀ n, n < m → p n = true → lo ≤ (n : Int) ∧ (n : Int) ≤ hi) ∧ ((lo = 60 ∧ hi = 0 ∧ ∀ n, n < m → p n = false) ∨ ∃ a b : Nat, a < m ∧ b < m ∧ p a = true ∧ p b = true ∧ lo = (a : Int) ∧ hi = (b : Int))
theorem zpA {k : Nat} (hk : 5000 < k) (p : Nat → Bool) : Ok (zIb k p) (fun s => zGs p 61 s.Low s.High) := by
 unfold zIb zrb
 rw [Option.bind_some]
 refine Ok.bind (z9s hk (fun j (z : Int × Int) => zGs p j z.1 z.2) (Q := fun r : Int × Int × Int => zGs p 61 r.2.1 r.2.2) ?_ ?_ ?_) fun r hr => Ok.pure hr
 ·rintro j ⟨lo, hi⟩ hj ⟨h1, h2⟩
  have c1 : decide ((j : Int) < 61) = true := by simp; omega
  have c2 : decide ((0 : Int) ≤ (j : Int)) = true := by simp
  simp only [zXd, c1, c2, Bool.and_self, cond_true, zvf, Int.toNat_natCast, zNq hj]
  have hlo : 0 ≤ lo ∧ lo ≤ 60 ∧ 0 ≤ hi ∧ hi ≤ 60 := by
   rcases h2 with ⟨h3, h4, _⟩ | ⟨a, b, h3, h4, _, _, h5, h6⟩
   ·simp only at h3 h4; omega
   ·simp only at h5 h6; omega
  cases hp : p j with
  | false =>
   simp only [cond_false, Option.bind_some]
   refine Ok.pure ⟨_, rfl, fun n hn hpn => ?_, ?_⟩
   ·have : n ≠ j := fun e => by rw [e, hp] at hpn; cases hpn
    exact h1 n (by omega) hpn
   ·rcases h2 with ⟨h3, h4, h5⟩ | ⟨a, b, h3, h4, h5⟩
    ·refine .inl ⟨h3, h4, fun n hn => ?_⟩
     by_cases e : n = j
     ·rw [e, hp]
     ·exact h5 n (by omega)
    ·exact .inr ⟨a, b, by omega, by omega, h5⟩
  | true =>
   have w1 : w64 (0 - lo) = -lo := by rw [zkb (by omega) (by omega)]; omega
   have w2 : w64 (0 - (j : Int)) = -(j : Int) := by rw [zkb (by omega) (by omega)]; omega
   simp only [cond_true, z6f, z4f, Option.bind_some, zgv hk, w1, w2]
   have w3 : w64 (0 - (if -(j : Int) > -lo then -(j : Int) else -lo)) = if (j : Int) < lo then (j : Int) else lo := by
    rw [zkb (by split <;> omega) (by split <;> omega)]
    split <;> split <;> omega
   rw [w3]
   refine Ok.pure ⟨_, rfl, fun n hn hpn => ?_, ?_⟩
   ·simp only
    by_cases e : n = j
    ·subst e; constructor <;> split <;> omega
    ·have := h1 n (by omega) hpn
     simp only at this
     constructor <;> split <;> omega
   ·right
    rcases h2 with ⟨h3, h4, h5⟩ | ⟨a, b, h3, h4, h5, h6, h7, h8⟩
    ·simp only at h3 h4
     refine ⟨j, j, by omega, by omega, hp, hp, ?_, ?_⟩ <;> simp only <;> split <;> omega
    ·simp only at h7 h8
     refine ⟨if (j : Int) < lo then j else a, if (j : Int) > hi then j else b, by split <;> omega, by split <;> omega, by split <;> assumption, by split <;> assumption, ?_, ?_⟩ <;> simp only <;> split <;> omega
 ·rintro ⟨lo, hi⟩ h
  simp only [zXd, show decide ((61 : Int) < 61) = false from rfl, cond_false]
  exact Ok.pure ⟨_, rfl, h⟩
 ·exact ⟨fun n h => absurd h (by omega), .inl ⟨rfl, rfl, fun n h => absurd h (by omega)⟩⟩
end Go.AM
set_option linter.unusedVariables false
namespace Go.AM
open Go
def z0q (b : za) (right : Bool) (true_ : Prop) (e : Int) : Prop :=
 (¬ Fine b ∧ e = 40) ∨ (Fine b ∧ right = false ∧ e = 41) ∨ (Fine b ∧ right = true ∧ ¬ true_ ∧ e = 42) ∨ (Fine b ∧ right = true ∧ true_ ∧ e = 0)
theorem zsy {k : Nat} {b : za} (hs : zxe b) (hd : b.Days ≤ 9223372036854775807) (hk : Fuel k b) (right : Bool) : Ok (zNd k b right) (z0q b right (z2c b 0)) := by
 unfold zNd
 refine Ok.bind (zGy hs hd hk) fun e he => ?_
 rcases he with ⟨rfl, hf⟩ | ⟨rfl, hf⟩
 ·cases right with
  | false => exact Ok.pure (.inr (.inl ⟨hf, rfl, rfl⟩))
  | true =>
   show Ok ((zFb k b 0).bind _) _
   refine Ok.bind (z6x hf (by omega) (by omega) hk.k0) fun r hr => ?_
   cases r with
   | false => exact Ok.pure (.inr (.inr (.inl ⟨hf, rfl, fun h => Bool.noConfusion (hr.2 h), rfl⟩)))
   | true => exact Ok.pure (.inr (.inr (.inr ⟨hf, rfl, hr.1 rfl, rfl⟩)))
 ·exact Ok.pure (.inl ⟨hf, rfl⟩)
end Go.AM
set_option linter.unusedVariables false
namespace Go.AM
open Go
structure zrd (x : zd) (N : Nat) (Cs v : Nat → Nat) : Prop where
 c0 : Cs 0 = 0
 v0 : (zK x).Begin.Low ≤ (v 0 : Int) ∧ (v 0 : Int) ≤ (zK x).Begin.High
 step : ∀ e, e < N → Cs (e + 1) < nset x ∧ Via x (e : Int) (Cs e) (Cs (e + 1)) (v e) (v (e + 1))
theorem zLg (x : zd) : ∀ (d C n : Nat), zug x d C n ↔ ∃ Cs v, zrd x d Cs v ∧ Cs d = C ∧ v d = n
 | 0, C, n => by
  constructor
  ·rintro ⟨rfl, h⟩
   exact ⟨fun _ => 0, fun _ => n, ⟨rfl, h, fun e he => absurd he (by omega)⟩, rfl, rfl⟩
  ·rintro ⟨Cs, v, h, rfl, rfl⟩
   exact ⟨h.c0, h.v0⟩
 | d + 1, C, n => by
  constructor
  ·rintro ⟨h1, B, m, h2, h3, h4⟩
   obtain ⟨Cs, v, h, rfl, rfl⟩ := (zLg x d B m).1 h3
   refine ⟨fun i => if i = d + 1 then C else Cs i, fun i => if i = d + 1 then n else v i, ⟨by simpa using h.c0, by simpa using h.v0, fun e he => ?_⟩, by simp, by simp⟩
   by_cases hd : e = d
   ·subst hd
    have : ¬ e = e + 1 := by omega
    simp only [this, if_true, if_false]
    exact ⟨h1, h4⟩
   ·have e1 : ¬ e = d + 1 := by omega
    have e2 : ¬ e + 1 = d + 1 := by omega
    simp only [e1, e2, if_false]
    exact h.step e (by omega)
  ·rintro ⟨Cs, v, h, rfl, rfl⟩
   have h1 := h.step d (by omega)
   have hB : Cs d < nset x := by
    cases d with
    | zero => rw [h.c0]; unfold nset; exact Nat.two_pow_pos _
    | succ d => exact (h.step d (by omega)).1
   exact ⟨h1.1, Cs d, v d, hB, (zLg x d _ _).2 ⟨Cs, v, ⟨h.c0, h.v0, fun e he => h.step e (by omega)⟩, rfl, rfl⟩, h1.2⟩
theorem zCs {x : zd} (hx : On x) {N : Nat} (hN : (N : Int) = x.ShelfBook.Days) : ∀ (t d : Nat) (Cs v : Nat → Nat), d + t = N → zrd x d Cs v → Goon x t (Cs d) (v d) → ∃ Cs' v', zrd x N Cs' v' ∧ (∀ i, i ≤ d → Cs' i = Cs i ∧ v' i = v i)
 | 0, d, Cs, v, hd, h, hg => ⟨Cs, v, (by omega : d = N) ▸ h, fun i _ => ⟨rfl, rfl⟩⟩
 | t + 1, d, Cs, v, hd, h, hg => by
  obtain ⟨h1, h2, C, n, h3, h4, h5⟩ := hg
  have he : x.ShelfBook.Days - 1 - (t : Int) = (d : Int) := by omega
  rw [he] at h4
  have hc : zrd x (d + 1) (fun i => if i = d + 1 then C else Cs i) (fun i => if i = d + 1 then n else v i) := by
   refine ⟨by simpa using h.c0, by simpa using h.v0, fun e he => ?_⟩
   by_cases hd : e = d
   ·subst hd
    have : ¬ e = e + 1 := by omega
    simp only [this, if_true, if_false]
    exact ⟨h3, h4⟩
   ·have e1 : ¬ e = d + 1 := by omega
    have e2 : ¬ e + 1 = d + 1 := by omega
    simp only [e1, e2, if_false]
    exact h.step e (by omega)
  obtain ⟨Cs', v', h6, h7⟩ := zCs hx hN t (d + 1) _ _ (by omega) hc (by simpa using h5)
  refine ⟨Cs', v', h6, fun i hi => ?_⟩
  have h8 := h7 i (by omega)
  have e1 : ¬ i = d + 1 := by omega
  simpa only [e1, if_false] using h8
theorem zli {x : zd} (hx : On x) {N : Nat} {Cs v : Nat → Nat} (h : zrd x N Cs v) : ∀ d, d ≤ N → (v d : Int) ≤ (zK x).Room ∧ Cs d < nset x := by
 intro d hd
 have hc : zug x d (Cs d) (v d) := (zLg x d _ _).2 ⟨Cs, v, ⟨h.c0, h.v0, fun e he => h.step e (by omega)⟩, rfl, rfl⟩
 refine ⟨zsj hx _ _ _ hc, ?_⟩
 cases d with
 | zero => rw [h.c0]; unfold nset; exact Nat.two_pow_pos _
 | succ d => exact hc.1
theorem zQs {x : zd} (hx : On x) {N : Nat} (hN : (N : Int) = x.ShelfBook.Days) {Cs v : Nat → Nat} (h : zrd x N Cs v) : ∀ t d, d + t = N → Goon x t (Cs d) (v d)
 | 0, d, hd => ⟨(zli hx h d (by omega)).2, (zli hx h d (by omega)).1⟩
 | t + 1, d, hd => by
  have he : x.ShelfBook.Days - 1 - (t : Int) = (d : Int) := by omega
  have hs := h.step d (by omega)
  exact ⟨(zli hx h d (by omega)).2, (zli hx h d (by omega)).1, Cs (d + 1), v (d + 1), hs.1, by rw [he]; exact hs.2, zQs hx hN h t (d + 1) (by omega)⟩
theorem z4i {x : zd} (hx : On x) {day n : Nat} (hday : (day : Int) < x.ShelfBook.Days) : zgj x day n ↔ ∃ Cs v, zrd x x.ShelfBook.Days.toNat Cs v ∧ v (day + 1) = n := by
 have hN : ((x.ShelfBook.Days.toNat : Nat) : Int) = x.ShelfBook.Days := by omega
 constructor
 ·rintro ⟨C, h1, h2⟩
  obtain ⟨Cs, v, h, rfl, rfl⟩ := (zLg x _ _ _).1 h1
  obtain ⟨Cs', v', h3, h4⟩ := zCs hx hN _ (day + 1) Cs v (by omega) h h2
  exact ⟨Cs', v', h3, (h4 (day + 1) (by omega)).2⟩
 ·rintro ⟨Cs, v, h, rfl⟩
  exact ⟨Cs (day + 1), (zLg x _ _ _).2 ⟨Cs, v, ⟨h.c0, h.v0, fun e he => h.step e (by omega)⟩, rfl, rfl⟩, zQs hx hN h _ _ (by omega)⟩
theorem zEo {x : zd} (hx : On x) : zmj x ↔ ∃ Cs v, zrd x x.ShelfBook.Days.toNat Cs v := by
 constructor
 ·rintro ⟨C, n, h1, h2⟩
  obtain ⟨Cs, v, h, _⟩ := (zLg x _ _ _).1 h2
  exact ⟨Cs, v, h⟩
 ·rintro ⟨Cs, v, h⟩
  exact ⟨_, _, (zli hx h _ (Nat.le_refl _)).2, (zLg x _ _ _).2 ⟨Cs, v, h, rfl, rfl⟩⟩
end Go.AM
namespace Go.AM
open Go
def cat {α β : Type} (g : α → Nat → List β) (l : List α) : List β := l.zipIdx.flatMap fun p => g p.1 p.2
section
variable {α β : Type}
theorem zhs (g : α → Nat → List β) {l : List α} {j : Nat} (h : j < l.length) : cat g (l.take (j + 1)) = cat g (l.take j) ++ g l[j] j := by
 rw [List.take_succ_eq_append_getElem h]
 unfold cat
 rw [List.zipIdx_append, List.flatMap_append]
 have hl : (l.take j).length = j := by rw [List.length_take]; omega
 simp [hl, Nat.min_eq_left (Nat.le_of_lt h)]
theorem z9z (g : α → Nat → List β) : cat g [] = [] := rfl
theorem zmp {l : List α} {p : α × Nat} (h : p ∈ l.zipIdx) : l[p.2]? = some p.1 := by
 have := List.mem_zipIdx h
 have h2 := this.2.2
 simp only [Nat.sub_zero, Nat.zero_add] at h2 this
 rw [h2]
 exact List.getElem?_eq_getElem this.2.1
theorem zew {l : List α} {a : α} {i : Nat} (h : l[i]? = some a) : (a, i) ∈ l.zipIdx := by
 obtain ⟨hi, rfl⟩ := List.getElem?_eq_some_iff.1 h
 rw [List.mem_iff_getElem?]
 exact ⟨i, by simp [List.getElem?_zipIdx, hi]⟩
theorem zig {g : α → Nat → List β} {l : List α} {b : β} : b ∈ cat g l ↔ ∃ i a, l[i]? = some a ∧ b ∈ g a i := by
 unfold cat
 rw [List.mem_flatMap]
 constructor
 ·rintro ⟨p, hp, hb⟩; exact ⟨p.2, p.1, zmp hp, hb⟩
 ·rintro ⟨i, a, ha, hb⟩; exact ⟨(a, i), zew ha, hb⟩
theorem zTo {γ δ : Type} (g : γ → List δ) (n : Nat) : ∀ l : List γ, (∀ a ∈ l, (g a).length ≤ n) → (l.flatMap g).length ≤ n * l.length
 | [], _ => by simp
 | a :: t, h => by
  have h1 := zTo g n t fun b hb => h b (.tail _ hb)
  have h2 := h a (.head _)
  rw [List.flatMap_cons, List.length_append, List.length_cons, Nat.mul_succ]
  omega
theorem zKj {g : α → Nat → List β} (n : Nat) (hg : ∀ a i, (g a i).length ≤ n) (l : List α) : (cat g l).length ≤ n * l.length := by
 unfold cat
 refine Nat.le_trans (zTo _ n _ fun p _ => hg p.1 p.2) ?_
 simp
theorem zJu {g : α → Nat → List β} (n : Nat) (l : List α) (hg : ∀ a ∈ l, ∀ i, (g a i).length ≤ n) : (cat g l).length ≤ n * l.length := by
 unfold cat
 refine Nat.le_trans (zTo _ n _ fun p hp => hg p.1 (List.mem_of_getElem? (zmp hp)) p.2) ?_
 simp
theorem z4q {γ : Type} (g : α → Nat → List β) (f : β → γ) (l : List α) : (cat g l).map f = cat (fun a i => (g a i).map f) l := by
 unfold cat
 rw [List.map_flatMap]
theorem Ok.collect {f : Int × List β → Option ((Int × List β) ⊕ (Int × List β))} (l : List α) (g : α → Nat → List β) {acc : List β}
  (next : ∀ (j : Nat) (h : j < l.length), Ok (f ((j : Int), acc ++ cat g (l.take j))) (fun x => x = .inl (((j + 1 : Nat) : Int), acc ++ cat g (l.take j) ++ g l[j] j)))
  (last : ∀ a, f ((l.length : Int), a) = some (.inr ((l.length : Int), a))) {k : Nat} (hk : l.length < k) :
  Ok (Go.AM.iter f k (0, acc)) (fun r => r.2 = acc ++ cat g l) := by
 refine Ok.count l.length (fun j s => s = ((j : Int), acc ++ cat g (l.take j))) ?_ ?_ (by simp [z9z]) hk
 ·rintro j s hj rfl
  refine (next j hj).mono ?_
  rintro x rfl
  show (_ : Int × List β) = _
  rw [zhs g hj, List.append_assoc]
 ·rintro s rfl
  rw [last]
  refine Ok.pure ?_
  show (_ : List β) = _
  rw [List.take_length]
theorem zKh {n : Nat} (h : n ≤ 1000000) : decide (n ≤ LIM) = true := decide_eq_true (by show _ ≤ 1073741824; omega)
end
end Go.AM
namespace Go.AM
open Go
section
variable {α β : Type}
theorem zVu : ∀ {l l' : List Int}, l.Pairwise (· < ·) → l'.Pairwise (· < ·) → (∀ x, x ∈ l ↔ x ∈ l') → l = l'
 | [], [], _, _, _ => rfl
 | [], b :: t, _, _, h => by have := (h b).2 (.head _); cases this
 | a :: t, [], _, _, h => by have := (h a).1 (.head _); cases this
 | a :: t, b :: t', h1, h2, h => by
  obtain ⟨h3, h4⟩ := List.pairwise_cons.1 h1
  obtain ⟨h5, h6⟩ := List.pairwise_cons.1 h2
  have hab : a = b := by
   have ha := (h a).1 (.head _)
   have hb := (h b).2 (.head _)
   cases ha with
   | head => rfl
   | tail _ ha =>
    cases hb with
    | head => rfl
    | tail _ hb =>
     have := h5 a ha
     have := h3 b hb
     omega
  subst hab
  rw [zVu h4 h6 fun x => ?_]
  have hx := h x
  constructor
  ·intro hm
   have := h3 x hm
   cases hx.1 (.tail _ hm) with
   | head => omega
   | tail _ h => exact h
  ·intro hm
   have := h5 x hm
   cases hx.2 (.tail _ hm) with
   | head => omega
   | tail _ h => exact h
theorem zfh {α : Type} {l : List α} {i : Nat} (h : i < l.length) : ∃ a, l[i]? = some a ∧ a ∈ l := ⟨l[i], List.getElem?_eq_getElem h, List.getElem_mem h⟩
end
end Go.AM
set_option linter.unusedVariables false
namespace Go.AM
open Go
theorem znA (k : Nat) (p : SL Int) (n : Int) (h : p.1.length ≤ 1000) : zLe k p n = some (p.1 ++ [n], .ro) := by
 have h1 : decide (p.1.length ≤ LIM) = true := decide_eq_true (by show _ ≤ 1073741824; omega)
 have h2 : decide (p.1.length + 1 ≤ LIM) = true := decide_eq_true (by show _ ≤ 1073741824; omega)
 simp [zLe, h1, h2, rcap]
def ext (v : SL Int) (lo : Int) (n : Nat) : List (SL Int) := (List.range n).map fun i : Nat => (v.1 ++ [lo + (i : Int)], Cap.ro)
theorem zqz {k : Nat} (hk : 5000 < k) {b : za} {p1 : Int} {out : SL (SL Int)} {a : Int} {d : zt} {last : Int × Bool} (hlo : 0 ≤ d.Days.Low) (hhi : last.1 ≤ 11) {i : Nat} (hi : i < out.1.length) (hw : out.1[i].1.length ≤ 3) (f : List (SL Int)) (hf : f.length ≤ 2000) :
  Ok (iter (fun s => zhc k b p1 out a d last (i : Int) s.1 s.2) k (d.Days.Low, f)) (fun r => r.2 = f ++ ext out.1[i] d.Days.Low (last.1 + 1 - d.Days.Low).toNat) := by
 refine Ok.count (last.1 + 1 - d.Days.Low).toNat (fun j z => z.1 = d.Days.Low + j ∧ z.2 = f ++ ext out.1[i] d.Days.Low j) ?_ ?_ ⟨by simp, by simp [ext]⟩ (by omega)
 ·rintro j ⟨c, g⟩ hj ⟨hc, hg⟩
  obtain rfl : c = d.Days.Low + j := hc
  obtain rfl : g = f ++ ext out.1[i] d.Days.Low j := hg
  have c1 : decide (d.Days.Low + (j : Int) ≤ last.1) = true := by simp; omega
  have c2 : w64 (d.Days.Low + (j : Int) + 1) = d.Days.Low + ((j + 1 : Nat) : Int) := by rw [zkb (by omega) (by omega)]; push_cast; omega
  have hl : (f ++ ext out.1[i] d.Days.Low j).length ≤ 2020 := by simp [ext]; omega
  have c4 : decide ((f ++ ext out.1[i] d.Days.Low j).length + 1 ≤ LIM) = true := decide_eq_true (by show _ ≤ 1073741824; omega)
  simp only [zhc, c1, cond_true, zbb hi, Option.bind_some, znA k out.1[i] _ (by omega), c4, c2]
  refine Ok.pure ⟨rfl, ?_⟩
  simp [ext, List.range_succ]
 ·rintro ⟨c, g⟩ ⟨hc, hg⟩
  obtain rfl : c = d.Days.Low + ((last.1 + 1 - d.Days.Low).toNat : Int) := hc
  have c1 : decide (d.Days.Low + ((last.1 + 1 - d.Days.Low).toNat : Int) ≤ last.1) = false := by simp only [decide_eq_false_iff_not]; omega
  simp only [zhc, c1, cond_false]
  exact Ok.pure hg
theorem zPz {k : Nat} (hk : 5000 < k) {b : za} {p1 : Int} {out : SL (SL Int)} {a : Int} {d : zt} {last : Int × Bool} (hlo : 0 ≤ d.Days.Low) (hhi : last.1 ≤ 11) (hw : ∀ v ∈ out.1, v.1.length ≤ 3) (hl : out.1.length ≤ 144) :
  Ok (iter (fun s => zuc k b p1 out a d last s.1 s.2) k (0, [])) (fun r => r.2 = (out.1.flatMap fun v => ext v d.Days.Low (last.1 + 1 - d.Days.Low).toNat) ∧ r.2.length ≤ 12 * out.1.length) := by
 have hle : ∀ l : List (SL Int), (l.flatMap fun v => ext v d.Days.Low (last.1 + 1 - d.Days.Low).toNat).length ≤ 12 * l.length := by
  intro l
  induction l with
  | nil => simp
  | cons v t ih =>
   rw [List.flatMap_cons, List.length_append, List.length_cons]
   have : (ext v d.Days.Low (last.1 + 1 - d.Days.Low).toNat).length ≤ 12 := by simp [ext]; omega
   omega
 refine Ok.count out.1.length (fun j z => z.1 = (j : Int) ∧ z.2 = (out.1.take j).flatMap fun v => ext v d.Days.Low (last.1 + 1 - d.Days.Low).toNat) ?_ ?_ ⟨rfl, by simp⟩ (by omega)
 ·rintro j ⟨c, g⟩ hj ⟨hc, hg⟩
  obtain rfl : c = (j : Int) := hc
  have hg' : g = (out.1.take j).flatMap fun v => ext v d.Days.Low (last.1 + 1 - d.Days.Low).toNat := hg
  have hgl : g.length ≤ 2000 := by
   rw [hg']
   refine Nat.le_trans (hle _) ?_
   rw [List.length_take]; omega
  simp only [zuc, zmb hj, cond_true]
  refine Ok.bind (zqz hk hlo hhi hj (hw _ (List.getElem_mem hj)) g hgl) fun r hr => ?_
  rw [z6 hj (by omega)]
  refine Ok.pure ⟨rfl, ?_⟩
  show r.2 = _
  rw [hr, hg', List.take_succ_eq_append_getElem hj, List.flatMap_append]
  simp
 ·rintro ⟨c, g⟩ ⟨hc, hg⟩
  obtain rfl : c = (out.1.length : Int) := hc
  have c1 : decide ((out.1.length : Int) < (out.1.length : Int)) = false := by simp
  simp only [zuc, c1, cond_false]
  rw [List.take_length] at hg
  refine Ok.pure ⟨hg, ?_⟩
  show g.length ≤ _
  have hg' : g = _ := hg
  rw [hg']
  exact hle _
def z7q (b : za) (s : Int) (j : Nat) (w : List Int) : Prop := w.length = j ∧ ∀ i d, i < j → b.Deliveries.1[i]? = some d → ∃ c, w[i]? = some c ∧ d.Days.Low ≤ c ∧ c ≤ (if d.Shelf = s then d.Days.High else d.Days.Low)
theorem zdx {b : za} {s : Int} {j : Nat} (hj : j < b.Deliveries.1.length) (w : List Int) : z7q b s (j + 1) w ↔ ∃ v c, w = v ++ [c] ∧ z7q b s j v ∧ b.Deliveries.1[j].Days.Low ≤ c ∧ c ≤ (if b.Deliveries.1[j].Shelf = s then b.Deliveries.1[j].Days.High else b.Deliveries.1[j].Days.Low) := by
 constructor
 ·rintro ⟨h1, h2⟩
  obtain ⟨c, h3, h4⟩ := h2 j _ (by omega) (List.getElem?_eq_getElem hj)
  have h5 : w = w.take j ++ [c] := by
   have hl : j < w.length := by omega
   rw [List.getElem?_eq_getElem hl] at h3
   cases h3
   rw [← List.take_succ_eq_append_getElem hl, ← h1, List.take_length]
  refine ⟨w.take j, c, h5, ⟨by rw [List.length_take]; omega, fun i d hi hd => ?_⟩, h4⟩
  obtain ⟨c', h6, h7⟩ := h2 i d (by omega) hd
  exact ⟨c', by rw [List.getElem?_take_of_lt hi]; exact h6, h7⟩
 ·rintro ⟨v, c, rfl, ⟨h1, h2⟩, h3⟩
  refine ⟨by simp [h1], fun i d hi hd => ?_⟩
  by_cases e : i = j
  ·subst e
   rw [List.getElem?_eq_getElem hj] at hd
   cases hd
   exact ⟨c, by rw [← h1]; simp, h3⟩
  ·obtain ⟨c', h6, h7⟩ := h2 i d (by omega) hd
   exact ⟨c', by rw [List.getElem?_append_left (by omega)]; exact h6, h7⟩
theorem zow {v : SL Int} {lo : Int} {n : Nat} {u : SL Int} : u ∈ ext v lo n ↔ ∃ i : Nat, i < n ∧ u = (v.1 ++ [lo + (i : Int)], Cap.ro) := by
 unfold ext
 rw [List.mem_map]
 constructor
 ·rintro ⟨i, hi, rfl⟩; exact ⟨i, List.mem_range.1 hi, rfl⟩
 ·rintro ⟨i, hi, rfl⟩; exact ⟨i, List.mem_range.2 hi, rfl⟩
theorem zbw {b : za} (hb : zCi 40 b) {k : Nat} (hk : 5000 < k) (s : Int) : Ok (zEd k b s) (fun r => r.1.length ≤ 1728 ∧ ∀ w, (∃ v ∈ r.1, v.1 = w) ↔ z7q b s b.Deliveries.1.length w) := by
 have hn := hb.ndeliveries
 have hdays := hb.days
 unfold zEd
 refine Ok.bind (Ok.count b.Deliveries.1.length (fun j z => z.2 = (j : Int) ∧ z.1.1.length ≤ 12 ^ j ∧ ∀ w, (∃ v ∈ z.1.1, v.1 = w) ↔ z7q b s j w) (Q := fun z : (SL (SL Int)) × Int => z.1.1.length ≤ 1728 ∧ ∀ w, (∃ v ∈ z.1.1, v.1 = w) ↔ z7q b s b.Deliveries.1.length w) ?_ ?_ ⟨rfl, by simp, fun w => ?_⟩ (by omega)) fun r hr => Ok.pure hr
 ·rintro j ⟨out, i⟩ hj ⟨hi, hl, hw⟩
  obtain rfl : i = (j : Int) := hi
  have hd := hb.deliveries _ (List.getElem_mem hj)
  have hws := zdx (s := s) hj
  simp only [zJd, zmb hj, cond_true, zbb hj, Option.bind_some, z6 hj (by omega : b.Deliveries.1.length < 9223372036854775808)]
  generalize b.Deliveries.1[j] = d at *
  obtain ⟨_, ⟨hd1, hd2, hd3⟩, _⟩ := hd
  obtain ⟨last, hlast, hl1⟩ : ∃ last : Int × Bool, zUe k b s out (j : Int) d (d.Shelf != s) = some last ∧ last.1 = if d.Shelf = s then d.Days.High else d.Days.Low := by
   by_cases e : d.Shelf = s
   ·refine ⟨(d.Days.High, false), ?_, ?_⟩
    ·have : (d.Shelf != s) = false := by simp [e]
     rw [this]; rfl
    ·rw [if_pos e]
   ·refine ⟨(d.Days.Low, true), ?_, ?_⟩
    ·have : (d.Shelf != s) = true := by simp [e]
     rw [this]; rfl
    ·rw [if_neg e]
  rw [hlast, Option.bind_some]
  have hlen : ∀ v ∈ out.1, v.1.length ≤ 3 := by
   intro v hv
   have := ((hw v.1).1 ⟨v, hv, rfl⟩).1
   omega
  have hlb : last.1 ≤ 11 := by rw [hl1]; split <;> omega
  have h12 : (12 : Nat) ^ j ≤ 12 ^ 2 := Nat.pow_le_pow_right (by omega) (by omega)
  refine Ok.bind (zPz hk hd1 hlb hlen (by show out.1.length ≤ 144; exact Nat.le_trans hl h12)) fun r hr => Ok.pure ⟨rfl, ?_, fun w => ?_⟩
  ·show r.2.length ≤ _
   rw [Nat.pow_succ]
   have h1 := hr.2
   have h2 : out.1.length ≤ 12 ^ j := hl
   omega
  ·show (∃ v ∈ r.2, v.1 = w) ↔ _
   rw [hr.1, hws w, ← hl1]
   constructor
   ·rintro ⟨v, hv, rfl⟩
    obtain ⟨u, hu, hv⟩ := List.mem_flatMap.1 hv
    obtain ⟨i, hi, rfl⟩ := zow.1 hv
    exact ⟨u.1, _, rfl, (hw _).1 ⟨u, hu, rfl⟩, by omega, by omega⟩
   ·rintro ⟨v, c, rfl, h1, h2, h3⟩
    obtain ⟨u, hu, rfl⟩ := (hw v).2 h1
    refine ⟨(u.1 ++ [c], Cap.ro), List.mem_flatMap.2 ⟨u, hu, zow.2 ⟨(c - d.Days.Low).toNat, by omega, ?_⟩⟩, rfl⟩
    have : d.Days.Low + ((c - d.Days.Low).toNat : Int) = c := by omega
    rw [this]
 ·rintro ⟨out, i⟩ ⟨hi, hl, hw⟩
  obtain rfl : i = (b.Deliveries.1.length : Int) := hi
  have c1 : decide ((b.Deliveries.1.length : Int) < (b.Deliveries.1.length : Int)) = false := by simp
  simp only [zJd, c1, cond_false]
  have h12 : (12 : Nat) ^ b.Deliveries.1.length ≤ 12 ^ 3 := Nat.pow_le_pow_right (by omega) (by omega)
  exact Ok.pure ⟨Nat.le_trans hl h12, hw⟩
 ·constructor
  ·rintro ⟨v, hv, rfl⟩
   obtain rfl := List.mem_singleton.1 hv
   exact ⟨rfl, fun i d h => absurd h (by omega)⟩
  ·rintro ⟨h, _⟩
   exact ⟨([], .nil), by simp, (List.length_eq_zero_iff.1 h).symm⟩
end Go.AM
set_option linter.unusedVariables false
namespace Go.AM
open Go
def comm (s t : zi) : zi := ⟨if t.Low > s.Low then t.Low else s.Low, if t.High < s.High then t.High else s.High⟩
theorem zGm (k : Nat) (a b : Int) : zV k a b = some ⟨a, b⟩ := rfl
theorem zeo (k : Nat) (s t : zi) : z8b k s t = some (comm s t) := rfl
theorem zOA (k : Nat) (s : zi) (n : Int) : zdf k s n = some (decide (s.Low ≤ n) && decide (n ≤ s.High)) := by
 simp only [zdf, zpi, Option.bind_some]
theorem z1B (k : Nat) {x i : Nat} (hi : i < 64) (hx : x < 2 ^ 63) : zYf k (x : Int) (i : Int) = some (x.testBit i) := by
 have c : decide ((i : Int) < 0) = false := by simp
 simp only [zYf, c, cond_false, zan hi hx]
def InS (s : zi) (n : Int) : Prop := s.Low ≤ n ∧ n ≤ s.High
theorem zCj (s t : zi) (n : Int) : InS (comm s t) n ↔ InS s n ∧ InS t n := by
 unfold InS comm
 simp only
 split <;> split <;> omega
def z2e (x : zd) (d : Int) (s : zi) (p : zq × Nat) : zi :=
 if p.1.Shelf = x.shelf ∧ p.1.Day = d ∧ x.left.toNat.testBit p.2 = false then comm s ⟨p.1.Read - p.1.Err, p.1.Read + p.1.Err⟩ else s
def cntS (x : zd) (d : Int) : zi := x.ShelfBook.Counts.1.zipIdx.foldl (z2e x d) ⟨0, (zK x).Room⟩
theorem zdz {α : Type} {l : List α} {j : Nat} (h : j < l.length) : (l.take (j + 1)).zipIdx = (l.take j).zipIdx ++ [(l[j], j)] := by
 rw [List.take_succ_eq_append_getElem h, List.zipIdx_append]
 have hl : (l.take j).length = j := by rw [List.length_take]; omega
 simp [hl, Nat.min_eq_left (Nat.le_of_lt h)]
theorem zKv {x : zd} (hx : On x) {k : Nat} (hk : 5000 < k) (d : Int) : zvc k x.ShelfBook x.shelf d x.left = some (cntS x d) := by
 apply Ok.eq
 have hc := hx.fine.ncounts
 have hleft : x.left = (x.left.toNat : Int) := (Int.toNat_of_nonneg hx.left0).symm
 have hl2 : x.left.toNat < 2 ^ 63 := by have := hx.left1; omega
 unfold zvc
 rw [hx.idx, Option.bind_some, zGm, Option.bind_some]
 refine Ok.bind (Ok.count x.ShelfBook.Counts.1.length (fun j z => z.1 = (j : Int) ∧ (⟨z.2.1, z.2.2⟩ : zi) = (x.ShelfBook.Counts.1.take j).zipIdx.foldl (z2e x d) ⟨0, (zK x).Room⟩) (Q := fun r : Int × Int × Int => (⟨r.2.1, r.2.2⟩ : zi) = cntS x d) ?_ ?_ ⟨rfl, rfl⟩ (by omega)) fun r hr => Ok.pure hr
 ·rintro j ⟨i, lo, hi⟩ hj ⟨h1, h2⟩
  obtain rfl : i = (j : Int) := h1
  have h2' : (⟨lo, hi⟩ : zi) = (x.ShelfBook.Counts.1.take j).zipIdx.foldl (z2e x d) ⟨0, (zK x).Room⟩ := h2
  have hf := hx.fine.counts _ (List.getElem_mem hj)
  have hz := zdz hj
  simp only [zHc, zmb hj, cond_true, zbb hj, Option.bind_some, z6 hj (by omega : x.ShelfBook.Counts.1.length < 9223372036854775808)]
  rw [hz, List.foldl_append, ← h2']
  generalize x.ShelfBook.Counts.1[j] = c at *
  obtain ⟨_, _, h3, h4⟩ := hf
  have w1 : w64 (c.Read - c.Err) = c.Read - c.Err := zkb (by omega) (by omega)
  have w2 : w64 (c.Read + c.Err) = c.Read + c.Err := zkb (by omega) (by omega)
  rw [hleft]
  simp only [zWd, z1B k (show j < 64 by omega) hl2, Option.bind_some]
  rw [← hleft]
  simp only [List.foldl_cons, List.foldl_nil, z2e]
  by_cases e1 : c.Shelf = x.shelf
  ·have b1 : (c.Shelf == x.shelf) = true := by simp [e1]
   rw [b1, cond_true]
   by_cases e2 : c.Day = d
   ·have b2 : (c.Day == d) = true := by simp [e2]
    rw [b2, cond_true]
    cases hb : x.left.toNat.testBit j with
    | true =>
     simp only [Bool.not_true, Option.bind_some, zGb, cond_false]
     exact Ok.pure ⟨rfl, by simp⟩
    | false =>
     simp only [Bool.not_false, Option.bind_some, zGb, cond_true, zGm, zeo, w1, w2]
     exact Ok.pure ⟨rfl, by simp [e1, e2]⟩
   ·have b2 : (c.Day == d) = false := by simp [e2]
    simp only [b2, cond_false, Option.bind_some, zGb]
    exact Ok.pure ⟨rfl, by simp [e2]⟩
  ·have b1 : (c.Shelf == x.shelf) = false := by simp [e1]
   simp only [b1, cond_false, Option.bind_some, zGb]
   exact Ok.pure ⟨rfl, by simp [e1]⟩
 ·rintro ⟨i, lo, hi⟩ ⟨h1, h2⟩
  obtain rfl : i = (x.ShelfBook.Counts.1.length : Int) := h1
  have c1 : decide ((x.ShelfBook.Counts.1.length : Int) < (x.ShelfBook.Counts.1.length : Int)) = false := by simp
  simp only [zHc, c1, cond_false]
  rw [List.take_length] at h2
  exact Ok.pure h2
theorem zss (x : zd) (d n : Int) : ∀ (l : List (zq × Nat)) (s : zi), InS (l.foldl (z2e x d) s) n ↔ InS s n ∧ ∀ p ∈ l, p.1.Shelf = x.shelf → p.1.Day = d → x.left.toNat.testBit p.2 = false → p.1.Read - p.1.Err ≤ n ∧ n ≤ p.1.Read + p.1.Err
 | [], s => by simp
 | p :: t, s => by
  rw [List.foldl_cons, zss x d n t]
  have : InS (z2e x d s p) n ↔ InS s n ∧ (p.1.Shelf = x.shelf → p.1.Day = d → x.left.toNat.testBit p.2 = false → p.1.Read - p.1.Err ≤ n ∧ n ≤ p.1.Read + p.1.Err) := by
   unfold z2e
   by_cases h : p.1.Shelf = x.shelf ∧ p.1.Day = d ∧ x.left.toNat.testBit p.2 = false
   ·rw [if_pos h, zCj]
    obtain ⟨h1, h2, h3⟩ := h
    simp [h1, h2, h3, InS]
   ·rw [if_neg h]
    constructor
    ·intro h1; exact ⟨h1, fun h2 h3 h4 => absurd ⟨h2, h3, h4⟩ h⟩
    ·exact fun h1 => h1.1
  rw [this]
  constructor
  ·rintro ⟨⟨h1, h2⟩, h3⟩
   refine ⟨h1, fun q hq => ?_⟩
   cases hq with
   | head => exact h2
   | tail _ h => exact h3 q h
  ·rintro ⟨h1, h2⟩
   exact ⟨⟨h1, h2 p (.head _)⟩, fun q hq => h2 q (.tail _ hq)⟩
theorem z8v {x : zd} (d : Int) (n : Nat) : InS (cntS x d) n ↔ (n : Int) ≤ (zK x).Room ∧ zNb x d n := by
 unfold cntS
 rw [zss]
 unfold zNb znh InS
 simp only
 constructor
 ·rintro ⟨⟨_, h1⟩, h2⟩
  exact ⟨h1, fun i c hc h3 h4 h5 => h2 (c, i) (zew hc) h4 h3 h5⟩
 ·rintro ⟨h1, h2⟩
  exact ⟨⟨by omega, h1⟩, fun p hp h3 h4 h5 => h2 p.2 p.1 (zmp hp) h4 h3 h5⟩
def zRb (s : zi) : Prop := -100 ≤ s.Low ∧ s.Low ≤ 100 ∧ -100 ≤ s.High ∧ s.High ≤ 100
theorem zFu (x : zd) (d : Int) : ∀ (l : List (zq × Nat)) (s : zi), zRb s → (∀ p ∈ l, (0 ≤ p.1.Read ∧ p.1.Read ≤ 60) ∧ (0 ≤ p.1.Err ∧ p.1.Err ≤ 20)) → zRb (l.foldl (z2e x d) s) ∧ s.Low ≤ (l.foldl (z2e x d) s).Low
 | [], s, hs, _ => ⟨hs, Int.le_refl _⟩
 | p :: t, s, hs, hl => by
  have h1 := hl p (.head _)
  have h2 : zRb (z2e x d s p) ∧ s.Low ≤ (z2e x d s p).Low := by
   unfold z2e zRb at *
   split
   ·unfold comm; simp only; split <;> split <;> omega
   ·exact ⟨hs, Int.le_refl _⟩
  have h3 := zFu x d t _ h2.1 fun q hq => hl q (.tail _ hq)
  exact ⟨h3.1, Int.le_trans h2.2 h3.2⟩
theorem zWv {x : zd} (hx : On x) (d : Int) : zRb (cntS x d) ∧ 0 ≤ (cntS x d).Low := by
 refine zFu x d _ _ ?_ fun p hp => ?_
 ·have := hx.shelf.1; unfold zRb; simp only; omega
 ·have := zmp hp
  have := hx.fine.counts _ (List.mem_of_getElem? this)
  exact this.2.2
abbrev Ev := zl
def evDg (x : zd) (w : List Int) (d : Int) (D : zt) (i : Nat) : List Ev := if D.Shelf = x.shelf ∧ w[i]? = some d then [⟨D.By, ⟨0, (zK x).Room⟩, -1, -1⟩] else []
def evMg (x : zd) (d : Int) (m : zE) (i : Nat) : List Ev := if m.Shelf = x.shelf ∧ m.Day = d then [⟨if m.Back = true then m.By else ⟨-m.By.High, -m.By.Low⟩, ⟨0, (zK x).Room⟩, i, -1⟩] else []
def evC (x : zd) (d : Int) : Ev := ⟨⟨0, 0⟩, cntS x d, -1, d⟩
def zQd (x : zd) (w : List Int) (d : Int) : List Ev := cat (evDg x w d) x.ShelfBook.Deliveries.1 ++ cat (evMg x d) x.ShelfBook.Moves.1 ++ [evC x d]
def evsL (x : zd) (w : List Int) (N : Nat) : List Ev := (List.range N).flatMap fun d : Nat => zQd x w d
theorem zIe (x : zd) (w : List Int) (N : Nat) : evsL x w (N + 1) = evsL x w N ++ zQd x w N := by
 unfold evsL
 rw [List.range_succ, List.flatMap_append]
 simp
theorem zds (x : zd) (w : List Int) (d : Int) (D : zt) (i : Nat) : (evDg x w d D i).length ≤ 1 := by
 unfold evDg; split <;> simp
theorem zNr (x : zd) (d : Int) (m : zE) (i : Nat) : (evMg x d m i).length ≤ 1 := by
 unfold evMg; split <;> simp
theorem zXx {x : zd} (hx : On x) (w : List Int) (d : Int) : (zQd x w d).length ≤ 14 := by
 unfold zQd
 have h1 := zKj 1 (zds x w d) x.ShelfBook.Deliveries.1
 have h2 := zKj 1 (zNr x d) x.ShelfBook.Moves.1
 have h3 := hx.fine.ndeliveries
 have h4 := hx.fine.nmoves
 simp only [List.length_append, List.length_singleton]
 omega
theorem zon {x : zd} (hx : On x) (w : List Int) : ∀ N, (evsL x w N).length ≤ 14 * N
 | 0 => by simp [evsL]
 | N + 1 => by
  rw [zIe, List.length_append]
  have := zon hx w N
  have := zXx hx w N
  omega
theorem zrw {x : zd} (hx : On x) {k : Nat} (hk : 5000 < k) {w : SL Int} (hw : w.1.length = x.ShelfBook.Deliveries.1.length) {d : Int} {acc : List Ev} (ha : acc.length ≤ 1000) :
  Ok (iter (fun s => zVb k x.ShelfBook x.shelf w x.left ⟨0, (zK x).Room⟩ d s.1 s.2) k (0, acc)) (fun r => r.2 = acc ++ cat (evDg x w.1 d) x.ShelfBook.Deliveries.1) := by
 have hn := hx.fine.ndeliveries
 refine Ok.collect x.ShelfBook.Deliveries.1 (evDg x w.1 d) (fun j hj => ?_) (fun a => by simp [zVb]) (by omega)
 have hlen : (acc ++ cat (evDg x w.1 d) (x.ShelfBook.Deliveries.1.take j)).length + 1 ≤ 1000000 := by
  have := zKj 1 (zds x w.1 d) (x.ShelfBook.Deliveries.1.take j)
  rw [List.length_take] at this
  rw [List.length_append]
  omega
 have hwj : j < w.1.length := by omega
 simp only [zVb, zmb hj, cond_true, zbb hj, Option.bind_some, z6 hj (by omega : x.ShelfBook.Deliveries.1.length < 9223372036854775808), zPd, zbb hwj]
 generalize x.ShelfBook.Deliveries.1[j] = D at *
 unfold evDg
 rw [List.getElem?_eq_getElem hwj]
 by_cases e1 : D.Shelf = x.shelf
 ·have b1 : (D.Shelf == x.shelf) = true := by simp [e1]
  rw [b1, cond_true, Option.bind_some]
  by_cases e2 : w.1[j] = d
  ·have b2 : (w.1[j] == d) = true := by simp [e2]
   simp only [b2, zUb, cond_true]
   rw [show cat (fun D i => if D.Shelf = x.shelf ∧ w.1[i]? = some d then [⟨D.By, ⟨0, (zK x).Room⟩, -1, -1⟩] else []) (x.ShelfBook.Deliveries.1.take j) = cat (evDg x w.1 d) (x.ShelfBook.Deliveries.1.take j) from rfl, zKh hlen, cond_true, Option.bind_some]
   exact Ok.pure (by rw [if_pos ⟨e1, by rw [e2]⟩])
  ·have b2 : (w.1[j] == d) = false := by simp [e2]
   simp only [b2, zUb, cond_false, Option.bind_some]
   exact Ok.pure (by rw [if_neg (by simp [e2]), List.append_nil])
 ·have b1 : (D.Shelf == x.shelf) = false := by simp [e1]
  simp only [b1, cond_false, Option.bind_some, zUb]
  exact Ok.pure (by rw [if_neg (by simp [e1]), List.append_nil])
theorem zqw {x : zd} (hx : On x) {k : Nat} (hk : 5000 < k) {w : SL Int} {d : Int} {v : Int × List Ev} {acc : List Ev} (ha : acc.length ≤ 1000) :
  Ok (iter (fun s => z0b k x.ShelfBook x.shelf w x.left ⟨0, (zK x).Room⟩ d v s.1 s.2) k (0, acc)) (fun r => r.2 = acc ++ cat (evMg x d) x.ShelfBook.Moves.1) := by
 have hn := hx.fine.nmoves
 refine Ok.collect x.ShelfBook.Moves.1 (evMg x d) (fun j hj => ?_) (fun a => by simp [z0b]) (by omega)
 have hlen : (acc ++ cat (evMg x d) (x.ShelfBook.Moves.1.take j)).length + 1 ≤ 1000000 := by
  have := zKj 1 (zNr x d) (x.ShelfBook.Moves.1.take j)
  rw [List.length_take] at this
  rw [List.length_append]
  omega
 have hf := hx.fine.moves _ (List.getElem_mem hj)
 simp only [z0b, zmb hj, cond_true, zbb hj, Option.bind_some, z6 hj (by omega : x.ShelfBook.Moves.1.length < 9223372036854775808), zZd]
 rw [show evMg x d x.ShelfBook.Moves.1[j] j = if x.ShelfBook.Moves.1[j].Shelf = x.shelf ∧ x.ShelfBook.Moves.1[j].Day = d then [⟨if x.ShelfBook.Moves.1[j].Back = true then x.ShelfBook.Moves.1[j].By else ⟨-x.ShelfBook.Moves.1[j].By.High, -x.ShelfBook.Moves.1[j].By.Low⟩, ⟨0, (zK x).Room⟩, (j : Int), -1⟩] else [] from rfl]
 generalize x.ShelfBook.Moves.1[j] = m at *
 obtain ⟨_, _, h1, h2, h3⟩ := hf
 have w1 : w64 (0 - m.By.High) = -m.By.High := by rw [zkb (by omega) (by omega)]; omega
 have w2 : w64 (0 - m.By.Low) = -m.By.Low := by rw [zkb (by omega) (by omega)]; omega
 by_cases e1 : m.Shelf = x.shelf
 ·have b1 : (m.Shelf != x.shelf) = false := by simp [e1]
  rw [b1, cond_false, Option.bind_some]
  by_cases e2 : m.Day = d
  ·have b2 : (m.Day != d) = false := by simp [e2]
   rw [b2, cond_false, if_pos ⟨e1, e2⟩]
   cases hb : m.Back with
   | true =>
    simp only [zFc, Bool.not_true, cond_false, Option.bind_some, zKh hlen, cond_true, if_true]
    exact Ok.pure rfl
   | false =>
    simp only [zFc, Bool.not_false, cond_true, Option.bind_some, zKh hlen, zGm, w1, w2]
    exact Ok.pure rfl
  ·have b2 : (m.Day != d) = true := by simp [e2]
   rw [b2, cond_true, if_neg (by simp [e2])]
   exact Ok.pure (by rw [List.append_nil])
 ·have b1 : (m.Shelf != x.shelf) = true := by simp [e1]
  rw [b1, cond_true, Option.bind_some, cond_true, if_neg (by simp [e1])]
  exact Ok.pure (by rw [List.append_nil])
theorem zGr {x : zd} (hx : On x) {k : Nat} (hk : 5000 < k) {w : SL Int} (hw : w.1.length = x.ShelfBook.Deliveries.1.length) :
  Ok (iter (fun s => zLb k x.ShelfBook x.shelf w x.left ⟨0, (zK x).Room⟩ s.1 s.2) k (0, [])) (fun r => r.2 = evsL x w.1 x.ShelfBook.Days.toNat) := by
 have hd := hx.fine.days
 refine (Ok.count x.ShelfBook.Days.toNat (fun j z => z = ((j : Int), evsL x w.1 j)) (Q := fun r : Int × List Ev => r.2 = evsL x w.1 x.ShelfBook.Days.toNat) ?_ ?_ rfl (by omega))
 ·rintro j z hj rfl
  have c1 : decide ((j : Int) < x.ShelfBook.Days) = true := by simp; omega
  have c2 : w64 ((j : Int) + 1) = ((j + 1 : Nat) : Int) := z6 (n := 12) (by omega) (by omega)
  have hl := zon hx w.1 j
  have h1 := zKj 1 (zds x w.1 j) x.ShelfBook.Deliveries.1
  have h2 := zKj 1 (zNr x j) x.ShelfBook.Moves.1
  have h3 := hx.fine.ndeliveries
  have h4 := hx.fine.nmoves
  simp only [zLb, c1, cond_true, zGm, Option.bind_some, zKv hx hk, c2]
  refine Ok.bind (zrw hx hk hw (by omega)) fun v1 hv1 => ?_
  have hv1l : v1.2.length ≤ 1000 := by rw [hv1, List.length_append]; omega
  refine Ok.bind (zqw hx hk hv1l) fun v2 hv2 => ?_
  have hv2l : v2.2.length + 1 ≤ 1000000 := by rw [hv2, List.length_append]; omega
  rw [zKh hv2l, cond_true]
  refine Ok.pure ?_
  show (_ : Int × List Ev) = _
  rw [hv2, hv1, zIe]
  simp [zQd, evC]
 ·rintro z rfl
  have c1 : decide (((x.ShelfBook.Days.toNat : Nat) : Int) < x.ShelfBook.Days) = false := by simp; omega
  simp only [zLb, c1, cond_false]
  exact Ok.pure rfl
theorem zIx {x : zd} (hx : On x) {k : Nat} (hk : 5000 < k) {w : SL Int} (hw : w.1.length = x.ShelfBook.Deliveries.1.length) :
  Ok (zYd k x.ShelfBook x.shelf w x.left) (fun r => r.1 = evsL x w.1 x.ShelfBook.Days.toNat) := by
 unfold zYd
 rw [hx.idx, Option.bind_some, zGm, Option.bind_some]
 exact Ok.bind (zGr hx hk hw) fun r hr => Ok.pure hr
end Go.AM
set_option linter.unusedVariables false
namespace Go.AM
open Go
def addS (s t : zi) : zi := ⟨s.Low + t.Low, s.High + t.High⟩
def subS (s t : zi) : zi := ⟨s.Low - t.High, s.High - t.Low⟩
def zHe (e : Ev) : Prop := e.by_.Low ≤ e.by_.High ∧ zRb e.by_ ∧ zRb e.within
def Fw (s : zi) (l : List Ev) : Nat → zi
 | 0 => s
 | i + 1 => match l[i]? with
  | some e => comm e.within (addS (Fw s l i) e.by_)
  | none => Fw s l i
def Bw (s : zi) (l : List Ev) : Nat → zi
 | 0 => Fw s l l.length
 | t + 1 => match l[l.length - 1 - t]? with
  | some e => comm (Fw s l (l.length - 1 - t)) (subS (Bw s l t) e.by_)
  | none => s
def z8n (e : Ev) (m n : Int) : Prop := InS e.by_ (n - m) ∧ InS e.within n
def z1h (l : List Ev) (v : Nat → Int) : Prop := ∀ i e, l[i]? = some e → z8n e (v i) (v (i + 1))
def z1i (s : zi) (l : List Ev) (v : Nat → Int) : Prop := InS s (v 0) ∧ z1h l v
section
variable {s : zi} {l : List Ev}
theorem zVq {i : Nat} {e : Ev} (h : l[i]? = some e) : Fw s l (i + 1) = comm e.within (addS (Fw s l i) e.by_) := by
 rw [Fw, h]
theorem z9q {t : Nat} {e : Ev} (h : l[l.length - 1 - t]? = some e) : Bw s l (t + 1) = comm (Fw s l (l.length - 1 - t)) (subS (Bw s l t) e.by_) := by
 rw [Bw, h]
theorem zEt {v : Nat → Int} (h : z1i s l v) : ∀ i, i ≤ l.length → InS (Fw s l i) (v i)
 | 0, _ => h.1
 | i + 1, hi => by
  obtain ⟨e, he, _⟩ := zfh (show i < l.length by omega)
  have h1 := zEt h i (by omega)
  have h2 := h.2 i e he
  rw [zVq he, zCj]
  refine ⟨h2.2, ?_⟩
  have h3 := h2.1
  unfold InS addS at *
  simp only
  omega
theorem zDt {v : Nat → Int} (h : z1i s l v) : ∀ t, t ≤ l.length → InS (Bw s l t) (v (l.length - t))
 | 0, _ => zEt h _ (by omega)
 | t + 1, ht => by
  obtain ⟨e, he, _⟩ := zfh (show l.length - 1 - t < l.length by omega)
  have h1 := zDt h t (by omega)
  have h2 := h.2 _ e he
  rw [z9q he, zCj]
  have e1 : l.length - (t + 1) = l.length - 1 - t := by omega
  have e2 : l.length - 1 - t + 1 = l.length - t := by omega
  rw [e1]
  rw [e2] at h2
  refine ⟨zEt h _ (by omega), ?_⟩
  have h3 := h2.1
  unfold InS subS at *
  simp only
  omega
theorem zMw (hl : ∀ e ∈ l, zHe e) {t : Nat} (ht : t ≤ l.length) {m : Int} (h : InS (Bw s l t) m) : InS (Fw s l (l.length - t)) m := by
 cases t with
 | zero => exact h
 | succ t =>
  obtain ⟨e, he, _⟩ := zfh (show l.length - 1 - t < l.length by omega)
  rw [z9q he, zCj] at h
  have e1 : l.length - (t + 1) = l.length - 1 - t := by omega
  rw [e1]
  exact h.1
theorem zHz (hl : ∀ e ∈ l, zHe e) (hne : ∀ i, i ≤ l.length → (Fw s l i).Low ≤ (Fw s l i).High) : ∀ i, i ≤ l.length → ∀ m, InS (Fw s l i) m → ∃ v : Nat → Int, InS s (v 0) ∧ (∀ j e, j < i → l[j]? = some e → z8n e (v j) (v (j + 1))) ∧ v i = m
 | 0, _, m, h => ⟨fun _ => m, h, fun j e hj => absurd hj (by omega), rfl⟩
 | i + 1, hi, m, h => by
  obtain ⟨e, he, hm⟩ := zfh (show i < l.length by omega)
  rw [zVq he, zCj] at h
  have h1 := hne i (by omega)
  have h2 := (hl e hm).1
  obtain ⟨m', h3, h4⟩ : ∃ m', InS (Fw s l i) m' ∧ InS e.by_ (m - m') := by
   obtain ⟨_, h5⟩ := h
   unfold InS addS at *
   simp only at h5
   refine ⟨if (Fw s l i).Low ≥ m - e.by_.High then (Fw s l i).Low else m - e.by_.High, ?_, ?_⟩ <;> split <;> omega
  obtain ⟨v, h5, h6, h7⟩ := zHz hl hne i (by omega) m' h3
  refine ⟨fun j => if j ≤ i then v j else m, ?_, fun j e' hj he' => ?_, ?_⟩
  ·simpa using h5
  ·by_cases hij : j = i
   ·subst hij
    rw [he] at he'
    cases he'
    have : ¬ j + 1 ≤ j := by omega
    simp only [Nat.le_refl, if_true, this, if_false, h7]
    exact ⟨h4, h.1⟩
   ·have a1 : j ≤ i := by omega
    have a2 : j + 1 ≤ i := by omega
    simp only [a1, a2, if_true]
    exact h6 j e' (by omega) he'
  ·have : ¬ i + 1 ≤ i := by omega
   simp only [this, if_false]
theorem zFz (hl : ∀ e ∈ l, zHe e) (hne : ∀ t, t ≤ l.length → (Bw s l t).Low ≤ (Bw s l t).High) : ∀ t, t ≤ l.length → ∀ m, InS (Bw s l t) m → ∃ v : Nat → Int, v (l.length - t) = m ∧ ∀ j e, l.length - t ≤ j → l[j]? = some e → z8n e (v j) (v (j + 1))
 | 0, _, m, h => ⟨fun _ => m, rfl, fun j e hj he => by
   have := (List.getElem?_eq_some_iff.1 he).1
   omega⟩
 | t + 1, ht, m, h => by
  obtain ⟨e, he, hm⟩ := zfh (show l.length - 1 - t < l.length by omega)
  rw [z9q he, zCj] at h
  have h1 := hne t (by omega)
  have h2 := (hl e hm).1
  obtain ⟨m', h3, h4⟩ : ∃ m', InS (Bw s l t) m' ∧ InS e.by_ (m' - m) := by
   obtain ⟨_, h5⟩ := h
   unfold InS subS at *
   simp only at h5
   refine ⟨if (Bw s l t).Low ≥ m + e.by_.Low then (Bw s l t).Low else m + e.by_.Low, ?_, ?_⟩ <;> split <;> omega
  obtain ⟨v, h5, h6⟩ := zFz hl hne t (by omega) m' h3
  have e1 : l.length - (t + 1) = l.length - 1 - t := by omega
  have e2 : l.length - 1 - t + 1 = l.length - t := by omega
  have hw : InS e.within m' := by
   have h7 := zMw hl (by omega) h3
   rw [← e2, zVq he, zCj] at h7
   exact h7.1
  rw [e1]
  refine ⟨fun j => if j ≤ l.length - 1 - t then m else v j, by simp, fun j e' hj he' => ?_⟩
  by_cases hij : j = l.length - 1 - t
  ·subst hij
   rw [he] at he'
   cases he'
   have : ¬ l.length - 1 - t + 1 ≤ l.length - 1 - t := by omega
   simp only [Nat.le_refl, if_true, this, if_false]
   rw [e2, h5]
   exact ⟨h4, hw⟩
  ·have a1 : ¬ j ≤ l.length - 1 - t := by omega
   have a2 : ¬ j + 1 ≤ l.length - 1 - t := by omega
   simp only [a1, a2, if_false]
   exact h6 j e' (by omega) he'
theorem zdy (hl : ∀ e ∈ l, zHe e) (hne : ∀ t, t ≤ l.length → (Bw s l t).Low ≤ (Bw s l t).High) {i : Nat} (hi : i ≤ l.length) (m : Int) : InS (Bw s l (l.length - i)) m ↔ ∃ v, z1i s l v ∧ v i = m := by
 have e1 : l.length - (l.length - i) = i := by omega
 constructor
 ·intro h
  have hf : ∀ i, i ≤ l.length → (Fw s l i).Low ≤ (Fw s l i).High := by
   intro i hi
   have h1 := hne (l.length - i) (by omega)
   have h2 := zMw (s := s) hl (show l.length - i ≤ l.length by omega) (m := (Bw s l (l.length - i)).Low) ⟨Int.le_refl _, h1⟩
   have e2 : l.length - (l.length - i) = i := by omega
   rw [e2] at h2
   exact Int.le_trans h2.1 h2.2
  obtain ⟨u, h1, h2⟩ := zFz hl hne (l.length - i) (by omega) m h
  have h3 := zMw hl (by omega) h
  rw [e1] at h1 h2 h3
  obtain ⟨v, h4, h5, h6⟩ := zHz hl hf i hi m h3
  refine ⟨fun j => if j ≤ i then v j else u j, ⟨by simpa using h4, fun j e he => ?_⟩, by simp [h6]⟩
  by_cases hj : j < i
  ·have a1 : j ≤ i := by omega
   have a2 : j + 1 ≤ i := by omega
   simp only [a1, a2, if_true]
   exact h5 j e hj he
  ·have h7 := h2 j e (by omega) he
   by_cases hij : j = i
   ·subst hij
    have : ¬ j + 1 ≤ j := by omega
    simp only [Nat.le_refl, if_true, this, if_false]
    rw [h6, ← h1]
    exact h7
   ·have a1 : ¬ j ≤ i := by omega
    have a2 : ¬ j + 1 ≤ i := by omega
    simp only [a1, a2, if_false]
    exact h7
 ·rintro ⟨v, hv, rfl⟩
  have := zDt hv (l.length - i) (by omega)
  rwa [e1] at this
theorem zhA (h : ∃ t, t ≤ l.length ∧ (Bw s l t).High < (Bw s l t).Low) : ¬ ∃ v, z1i s l v := by
 rintro ⟨v, hv⟩
 obtain ⟨t, ht, h⟩ := h
 have := zDt hv t ht
 unfold InS at this
 omega
def zcd (s : zi) (n : Int) : Prop := -n ≤ s.Low ∧ s.Low ≤ n ∧ -n ≤ s.High ∧ s.High ≤ n
theorem zHt {s t : zi} {n : Int} (hs : zcd s n) (ht : zcd t n) : zcd (comm s t) n := by
 unfold zcd comm at *
 simp only
 by_cases h1 : t.Low > s.Low <;> by_cases h2 : t.High < s.High <;> simp only [h1, h2, if_true, if_false] <;> omega
theorem zxu (hs : zRb s) (hl : ∀ e ∈ l, zHe e) : ∀ i, zcd (Fw s l i) (100 * ((i : Int) + 1))
 | 0 => by unfold zcd zRb Fw at *; omega
 | i + 1 => by
  have h1 := zxu hs hl i
  rw [Fw]
  cases he : l[i]? with
  | none => unfold zcd at *; simp only; push_cast; omega
  | some e =>
   have h2 := hl e (List.mem_of_getElem? he)
   unfold zHe zRb at h2
   refine zHt ?_ ?_ <;> unfold zcd at * <;> (try simp only [addS]) <;> push_cast <;> omega
theorem zrz (hs : zRb s) (hl : ∀ e ∈ l, zHe e) (hlen : l.length ≤ 1000) : ∀ t, zcd (Bw s l t) (200000 + 100 * (t : Int))
 | 0 => by
  have h1 := zxu hs hl l.length
  unfold zcd Bw at *; omega
 | t + 1 => by
  have h1 := zrz hs hl hlen t
  have h3 := zxu hs hl (l.length - 1 - t)
  rw [Bw]
  cases he : l[l.length - 1 - t]? with
  | none => unfold zcd zRb at *; simp only; push_cast; omega
  | some e =>
   have h2 := hl e (List.mem_of_getElem? he)
   unfold zHe zRb at h2
   refine zHt ?_ ?_ <;> unfold zcd at * <;> (try simp only [subS]) <;> push_cast <;> omega
end
theorem zwx {k : Nat} (hk : 5000 < k) {s : zi} {l : SL Ev} (hs : zRb s) (hl : ∀ e ∈ l.1, zHe e) (hlen : l.1.length ≤ 1000) :
  Ok (iter (fun z => z6b k s l z.1 z.2) k (0, [s])) (fun r => r.2 = (List.range (l.1.length + 1)).map (Fw s l.1)) := by
 refine Ok.count l.1.length (fun j z => z = ((j : Int), (List.range (j + 1)).map (Fw s l.1))) ?_ ?_ rfl (by omega)
 ·rintro j z hj rfl
  have hg : idx ((List.range (j + 1)).map (Fw s l.1)) (j : Int) = some (Fw s l.1 j) := by
   rw [zbb (by simp)]
   simp
  have hb := zxu hs hl j
  have he := List.getElem?_eq_getElem hj
  have hf := hl _ (List.getElem_mem hj)
  have h5 : (((List.range (j + 1)).map (Fw s l.1)).length + 1) ≤ 1000000 := by simp; omega
  simp only [z6b, zmb hj, cond_true, zbb hj, Option.bind_some, hg, zGm, zeo, z6 hj (by omega : l.1.length < 9223372036854775808), zKh h5]
  have hsucc := zVq (s := s) he
  generalize l.1[j] = e at *
  unfold zHe zRb at hf
  unfold zcd at hb
  have w1 : w64 ((Fw s l.1 j).Low + e.by_.Low) = (Fw s l.1 j).Low + e.by_.Low := zkb (by omega) (by omega)
  have w2 : w64 ((Fw s l.1 j).High + e.by_.High) = (Fw s l.1 j).High + e.by_.High := zkb (by omega) (by omega)
  rw [w1, w2]
  refine Ok.pure ?_
  show (_ : Int × List zi) = _
  rw [List.range_succ (n := j + 1), List.map_append]
  simp only [List.map_cons, List.map_nil, hsucc, addS]
 ·rintro z rfl
  have c1 : decide ((l.1.length : Int) < (l.1.length : Int)) = false := by simp
  simp only [z6b, c1, cond_false]
  exact Ok.pure rfl
theorem ziy {k : Nat} (hk : 5000 < k) {s : zi} {l : SL Ev} (hs : zRb s) (hl : ∀ e ∈ l.1, zHe e) (hlen : l.1.length ≤ 1000) (v1 : Int × List zi) :
  Ok (iter (fun z => z7b k s l v1 z.1 z.2) k ((l.1.length : Int), (List.range (l.1.length + 1)).map (Fw s l.1))) (fun r => match r with
   | .inl _ => ∃ t, t ≤ l.1.length ∧ (Bw s l.1 t).High < (Bw s l.1 t).Low
   | .inr z => (∀ t, t ≤ l.1.length → (Bw s l.1 t).Low ≤ (Bw s l.1 t).High) ∧ z.2.length = l.1.length + 1 ∧ ∀ i, i ≤ l.1.length → z.2[i]? = some (Bw s l.1 (l.1.length - i))) := by
 refine Ok.count (l.1.length + 1) (fun j z => z.1 = (l.1.length : Int) - j ∧ z.2.length = l.1.length + 1 ∧ (∀ t, t < j → (Bw s l.1 t).Low ≤ (Bw s l.1 t).High) ∧ ∀ i, i ≤ l.1.length → z.2[i]? = if l.1.length - j ≤ i then some (Bw s l.1 (l.1.length - i)) else some (Fw s l.1 i)) ?_ ?_ ⟨by simp, by simp, fun t h => absurd h (by omega), fun i hi => ?_⟩ (by omega)
 ·rintro j ⟨i, out⟩ hj ⟨hi, ho, hne, hv⟩
  obtain rfl : i = (l.1.length : Int) - j := hi
  have ho' : out.length = l.1.length + 1 := ho
  have hi' : (l.1.length : Int) - (j : Int) = ((l.1.length - j : Nat) : Int) := by omega
  have c1 : decide ((l.1.length : Int) - (j : Int) ≥ 0) = true := by simp; omega
  have hget : idx out ((l.1.length : Int) - (j : Int)) = some (Bw s l.1 j) := by
   rw [hi', zbb (by omega), ← List.getElem?_eq_getElem (by omega), hv _ (by omega), if_pos (Nat.le_refl _)]
   congr 2
   omega
  simp only [z7b, c1, cond_true, hget, Option.bind_some]
  have hb := zrz hs hl hlen j
  have hw : w64 ((l.1.length : Int) - (j : Int) - 1) = (l.1.length : Int) - ((j + 1 : Nat) : Int) := by rw [zkb (by omega) (by omega)]; push_cast; omega
  cases hd : decide ((Bw s l.1 j).Low > (Bw s l.1 j).High) with
  | true =>
   rw [cond_true]
   have := of_decide_eq_true hd
   exact Ok.pure ⟨j, by omega, by omega⟩
  | false =>
   rw [cond_false]
   have hd' := of_decide_eq_false hd
   have hne' : ∀ t, t < j + 1 → (Bw s l.1 t).Low ≤ (Bw s l.1 t).High := by
    intro t ht
    by_cases e : t = j
    ·subst e; omega
    ·exact hne t (by omega)
   rw [hw]
   cases hp : decide ((l.1.length : Int) - (j : Int) > 0) with
   | true =>
    have hp' := of_decide_eq_true hp
    rw [cond_true]
    have hj1 : (l.1.length : Int) - ((j + 1 : Nat) : Int) = ((l.1.length - 1 - j : Nat) : Int) := by omega
    have hlt : l.1.length - 1 - j < l.1.length := by omega
    have hF : out[l.1.length - 1 - j]? = some (Fw s l.1 (l.1.length - 1 - j)) := by
     rw [hv _ (by omega), if_neg (by omega)]
    have hF' : idx out ((l.1.length - 1 - j : Nat) : Int) = some (Fw s l.1 (l.1.length - 1 - j)) := by
     rw [zbb (by omega), ← hF, List.getElem?_eq_getElem (by omega)]
    have he := List.getElem?_eq_getElem hlt
    have hf := hl _ (List.getElem_mem hlt)
    rw [hj1, zbb hlt, Option.bind_some]
    simp only [hF', Option.bind_some, zGm, zeo]
    have hsucc := z9q (s := s) he
    generalize l.1[l.1.length - 1 - j] = e at *
    unfold zHe zRb at hf
    unfold zcd at hb
    have w1 : w64 ((Bw s l.1 j).Low - e.by_.High) = (Bw s l.1 j).Low - e.by_.High := zkb (by omega) (by omega)
    have w2 : w64 ((Bw s l.1 j).High - e.by_.Low) = (Bw s l.1 j).High - e.by_.Low := zkb (by omega) (by omega)
    rw [w1, w2]
    refine Ok.pure ⟨by show _ = _; omega, ?_, hne', fun i hi => ?_⟩
    ·show (List.set _ _ _).length = _
     rw [List.length_set]; exact ho'
    ·show (List.set _ _ _)[i]? = _
     rw [Int.toNat_natCast, List.getElem?_set]
     by_cases h1 : l.1.length - 1 - j = i
     ·subst h1
      rw [if_pos rfl, if_pos (by omega), if_pos (by omega)]
      have e1 : l.1.length - (l.1.length - 1 - j) = j + 1 := by omega
      rw [e1, hsucc]
      rfl
     ·rw [if_neg h1, hv i hi]
      by_cases h2 : l.1.length - j ≤ i
      ·rw [if_pos h2, if_pos (by omega)]
      ·rw [if_neg h2, if_neg (by omega)]
   | false =>
    have hp' := of_decide_eq_false hp
    rw [cond_false]
    refine Ok.pure ⟨rfl, ho', hne', fun i hi => ?_⟩
    have h2 := hv i hi
    rw [if_pos (by omega)] at h2
    rw [if_pos (by omega)]
    exact h2
 ·rintro ⟨i, out⟩ ⟨hi, ho, hne, hv⟩
  obtain rfl : i = (l.1.length : Int) - ((l.1.length + 1 : Nat) : Int) := hi
  have c1 : decide ((l.1.length : Int) - ((l.1.length + 1 : Nat) : Int) ≥ 0) = false := by simp only [decide_eq_false_iff_not]; omega
  simp only [z7b, c1, cond_false]
  refine Ok.pure ⟨fun t ht => hne t (by omega), ho, fun i hi => ?_⟩
  have h2 := hv i hi
  rw [if_pos (by omega)] at h2
  exact h2
 ·have h1 : ((List.range (l.1.length + 1)).map (Fw s l.1))[i]? = some (Fw s l.1 i) := by
   rw [List.getElem?_map, List.getElem?_range (by omega)]; rfl
  show ((List.range (l.1.length + 1)).map (Fw s l.1))[i]? = _
  rw [h1]
  by_cases h2 : l.1.length - 0 ≤ i
  ·rw [if_pos h2]
   obtain rfl : i = l.1.length := by omega
   rw [Nat.sub_self]; rfl
  ·rw [if_neg h2]
theorem zxt {k : Nat} (hk : 5000 < k) {s : zi} {l : SL Ev} (hs : zRb s) (hl : ∀ e ∈ l.1, zHe e) (hlen : l.1.length ≤ 1000) :
  Ok (zOc k s l) (fun r => (r.2 = false ∧ ¬ ∃ v, z1i s l.1 v) ∨ (r.2 = true ∧ r.1.1.length = l.1.length + 1 ∧ (∃ v, z1i s l.1 v) ∧ ∀ i t, r.1.1[i]? = some t → ∀ m, InS t m ↔ ∃ v, z1i s l.1 v ∧ v i = m)) := by
 unfold zOc
 refine Ok.bind (zwx hk hs hl hlen) fun v1 hv1 => ?_
 rw [hv1]
 refine Ok.bind (ziy hk hs hl hlen v1) fun r hr => ?_
 cases r with
 | inl z => exact Ok.pure (.inl ⟨rfl, zhA hr⟩)
 | inr z =>
  obtain ⟨hne, hlz, hz⟩ := hr
  refine Ok.pure (.inr ⟨rfl, hlz, ?_, fun i t ht m => ?_⟩)
  ·have h1 := hne l.1.length (Nat.le_refl _)
   obtain ⟨v, hv, _⟩ := (zdy hl hne (Nat.zero_le _) (Bw s l.1 l.1.length).Low).1 ⟨Int.le_refl _, h1⟩
   exact ⟨v, hv⟩
  ·have hi : i ≤ l.1.length := by
    have := (List.getElem?_eq_some_iff.1 ht).1
    have h2 : z.2.length = _ := hlz
    have h3 : i < z.2.length := this
    omega
   have h4 : z.2[i]? = some t := ht
   rw [hz i hi] at h4
   cases h4
   exact zdy hl hne hi m
end Go.AM
set_option linter.unusedVariables false
namespace Go.AM
open Go
theorem zXt {x : zd} (hx : On x) (w : List Int) (N : Nat) : ∀ e ∈ evsL x w N, zHe e := by
 intro e he
 unfold evsL at he
 obtain ⟨d, _, he⟩ := List.mem_flatMap.1 he
 have hr := hx.shelf.1
 have hroom : zRb (⟨0, (zK x).Room⟩ : zi) := by unfold zRb; simp only; omega
 unfold zQd at he
 rw [List.mem_append, List.mem_append] at he
 rcases he with (he | he) | he
 ·obtain ⟨i, D, hD, he⟩ := zig.1 he
  unfold evDg at he
  split at he
  ·obtain rfl := List.mem_singleton.1 he
   obtain ⟨_, _, h1, h2, h3⟩ := hx.fine.deliveries _ (List.mem_of_getElem? hD)
   exact ⟨h2, by unfold zRb; simp only; omega, hroom⟩
  ·cases he
 ·obtain ⟨i, m, hm, he⟩ := zig.1 he
  unfold evMg at he
  split at he
  ·obtain rfl := List.mem_singleton.1 he
   obtain ⟨_, _, h1, h2, h3⟩ := hx.fine.moves _ (List.mem_of_getElem? hm)
   refine ⟨?_, ?_, hroom⟩
   ·simp only; split
    ·exact h2
    ·simp only; omega
   ·simp only; split
    ·unfold zRb; omega
    ·unfold zRb; simp only; omega
  ·cases he
 ·obtain rfl := List.mem_singleton.1 he
  exact ⟨Int.le_refl _, by unfold zRb evC; simp only; omega, (zWv hx d).1⟩
def Nd (x : zd) : Nat := x.ShelfBook.Days.toNat
def Way (x : zd) (w : List Int) : Prop := z7q x.ShelfBook x.shelf x.ShelfBook.Deliveries.1.length w
def zMm (x : zd) (w : List Int) (v : Nat → Int) : Prop := z1i (zK x).Begin (evsL x w (Nd x)) v
structure z5v (x : zd) (t : zx) : Prop where
 way : Way x t.days.1
 ev : t.events.1 = evsL x t.days.1 (Nd x)
 len : t.stocks.1.length = t.events.1.length + 1
 path : ∃ v, zMm x t.days.1 v
 mem : ∀ (i : Nat) (u : zi), t.stocks.1[i]? = some u → ∀ m, InS u m ↔ ∃ v, zMm x t.days.1 v ∧ v i = m
structure ztl (x : zd) (l : List zx) : Prop where
 all : ∀ t ∈ l, z5v x t
 has : ∀ w, Way x w → (∃ v, zMm x w v) → ∃ t ∈ l, t.days.1 = w
 len : l.length ≤ 1728
theorem z1u {x : zd} (hx : On x) : zRb (zK x).Begin := by
 obtain ⟨h1, h2, h3, h4⟩ := hx.shelf
 unfold zRb; omega
theorem z5t {x : zd} (hx : On x) {k : Nat} (hk : 5000 < k) : Ok (zQc k x.ShelfBook x.shelf x.left) (fun r => ztl x r.1) := by
 have hd := hx.fine.days
 unfold zQc
 refine Ok.bind (zbw hx.fine hk x.shelf) fun ws hws => ?_
 obtain ⟨hlen, hw⟩ := hws
 refine Ok.bind (Ok.count ws.1.length (fun j z => z.1 = (j : Int) ∧ (∀ t ∈ z.2, z5v x t) ∧ (∀ i u, i < j → ws.1[i]? = some u → (∃ v, zMm x u.1 v) → ∃ t ∈ z.2, t.days.1 = u.1) ∧ z.2.length ≤ j) (Q := fun r : Int × List zx => ztl x r.2) ?_ ?_ ⟨rfl, by simp, fun i u h => absurd h (by omega), by simp⟩ (by omega)) fun r hr => Ok.pure hr
 ·rintro j ⟨i, out⟩ hj ⟨hi, h1, h2, h3⟩
  obtain rfl : i = (j : Int) := hi
  have hge := List.getElem?_eq_getElem hj
  have hway : Way x ws.1[j].1 := (hw _).1 ⟨_, List.getElem_mem hj, rfl⟩
  simp only [zVc, zmb hj, cond_true, zbb hj, Option.bind_some, hx.idx, z6 hj (by omega : ws.1.length < 9223372036854775808)]
  generalize ws.1[j] = w at *
  refine Ok.bind (zIx hx hk hway.1) fun ev hev => ?_
  have hf : ∀ e ∈ ev.1, zHe e := by rw [hev]; exact zXt hx _ _
  have hl : ev.1.length ≤ 1000 := by
   rw [hev]
   have := zon hx w.1 x.ShelfBook.Days.toNat
   omega
  refine Ok.bind (zxt hk (z1u hx) hf hl) fun st hst => ?_
  rw [hev] at hst
  rcases hst with ⟨hb, hno⟩ | ⟨hb, hsl, hpath, hmem⟩
  ·rw [hb, cond_false]
   refine Ok.pure ⟨rfl, h1, fun i u hi hu hp => ?_, by show out.length ≤ _; have : out.length ≤ j := h3; omega⟩
   by_cases e : i = j
   ·subst e; rw [hge] at hu; cases hu; exact absurd hp hno
   ·exact h2 i u (by omega) hu hp
  ·have h3' : out.length ≤ j := h3
   rw [hb, cond_true, zKh (show out.length + 1 ≤ 1000000 by omega), cond_true]
   refine Ok.pure ⟨rfl, fun t ht => ?_, fun i u hi hu hp => ?_, ?_⟩
   ·rcases List.mem_append.1 ht with ht | ht
    ·exact h1 t ht
    ·obtain rfl := List.mem_singleton.1 ht
     exact ⟨hway, hev, by show st.1.1.length = ev.1.length + 1; rw [hev]; exact hsl, hpath, hmem⟩
   ·show ∃ t ∈ out ++ [_], _
    by_cases e : i = j
    ·subst e; rw [hge] at hu; cases hu
     exact ⟨_, List.mem_append.2 (.inr (.head _)), rfl⟩
    ·obtain ⟨t, ht, hd⟩ := h2 i u (by omega) hu hp
     exact ⟨t, List.mem_append.2 (.inl ht), hd⟩
   ·show (out ++ [_]).length ≤ _
    simp; omega
 ·rintro ⟨i, out⟩ ⟨hi, h1, h2, h3⟩
  obtain rfl : i = (ws.1.length : Int) := hi
  have c1 : decide ((ws.1.length : Int) < (ws.1.length : Int)) = false := by simp
  simp only [zVc, c1, cond_false]
  refine Ok.pure ⟨h1, fun w hway hp => ?_, ?_⟩
  ·obtain ⟨u, hu, rfl⟩ := (hw w).2 hway
   obtain ⟨i, hi⟩ := List.getElem?_of_mem hu
   exact h2 i u (List.getElem?_eq_some_iff.1 hi).1 hi hp
  ·have : out.length ≤ ws.1.length := h3
   show out.length ≤ _
   omega
def RCan (x : zd) : Prop := ∃ w v, Way x w ∧ zMm x w v
theorem ztl.ne {x : zd} {l : List zx} (h : ztl x l) : l.length = 0 ↔ ¬ RCan x := by
 constructor
 ·rintro h0 ⟨w, v, h1, h2⟩
  obtain ⟨t, ht, _⟩ := h.has w h1 ⟨v, h2⟩
  rw [List.length_eq_zero_iff.1 h0] at ht
  cases ht
 ·intro h0
  cases l with
  | nil => rfl
  | cons t l =>
   have ht := h.all t (.head _)
   obtain ⟨v, hv⟩ := ht.path
   exact absurd ⟨_, v, ht.way, hv⟩ h0
def zHj (b : za) (left : Int) : Prop := ∀ s : Nat, s < b.Shelves.1.length → RCan ⟨b, (s : Int), left⟩
theorem zYx {b : za} (hb : Fine b) {left : Int} (h0 : 0 ≤ left) (h1 : left < 9223372036854775808) {k : Nat} (hk : 5000 < k) : Ok (z8c k b left) (fun r => r = true ↔ zHj b left) := by
 have hn := hb.nshelves
 unfold z8c
 refine Ok.bind (Ok.count b.Shelves.1.length (fun j s => s = (j : Int) ∧ ∀ i : Nat, i < j → RCan ⟨b, (i : Int), left⟩) (Q := fun r : Int ⊕ Int => match r with
  | .inl _ => ¬ zHj b left
  | .inr _ => zHj b left) ?_ ?_ ⟨rfl, fun i h => absurd h (by omega)⟩ (by omega)) fun r hr => ?_
 ·rintro j s hj ⟨rfl, hg⟩
  have hx : On (⟨b, (j : Int), left⟩ : zd) := ⟨hb, by simp, by simpa using hj, h0, h1⟩
  simp only [zid, zmb hj, cond_true, z6 hj (by omega : b.Shelves.1.length < 9223372036854775808)]
  refine Ok.bind (z5t hx hk) fun t ht => ?_
  have hne := ht.ne
  cases hc : ((t.1.length : Int) == 0) with
  | true =>
   rw [cond_true]
   have : t.1.length = 0 := by have := eq_of_beq hc; omega
   exact Ok.pure fun hbt => hne.1 this (hbt j hj)
  | false =>
   rw [cond_false]
   have hcan : RCan (⟨b, (j : Int), left⟩ : zd) := by
    refine Classical.byContradiction fun h => ?_
    have := hne.2 h
    rw [this] at hc
    simp at hc
   refine Ok.pure ⟨rfl, fun i hi => ?_⟩
   by_cases e : i = j
   ·subst e; exact hcan
   ·exact hg i (by omega)
 ·rintro s ⟨rfl, hg⟩
  have c1 : decide ((b.Shelves.1.length : Int) < (b.Shelves.1.length : Int)) = false := by simp
  simp only [zid, c1, cond_false]
  exact Ok.pure fun i hi => hg i hi
 ·cases r with
  | inl r => exact Ok.pure ⟨fun h => Bool.noConfusion h, fun h => absurd h hr⟩
  | inr r => exact Ok.pure ⟨fun _ => hr, fun _ => rfl⟩
theorem zyx {k : Nat} {b : za} (hs : zxe b) (hd : b.Days ≤ 9223372036854775807) (hk : Fuel k b) (right : Bool) : Ok (zle k b right) (z0q b right (zHj b 0)) := by
 unfold zle
 refine Ok.bind (zgy hs hd hk) fun e he => ?_
 rcases he with ⟨rfl, hf⟩ | ⟨rfl, hf⟩
 ·cases right with
  | false => exact Ok.pure (.inr (.inl ⟨hf, rfl, rfl⟩))
  | true =>
   show Ok ((z8c k b 0).bind _) _
   refine Ok.bind (zYx hf (by omega) (by omega) hk.k0) fun r hr => ?_
   cases r with
   | false => exact Ok.pure (.inr (.inr (.inl ⟨hf, rfl, fun h => Bool.noConfusion (hr.2 h), rfl⟩)))
   | true => exact Ok.pure (.inr (.inr (.inr ⟨hf, rfl, hr.1 rfl, rfl⟩)))
 ·exact Ok.pure (.inl ⟨hf, rfl⟩)
end Go.AM
set_option linter.unusedVariables false
namespace Go.AM
open Go
def endG (t : zx) (day : Int) (e : Ev) (i : Nat) : List zi := if e.day = day then t.stocks.1[i + 1]?.toList else []
def ztw (l : List zx) (day : Int) : List zi := cat (fun t _ => cat (endG t day) t.events.1) l
theorem zvv (t : zx) (day : Int) (e : Ev) (i : Nat) : (endG t day e i).length ≤ 1 := by
 unfold endG
 split
 ·cases t.stocks.1[i + 1]? <;> simp
 ·simp
theorem zRz {k : Nat} (hk : 5000 < k) {l : SL zx} {day : Int} {j : Nat} (hj : j < l.1.length) (hst : l.1[j].stocks.1.length = l.1[j].events.1.length + 1) (hev : l.1[j].events.1.length ≤ 1000) {acc : List zi} (ha : acc.length ≤ 500000) :
  Ok (iter (fun s => zzc k l day (j : Int) s.1 s.2) k (0, acc)) (fun r => r.2 = acc ++ cat (endG l.1[j] day) l.1[j].events.1) := by
 refine Ok.collect l.1[j].events.1 (endG l.1[j] day) (fun i hi => ?_) (fun a => by simp [zzc, zbb hj]) (by omega)
 have hlen : (acc ++ cat (endG l.1[j] day) (l.1[j].events.1.take i)).length + 1 ≤ 1000000 := by
  have := zKj 1 (zvv l.1[j] day) (l.1[j].events.1.take i)
  rw [List.length_take] at this
  rw [List.length_append]
  omega
 have hi1 : i + 1 < l.1[j].stocks.1.length := by omega
 have hs := z6 hi (by omega : l.1[j].events.1.length < 9223372036854775808)
 simp only [zzc, zbb hj, Option.bind_some, zmb hi, cond_true, zbb hi, hs]
 rw [show endG l.1[j] day l.1[j].events.1[i] i = if l.1[j].events.1[i].day = day then l.1[j].stocks.1[i + 1]?.toList else [] from rfl, List.getElem?_eq_getElem hi1]
 by_cases e : l.1[j].events.1[i].day = day
 ·have b : (l.1[j].events.1[i].day == day) = true := by simp [e]
  rw [b, if_pos e]
  simp only [zyd, cond_true, zbb hj, Option.bind_some, hs, zbb hi1, zKh hlen]
  exact Ok.pure rfl
 ·have b : (l.1[j].events.1[i].day == day) = false := by simp [e]
  rw [b, if_neg e]
  simp only [zyd, cond_false, Option.bind_some]
  exact Ok.pure (by rw [List.append_nil])
theorem z1z {x : zd} (hx : On x) {k : Nat} (hk : 5000 < k) {l : SL zx} (hl : ztl x l.1) (day : Int) : Ok (zCd k l day) (fun r => r.1 = ztw l.1 day ∧ r.1.length ≤ 400000) := by
 have hd := hx.fine.days
 have hev : ∀ t ∈ l.1, t.events.1.length ≤ 168 := by
  intro t ht
  rw [(hl.all t ht).ev]
  have := zon hx t.days.1 (Nd x)
  unfold Nd at *
  omega
 have hn := hl.len
 have hone : ∀ t ∈ l.1, ∀ i : Nat, ((fun (t : zx) (_ : Nat) => cat (endG t day) t.events.1) t i).length ≤ 168 := by
  intro t ht i
  have := zKj 1 (zvv t day) t.events.1
  have := hev t ht
  show (cat (endG t day) t.events.1).length ≤ _
  omega
 unfold zCd
 refine Ok.bind (Ok.collect (acc := []) l.1 (fun t _ => cat (endG t day) t.events.1) (fun j hj => ?_) (fun a => by simp [zzd]) (by omega)) fun r hr => Ok.pure ?_
 ·have ht := hl.all _ (List.getElem_mem hj)
  have hacc : ([] ++ cat (fun (t : zx) (_ : Nat) => cat (endG t day) t.events.1) (l.1.take j)).length ≤ 500000 := by
   have := zJu 168 (l.1.take j) fun t ht i => hone t (List.mem_of_mem_take ht) i
   rw [List.length_take] at this
   rw [List.nil_append]
   omega
  simp only [zzd, zmb hj, cond_true, z6 hj (by omega : l.1.length < 9223372036854775808)]
  refine Ok.bind (zRz hk hj ht.len (by have := hev _ (List.getElem_mem hj); omega) hacc) fun r hr => ?_
  rw [hr]
  exact Ok.pure rfl
 ·rw [List.nil_append] at hr
  refine ⟨hr, ?_⟩
  show r.2.length ≤ _
  rw [hr]
  have := zJu 168 l.1 hone
  omega
theorem zlz (x : zd) (w : List Int) (d : Nat) : (evsL x w (d + 1))[(evsL x w (d + 1)).length - 1]? = some (evC x d) := by
 rw [zIe]
 unfold zQd
 rw [← List.append_assoc]
 generalize evsL x w d ++ _ = l
 rw [List.length_append, List.length_singleton, List.getElem?_append_right (by omega)]
 simp
theorem zyv (x : zd) (w : List Int) (d : Nat) : 0 < (evsL x w (d + 1)).length := by
 rw [zIe]
 unfold zQd
 simp only [List.length_append, List.length_singleton]
 omega
theorem zZp (x : zd) (w : List Int) (d : Nat) : ∀ n, ∃ l, evsL x w (d + n) = evsL x w d ++ l
 | 0 => ⟨[], by simp⟩
 | n + 1 => by
  obtain ⟨l, h⟩ := zZp x w d n
  exact ⟨l ++ zQd x w ((d + n : Nat) : Int), by rw [← Nat.add_assoc, zIe, h, List.append_assoc]⟩
theorem z8q (x : zd) (w : List Int) {d N : Nat} (h : d ≤ N) : (evsL x w d).length ≤ (evsL x w N).length := by
 obtain ⟨l, hl⟩ := zZp x w d (N - d)
 have : d + (N - d) = N := by omega
 rw [this] at hl
 rw [hl, List.length_append]
 omega
theorem zYz (x : zd) (w : List Int) {d N : Nat} (h : d < N) : (evsL x w N)[(evsL x w (d + 1)).length - 1]? = some (evC x d) := by
 obtain ⟨l, hl⟩ := zZp x w (d + 1) (N - (d + 1))
 have : d + 1 + (N - (d + 1)) = N := by omega
 rw [this] at hl
 have := zyv x w d
 rw [hl, List.getElem?_append_left (by omega)]
 exact zlz x w d
theorem zkz {x : zd} {w : List Int} {d : Int} {e : Ev} (h : e ∈ cat (evDg x w d) x.ShelfBook.Deliveries.1) : e.day = -1 := by
 obtain ⟨i, D, _, he⟩ := zig.1 h
 unfold evDg at he
 split at he
 ·rw [List.mem_singleton.1 he]
 ·cases he
theorem z8y {x : zd} {d : Int} {e : Ev} (h : e ∈ cat (evMg x d) x.ShelfBook.Moves.1) : e.day = -1 := by
 obtain ⟨i, D, _, he⟩ := zig.1 h
 unfold evMg at he
 split at he
 ·rw [List.mem_singleton.1 he]
 ·cases he
theorem zEp (x : zd) (w : List Int) : ∀ (N i : Nat) (e : Ev), (evsL x w N)[i]? = some e → e.day = -1 ∨ ∃ d, d < N ∧ i + 1 = (evsL x w (d + 1)).length ∧ e.day = (d : Int)
 | 0, i, e, h => by simp [evsL] at h
 | N + 1, i, e, h => by
  rw [zIe] at h
  by_cases hi : i < (evsL x w N).length
  ·rw [List.getElem?_append_left hi] at h
   rcases zEp x w N i e h with h1 | ⟨d, h1, h2⟩
   ·exact .inl h1
   ·exact .inr ⟨d, by omega, h2⟩
  ·rw [List.getElem?_append_right (by omega)] at h
   unfold zQd at h
   by_cases h2 : i - (evsL x w N).length < (cat (evDg x w N) x.ShelfBook.Deliveries.1 ++ cat (evMg x N) x.ShelfBook.Moves.1).length
   ·rw [List.getElem?_append_left h2] at h
    rcases List.mem_append.1 (List.mem_of_getElem? h) with h3 | h3
    ·exact .inl (zkz h3)
    ·exact .inl (z8y h3)
   ·rw [List.getElem?_append_right (by omega)] at h
    obtain ⟨h3, h4⟩ := List.getElem?_eq_some_iff.1 h
    rw [List.length_singleton] at h3
    right
    refine ⟨N, by omega, ?_, ?_⟩
    ·rw [zIe]
     unfold zQd
     rw [List.length_append, List.length_append, List.length_singleton]
     omega
    ·have h5 : i - (evsL x w N).length - (cat (evDg x w N) x.ShelfBook.Deliveries.1 ++ cat (evMg x N) x.ShelfBook.Moves.1).length = 0 := by omega
     simp only [h5, List.getElem_cons_zero] at h4
     rw [← h4]
     rfl
def zBx (x : zd) (d : Nat) (n : Int) : Prop := ∃ w v, Way x w ∧ zMm x w v ∧ v (evsL x w (d + 1)).length = n
theorem zYy {x : zd} {l : List zx} (hl : ztl x l) {d : Nat} (hd : d < Nd x) (n : Int) : (∃ u ∈ ztw l (d : Int), InS u n) ↔ zBx x d n := by
 constructor
 ·rintro ⟨u, hu, hn⟩
  obtain ⟨j, t, hj, hu⟩ := zig.1 hu
  obtain ⟨i, e, hi, hu⟩ := zig.1 hu
  have ht := hl.all t (List.mem_of_getElem? hj)
  unfold endG at hu
  split at hu
  ·rename_i hday
   have hu' : t.stocks.1[i + 1]? = some u := by
    cases hc : t.stocks.1[i + 1]? with
    | none => rw [hc] at hu; cases hu
    | some u' => rw [hc] at hu; rw [List.mem_singleton.1 hu]
   obtain ⟨v, h1, h2⟩ := (ht.mem _ _ hu' n).1 hn
   rw [ht.ev] at hi
   rcases zEp x _ _ _ _ hi with h3 | ⟨d', h3, h4, h5⟩
   ·omega
   ·have : d' = d := by omega
    subst this
    exact ⟨_, v, ht.way, h1, by rw [← h4]; exact h2⟩
  ·cases hu
 ·rintro ⟨w, v, h1, h2, h3⟩
  obtain ⟨t, ht, rfl⟩ := hl.has w h1 ⟨v, h2⟩
  have hT := hl.all t ht
  have hat := zYz x t.days.1 hd
  have hpos := zyv x t.days.1 d
  have hlt := (List.getElem?_eq_some_iff.1 hat).1
  have hs : (evsL x t.days.1 (d + 1)).length < t.stocks.1.length := by rw [hT.len, hT.ev]; omega
  have hs' := List.getElem?_eq_getElem hs
  refine ⟨t.stocks.1[(evsL x t.days.1 (d + 1)).length], ?_, (hT.mem _ _ hs' n).2 ⟨v, h2, h3⟩⟩
  obtain ⟨j, hj⟩ := List.getElem?_of_mem ht
  refine zig.2 ⟨j, t, hj, zig.2 ⟨(evsL x t.days.1 (d + 1)).length - 1, evC x d, by rw [hT.ev]; exact hat, ?_⟩⟩
  unfold endG
  have e1 : (evsL x t.days.1 (d + 1)).length - 1 + 1 = (evsL x t.days.1 (d + 1)).length := by omega
  rw [if_pos (show (evC x d).day = (d : Int) from rfl), e1, hs']
  exact .head _
theorem zqA {x : zd} {l : List zx} (hl : ztl x l) {d : Int} : ∀ u ∈ ztw l d, u.Low ≤ u.High := by
 intro u hu
 obtain ⟨j, t, hj, hu⟩ := zig.1 hu
 obtain ⟨i, e, hi, hu⟩ := zig.1 hu
 have ht := hl.all t (List.mem_of_getElem? hj)
 unfold endG at hu
 split at hu
 ·have hu' : t.stocks.1[i + 1]? = some u := by
   cases hc : t.stocks.1[i + 1]? with
   | none => rw [hc] at hu; cases hu
   | some u' => rw [hc] at hu; rw [List.mem_singleton.1 hu]
  obtain ⟨v, hv⟩ := ht.path
  have := (ht.mem _ _ hu' _).2 ⟨v, hv, rfl⟩
  exact Int.le_trans this.1 this.2
 ·cases hu
def Ends (P : Int → Prop) (s : zi) : Prop := P s.Low ∧ P s.High ∧ ∀ n, P n → InS s n
theorem Ends.eq {P : Int → Prop} {s t : zi} (hs : Ends P s) (ht : Ends P t) : s = t := by
 have h1 := hs.2.2 _ ht.1
 have h2 := hs.2.2 _ ht.2.1
 have h3 := ht.2.2 _ hs.1
 have h4 := ht.2.2 _ hs.2.1
 unfold InS at *
 cases s; cases t
 simp only at *
 congr 1 <;> omega
theorem zkA {k : Nat} {l : SL zi} (hk : l.1.length < k) (hlen : l.1.length ≤ 400000) (n : Int) : Ok (zQe k l n) (fun r => r = true ↔ ∃ u ∈ l.1, InS u n) := by
 unfold zQe
 refine Ok.bind (Ok.count l.1.length (fun j s => s = (j : Int) ∧ ∀ i u, i < j → l.1[i]? = some u → ¬ InS u n) (Q := fun r : Int ⊕ Int => match r with
  | .inl _ => ∃ u ∈ l.1, InS u n
  | .inr _ => ¬ ∃ u ∈ l.1, InS u n) ?_ ?_ ⟨rfl, fun i u h => absurd h (by omega)⟩ hk) fun r hr => ?_
 ·rintro j s hj ⟨rfl, hg⟩
  have hm := List.getElem_mem hj
  have hge := List.getElem?_eq_getElem hj
  simp only [zAd, zmb hj, cond_true, zbb hj, Option.bind_some, zOA, z6 hj (by omega : l.1.length < 9223372036854775808)]
  generalize l.1[j] = u at *
  cases hc : decide (u.Low ≤ n) && decide (n ≤ u.High) with
  | true =>
   rw [cond_true]
   simp only [Bool.and_eq_true, decide_eq_true_eq] at hc
   exact Ok.pure ⟨u, hm, hc⟩
  | false =>
   rw [cond_false]
   rw [← Bool.not_eq_true, Bool.and_eq_true, decide_eq_true_eq, decide_eq_true_eq] at hc
   refine Ok.pure ⟨rfl, fun i u' hi hu' => ?_⟩
   by_cases e : i = j
   ·subst e; rw [hge] at hu'; cases hu'; exact hc
   ·exact hg i u' (by omega) hu'
 ·rintro s ⟨rfl, hg⟩
  have c1 : decide ((l.1.length : Int) < (l.1.length : Int)) = false := by simp
  simp only [zAd, c1, cond_false]
  refine Ok.pure ?_
  rintro ⟨u, hu, hn⟩
  obtain ⟨i, hi⟩ := List.getElem?_of_mem hu
  exact hg i u (List.getElem?_eq_some_iff.1 hi).1 hi hn
 ·cases r with
  | inl r => exact Ok.pure ⟨fun _ => hr, fun _ => rfl⟩
  | inr r => exact Ok.pure ⟨fun h => Bool.noConfusion h, fun h => absurd h hr⟩
end Go.AM
set_option linter.unusedVariables false
namespace Go.AM
open Go
theorem z8t {α β : Type} {g g' : α → Nat → List β} : ∀ (l : List (α × Nat)), (∀ p ∈ l, g p.1 p.2 = g' p.1 p.2) → (l.flatMap fun p => g p.1 p.2) = l.flatMap fun p => g' p.1 p.2
 | [], _ => rfl
 | p :: t, h => by
  rw [List.flatMap_cons, List.flatMap_cons, h p (.head _), z8t t fun q hq => h q (.tail _ hq)]
theorem zeu {α β : Type} {g g' : α → Nat → List β} {l : List α} (h : ∀ i a, l[i]? = some a → g a i = g' a i) : cat g l = cat g' l := by
 unfold cat
 exact z8t _ fun p hp => h p.2 p.1 (zmp hp)
theorem zsx (C : Nat) (ds : List zt) : zte ds C = cat (fun D i => if C.testBit i = true then [(⟨1, D.By⟩ : zF)] else []) ds := by
 have : ∀ j, j ≤ ds.length → zte (ds.take j) C = cat (fun D i => if C.testBit i = true then [(⟨1, D.By⟩ : zF)] else []) (ds.take j) := by
  intro j
  induction j with
  | zero => intro _; rfl
  | succ j ih =>
   intro hj
   rw [z7p C (by omega), zhs _ (by omega), ih (by omega)]
 have h := this ds.length (Nat.le_refl _)
 rwa [List.take_length] at h
theorem zWx (x : zd) (day : Int) (ms : List zE) : zsh x day ms = cat (fun m _ => if (m.Day == day && m.Shelf == x.shelf) = true then [(⟨if m.Back then 1 else 0, m.By⟩ : zF)] else []) ms := by
 have : ∀ j, j ≤ ms.length → zsh x day (ms.take j) = cat (fun m _ => if (m.Day == day && m.Shelf == x.shelf) = true then [(⟨if m.Back then 1 else 0, m.By⟩ : zF)] else []) (ms.take j) := by
  intro j
  induction j with
  | zero => intro _; rfl
  | succ j ih =>
   intro hj
   rw [zWs x day (by omega), zhs _ (by omega), ih (by omega)]
 have h := this ms.length (Nat.le_refl _)
 rwa [List.take_length] at h
def zVp (e : Ev) : zi × zi := (e.by_, e.within)
def evW (x : zd) (w : zF) : zi × zi := (if w.way = 0 then ⟨-w.by_.High, -w.by_.Low⟩ else w.by_, ⟨0, (zK x).Room⟩)
def zwu (x : zd) (w : List Int) (d : Int) (C : Nat) : Prop := ∀ i D, x.ShelfBook.Deliveries.1[i]? = some D → (C.testBit i = true ↔ D.Shelf = x.shelf ∧ w[i]? = some d)
theorem zdA {x : zd} {w : List Int} {d : Int} {C : Nat} (h : zwu x w d C) : (cat (evDg x w d) x.ShelfBook.Deliveries.1 ++ cat (evMg x d) x.ShelfBook.Moves.1).map zVp = (zhi x d C).map (evW x) := by
 unfold zhi
 rw [zsx, zWx, List.map_append, List.map_append, z4q, z4q, z4q, z4q]
 congr 1
 ·refine zeu fun i D hD => ?_
  unfold evDg
  have h1 := h i D hD
  by_cases hc : C.testBit i = true
  ·rw [if_pos hc, if_pos (h1.1 hc)]
   simp [zVp, evW]
  ·rw [if_neg hc, if_neg fun h2 => hc (h1.2 h2)]
   rfl
 ·refine zeu fun i m hm => ?_
  unfold evMg
  by_cases hc : m.Shelf = x.shelf ∧ m.Day = d
  ·have : (m.Day == d && m.Shelf == x.shelf) = true := by simp [hc]
   rw [if_pos hc, if_pos this]
   cases m.Back <;> simp [zVp, evW]
  ·have : ¬ (m.Day == d && m.Shelf == x.shelf) = true := by
    simp only [Bool.and_eq_true, beq_iff_eq]
    exact fun h2 => hc ⟨h2.2, h2.1⟩
   rw [if_neg hc, if_neg this]
   rfl
theorem z8s {e : Ev} {l : List Ev} {u : Nat → Int} : z1h (e :: l) u ↔ z8n e (u 0) (u 1) ∧ z1h l fun i => u (i + 1) := by
 constructor
 ·intro h
  exact ⟨h 0 e rfl, fun i e' he => h (i + 1) e' he⟩
 ·rintro ⟨h1, h2⟩ i e' he
  cases i with
  | zero => cases he; exact h1
  | succ i => exact h2 i e' he
theorem zai {l l' : List Ev} {u : Nat → Int} : z1h (l ++ l') u ↔ z1h l u ∧ z1h l' fun i => u (l.length + i) := by
 constructor
 ·intro h
  refine ⟨fun i e he => h i e ?_, fun i e he => ?_⟩
  ·rw [List.getElem?_append_left (List.getElem?_eq_some_iff.1 he).1]; exact he
  ·have := h (l.length + i) e (by rw [List.getElem?_append_right (by omega)]; simpa using he)
   exact this
 ·rintro ⟨h1, h2⟩ i e he
  by_cases hi : i < l.length
  ·rw [List.getElem?_append_left hi] at he
   exact h1 i e he
  ·rw [List.getElem?_append_right (by omega)] at he
   have := h2 (i - l.length) e he
   have e1 : l.length + (i - l.length) = i := by omega
   have e2 : l.length + (i - l.length + 1) = i + 1 := by omega
   simp only [e1, e2] at this
   exact this
theorem zvx {l : List Ev} {f : Ev → Ev} {V : Nat → Int} : z1h (l.map f) V ↔ ∀ i e, l[i]? = some e → z8n (f e) (V i) (V (i + 1)) := by
 unfold z1h
 constructor
 ·intro h i e he
  exact h i (f e) (by rw [List.getElem?_map, he]; rfl)
 ·intro h i e he
  rw [List.getElem?_map] at he
  cases h1 : l[i]? with
  | none => rw [h1] at he; cases he
  | some e' => rw [h1] at he; cases he; exact h i e' h1
theorem zet {x : zd} {w : zF} {e : Ev} (hk : zVp e = evW x w) (m : Nat) (q : Int) : z8n e m q ↔ ∃ p : Nat, (p : Int) = q ∧ (p : Int) ≤ (zK x).Room ∧ Step w.way w.by_ m p := by
 unfold zVp evW at hk
 have h1 : e.by_ = _ := congrArg Prod.fst hk
 have h2 : e.within = _ := congrArg Prod.snd hk
 unfold z8n InS Step
 rw [h1, h2]
 simp only
 by_cases hw : w.way = 0
 ·simp only [hw, if_true]
  constructor
  ·rintro ⟨⟨a, b⟩, c, d⟩
   exact ⟨q.toNat, by omega, by omega, m - q, by omega, by omega, by omega⟩
  ·rintro ⟨p, rfl, a, t, b, c, d⟩
   omega
 ·simp only [hw, if_false]
  constructor
  ·rintro ⟨⟨a, b⟩, c, d⟩
   exact ⟨q.toNat, by omega, by omega, q - m, by omega, by omega, by omega⟩
  ·rintro ⟨p, rfl, a, t, b, c, d⟩
   omega
theorem ztq {x : zd} : ∀ (ws : List zF) (L : List Ev), L.map zVp = ws.map (evW x) → ∀ m n : Nat, Run x ws m n ↔ ∃ u : Nat → Int, z1h L u ∧ u 0 = m ∧ u L.length = n
 | [], L, h, m, n => by
  obtain rfl : L = [] := List.map_eq_nil_iff.1 h
  show m = n ↔ _
  constructor
  ·rintro rfl
   exact ⟨fun _ => m, fun i e he => by simp at he, rfl, rfl⟩
  ·rintro ⟨u, _, h1, h2⟩
   have h3 : u 0 = n := h2
   omega
 | w :: t, [], h, m, n => by simp at h
 | w :: t, e :: L, h, m, n => by
  rw [List.map_cons, List.map_cons] at h
  have hk : zVp e = evW x w := (List.cons.inj h).1
  have ht := (List.cons.inj h).2
  constructor
  ·rintro ⟨q, h1, h2, h3⟩
   obtain ⟨u, h4, h5, h6⟩ := (ztq t L ht q n).1 h3
   refine ⟨fun i => match i with | 0 => (m : Int) | i + 1 => u i, z8s.2 ⟨?_, h4⟩, rfl, h6⟩
   show z8n e (m : Int) (u 0)
   exact (zet hk m _).2 ⟨q, h5.symm, h1, h2⟩
  ·rintro ⟨u, h4, h5, h6⟩
   obtain ⟨h7, h8⟩ := z8s.1 h4
   rw [h5] at h7
   obtain ⟨q, h9, h10, h11⟩ := (zet hk m _).1 h7
   exact ⟨q, h10, h11, (ztq t L ht q n).2 ⟨_, h8, h9.symm, h6⟩⟩
theorem zou {x : zd} {w : List Int} {d : Int} {C : Nat} (h : zwu x w d C) {m n : Nat} (hm : (m : Int) ≤ (zK x).Room) :
  (Run x (zhi x d C) m n ∧ zNb x d n) ↔ ∃ u : Nat → Int, z1h (zQd x w d) u ∧ u 0 = m ∧ u (zQd x w d).length = n := by
 have hrs := ztq (zhi x d C) _ (zdA h) m n
 constructor
 ·rintro ⟨h1, h2⟩
  obtain ⟨u, h3, h4, h5⟩ := hrs.1 h1
  refine ⟨fun i => if i ≤ (cat (evDg x w d) x.ShelfBook.Deliveries.1 ++ cat (evMg x d) x.ShelfBook.Moves.1).length then u i else n, ?_, by simpa using h4, ?_⟩
  ·unfold zQd
   refine zai.2 ⟨fun i e he => ?_, fun i e he => ?_⟩
   ·have hi := (List.getElem?_eq_some_iff.1 he).1
    have a1 : i ≤ (cat (evDg x w d) x.ShelfBook.Deliveries.1 ++ cat (evMg x d) x.ShelfBook.Moves.1).length := by omega
    have a2 : i + 1 ≤ (cat (evDg x w d) x.ShelfBook.Deliveries.1 ++ cat (evMg x d) x.ShelfBook.Moves.1).length := by omega
    simp only [a1, a2, if_true]
    exact h3 i e he
   ·cases i with
    | zero =>
     cases he
     have a2 : ¬ (cat (evDg x w d) x.ShelfBook.Deliveries.1 ++ cat (evMg x d) x.ShelfBook.Moves.1).length + 1 ≤ (cat (evDg x w d) x.ShelfBook.Deliveries.1 ++ cat (evMg x d) x.ShelfBook.Moves.1).length := by omega
     simp only [Nat.add_zero, Nat.zero_add, Nat.le_refl, if_true, a2, if_false]
     rw [h5]
     refine ⟨?_, (z8v d n).2 ⟨zSp _ m n h1 hm, h2⟩⟩
     show InS (⟨0, 0⟩ : zi) _
     unfold InS; simp
    | succ i => cases he
  ·unfold zQd
   generalize cat (evDg x w d) x.ShelfBook.Deliveries.1 ++ cat (evMg x d) x.ShelfBook.Moves.1 = A
   show (if (A ++ [evC x d]).length ≤ A.length then u (A ++ [evC x d]).length else (n : Int)) = n
   rw [if_neg (by simp)]
 ·rintro ⟨u, h3, h4, h5⟩
  unfold zQd at h3 h5
  obtain ⟨h6, h7⟩ := zai.1 h3
  have h8 := h7 0 (evC x d) rfl
  rw [List.length_append, List.length_singleton] at h5
  simp only [Nat.add_zero, Nat.zero_add] at h8
  rw [h5] at h8
  obtain ⟨h9, h10⟩ := h8
  have h11 : InS (⟨0, 0⟩ : zi) _ := h9
  unfold InS at h11
  simp only at h11
  exact ⟨hrs.2 ⟨u, h6, h4, by omega⟩, ((z8v d n).1 h10).2⟩
theorem zmw (p : Nat → Bool) : ∀ n, ∃ C, C < 2 ^ n ∧ ∀ i, C.testBit i = (decide (i < n) && p i)
 | 0 => ⟨0, by simp, fun i => by simp⟩
 | n + 1 => by
  obtain ⟨C, h1, h2⟩ := zmw p n
  have hp : (2 : Nat) ^ (n + 1) = 2 ^ n + 2 ^ n := by rw [Nat.pow_succ]; omega
  cases hpn : p n with
  | false =>
   refine ⟨C, by omega, fun i => ?_⟩
   rw [h2 i]
   by_cases e : i = n
   ·subst e; simp [hpn]
   ·have : decide (i < n + 1) = decide (i < n) := by
     by_cases h3 : i < n
     ·simp [h3]; omega
     ·simp [h3]; omega
    rw [this]
  | true =>
   refine ⟨2 ^ n + C, by omega, fun i => ?_⟩
   by_cases e : i = n
   ·subst e
    rw [Nat.testBit_two_pow_add_eq, h2 i]
    simp [hpn]
   ·by_cases h3 : i < n
    ·rw [Nat.testBit_two_pow_add_gt h3, h2 i]
     have : i < n + 1 := by omega
     simp [h3, this]
    ·rw [Nat.testBit_lt_two_pow (Nat.lt_of_lt_of_le (show 2 ^ n + C < 2 ^ (n + 1) by omega) (Nat.pow_le_pow_right (by omega) (by omega)))]
     have : ¬ i < n + 1 := by omega
     simp [this]
theorem zhy {C : Nat} (h : ∀ i, C.testBit i = false) : C = 0 := Nat.eq_of_testBit_eq fun i => by rw [h i]; simp
theorem zZv {x y : Nat} (hx : x < 2 ^ 63) (hy : y < 2 ^ 63) (i : Nat) : (dif x y).testBit i = (x.testBit i && !y.testBit i) := (zPq hx hy).2.2.2 i
end Go.AM
set_option linter.unusedVariables false
namespace Go.AM
open Go
theorem zbt {l : List Ev} {u u' : Nat → Int} (h : ∀ i, i ≤ l.length → u i = u' i) (hu : z1h l u) : z1h l u' := by
 intro i e he
 have hi := (List.getElem?_eq_some_iff.1 he).1
 rw [← h i (by omega), ← h (i + 1) (by omega)]
 exact hu i e he
theorem zzA (x : zd) (w : List Int) (e : Nat) : ∃ C, C < nset x ∧ ∀ i, C.testBit i = true ↔ ∃ D c, x.ShelfBook.Deliveries.1[i]? = some D ∧ D.Shelf = x.shelf ∧ w[i]? = some c ∧ c < (e : Int) := by
 obtain ⟨C, h1, h2⟩ := zmw (fun i => match x.ShelfBook.Deliveries.1[i]?, w[i]? with
  | some D, some c => decide (D.Shelf = x.shelf) && decide (c < (e : Int))
  | _, _ => false) x.ShelfBook.Deliveries.1.length
 refine ⟨C, h1, fun i => ?_⟩
 rw [h2 i, Bool.and_eq_true, decide_eq_true_eq]
 constructor
 ·rintro ⟨h3, h4⟩
  obtain ⟨D, hD, _⟩ := zfh h3
  rw [hD] at h4
  cases hw : w[i]? with
  | none => rw [hw] at h4; cases h4
  | some c =>
   rw [hw] at h4
   simp only [Bool.and_eq_true, decide_eq_true_eq] at h4
   exact ⟨D, c, hD, h4.1, rfl, h4.2⟩
 ·rintro ⟨D, c, h3, h4, h5, h6⟩
  refine ⟨(List.getElem?_eq_some_iff.1 h3).1, ?_⟩
  rw [h3, h5]
  simp [h4, h6]
theorem zFv {x : zd} {w : List Int} (hw : Way x w) {i : Nat} {D : zt} (hD : x.ShelfBook.Deliveries.1[i]? = some D) : ∃ c, w[i]? = some c ∧ D.Days.Low ≤ c ∧ c ≤ (if D.Shelf = x.shelf then D.Days.High else D.Days.Low) :=
 hw.2 i D (List.getElem?_eq_some_iff.1 hD).1 hD
theorem z1q {x : zd} (hx : On x) {w : List Int} {V : Nat → Int} (h : zMm x w V) : ∀ i, i ≤ (evsL x w (Nd x)).length → 0 ≤ V i ∧ V i ≤ (zK x).Room
 | 0, _ => by
  obtain ⟨_, h1, h2, h3⟩ := hx.shelf
  have h0 := h.1
  unfold InS at h0
  omega
 | i + 1, hi => by
  obtain ⟨e, he, hm⟩ := zfh (show i < (evsL x w (Nd x)).length by omega)
  have h1 := (h.2 i e he).2
  have h2 : 0 ≤ e.within.Low ∧ e.within.High ≤ (zK x).Room := by
   unfold evsL at hm
   obtain ⟨d, _, hm⟩ := List.mem_flatMap.1 hm
   unfold zQd at hm
   rw [List.mem_append, List.mem_append] at hm
   rcases hm with (hm | hm) | hm
   ·obtain ⟨i, D, hD, he⟩ := zig.1 hm
    unfold evDg at he
    split at he
    ·obtain rfl := List.mem_singleton.1 he
     exact ⟨Int.le_refl _, Int.le_refl _⟩
    ·cases he
   ·obtain ⟨i, D, hD, he⟩ := zig.1 hm
    unfold evMg at he
    split at he
    ·obtain rfl := List.mem_singleton.1 he
     exact ⟨Int.le_refl _, Int.le_refl _⟩
    ·cases he
   ·obtain rfl := List.mem_singleton.1 hm
    refine ⟨(zWv hx d).2, ?_⟩
    have := (zss x d (cntS x d).High x.ShelfBook.Counts.1.zipIdx ⟨0, (zK x).Room⟩)
    have hhi : ∀ (l : List (zq × Nat)) (s : zi), (l.foldl (z2e x d) s).High ≤ s.High := by
     intro l
     induction l with
     | nil => intro s; exact Int.le_refl _
     | cons p t ih =>
      intro s
      refine Int.le_trans (ih _) ?_
      unfold z2e comm
      split
      ·simp only
       by_cases h : p.1.Read + p.1.Err < s.High <;> simp only [h, if_true, if_false] <;> omega
      ·exact Int.le_refl _
    exact hhi _ _
  unfold InS at h1
  omega
theorem zRs {x : zd} (hx : On x) {w : List Int} {V : Nat → Int} (hw : Way x w) (h : zMm x w V) : ∃ Cs v, zrd x (Nd x) Cs v ∧ ∀ d, d ≤ Nd x → (v d : Int) = V (evsL x w d).length := by
 have hd := hx.fine.days
 have h8 := zBi hx
 have hset := zzA x w
 refine ⟨fun e => (hset e).choose, fun d => (V (evsL x w d).length).toNat, ⟨?_, ?_, fun e he => ⟨?_, ?_, ?_⟩⟩, fun d hd => ?_⟩
 ·refine zhy fun i => ?_
  have h1 := (hset 0).choose_spec.2 i
  cases hb : (hset 0).choose.testBit i with
  | false => rfl
  | true =>
   obtain ⟨D, c, h2, h3, h4, h5⟩ := h1.1 hb
   obtain ⟨c', h6, h7, _⟩ := zFv hw h2
   rw [h4] at h6; cases h6
   have := (hx.fine.deliveries _ (List.mem_of_getElem? h2)).2.1.1
   omega
 ·have h0 := h.1
  have h1 := z1q hx h 0 (by omega)
  unfold InS at h0
  have : (evsL x w 0).length = 0 := rfl
  rw [this]
  omega
 ·exact (hset (e + 1)).choose_spec.1
 ·intro i D hD
  have hB := (hset e).choose_spec.2 i
  have hC := (hset (e + 1)).choose_spec.2 i
  obtain ⟨c, h6, h7, h8⟩ := zFv hw hD
  have hb : (hset e).choose.testBit i = true ↔ D.Shelf = x.shelf ∧ c < (e : Int) := by
   rw [hB]
   constructor
   ·rintro ⟨D', c', h1, h2, h3, h4⟩
    rw [hD] at h1; rw [h6] at h3; cases h1; cases h3
    exact ⟨h2, h4⟩
   ·rintro ⟨h2, h4⟩; exact ⟨D, c, hD, h2, h6, h4⟩
  have hc : (hset (e + 1)).choose.testBit i = true ↔ D.Shelf = x.shelf ∧ c < ((e + 1 : Nat) : Int) := by
   rw [hC]
   constructor
   ·rintro ⟨D', c', h1, h2, h3, h4⟩
    rw [hD] at h1; rw [h6] at h3; cases h1; cases h3
    exact ⟨h2, h4⟩
   ·rintro ⟨h2, h4⟩; exact ⟨D, c, hD, h2, h6, h4⟩
  unfold z3f
  by_cases hs : D.Shelf = x.shelf
  ·rw [if_pos hs]
   rw [if_pos hs] at h8
   refine ⟨fun h1 => hc.2 ⟨hs, by have := (hb.1 h1).2; push_cast; omega⟩, fun h1 h2 => ?_, fun h1 => ?_⟩
   ·have h3 := (hc.1 h1).2
    have h4 : ¬ c < (e : Int) := fun h4 => by rw [hb.2 ⟨hs, h4⟩] at h2; cases h2
    push_cast at h3
    omega
   ·have h4 : ¬ c < ((e + 1 : Nat) : Int) := fun h4 => by rw [hc.2 ⟨hs, h4⟩] at h1; cases h1
    push_cast at h4
    omega
  ·rw [if_neg hs]
   cases hb' : (hset (e + 1)).choose.testBit i with
   | false => rfl
   | true => exact absurd (hc.1 hb').1 hs
 ·have hB := (hset e).choose_spec
  have hC := (hset (e + 1)).choose_spec
  have hon : zwu x w e (dif (hset (e + 1)).choose (hset e).choose) := by
   intro i D hD
   rw [zZv (by omega) (by omega), Bool.and_eq_true, Bool.not_eq_true', hC.2 i, ← Bool.not_eq_true, hB.2 i]
   obtain ⟨c, h6, h7, h8⟩ := zFv hw hD
   constructor
   ·rintro ⟨⟨D', c', h1, h2, h3, h4⟩, h5⟩
    rw [hD] at h1; rw [h6] at h3; cases h1; cases h3
    refine ⟨h2, ?_⟩
    have : ¬ c < (e : Int) := fun h9 => h5 ⟨D, c, hD, h2, h6, h9⟩
    rw [h6]
    congr 1
    push_cast at h4
    omega
   ·rintro ⟨h1, h2⟩
    refine ⟨⟨D, e, hD, h1, h2, by push_cast; omega⟩, ?_⟩
    rintro ⟨D', c', h3, h4, h5, h9⟩
    rw [h2] at h5; cases h5
    omega
  have hsteps : z1h (zQd x w e) fun i => V ((evsL x w e).length + i) := by
   obtain ⟨l, hl⟩ := zZp x w (e + 1) (Nd x - (e + 1))
   have e1 : e + 1 + (Nd x - (e + 1)) = Nd x := by have : e < Nd x := he; omega
   rw [e1] at hl
   have h1 := h.2
   rw [hl, zIe, List.append_assoc] at h1
   have h2 := (zai.1 h1).2
   exact (zai.1 h2).1
  have he' : e < Nd x := he
  have r0 := z1q hx h (evsL x w e).length (z8q x w (by omega))
  have r1 := z1q hx h (evsL x w (e + 1)).length (z8q x w (by omega))
  refine (zou hon (by omega)).2 ⟨_, hsteps, ?_, ?_⟩
  ·show V ((evsL x w e).length + 0) = _
   rw [Nat.add_zero]
   omega
  ·show V ((evsL x w e).length + (zQd x w e).length) = _
   have : (evsL x w (e + 1)).length = (evsL x w e).length + (zQd x w e).length := by rw [zIe, List.length_append]
   rw [← this]
   omega
 ·have := z1q hx h (evsL x w d).length (z8q x w hd)
  show (((V (evsL x w d).length).toNat : Nat) : Int) = _
  omega
theorem zms {x : zd} {N : Nat} {Cs v : Nat → Nat} (h : zrd x N Cs v) {i : Nat} {D : zt} (hD : x.ShelfBook.Deliveries.1[i]? = some D) (hs : D.Shelf = x.shelf) : ∀ t e, e + t ≤ N → (Cs e).testBit i = true → (Cs (e + t)).testBit i = true
 | 0, e, _, hb => hb
 | t + 1, e, he, hb => by
  have h1 := zms h hD hs t e (by omega) hb
  have h2 := (h.step (e + t) (by omega)).2.1 i D hD
  unfold z3f at h2
  rw [if_pos hs] at h2
  exact h2.1 h1
theorem zTt {C : Nat → Nat} {i : Nat} (h0 : C 0 = 0) : ∀ N, (C N).testBit i = true → ∃ e, e < N ∧ (C e).testBit i = false ∧ (C (e + 1)).testBit i = true
 | 0, h => by rw [h0] at h; simp at h
 | N + 1, h => by
  cases hb : (C N).testBit i with
  | false => exact ⟨N, by omega, hb, h⟩
  | true =>
   obtain ⟨e, h1, h2⟩ := zTt h0 N hb
   exact ⟨e, by omega, h2⟩
theorem z3z {n : Nat} {P : Nat → Int → Prop} (h : ∀ i, i < n → ∃ c, P i c) : ∃ w : List Int, w.length = n ∧ ∀ i, i < n → ∃ c, w[i]? = some c ∧ P i c := by
 induction n with
 | zero => exact ⟨[], rfl, fun i h => absurd h (by omega)⟩
 | succ n ih =>
  obtain ⟨w, h1, h2⟩ := ih fun i hi => h i (by omega)
  obtain ⟨c, hc⟩ := h n (by omega)
  refine ⟨w ++ [c], by simp [h1], fun i hi => ?_⟩
  by_cases e : i = n
  ·subst e
   exact ⟨c, by rw [← h1]; simp, hc⟩
  ·obtain ⟨c', h3, h4⟩ := h2 i (by omega)
   exact ⟨c', by rw [List.getElem?_append_left (by omega)]; exact h3, h4⟩
theorem zDx {x : zd} (hx : On x) {Cs v : Nat → Nat} (h : zrd x (Nd x) Cs v) : ∃ w, Way x w ∧ ∀ e, e < Nd x → zwu x w e (dif (Cs (e + 1)) (Cs e)) := by
 have hd := hx.fine.days
 have h8 := zBi hx
 have hlt : ∀ e, e ≤ Nd x → Cs e < 2 ^ 63 := by
  intro e he
  have := (zli hx h e he).2
  omega
 obtain ⟨w, h1, h2⟩ := z3z (n := x.ShelfBook.Deliveries.1.length) (P := fun i c => ∀ D, x.ShelfBook.Deliveries.1[i]? = some D → (D.Days.Low ≤ c ∧ c ≤ (if D.Shelf = x.shelf then D.Days.High else D.Days.Low)) ∧ (D.Shelf = x.shelf → ∃ e : Nat, c = e ∧ e < Nd x ∧ (Cs e).testBit i = false ∧ (Cs (e + 1)).testBit i = true)) (by
  intro i hi
  obtain ⟨D, hD, hm⟩ := zfh hi
  obtain ⟨_, ⟨hd1, hd2, hd3⟩, _⟩ := hx.fine.deliveries _ hm
  by_cases hs : D.Shelf = x.shelf
  ·have hN : (Cs (Nd x)).testBit i = true := by
    have h3 : Nd x - 1 + 1 = Nd x := by unfold Nd; omega
    have h4 := (h.step (Nd x - 1) (by omega)).2.1 i D hD
    rw [h3] at h4
    unfold z3f at h4
    rw [if_pos hs] at h4
    cases hb : (Cs (Nd x)).testBit i with
    | true => rfl
    | false =>
     have := h4.2.2 hb
     unfold Nd at this
     omega
   obtain ⟨e, h3, h4, h5⟩ := zTt h.c0 _ hN
   have h6 := (h.step e h3).2.1 i D hD
   unfold z3f at h6
   rw [if_pos hs] at h6
   have h7 := h6.2.1 h5 h4
   refine ⟨e, fun D' hD' => ?_⟩
   rw [hD] at hD'; cases hD'
   rw [if_pos hs]
   exact ⟨h7, fun _ => ⟨e, rfl, h3, h4, h5⟩⟩
  ·refine ⟨D.Days.Low, fun D' hD' => ?_⟩
   rw [hD] at hD'; cases hD'
   rw [if_neg hs]
   exact ⟨⟨Int.le_refl _, Int.le_refl _⟩, fun h => absurd h hs⟩)
 refine ⟨w, ⟨h1, fun i D hi hD => ?_⟩, fun e he i D hD => ?_⟩
 ·obtain ⟨c, h3, h4⟩ := h2 i hi
  exact ⟨c, h3, (h4 D hD).1⟩
 ·obtain ⟨c, h3, h4⟩ := h2 i (List.getElem?_eq_some_iff.1 hD).1
  rw [zZv (hlt _ (by omega)) (hlt _ (by omega)), Bool.and_eq_true, Bool.not_eq_true']
  constructor
  ·rintro ⟨h5, h6⟩
   have hs : D.Shelf = x.shelf := by
    refine Classical.byContradiction fun hs => ?_
    have h7 := (h.step e he).2.1 i D hD
    unfold z3f at h7
    rw [if_neg hs] at h7
    rw [h7] at h5; cases h5
   obtain ⟨e', rfl, h7, h8, h9⟩ := (h4 D hD).2 hs
   refine ⟨hs, ?_⟩
   have : e' = e := by
    rcases Nat.lt_trichotomy e' e with h10 | h10 | h10
    ·have := zms h hD hs (e - (e' + 1)) (e' + 1) (by omega) h9
     have e1 : e' + 1 + (e - (e' + 1)) = e := by omega
     rw [e1, h6] at this; cases this
    ·exact h10
    ·have := zms h hD hs (e' - (e + 1)) (e + 1) (by omega) h5
     have e1 : e + 1 + (e' - (e + 1)) = e' := by omega
     rw [e1, h8] at this; cases this
   rw [h3, this]
  ·rintro ⟨hs, h5⟩
   obtain ⟨e', rfl, h7, h8, h9⟩ := (h4 D hD).2 hs
   rw [h3] at h5
   have : e' = e := by have := Option.some.inj h5; omega
   subst this
   exact ⟨h9, h8⟩
theorem zKp {x : zd} (hx : On x) {Cs v : Nat → Nat} (h : zrd x (Nd x) Cs v) : ∃ w V, Way x w ∧ zMm x w V ∧ (∀ d, d ≤ Nd x → V (evsL x w d).length = v d) := by
 obtain ⟨w, hw, hon⟩ := zDx hx h
 suffices ∀ d, d ≤ Nd x → ∃ V : Nat → Int, V 0 = v 0 ∧ z1h (evsL x w d) V ∧ ∀ d', d' ≤ d → V (evsL x w d').length = v d' by
  obtain ⟨V, h1, h2, h3⟩ := this (Nd x) (Nat.le_refl _)
  have h4 := h.v0
  exact ⟨w, V, hw, ⟨by unfold InS; rw [h1]; exact h4, h2⟩, h3⟩
 intro d
 induction d with
 | zero =>
  intro _
  refine ⟨fun _ => v 0, rfl, fun i e he => by simp [evsL] at he, fun d' hd' => ?_⟩
  obtain rfl : d' = 0 := by omega
  rfl
 | succ d ih =>
  intro hd
  obtain ⟨V, h1, h2, h3⟩ := ih (by omega)
  have hin := (zli hx h d (by omega)).1
  obtain ⟨u, h4, h5, h6⟩ := (zou (hon d (by omega)) hin).1 (h.step d (by omega)).2.2
  have hlen := h3 d (Nat.le_refl _)
  refine ⟨fun i => if i ≤ (evsL x w d).length then V i else u (i - (evsL x w d).length), by simpa using h1, ?_, fun d' hd' => ?_⟩
  ·rw [zIe]
   refine zai.2 ⟨zbt (fun i hi => ?_) h2, zbt (fun i hi => ?_) h4⟩
   ·simp only [hi, if_true]
   ·by_cases hi0 : i = 0
    ·subst hi0
     simp only [Nat.add_zero, Nat.le_refl, if_true]
     rw [hlen, h5]
    ·have a1 : ¬ (evsL x w d).length + i ≤ (evsL x w d).length := by omega
     simp only [a1, if_false]
     congr 1
     omega
  ·by_cases e : d' = d + 1
   ·subst e
    have hl : (evsL x w (d + 1)).length = (evsL x w d).length + (zQd x w d).length := by rw [zIe, List.length_append]
    have hpos : 0 < (zQd x w d).length := by unfold zQd; simp only [List.length_append, List.length_singleton]; omega
    have a1 : ¬ (evsL x w (d + 1)).length ≤ (evsL x w d).length := by omega
    simp only [a1, if_false]
    rw [← h6]
    congr 1
    omega
   ·have a1 : (evsL x w d').length ≤ (evsL x w d).length := z8q x w (by omega)
    simp only [a1, if_true]
    exact h3 d' (by omega)
theorem zbv {x : zd} (hx : On x) : zmj x ↔ RCan x := by
 rw [zEo hx]
 constructor
 ·rintro ⟨Cs, v, h⟩
  obtain ⟨w, V, h1, h2, _⟩ := zKp hx h
  exact ⟨w, V, h1, h2⟩
 ·rintro ⟨w, V, h1, h2⟩
  obtain ⟨Cs, v, h, _⟩ := zRs hx h1 h2
  exact ⟨Cs, v, h⟩
theorem zWu {x : zd} (hx : On x) {d : Nat} (hd : (d : Int) < x.ShelfBook.Days) (n : Int) : (∃ m : Nat, n = m ∧ zgj x d m) ↔ zBx x d n := by
 constructor
 ·rintro ⟨m, rfl, h⟩
  obtain ⟨Cs, v, h1, rfl⟩ := (z4i hx hd).1 h
  obtain ⟨w, V, h2, h3, h4⟩ := zKp hx h1
  exact ⟨w, V, h2, h3, h4 _ (by unfold Nd; omega)⟩
 ·rintro ⟨w, V, h1, h2, rfl⟩
  obtain ⟨Cs, v, h3, h4⟩ := zRs hx h1 h2
  exact ⟨v (d + 1), (h4 _ (by unfold Nd; omega)).symm, (z4i hx hd).2 ⟨Cs, v, h3, rfl⟩⟩
theorem zXs {b : za} (hb : Fine b) {left : Int} (h0 : 0 ≤ left) (h1 : left < 9223372036854775808) : z2c b left ↔ zHj b left := by
 unfold z2c zHj
 constructor
 ·intro h s hs
  exact (zbv ⟨hb, by simp, by simpa using hs, h0, h1⟩).1 (h s hs)
 ·intro h s hs
  exact (zbv ⟨hb, by simp, by simpa using hs, h0, h1⟩).2 (h s hs)
end Go.AM
set_option linter.unusedVariables false
namespace Go.AM
open Go
def zQf (b : za) (s d : Int) : Prop := (0 ≤ s ∧ s ≤ (b.Shelves.1.length : Int) - 1) ∧ 0 ≤ d ∧ d ≤ b.Days - 1
def AskE (b : za) (q T : Prop) (e : Int) : Prop :=
 (¬ Fine b ∧ e = 40) ∨ (Fine b ∧ ¬ q ∧ e = 41) ∨ (Fine b ∧ q ∧ ¬ T ∧ e = 42) ∨ (Fine b ∧ q ∧ T ∧ e = 0)
theorem AskE.eq {b : za} {q T : Prop} {e f : Int} (h : AskE b q T e) (g : AskE b q T f) : e = f := by
 unfold AskE at *
 rcases h with ⟨h1, h2⟩ | ⟨h1, h2, h3⟩ | ⟨h1, h2, h3, h4⟩ | ⟨h1, h2, h3, h4⟩ <;> rcases g with ⟨g1, g2⟩ | ⟨g1, g2, g3⟩ | ⟨g1, g2, g3, g4⟩ | ⟨g1, g2, g3, g4⟩ <;> first | omega | exact absurd h1 g1 | exact absurd g1 h1 | exact absurd h2 g2 | exact absurd g2 h2 | exact absurd h3 g3 | exact absurd g3 h3
theorem AskE.ok {b : za} {q T : Prop} {e : Int} (h : AskE b q T e) (he : e = 0) : Fine b ∧ q ∧ T := by
 unfold AskE at h
 rcases h with ⟨h1, h2⟩ | ⟨h1, h2, h3⟩ | ⟨h1, h2, h3, h4⟩ | ⟨h1, h2, h3, h4⟩
 ·omega
 ·omega
 ·omega
 ·exact ⟨h1, h2, h3⟩
theorem AskE.cases {b : za} {q T : Prop} {e : Int} (h : AskE b q T e) : e = 40 ∨ e = 41 ∨ e = 42 ∨ e = 0 := by
 unfold AskE at h
 rcases h with ⟨h1, h2⟩ | ⟨h1, h2, h3⟩ | ⟨h1, h2, h3, h4⟩ | ⟨h1, h2, h3, h4⟩ <;> omega
theorem ziw {b : za} {right : Bool} {q T : Prop} {e : Int} (hr : Fine b → (right = true ↔ q)) (h : z0q b right T e) : AskE b q T e := by
 unfold z0q at h
 unfold AskE
 rcases h with ⟨h1, h2⟩ | ⟨h1, h2, h3⟩ | ⟨h1, h2, h3, h4⟩ | ⟨h1, h2, h3, h4⟩
 ·exact .inl ⟨h1, h2⟩
 ·exact .inr (.inl ⟨h1, fun hq => (by rw [(hr h1).2 hq] at h2; cases h2), h3⟩)
 ·exact .inr (.inr (.inl ⟨h1, (hr h1).1 h2, h3, h4⟩))
 ·exact .inr (.inr (.inr ⟨h1, (hr h1).1 h2, h3, h4⟩))
theorem zjy {b : za} (hf : Fine b) : w64 (b.Days - 1) = b.Days - 1 := by
 have := hf.days
 exact zkb (by omega) (by omega)
theorem zry {b : za} (hs : zxe b) (k : Nat) (s d : Int) : ∃ r, zHf k b s d = some r ∧ (Fine b → (r = true ↔ zQf b s d)) := by
 refine ⟨(decide (0 ≤ s) && decide (s ≤ (b.Shelves.1.length : Int) - 1)) && (decide (0 ≤ d) && decide (d ≤ w64 (b.Days - 1))), by simp only [zHf, z3d, Option.bind_some, z1c, z4o hs.shelves], fun hf => ?_⟩
 rw [zjy hf]
 simp only [Bool.and_eq_true, decide_eq_true_eq, zQf]
theorem z6y {b : za} (hs : zxe b) (k : Nat) (s d : Int) : ∃ r, zie k b s d = some r ∧ (Fine b → (r = true ↔ zQf b s d)) := by
 refine ⟨(decide (0 ≤ s) && decide (s ≤ (b.Shelves.1.length : Int) - 1)) && (decide (0 ≤ d) && decide (d ≤ w64 (b.Days - 1))), by simp only [zie, zFm hs, zpi, Option.bind_some, z1c], fun hf => ?_⟩
 rw [zjy hf]
 simp only [Bool.and_eq_true, decide_eq_true_eq, zQf]
def z9i (b : za) (s : Int) (d : Nat) (n : Int) : Prop := ∃ m : Nat, n = m ∧ zgj ⟨b, s, 0⟩ d m
theorem z6q {b : za} (hf : Fine b) {s d : Int} (h : zQf b s d) : On (⟨b, s, 0⟩ : zd) := ⟨hf, h.1.1, by have := h.1.2; show s < (b.Shelves.1.length : Int); omega, Int.le_refl _, by show (0 : Int) < _; omega⟩
theorem zux {x : zd} (hx : On x) (hc : zmj x) {d : Nat} (hd : (d : Int) < x.ShelfBook.Days) : ∃ n, zgj x d n := by
 obtain ⟨Cs, v, h⟩ := (zEo hx).1 hc
 exact ⟨v (d + 1), (z4i hx hd).2 ⟨Cs, v, h, rfl⟩⟩
theorem zCk {x : zd} (hx : On x) {d n : Nat} (h : zgj x d n) : n ≤ 60 := by
 obtain ⟨C, h1, _⟩ := h
 have := zsj hx _ _ _ h1
 have := hx.shelf.1.2
 omega
theorem zbu {x : zd} (hx : On x) {v : Nat → Bool} (h : ∀ i : Nat, v i = true ↔ ∃ day n : Nat, (day : Int) < x.ShelfBook.Days ∧ i = day * 61 + n ∧ zgj x day n) {d n : Nat} (hd : (d : Int) < x.ShelfBook.Days) (hn : n ≤ 60) : v (d * 61 + n) = true ↔ zgj x d n := by
 rw [h]
 constructor
 ·rintro ⟨day, m, h1, h2, h3⟩
  have := zCk hx h3
  obtain rfl : day = d := by omega
  obtain rfl : n = m := by omega
  exact h3
 ·exact fun h3 => ⟨d, n, hd, rfl, h3⟩
theorem zrx {b : za} {s : Int} (hx : On (⟨b, s, 0⟩ : zd)) (hc : zmj (⟨b, s, 0⟩ : zd)) {v : Nat → Bool} {d : Nat} (hd : (d : Int) < b.Days) (h : ∀ n, n ≤ 60 → (v n = true ↔ zgj ⟨b, s, 0⟩ d n)) {t : zi} (ht : zGs v 61 t.Low t.High) : Ends (z9i b s d) t := by
 obtain ⟨h1, h2⟩ := ht
 rcases h2 with ⟨h3, h4, h5⟩ | ⟨a, c, h3, h4, h5, h6, h7, h8⟩
 ·obtain ⟨n, hn⟩ := zux hx hc hd
  have hle := zCk hx hn
  have := h5 n (by omega)
  rw [(h n hle).2 hn] at this; cases this
 ·refine ⟨⟨a, h7, (h a (by omega)).1 h5⟩, ⟨c, h8, (h c (by omega)).1 h6⟩, ?_⟩
  rintro n ⟨m, rfl, hm⟩
  have hle := zCk hx hm
  exact h1 m (by omega) ((h m hle).2 hm)
section
variable {b : za} {k : Nat}
theorem zrA (hs : zxe b) (hd : b.Days ≤ 9223372036854775807) (hk : Fuel k b) (s d n : Int) : Ok (zBj k b s d n) (fun r => AskE b (zQf b s d) (z2c b 0) r.2 ∧ (r.1 = true ↔ r.2 = 0 ∧ z9i b s d.toNat n)) := by
 obtain ⟨r, h1, h2⟩ := zry hs k s d
 unfold zBj
 rw [h1, Option.bind_some]
 refine Ok.bind (zsy hs hd hk r) fun e he => ?_
 have hE := ziw h2 he
 cases hc : e != 0 with
 | true =>
  rw [cond_true]
  have hne : e ≠ 0 := by simpa using hc
  exact Ok.pure ⟨hE, fun h => Bool.noConfusion h, fun h => absurd h.1 hne⟩
 | false =>
  rw [cond_false]
  obtain rfl : e = 0 := by simpa using hc
  obtain ⟨hf, hq, hT⟩ := hE.ok rfl
  have hx := z6q hf hq
  have hdays := hf.days
  have hq2 := hq.2
  have c1 : (decide (0 ≤ d) && decide (d < 12)) = true := by simp; omega
  have hdl : ((d.toNat : Nat) : Int) < b.Days := by omega
  rw [z3d, Option.bind_some]
  cases hw : decide (0 ≤ n) && decide (n ≤ 60) with
  | true =>
   rw [cond_true]
   simp only [Bool.and_eq_true, decide_eq_true_eq] at hw
   have c2 : (decide (0 ≤ n) && decide (n < 61)) = true := by simp; omega
   refine Ok.bind (zgu hx hk.k0) fun v hv => ?_
   rw [c1, c2, cond_true, cond_true]
   refine Ok.pure ⟨hE, ?_⟩
   show v (d.toNat * 61 + n.toNat) = true ↔ _
   rw [zbu hx hv hdl (by omega)]
   constructor
   ·exact fun h => ⟨rfl, n.toNat, by omega, h⟩
   ·rintro ⟨_, m, rfl, h⟩
    rwa [Int.toNat_natCast]
  | false =>
   rw [cond_false]
   rw [← Bool.not_eq_true, Bool.and_eq_true, decide_eq_true_eq, decide_eq_true_eq] at hw
   refine Ok.pure ⟨hE, fun h => Bool.noConfusion h, ?_⟩
   rintro ⟨_, m, rfl, h⟩
   have := zCk hx h
   omega
def zoq (b : za) (s d n : Int) : Prop := (∀ (j : Nat) m, d ≤ j → (j : Int) < b.Days → z9i b s j m → n ≤ m) ∧ ∃ j : Nat, d ≤ j ∧ (j : Int) < b.Days ∧ z9i b s j n
theorem zoq.eq {s d n m : Int} (h : zoq b s d n) (g : zoq b s d m) : n = m := by
 obtain ⟨h1, j, h2, h3, h4⟩ := h
 obtain ⟨g1, i, g2, g3, g4⟩ := g
 have := h1 i m g2 g3 g4
 have := g1 j n h2 h3 h4
 omega
theorem zcz (hf : Fine b) {s : Int} (hx : On (⟨b, s, 0⟩ : zd)) (hk : 5000 < k) {l : SL zx} (hl : ztl ⟨b, s, 0⟩ l.1) {d : Int} (h0 : 0 ≤ d) (hd : d < b.Days) : Ok (zCd k l d) (fun r => r.1.length ≤ 400000 ∧ (∀ u ∈ r.1, u.Low ≤ u.High) ∧ ∀ n, (∃ u ∈ r.1, InS u n) ↔ z9i b s d.toNat n) := by
 refine (z1z hx hk hl d).mono fun r hr => ?_
 obtain ⟨h1, h2⟩ := hr
 refine ⟨h2, ?_, fun n => ?_⟩
 ·rw [h1]; exact zqA hl
 ·have hd' : ((d.toNat : Nat) : Int) < b.Days := by omega
  have h3 := zYy hl (d := d.toNat) (by unfold Nd; show d.toNat < b.Days.toNat; omega) n
  rw [Int.toNat_of_nonneg h0] at h3
  rw [h1, h3]
  exact (zWu hx hd' n).symm
theorem zBy (hs : zxe b) (hd : b.Days ≤ 9223372036854775807) (hk : Fuel k b) (hk2 : 400000 < k) (s d n : Int) : Ok (zff k b s d n) (fun r => AskE b (zQf b s d) (z2c b 0) r.2 ∧ (r.1 = true ↔ r.2 = 0 ∧ z9i b s d.toNat n)) := by
 obtain ⟨r, h1, h2⟩ := z6y hs k s d
 unfold zff
 rw [h1, Option.bind_some]
 refine Ok.bind (zyx hs hd hk r) fun e he => ?_
 have he' : z0q b r (z2c b 0) e := by
  unfold z0q at *
  rcases he with h | h | ⟨h3, h4, h5, h6⟩ | ⟨h3, h4, h5, h6⟩
  ·exact .inl h
  ·exact .inr (.inl h)
  ·exact .inr (.inr (.inl ⟨h3, h4, fun h => h5 ((zXs h3 (by omega) (by omega)).1 h), h6⟩))
  ·exact .inr (.inr (.inr ⟨h3, h4, (zXs h3 (by omega) (by omega)).2 h5, h6⟩))
 have hE := ziw h2 he'
 cases hc : e != 0 with
 | true =>
  rw [cond_true]
  have hne : e ≠ 0 := by simpa using hc
  exact Ok.pure ⟨hE, fun h => Bool.noConfusion h, fun h => absurd h.1 hne⟩
 | false =>
  rw [cond_false]
  obtain rfl : e = 0 := by simpa using hc
  obtain ⟨hf, hq, hT⟩ := hE.ok rfl
  have hx := z6q hf hq
  have hq2 := hq.2
  refine Ok.bind (z5t hx hk.k0) fun l hl => ?_
  refine Ok.bind (zcz hf hx hk.k0 hl hq2.1 (by omega)) fun u hu => ?_
  obtain ⟨hu1, hu2, hu3⟩ := hu
  refine Ok.bind (zkA (by omega) hu1 n) fun t ht => Ok.pure ⟨hE, ?_⟩
  show t = true ↔ _
  rw [ht, hu3]
  exact ⟨fun h => ⟨rfl, h⟩, fun h => h.2⟩
end
end Go.AM
set_option linter.unusedVariables false
namespace Go.AM
open Go
structure zvw (S n : Nat) (l : List Int) : Prop where
 climbs : l.Pairwise (· < ·)
 mem : ∀ x, x ∈ l ↔ ∃ i : Nat, x = (i : Int) ∧ i < n ∧ S.testBit i = true
 len : l.length ≤ n
theorem zvw.eq {S n : Nat} {l l' : List Int} (h : zvw S n l) (h' : zvw S n l') : l = l' := zVu h.climbs h'.climbs fun x => (h.mem x).trans (h'.mem x).symm
structure Caps (b : za) : Prop where
 moves : b.Moves.2 = .nil → b.Moves.1 = []
 deliveries : b.Deliveries.2 = .nil → b.Deliveries.1 = []
 counts : b.Counts.2 = .nil → b.Counts.1 = []
end Go.AM
set_option linter.unusedVariables false
namespace Go.AM
open Go
abbrev zCz (l : List Nat) : Prop := l.Pairwise (· < ·)
def ltL (a c : List Nat) : Prop := ∃ x, x ∈ a ∧ x ∉ c ∧ ∀ y, y < x → (y ∈ a ↔ y ∈ c)
theorem zTz {a c : List Nat} (h : ltL a c) (g : ltL c a) : False := by
 obtain ⟨x, h1, h2, h3⟩ := h
 obtain ⟨y, g1, g2, g3⟩ := g
 rcases Nat.lt_trichotomy x y with h4 | h4 | h4
 ·exact h2 ((g3 x h4).2 h1)
 ·subst h4; exact h2 g1
 ·exact g2 ((h3 y h4).2 g1)
def leS (a c : List Nat) : Prop := a.length < c.length ∨ (a.length = c.length ∧ (a = c ∨ ltL a c))
theorem zjz {a c : List Nat} (h : leS a c) (g : leS c a) : a = c := by
 rcases h with h | ⟨h, h'⟩ <;> rcases g with g | ⟨g, g'⟩
 ·omega
 ·omega
 ·omega
 ·rcases h' with rfl | h'
  ·rfl
  ·rcases g' with rfl | g'
   ·rfl
   ·exact (zTz h' g').elim
structure Best (n : Nat) (P : List Nat → Prop) (l : List Nat) : Prop where
 climb : zCz l
 lt : ∀ i ∈ l, i < n
 ok : P l
 least : ∀ l', zCz l' → (∀ i ∈ l', i < n) → P l' → leS l l'
theorem Best.eq {n : Nat} {P : List Nat → Prop} {l l' : List Nat} (h : Best n P l) (g : Best n P l') : l = l' := zjz (h.least l' g.climb g.lt g.ok) (g.least l h.climb h.lt h.ok)
end Go.AM
set_option linter.unusedVariables false
namespace Go.AM
open Go
theorem Ok.held {f : Bool × Int → Option ((Bool × Int) ⊕ (Bool × Int))} (acc : Bool) (n : Nat)
  (next : acc = true → ∀ j : Nat, j < n → Ok (f (true, (j : Int))) (fun x => x = .inl (true, ((j + 1 : Nat) : Int))))
  (out : ∀ i, f (false, i) = some (.inr (false, i)))
  (last : f (true, (n : Int)) = some (.inr (true, (n : Int)))) {k : Nat} (hk : n < k) : Ok (Go.AM.iter f k (acc, 0)) (fun r => r.1 = acc) := by
 cases acc with
 | false =>
  refine Ok.count 0 (fun j s => s = (false, 0)) (fun j s hj => absurd hj (by omega)) ?_ rfl (by omega)
  rintro s rfl
  rw [out]
  exact Ok.pure rfl
 | true =>
  refine Ok.count n (fun j s => s = (true, (j : Int))) ?_ ?_ rfl hk
  ·rintro j s hj rfl
   refine (next rfl j hj).mono ?_
   rintro x rfl
   rfl
  ·rintro s rfl
   rw [last]
   exact Ok.pure rfl
def z2b (b : za) (C : SL zq) : za := ⟨b.Days, b.Shelves, b.Moves, b.Deliveries, C⟩
theorem zSq {b : za} {C : SL zq} {s l l' : Int} : ∀ (ws : List zF) (m n : Nat), Run ⟨b, s, l⟩ ws m n → Run ⟨z2b b C, s, l'⟩ ws m n
 | [], m, n, h => h
 | w :: t, m, n, ⟨q, h1, h2, h3⟩ => ⟨q, h1, h2, zSq t q n h3⟩
theorem zOk {b : za} {C : SL zq} {s l l' : Int} (h : ∀ (day : Nat) n, zNb ⟨b, s, l⟩ (day : Int) n → zNb ⟨z2b b C, s, l'⟩ (day : Int) n) {N : Nat} {Cs v : Nat → Nat} (hc : zrd ⟨b, s, l⟩ N Cs v) : zrd ⟨z2b b C, s, l'⟩ N Cs v := by
 refine ⟨hc.c0, hc.v0, fun e he => ?_⟩
 obtain ⟨h1, h2, h3, h4⟩ := hc.step e he
 exact ⟨h1, h2, zSq _ _ _ h3, h e _ h4⟩
end Go.AM
set_option linter.unusedVariables false
namespace Go.AM
open Go
theorem zfv {m : Nat} {b : za} (hf : zCi m b) {C : SL zq} (hn : C.1.length ≤ 40) (hC : ∀ c ∈ C.1, zng b c) : zCi 40 (z2b b C) :=
 ⟨hf.days, hf.nshelves, hf.nmoves, hf.ndeliveries, hn, hf.shelves, hf.moves, hf.deliveries, hC⟩
theorem z3s {b : za} {C : SL zq} {s l l' : Int} {N : Nat} {Cs v : Nat → Nat} (hc : zrd ⟨b, s, l⟩ N Cs v) (h : ∀ e : Nat, e < N → zNb ⟨b, s, l⟩ (e : Int) (v (e + 1)) → zNb ⟨z2b b C, s, l'⟩ (e : Int) (v (e + 1))) : zrd ⟨z2b b C, s, l'⟩ N Cs v := by
 refine ⟨hc.c0, hc.v0, fun e he => ?_⟩
 obtain ⟨h1, h2, h3, h4⟩ := hc.step e he
 exact ⟨h1, h2, zSq _ _ _ h3, h e he h4⟩
theorem z6t {b : za} {C : List zq} {c : zq} {κ κ' : Cap} {s : Int} (day : Int) (n : Nat) : zNb ⟨z2b b (C ++ [c], κ), s, 0⟩ day n ↔ zNb ⟨z2b b (C, κ'), s, 0⟩ day n ∧ (c.Day = day → c.Shelf = s → c.Read - c.Err ≤ (n : Int) ∧ (n : Int) ≤ c.Read + c.Err) := by
 unfold zNb znh
 constructor
 ·intro h
  refine ⟨fun i c' hi hd hs hl => h i c' ?_ hd hs (by simp), fun hd hs => h C.length c ?_ hd hs (by simp)⟩
  ·have hi' : C[i]? = some c' := hi
   show (C ++ [c])[i]? = some c'
   rw [List.getElem?_append_left (List.getElem?_eq_some_iff.1 hi').1]; exact hi'
  ·show (C ++ [c])[C.length]? = some c
   simp
 ·rintro ⟨h1, h2⟩ i c' hi hd hs hl
  have hi' : (C ++ [c])[i]? = some c' := hi
  by_cases e : i < C.length
  ·rw [List.getElem?_append_left e] at hi'
   exact h1 i c' hi' hd hs (by simp)
  ·rw [List.getElem?_append_right (by omega)] at hi'
   have := List.mem_of_getElem? hi'
   rw [List.mem_singleton] at this
   subst this
   exact h2 hd hs
def zOs (k : Nat) (b : za) (s : Int) (κ : List zq → Cap) (φ : List zq → Bool) (j : Int) (C : List zq) (fl : Bool) (out : List Int) : Option ((Int × (List zq) × Bool × (List Int)) ⊕ (Int × (List zq) × Bool × (List Int))) :=
 cond (decide (j < b.Days)) (
 (zpb k (⟨z2b b (C, κ C), s, 0⟩ : zd)).bind fun v =>
 cond (decide (0 ≤ j) && decide (j < 12)) (
 (zIb k (fun k => v (j.toNat * 61 + k))).bind fun t =>
 cond (decide (C.length + 1 ≤ LIM)) (
 cond (decide (out.length + 1 ≤ LIM)) (
 some (Sum.inl ((w64 (j + 1)), (C ++ [(⟨j, s, t.Low, 0⟩ : zq)]), φ C, (out ++ [t.Low])))) none) none) none) (
 some (Sum.inr (j, C, fl, out)))
theorem zbx (k : Nat) (b : za) (s d n : Int) (v1 : Bool × Int) (j : Int) (C : List zq) (fl : Bool) (out : List Int) : zlj k b s d n v1 j C fl out = zOs k b s (rcap true) (fun C => false || (true && C.isEmpty)) j C fl out := rfl
theorem zpw (k : Nat) (b : za) (s d n : Int) (v1 : Bool × Int) (j : Int) (C : List zq) (fl : Bool) (out : List Int) : zfj k b s d n v1 j C fl out = zOs k b s (rcap false) (fun C => false || (false && C.isEmpty)) j C fl out := rfl
def zgs (b : za) (s d n : Int) (out : List Int) : Prop := ∃ Cs v, zrd ⟨b, s, 0⟩ (Nd ⟨b, s, 0⟩) Cs v ∧ out.length = b.Days.toNat ∧ (∀ k, k < b.Days.toNat → out[k]? = some ((v (k + 1) : Nat) : Int)) ∧ ((v (d.toNat + 1) : Nat) : Int) = n
structure zXq (b : za) (s d n : Int) (j : Nat) (C : List zq) (out : List Int) : Prop where
 len : C.length = b.Counts.1.length + 1 + j
 fine : ∀ c ∈ C, zng b c
 olen : out.length = j
 chain : ∃ Cs v, zrd ⟨z2b b (C, Cap.nil), s, 0⟩ (Nd ⟨b, s, 0⟩) Cs v
 all : ∀ Cs v, zrd ⟨z2b b (C, Cap.nil), s, 0⟩ (Nd ⟨b, s, 0⟩) Cs v → zrd ⟨b, s, 0⟩ (Nd ⟨b, s, 0⟩) Cs v ∧ (∀ k, k < j → out[k]? = some ((v (k + 1) : Nat) : Int)) ∧ ((v (d.toNat + 1) : Nat) : Int) = n
theorem zov {b : za} (hf : Fine b) {k : Nat} (hk : 5000 < k) {s d n : Int} (hq : zQf b s d) (κ : List zq → Cap) (φ : List zq → Bool) {C0 : List zq} (h0 : zXq b s d n 0 C0 []) (fl : Bool) :
  Ok (iter (fun z => zOs k b s κ φ z.1 z.2.1 z.2.2.1 z.2.2.2) k (0, C0, fl, [])) (fun r => zgs b s d n r.2.2.2) := by
 have hdays := hf.days
 have hn := hf.ncounts
 have hN : Nd (⟨b, s, 0⟩ : zd) = b.Days.toNat := rfl
 refine Ok.count b.Days.toNat (fun j z => z.1 = (j : Int) ∧ zXq b s d n j z.2.1 z.2.2.2) ?_ ?_ ⟨rfl, h0⟩ (by omega)
 ·rintro j ⟨j', C, fl, out⟩ hj ⟨hj', hI⟩
  obtain rfl : j' = (j : Int) := hj'
  obtain ⟨h1, h2, h3, h4, h5⟩ := hI
  have hlenC : C.length = b.Counts.1.length + 1 + j := h1
  have hlenO : out.length = j := h3
  have c1 : decide ((j : Int) < b.Days) = true := by simp; omega
  have c2 : (decide (0 ≤ (j : Int)) && decide ((j : Int) < 12)) = true := by simp; omega
  have c3 : w64 ((j : Int) + 1) = ((j + 1 : Nat) : Int) := z6 (n := 12) (by omega) (by omega)
  have hfx : zCi 40 (z2b b (C, κ C)) := zfv hf (by show C.length ≤ 40; omega) h2
  have hfx' : zCi 40 (z2b b (C, Cap.nil)) := zfv hf (by show C.length ≤ 40; omega) h2
  have hs1 : 0 ≤ s ∧ s ≤ (b.Shelves.1.length : Int) - 1 := hq.1
  have hx : On (⟨z2b b (C, κ C), s, 0⟩ : zd) := ⟨hfx, hs1.1, by show s < (b.Shelves.1.length : Int); omega, Int.le_refl _, by show (0 : Int) < _; omega⟩
  have hx' : On (⟨z2b b (C, Cap.nil), s, 0⟩ : zd) := ⟨hfx', hs1.1, by show s < (b.Shelves.1.length : Int); omega, Int.le_refl _, by show (0 : Int) < _; omega⟩
  have toK : ∀ {Cs v}, zrd ⟨z2b b (C, Cap.nil), s, 0⟩ (Nd ⟨b, s, 0⟩) Cs v → zrd ⟨z2b b (C, κ C), s, 0⟩ (Nd ⟨b, s, 0⟩) Cs v := fun h => zOk (b := z2b b (C, Cap.nil)) (C := (C, κ C)) (fun _ _ h => h) h
  have ofK : ∀ {Cs v}, zrd ⟨z2b b (C, κ C), s, 0⟩ (Nd ⟨b, s, 0⟩) Cs v → zrd ⟨z2b b (C, Cap.nil), s, 0⟩ (Nd ⟨b, s, 0⟩) Cs v := fun h => zOk (b := z2b b (C, κ C)) (C := (C, Cap.nil)) (fun _ _ h => h) h
  simp only [zOs, c1, c2, cond_true, c3]
  refine Ok.bind (zgu hx hk) fun v hv => ?_
  refine Ok.bind (zpA hk _) fun t ht => ?_
  have hcan : zmj (⟨z2b b (C, κ C), s, 0⟩ : zd) := by
   obtain ⟨Cs, v, h⟩ := h4
   exact (zEo hx).2 ⟨Cs, v, toK h⟩
  have hdl : (((j : Int).toNat : Nat) : Int) < (z2b b (C, κ C)).Days := by show (((j : Int).toNat : Nat) : Int) < b.Days; omega
  have hends := zrx (b := z2b b (C, κ C)) hx hcan hdl (fun n hn => zbu hx hv hdl hn) ht
  rw [Int.toNat_natCast] at hends
  obtain ⟨m, hm, hst⟩ := hends.1
  have hdl2 : (j : Int) < (z2b b (C, κ C)).Days := by show (j : Int) < b.Days; omega
  have hm60 := zCk hx hst
  have hlim1 : C.length + 1 ≤ 1000000 := by omega
  have hlim2 : out.length + 1 ≤ 1000000 := by omega
  rw [zKh hlim1, zKh hlim2, cond_true, cond_true]
  have hlets : ∀ (day : Int) (q : Nat), zNb ⟨z2b b (C ++ [(⟨(j : Int), s, t.Low, 0⟩ : zq)], Cap.nil), s, 0⟩ day q ↔ zNb ⟨z2b b (C, Cap.nil), s, 0⟩ day q ∧ ((j : Int) = day → (q : Int) = t.Low) := by
   intro day q
   rw [z6t (κ' := Cap.nil)]
   refine and_congr_right fun _ => ?_
   simp only
   constructor
   ·intro h hd; have := h hd trivial; omega
   ·intro h hd _; have := h hd; omega
  refine Ok.pure ⟨rfl, ?_⟩
  show zXq b s d n (j + 1) (C ++ [(⟨(j : Int), s, t.Low, 0⟩ : zq)]) (out ++ [t.Low])
  refine ⟨by simp; omega, fun c hc => ?_, by simp; omega, ?_, fun Cs v hch => ?_⟩
  ·rcases List.mem_append.1 hc with h | h
   ·exact h2 c h
   ·rw [List.mem_singleton.1 h]
    refine ⟨⟨?_, ?_⟩, hs1, ⟨?_, ?_⟩, ?_, ?_⟩ <;> simp only <;> omega
  ·obtain ⟨Cs, v, hch, hvm⟩ := (z4i hx hdl2).1 hst
   refine ⟨Cs, v, z3s (b := z2b b (C, Cap.nil)) (C := (C ++ [(⟨(j : Int), s, t.Low, 0⟩ : zq)], Cap.nil)) (ofK hch) fun e he h => ?_⟩
   refine (hlets e _).2 ⟨h, fun hje => ?_⟩
   obtain rfl : j = e := by omega
   rw [hvm, hm]
  ·have hch2 : zrd ⟨z2b b (C, Cap.nil), s, 0⟩ (Nd ⟨b, s, 0⟩) Cs v := zOk (b := z2b b (C ++ [(⟨(j : Int), s, t.Low, 0⟩ : zq)], Cap.nil)) (C := (C, Cap.nil)) (fun day q h => ((hlets day q).1 h).1) hch
   obtain ⟨h6, h7, h8⟩ := h5 Cs v hch2
   refine ⟨h6, fun i hi => ?_, h8⟩
   by_cases e : i = j
   ·subst e
    have h9 := ((hlets _ _).1 (hch.step i (by rw [hN]; omega)).2.2.2).2 rfl
    rw [← hlenO, List.getElem?_append_right (Nat.le_refl _), Nat.sub_self]
    show some t.Low = _
    rw [hlenO, h9]
   ·rw [List.getElem?_append_left (by omega)]
    exact h7 i (by omega)
 ·rintro ⟨j', C, fl, out⟩ ⟨hj', hI⟩
  have hj2 : j' = (b.Days.toNat : Int) := hj'
  have c1 : decide (j' < b.Days) = false := by simp only [decide_eq_false_iff_not]; omega
  simp only [zOs, c1, cond_false]
  obtain ⟨Cs, v, hch⟩ := hI.chain
  obtain ⟨h1, h2, h3⟩ := hI.all Cs v hch
  exact Ok.pure ⟨Cs, v, h1, hI.olen, h2, h3⟩
def zcA (b : za) (s d n : Int) (r : SL Int × Int) : Prop :=
 (r.2 ≠ 0 ∧ r.2 ≠ 4 ∧ r.1.1 = [] ∧ AskE b (zQf b s d) (z2c b 0) r.2) ∨
 (r.2 = 4 ∧ r.1.1 = [] ∧ (Fine b ∧ zQf b s d ∧ z2c b 0) ∧ ¬ z9i b s d.toNat n) ∨
 (r.2 = 0 ∧ (Fine b ∧ zQf b s d ∧ z2c b 0) ∧ z9i b s d.toNat n ∧ zgs b s d n r.1.1)
theorem zZz {b : za} {k : Nat} (hs : zxe b) (hcp : Caps b) (hd : b.Days ≤ 9223372036854775807) (hk : Fuel k b) (s d n : Int) : Ok (zzi k b s d n) (zcA b s d n) := by
 have hk0 := hk.k0
 unfold zzi
 refine Ok.bind (zrA hs hd hk s d n) fun e he => ?_
 obtain ⟨hE, hcan⟩ := he
 cases hc0 : e.2 != 0 with
 | true =>
  rw [cond_true]
  have hne : e.2 ≠ 0 := by simpa using hc0
  have := hE.cases
  exact Ok.pure (.inl ⟨hne, by show e.2 ≠ 4; omega, rfl, hE⟩)
 | false =>
  rw [cond_false]
  have he0 : e.2 = 0 := by simpa using hc0
  obtain ⟨hf, hq, hT⟩ := hE.ok he0
  cases hb : e.1 with
  | false =>
   refine Ok.pure (.inr (.inl ⟨rfl, rfl, ⟨hf, hq, hT⟩, fun h => ?_⟩))
   have := hcan.2 ⟨he0, h⟩
   rw [hb] at this; cases this
  | true =>
   obtain ⟨_, hst⟩ := hcan.1 hb
   rw [Bool.not_true, cond_false]
   have hn := hf.ncounts
   have hdays := hf.days
   have hq2 := hq.2
   have hinv : zXq b s d n 0 (b.Counts.1 ++ [(⟨d, s, n, 0⟩ : zq)]) [] := by
    obtain ⟨m, rfl, hst⟩ := hst
    have hx := z6q hf hq
    have hm60 := zCk hx hst
    have hlets : ∀ (day : Int) (q : Nat), zNb ⟨z2b b (b.Counts.1 ++ [(⟨d, s, (m : Int), 0⟩ : zq)], Cap.nil), s, 0⟩ day q ↔ zNb ⟨b, s, 0⟩ day q ∧ (d = day → (q : Int) = m) := by
     intro day q
     rw [z6t (κ' := b.Counts.2)]
     refine and_congr Iff.rfl ?_
     simp only
     constructor
     ·intro h hd; have := h hd trivial; omega
     ·intro h hd _; have := h hd; omega
    refine ⟨by simp, fun c hc => ?_, rfl, ?_, fun Cs v hch => ⟨?_, fun k hk => absurd hk (by omega), ?_⟩⟩
    ·rcases List.mem_append.1 hc with h | h
     ·exact hf.counts c h
     ·rw [List.mem_singleton.1 h]
      refine ⟨⟨?_, ?_⟩, hq.1, ⟨?_, ?_⟩, ?_, ?_⟩ <;> simp only <;> omega
    ·have hdl : ((d.toNat : Nat) : Int) < (⟨b, s, 0⟩ : zd).ShelfBook.Days := by show ((d.toNat : Nat) : Int) < b.Days; omega
     obtain ⟨Cs, v, hch, hvm⟩ := (z4i hx hdl).1 hst
     refine ⟨Cs, v, z3s hch fun e he h => (hlets e _).2 ⟨h, fun hde => ?_⟩⟩
     have : d.toNat = e := by omega
     rw [← this, hvm]
    ·exact zOk (b := z2b b (b.Counts.1 ++ [(⟨d, s, (m : Int), 0⟩ : zq)], Cap.nil)) (C := b.Counts) (fun day q h => ((hlets day q).1 h).1) hch
    ·have h9 := (hch.step d.toNat (by show d.toNat < b.Days.toNat; omega)).2.2.2
     exact ((hlets _ _).1 h9).2 (by omega)
   by_cases hnil : b.Counts.2 = .nil
   ·have hC := hcp.counts hnil
    have c1 : decide (b.Counts.2 = .nil) = true := by simp [hnil]
    rw [hC, List.nil_append] at hinv
    rw [c1, cond_true, show decide ((([] : List zq)).length + 1 ≤ LIM) = true from zKh (n := 1) (by decide), cond_true]
    simp only [zbx]
    exact Ok.bind (zov hf hk0 hq _ _ hinv true) fun r hr => Ok.pure (.inr (.inr ⟨rfl, ⟨hf, hq, hT⟩, hst, hr⟩))
   ·have c1 : decide (b.Counts.2 = .nil) = false := by simp [hnil]
    have hl1 : b.Counts.1.length ≤ 1000000 := by omega
    have hl2 : b.Counts.1.length + 1 ≤ 1000000 := by omega
    rw [c1, cond_false, zKh hl1, zKh hl2, cond_true, cond_true]
    simp only [zpw]
    exact Ok.bind (zov hf hk0 hq _ _ hinv true) fun r hr => Ok.pure (.inr (.inr ⟨rfl, ⟨hf, hq, hT⟩, hst, hr⟩))
end Go.AM
set_option linter.unusedVariables false
namespace Go.AM
open Go
def zNj (l : List Int) (e : Ev) : Ev := if 0 ≤ e.day then ⟨e.by_, comm e.within ⟨(l[e.day.toNat]?).getD 0, (l[e.day.toNat]?).getD 0⟩, e.move, e.day⟩ else e
theorem zRv (k : Nat) (b : za) (s : Int) (w : SL Int) (v : zi) (d : Int) (acc : List Ev) : zSd k b s w v d acc = zLb k b s w 0 v d acc := rfl
theorem zQy {k : Nat} (hk : 5000 < k) {b : za} {s i : Int} {l : SL Int} {ws : SL (SL Int)} {L : List Ev} (hL : L.length ≤ 1000) (hday : ∀ e ∈ L, e.day < (l.1.length : Int)) :
  Ok (iter (fun z => zWb k b s l ws i z.1 z.2) k (0, L)) (fun r => r.2 = L.map (zNj l.1)) := by
 refine Ok.count L.length (fun j z => z.1 = (j : Int) ∧ z.2.length = L.length ∧ ∀ t, z.2[t]? = if t < j then (L[t]?).map (zNj l.1) else L[t]?) ?_ ?_ ⟨rfl, rfl, fun t => by simp⟩ (by omega)
 ·rintro j ⟨j', M⟩ hj ⟨hj', hlen, hM⟩
  obtain rfl : j' = (j : Int) := hj'
  have hlen' : M.length = L.length := hlen
  have hjM : j < M.length := by omega
  have hget : M[j] = L[j] := by
   have h1 := hM j
   rw [if_neg (by omega), List.getElem?_eq_getElem hj] at h1
   have h2 : M[j]? = some M[j] := List.getElem?_eq_getElem hjM
   have h1' : M[j]? = some L[j] := h1
   rw [h2] at h1'
   exact Option.some.inj h1'
  have hd := hday _ (List.getElem_mem hj)
  have c1 : decide ((j : Int) < (M.length : Int)) = true := by simp; omega
  simp only [zWb, c1, cond_true, zbb hjM, Option.bind_some, z6 hj (by omega : L.length < 9223372036854775808), hget]
  have hge := List.getElem?_eq_getElem hj
  generalize L[j] = e at *
  by_cases h0 : 0 ≤ e.day
  ·have c2 : decide (e.day ≥ 0) = true := by simp; omega
   have hdl : e.day.toNat < l.1.length := by omega
   have hv : (l.1[e.day.toNat]?).getD 0 = l.1[e.day.toNat] := by rw [List.getElem?_eq_getElem hdl]; rfl
   rw [c2]
   simp only [zGc, cond_true, zbb hjM, zAs h0 hdl, Option.bind_some, zGm, zeo, hget]
   refine Ok.pure ⟨rfl, by show (List.set _ _ _).length = _; rw [List.length_set]; exact hlen', fun t => ?_⟩
   show (List.set _ _ _)[t]? = _
   rw [Int.toNat_natCast, List.getElem?_set]
   by_cases e1 : j = t
   ·subst e1
    rw [if_pos rfl, if_pos hjM, if_pos (by omega), hge]
    simp only [Option.map_some, zNj, h0, if_true, hv]
   ·rw [if_neg e1]
    have h1 : M[t]? = _ := hM t
    rw [h1]
    by_cases h2 : t < j
    ·rw [if_pos h2, if_pos (by omega)]
    ·rw [if_neg h2, if_neg (by omega)]
  ·have c2 : decide (e.day ≥ 0) = false := by simp only [decide_eq_false_iff_not]; omega
   rw [c2]
   simp only [zGc, cond_false, Option.bind_some]
   refine Ok.pure ⟨rfl, hlen', fun t => ?_⟩
   have h1 : M[t]? = _ := hM t
   show M[t]? = _
   rw [h1]
   by_cases e1 : t = j
   ·subst e1
    rw [if_neg (by omega), if_pos (by omega), hge]
    simp only [Option.map_some, zNj, h0, if_false]
   ·by_cases h2 : t < j
    ·rw [if_pos h2, if_pos (by omega)]
    ·rw [if_neg h2, if_neg (by omega)]
 ·rintro ⟨j', M⟩ ⟨hj', hlen, hM⟩
  obtain rfl : j' = (L.length : Int) := hj'
  have hlen' : M.length = L.length := hlen
  have c1 : decide ((L.length : Int) < (M.length : Int)) = false := by simp; omega
  simp only [zWb, c1, cond_false]
  refine Ok.pure ?_
  show M = _
  apply List.ext_getElem?
  intro t
  have h1 : M[t]? = _ := hM t
  rw [h1, List.getElem?_map]
  by_cases h2 : t < L.length
  ·rw [if_pos h2]
  ·rw [if_neg h2, List.getElem?_eq_none (by omega)]; rfl
theorem zZw {x : zd} {w : List Int} {N : Nat} {e : Ev} (h : e ∈ evsL x w N) : e.day < (N : Int) ∧ -1 ≤ e.day := by
 obtain ⟨i, hi⟩ := List.getElem?_of_mem h
 rcases zEp x w N i e hi with h | ⟨d, h1, h2, h3⟩ <;> omega
theorem zEx {b : za} (hf : Fine b) {k : Nat} (hk : 5000 < k) {s d n : Int} (hq : zQf b s d) {l : SL Int} (hl : zgs b s d n l.1) : Ok (zRd k b s l) (fun r => r = true) := by
 obtain ⟨Cs, v, hch, hlen, hall, hn⟩ := hl
 have hdays := hf.days
 have hx := z6q hf hq
 have hN : Nd (⟨b, s, 0⟩ : zd) = b.Days.toNat := rfl
 obtain ⟨w, V, hw, hV, hVv⟩ := zKp hx hch
 unfold zRd
 have c0 : ((l.1.length : Int) != b.Days) = false := by simp; omega
 rw [c0, cond_false]
 refine Ok.bind (zbw hx.fine hk s) fun ws hws => ?_
 obtain ⟨hwl, hwm⟩ := hws
 have hlb : ∀ t : Nat, 0 ≤ (l.1[t]?).getD 0 ∧ (l.1[t]?).getD 0 ≤ 60 := by
  intro t
  by_cases ht : t < b.Days.toNat
  ·rw [hall t ht]
   have h1 := (zli hx hch (t + 1) (by rw [hN]; omega)).1
   have h2 := hx.shelf.1.2
   simp only [Option.getD_some]
   omega
  ·rw [List.getElem?_eq_none (by omega)]
   simp
 have hmod : ∀ u : List Int, ∀ e ∈ (evsL (⟨b, s, 0⟩ : zd) u b.Days.toNat).map (zNj l.1), zHe e := by
  intro u e he
  obtain ⟨e0, he0, rfl⟩ := List.mem_map.1 he
  have h1 := zXt hx u _ _ he0
  unfold zNj
  split
  ·refine ⟨h1.1, h1.2.1, ?_⟩
   have h2 := hlb e0.day.toNat
   have h3 := h1.2.2
   have h4 : zcd (comm e0.within ⟨(l.1[e0.day.toNat]?).getD 0, (l.1[e0.day.toNat]?).getD 0⟩) 100 := by
    refine zHt ?_ ?_
    ·unfold zRb at h3; unfold zcd; omega
    ·unfold zcd; simp only; omega
   unfold zcd at h4
   unfold zRb
   omega
  ·exact h1
 refine Ok.bind (Ok.count ws.1.length (fun j z => z = (j : Int) ∧ ∀ i u, i < j → ws.1[i]? = some u → ¬ ∃ V, z1i (zK ⟨b, s, 0⟩).Begin ((evsL (⟨b, s, 0⟩ : zd) u.1 b.Days.toNat).map (zNj l.1)) V) (Q := fun r => ∃ z, r = .inl z) ?_ ?_ ⟨rfl, fun i u h => absurd h (by omega)⟩ (by omega)) fun r hr => ?_
 ·rintro j z hj ⟨rfl, hg⟩
  have hge := List.getElem?_eq_getElem hj
  have hway : Way ⟨b, s, 0⟩ ws.1[j].1 := (hwm _).1 ⟨_, List.getElem_mem hj, rfl⟩
  have hidx : idx b.Shelves.1 s = some (zK ⟨b, s, 0⟩) := hx.idx
  simp only [z4d, zmb hj, cond_true, zbb hj, Option.bind_some, hidx, zGm, zRv, z6 hj (by omega : ws.1.length < 9223372036854775808)]
  generalize ws.1[j] = u at *
  refine Ok.bind (zGr hx hk (w := u) hway.1) fun ev hev => ?_
  have hev' : ev.2 = evsL (⟨b, s, 0⟩ : zd) u.1 b.Days.toNat := hev
  have hel : ev.2.length ≤ 1000 := by
   rw [hev']
   have := zon hx u.1 b.Days.toNat
   omega
  refine Ok.bind (zQy hk hel (fun e he => by rw [hev'] at he; have := (zZw he).1; rw [hlen]; exact this)) fun m hm => ?_
  rw [hev'] at hm
  have hml : m.2.length ≤ 1000 := by rw [hm, List.length_map, ← hev']; exact hel
  refine Ok.bind (zxt hk (l := (m.2, rcap true m.2)) (z1u hx) (by show ∀ e ∈ m.2, zHe e; rw [hm]; exact hmod u.1) hml) fun st hst => ?_
  rcases hst with ⟨h1, h2⟩ | ⟨h1, _⟩
  ·rw [h1, cond_false]
   refine Ok.pure ⟨rfl, fun i u' hi hu' => ?_⟩
   by_cases e : i = j
   ·subst e
    rw [hge] at hu'; cases hu'
    have h3 : ¬ ∃ V, z1i (zK ⟨b, s, 0⟩).Begin m.2 V := h2
    rw [hm] at h3
    exact h3
   ·exact hg i u' (by omega) hu'
  ·rw [h1, cond_true]
   exact Ok.pure ⟨_, rfl⟩
 ·rintro z ⟨rfl, hg⟩
  exfalso
  obtain ⟨u, hu, rfl⟩ := (hwm w).2 hw
  obtain ⟨i, hi⟩ := List.getElem?_of_mem hu
  refine hg i u (List.getElem?_eq_some_iff.1 hi).1 hi ⟨V, hV.1, zvx.2 fun i e he => ?_⟩
  have h1 := hV.2 i e he
  unfold zNj
  split
  ·rename_i h0
   refine ⟨h1.1, ?_⟩
   rw [zCj]
   refine ⟨h1.2, ?_⟩
   rcases zEp _ _ _ _ _ he with h2 | ⟨d', h2, h3, h4⟩
   ·omega
   ·have h5 := hVv (d' + 1) (by omega)
    rw [h3, h5]
    have h6 := hall d' h2
    have h7 : e.day.toNat = d' := by omega
    rw [h7, h6]
    exact ⟨Int.le_refl _, Int.le_refl _⟩
  ·exact h1
 ·obtain ⟨z, rfl⟩ := hr
  exact Ok.pure rfl
theorem zgz {b : za} {k : Nat} (hs : zxe b) (hd : b.Days ≤ 9223372036854775807) (hk : Fuel k b) (hk2 : 400000 < k) (s d n : Int) : Ok (zJe k b s d n) (fun e => (e ≠ 0 ∧ e ≠ 4 ∧ AskE b (zQf b s d) (z2c b 0) e) ∨ (e = 4 ∧ (Fine b ∧ zQf b s d ∧ z2c b 0) ∧ ¬ z9i b s d.toNat n) ∨ (e = 0 ∧ (Fine b ∧ zQf b s d ∧ z2c b 0) ∧ z9i b s d.toNat n)) := by
 unfold zJe
 refine Ok.bind (zBy hs hd hk hk2 s d n) fun e he => ?_
 obtain ⟨hE, hcan⟩ := he
 unfold zSe
 by_cases h0 : e.2 = 0
 ·have c1 : (e.2 == 0) = true := by simp [h0]
  obtain ⟨hf, hq, hT⟩ := hE.ok h0
  rw [c1, cond_true]
  cases hb : e.1 with
  | true =>
   rw [h0]
   exact Ok.pure (.inr (.inr ⟨rfl, ⟨hf, hq, hT⟩, (hcan.1 hb).2⟩))
  | false =>
   refine Ok.pure (.inr (.inl ⟨rfl, ⟨hf, hq, hT⟩, fun h => ?_⟩))
   have := hcan.2 ⟨h0, h⟩
   rw [hb] at this; cases this
 ·have c1 : (e.2 == 0) = false := by simp [h0]
  rw [c1, cond_false]
  have := hE.cases
  exact Ok.pure (.inl ⟨h0, by show e.2 ≠ 4; omega, hE⟩)
theorem zqu {b : za} {k : Nat} (hs : zxe b) (hcp : Caps b) (hd : b.Days ≤ 9223372036854775807) (hk : Fuel k b) (hk2 : 400000 < k) (hc : zxc k = some true) (n : Nat → Int) : zXb k b n = some true := by
 apply Ok.eq
 have hk0 := hk.k0
 unfold zXb
 refine Ok.bind (zZz hs hcp hd hk _ _ _) fun r hr => ?_
 refine Ok.bind (zgz hs hd hk hk2 _ _ _) fun e he => ?_
 have heq : r.2 = e := by
  rcases hr with ⟨h1, h2, _, h3⟩ | ⟨h1, _, h2, h3⟩ | ⟨h1, h2, h3, _⟩ <;> rcases he with ⟨g1, g2, g3⟩ | ⟨g1, g2, g3⟩ | ⟨g1, g2, g3⟩
  ·exact h3.eq g3
  ·exact absurd (h3.eq (.inr (.inr (.inr ⟨g2.1, g2.2.1, g2.2.2, rfl⟩)))) h1
  ·exact absurd (h3.eq (.inr (.inr (.inr ⟨g2.1, g2.2.1, g2.2.2, rfl⟩)))) h1
  ·exact absurd (g3.eq (.inr (.inr (.inr ⟨h2.1, h2.2.1, h2.2.2, rfl⟩)))) g1
  ·omega
  ·exact absurd g3 h3
  ·exact absurd (g3.eq (.inr (.inr (.inr ⟨h2.1, h2.2.1, h2.2.2, rfl⟩)))) g1
  ·exact absurd h3 g3
  ·omega
 have c1 : (r.2 != e) = false := by simp [heq]
 rw [c1, cond_false]
 by_cases h0 : e = 0
 ·have c2 : (e != 0) = false := by simp [h0]
  rw [c2, cond_false]
  rcases hr with ⟨h1, _⟩ | ⟨h1, _⟩ | ⟨_, ⟨hf, hq, hT⟩, _, hl⟩
  ·omega
  ·omega
  ·refine Ok.bind (zEx hf hk0 hq hl) fun v hv => ?_
   subst hv
   obtain ⟨Cs, v, hch, hlen, hall, hn⟩ := hl
   have hq2 := hq.2
   have hdays := hf.days
   have hq2' : 0 ≤ n (1 + 0) ∧ n (1 + 0) ≤ b.Days - 1 := hq2
   have c3 : decide ((r.1.1.length : Int) > (fun k => n (1 + k)) 0) = true := by simp only [decide_eq_true_eq]; omega
   have hidx : idx r.1.1 ((fun k => n (1 + k)) 0) = some (n 2) := by
    have hlt : (n (1 + 0)).toNat < b.Days.toNat := by omega
    have h5 := hall _ hlt
    show idx r.1.1 (n (1 + 0)) = _
    rw [zAs hq2'.1 (by omega), ← List.getElem?_eq_getElem (by omega), h5]
    exact congrArg some hn
   rw [cond_true, c3, cond_true, hidx, Option.bind_some, BEq.rfl, cond_true, hc]
   exact Ok.pure rfl
 ·have c2 : (e != 0) = true := by simp [h0]
  rw [c2, cond_true]
  have hnil : r.1.1 = [] := by
   rcases hr with ⟨_, _, h, _⟩ | ⟨_, h, _⟩ | ⟨h, _⟩
   ·exact h
   ·exact h
   ·omega
  rw [hnil, show (((([] : List Int).length : Nat) : Int) == 0) = true from rfl, cond_true, hc]
  exact Ok.pure rfl
end Go.AM
set_option linter.unusedVariables false
namespace Go.AM
open Go
def z1b (x : zi) : Prop := (-9223372036854775808 ≤ x.Low ∧ x.Low ≤ 9223372036854775807) ∧ (-9223372036854775808 ≤ x.High ∧ x.High ≤ 9223372036854775807) ∧ True
def zvg (x : zW) : Prop := z1b x.Begin ∧ (-9223372036854775808 ≤ x.Room ∧ x.Room ≤ 9223372036854775807) ∧ True
def zSg (x : zE) : Prop := (-9223372036854775808 ≤ x.Day ∧ x.Day ≤ 9223372036854775807) ∧ (-9223372036854775808 ≤ x.Shelf ∧ x.Shelf ≤ 9223372036854775807) ∧ True ∧ z1b x.By ∧ True
def z0e (x : zt) : Prop := (-9223372036854775808 ≤ x.Shelf ∧ x.Shelf ≤ 9223372036854775807) ∧ z1b x.Days ∧ z1b x.By ∧ True
def ztg (x : zq) : Prop := (-9223372036854775808 ≤ x.Day ∧ x.Day ≤ 9223372036854775807) ∧ (-9223372036854775808 ≤ x.Shelf ∧ x.Shelf ≤ 9223372036854775807) ∧ (-9223372036854775808 ≤ x.Read ∧ x.Read ≤ 9223372036854775807) ∧ (-9223372036854775808 ≤ x.Err ∧ x.Err ≤ 9223372036854775807) ∧ True
def z0c (x : za) : Prop := (-9223372036854775808 ≤ x.Days ∧ x.Days ≤ 9223372036854775807) ∧ zTh (fun a => zvg a) x.Shelves ∧ zTh (fun a => zSg a) x.Moves ∧ zTh (fun a => z0e a) x.Deliveries ∧ zTh (fun a => ztg a) x.Counts ∧ True
end Go.AM
set_option maxRecDepth 1000000
namespace Go.AM
open Go
theorem zrv (k : Nat) : zxc (k + 300) = some true := by kernel_rfl
end Go.AM
set_option linter.unusedVariables false
namespace Go.AM
open Go
theorem zOw {b : za} (h : z0c b) : zxe b ∧ b.Days ≤ 9223372036854775807 := by
 obtain ⟨⟨_, h0⟩, h1, h2, h3, h4, _⟩ := h
 have e : maxLen = 9223372036854775807 := by decide
 have l1 := h1.2.2
 have l2 := h2.2.2
 have l3 := h3.2.2
 have l4 := h4.2.2
 rw [e] at l1 l2 l3 l4
 exact ⟨⟨by omega, by omega, by omega, by omega⟩, h0⟩
def zOu (b : za) : Nat := 500000 + b.Shelves.1.length + b.Moves.1.length + b.Deliveries.1.length + b.Counts.1.length
theorem zsA (b : za) : Fuel (zOu b + 300) b := by
 unfold zOu
 exact ⟨by omega, by omega, by omega, by omega, by omega⟩
theorem z0r {α : Type} {good : α → Prop} {s : SL α} (h : zTh good s) : s.2 = .nil → s.1 = [] := by
 intro e
 rcases h.2.1 with h | h
 ·exact h.2
 ·rw [h] at e; cases e
theorem zzx {b : za} (h : z0c b) : Caps b := by
 obtain ⟨_, h1, h2, h3, h4, _⟩ := h
 exact ⟨z0r h2, z0r h3, z0r h4⟩
end Go.AM
set_option linter.unusedVariables false
namespace Go.AM
open Go
theorem ziA (b : za) (n : Nat → Int) (hb : z0c b) (hn : ∀ k, k < 3 → -9223372036854775808 ≤ n k ∧ n k ≤ 9223372036854775807) : ∃ k, zXb k b n = some true := by
 obtain ⟨hs, hd⟩ := zOw hb
 exact ⟨_, zqu hs (zzx hb) hd (zsA b) (by unfold zOu; omega) (zrv _) n⟩
end Go.AM
