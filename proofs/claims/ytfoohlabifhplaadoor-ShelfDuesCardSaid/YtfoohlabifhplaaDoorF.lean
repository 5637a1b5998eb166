/- The statement ShelfWas holds for every input that its row lets in. Conditions: none. -/
import Derived.Test.YtfoohlabifhplaaDoorE
set_option linter.all false
set_option linter.unusedVariables false
namespace Go.AM
open Go
structure Chain (x : zd) (N : Nat) (Cs v : Nat → Nat) : Prop where
 c0 : Cs 0 = 0
 v0 : (shelfOf x).Begin.Low ≤ (v 0 : Int) ∧ (v 0 : Int) ≤ (shelfOf x).Begin.High
 step : ∀ e, e < N → Cs (e + 1) < nset x ∧ Via x (e : Int) (Cs e) (Cs (e + 1)) (v e) (v (e + 1))
theorem comes_chain (x : zd) : ∀ (d C n : Nat), Comes x d C n ↔ ∃ Cs v, Chain x d Cs v ∧ Cs d = C ∧ v d = n
 | 0, C, n => by
  constructor
  ·rintro ⟨rfl, h⟩
   exact ⟨fun _ => 0, fun _ => n, ⟨rfl, h, fun e he => absurd he (by omega)⟩, rfl, rfl⟩
  ·rintro ⟨Cs, v, h, rfl, rfl⟩
   exact ⟨h.c0, h.v0⟩
 | d + 1, C, n => by
  constructor
  ·rintro ⟨h1, B, m, h2, h3, h4⟩
   obtain ⟨Cs, v, h, rfl, rfl⟩ := (comes_chain x d B m).1 h3
   refine ⟨fun i => if i = d + 1 then C else Cs i, fun i => if i = d + 1 then n else v i, ⟨by simpa using h.c0, by simpa using h.v0, fun e he => ?_⟩, by simp, by simp⟩
   by_cases hd : e = d
   ·subst hd
    have : ¬ e = e + 1 := by omega
    simp only [this, if_true, if_false]
    exact ⟨h1, h4⟩
   ·have e1 : ¬ e = d + 1 := by omega
    have e2 : ¬ e + 1 = d + 1 := by omega
    simp only [e1, e2, if_false]
    exact h.step e (by omega)
  ·rintro ⟨Cs, v, h, rfl, rfl⟩
   have h1 := h.step d (by omega)
   have hB : Cs d < nset x := by
    cases d with
    | zero => rw [h.c0]; unfold nset; exact Nat.two_pow_pos _
    | succ d => exact (h.step d (by omega)).1
   exact ⟨h1.1, Cs d, v d, hB, (comes_chain x d _ _).2 ⟨Cs, v, ⟨h.c0, h.v0, fun e he => h.step e (by omega)⟩, rfl, rfl⟩, h1.2⟩
theorem goon_chain {x : zd} (hx : On x) {N : Nat} (hN : (N : Int) = x.ShelfBook.Days) : ∀ (t d : Nat) (Cs v : Nat → Nat), d + t = N → Chain x d Cs v → Goon x t (Cs d) (v d) → ∃ Cs' v', Chain x N Cs' v' ∧ (∀ i, i ≤ d → Cs' i = Cs i ∧ v' i = v i)
 | 0, d, Cs, v, hd, h, hg => ⟨Cs, v, (by omega : d = N) ▸ h, fun i _ => ⟨rfl, rfl⟩⟩
 | t + 1, d, Cs, v, hd, h, hg => by
  obtain ⟨h1, h2, C, n, h3, h4, h5⟩ := hg
  have he : x.ShelfBook.Days - 1 - (t : Int) = (d : Int) := by omega
  rw [he] at h4
  have hc : Chain x (d + 1) (fun i => if i = d + 1 then C else Cs i) (fun i => if i = d + 1 then n else v i) := by
   refine ⟨by simpa using h.c0, by simpa using h.v0, fun e he => ?_⟩
   by_cases hd : e = d
   ·subst hd
    have : ¬ e = e + 1 := by omega
    simp only [this, if_true, if_false]
    exact ⟨h3, h4⟩
   ·have e1 : ¬ e = d + 1 := by omega
    have e2 : ¬ e + 1 = d + 1 := by omega
    simp only [e1, e2, if_false]
    exact h.step e (by omega)
  obtain ⟨Cs', v', h6, h7⟩ := goon_chain hx hN t (d + 1) _ _ (by omega) hc (by simpa using h5)
  refine ⟨Cs', v', h6, fun i hi => ?_⟩
  have h8 := h7 i (by omega)
  have e1 : ¬ i = d + 1 := by omega
  simpa only [e1, if_false] using h8
theorem chain_in {x : zd} (hx : On x) {N : Nat} {Cs v : Nat → Nat} (h : Chain x N Cs v) : ∀ d, d ≤ N → (v d : Int) ≤ (shelfOf x).Room ∧ Cs d < nset x := by
 intro d hd
 have hc : Comes x d (Cs d) (v d) := (comes_chain x d _ _).2 ⟨Cs, v, ⟨h.c0, h.v0, fun e he => h.step e (by omega)⟩, rfl, rfl⟩
 refine ⟨comes_in hx _ _ _ hc, ?_⟩
 cases d with
 | zero => rw [h.c0]; unfold nset; exact Nat.two_pow_pos _
 | succ d => exact hc.1
theorem chain_goon {x : zd} (hx : On x) {N : Nat} (hN : (N : Int) = x.ShelfBook.Days) {Cs v : Nat → Nat} (h : Chain x N Cs v) : ∀ t d, d + t = N → Goon x t (Cs d) (v d)
 | 0, d, hd => ⟨(chain_in hx h d (by omega)).2, (chain_in hx h d (by omega)).1⟩
 | t + 1, d, hd => by
  have he : x.ShelfBook.Days - 1 - (t : Int) = (d : Int) := by omega
  have hs := h.step d (by omega)
  exact ⟨(chain_in hx h d (by omega)).2, (chain_in hx h d (by omega)).1, Cs (d + 1), v (d + 1), hs.1, by rw [he]; exact hs.2, chain_goon hx hN h t (d + 1) (by omega)⟩
theorem stock_chain {x : zd} (hx : On x) {day n : Nat} (hday : (day : Int) < x.ShelfBook.Days) : Stock x day n ↔ ∃ Cs v, Chain x x.ShelfBook.Days.toNat Cs v ∧ v (day + 1) = n := by
 have hN : ((x.ShelfBook.Days.toNat : Nat) : Int) = x.ShelfBook.Days := by omega
 constructor
 ·rintro ⟨C, h1, h2⟩
  obtain ⟨Cs, v, h, rfl, rfl⟩ := (comes_chain x _ _ _).1 h1
  obtain ⟨Cs', v', h3, h4⟩ := goon_chain hx hN _ (day + 1) Cs v (by omega) h h2
  exact ⟨Cs', v', h3, (h4 (day + 1) (by omega)).2⟩
 ·rintro ⟨Cs, v, h, rfl⟩
  exact ⟨Cs (day + 1), (comes_chain x _ _ _).2 ⟨Cs, v, ⟨h.c0, h.v0, fun e he => h.step e (by omega)⟩, rfl, rfl⟩, chain_goon hx hN h _ _ (by omega)⟩
theorem canBe_chain {x : zd} (hx : On x) : CanBe x ↔ ∃ Cs v, Chain x x.ShelfBook.Days.toNat Cs v := by
 constructor
 ·rintro ⟨C, n, h1, h2⟩
  obtain ⟨Cs, v, h, _⟩ := (comes_chain x _ _ _).1 h2
  exact ⟨Cs, v, h⟩
 ·rintro ⟨Cs, v, h⟩
  exact ⟨_, _, (chain_in hx h _ (Nat.le_refl _)).2, (comes_chain x _ _ _).2 ⟨Cs, v, h, rfl, rfl⟩⟩
end Go.AM
set_option linter.unusedVariables false
namespace Go.AM
open Go
theorem with_eq (k : Nat) (p : SL Int) (n : Int) (h : p.1.length ≤ 1000) : zEd k p n = some (p.1 ++ [n], .ro) := by
 have h1 : decide (p.1.length ≤ LIM) = true := decide_eq_true (by show _ ≤ 1073741824; omega)
 have h2 : decide (p.1.length + 1 ≤ LIM) = true := decide_eq_true (by show _ ≤ 1073741824; omega)
 simp [zEd, h1, h2, rcap]
def ext (v : SL Int) (lo : Int) (n : Nat) : List (SL Int) := (List.range n).map fun i : Nat => (v.1 ++ [lo + (i : Int)], Cap.ro)
theorem ways_L11 {k : Nat} (hk : 5000 < k) {b : zb} {p1 : Int} {out : SL (SL Int)} {a : Int} {d : zo} {last : Int × Bool} (hlo : 0 ≤ d.Days.Low) (hhi : last.1 ≤ 11) {i : Nat} (hi : i < out.1.length) (hw : out.1[i].1.length ≤ 3) (f : List (SL Int)) (hf : f.length ≤ 2000) :
  Ok (iter (fun s => zHb k b p1 out a d last (i : Int) s.1 s.2) k (d.Days.Low, f)) (fun r => r.2 = f ++ ext out.1[i] d.Days.Low (last.1 + 1 - d.Days.Low).toNat) := by
 refine Ok.count (last.1 + 1 - d.Days.Low).toNat (fun j z => z.1 = d.Days.Low + j ∧ z.2 = f ++ ext out.1[i] d.Days.Low j) ?_ ?_ ⟨by simp, by simp [ext]⟩ (by omega)
 ·rintro j ⟨c, g⟩ hj ⟨hc, hg⟩
  obtain rfl : c = d.Days.Low + j := hc
  obtain rfl : g = f ++ ext out.1[i] d.Days.Low j := hg
  have c1 : decide (d.Days.Low + (j : Int) ≤ last.1) = true := by simp; omega
  have c2 : w64 (d.Days.Low + (j : Int) + 1) = d.Days.Low + ((j + 1 : Nat) : Int) := by rw [w64_id (by omega) (by omega)]; push_cast; omega
  have hl : (f ++ ext out.1[i] d.Days.Low j).length ≤ 2020 := by simp [ext]; omega
  have c4 : decide ((f ++ ext out.1[i] d.Days.Low j).length + 1 ≤ LIM) = true := decide_eq_true (by show _ ≤ 1073741824; omega)
  simp only [zHb, c1, cond_true, idx_nat hi, Option.bind_some, with_eq k out.1[i] _ (by omega), c4, c2]
  refine Ok.pure ⟨rfl, ?_⟩
  simp [ext, List.range_succ]
 ·rintro ⟨c, g⟩ ⟨hc, hg⟩
  obtain rfl : c = d.Days.Low + ((last.1 + 1 - d.Days.Low).toNat : Int) := hc
  have c1 : decide (d.Days.Low + ((last.1 + 1 - d.Days.Low).toNat : Int) ≤ last.1) = false := by simp only [decide_eq_false_iff_not]; omega
  simp only [zHb, c1, cond_false]
  exact Ok.pure hg
theorem ways_L8 {k : Nat} (hk : 5000 < k) {b : zb} {p1 : Int} {out : SL (SL Int)} {a : Int} {d : zo} {last : Int × Bool} (hlo : 0 ≤ d.Days.Low) (hhi : last.1 ≤ 11) (hw : ∀ v ∈ out.1, v.1.length ≤ 3) (hl : out.1.length ≤ 144) :
  Ok (iter (fun s => zYb k b p1 out a d last s.1 s.2) k (0, [])) (fun r => r.2 = (out.1.flatMap fun v => ext v d.Days.Low (last.1 + 1 - d.Days.Low).toNat) ∧ r.2.length ≤ 12 * out.1.length) := by
 have hle : ∀ l : List (SL Int), (l.flatMap fun v => ext v d.Days.Low (last.1 + 1 - d.Days.Low).toNat).length ≤ 12 * l.length := by
  intro l
  induction l with
  | nil => simp
  | cons v t ih =>
   rw [List.flatMap_cons, List.length_append, List.length_cons]
   have : (ext v d.Days.Low (last.1 + 1 - d.Days.Low).toNat).length ≤ 12 := by simp [ext]; omega
   omega
 refine Ok.count out.1.length (fun j z => z.1 = (j : Int) ∧ z.2 = (out.1.take j).flatMap fun v => ext v d.Days.Low (last.1 + 1 - d.Days.Low).toNat) ?_ ?_ ⟨rfl, by simp⟩ (by omega)
 ·rintro j ⟨c, g⟩ hj ⟨hc, hg⟩
  obtain rfl : c = (j : Int) := hc
  have hg' : g = (out.1.take j).flatMap fun v => ext v d.Days.Low (last.1 + 1 - d.Days.Low).toNat := hg
  have hgl : g.length ≤ 2000 := by
   rw [hg']
   refine Nat.le_trans (hle _) ?_
   rw [List.length_take]; omega
  simp only [zYb, lt_cond hj, cond_true]
  refine Ok.bind (ways_L11 hk hlo hhi hj (hw _ (List.getElem_mem hj)) g hgl) fun r hr => ?_
  rw [succ_eq hj (by omega)]
  refine Ok.pure ⟨rfl, ?_⟩
  show r.2 = _
  rw [hr, hg', List.take_succ_eq_append_getElem hj, List.flatMap_append]
  simp
 ·rintro ⟨c, g⟩ ⟨hc, hg⟩
  obtain rfl : c = (out.1.length : Int) := hc
  have c1 : decide ((out.1.length : Int) < (out.1.length : Int)) = false := by simp
  simp only [zYb, c1, cond_false]
  rw [List.take_length] at hg
  refine Ok.pure ⟨hg, ?_⟩
  show g.length ≤ _
  have hg' : g = _ := hg
  rw [hg']
  exact hle _
def WayTo (b : zb) (s : Int) (j : Nat) (w : List Int) : Prop := w.length = j ∧ ∀ i d, i < j → b.Deliveries.1[i]? = some d → ∃ c, w[i]? = some c ∧ d.Days.Low ≤ c ∧ c ≤ (if d.Shelf = s then d.Days.High else d.Days.Low)
theorem wayTo_succ {b : zb} {s : Int} {j : Nat} (hj : j < b.Deliveries.1.length) (w : List Int) : WayTo b s (j + 1) w ↔ ∃ v c, w = v ++ [c] ∧ WayTo b s j v ∧ b.Deliveries.1[j].Days.Low ≤ c ∧ c ≤ (if b.Deliveries.1[j].Shelf = s then b.Deliveries.1[j].Days.High else b.Deliveries.1[j].Days.Low) := by
 constructor
 ·rintro ⟨h1, h2⟩
  obtain ⟨c, h3, h4⟩ := h2 j _ (by omega) (List.getElem?_eq_getElem hj)
  have h5 : w = w.take j ++ [c] := by
   have hl : j < w.length := by omega
   rw [List.getElem?_eq_getElem hl] at h3
   cases h3
   rw [← List.take_succ_eq_append_getElem hl, ← h1, List.take_length]
  refine ⟨w.take j, c, h5, ⟨by rw [List.length_take]; omega, fun i d hi hd => ?_⟩, h4⟩
  obtain ⟨c', h6, h7⟩ := h2 i d (by omega) hd
  exact ⟨c', by rw [List.getElem?_take_of_lt hi]; exact h6, h7⟩
 ·rintro ⟨v, c, rfl, ⟨h1, h2⟩, h3⟩
  refine ⟨by simp [h1], fun i d hi hd => ?_⟩
  by_cases e : i = j
  ·subst e
   rw [List.getElem?_eq_getElem hj] at hd
   cases hd
   exact ⟨c, by rw [← h1]; simp, h3⟩
  ·obtain ⟨c', h6, h7⟩ := h2 i d (by omega) hd
   exact ⟨c', by rw [List.getElem?_append_left (by omega)]; exact h6, h7⟩
theorem mem_ext {v : SL Int} {lo : Int} {n : Nat} {u : SL Int} : u ∈ ext v lo n ↔ ∃ i : Nat, i < n ∧ u = (v.1 ++ [lo + (i : Int)], Cap.ro) := by
 unfold ext
 rw [List.mem_map]
 constructor
 ·rintro ⟨i, hi, rfl⟩; exact ⟨i, List.mem_range.1 hi, rfl⟩
 ·rintro ⟨i, hi, rfl⟩; exact ⟨i, List.mem_range.2 hi, rfl⟩
theorem ways_ok {b : zb} (hb : Fine b) {k : Nat} (hk : 5000 < k) (s : Int) : Ok (zLd k b s) (fun r => r.1.length ≤ 1728 ∧ ∀ w, (∃ v ∈ r.1, v.1 = w) ↔ WayTo b s b.Deliveries.1.length w) := by
 have hn := hb.ndeliveries
 have hdays := hb.days
 unfold zLd
 refine Ok.bind (Ok.count b.Deliveries.1.length (fun j z => z.2 = (j : Int) ∧ z.1.1.length ≤ 12 ^ j ∧ ∀ w, (∃ v ∈ z.1.1, v.1 = w) ↔ WayTo b s j w) (Q := fun z : (SL (SL Int)) × Int => z.1.1.length ≤ 1728 ∧ ∀ w, (∃ v ∈ z.1.1, v.1 = w) ↔ WayTo b s b.Deliveries.1.length w) ?_ ?_ ⟨rfl, by simp, fun w => ?_⟩ (by omega)) fun r hr => Ok.pure hr
 ·rintro j ⟨out, i⟩ hj ⟨hi, hl, hw⟩
  obtain rfl : i = (j : Int) := hi
  have hd := hb.deliveries _ (List.getElem_mem hj)
  have hws := wayTo_succ (s := s) hj
  simp only [zUc, lt_cond hj, cond_true, idx_nat hj, Option.bind_some, succ_eq hj (by omega : b.Deliveries.1.length < 9223372036854775808)]
  generalize b.Deliveries.1[j] = d at *
  obtain ⟨_, ⟨hd1, hd2, hd3⟩, _⟩ := hd
  obtain ⟨last, hlast, hl1⟩ : ∃ last : Int × Bool, zSd k b s out (j : Int) d (d.Shelf != s) = some last ∧ last.1 = if d.Shelf = s then d.Days.High else d.Days.Low := by
   by_cases e : d.Shelf = s
   ·refine ⟨(d.Days.High, false), ?_, ?_⟩
    ·have : (d.Shelf != s) = false := by simp [e]
     rw [this]; rfl
    ·rw [if_pos e]
   ·refine ⟨(d.Days.Low, true), ?_, ?_⟩
    ·have : (d.Shelf != s) = true := by simp [e]
     rw [this]; rfl
    ·rw [if_neg e]
  rw [hlast, Option.bind_some]
  have hlen : ∀ v ∈ out.1, v.1.length ≤ 3 := by
   intro v hv
   have := ((hw v.1).1 ⟨v, hv, rfl⟩).1
   omega
  have hlb : last.1 ≤ 11 := by rw [hl1]; split <;> omega
  have h12 : (12 : Nat) ^ j ≤ 12 ^ 2 := Nat.pow_le_pow_right (by omega) (by omega)
  refine Ok.bind (ways_L8 hk hd1 hlb hlen (by show out.1.length ≤ 144; exact Nat.le_trans hl h12)) fun r hr => Ok.pure ⟨rfl, ?_, fun w => ?_⟩
  ·show r.2.length ≤ _
   rw [Nat.pow_succ]
   have h1 := hr.2
   have h2 : out.1.length ≤ 12 ^ j := hl
   omega
  ·show (∃ v ∈ r.2, v.1 = w) ↔ _
   rw [hr.1, hws w, ← hl1]
   constructor
   ·rintro ⟨v, hv, rfl⟩
    obtain ⟨u, hu, hv⟩ := List.mem_flatMap.1 hv
    obtain ⟨i, hi, rfl⟩ := mem_ext.1 hv
    exact ⟨u.1, _, rfl, (hw _).1 ⟨u, hu, rfl⟩, by omega, by omega⟩
   ·rintro ⟨v, c, rfl, h1, h2, h3⟩
    obtain ⟨u, hu, rfl⟩ := (hw v).2 h1
    refine ⟨(u.1 ++ [c], Cap.ro), List.mem_flatMap.2 ⟨u, hu, mem_ext.2 ⟨(c - d.Days.Low).toNat, by omega, ?_⟩⟩, rfl⟩
    have : d.Days.Low + ((c - d.Days.Low).toNat : Int) = c := by omega
    rw [this]
 ·rintro ⟨out, i⟩ ⟨hi, hl, hw⟩
  obtain rfl : i = (b.Deliveries.1.length : Int) := hi
  have c1 : decide ((b.Deliveries.1.length : Int) < (b.Deliveries.1.length : Int)) = false := by simp
  simp only [zUc, c1, cond_false]
  have h12 : (12 : Nat) ^ b.Deliveries.1.length ≤ 12 ^ 3 := Nat.pow_le_pow_right (by omega) (by omega)
  exact Ok.pure ⟨Nat.le_trans hl h12, hw⟩
 ·constructor
  ·rintro ⟨v, hv, rfl⟩
   obtain rfl := List.mem_singleton.1 hv
   exact ⟨rfl, fun i d h => absurd h (by omega)⟩
  ·rintro ⟨h, _⟩
   exact ⟨([], .nil), by simp, (List.length_eq_zero_iff.1 h).symm⟩
end Go.AM
set_option linter.unusedVariables false
namespace Go.AM
open Go
def comm (s t : zj) : zj := ⟨if t.Low > s.Low then t.Low else s.Low, if t.High < s.High then t.High else s.High⟩
theorem to_eq (k : Nat) (a b : Int) : zK k a b = some ⟨a, b⟩ := rfl
theorem common_eq (k : Nat) (s t : zj) : zgc k s t = some (comm s t) := rfl
theorem has_eq (k : Nat) (s : zj) (n : Int) : z8d k s n = some (decide (s.Low ≤ n) && decide (n ≤ s.High)) := by
 simp only [z8d, tween_eq, Option.bind_some]
theorem in_eq (k : Nat) {x i : Nat} (hi : i < 64) (hx : x < 2 ^ 63) : zDe k (x : Int) (i : Int) = some (x.testBit i) := by
 have c : decide ((i : Int) < 0) = false := by simp
 simp only [zDe, c, cond_false, bit_eq hi hx]
def InS (s : zj) (n : Int) : Prop := s.Low ≤ n ∧ n ≤ s.High
theorem in_comm (s t : zj) (n : Int) : InS (comm s t) n ↔ InS s n ∧ InS t n := by
 unfold InS comm
 simp only
 split <;> split <;> omega
def cntStep (x : zd) (d : Int) (s : zj) (p : zp × Nat) : zj :=
 if p.1.Shelf = x.shelf ∧ p.1.Day = d ∧ x.left.toNat.testBit p.2 = false then comm s ⟨p.1.Read - p.1.Err, p.1.Read + p.1.Err⟩ else s
def cntS (x : zd) (d : Int) : zj := x.ShelfBook.Counts.1.zipIdx.foldl (cntStep x d) ⟨0, (shelfOf x).Room⟩
theorem zip_take {α : Type} {l : List α} {j : Nat} (h : j < l.length) : (l.take (j + 1)).zipIdx = (l.take j).zipIdx ++ [(l[j], j)] := by
 rw [List.take_succ_eq_append_getElem h, List.zipIdx_append]
 have hl : (l.take j).length = j := by rw [List.length_take]; omega
 simp [hl, Nat.min_eq_left (Nat.le_of_lt h)]
theorem rcounted_eq {x : zd} (hx : On x) {k : Nat} (hk : 5000 < k) (d : Int) : zRc k x.ShelfBook x.shelf d x.left = some (cntS x d) := by
 apply Ok.eq
 have hc := hx.fine.ncounts
 have hleft : x.left = (x.left.toNat : Int) := (Int.toNat_of_nonneg hx.left0).symm
 have hl2 : x.left.toNat < 2 ^ 63 := by have := hx.left1; omega
 unfold zRc
 rw [hx.idx, Option.bind_some, to_eq, Option.bind_some]
 refine Ok.bind (Ok.count x.ShelfBook.Counts.1.length (fun j z => z.1 = (j : Int) ∧ (⟨z.2.1, z.2.2⟩ : zj) = (x.ShelfBook.Counts.1.take j).zipIdx.foldl (cntStep x d) ⟨0, (shelfOf x).Room⟩) (Q := fun r : Int × Int × Int => (⟨r.2.1, r.2.2⟩ : zj) = cntS x d) ?_ ?_ ⟨rfl, rfl⟩ (by omega)) fun r hr => Ok.pure hr
 ·rintro j ⟨i, lo, hi⟩ hj ⟨h1, h2⟩
  obtain rfl : i = (j : Int) := h1
  have h2' : (⟨lo, hi⟩ : zj) = (x.ShelfBook.Counts.1.take j).zipIdx.foldl (cntStep x d) ⟨0, (shelfOf x).Room⟩ := h2
  have hf := hx.fine.counts _ (List.getElem_mem hj)
  have hz := zip_take hj
  simp only [z4b, lt_cond hj, cond_true, idx_nat hj, Option.bind_some, succ_eq hj (by omega : x.ShelfBook.Counts.1.length < 9223372036854775808)]
  rw [hz, List.foldl_append, ← h2']
  generalize x.ShelfBook.Counts.1[j] = c at *
  obtain ⟨_, _, h3, h4⟩ := hf
  have w1 : w64 (c.Read - c.Err) = c.Read - c.Err := w64_id (by omega) (by omega)
  have w2 : w64 (c.Read + c.Err) = c.Read + c.Err := w64_id (by omega) (by omega)
  rw [hleft]
  simp only [z3c, in_eq k (show j < 64 by omega) hl2, Option.bind_some]
  rw [← hleft]
  simp only [List.foldl_cons, List.foldl_nil, cntStep]
  by_cases e1 : c.Shelf = x.shelf
  ·have b1 : (c.Shelf == x.shelf) = true := by simp [e1]
   rw [b1, cond_true]
   by_cases e2 : c.Day = d
   ·have b2 : (c.Day == d) = true := by simp [e2]
    rw [b2, cond_true]
    cases hb : x.left.toNat.testBit j with
    | true =>
     simp only [Bool.not_true, Option.bind_some, zeb, cond_false]
     exact Ok.pure ⟨rfl, by simp⟩
    | false =>
     simp only [Bool.not_false, Option.bind_some, zeb, cond_true, to_eq, common_eq, w1, w2]
     exact Ok.pure ⟨rfl, by simp [e1, e2]⟩
   ·have b2 : (c.Day == d) = false := by simp [e2]
    simp only [b2, cond_false, Option.bind_some, zeb]
    exact Ok.pure ⟨rfl, by simp [e2]⟩
  ·have b1 : (c.Shelf == x.shelf) = false := by simp [e1]
   simp only [b1, cond_false, Option.bind_some, zeb]
   exact Ok.pure ⟨rfl, by simp [e1]⟩
 ·rintro ⟨i, lo, hi⟩ ⟨h1, h2⟩
  obtain rfl : i = (x.ShelfBook.Counts.1.length : Int) := h1
  have c1 : decide ((x.ShelfBook.Counts.1.length : Int) < (x.ShelfBook.Counts.1.length : Int)) = false := by simp
  simp only [z4b, c1, cond_false]
  rw [List.take_length] at h2
  exact Ok.pure h2
theorem foldl_in (x : zd) (d n : Int) : ∀ (l : List (zp × Nat)) (s : zj), InS (l.foldl (cntStep x d) s) n ↔ InS s n ∧ ∀ p ∈ l, p.1.Shelf = x.shelf → p.1.Day = d → x.left.toNat.testBit p.2 = false → p.1.Read - p.1.Err ≤ n ∧ n ≤ p.1.Read + p.1.Err
 | [], s => by simp
 | p :: t, s => by
  rw [List.foldl_cons, foldl_in x d n t]
  have : InS (cntStep x d s p) n ↔ InS s n ∧ (p.1.Shelf = x.shelf → p.1.Day = d → x.left.toNat.testBit p.2 = false → p.1.Read - p.1.Err ≤ n ∧ n ≤ p.1.Read + p.1.Err) := by
   unfold cntStep
   by_cases h : p.1.Shelf = x.shelf ∧ p.1.Day = d ∧ x.left.toNat.testBit p.2 = false
   ·rw [if_pos h, in_comm]
    obtain ⟨h1, h2, h3⟩ := h
    simp [h1, h2, h3, InS]
   ·rw [if_neg h]
    constructor
    ·intro h1; exact ⟨h1, fun h2 h3 h4 => absurd ⟨h2, h3, h4⟩ h⟩
    ·exact fun h1 => h1.1
  rw [this]
  constructor
  ·rintro ⟨⟨h1, h2⟩, h3⟩
   refine ⟨h1, fun q hq => ?_⟩
   cases hq with
   | head => exact h2
   | tail _ h => exact h3 q h
  ·rintro ⟨h1, h2⟩
   exact ⟨⟨h1, h2 p (.head _)⟩, fun q hq => h2 q (.tail _ hq)⟩
theorem cntS_in {x : zd} (d : Int) (n : Nat) : InS (cntS x d) n ↔ (n : Int) ≤ (shelfOf x).Room ∧ CountsLet x d n := by
 unfold cntS
 rw [foldl_in]
 unfold CountsLet CountLets InS
 simp only
 constructor
 ·rintro ⟨⟨_, h1⟩, h2⟩
  exact ⟨h1, fun i c hc h3 h4 h5 => h2 (c, i) (mem_zip hc) h4 h3 h5⟩
 ·rintro ⟨h1, h2⟩
  exact ⟨⟨by omega, h1⟩, fun p hp h3 h4 h5 => h2 p.2 p.1 (zip_mem hp) h4 h3 h5⟩
def SpanBd (s : zj) : Prop := -100 ≤ s.Low ∧ s.Low ≤ 100 ∧ -100 ≤ s.High ∧ s.High ≤ 100
theorem foldl_bd (x : zd) (d : Int) : ∀ (l : List (zp × Nat)) (s : zj), SpanBd s → (∀ p ∈ l, (0 ≤ p.1.Read ∧ p.1.Read ≤ 60) ∧ (0 ≤ p.1.Err ∧ p.1.Err ≤ 20)) → SpanBd (l.foldl (cntStep x d) s) ∧ s.Low ≤ (l.foldl (cntStep x d) s).Low
 | [], s, hs, _ => ⟨hs, Int.le_refl _⟩
 | p :: t, s, hs, hl => by
  have h1 := hl p (.head _)
  have h2 : SpanBd (cntStep x d s p) ∧ s.Low ≤ (cntStep x d s p).Low := by
   unfold cntStep SpanBd at *
   split
   ·unfold comm; simp only; split <;> split <;> omega
   ·exact ⟨hs, Int.le_refl _⟩
  have h3 := foldl_bd x d t _ h2.1 fun q hq => hl q (.tail _ hq)
  exact ⟨h3.1, Int.le_trans h2.2 h3.2⟩
theorem cntS_bd {x : zd} (hx : On x) (d : Int) : SpanBd (cntS x d) ∧ 0 ≤ (cntS x d).Low := by
 refine foldl_bd x d _ _ ?_ fun p hp => ?_
 ·have := hx.shelf.1; unfold SpanBd; simp only; omega
 ·have := zip_mem hp
  have := hx.fine.counts _ (List.mem_of_getElem? this)
  exact this.2.2
abbrev Ev := zt
def evDg (x : zd) (w : List Int) (d : Int) (D : zo) (i : Nat) : List Ev := if D.Shelf = x.shelf ∧ w[i]? = some d then [⟨D.By, ⟨0, (shelfOf x).Room⟩, -1, -1⟩] else []
def evMg (x : zd) (d : Int) (m : zC) (i : Nat) : List Ev := if m.Shelf = x.shelf ∧ m.Day = d then [⟨if m.Back = true then m.By else ⟨-m.By.High, -m.By.Low⟩, ⟨0, (shelfOf x).Room⟩, i, -1⟩] else []
def evC (x : zd) (d : Int) : Ev := ⟨⟨0, 0⟩, cntS x d, -1, d⟩
def evDay (x : zd) (w : List Int) (d : Int) : List Ev := cat (evDg x w d) x.ShelfBook.Deliveries.1 ++ cat (evMg x d) x.ShelfBook.Moves.1 ++ [evC x d]
def evsL (x : zd) (w : List Int) (N : Nat) : List Ev := (List.range N).flatMap fun d : Nat => evDay x w d
theorem evsL_succ (x : zd) (w : List Int) (N : Nat) : evsL x w (N + 1) = evsL x w N ++ evDay x w N := by
 unfold evsL
 rw [List.range_succ, List.flatMap_append]
 simp
theorem evDg_len (x : zd) (w : List Int) (d : Int) (D : zo) (i : Nat) : (evDg x w d D i).length ≤ 1 := by
 unfold evDg; split <;> simp
theorem evMg_len (x : zd) (d : Int) (m : zC) (i : Nat) : (evMg x d m i).length ≤ 1 := by
 unfold evMg; split <;> simp
theorem evDay_len {x : zd} (hx : On x) (w : List Int) (d : Int) : (evDay x w d).length ≤ 14 := by
 unfold evDay
 have h1 := cat_len 1 (evDg_len x w d) x.ShelfBook.Deliveries.1
 have h2 := cat_len 1 (evMg_len x d) x.ShelfBook.Moves.1
 have h3 := hx.fine.ndeliveries
 have h4 := hx.fine.nmoves
 simp only [List.length_append, List.length_singleton]
 omega
theorem evsL_len {x : zd} (hx : On x) (w : List Int) : ∀ N, (evsL x w N).length ≤ 14 * N
 | 0 => by simp [evsL]
 | N + 1 => by
  rw [evsL_succ, List.length_append]
  have := evsL_len hx w N
  have := evDay_len hx w N
  omega
theorem events_L24 {x : zd} (hx : On x) {k : Nat} (hk : 5000 < k) {w : SL Int} (hw : w.1.length = x.ShelfBook.Deliveries.1.length) {d : Int} {acc : List Ev} (ha : acc.length ≤ 1000) :
  Ok (iter (fun s => zwb k x.ShelfBook x.shelf w x.left ⟨0, (shelfOf x).Room⟩ d s.1 s.2) k (0, acc)) (fun r => r.2 = acc ++ cat (evDg x w.1 d) x.ShelfBook.Deliveries.1) := by
 have hn := hx.fine.ndeliveries
 refine Ok.collect x.ShelfBook.Deliveries.1 (evDg x w.1 d) (fun j hj => ?_) (fun a => by simp [zwb]) (by omega)
 have hlen : (acc ++ cat (evDg x w.1 d) (x.ShelfBook.Deliveries.1.take j)).length + 1 ≤ 1000000 := by
  have := cat_len 1 (evDg_len x w.1 d) (x.ShelfBook.Deliveries.1.take j)
  rw [List.length_take] at this
  rw [List.length_append]
  omega
 have hwj : j < w.1.length := by omega
 simp only [zwb, lt_cond hj, cond_true, idx_nat hj, Option.bind_some, succ_eq hj (by omega : x.ShelfBook.Deliveries.1.length < 9223372036854775808), zdd, idx_nat hwj]
 generalize x.ShelfBook.Deliveries.1[j] = D at *
 unfold evDg
 rw [List.getElem?_eq_getElem hwj]
 by_cases e1 : D.Shelf = x.shelf
 ·have b1 : (D.Shelf == x.shelf) = true := by simp [e1]
  rw [b1, cond_true, Option.bind_some]
  by_cases e2 : w.1[j] = d
  ·have b2 : (w.1[j] == d) = true := by simp [e2]
   simp only [b2, ztb, cond_true]
   rw [show cat (fun D i => if D.Shelf = x.shelf ∧ w.1[i]? = some d then [⟨D.By, ⟨0, (shelfOf x).Room⟩, -1, -1⟩] else []) (x.ShelfBook.Deliveries.1.take j) = cat (evDg x w.1 d) (x.ShelfBook.Deliveries.1.take j) from rfl, lim_ok hlen, cond_true, Option.bind_some]
   exact Ok.pure (by rw [if_pos ⟨e1, by rw [e2]⟩])
  ·have b2 : (w.1[j] == d) = false := by simp [e2]
   simp only [b2, ztb, cond_false, Option.bind_some]
   exact Ok.pure (by rw [if_neg (by simp [e2]), List.append_nil])
 ·have b1 : (D.Shelf == x.shelf) = false := by simp [e1]
  simp only [b1, cond_false, Option.bind_some, ztb]
  exact Ok.pure (by rw [if_neg (by simp [e1]), List.append_nil])
theorem events_L29 {x : zd} (hx : On x) {k : Nat} (hk : 5000 < k) {w : SL Int} {d : Int} {v : Int × List Ev} {acc : List Ev} (ha : acc.length ≤ 1000) :
  Ok (iter (fun s => zsb k x.ShelfBook x.shelf w x.left ⟨0, (shelfOf x).Room⟩ d v s.1 s.2) k (0, acc)) (fun r => r.2 = acc ++ cat (evMg x d) x.ShelfBook.Moves.1) := by
 have hn := hx.fine.nmoves
 refine Ok.collect x.ShelfBook.Moves.1 (evMg x d) (fun j hj => ?_) (fun a => by simp [zsb]) (by omega)
 have hlen : (acc ++ cat (evMg x d) (x.ShelfBook.Moves.1.take j)).length + 1 ≤ 1000000 := by
  have := cat_len 1 (evMg_len x d) (x.ShelfBook.Moves.1.take j)
  rw [List.length_take] at this
  rw [List.length_append]
  omega
 have hf := hx.fine.moves _ (List.getElem_mem hj)
 simp only [zsb, lt_cond hj, cond_true, idx_nat hj, Option.bind_some, succ_eq hj (by omega : x.ShelfBook.Moves.1.length < 9223372036854775808), z7c]
 rw [show evMg x d x.ShelfBook.Moves.1[j] j = if x.ShelfBook.Moves.1[j].Shelf = x.shelf ∧ x.ShelfBook.Moves.1[j].Day = d then [⟨if x.ShelfBook.Moves.1[j].Back = true then x.ShelfBook.Moves.1[j].By else ⟨-x.ShelfBook.Moves.1[j].By.High, -x.ShelfBook.Moves.1[j].By.Low⟩, ⟨0, (shelfOf x).Room⟩, (j : Int), -1⟩] else [] from rfl]
 generalize x.ShelfBook.Moves.1[j] = m at *
 obtain ⟨_, _, h1, h2, h3⟩ := hf
 have w1 : w64 (0 - m.By.High) = -m.By.High := by rw [w64_id (by omega) (by omega)]; omega
 have w2 : w64 (0 - m.By.Low) = -m.By.Low := by rw [w64_id (by omega) (by omega)]; omega
 by_cases e1 : m.Shelf = x.shelf
 ·have b1 : (m.Shelf != x.shelf) = false := by simp [e1]
  rw [b1, cond_false, Option.bind_some]
  by_cases e2 : m.Day = d
  ·have b2 : (m.Day != d) = false := by simp [e2]
   rw [b2, cond_false, if_pos ⟨e1, e2⟩]
   cases hb : m.Back with
   | true =>
    simp only [z7b, Bool.not_true, cond_false, Option.bind_some, lim_ok hlen, cond_true, if_true]
    exact Ok.pure rfl
   | false =>
    simp only [z7b, Bool.not_false, cond_true, Option.bind_some, lim_ok hlen, to_eq, w1, w2]
    exact Ok.pure rfl
  ·have b2 : (m.Day != d) = true := by simp [e2]
   rw [b2, cond_true, if_neg (by simp [e2])]
   exact Ok.pure (by rw [List.append_nil])
 ·have b1 : (m.Shelf != x.shelf) = true := by simp [e1]
  rw [b1, cond_true, Option.bind_some, cond_true, if_neg (by simp [e1])]
  exact Ok.pure (by rw [List.append_nil])
theorem events_ok {x : zd} (hx : On x) {k : Nat} (hk : 5000 < k) {w : SL Int} (hw : w.1.length = x.ShelfBook.Deliveries.1.length) :
  Ok (z6c k x.ShelfBook x.shelf w x.left) (fun r => r.1 = evsL x w.1 x.ShelfBook.Days.toNat) := by
 have hd := hx.fine.days
 unfold z6c
 rw [hx.idx, Option.bind_some, to_eq, Option.bind_some]
 refine Ok.bind (Ok.count x.ShelfBook.Days.toNat (fun j z => z = ((j : Int), evsL x w.1 j)) (Q := fun r : Int × List Ev => r.2 = evsL x w.1 x.ShelfBook.Days.toNat) ?_ ?_ rfl (by omega)) fun r hr => Ok.pure hr
 ·rintro j z hj rfl
  have c1 : decide ((j : Int) < x.ShelfBook.Days) = true := by simp; omega
  have c2 : w64 ((j : Int) + 1) = ((j + 1 : Nat) : Int) := succ_eq (n := 12) (by omega) (by omega)
  have hl := evsL_len hx w.1 j
  have h1 := cat_len 1 (evDg_len x w.1 j) x.ShelfBook.Deliveries.1
  have h2 := cat_len 1 (evMg_len x j) x.ShelfBook.Moves.1
  have h3 := hx.fine.ndeliveries
  have h4 := hx.fine.nmoves
  simp only [zmc, c1, cond_true, to_eq, Option.bind_some, rcounted_eq hx hk, c2]
  refine Ok.bind (events_L24 hx hk hw (by omega)) fun v1 hv1 => ?_
  have hv1l : v1.2.length ≤ 1000 := by rw [hv1, List.length_append]; omega
  refine Ok.bind (events_L29 hx hk hv1l) fun v2 hv2 => ?_
  have hv2l : v2.2.length + 1 ≤ 1000000 := by rw [hv2, List.length_append]; omega
  rw [lim_ok hv2l, cond_true]
  refine Ok.pure ?_
  show (_ : Int × List Ev) = _
  rw [hv2, hv1, evsL_succ]
  simp [evDay, evC]
 ·rintro z rfl
  have c1 : decide (((x.ShelfBook.Days.toNat : Nat) : Int) < x.ShelfBook.Days) = false := by simp; omega
  simp only [zmc, c1, cond_false]
  exact Ok.pure rfl
end Go.AM
set_option linter.unusedVariables false
namespace Go.AM
open Go
def addS (s t : zj) : zj := ⟨s.Low + t.Low, s.High + t.High⟩
def subS (s t : zj) : zj := ⟨s.Low - t.High, s.High - t.Low⟩
def EvFine (e : Ev) : Prop := e.by_.Low ≤ e.by_.High ∧ SpanBd e.by_ ∧ SpanBd e.within
def Fw (s : zj) (l : List Ev) : Nat → zj
 | 0 => s
 | i + 1 => match l[i]? with
  | some e => comm e.within (addS (Fw s l i) e.by_)
  | none => Fw s l i
def Bw (s : zj) (l : List Ev) : Nat → zj
 | 0 => Fw s l l.length
 | t + 1 => match l[l.length - 1 - t]? with
  | some e => comm (Fw s l (l.length - 1 - t)) (subS (Bw s l t) e.by_)
  | none => s
def StepE (e : Ev) (m n : Int) : Prop := InS e.by_ (n - m) ∧ InS e.within n
def Steps (l : List Ev) (v : Nat → Int) : Prop := ∀ i e, l[i]? = some e → StepE e (v i) (v (i + 1))
def PathOf (s : zj) (l : List Ev) (v : Nat → Int) : Prop := InS s (v 0) ∧ Steps l v
section
variable {s : zj} {l : List Ev}
theorem fw_succ {i : Nat} {e : Ev} (h : l[i]? = some e) : Fw s l (i + 1) = comm e.within (addS (Fw s l i) e.by_) := by
 rw [Fw, h]
theorem bw_succ {t : Nat} {e : Ev} (h : l[l.length - 1 - t]? = some e) : Bw s l (t + 1) = comm (Fw s l (l.length - 1 - t)) (subS (Bw s l t) e.by_) := by
 rw [Bw, h]
theorem get_of_lt {α : Type} {l : List α} {i : Nat} (h : i < l.length) : ∃ a, l[i]? = some a ∧ a ∈ l := ⟨l[i], List.getElem?_eq_getElem h, List.getElem_mem h⟩
theorem fw_path {v : Nat → Int} (h : PathOf s l v) : ∀ i, i ≤ l.length → InS (Fw s l i) (v i)
 | 0, _ => h.1
 | i + 1, hi => by
  obtain ⟨e, he, _⟩ := get_of_lt (show i < l.length by omega)
  have h1 := fw_path h i (by omega)
  have h2 := h.2 i e he
  rw [fw_succ he, in_comm]
  refine ⟨h2.2, ?_⟩
  have h3 := h2.1
  unfold InS addS at *
  simp only
  omega
theorem bw_path {v : Nat → Int} (h : PathOf s l v) : ∀ t, t ≤ l.length → InS (Bw s l t) (v (l.length - t))
 | 0, _ => fw_path h _ (by omega)
 | t + 1, ht => by
  obtain ⟨e, he, _⟩ := get_of_lt (show l.length - 1 - t < l.length by omega)
  have h1 := bw_path h t (by omega)
  have h2 := h.2 _ e he
  rw [bw_succ he, in_comm]
  have e1 : l.length - (t + 1) = l.length - 1 - t := by omega
  have e2 : l.length - 1 - t + 1 = l.length - t := by omega
  rw [e1]
  rw [e2] at h2
  refine ⟨fw_path h _ (by omega), ?_⟩
  have h3 := h2.1
  unfold InS subS at *
  simp only
  omega
theorem bw_fw (hl : ∀ e ∈ l, EvFine e) {t : Nat} (ht : t ≤ l.length) {m : Int} (h : InS (Bw s l t) m) : InS (Fw s l (l.length - t)) m := by
 cases t with
 | zero => exact h
 | succ t =>
  obtain ⟨e, he, _⟩ := get_of_lt (show l.length - 1 - t < l.length by omega)
  rw [bw_succ he, in_comm] at h
  have e1 : l.length - (t + 1) = l.length - 1 - t := by omega
  rw [e1]
  exact h.1
theorem fw_to (hl : ∀ e ∈ l, EvFine e) (hne : ∀ i, i ≤ l.length → (Fw s l i).Low ≤ (Fw s l i).High) : ∀ i, i ≤ l.length → ∀ m, InS (Fw s l i) m → ∃ v : Nat → Int, InS s (v 0) ∧ (∀ j e, j < i → l[j]? = some e → StepE e (v j) (v (j + 1))) ∧ v i = m
 | 0, _, m, h => ⟨fun _ => m, h, fun j e hj => absurd hj (by omega), rfl⟩
 | i + 1, hi, m, h => by
  obtain ⟨e, he, hm⟩ := get_of_lt (show i < l.length by omega)
  rw [fw_succ he, in_comm] at h
  have h1 := hne i (by omega)
  have h2 := (hl e hm).1
  obtain ⟨m', h3, h4⟩ : ∃ m', InS (Fw s l i) m' ∧ InS e.by_ (m - m') := by
   obtain ⟨_, h5⟩ := h
   unfold InS addS at *
   simp only at h5
   refine ⟨if (Fw s l i).Low ≥ m - e.by_.High then (Fw s l i).Low else m - e.by_.High, ?_, ?_⟩ <;> split <;> omega
  obtain ⟨v, h5, h6, h7⟩ := fw_to hl hne i (by omega) m' h3
  refine ⟨fun j => if j ≤ i then v j else m, ?_, fun j e' hj he' => ?_, ?_⟩
  ·simpa using h5
  ·by_cases hij : j = i
   ·subst hij
    rw [he] at he'
    cases he'
    have : ¬ j + 1 ≤ j := by omega
    simp only [Nat.le_refl, if_true, this, if_false, h7]
    exact ⟨h4, h.1⟩
   ·have a1 : j ≤ i := by omega
    have a2 : j + 1 ≤ i := by omega
    simp only [a1, a2, if_true]
    exact h6 j e' (by omega) he'
  ·have : ¬ i + 1 ≤ i := by omega
   simp only [this, if_false]
theorem bw_to (hl : ∀ e ∈ l, EvFine e) (hne : ∀ t, t ≤ l.length → (Bw s l t).Low ≤ (Bw s l t).High) : ∀ t, t ≤ l.length → ∀ m, InS (Bw s l t) m → ∃ v : Nat → Int, v (l.length - t) = m ∧ ∀ j e, l.length - t ≤ j → l[j]? = some e → StepE e (v j) (v (j + 1))
 | 0, _, m, h => ⟨fun _ => m, rfl, fun j e hj he => by
   have := (List.getElem?_eq_some_iff.1 he).1
   omega⟩
 | t + 1, ht, m, h => by
  obtain ⟨e, he, hm⟩ := get_of_lt (show l.length - 1 - t < l.length by omega)
  rw [bw_succ he, in_comm] at h
  have h1 := hne t (by omega)
  have h2 := (hl e hm).1
  obtain ⟨m', h3, h4⟩ : ∃ m', InS (Bw s l t) m' ∧ InS e.by_ (m' - m) := by
   obtain ⟨_, h5⟩ := h
   unfold InS subS at *
   simp only at h5
   refine ⟨if (Bw s l t).Low ≥ m + e.by_.Low then (Bw s l t).Low else m + e.by_.Low, ?_, ?_⟩ <;> split <;> omega
  obtain ⟨v, h5, h6⟩ := bw_to hl hne t (by omega) m' h3
  have e1 : l.length - (t + 1) = l.length - 1 - t := by omega
  have e2 : l.length - 1 - t + 1 = l.length - t := by omega
  have hw : InS e.within m' := by
   have h7 := bw_fw hl (by omega) h3
   rw [← e2, fw_succ he, in_comm] at h7
   exact h7.1
  rw [e1]
  refine ⟨fun j => if j ≤ l.length - 1 - t then m else v j, by simp, fun j e' hj he' => ?_⟩
  by_cases hij : j = l.length - 1 - t
  ·subst hij
   rw [he] at he'
   cases he'
   have : ¬ l.length - 1 - t + 1 ≤ l.length - 1 - t := by omega
   simp only [Nat.le_refl, if_true, this, if_false]
   rw [e2, h5]
   exact ⟨h4, hw⟩
  ·have a1 : ¬ j ≤ l.length - 1 - t := by omega
   have a2 : ¬ j + 1 ≤ l.length - 1 - t := by omega
   simp only [a1, a2, if_false]
   exact h6 j e' (by omega) he'
theorem bw_mem (hl : ∀ e ∈ l, EvFine e) (hne : ∀ t, t ≤ l.length → (Bw s l t).Low ≤ (Bw s l t).High) {i : Nat} (hi : i ≤ l.length) (m : Int) : InS (Bw s l (l.length - i)) m ↔ ∃ v, PathOf s l v ∧ v i = m := by
 have e1 : l.length - (l.length - i) = i := by omega
 constructor
 ·intro h
  have hf : ∀ i, i ≤ l.length → (Fw s l i).Low ≤ (Fw s l i).High := by
   intro i hi
   have h1 := hne (l.length - i) (by omega)
   have h2 := bw_fw (s := s) hl (show l.length - i ≤ l.length by omega) (m := (Bw s l (l.length - i)).Low) ⟨Int.le_refl _, h1⟩
   have e2 : l.length - (l.length - i) = i := by omega
   rw [e2] at h2
   exact Int.le_trans h2.1 h2.2
  obtain ⟨u, h1, h2⟩ := bw_to hl hne (l.length - i) (by omega) m h
  have h3 := bw_fw hl (by omega) h
  rw [e1] at h1 h2 h3
  obtain ⟨v, h4, h5, h6⟩ := fw_to hl hf i hi m h3
  refine ⟨fun j => if j ≤ i then v j else u j, ⟨by simpa using h4, fun j e he => ?_⟩, by simp [h6]⟩
  by_cases hj : j < i
  ·have a1 : j ≤ i := by omega
   have a2 : j + 1 ≤ i := by omega
   simp only [a1, a2, if_true]
   exact h5 j e hj he
  ·have h7 := h2 j e (by omega) he
   by_cases hij : j = i
   ·subst hij
    have : ¬ j + 1 ≤ j := by omega
    simp only [Nat.le_refl, if_true, this, if_false]
    rw [h6, ← h1]
    exact h7
   ·have a1 : ¬ j ≤ i := by omega
    have a2 : ¬ j + 1 ≤ i := by omega
    simp only [a1, a2, if_false]
    exact h7
 ·rintro ⟨v, hv, rfl⟩
  have := bw_path hv (l.length - i) (by omega)
  rwa [e1] at this
theorem bw_none (h : ∃ t, t ≤ l.length ∧ (Bw s l t).High < (Bw s l t).Low) : ¬ ∃ v, PathOf s l v := by
 rintro ⟨v, hv⟩
 obtain ⟨t, ht, h⟩ := h
 have := bw_path hv t ht
 unfold InS at this
 omega
def SpanIn2 (s : zj) (n : Int) : Prop := -n ≤ s.Low ∧ s.Low ≤ n ∧ -n ≤ s.High ∧ s.High ≤ n
theorem comm_bd {s t : zj} {n : Int} (hs : SpanIn2 s n) (ht : SpanIn2 t n) : SpanIn2 (comm s t) n := by
 unfold SpanIn2 comm at *
 simp only
 by_cases h1 : t.Low > s.Low <;> by_cases h2 : t.High < s.High <;> simp only [h1, h2, if_true, if_false] <;> omega
theorem fw_bd (hs : SpanBd s) (hl : ∀ e ∈ l, EvFine e) : ∀ i, SpanIn2 (Fw s l i) (100 * ((i : Int) + 1))
 | 0 => by unfold SpanIn2 SpanBd Fw at *; omega
 | i + 1 => by
  have h1 := fw_bd hs hl i
  rw [Fw]
  cases he : l[i]? with
  | none => unfold SpanIn2 at *; simp only; push_cast; omega
  | some e =>
   have h2 := hl e (List.mem_of_getElem? he)
   unfold EvFine SpanBd at h2
   refine comm_bd ?_ ?_ <;> unfold SpanIn2 at * <;> (try simp only [addS]) <;> push_cast <;> omega
theorem bw_bd (hs : SpanBd s) (hl : ∀ e ∈ l, EvFine e) (hlen : l.length ≤ 1000) : ∀ t, SpanIn2 (Bw s l t) (200000 + 100 * (t : Int))
 | 0 => by
  have h1 := fw_bd hs hl l.length
  unfold SpanIn2 Bw at *; omega
 | t + 1 => by
  have h1 := bw_bd hs hl hlen t
  have h3 := fw_bd hs hl (l.length - 1 - t)
  rw [Bw]
  cases he : l[l.length - 1 - t]? with
  | none => unfold SpanIn2 SpanBd at *; simp only; push_cast; omega
  | some e =>
   have h2 := hl e (List.mem_of_getElem? he)
   unfold EvFine SpanBd at h2
   refine comm_bd ?_ ?_ <;> unfold SpanIn2 at * <;> (try simp only [subS]) <;> push_cast <;> omega
end
theorem stocks_L1 {k : Nat} (hk : 5000 < k) {s : zj} {l : SL Ev} (hs : SpanBd s) (hl : ∀ e ∈ l.1, EvFine e) (hlen : l.1.length ≤ 1000) :
  Ok (iter (fun z => zzb k s l z.1 z.2) k (0, [s])) (fun r => r.2 = (List.range (l.1.length + 1)).map (Fw s l.1)) := by
 refine Ok.count l.1.length (fun j z => z = ((j : Int), (List.range (j + 1)).map (Fw s l.1))) ?_ ?_ rfl (by omega)
 ·rintro j z hj rfl
  have hg : idx ((List.range (j + 1)).map (Fw s l.1)) (j : Int) = some (Fw s l.1 j) := by
   rw [idx_nat (by simp)]
   simp
  have hb := fw_bd hs hl j
  have he := List.getElem?_eq_getElem hj
  have hf := hl _ (List.getElem_mem hj)
  have h5 : (((List.range (j + 1)).map (Fw s l.1)).length + 1) ≤ 1000000 := by simp; omega
  simp only [zzb, lt_cond hj, cond_true, idx_nat hj, Option.bind_some, hg, to_eq, common_eq, succ_eq hj (by omega : l.1.length < 9223372036854775808), lim_ok h5]
  have hsucc := fw_succ (s := s) he
  generalize l.1[j] = e at *
  unfold EvFine SpanBd at hf
  unfold SpanIn2 at hb
  have w1 : w64 ((Fw s l.1 j).Low + e.by_.Low) = (Fw s l.1 j).Low + e.by_.Low := w64_id (by omega) (by omega)
  have w2 : w64 ((Fw s l.1 j).High + e.by_.High) = (Fw s l.1 j).High + e.by_.High := w64_id (by omega) (by omega)
  rw [w1, w2]
  refine Ok.pure ?_
  show (_ : Int × List zj) = _
  rw [List.range_succ (n := j + 1), List.map_append]
  simp only [List.map_cons, List.map_nil, hsucc, addS]
 ·rintro z rfl
  have c1 : decide ((l.1.length : Int) < (l.1.length : Int)) = false := by simp
  simp only [zzb, c1, cond_false]
  exact Ok.pure rfl
theorem stocks_L2 {k : Nat} (hk : 5000 < k) {s : zj} {l : SL Ev} (hs : SpanBd s) (hl : ∀ e ∈ l.1, EvFine e) (hlen : l.1.length ≤ 1000) (v1 : Int × List zj) :
  Ok (iter (fun z => zBb k s l v1 z.1 z.2) k ((l.1.length : Int), (List.range (l.1.length + 1)).map (Fw s l.1))) (fun r => match r with
   | .inl _ => ∃ t, t ≤ l.1.length ∧ (Bw s l.1 t).High < (Bw s l.1 t).Low
   | .inr z => (∀ t, t ≤ l.1.length → (Bw s l.1 t).Low ≤ (Bw s l.1 t).High) ∧ z.2.length = l.1.length + 1 ∧ ∀ i, i ≤ l.1.length → z.2[i]? = some (Bw s l.1 (l.1.length - i))) := by
 refine Ok.count (l.1.length + 1) (fun j z => z.1 = (l.1.length : Int) - j ∧ z.2.length = l.1.length + 1 ∧ (∀ t, t < j → (Bw s l.1 t).Low ≤ (Bw s l.1 t).High) ∧ ∀ i, i ≤ l.1.length → z.2[i]? = if l.1.length - j ≤ i then some (Bw s l.1 (l.1.length - i)) else some (Fw s l.1 i)) ?_ ?_ ⟨by simp, by simp, fun t h => absurd h (by omega), fun i hi => ?_⟩ (by omega)
 ·rintro j ⟨i, out⟩ hj ⟨hi, ho, hne, hv⟩
  obtain rfl : i = (l.1.length : Int) - j := hi
  have ho' : out.length = l.1.length + 1 := ho
  have hi' : (l.1.length : Int) - (j : Int) = ((l.1.length - j : Nat) : Int) := by omega
  have c1 : decide ((l.1.length : Int) - (j : Int) ≥ 0) = true := by simp; omega
  have hget : idx out ((l.1.length : Int) - (j : Int)) = some (Bw s l.1 j) := by
   rw [hi', idx_nat (by omega), ← List.getElem?_eq_getElem (by omega), hv _ (by omega), if_pos (Nat.le_refl _)]
   congr 2
   omega
  simp only [zBb, c1, cond_true, hget, Option.bind_some]
  have hb := bw_bd hs hl hlen j
  have hw : w64 ((l.1.length : Int) - (j : Int) - 1) = (l.1.length : Int) - ((j + 1 : Nat) : Int) := by rw [w64_id (by omega) (by omega)]; push_cast; omega
  cases hd : decide ((Bw s l.1 j).Low > (Bw s l.1 j).High) with
  | true =>
   rw [cond_true]
   have := of_decide_eq_true hd
   exact Ok.pure ⟨j, by omega, by omega⟩
  | false =>
   rw [cond_false]
   have hd' := of_decide_eq_false hd
   have hne' : ∀ t, t < j + 1 → (Bw s l.1 t).Low ≤ (Bw s l.1 t).High := by
    intro t ht
    by_cases e : t = j
    ·subst e; omega
    ·exact hne t (by omega)
   rw [hw]
   cases hp : decide ((l.1.length : Int) - (j : Int) > 0) with
   | true =>
    have hp' := of_decide_eq_true hp
    rw [cond_true]
    have hj1 : (l.1.length : Int) - ((j + 1 : Nat) : Int) = ((l.1.length - 1 - j : Nat) : Int) := by omega
    have hlt : l.1.length - 1 - j < l.1.length := by omega
    have hF : out[l.1.length - 1 - j]? = some (Fw s l.1 (l.1.length - 1 - j)) := by
     rw [hv _ (by omega), if_neg (by omega)]
    have hF' : idx out ((l.1.length - 1 - j : Nat) : Int) = some (Fw s l.1 (l.1.length - 1 - j)) := by
     rw [idx_nat (by omega), ← hF, List.getElem?_eq_getElem (by omega)]
    have he := List.getElem?_eq_getElem hlt
    have hf := hl _ (List.getElem_mem hlt)
    rw [hj1, idx_nat hlt, Option.bind_some]
    simp only [hF', Option.bind_some, to_eq, common_eq]
    have hsucc := bw_succ (s := s) he
    generalize l.1[l.1.length - 1 - j] = e at *
    unfold EvFine SpanBd at hf
    unfold SpanIn2 at hb
    have w1 : w64 ((Bw s l.1 j).Low - e.by_.High) = (Bw s l.1 j).Low - e.by_.High := w64_id (by omega) (by omega)
    have w2 : w64 ((Bw s l.1 j).High - e.by_.Low) = (Bw s l.1 j).High - e.by_.Low := w64_id (by omega) (by omega)
    rw [w1, w2]
    refine Ok.pure ⟨by show _ = _; omega, ?_, hne', fun i hi => ?_⟩
    ·show (List.set _ _ _).length = _
     rw [List.length_set]; exact ho'
    ·show (List.set _ _ _)[i]? = _
     rw [Int.toNat_natCast, List.getElem?_set]
     by_cases h1 : l.1.length - 1 - j = i
     ·subst h1
      rw [if_pos rfl, if_pos (by omega), if_pos (by omega)]
      have e1 : l.1.length - (l.1.length - 1 - j) = j + 1 := by omega
      rw [e1, hsucc]
      rfl
     ·rw [if_neg h1, hv i hi]
      by_cases h2 : l.1.length - j ≤ i
      ·rw [if_pos h2, if_pos (by omega)]
      ·rw [if_neg h2, if_neg (by omega)]
   | false =>
    have hp' := of_decide_eq_false hp
    rw [cond_false]
    refine Ok.pure ⟨rfl, ho', hne', fun i hi => ?_⟩
    have h2 := hv i hi
    rw [if_pos (by omega)] at h2
    rw [if_pos (by omega)]
    exact h2
 ·rintro ⟨i, out⟩ ⟨hi, ho, hne, hv⟩
  obtain rfl : i = (l.1.length : Int) - ((l.1.length + 1 : Nat) : Int) := hi
  have c1 : decide ((l.1.length : Int) - ((l.1.length + 1 : Nat) : Int) ≥ 0) = false := by simp only [decide_eq_false_iff_not]; omega
  simp only [zBb, c1, cond_false]
  refine Ok.pure ⟨fun t ht => hne t (by omega), ho, fun i hi => ?_⟩
  have h2 := hv i hi
  rw [if_pos (by omega)] at h2
  exact h2
 ·have h1 : ((List.range (l.1.length + 1)).map (Fw s l.1))[i]? = some (Fw s l.1 i) := by
   rw [List.getElem?_map, List.getElem?_range (by omega)]; rfl
  show ((List.range (l.1.length + 1)).map (Fw s l.1))[i]? = _
  rw [h1]
  by_cases h2 : l.1.length - 0 ≤ i
  ·rw [if_pos h2]
   obtain rfl : i = l.1.length := by omega
   rw [Nat.sub_self]; rfl
  ·rw [if_neg h2]
theorem rstocks_ok {k : Nat} (hk : 5000 < k) {s : zj} {l : SL Ev} (hs : SpanBd s) (hl : ∀ e ∈ l.1, EvFine e) (hlen : l.1.length ≤ 1000) :
  Ok (z8c k s l) (fun r => (r.2 = false ∧ ¬ ∃ v, PathOf s l.1 v) ∨ (r.2 = true ∧ r.1.1.length = l.1.length + 1 ∧ (∃ v, PathOf s l.1 v) ∧ ∀ i t, r.1.1[i]? = some t → ∀ m, InS t m ↔ ∃ v, PathOf s l.1 v ∧ v i = m)) := by
 unfold z8c
 refine Ok.bind (stocks_L1 hk hs hl hlen) fun v1 hv1 => ?_
 rw [hv1]
 refine Ok.bind (stocks_L2 hk hs hl hlen v1) fun r hr => ?_
 cases r with
 | inl z => exact Ok.pure (.inl ⟨rfl, bw_none hr⟩)
 | inr z =>
  obtain ⟨hne, hlz, hz⟩ := hr
  refine Ok.pure (.inr ⟨rfl, hlz, ?_, fun i t ht m => ?_⟩)
  ·have h1 := hne l.1.length (Nat.le_refl _)
   obtain ⟨v, hv, _⟩ := (bw_mem hl hne (Nat.zero_le _) (Bw s l.1 l.1.length).Low).1 ⟨Int.le_refl _, h1⟩
   exact ⟨v, hv⟩
  ·have hi : i ≤ l.1.length := by
    have := (List.getElem?_eq_some_iff.1 ht).1
    have h2 : z.2.length = _ := hlz
    have h3 : i < z.2.length := this
    omega
   have h4 : z.2[i]? = some t := ht
   rw [hz i hi] at h4
   cases h4
   exact bw_mem hl hne hi m
end Go.AM
set_option linter.unusedVariables false
namespace Go.AM
open Go
theorem evsL_fine {x : zd} (hx : On x) (w : List Int) (N : Nat) : ∀ e ∈ evsL x w N, EvFine e := by
 intro e he
 unfold evsL at he
 obtain ⟨d, _, he⟩ := List.mem_flatMap.1 he
 have hr := hx.shelf.1
 have hroom : SpanBd (⟨0, (shelfOf x).Room⟩ : zj) := by unfold SpanBd; simp only; omega
 unfold evDay at he
 rw [List.mem_append, List.mem_append] at he
 rcases he with (he | he) | he
 ·obtain ⟨i, D, hD, he⟩ := mem_cat.1 he
  unfold evDg at he
  split at he
  ·obtain rfl := List.mem_singleton.1 he
   obtain ⟨_, _, h1, h2, h3⟩ := hx.fine.deliveries _ (List.mem_of_getElem? hD)
   exact ⟨h2, by unfold SpanBd; simp only; omega, hroom⟩
  ·cases he
 ·obtain ⟨i, m, hm, he⟩ := mem_cat.1 he
  unfold evMg at he
  split at he
  ·obtain rfl := List.mem_singleton.1 he
   obtain ⟨_, _, h1, h2, h3⟩ := hx.fine.moves _ (List.mem_of_getElem? hm)
   refine ⟨?_, ?_, hroom⟩
   ·simp only; split
    ·exact h2
    ·simp only; omega
   ·simp only; split
    ·unfold SpanBd; omega
    ·unfold SpanBd; simp only; omega
  ·cases he
 ·obtain rfl := List.mem_singleton.1 he
  exact ⟨Int.le_refl _, by unfold SpanBd evC; simp only; omega, (cntS_bd hx d).1⟩
def Nd (x : zd) : Nat := x.ShelfBook.Days.toNat
def Way (x : zd) (w : List Int) : Prop := WayTo x.ShelfBook x.shelf x.ShelfBook.Deliveries.1.length w
def RPath (x : zd) (w : List Int) (v : Nat → Int) : Prop := PathOf (shelfOf x).Begin (evsL x w (Nd x)) v
structure TruthOf (x : zd) (t : zu) : Prop where
 way : Way x t.days.1
 ev : t.events.1 = evsL x t.days.1 (Nd x)
 len : t.stocks.1.length = t.events.1.length + 1
 path : ∃ v, RPath x t.days.1 v
 mem : ∀ (i : Nat) (u : zj), t.stocks.1[i]? = some u → ∀ m, InS u m ↔ ∃ v, RPath x t.days.1 v ∧ v i = m
structure Truths (x : zd) (l : List zu) : Prop where
 all : ∀ t ∈ l, TruthOf x t
 has : ∀ w, Way x w → (∃ v, RPath x w v) → ∃ t ∈ l, t.days.1 = w
 len : l.length ≤ 1728
theorem begin_bd {x : zd} (hx : On x) : SpanBd (shelfOf x).Begin := by
 obtain ⟨h1, h2, h3, h4⟩ := hx.shelf
 unfold SpanBd; omega
theorem truths_ok {x : zd} (hx : On x) {k : Nat} (hk : 5000 < k) : Ok (znb k x.ShelfBook x.shelf x.left) (fun r => Truths x r.1) := by
 have hd := hx.fine.days
 unfold znb
 refine Ok.bind (ways_ok hx.fine hk x.shelf) fun ws hws => ?_
 obtain ⟨hlen, hw⟩ := hws
 refine Ok.bind (Ok.count ws.1.length (fun j z => z.1 = (j : Int) ∧ (∀ t ∈ z.2, TruthOf x t) ∧ (∀ i u, i < j → ws.1[i]? = some u → (∃ v, RPath x u.1 v) → ∃ t ∈ z.2, t.days.1 = u.1) ∧ z.2.length ≤ j) (Q := fun r : Int × List zu => Truths x r.2) ?_ ?_ ⟨rfl, by simp, fun i u h => absurd h (by omega), by simp⟩ (by omega)) fun r hr => Ok.pure hr
 ·rintro j ⟨i, out⟩ hj ⟨hi, h1, h2, h3⟩
  obtain rfl : i = (j : Int) := hi
  have hge := List.getElem?_eq_getElem hj
  have hway : Way x ws.1[j].1 := (hw _).1 ⟨_, List.getElem_mem hj, rfl⟩
  simp only [zjc, lt_cond hj, cond_true, idx_nat hj, Option.bind_some, hx.idx, succ_eq hj (by omega : ws.1.length < 9223372036854775808)]
  generalize ws.1[j] = w at *
  refine Ok.bind (events_ok hx hk hway.1) fun ev hev => ?_
  have hf : ∀ e ∈ ev.1, EvFine e := by rw [hev]; exact evsL_fine hx _ _
  have hl : ev.1.length ≤ 1000 := by
   rw [hev]
   have := evsL_len hx w.1 x.ShelfBook.Days.toNat
   omega
  refine Ok.bind (rstocks_ok hk (begin_bd hx) hf hl) fun st hst => ?_
  rw [hev] at hst
  rcases hst with ⟨hb, hno⟩ | ⟨hb, hsl, hpath, hmem⟩
  ·rw [hb, cond_false]
   refine Ok.pure ⟨rfl, h1, fun i u hi hu hp => ?_, by show out.length ≤ _; have : out.length ≤ j := h3; omega⟩
   by_cases e : i = j
   ·subst e; rw [hge] at hu; cases hu; exact absurd hp hno
   ·exact h2 i u (by omega) hu hp
  ·have h3' : out.length ≤ j := h3
   rw [hb, cond_true, lim_ok (show out.length + 1 ≤ 1000000 by omega), cond_true]
   refine Ok.pure ⟨rfl, fun t ht => ?_, fun i u hi hu hp => ?_, ?_⟩
   ·rcases List.mem_append.1 ht with ht | ht
    ·exact h1 t ht
    ·obtain rfl := List.mem_singleton.1 ht
     exact ⟨hway, hev, by show st.1.1.length = ev.1.length + 1; rw [hev]; exact hsl, hpath, hmem⟩
   ·show ∃ t ∈ out ++ [_], _
    by_cases e : i = j
    ·subst e; rw [hge] at hu; cases hu
     exact ⟨_, List.mem_append.2 (.inr (.head _)), rfl⟩
    ·obtain ⟨t, ht, hd⟩ := h2 i u (by omega) hu hp
     exact ⟨t, List.mem_append.2 (.inl ht), hd⟩
   ·show (out ++ [_]).length ≤ _
    simp; omega
 ·rintro ⟨i, out⟩ ⟨hi, h1, h2, h3⟩
  obtain rfl : i = (ws.1.length : Int) := hi
  have c1 : decide ((ws.1.length : Int) < (ws.1.length : Int)) = false := by simp
  simp only [zjc, c1, cond_false]
  refine Ok.pure ⟨h1, fun w hway hp => ?_, ?_⟩
  ·obtain ⟨u, hu, rfl⟩ := (hw w).2 hway
   obtain ⟨i, hi⟩ := List.getElem?_of_mem hu
   exact h2 i u (List.getElem?_eq_some_iff.1 hi).1 hi hp
  ·have : out.length ≤ ws.1.length := h3
   show out.length ≤ _
   omega
def RCan (x : zd) : Prop := ∃ w v, Way x w ∧ RPath x w v
theorem Truths.ne {x : zd} {l : List zu} (h : Truths x l) : l.length = 0 ↔ ¬ RCan x := by
 constructor
 ·rintro h0 ⟨w, v, h1, h2⟩
  obtain ⟨t, ht, _⟩ := h.has w h1 ⟨v, h2⟩
  rw [List.length_eq_zero_iff.1 h0] at ht
  cases ht
 ·intro h0
  cases l with
  | nil => rfl
  | cons t l =>
   have ht := h.all t (.head _)
   obtain ⟨v, hv⟩ := ht.path
   exact absurd ⟨_, v, ht.way, hv⟩ h0
def RBookTrue (b : zb) (left : Int) : Prop := ∀ s : Nat, s < b.Shelves.1.length → RCan ⟨b, (s : Int), left⟩
theorem rcanBe_ok {b : zb} (hb : Fine b) {left : Int} (h0 : 0 ≤ left) (h1 : left < 9223372036854775808) {k : Nat} (hk : 5000 < k) : Ok (zwc k b left) (fun r => r = true ↔ RBookTrue b left) := by
 have hn := hb.nshelves
 unfold zwc
 refine Ok.bind (Ok.count b.Shelves.1.length (fun j s => s = (j : Int) ∧ ∀ i : Nat, i < j → RCan ⟨b, (i : Int), left⟩) (Q := fun r : Int ⊕ Int => match r with
  | .inl _ => ¬ RBookTrue b left
  | .inr _ => RBookTrue b left) ?_ ?_ ⟨rfl, fun i h => absurd h (by omega)⟩ (by omega)) fun r hr => ?_
 ·rintro j s hj ⟨rfl, hg⟩
  have hx : On (⟨b, (j : Int), left⟩ : zd) := ⟨hb, by simp, by simpa using hj, h0, h1⟩
  simp only [zAc, lt_cond hj, cond_true, succ_eq hj (by omega : b.Shelves.1.length < 9223372036854775808)]
  refine Ok.bind (truths_ok hx hk) fun t ht => ?_
  have hne := ht.ne
  cases hc : ((t.1.length : Int) == 0) with
  | true =>
   rw [cond_true]
   have : t.1.length = 0 := by have := eq_of_beq hc; omega
   exact Ok.pure fun hbt => hne.1 this (hbt j hj)
  | false =>
   rw [cond_false]
   have hcan : RCan (⟨b, (j : Int), left⟩ : zd) := by
    refine Classical.byContradiction fun h => ?_
    have := hne.2 h
    rw [this] at hc
    simp at hc
   refine Ok.pure ⟨rfl, fun i hi => ?_⟩
   by_cases e : i = j
   ·subst e; exact hcan
   ·exact hg i (by omega)
 ·rintro s ⟨rfl, hg⟩
  have c1 : decide ((b.Shelves.1.length : Int) < (b.Shelves.1.length : Int)) = false := by simp
  simp only [zAc, c1, cond_false]
  exact Ok.pure fun i hi => hg i hi
 ·cases r with
  | inl r => exact Ok.pure ⟨fun h => Bool.noConfusion h, fun h => absurd h hr⟩
  | inr r => exact Ok.pure ⟨fun _ => hr, fun _ => rfl⟩
theorem rasked_ok {k : Nat} {b : zb} (hs : Small b) (hd : b.Days ≤ 9223372036854775807) (hk : Fuel k b) (right : Bool) : Ok (zOb k b right) (Asked b right (RBookTrue b 0)) := by
 unfold zOb
 refine Ok.bind (rcheck_ok hs hd hk) fun e he => ?_
 rcases he with ⟨rfl, hf⟩ | ⟨rfl, hf⟩
 ·cases right with
  | false => exact Ok.pure (.inr (.inl ⟨hf, rfl, rfl⟩))
  | true =>
   show Ok ((zwc k b 0).bind _) _
   refine Ok.bind (rcanBe_ok hf (by omega) (by omega) hk.k0) fun r hr => ?_
   cases r with
   | false => exact Ok.pure (.inr (.inr (.inl ⟨hf, rfl, fun h => Bool.noConfusion (hr.2 h), rfl⟩)))
   | true => exact Ok.pure (.inr (.inr (.inr ⟨hf, rfl, hr.1 rfl, rfl⟩)))
 ·exact Ok.pure (.inl ⟨hf, rfl⟩)
end Go.AM
set_option linter.unusedVariables false
namespace Go.AM
open Go
def endG (t : zu) (day : Int) (e : Ev) (i : Nat) : List zj := if e.day = day then t.stocks.1[i + 1]?.toList else []
def endsL (l : List zu) (day : Int) : List zj := cat (fun t _ => cat (endG t day) t.events.1) l
theorem endG_len (t : zu) (day : Int) (e : Ev) (i : Nat) : (endG t day e i).length ≤ 1 := by
 unfold endG
 split
 ·cases t.stocks.1[i + 1]? <;> simp
 ·simp
theorem ends_L7 {k : Nat} (hk : 5000 < k) {l : SL zu} {day : Int} {j : Nat} (hj : j < l.1.length) (hst : l.1[j].stocks.1.length = l.1[j].events.1.length + 1) (hev : l.1[j].events.1.length ≤ 1000) {acc : List zj} (ha : acc.length ≤ 500000) :
  Ok (iter (fun s => zXb k l day (j : Int) s.1 s.2) k (0, acc)) (fun r => r.2 = acc ++ cat (endG l.1[j] day) l.1[j].events.1) := by
 refine Ok.collect l.1[j].events.1 (endG l.1[j] day) (fun i hi => ?_) (fun a => by simp [zXb, idx_nat hj]) (by omega)
 have hlen : (acc ++ cat (endG l.1[j] day) (l.1[j].events.1.take i)).length + 1 ≤ 1000000 := by
  have := cat_len 1 (endG_len l.1[j] day) (l.1[j].events.1.take i)
  rw [List.length_take] at this
  rw [List.length_append]
  omega
 have hi1 : i + 1 < l.1[j].stocks.1.length := by omega
 have hs := succ_eq hi (by omega : l.1[j].events.1.length < 9223372036854775808)
 simp only [zXb, idx_nat hj, Option.bind_some, lt_cond hi, cond_true, idx_nat hi, hs]
 rw [show endG l.1[j] day l.1[j].events.1[i] i = if l.1[j].events.1[i].day = day then l.1[j].stocks.1[i + 1]?.toList else [] from rfl, List.getElem?_eq_getElem hi1]
 by_cases e : l.1[j].events.1[i].day = day
 ·have b : (l.1[j].events.1[i].day == day) = true := by simp [e]
  rw [b, if_pos e]
  simp only [zZc, cond_true, idx_nat hj, Option.bind_some, hs, idx_nat hi1, lim_ok hlen]
  exact Ok.pure rfl
 ·have b : (l.1[j].events.1[i].day == day) = false := by simp [e]
  rw [b, if_neg e]
  simp only [zZc, cond_false, Option.bind_some]
  exact Ok.pure (by rw [List.append_nil])
theorem ends_eq {x : zd} (hx : On x) {k : Nat} (hk : 5000 < k) {l : SL zu} (hl : Truths x l.1) (day : Int) : Ok (zab k l day) (fun r => r.1 = endsL l.1 day ∧ r.1.length ≤ 400000) := by
 have hd := hx.fine.days
 have hev : ∀ t ∈ l.1, t.events.1.length ≤ 168 := by
  intro t ht
  rw [(hl.all t ht).ev]
  have := evsL_len hx t.days.1 (Nd x)
  unfold Nd at *
  omega
 have hn := hl.len
 have hone : ∀ t ∈ l.1, ∀ i : Nat, ((fun (t : zu) (_ : Nat) => cat (endG t day) t.events.1) t i).length ≤ 168 := by
  intro t ht i
  have := cat_len 1 (endG_len t day) t.events.1
  have := hev t ht
  show (cat (endG t day) t.events.1).length ≤ _
  omega
 unfold zab
 refine Ok.bind (Ok.collect (acc := []) l.1 (fun t _ => cat (endG t day) t.events.1) (fun j hj => ?_) (fun a => by simp [zVc]) (by omega)) fun r hr => Ok.pure ?_
 ·have ht := hl.all _ (List.getElem_mem hj)
  have hacc : ([] ++ cat (fun (t : zu) (_ : Nat) => cat (endG t day) t.events.1) (l.1.take j)).length ≤ 500000 := by
   have := cat_len' 168 (l.1.take j) fun t ht i => hone t (List.mem_of_mem_take ht) i
   rw [List.length_take] at this
   rw [List.nil_append]
   omega
  simp only [zVc, lt_cond hj, cond_true, succ_eq hj (by omega : l.1.length < 9223372036854775808)]
  refine Ok.bind (ends_L7 hk hj ht.len (by have := hev _ (List.getElem_mem hj); omega) hacc) fun r hr => ?_
  rw [hr]
  exact Ok.pure rfl
 ·rw [List.nil_append] at hr
  refine ⟨hr, ?_⟩
  show r.2.length ≤ _
  rw [hr]
  have := cat_len' 168 l.1 hone
  omega
theorem evsL_end (x : zd) (w : List Int) (d : Nat) : (evsL x w (d + 1))[(evsL x w (d + 1)).length - 1]? = some (evC x d) := by
 rw [evsL_succ]
 unfold evDay
 rw [← List.append_assoc]
 generalize evsL x w d ++ _ = l
 rw [List.length_append, List.length_singleton, List.getElem?_append_right (by omega)]
 simp
theorem evsL_pos (x : zd) (w : List Int) (d : Nat) : 0 < (evsL x w (d + 1)).length := by
 rw [evsL_succ]
 unfold evDay
 simp only [List.length_append, List.length_singleton]
 omega
theorem evsL_pre (x : zd) (w : List Int) (d : Nat) : ∀ n, ∃ l, evsL x w (d + n) = evsL x w d ++ l
 | 0 => ⟨[], by simp⟩
 | n + 1 => by
  obtain ⟨l, h⟩ := evsL_pre x w d n
  exact ⟨l ++ evDay x w ((d + n : Nat) : Int), by rw [← Nat.add_assoc, evsL_succ, h, List.append_assoc]⟩
theorem evsL_le (x : zd) (w : List Int) {d N : Nat} (h : d ≤ N) : (evsL x w d).length ≤ (evsL x w N).length := by
 obtain ⟨l, hl⟩ := evsL_pre x w d (N - d)
 have : d + (N - d) = N := by omega
 rw [this] at hl
 rw [hl, List.length_append]
 omega
theorem evsL_at (x : zd) (w : List Int) {d N : Nat} (h : d < N) : (evsL x w N)[(evsL x w (d + 1)).length - 1]? = some (evC x d) := by
 obtain ⟨l, hl⟩ := evsL_pre x w (d + 1) (N - (d + 1))
 have : d + 1 + (N - (d + 1)) = N := by omega
 rw [this] at hl
 have := evsL_pos x w d
 rw [hl, List.getElem?_append_left (by omega)]
 exact evsL_end x w d
theorem evDg_day {x : zd} {w : List Int} {d : Int} {e : Ev} (h : e ∈ cat (evDg x w d) x.ShelfBook.Deliveries.1) : e.day = -1 := by
 obtain ⟨i, D, _, he⟩ := mem_cat.1 h
 unfold evDg at he
 split at he
 ·rw [List.mem_singleton.1 he]
 ·cases he
theorem evMg_day {x : zd} {d : Int} {e : Ev} (h : e ∈ cat (evMg x d) x.ShelfBook.Moves.1) : e.day = -1 := by
 obtain ⟨i, D, _, he⟩ := mem_cat.1 h
 unfold evMg at he
 split at he
 ·rw [List.mem_singleton.1 he]
 ·cases he
theorem evsL_day (x : zd) (w : List Int) : ∀ (N i : Nat) (e : Ev), (evsL x w N)[i]? = some e → e.day = -1 ∨ ∃ d, d < N ∧ i + 1 = (evsL x w (d + 1)).length ∧ e.day = (d : Int)
 | 0, i, e, h => by simp [evsL] at h
 | N + 1, i, e, h => by
  rw [evsL_succ] at h
  by_cases hi : i < (evsL x w N).length
  ·rw [List.getElem?_append_left hi] at h
   rcases evsL_day x w N i e h with h1 | ⟨d, h1, h2⟩
   ·exact .inl h1
   ·exact .inr ⟨d, by omega, h2⟩
  ·rw [List.getElem?_append_right (by omega)] at h
   unfold evDay at h
   by_cases h2 : i - (evsL x w N).length < (cat (evDg x w N) x.ShelfBook.Deliveries.1 ++ cat (evMg x N) x.ShelfBook.Moves.1).length
   ·rw [List.getElem?_append_left h2] at h
    rcases List.mem_append.1 (List.mem_of_getElem? h) with h3 | h3
    ·exact .inl (evDg_day h3)
    ·exact .inl (evMg_day h3)
   ·rw [List.getElem?_append_right (by omega)] at h
    obtain ⟨h3, h4⟩ := List.getElem?_eq_some_iff.1 h
    rw [List.length_singleton] at h3
    right
    refine ⟨N, by omega, ?_, ?_⟩
    ·rw [evsL_succ]
     unfold evDay
     rw [List.length_append, List.length_append, List.length_singleton]
     omega
    ·have h5 : i - (evsL x w N).length - (cat (evDg x w N) x.ShelfBook.Deliveries.1 ++ cat (evMg x N) x.ShelfBook.Moves.1).length = 0 := by omega
     simp only [h5, List.getElem_cons_zero] at h4
     rw [← h4]
     rfl
def RStock (x : zd) (d : Nat) (n : Int) : Prop := ∃ w v, Way x w ∧ RPath x w v ∧ v (evsL x w (d + 1)).length = n
theorem ends_mem {x : zd} {l : List zu} (hl : Truths x l) {d : Nat} (hd : d < Nd x) (n : Int) : (∃ u ∈ endsL l (d : Int), InS u n) ↔ RStock x d n := by
 constructor
 ·rintro ⟨u, hu, hn⟩
  obtain ⟨j, t, hj, hu⟩ := mem_cat.1 hu
  obtain ⟨i, e, hi, hu⟩ := mem_cat.1 hu
  have ht := hl.all t (List.mem_of_getElem? hj)
  unfold endG at hu
  split at hu
  ·rename_i hday
   have hu' : t.stocks.1[i + 1]? = some u := by
    cases hc : t.stocks.1[i + 1]? with
    | none => rw [hc] at hu; cases hu
    | some u' => rw [hc] at hu; rw [List.mem_singleton.1 hu]
   obtain ⟨v, h1, h2⟩ := (ht.mem _ _ hu' n).1 hn
   rw [ht.ev] at hi
   rcases evsL_day x _ _ _ _ hi with h3 | ⟨d', h3, h4, h5⟩
   ·omega
   ·have : d' = d := by omega
    subst this
    exact ⟨_, v, ht.way, h1, by rw [← h4]; exact h2⟩
  ·cases hu
 ·rintro ⟨w, v, h1, h2, h3⟩
  obtain ⟨t, ht, rfl⟩ := hl.has w h1 ⟨v, h2⟩
  have hT := hl.all t ht
  have hat := evsL_at x t.days.1 hd
  have hpos := evsL_pos x t.days.1 d
  have hlt := (List.getElem?_eq_some_iff.1 hat).1
  have hs : (evsL x t.days.1 (d + 1)).length < t.stocks.1.length := by rw [hT.len, hT.ev]; omega
  have hs' := List.getElem?_eq_getElem hs
  refine ⟨t.stocks.1[(evsL x t.days.1 (d + 1)).length], ?_, (hT.mem _ _ hs' n).2 ⟨v, h2, h3⟩⟩
  obtain ⟨j, hj⟩ := List.getElem?_of_mem ht
  refine mem_cat.2 ⟨j, t, hj, mem_cat.2 ⟨(evsL x t.days.1 (d + 1)).length - 1, evC x d, by rw [hT.ev]; exact hat, ?_⟩⟩
  unfold endG
  have e1 : (evsL x t.days.1 (d + 1)).length - 1 + 1 = (evsL x t.days.1 (d + 1)).length := by omega
  rw [if_pos (show (evC x d).day = (d : Int) from rfl), e1, hs']
  exact .head _
theorem ends_ne {x : zd} {l : List zu} (hl : Truths x l) {d : Int} : ∀ u ∈ endsL l d, u.Low ≤ u.High := by
 intro u hu
 obtain ⟨j, t, hj, hu⟩ := mem_cat.1 hu
 obtain ⟨i, e, hi, hu⟩ := mem_cat.1 hu
 have ht := hl.all t (List.mem_of_getElem? hj)
 unfold endG at hu
 split at hu
 ·have hu' : t.stocks.1[i + 1]? = some u := by
   cases hc : t.stocks.1[i + 1]? with
   | none => rw [hc] at hu; cases hu
   | some u' => rw [hc] at hu; rw [List.mem_singleton.1 hu]
  obtain ⟨v, hv⟩ := ht.path
  have := (ht.mem _ _ hu' _).2 ⟨v, hv, rfl⟩
  exact Int.le_trans this.1 this.2
 ·cases hu
def Ends (P : Int → Prop) (s : zj) : Prop := P s.Low ∧ P s.High ∧ ∀ n, P n → InS s n
theorem Ends.eq {P : Int → Prop} {s t : zj} (hs : Ends P s) (ht : Ends P t) : s = t := by
 have h1 := hs.2.2 _ ht.1
 have h2 := hs.2.2 _ ht.2.1
 have h3 := ht.2.2 _ hs.1
 have h4 := ht.2.2 _ hs.2.1
 unfold InS at *
 cases s; cases t
 simp only at *
 congr 1 <;> omega
theorem wide_ok {k : Nat} {l : SL zj} (hk : l.1.length < k) (hlen : l.1.length ≤ 400000) (hne : ∀ u ∈ l.1, u.Low ≤ u.High) (h0 : l.1 ≠ []) : Ok (zyb k l) (Ends fun n => ∃ u ∈ l.1, InS u n) := by
 unfold zyb
 obtain ⟨l, c⟩ := l
 cases l with
 | nil => exact absurd rfl h0
 | cons a t =>
  rw [show idx (a :: t) 0 = some a from rfl, Option.bind_some]
  refine Ok.bind (Ok.count (a :: t).length (fun j z => z.1 = (j : Int) ∧ (∃ u ∈ a :: t, InS u z.2.1) ∧ (∃ u ∈ a :: t, InS u z.2.2) ∧ ∀ i u, i < j → (a :: t)[i]? = some u → z.2.1 ≤ u.Low ∧ u.High ≤ z.2.2) (Q := fun r : Int × Int × Int => Ends (fun n => ∃ u ∈ a :: t, InS u n) ⟨r.2.1, r.2.2⟩) ?_ ?_ ⟨rfl, ⟨a, .head _, Int.le_refl _, hne a (.head _)⟩, ⟨a, .head _, hne a (.head _), Int.le_refl _⟩, fun i u h => absurd h (by omega)⟩ hk) fun r hr => Ok.pure hr
  ·rintro j ⟨i, lo, hi⟩ hj ⟨h1, h2, h3, h4⟩
   obtain rfl : i = (j : Int) := h1
   have hm := List.getElem_mem hj
   have hge := List.getElem?_eq_getElem hj
   have hle := hne _ hm
   simp only [zQc, lt_cond hj, cond_true, idx_nat hj, Option.bind_some, to_eq, succ_eq hj (by have : (a :: t).length ≤ 400000 := hlen; omega : (a :: t).length < 9223372036854775808)]
   generalize (a :: t)[j] = u at *
   refine Ok.pure ⟨rfl, ?_, ?_, fun i u' hi hu' => ?_⟩
   ·by_cases h : u.Low < lo
    ·simp only [h, if_true]; exact ⟨u, hm, Int.le_refl _, hle⟩
    ·simp only [h, if_false]; exact h2
   ·by_cases h : u.High > hi
    ·simp only [h, if_true]; exact ⟨u, hm, hle, Int.le_refl _⟩
    ·simp only [h, if_false]; exact h3
   ·by_cases e : i = j
    ·subst e; rw [hge] at hu'; cases hu'
     simp only
     constructor <;> split <;> omega
    ·have h5 := h4 i u' (by omega) hu'
     simp only at h5 ⊢
     constructor <;> split <;> omega
  ·rintro ⟨i, lo, hi⟩ ⟨h1, h2, h3, h4⟩
   obtain rfl : i = ((a :: t).length : Int) := h1
   have c1 : decide (((a :: t).length : Int) < ((a :: t).length : Int)) = false := by simp
   simp only [zQc, c1, cond_false]
   refine Ok.pure ⟨h2, h3, fun n hn => ?_⟩
   obtain ⟨u, hu, hn⟩ := hn
   obtain ⟨i, hi⟩ := List.getElem?_of_mem hu
   have := h4 i u (List.getElem?_eq_some_iff.1 hi).1 hi
   unfold InS at *
   simp only at *
   omega
theorem lies_ok {k : Nat} {l : SL zj} (hk : l.1.length < k) (hlen : l.1.length ≤ 400000) (n : Int) : Ok (zGd k l n) (fun r => r = true ↔ ∃ u ∈ l.1, InS u n) := by
 unfold zGd
 refine Ok.bind (Ok.count l.1.length (fun j s => s = (j : Int) ∧ ∀ i u, i < j → l.1[i]? = some u → ¬ InS u n) (Q := fun r : Int ⊕ Int => match r with
  | .inl _ => ∃ u ∈ l.1, InS u n
  | .inr _ => ¬ ∃ u ∈ l.1, InS u n) ?_ ?_ ⟨rfl, fun i u h => absurd h (by omega)⟩ hk) fun r hr => ?_
 ·rintro j s hj ⟨rfl, hg⟩
  have hm := List.getElem_mem hj
  have hge := List.getElem?_eq_getElem hj
  simp only [zYc, lt_cond hj, cond_true, idx_nat hj, Option.bind_some, has_eq, succ_eq hj (by omega : l.1.length < 9223372036854775808)]
  generalize l.1[j] = u at *
  cases hc : decide (u.Low ≤ n) && decide (n ≤ u.High) with
  | true =>
   rw [cond_true]
   simp only [Bool.and_eq_true, decide_eq_true_eq] at hc
   exact Ok.pure ⟨u, hm, hc⟩
  | false =>
   rw [cond_false]
   rw [← Bool.not_eq_true, Bool.and_eq_true, decide_eq_true_eq, decide_eq_true_eq] at hc
   refine Ok.pure ⟨rfl, fun i u' hi hu' => ?_⟩
   by_cases e : i = j
   ·subst e; rw [hge] at hu'; cases hu'; exact hc
   ·exact hg i u' (by omega) hu'
 ·rintro s ⟨rfl, hg⟩
  have c1 : decide ((l.1.length : Int) < (l.1.length : Int)) = false := by simp
  simp only [zYc, c1, cond_false]
  refine Ok.pure ?_
  rintro ⟨u, hu, hn⟩
  obtain ⟨i, hi⟩ := List.getElem?_of_mem hu
  exact hg i u (List.getElem?_eq_some_iff.1 hi).1 hi hn
 ·cases r with
  | inl r => exact Ok.pure ⟨fun _ => hr, fun _ => rfl⟩
  | inr r => exact Ok.pure ⟨fun h => Bool.noConfusion h, fun h => absurd h hr⟩
end Go.AM
set_option linter.unusedVariables false
namespace Go.AM
open Go
theorem zip_congr {α β : Type} {g g' : α → Nat → List β} : ∀ (l : List (α × Nat)), (∀ p ∈ l, g p.1 p.2 = g' p.1 p.2) → (l.flatMap fun p => g p.1 p.2) = l.flatMap fun p => g' p.1 p.2
 | [], _ => rfl
 | p :: t, h => by
  rw [List.flatMap_cons, List.flatMap_cons, h p (.head _), zip_congr t fun q hq => h q (.tail _ hq)]
theorem cat_congr {α β : Type} {g g' : α → Nat → List β} {l : List α} (h : ∀ i a, l[i]? = some a → g a i = g' a i) : cat g l = cat g' l := by
 unfold cat
 exact zip_congr _ fun p hp => h p.2 p.1 (zip_mem hp)
theorem comeL_cat (C : Nat) (ds : List zo) : comeL ds C = cat (fun D i => if C.testBit i = true then [(⟨1, D.By⟩ : zA)] else []) ds := by
 have : ∀ j, j ≤ ds.length → comeL (ds.take j) C = cat (fun D i => if C.testBit i = true then [(⟨1, D.By⟩ : zA)] else []) (ds.take j) := by
  intro j
  induction j with
  | zero => intro _; rfl
  | succ j ih =>
   intro hj
   rw [comeL_succ C (by omega), cat_succ _ (by omega), ih (by omega)]
 have h := this ds.length (Nat.le_refl _)
 rwa [List.take_length] at h
theorem moveL_cat (x : zd) (day : Int) (ms : List zC) : moveL x day ms = cat (fun m _ => if (m.Day == day && m.Shelf == x.shelf) = true then [(⟨if m.Back then 1 else 0, m.By⟩ : zA)] else []) ms := by
 have : ∀ j, j ≤ ms.length → moveL x day (ms.take j) = cat (fun m _ => if (m.Day == day && m.Shelf == x.shelf) = true then [(⟨if m.Back then 1 else 0, m.By⟩ : zA)] else []) (ms.take j) := by
  intro j
  induction j with
  | zero => intro _; rfl
  | succ j ih =>
   intro hj
   rw [moveL_succ x day (by omega), cat_succ _ (by omega), ih (by omega)]
 have h := this ms.length (Nat.le_refl _)
 rwa [List.take_length] at h
def evKey (e : Ev) : zj × zj := (e.by_, e.within)
def evW (x : zd) (w : zA) : zj × zj := (if w.way = 0 then ⟨-w.by_.High, -w.by_.Low⟩ else w.by_, ⟨0, (shelfOf x).Room⟩)
def OnDay (x : zd) (w : List Int) (d : Int) (C : Nat) : Prop := ∀ i D, x.ShelfBook.Deliveries.1[i]? = some D → (C.testBit i = true ↔ D.Shelf = x.shelf ∧ w[i]? = some d)
theorem day_key {x : zd} {w : List Int} {d : Int} {C : Nat} (h : OnDay x w d C) : (cat (evDg x w d) x.ShelfBook.Deliveries.1 ++ cat (evMg x d) x.ShelfBook.Moves.1).map evKey = (todayL x d C).map (evW x) := by
 unfold todayL
 rw [comeL_cat, moveL_cat, List.map_append, List.map_append, cat_map, cat_map, cat_map, cat_map]
 congr 1
 ·refine cat_congr fun i D hD => ?_
  unfold evDg
  have h1 := h i D hD
  by_cases hc : C.testBit i = true
  ·rw [if_pos hc, if_pos (h1.1 hc)]
   simp [evKey, evW]
  ·rw [if_neg hc, if_neg fun h2 => hc (h1.2 h2)]
   rfl
 ·refine cat_congr fun i m hm => ?_
  unfold evMg
  by_cases hc : m.Shelf = x.shelf ∧ m.Day = d
  ·have : (m.Day == d && m.Shelf == x.shelf) = true := by simp [hc]
   rw [if_pos hc, if_pos this]
   cases m.Back <;> simp [evKey, evW]
  ·have : ¬ (m.Day == d && m.Shelf == x.shelf) = true := by
    simp only [Bool.and_eq_true, beq_iff_eq]
    exact fun h2 => hc ⟨h2.2, h2.1⟩
   rw [if_neg hc, if_neg this]
   rfl
theorem steps_cons {e : Ev} {l : List Ev} {u : Nat → Int} : Steps (e :: l) u ↔ StepE e (u 0) (u 1) ∧ Steps l fun i => u (i + 1) := by
 constructor
 ·intro h
  exact ⟨h 0 e rfl, fun i e' he => h (i + 1) e' he⟩
 ·rintro ⟨h1, h2⟩ i e' he
  cases i with
  | zero => cases he; exact h1
  | succ i => exact h2 i e' he
theorem steps_append {l l' : List Ev} {u : Nat → Int} : Steps (l ++ l') u ↔ Steps l u ∧ Steps l' fun i => u (l.length + i) := by
 constructor
 ·intro h
  refine ⟨fun i e he => h i e ?_, fun i e he => ?_⟩
  ·rw [List.getElem?_append_left (List.getElem?_eq_some_iff.1 he).1]; exact he
  ·have := h (l.length + i) e (by rw [List.getElem?_append_right (by omega)]; simpa using he)
   exact this
 ·rintro ⟨h1, h2⟩ i e he
  by_cases hi : i < l.length
  ·rw [List.getElem?_append_left hi] at he
   exact h1 i e he
  ·rw [List.getElem?_append_right (by omega)] at he
   have := h2 (i - l.length) e he
   have e1 : l.length + (i - l.length) = i := by omega
   have e2 : l.length + (i - l.length + 1) = i + 1 := by omega
   simp only [e1, e2] at this
   exact this
theorem stepE_step {x : zd} {w : zA} {e : Ev} (hk : evKey e = evW x w) (m : Nat) (q : Int) : StepE e m q ↔ ∃ p : Nat, (p : Int) = q ∧ (p : Int) ≤ (shelfOf x).Room ∧ Step w.way w.by_ m p := by
 unfold evKey evW at hk
 have h1 : e.by_ = _ := congrArg Prod.fst hk
 have h2 : e.within = _ := congrArg Prod.snd hk
 unfold StepE InS Step
 rw [h1, h2]
 simp only
 by_cases hw : w.way = 0
 ·simp only [hw, if_true]
  constructor
  ·rintro ⟨⟨a, b⟩, c, d⟩
   exact ⟨q.toNat, by omega, by omega, m - q, by omega, by omega, by omega⟩
  ·rintro ⟨p, rfl, a, t, b, c, d⟩
   omega
 ·simp only [hw, if_false]
  constructor
  ·rintro ⟨⟨a, b⟩, c, d⟩
   exact ⟨q.toNat, by omega, by omega, q - m, by omega, by omega, by omega⟩
  ·rintro ⟨p, rfl, a, t, b, c, d⟩
   omega
theorem run_steps {x : zd} : ∀ (ws : List zA) (L : List Ev), L.map evKey = ws.map (evW x) → ∀ m n : Nat, Run x ws m n ↔ ∃ u : Nat → Int, Steps L u ∧ u 0 = m ∧ u L.length = n
 | [], L, h, m, n => by
  obtain rfl : L = [] := List.map_eq_nil_iff.1 h
  show m = n ↔ _
  constructor
  ·rintro rfl
   exact ⟨fun _ => m, fun i e he => by simp at he, rfl, rfl⟩
  ·rintro ⟨u, _, h1, h2⟩
   have h3 : u 0 = n := h2
   omega
 | w :: t, [], h, m, n => by simp at h
 | w :: t, e :: L, h, m, n => by
  rw [List.map_cons, List.map_cons] at h
  have hk : evKey e = evW x w := (List.cons.inj h).1
  have ht := (List.cons.inj h).2
  constructor
  ·rintro ⟨q, h1, h2, h3⟩
   obtain ⟨u, h4, h5, h6⟩ := (run_steps t L ht q n).1 h3
   refine ⟨fun i => match i with | 0 => (m : Int) | i + 1 => u i, steps_cons.2 ⟨?_, h4⟩, rfl, h6⟩
   show StepE e (m : Int) (u 0)
   exact (stepE_step hk m _).2 ⟨q, h5.symm, h1, h2⟩
  ·rintro ⟨u, h4, h5, h6⟩
   obtain ⟨h7, h8⟩ := steps_cons.1 h4
   rw [h5] at h7
   obtain ⟨q, h9, h10, h11⟩ := (stepE_step hk m _).1 h7
   exact ⟨q, h10, h11, (run_steps t L ht q n).2 ⟨_, h8, h9.symm, h6⟩⟩
theorem day_steps {x : zd} {w : List Int} {d : Int} {C : Nat} (h : OnDay x w d C) {m n : Nat} (hm : (m : Int) ≤ (shelfOf x).Room) :
  (Run x (todayL x d C) m n ∧ CountsLet x d n) ↔ ∃ u : Nat → Int, Steps (evDay x w d) u ∧ u 0 = m ∧ u (evDay x w d).length = n := by
 have hrs := run_steps (todayL x d C) _ (day_key h) m n
 constructor
 ·rintro ⟨h1, h2⟩
  obtain ⟨u, h3, h4, h5⟩ := hrs.1 h1
  refine ⟨fun i => if i ≤ (cat (evDg x w d) x.ShelfBook.Deliveries.1 ++ cat (evMg x d) x.ShelfBook.Moves.1).length then u i else n, ?_, by simpa using h4, ?_⟩
  ·unfold evDay
   refine steps_append.2 ⟨fun i e he => ?_, fun i e he => ?_⟩
   ·have hi := (List.getElem?_eq_some_iff.1 he).1
    have a1 : i ≤ (cat (evDg x w d) x.ShelfBook.Deliveries.1 ++ cat (evMg x d) x.ShelfBook.Moves.1).length := by omega
    have a2 : i + 1 ≤ (cat (evDg x w d) x.ShelfBook.Deliveries.1 ++ cat (evMg x d) x.ShelfBook.Moves.1).length := by omega
    simp only [a1, a2, if_true]
    exact h3 i e he
   ·cases i with
    | zero =>
     cases he
     have a2 : ¬ (cat (evDg x w d) x.ShelfBook.Deliveries.1 ++ cat (evMg x d) x.ShelfBook.Moves.1).length + 1 ≤ (cat (evDg x w d) x.ShelfBook.Deliveries.1 ++ cat (evMg x d) x.ShelfBook.Moves.1).length := by omega
     simp only [Nat.add_zero, Nat.zero_add, Nat.le_refl, if_true, a2, if_false]
     rw [h5]
     refine ⟨?_, (cntS_in d n).2 ⟨run_room _ m n h1 hm, h2⟩⟩
     show InS (⟨0, 0⟩ : zj) _
     unfold InS; simp
    | succ i => cases he
  ·unfold evDay
   generalize cat (evDg x w d) x.ShelfBook.Deliveries.1 ++ cat (evMg x d) x.ShelfBook.Moves.1 = A
   show (if (A ++ [evC x d]).length ≤ A.length then u (A ++ [evC x d]).length else (n : Int)) = n
   rw [if_neg (by simp)]
 ·rintro ⟨u, h3, h4, h5⟩
  unfold evDay at h3 h5
  obtain ⟨h6, h7⟩ := steps_append.1 h3
  have h8 := h7 0 (evC x d) rfl
  rw [List.length_append, List.length_singleton] at h5
  simp only [Nat.add_zero, Nat.zero_add] at h8
  rw [h5] at h8
  obtain ⟨h9, h10⟩ := h8
  have h11 : InS (⟨0, 0⟩ : zj) _ := h9
  unfold InS at h11
  simp only at h11
  exact ⟨hrs.2 ⟨u, h6, h4, by omega⟩, ((cntS_in d n).1 h10).2⟩
theorem bits_ex (p : Nat → Bool) : ∀ n, ∃ C, C < 2 ^ n ∧ ∀ i, C.testBit i = (decide (i < n) && p i)
 | 0 => ⟨0, by simp, fun i => by simp⟩
 | n + 1 => by
  obtain ⟨C, h1, h2⟩ := bits_ex p n
  have hp : (2 : Nat) ^ (n + 1) = 2 ^ n + 2 ^ n := by rw [Nat.pow_succ]; omega
  cases hpn : p n with
  | false =>
   refine ⟨C, by omega, fun i => ?_⟩
   rw [h2 i]
   by_cases e : i = n
   ·subst e; simp [hpn]
   ·have : decide (i < n + 1) = decide (i < n) := by
     by_cases h3 : i < n
     ·simp [h3]; omega
     ·simp [h3]; omega
    rw [this]
  | true =>
   refine ⟨2 ^ n + C, by omega, fun i => ?_⟩
   by_cases e : i = n
   ·subst e
    rw [Nat.testBit_two_pow_add_eq, h2 i]
    simp [hpn]
   ·by_cases h3 : i < n
    ·rw [Nat.testBit_two_pow_add_gt h3, h2 i]
     have : i < n + 1 := by omega
     simp [h3, this]
    ·rw [Nat.testBit_lt_two_pow (Nat.lt_of_lt_of_le (show 2 ^ n + C < 2 ^ (n + 1) by omega) (Nat.pow_le_pow_right (by omega) (by omega)))]
     have : ¬ i < n + 1 := by omega
     simp [this]
theorem bits_zero {C : Nat} (h : ∀ i, C.testBit i = false) : C = 0 := Nat.eq_of_testBit_eq fun i => by rw [h i]; simp
theorem dif_bit {x y : Nat} (hx : x < 2 ^ 63) (hy : y < 2 ^ 63) (i : Nat) : (dif x y).testBit i = (x.testBit i && !y.testBit i) := (andNot_eq hx hy).2.2.2 i
end Go.AM
set_option linter.unusedVariables false
namespace Go.AM
open Go
theorem steps_mono {l : List Ev} {u u' : Nat → Int} (h : ∀ i, i ≤ l.length → u i = u' i) (hu : Steps l u) : Steps l u' := by
 intro i e he
 have hi := (List.getElem?_eq_some_iff.1 he).1
 rw [← h i (by omega), ← h (i + 1) (by omega)]
 exact hu i e he
theorem set_ex (x : zd) (w : List Int) (e : Nat) : ∃ C, C < nset x ∧ ∀ i, C.testBit i = true ↔ ∃ D c, x.ShelfBook.Deliveries.1[i]? = some D ∧ D.Shelf = x.shelf ∧ w[i]? = some c ∧ c < (e : Int) := by
 obtain ⟨C, h1, h2⟩ := bits_ex (fun i => match x.ShelfBook.Deliveries.1[i]?, w[i]? with
  | some D, some c => decide (D.Shelf = x.shelf) && decide (c < (e : Int))
  | _, _ => false) x.ShelfBook.Deliveries.1.length
 refine ⟨C, h1, fun i => ?_⟩
 rw [h2 i, Bool.and_eq_true, decide_eq_true_eq]
 constructor
 ·rintro ⟨h3, h4⟩
  obtain ⟨D, hD, _⟩ := get_of_lt h3
  rw [hD] at h4
  cases hw : w[i]? with
  | none => rw [hw] at h4; cases h4
  | some c =>
   rw [hw] at h4
   simp only [Bool.and_eq_true, decide_eq_true_eq] at h4
   exact ⟨D, c, hD, h4.1, rfl, h4.2⟩
 ·rintro ⟨D, c, h3, h4, h5, h6⟩
  refine ⟨(List.getElem?_eq_some_iff.1 h3).1, ?_⟩
  rw [h3, h5]
  simp [h4, h6]
theorem way_at {x : zd} {w : List Int} (hw : Way x w) {i : Nat} {D : zo} (hD : x.ShelfBook.Deliveries.1[i]? = some D) : ∃ c, w[i]? = some c ∧ D.Days.Low ≤ c ∧ c ≤ (if D.Shelf = x.shelf then D.Days.High else D.Days.Low) :=
 hw.2 i D (List.getElem?_eq_some_iff.1 hD).1 hD
theorem path_in {x : zd} (hx : On x) {w : List Int} {V : Nat → Int} (h : RPath x w V) : ∀ i, i ≤ (evsL x w (Nd x)).length → 0 ≤ V i ∧ V i ≤ (shelfOf x).Room
 | 0, _ => by
  obtain ⟨_, h1, h2, h3⟩ := hx.shelf
  have h0 := h.1
  unfold InS at h0
  omega
 | i + 1, hi => by
  obtain ⟨e, he, hm⟩ := get_of_lt (show i < (evsL x w (Nd x)).length by omega)
  have h1 := (h.2 i e he).2
  have h2 : 0 ≤ e.within.Low ∧ e.within.High ≤ (shelfOf x).Room := by
   unfold evsL at hm
   obtain ⟨d, _, hm⟩ := List.mem_flatMap.1 hm
   unfold evDay at hm
   rw [List.mem_append, List.mem_append] at hm
   rcases hm with (hm | hm) | hm
   ·obtain ⟨i, D, hD, he⟩ := mem_cat.1 hm
    unfold evDg at he
    split at he
    ·obtain rfl := List.mem_singleton.1 he
     exact ⟨Int.le_refl _, Int.le_refl _⟩
    ·cases he
   ·obtain ⟨i, D, hD, he⟩ := mem_cat.1 hm
    unfold evMg at he
    split at he
    ·obtain rfl := List.mem_singleton.1 he
     exact ⟨Int.le_refl _, Int.le_refl _⟩
    ·cases he
   ·obtain rfl := List.mem_singleton.1 hm
    refine ⟨(cntS_bd hx d).2, ?_⟩
    have := (foldl_in x d (cntS x d).High x.ShelfBook.Counts.1.zipIdx ⟨0, (shelfOf x).Room⟩)
    have hhi : ∀ (l : List (zp × Nat)) (s : zj), (l.foldl (cntStep x d) s).High ≤ s.High := by
     intro l
     induction l with
     | nil => intro s; exact Int.le_refl _
     | cons p t ih =>
      intro s
      refine Int.le_trans (ih _) ?_
      unfold cntStep comm
      split
      ·simp only
       by_cases h : p.1.Read + p.1.Err < s.High <;> simp only [h, if_true, if_false] <;> omega
      ·exact Int.le_refl _
    exact hhi _ _
  unfold InS at h1
  omega
theorem path_chain {x : zd} (hx : On x) {w : List Int} {V : Nat → Int} (hw : Way x w) (h : RPath x w V) : ∃ Cs v, Chain x (Nd x) Cs v ∧ ∀ d, d ≤ Nd x → (v d : Int) = V (evsL x w d).length := by
 have hd := hx.fine.days
 have h8 := nset_le hx
 have hset := set_ex x w
 refine ⟨fun e => (hset e).choose, fun d => (V (evsL x w d).length).toNat, ⟨?_, ?_, fun e he => ⟨?_, ?_, ?_⟩⟩, fun d hd => ?_⟩
 ·refine bits_zero fun i => ?_
  have h1 := (hset 0).choose_spec.2 i
  cases hb : (hset 0).choose.testBit i with
  | false => rfl
  | true =>
   obtain ⟨D, c, h2, h3, h4, h5⟩ := h1.1 hb
   obtain ⟨c', h6, h7, _⟩ := way_at hw h2
   rw [h4] at h6; cases h6
   have := (hx.fine.deliveries _ (List.mem_of_getElem? h2)).2.1.1
   omega
 ·have h0 := h.1
  have h1 := path_in hx h 0 (by omega)
  unfold InS at h0
  have : (evsL x w 0).length = 0 := rfl
  rw [this]
  omega
 ·exact (hset (e + 1)).choose_spec.1
 ·intro i D hD
  have hB := (hset e).choose_spec.2 i
  have hC := (hset (e + 1)).choose_spec.2 i
  obtain ⟨c, h6, h7, h8⟩ := way_at hw hD
  have hb : (hset e).choose.testBit i = true ↔ D.Shelf = x.shelf ∧ c < (e : Int) := by
   rw [hB]
   constructor
   ·rintro ⟨D', c', h1, h2, h3, h4⟩
    rw [hD] at h1; rw [h6] at h3; cases h1; cases h3
    exact ⟨h2, h4⟩
   ·rintro ⟨h2, h4⟩; exact ⟨D, c, hD, h2, h6, h4⟩
  have hc : (hset (e + 1)).choose.testBit i = true ↔ D.Shelf = x.shelf ∧ c < ((e + 1 : Nat) : Int) := by
   rw [hC]
   constructor
   ·rintro ⟨D', c', h1, h2, h3, h4⟩
    rw [hD] at h1; rw [h6] at h3; cases h1; cases h3
    exact ⟨h2, h4⟩
   ·rintro ⟨h2, h4⟩; exact ⟨D, c, hD, h2, h6, h4⟩
  unfold NextD
  by_cases hs : D.Shelf = x.shelf
  ·rw [if_pos hs]
   rw [if_pos hs] at h8
   refine ⟨fun h1 => hc.2 ⟨hs, by have := (hb.1 h1).2; push_cast; omega⟩, fun h1 h2 => ?_, fun h1 => ?_⟩
   ·have h3 := (hc.1 h1).2
    have h4 : ¬ c < (e : Int) := fun h4 => by rw [hb.2 ⟨hs, h4⟩] at h2; cases h2
    push_cast at h3
    omega
   ·have h4 : ¬ c < ((e + 1 : Nat) : Int) := fun h4 => by rw [hc.2 ⟨hs, h4⟩] at h1; cases h1
    push_cast at h4
    omega
  ·rw [if_neg hs]
   cases hb' : (hset (e + 1)).choose.testBit i with
   | false => rfl
   | true => exact absurd (hc.1 hb').1 hs
 ·have hB := (hset e).choose_spec
  have hC := (hset (e + 1)).choose_spec
  have hon : OnDay x w e (dif (hset (e + 1)).choose (hset e).choose) := by
   intro i D hD
   rw [dif_bit (by omega) (by omega), Bool.and_eq_true, Bool.not_eq_true', hC.2 i, ← Bool.not_eq_true, hB.2 i]
   obtain ⟨c, h6, h7, h8⟩ := way_at hw hD
   constructor
   ·rintro ⟨⟨D', c', h1, h2, h3, h4⟩, h5⟩
    rw [hD] at h1; rw [h6] at h3; cases h1; cases h3
    refine ⟨h2, ?_⟩
    have : ¬ c < (e : Int) := fun h9 => h5 ⟨D, c, hD, h2, h6, h9⟩
    rw [h6]
    congr 1
    push_cast at h4
    omega
   ·rintro ⟨h1, h2⟩
    refine ⟨⟨D, e, hD, h1, h2, by push_cast; omega⟩, ?_⟩
    rintro ⟨D', c', h3, h4, h5, h9⟩
    rw [h2] at h5; cases h5
    omega
  have hsteps : Steps (evDay x w e) fun i => V ((evsL x w e).length + i) := by
   obtain ⟨l, hl⟩ := evsL_pre x w (e + 1) (Nd x - (e + 1))
   have e1 : e + 1 + (Nd x - (e + 1)) = Nd x := by have : e < Nd x := he; omega
   rw [e1] at hl
   have h1 := h.2
   rw [hl, evsL_succ, List.append_assoc] at h1
   have h2 := (steps_append.1 h1).2
   exact (steps_append.1 h2).1
  have he' : e < Nd x := he
  have r0 := path_in hx h (evsL x w e).length (evsL_le x w (by omega))
  have r1 := path_in hx h (evsL x w (e + 1)).length (evsL_le x w (by omega))
  refine (day_steps hon (by omega)).2 ⟨_, hsteps, ?_, ?_⟩
  ·show V ((evsL x w e).length + 0) = _
   rw [Nat.add_zero]
   omega
  ·show V ((evsL x w e).length + (evDay x w e).length) = _
   have : (evsL x w (e + 1)).length = (evsL x w e).length + (evDay x w e).length := by rw [evsL_succ, List.length_append]
   rw [← this]
   omega
 ·have := path_in hx h (evsL x w d).length (evsL_le x w hd)
  show (((V (evsL x w d).length).toNat : Nat) : Int) = _
  omega
theorem bit_mono {x : zd} {N : Nat} {Cs v : Nat → Nat} (h : Chain x N Cs v) {i : Nat} {D : zo} (hD : x.ShelfBook.Deliveries.1[i]? = some D) (hs : D.Shelf = x.shelf) : ∀ t e, e + t ≤ N → (Cs e).testBit i = true → (Cs (e + t)).testBit i = true
 | 0, e, _, hb => hb
 | t + 1, e, he, hb => by
  have h1 := bit_mono h hD hs t e (by omega) hb
  have h2 := (h.step (e + t) (by omega)).2.1 i D hD
  unfold NextD at h2
  rw [if_pos hs] at h2
  exact h2.1 h1
theorem first_bit {C : Nat → Nat} {i : Nat} (h0 : C 0 = 0) : ∀ N, (C N).testBit i = true → ∃ e, e < N ∧ (C e).testBit i = false ∧ (C (e + 1)).testBit i = true
 | 0, h => by rw [h0] at h; simp at h
 | N + 1, h => by
  cases hb : (C N).testBit i with
  | false => exact ⟨N, by omega, hb, h⟩
  | true =>
   obtain ⟨e, h1, h2⟩ := first_bit h0 N hb
   exact ⟨e, by omega, h2⟩
theorem list_ex {n : Nat} {P : Nat → Int → Prop} (h : ∀ i, i < n → ∃ c, P i c) : ∃ w : List Int, w.length = n ∧ ∀ i, i < n → ∃ c, w[i]? = some c ∧ P i c := by
 induction n with
 | zero => exact ⟨[], rfl, fun i h => absurd h (by omega)⟩
 | succ n ih =>
  obtain ⟨w, h1, h2⟩ := ih fun i hi => h i (by omega)
  obtain ⟨c, hc⟩ := h n (by omega)
  refine ⟨w ++ [c], by simp [h1], fun i hi => ?_⟩
  by_cases e : i = n
  ·subst e
   exact ⟨c, by rw [← h1]; simp, hc⟩
  ·obtain ⟨c', h3, h4⟩ := h2 i (by omega)
   exact ⟨c', by rw [List.getElem?_append_left (by omega)]; exact h3, h4⟩
theorem chain_way {x : zd} (hx : On x) {Cs v : Nat → Nat} (h : Chain x (Nd x) Cs v) : ∃ w, Way x w ∧ ∀ e, e < Nd x → OnDay x w e (dif (Cs (e + 1)) (Cs e)) := by
 have hd := hx.fine.days
 have h8 := nset_le hx
 have hlt : ∀ e, e ≤ Nd x → Cs e < 2 ^ 63 := by
  intro e he
  have := (chain_in hx h e he).2
  omega
 obtain ⟨w, h1, h2⟩ := list_ex (n := x.ShelfBook.Deliveries.1.length) (P := fun i c => ∀ D, x.ShelfBook.Deliveries.1[i]? = some D → (D.Days.Low ≤ c ∧ c ≤ (if D.Shelf = x.shelf then D.Days.High else D.Days.Low)) ∧ (D.Shelf = x.shelf → ∃ e : Nat, c = e ∧ e < Nd x ∧ (Cs e).testBit i = false ∧ (Cs (e + 1)).testBit i = true)) (by
  intro i hi
  obtain ⟨D, hD, hm⟩ := get_of_lt hi
  obtain ⟨_, ⟨hd1, hd2, hd3⟩, _⟩ := hx.fine.deliveries _ hm
  by_cases hs : D.Shelf = x.shelf
  ·have hN : (Cs (Nd x)).testBit i = true := by
    have h3 : Nd x - 1 + 1 = Nd x := by unfold Nd; omega
    have h4 := (h.step (Nd x - 1) (by omega)).2.1 i D hD
    rw [h3] at h4
    unfold NextD at h4
    rw [if_pos hs] at h4
    cases hb : (Cs (Nd x)).testBit i with
    | true => rfl
    | false =>
     have := h4.2.2 hb
     unfold Nd at this
     omega
   obtain ⟨e, h3, h4, h5⟩ := first_bit h.c0 _ hN
   have h6 := (h.step e h3).2.1 i D hD
   unfold NextD at h6
   rw [if_pos hs] at h6
   have h7 := h6.2.1 h5 h4
   refine ⟨e, fun D' hD' => ?_⟩
   rw [hD] at hD'; cases hD'
   rw [if_pos hs]
   exact ⟨h7, fun _ => ⟨e, rfl, h3, h4, h5⟩⟩
  ·refine ⟨D.Days.Low, fun D' hD' => ?_⟩
   rw [hD] at hD'; cases hD'
   rw [if_neg hs]
   exact ⟨⟨Int.le_refl _, Int.le_refl _⟩, fun h => absurd h hs⟩)
 refine ⟨w, ⟨h1, fun i D hi hD => ?_⟩, fun e he i D hD => ?_⟩
 ·obtain ⟨c, h3, h4⟩ := h2 i hi
  exact ⟨c, h3, (h4 D hD).1⟩
 ·obtain ⟨c, h3, h4⟩ := h2 i (List.getElem?_eq_some_iff.1 hD).1
  rw [dif_bit (hlt _ (by omega)) (hlt _ (by omega)), Bool.and_eq_true, Bool.not_eq_true']
  constructor
  ·rintro ⟨h5, h6⟩
   have hs : D.Shelf = x.shelf := by
    refine Classical.byContradiction fun hs => ?_
    have h7 := (h.step e he).2.1 i D hD
    unfold NextD at h7
    rw [if_neg hs] at h7
    rw [h7] at h5; cases h5
   obtain ⟨e', rfl, h7, h8, h9⟩ := (h4 D hD).2 hs
   refine ⟨hs, ?_⟩
   have : e' = e := by
    rcases Nat.lt_trichotomy e' e with h10 | h10 | h10
    ·have := bit_mono h hD hs (e - (e' + 1)) (e' + 1) (by omega) h9
     have e1 : e' + 1 + (e - (e' + 1)) = e := by omega
     rw [e1, h6] at this; cases this
    ·exact h10
    ·have := bit_mono h hD hs (e' - (e + 1)) (e + 1) (by omega) h5
     have e1 : e + 1 + (e' - (e + 1)) = e' := by omega
     rw [e1, h8] at this; cases this
   rw [h3, this]
  ·rintro ⟨hs, h5⟩
   obtain ⟨e', rfl, h7, h8, h9⟩ := (h4 D hD).2 hs
   rw [h3] at h5
   have : e' = e := by have := Option.some.inj h5; omega
   subst this
   exact ⟨h9, h8⟩
theorem chain_path {x : zd} (hx : On x) {Cs v : Nat → Nat} (h : Chain x (Nd x) Cs v) : ∃ w V, Way x w ∧ RPath x w V ∧ (∀ d, d ≤ Nd x → V (evsL x w d).length = v d) := by
 obtain ⟨w, hw, hon⟩ := chain_way hx h
 suffices ∀ d, d ≤ Nd x → ∃ V : Nat → Int, V 0 = v 0 ∧ Steps (evsL x w d) V ∧ ∀ d', d' ≤ d → V (evsL x w d').length = v d' by
  obtain ⟨V, h1, h2, h3⟩ := this (Nd x) (Nat.le_refl _)
  have h4 := h.v0
  exact ⟨w, V, hw, ⟨by unfold InS; rw [h1]; exact h4, h2⟩, h3⟩
 intro d
 induction d with
 | zero =>
  intro _
  refine ⟨fun _ => v 0, rfl, fun i e he => by simp [evsL] at he, fun d' hd' => ?_⟩
  obtain rfl : d' = 0 := by omega
  rfl
 | succ d ih =>
  intro hd
  obtain ⟨V, h1, h2, h3⟩ := ih (by omega)
  have hin := (chain_in hx h d (by omega)).1
  obtain ⟨u, h4, h5, h6⟩ := (day_steps (hon d (by omega)) hin).1 (h.step d (by omega)).2.2
  have hlen := h3 d (Nat.le_refl _)
  refine ⟨fun i => if i ≤ (evsL x w d).length then V i else u (i - (evsL x w d).length), by simpa using h1, ?_, fun d' hd' => ?_⟩
  ·rw [evsL_succ]
   refine steps_append.2 ⟨steps_mono (fun i hi => ?_) h2, steps_mono (fun i hi => ?_) h4⟩
   ·simp only [hi, if_true]
   ·by_cases hi0 : i = 0
    ·subst hi0
     simp only [Nat.add_zero, Nat.le_refl, if_true]
     rw [hlen, h5]
    ·have a1 : ¬ (evsL x w d).length + i ≤ (evsL x w d).length := by omega
     simp only [a1, if_false]
     congr 1
     omega
  ·by_cases e : d' = d + 1
   ·subst e
    have hl : (evsL x w (d + 1)).length = (evsL x w d).length + (evDay x w d).length := by rw [evsL_succ, List.length_append]
    have hpos : 0 < (evDay x w d).length := by unfold evDay; simp only [List.length_append, List.length_singleton]; omega
    have a1 : ¬ (evsL x w (d + 1)).length ≤ (evsL x w d).length := by omega
    simp only [a1, if_false]
    rw [← h6]
    congr 1
    omega
   ·have a1 : (evsL x w d').length ≤ (evsL x w d).length := evsL_le x w (by omega)
    simp only [a1, if_true]
    exact h3 d' (by omega)
theorem can_rcan {x : zd} (hx : On x) : CanBe x ↔ RCan x := by
 rw [canBe_chain hx]
 constructor
 ·rintro ⟨Cs, v, h⟩
  obtain ⟨w, V, h1, h2, _⟩ := chain_path hx h
  exact ⟨w, V, h1, h2⟩
 ·rintro ⟨w, V, h1, h2⟩
  obtain ⟨Cs, v, h, _⟩ := path_chain hx h1 h2
  exact ⟨Cs, v, h⟩
theorem stock_rstock {x : zd} (hx : On x) {d : Nat} (hd : (d : Int) < x.ShelfBook.Days) (n : Int) : (∃ m : Nat, n = m ∧ Stock x d m) ↔ RStock x d n := by
 constructor
 ·rintro ⟨m, rfl, h⟩
  obtain ⟨Cs, v, h1, rfl⟩ := (stock_chain hx hd).1 h
  obtain ⟨w, V, h2, h3, h4⟩ := chain_path hx h1
  exact ⟨w, V, h2, h3, h4 _ (by unfold Nd; omega)⟩
 ·rintro ⟨w, V, h1, h2, rfl⟩
  obtain ⟨Cs, v, h3, h4⟩ := path_chain hx h1 h2
  exact ⟨v (d + 1), (h4 _ (by unfold Nd; omega)).symm, (stock_chain hx hd).2 ⟨Cs, v, h3, rfl⟩⟩
theorem booktrue_r {b : zb} (hb : Fine b) {left : Int} (h0 : 0 ≤ left) (h1 : left < 9223372036854775808) : BookTrue b left ↔ RBookTrue b left := by
 unfold BookTrue RBookTrue
 constructor
 ·intro h s hs
  exact (can_rcan ⟨hb, by simp, by simpa using hs, h0, h1⟩).1 (h s hs)
 ·intro h s hs
  exact (can_rcan ⟨hb, by simp, by simpa using hs, h0, h1⟩).2 (h s hs)
end Go.AM
set_option linter.unusedVariables false
namespace Go.AM
open Go
def SpotIn (b : zb) (s d : Int) : Prop := (0 ≤ s ∧ s ≤ (b.Shelves.1.length : Int) - 1) ∧ 0 ≤ d ∧ d ≤ b.Days - 1
def AskE (b : zb) (q T : Prop) (e : Int) : Prop :=
 (¬ Fine b ∧ e = 40) ∨ (Fine b ∧ ¬ q ∧ e = 41) ∨ (Fine b ∧ q ∧ ¬ T ∧ e = 42) ∨ (Fine b ∧ q ∧ T ∧ e = 0)
theorem AskE.eq {b : zb} {q T : Prop} {e f : Int} (h : AskE b q T e) (g : AskE b q T f) : e = f := by
 unfold AskE at *
 rcases h with ⟨h1, h2⟩ | ⟨h1, h2, h3⟩ | ⟨h1, h2, h3, h4⟩ | ⟨h1, h2, h3, h4⟩ <;> rcases g with ⟨g1, g2⟩ | ⟨g1, g2, g3⟩ | ⟨g1, g2, g3, g4⟩ | ⟨g1, g2, g3, g4⟩ <;> first | omega | exact absurd h1 g1 | exact absurd g1 h1 | exact absurd h2 g2 | exact absurd g2 h2 | exact absurd h3 g3 | exact absurd g3 h3
theorem AskE.ok {b : zb} {q T : Prop} {e : Int} (h : AskE b q T e) (he : e = 0) : Fine b ∧ q ∧ T := by
 unfold AskE at h
 rcases h with ⟨h1, h2⟩ | ⟨h1, h2, h3⟩ | ⟨h1, h2, h3, h4⟩ | ⟨h1, h2, h3, h4⟩
 ·omega
 ·omega
 ·omega
 ·exact ⟨h1, h2, h3⟩
theorem AskE.cases {b : zb} {q T : Prop} {e : Int} (h : AskE b q T e) : e = 40 ∨ e = 41 ∨ e = 42 ∨ e = 0 := by
 unfold AskE at h
 rcases h with ⟨h1, h2⟩ | ⟨h1, h2, h3⟩ | ⟨h1, h2, h3, h4⟩ | ⟨h1, h2, h3, h4⟩ <;> omega
theorem asked_e {b : zb} {right : Bool} {q T : Prop} {e : Int} (hr : Fine b → (right = true ↔ q)) (h : Asked b right T e) : AskE b q T e := by
 unfold Asked at h
 unfold AskE
 rcases h with ⟨h1, h2⟩ | ⟨h1, h2, h3⟩ | ⟨h1, h2, h3, h4⟩ | ⟨h1, h2, h3, h4⟩
 ·exact .inl ⟨h1, h2⟩
 ·exact .inr (.inl ⟨h1, fun hq => (by rw [(hr h1).2 hq] at h2; cases h2), h3⟩)
 ·exact .inr (.inr (.inl ⟨h1, (hr h1).1 h2, h3, h4⟩))
 ·exact .inr (.inr (.inr ⟨h1, (hr h1).1 h2, h3, h4⟩))
theorem fine_w {b : zb} (hf : Fine b) : w64 (b.Days - 1) = b.Days - 1 := by
 have := hf.days
 exact w64_id (by omega) (by omega)
theorem isSpot_ok {b : zb} (hs : Small b) (k : Nat) (s d : Int) : ∃ r, zBe k b s d = some r ∧ zLb k b s d = some r ∧ (Fine b → (r = true ↔ SpotIn b s d)) := by
 refine ⟨(decide (0 ≤ s) && decide (s ≤ (b.Shelves.1.length : Int) - 1)) && (decide (0 ≤ d) && decide (d ≤ w64 (b.Days - 1))), by simp only [zBe, within_eq, Option.bind_some, cond_and, pred_eq hs.shelves], by simp only [zLb, isShelf_eq hs, tween_eq, Option.bind_some, cond_and], fun hf => ?_⟩
 rw [fine_w hf]
 simp only [Bool.and_eq_true, decide_eq_true_eq, SpotIn]
def StockI (b : zb) (s : Int) (d : Nat) (n : Int) : Prop := ∃ m : Nat, n = m ∧ Stock ⟨b, s, 0⟩ d m
theorem spot_on {b : zb} (hf : Fine b) {s d : Int} (h : SpotIn b s d) : On (⟨b, s, 0⟩ : zd) := ⟨hf, h.1.1, by have := h.1.2; show s < (b.Shelves.1.length : Int); omega, Int.le_refl _, by show (0 : Int) < _; omega⟩
theorem book_can {b : zb} {s : Int} (hT : BookTrue b 0) (h0 : 0 ≤ s) (h1 : s ≤ (b.Shelves.1.length : Int) - 1) : CanBe (⟨b, s, 0⟩ : zd) := by
 have := hT s.toNat (by omega)
 rwa [Int.toNat_of_nonneg h0] at this
theorem can_stock {x : zd} (hx : On x) (hc : CanBe x) {d : Nat} (hd : (d : Int) < x.ShelfBook.Days) : ∃ n, Stock x d n := by
 obtain ⟨Cs, v, h⟩ := (canBe_chain hx).1 hc
 exact ⟨v (d + 1), (stock_chain hx hd).2 ⟨Cs, v, h, rfl⟩⟩
theorem stock_le {x : zd} (hx : On x) {d n : Nat} (h : Stock x d n) : n ≤ 60 := by
 obtain ⟨C, h1, _⟩ := h
 have := comes_in hx _ _ _ h1
 have := hx.shelf.1.2
 omega
theorem stocks_at {x : zd} (hx : On x) {v : Nat → Bool} (h : ∀ i : Nat, v i = true ↔ ∃ day n : Nat, (day : Int) < x.ShelfBook.Days ∧ i = day * 61 + n ∧ Stock x day n) {d n : Nat} (hd : (d : Int) < x.ShelfBook.Days) (hn : n ≤ 60) : v (d * 61 + n) = true ↔ Stock x d n := by
 rw [h]
 constructor
 ·rintro ⟨day, m, h1, h2, h3⟩
  have := stock_le hx h3
  obtain rfl : day = d := by omega
  obtain rfl : n = m := by omega
  exact h3
 ·exact fun h3 => ⟨d, n, hd, rfl, h3⟩
theorem span_ends {b : zb} {s : Int} (hx : On (⟨b, s, 0⟩ : zd)) (hc : CanBe (⟨b, s, 0⟩ : zd)) {v : Nat → Bool} {d : Nat} (hd : (d : Int) < b.Days) (h : ∀ n, n ≤ 60 → (v n = true ↔ Stock ⟨b, s, 0⟩ d n)) {t : zj} (ht : SpanOf v 61 t.Low t.High) : Ends (StockI b s d) t := by
 obtain ⟨h1, h2⟩ := ht
 rcases h2 with ⟨h3, h4, h5⟩ | ⟨a, c, h3, h4, h5, h6, h7, h8⟩
 ·obtain ⟨n, hn⟩ := can_stock hx hc hd
  have hle := stock_le hx hn
  have := h5 n (by omega)
  rw [(h n hle).2 hn] at this; cases this
 ·refine ⟨⟨a, h7, (h a (by omega)).1 h5⟩, ⟨c, h8, (h c (by omega)).1 h6⟩, ?_⟩
  rintro n ⟨m, rfl, hm⟩
  have hle := stock_le hx hm
  exact h1 m (by omega) ((h m hle).2 hm)
section
variable {b : zb} {k : Nat}
theorem was_ok (hs : Small b) (hd : b.Days ≤ 9223372036854775807) (hk : Fuel k b) (s d : Int) : Ok (z4g k b s d) (fun r => AskE b (SpotIn b s d) (BookTrue b 0) r.2 ∧ (r.2 ≠ 0 → r.1 = ⟨0, 0⟩) ∧ (r.2 = 0 → Ends (StockI b s d.toNat) r.1)) := by
 obtain ⟨r, h1, _, h2⟩ := isSpot_ok hs k s d
 unfold z4g
 rw [h1, Option.bind_some]
 refine Ok.bind (asked_ok hs hd hk r) fun e he => ?_
 have hE := asked_e h2 he
 cases hc : e != 0 with
 | true =>
  rw [cond_true]
  have hne : e ≠ 0 := by simpa using hc
  exact Ok.pure ⟨hE, fun _ => rfl, fun h => absurd h hne⟩
 | false =>
  rw [cond_false]
  obtain rfl : e = 0 := by simpa using hc
  obtain ⟨hf, hq, hT⟩ := hE.ok rfl
  have hx := spot_on hf hq
  have hdays := hf.days
  have hcan := book_can hT hq.1.1 hq.1.2
  refine Ok.bind (stocks_ok hx hk.k0) fun v hv => ?_
  have hq2 := hq.2
  have c1 : (decide (0 ≤ d) && decide (d < 12)) = true := by simp; omega
  rw [c1, cond_true]
  have hdl : ((d.toNat : Nat) : Int) < b.Days := by omega
  refine Ok.bind (span_ok hk.k0 _) fun t ht => Ok.pure ⟨hE, fun h => absurd rfl h, fun _ => ?_⟩
  exact span_ends hx hcan hdl (fun n hn => stocks_at hx hv hdl hn) ht
theorem can2_ok (hs : Small b) (hd : b.Days ≤ 9223372036854775807) (hk : Fuel k b) (s d n : Int) : Ok (z9f k b s d n) (fun r => AskE b (SpotIn b s d) (BookTrue b 0) r.2 ∧ (r.1 = true ↔ r.2 = 0 ∧ StockI b s d.toNat n)) := by
 obtain ⟨r, h1, _, h2⟩ := isSpot_ok hs k s d
 unfold z9f
 rw [h1, Option.bind_some]
 refine Ok.bind (asked_ok hs hd hk r) fun e he => ?_
 have hE := asked_e h2 he
 cases hc : e != 0 with
 | true =>
  rw [cond_true]
  have hne : e ≠ 0 := by simpa using hc
  exact Ok.pure ⟨hE, fun h => Bool.noConfusion h, fun h => absurd h.1 hne⟩
 | false =>
  rw [cond_false]
  obtain rfl : e = 0 := by simpa using hc
  obtain ⟨hf, hq, hT⟩ := hE.ok rfl
  have hx := spot_on hf hq
  have hdays := hf.days
  have hq2 := hq.2
  have c1 : (decide (0 ≤ d) && decide (d < 12)) = true := by simp; omega
  have hdl : ((d.toNat : Nat) : Int) < b.Days := by omega
  rw [within_eq, Option.bind_some]
  cases hw : decide (0 ≤ n) && decide (n ≤ 60) with
  | true =>
   rw [cond_true]
   simp only [Bool.and_eq_true, decide_eq_true_eq] at hw
   have c2 : (decide (0 ≤ n) && decide (n < 61)) = true := by simp; omega
   refine Ok.bind (stocks_ok hx hk.k0) fun v hv => ?_
   rw [c1, c2, cond_true, cond_true]
   refine Ok.pure ⟨hE, ?_⟩
   show v (d.toNat * 61 + n.toNat) = true ↔ _
   rw [stocks_at hx hv hdl (by omega)]
   constructor
   ·exact fun h => ⟨rfl, n.toNat, by omega, h⟩
   ·rintro ⟨_, m, rfl, h⟩
    rwa [Int.toNat_natCast]
  | false =>
   rw [cond_false]
   rw [← Bool.not_eq_true, Bool.and_eq_true, decide_eq_true_eq, decide_eq_true_eq] at hw
   refine Ok.pure ⟨hE, fun h => Bool.noConfusion h, ?_⟩
   rintro ⟨_, m, rfl, h⟩
   have := stock_le hx h
   omega
def LeastFrom (b : zb) (s d n : Int) : Prop := (∀ (j : Nat) m, d ≤ j → (j : Int) < b.Days → StockI b s j m → n ≤ m) ∧ ∃ j : Nat, d ≤ j ∧ (j : Int) < b.Days ∧ StockI b s j n
theorem LeastFrom.eq {s d n m : Int} (h : LeastFrom b s d n) (g : LeastFrom b s d m) : n = m := by
 obtain ⟨h1, j, h2, h3, h4⟩ := h
 obtain ⟨g1, i, g2, g3, g4⟩ := g
 have := h1 i m g2 g3 g4
 have := g1 j n h2 h3 h4
 omega
theorem sure_ok (hs : Small b) (hd : b.Days ≤ 9223372036854775807) (hk : Fuel k b) (s d : Int) : Ok (zng k b s d) (fun r => AskE b (SpotIn b s d) (BookTrue b 0) r.2 ∧ (r.2 ≠ 0 → r.1 = 0) ∧ (r.2 = 0 → LeastFrom b s d r.1)) := by
 obtain ⟨r, h1, _, h2⟩ := isSpot_ok hs k s d
 unfold zng
 rw [h1, Option.bind_some]
 refine Ok.bind (asked_ok hs hd hk r) fun e he => ?_
 have hE := asked_e h2 he
 cases hc : e != 0 with
 | true =>
  rw [cond_true]
  have hne : e ≠ 0 := by simpa using hc
  exact Ok.pure ⟨hE, fun _ => rfl, fun h => absurd h hne⟩
 | false =>
  rw [cond_false]
  obtain rfl : e = 0 := by simpa using hc
  obtain ⟨hf, hq, hT⟩ := hE.ok rfl
  have hx := spot_on hf hq
  have hdays := hf.days
  have hcan := book_can hT hq.1.1 hq.1.2
  have hq2 := hq.2
  refine Ok.bind (stocks_ok hx hk.k0) fun v hv => ?_
  have hle : ∀ j m, StockI b s j m → m ≤ 60 := by
   rintro j m ⟨m', rfl, h⟩
   have := stock_le hx h
   omega
  have hge : ∀ j m, StockI b s j m → 0 ≤ m := by
   rintro j m ⟨m', rfl, h⟩
   omega
  refine Ok.bind (Ok.count (b.Days - d).toNat (fun j z => z.2 = d + j ∧ (0 ≤ z.1 ∧ z.1 ≤ 60) ∧ (∀ (i : Nat) m, d ≤ i → (i : Int) < d + j → StockI b s i m → z.1 ≤ m) ∧ ((j = 0 ∧ z.1 = 60) ∨ ∃ i : Nat, d ≤ i ∧ (i : Int) < d + j ∧ StockI b s i z.1)) (Q := fun z : Int × Int => LeastFrom b s d z.1) ?_ ?_ ⟨by simp, by omega, fun i m h3 h4 => by simp at h4; omega, .inl ⟨rfl, rfl⟩⟩ (by have := hk.k0; omega)) fun r hr => Ok.pure ⟨hE, fun h => absurd rfl h, fun _ => hr⟩
  ·rintro j ⟨n, i⟩ hj ⟨hi, hn, h3, h4⟩
   obtain rfl : i = d + j := hi
   have c1 : decide (d + (j : Int) < b.Days) = true := by simp; omega
   have c2 : (decide (0 ≤ d + (j : Int)) && decide (d + (j : Int) < 12)) = true := by simp; omega
   have hdl : (((d + (j : Int)).toNat : Nat) : Int) < b.Days := by omega
   have c3 : w64 (d + (j : Int) + 1) = d + ((j + 1 : Nat) : Int) := by rw [w64_id (by omega) (by omega)]; push_cast; omega
   simp only [zPf, c1, c2, cond_true]
   refine Ok.bind (span_ok hk.k0 _) fun t ht => ?_
   have hends := span_ends hx hcan hdl (fun n hn => stocks_at hx hv hdl hn) ht
   have hlow := hends.1
   have hl1 := hle _ _ hlow
   have hl2 := hge _ _ hlow
   have hn' : 0 ≤ n ∧ n ≤ 60 := hn
   have w1 : w64 (0 - n) = -n := by rw [w64_id (by omega) (by omega)]; omega
   have w2 : w64 (0 - t.Low) = -t.Low := by rw [w64_id (by omega) (by omega)]; omega
   have w3 : w64 (0 - (if -t.Low > -n then -t.Low else -n)) = if t.Low < n then t.Low else n := by
    rw [w64_id (by split <;> omega) (by split <;> omega)]
    split <;> split <;> omega
   rw [w1, w2, greatest_one hk.k0, Option.bind_some, w3, c3]
   have hday : ((((d + (j : Int)).toNat : Nat)) : Int) = d + j := by omega
   refine Ok.pure ⟨rfl, ?_, fun i m h5 h6 h7 => ?_, .inr ?_⟩
   ·show 0 ≤ (if t.Low < n then t.Low else n) ∧ (if t.Low < n then t.Low else n) ≤ 60
    split <;> omega
   ·show (if t.Low < n then t.Low else n) ≤ m
    by_cases e : (i : Int) = d + j
    ·have : i = (d + (j : Int)).toNat := by omega
     subst this
     have h8 := (hends.2.2 m h7).1
     split <;> omega
    ·have h8 := h3 i m h5 (by push_cast at h6; omega) h7
     have h8' : n ≤ m := h8
     split <;> omega
   ·show ∃ i : Nat, d ≤ i ∧ (i : Int) < d + ((j + 1 : Nat) : Int) ∧ StockI b s i (if t.Low < n then t.Low else n)
    by_cases e : t.Low < n
    ·rw [if_pos e]
     exact ⟨(d + (j : Int)).toNat, by omega, by push_cast; omega, hlow⟩
    ·rw [if_neg e]
     rcases h4 with ⟨rfl, h5⟩ | ⟨i, h5, h6, h7⟩
     ·have h5' : n = 60 := h5
      have : t.Low = n := by omega
      exact ⟨(d + ((0 : Nat) : Int)).toNat, by omega, by push_cast; omega, this ▸ hlow⟩
     ·exact ⟨i, h5, by push_cast; omega, h7⟩
  ·rintro ⟨n, i⟩ ⟨hi, hn, h3, h4⟩
   have hi' : i = d + ((b.Days - d).toNat : Int) := hi
   have c1 : decide (i < b.Days) = false := by simp only [decide_eq_false_iff_not]; omega
   simp only [zPf, c1, cond_false]
   refine Ok.pure ⟨fun i m h5 h6 h7 => h3 i m h5 (by omega) h7, ?_⟩
   rcases h4 with ⟨h5, _⟩ | ⟨i, h5, h6, h7⟩
   ·omega
   ·exact ⟨i, h5, by omega, h7⟩
theorem rends_ok (hf : Fine b) {s : Int} (hx : On (⟨b, s, 0⟩ : zd)) (hk : 5000 < k) {l : SL zu} (hl : Truths ⟨b, s, 0⟩ l.1) {d : Int} (h0 : 0 ≤ d) (hd : d < b.Days) : Ok (zab k l d) (fun r => r.1.length ≤ 400000 ∧ (∀ u ∈ r.1, u.Low ≤ u.High) ∧ ∀ n, (∃ u ∈ r.1, InS u n) ↔ StockI b s d.toNat n) := by
 refine (ends_eq hx hk hl d).mono fun r hr => ?_
 obtain ⟨h1, h2⟩ := hr
 refine ⟨h2, ?_, fun n => ?_⟩
 ·rw [h1]; exact ends_ne hl
 ·have hd' : ((d.toNat : Nat) : Int) < b.Days := by omega
  have h3 := ends_mem hl (d := d.toNat) (by unfold Nd; show d.toNat < b.Days.toNat; omega) n
  rw [Int.toNat_of_nonneg h0] at h3
  rw [h1, h3]
  exact (stock_rstock hx hd' n).symm
theorem rwas_ok (hs : Small b) (hd : b.Days ≤ 9223372036854775807) (hk : Fuel k b) (hk2 : 400000 < k) (s d : Int) : Ok (z4d k b s d) (fun r => AskE b (SpotIn b s d) (BookTrue b 0) r.2 ∧ (r.2 ≠ 0 → r.1 = ⟨0, 0⟩) ∧ (r.2 = 0 → Ends (StockI b s d.toNat) r.1)) := by
 obtain ⟨r, _, h1, h2⟩ := isSpot_ok hs k s d
 unfold z4d
 rw [h1, Option.bind_some]
 refine Ok.bind (rasked_ok hs hd hk r) fun e he => ?_
 have he' : Asked b r (BookTrue b 0) e := by
  unfold Asked at *
  rcases he with h | h | ⟨h3, h4, h5, h6⟩ | ⟨h3, h4, h5, h6⟩
  ·exact .inl h
  ·exact .inr (.inl h)
  ·exact .inr (.inr (.inl ⟨h3, h4, fun h => h5 ((booktrue_r h3 (by omega) (by omega)).1 h), h6⟩))
  ·exact .inr (.inr (.inr ⟨h3, h4, (booktrue_r h3 (by omega) (by omega)).2 h5, h6⟩))
 have hE := asked_e h2 he'
 cases hc : e != 0 with
 | true =>
  rw [cond_true]
  have hne : e ≠ 0 := by simpa using hc
  exact Ok.pure ⟨hE, fun _ => rfl, fun h => absurd h hne⟩
 | false =>
  rw [cond_false]
  obtain rfl : e = 0 := by simpa using hc
  obtain ⟨hf, hq, hT⟩ := hE.ok rfl
  have hx := spot_on hf hq
  have hq2 := hq.2
  refine Ok.bind (truths_ok hx hk.k0) fun l hl => ?_
  refine Ok.bind (rends_ok hf hx hk.k0 hl hq2.1 (by omega)) fun u hu => ?_
  obtain ⟨hu1, hu2, hu3⟩ := hu
  have hne : u.1 ≠ [] := by
   obtain ⟨n, hn⟩ := can_stock hx (book_can hT hq.1.1 hq.1.2) (d := d.toNat) (by show _ < b.Days; omega)
   obtain ⟨t, ht, _⟩ := (hu3 n).2 ⟨n, rfl, hn⟩
   intro h
   rw [h] at ht
   cases ht
  refine Ok.bind (wide_ok (by omega) hu1 hu2 hne) fun t ht => Ok.pure ⟨hE, fun h => absurd rfl h, fun _ => ?_⟩
  exact ⟨(hu3 _).1 ht.1, (hu3 _).1 ht.2.1, fun n hn => ht.2.2 n ((hu3 n).2 hn)⟩
theorem rcan2_ok (hs : Small b) (hd : b.Days ≤ 9223372036854775807) (hk : Fuel k b) (hk2 : 400000 < k) (s d n : Int) : Ok (z7d k b s d n) (fun r => AskE b (SpotIn b s d) (BookTrue b 0) r.2 ∧ (r.1 = true ↔ r.2 = 0 ∧ StockI b s d.toNat n)) := by
 obtain ⟨r, _, h1, h2⟩ := isSpot_ok hs k s d
 unfold z7d
 rw [h1, Option.bind_some]
 refine Ok.bind (rasked_ok hs hd hk r) fun e he => ?_
 have he' : Asked b r (BookTrue b 0) e := by
  unfold Asked at *
  rcases he with h | h | ⟨h3, h4, h5, h6⟩ | ⟨h3, h4, h5, h6⟩
  ·exact .inl h
  ·exact .inr (.inl h)
  ·exact .inr (.inr (.inl ⟨h3, h4, fun h => h5 ((booktrue_r h3 (by omega) (by omega)).1 h), h6⟩))
  ·exact .inr (.inr (.inr ⟨h3, h4, (booktrue_r h3 (by omega) (by omega)).2 h5, h6⟩))
 have hE := asked_e h2 he'
 cases hc : e != 0 with
 | true =>
  rw [cond_true]
  have hne : e ≠ 0 := by simpa using hc
  exact Ok.pure ⟨hE, fun h => Bool.noConfusion h, fun h => absurd h.1 hne⟩
 | false =>
  rw [cond_false]
  obtain rfl : e = 0 := by simpa using hc
  obtain ⟨hf, hq, hT⟩ := hE.ok rfl
  have hx := spot_on hf hq
  have hq2 := hq.2
  refine Ok.bind (truths_ok hx hk.k0) fun l hl => ?_
  refine Ok.bind (rends_ok hf hx hk.k0 hl hq2.1 (by omega)) fun u hu => ?_
  obtain ⟨hu1, hu2, hu3⟩ := hu
  refine Ok.bind (lies_ok (by omega) hu1 n) fun t ht => Ok.pure ⟨hE, ?_⟩
  show t = true ↔ _
  rw [ht, hu3]
  exact ⟨fun h => ⟨rfl, h⟩, fun h => h.2⟩
theorem rsure_ok (hs : Small b) (hd : b.Days ≤ 9223372036854775807) (hk : Fuel k b) (hk2 : 400000 < k) (s d : Int) : Ok (zOd k b s d) (fun r => AskE b (SpotIn b s d) (BookTrue b 0) r.2 ∧ (r.2 ≠ 0 → r.1 = 0) ∧ (r.2 = 0 → LeastFrom b s d r.1)) := by
 obtain ⟨r, _, h1, h2⟩ := isSpot_ok hs k s d
 unfold zOd
 rw [h1, Option.bind_some]
 refine Ok.bind (rasked_ok hs hd hk r) fun e he => ?_
 have he' : Asked b r (BookTrue b 0) e := by
  unfold Asked at *
  rcases he with h | h | ⟨h3, h4, h5, h6⟩ | ⟨h3, h4, h5, h6⟩
  ·exact .inl h
  ·exact .inr (.inl h)
  ·exact .inr (.inr (.inl ⟨h3, h4, fun h => h5 ((booktrue_r h3 (by omega) (by omega)).1 h), h6⟩))
  ·exact .inr (.inr (.inr ⟨h3, h4, (booktrue_r h3 (by omega) (by omega)).2 h5, h6⟩))
 have hE := asked_e h2 he'
 cases hc : e != 0 with
 | true =>
  rw [cond_true]
  have hne : e ≠ 0 := by simpa using hc
  exact Ok.pure ⟨hE, fun _ => rfl, fun h => absurd h hne⟩
 | false =>
  rw [cond_false]
  obtain rfl : e = 0 := by simpa using hc
  obtain ⟨hf, hq, hT⟩ := hE.ok rfl
  have hx := spot_on hf hq
  have hq2 := hq.2
  have hdays := hf.days
  refine Ok.bind (truths_ok hx hk.k0) fun l hl => ?_
  have day : ∀ d : Int, 0 ≤ d → d < b.Days → Ok (zab k l d) (fun u => Ok (zyb k u) (fun t => Ends (StockI b s d.toNat) t)) := by
   intro d h0 h1
   refine (rends_ok hf hx hk.k0 hl h0 h1).mono fun u hu => ?_
   obtain ⟨hu1, hu2, hu3⟩ := hu
   have hne : u.1 ≠ [] := by
    obtain ⟨n, hn⟩ := can_stock hx (book_can hT hq.1.1 hq.1.2) (d := d.toNat) (by show _ < b.Days; omega)
    obtain ⟨t, ht, _⟩ := (hu3 n).2 ⟨n, rfl, hn⟩
    intro h
    rw [h] at ht
    cases ht
   refine (wide_ok (by omega) hu1 hu2 hne).mono fun t ht => ?_
   exact ⟨(hu3 _).1 ht.1, (hu3 _).1 ht.2.1, fun n hn => ht.2.2 n ((hu3 n).2 hn)⟩
  refine Ok.bind (day d hq2.1 (by omega)) fun u hu => Ok.bind hu fun t ht => ?_
  have hdn : ((d.toNat : Nat) : Int) = d := Int.toNat_of_nonneg hq2.1
  refine Ok.bind (Ok.count (b.Days - d).toNat (fun j z => z.2 = d + j ∧ (∀ (i : Nat) m, d ≤ i → (i : Int) < d + j → StockI b s i m → z.1 ≤ m) ∧ ∃ i : Nat, d ≤ i ∧ (i : Int) < b.Days ∧ StockI b s i z.1) (Q := fun z : Int × Int => LeastFrom b s d z.1) ?_ ?_ ⟨by simp, fun i m h3 h4 => by simp at h4; omega, d.toNat, by omega, by omega, ht.1⟩ (by omega)) fun r hr => Ok.pure ⟨hE, fun h => absurd rfl h, fun _ => hr⟩
  ·rintro j ⟨n, i⟩ hj ⟨hi, h3, h4⟩
   obtain rfl : i = d + j := hi
   have c1 : decide (d + (j : Int) < b.Days) = true := by simp; omega
   have c3 : w64 (d + (j : Int) + 1) = d + ((j + 1 : Nat) : Int) := by rw [w64_id (by omega) (by omega)]; push_cast; omega
   simp only [zXc, c1, cond_true, c3]
   refine Ok.bind (day (d + j) (by omega) (by omega)) fun u hu => Ok.bind hu fun t ht => ?_
   refine Ok.pure ⟨rfl, fun i m h5 h6 h7 => ?_, ?_⟩
   ·show (if t.Low < n then t.Low else n) ≤ m
    by_cases e : (i : Int) = d + j
    ·have : i = (d + (j : Int)).toNat := by omega
     subst this
     have h8 := (ht.2.2 m h7).1
     split <;> omega
    ·have h8 : n ≤ m := h3 i m h5 (by push_cast at h6; omega) h7
     split <;> omega
   ·show ∃ i : Nat, d ≤ i ∧ (i : Int) < b.Days ∧ StockI b s i (if t.Low < n then t.Low else n)
    by_cases e : t.Low < n
    ·rw [if_pos e]
     exact ⟨(d + (j : Int)).toNat, by omega, by omega, ht.1⟩
    ·rw [if_neg e]; exact h4
  ·rintro ⟨n, i⟩ ⟨hi, h3, h4⟩
   have hi' : i = d + ((b.Days - d).toNat : Int) := hi
   have c1 : decide (i < b.Days) = false := by simp only [decide_eq_false_iff_not]; omega
   simp only [zXc, c1, cond_false]
   exact Ok.pure ⟨fun i m h5 h6 h7 => h3 i m h5 (by omega) h7, h4⟩
theorem shelfWas_ok (hs : Small b) (hd : b.Days ≤ 9223372036854775807) (hk : Fuel k b) (hk2 : 400000 < k) (hc : zNc k = some true) (n : Nat → Int) : zKb k b n = some true := by
 apply Ok.eq
 unfold zKb
 refine Ok.bind (was_ok hs hd hk _ _) fun r1 h1 => ?_
 refine Ok.bind (rwas_ok hs hd hk hk2 _ _) fun r2 h2 => ?_
 have e1 : r1 = r2 := by
  have e2 := h1.1.eq h2.1
  refine Prod.ext ?_ e2
  by_cases h0 : r1.2 = 0
  ·exact (h1.2.2 h0).eq (h2.2.2 (e2 ▸ h0))
  ·rw [h1.2.1 h0, h2.2.1 (e2 ▸ h0)]
 subst e1
 have hJ : Ok (zQb k b n r1 r1) (fun v => v = false) := by
  unfold zQb
  simp only [BEq.rfl, Bool.and_self, Bool.not_true, cond_false, bne_self_eq_false]
  refine Ok.bind (check_ok hs hd hk) fun a ha => Ok.bind (rcheck_ok hs hd hk) fun c hc => Ok.pure ?_
  have : a = c := by
   rcases ha with ⟨h1, h2⟩ | ⟨h1, h2⟩ <;> rcases hc with ⟨h3, h4⟩ | ⟨h3, h4⟩
   ·omega
   ·exact absurd h2 h4
   ·exact absurd h4 h2
   ·omega
  simp [this]
 refine Ok.bind hJ fun v hv => ?_
 subst hv
 rw [cond_false]
 refine Ok.bind (can2_ok hs hd hk _ _ _) fun r3 h3 => ?_
 refine Ok.bind (rcan2_ok hs hd hk hk2 _ _ _) fun r4 h4 => ?_
 have e3 : r3 = r4 := by
  have e2 := h3.1.eq h4.1
  refine Prod.ext ?_ e2
  rw [Bool.eq_iff_iff, h3.2, h4.2, e2]
 subst e3
 unfold z1c
 simp only [BEq.rfl, Bool.not_true, cond_false, bne_self_eq_false, Option.bind_some]
 refine Ok.bind (sure_ok hs hd hk _ _) fun r5 h5 => ?_
 refine Ok.bind (rsure_ok hs hd hk hk2 _ _) fun r6 h6 => ?_
 have e4 : r5 = r6 := by
  have e2 := h5.1.eq h6.1
  refine Prod.ext ?_ e2
  by_cases h0 : r5.2 = 0
  ·exact (h5.2.2 h0).eq (h6.2.2 (e2 ▸ h0))
  ·rw [h5.2.1 h0, h6.2.1 (e2 ▸ h0)]
 subst e4
 simp only [BEq.rfl, cond_true, hc, Option.bind_some]
 exact Ok.pure rfl
end
end Go.AM
set_option linter.unusedVariables false
namespace Go.AM
open Go
def zR (x : zj) : Prop := (-9223372036854775808 ≤ x.Low ∧ x.Low ≤ 9223372036854775807) ∧ (-9223372036854775808 ≤ x.High ∧ x.High ≤ 9223372036854775807) ∧ True
def zFd (x : zJ) : Prop := zR x.Begin ∧ (-9223372036854775808 ≤ x.Room ∧ x.Room ≤ 9223372036854775807) ∧ True
def zee (x : zC) : Prop := (-9223372036854775808 ≤ x.Day ∧ x.Day ≤ 9223372036854775807) ∧ (-9223372036854775808 ≤ x.Shelf ∧ x.Shelf ≤ 9223372036854775807) ∧ True ∧ zR x.By ∧ True
def zKc (x : zo) : Prop := (-9223372036854775808 ≤ x.Shelf ∧ x.Shelf ≤ 9223372036854775807) ∧ zR x.Days ∧ zR x.By ∧ True
def zJd (x : zp) : Prop := (-9223372036854775808 ≤ x.Day ∧ x.Day ≤ 9223372036854775807) ∧ (-9223372036854775808 ≤ x.Shelf ∧ x.Shelf ≤ 9223372036854775807) ∧ (-9223372036854775808 ≤ x.Read ∧ x.Read ≤ 9223372036854775807) ∧ (-9223372036854775808 ≤ x.Err ∧ x.Err ≤ 9223372036854775807) ∧ True
def zgd (x : zb) : Prop := (-9223372036854775808 ≤ x.Days ∧ x.Days ≤ 9223372036854775807) ∧ goodS (fun a => zFd a) x.Shelves ∧ goodS (fun a => zee a) x.Moves ∧ goodS (fun a => zKc a) x.Deliveries ∧ goodS (fun a => zJd a) x.Counts ∧ True
end Go.AM
set_option maxRecDepth 1000000
namespace Go.AM
open Go
theorem counted_true (k : Nat) : zNc (k + 300) = some true := by kernel_rfl
end Go.AM
set_option linter.unusedVariables false
namespace Go.AM
open Go
theorem good_small {b : zb} (h : zgd b) : Small b ∧ b.Days ≤ 9223372036854775807 := by
 obtain ⟨⟨_, h0⟩, h1, h2, h3, h4, _⟩ := h
 have e : maxLen = 9223372036854775807 := by decide
 have l1 := h1.2.2
 have l2 := h2.2.2
 have l3 := h3.2.2
 have l4 := h4.2.2
 rw [e] at l1 l2 l3 l4
 exact ⟨⟨by omega, by omega, by omega, by omega⟩, h0⟩
def fuelOf (b : zb) : Nat := 500000 + b.Shelves.1.length + b.Moves.1.length + b.Deliveries.1.length + b.Counts.1.length
theorem fuel_ok (b : zb) : Fuel (fuelOf b + 300) b := by
 unfold fuelOf
 exact ⟨by omega, by omega, by omega, by omega, by omega⟩
theorem shelfWas_fin (b : zb) (n : Nat → Int) (hb : zgd b) (hn : ∀ k, k < 3 → -9223372036854775808 ≤ n k ∧ n k ≤ 9223372036854775807) : ∃ k, zKb k b n = some true := by
 obtain ⟨hs, hd⟩ := good_small hb
 exact ⟨_, shelfWas_ok hs hd (fuel_ok b) (by unfold fuelOf; omega) (counted_true _) n⟩
end Go.AM
