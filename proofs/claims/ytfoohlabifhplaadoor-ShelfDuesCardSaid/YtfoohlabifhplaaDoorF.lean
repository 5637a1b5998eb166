/- The statement ShelfDues holds for every input that its row lets in. Conditions: none. -/
import Derived.Test.YtfoohlabifhplaaDoorE
set_option linter.all false
set_option linter.unusedVariables false
namespace Go.AM
open Go
def addS (s t : zi) : zi := ⟨s.Low + t.Low, s.High + t.High⟩
def subS (s t : zi) : zi := ⟨s.Low - t.High, s.High - t.Low⟩
def EvFine (e : Ev) : Prop := e.by_.Low ≤ e.by_.High ∧ SpanBd e.by_ ∧ SpanBd e.within
def Fw (s : zi) (l : List Ev) : Nat → zi
 | 0 => s
 | i + 1 => match l[i]? with
  | some e => comm e.within (addS (Fw s l i) e.by_)
  | none => Fw s l i
def Bw (s : zi) (l : List Ev) : Nat → zi
 | 0 => Fw s l l.length
 | t + 1 => match l[l.length - 1 - t]? with
  | some e => comm (Fw s l (l.length - 1 - t)) (subS (Bw s l t) e.by_)
  | none => s
def StepE (e : Ev) (m n : Int) : Prop := InS e.by_ (n - m) ∧ InS e.within n
def Steps (l : List Ev) (v : Nat → Int) : Prop := ∀ i e, l[i]? = some e → StepE e (v i) (v (i + 1))
def PathOf (s : zi) (l : List Ev) (v : Nat → Int) : Prop := InS s (v 0) ∧ Steps l v
section
variable {s : zi} {l : List Ev}
theorem fw_succ {i : Nat} {e : Ev} (h : l[i]? = some e) : Fw s l (i + 1) = comm e.within (addS (Fw s l i) e.by_) := by
 rw [Fw, h]
theorem bw_succ {t : Nat} {e : Ev} (h : l[l.length - 1 - t]? = some e) : Bw s l (t + 1) = comm (Fw s l (l.length - 1 - t)) (subS (Bw s l t) e.by_) := by
 rw [Bw, h]
theorem get_of_lt {α : Type} {l : List α} {i : Nat} (h : i < l.length) : ∃ a, l[i]? = some a ∧ a ∈ l := ⟨l[i], List.getElem?_eq_getElem h, List.getElem_mem h⟩
theorem fw_path {v : Nat → Int} (h : PathOf s l v) : ∀ i, i ≤ l.length → InS (Fw s l i) (v i)
 | 0, _ => h.1
 | i + 1, hi => by
  obtain ⟨e, he, _⟩ := get_of_lt (show i < l.length by omega)
  have h1 := fw_path h i (by omega)
  have h2 := h.2 i e he
  rw [fw_succ he, in_comm]
  refine ⟨h2.2, ?_⟩
  have h3 := h2.1
  unfold InS addS at *
  simp only
  omega
theorem bw_path {v : Nat → Int} (h : PathOf s l v) : ∀ t, t ≤ l.length → InS (Bw s l t) (v (l.length - t))
 | 0, _ => fw_path h _ (by omega)
 | t + 1, ht => by
  obtain ⟨e, he, _⟩ := get_of_lt (show l.length - 1 - t < l.length by omega)
  have h1 := bw_path h t (by omega)
  have h2 := h.2 _ e he
  rw [bw_succ he, in_comm]
  have e1 : l.length - (t + 1) = l.length - 1 - t := by omega
  have e2 : l.length - 1 - t + 1 = l.length - t := by omega
  rw [e1]
  rw [e2] at h2
  refine ⟨fw_path h _ (by omega), ?_⟩
  have h3 := h2.1
  unfold InS subS at *
  simp only
  omega
theorem bw_fw (hl : ∀ e ∈ l, EvFine e) {t : Nat} (ht : t ≤ l.length) {m : Int} (h : InS (Bw s l t) m) : InS (Fw s l (l.length - t)) m := by
 cases t with
 | zero => exact h
 | succ t =>
  obtain ⟨e, he, _⟩ := get_of_lt (show l.length - 1 - t < l.length by omega)
  rw [bw_succ he, in_comm] at h
  have e1 : l.length - (t + 1) = l.length - 1 - t := by omega
  rw [e1]
  exact h.1
theorem fw_to (hl : ∀ e ∈ l, EvFine e) (hne : ∀ i, i ≤ l.length → (Fw s l i).Low ≤ (Fw s l i).High) : ∀ i, i ≤ l.length → ∀ m, InS (Fw s l i) m → ∃ v : Nat → Int, InS s (v 0) ∧ (∀ j e, j < i → l[j]? = some e → StepE e (v j) (v (j + 1))) ∧ v i = m
 | 0, _, m, h => ⟨fun _ => m, h, fun j e hj => absurd hj (by omega), rfl⟩
 | i + 1, hi, m, h => by
  obtain ⟨e, he, hm⟩ := get_of_lt (show i < l.length by omega)
  rw [fw_succ he, in_comm] at h
  have h1 := hne i (by omega)
  have h2 := (hl e hm).1
  obtain ⟨m', h3, h4⟩ : ∃ m', InS (Fw s l i) m' ∧ InS e.by_ (m - m') := by
   obtain ⟨_, h5⟩ := h
   unfold InS addS at *
   simp only at h5
   refine ⟨if (Fw s l i).Low ≥ m - e.by_.High then (Fw s l i).Low else m - e.by_.High, ?_, ?_⟩ <;> split <;> omega
  obtain ⟨v, h5, h6, h7⟩ := fw_to hl hne i (by omega) m' h3
  refine ⟨fun j => if j ≤ i then v j else m, ?_, fun j e' hj he' => ?_, ?_⟩
  ·simpa using h5
  ·by_cases hij : j = i
   ·subst hij
    rw [he] at he'
    cases he'
    have : ¬ j + 1 ≤ j := by omega
    simp only [Nat.le_refl, if_true, this, if_false, h7]
    exact ⟨h4, h.1⟩
   ·have a1 : j ≤ i := by omega
    have a2 : j + 1 ≤ i := by omega
    simp only [a1, a2, if_true]
    exact h6 j e' (by omega) he'
  ·have : ¬ i + 1 ≤ i := by omega
   simp only [this, if_false]
theorem bw_to (hl : ∀ e ∈ l, EvFine e) (hne : ∀ t, t ≤ l.length → (Bw s l t).Low ≤ (Bw s l t).High) : ∀ t, t ≤ l.length → ∀ m, InS (Bw s l t) m → ∃ v : Nat → Int, v (l.length - t) = m ∧ ∀ j e, l.length - t ≤ j → l[j]? = some e → StepE e (v j) (v (j + 1))
 | 0, _, m, h => ⟨fun _ => m, rfl, fun j e hj he => by
   have := (List.getElem?_eq_some_iff.1 he).1
   omega⟩
 | t + 1, ht, m, h => by
  obtain ⟨e, he, hm⟩ := get_of_lt (show l.length - 1 - t < l.length by omega)
  rw [bw_succ he, in_comm] at h
  have h1 := hne t (by omega)
  have h2 := (hl e hm).1
  obtain ⟨m', h3, h4⟩ : ∃ m', InS (Bw s l t) m' ∧ InS e.by_ (m' - m) := by
   obtain ⟨_, h5⟩ := h
   unfold InS subS at *
   simp only at h5
   refine ⟨if (Bw s l t).Low ≥ m + e.by_.Low then (Bw s l t).Low else m + e.by_.Low, ?_, ?_⟩ <;> split <;> omega
  obtain ⟨v, h5, h6⟩ := bw_to hl hne t (by omega) m' h3
  have e1 : l.length - (t + 1) = l.length - 1 - t := by omega
  have e2 : l.length - 1 - t + 1 = l.length - t := by omega
  have hw : InS e.within m' := by
   have h7 := bw_fw hl (by omega) h3
   rw [← e2, fw_succ he, in_comm] at h7
   exact h7.1
  rw [e1]
  refine ⟨fun j => if j ≤ l.length - 1 - t then m else v j, by simp, fun j e' hj he' => ?_⟩
  by_cases hij : j = l.length - 1 - t
  ·subst hij
   rw [he] at he'
   cases he'
   have : ¬ l.length - 1 - t + 1 ≤ l.length - 1 - t := by omega
   simp only [Nat.le_refl, if_true, this, if_false]
   rw [e2, h5]
   exact ⟨h4, hw⟩
  ·have a1 : ¬ j ≤ l.length - 1 - t := by omega
   have a2 : ¬ j + 1 ≤ l.length - 1 - t := by omega
   simp only [a1, a2, if_false]
   exact h6 j e' (by omega) he'
theorem bw_mem (hl : ∀ e ∈ l, EvFine e) (hne : ∀ t, t ≤ l.length → (Bw s l t).Low ≤ (Bw s l t).High) {i : Nat} (hi : i ≤ l.length) (m : Int) : InS (Bw s l (l.length - i)) m ↔ ∃ v, PathOf s l v ∧ v i = m := by
 have e1 : l.length - (l.length - i) = i := by omega
 constructor
 ·intro h
  have hf : ∀ i, i ≤ l.length → (Fw s l i).Low ≤ (Fw s l i).High := by
   intro i hi
   have h1 := hne (l.length - i) (by omega)
   have h2 := bw_fw (s := s) hl (show l.length - i ≤ l.length by omega) (m := (Bw s l (l.length - i)).Low) ⟨Int.le_refl _, h1⟩
   have e2 : l.length - (l.length - i) = i := by omega
   rw [e2] at h2
   exact Int.le_trans h2.1 h2.2
  obtain ⟨u, h1, h2⟩ := bw_to hl hne (l.length - i) (by omega) m h
  have h3 := bw_fw hl (by omega) h
  rw [e1] at h1 h2 h3
  obtain ⟨v, h4, h5, h6⟩ := fw_to hl hf i hi m h3
  refine ⟨fun j => if j ≤ i then v j else u j, ⟨by simpa using h4, fun j e he => ?_⟩, by simp [h6]⟩
  by_cases hj : j < i
  ·have a1 : j ≤ i := by omega
   have a2 : j + 1 ≤ i := by omega
   simp only [a1, a2, if_true]
   exact h5 j e hj he
  ·have h7 := h2 j e (by omega) he
   by_cases hij : j = i
   ·subst hij
    have : ¬ j + 1 ≤ j := by omega
    simp only [Nat.le_refl, if_true, this, if_false]
    rw [h6, ← h1]
    exact h7
   ·have a1 : ¬ j ≤ i := by omega
    have a2 : ¬ j + 1 ≤ i := by omega
    simp only [a1, a2, if_false]
    exact h7
 ·rintro ⟨v, hv, rfl⟩
  have := bw_path hv (l.length - i) (by omega)
  rwa [e1] at this
theorem bw_none (h : ∃ t, t ≤ l.length ∧ (Bw s l t).High < (Bw s l t).Low) : ¬ ∃ v, PathOf s l v := by
 rintro ⟨v, hv⟩
 obtain ⟨t, ht, h⟩ := h
 have := bw_path hv t ht
 unfold InS at this
 omega
def SpanIn2 (s : zi) (n : Int) : Prop := -n ≤ s.Low ∧ s.Low ≤ n ∧ -n ≤ s.High ∧ s.High ≤ n
theorem comm_bd {s t : zi} {n : Int} (hs : SpanIn2 s n) (ht : SpanIn2 t n) : SpanIn2 (comm s t) n := by
 unfold SpanIn2 comm at *
 simp only
 by_cases h1 : t.Low > s.Low <;> by_cases h2 : t.High < s.High <;> simp only [h1, h2, if_true, if_false] <;> omega
theorem fw_bd (hs : SpanBd s) (hl : ∀ e ∈ l, EvFine e) : ∀ i, SpanIn2 (Fw s l i) (100 * ((i : Int) + 1))
 | 0 => by unfold SpanIn2 SpanBd Fw at *; omega
 | i + 1 => by
  have h1 := fw_bd hs hl i
  rw [Fw]
  cases he : l[i]? with
  | none => unfold SpanIn2 at *; simp only; push_cast; omega
  | some e =>
   have h2 := hl e (List.mem_of_getElem? he)
   unfold EvFine SpanBd at h2
   refine comm_bd ?_ ?_ <;> unfold SpanIn2 at * <;> (try simp only [addS]) <;> push_cast <;> omega
theorem bw_bd (hs : SpanBd s) (hl : ∀ e ∈ l, EvFine e) (hlen : l.length ≤ 1000) : ∀ t, SpanIn2 (Bw s l t) (200000 + 100 * (t : Int))
 | 0 => by
  have h1 := fw_bd hs hl l.length
  unfold SpanIn2 Bw at *; omega
 | t + 1 => by
  have h1 := bw_bd hs hl hlen t
  have h3 := fw_bd hs hl (l.length - 1 - t)
  rw [Bw]
  cases he : l[l.length - 1 - t]? with
  | none => unfold SpanIn2 SpanBd at *; simp only; push_cast; omega
  | some e =>
   have h2 := hl e (List.mem_of_getElem? he)
   unfold EvFine SpanBd at h2
   refine comm_bd ?_ ?_ <;> unfold SpanIn2 at * <;> (try simp only [subS]) <;> push_cast <;> omega
end
theorem stocks_L1 {k : Nat} (hk : 5000 < k) {s : zi} {l : SL Ev} (hs : SpanBd s) (hl : ∀ e ∈ l.1, EvFine e) (hlen : l.1.length ≤ 1000) :
  Ok (iter (fun z => zwb k s l z.1 z.2) k (0, [s])) (fun r => r.2 = (List.range (l.1.length + 1)).map (Fw s l.1)) := by
 refine Ok.count l.1.length (fun j z => z = ((j : Int), (List.range (j + 1)).map (Fw s l.1))) ?_ ?_ rfl (by omega)
 ·rintro j z hj rfl
  have hg : idx ((List.range (j + 1)).map (Fw s l.1)) (j : Int) = some (Fw s l.1 j) := by
   rw [idx_nat (by simp)]
   simp
  have hb := fw_bd hs hl j
  have he := List.getElem?_eq_getElem hj
  have hf := hl _ (List.getElem_mem hj)
  have h5 : (((List.range (j + 1)).map (Fw s l.1)).length + 1) ≤ 1000000 := by simp; omega
  simp only [zwb, lt_cond hj, cond_true, idx_nat hj, Option.bind_some, hg, to_eq, common_eq, succ_eq hj (by omega : l.1.length < 9223372036854775808), lim_ok h5]
  have hsucc := fw_succ (s := s) he
  generalize l.1[j] = e at *
  unfold EvFine SpanBd at hf
  unfold SpanIn2 at hb
  have w1 : w64 ((Fw s l.1 j).Low + e.by_.Low) = (Fw s l.1 j).Low + e.by_.Low := w64_id (by omega) (by omega)
  have w2 : w64 ((Fw s l.1 j).High + e.by_.High) = (Fw s l.1 j).High + e.by_.High := w64_id (by omega) (by omega)
  rw [w1, w2]
  refine Ok.pure ?_
  show (_ : Int × List zi) = _
  rw [List.range_succ (n := j + 1), List.map_append]
  simp only [List.map_cons, List.map_nil, hsucc, addS]
 ·rintro z rfl
  have c1 : decide ((l.1.length : Int) < (l.1.length : Int)) = false := by simp
  simp only [zwb, c1, cond_false]
  exact Ok.pure rfl
theorem stocks_L2 {k : Nat} (hk : 5000 < k) {s : zi} {l : SL Ev} (hs : SpanBd s) (hl : ∀ e ∈ l.1, EvFine e) (hlen : l.1.length ≤ 1000) (v1 : Int × List zi) :
  Ok (iter (fun z => zzb k s l v1 z.1 z.2) k ((l.1.length : Int), (List.range (l.1.length + 1)).map (Fw s l.1))) (fun r => match r with
   | .inl _ => ∃ t, t ≤ l.1.length ∧ (Bw s l.1 t).High < (Bw s l.1 t).Low
   | .inr z => (∀ t, t ≤ l.1.length → (Bw s l.1 t).Low ≤ (Bw s l.1 t).High) ∧ z.2.length = l.1.length + 1 ∧ ∀ i, i ≤ l.1.length → z.2[i]? = some (Bw s l.1 (l.1.length - i))) := by
 refine Ok.count (l.1.length + 1) (fun j z => z.1 = (l.1.length : Int) - j ∧ z.2.length = l.1.length + 1 ∧ (∀ t, t < j → (Bw s l.1 t).Low ≤ (Bw s l.1 t).High) ∧ ∀ i, i ≤ l.1.length → z.2[i]? = if l.1.length - j ≤ i then some (Bw s l.1 (l.1.length - i)) else some (Fw s l.1 i)) ?_ ?_ ⟨by simp, by simp, fun t h => absurd h (by omega), fun i hi => ?_⟩ (by omega)
 ·rintro j ⟨i, out⟩ hj ⟨hi, ho, hne, hv⟩
  obtain rfl : i = (l.1.length : Int) - j := hi
  have ho' : out.length = l.1.length + 1 := ho
  have hi' : (l.1.length : Int) - (j : Int) = ((l.1.length - j : Nat) : Int) := by omega
  have c1 : decide ((l.1.length : Int) - (j : Int) ≥ 0) = true := by simp; omega
  have hget : idx out ((l.1.length : Int) - (j : Int)) = some (Bw s l.1 j) := by
   rw [hi', idx_nat (by omega), ← List.getElem?_eq_getElem (by omega), hv _ (by omega), if_pos (Nat.le_refl _)]
   congr 2
   omega
  simp only [zzb, c1, cond_true, hget, Option.bind_some]
  have hb := bw_bd hs hl hlen j
  have hw : w64 ((l.1.length : Int) - (j : Int) - 1) = (l.1.length : Int) - ((j + 1 : Nat) : Int) := by rw [w64_id (by omega) (by omega)]; push_cast; omega
  cases hd : decide ((Bw s l.1 j).Low > (Bw s l.1 j).High) with
  | true =>
   rw [cond_true]
   have := of_decide_eq_true hd
   exact Ok.pure ⟨j, by omega, by omega⟩
  | false =>
   rw [cond_false]
   have hd' := of_decide_eq_false hd
   have hne' : ∀ t, t < j + 1 → (Bw s l.1 t).Low ≤ (Bw s l.1 t).High := by
    intro t ht
    by_cases e : t = j
    ·subst e; omega
    ·exact hne t (by omega)
   rw [hw]
   cases hp : decide ((l.1.length : Int) - (j : Int) > 0) with
   | true =>
    have hp' := of_decide_eq_true hp
    rw [cond_true]
    have hj1 : (l.1.length : Int) - ((j + 1 : Nat) : Int) = ((l.1.length - 1 - j : Nat) : Int) := by omega
    have hlt : l.1.length - 1 - j < l.1.length := by omega
    have hF : out[l.1.length - 1 - j]? = some (Fw s l.1 (l.1.length - 1 - j)) := by
     rw [hv _ (by omega), if_neg (by omega)]
    have hF' : idx out ((l.1.length - 1 - j : Nat) : Int) = some (Fw s l.1 (l.1.length - 1 - j)) := by
     rw [idx_nat (by omega), ← hF, List.getElem?_eq_getElem (by omega)]
    have he := List.getElem?_eq_getElem hlt
    have hf := hl _ (List.getElem_mem hlt)
    rw [hj1, idx_nat hlt, Option.bind_some]
    simp only [hF', Option.bind_some, to_eq, common_eq]
    have hsucc := bw_succ (s := s) he
    generalize l.1[l.1.length - 1 - j] = e at *
    unfold EvFine SpanBd at hf
    unfold SpanIn2 at hb
    have w1 : w64 ((Bw s l.1 j).Low - e.by_.High) = (Bw s l.1 j).Low - e.by_.High := w64_id (by omega) (by omega)
    have w2 : w64 ((Bw s l.1 j).High - e.by_.Low) = (Bw s l.1 j).High - e.by_.Low := w64_id (by omega) (by omega)
    rw [w1, w2]
    refine Ok.pure ⟨by show _ = _; omega, ?_, hne', fun i hi => ?_⟩
    ·show (List.set _ _ _).length = _
     rw [List.length_set]; exact ho'
    ·show (List.set _ _ _)[i]? = _
     rw [Int.toNat_natCast, List.getElem?_set]
     by_cases h1 : l.1.length - 1 - j = i
     ·subst h1
      rw [if_pos rfl, if_pos (by omega), if_pos (by omega)]
      have e1 : l.1.length - (l.1.length - 1 - j) = j + 1 := by omega
      rw [e1, hsucc]
      rfl
     ·rw [if_neg h1, hv i hi]
      by_cases h2 : l.1.length - j ≤ i
      ·rw [if_pos h2, if_pos (by omega)]
      ·rw [if_neg h2, if_neg (by omega)]
   | false =>
    have hp' := of_decide_eq_false hp
    rw [cond_false]
    refine Ok.pure ⟨rfl, ho', hne', fun i hi => ?_⟩
    have h2 := hv i hi
    rw [if_pos (by omega)] at h2
    rw [if_pos (by omega)]
    exact h2
 ·rintro ⟨i, out⟩ ⟨hi, ho, hne, hv⟩
  obtain rfl : i = (l.1.length : Int) - ((l.1.length + 1 : Nat) : Int) := hi
  have c1 : decide ((l.1.length : Int) - ((l.1.length + 1 : Nat) : Int) ≥ 0) = false := by simp only [decide_eq_false_iff_not]; omega
  simp only [zzb, c1, cond_false]
  refine Ok.pure ⟨fun t ht => hne t (by omega), ho, fun i hi => ?_⟩
  have h2 := hv i hi
  rw [if_pos (by omega)] at h2
  exact h2
 ·have h1 : ((List.range (l.1.length + 1)).map (Fw s l.1))[i]? = some (Fw s l.1 i) := by
   rw [List.getElem?_map, List.getElem?_range (by omega)]; rfl
  show ((List.range (l.1.length + 1)).map (Fw s l.1))[i]? = _
  rw [h1]
  by_cases h2 : l.1.length - 0 ≤ i
  ·rw [if_pos h2]
   obtain rfl : i = l.1.length := by omega
   rw [Nat.sub_self]; rfl
  ·rw [if_neg h2]
theorem rstocks_ok {k : Nat} (hk : 5000 < k) {s : zi} {l : SL Ev} (hs : SpanBd s) (hl : ∀ e ∈ l.1, EvFine e) (hlen : l.1.length ≤ 1000) :
  Ok (zVc k s l) (fun r => (r.2 = false ∧ ¬ ∃ v, PathOf s l.1 v) ∨ (r.2 = true ∧ r.1.1.length = l.1.length + 1 ∧ (∃ v, PathOf s l.1 v) ∧ ∀ i t, r.1.1[i]? = some t → ∀ m, InS t m ↔ ∃ v, PathOf s l.1 v ∧ v i = m)) := by
 unfold zVc
 refine Ok.bind (stocks_L1 hk hs hl hlen) fun v1 hv1 => ?_
 rw [hv1]
 refine Ok.bind (stocks_L2 hk hs hl hlen v1) fun r hr => ?_
 cases r with
 | inl z => exact Ok.pure (.inl ⟨rfl, bw_none hr⟩)
 | inr z =>
  obtain ⟨hne, hlz, hz⟩ := hr
  refine Ok.pure (.inr ⟨rfl, hlz, ?_, fun i t ht m => ?_⟩)
  ·have h1 := hne l.1.length (Nat.le_refl _)
   obtain ⟨v, hv, _⟩ := (bw_mem hl hne (Nat.zero_le _) (Bw s l.1 l.1.length).Low).1 ⟨Int.le_refl _, h1⟩
   exact ⟨v, hv⟩
  ·have hi : i ≤ l.1.length := by
    have := (List.getElem?_eq_some_iff.1 ht).1
    have h2 : z.2.length = _ := hlz
    have h3 : i < z.2.length := this
    omega
   have h4 : z.2[i]? = some t := ht
   rw [hz i hi] at h4
   cases h4
   exact bw_mem hl hne hi m
end Go.AM
set_option linter.unusedVariables false
namespace Go.AM
open Go
theorem evsL_fine {x : zd} (hx : On x) (w : List Int) (N : Nat) : ∀ e ∈ evsL x w N, EvFine e := by
 intro e he
 unfold evsL at he
 obtain ⟨d, _, he⟩ := List.mem_flatMap.1 he
 have hr := hx.shelf.1
 have hroom : SpanBd (⟨0, (shelfOf x).Room⟩ : zi) := by unfold SpanBd; simp only; omega
 unfold evDay at he
 rw [List.mem_append, List.mem_append] at he
 rcases he with (he | he) | he
 ·obtain ⟨i, D, hD, he⟩ := mem_cat.1 he
  unfold evDg at he
  split at he
  ·obtain rfl := List.mem_singleton.1 he
   obtain ⟨_, _, h1, h2, h3⟩ := hx.fine.deliveries _ (List.mem_of_getElem? hD)
   exact ⟨h2, by unfold SpanBd; simp only; omega, hroom⟩
  ·cases he
 ·obtain ⟨i, m, hm, he⟩ := mem_cat.1 he
  unfold evMg at he
  split at he
  ·obtain rfl := List.mem_singleton.1 he
   obtain ⟨_, _, h1, h2, h3⟩ := hx.fine.moves _ (List.mem_of_getElem? hm)
   refine ⟨?_, ?_, hroom⟩
   ·simp only; split
    ·exact h2
    ·simp only; omega
   ·simp only; split
    ·unfold SpanBd; omega
    ·unfold SpanBd; simp only; omega
  ·cases he
 ·obtain rfl := List.mem_singleton.1 he
  exact ⟨Int.le_refl _, by unfold SpanBd evC; simp only; omega, (cntS_bd hx d).1⟩
def Nd (x : zd) : Nat := x.ShelfBook.Days.toNat
def Way (x : zd) (w : List Int) : Prop := WayTo x.ShelfBook x.shelf x.ShelfBook.Deliveries.1.length w
def RPath (x : zd) (w : List Int) (v : Nat → Int) : Prop := PathOf (shelfOf x).Begin (evsL x w (Nd x)) v
structure TruthOf (x : zd) (t : zu) : Prop where
 way : Way x t.days.1
 ev : t.events.1 = evsL x t.days.1 (Nd x)
 len : t.stocks.1.length = t.events.1.length + 1
 path : ∃ v, RPath x t.days.1 v
 mem : ∀ (i : Nat) (u : zi), t.stocks.1[i]? = some u → ∀ m, InS u m ↔ ∃ v, RPath x t.days.1 v ∧ v i = m
structure Truths (x : zd) (l : List zu) : Prop where
 all : ∀ t ∈ l, TruthOf x t
 has : ∀ w, Way x w → (∃ v, RPath x w v) → ∃ t ∈ l, t.days.1 = w
 len : l.length ≤ 1728
theorem begin_bd {x : zd} (hx : On x) : SpanBd (shelfOf x).Begin := by
 obtain ⟨h1, h2, h3, h4⟩ := hx.shelf
 unfold SpanBd; omega
theorem truths_ok {x : zd} (hx : On x) {k : Nat} (hk : 5000 < k) : Ok (zAb k x.ShelfBook x.shelf x.left) (fun r => Truths x r.1) := by
 have hd := hx.fine.days
 unfold zAb
 refine Ok.bind (ways_ok hx.fine hk x.shelf) fun ws hws => ?_
 obtain ⟨hlen, hw⟩ := hws
 refine Ok.bind (Ok.count ws.1.length (fun j z => z.1 = (j : Int) ∧ (∀ t ∈ z.2, TruthOf x t) ∧ (∀ i u, i < j → ws.1[i]? = some u → (∃ v, RPath x u.1 v) → ∃ t ∈ z.2, t.days.1 = u.1) ∧ z.2.length ≤ j) (Q := fun r : Int × List zu => Truths x r.2) ?_ ?_ ⟨rfl, by simp, fun i u h => absurd h (by omega), by simp⟩ (by omega)) fun r hr => Ok.pure hr
 ·rintro j ⟨i, out⟩ hj ⟨hi, h1, h2, h3⟩
  obtain rfl : i = (j : Int) := hi
  have hge := List.getElem?_eq_getElem hj
  have hway : Way x ws.1[j].1 := (hw _).1 ⟨_, List.getElem_mem hj, rfl⟩
  simp only [zfc, lt_cond hj, cond_true, idx_nat hj, Option.bind_some, hx.idx, succ_eq hj (by omega : ws.1.length < 9223372036854775808)]
  generalize ws.1[j] = w at *
  refine Ok.bind (events_ok hx hk hway.1) fun ev hev => ?_
  have hf : ∀ e ∈ ev.1, EvFine e := by rw [hev]; exact evsL_fine hx _ _
  have hl : ev.1.length ≤ 1000 := by
   rw [hev]
   have := evsL_len hx w.1 x.ShelfBook.Days.toNat
   omega
  refine Ok.bind (rstocks_ok hk (begin_bd hx) hf hl) fun st hst => ?_
  rw [hev] at hst
  rcases hst with ⟨hb, hno⟩ | ⟨hb, hsl, hpath, hmem⟩
  ·rw [hb, cond_false]
   refine Ok.pure ⟨rfl, h1, fun i u hi hu hp => ?_, by show out.length ≤ _; have : out.length ≤ j := h3; omega⟩
   by_cases e : i = j
   ·subst e; rw [hge] at hu; cases hu; exact absurd hp hno
   ·exact h2 i u (by omega) hu hp
  ·have h3' : out.length ≤ j := h3
   rw [hb, cond_true, lim_ok (show out.length + 1 ≤ 1000000 by omega), cond_true]
   refine Ok.pure ⟨rfl, fun t ht => ?_, fun i u hi hu hp => ?_, ?_⟩
   ·rcases List.mem_append.1 ht with ht | ht
    ·exact h1 t ht
    ·obtain rfl := List.mem_singleton.1 ht
     exact ⟨hway, hev, by show st.1.1.length = ev.1.length + 1; rw [hev]; exact hsl, hpath, hmem⟩
   ·show ∃ t ∈ out ++ [_], _
    by_cases e : i = j
    ·subst e; rw [hge] at hu; cases hu
     exact ⟨_, List.mem_append.2 (.inr (.head _)), rfl⟩
    ·obtain ⟨t, ht, hd⟩ := h2 i u (by omega) hu hp
     exact ⟨t, List.mem_append.2 (.inl ht), hd⟩
   ·show (out ++ [_]).length ≤ _
    simp; omega
 ·rintro ⟨i, out⟩ ⟨hi, h1, h2, h3⟩
  obtain rfl : i = (ws.1.length : Int) := hi
  have c1 : decide ((ws.1.length : Int) < (ws.1.length : Int)) = false := by simp
  simp only [zfc, c1, cond_false]
  refine Ok.pure ⟨h1, fun w hway hp => ?_, ?_⟩
  ·obtain ⟨u, hu, rfl⟩ := (hw w).2 hway
   obtain ⟨i, hi⟩ := List.getElem?_of_mem hu
   exact h2 i u (List.getElem?_eq_some_iff.1 hi).1 hi hp
  ·have : out.length ≤ ws.1.length := h3
   show out.length ≤ _
   omega
def RCan (x : zd) : Prop := ∃ w v, Way x w ∧ RPath x w v
theorem Truths.ne {x : zd} {l : List zu} (h : Truths x l) : l.length = 0 ↔ ¬ RCan x := by
 constructor
 ·rintro h0 ⟨w, v, h1, h2⟩
  obtain ⟨t, ht, _⟩ := h.has w h1 ⟨v, h2⟩
  rw [List.length_eq_zero_iff.1 h0] at ht
  cases ht
 ·intro h0
  cases l with
  | nil => rfl
  | cons t l =>
   have ht := h.all t (.head _)
   obtain ⟨v, hv⟩ := ht.path
   exact absurd ⟨_, v, ht.way, hv⟩ h0
def RBookTrue (b : za) (left : Int) : Prop := ∀ s : Nat, s < b.Shelves.1.length → RCan ⟨b, (s : Int), left⟩
theorem rcanBe_ok {b : za} (hb : Fine b) {left : Int} (h0 : 0 ≤ left) (h1 : left < 9223372036854775808) {k : Nat} (hk : 5000 < k) : Ok (znc k b left) (fun r => r = true ↔ RBookTrue b left) := by
 have hn := hb.nshelves
 unfold znc
 refine Ok.bind (Ok.count b.Shelves.1.length (fun j s => s = (j : Int) ∧ ∀ i : Nat, i < j → RCan ⟨b, (i : Int), left⟩) (Q := fun r : Int ⊕ Int => match r with
  | .inl _ => ¬ RBookTrue b left
  | .inr _ => RBookTrue b left) ?_ ?_ ⟨rfl, fun i h => absurd h (by omega)⟩ (by omega)) fun r hr => ?_
 ·rintro j s hj ⟨rfl, hg⟩
  have hx : On (⟨b, (j : Int), left⟩ : zd) := ⟨hb, by simp, by simpa using hj, h0, h1⟩
  simp only [zuc, lt_cond hj, cond_true, succ_eq hj (by omega : b.Shelves.1.length < 9223372036854775808)]
  refine Ok.bind (truths_ok hx hk) fun t ht => ?_
  have hne := ht.ne
  cases hc : ((t.1.length : Int) == 0) with
  | true =>
   rw [cond_true]
   have : t.1.length = 0 := by have := eq_of_beq hc; omega
   exact Ok.pure fun hbt => hne.1 this (hbt j hj)
  | false =>
   rw [cond_false]
   have hcan : RCan (⟨b, (j : Int), left⟩ : zd) := by
    refine Classical.byContradiction fun h => ?_
    have := hne.2 h
    rw [this] at hc
    simp at hc
   refine Ok.pure ⟨rfl, fun i hi => ?_⟩
   by_cases e : i = j
   ·subst e; exact hcan
   ·exact hg i (by omega)
 ·rintro s ⟨rfl, hg⟩
  have c1 : decide ((b.Shelves.1.length : Int) < (b.Shelves.1.length : Int)) = false := by simp
  simp only [zuc, c1, cond_false]
  exact Ok.pure fun i hi => hg i hi
 ·cases r with
  | inl r => exact Ok.pure ⟨fun h => Bool.noConfusion h, fun h => absurd h hr⟩
  | inr r => exact Ok.pure ⟨fun _ => hr, fun _ => rfl⟩
theorem rasked_ok {k : Nat} {b : za} (hs : Small b) (hd : b.Days ≤ 9223372036854775807) (hk : Fuel k b) (right : Bool) : Ok (zNb k b right) (Asked b right (RBookTrue b 0)) := by
 unfold zNb
 refine Ok.bind (rcheck_ok hs hd hk) fun e he => ?_
 rcases he with ⟨rfl, hf⟩ | ⟨rfl, hf⟩
 ·cases right with
  | false => exact Ok.pure (.inr (.inl ⟨hf, rfl, rfl⟩))
  | true =>
   show Ok ((znc k b 0).bind _) _
   refine Ok.bind (rcanBe_ok hf (by omega) (by omega) hk.k0) fun r hr => ?_
   cases r with
   | false => exact Ok.pure (.inr (.inr (.inl ⟨hf, rfl, fun h => Bool.noConfusion (hr.2 h), rfl⟩)))
   | true => exact Ok.pure (.inr (.inr (.inr ⟨hf, rfl, hr.1 rfl, rfl⟩)))
 ·exact Ok.pure (.inl ⟨hf, rfl⟩)
end Go.AM
set_option linter.unusedVariables false
namespace Go.AM
open Go
theorem evsL_pre (x : zd) (w : List Int) (d : Nat) : ∀ n, ∃ l, evsL x w (d + n) = evsL x w d ++ l
 | 0 => ⟨[], by simp⟩
 | n + 1 => by
  obtain ⟨l, h⟩ := evsL_pre x w d n
  exact ⟨l ++ evDay x w ((d + n : Nat) : Int), by rw [← Nat.add_assoc, evsL_succ, h, List.append_assoc]⟩
theorem evsL_le (x : zd) (w : List Int) {d N : Nat} (h : d ≤ N) : (evsL x w d).length ≤ (evsL x w N).length := by
 obtain ⟨l, hl⟩ := evsL_pre x w d (N - d)
 have : d + (N - d) = N := by omega
 rw [this] at hl
 rw [hl, List.length_append]
 omega
def Ends (P : Int → Prop) (s : zi) : Prop := P s.Low ∧ P s.High ∧ ∀ n, P n → InS s n
theorem Ends.eq {P : Int → Prop} {s t : zi} (hs : Ends P s) (ht : Ends P t) : s = t := by
 have h1 := hs.2.2 _ ht.1
 have h2 := hs.2.2 _ ht.2.1
 have h3 := ht.2.2 _ hs.1
 have h4 := ht.2.2 _ hs.2.1
 unfold InS at *
 cases s; cases t
 simp only at *
 congr 1 <;> omega
theorem wide_ok {k : Nat} {l : SL zi} (hk : l.1.length < k) (hlen : l.1.length ≤ 400000) (hne : ∀ u ∈ l.1, u.Low ≤ u.High) (h0 : l.1 ≠ []) : Ok (zud k l) (Ends fun n => ∃ u ∈ l.1, InS u n) := by
 unfold zud
 obtain ⟨l, c⟩ := l
 cases l with
 | nil => exact absurd rfl h0
 | cons a t =>
  rw [show idx (a :: t) 0 = some a from rfl, Option.bind_some]
  refine Ok.bind (Ok.count (a :: t).length (fun j z => z.1 = (j : Int) ∧ (∃ u ∈ a :: t, InS u z.2.1) ∧ (∃ u ∈ a :: t, InS u z.2.2) ∧ ∀ i u, i < j → (a :: t)[i]? = some u → z.2.1 ≤ u.Low ∧ u.High ≤ z.2.2) (Q := fun r : Int × Int × Int => Ends (fun n => ∃ u ∈ a :: t, InS u n) ⟨r.2.1, r.2.2⟩) ?_ ?_ ⟨rfl, ⟨a, .head _, Int.le_refl _, hne a (.head _)⟩, ⟨a, .head _, hne a (.head _), Int.le_refl _⟩, fun i u h => absurd h (by omega)⟩ hk) fun r hr => Ok.pure hr
  ·rintro j ⟨i, lo, hi⟩ hj ⟨h1, h2, h3, h4⟩
   obtain rfl : i = (j : Int) := h1
   have hm := List.getElem_mem hj
   have hge := List.getElem?_eq_getElem hj
   have hle := hne _ hm
   simp only [zJc, lt_cond hj, cond_true, idx_nat hj, Option.bind_some, to_eq, succ_eq hj (by have : (a :: t).length ≤ 400000 := hlen; omega : (a :: t).length < 9223372036854775808)]
   generalize (a :: t)[j] = u at *
   refine Ok.pure ⟨rfl, ?_, ?_, fun i u' hi hu' => ?_⟩
   ·by_cases h : u.Low < lo
    ·simp only [h, if_true]; exact ⟨u, hm, Int.le_refl _, hle⟩
    ·simp only [h, if_false]; exact h2
   ·by_cases h : u.High > hi
    ·simp only [h, if_true]; exact ⟨u, hm, hle, Int.le_refl _⟩
    ·simp only [h, if_false]; exact h3
   ·by_cases e : i = j
    ·subst e; rw [hge] at hu'; cases hu'
     simp only
     constructor <;> split <;> omega
    ·have h5 := h4 i u' (by omega) hu'
     simp only at h5 ⊢
     constructor <;> split <;> omega
  ·rintro ⟨i, lo, hi⟩ ⟨h1, h2, h3, h4⟩
   obtain rfl : i = ((a :: t).length : Int) := h1
   have c1 : decide (((a :: t).length : Int) < ((a :: t).length : Int)) = false := by simp
   simp only [zJc, c1, cond_false]
   refine Ok.pure ⟨h2, h3, fun n hn => ?_⟩
   obtain ⟨u, hu, hn⟩ := hn
   obtain ⟨i, hi⟩ := List.getElem?_of_mem hu
   have := h4 i u (List.getElem?_eq_some_iff.1 hi).1 hi
   unfold InS at *
   simp only at *
   omega
end Go.AM
set_option linter.unusedVariables false
namespace Go.AM
open Go
theorem zip_congr {α β : Type} {g g' : α → Nat → List β} : ∀ (l : List (α × Nat)), (∀ p ∈ l, g p.1 p.2 = g' p.1 p.2) → (l.flatMap fun p => g p.1 p.2) = l.flatMap fun p => g' p.1 p.2
 | [], _ => rfl
 | p :: t, h => by
  rw [List.flatMap_cons, List.flatMap_cons, h p (.head _), zip_congr t fun q hq => h q (.tail _ hq)]
theorem cat_congr {α β : Type} {g g' : α → Nat → List β} {l : List α} (h : ∀ i a, l[i]? = some a → g a i = g' a i) : cat g l = cat g' l := by
 unfold cat
 exact zip_congr _ fun p hp => h p.2 p.1 (zip_mem hp)
theorem comeL_cat (C : Nat) (ds : List zn) : comeL ds C = cat (fun D i => if C.testBit i = true then [(⟨1, D.By⟩ : zD)] else []) ds := by
 have : ∀ j, j ≤ ds.length → comeL (ds.take j) C = cat (fun D i => if C.testBit i = true then [(⟨1, D.By⟩ : zD)] else []) (ds.take j) := by
  intro j
  induction j with
  | zero => intro _; rfl
  | succ j ih =>
   intro hj
   rw [comeL_succ C (by omega), cat_succ _ (by omega), ih (by omega)]
 have h := this ds.length (Nat.le_refl _)
 rwa [List.take_length] at h
theorem moveL_cat (x : zd) (day : Int) (ms : List zy) : moveL x day ms = cat (fun m _ => if (m.Day == day && m.Shelf == x.shelf) = true then [(⟨if m.Back then 1 else 0, m.By⟩ : zD)] else []) ms := by
 have : ∀ j, j ≤ ms.length → moveL x day (ms.take j) = cat (fun m _ => if (m.Day == day && m.Shelf == x.shelf) = true then [(⟨if m.Back then 1 else 0, m.By⟩ : zD)] else []) (ms.take j) := by
  intro j
  induction j with
  | zero => intro _; rfl
  | succ j ih =>
   intro hj
   rw [moveL_succ x day (by omega), cat_succ _ (by omega), ih (by omega)]
 have h := this ms.length (Nat.le_refl _)
 rwa [List.take_length] at h
def evKey (e : Ev) : zi × zi := (e.by_, e.within)
def evW (x : zd) (w : zD) : zi × zi := (if w.way = 0 then ⟨-w.by_.High, -w.by_.Low⟩ else w.by_, ⟨0, (shelfOf x).Room⟩)
def OnDay (x : zd) (w : List Int) (d : Int) (C : Nat) : Prop := ∀ i D, x.ShelfBook.Deliveries.1[i]? = some D → (C.testBit i = true ↔ D.Shelf = x.shelf ∧ w[i]? = some d)
theorem day_key {x : zd} {w : List Int} {d : Int} {C : Nat} (h : OnDay x w d C) : (cat (evDg x w d) x.ShelfBook.Deliveries.1 ++ cat (evMg x d) x.ShelfBook.Moves.1).map evKey = (todayL x d C).map (evW x) := by
 unfold todayL
 rw [comeL_cat, moveL_cat, List.map_append, List.map_append, cat_map, cat_map, cat_map, cat_map]
 congr 1
 ·refine cat_congr fun i D hD => ?_
  unfold evDg
  have h1 := h i D hD
  by_cases hc : C.testBit i = true
  ·rw [if_pos hc, if_pos (h1.1 hc)]
   simp [evKey, evW]
  ·rw [if_neg hc, if_neg fun h2 => hc (h1.2 h2)]
   rfl
 ·refine cat_congr fun i m hm => ?_
  unfold evMg
  by_cases hc : m.Shelf = x.shelf ∧ m.Day = d
  ·have : (m.Day == d && m.Shelf == x.shelf) = true := by simp [hc]
   rw [if_pos hc, if_pos this]
   cases m.Back <;> simp [evKey, evW]
  ·have : ¬ (m.Day == d && m.Shelf == x.shelf) = true := by
    simp only [Bool.and_eq_true, beq_iff_eq]
    exact fun h2 => hc ⟨h2.2, h2.1⟩
   rw [if_neg hc, if_neg this]
   rfl
theorem steps_cons {e : Ev} {l : List Ev} {u : Nat → Int} : Steps (e :: l) u ↔ StepE e (u 0) (u 1) ∧ Steps l fun i => u (i + 1) := by
 constructor
 ·intro h
  exact ⟨h 0 e rfl, fun i e' he => h (i + 1) e' he⟩
 ·rintro ⟨h1, h2⟩ i e' he
  cases i with
  | zero => cases he; exact h1
  | succ i => exact h2 i e' he
theorem steps_append {l l' : List Ev} {u : Nat → Int} : Steps (l ++ l') u ↔ Steps l u ∧ Steps l' fun i => u (l.length + i) := by
 constructor
 ·intro h
  refine ⟨fun i e he => h i e ?_, fun i e he => ?_⟩
  ·rw [List.getElem?_append_left (List.getElem?_eq_some_iff.1 he).1]; exact he
  ·have := h (l.length + i) e (by rw [List.getElem?_append_right (by omega)]; simpa using he)
   exact this
 ·rintro ⟨h1, h2⟩ i e he
  by_cases hi : i < l.length
  ·rw [List.getElem?_append_left hi] at he
   exact h1 i e he
  ·rw [List.getElem?_append_right (by omega)] at he
   have := h2 (i - l.length) e he
   have e1 : l.length + (i - l.length) = i := by omega
   have e2 : l.length + (i - l.length + 1) = i + 1 := by omega
   simp only [e1, e2] at this
   exact this
theorem stepE_step {x : zd} {w : zD} {e : Ev} (hk : evKey e = evW x w) (m : Nat) (q : Int) : StepE e m q ↔ ∃ p : Nat, (p : Int) = q ∧ (p : Int) ≤ (shelfOf x).Room ∧ Step w.way w.by_ m p := by
 unfold evKey evW at hk
 have h1 : e.by_ = _ := congrArg Prod.fst hk
 have h2 : e.within = _ := congrArg Prod.snd hk
 unfold StepE InS Step
 rw [h1, h2]
 simp only
 by_cases hw : w.way = 0
 ·simp only [hw, if_true]
  constructor
  ·rintro ⟨⟨a, b⟩, c, d⟩
   exact ⟨q.toNat, by omega, by omega, m - q, by omega, by omega, by omega⟩
  ·rintro ⟨p, rfl, a, t, b, c, d⟩
   omega
 ·simp only [hw, if_false]
  constructor
  ·rintro ⟨⟨a, b⟩, c, d⟩
   exact ⟨q.toNat, by omega, by omega, q - m, by omega, by omega, by omega⟩
  ·rintro ⟨p, rfl, a, t, b, c, d⟩
   omega
theorem run_steps {x : zd} : ∀ (ws : List zD) (L : List Ev), L.map evKey = ws.map (evW x) → ∀ m n : Nat, Run x ws m n ↔ ∃ u : Nat → Int, Steps L u ∧ u 0 = m ∧ u L.length = n
 | [], L, h, m, n => by
  obtain rfl : L = [] := List.map_eq_nil_iff.1 h
  show m = n ↔ _
  constructor
  ·rintro rfl
   exact ⟨fun _ => m, fun i e he => by simp at he, rfl, rfl⟩
  ·rintro ⟨u, _, h1, h2⟩
   have h3 : u 0 = n := h2
   omega
 | w :: t, [], h, m, n => by simp at h
 | w :: t, e :: L, h, m, n => by
  rw [List.map_cons, List.map_cons] at h
  have hk : evKey e = evW x w := (List.cons.inj h).1
  have ht := (List.cons.inj h).2
  constructor
  ·rintro ⟨q, h1, h2, h3⟩
   obtain ⟨u, h4, h5, h6⟩ := (run_steps t L ht q n).1 h3
   refine ⟨fun i => match i with | 0 => (m : Int) | i + 1 => u i, steps_cons.2 ⟨?_, h4⟩, rfl, h6⟩
   show StepE e (m : Int) (u 0)
   exact (stepE_step hk m _).2 ⟨q, h5.symm, h1, h2⟩
  ·rintro ⟨u, h4, h5, h6⟩
   obtain ⟨h7, h8⟩ := steps_cons.1 h4
   rw [h5] at h7
   obtain ⟨q, h9, h10, h11⟩ := (stepE_step hk m _).1 h7
   exact ⟨q, h10, h11, (run_steps t L ht q n).2 ⟨_, h8, h9.symm, h6⟩⟩
theorem day_steps {x : zd} {w : List Int} {d : Int} {C : Nat} (h : OnDay x w d C) {m n : Nat} (hm : (m : Int) ≤ (shelfOf x).Room) :
  (Run x (todayL x d C) m n ∧ CountsLet x d n) ↔ ∃ u : Nat → Int, Steps (evDay x w d) u ∧ u 0 = m ∧ u (evDay x w d).length = n := by
 have hrs := run_steps (todayL x d C) _ (day_key h) m n
 constructor
 ·rintro ⟨h1, h2⟩
  obtain ⟨u, h3, h4, h5⟩ := hrs.1 h1
  refine ⟨fun i => if i ≤ (cat (evDg x w d) x.ShelfBook.Deliveries.1 ++ cat (evMg x d) x.ShelfBook.Moves.1).length then u i else n, ?_, by simpa using h4, ?_⟩
  ·unfold evDay
   refine steps_append.2 ⟨fun i e he => ?_, fun i e he => ?_⟩
   ·have hi := (List.getElem?_eq_some_iff.1 he).1
    have a1 : i ≤ (cat (evDg x w d) x.ShelfBook.Deliveries.1 ++ cat (evMg x d) x.ShelfBook.Moves.1).length := by omega
    have a2 : i + 1 ≤ (cat (evDg x w d) x.ShelfBook.Deliveries.1 ++ cat (evMg x d) x.ShelfBook.Moves.1).length := by omega
    simp only [a1, a2, if_true]
    exact h3 i e he
   ·cases i with
    | zero =>
     cases he
     have a2 : ¬ (cat (evDg x w d) x.ShelfBook.Deliveries.1 ++ cat (evMg x d) x.ShelfBook.Moves.1).length + 1 ≤ (cat (evDg x w d) x.ShelfBook.Deliveries.1 ++ cat (evMg x d) x.ShelfBook.Moves.1).length := by omega
     simp only [Nat.add_zero, Nat.zero_add, Nat.le_refl, if_true, a2, if_false]
     rw [h5]
     refine ⟨?_, (cntS_in d n).2 ⟨run_room _ m n h1 hm, h2⟩⟩
     show InS (⟨0, 0⟩ : zi) _
     unfold InS; simp
    | succ i => cases he
  ·unfold evDay
   generalize cat (evDg x w d) x.ShelfBook.Deliveries.1 ++ cat (evMg x d) x.ShelfBook.Moves.1 = A
   show (if (A ++ [evC x d]).length ≤ A.length then u (A ++ [evC x d]).length else (n : Int)) = n
   rw [if_neg (by simp)]
 ·rintro ⟨u, h3, h4, h5⟩
  unfold evDay at h3 h5
  obtain ⟨h6, h7⟩ := steps_append.1 h3
  have h8 := h7 0 (evC x d) rfl
  rw [List.length_append, List.length_singleton] at h5
  simp only [Nat.add_zero, Nat.zero_add] at h8
  rw [h5] at h8
  obtain ⟨h9, h10⟩ := h8
  have h11 : InS (⟨0, 0⟩ : zi) _ := h9
  unfold InS at h11
  simp only at h11
  exact ⟨hrs.2 ⟨u, h6, h4, by omega⟩, ((cntS_in d n).1 h10).2⟩
theorem bits_ex (p : Nat → Bool) : ∀ n, ∃ C, C < 2 ^ n ∧ ∀ i, C.testBit i = (decide (i < n) && p i)
 | 0 => ⟨0, by simp, fun i => by simp⟩
 | n + 1 => by
  obtain ⟨C, h1, h2⟩ := bits_ex p n
  have hp : (2 : Nat) ^ (n + 1) = 2 ^ n + 2 ^ n := by rw [Nat.pow_succ]; omega
  cases hpn : p n with
  | false =>
   refine ⟨C, by omega, fun i => ?_⟩
   rw [h2 i]
   by_cases e : i = n
   ·subst e; simp [hpn]
   ·have : decide (i < n + 1) = decide (i < n) := by
     by_cases h3 : i < n
     ·simp [h3]; omega
     ·simp [h3]; omega
    rw [this]
  | true =>
   refine ⟨2 ^ n + C, by omega, fun i => ?_⟩
   by_cases e : i = n
   ·subst e
    rw [Nat.testBit_two_pow_add_eq, h2 i]
    simp [hpn]
   ·by_cases h3 : i < n
    ·rw [Nat.testBit_two_pow_add_gt h3, h2 i]
     have : i < n + 1 := by omega
     simp [h3, this]
    ·rw [Nat.testBit_lt_two_pow (Nat.lt_of_lt_of_le (show 2 ^ n + C < 2 ^ (n + 1) by omega) (Nat.pow_le_pow_right (by omega) (by omega)))]
     have : ¬ i < n + 1 := by omega
     simp [this]
theorem bits_zero {C : Nat} (h : ∀ i, C.testBit i = false) : C = 0 := Nat.eq_of_testBit_eq fun i => by rw [h i]; simp
theorem dif_bit {x y : Nat} (hx : x < 2 ^ 63) (hy : y < 2 ^ 63) (i : Nat) : (dif x y).testBit i = (x.testBit i && !y.testBit i) := (andNot_eq hx hy).2.2.2 i
end Go.AM
set_option linter.unusedVariables false
namespace Go.AM
open Go
theorem steps_mono {l : List Ev} {u u' : Nat → Int} (h : ∀ i, i ≤ l.length → u i = u' i) (hu : Steps l u) : Steps l u' := by
 intro i e he
 have hi := (List.getElem?_eq_some_iff.1 he).1
 rw [← h i (by omega), ← h (i + 1) (by omega)]
 exact hu i e he
theorem set_ex (x : zd) (w : List Int) (e : Nat) : ∃ C, C < nset x ∧ ∀ i, C.testBit i = true ↔ ∃ D c, x.ShelfBook.Deliveries.1[i]? = some D ∧ D.Shelf = x.shelf ∧ w[i]? = some c ∧ c < (e : Int) := by
 obtain ⟨C, h1, h2⟩ := bits_ex (fun i => match x.ShelfBook.Deliveries.1[i]?, w[i]? with
  | some D, some c => decide (D.Shelf = x.shelf) && decide (c < (e : Int))
  | _, _ => false) x.ShelfBook.Deliveries.1.length
 refine ⟨C, h1, fun i => ?_⟩
 rw [h2 i, Bool.and_eq_true, decide_eq_true_eq]
 constructor
 ·rintro ⟨h3, h4⟩
  obtain ⟨D, hD, _⟩ := get_of_lt h3
  rw [hD] at h4
  cases hw : w[i]? with
  | none => rw [hw] at h4; cases h4
  | some c =>
   rw [hw] at h4
   simp only [Bool.and_eq_true, decide_eq_true_eq] at h4
   exact ⟨D, c, hD, h4.1, rfl, h4.2⟩
 ·rintro ⟨D, c, h3, h4, h5, h6⟩
  refine ⟨(List.getElem?_eq_some_iff.1 h3).1, ?_⟩
  rw [h3, h5]
  simp [h4, h6]
theorem way_at {x : zd} {w : List Int} (hw : Way x w) {i : Nat} {D : zn} (hD : x.ShelfBook.Deliveries.1[i]? = some D) : ∃ c, w[i]? = some c ∧ D.Days.Low ≤ c ∧ c ≤ (if D.Shelf = x.shelf then D.Days.High else D.Days.Low) :=
 hw.2 i D (List.getElem?_eq_some_iff.1 hD).1 hD
theorem path_in {x : zd} (hx : On x) {w : List Int} {V : Nat → Int} (h : RPath x w V) : ∀ i, i ≤ (evsL x w (Nd x)).length → 0 ≤ V i ∧ V i ≤ (shelfOf x).Room
 | 0, _ => by
  obtain ⟨_, h1, h2, h3⟩ := hx.shelf
  have h0 := h.1
  unfold InS at h0
  omega
 | i + 1, hi => by
  obtain ⟨e, he, hm⟩ := get_of_lt (show i < (evsL x w (Nd x)).length by omega)
  have h1 := (h.2 i e he).2
  have h2 : 0 ≤ e.within.Low ∧ e.within.High ≤ (shelfOf x).Room := by
   unfold evsL at hm
   obtain ⟨d, _, hm⟩ := List.mem_flatMap.1 hm
   unfold evDay at hm
   rw [List.mem_append, List.mem_append] at hm
   rcases hm with (hm | hm) | hm
   ·obtain ⟨i, D, hD, he⟩ := mem_cat.1 hm
    unfold evDg at he
    split at he
    ·obtain rfl := List.mem_singleton.1 he
     exact ⟨Int.le_refl _, Int.le_refl _⟩
    ·cases he
   ·obtain ⟨i, D, hD, he⟩ := mem_cat.1 hm
    unfold evMg at he
    split at he
    ·obtain rfl := List.mem_singleton.1 he
     exact ⟨Int.le_refl _, Int.le_refl _⟩
    ·cases he
   ·obtain rfl := List.mem_singleton.1 hm
    refine ⟨(cntS_bd hx d).2, ?_⟩
    have := (foldl_in x d (cntS x d).High x.ShelfBook.Counts.1.zipIdx ⟨0, (shelfOf x).Room⟩)
    have hhi : ∀ (l : List (zp × Nat)) (s : zi), (l.foldl (cntStep x d) s).High ≤ s.High := by
     intro l
     induction l with
     | nil => intro s; exact Int.le_refl _
     | cons p t ih =>
      intro s
      refine Int.le_trans (ih _) ?_
      unfold cntStep comm
      split
      ·simp only
       by_cases h : p.1.Read + p.1.Err < s.High <;> simp only [h, if_true, if_false] <;> omega
      ·exact Int.le_refl _
    exact hhi _ _
  unfold InS at h1
  omega
theorem path_chain {x : zd} (hx : On x) {w : List Int} {V : Nat → Int} (hw : Way x w) (h : RPath x w V) : ∃ Cs v, Chain x (Nd x) Cs v ∧ ∀ d, d ≤ Nd x → (v d : Int) = V (evsL x w d).length := by
 have hd := hx.fine.days
 have h8 := nset_le hx
 have hset := set_ex x w
 refine ⟨fun e => (hset e).choose, fun d => (V (evsL x w d).length).toNat, ⟨?_, ?_, fun e he => ⟨?_, ?_, ?_⟩⟩, fun d hd => ?_⟩
 ·refine bits_zero fun i => ?_
  have h1 := (hset 0).choose_spec.2 i
  cases hb : (hset 0).choose.testBit i with
  | false => rfl
  | true =>
   obtain ⟨D, c, h2, h3, h4, h5⟩ := h1.1 hb
   obtain ⟨c', h6, h7, _⟩ := way_at hw h2
   rw [h4] at h6; cases h6
   have := (hx.fine.deliveries _ (List.mem_of_getElem? h2)).2.1.1
   omega
 ·have h0 := h.1
  have h1 := path_in hx h 0 (by omega)
  unfold InS at h0
  have : (evsL x w 0).length = 0 := rfl
  rw [this]
  omega
 ·exact (hset (e + 1)).choose_spec.1
 ·intro i D hD
  have hB := (hset e).choose_spec.2 i
  have hC := (hset (e + 1)).choose_spec.2 i
  obtain ⟨c, h6, h7, h8⟩ := way_at hw hD
  have hb : (hset e).choose.testBit i = true ↔ D.Shelf = x.shelf ∧ c < (e : Int) := by
   rw [hB]
   constructor
   ·rintro ⟨D', c', h1, h2, h3, h4⟩
    rw [hD] at h1; rw [h6] at h3; cases h1; cases h3
    exact ⟨h2, h4⟩
   ·rintro ⟨h2, h4⟩; exact ⟨D, c, hD, h2, h6, h4⟩
  have hc : (hset (e + 1)).choose.testBit i = true ↔ D.Shelf = x.shelf ∧ c < ((e + 1 : Nat) : Int) := by
   rw [hC]
   constructor
   ·rintro ⟨D', c', h1, h2, h3, h4⟩
    rw [hD] at h1; rw [h6] at h3; cases h1; cases h3
    exact ⟨h2, h4⟩
   ·rintro ⟨h2, h4⟩; exact ⟨D, c, hD, h2, h6, h4⟩
  unfold NextD
  by_cases hs : D.Shelf = x.shelf
  ·rw [if_pos hs]
   rw [if_pos hs] at h8
   refine ⟨fun h1 => hc.2 ⟨hs, by have := (hb.1 h1).2; push_cast; omega⟩, fun h1 h2 => ?_, fun h1 => ?_⟩
   ·have h3 := (hc.1 h1).2
    have h4 : ¬ c < (e : Int) := fun h4 => by rw [hb.2 ⟨hs, h4⟩] at h2; cases h2
    push_cast at h3
    omega
   ·have h4 : ¬ c < ((e + 1 : Nat) : Int) := fun h4 => by rw [hc.2 ⟨hs, h4⟩] at h1; cases h1
    push_cast at h4
    omega
  ·rw [if_neg hs]
   cases hb' : (hset (e + 1)).choose.testBit i with
   | false => rfl
   | true => exact absurd (hc.1 hb').1 hs
 ·have hB := (hset e).choose_spec
  have hC := (hset (e + 1)).choose_spec
  have hon : OnDay x w e (dif (hset (e + 1)).choose (hset e).choose) := by
   intro i D hD
   rw [dif_bit (by omega) (by omega), Bool.and_eq_true, Bool.not_eq_true', hC.2 i, ← Bool.not_eq_true, hB.2 i]
   obtain ⟨c, h6, h7, h8⟩ := way_at hw hD
   constructor
   ·rintro ⟨⟨D', c', h1, h2, h3, h4⟩, h5⟩
    rw [hD] at h1; rw [h6] at h3; cases h1; cases h3
    refine ⟨h2, ?_⟩
    have : ¬ c < (e : Int) := fun h9 => h5 ⟨D, c, hD, h2, h6, h9⟩
    rw [h6]
    congr 1
    push_cast at h4
    omega
   ·rintro ⟨h1, h2⟩
    refine ⟨⟨D, e, hD, h1, h2, by push_cast; omega⟩, ?_⟩
    rintro ⟨D', c', h3, h4, h5, h9⟩
    rw [h2] at h5; cases h5
    omega
  have hsteps : Steps (evDay x w e) fun i => V ((evsL x w e).length + i) := by
   obtain ⟨l, hl⟩ := evsL_pre x w (e + 1) (Nd x - (e + 1))
   have e1 : e + 1 + (Nd x - (e + 1)) = Nd x := by have : e < Nd x := he; omega
   rw [e1] at hl
   have h1 := h.2
   rw [hl, evsL_succ, List.append_assoc] at h1
   have h2 := (steps_append.1 h1).2
   exact (steps_append.1 h2).1
  have he' : e < Nd x := he
  have r0 := path_in hx h (evsL x w e).length (evsL_le x w (by omega))
  have r1 := path_in hx h (evsL x w (e + 1)).length (evsL_le x w (by omega))
  refine (day_steps hon (by omega)).2 ⟨_, hsteps, ?_, ?_⟩
  ·show V ((evsL x w e).length + 0) = _
   rw [Nat.add_zero]
   omega
  ·show V ((evsL x w e).length + (evDay x w e).length) = _
   have : (evsL x w (e + 1)).length = (evsL x w e).length + (evDay x w e).length := by rw [evsL_succ, List.length_append]
   rw [← this]
   omega
 ·have := path_in hx h (evsL x w d).length (evsL_le x w hd)
  show (((V (evsL x w d).length).toNat : Nat) : Int) = _
  omega
theorem bit_mono {x : zd} {N : Nat} {Cs v : Nat → Nat} (h : Chain x N Cs v) {i : Nat} {D : zn} (hD : x.ShelfBook.Deliveries.1[i]? = some D) (hs : D.Shelf = x.shelf) : ∀ t e, e + t ≤ N → (Cs e).testBit i = true → (Cs (e + t)).testBit i = true
 | 0, e, _, hb => hb
 | t + 1, e, he, hb => by
  have h1 := bit_mono h hD hs t e (by omega) hb
  have h2 := (h.step (e + t) (by omega)).2.1 i D hD
  unfold NextD at h2
  rw [if_pos hs] at h2
  exact h2.1 h1
theorem first_bit {C : Nat → Nat} {i : Nat} (h0 : C 0 = 0) : ∀ N, (C N).testBit i = true → ∃ e, e < N ∧ (C e).testBit i = false ∧ (C (e + 1)).testBit i = true
 | 0, h => by rw [h0] at h; simp at h
 | N + 1, h => by
  cases hb : (C N).testBit i with
  | false => exact ⟨N, by omega, hb, h⟩
  | true =>
   obtain ⟨e, h1, h2⟩ := first_bit h0 N hb
   exact ⟨e, by omega, h2⟩
theorem list_ex {n : Nat} {P : Nat → Int → Prop} (h : ∀ i, i < n → ∃ c, P i c) : ∃ w : List Int, w.length = n ∧ ∀ i, i < n → ∃ c, w[i]? = some c ∧ P i c := by
 induction n with
 | zero => exact ⟨[], rfl, fun i h => absurd h (by omega)⟩
 | succ n ih =>
  obtain ⟨w, h1, h2⟩ := ih fun i hi => h i (by omega)
  obtain ⟨c, hc⟩ := h n (by omega)
  refine ⟨w ++ [c], by simp [h1], fun i hi => ?_⟩
  by_cases e : i = n
  ·subst e
   exact ⟨c, by rw [← h1]; simp, hc⟩
  ·obtain ⟨c', h3, h4⟩ := h2 i (by omega)
   exact ⟨c', by rw [List.getElem?_append_left (by omega)]; exact h3, h4⟩
theorem chain_way {x : zd} (hx : On x) {Cs v : Nat → Nat} (h : Chain x (Nd x) Cs v) : ∃ w, Way x w ∧ ∀ e, e < Nd x → OnDay x w e (dif (Cs (e + 1)) (Cs e)) := by
 have hd := hx.fine.days
 have h8 := nset_le hx
 have hlt : ∀ e, e ≤ Nd x → Cs e < 2 ^ 63 := by
  intro e he
  have := (chain_in hx h e he).2
  omega
 obtain ⟨w, h1, h2⟩ := list_ex (n := x.ShelfBook.Deliveries.1.length) (P := fun i c => ∀ D, x.ShelfBook.Deliveries.1[i]? = some D → (D.Days.Low ≤ c ∧ c ≤ (if D.Shelf = x.shelf then D.Days.High else D.Days.Low)) ∧ (D.Shelf = x.shelf → ∃ e : Nat, c = e ∧ e < Nd x ∧ (Cs e).testBit i = false ∧ (Cs (e + 1)).testBit i = true)) (by
  intro i hi
  obtain ⟨D, hD, hm⟩ := get_of_lt hi
  obtain ⟨_, ⟨hd1, hd2, hd3⟩, _⟩ := hx.fine.deliveries _ hm
  by_cases hs : D.Shelf = x.shelf
  ·have hN : (Cs (Nd x)).testBit i = true := by
    have h3 : Nd x - 1 + 1 = Nd x := by unfold Nd; omega
    have h4 := (h.step (Nd x - 1) (by omega)).2.1 i D hD
    rw [h3] at h4
    unfold NextD at h4
    rw [if_pos hs] at h4
    cases hb : (Cs (Nd x)).testBit i with
    | true => rfl
    | false =>
     have := h4.2.2 hb
     unfold Nd at this
     omega
   obtain ⟨e, h3, h4, h5⟩ := first_bit h.c0 _ hN
   have h6 := (h.step e h3).2.1 i D hD
   unfold NextD at h6
   rw [if_pos hs] at h6
   have h7 := h6.2.1 h5 h4
   refine ⟨e, fun D' hD' => ?_⟩
   rw [hD] at hD'; cases hD'
   rw [if_pos hs]
   exact ⟨h7, fun _ => ⟨e, rfl, h3, h4, h5⟩⟩
  ·refine ⟨D.Days.Low, fun D' hD' => ?_⟩
   rw [hD] at hD'; cases hD'
   rw [if_neg hs]
   exact ⟨⟨Int.le_refl _, Int.le_refl _⟩, fun h => absurd h hs⟩)
 refine ⟨w, ⟨h1, fun i D hi hD => ?_⟩, fun e he i D hD => ?_⟩
 ·obtain ⟨c, h3, h4⟩ := h2 i hi
  exact ⟨c, h3, (h4 D hD).1⟩
 ·obtain ⟨c, h3, h4⟩ := h2 i (List.getElem?_eq_some_iff.1 hD).1
  rw [dif_bit (hlt _ (by omega)) (hlt _ (by omega)), Bool.and_eq_true, Bool.not_eq_true']
  constructor
  ·rintro ⟨h5, h6⟩
   have hs : D.Shelf = x.shelf := by
    refine Classical.byContradiction fun hs => ?_
    have h7 := (h.step e he).2.1 i D hD
    unfold NextD at h7
    rw [if_neg hs] at h7
    rw [h7] at h5; cases h5
   obtain ⟨e', rfl, h7, h8, h9⟩ := (h4 D hD).2 hs
   refine ⟨hs, ?_⟩
   have : e' = e := by
    rcases Nat.lt_trichotomy e' e with h10 | h10 | h10
    ·have := bit_mono h hD hs (e - (e' + 1)) (e' + 1) (by omega) h9
     have e1 : e' + 1 + (e - (e' + 1)) = e := by omega
     rw [e1, h6] at this; cases this
    ·exact h10
    ·have := bit_mono h hD hs (e' - (e + 1)) (e + 1) (by omega) h5
     have e1 : e + 1 + (e' - (e + 1)) = e' := by omega
     rw [e1, h8] at this; cases this
   rw [h3, this]
  ·rintro ⟨hs, h5⟩
   obtain ⟨e', rfl, h7, h8, h9⟩ := (h4 D hD).2 hs
   rw [h3] at h5
   have : e' = e := by have := Option.some.inj h5; omega
   subst this
   exact ⟨h9, h8⟩
theorem chain_path {x : zd} (hx : On x) {Cs v : Nat → Nat} (h : Chain x (Nd x) Cs v) : ∃ w V, Way x w ∧ RPath x w V ∧ (∀ d, d ≤ Nd x → V (evsL x w d).length = v d) := by
 obtain ⟨w, hw, hon⟩ := chain_way hx h
 suffices ∀ d, d ≤ Nd x → ∃ V : Nat → Int, V 0 = v 0 ∧ Steps (evsL x w d) V ∧ ∀ d', d' ≤ d → V (evsL x w d').length = v d' by
  obtain ⟨V, h1, h2, h3⟩ := this (Nd x) (Nat.le_refl _)
  have h4 := h.v0
  exact ⟨w, V, hw, ⟨by unfold InS; rw [h1]; exact h4, h2⟩, h3⟩
 intro d
 induction d with
 | zero =>
  intro _
  refine ⟨fun _ => v 0, rfl, fun i e he => by simp [evsL] at he, fun d' hd' => ?_⟩
  obtain rfl : d' = 0 := by omega
  rfl
 | succ d ih =>
  intro hd
  obtain ⟨V, h1, h2, h3⟩ := ih (by omega)
  have hin := (chain_in hx h d (by omega)).1
  obtain ⟨u, h4, h5, h6⟩ := (day_steps (hon d (by omega)) hin).1 (h.step d (by omega)).2.2
  have hlen := h3 d (Nat.le_refl _)
  refine ⟨fun i => if i ≤ (evsL x w d).length then V i else u (i - (evsL x w d).length), by simpa using h1, ?_, fun d' hd' => ?_⟩
  ·rw [evsL_succ]
   refine steps_append.2 ⟨steps_mono (fun i hi => ?_) h2, steps_mono (fun i hi => ?_) h4⟩
   ·simp only [hi, if_true]
   ·by_cases hi0 : i = 0
    ·subst hi0
     simp only [Nat.add_zero, Nat.le_refl, if_true]
     rw [hlen, h5]
    ·have a1 : ¬ (evsL x w d).length + i ≤ (evsL x w d).length := by omega
     simp only [a1, if_false]
     congr 1
     omega
  ·by_cases e : d' = d + 1
   ·subst e
    have hl : (evsL x w (d + 1)).length = (evsL x w d).length + (evDay x w d).length := by rw [evsL_succ, List.length_append]
    have hpos : 0 < (evDay x w d).length := by unfold evDay; simp only [List.length_append, List.length_singleton]; omega
    have a1 : ¬ (evsL x w (d + 1)).length ≤ (evsL x w d).length := by omega
    simp only [a1, if_false]
    rw [← h6]
    congr 1
    omega
   ·have a1 : (evsL x w d').length ≤ (evsL x w d).length := evsL_le x w (by omega)
    simp only [a1, if_true]
    exact h3 d' (by omega)
theorem can_rcan {x : zd} (hx : On x) : CanBe x ↔ RCan x := by
 rw [canBe_chain hx]
 constructor
 ·rintro ⟨Cs, v, h⟩
  obtain ⟨w, V, h1, h2, _⟩ := chain_path hx h
  exact ⟨w, V, h1, h2⟩
 ·rintro ⟨w, V, h1, h2⟩
  obtain ⟨Cs, v, h, _⟩ := path_chain hx h1 h2
  exact ⟨Cs, v, h⟩
theorem booktrue_r {b : za} (hb : Fine b) {left : Int} (h0 : 0 ≤ left) (h1 : left < 9223372036854775808) : BookTrue b left ↔ RBookTrue b left := by
 unfold BookTrue RBookTrue
 constructor
 ·intro h s hs
  exact (can_rcan ⟨hb, by simp, by simpa using hs, h0, h1⟩).1 (h s hs)
 ·intro h s hs
  exact (can_rcan ⟨hb, by simp, by simpa using hs, h0, h1⟩).2 (h s hs)
end Go.AM
set_option linter.unusedVariables false
namespace Go.AM
open Go
def AskE (b : za) (q T : Prop) (e : Int) : Prop :=
 (¬ Fine b ∧ e = 40) ∨ (Fine b ∧ ¬ q ∧ e = 41) ∨ (Fine b ∧ q ∧ ¬ T ∧ e = 42) ∨ (Fine b ∧ q ∧ T ∧ e = 0)
theorem AskE.eq {b : za} {q T : Prop} {e f : Int} (h : AskE b q T e) (g : AskE b q T f) : e = f := by
 unfold AskE at *
 rcases h with ⟨h1, h2⟩ | ⟨h1, h2, h3⟩ | ⟨h1, h2, h3, h4⟩ | ⟨h1, h2, h3, h4⟩ <;> rcases g with ⟨g1, g2⟩ | ⟨g1, g2, g3⟩ | ⟨g1, g2, g3, g4⟩ | ⟨g1, g2, g3, g4⟩ <;> first | omega | exact absurd h1 g1 | exact absurd g1 h1 | exact absurd h2 g2 | exact absurd g2 h2 | exact absurd h3 g3 | exact absurd g3 h3
theorem AskE.ok {b : za} {q T : Prop} {e : Int} (h : AskE b q T e) (he : e = 0) : Fine b ∧ q ∧ T := by
 unfold AskE at h
 rcases h with ⟨h1, h2⟩ | ⟨h1, h2, h3⟩ | ⟨h1, h2, h3, h4⟩ | ⟨h1, h2, h3, h4⟩
 ·omega
 ·omega
 ·omega
 ·exact ⟨h1, h2, h3⟩
theorem AskE.cases {b : za} {q T : Prop} {e : Int} (h : AskE b q T e) : e = 40 ∨ e = 41 ∨ e = 42 ∨ e = 0 := by
 unfold AskE at h
 rcases h with ⟨h1, h2⟩ | ⟨h1, h2, h3⟩ | ⟨h1, h2, h3, h4⟩ | ⟨h1, h2, h3, h4⟩ <;> omega
theorem asked_e {b : za} {right : Bool} {q T : Prop} {e : Int} (hr : Fine b → (right = true ↔ q)) (h : Asked b right T e) : AskE b q T e := by
 unfold Asked at h
 unfold AskE
 rcases h with ⟨h1, h2⟩ | ⟨h1, h2, h3⟩ | ⟨h1, h2, h3, h4⟩ | ⟨h1, h2, h3, h4⟩
 ·exact .inl ⟨h1, h2⟩
 ·exact .inr (.inl ⟨h1, fun hq => (by rw [(hr h1).2 hq] at h2; cases h2), h3⟩)
 ·exact .inr (.inr (.inl ⟨h1, (hr h1).1 h2, h3, h4⟩))
 ·exact .inr (.inr (.inr ⟨h1, (hr h1).1 h2, h3, h4⟩))
def StockI (b : za) (s : Int) (d : Nat) (n : Int) : Prop := ∃ m : Nat, n = m ∧ Stock ⟨b, s, 0⟩ d m
theorem book_can {b : za} {s : Int} (hT : BookTrue b 0) (h0 : 0 ≤ s) (h1 : s ≤ (b.Shelves.1.length : Int) - 1) : CanBe (⟨b, s, 0⟩ : zd) := by
 have := hT s.toNat (by omega)
 rwa [Int.toNat_of_nonneg h0] at this
section
variable {b : za} {k : Nat}
def LeastFrom (b : za) (s d n : Int) : Prop := (∀ (j : Nat) m, d ≤ j → (j : Int) < b.Days → StockI b s j m → n ≤ m) ∧ ∃ j : Nat, d ≤ j ∧ (j : Int) < b.Days ∧ StockI b s j n
theorem LeastFrom.eq {s d n m : Int} (h : LeastFrom b s d n) (g : LeastFrom b s d m) : n = m := by
 obtain ⟨h1, j, h2, h3, h4⟩ := h
 obtain ⟨g1, i, g2, g3, g4⟩ := g
 have := h1 i m g2 g3 g4
 have := g1 j n h2 h3 h4
 omega
end
end Go.AM
set_option linter.unusedVariables false
namespace Go.AM
open Go
theorem match_ok {k : Nat} {p q : SL Int} (hk : p.1.length < k) (hp : p.1.length < 9223372036854775808) : Ok (znb k p q) (fun r => r = true ↔ p.1 = q.1) := by
 unfold znb
 by_cases hl : p.1.length = q.1.length
 ·have c0 : ((p.1.length : Int) == (q.1.length : Int)) = true := by simp [hl]
  rw [c0]
  refine Ok.bind (Ok.count p.1.length (fun j z => z.2 ≤ (j : Int) ∧ ((z.1 = true ∧ z.2 = (j : Int) ∧ p.1.take j = q.1.take j) ∨ (z.1 = false ∧ p.1 ≠ q.1))) (Q := fun z : Bool × Int => z.1 = true ↔ p.1 = q.1) ?_ ?_ ⟨Int.le_refl _, .inl ⟨rfl, rfl, rfl⟩⟩ hk) fun r hr => Ok.pure hr
  ·rintro j ⟨b, i⟩ hj ⟨h0, h⟩
   rcases h with ⟨hb, hi, ht⟩ | ⟨hb, hne⟩
   ·obtain rfl : b = true := hb
    obtain rfl : i = (j : Int) := hi
    have hj2 : j < q.1.length := by omega
    simp only [z8, z9, cond_true, lt_cond hj, Option.bind_some, idx_nat hj, idx_nat hj2, succ_eq hj hp]
    refine Ok.pure ⟨Int.le_refl _, ?_⟩
    by_cases e : p.1[j] = q.1[j]
    ·left
     refine ⟨by simp [e], rfl, ?_⟩
     rw [List.take_succ_eq_append_getElem hj, List.take_succ_eq_append_getElem hj2, e]
     have ht' : p.1.take j = q.1.take j := ht
     rw [ht']
    ·right
     refine ⟨by simp [e], fun h => e ?_⟩
     simp only [h]
   ·obtain rfl : b = false := hb
    simp only [z8, z9, cond_false, Option.bind_some]
    exact Ok.pure ⟨fun h => Bool.noConfusion h, fun h => absurd h hne⟩
  ·rintro ⟨b, i⟩ ⟨h0, h⟩
   rcases h with ⟨hb, hi, ht⟩ | ⟨hb, hne⟩
   ·obtain rfl : b = true := hb
    obtain rfl : i = (p.1.length : Int) := hi
    have c1 : decide ((p.1.length : Int) < (p.1.length : Int)) = false := by simp
    simp only [z8, z9, cond_true, c1, Option.bind_some, cond_false]
    refine Ok.pure ⟨fun _ => ?_, fun _ => rfl⟩
    have ht' : p.1.take p.1.length = q.1.take p.1.length := ht
    rwa [List.take_length, hl, List.take_length] at ht'
   ·obtain rfl : b = false := hb
    simp only [z8, z9, cond_false, Option.bind_some]
    exact Ok.pure ⟨fun h => Bool.noConfusion h, fun h => absurd h hne⟩
 ·have c0 : ((p.1.length : Int) == (q.1.length : Int)) = false := by simp; omega
  rw [c0]
  refine Ok.bind (Ok.count 0 (fun j z => z.1 = false) (Q := fun z : Bool × Int => z.1 = false) (fun j z hj => absurd hj (by omega)) ?_ rfl (by omega)) fun r hr => Ok.pure ?_
  ·rintro ⟨b, i⟩ hb
   obtain rfl : b = false := hb
   simp only [z8, z9, cond_false, Option.bind_some]
   exact Ok.pure rfl
  ·rw [hr]
   exact ⟨fun h => Bool.noConfusion h, fun h => absurd (congrArg List.length h) hl⟩
structure OfSet (S n : Nat) (l : List Int) : Prop where
 climbs : l.Pairwise (· < ·)
 mem : ∀ x, x ∈ l ↔ ∃ i : Nat, x = (i : Int) ∧ i < n ∧ S.testBit i = true
 len : l.length ≤ n
theorem of_ok {k : Nat} {S n : Nat} (hk : n < k) (hn : n < 64) (hS : S < 2 ^ 63) : Ok (zce k (S : Int) (n : Int)) (fun r => OfSet S n r.1) := by
 unfold zce
 refine Ok.bind (Ok.count n (fun j z => z.1 = (j : Int) ∧ OfSet S j z.2) (Q := fun z : Int × List Int => OfSet S n z.2) ?_ ?_ ⟨rfl, .nil, fun x => by simp, Nat.le_refl _⟩ hk) fun r hr => Ok.pure hr
 ·rintro j ⟨i, l⟩ hj ⟨hi, h⟩
  obtain rfl : i = (j : Int) := hi
  have c1 : decide ((j : Int) < (n : Int)) = true := by simp; omega
  have hlen : l.length + 1 ≤ 1000000 := by
   have h1 : l.length ≤ j := h.len
   omega
  simp only [zed, c1, cond_true, in_eq k (show j < 64 by omega) hS, Option.bind_some, succ_eq hj (by omega : n < 9223372036854775808)]
  cases hb : S.testBit j with
  | true =>
   rw [cond_true, lim_ok hlen, cond_true]
   refine Ok.pure ⟨rfl, climb_snoc h.climbs fun x hx => ?_, fun x => ?_, ?_⟩
   ·obtain ⟨i, rfl, hi, _⟩ := (h.mem x).1 hx
    omega
   ·rw [List.mem_append, List.mem_singleton, h.mem x]
    constructor
    ·rintro (⟨i, h1, h2, h3⟩ | rfl)
     ·exact ⟨i, h1, by omega, h3⟩
     ·exact ⟨j, rfl, by omega, hb⟩
    ·rintro ⟨i, rfl, h2, h3⟩
     by_cases e : i = j
     ·subst e; exact .inr rfl
     ·exact .inl ⟨i, rfl, by omega, h3⟩
   ·have h1 : l.length ≤ j := h.len
    simp; omega
  | false =>
   rw [cond_false]
   refine Ok.pure ⟨rfl, h.climbs, fun x => ?_, by have h1 : l.length ≤ j := h.len; show l.length ≤ _; omega⟩
   rw [h.mem x]
   constructor
   ·rintro ⟨i, h1, h2, h3⟩; exact ⟨i, h1, by omega, h3⟩
   ·rintro ⟨i, rfl, h2, h3⟩
    refine ⟨i, rfl, ?_, h3⟩
    have : i ≠ j := fun e => by rw [e, hb] at h3; cases h3
    omega
 ·rintro ⟨i, l⟩ ⟨hi, h⟩
  obtain rfl : i = (n : Int) := hi
  have c1 : decide ((n : Int) < (n : Int)) = false := by simp
  simp only [zed, c1, cond_false]
  exact Ok.pure h
theorem OfSet.eq {S n : Nat} {l l' : List Int} (h : OfSet S n l) (h' : OfSet S n l') : l = l' := climb_eq h.climbs h'.climbs fun x => (h.mem x).trans (h'.mem x).symm
structure Caps (b : za) : Prop where
 moves : b.Moves.2 = .nil → b.Moves.1 = []
 deliveries : b.Deliveries.2 = .nil → b.Deliveries.1 = []
 counts : b.Counts.2 = .nil → b.Counts.1 = []
def setDel (b : za) (i : Nat) (D : zn) (c : Cap) : za := ⟨b.Days, b.Shelves, b.Moves, (b.Deliveries.1.set i D, c), b.Counts⟩
def setMove (b : za) (i : Nat) (m : zy) (c : Cap) : za := ⟨b.Days, b.Shelves, (b.Moves.1.set i m, c), b.Deliveries, b.Counts⟩
theorem setDel_fine {b : za} (hf : Fine b) {i : Nat} {D : zn} {c : Cap} (hD : DeliveryFine b D) : Fine (setDel b i D c) := by
 refine ⟨hf.days, hf.nshelves, hf.nmoves, ?_, hf.ncounts, hf.shelves, hf.moves, fun d hd => ?_, hf.counts⟩
 ·show (b.Deliveries.1.set i D).length ≤ 3
  rw [List.length_set]; exact hf.ndeliveries
 ·rcases List.mem_or_eq_of_mem_set hd with h | rfl
  ·exact hf.deliveries d h
  ·exact hD
theorem setMove_fine {b : za} (hf : Fine b) {i : Nat} {m : zy} {c : Cap} (hm : MoveFine b m) : Fine (setMove b i m c) := by
 refine ⟨hf.days, hf.nshelves, ?_, hf.ndeliveries, hf.ncounts, hf.shelves, fun d hd => ?_, hf.deliveries, hf.counts⟩
 ·show (b.Moves.1.set i m).length ≤ 10
  rw [List.length_set]; exact hf.nmoves
 ·rcases List.mem_or_eq_of_mem_set hd with h | rfl
  ·exact hf.moves d h
  ·exact hm
theorem evs_setDel {b : za} {s l : Int} {i : Nat} {D D' : zn} {c : Cap} (hD : b.Deliveries.1[i]? = some D) (h1 : D'.Shelf = D.Shelf) (h2 : D'.By = D.By) (w : List Int) (N : Nat) : evsL ⟨setDel b i D' c, s, l⟩ w N = evsL ⟨b, s, l⟩ w N := by
 unfold evsL
 congr 1
 funext d
 unfold evDay
 have e1 : cat (evDg (⟨setDel b i D' c, s, l⟩ : zd) w d) (setDel b i D' c).Deliveries.1 = cat (evDg (⟨b, s, l⟩ : zd) w d) b.Deliveries.1 := by
  refine cat_ext (by show (b.Deliveries.1.set i D').length = _; rw [List.length_set]) fun j a a' ha ha' => ?_
  have ha2 : (b.Deliveries.1.set i D')[j]? = some a := ha
  rw [List.getElem?_set] at ha2
  by_cases e : i = j
  ·subst e
   rw [if_pos rfl, if_pos (List.getElem?_eq_some_iff.1 hD).1] at ha2
   cases ha2
   rw [hD] at ha'; cases ha'
   unfold evDg
   rw [h1, h2]
   rfl
  ·rw [if_neg e] at ha2
   rw [ha2] at ha'; cases ha'
   rfl
 rw [e1]
 rfl
theorem wayTo_set {b : za} {s l : Int} {i : Nat} {D : zn} {d : Int} {c : Cap} (hD : b.Deliveries.1[i]? = some D) (hs : D.Shelf = s) (h1 : D.Days.Low ≤ d) (h2 : d ≤ D.Days.High) (w : List Int) :
  Way ⟨setDel b i ⟨D.Shelf, ⟨d, d⟩, D.By⟩ c, s, l⟩ w ↔ Way ⟨b, s, l⟩ w ∧ w[i]? = some d := by
 have hi := (List.getElem?_eq_some_iff.1 hD).1
 have hget : ∀ j, (setDel b i ⟨D.Shelf, ⟨d, d⟩, D.By⟩ c).Deliveries.1[j]? = if i = j then some (⟨D.Shelf, ⟨d, d⟩, D.By⟩ : zn) else b.Deliveries.1[j]? := by
  intro j
  show (b.Deliveries.1.set i _)[j]? = _
  rw [List.getElem?_set]
  by_cases e : i = j
  ·rw [if_pos e, if_pos e, if_pos hi]
  ·rw [if_neg e, if_neg e]
 have hlen : (setDel b i ⟨D.Shelf, ⟨d, d⟩, D.By⟩ c).Deliveries.1.length = b.Deliveries.1.length := List.length_set
 unfold Way WayTo
 simp only [hlen]
 constructor
 ·rintro ⟨h3, h4⟩
  have h5 := h4 i ⟨D.Shelf, ⟨d, d⟩, D.By⟩ hi (by rw [hget, if_pos rfl])
  simp only [hs, if_true] at h5
  obtain ⟨e, h6, h7, h8⟩ := h5
  obtain rfl : e = d := by omega
  refine ⟨⟨h3, fun j E hj hE => ?_⟩, h6⟩
  by_cases e2 : i = j
  ·subst e2
   rw [hD] at hE; cases hE
   exact ⟨e, h6, h1, by rw [if_pos hs]; exact h2⟩
  ·exact h4 j E hj (by rw [hget, if_neg e2]; exact hE)
 ·rintro ⟨⟨h3, h4⟩, h5⟩
  refine ⟨h3, fun j E hj hE => ?_⟩
  rw [hget] at hE
  by_cases e2 : i = j
  ·subst e2
   rw [if_pos rfl] at hE; cases hE
   exact ⟨d, h5, Int.le_refl _, by simp only [hs, if_true]; exact Int.le_refl _⟩
  ·rw [if_neg e2] at hE
   exact h4 j E hj hE
theorem can_setDel {b : za} (hf : Fine b) {s : Int} {i : Nat} {D : zn} {d : Int} {c : Cap} (hD : b.Deliveries.1[i]? = some D) (hs : D.Shelf = s) (h1 : D.Days.Low ≤ d) (h2 : d ≤ D.Days.High) :
  CanBe ⟨setDel b i ⟨D.Shelf, ⟨d, d⟩, D.By⟩ c, s, 0⟩ ↔ ∃ w V, Way ⟨b, s, 0⟩ w ∧ RPath ⟨b, s, 0⟩ w V ∧ w[i]? = some d := by
 have hDf := hf.deliveries _ (List.mem_of_getElem? hD)
 obtain ⟨hd1, ⟨hd2, hd3, hd4⟩, hd5⟩ := hDf
 have hx : On (⟨setDel b i ⟨D.Shelf, ⟨d, d⟩, D.By⟩ c, s, 0⟩ : zd) := by
  refine ⟨setDel_fine hf ⟨hd1, ⟨?_, Int.le_refl _, ?_⟩, hd5⟩, ?_, ?_, Int.le_refl _, ?_⟩
  ·show 0 ≤ d; omega
  ·show d ≤ b.Days - 1; omega
  ·show 0 ≤ s; omega
  ·show s < (b.Shelves.1.length : Int); omega
  ·show (0 : Int) < _; omega
 rw [can_rcan hx]
 unfold RCan RPath
 have hev : ∀ w, evsL (⟨setDel b i ⟨D.Shelf, ⟨d, d⟩, D.By⟩ c, s, 0⟩ : zd) w (Nd ⟨setDel b i ⟨D.Shelf, ⟨d, d⟩, D.By⟩ c, s, 0⟩) = evsL ⟨b, s, 0⟩ w (Nd ⟨b, s, 0⟩) := fun w => evs_setDel (D' := ⟨D.Shelf, ⟨d, d⟩, D.By⟩) hD rfl rfl w _
 constructor
 ·rintro ⟨w, V, h3, h4⟩
  rw [hev] at h4
  obtain ⟨h5, h6⟩ := (wayTo_set hD hs h1 h2 w).1 h3
  exact ⟨w, V, h5, h4, h6⟩
 ·rintro ⟨w, V, h3, h4, h5⟩
  refine ⟨w, V, (wayTo_set hD hs h1 h2 w).2 ⟨h3, h5⟩, ?_⟩
  rw [hev]
  exact h4
end Go.AM
set_option linter.unusedVariables false
namespace Go.AM
open Go
def NumIn (i : Int) (n : Nat) : Prop := 0 ≤ i ∧ i ≤ (n : Int) - 1
def DueOn (b : za) (i : Nat) (d : Int) : Prop := ∃ D w V, b.Deliveries.1[i]? = some D ∧ Way ⟨b, D.Shelf, 0⟩ w ∧ RPath ⟨b, D.Shelf, 0⟩ w V ∧ w[i]? = some d
theorem del_on {b : za} (hf : Fine b) {D : zn} (hD : D ∈ b.Deliveries.1) : On (⟨b, D.Shelf, 0⟩ : zd) := by
 obtain ⟨⟨h1, h2⟩, _⟩ := hf.deliveries _ hD
 exact ⟨hf, h1, by show D.Shelf < (b.Shelves.1.length : Int); omega, Int.le_refl _, by show (0 : Int) < _; omega⟩
theorem move_on {b : za} (hf : Fine b) {m : zy} (hm : m ∈ b.Moves.1) : On (⟨b, m.Shelf, 0⟩ : zd) := by
 obtain ⟨_, ⟨h1, h2⟩, _⟩ := hf.moves _ hm
 exact ⟨hf, h1, by show m.Shelf < (b.Shelves.1.length : Int); omega, Int.le_refl _, by show (0 : Int) < _; omega⟩
section
variable {b : za} {k : Nat}
theorem asked_ok2 (hs : Small b) (hd : b.Days ≤ 9223372036854775807) (hk : Fuel k b) {right : Bool} {q : Prop} (hr : right = true ↔ q) : Ok (zpc k b right) (AskE b q (BookTrue b 0)) :=
 (asked_ok hs hd hk right).mono fun e he => asked_e (fun _ => hr) he
theorem rasked_ok2 (hs : Small b) (hd : b.Days ≤ 9223372036854775807) (hk : Fuel k b) {right : Bool} {q : Prop} (hr : right = true ↔ q) : Ok (zNb k b right) (AskE b q (BookTrue b 0)) := by
 refine (rasked_ok hs hd hk right).mono fun e he => asked_e (fun _ => hr) ?_
 unfold Asked at *
 rcases he with h | h | ⟨h3, h4, h5, h6⟩ | ⟨h3, h4, h5, h6⟩
 ·exact .inl h
 ·exact .inr (.inl h)
 ·exact .inr (.inr (.inl ⟨h3, h4, fun h => h5 ((booktrue_r h3 (by omega) (by omega)).1 h), h6⟩))
 ·exact .inr (.inr (.inr ⟨h3, h4, (booktrue_r h3 (by omega) (by omega)).2 h5, h6⟩))
theorem num_iff (i : Int) (n : Nat) : (decide (0 ≤ i) && decide (i ≤ (n : Int) - 1)) = true ↔ NumIn i n := by
 simp only [Bool.and_eq_true, decide_eq_true_eq, NumIn]
def DueOut (b : za) (i : Int) (r : SL Int × Int) : Prop := AskE b (NumIn i b.Deliveries.1.length) (BookTrue b 0) r.2 ∧ (r.2 ≠ 0 → r.1.1 = []) ∧ (r.2 = 0 → r.1.1.Pairwise (· < ·) ∧ ∀ d, d ∈ r.1.1 ↔ DueOn b i.toNat d) ∧ r.1.1.length ≤ 100
theorem due_ok (hs : Small b) (hc : Caps b) (hd : b.Days ≤ 9223372036854775807) (hk : Fuel k b) (i : Int) : Ok (zOg k b i) (DueOut b i) := by
 unfold zOg
 rw [within_eq, Option.bind_some, pred_eq hs.deliveries]
 refine Ok.bind (asked_ok2 hs hd hk (num_iff i _)) fun e hE => ?_
 cases hc0 : e != 0 with
 | true =>
  rw [cond_true]
  have hne : e ≠ 0 := by simpa using hc0
  exact Ok.pure ⟨hE, fun _ => rfl, fun h => absurd h hne, Nat.zero_le _⟩
 | false =>
  rw [cond_false]
  obtain rfl : e = 0 := by simpa using hc0
  obtain ⟨hf, hq, hT⟩ := hE.ok rfl
  obtain ⟨hq1, hq2⟩ := hq
  have hi : i.toNat < b.Deliveries.1.length := by omega
  have hget := List.getElem?_eq_getElem hi
  have hm := List.getElem_mem hi
  rw [idx_eq hq1 hi, Option.bind_some]
  have hne : b.Deliveries.2 ≠ .nil := fun h => by rw [hc.deliveries h] at hi; simp at hi
  have hnd := hf.ndeliveries
  have hdays := hf.days
  have hi2 := idx_eq hq1 hi
  generalize b.Deliveries.1[i.toNat] = D at *
  obtain ⟨hd1, ⟨hd2, hd3, hd4⟩, hd5⟩ := hf.deliveries _ hm
  refine Ok.bind (Ok.count (D.Days.High + 1 - D.Days.Low).toNat (fun j z => z.1 = D.Days.Low + j ∧ z.2.Pairwise (· < ·) ∧ z.2.length ≤ j ∧ ∀ d, d ∈ z.2 ↔ d < D.Days.Low + j ∧ DueOn b i.toNat d) (Q := fun z : Int × List Int => z.2.Pairwise (· < ·) ∧ z.2.length ≤ 100 ∧ ∀ d, d ∈ z.2 ↔ DueOn b i.toNat d) ?_ ?_ ⟨by simp, .nil, Nat.le_refl _, fun d => ?_⟩ (by have := hk.k0; omega)) fun r hr => Ok.pure ⟨hE, fun h => absurd rfl h, fun _ => ⟨hr.1, hr.2.2⟩, hr.2.1⟩
  ·rintro j ⟨d, l⟩ hj ⟨hd, h1, h2, h3⟩
   obtain rfl : d = D.Days.Low + j := hd
   have c1 : decide (D.Days.Low + (j : Int) ≤ D.Days.High) = true := by simp; omega
   have c2 : decide (b.Deliveries.2 = .nil) = false := by simp [hne]
   have c3 : decide (b.Deliveries.1.length ≤ LIM) = true := lim_ok (by omega)
   have c4 : w64 (D.Days.Low + (j : Int) + 1) = D.Days.Low + ((j + 1 : Nat) : Int) := by rw [w64_id (by omega) (by omega)]; push_cast; omega
   have hx : On (⟨setDel b i.toNat ⟨D.Shelf, ⟨D.Days.Low + (j : Int), D.Days.Low + (j : Int)⟩, D.By⟩ (rcap false (b.Deliveries.1.set i.toNat ⟨D.Shelf, ⟨D.Days.Low + (j : Int), D.Days.Low + (j : Int)⟩, D.By⟩)), D.Shelf, 0⟩ : zd) := by
    refine ⟨setDel_fine hf ⟨hd1, ⟨?_, Int.le_refl _, ?_⟩, hd5⟩, hd1.1, ?_, Int.le_refl _, ?_⟩
    ·show 0 ≤ D.Days.Low + (j : Int); omega
    ·show D.Days.Low + (j : Int) ≤ b.Days - 1; omega
    ·show D.Shelf < (b.Shelves.1.length : Int); omega
    ·show (0 : Int) < _; omega
   simp only [zXf, c1, c2, c3, cond_true, cond_false, hi2, Option.bind_some, c4]
   refine Ok.bind (can_ok hx hk.k0) fun v hv => ?_
   have hv2 : v = true ↔ DueOn b i.toNat (D.Days.Low + j) := by
    rw [hv]
    refine (can_setDel hf hget rfl (by omega) (by omega)).trans ?_
    constructor
    ·rintro ⟨w, V, h4, h5, h6⟩; exact ⟨D, w, V, hget, h4, h5, h6⟩
    ·rintro ⟨D', w, V, h4, h5, h6, h7⟩
     rw [hget] at h4; cases h4
     exact ⟨w, V, h5, h6, h7⟩
   have hlen : l.length + 1 ≤ 1000000 := by have : l.length ≤ j := h2; omega
   cases v with
   | true =>
    rw [cond_true, lim_ok hlen, cond_true]
    refine Ok.pure ⟨rfl, climb_snoc h1 fun x hx => ((h3 x).1 hx).1, by have : l.length ≤ j := h2; simp; omega, fun d => ?_⟩
    rw [List.mem_append, List.mem_singleton, h3 d]
    constructor
    ·rintro (⟨h4, h5⟩ | rfl)
     ·exact ⟨by push_cast; omega, h5⟩
     ·exact ⟨by push_cast; omega, hv2.1 rfl⟩
    ·rintro ⟨h4, h5⟩
     by_cases e : d = D.Days.Low + j
     ·exact .inr e
     ·exact .inl ⟨by push_cast at h4; omega, h5⟩
   | false =>
    rw [cond_false]
    refine Ok.pure ⟨rfl, h1, by have : l.length ≤ j := h2; show l.length ≤ _; omega, fun d => ?_⟩
    rw [h3 d]
    constructor
    ·rintro ⟨h4, h5⟩; exact ⟨by push_cast; omega, h5⟩
    ·rintro ⟨h4, h5⟩
     refine ⟨?_, h5⟩
     have : d ≠ D.Days.Low + j := fun e => by rw [e] at h5; have := hv2.2 h5; cases this
     push_cast at h4; omega
  ·rintro ⟨d, l⟩ ⟨hd, h1, h2, h3⟩
   have hd' : d = D.Days.Low + ((D.Days.High + 1 - D.Days.Low).toNat : Int) := hd
   have c1 : decide (d ≤ D.Days.High) = false := by simp only [decide_eq_false_iff_not]; omega
   simp only [zXf, c1, cond_false]
   refine Ok.pure ⟨h1, by have : l.length ≤ _ := h2; show l.length ≤ _; omega, fun d => ?_⟩
   rw [h3 d]
   constructor
   ·exact fun h => h.2
   ·rintro h
    refine ⟨?_, h⟩
    obtain ⟨D', w, V, h4, h5, h6, h7⟩ := h
    rw [hget] at h4; cases h4
    obtain ⟨c, h8, h9, h10⟩ := way_at h5 hget
    rw [h7] at h8; cases h8
    rw [if_pos rfl] at h10
    omega
  ·constructor
   ·intro h; cases h
   ·rintro ⟨h4, D', w, V, h5, h6, h7, h8⟩
    rw [hget] at h5; cases h5
    obtain ⟨c, h9, h10, h11⟩ := way_at h6 hget
    rw [h8] at h9; cases h9
    simp at h4
    omega
theorem rdue_L1 (hf : Fine b) (hk : 5000 < k) {i : Nat} {D : zn} (hD : b.Deliveries.1[i]? = some D) (v3 : Int) {l : SL zu} (hl : Truths ⟨b, D.Shelf, 0⟩ l.1) :
  Ok (iter (fun s => z7b k b (i : Int) v3 l s.1 s.2) k (0, 0)) (fun r => ∃ S : Nat, r.1 = (S : Int) ∧ S < 2 ^ 12 ∧ ∀ d, S.testBit d = true ↔ ∃ t ∈ l.1, t.days.1[i]? = some (d : Int)) := by
 have hn := hl.len
 have hdays := hf.days
 obtain ⟨hd1, ⟨hd2, hd3, hd4⟩, hd5⟩ := hf.deliveries _ (List.mem_of_getElem? hD)
 refine Ok.count l.1.length (fun j z => z.2 = (j : Int) ∧ ∃ S : Nat, z.1 = (S : Int) ∧ S < 2 ^ 12 ∧ ∀ d, S.testBit d = true ↔ ∃ j' t, j' < j ∧ l.1[j']? = some t ∧ t.days.1[i]? = some (d : Int)) ?_ ?_ ⟨rfl, 0, rfl, by decide, fun d => by simp⟩ (by omega)
 ·rintro j ⟨n, i'⟩ hj ⟨hi', S, hS, hlt, hbits⟩
  obtain rfl : i' = (j : Int) := hi'
  obtain rfl : n = (S : Int) := hS
  have ht := hl.all _ (List.getElem_mem hj)
  have hget := List.getElem?_eq_getElem hj
  have hw := ht.way
  simp only [z7b, lt_cond hj, cond_true, idx_nat hj, Option.bind_some, succ_eq hj (by omega : l.1.length < 9223372036854775808)]
  generalize l.1[j] = t at *
  obtain ⟨c, h1, h2, h3⟩ := way_at hw (x := ⟨b, D.Shelf, 0⟩) hD
  rw [if_pos rfl] at h3
  have hci : i < t.days.1.length := (List.getElem?_eq_some_iff.1 h1).1
  have hidx : idx t.days.1 (i : Int) = some c := by
   rw [idx_nat hci, ← h1, List.getElem?_eq_getElem hci]
  have c1 : decide (c < 0) = false := by simp only [decide_eq_false_iff_not]; omega
  rw [hidx, Option.bind_some, c1, cond_false]
  have hcn : c = ((c.toNat : Nat) : Int) := by omega
  have hsh : shl64 1 c = ((2 ^ c.toNat : Nat) : Int) := by
   rw [hcn, shl64_one (by omega)]
   push_cast
   rfl
  have h2c : 2 ^ c.toNat < 2 ^ 12 := Nat.pow_lt_pow_right (by omega) (by omega)
  rw [hsh, or_eq (by omega) (by omega)]
  refine Ok.pure ⟨rfl, S ||| 2 ^ c.toNat, rfl, Nat.or_lt_two_pow hlt h2c, fun d => ?_⟩
  rw [Nat.testBit_or, Bool.or_eq_true, hbits d, Nat.testBit_two_pow, decide_eq_true_eq]
  constructor
  ·rintro (⟨j', t', h4, h5, h6⟩ | h4)
   ·exact ⟨j', t', by omega, h5, h6⟩
   ·exact ⟨j, t, by omega, hget, by rw [h1, hcn, h4]⟩
  ·rintro ⟨j', t', h4, h5, h6⟩
   by_cases e : j' = j
   ·subst e
    rw [hget] at h5; cases h5
    rw [h1] at h6
    have := Option.some.inj h6
    right; omega
   ·exact .inl ⟨j', t', by omega, h5, h6⟩
 ·rintro ⟨n, i'⟩ ⟨hi', S, hS, hlt, hbits⟩
  obtain rfl : i' = (l.1.length : Int) := hi'
  have c1 : decide ((l.1.length : Int) < (l.1.length : Int)) = false := by simp
  simp only [z7b, c1, cond_false]
  refine Ok.pure ⟨S, hS, hlt, fun d => ?_⟩
  rw [hbits d]
  constructor
  ·rintro ⟨j', t, h1, h2, h3⟩; exact ⟨t, List.mem_of_getElem? h2, h3⟩
  ·rintro ⟨t, h1, h2⟩
   obtain ⟨j', hj'⟩ := List.getElem?_of_mem h1
   exact ⟨j', t, (List.getElem?_eq_some_iff.1 hj').1, hj', h2⟩
theorem rdue_ok (hs : Small b) (hd : b.Days ≤ 9223372036854775807) (hk : Fuel k b) (i : Int) : Ok (zJd k b i) (DueOut b i) := by
 unfold zJd
 rw [tween_eq, Option.bind_some, pred_eq hs.deliveries]
 refine Ok.bind (rasked_ok2 hs hd hk (num_iff i _)) fun e hE => ?_
 cases hc0 : e != 0 with
 | true =>
  rw [cond_true]
  have hne : e ≠ 0 := by simpa using hc0
  exact Ok.pure ⟨hE, fun _ => rfl, fun h => absurd h hne, Nat.zero_le _⟩
 | false =>
  rw [cond_false]
  obtain rfl : e = 0 := by simpa using hc0
  obtain ⟨hf, hq, hT⟩ := hE.ok rfl
  obtain ⟨hq1, hq2⟩ := hq
  have hi : i.toNat < b.Deliveries.1.length := by omega
  have hget := List.getElem?_eq_getElem hi
  have hm := List.getElem_mem hi
  have hdays := hf.days
  rw [idx_eq hq1 hi, Option.bind_some]
  generalize b.Deliveries.1[i.toNat] = D at *
  have hx := del_on hf hm
  have hin : i = ((i.toNat : Nat) : Int) := by omega
  refine Ok.bind (truths_ok hx hk.k0) fun l hl => ?_
  have hL := rdue_L1 hf hk.k0 hget 0 hl
  rw [← hin] at hL
  refine Ok.bind hL fun r hr => ?_
  obtain ⟨S, hS, hlt, hbits⟩ := hr
  have hdn : b.Days = ((b.Days.toNat : Nat) : Int) := by omega
  rw [hS, hdn]
  refine Ok.bind (of_ok (by have := hk.k0; omega) (by omega) (by omega)) fun o ho => Ok.pure ⟨hE, fun h => absurd rfl h, fun _ => ⟨ho.climbs, fun d => ?_⟩, ?_⟩
  ·have hdue : ∀ d : Int, DueOn b i.toNat d ↔ ∃ t ∈ l.1, t.days.1[i.toNat]? = some d := by
    intro d
    constructor
    ·rintro ⟨D', w, V, h4, h5, h6, h7⟩
     rw [hget] at h4; cases h4
     obtain ⟨t, ht, rfl⟩ := hl.has w h5 ⟨V, h6⟩
     exact ⟨t, ht, h7⟩
    ·rintro ⟨t, ht, h7⟩
     have hT := hl.all t ht
     obtain ⟨V, hV⟩ := hT.path
     exact ⟨D, _, V, hget, hT.way, hV, h7⟩
   show d ∈ o.1 ↔ _
   rw [ho.mem d, hdue]
   constructor
   ·rintro ⟨n, rfl, h1, h2⟩; exact (hbits n).1 h2
   ·rintro ⟨t, ht, h7⟩
    have hT := hl.all t ht
    obtain ⟨c, h8, h9, h10⟩ := way_at hT.way (x := ⟨b, D.Shelf, 0⟩) hget
    rw [h7] at h8; cases h8
    rw [if_pos rfl] at h10
    obtain ⟨hd1, ⟨hd2, hd3, hd4⟩, hd5⟩ := hf.deliveries _ hm
    have hdd : d = ((d.toNat : Nat) : Int) := by omega
    exact ⟨d.toNat, hdd, by omega, (hbits _).2 ⟨t, ht, by rw [← hdd]; exact h7⟩⟩
  ·have := ho.len
   show o.1.length ≤ 100
   omega
theorem due_eq {i : Int} {r r' : SL Int × Int} (h : DueOut b i r) (h' : DueOut b i r') : r.1.1 = r'.1.1 ∧ r.2 = r'.2 := by
 have e := h.1.eq h'.1
 refine ⟨?_, e⟩
 by_cases h0 : r.2 = 0
 ·obtain ⟨h1, h2⟩ := h.2.2.1 h0
  obtain ⟨h3, h4⟩ := h'.2.2.1 (e ▸ h0)
  exact climb_eq h1 h3 fun x => (h2 x).trans (h4 x).symm
 ·rw [h.2.1 h0, h'.2.1 (e ▸ h0)]
end
end Go.AM
set_option linter.unusedVariables false
namespace Go.AM
open Go
def mvEv (x : zd) (M : zy) (m : Nat) : Ev := ⟨if M.Back = true then M.By else ⟨-M.By.High, -M.By.Low⟩, ⟨0, (shelfOf x).Room⟩, (m : Int), -1⟩
def mvPos (x : zd) (w : List Int) (M : zy) (m : Nat) : Nat := (evsL x w M.Day.toNat).length + (cat (evDg x w (M.Day.toNat : Nat)) x.ShelfBook.Deliveries.1).length + (cat (evMg x (M.Day.toNat : Nat)) (x.ShelfBook.Moves.1.take m)).length
theorem evDg_move {x : zd} {w : List Int} {d : Int} {e : Ev} (h : e ∈ cat (evDg x w d) x.ShelfBook.Deliveries.1) : e.move = -1 := by
 obtain ⟨i, D, _, he⟩ := mem_cat.1 h
 unfold evDg at he
 split at he
 ·rw [List.mem_singleton.1 he]
 ·cases he
theorem evs_move {x : zd} {w : List Int} {m : Nat} : ∀ (N i : Nat) (e : Ev), (evsL x w N)[i]? = some e → e.move = (m : Int) → ∃ M, x.ShelfBook.Moves.1[m]? = some M ∧ M.Shelf = x.shelf ∧ i = mvPos x w M m ∧ e = mvEv x M m
 | 0, i, e, h, _ => by simp [evsL] at h
 | N + 1, i, e, h, hm => by
  rw [evsL_succ] at h
  by_cases hi : i < (evsL x w N).length
  ·rw [List.getElem?_append_left hi] at h
   exact evs_move N i e h hm
  ·rw [List.getElem?_append_right (by omega)] at h
   unfold evDay at h
   by_cases h2 : i - (evsL x w N).length < (cat (evDg x w N) x.ShelfBook.Deliveries.1 ++ cat (evMg x N) x.ShelfBook.Moves.1).length
   ·rw [List.getElem?_append_left h2] at h
    by_cases h3 : i - (evsL x w N).length < (cat (evDg x w N) x.ShelfBook.Deliveries.1).length
    ·rw [List.getElem?_append_left h3] at h
     have := evDg_move (List.mem_of_getElem? h)
     omega
    ·rw [List.getElem?_append_right (by omega)] at h
     obtain ⟨j, M, hM, hle, hg⟩ := cat_at _ _ _ _ _ rfl h
     unfold evMg at hg
     split at hg
     ·rename_i hc
      obtain ⟨h4, h5⟩ := List.getElem?_eq_some_iff.1 hg
      rw [List.length_singleton] at h4
      have h6 : i - (evsL x w N).length - (cat (evDg x w N) x.ShelfBook.Deliveries.1).length - (cat (evMg x N) (x.ShelfBook.Moves.1.take j)).length = 0 := by
       unfold evMg
       omega
      have h7 : e = ⟨if M.Back = true then M.By else ⟨-M.By.High, -M.By.Low⟩, ⟨0, (shelfOf x).Room⟩, (j : Int), -1⟩ := by
       rw [← h5]
       have : ∀ (l : Ev) (t : Nat) (h : t < [l].length), [l][t] = l := fun l t h => by
        have : t = 0 := by simp at h; omega
        subst this; rfl
       exact this _ _ _
      have h8 : j = m := by rw [h7] at hm; have h9 : (j : Int) = m := hm; omega
      subst h8
      refine ⟨M, hM, hc.1, ?_, h7⟩
      have h9 : M.Day.toNat = N := by have := hc.2; omega
      unfold mvPos
      rw [h9]
      change (cat (evMg x N) (x.ShelfBook.Moves.1.take j)).length ≤ _ at hle
      omega
     ·simp at hg
   ·rw [List.getElem?_append_right (by omega)] at h
    have := List.mem_of_getElem? h
    rw [List.mem_singleton.1 this] at hm
    have h9 : (-1 : Int) = m := hm
    omega
theorem evs_move_at {x : zd} (w : List Int) {m N : Nat} {M : zy} (hM : x.ShelfBook.Moves.1[m]? = some M) (hs : M.Shelf = x.shelf) (h0 : 0 ≤ M.Day) (hN : M.Day.toNat < N) : (evsL x w N)[mvPos x w M m]? = some (mvEv x M m) := by
 obtain ⟨l, hl⟩ := evsL_pre x w (M.Day.toNat + 1) (N - (M.Day.toNat + 1))
 have e1 : M.Day.toNat + 1 + (N - (M.Day.toNat + 1)) = N := by omega
 rw [e1] at hl
 have hg : (evMg x (M.Day.toNat : Nat) M m)[0]? = some (mvEv x M m) := by
  unfold evMg mvEv
  rw [if_pos ⟨hs, by omega⟩]
  rfl
 have h1 := cat_get (evMg x (M.Day.toNat : Nat)) hM hg
 have h1' := (List.getElem?_eq_some_iff.1 h1).1
 rw [hl, evsL_succ]
 unfold evDay
 have hlen : mvPos x w M m = (evsL x w M.Day.toNat).length + ((cat (evDg x w (M.Day.toNat : Nat)) x.ShelfBook.Deliveries.1).length + ((cat (evMg x (M.Day.toNat : Nat)) (x.ShelfBook.Moves.1.take m)).length + 0)) := by unfold mvPos; omega
 rw [hlen, List.append_assoc, List.append_assoc, List.append_assoc, List.getElem?_append_right (by omega), Nat.add_sub_cancel_left, List.getElem?_append_right (by omega), Nat.add_sub_cancel_left, List.getElem?_append_left h1']
 exact h1
def Was (x : zd) (w : List Int) (V : Nat → Int) (M : zy) (m : Nat) (n : Int) : Prop := V (mvPos x w M m + 1) - V (mvPos x w M m) = if M.Back = true then n else -n
def TakenBy (b : za) (m : Nat) (n : Int) : Prop := ∃ M w V, b.Moves.1[m]? = some M ∧ Way ⟨b, M.Shelf, 0⟩ w ∧ RPath ⟨b, M.Shelf, 0⟩ w V ∧ Was ⟨b, M.Shelf, 0⟩ w V M m n
def mvMap (M : zy) (m : Nat) (n : Int) (e : Ev) : Ev := if e.move = (m : Int) then ⟨if M.Back = true then ⟨n, n⟩ else ⟨-n, -n⟩, e.within, e.move, e.day⟩ else e
theorem evs_setMove {b : za} {s l : Int} {m : Nat} {M : zy} {n : Int} {c : Cap} (hM : b.Moves.1[m]? = some M) (w : List Int) (N : Nat) : evsL ⟨setMove b m ⟨M.Day, M.Shelf, M.Back, ⟨n, n⟩⟩ c, s, l⟩ w N = (evsL ⟨b, s, l⟩ w N).map (mvMap M m n) := by
 unfold evsL
 rw [List.map_flatMap]
 congr 1
 funext d
 unfold evDay
 rw [List.map_append, List.map_append]
 have e1 : (cat (evDg (⟨b, s, l⟩ : zd) w d) b.Deliveries.1).map (mvMap M m n) = cat (evDg (⟨b, s, l⟩ : zd) w d) b.Deliveries.1 := by
  rw [cat_map]
  refine cat_congr fun i a _ => ?_
  unfold evDg
  split
  ·simp only [List.map_cons, List.map_nil, mvMap]
   rw [if_neg (by omega)]
  ·rfl
 have e2 : cat (evMg (⟨setMove b m ⟨M.Day, M.Shelf, M.Back, ⟨n, n⟩⟩ c, s, l⟩ : zd) d) (setMove b m ⟨M.Day, M.Shelf, M.Back, ⟨n, n⟩⟩ c).Moves.1 = (cat (evMg (⟨b, s, l⟩ : zd) d) b.Moves.1).map (mvMap M m n) := by
  rw [cat_map]
  refine cat_ext (by show (b.Moves.1.set m _).length = _; rw [List.length_set]) fun j a a' ha ha' => ?_
  have ha2 : (b.Moves.1.set m (⟨M.Day, M.Shelf, M.Back, ⟨n, n⟩⟩ : zy))[j]? = some a := ha
  rw [List.getElem?_set] at ha2
  by_cases e : m = j
  ·subst e
   rw [if_pos rfl, if_pos (List.getElem?_eq_some_iff.1 hM).1] at ha2
   cases ha2
   rw [hM] at ha'; cases ha'
   unfold evMg
   simp only
   split
   ·simp only [List.map_cons, List.map_nil, mvMap, if_true]
    rfl
   ·rfl
  ·rw [if_neg e] at ha2
   rw [ha2] at ha'; cases ha'
   unfold evMg
   simp only
   split
   ·simp only [List.map_cons, List.map_nil, mvMap]
    rw [if_neg (show ¬ (j : Int) = (m : Int) by omega)]
    rfl
   ·rfl
 have e3 : [evC (⟨setMove b m ⟨M.Day, M.Shelf, M.Back, ⟨n, n⟩⟩ c, s, l⟩ : zd) d] = [evC (⟨b, s, l⟩ : zd) d].map (mvMap M m n) := by
  simp only [List.map_cons, List.map_nil, mvMap]
  rw [if_neg (by show ¬ (-1 : Int) = m; omega)]
  rfl
 rw [e1, ← e2, ← e3]
 rfl
theorem steps_map {l : List Ev} {f : Ev → Ev} {V : Nat → Int} : Steps (l.map f) V ↔ ∀ i e, l[i]? = some e → StepE (f e) (V i) (V (i + 1)) := by
 unfold Steps
 constructor
 ·intro h i e he
  exact h i (f e) (by rw [List.getElem?_map, he]; rfl)
 ·intro h i e he
  rw [List.getElem?_map] at he
  cases h1 : l[i]? with
  | none => rw [h1] at he; cases he
  | some e' => rw [h1] at he; cases he; exact h i e' h1
theorem can_setMove {b : za} (hf : Fine b) {m : Nat} {M : zy} {n : Int} {c : Cap} (hM : b.Moves.1[m]? = some M) (h1 : M.By.Low ≤ n) (h2 : n ≤ M.By.High) :
  CanBe ⟨setMove b m ⟨M.Day, M.Shelf, M.Back, ⟨n, n⟩⟩ c, M.Shelf, 0⟩ ↔ TakenBy b m n := by
 have hMf := hf.moves _ (List.mem_of_getElem? hM)
 obtain ⟨hd1, hd2, hd3, hd4, hd5⟩ := hMf
 have hx : On (⟨setMove b m ⟨M.Day, M.Shelf, M.Back, ⟨n, n⟩⟩ c, M.Shelf, 0⟩ : zd) := by
  refine ⟨setMove_fine hf ⟨hd1, hd2, ?_, Int.le_refl _, ?_⟩, hd2.1, ?_, Int.le_refl _, ?_⟩
  ·show 0 ≤ n; omega
  ·show n ≤ 60; omega
  ·show M.Shelf < (b.Shelves.1.length : Int); omega
  ·show (0 : Int) < _; omega
 have hdays := hf.days
 rw [can_rcan hx]
 have hmem : ∀ w i e, (evsL (⟨b, M.Shelf, 0⟩ : zd) w (Nd ⟨b, M.Shelf, 0⟩))[i]? = some e → e.move = (m : Int) → i = mvPos ⟨b, M.Shelf, 0⟩ w M m ∧ e = mvEv ⟨b, M.Shelf, 0⟩ M m := by
  intro w i e he hm
  obtain ⟨M', h3, h4, h5, h6⟩ := evs_move _ i e he hm
  have h3' : b.Moves.1[m]? = some M' := h3
  rw [hM] at h3'; cases h3'
  exact ⟨h5, h6⟩
 have hat : ∀ w, (evsL (⟨b, M.Shelf, 0⟩ : zd) w (Nd ⟨b, M.Shelf, 0⟩))[mvPos ⟨b, M.Shelf, 0⟩ w M m]? = some (mvEv ⟨b, M.Shelf, 0⟩ M m) := fun w => evs_move_at w hM rfl hd1.1 (by unfold Nd; show _ < b.Days.toNat; omega)
 have hway : ∀ w, Way (⟨setMove b m ⟨M.Day, M.Shelf, M.Back, ⟨n, n⟩⟩ c, M.Shelf, 0⟩ : zd) w ↔ Way ⟨b, M.Shelf, 0⟩ w := fun w => Iff.rfl
 have hp : ∀ w V, RPath (⟨setMove b m ⟨M.Day, M.Shelf, M.Back, ⟨n, n⟩⟩ c, M.Shelf, 0⟩ : zd) w V ↔ RPath ⟨b, M.Shelf, 0⟩ w V ∧ Was ⟨b, M.Shelf, 0⟩ w V M m n := by
  intro w V
  unfold RPath PathOf
  have hev := evs_setMove (s := M.Shelf) (l := 0) (n := n) (c := c) hM w (Nd ⟨b, M.Shelf, 0⟩)
  rw [show evsL (⟨setMove b m ⟨M.Day, M.Shelf, M.Back, ⟨n, n⟩⟩ c, M.Shelf, 0⟩ : zd) w (Nd ⟨setMove b m ⟨M.Day, M.Shelf, M.Back, ⟨n, n⟩⟩ c, M.Shelf, 0⟩) = evsL (⟨setMove b m ⟨M.Day, M.Shelf, M.Back, ⟨n, n⟩⟩ c, M.Shelf, 0⟩ : zd) w (Nd ⟨b, M.Shelf, 0⟩) from rfl, hev, steps_map]
  rw [show (shelfOf (⟨setMove b m ⟨M.Day, M.Shelf, M.Back, ⟨n, n⟩⟩ c, M.Shelf, 0⟩ : zd)) = shelfOf (⟨b, M.Shelf, 0⟩ : zd) from rfl]
  constructor
  ·rintro ⟨h3, h4⟩
   refine ⟨⟨h3, fun i e he => ?_⟩, ?_⟩
   ·have h5 := h4 i e he
    unfold mvMap at h5
    split at h5
    ·rename_i hm
     obtain ⟨_, rfl⟩ := hmem w i e he hm
     refine ⟨?_, h5.2⟩
     have h6 := h5.1
     unfold mvEv InS at *
     simp only at h6 ⊢
     cases hb : M.Back with
     | true => rw [hb] at h6; simp only [if_true] at h6 ⊢; omega
     | false => rw [hb] at h6; simp only [Bool.false_eq_true, if_false] at h6 ⊢; omega
    ·exact h5
   ·have h5 := h4 _ _ (hat w)
    unfold mvMap at h5
    rw [if_pos (show (mvEv (⟨b, M.Shelf, 0⟩ : zd) M m).move = (m : Int) from rfl)] at h5
    have h6 := h5.1
    unfold Was InS at *
    simp only at h6
    cases hb : M.Back with
    | true => rw [hb] at h6; simp only [if_true] at h6 ⊢; omega
    | false => rw [hb] at h6; simp only [Bool.false_eq_true, if_false] at h6 ⊢; omega
  ·rintro ⟨⟨h3, h4⟩, h5⟩
   refine ⟨h3, fun i e he => ?_⟩
   have h6 := h4 i e he
   unfold mvMap
   split
   ·rename_i hm
    obtain ⟨rfl, rfl⟩ := hmem w i e he hm
    refine ⟨?_, h6.2⟩
    unfold Was at h5
    unfold InS
    simp only
    cases hb : M.Back with
    | true => rw [hb] at h5; simp only [if_true] at h5 ⊢; omega
    | false => rw [hb] at h5; simp only [Bool.false_eq_true, if_false] at h5 ⊢; omega
   ·exact h6
 constructor
 ·rintro ⟨w, V, h3, h4⟩
  obtain ⟨h5, h6⟩ := (hp w V).1 h4
  exact ⟨M, w, V, hM, (hway w).1 h3, h5, h6⟩
 ·rintro ⟨M', w, V, h3, h4, h5, h6⟩
  rw [hM] at h3; cases h3
  exact ⟨w, V, (hway w).2 h4, (hp w V).2 ⟨h5, h6⟩⟩
theorem taken_in {b : za} (hf : Fine b) {m : Nat} {M : zy} {n : Int} (hM : b.Moves.1[m]? = some M) (h : TakenBy b m n) : M.By.Low ≤ n ∧ n ≤ M.By.High := by
 obtain ⟨M', w, V, h1, h2, h3, h4⟩ := h
 rw [hM] at h1; cases h1
 obtain ⟨hd1, _⟩ := hf.moves _ (List.mem_of_getElem? hM)
 have hdays := hf.days
 have h5 := h3.2 _ _ (evs_move_at (x := ⟨b, M.Shelf, 0⟩) w hM rfl hd1.1 (by unfold Nd; show _ < b.Days.toNat; omega))
 have h6 := h5.1
 unfold Was at h4
 rw [h4] at h6
 unfold mvEv InS at h6
 simp only at h6
 cases hb : M.Back with
 | true => rw [hb] at h6; simp only [if_true] at h6; omega
 | false => rw [hb] at h6; simp only [Bool.false_eq_true, if_false] at h6; omega
theorem taken_ex {b : za} (hf : Fine b) {m : Nat} {M : zy} (hM : b.Moves.1[m]? = some M) (hT : BookTrue b 0) : ∃ n, TakenBy b m n := by
 have hx := move_on hf (List.mem_of_getElem? hM)
 have hc := book_can hT hx.lo (by have := hx.hi; show M.Shelf ≤ _; have h2 : M.Shelf < (b.Shelves.1.length : Int) := this; omega)
 obtain ⟨w, V, h1, h2⟩ := (can_rcan hx).1 hc
 cases hb : M.Back with
 | true => exact ⟨V (mvPos ⟨b, M.Shelf, 0⟩ w M m + 1) - V (mvPos ⟨b, M.Shelf, 0⟩ w M m), M, w, V, hM, h1, h2, by unfold Was; rw [hb]; simp⟩
 | false => exact ⟨-(V (mvPos ⟨b, M.Shelf, 0⟩ w M m + 1) - V (mvPos ⟨b, M.Shelf, 0⟩ w M m)), M, w, V, hM, h1, h2, by unfold Was; rw [hb]; simp⟩
section
variable {b : za} {k : Nat}
def TakenOut (b : za) (i : Int) (r : zi × Int) : Prop := AskE b (NumIn i b.Moves.1.length) (BookTrue b 0) r.2 ∧ (r.2 ≠ 0 → r.1 = ⟨0, 0⟩) ∧ (r.2 = 0 → Ends (TakenBy b i.toNat) r.1)
theorem taken_ok (hs : Small b) (hc : Caps b) (hd : b.Days ≤ 9223372036854775807) (hk : Fuel k b) (i : Int) : Ok (ztf k b i) (TakenOut b i) := by
 unfold ztf
 rw [within_eq, Option.bind_some, pred_eq hs.moves]
 refine Ok.bind (asked_ok2 hs hd hk (num_iff i _)) fun e hE => ?_
 cases hc0 : e != 0 with
 | true =>
  rw [cond_true]
  have hne : e ≠ 0 := by simpa using hc0
  exact Ok.pure ⟨hE, fun _ => rfl, fun h => absurd h hne⟩
 | false =>
  rw [cond_false]
  obtain rfl : e = 0 := by simpa using hc0
  obtain ⟨hf, hq, hT⟩ := hE.ok rfl
  obtain ⟨hq1, hq2⟩ := hq
  have hi : i.toNat < b.Moves.1.length := by omega
  have hget := List.getElem?_eq_getElem hi
  have hm := List.getElem_mem hi
  have hi2 := idx_eq hq1 hi
  have hne : b.Moves.2 ≠ .nil := fun h => by rw [hc.moves h] at hi; simp at hi
  have hnm := hf.nmoves
  rw [idx_eq hq1 hi, Option.bind_some]
  generalize b.Moves.1[i.toNat] = M at *
  obtain ⟨hd1, hd2, hd3, hd4, hd5⟩ := hf.moves _ hm
  refine Ok.bind (Ok.count (M.By.High + 1 - M.By.Low).toNat (fun j z => z.1 = M.By.Low + j ∧ ∀ n : Nat, z.2 n = true ↔ (n : Int) < M.By.Low + j ∧ TakenBy b i.toNat n) (Q := fun z : Int × (Nat → Bool) => ∀ n : Nat, z.2 n = true ↔ TakenBy b i.toNat n) ?_ ?_ ⟨by simp, fun n => ?_⟩ (by have := hk.k0; omega)) fun r hr => ?_
  ·rintro j ⟨n, g⟩ hj ⟨hn, hg⟩
   obtain rfl : n = M.By.Low + j := hn
   have c1 : decide (M.By.Low + (j : Int) ≤ M.By.High) = true := by simp; omega
   have c2 : decide (b.Moves.2 = .nil) = false := by simp [hne]
   have c3 : decide (b.Moves.1.length ≤ LIM) = true := lim_ok (by omega)
   have c4 : w64 (M.By.Low + (j : Int) + 1) = M.By.Low + ((j + 1 : Nat) : Int) := by rw [w64_id (by omega) (by omega)]; push_cast; omega
   have c5 : (decide (0 ≤ M.By.Low + (j : Int)) && decide (M.By.Low + (j : Int) < 61)) = true := by simp; omega
   have hx : On (⟨setMove b i.toNat ⟨M.Day, M.Shelf, M.Back, ⟨M.By.Low + (j : Int), M.By.Low + (j : Int)⟩⟩ (rcap false (b.Moves.1.set i.toNat ⟨M.Day, M.Shelf, M.Back, ⟨M.By.Low + (j : Int), M.By.Low + (j : Int)⟩⟩)), M.Shelf, 0⟩ : zd) := by
    refine ⟨setMove_fine hf ⟨hd1, hd2, ?_, Int.le_refl _, ?_⟩, hd2.1, ?_, Int.le_refl _, ?_⟩
    ·show 0 ≤ M.By.Low + (j : Int); omega
    ·show M.By.Low + (j : Int) ≤ 60; omega
    ·show M.Shelf < (b.Shelves.1.length : Int); omega
    ·show (0 : Int) < _; omega
   simp only [z5e, c1, c2, c3, c5, cond_true, cond_false, hi2, Option.bind_some, c4]
   refine Ok.bind (can_ok hx hk.k0) fun v hv => ?_
   have hv2 : v = true ↔ TakenBy b i.toNat (M.By.Low + j) := by
    rw [hv]
    exact can_setMove hf hget (by omega) (by omega)
   refine Ok.pure ⟨rfl, fun n => ?_⟩
   have hj0 : (((M.By.Low + (j : Int)).toNat : Nat) : Int) = M.By.Low + j := by omega
   rw [upd_iff', hg n]
   constructor
   ·rintro (⟨h1, h2⟩ | ⟨h1, h2, h3⟩)
    ·subst h1
     rw [hj0]
     exact ⟨by push_cast; omega, hv2.1 h2⟩
    ·exact ⟨by push_cast; omega, h3⟩
   ·rintro ⟨h1, h2⟩
    by_cases e : n = (M.By.Low + (j : Int)).toNat
    ·subst e
     rw [hj0] at h2
     exact .inl ⟨rfl, hv2.2 h2⟩
    ·exact .inr ⟨e, by push_cast at h1; omega, h2⟩
  ·rintro ⟨n, g⟩ ⟨hn, hg⟩
   have hn' : n = M.By.Low + ((M.By.High + 1 - M.By.Low).toNat : Int) := hn
   have c1 : decide (n ≤ M.By.High) = false := by simp only [decide_eq_false_iff_not]; omega
   simp only [z5e, c1, cond_false]
   refine Ok.pure fun n => ?_
   rw [hg n]
   constructor
   ·exact fun h => h.2
   ·intro h
    have := taken_in hf hget h
    exact ⟨by omega, h⟩
  ·constructor
   ·intro h; cases h
   ·rintro ⟨h4, h⟩
    have := taken_in hf hget h
    simp at h4
    omega
  ·refine Ok.bind (span_ok hk.k0 r.2) fun t ht => Ok.pure ⟨hE, fun h => absurd rfl h, fun _ => ?_⟩
   obtain ⟨h1, h2⟩ := ht
   rcases h2 with ⟨h3, h4, h5⟩ | ⟨a, c, h3, h4, h5, h6, h7, h8⟩
   ·obtain ⟨n, hn⟩ := taken_ex hf hget hT
    have hin := taken_in hf hget hn
    have hnn : n = ((n.toNat : Nat) : Int) := by omega
    rw [hnn] at hn
    have := h5 n.toNat (by omega)
    rw [(hr _).2 hn] at this
    cases this
   ·refine ⟨?_, ?_, fun n hn => ?_⟩
    ·show TakenBy b i.toNat t.Low
     rw [h7]; exact (hr a).1 h5
    ·show TakenBy b i.toNat t.High
     rw [h8]; exact (hr c).1 h6
    ·have hin := taken_in hf hget hn
     have hnn : n = ((n.toNat : Nat) : Int) := by omega
     rw [hnn] at hn ⊢
     exact h1 _ (by omega) ((hr _).2 hn)
end
end Go.AM
set_option linter.unusedVariables false
namespace Go.AM
open Go
def negIf (back : Bool) (s : zi) : zi := if back = true then s else ⟨-s.High, -s.Low⟩
def takeG (t : zu) (back : Bool) (m : Nat) (e : Ev) (i : Nat) : List zi :=
 if e.move = (m : Int) then
  match t.stocks.1[i]?, t.stocks.1[i + 1]? with
  | some was, some is => [negIf back (comm e.by_ ⟨is.Low - was.High, is.High - was.Low⟩)]
  | _, _ => []
 else []
theorem takeG_len (t : zu) (back : Bool) (m : Nat) (e : Ev) (i : Nat) : (takeG t back m e i).length ≤ 1 := by
 unfold takeG
 split
 ·split <;> simp
 ·simp
def takesL (l : List zu) (back : Bool) (m : Nat) : List zi := cat (fun t _ => cat (takeG t back m) t.events.1) l
theorem truth_in {x : zd} (hx : On x) {t : zu} (ht : TruthOf x t) {i : Nat} {u : zi} (hu : t.stocks.1[i]? = some u) : u.Low ≤ u.High ∧ 0 ≤ u.Low ∧ u.High ≤ 60 := by
 obtain ⟨v, hv⟩ := ht.path
 have hm := (ht.mem i u hu (v i)).2 ⟨v, hv, rfl⟩
 have hle : u.Low ≤ u.High := by unfold InS at hm; omega
 have hi : i ≤ (evsL x t.days.1 (Nd x)).length := by
  have h1 := (List.getElem?_eq_some_iff.1 hu).1
  rw [ht.len, ht.ev] at h1
  omega
 have hroom := hx.shelf.1.2
 obtain ⟨v1, h1, h2⟩ := (ht.mem i u hu u.Low).1 ⟨Int.le_refl _, hle⟩
 obtain ⟨v2, h3, h4⟩ := (ht.mem i u hu u.High).1 ⟨hle, Int.le_refl _⟩
 have := path_in hx h1 i hi
 have := path_in hx h3 i hi
 omega
section
variable {b : za} {k : Nat}
theorem taken_L9 (hf : Fine b) (hk : 5000 < k) {m : Nat} {M : zy} (hM : b.Moves.1[m]? = some M) (v3 : Int) {l : SL zu} (hl : Truths ⟨b, M.Shelf, 0⟩ l.1) {j : Nat} (hj : j < l.1.length) {acc : List zi} (ha : acc.length ≤ 500000) :
  Ok (iter (fun s => zIb k b (m : Int) v3 l (j : Int) s.1 s.2) k (0, acc)) (fun r => r.2 = acc ++ cat (takeG l.1[j] M.Back m) l.1[j].events.1) := by
 have hx := move_on hf (List.mem_of_getElem? hM)
 have ht := hl.all _ (List.getElem_mem hj)
 have hmi := (List.getElem?_eq_some_iff.1 hM).1
 have hidx : idx b.Moves.1 (m : Int) = some M := by rw [idx_nat hmi, ← hM, List.getElem?_eq_getElem hmi]
 have hev : l.1[j].events.1.length ≤ 168 := by
  rw [ht.ev]
  have := evsL_len hx l.1[j].days.1 (Nd ⟨b, M.Shelf, 0⟩)
  have hdays := hf.days
  unfold Nd at *
  have h2 : (⟨b, M.Shelf, 0⟩ : zd).ShelfBook.Days.toNat ≤ 12 := by show b.Days.toNat ≤ 12; omega
  omega
 refine Ok.collect l.1[j].events.1 (takeG l.1[j] M.Back m) (fun i hi => ?_) (fun a => by simp [zIb, idx_nat hj]) (by omega)
 have hlen : (acc ++ cat (takeG l.1[j] M.Back m) (l.1[j].events.1.take i)).length + 1 ≤ 1000000 := by
  have := cat_len 1 (takeG_len l.1[j] M.Back m) (l.1[j].events.1.take i)
  rw [List.length_take] at this
  rw [List.length_append]
  omega
 have hst := ht.len
 have hi0 : i < l.1[j].stocks.1.length := by omega
 have hi1 : i + 1 < l.1[j].stocks.1.length := by omega
 have hs := succ_eq hi (by omega : l.1[j].events.1.length < 9223372036854775808)
 have hw := List.getElem?_eq_getElem hi0
 have hz := List.getElem?_eq_getElem hi1
 have b1 := truth_in hx ht hw
 have b2 := truth_in hx ht hz
 have hfe : EvFine l.1[j].events.1[i] := by
  have hmem : ∀ e ∈ l.1[j].events.1, EvFine e := by rw [ht.ev]; exact evsL_fine hx _ _
  exact hmem _ (List.getElem_mem hi)
 simp only [zIb, idx_nat hj, Option.bind_some, lt_cond hi, cond_true, idx_nat hi, hs, idx_nat hi0, idx_nat hi1, hidx, to_eq, common_eq]
 rw [show takeG l.1[j] M.Back m l.1[j].events.1[i] i = if l.1[j].events.1[i].move = (m : Int) then (match l.1[j].stocks.1[i]?, l.1[j].stocks.1[i + 1]? with
  | some was, some is => [negIf M.Back (comm l.1[j].events.1[i].by_ ⟨is.Low - was.High, is.High - was.Low⟩)]
  | _, _ => []) else [] from rfl, hw, hz]
 generalize l.1[j].stocks.1[i] = was at *
 generalize l.1[j].stocks.1[i + 1] = is at *
 generalize l.1[j].events.1[i] = e at *
 have w1 : w64 (is.Low - was.High) = is.Low - was.High := w64_id (by omega) (by omega)
 have w2 : w64 (is.High - was.Low) = is.High - was.Low := w64_id (by omega) (by omega)
 rw [w1, w2]
 dsimp only
 by_cases hm : e.move = (m : Int)
 ·have c1 : (e.move != (m : Int)) = false := by simp [hm]
  rw [c1, cond_false, if_pos hm]
  have hb : SpanIn2 (comm e.by_ ⟨is.Low - was.High, is.High - was.Low⟩) 100 := by
   refine comm_bd ?_ ?_
   ·have := hfe.2.1
    unfold SpanBd at this
    unfold SpanIn2; omega
   ·unfold SpanIn2; simp only; omega
  generalize comm e.by_ ⟨is.Low - was.High, is.High - was.Low⟩ = B at *
  unfold SpanIn2 at hb
  have w3 : w64 (0 - B.High) = -B.High := by rw [w64_id (by omega) (by omega)]; omega
  have w4 : w64 (0 - B.Low) = -B.Low := by rw [w64_id (by omega) (by omega)]; omega
  cases hbk : M.Back with
  | true =>
   simp only [zcc, Bool.not_true, cond_false, Option.bind_some]
   rw [hbk] at hlen
   rw [lim_ok hlen, cond_true]
   exact Ok.pure rfl
  | false =>
   simp only [zcc, Bool.not_false, cond_true, Option.bind_some, to_eq, w3, w4]
   rw [hbk] at hlen
   rw [lim_ok hlen, cond_true]
   exact Ok.pure rfl
 ·have c1 : (e.move != (m : Int)) = true := by simp [hm]
  rw [c1, cond_true, if_neg hm]
  exact Ok.pure (by rw [List.append_nil])
theorem takesL_ok (hf : Fine b) (hk : 5000 < k) {m : Nat} {M : zy} (hM : b.Moves.1[m]? = some M) (v3 : Int) {l : SL zu} (hl : Truths ⟨b, M.Shelf, 0⟩ l.1) :
  Ok (iter (fun s => zLb k b (m : Int) v3 l s.1 s.2) k (0, [])) (fun r => r.2 = takesL l.1 M.Back m ∧ r.2.length ≤ 400000) := by
 have hx := move_on hf (List.mem_of_getElem? hM)
 have hn := hl.len
 have hdays := hf.days
 have hone : ∀ t ∈ l.1, ∀ i : Nat, ((fun (t : zu) (_ : Nat) => cat (takeG t M.Back m) t.events.1) t i).length ≤ 168 := by
  intro t ht i
  have h1 := cat_len 1 (takeG_len t M.Back m) t.events.1
  have h2 := (hl.all t ht).ev
  have h3 := evsL_len hx t.days.1 (Nd ⟨b, M.Shelf, 0⟩)
  rw [h2] at h1
  have h4 : Nd (⟨b, M.Shelf, 0⟩ : zd) ≤ 12 := by unfold Nd; show b.Days.toNat ≤ 12; omega
  show (cat (takeG t M.Back m) t.events.1).length ≤ _
  rw [h2]
  omega
 refine (Ok.collect (acc := []) l.1 (fun t _ => cat (takeG t M.Back m) t.events.1) (fun j hj => ?_) (fun a => by simp [zLb]) (by omega)).mono fun r hr => ?_
 ·have hacc : ([] ++ cat (fun (t : zu) (_ : Nat) => cat (takeG t M.Back m) t.events.1) (l.1.take j)).length ≤ 500000 := by
   have := cat_len' 168 (l.1.take j) fun t ht i => hone t (List.mem_of_mem_take ht) i
   rw [List.length_take] at this
   rw [List.nil_append]
   omega
  simp only [zLb, lt_cond hj, cond_true, succ_eq hj (by omega : l.1.length < 9223372036854775808)]
  refine Ok.bind (taken_L9 hf hk hM v3 hl hj hacc) fun r hr => ?_
  rw [hr]
  exact Ok.pure rfl
 ·rw [List.nil_append] at hr
  refine ⟨hr, ?_⟩
  rw [hr]
  have := cat_len' 168 l.1 hone
  omega
theorem inS_neg (back : Bool) (s : zi) (n : Int) : InS (negIf back s) n ↔ InS s (if back = true then n else -n) := by
 unfold InS negIf
 cases back with
 | true => simp
 | false => simp only [Bool.false_eq_true, if_false]; omega
theorem path_step {x : zd} {w : List Int} {i : Nat} {e : Ev} (he : (evsL x w (Nd x))[i]? = some e) {V1 V2 : Nat → Int} (h1 : RPath x w V1) (h2 : RPath x w V2) (hs : InS e.by_ (V2 (i + 1) - V1 i)) : ∃ V, RPath x w V ∧ V i = V1 i ∧ V (i + 1) = V2 (i + 1) := by
 refine ⟨fun j => if j ≤ i then V1 j else V2 j, ⟨?_, fun j e' he' => ?_⟩, by simp, if_neg (by omega)⟩
 ·have := h1.1
  simpa using this
 ·by_cases hj : j < i
  ·have a1 : j ≤ i := by omega
   have a2 : j + 1 ≤ i := by omega
   simp only [a1, a2, if_true]
   exact h1.2 j e' he'
  ·by_cases hij : j = i
   ·subst hij
    rw [he] at he'; cases he'
    have a2 : ¬ j + 1 ≤ j := by omega
    simp only [Nat.le_refl, if_true, a2, if_false]
    exact ⟨hs, (h2.2 j e he).2⟩
   ·have a1 : ¬ j ≤ i := by omega
    have a2 : ¬ j + 1 ≤ i := by omega
    simp only [a1, a2, if_false]
    exact h2.2 j e' he'
theorem takesL_mem (hf : Fine b) {m : Nat} {M : zy} (hM : b.Moves.1[m]? = some M) {l : List zu} (hl : Truths ⟨b, M.Shelf, 0⟩ l) :
  (∀ n, (∃ u ∈ takesL l M.Back m, InS u n) ↔ TakenBy b m n) ∧ ∀ u ∈ takesL l M.Back m, u.Low ≤ u.High := by
 have hx := move_on hf (List.mem_of_getElem? hM)
 have hdays := hf.days
 obtain ⟨hd1, _⟩ := hf.moves _ (List.mem_of_getElem? hM)
 have hmem : ∀ w i e, (evsL (⟨b, M.Shelf, 0⟩ : zd) w (Nd ⟨b, M.Shelf, 0⟩))[i]? = some e → e.move = (m : Int) → i = mvPos ⟨b, M.Shelf, 0⟩ w M m ∧ e = mvEv ⟨b, M.Shelf, 0⟩ M m := by
  intro w i e he hm
  obtain ⟨M', h3, h4, h5, h6⟩ := evs_move _ i e he hm
  have h3' : b.Moves.1[m]? = some M' := h3
  rw [hM] at h3'; cases h3'
  exact ⟨h5, h6⟩
 have hat : ∀ w, (evsL (⟨b, M.Shelf, 0⟩ : zd) w (Nd ⟨b, M.Shelf, 0⟩))[mvPos ⟨b, M.Shelf, 0⟩ w M m]? = some (mvEv ⟨b, M.Shelf, 0⟩ M m) := fun w => evs_move_at w hM rfl hd1.1 (by unfold Nd; show _ < b.Days.toNat; omega)
 have parts : ∀ u ∈ takesL l M.Back m, ∃ t ∈ l, ∃ was is, t.stocks.1[mvPos ⟨b, M.Shelf, 0⟩ t.days.1 M m]? = some was ∧ t.stocks.1[mvPos ⟨b, M.Shelf, 0⟩ t.days.1 M m + 1]? = some is ∧ u = negIf M.Back (comm (mvEv ⟨b, M.Shelf, 0⟩ M m).by_ ⟨is.Low - was.High, is.High - was.Low⟩) := by
  intro u hu
  obtain ⟨j, t, hj, hu⟩ := mem_cat.1 hu
  obtain ⟨i, e, hi, hu⟩ := mem_cat.1 hu
  have ht := hl.all t (List.mem_of_getElem? hj)
  rw [ht.ev] at hi
  unfold takeG at hu
  split at hu
  ·rename_i hm
   obtain ⟨rfl, rfl⟩ := hmem _ _ _ hi hm
   split at hu
   ·rename_i was is h1 h2
    exact ⟨t, List.mem_of_getElem? hj, was, is, h1, h2, List.mem_singleton.1 hu⟩
   ·cases hu
  ·cases hu
 have step : ∀ t ∈ l, ∀ was is, t.stocks.1[mvPos ⟨b, M.Shelf, 0⟩ t.days.1 M m]? = some was → t.stocks.1[mvPos ⟨b, M.Shelf, 0⟩ t.days.1 M m + 1]? = some is → ∀ n, InS (negIf M.Back (comm (mvEv ⟨b, M.Shelf, 0⟩ M m).by_ ⟨is.Low - was.High, is.High - was.Low⟩)) n ↔ ∃ V, RPath ⟨b, M.Shelf, 0⟩ t.days.1 V ∧ Was ⟨b, M.Shelf, 0⟩ t.days.1 V M m n := by
  intro t htl was is h1 h2 n
  have ht := hl.all t htl
  have b1 := truth_in hx ht h1
  have b2 := truth_in hx ht h2
  rw [inS_neg, in_comm]
  generalize hs : (if M.Back = true then n else -n) = s
  constructor
  ·rintro ⟨h3, h4⟩
   obtain ⟨a, h5, h6⟩ : ∃ a, InS was a ∧ InS is (a + s) := by
    unfold InS at *
    simp only at h4
    refine ⟨if was.Low ≥ is.Low - s then was.Low else is.Low - s, ?_, ?_⟩ <;> split <;> omega
   obtain ⟨V1, h7, h8⟩ := (ht.mem _ _ h1 a).1 h5
   obtain ⟨V2, h9, h10⟩ := (ht.mem _ _ h2 (a + s)).1 h6
   obtain ⟨V, h11, h12, h13⟩ := path_step (hat t.days.1) h7 h9 (by rw [h10, h8]; have : a + s - a = s := (by omega); rw [this]; exact h3)
   refine ⟨V, h11, ?_⟩
   unfold Was
   rw [h12, h13, h8, h10, hs]
   omega
  ·rintro ⟨V, h3, h4⟩
   unfold Was at h4
   have h5 := (ht.mem _ _ h1 _).2 ⟨V, h3, rfl⟩
   have h6 := (ht.mem _ _ h2 _).2 ⟨V, h3, rfl⟩
   have h7 := (h3.2 _ _ (hat t.days.1)).1
   rw [hs] at h4
   rw [h4] at h7
   refine ⟨h7, ?_⟩
   unfold InS at *
   simp only
   omega
 refine ⟨fun n => ⟨?_, ?_⟩, fun u hu => ?_⟩
 ·rintro ⟨u, hu, hn⟩
  obtain ⟨t, ht, was, is, h1, h2, rfl⟩ := parts u hu
  obtain ⟨V, h3, h4⟩ := (step t ht was is h1 h2 n).1 hn
  exact ⟨M, _, V, hM, (hl.all t ht).way, h3, h4⟩
 ·rintro ⟨M', w, V, h1, h2, h3, h4⟩
  rw [hM] at h1; cases h1
  obtain ⟨t, ht, rfl⟩ := hl.has w h2 ⟨V, h3⟩
  have hT := hl.all t ht
  have hlt := (List.getElem?_eq_some_iff.1 (hat t.days.1)).1
  obtain ⟨was, h5, _⟩ := get_of_lt (l := t.stocks.1) (i := mvPos ⟨b, M.Shelf, 0⟩ t.days.1 M m) (by rw [hT.len, hT.ev]; omega)
  obtain ⟨is, h6, _⟩ := get_of_lt (l := t.stocks.1) (i := mvPos ⟨b, M.Shelf, 0⟩ t.days.1 M m + 1) (by rw [hT.len, hT.ev]; omega)
  obtain ⟨j, hj⟩ := List.getElem?_of_mem ht
  refine ⟨_, mem_cat.2 ⟨j, t, hj, mem_cat.2 ⟨mvPos ⟨b, M.Shelf, 0⟩ t.days.1 M m, mvEv ⟨b, M.Shelf, 0⟩ M m, by rw [hT.ev]; exact hat _, ?_⟩⟩, (step t ht was is h5 h6 n).2 ⟨V, h3, h4⟩⟩
  unfold takeG
  rw [if_pos (show (mvEv (⟨b, M.Shelf, 0⟩ : zd) M m).move = (m : Int) from rfl), h5, h6]
  exact .head _
 ·obtain ⟨t, ht, was, is, h1, h2, rfl⟩ := parts u hu
  obtain ⟨V, hV⟩ := (hl.all t ht).path
  have h3 : ∃ n, Was ⟨b, M.Shelf, 0⟩ t.days.1 V M m n := by
   cases hb : M.Back with
   | true => exact ⟨V (mvPos ⟨b, M.Shelf, 0⟩ t.days.1 M m + 1) - V (mvPos ⟨b, M.Shelf, 0⟩ t.days.1 M m), by unfold Was; rw [hb]; simp⟩
   | false => exact ⟨-(V (mvPos ⟨b, M.Shelf, 0⟩ t.days.1 M m + 1) - V (mvPos ⟨b, M.Shelf, 0⟩ t.days.1 M m)), by unfold Was; rw [hb]; simp⟩
  obtain ⟨n, hn⟩ := h3
  have h4 := (step t ht was is h1 h2 n).2 ⟨V, hV, hn⟩
  exact Int.le_trans h4.1 h4.2
theorem rtaken_ok (hs : Small b) (hd : b.Days ≤ 9223372036854775807) (hk : Fuel k b) (hk2 : 400000 < k) (i : Int) : Ok (zdd k b i) (TakenOut b i) := by
 unfold zdd
 rw [tween_eq, Option.bind_some, pred_eq hs.moves]
 refine Ok.bind (rasked_ok2 hs hd hk (num_iff i _)) fun e hE => ?_
 cases hc0 : e != 0 with
 | true =>
  rw [cond_true]
  have hne : e ≠ 0 := by simpa using hc0
  exact Ok.pure ⟨hE, fun _ => rfl, fun h => absurd h hne⟩
 | false =>
  rw [cond_false]
  obtain rfl : e = 0 := by simpa using hc0
  obtain ⟨hf, hq, hT⟩ := hE.ok rfl
  obtain ⟨hq1, hq2⟩ := hq
  have hi : i.toNat < b.Moves.1.length := by omega
  have hget := List.getElem?_eq_getElem hi
  have hm := List.getElem_mem hi
  rw [idx_eq hq1 hi, Option.bind_some]
  generalize b.Moves.1[i.toNat] = M at *
  have hx := move_on hf hm
  have hin : i = ((i.toNat : Nat) : Int) := by omega
  refine Ok.bind (truths_ok hx hk.k0) fun l hl => ?_
  have hL := takesL_ok hf hk.k0 hget 0 hl
  rw [← hin] at hL
  refine Ok.bind hL fun r hr => ?_
  obtain ⟨h1, h2⟩ := hr
  obtain ⟨h3, h4⟩ := takesL_mem hf hget hl
  rw [← h1] at h3 h4
  have hne : r.2 ≠ [] := by
   obtain ⟨n, hn⟩ := taken_ex hf hget hT
   obtain ⟨u, hu, _⟩ := (h3 n).2 hn
   intro h
   rw [h] at hu
   cases hu
  refine Ok.bind (wide_ok (l := (r.2, rcap true r.2)) (by show r.2.length < k; omega) h2 h4 hne) fun t ht => Ok.pure ⟨hE, fun h => absurd rfl h, fun _ => ?_⟩
  exact ⟨(h3 _).1 ht.1, (h3 _).1 ht.2.1, fun n hn => ht.2.2 n ((h3 n).2 hn)⟩
theorem taken_eq {i : Int} {r r' : zi × Int} (h : TakenOut b i r) (h' : TakenOut b i r') : r = r' := by
 have e := h.1.eq h'.1
 refine Prod.ext ?_ e
 by_cases h0 : r.2 = 0
 ·exact (h.2.2 h0).eq (h'.2.2 (e ▸ h0))
 ·rw [h.2.1 h0, h'.2.1 (e ▸ h0)]
theorem shelfDues_ok (hs : Small b) (hcp : Caps b) (hd : b.Days ≤ 9223372036854775807) (hk : Fuel k b) (hk2 : 400000 < k) (hc : zHc k = some true) (n : Nat → Int) : zxb k b n = some true := by
 apply Ok.eq
 unfold zxb
 refine Ok.bind (due_ok hs hcp hd hk _) fun r1 h1 => ?_
 refine Ok.bind (rdue_ok hs hd hk _) fun r2 h2 => ?_
 obtain ⟨e1, e2⟩ := due_eq h1 h2
 have hJ : Ok (zEb k b n r1 r2) (fun v => v = false) := by
  unfold zEb
  have hl := h1.2.2.2
  refine Ok.bind (match_ok (by omega) (by omega)) fun v hv => ?_
  have := hv.2 e1
  subst this
  simp only [Bool.not_true, cond_false, e2, bne_self_eq_false]
  exact Ok.pure rfl
 refine Ok.bind hJ fun v hv => ?_
 subst hv
 rw [cond_false]
 refine Ok.bind (taken_ok hs hcp hd hk _) fun r3 h3 => ?_
 refine Ok.bind (rtaken_ok hs hd hk hk2 _) fun r4 h4 => ?_
 obtain rfl := taken_eq h3 h4
 simp only [BEq.rfl, Bool.and_self, cond_true, hc, Option.bind_some]
 exact Ok.pure rfl
end
end Go.AM
set_option linter.unusedVariables false
namespace Go.AM
open Go
def zub (x : zi) : Prop := (-9223372036854775808 ≤ x.Low ∧ x.Low ≤ 9223372036854775807) ∧ (-9223372036854775808 ≤ x.High ∧ x.High ≤ 9223372036854775807) ∧ True
def zCe (x : zJ) : Prop := zub x.Begin ∧ (-9223372036854775808 ≤ x.Room ∧ x.Room ≤ 9223372036854775807) ∧ True
def zXe (x : zy) : Prop := (-9223372036854775808 ≤ x.Day ∧ x.Day ≤ 9223372036854775807) ∧ (-9223372036854775808 ≤ x.Shelf ∧ x.Shelf ≤ 9223372036854775807) ∧ True ∧ zub x.By ∧ True
def zDd (x : zn) : Prop := (-9223372036854775808 ≤ x.Shelf ∧ x.Shelf ≤ 9223372036854775807) ∧ zub x.Days ∧ zub x.By ∧ True
def zAe (x : zp) : Prop := (-9223372036854775808 ≤ x.Day ∧ x.Day ≤ 9223372036854775807) ∧ (-9223372036854775808 ≤ x.Shelf ∧ x.Shelf ≤ 9223372036854775807) ∧ (-9223372036854775808 ≤ x.Read ∧ x.Read ≤ 9223372036854775807) ∧ (-9223372036854775808 ≤ x.Err ∧ x.Err ≤ 9223372036854775807) ∧ True
def zjc (x : za) : Prop := (-9223372036854775808 ≤ x.Days ∧ x.Days ≤ 9223372036854775807) ∧ goodS (fun a => zCe a) x.Shelves ∧ goodS (fun a => zXe a) x.Moves ∧ goodS (fun a => zDd a) x.Deliveries ∧ goodS (fun a => zAe a) x.Counts ∧ True
end Go.AM
set_option maxRecDepth 1000000
namespace Go.AM
open Go
theorem counted_true (k : Nat) : zHc (k + 300) = some true := by kernel_rfl
end Go.AM
set_option linter.unusedVariables false
namespace Go.AM
open Go
theorem good_small {b : za} (h : zjc b) : Small b ∧ b.Days ≤ 9223372036854775807 := by
 obtain ⟨⟨_, h0⟩, h1, h2, h3, h4, _⟩ := h
 have e : maxLen = 9223372036854775807 := by decide
 have l1 := h1.2.2
 have l2 := h2.2.2
 have l3 := h3.2.2
 have l4 := h4.2.2
 rw [e] at l1 l2 l3 l4
 exact ⟨⟨by omega, by omega, by omega, by omega⟩, h0⟩
def fuelOf (b : za) : Nat := 500000 + b.Shelves.1.length + b.Moves.1.length + b.Deliveries.1.length + b.Counts.1.length
theorem fuel_ok (b : za) : Fuel (fuelOf b + 300) b := by
 unfold fuelOf
 exact ⟨by omega, by omega, by omega, by omega, by omega⟩
theorem good_cap {α : Type} {good : α → Prop} {s : SL α} (h : goodS good s) : s.2 = .nil → s.1 = [] := by
 intro e
 rcases h.2.1 with h | h
 ·exact h.2
 ·rw [h] at e; cases e
theorem good_caps {b : za} (h : zjc b) : Caps b := by
 obtain ⟨_, h1, h2, h3, h4, _⟩ := h
 exact ⟨good_cap h2, good_cap h3, good_cap h4⟩
end Go.AM
set_option linter.unusedVariables false
namespace Go.AM
open Go
theorem shelfDues_fin (b : za) (n : Nat → Int) (hb : zjc b) (hn : ∀ k, k < 2 → -9223372036854775808 ≤ n k ∧ n k ≤ 9223372036854775807) : ∃ k, zxb k b n = some true := by
 obtain ⟨hs, hd⟩ := good_small hb
 exact ⟨_, shelfDues_ok hs (good_caps hb) hd (fuel_ok b) (by unfold fuelOf; omega) (counted_true _) n⟩
end Go.AM
