/- The statement SlipGiven holds for every input that its row lets in. Conditions: none. -/
import Derived.KernelRfl
import Derived.Test.YtobbgcagbnhecaaDoorE
set_option linter.all false
set_option linter.unusedVariables false
namespace Go.AM
open Go
theorem zot (f : zb) (out : List zo) (n : Nat) : zOc f out (n + 1) = zOc f out n ++ if ((out[n]?).getD ⟨0, 0⟩).High > UU f n then [n] else [] := by
 unfold zOc
 rw [List.range_succ, List.filter_append]
 by_cases h : ((out[n]?).getD ⟨0, 0⟩).High > UU f n
 ·rw [if_pos h]; simp only [List.filter, decide_eq_true h]
 ·rw [if_neg h]; simp only [List.filter, decide_eq_false h]
theorem z9h (f : zb) (out : List zo) (n : Nat) : zVd (zOc f out n) := (zwo n).filter _
theorem zun {f : zb} {out : List zo} {n : Nat} : ∀ i ∈ zOc f out n, i < n := fun i h => List.mem_range.1 (List.mem_filter.1 h).1
theorem zpw {α : Type} {l : List α} {i : Nat} {a : α} (h : l[i]? = some a) : idx l (i : Int) = some a := by
 simpa [idx] using h
theorem zEw {k : Nat} {f : zb} (hs : zBb f) (hk : Fuel k f) (hF : Fine f) (p1 : Int) (p2 : SL Int) (v4 : Int) {v6 : SL (SL Int)} {v8 : SL zo × Int} (v10 : SL Int × Int) {qs : List (List Nat)} (hR : Rost f v6.1 qs) (hd : zKm f qs v8.1.1) {i : Nat} (hi : i < v6.1.length) :
  Ok (iter (fun s => zxb k f p1 p2 v4 v6 v8 v10 (i : Int) s.1 s.2.1 s.2.2) k (0, 0, 0)) (fun r => ∃ z, r = .inr z) := by
 have h9 := hF.nslips
 have h0 := hk.k0
 have hiq : i < qs.length := by have := hR.2.1.len; omega
 have er : v6.1[i].1 = ints qs[i] := hR.2.1.get hi
 have hq : ∀ x ∈ qs[i], x < nS f := fun x hx => List.mem_range.1 (hR.2.2.mem_iff.1 (List.mem_flatten.2 ⟨_, List.getElem_mem hiq, hx⟩))
 have hl : qs[i].length ≤ 9 := by
  have h1 := zUm (List.getElem_mem hiq)
  have h2 := hR.2.2.length_eq
  rw [List.length_range] at h2
  omega
 have e1 : idx v6.1 (i : Int) = some v6.1[i] := zrb hi
 have hlen : v6.1[i].1.length = qs[i].length := by rw [er, zAb]
 refine Ok.count qs[i].length (fun j s => s.1 = (j : Int) ∧ s.2.1 = sumT (LL f) (qs[i].take j) ∧ s.2.2 = sumT (TT f) (qs[i].take j)) ?_ ?_ ⟨rfl, rfl, rfl⟩ (by omega)
 ·rintro j ⟨i', lo, hi2⟩ hj ⟨hi', hlo, hhi⟩
  obtain rfl : i' = (j : Int) := hi'
  obtain rfl : lo = _ := hlo
  obtain rfl : hi2 = _ := hhi
  have hqj := hq _ (List.getElem_mem hj)
  have e2 : idx v6.1[i].1 (j : Int) = some ((qs[i][j] : Nat) : Int) := by rw [er]; exact zYk hj
  have c1 : decide ((j : Int) < (v6.1[i].1.length : Int)) = true := by rw [hlen]; simp; omega
  have s1 := zpv hF (q := qs[i].take j) (fun x hx => hq x (List.mem_of_mem_take hx)) (by rw [List.length_take]; omega)
  have s2 := zvu hF hqj
  have s3 := zkq hF hqj
  have t1 : sumT (LL f) (qs[i].take (j + 1)) = sumT (LL f) (qs[i].take j) + LL f qs[i][j] := by rw [List.take_succ_eq_append_getElem hj, z5i]
  have t2 : sumT (TT f) (qs[i].take (j + 1)) = sumT (TT f) (qs[i].take j) + TT f qs[i][j] := by rw [List.take_succ_eq_append_getElem hj, z5i]
  have w1 : w64 (sumT (LL f) (qs[i].take j) + LL f qs[i][j]) = sumT (LL f) (qs[i].take (j + 1)) := by rw [t1]; exact zV (by omega) (by omega)
  have w2 : w64 (sumT (TT f) (qs[i].take j) + TT f qs[i][j]) = sumT (TT f) (qs[i].take (j + 1)) := by rw [t2]; exact zV (by omega) (by omega)
  have e3 : idx v8.1.1 ((qs[i][j] : Nat) : Int) = some (z2i f qs[i] j) := zpw (hd _ (List.getElem_mem hiq) j hj)
  have t : ((0 : Int) != 0) = false := by decide
  have d1 : (z2i f qs[i] j).Low = sumT (LL f) (qs[i].take (j + 1)) := rfl
  have d2 : (z2i f qs[i] j).High = sumT (TT f) (qs[i].take (j + 1)) := rfl
  simp only [zxb, e1, Option.bind_some, c1, cond_true, e2, ztw hs hk hF hqj, z1w, w1, w2, zzc, t, cond_false, e3, d1, d2, BEq.rfl, Bool.and_true, Bool.not_true]
  exact Ok.pure ⟨zob hj (by omega), rfl, rfl⟩
 ·rintro ⟨i', lo, hi2⟩ ⟨hi', hlo, hhi⟩
  obtain rfl : i' = (qs[i].length : Int) := hi'
  have c1 : decide ((qs[i].length : Int) < (v6.1[i].1.length : Int)) = false := by rw [hlen]; simp
  simp only [zxb, e1, Option.bind_some, c1, cond_false]
  exact Ok.pure ⟨_, rfl⟩
theorem zms {k : Nat} {f : zb} (hs : zBb f) (hk : Fuel k f) (hw : zVb k = some true) (pickers : Int) {b : SL Int} (hb : b.1.length < 9223372036854775808) : zJb k f pickers b = some true := by
 refine Ok.eq ?_
 unfold zJb
 obtain ⟨so, hso, hso'⟩ := zsw hs hk
 rw [hso]
 simp only [Option.bind_some]
 by_cases hF : Fine f
 ·have hso2 := hso'.2 hF
  subst hso2
  have h9 := hF.nslips
  have h0 := hk.k0
  obtain ⟨p, hp1, hp5, v, hv, hwp⟩ := z9y k pickers
  simp only [Bool.not_true, cond_false, hv, Option.bind_some, hwp]
  refine Ok.bind (zKw hs hk hF ⟨hp1, hp5⟩ hb) fun v6 ⟨hlen, qs, hR, hperm⟩ => ?_
  have hRost : Rost f v6.1 qs := ⟨⟨by omega, by omega⟩, hR, hperm⟩
  have hqlen : qs.length = p := by have := hR.len; omega
  have hrow : ∀ l ∈ v6.1, l.1.length ≤ 9 := fun l hl => by
   obtain ⟨i, hi, rfl⟩ := List.getElem_of_mem hl
   have hiq : i < qs.length := by have := hR.len; omega
   rw [hR.get hi, zAb]
   have h1 := zUm (List.getElem_mem hiq)
   have h2 := hperm.length_eq
   rw [List.length_range] at h2
   omega
  have hSR : zUs k v6.1 := ⟨⟨by omega, by omega⟩, fun l hl => by have := hrow l hl; omega⟩
  refine Ok.bind (zfx hs hk hSR) fun v8 h8 => ?_
  rcases h8 with ⟨h, _⟩ | ⟨_, h, _⟩ | ⟨_, h8e, qs', hR', h8l, h8d⟩
  ·exact absurd hF h
  ·exact absurd hRost (h qs)
  obtain rfl : qs' = qs := hR'.2.1.eq hR
  refine Ok.bind (zjx hs hk (p : Int)) fun v10 h10 => ?_
  rcases h10 with ⟨h, _⟩ | ⟨_, h, _⟩ | ⟨_, _, h10e, l, hl, hbest⟩
  ·exact absurd hF h
  ·exact absurd (show 1 ≤ (p : Int) ∧ (p : Int) ≤ 5 by omega) h
  rw [Int.toNat_natCast] at hbest
  have hll := zml hbest.climb hbest.lt
  obtain ⟨⟨l3, c3⟩, e3⟩ := v10
  obtain rfl : l3 = ints l := hl
  obtain rfl : e3 = 0 := h10e
  obtain ⟨⟨o8, c8⟩, e8⟩ := v8
  obtain rfl : e8 = 0 := h8e
  have h8l : o8.length = nS f := h8l
  have h8d : zKm f qs' o8 := h8d
  have t : ((0 : Int) != 0) = false := by decide
  have c1 : (((o8.length : Int)) != (f.Slips.1.length : Int)) = false := by rw [h8l]; simp
  have hcl : Ok (z7b k (ints l, c3) (f.Slips.1.length : Int)) (fun r => r = true) := zAv (l := (ints l, c3)) (by show (ints l).length < k; rw [zAb]; omega) (by show (ints l).length < _; rw [zAb]; omega) (zju hbest.climb) fun x hx => by
   obtain ⟨i, hi, rfl⟩ := List.mem_map.1 hx
   have := hbest.lt i hi
   have e : f.Slips.1.length = nS f := rfl
   omega
  obtain ⟨cl, hcl1, hcl2⟩ := hcl
  subst hcl2
  simp only [zyc, t, cond_false, c1, hcl1, Option.bind_some, Bool.not_true]
  refine Ok.bind (Ok.count v6.1.length (fun j s => s = (j : Int)) (Q := fun r : (Int × Int × Int × Int × Int × Int × Int) ⊕ Int => ∃ z, r = .inr z) ?_ ?_ rfl (by omega)) fun r hr => ?_
  ·rintro j s hj rfl
   simp only [zQb, z1b hj, cond_true, z1w, Option.bind_some]
   refine Ok.bind (zEw hs hk hF pickers b v (v8 := ((o8, c8), 0)) ((ints l, c3), 0) hRost h8d hj) fun r ⟨z, hz⟩ => ?_
   subst hz
   exact Ok.pure (zob hj (by omega))
  ·rintro s rfl
   simp only [zQb, z4d, cond_false]
   exact Ok.pure ⟨_, rfl⟩
  obtain ⟨z, rfl⟩ := hr
  simp only [Sum.elim_inr]
  refine Ok.bind (P := fun v : Int × List Int => v.2 = ints (zOc f o8 (nS f))) ?_ fun v19 h19 => ?_
  ·refine Ok.count o8.length (fun j s => s.1 = (j : Int) ∧ s.2 = ints (zOc f o8 j)) ?_ ?_ ⟨rfl, rfl⟩ (by omega)
   ·rintro j ⟨i', a⟩ hj ⟨hi', ha⟩
    obtain rfl : i' = (j : Int) := hi'
    obtain rfl : a = _ := ha
    have hjn : j < nS f := by omega
    have e1 : idx o8 (j : Int) = some o8[j] := zrb hj
    have e2 : (o8[j]?).getD ⟨0, 0⟩ = o8[j] := by rw [List.getElem?_eq_getElem hj]; rfl
    have hc2 : decide ((ints (zOc f o8 j)).length + 1 ≤ LIM) = true := zum (by
     rw [zAb]
     have := zml (z9h f o8 j) zun
     omega)
    have hso := zot f o8 j
    rw [e2] at hso
    simp only [zPb, z1b hj, cond_true, e1, Option.bind_some, zHi hjn, hc2]
    by_cases h : o8[j].High > (slp f j).Until
    ·rw [decide_eq_true h, cond_true]
     refine Ok.pure ⟨zob hj (by omega), ?_⟩
     rw [hso, if_pos h, zgj]
    ·rw [decide_eq_false h, cond_false]
     refine Ok.pure ⟨zob hj (by omega), ?_⟩
     rw [hso, if_neg h, List.append_nil]
   ·rintro ⟨i', a⟩ ⟨hi', ha⟩
    obtain rfl : i' = (o8.length : Int) := hi'
    simp only [zPb, z4d, cond_false]
    rw [h8l] at ha
    exact Ok.pure ha
  obtain ⟨z19, n19⟩ := v19
  obtain rfl : n19 = ints (zOc f o8 (nS f)) := h19
  have htrue : zxc f p (zOc f o8 (nS f)) := by
   have := zet hF hRost h8d
   rwa [hqlen] at this
  have hle := hbest.least _ (z9h f o8 _) zun htrue
  have hn9 := zml (z9h f o8 (nS f)) zun
  have hJ : Ok (zIb k f pickers b v v6 ((o8, c8), 0) ((ints l, c3), 0) z (z19, ints (zOc f o8 (nS f)))) (fun r => r.1 = false) := by
   simp only [zIb]
   have c2 : decide (((ints l).length : Int) > ((ints (zOc f o8 (nS f))).length : Int)) = false := by
    rw [zAb, zAb]
    have : l.length ≤ (zOc f o8 (nS f)).length := by
     rcases hle with h | ⟨h, _⟩ <;> omega
    exact decide_eq_false (by omega)
   rw [c2, cond_false]
   refine Ok.cond (fun hc => ?_) fun _ => Ok.pure rfl
   have hc' : l.length = (zOc f o8 (nS f)).length := by
    have := eq_of_beq hc
    rw [zAb, zAb] at this
    omega
   refine Ok.bind (zbw (by omega) (z9h f o8 _) hbest.climb hc'.symm (by omega)) fun r hr => Ok.pure ?_
   cases hrb : r with
   | false => rfl
   | true => exact (zTu (by omega) (fun _ => hr.1 hrb) hle).elim
  refine Ok.bind hJ fun j hj => ?_
  rw [hj, cond_false]
  refine Ok.cond (fun _ => ?_) fun hc => ?_
  ·rw [hw]; exact Ok.pure rfl
  ·have hnil : zOc f o8 (nS f) = [] := by
    have h1 : ¬ ((ints (zOc f o8 (nS f))).length : Int) > 0 := by simpa using hc
    rw [zAb] at h1
    exact List.length_eq_zero_iff.1 (by omega)
   rw [hnil] at htrue
   have hall := z7o.1 htrue
   refine Ok.bind (zZu hs hk) fun v25 h25 => ?_
   rcases h25 with ⟨h, _⟩ | ⟨_, h25e, q, hq5, hfew, hros⟩ | ⟨_, _, _, h⟩
   ·exact absurd hF h
   ·have hqp := (z5u hfew hp1).1 hall
    have hl25 : v25.1.1.length = q := hros.1
    have e0 : (v25.2 == 0) = true := by rw [h25e]; rfl
    have e1 : decide ((v25.1.1.length : Int) ≤ (p : Int)) = true := decide_eq_true (by omega)
    rw [e0, cond_true, e1, cond_true, hw]
    exact Ok.pure rfl
   ·exact absurd hall (h p hp1 hp5)
 ·have hso2 : so = false := by
   cases so with
   | false => rfl
   | true => exact absurd (hso'.1 rfl) hF
  subst hso2
  rw [hw]
  exact Ok.pure rfl
end Go.AM
set_option linter.unusedVariables false
namespace Go.AM
open Go
def zrd (x : zo) : Prop := (-9223372036854775808 ≤ x.Low ∧ x.Low ≤ 9223372036854775807) ∧ (-9223372036854775808 ≤ x.High ∧ x.High ≤ 9223372036854775807) ∧ True
def zEf (x : zj) : Prop := (-9223372036854775808 ≤ x.Shelf ∧ x.Shelf ≤ 9223372036854775807) ∧ (-9223372036854775808 ≤ x.Many ∧ x.Many ≤ 9223372036854775807) ∧ True
def zvf (x : zl) : Prop := zge (fun (a : zj) => zEf a) x.Lines ∧ (-9223372036854775808 ≤ x.Until ∧ x.Until ≤ 9223372036854775807) ∧ True
def zWc (x : zb) : Prop := zge (fun (a : Int) => (-9223372036854775808 ≤ a ∧ a ≤ 9223372036854775807)) x.Far ∧ zrd x.Step ∧ zge (fun (a : zo) => zrd a) x.Pick ∧ (-9223372036854775808 ≤ x.Carry ∧ x.Carry ≤ 9223372036854775807) ∧ zge (fun (a : zl) => zvf a) x.Slips ∧ True
end Go.AM
set_option maxRecDepth 1000000
namespace Go.AM
open Go
theorem zUv (k : Nat) : zVb (k + 300) = some true := by kernel_rfl
end Go.AM
set_option linter.unusedVariables false
namespace Go.AM
open Go
theorem zNu {f : zb} (h : zWc f) : zBb f := by
 obtain ⟨h1, h2, h3, h4, h5, _⟩ := h
 have e : maxLen = 9223372036854775807 := by decide
 have l1 := h1.2.2
 have l3 := h3.2.2
 have l5 := h5.2.2
 rw [e] at l1 l3 l5
 refine ⟨show f.Far.1.length < _ by omega, by omega, show f.Slips.1.length < _ by omega, fun s hs => ?_⟩
 have := (h5.1 s hs).1.2.2
 rw [e] at this
 omega
def zYu (f : zb) : Nat := 500000 + f.Far.1.length + f.Pick.1.length + f.Slips.1.length + (f.Slips.1.map fun s => s.Lines.1.length).sum
theorem z2x {l : List Nat} {n : Nat} : n ∈ l → n ≤ l.sum := by
 induction l with
 | nil => intro h; simp at h
 | cons x t ih =>
  intro h
  rw [List.sum_cons]
  rcases List.mem_cons.1 h with rfl | h
  ·omega
  ·have := ih h
   omega
theorem zyx (f : zb) (m : Nat) : Fuel (zYu f + m + 300) f := by
 unfold zYu
 refine ⟨by omega, show f.Far.1.length < _ by omega, by omega, show f.Slips.1.length < _ by omega, fun s hs => ?_⟩
 have := z2x (List.mem_map.2 ⟨s, hs, rfl⟩ : s.Lines.1.length ∈ f.Slips.1.map fun s => s.Lines.1.length)
 omega
end Go.AM
set_option linter.unusedVariables false
namespace Go.AM
open Go
theorem slen {α : Type} {p : α → Prop} {b : SL α} (h : zge p b) : b.1.length < 9223372036854775808 := by
 have h1 := h.2.2
 have e : maxLen = 9223372036854775807 := by decide
 omega
theorem zUx (f : zb) (n : Int) (b : SL Int) (hf : zWc f) (hn : -9223372036854775808 ≤ n ∧ n ≤ 9223372036854775807) (hb : zge (fun (a : Int) => (-9223372036854775808 ≤ a ∧ a ≤ 9223372036854775807)) b) : ∃ k, zJb k f n b = some true :=
 ⟨_, zms (zNu hf) (zyx f 0) (zUv _) n (slen hb)⟩
end Go.AM
