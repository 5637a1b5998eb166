/- The statement SlipRosters holds for every input that its row lets in. Conditions: none. -/
import Derived.KernelRfl
import Derived.Test.YtobbgcagbnhecaaDoorE
set_option linter.all false
set_option linter.unusedVariables false
namespace Go.AM
open Go
section
variable {T U : Nat → Int}
def zpi (T U : Nat → Int) (now : Int) (l : List Nat) : Prop := ∀ x ∈ l, now + lsum T U (U x) l ≤ U x
theorem zCv {l : List Nat} : zpi T U 0 l ↔ zub T U l := by
 unfold zpi zub
 simp
theorem zpi.perm {now : Int} {l l' : List Nat} (h : l.Perm l') (hf : zpi T U now l) : zpi T U now l' := fun x hx => by
 rw [← zJs h]
 exact hf x (h.mem_iff.2 hx)
theorem zLv (hT : ∀ i, 0 ≤ T i) {now : Int} {a : Nat} {l : List Nat} (ha : ∀ y ∈ l, U a ≤ U y) : zpi T U now (a :: l) ↔ now + T a ≤ U a ∧ zpi T U (now + T a) l := by
 constructor
 ·intro h
  refine ⟨?_, fun x hx => ?_⟩
  ·have := h a (by simp)
   have h2 := z8m (U := U) (u := U a) hT l
   simp only [lsum, Int.le_refl, if_true] at this
   omega
  ·have := h x (by simp [hx])
   simp only [lsum, if_pos (ha x hx)] at this
   omega
 ·rintro ⟨h1, h2⟩ x hx
  rcases List.mem_cons.1 hx with rfl | hx
  ·simp only [lsum, Int.le_refl, if_true]
   by_cases hex : ∃ y ∈ l, U y ≤ U x
   ·obtain ⟨y, hy, hyx⟩ := hex
    have h3 := h2 y hy
    have h4 := ha y hy
    have h5 : U y = U x := by omega
    rw [h5] at h3
    omega
   ·have h0 : lsum T U (U x) l = 0 := by
     have : ∀ l : List Nat, (∀ y ∈ l, ¬ U y ≤ U x) → lsum T U (U x) l = 0 := by
      intro l
      induction l with
      | nil => intro _; rfl
      | cons y l ih =>
       intro h
       have hy := h y (by simp)
       simp only [lsum, if_neg hy, ih fun z hz => h z (by simp [hz])]
       omega
     exact this l fun y hy h => hex ⟨y, hy, h⟩
    omega
  ·have := h2 x hx
   simp only [lsum, if_pos (ha x hx)]
   omega
end
theorem zrt : ∀ (S x y : Nat), (∀ i, y.testBit i = (S.testBit i && !x.testBit i)) → (∀ i, x.testBit i = true → S.testBit i = true) → x + y = S := by
 intro S
 induction S using Nat.strongRecOn with
 | ind S ih =>
  intro x y hy hx
  by_cases h0 : S = 0
  ·subst h0
   have h1 : x = 0 := Nat.eq_of_testBit_eq fun i => by
    cases hb : x.testBit i with
    | false => simp
    | true => have := hx i hb; simp at this
   have h2 : y = 0 := Nat.eq_of_testBit_eq fun i => by rw [hy]; simp
   omega
  ·have := ih (S / 2) (by omega) (x / 2) (y / 2) (fun i => by rw [← Nat.testBit_succ, ← Nat.testBit_succ, ← Nat.testBit_succ]; exact hy (i + 1)) fun i h => by
    rw [← Nat.testBit_succ] at h ⊢
    exact hx (i + 1) h
   have b0 := hy 0
   have c0 := hx 0
   simp only [Nat.testBit_zero, decide_eq_true_eq] at b0 c0
   have e0 : y % 2 = 1 ↔ S % 2 = 1 ∧ ¬ x % 2 = 1 := by
    have := congrArg (· = true) b0
    simpa using this
   omega
theorem zOq {S x : Nat} (h : ∀ i, x.testBit i = true → S.testBit i = true) : x ≤ S := by
 rw [← zTk.2 h]
 exact Nat.and_le_right
theorem zls {S x : Nat} (h : ∀ i, x.testBit i = true → S.testBit i = true) (hS : S < 2 ^ 63) : S - x = dif S x := by
 have hx : x < 2 ^ 63 := Nat.lt_of_le_of_lt (zOq h) hS
 obtain ⟨_, h1, h2, h3⟩ := zKm hS hx
 have := zrt S x (dif S x) h3 h
 omega
theorem zDt {S x : Nat} (h : ∀ i, x.testBit i = true → S.testBit i = true) (hS : S < 2 ^ 63) (i : Nat) : (S - x).testBit i = (S.testBit i && !x.testBit i) := by
 have hx : x < 2 ^ 63 := Nat.lt_of_le_of_lt (zOq h) hS
 rw [zls h hS]
 exact (zKm hS hx).2.2.2 i
def z7s (f : zd) (S j : Nat) (v : Int) : Prop := (v = -1 ∧ ∀ i, i < j → S.testBit i = false) ∨ ∃ a : Nat, v = (a : Int) ∧ a < j ∧ S.testBit a = true ∧ ∀ i, i < j → S.testBit i = true → UU f a ≤ UU f i
theorem zcy {k : Nat} {f : zd} (hs : zeb f) (hk : Fuel k f) (hF : Fine f) {S : Nat} (hS : S < 2 ^ nS f) (now : Int) :
  Ok (iter (fun s => zSb k f (S : Int) now s.1 s.2) k ((-1), 0)) (fun r => z7s f S (nS f) r.1) := by
 have h9 := hF.nslips
 have h512 : 2 ^ nS f ≤ 2 ^ 9 := Nat.pow_le_pow_right (by omega) h9
 have h63 : S < 2 ^ 63 := Nat.lt_of_lt_of_le hS (Nat.le_trans h512 (by decide))
 refine Ok.count (nS f) (fun j s => s.2 = (j : Int) ∧ z7s f S j s.1) ?_ ?_ ⟨rfl, .inl ⟨rfl, fun i h => absurd h (by omega)⟩⟩ hk.slips
 ·rintro j ⟨v, j'⟩ hj ⟨hj', hv⟩
  obtain rfl : j' = (j : Int) := hj'
  have hv : z7s f S j v := hv
  simp only [zSb, zpd, znd, zFb hj, cond_true, zDz k (show j < 64 by omega) h63, Option.bind_some]
  have keep : S.testBit j = false → z7s f S (j + 1) v := fun hb => by
   rcases hv with ⟨h1, h2⟩ | ⟨a, h1, h2, h3, h4⟩
   ·refine .inl ⟨h1, fun i hi => ?_⟩
    by_cases e : i = j
    ·rw [e]; exact hb
    ·exact h2 i (by omega)
   ·refine .inr ⟨a, h1, by omega, h3, fun i hi hbi => ?_⟩
    by_cases e : i = j
    ·rw [e, hb] at hbi; cases hbi
    ·exact h4 i (by omega) hbi
  cases hb : S.testBit j with
  | false =>
   simp only [cond_false, Option.bind_some]
   exact Ok.pure ⟨z6 hj hs.slips, keep hb⟩
  | true =>
   simp only [cond_true]
   rcases hv with ⟨h1, h2⟩ | ⟨a, h1, h2, h3, h4⟩
   ·subst h1
    simp only [show decide ((-1 : Int) < 0) = true by decide, cond_true, Option.bind_some]
    refine Ok.pure ⟨z6 hj hs.slips, .inr ⟨j, rfl, by omega, hb, fun i hi hbi => ?_⟩⟩
    by_cases e : i = j
    ·rw [e]; exact Int.le_refl _
    ·rw [h2 i (by omega)] at hbi; cases hbi
   ·subst h1
    have c1 : decide ((a : Int) < 0) = false := by simp
    simp only [c1, cond_false, zPe hj, zPe (f := f) (i := a) (by omega), Option.bind_some]
    by_cases hlt : UU f j < UU f a
    ·rw [show decide ((slp f j).Until < (slp f a).Until) = true from decide_eq_true hlt]
     simp only [cond_true, Option.bind_some]
     refine Ok.pure ⟨z6 hj hs.slips, .inr ⟨j, rfl, by omega, hb, fun i hi hbi => ?_⟩⟩
     by_cases e : i = j
     ·rw [e]; exact Int.le_refl _
     ·have := h4 i (by omega) hbi
      omega
    ·rw [show decide ((slp f j).Until < (slp f a).Until) = false from decide_eq_false hlt]
     simp only [cond_false, Option.bind_some]
     refine Ok.pure ⟨z6 hj hs.slips, .inr ⟨a, rfl, by omega, h3, fun i hi hbi => ?_⟩⟩
     by_cases e : i = j
     ·rw [e]; omega
     ·exact h4 i (by omega) hbi
 ·rintro ⟨v, j'⟩ ⟨hj', hv⟩
  obtain rfl : j' = (nS f : Int) := hj'
  simp only [zSb, zkc, cond_false]
  exact Ok.pure hv
theorem zUr {S a : Nat} (ha : S.testBit a = true) : ∀ i, (2 ^ a).testBit i = true → S.testBit i = true := fun i h => by
 rw [Nat.testBit_two_pow] at h
 have : a = i := by simpa using h
 rw [← this]; exact ha
theorem z7x {n S a : Nat} (hS : S < 2 ^ 63) (ha : S.testBit a = true) (han : a < n) : (mem n S).Perm (a :: mem n (S - 2 ^ a)) := by
 have hb := zDt (zUr ha) hS
 have hna : a ∉ mem n (S - 2 ^ a) := fun h => by
  have := (zfg.1 h).2
  rw [hb, Nat.testBit_two_pow] at this
  simp at this
 refine (List.perm_ext_iff_of_nodup (zos n S) (List.nodup_cons.2 ⟨hna, zos _ _⟩)).2 fun x => ?_
 rw [List.mem_cons, zfg, zfg, hb, Nat.testBit_two_pow]
 constructor
 ·rintro ⟨h1, h2⟩
  by_cases e : x = a
  ·exact .inl e
  ·exact .inr ⟨h1, by rw [h2]; simp; omega⟩
 ·rintro (rfl | ⟨h1, h2⟩)
  ·exact ⟨han, ha⟩
  ·simp only [Bool.and_eq_true] at h2
   exact ⟨h1, h2.1⟩
theorem zMx {k : Nat} {f : zd} (hs : zeb f) (hk : Fuel k f) (hF : Fine f) {S : Nat} (hS : S < 2 ^ nS f) : Ok (ztd k f (S : Int)) (fun r => r = true ↔ zub (TT f) (UU f) (mem (nS f) S)) := by
 have h9 := hF.nslips
 have h0 := hk.k0
 have h512 : 2 ^ nS f ≤ 2 ^ 9 := Nat.pow_le_pow_right (by omega) h9
 unfold ztd
 have hml := zfs (nS f) S
 refine Ok.bind (Ok.count (mem (nS f) S).length (fun j s => ∃ S' : Nat, s.1 = (S' : Int) ∧ S' < 2 ^ nS f ∧ (mem (nS f) S').length + j = (mem (nS f) S).length ∧ (0 ≤ s.2 ∧ s.2 ≤ 100000) ∧ (zub (TT f) (UU f) (mem (nS f) S) ↔ zpi (TT f) (UU f) s.2 (mem (nS f) S'))) (Q := fun r : (Int × Int × Int × Int) ⊕ (Int × Int) => match r with
  | .inl _ => ¬ zub (TT f) (UU f) (mem (nS f) S)
  | .inr _ => zub (TT f) (UU f) (mem (nS f) S)) ?_ ?_ ⟨S, rfl, hS, by omega, ⟨by omega, by omega⟩, zCv.symm⟩ (by omega)) fun r hr => ?_
 ·rintro j ⟨v, now⟩ hj ⟨S', hv, hS', hlen, hnow, hiff⟩
  obtain rfl : v = (S' : Int) := hv
  have hnow : 0 ≤ now ∧ now ≤ 100000 := hnow
  have hiff : zub (TT f) (UU f) (mem (nS f) S) ↔ zpi (TT f) (UU f) now (mem (nS f) S') := hiff
  have h63 : S' < 2 ^ 63 := Nat.lt_of_lt_of_le hS' (Nat.le_trans h512 (by decide))
  have hne : S' ≠ 0 := fun e => by
   subst e
   have : mem (nS f) 0 = [] := by simp [mem]
   rw [this] at hlen
   simp at hlen
   omega
  have c1 : decide ((S' : Int) > 0) = true := decide_eq_true (by omega)
  simp only [zNc, c1, cond_true]
  refine Ok.bind (zcy hs hk hF hS' now) fun w hw => ?_
  rcases hw with ⟨_, h2⟩ | ⟨a, h1, h2, h3, h4⟩
  ·exfalso
   obtain ⟨i, hi⟩ := Nat.exists_testBit_of_ne_zero hne
   have := h2 i (zYo hS' hi)
   rw [hi] at this
   cases this
  ·have ha := h2
   rw [h1, zFs hk hF ha, zPe ha]
   simp only [Option.bind_some]
   have ht := zgp hF ha
   have hu := z3s hF ha
   have w1 : w64 (now + TT f a) = now + TT f a := zL (by omega) (by omega)
   have hp := z7x (n := nS f) h63 h3 ha
   have hall : ∀ y ∈ mem (nS f) (S' - 2 ^ a), UU f a ≤ UU f y := fun y hy => by
    have h5 := zfg.1 hy
    rw [zDt (zUr h3) h63] at h5
    simp only [Bool.and_eq_true] at h5
    exact h4 y h5.1 h5.2.1
   have hst := zLv (zLm hF) (now := now) hall
   have hiff2 : zpi (TT f) (UU f) now (mem (nS f) S') ↔ now + TT f a ≤ UU f a ∧ zpi (TT f) (UU f) (now + TT f a) (mem (nS f) (S' - 2 ^ a)) := by
    rw [← hst]
    exact ⟨fun h => h.perm hp, fun h => h.perm hp.symm⟩
   have eT : zyc f a (·.High) = TT f a := rfl
   have eU : (slp f a).Until = UU f a := rfl
   rw [eT, w1, eU]
   by_cases hle : now + TT f a > UU f a
   ·rw [decide_eq_true hle]
    refine Ok.pure ?_
    show ¬ _
    rw [hiff, hiff2]
    rintro ⟨h, _⟩
    omega
   ·rw [decide_eq_false hle]
    have c2 : decide ((a : Int) < 0) = false := by simp
    have hle2 : 2 ^ a ≤ S' := zOq (zUr h3)
    have ea : zo 1 (a : Int) = ((2 ^ a : Nat) : Int) := by rw [zBm (by omega)]; push_cast; rfl
    have wa : w64 ((S' : Int) - ((2 ^ a : Nat) : Int)) = ((S' - 2 ^ a : Nat) : Int) := by
     generalize 2 ^ a = P at hle2 ⊢
     rw [zL (by omega) (by omega)]; omega
    have hlt2 : S' - 2 ^ a < 2 ^ nS f := Nat.lt_of_le_of_lt (Nat.sub_le _ _) hS'
    simp only [cond_false, c2, ea, wa]
    refine Ok.pure ⟨S' - 2 ^ a, rfl, hlt2, ?_, ⟨by show 0 ≤ now + TT f a; omega, by show now + TT f a ≤ _; omega⟩, ?_⟩
    ·have := hp.length_eq
     rw [List.length_cons] at this
     omega
    ·rw [hiff, hiff2]
     exact ⟨fun h => h.2, fun h => ⟨by omega, h⟩⟩
 ·rintro ⟨v, now⟩ ⟨S', hv, hS', hlen, hnow, hiff⟩
  obtain rfl : v = (S' : Int) := hv
  have hnil : mem (nS f) S' = [] := List.length_eq_zero_iff.1 (by omega)
  have hz : S' = 0 := Classical.byContradiction fun hne => zBt hS' hne hnil
  subst hz
  have c1 : decide (((0 : Nat) : Int) > 0) = false := by decide
  simp only [zNc, c1, cond_false]
  refine Ok.pure ?_
  show zub _ _ _
  rw [hiff, hnil]
  intro x hx
  cases hx
 ·cases r with
  | inl z => exact Ok.pure ⟨fun h => (by cases h), fun h => absurd h hr⟩
  | inr z => exact Ok.pure ⟨fun _ => hr, fun _ => rfl⟩
end Go.AM
set_option linter.unusedVariables false
namespace Go.AM
open Go
theorem zHm {n : Nat} (h9 : n ≤ 9) : 2 ^ n ≤ 512 := by
 have : 2 ^ n ≤ 2 ^ 9 := Nat.pow_le_pow_right (by omega) h9
 omega
theorem z3x {k : Nat} {f : zd} (hs : zeb f) (hk : Fuel k f) (hF : Fine f) : Ok (zxd k f) (fun r => r.1.length = 2 ^ nS f ∧ ∀ S, S < 2 ^ nS f → ∃ b, r.1[S]? = some b ∧ (b = true ↔ zub (TT f) (UU f) (mem (nS f) S))) := by
 have h9 := hF.nslips
 have h0 := hk.k0
 have h512 := zHm h9
 unfold zxd
 refine Ok.bind (P := fun v : Int × List Bool => v.2.length = 2 ^ nS f ∧ ∀ S, S < 2 ^ nS f → ∃ b, v.2[S]? = some b ∧ (b = true ↔ zub (TT f) (UU f) (mem (nS f) S))) ?_ fun v hv => Ok.pure hv
 have cz : decide ((f.Slips.1.length : Int) < 0) = false := by simp
 have es : zo 1 (f.Slips.1.length : Int) = ((2 ^ nS f : Nat) : Int) := z6y h9
 refine Ok.count (2 ^ nS f) (fun j s => s.1 = (j : Int) ∧ s.2.length = j ∧ ∀ S, S < j → ∃ b, s.2[S]? = some b ∧ (b = true ↔ zub (TT f) (UU f) (mem (nS f) S))) ?_ ?_ ⟨rfl, rfl, fun S h => absurd h (by omega)⟩ (by omega)
 ·rintro j ⟨j', l⟩ hj ⟨hj', hl, hb⟩
  obtain rfl : j' = (j : Int) := hj'
  have hl : l.length = j := hl
  have c1 : decide ((j : Int) < ((2 ^ nS f : Nat) : Int)) = true := decide_eq_true (by omega)
  have c2 : decide (l.length + 1 ≤ LIM) = true := zLt (by omega)
  simp only [zLc, cz, cond_false, es, c1, cond_true]
  refine Ok.bind (zMx hs hk hF hj) fun b hbb => ?_
  rw [c2, cond_true]
  refine Ok.pure ⟨z6 (n := 512) (by omega) (by omega), by show (l ++ [b]).length = _; rw [List.length_append]; simp [hl], fun S hS => ?_⟩
  show ∃ b', (l ++ [b])[S]? = some b' ∧ _
  by_cases e : S = j
  ·subst e
   exact ⟨b, by rw [List.getElem?_append_right (by omega)]; simp [hl], hbb⟩
  ·obtain ⟨b', h1, h2⟩ := hb S (by omega)
   exact ⟨b', by rw [List.getElem?_append_left (by omega)]; exact h1, h2⟩
 ·rintro ⟨j', l⟩ ⟨hj', hl, hb⟩
  obtain rfl : j' = ((2 ^ nS f : Nat) : Int) := hj'
  have c1 : decide (((2 ^ nS f : Nat) : Int) < ((2 ^ nS f : Nat) : Int)) = false := by simp
  simp only [zLc, cz, cond_false, es, c1]
  exact Ok.pure ⟨hl, hb⟩
def zCq (f : zd) (S : Nat) (v : Int) : Prop := (0 ≤ v ∧ v ≤ 99) ∧ ∀ p : Nat, p < 99 → (v ≤ (p : Int) ↔ Can f p S)
def ztn (f : zd) (S x p : Nat) : Prop := x ≠ 0 ∧ x &&& S = x ∧ zub (TT f) (UU f) (mem (nS f) x) ∧ ∃ q, p = q + 1 ∧ Can f q (S - x)
theorem zBv {f : zd} (h9 : nS f ≤ 9) {S : Nat} (hS : S < 2 ^ nS f) (h0 : S ≠ 0) (p : Nat) : (∃ x, ztn f S x p) ↔ Can f p S := by
 have h512 := zHm h9
 have h63 : S < 2 ^ 63 := by omega
 cases p with
 | zero =>
  constructor
  ·rintro ⟨x, _, _, _, q, hq, _⟩; omega
  ·intro h
   exact absurd (CanL.zero.1 h) (zBt hS h0)
 | succ p =>
  constructor
  ·rintro ⟨x, hx0, hx, hf, q, hq, hc⟩
   obtain rfl : q = p := by omega
   obtain ⟨a, ha⟩ := Nat.exists_testBit_of_ne_zero hx0
   have hsub := zTk.1 hx
   refine (zrq h9 hS (hsub a ha)).2 ⟨x, hx, ha, hf, ?_⟩
   rw [← zls hsub h63]
   exact hc
  ·intro h
   obtain ⟨a, ha⟩ := Nat.exists_testBit_of_ne_zero h0
   obtain ⟨x, hx, hxa, hf, hc⟩ := (zrq h9 hS ha).1 h
   refine ⟨x, fun e => ?_, hx, hf, p, rfl, ?_⟩
   ·subst e; simp at hxa
   ·show CanL _ _ _ _
    rw [zls (zTk.1 hx) h63]
    exact hc
theorem znv {k : Nat} {f : zd} (hk : Fuel k f) (hF : Fine f) {v1 : SL Bool} (h1 : ∀ S, S < 2 ^ nS f → ∃ b, v1.1[S]? = some b ∧ (b = true ↔ zub (TT f) (UU f) (mem (nS f) S))) {S : Nat} (hS : S < 2 ^ nS f) (h0 : S ≠ 0) {out : List Int} (ho : ∀ x, x < S → ∃ v, out[x]? = some v ∧ zCq f x v) :
  Ok (iter (fun s => zMb k f v1 (S : Int) out s.1 s.2) k (99, (S : Int))) (fun r => zCq f S r.1) := by
 have h9 := hF.nslips
 have hk0 := hk.k0
 have h512 := zHm h9
 have h63 : S < 2 ^ 63 := by omega
 refine Ok.iter (fun j s => ∃ part : Nat, s.2 = (part : Int) ∧ part + j ≤ S ∧ part &&& S = part ∧ (1 ≤ s.1 ∧ s.1 ≤ 99) ∧ ∀ p : Nat, p < 99 → (s.1 ≤ (p : Int) ↔ ∃ x, part < x ∧ ztn f S x p)) S ?_ ⟨S, rfl, by omega, Nat.and_self S, ⟨by show (1 : Int) ≤ 99; omega, Int.le_refl _⟩, fun p hp => ?_⟩ (by omega)
 ·rintro j ⟨best, pt⟩ hj ⟨part, hpt, hpj, hsub, hbest, hiff⟩
  obtain rfl : pt = (part : Int) := hpt
  have hbest : 1 ≤ best ∧ best ≤ 99 := hbest
  have hiff : ∀ p : Nat, p < 99 → (best ≤ (p : Int) ↔ ∃ x, part < x ∧ ztn f S x p) := hiff
  by_cases hp0 : part = 0
  ·subst hp0
   have c1 : decide (((0 : Nat) : Int) > 0) = false := by decide
   simp only [zMb, c1, cond_false]
   refine Ok.pure ⟨⟨by show 0 ≤ best; omega, hbest.2⟩, fun p hp => ?_⟩
   show best ≤ (p : Int) ↔ _
   rw [hiff p hp, ← zBv h9 hS h0 p]
   exact ⟨fun ⟨x, _, h⟩ => ⟨x, h⟩, fun ⟨x, h⟩ => ⟨x, Nat.pos_of_ne_zero h.1, h⟩⟩
  ·have c1 : decide ((part : Int) > 0) = true := decide_eq_true (by omega)
   have hpS : part ≤ S := by omega
   obtain ⟨b, hb, hbf⟩ := h1 part (by omega)
   have eb : idx v1.1 (part : Int) = some b := by simpa [idx] using hb
   have w1 : w64 ((part : Int) - 1) = ((part - 1 : Nat) : Int) := by rw [zL (by omega) (by omega)]; omega
   have ea : zSc ((part - 1 : Nat) : Int) (S : Int) = (((part - 1) &&& S : Nat) : Int) := zYu (by omega) h63
   have hle : (part - 1) &&& S ≤ part - 1 := Nat.and_le_left
   have hnext : ∀ x, x &&& S = x → ((part - 1) &&& S < x ↔ x = part ∨ part < x) := fun x hx => by
    constructor
    ·intro h
     rcases Nat.lt_trichotomy x part with h2 | h2 | h2
     ·have := z2t part x S hsub hx h2
      omega
     ·exact .inl h2
     ·exact .inr h2
    ·rintro (rfl | h) <;> omega
   have hsub2 : ((part - 1) &&& S) &&& S = (part - 1) &&& S := by rw [Nat.and_assoc, Nat.and_self]
   simp only [zMb, c1, cond_true, eb, Option.bind_some, w1, ea]
   have step : ∀ best' : Int, (∀ p : Nat, p < 99 → (best' ≤ (p : Int) ↔ best ≤ (p : Int) ∨ ztn f S part p)) → ∀ p : Nat, p < 99 → (best' ≤ (p : Int) ↔ ∃ x, (part - 1) &&& S < x ∧ ztn f S x p) := fun best' h p hp => by
    rw [h p hp, hiff p hp]
    constructor
    ·rintro (⟨x, h2, h3⟩ | h2)
     ·exact ⟨x, (hnext x h3.2.1).2 (.inr h2), h3⟩
     ·exact ⟨part, (hnext part hsub).2 (.inl rfl), h2⟩
    ·rintro ⟨x, h2, h3⟩
     rcases (hnext x h3.2.1).1 h2 with rfl | h4
     ·exact .inr h3
     ·exact .inl ⟨x, h4, h3⟩
   cases b with
   | false =>
    simp only [zfc, cond_false, Option.bind_some]
    refine Ok.pure ⟨by omega, (part - 1) &&& S, rfl, by omega, hsub2, hbest, step best fun p hp => ?_⟩
    refine ⟨.inl, fun h => h.resolve_right fun h2 => ?_⟩
    have := hbf.2 h2.2.2.1
    cases this
   | true =>
    have hfit := hbf.1 rfl
    obtain ⟨v, hv, hmv, hmi⟩ := ho (S - part) (by omega)
    have w2 : w64 ((S : Int) - (part : Int)) = ((S - part : Nat) : Int) := by rw [zL (by omega) (by omega)]; omega
    have ev : idx out ((S - part : Nat) : Int) = some v := by simpa [idx] using hv
    have w3 : w64 (1 + v) = 1 + v := zL (by omega) (by omega)
    simp only [zfc, cond_true, w2, ev, w3, Option.bind_some]
    have hsp : ∀ p : Nat, p < 99 → (1 + v ≤ (p : Int) ↔ ztn f S part p) := fun p hp => by
     constructor
     ·intro h
      refine ⟨hp0, hsub, hfit, p - 1, by omega, (hmi (p - 1) (by omega)).1 (by omega)⟩
     ·rintro ⟨_, _, _, q, rfl, hc⟩
      have := (hmi q (by omega)).2 hc
      omega
    refine Ok.pure ⟨by omega, (part - 1) &&& S, rfl, by omega, hsub2, ?_, step _ fun p hp => ?_⟩
    ·show 1 ≤ (if 1 + v < best then 1 + v else best) ∧ (if 1 + v < best then 1 + v else best) ≤ 99
     split <;> omega
    ·rw [← hsp p hp]
     split <;> omega
 ·constructor
  ·intro h
   have : (99 : Int) ≤ p := h
   omega
  ·rintro ⟨x, h1, h2⟩
   have : x ≤ S := zOq (zTk.1 h2.2.1)
   omega
theorem zJv {k : Nat} {f : zd} (hs : zeb f) (hk : Fuel k f) (hF : Fine f) : Ok (zcd k f) (fun r => ∀ S, S < 2 ^ nS f → ∃ v, r.1[S]? = some v ∧ zCq f S v) := by
 have h9 := hF.nslips
 have h0 := hk.k0
 have h512 := zHm h9
 have hpos : 0 < 2 ^ nS f := Nat.two_pow_pos _
 unfold zcd
 refine Ok.bind (z3x hs hk hF) fun v1 ⟨hl1, hb1⟩ => ?_
 refine Ok.bind (P := fun v : Int × List Int => ∀ S, S < 2 ^ nS f → ∃ u, v.2[S]? = some u ∧ zCq f S u) ?_ fun v hv => Ok.pure hv
 refine Ok.count (2 ^ nS f - 1) (fun j s => s.1 = ((j + 1 : Nat) : Int) ∧ s.2.length = j + 1 ∧ ∀ S, S < j + 1 → ∃ u, s.2[S]? = some u ∧ zCq f S u) ?_ ?_ ⟨rfl, rfl, fun S hS => ?_⟩ (by omega)
 ·rintro j ⟨j', l⟩ hj ⟨hj', hl, hb⟩
  obtain rfl : j' = ((j + 1 : Nat) : Int) := hj'
  have hl : l.length = j + 1 := hl
  have c1 : decide (((j + 1 : Nat) : Int) < (v1.1.length : Int)) = true := decide_eq_true (by omega)
  have c2 : decide (l.length + 1 ≤ LIM) = true := zLt (by omega)
  simp only [znc, c1, cond_true]
  refine Ok.bind (znv hk hF hb1 (S := j + 1) (by omega) (by omega) hb) fun r hr => ?_
  rw [c2, cond_true]
  refine Ok.pure ⟨z6 (n := 600) (by omega) (by omega), by show (l ++ [r.1]).length = _; rw [List.length_append]; simp [hl], fun S hS => ?_⟩
  show ∃ u, (l ++ [r.1])[S]? = some u ∧ _
  by_cases e : S = j + 1
  ·subst e
   exact ⟨r.1, by rw [List.getElem?_append_right (by omega)]; simp [hl], hr⟩
  ·obtain ⟨u, h1, h2⟩ := hb S (by omega)
   exact ⟨u, by rw [List.getElem?_append_left (by omega)]; exact h1, h2⟩
 ·rintro ⟨j', l⟩ ⟨hj', hl, hb⟩
  obtain rfl : j' = ((2 ^ nS f - 1 + 1 : Nat) : Int) := hj'
  have c1 : decide (((2 ^ nS f - 1 + 1 : Nat) : Int) < (v1.1.length : Int)) = false := decide_eq_false (by omega)
  simp only [znc, c1, cond_false]
  exact Ok.pure fun S hS => hb S (by omega)
 ·obtain rfl : S = 0 := by omega
  refine ⟨0, rfl, ⟨by omega, by omega⟩, fun p _ => ⟨fun _ => ?_, fun _ => by omega⟩⟩
  have : mem (nS f) 0 = [] := by simp [mem]
  show CanL _ _ _ _
  rw [this]
  exact CanL.nil p
def z4v (f : zd) (r : Int × Int) : Prop :=
 (¬ Fine f ∧ r = (0, 30)) ∨ (Fine f ∧ ∃ p : Nat, p ≤ 5 ∧ z2o f p ∧ r = ((p : Int), 0)) ∨ (Fine f ∧ r = (0, 4) ∧ ∀ q, 1 ≤ q → q ≤ 5 → ¬ zYe f q)
theorem zdw {k : Nat} {f : zd} (hs : zeb f) (hk : Fuel k f) : Ok (zXc k f) (z4v f) := by
 unfold zXc
 obtain ⟨c, hc, hc'⟩ := zys hs hk
 rw [hc]
 by_cases hF : Fine f
 ·rw [if_pos hF] at hc'
  subst hc'
  have t : ((0 : Int) != 0) = false := by decide
  simp only [Option.bind_some, t, cond_false]
  have h9 := hF.nslips
  refine Ok.bind (zJv hs hk hF) fun v4 h4 => ?_
  obtain ⟨v, hv, hmv, hmi⟩ := h4 (allS (nS f)) (z3u _)
  have cz : decide ((f.Slips.1.length : Int) < 0) = false := by simp
  have es : w64 (zo 1 (f.Slips.1.length : Int) - 1) = ((allS (nS f) : Nat) : Int) := z4r h9
  have ev : idx v4.1 ((allS (nS f) : Nat) : Int) = some v := by simpa [idx] using hv
  have hmi : ∀ p : Nat, p < 99 → (v ≤ (p : Int) ↔ zYe f p) := fun p hp => (hmi p hp).trans (zSu f p)
  simp only [cz, cond_false, es, ev, Option.bind_some]
  obtain ⟨m, hm⟩ : ∃ m : Nat, (if v > 1 then v else 1) = (m : Int) := ⟨(if v > 1 then v else 1).toNat, by split <;> omega⟩
  rw [hm]
  have hm2 : (m : Int) = v ∧ 1 < v ∨ m = 1 ∧ v ≤ 1 := by split at hm <;> omega
  by_cases h5 : (m : Int) > 5
  ·rw [decide_eq_true h5]
   refine Ok.pure (.inr (.inr ⟨hF, rfl, fun q h1 hq hc => ?_⟩))
   have := (hmi q (by omega)).2 hc
   omega
  ·rw [decide_eq_false h5]
   refine Ok.pure (.inr (.inl ⟨hF, m, by omega, ⟨by omega, (hmi m (by omega)).1 (by omega), fun q h1 hq hc => ?_⟩, rfl⟩))
   have := (hmi q (by omega)).2 hc
   omega
 ·rw [if_neg hF] at hc'
  subst hc'
  have t : ((30 : Int) != 0) = true := by decide
  simp only [Option.bind_some, t, cond_true]
  exact Ok.pure (.inl ⟨hF, rfl⟩)
end Go.AM
set_option linter.unusedVariables false
namespace Go.AM
open Go
theorem zEt {k : Nat} {f : zd} (hs : zeb f) (hk : Fuel k f) (b : Bool) : (¬ Fine f → zWb k f b = some 30) ∧ (Fine f → zWb k f b = some (if b = true then 0 else 31)) := by
 unfold zWb
 obtain ⟨c, hc, hc'⟩ := zys hs hk
 rw [hc]
 refine ⟨fun hF => ?_, fun hF => ?_⟩
 ·rw [if_neg hF] at hc'
  subst hc'
  rfl
 ·rw [if_pos hF] at hc'
  subst hc'
  cases b <;> rfl
end Go.AM
set_option linter.unusedVariables false
namespace Go.AM
open Go
theorem zGu {f : zd} (hs : zeb f) (k : Nat) (n : Int) : zhd k f n = some (decide (0 ≤ n) && decide (n ≤ (nS f : Int) - 1)) := by
 have wn : w64 ((f.Slips.1.length : Int) - 1) = (nS f : Int) - 1 := zCn hs.slips
 simp only [zhd, zij, Option.bind_some, wn]
def zJq (n : Nat) (A : List Nat) (l : List Int) (q : List Nat) : Prop := l = ints q ∧ q.Nodup ∧ ∀ x ∈ q, x < n ∧ x ∉ A
def z9n (n : Nat) (A : List Nat) (met : List Int) : Prop := met.length = n ∧ ∀ x, x < n → met[x]? = some (if x ∈ A then 1 else 0)
theorem zwu {k : Nat} {f : zd} (hs : zeb f) {p1 : SL (SL Int)} {i : Nat} (hi : i < p1.1.length) (hrow : p1.1[i].1.length < k ∧ p1.1[i].1.length < 9223372036854775808) {A : List Nat} {met : List Int} (hm : z9n (nS f) A met) :
  Ok (iter (fun s => zAb k f p1 (i : Int) s.1 s.2) k (0, met)) (fun r => match r with
   | .inl _ => ∀ q, ¬ zJq (nS f) A p1.1[i].1 q
   | .inr z => ∃ q, zJq (nS f) A p1.1[i].1 q ∧ z9n (nS f) (A ++ q) z.2) := by
 have hns : nS f < 9223372036854775808 := hs.slips
 have e1 : idx p1.1 (i : Int) = some p1.1[i] := zcb hi
 obtain ⟨row, hre⟩ : ∃ row, row = p1.1[i] := ⟨_, rfl⟩
 rw [← hre] at hrow e1 ⊢
 refine Ok.count row.1.length (fun j s => s.1 = (j : Int) ∧ ∃ q, zJq (nS f) A (row.1.take j) q ∧ z9n (nS f) (A ++ q) s.2) ?_ ?_ ⟨rfl, [], ⟨rfl, List.nodup_nil, fun x hx => by cases hx⟩, by rw [List.append_nil]; exact hm⟩ hrow.1
 ·rintro j ⟨j', mt⟩ hj ⟨hj', q, hq, hmt⟩
  obtain rfl : j' = (j : Int) := hj'
  have hmt : z9n (nS f) (A ++ q) mt := hmt
  have hbad : (∀ v : Nat, row.1[j] = (v : Int) → v < nS f → v ∈ A ++ q) → ∀ q', ¬ zJq (nS f) A row.1 q' := fun hv q' hq' => by
   obtain ⟨h1, h2, h3⟩ := hq'
   have hlen : row.1.length = q'.length := by rw [h1, zjj]
   have hj' : j < q'.length := by omega
   have e1 : row.1[j] = ((q'[j] : Nat) : Int) := by
    have := zbo hj'
    rw [← h1, zcb hj] at this
    exact Option.some.inj this
   have hx := h3 _ (List.getElem_mem hj')
   have hin := hv _ e1 hx.1
   have e2 : q = q'.take j := by
    apply zLp
    rw [← hq.1, h1, zGo]
   rcases List.mem_append.1 hin with h | h
   ·exact hx.2 h
   ·rw [e2, List.mem_take_iff_getElem] at h
    obtain ⟨i, hi, e⟩ := h
    have := (List.getElem_inj h2).1 e
    omega
  simp only [zAb, z3c, e1, zFb hj, cond_true, zcb hj, Option.bind_some, zGu hs]
  by_cases hin : 0 ≤ row.1[j] ∧ row.1[j] ≤ (nS f : Int) - 1
  ·obtain ⟨v, hv⟩ : ∃ v : Nat, row.1[j] = (v : Int) := ⟨row.1[j].toNat, by omega⟩
   have hvn : v < nS f := by omega
   have c1 : (!(decide (0 ≤ row.1[j]) && decide (row.1[j] ≤ (nS f : Int) - 1))) = false := by simp only [Bool.not_eq_false', Bool.and_eq_true, decide_eq_true_eq]; exact hin
   rw [c1, hv]
   have hml : v < mt.length := by rw [hmt.1]; exact hvn
   have ev : idx mt (v : Int) = some (if v ∈ A ++ q then 1 else 0) := by simpa [idx] using hmt.2 v hvn
   simp only [cond_false, ev, Option.bind_some]
   by_cases hmem : v ∈ A ++ q
   ·rw [if_pos hmem]
    exact Ok.pure (hbad fun w hw _ => by
     have : w = v := by rw [hv] at hw; omega
     subst this; exact hmem)
   ·rw [if_neg hmem]
    have w1 : w64 ((0 : Int) + 1) = 1 := rfl
    simp only [show decide ((0 : Int) > 0) = false from rfl, cond_false, w1, Int.toNat_natCast]
    have hnA : v ∉ A := fun h => hmem (List.mem_append.2 (.inl h))
    have hnq : v ∉ q := fun h => hmem (List.mem_append.2 (.inr h))
    refine Ok.pure ⟨z6 hj hrow.2, q ++ [v], ⟨?_, ?_, ?_⟩, ?_, fun x hx => ?_⟩
    ·rw [List.take_succ_eq_append_getElem hj, hq.1, hv, zqs]
    ·rw [List.nodup_append]
     refine ⟨hq.2.1, by simp, fun a ha b hb' => ?_⟩
     obtain rfl : b = v := by simpa using hb'
     intro e
     subst e
     exact hnq ha
    ·intro x hx
     rcases List.mem_append.1 hx with h | h
     ·exact hq.2.2 x h
     ·obtain rfl : x = v := by simpa using h
      exact ⟨hvn, hnA⟩
    ·show (mt.set v 1).length = _
     rw [List.length_set]; exact hmt.1
    ·show (mt.set v 1)[x]? = _
     by_cases e : x = v
     ·subst e
      rw [List.getElem?_set_self hml]
      rw [if_pos (by simp)]
     ·rw [List.getElem?_set_ne (fun h => e h.symm), hmt.2 x hx]
      have : (x ∈ A ++ (q ++ [v])) ↔ x ∈ A ++ q := by
       simp only [List.mem_append, List.mem_singleton]
       constructor
       ·rintro (h | h | h)
        ·exact .inl h
        ·exact .inr h
        ·exact absurd h e
       ·rintro (h | h)
        ·exact .inl h
        ·exact .inr (.inl h)
      simp only [this]
  ·have c1 : (!(decide (0 ≤ row.1[j]) && decide (row.1[j] ≤ (nS f : Int) - 1))) = true := by
    cases hd : (decide (0 ≤ row.1[j]) && decide (row.1[j] ≤ (nS f : Int) - 1)) with
    | false => rfl
    | true => simp only [Bool.and_eq_true, decide_eq_true_eq] at hd; exact absurd hd hin
   rw [c1]
   simp only [cond_true, Option.bind_some]
   exact Ok.pure (hbad fun v hv hn => absurd hin (by rw [hv]; omega))
 ·rintro ⟨j', mt⟩ ⟨hj', q, hq, hmt⟩
  obtain rfl : j' = (row.1.length : Int) := hj'
  simp only [zAb, e1, Option.bind_some, zkc, cond_false]
  rw [List.take_length] at hq
  exact Ok.pure ⟨q, hq, hmt⟩
theorem zRw {k n : Nat} {A : List Nat} {met : List Int} (hk : n < k) (hn : n < 9223372036854775808) (hm : z9n n A met) (c : Cap) : Ok (zzd k (met, c)) (fun r => r = (((List.range n).filter fun x => A.contains x).length : Int)) := by
 unfold zzd
 refine Ok.bind (P := fun v : Int × Int => v.1 = (((List.range n).filter fun x => A.contains x).length : Int)) ?_ fun v hv => Ok.pure hv
 refine Ok.count n (fun j s => s.2 = (j : Int) ∧ s.1 = (((List.range j).filter fun x => A.contains x).length : Int)) ?_ ?_ ⟨rfl, rfl⟩ hk
 ·rintro j ⟨t, j'⟩ hj ⟨hj', ht⟩
  obtain rfl : j' = (j : Int) := hj'
  obtain rfl : t = _ := ht
  have c1 : decide ((j : Int) < (met.length : Int)) = true := by rw [hm.1]; exact decide_eq_true (by omega)
  have e1 : idx met (j : Int) = some (if j ∈ A then 1 else 0) := by simpa [idx] using hm.2 j hj
  have hle : ((List.range j).filter fun x => A.contains x).length ≤ j := by
   have := List.length_filter_le (fun x => A.contains x) (List.range j)
   rwa [List.length_range] at this
  simp only [zCc, c1, cond_true, e1, Option.bind_some]
  refine Ok.pure ⟨z6 hj hn, ?_⟩
  rw [List.range_succ, List.filter_append, List.length_append]
  by_cases h : j ∈ A
  ·have : List.filter (fun x => A.contains x) [j] = [j] := by simp [List.filter, h]
   rw [if_pos h, this, zL (by omega) (by omega)]
   push_cast
   rfl
  ·have : List.filter (fun x => A.contains x) [j] = [] := by simp [List.filter, h]
   rw [if_neg h, this, zL (by omega) (by omega)]
   simp
 ·rintro ⟨t, j'⟩ ⟨hj', ht⟩
  obtain rfl : j' = (n : Int) := hj'
  have c1 : decide ((n : Int) < (met.length : Int)) = false := by rw [hm.1]; exact decide_eq_false (by omega)
  simp only [zCc, c1, cond_false]
  exact Ok.pure ht
theorem zOv {n : Nat} {A : List Nat} (hn : A.Nodup) (hl : ∀ x ∈ A, x < n) : ((List.range n).filter fun x => A.contains x).length = n ↔ A.Perm (List.range n) := by
 constructor
 ·intro h
  have h1 : ((List.range n).filter fun x => A.contains x).length = (List.range n).length := by rw [h, List.length_range]
  have h2 := List.length_filter_eq_length_iff.1 h1
  refine (List.perm_ext_iff_of_nodup hn List.nodup_range).2 fun x => ⟨fun hx => List.mem_range.2 (hl x hx), fun hx => by simpa using h2 x hx⟩
 ·intro h
  have h2 : ∀ a ∈ List.range n, A.contains a = true := fun a ha => by simpa using h.mem_iff.2 ha
  have := List.length_filter_eq_length_iff.2 h2
  rwa [List.length_range] at this
theorem zvu {k : Nat} {f : zd} (hs : zeb f) (hk : Fuel k f) (hL : nS f ≤ LIM) (p1 : SL (SL Int)) (hl : 1 ≤ p1.1.length ∧ p1.1.length ≤ 5) (hR : zOn k p1.1) : Ok (zJc k f p1) (fun r => r = true ↔ ∃ qs, Rost f p1.1 qs) := by
 unfold zJc
 have hns : nS f < 9223372036854775808 := hs.slips
 have c0 : (decide (0 ≤ (f.Slips.1.length : Int)) && decide ((f.Slips.1.length : Int) ≤ (LIM : Int))) = true := by
  simp only [Bool.and_eq_true, decide_eq_true_eq]
  exact ⟨by omega, by have : f.Slips.1.length = nS f := rfl; omega⟩
 rw [c0, cond_true]
 refine Ok.bind (Ok.count p1.1.length (fun j s => s.1 = (j : Int) ∧ ∃ qs, Part (nS f) (p1.1.take j) qs ∧ z9n (nS f) qs.flatten s.2) (Q := fun r : (Int × Int × Int × List Int) ⊕ (Int × List Int) => match r with
   | .inl _ => ∀ qs, ¬ Part (nS f) p1.1 qs
   | .inr z => ∃ qs, Part (nS f) p1.1 qs ∧ z9n (nS f) qs.flatten z.2) ?_ ?_ ⟨rfl, [], ⟨rfl, List.nodup_nil, fun x hx => by cases hx⟩, by show (List.replicate (f.Slips.1.length : Int).toNat (0 : Int)).length = _; rw [List.length_replicate]; rfl, fun x hx => ?_⟩ hR.1.1) fun r hr => ?_
 ·rintro j ⟨j', met⟩ hj ⟨hj', qs, hq, hm⟩
  obtain rfl : j' = (j : Int) := hj'
  simp only [z1b, zFb hj, cond_true]
  refine Ok.bind (zwu hs hj (hR.2 _ (List.getElem_mem hj)) hm) fun r hr => ?_
  cases r with
  | inl z =>
   refine Ok.pure fun qs' hq' => ?_
   have hj' : j < qs'.length := by have := hq'.1.len; omega
   have e : qs = qs'.take j := hq.1.eq (hq'.1.take j)
   refine hr qs'[j] ⟨hq'.1.get hj, (zIi.1 hq'.2.1).1 _ (List.getElem_mem hj'), fun x hx => ⟨hq'.2.2 x (List.mem_flatten.2 ⟨_, List.getElem_mem hj', hx⟩), fun h1 => ?_⟩⟩
   rw [e] at h1
   obtain ⟨q, hq1, hq2⟩ := List.mem_flatten.1 h1
   obtain ⟨i, hi, rfl⟩ := List.mem_take_iff_getElem.1 hq1
   have := z7n hq'.2.1 (by omega) hj' hq2 hx
   omega
  | inr z =>
   obtain ⟨q, hfr, hm'⟩ := hr
   refine Ok.pure ⟨z6 hj hR.1.2, qs ++ [q], ⟨?_, ?_, ?_⟩, ?_⟩
   ·unfold Rows
    rw [List.take_succ_eq_append_getElem hj, List.map_append, List.map_append, hq.1]
    simp [hfr.1]
   ·rw [List.flatten_append, List.nodup_append]
    refine ⟨hq.2.1, by simpa using hfr.2.1, fun a ha b hb2 e => ?_⟩
    subst e
    exact (hfr.2.2 a (by simpa using hb2)).2 ha
   ·intro x hx
    rw [List.flatten_append] at hx
    rcases List.mem_append.1 hx with h | h
    ·exact hq.2.2 x h
    ·exact (hfr.2.2 x (by simpa using h)).1
   ·rw [List.flatten_append]
    have : [q].flatten = q := by simp
    rw [this]
    exact hm'
 ·rintro ⟨j', met⟩ ⟨hj', qs, hq, hm⟩
  obtain rfl : j' = (p1.1.length : Int) := hj'
  simp only [z1b, zkc, cond_false]
  rw [List.take_length] at hq
  exact Ok.pure ⟨qs, hq, hm⟩
 ·show (List.replicate (f.Slips.1.length : Int).toNat (0 : Int))[x]? = _
  rw [List.getElem?_replicate]
  have : x < (f.Slips.1.length : Int).toNat := by rw [Int.toNat_natCast]; exact hx
  rw [if_pos this]
  simp
 ·cases r with
  | inl z =>
   exact Ok.pure ⟨fun h => (by cases h), fun ⟨qs, h⟩ => absurd ⟨h.2.1, (h.2.2.nodup_iff).2 List.nodup_range, fun x hx => List.mem_range.1 (h.2.2.mem_iff.1 hx)⟩ (hr qs)⟩
  | inr z =>
   obtain ⟨qs, hq, hm⟩ := hr
   simp only [Sum.elim_inr]
   refine Ok.bind (zRw hk.slips hns hm _) fun t ht => Ok.pure ?_
   subst ht
   have e : ((((List.range (nS f)).filter fun x => qs.flatten.contains x).length : Int) == (f.Slips.1.length : Int)) = true ↔ ((List.range (nS f)).filter fun x => qs.flatten.contains x).length = nS f := by
    rw [beq_iff_eq]
    have : f.Slips.1.length = nS f := rfl
    omega
   rw [e, zOv hq.2.1 hq.2.2]
   constructor
   ·intro h
    exact ⟨qs, hl, hq.1, h⟩
   ·rintro ⟨qs', _, h2, h3⟩
    obtain rfl := hq.1.eq h2
    exact h3
theorem zyx {k : Nat} {f : zd} (hs : zeb f) (hk : Fuel k f) (hF : Fine f) {p1 : SL (SL Int)} (v1 : Int) {i : Nat} (hi : i < p1.1.length) {q : List Nat} (hrow : p1.1[i].1 = ints q) (hq : ∀ x ∈ q, x < nS f) (hn : q.Nodup) (hl : q.length ≤ 9) {out : List zp} (ho : out.length = nS f) :
  Ok (iter (fun s => z5b k f p1 v1 (i : Int) s.1 s.2.1 s.2.2.1 s.2.2.2) k (0, out, 0, 0)) (fun r => r.2.1.length = nS f ∧ (∀ j (h : j < q.length), r.2.1[q[j]]? = some (zWi f q j)) ∧ ∀ x, x ∉ q → r.2.1[x]? = out[x]?) := by
 have h9 := hF.nslips
 have hlen : p1.1[i].1.length = q.length := by rw [hrow, zjj]
 have h0 := hk.k0
 have e0 : idx p1.1 (i : Int) = some p1.1[i] := zcb hi
 have z4n : ∀ a b, zK k a b = some ⟨a, b⟩ := fun _ _ => rfl
 refine Ok.count q.length (fun j s => s.1 = (j : Int) ∧ s.2.2.1 = sumT (LL f) (q.take j) ∧ s.2.2.2 = sumT (TT f) (q.take j) ∧ s.2.1.length = nS f ∧ (∀ i (h : i < q.length), i < j → s.2.1[q[i]]? = some (zWi f q i)) ∧ ∀ x, x ∉ q → s.2.1[x]? = out[x]?) ?_ ?_ ⟨rfl, rfl, rfl, ho, fun i _ h => absurd h (by omega), fun x _ => rfl⟩ (by omega)
 ·rintro j ⟨i', o, lo, hi2⟩ hj ⟨hi', hlo, hhi, hol, hd, hx⟩
  obtain rfl : i' = (j : Int) := hi'
  obtain rfl : lo = sumT (LL f) (q.take j) := hlo
  obtain rfl : hi2 = sumT (TT f) (q.take j) := hhi
  have hol : o.length = nS f := hol
  have hqj := hq _ (List.getElem_mem hj)
  have e1 : idx p1.1[i].1 (j : Int) = some ((q[j] : Nat) : Int) := by rw [hrow]; exact zbo hj
  have e2 : idx o ((q[j] : Nat) : Int) = some (o[q[j]]'(by omega)) := zcb _
  have c1 : decide ((j : Int) < (p1.1[i].1.length : Int)) = true := by rw [hlen]; simp; omega
  have s1 := zbx hF (q := q.take j) (fun x hx => hq x (List.mem_of_mem_take hx)) (by rw [List.length_take]; omega)
  have s2 := zyv hF hqj
  have s3 := zgp hF hqj
  have t1 : sumT (LL f) (q.take (j + 1)) = sumT (LL f) (q.take j) + LL f q[j] := by rw [List.take_succ_eq_append_getElem hj, zSj]
  have t2 : sumT (TT f) (q.take (j + 1)) = sumT (TT f) (q.take j) + TT f q[j] := by rw [List.take_succ_eq_append_getElem hj, zSj]
  have w1 : w64 (sumT (LL f) (q.take j) + LL f q[j]) = sumT (LL f) (q.take (j + 1)) := by rw [t1]; exact zL (by omega) (by omega)
  have w2 : w64 (sumT (TT f) (q.take j) + TT f q[j]) = sumT (TT f) (q.take (j + 1)) := by rw [t2]; exact zL (by omega) (by omega)
  simp only [z5b, e0, c1, cond_true, e1, Option.bind_some, zFs hk hF hqj, z4n, e2, w1, w2, Int.toNat_natCast]
  refine Ok.pure ⟨z6 hj (by omega), rfl, rfl, by simpa using hol, fun i hi hij => ?_, fun x hxq => ?_⟩
  ·show (o.set q[j] (zWi f q j))[q[i]]? = _
   by_cases e : i = j
   ·subst e
    rw [List.getElem?_set_self (by omega)]
   ·have hne : q[j] ≠ q[i] := fun h => e ((List.getElem_inj hn).1 h).symm
    rw [List.getElem?_set_ne hne]
    exact hd i hi (by omega)
  ·show (o.set q[j] _)[x]? = _
   have hne : q[j] ≠ x := fun h => hxq (h ▸ List.getElem_mem hj)
   rw [List.getElem?_set_ne hne]
   exact hx x hxq
 ·rintro ⟨i', o, lo, hi2⟩ ⟨hi', hlo, hhi, hol, hd, hx⟩
  obtain rfl : i' = (q.length : Int) := hi'
  have c1 : decide ((q.length : Int) < (p1.1[i].1.length : Int)) = false := by rw [hlen]; simp
  simp only [z5b, e0, c1, cond_false, Option.bind_some]
  exact Ok.pure ⟨hol, fun i hi => hd i hi hi, hx⟩
theorem zwt {k : Nat} {f : zd} (hs : zeb f) (hk : Fuel k f) (hL : nS f ≤ LIM) {p1 : SL (SL Int)} (hR : zOn k p1.1) : Ok (zVc k f p1) (zDn f p1.1) := by
 unfold zVc
 have hJ : Ok (z0c k f p1) (fun r => (¬ Fine f → r = 30) ∧ (Fine f → ((∃ qs, Rost f p1.1 qs) → r = 0) ∧ ((¬ ∃ qs, Rost f p1.1 qs) → r = 31))) := by
  unfold z0c
  simp only [zij, Option.bind_some]
  refine Ok.cond (fun hc => ?_) fun hc => ?_
  ·have hl : 1 ≤ p1.1.length ∧ p1.1.length ≤ 5 := by
    simp only [Bool.and_eq_true, decide_eq_true_eq] at hc
    omega
   refine Ok.bind (zvu hs hk hL p1 hl hR) fun r hr => ?_
   obtain ⟨a1, a2⟩ := zEt hs hk r
   by_cases hF : Fine f
   ·rw [a2 hF]
    refine Ok.pure ⟨fun h => absurd hF h, fun _ => ⟨fun h => ?_, fun h => ?_⟩⟩
    ·rw [hr.2 h]; rfl
    ·have : r = false := by
      cases r with
      | false => rfl
      | true => exact absurd (hr.1 rfl) h
     rw [this]; rfl
   ·rw [a1 hF]
    exact Ok.pure ⟨fun _ => rfl, fun h => absurd h hF⟩
  ·have hl : ¬ (1 ≤ p1.1.length ∧ p1.1.length ≤ 5) := fun h => by
    have : (decide (1 ≤ (p1.1.length : Int)) && decide ((p1.1.length : Int) ≤ 5)) = true := by
     simp only [Bool.and_eq_true, decide_eq_true_eq]; omega
    rw [this] at hc
    cases hc
   obtain ⟨a1, a2⟩ := zEt hs hk false
   by_cases hF : Fine f
   ·rw [a2 hF]
    exact Ok.pure ⟨fun h => absurd hF h, fun _ => ⟨fun ⟨qs, h⟩ => absurd h.1 hl, fun _ => rfl⟩⟩
   ·rw [a1 hF]
    exact Ok.pure ⟨fun _ => rfl, fun h => absurd h hF⟩
 refine Ok.bind hJ fun v1 ⟨g1, g2⟩ => ?_
 by_cases hF : Fine f
 ·obtain ⟨g3, g4⟩ := g2 hF
  by_cases hq : ∃ qs, Rost f p1.1 qs
  ·obtain rfl := g3 hq
   obtain ⟨qs, hq⟩ := hq
   have h9 := hF.nslips
   have hlen := hq.2.1.len
   have hnd : qs.flatten.Nodup := (hq.2.2.nodup_iff).2 List.nodup_range
   have hlt : ∀ q ∈ qs, ∀ x ∈ q, x < nS f := fun q h1 x h2 => List.mem_range.1 (hq.2.2.mem_iff.1 (List.mem_flatten.2 ⟨q, h1, h2⟩))
   have hl9 : ∀ q ∈ qs, q.length ≤ 9 := fun q h => by
    have h1 := zgq h
    have h2 := hq.2.2.length_eq
    rw [List.length_range] at h2
    omega
   have c2 : (decide (0 ≤ (f.Slips.1.length : Int)) && decide ((f.Slips.1.length : Int) ≤ (LIM : Int))) = true := by
    simp only [Bool.and_eq_true, decide_eq_true_eq]
    exact ⟨by omega, by have : f.Slips.1.length = nS f := rfl; omega⟩
   have t : ((0 : Int) != 0) = false := by decide
   have z4n : ∀ a b, zK k a b = some ⟨a, b⟩ := fun _ _ => rfl
   simp only [t, cond_false, c2, cond_true]
   refine Ok.bind (Ok.count p1.1.length (fun j s => s.1 = (j : Int) ∧ s.2.length = nS f ∧ z2i f (qs.take j) s.2) (Q := fun r : Int × List zp => r.2.length = nS f ∧ z2i f qs r.2) ?_ ?_ ⟨rfl, by simp, fun q hq => by simp at hq⟩ hR.1.1) fun v hv => Ok.pure (.inr (.inr ⟨hF, rfl, qs, hq, hv.1, hv.2⟩))
   ·rintro j ⟨i', o⟩ hj ⟨hi', hol, hd⟩
    obtain rfl : i' = (j : Int) := hi'
    have hj' : j < qs.length := by omega
    simp only [zUc, zFb hj, cond_true, z4n, Option.bind_some]
    refine Ok.bind (zyx hs hk hF 0 hj (hq.2.1.get hj) (hlt _ (List.getElem_mem hj')) ((zIi.1 hnd).1 _ (List.getElem_mem hj')) (hl9 _ (List.getElem_mem hj')) hol) fun r ⟨h1, h2, h3⟩ => Ok.pure ⟨z6 hj hR.1.2, h1, ?_⟩
    intro q hqm i hi
    rw [List.take_succ_eq_append_getElem hj'] at hqm
    rcases List.mem_append.1 hqm with h | h
    ·obtain ⟨a, ha, rfl⟩ := List.mem_take_iff_getElem.1 h
     have hni : (qs[a])[i] ∉ qs[j] := fun hm => by
      have := z7n hnd (by omega) hj' (List.getElem_mem hi) hm
      omega
     exact (h3 _ hni).trans (hd _ h i hi)
    ·obtain rfl : q = qs[j] := by simpa using h
     exact h2 i hi
   ·rintro ⟨i', o⟩ ⟨hi', hol, hd⟩
    obtain rfl : i' = (p1.1.length : Int) := hi'
    simp only [zUc, zkc, cond_false]
    rw [hlen, List.take_length] at hd
    exact Ok.pure ⟨hol, hd⟩
  ·obtain rfl := g4 hq
   exact Ok.pure (.inr (.inl ⟨hF, fun qs h => hq ⟨qs, h⟩, rfl, rfl⟩))
 ·obtain rfl := g1 hF
  exact Ok.pure (.inl ⟨hF, rfl, rfl⟩)
end Go.AM
set_option linter.unusedVariables false
namespace Go.AM
open Go
theorem z2i.eq {f : zd} {qs : List (List Nat)} {o o' : List zp} (hp : qs.flatten.Perm (List.range (nS f))) (h : z2i f qs o) (h' : z2i f qs o') (hl : o.length = nS f) (hl' : o'.length = nS f) : o = o' := by
 apply List.ext_getElem?
 intro x
 by_cases hx : x < nS f
 ·obtain ⟨q, hq, hxq⟩ := List.mem_flatten.1 (hp.mem_iff.2 (List.mem_range.2 hx))
  obtain ⟨j, hj, rfl⟩ := List.getElem_of_mem hxq
  rw [h q hq j hj, h' q hq j hj]
 ·rw [List.getElem?_eq_none (by omega), List.getElem?_eq_none (by omega)]
theorem zDn.eq {f : zd} {R : List (SL Int)} {r r' : SL zp × Int} (h : zDn f R r) (g : zDn f R r') : r.1.1 = r'.1.1 ∧ r.2 = r'.2 ∧ r.1.1.length ≤ 9 := by
 rcases h with ⟨h1, h2, h3⟩ | ⟨h1, h2, h3, h4⟩ | ⟨h1, h2, qs, h3, h4, h5⟩ <;> rcases g with ⟨g1, g2, g3⟩ | ⟨g1, g2, g3, g4⟩ | ⟨g1, g2, qs', g3, g4, g5⟩
 ·rw [h2, g2, h3, g3]; simp
 ·exact absurd g1 h1
 ·exact absurd g1 h1
 ·exact absurd h1 g1
 ·rw [h3, g3, h4, g4]; simp
 ·exact absurd g3 (h2 qs')
 ·exact absurd h1 g1
 ·exact absurd h3 (g2 qs)
 ·obtain rfl := h3.2.1.eq g3.2.1
  have := h1.nslips
  exact ⟨h5.eq h3.2.2 g5 h4 g4, by rw [h2, g2], by omega⟩
theorem zXs {k : Nat} {p q : SL zp} (hk : p.1.length < k) (hp : p.1.length < 9223372036854775808) (he : p.1 = q.1) : Ok (zHb k p q) (fun r => r = true) := by
 unfold zHb
 have e : ((p.1.length : Int) == (q.1.length : Int)) = true := by rw [he]; simp
 rw [e]
 refine Ok.bind (P := fun v : Bool × Int => v.1 = true) ?_ fun v hv => Ok.pure hv
 refine Ok.count p.1.length (fun j s => s.2 = (j : Int) ∧ s.1 = true) ?_ ?_ ⟨rfl, rfl⟩ hk
 ·rintro j ⟨b, j'⟩ hj ⟨hj', hb⟩
  obtain rfl : j' = (j : Int) := hj'
  obtain rfl : b = true := hb
  have e1 : idx q.1 (j : Int) = some p.1[j] := by rw [← he]; exact zcb hj
  simp only [zKb, zLb, cond_true, zFb hj, Option.bind_some, zcb hj, e1, BEq.rfl, Bool.and_true]
  exact Ok.pure ⟨z6 hj hp, rfl⟩
 ·rintro ⟨b, j'⟩ ⟨hj', hb⟩
  obtain rfl : j' = (p.1.length : Int) := hj'
  obtain rfl : b = true := hb
  simp only [zKb, zLb, cond_true, zkc, cond_false, Option.bind_some]
  exact Ok.pure rfl
theorem zms {k : Nat} {f : zd} (hs : zeb f) (hk : Fuel k f) (hL : nS f ≤ LIM) (hw : zzc k = some true) {R : SL (SL Int)} (hR : zOn k R.1) : zBb k f R = some true := by
 refine Ok.eq ?_
 have h0 := hk.k0
 unfold zBb
 refine Ok.bind (zMy hs hk hR) fun v1 h1 => ?_
 refine Ok.bind (zwt hs hk hL hR) fun v3 h3 => ?_
 obtain ⟨e1, e2, e3⟩ := h1.eq h3
 have hJ : zEb k f R v1 v3 = some false := by
  refine Ok.eq ?_
  unfold zEb
  refine Ok.bind (zXs (p := v1.1) (q := v3.1) (by omega) (by omega) e1) fun r hr => ?_
  subst hr
  rw [e2]
  refine Ok.pure ?_
  simp
 rw [hJ]
 simp only [Option.bind_some, cond_false]
 refine Ok.bind (zTw hs hk) fun v8 h8 => ?_
 refine Ok.bind (zdw hs hk) fun v10 h10 => ?_
 rcases h8 with ⟨hF, h8l, h8e⟩ | ⟨hF, h8e, p, hp5, hfew, hros⟩ | ⟨hF, h8e, h8l, hno⟩
 ·rcases h10 with ⟨_, rfl⟩ | ⟨h, _⟩ | ⟨h, _⟩
  ·have c1 : (v8.2 != (30 : Int)) = false := by rw [h8e]; rfl
   have c2 : ((30 : Int) != 0) = true := rfl
   have c3 : ((v8.1.1.length : Int) == 0) = true := by rw [h8l]; rfl
   simp only [c1, c2, c3, cond_true, cond_false, hw, Option.bind_some]
   exact Ok.pure rfl
  ·exact absurd h hF
  ·exact absurd h hF
 ·rcases h10 with ⟨h, _⟩ | ⟨_, q, hq5, hfewq, rfl⟩ | ⟨_, rfl, hno⟩
  ·exact absurd hF h
  ·obtain rfl := (zAs hfew hfewq.1).1 hfewq.2.1 |> fun h => Nat.le_antisymm h ((zAs hfewq hfew.1).1 hfew.2.1)
   obtain ⟨qs, hRo, hin⟩ := hros.rost ⟨hfew.1, hp5⟩
   obtain ⟨v8, e8⟩ := v8
   obtain rfl : e8 = 0 := h8e
   have hRo : Rost f v8.1 qs := hRo
   have hlp : v8.1.length = p := hros.1
   have t : ((0 : Int) != 0) = false := by decide
   simp only [t, cond_false]
   have hrow : ∀ l ∈ v8.1, l.1.length ≤ 9 := fun l hl => by
    obtain ⟨i, hi, rfl⟩ := List.getElem_of_mem hl
    have hiq : i < qs.length := by have := hRo.2.1.len; omega
    rw [hRo.2.1.get hi, zjj]
    have h1 := zgq (List.getElem_mem hiq)
    have h2 := hRo.2.2.length_eq
    rw [List.length_range] at h2
    have := hF.nslips
    omega
   have hlen5 := hRo.1.2
   have hSR : zOn k v8.1 := ⟨⟨by omega, by omega⟩, fun l hl => by have := hrow l hl; omega⟩
   refine Ok.bind (zwt hs hk hL hSR) fun v14 h14 => ?_
   rcases h14 with ⟨h, _⟩ | ⟨_, h, _⟩ | ⟨_, h14e, qs', hR', h14l, h14d⟩
   ·exact absurd hF h
   ·exact absurd hRo (h qs)
   obtain rfl : qs' = qs := hR'.2.1.eq hRo.2.1
   obtain ⟨⟨o, c⟩, e14⟩ := v14
   obtain rfl : e14 = 0 := h14e
   have h14l : o.length = nS f := h14l
   have h14d : z2i f qs' o := h14d
   have h9 := hF.nslips
   have c1 : ((v8.1.length : Int) != (p : Int)) = false := by rw [hlp]; simp
   simp only [zbc, t, cond_false, c1, Option.bind_some]
   refine Ok.bind (Ok.count o.length (fun j s => s = (j : Int)) (Q := fun r : Int ⊕ Int => ∃ z, r = .inr z) ?_ ?_ rfl (by omega)) fun r ⟨z, hz⟩ => ?_
   ·rintro j s hj rfl
    have hjn : j < nS f := by omega
    obtain ⟨q, hq, hxq⟩ := List.mem_flatten.1 (hRo.2.2.mem_iff.2 (List.mem_range.2 hjn))
    obtain ⟨a, ha, hja⟩ := List.getElem_of_mem hxq
    have hd := h14d q hq a ha
    have hun := InT.at (hin q hq) a ha
    rw [hja] at hd hun
    have e1 : idx o (j : Int) = some (zWi f q a) := by simpa [idx] using hd
    have c2 : decide ((zWi f q a).High > (slp f j).Until) = false := decide_eq_false (by
     show ¬ (sumT (TT f) (q.take (a + 1)) > UU f j)
     omega)
    simp only [zGb, zFb hj, cond_true, e1, zPe hjn, Option.bind_some, c2, cond_false]
    exact Ok.pure (z6 hj (by omega))
   ·rintro s rfl
    simp only [zGb, zkc, cond_false]
    exact Ok.pure ⟨_, rfl⟩
   ·subst hz
    simp only [Sum.elim_inr, hw, Option.bind_some]
    exact Ok.pure rfl
  ·exact absurd hfew.2.1 (hno p hfew.1 hp5)
 ·rcases h10 with ⟨h, _⟩ | ⟨_, q, hq5, hfewq, _⟩ | ⟨_, rfl, _⟩
  ·exact absurd hF h
  ·exact absurd hfewq.2.1 (hno q hfewq.1 hq5)
  ·have c1 : (v8.2 != (4 : Int)) = false := by rw [h8e]; rfl
   have c2 : ((4 : Int) != 0) = true := rfl
   have c3 : ((v8.1.1.length : Int) == 0) = true := by rw [h8l]; rfl
   simp only [c1, c2, c3, cond_true, cond_false, hw, Option.bind_some]
   exact Ok.pure rfl
end Go.AM
set_option linter.unusedVariables false
namespace Go.AM
open Go
def zQd (x : zp) : Prop := (-9223372036854775808 ≤ x.Low ∧ x.Low ≤ 9223372036854775807) ∧ (-9223372036854775808 ≤ x.High ∧ x.High ≤ 9223372036854775807) ∧ True
def zYf (x : zk) : Prop := (-9223372036854775808 ≤ x.Shelf ∧ x.Shelf ≤ 9223372036854775807) ∧ (-9223372036854775808 ≤ x.Many ∧ x.Many ≤ 9223372036854775807) ∧ True
def z1f (x : zm) : Prop := zQf 16 (fun (a : zk) => zYf a) x.Lines ∧ (-9223372036854775808 ≤ x.Until ∧ x.Until ≤ 9223372036854775807) ∧ True
def zid (x : zd) : Prop := zXn (fun (a : Int) => (-9223372036854775808 ≤ a ∧ a ≤ 9223372036854775807)) x.Far ∧ zQd x.Step ∧ zQf 16 (fun (a : zp) => zQd a) x.Pick ∧ (-9223372036854775808 ≤ x.Carry ∧ x.Carry ≤ 9223372036854775807) ∧ zQf 32 (fun (a : zm) => z1f a) x.Slips ∧ True
end Go.AM
set_option maxRecDepth 1000000
namespace Go.AM
open Go
theorem zHx (k : Nat) : zzc (k + 300) = some true := by kernel_rfl
end Go.AM
set_option linter.unusedVariables false
namespace Go.AM
open Go
theorem z2v {f : zd} (h : zid f) : zeb f := by
 obtain ⟨h1, h2, h3, h4, h5, _⟩ := h
 have e : maxLen = 9223372036854775807 := by decide
 have l1 := h1.2.2
 have l3 := h3.2.2
 have l5 := h5.2.2
 rw [e] at l1 l3 l5
 refine ⟨show f.Far.1.length < _ by omega, by omega, show f.Slips.1.length < _ by omega, fun s hs => ?_⟩
 have := (h5.1 s hs).1.2.2
 rw [e] at this
 omega
def zow (f : zd) : Nat := 500000 + f.Far.1.length + f.Pick.1.length + f.Slips.1.length + (f.Slips.1.map fun s => s.Lines.1.length).sum
theorem zmw {l : List Nat} {n : Nat} : n ∈ l → n ≤ l.sum := by
 induction l with
 | nil => intro h; simp at h
 | cons x t ih =>
  intro h
  rw [List.sum_cons]
  rcases List.mem_cons.1 h with rfl | h
  ·omega
  ·have := ih h
   omega
theorem zHy (f : zd) (m : Nat) : Fuel (zow f + m + 300) f := by
 unfold zow
 refine ⟨by omega, show f.Far.1.length < _ by omega, by omega, show f.Slips.1.length < _ by omega, fun s hs => ?_⟩
 have := zmw (List.mem_map.2 ⟨s, hs, rfl⟩ : s.Lines.1.length ∈ f.Slips.1.map fun s => s.Lines.1.length)
 omega
end Go.AM
set_option linter.unusedVariables false
namespace Go.AM
open Go
theorem zvy (f : zd) (R : SL (SL Int)) (hf : zid f) (hR : zQf 24 (fun (a : SL Int) => zXn (fun (a : Int) => (-9223372036854775808 ≤ a ∧ a ≤ 9223372036854775807)) a) R) : ∃ k, zBb k f R = some true := by
 have e : maxLen = 9223372036854775807 := by decide
 have hL : nS f ≤ LIM := by
  obtain ⟨_, _, _, _, h5, _⟩ := hf
  have h6 := h5.2.2.2
  show f.Slips.1.length ≤ 4398046511104
  omega
 have h1 := hR.2.2.1
 refine ⟨_, zms (z2v hf) (zHy f (R.1.length + (R.1.map fun l => l.1.length).sum)) hL (zHx _) ⟨⟨by omega, by omega⟩, fun l hl => ?_⟩⟩
 have h2 := (hR.1 l hl).2.2.1
 have h3 := zmw (List.mem_map.2 ⟨l, hl, rfl⟩ : l.1.length ∈ R.1.map fun l => l.1.length)
 exact ⟨by omega, by omega⟩
end Go.AM
