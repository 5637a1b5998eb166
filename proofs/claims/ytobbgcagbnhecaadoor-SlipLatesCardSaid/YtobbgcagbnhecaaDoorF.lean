/- The statement SlipLates holds for every input that its row lets in. Conditions: none. -/
import Derived.KernelRfl
import Derived.Test.YtobbgcagbnhecaaDoorE
set_option linter.all false
set_option linter.unusedVariables false
namespace Go.AM
open Go
section
variable {T U : Nat → Int}
def zmi (T U : Nat → Int) (now : Int) (l : List Nat) : Prop := ∀ x ∈ l, now + lsum T U (U x) l ≤ U x
theorem zHv {l : List Nat} : zmi T U 0 l ↔ zub T U l := by
 unfold zmi zub
 simp
theorem zmi.perm {now : Int} {l l' : List Nat} (h : l.Perm l') (hf : zmi T U now l) : zmi T U now l' := fun x hx => by
 rw [← zTs h]
 exact hf x (h.mem_iff.2 hx)
theorem zKv (hT : ∀ i, 0 ≤ T i) {now : Int} {a : Nat} {l : List Nat} (ha : ∀ y ∈ l, U a ≤ U y) : zmi T U now (a :: l) ↔ now + T a ≤ U a ∧ zmi T U (now + T a) l := by
 constructor
 ·intro h
  refine ⟨?_, fun x hx => ?_⟩
  ·have := h a (by simp)
   have h2 := zWm (U := U) (u := U a) hT l
   simp only [lsum, Int.le_refl, if_true] at this
   omega
  ·have := h x (by simp [hx])
   simp only [lsum, if_pos (ha x hx)] at this
   omega
 ·rintro ⟨h1, h2⟩ x hx
  rcases List.mem_cons.1 hx with rfl | hx
  ·simp only [lsum, Int.le_refl, if_true]
   by_cases hex : ∃ y ∈ l, U y ≤ U x
   ·obtain ⟨y, hy, hyx⟩ := hex
    have h3 := h2 y hy
    have h4 := ha y hy
    have h5 : U y = U x := by omega
    rw [h5] at h3
    omega
   ·have h0 : lsum T U (U x) l = 0 := by
     have : ∀ l : List Nat, (∀ y ∈ l, ¬ U y ≤ U x) → lsum T U (U x) l = 0 := by
      intro l
      induction l with
      | nil => intro _; rfl
      | cons y l ih =>
       intro h
       have hy := h y (by simp)
       simp only [lsum, if_neg hy, ih fun z hz => h z (by simp [hz])]
       omega
     exact this l fun y hy h => hex ⟨y, hy, h⟩
    omega
  ·have := h2 x hx
   simp only [lsum, if_pos (ha x hx)]
   omega
end
theorem zPt : ∀ (S x y : Nat), (∀ i, y.testBit i = (S.testBit i && !x.testBit i)) → (∀ i, x.testBit i = true → S.testBit i = true) → x + y = S := by
 intro S
 induction S using Nat.strongRecOn with
 | ind S ih =>
  intro x y hy hx
  by_cases h0 : S = 0
  ·subst h0
   have h1 : x = 0 := Nat.eq_of_testBit_eq fun i => by
    cases hb : x.testBit i with
    | false => simp
    | true => have := hx i hb; simp at this
   have h2 : y = 0 := Nat.eq_of_testBit_eq fun i => by rw [hy]; simp
   omega
  ·have := ih (S / 2) (by omega) (x / 2) (y / 2) (fun i => by rw [← Nat.testBit_succ, ← Nat.testBit_succ, ← Nat.testBit_succ]; exact hy (i + 1)) fun i h => by
    rw [← Nat.testBit_succ] at h ⊢
    exact hx (i + 1) h
   have b0 := hy 0
   have c0 := hx 0
   simp only [Nat.testBit_zero, decide_eq_true_eq] at b0 c0
   have e0 : y % 2 = 1 ↔ S % 2 = 1 ∧ ¬ x % 2 = 1 := by
    have := congrArg (· = true) b0
    simpa using this
   omega
theorem zAq {S x : Nat} (h : ∀ i, x.testBit i = true → S.testBit i = true) : x ≤ S := by
 rw [← zJk.2 h]
 exact Nat.and_le_right
theorem zhs {S x : Nat} (h : ∀ i, x.testBit i = true → S.testBit i = true) (hS : S < 2 ^ 63) : S - x = dif S x := by
 have hx : x < 2 ^ 63 := Nat.lt_of_le_of_lt (zAq h) hS
 obtain ⟨_, h1, h2, h3⟩ := ztj hS hx
 have := zPt S x (dif S x) h3 h
 omega
theorem z7p {S x : Nat} (h : ∀ i, x.testBit i = true → S.testBit i = true) (hS : S < 2 ^ 63) (i : Nat) : (S - x).testBit i = (S.testBit i && !x.testBit i) := by
 have hx : x < 2 ^ 63 := Nat.lt_of_le_of_lt (zAq h) hS
 rw [zhs h hS]
 exact (ztj hS hx).2.2.2 i
def z3s (f : zd) (S j : Nat) (v : Int) : Prop := (v = -1 ∧ ∀ i, i < j → S.testBit i = false) ∨ ∃ a : Nat, v = (a : Int) ∧ a < j ∧ S.testBit a = true ∧ ∀ i, i < j → S.testBit i = true → UU f a ≤ UU f i
theorem zCx {k : Nat} {f : zd} (hs : zbb f) (hk : Fuel k f) (hF : Fine f) {S : Nat} (hS : S < 2 ^ nS f) (now : Int) :
  Ok (iter (fun s => zNb k f (S : Int) now s.1 s.2) k ((-1), 0)) (fun r => z3s f S (nS f) r.1) := by
 have h9 := hF.nslips
 have h512 : 2 ^ nS f ≤ 2 ^ 9 := Nat.pow_le_pow_right (by omega) h9
 have h63 : S < 2 ^ 63 := Nat.lt_of_lt_of_le hS (Nat.le_trans h512 (by decide))
 refine Ok.count (nS f) (fun j s => s.2 = (j : Int) ∧ z3s f S j s.1) ?_ ?_ ⟨rfl, .inl ⟨rfl, fun i h => absurd h (by omega)⟩⟩ hk.slips
 ·rintro j ⟨v, j'⟩ hj ⟨hj', hv⟩
  obtain rfl : j' = (j : Int) := hj'
  have hv : z3s f S j v := hv
  simp only [zNb, znd, zgd, zDd hj, cond_true, zJy k (show j < 64 by omega) h63, Option.bind_some]
  have keep : S.testBit j = false → z3s f S (j + 1) v := fun hb => by
   rcases hv with ⟨h1, h2⟩ | ⟨a, h1, h2, h3, h4⟩
   ·refine .inl ⟨h1, fun i hi => ?_⟩
    by_cases e : i = j
    ·rw [e]; exact hb
    ·exact h2 i (by omega)
   ·refine .inr ⟨a, h1, by omega, h3, fun i hi hbi => ?_⟩
    by_cases e : i = j
    ·rw [e, hb] at hbi; cases hbi
    ·exact h4 i (by omega) hbi
  cases hb : S.testBit j with
  | false =>
   simp only [cond_false, Option.bind_some]
   exact Ok.pure ⟨zhb hj hs.slips, keep hb⟩
  | true =>
   simp only [cond_true]
   rcases hv with ⟨h1, h2⟩ | ⟨a, h1, h2, h3, h4⟩
   ·subst h1
    simp only [show decide ((-1 : Int) < 0) = true by decide, cond_true, Option.bind_some]
    refine Ok.pure ⟨zhb hj hs.slips, .inr ⟨j, rfl, by omega, hb, fun i hi hbi => ?_⟩⟩
    by_cases e : i = j
    ·rw [e]; exact Int.le_refl _
    ·rw [h2 i (by omega)] at hbi; cases hbi
   ·subst h1
    have c1 : decide ((a : Int) < 0) = false := by simp
    simp only [c1, cond_false, zte hj, zte (f := f) (i := a) (by omega), Option.bind_some]
    by_cases hlt : UU f j < UU f a
    ·rw [show decide ((slp f j).Until < (slp f a).Until) = true from decide_eq_true hlt]
     simp only [cond_true, Option.bind_some]
     refine Ok.pure ⟨zhb hj hs.slips, .inr ⟨j, rfl, by omega, hb, fun i hi hbi => ?_⟩⟩
     by_cases e : i = j
     ·rw [e]; exact Int.le_refl _
     ·have := h4 i (by omega) hbi
      omega
    ·rw [show decide ((slp f j).Until < (slp f a).Until) = false from decide_eq_false hlt]
     simp only [cond_false, Option.bind_some]
     refine Ok.pure ⟨zhb hj hs.slips, .inr ⟨a, rfl, by omega, h3, fun i hi hbi => ?_⟩⟩
     by_cases e : i = j
     ·rw [e]; omega
     ·exact h4 i (by omega) hbi
 ·rintro ⟨v, j'⟩ ⟨hj', hv⟩
  obtain rfl : j' = (nS f : Int) := hj'
  simp only [zNb, zLf, cond_false]
  exact Ok.pure hv
theorem zMr {S a : Nat} (ha : S.testBit a = true) : ∀ i, (2 ^ a).testBit i = true → S.testBit i = true := fun i h => by
 rw [Nat.testBit_two_pow] at h
 have : a = i := by simpa using h
 rw [← this]; exact ha
theorem ztx {n S a : Nat} (hS : S < 2 ^ 63) (ha : S.testBit a = true) (han : a < n) : (mem n S).Perm (a :: mem n (S - 2 ^ a)) := by
 have hb := z7p (zMr ha) hS
 have hna : a ∉ mem n (S - 2 ^ a) := fun h => by
  have := (zlg.1 h).2
  rw [hb, Nat.testBit_two_pow] at this
  simp at this
 refine (List.perm_ext_iff_of_nodup (zSs n S) (List.nodup_cons.2 ⟨hna, zSs _ _⟩)).2 fun x => ?_
 rw [List.mem_cons, zlg, zlg, hb, Nat.testBit_two_pow]
 constructor
 ·rintro ⟨h1, h2⟩
  by_cases e : x = a
  ·exact .inl e
  ·exact .inr ⟨h1, by rw [h2]; simp; omega⟩
 ·rintro (rfl | ⟨h1, h2⟩)
  ·exact ⟨han, ha⟩
  ·simp only [Bool.and_eq_true] at h2
   exact ⟨h1, h2.1⟩
theorem zZx {k : Nat} {f : zd} (hs : zbb f) (hk : Fuel k f) (hF : Fine f) {S : Nat} (hS : S < 2 ^ nS f) : Ok (zwd k f (S : Int)) (fun r => r = true ↔ zub (TT f) (UU f) (mem (nS f) S)) := by
 have h9 := hF.nslips
 have h0 := hk.k0
 have h512 : 2 ^ nS f ≤ 2 ^ 9 := Nat.pow_le_pow_right (by omega) h9
 unfold zwd
 have hml := zKr (nS f) S
 refine Ok.bind (Ok.count (mem (nS f) S).length (fun j s => ∃ S' : Nat, s.1 = (S' : Int) ∧ S' < 2 ^ nS f ∧ (mem (nS f) S').length + j = (mem (nS f) S).length ∧ (0 ≤ s.2 ∧ s.2 ≤ 100000) ∧ (zub (TT f) (UU f) (mem (nS f) S) ↔ zmi (TT f) (UU f) s.2 (mem (nS f) S'))) (Q := fun r : (Int × Int × Int × Int) ⊕ (Int × Int) => match r with
  | .inl _ => ¬ zub (TT f) (UU f) (mem (nS f) S)
  | .inr _ => zub (TT f) (UU f) (mem (nS f) S)) ?_ ?_ ⟨S, rfl, hS, by omega, ⟨by omega, by omega⟩, zHv.symm⟩ (by omega)) fun r hr => ?_
 ·rintro j ⟨v, now⟩ hj ⟨S', hv, hS', hlen, hnow, hiff⟩
  obtain rfl : v = (S' : Int) := hv
  have hnow : 0 ≤ now ∧ now ≤ 100000 := hnow
  have hiff : zub (TT f) (UU f) (mem (nS f) S) ↔ zmi (TT f) (UU f) now (mem (nS f) S') := hiff
  have h63 : S' < 2 ^ 63 := Nat.lt_of_lt_of_le hS' (Nat.le_trans h512 (by decide))
  have hne : S' ≠ 0 := fun e => by
   subst e
   have : mem (nS f) 0 = [] := by simp [mem]
   rw [this] at hlen
   simp at hlen
   omega
  have c1 : decide ((S' : Int) > 0) = true := decide_eq_true (by omega)
  simp only [zxc, c1, cond_true]
  refine Ok.bind (zCx hs hk hF hS' now) fun w hw => ?_
  rcases hw with ⟨_, h2⟩ | ⟨a, h1, h2, h3, h4⟩
  ·exfalso
   obtain ⟨i, hi⟩ := Nat.exists_testBit_of_ne_zero hne
   have := h2 i (zEn hS' hi)
   rw [hi] at this
   cases this
  ·have ha := h2
   rw [h1, zgx hk hF ha, zte ha]
   simp only [Option.bind_some]
   have ht := zjr hF ha
   have hu := zmp hF ha
   have w1 : w64 (now + TT f a) = now + TT f a := zJ (by omega) (by omega)
   have hp := ztx (n := nS f) h63 h3 ha
   have hall : ∀ y ∈ mem (nS f) (S' - 2 ^ a), UU f a ≤ UU f y := fun y hy => by
    have h5 := zlg.1 hy
    rw [z7p (zMr h3) h63] at h5
    simp only [Bool.and_eq_true] at h5
    exact h4 y h5.1 h5.2.1
   have hst := zKv (zkp hF) (now := now) hall
   have hiff2 : zmi (TT f) (UU f) now (mem (nS f) S') ↔ now + TT f a ≤ UU f a ∧ zmi (TT f) (UU f) (now + TT f a) (mem (nS f) (S' - 2 ^ a)) := by
    rw [← hst]
    exact ⟨fun h => h.perm hp, fun h => h.perm hp.symm⟩
   have eT : zTc f a (·.High) = TT f a := rfl
   have eU : (slp f a).Until = UU f a := rfl
   rw [eT, w1, eU]
   by_cases hle : now + TT f a > UU f a
   ·rw [decide_eq_true hle]
    refine Ok.pure ?_
    show ¬ _
    rw [hiff, hiff2]
    rintro ⟨h, _⟩
    omega
   ·rw [decide_eq_false hle]
    have c2 : decide ((a : Int) < 0) = false := by simp
    have hle2 : 2 ^ a ≤ S' := zAq (zMr h3)
    have ea : zo 1 (a : Int) = ((2 ^ a : Nat) : Int) := by rw [zpm (by omega)]; push_cast; rfl
    have wa : w64 ((S' : Int) - ((2 ^ a : Nat) : Int)) = ((S' - 2 ^ a : Nat) : Int) := by
     generalize 2 ^ a = P at hle2 ⊢
     rw [zJ (by omega) (by omega)]; omega
    have hlt2 : S' - 2 ^ a < 2 ^ nS f := Nat.lt_of_le_of_lt (Nat.sub_le _ _) hS'
    simp only [cond_false, c2, ea, wa]
    refine Ok.pure ⟨S' - 2 ^ a, rfl, hlt2, ?_, ⟨by show 0 ≤ now + TT f a; omega, by show now + TT f a ≤ _; omega⟩, ?_⟩
    ·have := hp.length_eq
     rw [List.length_cons] at this
     omega
    ·rw [hiff, hiff2]
     exact ⟨fun h => h.2, fun h => ⟨by omega, h⟩⟩
 ·rintro ⟨v, now⟩ ⟨S', hv, hS', hlen, hnow, hiff⟩
  obtain rfl : v = (S' : Int) := hv
  have hnil : mem (nS f) S' = [] := List.length_eq_zero_iff.1 (by omega)
  have hz : S' = 0 := Classical.byContradiction fun hne => zot hS' hne hnil
  subst hz
  have c1 : decide (((0 : Nat) : Int) > 0) = false := by decide
  simp only [zxc, c1, cond_false]
  refine Ok.pure ?_
  show zub _ _ _
  rw [hiff, hnil]
  intro x hx
  cases hx
 ·cases r with
  | inl z => exact Ok.pure ⟨fun h => (by cases h), fun h => absurd h hr⟩
  | inr z => exact Ok.pure ⟨fun _ => hr, fun _ => rfl⟩
end Go.AM
set_option linter.unusedVariables false
namespace Go.AM
open Go
theorem zji {n : Nat} (h9 : n ≤ 9) : 2 ^ n ≤ 512 := by
 have : 2 ^ n ≤ 2 ^ 9 := Nat.pow_le_pow_right (by omega) h9
 omega
theorem zQx {k : Nat} {f : zd} (hs : zbb f) (hk : Fuel k f) (hF : Fine f) : Ok (zyd k f) (fun r => r.1.length = 2 ^ nS f ∧ ∀ S, S < 2 ^ nS f → ∃ b, r.1[S]? = some b ∧ (b = true ↔ zub (TT f) (UU f) (mem (nS f) S))) := by
 have h9 := hF.nslips
 have h0 := hk.k0
 have h512 := zji h9
 unfold zyd
 refine Ok.bind (P := fun v : Int × List Bool => v.2.length = 2 ^ nS f ∧ ∀ S, S < 2 ^ nS f → ∃ b, v.2[S]? = some b ∧ (b = true ↔ zub (TT f) (UU f) (mem (nS f) S))) ?_ fun v hv => Ok.pure hv
 have cz : decide ((f.Slips.1.length : Int) < 0) = false := by simp
 have es : zo 1 (f.Slips.1.length : Int) = ((2 ^ nS f : Nat) : Int) := z3y h9
 refine Ok.count (2 ^ nS f) (fun j s => s.1 = (j : Int) ∧ s.2.length = j ∧ ∀ S, S < j → ∃ b, s.2[S]? = some b ∧ (b = true ↔ zub (TT f) (UU f) (mem (nS f) S))) ?_ ?_ ⟨rfl, rfl, fun S h => absurd h (by omega)⟩ (by omega)
 ·rintro j ⟨j', l⟩ hj ⟨hj', hl, hb⟩
  obtain rfl : j' = (j : Int) := hj'
  have hl : l.length = j := hl
  have c1 : decide ((j : Int) < ((2 ^ nS f : Nat) : Int)) = true := decide_eq_true (by omega)
  have c2 : decide (l.length + 1 ≤ LIM) = true := zHn (by omega)
  simp only [zzc, cz, cond_false, es, c1, cond_true]
  refine Ok.bind (zZx hs hk hF hj) fun b hbb => ?_
  rw [c2, cond_true]
  refine Ok.pure ⟨zhb (n := 512) (by omega) (by omega), by show (l ++ [b]).length = _; rw [List.length_append]; simp [hl], fun S hS => ?_⟩
  show ∃ b', (l ++ [b])[S]? = some b' ∧ _
  by_cases e : S = j
  ·subst e
   exact ⟨b, by rw [List.getElem?_append_right (by omega)]; simp [hl], hbb⟩
  ·obtain ⟨b', h1, h2⟩ := hb S (by omega)
   exact ⟨b', by rw [List.getElem?_append_left (by omega)]; exact h1, h2⟩
 ·rintro ⟨j', l⟩ ⟨hj', hl, hb⟩
  obtain rfl : j' = ((2 ^ nS f : Nat) : Int) := hj'
  have c1 : decide (((2 ^ nS f : Nat) : Int) < ((2 ^ nS f : Nat) : Int)) = false := by simp
  simp only [zzc, cz, cond_false, es, c1]
  exact Ok.pure ⟨hl, hb⟩
def zbp (f : zd) (S : Nat) (v : Int) : Prop := (0 ≤ v ∧ v ≤ 99) ∧ ∀ p : Nat, p < 99 → (v ≤ (p : Int) ↔ Can f p S)
def zrn (f : zd) (S x p : Nat) : Prop := x ≠ 0 ∧ x &&& S = x ∧ zub (TT f) (UU f) (mem (nS f) x) ∧ ∃ q, p = q + 1 ∧ Can f q (S - x)
theorem zwv {f : zd} (h9 : nS f ≤ 9) {S : Nat} (hS : S < 2 ^ nS f) (h0 : S ≠ 0) (p : Nat) : (∃ x, zrn f S x p) ↔ Can f p S := by
 have h512 := zji h9
 have h63 : S < 2 ^ 63 := by omega
 cases p with
 | zero =>
  constructor
  ·rintro ⟨x, _, _, _, q, hq, _⟩; omega
  ·intro h
   exact absurd (CanL.zero.1 h) (zot hS h0)
 | succ p =>
  constructor
  ·rintro ⟨x, hx0, hx, hf, q, hq, hc⟩
   obtain rfl : q = p := by omega
   obtain ⟨a, ha⟩ := Nat.exists_testBit_of_ne_zero hx0
   have hsub := zJk.1 hx
   refine (zeq h9 hS (hsub a ha)).2 ⟨x, hx, ha, hf, ?_⟩
   rw [← zhs hsub h63]
   exact hc
  ·intro h
   obtain ⟨a, ha⟩ := Nat.exists_testBit_of_ne_zero h0
   obtain ⟨x, hx, hxa, hf, hc⟩ := (zeq h9 hS ha).1 h
   refine ⟨x, fun e => ?_, hx, hf, p, rfl, ?_⟩
   ·subst e; simp at hxa
   ·show CanL _ _ _ _
    rw [zhs (zJk.1 hx) h63]
    exact hc
theorem zGv {k : Nat} {f : zd} (hk : Fuel k f) (hF : Fine f) {v1 : SL Bool} (h1 : ∀ S, S < 2 ^ nS f → ∃ b, v1.1[S]? = some b ∧ (b = true ↔ zub (TT f) (UU f) (mem (nS f) S))) {S : Nat} (hS : S < 2 ^ nS f) (h0 : S ≠ 0) {out : List Int} (ho : ∀ x, x < S → ∃ v, out[x]? = some v ∧ zbp f x v) :
  Ok (iter (fun s => zFb k f v1 (S : Int) out s.1 s.2) k (99, (S : Int))) (fun r => zbp f S r.1) := by
 have h9 := hF.nslips
 have hk0 := hk.k0
 have h512 := zji h9
 have h63 : S < 2 ^ 63 := by omega
 refine Ok.iter (fun j s => ∃ part : Nat, s.2 = (part : Int) ∧ part + j ≤ S ∧ part &&& S = part ∧ (1 ≤ s.1 ∧ s.1 ≤ 99) ∧ ∀ p : Nat, p < 99 → (s.1 ≤ (p : Int) ↔ ∃ x, part < x ∧ zrn f S x p)) S ?_ ⟨S, rfl, by omega, Nat.and_self S, ⟨by show (1 : Int) ≤ 99; omega, Int.le_refl _⟩, fun p hp => ?_⟩ (by omega)
 ·rintro j ⟨best, pt⟩ hj ⟨part, hpt, hpj, hsub, hbest, hiff⟩
  obtain rfl : pt = (part : Int) := hpt
  have hbest : 1 ≤ best ∧ best ≤ 99 := hbest
  have hiff : ∀ p : Nat, p < 99 → (best ≤ (p : Int) ↔ ∃ x, part < x ∧ zrn f S x p) := hiff
  by_cases hp0 : part = 0
  ·subst hp0
   have c1 : decide (((0 : Nat) : Int) > 0) = false := by decide
   simp only [zFb, c1, cond_false]
   refine Ok.pure ⟨⟨by show 0 ≤ best; omega, hbest.2⟩, fun p hp => ?_⟩
   show best ≤ (p : Int) ↔ _
   rw [hiff p hp, ← zwv h9 hS h0 p]
   exact ⟨fun ⟨x, _, h⟩ => ⟨x, h⟩, fun ⟨x, h⟩ => ⟨x, Nat.pos_of_ne_zero h.1, h⟩⟩
  ·have c1 : decide ((part : Int) > 0) = true := decide_eq_true (by omega)
   have hpS : part ≤ S := by omega
   obtain ⟨b, hb, hbf⟩ := h1 part (by omega)
   have eb : idx v1.1 (part : Int) = some b := by simpa [idx] using hb
   have w1 : w64 ((part : Int) - 1) = ((part - 1 : Nat) : Int) := by rw [zJ (by omega) (by omega)]; omega
   have ea : zOc ((part - 1 : Nat) : Int) (S : Int) = (((part - 1) &&& S : Nat) : Int) := zSu (by omega) h63
   have hle : (part - 1) &&& S ≤ part - 1 := Nat.and_le_left
   have hnext : ∀ x, x &&& S = x → ((part - 1) &&& S < x ↔ x = part ∨ part < x) := fun x hx => by
    constructor
    ·intro h
     rcases Nat.lt_trichotomy x part with h2 | h2 | h2
     ·have := zmt part x S hsub hx h2
      omega
     ·exact .inl h2
     ·exact .inr h2
    ·rintro (rfl | h) <;> omega
   have hsub2 : ((part - 1) &&& S) &&& S = (part - 1) &&& S := by rw [Nat.and_assoc, Nat.and_self]
   simp only [zFb, c1, cond_true, eb, Option.bind_some, w1, ea]
   have step : ∀ best' : Int, (∀ p : Nat, p < 99 → (best' ≤ (p : Int) ↔ best ≤ (p : Int) ∨ zrn f S part p)) → ∀ p : Nat, p < 99 → (best' ≤ (p : Int) ↔ ∃ x, (part - 1) &&& S < x ∧ zrn f S x p) := fun best' h p hp => by
    rw [h p hp, hiff p hp]
    constructor
    ·rintro (⟨x, h2, h3⟩ | h2)
     ·exact ⟨x, (hnext x h3.2.1).2 (.inr h2), h3⟩
     ·exact ⟨part, (hnext part hsub).2 (.inl rfl), h2⟩
    ·rintro ⟨x, h2, h3⟩
     rcases (hnext x h3.2.1).1 h2 with rfl | h4
     ·exact .inr h3
     ·exact .inl ⟨x, h4, h3⟩
   cases b with
   | false =>
    simp only [zhc, cond_false, Option.bind_some]
    refine Ok.pure ⟨by omega, (part - 1) &&& S, rfl, by omega, hsub2, hbest, step best fun p hp => ?_⟩
    refine ⟨.inl, fun h => h.resolve_right fun h2 => ?_⟩
    have := hbf.2 h2.2.2.1
    cases this
   | true =>
    have hfit := hbf.1 rfl
    obtain ⟨v, hv, hmv, hmi⟩ := ho (S - part) (by omega)
    have w2 : w64 ((S : Int) - (part : Int)) = ((S - part : Nat) : Int) := by rw [zJ (by omega) (by omega)]; omega
    have ev : idx out ((S - part : Nat) : Int) = some v := by simpa [idx] using hv
    have w3 : w64 (1 + v) = 1 + v := zJ (by omega) (by omega)
    simp only [zhc, cond_true, w2, ev, w3, Option.bind_some]
    have hsp : ∀ p : Nat, p < 99 → (1 + v ≤ (p : Int) ↔ zrn f S part p) := fun p hp => by
     constructor
     ·intro h
      refine ⟨hp0, hsub, hfit, p - 1, by omega, (hmi (p - 1) (by omega)).1 (by omega)⟩
     ·rintro ⟨_, _, _, q, rfl, hc⟩
      have := (hmi q (by omega)).2 hc
      omega
    refine Ok.pure ⟨by omega, (part - 1) &&& S, rfl, by omega, hsub2, ?_, step _ fun p hp => ?_⟩
    ·show 1 ≤ (if 1 + v < best then 1 + v else best) ∧ (if 1 + v < best then 1 + v else best) ≤ 99
     split <;> omega
    ·rw [← hsp p hp]
     split <;> omega
 ·constructor
  ·intro h
   have : (99 : Int) ≤ p := h
   omega
  ·rintro ⟨x, h1, h2⟩
   have : x ≤ S := zAq (zJk.1 h2.2.1)
   omega
theorem zwo {k : Nat} {f : zd} (hs : zbb f) (hk : Fuel k f) (hF : Fine f) : Ok (zKb k f) (fun r => ∀ S, S < 2 ^ nS f → ∃ v, r.1[S]? = some v ∧ zbp f S v) := by
 have h9 := hF.nslips
 have h0 := hk.k0
 have h512 := zji h9
 have hpos : 0 < 2 ^ nS f := Nat.two_pow_pos _
 unfold zKb
 refine Ok.bind (zQx hs hk hF) fun v1 ⟨hl1, hb1⟩ => ?_
 refine Ok.bind (P := fun v : Int × List Int => ∀ S, S < 2 ^ nS f → ∃ u, v.2[S]? = some u ∧ zbp f S u) ?_ fun v hv => Ok.pure hv
 refine Ok.count (2 ^ nS f - 1) (fun j s => s.1 = ((j + 1 : Nat) : Int) ∧ s.2.length = j + 1 ∧ ∀ S, S < j + 1 → ∃ u, s.2[S]? = some u ∧ zbp f S u) ?_ ?_ ⟨rfl, rfl, fun S hS => ?_⟩ (by omega)
 ·rintro j ⟨j', l⟩ hj ⟨hj', hl, hb⟩
  obtain rfl : j' = ((j + 1 : Nat) : Int) := hj'
  have hl : l.length = j + 1 := hl
  have c1 : decide (((j + 1 : Nat) : Int) < (v1.1.length : Int)) = true := decide_eq_true (by omega)
  have c2 : decide (l.length + 1 ≤ LIM) = true := zHn (by omega)
  simp only [zcc, c1, cond_true]
  refine Ok.bind (zGv hk hF hb1 (S := j + 1) (by omega) (by omega) hb) fun r hr => ?_
  rw [c2, cond_true]
  refine Ok.pure ⟨zhb (n := 600) (by omega) (by omega), by show (l ++ [r.1]).length = _; rw [List.length_append]; simp [hl], fun S hS => ?_⟩
  show ∃ u, (l ++ [r.1])[S]? = some u ∧ _
  by_cases e : S = j + 1
  ·subst e
   exact ⟨r.1, by rw [List.getElem?_append_right (by omega)]; simp [hl], hr⟩
  ·obtain ⟨u, h1, h2⟩ := hb S (by omega)
   exact ⟨u, by rw [List.getElem?_append_left (by omega)]; exact h1, h2⟩
 ·rintro ⟨j', l⟩ ⟨hj', hl, hb⟩
  obtain rfl : j' = ((2 ^ nS f - 1 + 1 : Nat) : Int) := hj'
  have c1 : decide (((2 ^ nS f - 1 + 1 : Nat) : Int) < (v1.1.length : Int)) = false := decide_eq_false (by omega)
  simp only [zcc, c1, cond_false]
  exact Ok.pure fun S hS => hb S (by omega)
 ·obtain rfl : S = 0 := by omega
  refine ⟨0, rfl, ⟨by omega, by omega⟩, fun p _ => ⟨fun _ => ?_, fun _ => by omega⟩⟩
  have : mem (nS f) 0 = [] := by simp [mem]
  show CanL _ _ _ _
  rw [this]
  exact CanL.nil p
def zdw (f : zd) (r : Int × Int) : Prop :=
 (¬ Fine f ∧ r = (0, 30)) ∨ (Fine f ∧ ∃ p : Nat, p ≤ 5 ∧ z3k f p ∧ r = ((p : Int), 0)) ∨ (Fine f ∧ r = (0, 4) ∧ ∀ q, 1 ≤ q → q ≤ 5 → ¬ zaf f q)
theorem zCv {k : Nat} {f : zd} (hs : zbb f) (hk : Fuel k f) : Ok (zUc k f) (zdw f) := by
 unfold zUc
 obtain ⟨c, hc, hc'⟩ := zBs hs hk
 rw [hc]
 by_cases hF : Fine f
 ·rw [if_pos hF] at hc'
  subst hc'
  have t : ((0 : Int) != 0) = false := by decide
  simp only [Option.bind_some, t, cond_false]
  have h9 := hF.nslips
  refine Ok.bind (zwo hs hk hF) fun v4 h4 => ?_
  obtain ⟨v, hv, hmv, hmi⟩ := h4 (allS (nS f)) (z8i _)
  have cz : decide ((f.Slips.1.length : Int) < 0) = false := by simp
  have es : w64 (zo 1 (f.Slips.1.length : Int) - 1) = ((allS (nS f) : Nat) : Int) := zGk h9
  have ev : idx v4.1 ((allS (nS f) : Nat) : Int) = some v := by simpa [idx] using hv
  have hmi : ∀ p : Nat, p < 99 → (v ≤ (p : Int) ↔ zaf f p) := fun p hp => (hmi p hp).trans (zcp f p)
  simp only [cz, cond_false, es, ev, Option.bind_some]
  obtain ⟨m, hm⟩ : ∃ m : Nat, (if v > 1 then v else 1) = (m : Int) := ⟨(if v > 1 then v else 1).toNat, by split <;> omega⟩
  rw [hm]
  have hm2 : (m : Int) = v ∧ 1 < v ∨ m = 1 ∧ v ≤ 1 := by split at hm <;> omega
  by_cases h5 : (m : Int) > 5
  ·rw [decide_eq_true h5]
   refine Ok.pure (.inr (.inr ⟨hF, rfl, fun q h1 hq hc => ?_⟩))
   have := (hmi q (by omega)).2 hc
   omega
  ·rw [decide_eq_false h5]
   refine Ok.pure (.inr (.inl ⟨hF, m, by omega, ⟨by omega, (hmi m (by omega)).1 (by omega), fun q h1 hq hc => ?_⟩, rfl⟩))
   have := (hmi q (by omega)).2 hc
   omega
 ·rw [if_neg hF] at hc'
  subst hc'
  have t : ((30 : Int) != 0) = true := by decide
  simp only [Option.bind_some, t, cond_true]
  exact Ok.pure (.inl ⟨hF, rfl⟩)
end Go.AM
set_option linter.unusedVariables false
namespace Go.AM
open Go
theorem z3w {P : Nat → Prop} : ∀ {n : Nat}, P n → ∃ m, P m ∧ ∀ k, k < m → ¬ P k := by
 intro n
 induction n using Nat.strongRecOn with
 | ind n ih =>
  intro h
  by_cases hex : ∃ k, k < n ∧ P k
  ·obtain ⟨k, hk, hp⟩ := hex
   exact ih k hk hp
  ·exact ⟨n, h, fun k hk hp => hex ⟨k, hk, hp⟩⟩
theorem zZw {a c : List Nat} (ha : z9b a) (hc : z9b c) : a = c ∨ ltL a c ∨ ltL c a := by
 by_cases hall : ∀ x, x ∈ a ↔ x ∈ c
 ·exact .inl (zGo ha hc hall)
 ·obtain ⟨x, hx⟩ := Classical.not_forall.1 hall
  obtain ⟨m, hm, hlow⟩ := z3w (P := fun x => ¬ (x ∈ a ↔ x ∈ c)) hx
  have hlow' : ∀ y, y < m → (y ∈ a ↔ y ∈ c) := fun y hy => Classical.not_not.1 (hlow y hy)
  by_cases h1 : m ∈ a
  ·by_cases h2 : m ∈ c
   ·exact absurd ⟨fun _ => h2, fun _ => h1⟩ hm
   ·exact .inr (.inl ⟨m, h1, h2, hlow'⟩)
  ·by_cases h2 : m ∈ c
   ·exact .inr (.inr ⟨m, h2, h1, fun y hy => (hlow' y hy).symm⟩)
   ·exact absurd ⟨fun h => absurd h h1, fun h => absurd h h2⟩ hm
theorem zPv {a c : List Nat} (ha : z9b a) (hc : z9b c) (h : ¬ (c.length < a.length ∨ c.length = a.length ∧ ltL c a)) : leS a c := by
 by_cases h1 : a.length < c.length
 ·exact .inl h1
 ·have h2 : a.length = c.length := by
   apply Classical.byContradiction
   intro hne
   exact h (.inl (by omega))
  refine .inr ⟨h2, ?_⟩
  rcases zZw ha hc with h3 | h3 | h3
  ·exact .inl h3
  ·exact .inr h3
  ·exact absurd (.inr ⟨h2.symm, h3⟩) h
theorem zEx {f : zd} (h9 : nS f ≤ 9) {p S : Nat} (hS : S < 2 ^ nS f) {l : List Nat} (hl : ∀ i, i ∈ l ↔ S.testBit i = true) : zdc f p l ↔ Can f p (allS (nS f) - S) := by
 have h512 := zji h9
 have hsub : ∀ i, S.testBit i = true → (allS (nS f)).testBit i = true := fun i hi => by rw [zno]; simpa using zEn hS hi
 have hall := z8i (nS f)
 have e : mem (nS f) (allS (nS f) - S) = (List.range (nS f)).filter fun i => !l.contains i := by
  unfold mem
  refine List.filter_congr fun i hi => ?_
  rw [z7p hsub (by omega), zno]
  have h1 := List.mem_range.1 hi
  have h2 : l.contains i = S.testBit i := by
   rw [Bool.eq_iff_iff, List.contains_iff_mem]
   exact hl i
  rw [h2]
  simp [h1]
 show CanL _ _ _ _ ↔ CanL _ _ _ _
 rw [e]
theorem zzt {k : Nat} {f : zd} (hs : zbb f) (hk : Fuel k f) (b : Bool) : (¬ Fine f → zQb k f b = some 30) ∧ (Fine f → zQb k f b = some (if b = true then 0 else 31)) := by
 unfold zQb
 obtain ⟨c, hc, hc'⟩ := zBs hs hk
 rw [hc]
 refine ⟨fun hF => ?_, fun hF => ?_⟩
 ·rw [if_neg hF] at hc'
  subst hc'
  rfl
 ·rw [if_pos hF] at hc'
  subst hc'
  cases b <;> rfl
theorem zpx {k : Nat} {f : zd} (hs : zbb f) (hk : Fuel k f) (n : Int) : Ok (zNd k f n) (zIn f n) := by
 unfold zNd
 obtain ⟨a1, a2⟩ := zzt hs hk (decide (1 ≤ n) && decide (n ≤ 5))
 simp only [zbj, Option.bind_some]
 by_cases hF : Fine f
 ·rw [a2 hF]
  have h9 := hF.nslips
  have h0 := hk.k0
  have h512 := zji h9
  by_cases hn : 1 ≤ n ∧ n ≤ 5
  ·have e1 : (decide (1 ≤ n) && decide (n ≤ 5)) = true := by simp; exact hn
   rw [e1]
   have t : ((0 : Int) != 0) = false := by decide
   have cz : decide ((f.Slips.1.length : Int) < 0) = false := by simp
   have es : w64 (zo 1 (f.Slips.1.length : Int) - 1) = ((allS (nS f) : Nat) : Int) := zGk h9
   obtain ⟨p, rfl⟩ : ∃ p : Nat, n = (p : Int) := ⟨n.toNat, by omega⟩
   simp only [if_true, t, cond_false, cz, Option.bind_some, es]
   refine Ok.bind (zwo hs hk hF) fun v7 h7 => ?_
   have hall := z8i (nS f)
   refine Ok.bind (zTu (n := nS f) (by omega) h9 hall) fun v9 ⟨l0, hl0, hc0, hlt0, hm0, hb0⟩ => ?_
   have hr0 : l0 = List.range (nS f) := zGo hc0 (zxp _) fun x => by rw [hm0, zno, List.mem_range]; simp
   refine Ok.bind (P := fun v : SL Int × Int => ∃ l, v.1.1 = ints l ∧ Best (nS f) (zdc f p) l) ?_ fun v hv => Ok.pure (.inr (.inr ⟨hF, hn, rfl, ?_⟩))
   ·refine Ok.count (2 ^ nS f) (fun j s => s.2 = (j : Int) ∧ ∃ l, s.1.1 = ints l ∧ z9b l ∧ (∀ i ∈ l, i < nS f) ∧ zdc f p l ∧ ∀ l', z9b l' → (∀ i ∈ l', i < nS f) → zdc f p l' → zcd l' < j → leS l l') ?_ ?_ ⟨rfl, l0, hl0, hc0, hlt0, ?_, fun l' _ _ _ h => absurd h (by omega)⟩ (by omega)
    ·rintro j ⟨b, j'⟩ hj ⟨hj', l, hl, hc, hlt, ht, hmin⟩
     obtain rfl : j' = (j : Int) := hj'
     have hl : b.1 = ints l := hl
     have hpa : allS (nS f) + 1 = 2 ^ nS f := by unfold allS; have := Nat.two_pow_pos (nS f); omega
     have c1 : decide ((j : Int) ≤ ((allS (nS f) : Nat) : Int)) = true := decide_eq_true (by omega)
     simp only [zXc, es, c1, cond_true]
     refine Ok.bind (zTu (n := nS f) (by omega) h9 hj) fun v4 ⟨l4, hl4, hc4, hlt4, hm4, hb4⟩ => ?_
     obtain ⟨v, hv, hmv, hmi⟩ := h7 (allS (nS f) - j) (by omega)
     have w1 : w64 (((allS (nS f) : Nat) : Int) - (j : Int)) = ((allS (nS f) - j : Nat) : Int) := by rw [zJ (by omega) (by omega)]; omega
     have ev : idx v7.1 ((allS (nS f) - j : Nat) : Int) = some v := by simpa [idx] using hv
     have htw : v ≤ (p : Int) ↔ zdc f p l4 := (hmi p (by omega)).trans (zEx h9 hj hm4).symm
     have hbl := zjm hc hlt
     have hbl4 := zjm hc4 hlt4
     have hJ : Ok (zSc k f (p : Int) 0 v7 b (j : Int) v4) (fun r => r = true ↔ zdc f p l4 ∧ (l4.length < l.length ∨ l4.length = l.length ∧ ltL l4 l)) := by
      simp only [zSc, es, w1, ev, Option.bind_some]
      refine Ok.cond (fun h => ?_) fun h => Ok.pure ⟨fun h => (by cases h), fun h2 => ?_⟩
      ·have ht4 := htw.1 (by simpa using h)
       rw [hl4, hl, zve, zve]
       refine Ok.cond (fun h => Ok.pure ⟨fun _ => ⟨ht4, .inl (by simpa using h)⟩, fun _ => rfl⟩) fun h => ?_
       have h' : ¬ l4.length < l.length := by simpa using h
       refine Ok.cond (fun h => ?_) fun h => Ok.pure ⟨fun h => (by cases h), fun h2 => ?_⟩
       ·have he : l4.length = l.length := by
         have := eq_of_beq h
         omega
        obtain ⟨x4, c4⟩ := v4
        obtain rfl : x4 = ints l4 := hl4
        obtain ⟨xb, cb⟩ := b
        obtain rfl : xb = ints l := hl
        refine Ok.bind (zBx (by omega) hc4 hc he (by omega)) fun r hr => Ok.pure ?_
        rw [hr]
        exact ⟨fun h => ⟨ht4, .inr ⟨he, h⟩⟩, fun ⟨_, h⟩ => h.elim (fun h => absurd h h') fun h => h.2⟩
       ·rcases h2.2 with h3 | h3
        ·exact absurd h3 h'
        ·rw [h3.1] at h
         simp at h
      ·have := htw.2 h2.1
       have h' : ¬ v ≤ (p : Int) := by simpa using h
       exact absurd this h'
     refine Ok.bind hJ fun r hr => ?_
     have hpush : ∀ lb, (∀ l', z9b l' → (∀ i ∈ l', i < nS f) → zdc f p l' → zcd l' < j → leS lb l') → (zdc f p l4 → leS lb l4) → ∀ l', z9b l' → (∀ i ∈ l', i < nS f) → zdc f p l' → zcd l' < j + 1 → leS lb l' := fun lb h1 h2 l' hc' hlt' ht' hb' => by
      by_cases e : zcd l' = j
      ·have : l' = l4 := zGo hc' hc4 fun x => by rw [← zCm, e, ← hb4, zCm]
       subst this
       exact h2 ht'
      ·exact h1 l' hc' hlt' ht' (by omega)
     have hsucc : w64 ((j : Int) + 1) = ((j + 1 : Nat) : Int) := zhb (n := 600) (by omega) (by omega)
     cases r with
     | true =>
      obtain ⟨ht4, hless⟩ := hr.1 rfl
      simp only [zWc, cond_true, Option.bind_some]
      have hle : leS l4 l := hless.elim .inl fun h => .inr ⟨h.1, .inr h.2⟩
      exact Ok.pure ⟨hsucc, l4, hl4, hc4, hlt4, ht4, hpush l4 (fun l' h1 h2 h3 h4 => zCw hle (hmin l' h1 h2 h3 h4)) fun _ => zMx _⟩
     | false =>
      simp only [zWc, cond_false, Option.bind_some]
      refine Ok.pure ⟨hsucc, l, hl, hc, hlt, ht, hpush l hmin fun ht4 => zPv hc hc4 fun h => ?_⟩
      have := hr.2 ⟨ht4, h⟩
      cases this
    ·rintro ⟨b, j'⟩ ⟨hj', l, hl, hc, hlt, ht, hmin⟩
     obtain rfl : j' = ((2 ^ nS f : Nat) : Int) := hj'
     have hpa : allS (nS f) + 1 = 2 ^ nS f := by unfold allS; have := Nat.two_pow_pos (nS f); omega
     have c1 : decide (((2 ^ nS f : Nat) : Int) ≤ ((allS (nS f) : Nat) : Int)) = false := decide_eq_false (by omega)
     simp only [zXc, es, c1, cond_false]
     exact Ok.pure ⟨l, hl, ⟨hc, hlt, ht, fun l' h1 h2 h3 => hmin l' h1 h2 h3 (zKp h2)⟩⟩
    ·rw [hr0]; exact zSt f p
   ·rw [Int.toNat_natCast]; exact hv
  ·have e1 : (decide (1 ≤ n) && decide (n ≤ 5)) = false := by
    cases hd : (decide (1 ≤ n) && decide (n ≤ 5)) with
    | false => rfl
    | true => simp only [Bool.and_eq_true, decide_eq_true_eq] at hd; exact absurd hd hn
   rw [e1]
   exact Ok.pure (.inr (.inl ⟨hF, hn, rfl, rfl⟩))
 ·rw [a1 hF]
  exact Ok.pure (.inl ⟨hF, rfl, rfl⟩)
end Go.AM
set_option linter.unusedVariables false
namespace Go.AM
open Go
theorem zjw {f : zd} {p q : Nat} (h : z3k f p) (g : z3k f q) : p = q := by
 have h1 := (zvs h g.1).1 g.2.1
 have h2 := (zvs g h.1).1 h.2.1
 omega
theorem zdl.eq {f : zd} {i : Nat} {r r' : Int × Int} (h : zdl f i r) (g : zdl f i r') : r = r' := by
 rcases h with ⟨h1, h2⟩ | ⟨h1, p, hp, hf, h2, h3, h4, h5⟩ <;> rcases g with ⟨g1, g2⟩ | ⟨g1, q, hq, gf, g2, g3, g4, g5⟩
 ·rw [h1, g1]
 ·exact absurd gf.2.1 (h2 q gf.1 hq)
 ·exact absurd hf.2.1 (g2 p hf.1 hp)
 ·obtain rfl := zjw hf gf
  have e : r.1 = r'.1 := by
   rcases Int.lt_trichotomy r.1 r'.1 with h | h | h
   ·exact absurd h4 (g5 _ h)
   ·exact h
   ·exact absurd g4 (h5 _ h)
  obtain ⟨a, b⟩ := r
  obtain ⟨a', b'⟩ := r'
  simp only at e h1 g1
  rw [e, h1, g1]
def zpl (f : zd) (n : Int) (r : Int × Int) : Prop :=
 (¬ Fine f ∧ r = (0, 30)) ∨ (Fine f ∧ ¬ (0 ≤ n ∧ n < (nS f : Int)) ∧ r = (0, 31)) ∨ (Fine f ∧ ∃ i : Nat, i < nS f ∧ n = (i : Int) ∧ zdl f i r)
theorem zpl.eq {f : zd} {n : Int} {r r' : Int × Int} (h : zpl f n r) (g : zpl f n r') : r = r' := by
 rcases h with ⟨h1, h2⟩ | ⟨h1, h2, h3⟩ | ⟨h1, i, hi, hn, h2⟩ <;> rcases g with ⟨g1, g2⟩ | ⟨g1, g2, g3⟩ | ⟨g1, j, hj, gn, g2⟩
 ·rw [h2, g2]
 ·exact absurd g1 h1
 ·exact absurd g1 h1
 ·exact absurd h1 g1
 ·rw [h3, g3]
 ·exact absurd (show 0 ≤ n ∧ n < (nS f : Int) by omega) h2
 ·exact absurd h1 g1
 ·exact absurd (show 0 ≤ n ∧ n < (nS f : Int) by omega) g2
 ·obtain rfl : i = j := by omega
  exact h2.eq g2
theorem zdq (f : zd) (n : Int) : (decide (0 ≤ n) && decide (n ≤ (nS f : Int) - 1)) = true ↔ 0 ≤ n ∧ n < (nS f : Int) := by
 simp only [Bool.and_eq_true, decide_eq_true_eq]
 omega
theorem zlx {k : Nat} {f : zd} (hs : zbb f) (hk : Fuel k f) (hcap : f.Slips.1 ≠ [] → f.Slips.2 ≠ .nil) (n : Int) : Ok (zie k f n) (zpl f n) := by
 by_cases hF : Fine f
 ·by_cases hn : 0 ≤ n ∧ n < (nS f : Int)
  ·obtain ⟨i, rfl⟩ : ∃ i : Nat, n = (i : Int) := ⟨n.toNat, by omega⟩
   have hi : i < nS f := by omega
   refine (zhy hs hk hF (hcap fun e => ?_) hi).mono fun r hr => .inr (.inr ⟨hF, i, hi, rfl, hr⟩)
   have : nS f = 0 := by show f.Slips.1.length = 0; rw [e]; rfl
   omega
  ·unfold zie
   obtain ⟨c, hc, hc'⟩ := zpo hs hk
   rw [if_pos hF] at hc'
   subst hc'
   rw [hc]
   have t : ((0 : Int) != 0) = false := by decide
   have e : (decide (0 ≤ n) && decide (n ≤ (nS f : Int) - 1)) = false := by
    cases hd : (decide (0 ≤ n) && decide (n ≤ (nS f : Int) - 1)) with
    | false => rfl
    | true => exact absurd ((zdq f n).1 hd) hn
   simp only [Option.bind_some, t, cond_false, zJs hs, e, Bool.not_false, cond_true]
   exact Ok.pure (.inr (.inl ⟨hF, hn, rfl⟩))
 ·unfold zie
  obtain ⟨c, hc, hc'⟩ := zpo hs hk
  rw [if_neg hF] at hc'
  subst hc'
  rw [hc]
  have t : ((30 : Int) != 0) = true := by decide
  simp only [Option.bind_some, t, cond_true]
  exact Ok.pure (.inl ⟨hF, rfl⟩)
theorem ziv {f : zd} (hs : zbb f) (k : Nat) (n : Int) : z1c k f n = some (decide (0 ≤ n) && decide (n ≤ (nS f : Int) - 1)) := by
 have wn : w64 ((f.Slips.1.length : Int) - 1) = (nS f : Int) - 1 := zNn hs.slips
 simp only [z1c, zbj, Option.bind_some, wn]
theorem zHw {k : Nat} {f : zd} (hs : zbb f) (hk : Fuel k f) (hF : Fine f) {i : Nat} (hi : i < nS f) {p : Nat} (hp : p ≤ 5) (v3 : Int) (v6 : Int × Int) (h6 : v6.1 = (p : Int)) (hc : zaf f p) :
  Ok (iter (fun s => zEc k f (i : Int) v3 v6 s.1 s.2) k ((-1), UU f i)) (fun r => 0 ≤ r.2 ∧ r.2 ≤ UU f i ∧ CanU f i r.2 p ∧ ∀ u, u < r.2 → ¬ CanU f i u p) := by
 have hu := zmp hF hi
 have h9 := hF.nslips
 have hneg : ∀ u, u < 0 → ¬ CanU f i u p := fun u h hc => by
  have := hc.own hF hi
  have := (zjr hF hi).1
  omega
 refine Ok.iter (fun j s => (-1 ≤ s.1 ∧ s.1 < s.2) ∧ s.2 ≤ UU f i ∧ (s.2 - s.1 - 1) * 2 ^ j ≤ 100000 ∧ CanU f i s.2 p ∧ ∀ u, u ≤ s.1 → ¬ CanU f i u p) 20 ?_ ⟨⟨Int.le_refl _, by show (-1 : Int) < UU f i; omega⟩, Int.le_refl _, by simp; omega, CanU.same.2 hc, fun u h => hneg u (by have h : u ≤ -1 := h; omega)⟩ (by have := hk.k0; omega)
 rintro j ⟨low, high⟩ hj ⟨h1, h2, h3, h4, h5⟩
 have h1 : -1 ≤ low ∧ low < high := h1
 have h2 : high ≤ UU f i := h2
 have h3 : (high - low - 1) * 2 ^ j ≤ 100000 := h3
 have h4 : CanU f i high p := h4
 have h5 : ∀ u, u ≤ low → ¬ CanU f i u p := h5
 have w1 : w64 (high - low) = high - low := zJ (by omega) (by omega)
 have c3 : decide (f.Slips.1.length ≤ LIM) = true := zHn (by have h9 : f.Slips.1.length ≤ 9 := hF.nslips; omega)
 simp only [zEc, w1, c3, cond_true, zte hi, Option.bind_some]
 refine Ok.cond (fun hc2 => ?_) fun hc2 => ?_
 ·have hlt : high - low > 1 := by simpa using hc2
  have em : w64 ((w64 (low + high)).tdiv 2) = (low + high) / 2 := by
   rw [zJ (n := low + high) (by omega) (by omega), Int.tdiv_eq_ediv_of_nonneg (by omega), zJ (by omega) (by omega)]
  rw [em, Int.toNat_natCast]
  obtain ⟨m, hm⟩ : ∃ m, m = (low + high) / 2 := ⟨_, rfl⟩
  rw [← hm]
  have hm1 : low < m ∧ m < high ∧ 0 ≤ m := by omega
  have hfX := zMs hF hi (u := m) (by omega) (rcap false (f.Slips.1.set i ⟨(slp f i).Lines, m⟩))
  refine Ok.bind (zwo (zsr hs hi m (rcap false (f.Slips.1.set i ⟨(slp f i).Lines, m⟩))) (zss hk hi m _) hfX) fun v7 h7 => ?_
  have h7 : ∀ S, S < 2 ^ nS (setU f i m (rcap false (f.Slips.1.set i ⟨(slp f i).Lines, m⟩))) → ∃ v, v7.1[S]? = some v ∧ zbp (setU f i m (rcap false (f.Slips.1.set i ⟨(slp f i).Lines, m⟩))) S v := h7
  rw [zzi] at h7
  obtain ⟨v, hv, hmv, hmi⟩ := h7 (allS (nS f)) (z8i _)
  have cz : decide ((f.Slips.1.length : Int) < 0) = false := by simp
  have es : w64 (zo 1 (f.Slips.1.length : Int) - 1) = ((allS (nS f) : Nat) : Int) := zGk h9
  have ev : idx v7.1 ((allS (nS f) : Nat) : Int) = some v := by simpa [idx] using hv
  have hca : v ≤ (p : Int) ↔ CanU f i m p := by
   rw [hmi p (by omega), ← ztt hi m (rcap false (f.Slips.1.set i ⟨(slp f i).Lines, m⟩)) p, ← zcp, zzi]
  have hj20 : j < 20 := by
   apply Classical.byContradiction
   intro hn
   have : j = 20 := by omega
   subst this
   have : (1 : Int) ≤ high - low - 1 := by omega
   have h10 : (2 : Int) ^ 20 = 1048576 := by decide
   rw [h10] at h3
   omega
  have hpow : (0 : Int) < 2 ^ j := Int.pow_pos (by omega)
  have half : ∀ d : Int, 2 * d ≤ high - low - 1 → d * 2 ^ (j + 1) ≤ 100000 := by
   intro d hd
   have e : d * 2 ^ (j + 1) = (2 * d) * 2 ^ j := by rw [Int.pow_succ]; rw [Int.mul_comm (2 ^ j) 2, ← Int.mul_assoc, Int.mul_comm d 2]
   rw [e]
   have := Int.mul_le_mul_of_nonneg_right hd (Int.le_of_lt hpow)
   omega
  simp only [cz, cond_false, es, ev, Option.bind_some, h6]
  by_cases hvp : v ≤ (p : Int)
  ·rw [decide_eq_true hvp]
   simp only [zFc, cond_true, em, Option.bind_some]
   rw [← hm]
   exact Ok.pure ⟨hj20, ⟨h1.1, hm1.1⟩, by show m ≤ _; omega, half (m - low - 1) (by omega), hca.1 hvp, h5⟩
  ·rw [decide_eq_false hvp]
   simp only [zFc, cond_false, em, Option.bind_some]
   rw [← hm]
   exact Ok.pure ⟨hj20, ⟨by show -1 ≤ m; omega, hm1.2.1⟩, h2, half (high - m - 1) (by omega), h4, fun u hu hc => hvp (hca.2 (hc.later hF hu))⟩
 ·have hge : ¬ high - low > 1 := by simpa using hc2
  refine Ok.pure ⟨by show 0 ≤ high; omega, h2, h4, fun u hu => h5 u ?_⟩
  have hu : u < high := hu
  omega
theorem zUv {k : Nat} {f : zd} (hs : zbb f) (hk : Fuel k f) (n : Int) : Ok (ztd k f n) (zpl f n) := by
 unfold ztd
 rw [ziv hs]
 obtain ⟨a1, a2⟩ := zzt hs hk (decide (0 ≤ n) && decide (n ≤ (nS f : Int) - 1))
 simp only [Option.bind_some]
 by_cases hF : Fine f
 ·rw [a2 hF]
  by_cases hn : 0 ≤ n ∧ n < (nS f : Int)
  ·rw [(zdq f n).2 hn]
   obtain ⟨i, rfl⟩ : ∃ i : Nat, n = (i : Int) := ⟨n.toNat, by omega⟩
   have hi : i < nS f := by omega
   have t : ((0 : Int) != 0) = false := by decide
   simp only [if_true, t, cond_false, Option.bind_some]
   refine Ok.bind (zCv hs hk) fun v6 h6 => ?_
   rcases h6 with ⟨h, _⟩ | ⟨_, p, hp, hf, rfl⟩ | ⟨_, rfl, h⟩
   ·exact absurd hF h
   ·simp only [t, cond_false, zte hi, Option.bind_some]
    refine Ok.bind (zHw hs hk hF hi hp 0 ((p : Int), 0) rfl hf.2.1) fun v ⟨h1, h2, h3, h4⟩ => ?_
    exact Ok.pure (.inr (.inr ⟨hF, i, hi, rfl, .inr ⟨rfl, p, hp, hf, h1, h2, h3, h4⟩⟩))
   ·have t4 : ((4 : Int) != 0) = true := by decide
    simp only [t4, cond_true]
    exact Ok.pure (.inr (.inr ⟨hF, i, hi, rfl, .inl ⟨rfl, h⟩⟩))
  ·have e : (decide (0 ≤ n) && decide (n ≤ (nS f : Int) - 1)) = false := by
    cases hd : (decide (0 ≤ n) && decide (n ≤ (nS f : Int) - 1)) with
    | false => rfl
    | true => exact absurd ((zdq f n).1 hd) hn
   rw [e]
   exact Ok.pure (.inr (.inl ⟨hF, hn, rfl⟩))
 ·rw [a1 hF]
  exact Ok.pure (.inl ⟨hF, rfl⟩)
theorem zIn.eq {f : zd} {n : Int} {r r' : SL Int × Int} (h : zIn f n r) (g : zIn f n r') : r.1.1 = r'.1.1 ∧ r.2 = r'.2 ∧ r.1.1.length ≤ 9 := by
 rcases h with ⟨h1, h2, h3⟩ | ⟨h1, h2, h3, h4⟩ | ⟨h1, h2, h3, l, h4, h5⟩ <;> rcases g with ⟨g1, g2, g3⟩ | ⟨g1, g2, g3, g4⟩ | ⟨g1, g2, g3, l', g4, g5⟩
 ·rw [h2, g2, h3, g3]; simp
 ·exact absurd g1 h1
 ·exact absurd g1 h1
 ·exact absurd h1 g1
 ·rw [h3, g3, h4, g4]; simp
 ·exact absurd g2 h2
 ·exact absurd h1 g1
 ·exact absurd h2 g2
 ·have := zjm h5.climb h5.lt
  have := h1.nslips
  rw [h4, g4, h3, g3, h5.eq g5, zve]
  rw [← h5.eq g5]
  exact ⟨rfl, rfl, by omega⟩
theorem zRt {k : Nat} {f : zd} (hs : zbb f) (hk : Fuel k f) (hcap : f.Slips.1 ≠ [] → f.Slips.2 ≠ .nil) (hw : zrd k = some true) (n : Nat → Int) : zGb k f n = some true := by
 refine Ok.eq ?_
 have h0 := hk.k0
 unfold zGb
 refine Ok.bind (zez hs hk (n 0)) fun v1 h1 => ?_
 refine Ok.bind (zpx hs hk (n 0)) fun v3 h3 => ?_
 obtain ⟨e1, e2, e3⟩ := h1.eq h3
 have hJ : zLb k f n v1 v3 = some false := by
  refine Ok.eq ?_
  unfold zLb
  refine Ok.bind (z7x (p := v1.1) (q := v3.1) (by omega) (by omega)) fun r hr => ?_
  have := hr.2 e1
  subst this
  rw [e2]
  refine Ok.pure ?_
  simp
 rw [hJ]
 simp only [Option.bind_some, cond_false]
 refine Ok.bind (zlx hs hk hcap (n 1)) fun v8 h8 => ?_
 refine Ok.bind (zUv hs hk (n 1)) fun v10 h10 => ?_
 obtain rfl := h8.eq h10
 simp only [BEq.rfl, cond_true, hw, Option.bind_some]
 exact Ok.pure rfl
end Go.AM
set_option linter.unusedVariables false
namespace Go.AM
open Go
def zLd (x : zp) : Prop := (-9223372036854775808 ≤ x.Low ∧ x.Low ≤ 9223372036854775807) ∧ (-9223372036854775808 ≤ x.High ∧ x.High ≤ 9223372036854775807) ∧ True
def zTf (x : zm) : Prop := (-9223372036854775808 ≤ x.Shelf ∧ x.Shelf ≤ 9223372036854775807) ∧ (-9223372036854775808 ≤ x.Many ∧ x.Many ≤ 9223372036854775807) ∧ True
def z4f (x : zk) : Prop := zMi 16 (fun (a : zm) => zTf a) x.Lines ∧ (-9223372036854775808 ≤ x.Until ∧ x.Until ≤ 9223372036854775807) ∧ True
def zjc (x : zd) : Prop := zNv (fun (a : Int) => (-9223372036854775808 ≤ a ∧ a ≤ 9223372036854775807)) x.Far ∧ zLd x.Step ∧ zMi 16 (fun (a : zp) => zLd a) x.Pick ∧ (-9223372036854775808 ≤ x.Carry ∧ x.Carry ≤ 9223372036854775807) ∧ zMi 32 (fun (a : zk) => z4f a) x.Slips ∧ True
end Go.AM
set_option maxRecDepth 1000000
namespace Go.AM
open Go
theorem zvx (k : Nat) : zrd (k + 300) = some true := by kernel_rfl
end Go.AM
set_option linter.unusedVariables false
namespace Go.AM
open Go
theorem znv {f : zd} (h : zjc f) : zbb f := by
 obtain ⟨h1, h2, h3, h4, h5, _⟩ := h
 have e : maxLen = 9223372036854775807 := by decide
 have l1 := h1.2.2
 have l3 := h3.2.2
 have l5 := h5.2.2
 rw [e] at l1 l3 l5
 refine ⟨show f.Far.1.length < _ by omega, by omega, show f.Slips.1.length < _ by omega, fun s hs => ?_⟩
 have := (h5.1 s hs).1.2.2
 rw [e] at this
 omega
def z1w (f : zd) : Nat := 500000 + f.Far.1.length + f.Pick.1.length + f.Slips.1.length + (f.Slips.1.map fun s => s.Lines.1.length).sum
theorem zzz {l : List Nat} {n : Nat} : n ∈ l → n ≤ l.sum := by
 induction l with
 | nil => intro h; simp at h
 | cons x t ih =>
  intro h
  rw [List.sum_cons]
  rcases List.mem_cons.1 h with rfl | h
  ·omega
  ·have := ih h
   omega
theorem zkz (f : zd) (m : Nat) : Fuel (z1w f + m + 300) f := by
 unfold z1w
 refine ⟨by omega, show f.Far.1.length < _ by omega, by omega, show f.Slips.1.length < _ by omega, fun s hs => ?_⟩
 have := zzz (List.mem_map.2 ⟨s, hs, rfl⟩ : s.Lines.1.length ∈ f.Slips.1.map fun s => s.Lines.1.length)
 omega
end Go.AM
set_option linter.unusedVariables false
namespace Go.AM
open Go
theorem zrw {f : zd} (hf : zjc f) (h : f.Slips.1 ≠ []) : f.Slips.2 ≠ .nil := by
 obtain ⟨_, _, _, _, h5, _⟩ := hf
 rcases h5.2.1 with ⟨_, h6⟩ | h6
 ·exact absurd h6 h
 ·rw [h6]; simp
theorem zsz (f : zd) (n : Nat → Int) (hf : zjc f) (hn : ∀ k, k < 2 → -9223372036854775808 ≤ n k ∧ n k ≤ 9223372036854775807) : ∃ k, zGb k f n = some true :=
 ⟨_, zRt (znv hf) (zkz f 0) (zrw hf) (zvx _) n⟩
end Go.AM
