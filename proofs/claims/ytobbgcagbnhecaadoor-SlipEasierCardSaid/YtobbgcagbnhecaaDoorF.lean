/- The statement SlipEasier holds for every input that its row lets in. Conditions: none. -/
import Derived.KernelRfl
import Derived.Test.YtobbgcagbnhecaaDoorE
set_option linter.all false
set_option linter.unusedVariables false
namespace Go.AM
open Go
def Dom (fa fb : Nat → Int) : List Nat → List Nat → Prop
 | [], _ => True
 | _ :: _, [] => False
 | a :: A, b :: B => fa a ≤ fb b ∧ Dom fa fb A B
theorem zIk {C : Nat} {far : Nat → Int} : ∀ (l : List Nat) (r : Nat), (∀ x ∈ l, 0 ≤ far x) → 0 ≤ wk C far r l
 | [], r, _ => by cases r <;> simp [wk]
 | x :: t, 0, h => by
  have h1 := zIk (C := C) t (C - 1) fun y hy => h y (by simp [hy])
  have h2 := h x (by simp)
  simp only [wk]; omega
 | x :: t, r + 1, h => zIk (C := C) t r fun y hy => h y (by simp [hy])
theorem zso {C : Nat} {fa fb : Nat → Int} : ∀ (A B : List Nat) (r : Nat), Dom fa fb A B → (∀ x ∈ B, 0 ≤ fb x) → wk C fa r A ≤ wk C fb r B
 | [], B, r, _, h => by
  have := zIk (C := C) B r h
  cases r <;> simp only [wk] <;> omega
 | a :: A, [], r, h, _ => h.elim
 | a :: A, b :: B, 0, h, hb => by
  have := zso (C := C) A B (C - 1) h.2 fun y hy => hb y (by simp [hy])
  have := h.1
  simp only [wk]; omega
 | a :: A, b :: B, r + 1, h, hb => zso (C := C) A B r h.2 fun y hy => hb y (by simp [hy])
theorem zLr {fa fb : Nat → Int} : ∀ l : List Nat, (∀ x ∈ l, fa x ≤ fb x) → Dom fa fb l l
 | [], _ => trivial
 | x :: t, h => ⟨h x (by simp), zLr t fun y hy => h y (by simp [hy])⟩
abbrev Desc (far : Nat → Int) (l : List Nat) : Prop := l.Pairwise fun a b => far b ≤ far a
theorem z0r {far : Nat → Int} : ∀ (x : Nat) (t : List Nat), Desc far (x :: t) → Dom far far t (x :: t)
 | _, [], _ => trivial
 | x, y :: s, h => by
  have h' := List.pairwise_cons.1 h
  exact ⟨h'.1 y (by simp), z0r y s h'.2⟩
theorem zbt {C : Nat} {far : Nat → Int} {l : List Nat} (hd : Desc far l) (h0 : ∀ x ∈ l, 0 ≤ far x) : ∀ d, wk C far 0 (l.drop d) ≤ wk C far 0 l
 | 0 => by simp
 | d + 1 => by
  have ih := zbt (C := C) hd h0 d
  cases h : l.drop d with
  | nil =>
   have : l.drop (d + 1) = [] := by rw [← List.drop_drop, h]; rfl
   rw [this]
   exact zIk (C := C) l 0 h0
  | cons x t =>
   have e : l.drop (d + 1) = t := by rw [← List.drop_drop, h]; rfl
   have hs : (x :: t).Sublist l := by rw [← h]; exact List.drop_sublist d l
   have := zso (C := C) t (x :: t) 0 (z0r x t (hd.sublist hs)) fun y hy => h0 y (hs.subset hy)
   rw [e]
   rw [h] at ih
   omega
theorem zes {C C' : Nat} (hC : 0 < C) (hCC : C ≤ C') {far : Nat → Int} : ∀ (n : Nat) (l : List Nat), l.length ≤ n → Desc far l → (∀ x ∈ l, 0 ≤ far x) → wk C' far 0 l ≤ wk C far 0 l
 | 0, l, hl, _, _ => by
  have : l = [] := List.length_eq_zero_iff.1 (by omega)
  rw [this]; simp [wk]
 | n + 1, [], _, _, _ => by simp [wk]
 | n + 1, x :: t, hl, hd, h0 => by
  rw [zNp (C := C') (by omega), zNp hC]
  have hlen : ((x :: t).drop C').length ≤ n := by rw [List.length_drop]; simp only [List.length_cons] at hl ⊢; omega
  have hs : ((x :: t).drop C').Sublist (x :: t) := List.drop_sublist _ _
  have ih := zes hC hCC n _ hlen (hd.sublist hs) fun y hy => h0 y (hs.subset hy)
  have hs2 : ((x :: t).drop C).Sublist (x :: t) := List.drop_sublist _ _
  have h2 := zbt (C := C) (hd.sublist hs2) (fun y hy => h0 y (hs2.subset hy)) (C' - C)
  rw [List.drop_drop] at h2
  have : C + (C' - C) = C' := by omega
  rw [this] at h2
  omega
theorem zOs (f : Nat → Nat) : ∀ n, (ex f n).Pairwise fun a b => b ≤ a
 | 0 => by simp [ex]
 | n + 1 => by
  rw [ex, List.pairwise_append]
  refine ⟨List.pairwise_replicate.2 (.inr (Nat.le_refl _)), zOs f n, fun a ha b hb => ?_⟩
  have := (zBo hb).1
  rw [List.eq_of_mem_replicate ha]
  omega
theorem zXw {f : zb} (hF : Fine f) (g : Nat → Nat) : Desc (fr f) (ex g (nF f)) := by
 have h := zOs g (nF f)
 refine List.Pairwise.imp_of_mem (fun {a b} ha hb hab => ?_) h
 exact z4s hF a hab (zBo ha).1
def Eas (f x : zb) : Prop := ∀ p l, zHg l → (∀ i ∈ l, i < nS f) → zrc f p l → ∃ l', zHg l' ∧ (∀ i ∈ l', i < nS x) ∧ zrc x p l' ∧ l'.length ≤ l.length
theorem zyr {f : zb} {p : Nat} : zrc f p [] ↔ zlf f p := by
 unfold zrc
 have : (List.range (nS f)).filter (fun i => !([] : List Nat).contains i) = List.range (nS f) := List.filter_eq_self.2 fun i _ => by simp
 rw [this]
theorem Eas.all {f x : zb} (h : Eas f x) {p : Nat} (hc : zlf f p) : zlf x p := by
 obtain ⟨l', _, _, h3, h4⟩ := h p [] List.Pairwise.nil (fun i hi => by cases hi) (zyr.2 hc)
 have : l' = [] := List.length_eq_zero_iff.1 (by simpa using h4)
 rw [this] at h3
 exact zyr.1 h3
theorem Eas.of {f x : zb} (hF : Fine f) (hX : Fine x) (hn : nS x = nS f) (ht : ∀ i, i < nS f → TT x i ≤ TT f i ∧ UU f i ≤ UU x i) : Eas f x := by
 intro p l h1 h2 h3
 refine ⟨l, h1, by rw [hn]; exact h2, ?_, Nat.le_refl _⟩
 unfold zrc at h3 ⊢
 rw [hn]
 exact CanL.mono (zQk hF) (zQk hX) (fun i hi => ht i (List.mem_range.1 (List.mem_filter.1 hi).1)) h3
theorem zRv {f x : zb} {n : Int} {v w : SL Int × Int} (hv : zRl f n v) (hw : zRl x n w) (hF : Fine f) (hX : Fine x) (hn : 1 ≤ n ∧ n ≤ 5) (he : Eas f x) : v.2 = 0 ∧ w.2 = 0 ∧ w.1.1.length ≤ v.1.1.length := by
 rcases hv with ⟨h, _⟩ | ⟨_, h, _⟩ | ⟨_, _, h1, l, h2, h3⟩
 ·exact absurd hF h
 ·exact absurd hn h
 rcases hw with ⟨h, _⟩ | ⟨_, h, _⟩ | ⟨_, _, k1, m, k2, k3⟩
 ·exact absurd hX h
 ·exact absurd hn h
 refine ⟨h1, k1, ?_⟩
 rw [h2, k2, zXf, zXf]
 obtain ⟨l', e1, e2, e3, e4⟩ := he _ l h3.climb h3.lt h3.ok
 rcases k3.least l' e1 e2 e3 with h | ⟨h, _⟩ <;> omega
theorem zsu {f : zb} {n n' : Int} {v w : SL Int × Int} (hv : zRl f n v) (hw : zRl f n' w) (hF : Fine f) (hn : 1 ≤ n ∧ n ≤ 5) (hn' : 1 ≤ n' ∧ n' ≤ 5) (hle : n ≤ n') : w.2 = 0 ∧ w.1.1.length ≤ v.1.1.length := by
 rcases hv with ⟨h, _⟩ | ⟨_, h, _⟩ | ⟨_, _, h1, l, h2, h3⟩
 ·exact absurd hF h
 ·exact absurd hn h
 rcases hw with ⟨h, _⟩ | ⟨_, h, _⟩ | ⟨_, _, k1, m, k2, k3⟩
 ·exact absurd hF h
 ·exact absurd hn' h
 refine ⟨k1, ?_⟩
 rw [h2, k2, zXf, zXf]
 have : zrc f n'.toNat l := CanL.more (by omega) h3.ok
 rcases k3.least l h3.climb h3.lt this with h | ⟨h, _⟩ <;> omega
theorem zSt {f x : zb} {r q : SL (SL Int) × Int} (hr : zVm f r) (hq : zVm x q) (hF : Fine f) (hX : Fine x) (he : Eas f x) : (r.2 = 0 ∧ q.2 = 0 ∧ q.1.1.length ≤ r.1.1.length) ∨ (r.2 = 4 ∧ (q.2 = 0 ∨ q.2 = 4)) := by
 rcases hr with ⟨h, _⟩ | ⟨_, h1, p, h2, h3, h4⟩ | ⟨_, h1, _, _⟩
 ·exact absurd hF h
 ·left
  have hc := he.all h3.2.1
  rcases hq with ⟨h, _⟩ | ⟨_, k1, p', k2, k3, k4⟩ | ⟨_, _, _, k⟩
  ·exact absurd hX h
  ·refine ⟨h1, k1, ?_⟩
   rw [h4.1, k4.1]
   exact (z9u k3 h3.1).1 hc
  ·exact absurd hc (k p h3.1 h2)
 ·right
  refine ⟨h1, ?_⟩
  rcases hq with ⟨h, _⟩ | ⟨_, k1, _⟩ | ⟨_, k1, _⟩
  ·exact absurd hX h
  ·exact .inl k1
  ·exact .inr k1
def zPt (k : Nat) (r q : SL (SL Int) × Int) : Option Bool :=
 cond (r.2 == 0) (
 cond (q.2 == 0) (
 cond (decide ((q.1.1.length : Int) ≤ (r.1.1.length : Int))) (
 (zy k).bind fun v36 =>
 some v36) (
 cond (r.2 == 4) (
 (zy k).bind fun v37 =>
 some v37) (
 some false))) (
 cond (r.2 == 4) (
 cond (q.2 == r.2) (
 (zy k).bind fun v37 =>
 some v37) (
 some false)) (
 some false))) (
 cond (r.2 == 4) (
 cond (q.2 == 0) (
 (zy k).bind fun v36 =>
 some v36) (
 cond (q.2 == r.2) (
 (zy k).bind fun v37 =>
 some v37) (
 some false))) (
 some false))
theorem zAv {k : Nat} (hw : zy k = some true) {r q : SL (SL Int) × Int} (h : (r.2 = 0 ∧ q.2 = 0 ∧ q.1.1.length ≤ r.1.1.length) ∨ (r.2 = 4 ∧ (q.2 = 0 ∨ q.2 = 4))) : zPt k r q = some true := by
 unfold zPt
 rw [hw]
 rcases h with ⟨h1, h2, h3⟩ | ⟨h1, h2 | h2⟩
 ·have e : decide ((q.1.1.length : Int) ≤ (r.1.1.length : Int)) = true := by simp; omega
  rw [h1, h2, e]; rfl
 ·rw [h1, h2]; rfl
 ·rw [h1, h2]; rfl
def zPr (v24 v26 v28 : SL Int × Int) : Option Bool :=
 cond (v24.2 != 0) (
 some true) (
 cond (v26.2 != 0) (
 some true) (
 cond (v28.2 != 0) (
 some true) (
 cond (decide ((v26.1.1.length : Int) > (v24.1.1.length : Int))) (
 some true) (
 some (decide ((v28.1.1.length : Int) > (v24.1.1.length : Int)))))))
theorem zCu {v24 v26 v28 : SL Int × Int} (h1 : v24.2 = 0 ∧ v26.2 = 0 ∧ v26.1.1.length ≤ v24.1.1.length) (h2 : v28.2 = 0 ∧ v28.1.1.length ≤ v24.1.1.length) : zPr v24 v26 v28 = some false := by
 have e1 : decide ((v26.1.1.length : Int) > (v24.1.1.length : Int)) = false := by simp; omega
 have e2 : decide ((v28.1.1.length : Int) > (v24.1.1.length : Int)) = false := by simp; omega
 unfold zPr
 rw [h1.1, h1.2.1, h2.1, e1, e2]; rfl
def z5p (k : Nat) (f x : zb) (many more : Int) : Option Bool :=
 (zeb k f).bind fun r =>
 (zeb k x).bind fun q =>
 (zbb k f many).bind fun v24 =>
 (zbb k x many).bind fun v26 =>
 (zbb k f more).bind fun v28 =>
 (zPr v24 v26 v28).bind fun v30 =>
 cond v30 (some false) (zPt k r q)
theorem zWt {k : Nat} {f x : zb} (hs : zNb f) (hk : Fuel k f) (hF : Fine f) (hxs : zNb x) (hxk : Fuel k x) (hX : Fine x) (hw : zy k = some true) (he : Eas f x) {many more : Int} (h1 : 1 ≤ many ∧ many ≤ 5) (h2 : many ≤ more ∧ more ≤ 5) : Ok (z5p k f x many more) (fun r => r = true) := by
 unfold z5p
 refine Ok.bind (zxq hs hk) fun r hr => ?_
 refine Ok.bind (zxq hxs hxk) fun q hq => ?_
 refine Ok.bind (z2p hs hk many) fun v24 h24 => ?_
 refine Ok.bind (z2p hxs hxk many) fun v26 h26 => ?_
 refine Ok.bind (z2p hs hk more) fun v28 h28 => ?_
 rw [zCu (zRv h24 h26 hF hX h1 he) (zsu h24 h28 hF h1 (by omega) h2.1)]
 simp only [Option.bind_some, cond_false]
 rw [zAv hw (zSt hr hq hF hX he)]
 exact Ok.pure rfl
end Go.AM
set_option linter.unusedVariables false
namespace Go.AM
open Go
theorem z7u {f x : zb} {n : Nat} (hpk : ∀ j, j < n → (pk x j).High ≤ (pk f j).High) : ∀ l : List zn, (∀ y ∈ l, 0 ≤ y.Many ∧ 0 ≤ y.Shelf ∧ y.Shelf < n) → pks x (·.High) l ≤ pks f (·.High) l
 | [], _ => by simp [pks]
 | y :: t, h => by
  have ih := z7u hpk t fun z hz => h z (by simp [hz])
  obtain ⟨h1, h2, h3⟩ := h y (by simp)
  have h4 := Int.mul_le_mul_of_nonneg_left (hpk y.Shelf.toNat (by omega)) h1
  simp only [pks, List.map_cons, List.sum_cons] at ih ⊢
  omega
theorem zrv {f x : zb} (hF : Fine f) (hX : Fine x) (hS : x.Slips = f.Slips) (hn : nF x = nF f) {i : Nat} (hi : i < nS f) (hst : zQb x i ≤ zQb f i) (hstep : x.Step.High ≤ f.Step.High) (hpk : ∀ j, j < nF f → (pk x j).High ≤ (pk f j).High) : TT x i ≤ TT f i ∧ UU f i ≤ UU x i := by
 have hs : slp x i = slp f i := by unfold slp; rw [hS]
 have hix : i < nS x := by show i < x.Slips.1.length; rw [hS]; exact hi
 have hl : lns x i = lns f i := by show (slp x i).Lines.1 = _; rw [hs]
 refine ⟨?_, by show (slp f i).Until ≤ (slp x i).Until; rw [hs]; exact Int.le_refl _⟩
 show zQb x i * x.Step.High + pks x _ (lns x i) ≤ zQb f i * f.Step.High + pks f _ (lns f i)
 have h1 := zjj hX hix
 have h2 := zjj hF hi
 have h3 := zan hX
 have h4 := Int.mul_le_mul hst hstep h3.1 h2.1
 rw [hl]
 have hfine := zJd hF hi
 have h5 := z7u hpk (lns f i) fun y hy => by
  obtain ⟨j, hj, rfl⟩ := List.getElem_of_mem hy
  have e1 := zQl hfine.2 hj
  have e2 := (hfine.2 j hj).2
  exact ⟨by have : 1 ≤ (lns f i)[j].Many := e2.1; omega, e1.1, e1.2⟩
 have h5' : pks x (fun s => s.High) (lns f i) ≤ pks f (fun s => s.High) (lns f i) := h5
 omega
theorem Eas.refl {f : zb} : Eas f f := fun p l h1 h2 h3 => ⟨l, h1, h2, h3, Nat.le_refl _⟩
theorem zim {f x : zb} (hF : Fine f) (hX : Fine x) (hS : x.Slips = f.Slips) (hn : nF x = nF f) (hst : ∀ i, i < nS f → zQb x i ≤ zQb f i) (hstep : x.Step.High ≤ f.Step.High) (hpk : ∀ j, j < nF f → (pk x j).High ≤ (pk f j).High) : Eas f x :=
 Eas.of hF hX (by show x.Slips.1.length = _; rw [hS]) fun i hi => zrv hF hX hS hn hi (hst i hi) hstep hpk
def zjm (f : zb) (v : Int) (c : Cap) : zb := ⟨(f.Far.1.set 0 v, c), f.Step, f.Pick, f.Carry, f.Slips⟩
theorem zhn {f : zb} (hF : Fine f) (v : Int) (c : Cap) (j : Nat) : fr (zjm f v c) j = if j = 0 then v else fr f j := by
 show ((f.Far.1.set 0 v)[j]?).getD 0 = _
 rw [List.getElem?_set]
 have hn : 0 < f.Far.1.length := by have := hF.nfar; simp only [nF] at this; omega
 by_cases h : j = 0
 ·subst h; simp [hn]
 ·have : ¬ 0 = j := fun e => h e.symm
  simp [h, this, fr]
theorem zzi (f : zb) (v : Int) (c : Cap) : nF (zjm f v c) = nF f := by show (f.Far.1.set 0 v).length = _; simp
theorem zNq {f : zb} (hF : Fine f) {v : Int} (hv : 0 ≤ v ∧ v ≤ fr f 0) (c : Cap) : Fine (zjm f v c) where
 nfar := by rw [zzi]; exact hF.nfar
 npick := by rw [zzi]; exact hF.npick
 step := hF.step
 carry := hF.carry
 nslips := hF.nslips
 far := fun i hi => by
  rw [zzi] at hi
  have h := hF.far i hi
  cases i with
  | zero =>
   rw [zhn hF]
   simp only [frB, if_true]
   omega
  | succ i =>
   have e1 := zhn hF v c i
   have e2 := zhn hF v c (i + 1)
   rw [if_neg (by omega)] at e2
   simp only [frB] at h ⊢
   rw [e1, e2]
   split
   ·rename_i e
    rw [e] at h ⊢
    omega
   ·omega
 pick := hF.pick
 slips := by rw [zzi]; exact hF.slips
theorem zxv {f : zb} (hF : Fine f) {v : Int} (hv : 0 ≤ v ∧ v ≤ fr f 0) (c : Cap) : Eas f (zjm f v c) :=
 zim hF (zNq hF hv c) rfl (zzi f v c) (fun i hi => by
  show wk f.Carry.toNat (fr (zjm f v c)) 0 (ex (pc (lns f i)) (nF (zjm f v c))) ≤ wk f.Carry.toNat (fr f) 0 (ex (pc (lns f i)) (nF f))
  rw [zzi]
  refine zso _ _ _ (zLr _ fun x hx => ?_) fun x hx => (zLm hF x hx).1
  rw [zhn hF]
  split
  ·rename_i e; rw [e]; exact hv.2
  ·exact Int.le_refl _) (Int.le_refl _) fun j _ => Int.le_refl _
def z4q (f : zb) (s : zr) : zb := ⟨f.Far, s, f.Pick, f.Carry, f.Slips⟩
theorem zfw {f : zb} (hF : Fine f) {s : zr} (hs : zFb 1 10 s) (hle : s.High ≤ f.Step.High) : Fine (z4q f s) ∧ Eas f (z4q f s) := by
 have hX : Fine (z4q f s) := ⟨hF.nfar, hF.npick, hs, hF.carry, hF.nslips, hF.far, hF.pick, hF.slips⟩
 exact ⟨hX, zim hF hX rfl rfl (fun i _ => Int.le_refl _) hle fun j _ => Int.le_refl _⟩
def zop (f : zb) (k : Nat) (s : zr) (c : Cap) : zb := ⟨f.Far, f.Step, (f.Pick.1.set k s, c), f.Carry, f.Slips⟩
theorem zPv {f : zb} (hF : Fine f) {k : Nat} (hk : k < nF f) {s : zr} (hs : zFb 0 300 s) (hle : s.High ≤ (pk f k).High) (c : Cap) : Fine (zop f k s c) ∧ Eas f (zop f k s c) := by
 have key : ∀ (i : Nat) (h : i < (f.Pick.1.set k s).length), zFb 0 300 (f.Pick.1.set k s)[i] := fun i h => by
  rw [List.getElem_set]
  split
  ·exact hs
  ·exact hF.pick i (by rwa [List.length_set] at h)
 have hX : Fine (zop f k s c) := ⟨hF.nfar, by show (f.Pick.1.set k s).length = _; rw [List.length_set]; exact hF.npick, hF.step, hF.carry, hF.nslips, hF.far, fun i hi => key i hi, hF.slips⟩
 refine ⟨hX, zim hF hX rfl rfl (fun i _ => Int.le_refl _) (Int.le_refl _) fun j hj => ?_⟩
 have : pk (zop f k s c) j = if k = j then s else pk f j := by
  show ((f.Pick.1.set k s)[j]?).getD ⟨0, 0⟩ = _
  rw [List.getElem?_set]
  have hkl : k < f.Pick.1.length := by rw [hF.npick]; exact hk
  by_cases h : k = j
  ·subst h; simp [hkl]
  ·simp [h, pk]
 rw [this]
 split
 ·rename_i e; rw [← e]; exact hle
 ·exact Int.le_refl _
def zwp (f : zb) (c : Int) : zb := ⟨f.Far, f.Step, f.Pick, c, f.Slips⟩
theorem zKu {f : zb} (hF : Fine f) {c : Int} (hc : f.Carry ≤ c ∧ c ≤ 20) : Fine (zwp f c) ∧ Eas f (zwp f c) := by
 have hC := hF.carry
 have hX : Fine (zwp f c) := ⟨hF.nfar, hF.npick, hF.step, by show 1 ≤ c ∧ c ≤ 20; omega, hF.nslips, hF.far, hF.pick, hF.slips⟩
 refine ⟨hX, zim hF hX rfl rfl (fun i hi => ?_) (Int.le_refl _) fun j _ => Int.le_refl _⟩
 show wk c.toNat (fr f) 0 (ex (pc (lns f i)) (nF f)) ≤ wk f.Carry.toNat (fr f) 0 (ex (pc (lns f i)) (nF f))
 exact zes (by omega) (by omega) _ _ (Nat.le_refl _) (zXw hF _) fun x hx => (zLm hF x hx).1
theorem zlw {f : zb} (hF : Fine f) (c : Cap) : Eas f (zji f (List.range (nS f - 1)) c) := by
 have hX := zCq hF (q := List.range (nS f - 1)) (fun i hi => by have := List.mem_range.1 hi; omega) (by have := hF.nslips; simp; omega) c
 have hn : nS (zji f (List.range (nS f - 1)) c) = nS f - 1 := by show ((List.range (nS f - 1)).map (slp f)).length = _; simp
 intro p l h1 h2 h3
 refine ⟨l.filter fun i => decide (i < nS f - 1), h1.filter _, fun i hi => ?_, ?_, List.length_filter_le _ _⟩
 ·rw [hn]
  simpa using (List.mem_filter.1 hi).2
 ·unfold zrc at h3 ⊢
  rw [hn]
  have e : (List.range (nS f - 1)).filter (fun i => !(l.filter fun i => decide (i < nS f - 1)).contains i) = (List.range (nS f - 1)).filter fun i => !l.contains i := List.filter_congr fun i hi => by
   have hi' := List.mem_range.1 hi
   have : (l.filter fun i => decide (i < nS f - 1)).contains i = l.contains i := by
    rw [Bool.eq_iff_iff, List.contains_iff_mem, List.contains_iff_mem, List.mem_filter]
    simp [hi']
   rw [this]
  rw [e]
  have hsub : ((List.range (nS f - 1)).filter fun i => !l.contains i).Sublist ((List.range (nS f)).filter fun i => !l.contains i) := (List.range_sublist.2 (by omega)).filter _
  refine zku (fun i hi => ?_) (h3.sub (zQk hF) hsub)
  have hi' := List.mem_range.1 (List.mem_filter.1 hi).1
  have hs : slp (zji f (List.range (nS f - 1)) c) i = slp f i := by
   rw [zyv f c (by simpa using hi')]
   simp
  exact ⟨(zOq (f := zji f (List.range (nS f - 1)) c) (g := f) _ rfl rfl rfl rfl (by show (slp _ _).Lines.1 = _; rw [hs])).symm, by show (slp f i).Until = (slp _ _).Until; rw [hs]⟩
theorem zav {f : zb} (hF : Fine f) {i : Nat} (hi : i < nS f) {u : Int} (hu : UU f i ≤ u ∧ u ≤ 100000) (c : Cap) : Fine (setU f i u c) ∧ Eas f (setU f i u c) := by
 have h0 := zto hF hi
 have hX := z6u hF hi (u := u) (by omega) c
 refine ⟨hX, Eas.of hF hX (zTm f i u c) fun j hj => ⟨by rw [zhx hi]; exact Int.le_refl _, ?_⟩⟩
 rw [zHw hi]
 split
 ·rename_i e; rw [e]; exact hu.1
 ·exact Int.le_refl _
theorem zXq {k : Nat} {f : zb} (hs : zNb f) (hk : Fuel k f) (hw : zy k = some true) (n : Nat → Int) : zLb k f n = some true := by
 refine Ok.eq ?_
 unfold zLb
 obtain ⟨so, hso, hso'⟩ := z3v hs hk
 rw [hso]
 simp only [Option.bind_some]
 by_cases hF : Fine f
 ·have hso2 := hso'.2 hF
  subst hso2
  have h9 := hF.nslips
  have h12 := hF.nfar
  have hk0 := hk.k0
  obtain ⟨by_, hby, hsp1⟩ := zLl k (n := n (1 + 0)) (m := 40) (by omega) (by omega)
  obtain ⟨kk, hkk, hsp2⟩ := zLl k (n := n (2 + 0)) (m := nF f) (by omega) (by omega)
  obtain ⟨w, hw6, hsp3⟩ := zLl k (n := n 0) (m := 6) (by omega) (by omega)
  obtain ⟨p, hp1, hp5, v, hv, hwp⟩ := zWy k (n 3)
  have e1 : zQ k (n (1 + 0)) 40 = some (by_ : Int) := hsp1
  have e2 : zQ k (n (2 + 0)) (f.Far.1.length : Int) = some (kk : Int) := hsp2
  have e3 : zQ k (n 0) 6 = some (w : Int) := hsp3
  have e5 : w64 ((p : Int) + 1) = (p : Int) + 1 := zdb (by omega) (by omega)
  obtain ⟨mo, hmo, em⟩ : ∃ mo : Nat, (p ≤ mo ∧ mo ≤ 5) ∧ (if w64 ((p : Int) + 1) < 5 then w64 ((p : Int) + 1) else 5) = (mo : Int) := by
   rw [e5]
   by_cases h : (p : Int) + 1 < 5
   ·exact ⟨p + 1, by omega, by rw [if_pos h]; omega⟩
   ·exact ⟨5, by omega, by rw [if_neg h]; rfl⟩
  simp only [Bool.not_true, cond_false, e1, e2, e3, hv, Option.bind_some, hwp, em]
  have fin : ∀ x : zb, zNb x → Fuel k x → Fine x → Eas f x → Ok (z5p k f x (p : Int) (mo : Int)) (fun r => r = true) := fun x hxs hxk hX he => zWt hs hk hF hxs hxk hX hw he (by omega) (by omega)
  refine Ok.cond (fun _ => ?_) fun _ => ?_
  ·refine Ok.cond (fun hc => ?_) fun hc => ?_
   ·have hc' : (f.Slips.1.length : Int) > 0 := by simpa using hc
    have h0 : 0 < nS f := by
     show 0 < f.Slips.1.length
     omega
    obtain ⟨i, hi, hsp⟩ := zLl k (n := n (2 + 0)) h0 (by omega)
    have e4 : zQ k (n (2 + 0)) (f.Slips.1.length : Int) = some (i : Int) := hsp
    have hu := zto hF hi
    have hu' : 0 ≤ (slp f i).Until ∧ (slp f i).Until ≤ 100000 := hu
    simp only [e4, Option.bind_some, zbi hi]
    obtain ⟨u, hu2⟩ : ∃ u, u = (if w64 ((slp f i).Until + (by_ : Int)) < 100000 then w64 ((slp f i).Until + (by_ : Int)) else 100000) := ⟨_, rfl⟩
    rw [← hu2]
    have hub : UU f i ≤ u ∧ u ≤ 100000 := by
     rw [zdb (by omega) (by omega)] at hu2
     have : UU f i = (slp f i).Until := rfl
     split at hu2 <;> omega
    obtain ⟨c, hun⟩ := zcw (k := k) hF hi u
    rw [hun]
    simp only [Option.bind_some]
    obtain ⟨hX, he⟩ := zav hF hi hub c
    exact fin _ (zqt hs hi u c) (zEu hk hi u c) hX he
   ·exact fin f hs hk hF .refl
  refine Ok.cond (fun _ => ?_) fun _ => ?_
  ·have c3 : decide (f.Far.1.length ≤ LIM) = true := zuo (by have : f.Far.1.length ≤ 12 := h12.2; omega)
   have e4 : idx f.Far.1 0 = some (fr f 0) := zIl (i := 0) (by omega)
   rw [c3]
   simp only [cond_true, e4, Option.bind_some]
   have h0 := zHu hF (i := 0) (by omega)
   obtain ⟨u, hu2⟩ : ∃ u, u = (if w64 (fr f 0 - (by_ : Int)) > 0 then w64 (fr f 0 - (by_ : Int)) else 0) := ⟨_, rfl⟩
   rw [← hu2]
   have hub : 0 ≤ u ∧ u ≤ fr f 0 := by
    rw [zdb (by omega) (by omega)] at hu2
    split at hu2 <;> omega
   have hX := zNq hF hub (rcap false (f.Far.1.set 0 u))
   refine fin (zjm f u (rcap false (f.Far.1.set 0 u))) ⟨by rw [zzi]; exact hs.far, hs.pick, hs.slips, hs.lines⟩ ⟨hk.k0, by rw [zzi]; exact hk.far, hk.pick, hk.slips, hk.lines⟩ hX (zxv hF hub _)
  refine Ok.cond (fun _ => ?_) fun _ => ?_
  ·have h1 := hF.step
   unfold zFb at h1
   simp only [zAw, Option.bind_some]
   obtain ⟨a, ha⟩ : ∃ a, a = (if w64 (f.Step.Low - 1) > 1 then w64 (f.Step.Low - 1) else 1) := ⟨_, rfl⟩
   obtain ⟨b, hb⟩ : ∃ b, b = (if w64 (f.Step.High - 1) > 1 then w64 (f.Step.High - 1) else 1) := ⟨_, rfl⟩
   rw [← ha, ← hb]
   rw [zdb (by omega) (by omega)] at ha hb
   have hsp : zFb 1 10 ⟨a, b⟩ ∧ b ≤ f.Step.High := by
    unfold zFb
    split at ha <;> split at hb <;> (simp only; omega)
   obtain ⟨hX, he⟩ := zfw hF hsp.1 hsp.2
   exact fin (z4q f ⟨a, b⟩) ⟨hs.far, hs.pick, hs.slips, hs.lines⟩ ⟨hk.k0, hk.far, hk.pick, hk.slips, hk.lines⟩ hX he
  refine Ok.cond (fun _ => ?_) fun _ => ?_
  ·have c3 : decide (f.Pick.1.length ≤ LIM) = true := zuo (by have := hF.npick; omega)
   have e4 : idx f.Pick.1 (kk : Int) = some (pk f kk) := by have := zbv hF (n := (kk : Int)) (by omega); simpa using this
   have h1 := z3p hF hkk
   unfold zFb at h1
   rw [c3]
   simp only [cond_true, e4, Option.bind_some, zAw, Int.toNat_natCast]
   obtain ⟨a, ha⟩ : ∃ a, a = (if w64 ((pk f kk).Low - (by_ : Int)) > 0 then w64 ((pk f kk).Low - (by_ : Int)) else 0) := ⟨_, rfl⟩
   obtain ⟨b, hb⟩ : ∃ b, b = (if w64 ((pk f kk).High - (by_ : Int)) > 0 then w64 ((pk f kk).High - (by_ : Int)) else 0) := ⟨_, rfl⟩
   rw [← ha, ← hb]
   rw [zdb (by omega) (by omega)] at ha hb
   have hsp : zFb 0 300 ⟨a, b⟩ ∧ b ≤ (pk f kk).High := by
    unfold zFb
    split at ha <;> split at hb <;> (simp only; omega)
   obtain ⟨hX, he⟩ := zPv hF hkk hsp.1 hsp.2 (rcap false (f.Pick.1.set kk ⟨a, b⟩))
   exact fin (zop f kk ⟨a, b⟩ (rcap false (f.Pick.1.set kk ⟨a, b⟩))) ⟨hs.far, by show (f.Pick.1.set kk _).length < _; rw [List.length_set]; exact hs.pick, hs.slips, hs.lines⟩ ⟨hk.k0, hk.far, by show (f.Pick.1.set kk _).length < _; rw [List.length_set]; exact hk.pick, hk.slips, hk.lines⟩ hX he
  refine Ok.cond (fun _ => ?_) fun _ => ?_
  ·have h1 := hF.carry
   obtain ⟨u, hu2⟩ : ∃ u, u = (if w64 (f.Carry + (by_ : Int)) < 20 then w64 (f.Carry + (by_ : Int)) else 20) := ⟨_, rfl⟩
   rw [← hu2]
   have hub : f.Carry ≤ u ∧ u ≤ 20 := by
    rw [zdb (by omega) (by omega)] at hu2
    split at hu2 <;> omega
   obtain ⟨hX, he⟩ := zKu hF hub
   exact fin (zwp f u) ⟨hs.far, hs.pick, hs.slips, hs.lines⟩ ⟨hk.k0, hk.far, hk.pick, hk.slips, hk.lines⟩ hX he
  ·by_cases h0 : 0 < nS f
   ·have c1 : decide ((f.Slips.1.length : Int) > 0) = true := by
     have : 0 < f.Slips.1.length := h0
     simp; omega
    have w1 : w64 ((f.Slips.1.length : Int) - 1) = ((nS f - 1 : Nat) : Int) := by
     have : f.Slips.1.length = nS f := rfl
     rw [zdb (by omega) (by omega)]; omega
    have c2 : (decide (0 ≤ ((nS f - 1 : Nat) : Int)) && decide (((nS f - 1 : Nat) : Int) ≤ (f.Slips.1.length : Int))) = true := by
     have : f.Slips.1.length = nS f := rfl
     simp only [Bool.and_eq_true, decide_eq_true_eq]; omega
    simp only [zOb, c1, cond_true, w1, c2, Option.bind_some, Int.toNat_natCast]
    have hq : ∀ i ∈ List.range (nS f - 1), i < nS f := fun i hi => by have := List.mem_range.1 hi; omega
    have hl : (List.range (nS f - 1)).length ≤ 9 := by simp; omega
    have heq : f.Slips.1.take (nS f - 1) = (List.range (nS f - 1)).map (slp f) := by
     apply List.ext_getElem
     ·rw [List.length_take, List.length_map, List.length_range]; have : f.Slips.1.length = nS f := rfl; omega
     ·intro i h1 h2
      rw [List.getElem_take, List.getElem_map, List.getElem_range]
      exact zck _
    rw [heq]
    exact fin (zji f (List.range (nS f - 1)) _) (zEt hs hq hl _) (z5u hk hq hl _) (zCq hF hq hl _) (zlw hF _)
   ·have c1 : decide ((f.Slips.1.length : Int) > 0) = false := by
     have : ¬ 0 < f.Slips.1.length := h0
     exact decide_eq_false (by omega)
    simp only [zOb, c1, cond_false, Option.bind_some]
    exact fin f hs hk hF .refl
 ·have hso2 : so = false := by
   cases so with
   | false => rfl
   | true => exact absurd (hso'.1 rfl) hF
  subst hso2
  rw [hw]
  exact Ok.pure rfl
end Go.AM
set_option linter.unusedVariables false
namespace Go.AM
open Go
def zdd (x : zr) : Prop := (-9223372036854775808 ≤ x.Low ∧ x.Low ≤ 9223372036854775807) ∧ (-9223372036854775808 ≤ x.High ∧ x.High ≤ 9223372036854775807) ∧ True
def zYe (x : zn) : Prop := (-9223372036854775808 ≤ x.Shelf ∧ x.Shelf ≤ 9223372036854775807) ∧ (-9223372036854775808 ≤ x.Many ∧ x.Many ≤ 9223372036854775807) ∧ True
def z6e (x : zm) : Prop := zmg (fun (a : zn) => zYe a) x.Lines ∧ (-9223372036854775808 ≤ x.Until ∧ x.Until ≤ 9223372036854775807) ∧ True
def zFc (x : zb) : Prop := zmg (fun (a : Int) => (-9223372036854775808 ≤ a ∧ a ≤ 9223372036854775807)) x.Far ∧ zdd x.Step ∧ zmg (fun (a : zr) => zdd a) x.Pick ∧ (-9223372036854775808 ≤ x.Carry ∧ x.Carry ≤ 9223372036854775807) ∧ zmg (fun (a : zm) => z6e a) x.Slips ∧ True
end Go.AM
set_option maxRecDepth 1000000
namespace Go.AM
open Go
theorem z5v (k : Nat) : zy (k + 300) = some true := by kernel_rfl
end Go.AM
set_option linter.unusedVariables false
namespace Go.AM
open Go
theorem zQt {f : zb} (h : zFc f) : zNb f := by
 obtain ⟨h1, h2, h3, h4, h5, _⟩ := h
 have e : maxLen = 9223372036854775807 := by decide
 have l1 := h1.2.2
 have l3 := h3.2.2
 have l5 := h5.2.2
 rw [e] at l1 l3 l5
 refine ⟨show f.Far.1.length < _ by omega, by omega, show f.Slips.1.length < _ by omega, fun s hs => ?_⟩
 have := (h5.1 s hs).1.2.2
 rw [e] at this
 omega
def zcv (f : zb) : Nat := 500000 + f.Far.1.length + f.Pick.1.length + f.Slips.1.length + (f.Slips.1.map fun s => s.Lines.1.length).sum
theorem zpx {l : List Nat} {n : Nat} : n ∈ l → n ≤ l.sum := by
 induction l with
 | nil => intro h; simp at h
 | cons x t ih =>
  intro h
  rw [List.sum_cons]
  rcases List.mem_cons.1 h with rfl | h
  ·omega
  ·have := ih h
   omega
theorem z8w (f : zb) (m : Nat) : Fuel (zcv f + m + 300) f := by
 unfold zcv
 refine ⟨by omega, show f.Far.1.length < _ by omega, by omega, show f.Slips.1.length < _ by omega, fun s hs => ?_⟩
 have := zpx (List.mem_map.2 ⟨s, hs, rfl⟩ : s.Lines.1.length ∈ f.Slips.1.map fun s => s.Lines.1.length)
 omega
end Go.AM
set_option linter.unusedVariables false
namespace Go.AM
open Go
theorem zPw (f : zb) (n : Nat → Int) (hf : zFc f) (hn : ∀ k, k < 4 → -9223372036854775808 ≤ n k ∧ n k ≤ 9223372036854775807) : ∃ k, zLb k f n = some true :=
 ⟨_, zXq (zQt hf) (z8w f 0) (z5v _) n⟩
end Go.AM
