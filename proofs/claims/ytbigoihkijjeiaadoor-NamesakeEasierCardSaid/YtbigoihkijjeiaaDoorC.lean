/- The statement NamesakeEasier holds for every input that its row lets in. Conditions: none. -/
import Derived.KernelRfl
import Derived.OpenShut
import Derived.ChangeSlices
import Derived.ProofKit
import Derived.LaidMore
import Derived.Stop.Joined
import Derived.Below
import Derived.ChangeSame
import Derived.Carry
import Derived.Test.YtbigoihkijjeiaaDoorProg
import Derived.Test.YtbigoihkijjeiaaDoorB
set_option linter.all false
set_option linter.unusedSimpArgs false
set_option linter.unusedVariables false
namespace Go.AM
open Go Go.RowKit
inductive Ov where
 | q (x : X)
 | c (d : D)
 | st (cs : List X)
 | mp (es : List (D × D))
 | me (d : D) (n : Nat) (es : List (D × D))
 | l (x : X) (lv s : Nat) (o : O)
 | i (d : D) (fs : FS) (lp : List LRec)
 | ap (n : Nat) (o : O)
 | sr (x : X) (o : O)
 | cr (rs : List (D × O)) (d : D)
 | rs (o : O)
 | ns (es : List (List D)) (n : Nat)
 | fz (d : D) (o : O)
 | nm (ts : List (Nat × Nat)) (cs : List (Nat × Nat × Nat))
 | ms (n : Nat) (es : List (List D))
abbrev Ovs := List (Nat × Nat × Nat × Ov)
abbrev Cuts := List (Nat × Nat × (Ex × St))
def oget (f r i : Nat) : Ovs → Option Ov
 | [] => none
 | p :: t => if p.1 = f && (p.2.1 = r && p.2.2.1 = i) then some p.2.2.2 else oget f r i t
def cget (f b : Nat) : Cuts → Option (Ex × St)
 | [] => none
 | p :: t => if p.1 = f && p.2.1 = b then some p.2.2 else cget f b t
def cutC (f : Nat) (c : Operand) (C : Cuts) : Option (Ex × St) := match c with
 | .tmp t => cget f (2000000 + t) C
 | _ => none
def All : List Prop → Prop
 | [] => True
 | [p] => p
 | p :: q :: t => p ∧ All (q :: t)
theorem zbg {p : Prop} {t : List Prop} (h : All (p :: t)) : p ∧ All t := by
 cases t with
 | nil => exact ⟨h, trivial⟩
 | cons q t => exact h
theorem zPg : ∀ {s t : List Prop}, All (s ++ t) → All s
 | [], _, _ => trivial
 | [p], t, h => (zbg h).1
 | p :: q :: s, t, h => ⟨(zbg h).1, zPg (s := q :: s) (zbg h).2⟩
theorem z1f : ∀ {s t : List Prop}, All (s ++ t) → All t
 | [], _, h => h
 | _ :: s, t, h => z1f (s := s) (zbg h).2
def appO (z : Nat) (o : O) (n : Nat) (xs : List (List D)) : Option (Nat × O) :=
 if n + xs.length ≤ LIM ∧ (xs.all fun e => e.length == z) = true then
  match o with
  | .row z' es w => if es.length = n ∧ z' = z then some (n + xs.length, .row z' (es ++ xs) w) else none
  | .nrow => if n = 0 then (if xs.isEmpty then some (0, .nrow) else some (xs.length, .row z xs true)) else none
  | _ => none
 else none
def z6g : O → O
 | .row z es true => .row z es false
 | o => o
def stO (o : O) (k i f n : Nat) (ds : List D) : Option O := match o with
 | .row z es true => if es.length = k then (es[i]?).bind fun e => if f + n ≤ e.length then some (.row z (es.set i (z3c e f ds)) true) else none else none
 | _ => none
theorem zkj {α : Type} {k : Nat} {v : α} : ∀ {l : List (Nat × α)}, aget k l = some v → aset k v l = l
 | [], h => by simp [aget] at h
 | p :: t, h => by
  unfold aget at h
  unfold aset
  by_cases hp : p.1 = k
  ·rw [if_pos hp] at h ⊢
   simp only [Option.some.injEq] at h
   rw [← h, ← hp]
  ·rw [if_neg hp] at h ⊢
   rw [zkj h]
theorem FS.set_same {fs : FS} {l s : Nat} {o : O} (h : fs.get l s = some o) : fs.set l s o = fs := by
 unfold FS.get at h
 unfold FS.set
 by_cases hl : l = fs.lo.length
 ·rw [if_pos hl] at h ⊢
  rw [zkj h]
 ·rw [if_neg hl] at h ⊢
  cases hf : fs.lo[l]? with
  | none => rw [hf] at h; simp at h
  | some fr =>
   rw [hf] at h
   simp only [Option.bind_some] at h
   have : fs.lo.modify l (aset s o) = fs.lo := by
    apply List.ext_getElem?
    intro i
    rw [List.getElem?_modify]
    by_cases hi : l = i
    ·subst hi; rw [hf]; simp [zkj h]
    ·simp [hi]
   rw [this]
theorem zXn {α : Type} {k : Nat} {v : α} : ∀ {l : List (Nat × α)} {w : α}, aget k l = some w → aget k (aset k v l) = some v
 | [], w, h => by simp [aget] at h
 | p :: t, w, h => by
  unfold aget at h
  unfold aset
  by_cases hp : p.1 = k
  ·rw [if_pos hp]; simp [aget]
  ·rw [if_neg hp] at h ⊢
   simp only [aget, if_neg hp]
   exact zXn h
theorem zhl {α : Type} {k j : Nat} {v : α} (hj : k ≠ j) : ∀ {l : List (Nat × α)}, aget k (aset j v l) = aget k l
 | [] => by simp [aset, aget, Ne.symm hj]
 | p :: t => by
  unfold aset
  by_cases hp : p.1 = j
  ·rw [if_pos hp]
   simp only [aget]
   rw [if_neg (Ne.symm hj), if_neg (by rw [hp]; exact Ne.symm hj)]
  ·rw [if_neg hp]
   simp only [aget]
   by_cases hk : p.1 = k
   ·rw [if_pos hk, if_pos hk]
   ·rw [if_neg hk, if_neg hk]; exact zhl hj
theorem FS.set_lo {fs : FS} {l s : Nat} {o : O} : (fs.set l s o).lo.length = fs.lo.length := by
 unfold FS.set
 split <;> simp
theorem FS.gs1 {fs : FS} {l s : Nat} {o p : O} (h : fs.get l s = some p) : (fs.set l s o).get l s = some o := by
 unfold FS.get at h ⊢
 rw [FS.set_lo]
 unfold FS.set
 by_cases hl : l = fs.lo.length
 ·rw [if_pos hl] at h ⊢
  rw [if_pos hl]
  exact zXn h
 ·rw [if_neg hl] at h ⊢
  rw [if_neg hl]
  cases hf : fs.lo[l]? with
  | none => rw [hf] at h; simp at h
  | some fr =>
   rw [hf] at h
   simp only [Option.bind_some] at h
   simp only [List.getElem?_modify, if_true, hf, Option.map_some, Option.bind_some]
   exact zXn h
theorem FS.gs2 {fs : FS} {l s l' s' : Nat} {o : O} (h : ¬ (l = l' ∧ s = s')) : (fs.set l' s' o).get l s = fs.get l s := by
 unfold FS.get
 rw [FS.set_lo]
 unfold FS.set
 by_cases hl' : l' = fs.lo.length
 ·rw [if_pos hl']
  by_cases hl : l = fs.lo.length
  ·rw [if_pos hl, if_pos hl]
   exact zhl fun e => h ⟨by rw [hl, hl'], e⟩
  ·rw [if_neg hl, if_neg hl]
 ·rw [if_neg hl']
  by_cases hl : l = fs.lo.length
  ·rw [if_pos hl, if_pos hl]
  ·rw [if_neg hl, if_neg hl]
   simp only [List.getElem?_modify]
   by_cases e : l' = l
   ·subst e
    simp only [if_true]
    cases fs.lo[l']? with
    | none => rfl
    | some fr => simp only [Option.map_some, Option.bind_some]; exact zhl fun e => h ⟨rfl, e⟩
   ·simp [e]
theorem zmu {P : Program} {fs : FS} {T : TypeId} {q : Nat × List D} {l t n n' : Nat} {x : X} {xs : List (List D)} {o o' : O} (hq : okS P T = some q) (hx : zRe fs.get x = some xs) (ho : fs.get l t = some o) (h : appO q.1 o n xs = some (n', o')) : appL P fs T (.row l t n) x = some (.row l t n', fs.set l t o') := by
 unfold appO at h
 unfold appL
 rw [hq, hx]
 simp only
 by_cases hc : n + xs.length ≤ LIM ∧ (xs.all fun e => e.length == q.1) = true
 ·rw [if_pos hc] at h ⊢
  rw [ho]
  cases o with
  | row z es w =>
   simp only at h ⊢
   by_cases hd : es.length = n ∧ z = q.1
   ·rw [if_pos hd] at h ⊢
    simp only [Option.some.injEq, Prod.mk.injEq] at h
    rw [h.1, h.2]
   ·rw [if_neg hd] at h; simp at h
  | nrow =>
   simp only at h ⊢
   by_cases hn : n = 0
   ·rw [if_pos hn] at h ⊢
    by_cases he : xs.isEmpty = true
    ·rw [if_pos he] at h ⊢
     simp only [Option.some.injEq, Prod.mk.injEq] at h
     rw [← h.1, ← h.2, FS.set_same ho]
    ·rw [if_neg he] at h ⊢
     simp only [Option.some.injEq, Prod.mk.injEq] at h
     rw [h.1, h.2]
   ·rw [if_neg hn] at h; simp at h
  | _ => simp at h
 ·rw [if_neg hc] at h; simp at h
theorem zok {fs : FS} {l s n : Nat} {o : O} (h : fs.get l s = some o) : lend fs (.row l s n) = fs.set l s (z6g o) := by
 unfold lend z6g
 simp only [h]
 cases o with
 | row z es w => cases w <;> simp [FS.set_same h]
 | _ => simp [FS.set_same h]
def zcg (fs : FS) : List X → List (D × O) → Option ((List D × FS × List (D × O)) × List Prop)
 | [], rs => some (([], fs, rs), [])
 | .d x :: t, rs => match zcg fs t rs with
  | some q => some ((x :: q.1.1, q.1.2.1, q.1.2.2), q.2)
  | none => none
 | .row l s n :: t, r :: rs => match fs.get l s with
  | some o => match zcg (fs.set l s r.2) t rs with
   | some q => some ((r.1 :: q.1.1, q.1.2.1, q.1.2.2), (z6g o = r.2 ∧ toD (fun _ _ => some r.2) (.row l s n) = some r.1) :: q.2)
   | none => none
  | none => none
 | _, _ => none
def zDh (fs : FS) : List X → List (D × O) → Option ((List D × FS × List (D × O)) × List Prop)
 | [], rs => some (([], fs, rs), [])
 | .agg cs :: t, rs => match zcg fs cs rs with
  | some p => match zDh p.1.2.1 t p.1.2.2 with
   | some q => some ((.agg p.1.1 :: q.1.1, q.1.2.1, q.1.2.2), p.2 ++ q.2)
   | none => none
  | none => none
 | x :: t, rs => match zcg fs [x] rs with
  | some p => match p.1.1 with
   | [d] => match zDh p.1.2.1 t p.1.2.2 with
    | some q => some ((d :: q.1.1, q.1.2.1, q.1.2.2), p.2 ++ q.2)
    | none => none
   | _ => none
  | none => none
def Kept (fs fs' : FS) : Prop := ∀ l s o, fs.get l s = some o → z6g o = o → fs'.get l s = some o
theorem Kept.refl (fs : FS) : Kept fs fs := fun _ _ _ h _ => h
theorem Kept.trans {a b c : FS} (h : Kept a b) (k : Kept b c) : Kept a c := fun l s o ho hl => k l s o (h l s o ho hl) hl
theorem zet {fs : FS} {l s : Nat} {o : O} (h : fs.get l s = some o) : Kept fs (fs.set l s (z6g o)) := fun l' s' o' ho hl => by
 by_cases e : l' = l ∧ s' = s
 ·obtain ⟨rfl, rfl⟩ := e
  rw [h] at ho
  simp only [Option.some.injEq] at ho
  subst ho
  rw [FS.gs1 h, hl]
 ·rw [FS.gs2 e]; exact ho
theorem zZl {o : O} {l s n : Nat} {d : D} (h : toD (fun _ _ => some o) (.row l s n) = some d) : z6g o = o := by
 unfold toD at h
 simp only at h
 cases o with
 | row z es w => cases w <;> simp_all [z6g]
 | _ => rfl
theorem z5j {φ : Get} {o : O} {l s n : Nat} (h : φ l s = some o) : toD φ (.row l s n) = toD (fun _ _ => some o) (.row l s n) := by
 simp only [toD, h]
theorem zYj : ∀ {xs : List X} {fs : FS} {rs : List (D × O)} {r : List D × FS × List (D × O)} {P : List Prop}, zcg fs xs rs = some (r, P) → All P → xs.foldl lend fs = r.2.1 ∧ Kept fs r.2.1 ∧ (∀ fs', Kept r.2.1 fs' → toDs fs'.get xs = some r.1)
 | [], fs, rs, r, P, h, hP => by
  simp only [zcg, Option.some.injEq, Prod.mk.injEq] at h
  obtain ⟨rfl, _⟩ := h
  exact ⟨rfl, .refl _, fun _ _ => rfl⟩
 | x :: t, fs, rs, r, P, h, hP => by
  cases x with
  | d y =>
   simp only [zcg] at h
   cases hq : zcg fs t rs with
   | none => simp [hq] at h
   | some q =>
    simp only [hq, Option.some.injEq, Prod.mk.injEq] at h
    obtain ⟨rfl, rfl⟩ := h
    obtain ⟨h1, h2, h3⟩ := zYj (r := q.1) (P := q.2) hq hP
    refine ⟨?_, h2, fun fs' hk => ?_⟩
    ·simp only [List.foldl_cons, lend]; exact h1
    ·simp only [toDs, toD, h3 fs' hk]
  | row l s n =>
   cases rs with
   | nil => simp [zcg] at h
   | cons p rs =>
    simp only [zcg] at h
    cases ho : fs.get l s with
    | none => simp [ho] at h
    | some o =>
     simp only [ho] at h
     cases hq : zcg (fs.set l s p.2) t rs with
     | none => simp [hq] at h
     | some q =>
      simp only [hq, Option.some.injEq, Prod.mk.injEq] at h
      obtain ⟨rfl, rfl⟩ := h
      obtain ⟨⟨hl, hd⟩, hP'⟩ := zbg hP
      obtain ⟨h1, h2, h3⟩ := zYj (r := q.1) (P := q.2) hq hP'
      have hg : (fs.set l s p.2).get l s = some p.2 := FS.gs1 ho
      refine ⟨?_, (Kept.trans (by rw [← hl]; exact zet ho) h2), fun fs' hk => ?_⟩
      ·simp only [List.foldl_cons, zok ho, hl]; exact h1
      ·have hg' := hk l s p.2 (h2 l s p.2 hg (zZl hd)) (zZl hd)
       simp only [toDs, z5j hg', hd, h3 fs' hk]
  | _ => simp [zcg] at h
theorem zmo {φ : Get} {x : X} {t : List X} {d : D} {ds : List D} (h : toDA φ x = some d) (k : zeb φ t = some ds) : zeb φ (x :: t) = some (d :: ds) := by simp only [zeb, h, k]
theorem zXj : ∀ {xs : List X} {fs : FS} {rs : List (D × O)} {r : List D × FS × List (D × O)} {P : List Prop}, zDh fs xs rs = some (r, P) → All P → xs.foldl zW fs = r.2.1 ∧ Kept fs r.2.1 ∧ (∀ fs', Kept r.2.1 fs' → zeb fs'.get xs = some r.1)
 | [], fs, rs, r, P, h, hP => by
  simp only [zDh, Option.some.injEq, Prod.mk.injEq] at h
  obtain ⟨rfl, _⟩ := h
  exact ⟨rfl, .refl _, fun _ _ => rfl⟩
 | x :: t, fs, rs, r, P, h, hP => by
  have one : ∀ (ha : ∀ f, zW f x = lend f x) (hd : ∀ φ, toDA φ x = toD φ x), (match zcg fs [x] rs with
    | some p => match p.1.1 with
     | [d] => match zDh p.1.2.1 t p.1.2.2 with
      | some q => some ((d :: q.1.1, q.1.2.1, q.1.2.2), p.2 ++ q.2)
      | none => none
     | _ => none
    | none => none) = some (r, P) → (x :: t).foldl zW fs = r.2.1 ∧ Kept fs r.2.1 ∧ (∀ fs', Kept r.2.1 fs' → zeb fs'.get (x :: t) = some r.1) := by
   intro ha hd h
   cases hp : zcg fs [x] rs with
   | none => rw [hp] at h; simp at h
   | some p =>
    simp only [hp] at h
    split at h
    ·rename_i d he
     cases hq : zDh p.1.2.1 t p.1.2.2 with
     | none => simp [hq] at h
     | some q =>
      simp only [hq, Option.some.injEq, Prod.mk.injEq] at h
      obtain ⟨rfl, rfl⟩ := h
      obtain ⟨h1, h2, h3⟩ := zYj (r := p.1) (P := p.2) hp (zPg hP)
      obtain ⟨k1, k2, k3⟩ := zXj (r := q.1) (P := q.2) hq (z1f hP)
      refine ⟨?_, h2.trans k2, fun fs' hk => ?_⟩
      ·simp only [List.foldl_cons, ha]
       simp only [List.foldl_cons, List.foldl_nil] at h1
       rw [h1]; exact k1
      ·have := h3 fs' (k2.trans hk)
       simp only [toDs] at this
       refine zmo ?_ (k3 fs' hk)
       rw [hd]
       cases hx : toD fs'.get x with
       | none => simp [hx] at this
       | some y =>
        simp only [hx, Option.some.injEq] at this
        rw [he] at this
        simpa using this
    ·simp at h
  cases x with
  | agg cs =>
   simp only [zDh] at h
   cases hp : zcg fs cs rs with
   | none => simp [hp] at h
   | some p =>
    simp only [hp] at h
    cases hq : zDh p.1.2.1 t p.1.2.2 with
    | none => simp [hq] at h
    | some q =>
     simp only [hq, Option.some.injEq, Prod.mk.injEq] at h
     obtain ⟨rfl, rfl⟩ := h
     obtain ⟨h1, h2, h3⟩ := zYj (r := p.1) (P := p.2) hp (zPg hP)
     obtain ⟨k1, k2, k3⟩ := zXj (r := q.1) (P := q.2) hq (z1f hP)
     refine ⟨?_, h2.trans k2, fun fs' hk => ?_⟩
     ·simp only [List.foldl_cons, zW, h1]; exact k1
     ·exact zmo (by simp only [toDA, h3 fs' (k2.trans hk), Option.map_some]) (k3 fs' hk)
  | _ => exact one (fun _ => rfl) (fun _ => rfl) h
def zbi : Op → Bool
 | .call c => match c.callee with
  | .builtin _ => false
  | _ => true
 | _ => false
abbrev W (α : Type) := Option (α × List Prop)
def W.seq {α β : Type} (x : W α) (f : α → W β) : W β := match x with
 | some p => match f p.1 with
  | some q => some (q.1, p.2 ++ q.2)
  | none => none
 | none => none
abbrev RecV := Nat → Code → St → W (Ex × St)
variable (E : Env) (V : Ovs) (C : Cuts)
def runV (rec : RecV) (f : Nat) (args : List X) (lo : List Fr) (lp : List LRec) : W (List X × St) :=
 match fnOf E f args.length with
 | some q => W.seq (rec f q.2 { tm := params 0 args, fs := { fr := [], lo := lo }, lp := lp }) fun r =>
  if r.1 = .nor ∨ r.1 = .ret then (z1k E.P r.2 q.1.results.toList).map fun xs => ((xs, r.2), []) else none
 | none => none
def zFl (rec : RecV) (f : Nat) (args : List X) (fs : FS) (lp : List LRec) : W (D × FS × List LRec) :=
 W.seq (runV E rec f args (fs.lo ++ [fs.fr]) lp) fun q =>
  match zGc q.2.fs q.1, zef q.2.fs.lo with
  | some ds, some fs' => some ((tupD ds, fs', q.2.lp), [])
  | _, _ => none
def zEq (rec : RecV) (k : Nat) (args : List X) (fs : FS) (lp : List LRec) : W (D × FS × List LRec) :=
 match lp[k]? with
 | some r =>
  if r.st = .rdy ∧ args.length = r.ps.size then
   match allD args with
   | some _ =>
    W.seq (rec r.fid r.assign { tm := zUj r.tm r.ps.toList args, fs := { fr := [], lo := fs.lo ++ [fs.fr] }, lp := lp }) fun q =>
     if q.1 = .nor ∧ (q.2.lp[k]?).map (·.st) = some .rdy then
      W.seq (rec r.fid r.body { q.2 with lp := q.2.lp.set k { r with st := .busy } }) fun q2 =>
       match zef q2.2.fs.lo with
       | some fs' => some ((.b (decide (q2.1 = .nor)), fs', q2.2.lp.set k { r with st := if q2.1 = .nor then .rdy else .done q2.1 }), [])
       | none => none
     else none
   | none => none
  else none
 | none => none
def z4l (st : St) (fs : FS) (d : Nat) (r : List X × St) : W (X × FS × List LRec) := match r.1 with
 | [.row l s n] => if l = r.2.fs.lo.length then (match aget s r.2.fs.fr with
  | some o => match zR { st with fs := fs } (some d) d o with
   | some fs' => some ((.row fs.lv d n, fs', st.lp), [zyl o n = true])
   | none => none
  | none => none) else none
 | [.d (.sl [] .nil)] => (zR { st with fs := fs } (some d) d .nrow).map fun fs' => ((.row fs.lv d 0, fs', st.lp), [])
 | _ => none
def zXr (rec : RecV) (h : Hint) (st : St) (t : Option Nat) (op : Op) : W (X × FS × List LRec) :=
 match op with
 | .call c => match c.callee with
  | .value f =>
   match evA E st.tm f with
   | .yld k => W.seq (zEq rec k (c.args.toList.map (evA E st.tm)) st.fs st.lp) fun q => some ((.d q.1, q.2.1, q.2.2), [])
   | fv => match zV fv with
    | some q =>
     let args := q.2.1 ++ c.args.toList.map (evA E st.tm) ++ q.2.2
     match zeb (args.foldl zW st.fs).get args with
     | some ds => match t with
      | some d => if h.rowSites.contains d then W.seq (runV E rec q.1 (ds.map .d) [] []) (z4l st (args.foldl zW st.fs) d)
       else none
      | none => none
     | none => W.seq (zFl E rec q.1 args st.fs st.lp) fun r => some ((.d r.1, r.2.1, r.2.2), [])
    | none => none
  | _ => none
 | _ => none
def zwi (st : St) (op : Op) : Ov → W X
 | .q x => if zbi op then none else some (x, [evQ E (zC E (ev E)) (evA E st.tm) st.fs.get op = some x])
 | .c d => match op with
  | .call c => match c.callee with
   | .value f => match zV (evA E st.tm f) with
    | some q => match zeb st.fs.get (q.2.1 ++ c.args.toList.map (evA E st.tm) ++ q.2.2) with
     | some ds => some (.d d, [zC E (ev E) q.1 ds = some d])
     | none => none
    | none => none
   | _ => none
  | _ => none
 | _ => none
def zgd (fid : Nat) (st : St) (t : Option Nat) (op : Op) : Ov → W (X × FS × List LRec)
 | .st cs' => match op with
  | .store T a x =>
   match !zto (E.H fid) a (evA E st.tm x), szT E.P T, zci (evA E st.tm x), evA E st.tm a with
   | true, some n, some vs, .ptr l s o => if vs.length = n then
     (match st.fs.get l s with
      | some (.cells cs) => if X.okAtL st.lp l vs = true then some ((.d (.tup []), st.fs.set l s (.cells cs'), st.lp), [o + n ≤ cs.length ∧ z3c cs o vs = cs']) else none
      | _ => none) else none
   | _, _, _, _ => none
  | _ => none
 | .mp es' => match op with
  | .mapUpdate T m k v =>
   let fs := zW st.fs (evA E st.tm v)
   match toDA fs.get (evA E st.tm v), mpT E.P T, evA E st.tm m, evA E st.tm k with
   | some vd, some q, .map l s, .d kd => if z8e E.P q.1 kd then
     (match fs.get l s with
      | some (.map es) => some ((.d (.tup []), fs.set l s (.map es'), st.lp), [setD kd vd es = some es'])
      | _ => none) else none
   | _, _, _, _ => none
  | .entryStore _ m n v =>
   match evA E st.tm m, evA E st.tm n, evA E st.tm v with
   | .map l s, .d (.i .i64 n), .d vd =>
    (match st.fs.get l s with
     | some (.map es) => some ((.d (.tup []), st.fs.set l s (.map es'), st.lp), [0 ≤ n ∧ (es[n.toNat]?).map (fun p => es.set n.toNat (p.1, vd)) = some es'])
     | _ => none)
   | _, _, _ => none
  | _ => none
 | .me d n es' => match op with
  | .mapEntry T m k =>
   match mpT E.P T, evA E st.tm m, evA E st.tm k with
   | some q, .map l s, .d kd => if z8e E.P q.1 kd then
     (match zvT E.P q.2, st.fs.get l s with
      | some z, some (.map es) => some ((.d (.tup [d, .i .i64 (n : Int)]), st.fs.set l s (.map es'), st.lp), [entD kd z es = some (es', d, n)])
      | _, _ => none) else none
   | _, _, _ => none
  | _ => none
 | .l x lv s o => if zbi op then none else some ((x, st.fs.set lv s o, st.lp), [evL E (ev E) (E.H fid) st t op = some (x, st.fs.set lv s o, st.lp)])
 | .c d => match op with
  | .call c => match c.callee with
   | .value f => match evA E st.tm f with
    | .yld k => none
    | fv => match zV fv with
     | some q =>
      let args := q.2.1 ++ c.args.toList.map (evA E st.tm) ++ q.2.2
      let fs := args.foldl zW st.fs
      match zeb fs.get args with
      | some ds => match t with
       | some t => if (E.H fid).rowSites.contains t then none else some ((.d d, fs, st.lp), [zC E (ev E) q.1 ds = some d])
       | none => some ((.d d, fs, st.lp), [zC E (ev E) q.1 ds = some d])
      | none => none
     | none => none
   | _ => none
  | _ => none
 | .i d fs lp => match op with
  | .call c => match c.callee with
   | .value f => match evA E st.tm f with
    | .yld k => some ((.d d, fs, lp), [round (ev E) k (c.args.toList.map (evA E st.tm)) st.fs st.lp = some (d, fs, lp)])
    | fv => match zV fv with
     | some q =>
      let args := q.2.1 ++ c.args.toList.map (evA E st.tm) ++ q.2.2
      match zeb (args.foldl zW st.fs).get args with
      | some _ => none
      | none => some ((.d d, fs, lp), [zHb E (ev E) q.1 args st.fs st.lp = some (d, fs, lp)])
     | none => none
   | _ => none
  | _ => none
 | .q _ => none
 | .nm _ _ => none
 | .ap n' o' => match op with
  | .call c => match c.callee with
   | .builtin .append => match c.argTypes.toList, c.args.toList.map (evA E st.tm) with
    | T :: U :: _, [.row l s n, x] => if T = U then
      (match okS E.P T, zRe st.fs.get x, st.fs.get l s with
       | some q, some xs, some o => some ((.row l s n', st.fs.set l s o', st.lp), [appO q.1 o n xs = some (n', o')])
       | _, _, _ => none) else none
    | _, _ => none
   | _ => none
  | _ => none
 | .sr x' o' => match op with
  | .slice T x lo hi mx => match evA E st.tm x with
   | .row l s n => match st.fs.get l s with
    | some o => some ((x', st.fs.set l s o', st.lp), [z6g o = o' ∧ zle E.P (fun _ _ => some o') T (evA E st.tm) (.row l s n) lo hi mx = some x'])
    | none => none
   | _ => none
  | _ => none
 | .cr rs d => match op with
  | .call c => match c.callee with
   | .value f => match evA E st.tm f with
    | .yld k => none
    | fv => match zV fv with
     | some q => match zDh st.fs (q.2.1 ++ c.args.toList.map (evA E st.tm) ++ q.2.2) rs with
      | some p => match t with
       | some t => if (E.H fid).rowSites.contains t then none else some ((.d d, p.1.2.1, st.lp), p.2 ++ [zC E (ev E) q.1 p.1.1 = some d])
       | none => some ((.d d, p.1.2.1, st.lp), p.2 ++ [zC E (ev E) q.1 p.1.1 = some d])
      | none => none
     | none => none
   | _ => none
  | _ => none
 | .rs o' => match op with
  | .store T a x =>
   match !zto (E.H fid) a (evA E st.tm x), szT E.P T, (zci (evA E st.tm x)).bind allD, evA E st.tm a with
   | true, some n, some ds, .rp l s k i f => if ds.length = n then
     (match st.fs.get l s with
      | some o => some ((.d (.tup []), st.fs.set l s o', st.lp), [stO o k i f n ds = some o'])
      | none => none) else none
   | _, _, _, _ => none
  | _ => none
 | .ns es' n' => match op with
  | .call c => match c.callee with
   | .builtin .append => match c.argTypes.toList, c.args.toList.map (evA E st.tm) with
    | T :: U :: _, [.d (.sl ss .ex), .d (.sl xs cx)] => if T = U then
      (match t, slT E.P T with
       | some d, some q => if (E.H fid).rowSites.contains d then
         (match zR st (some d) d (.row q.1 es' true) with
         | some fs => some ((.row st.fs.lv d n', fs, st.lp), [es'.length = n', (∃ k, appQ E.P st.fs.get T (.d (.sl ss .ex)) (.d (.sl xs cx)) = some (.d (.sl es' k))), (ss.isEmpty || !xs.isEmpty) = true])
         | none => none) else none
       | _, _ => none) else none
    | _, _ => none
   | _ => none
  | _ => none
 | .fz r o' => match op, t with
  | .assign x, some d => match evA E st.tm x with
   | .row l s n => if (E.H fid).rowVars.contains (1000000 + d) then
     (match st.fs.get l s with
      | some o => some ((.d r, st.fs.set l s o', st.lp), [z6g o = o' ∧ toD (fun _ _ => some o') (.row l s n) = some r])
      | none => none) else none
   | _ => none
  | .buildSlice T n ps, some d => match ps.toList with
   | [p] => match evA E st.tm p.2 with
    | .row l s n' => if (E.H fid).rowVars.contains (2000000 + d) then
      (match st.fs.get l s, z4g E.P T n [(p.1, .d r)] with
       | some o, some x => some ((x, st.fs.set l s o', st.lp), [z6g o = o' ∧ toD (fun _ _ => some o') (.row l s n') = some r])
       | _, _ => none) else none
    | _ => none
   | _ => none
  | _, _ => none
 | .ms n' es' => match op, t with
  | .makeSlice T n c, some d => match okS E.P T, intX (evA E st.tm n), intX (evA E st.tm c) with
   | some q, some n, some c => match zR st (some d) d (.row q.1 es' true) with
    | some fs => some ((.row st.fs.lv d n', fs, st.lp), [(0 ≤ n ∧ n = c ∧ n ≤ (LIM : Int)), n.toNat = n', List.replicate n.toNat q.2 = es'])
    | none => none
   | _, _, _ => none
  | _, _ => none
def Ov.both : Ov → Bool
 | .sr _ _ => true
 | .cr _ _ => true
 | _ => false
def zIp (rec : RecV) (fid rid i : Nat) (ops : Array Oper) (sp : Bool) (st : St) (o : Oper) : W St :=
 match zFh ops st.tm o with
 | none => none
 | some false => some ({ st with tm := tput st.tm o.dst (.d (.tup [])) }, [])
 | some true =>
  match oget fid rid i V with
  | some v =>
   if !(sp && useL (E.H fid) o) && (zwi E st o.op v).isSome then W.seq (zwi E st o.op v) fun x => some ({ st with tm := tput st.tm o.dst x }, [])
   else if sp && (v.both || (useL (E.H fid) o || !zFf E (evA E st.tm) st.fs.get o.op)) then W.seq (zgd E fid st o.dst o.op v) fun q => some ({ tm := tput st.tm o.dst q.1, fs := q.2.1, lp := q.2.2 }, [])
   else none
  | none =>
   if !(sp && useL (E.H fid) o) && zFf E (evA E st.tm) st.fs.get o.op then (evQ E (fun _ _ => none) (evA E st.tm) st.fs.get o.op).map fun x => ({ st with tm := tput st.tm o.dst x }, [])
   else if sp then
    (if zbi o.op then W.seq (zXr E rec (E.H fid) st o.dst o.op) fun q => some ({ tm := tput st.tm o.dst q.1, fs := q.2.1, lp := q.2.2 }, [])
     else (evL E (fun _ _ _ => none) (E.H fid) st o.dst o.op).map fun q => ({ tm := tput st.tm o.dst q.1, fs := q.2.1, lp := q.2.2 }, []))
   else none
def zMq (rec : RecV) (fid rid : Nat) (ops : Array Oper) : Nat → List Oper → St → W St
 | _, [], st => some (st, [])
 | i, o :: t, st => W.seq (zIp E V rec fid rid i ops true st o) (zMq rec fid rid ops (i + 1) t)
def z0r (fid rid i : Nat) (st : St) (s : Nat) (T : TypeId) (a x : Operand) : W St :=
 match oget fid rid i V with
 | some (.ns es' n') => match slT E.P T, evA E st.tm a, evA E st.tm x, st.fs.get st.fs.lv s with
  | some p, .d (.sl ss .ex), .d (.sl xs cx), some .nrow => some ({ tm := tput st.tm (some s) (.row st.fs.lv s n'), fs := st.fs.set st.fs.lv s (.row p.1 es' true), lp := st.lp },
    [es'.length = n', (∃ k, appQ E.P st.fs.get T (.d (.sl ss .ex)) (.d (.sl xs cx)) = some (.d (.sl es' k))), (ss.isEmpty || !xs.isEmpty) = true])
  | _, _, _, _ => none
 | _ => none
def entV (fid rid i : Nat) (st : St) (dst : Option Nat) (q : TypeId × Nat × Nat) : W St :=
 match oget fid rid i V with
 | some (.me d n es') => match mpT E.P q.1, tget st.tm q.2.1, tget st.tm q.2.2 with
  | some p, .map l s, .d kd => if z8e E.P p.1 kd then
    (match zvT E.P p.2, st.fs.get l s with
     | some z, some (.map es) => some ({ tm := tput st.tm dst (.d (.tup [d, .i .i64 (n : Int)])), fs := st.fs.set l s (.map es'), lp := st.lp }, [entD kd z es = some (es', d, n)])
     | _, _ => none) else none
  | _, _, _ => none
 | _ => none
def zBq (rec : RecV) (fid rid : Nat) (ops : Array Oper) (h : zvb) (i : Nat) (st : St) (o : Oper) : W St :=
 if zTf E h i st o.op then none else
 match zGb o with
 | some q => if o.guard.isNone then some ({ tm := tput st.tm (some q.1) (.ptr st.fs.lv q.1 0), fs := st.fs, lp := st.lp }, []) else none
 | none => match aget i h.soft with
  | some s => match z6j o.op with
   | some q => if o.guard.isNone then (z8k E st o.dst s q.1 q.2.1 q.2.2).map fun st' => (st', []) else none
   | none => match zOh o.op with
    | some q => if o.guard.isNone ∧ o.dst = some s then z0r E V fid rid i st s q.1 q.2.1 q.2.2 else none
    | none => match zSc o.op with
     | some q => if o.guard.isNone then entV E V fid rid i st o.dst q else none
     | none => none
  | none => zIp E V rec fid rid i ops (h.sp.contains i) st o
def zUo (rec : RecV) (fid rid : Nat) (ops : Array Oper) (h : zvb) : Nat → List Oper → St → W St
 | _, [], st => some (st, [])
 | i, o :: t, st => W.seq (zBq E V rec fid rid ops h i st o) (zUo rec fid rid ops h (i + 1) t)
def zgr (rec : RecV) (fid id : Nat) (ops : Array Oper) (draw : Bool) (st : St) : W St :=
 if draw then
  match zQl (E.H fid) id with
  | some h => match zzo E.P h ops.toList st.fs with
   | some fs => zUo E V rec fid id ops h 0 ops.toList { st with tm := zQf (E.H fid) st.tm, fs := fs }
   | none => none
  | none => none
 else zMq E V rec fid id ops 0 ops.toList { st with tm := zQf (E.H fid) st.tm }
def renT (tm : TM) : List (Nat × Nat) → TM × List Prop
 | [] => (tm, [])
 | p :: t => match tget tm p.1 with
  | .row l s n => let q := renT (aset p.1 (.row l s p.2) tm) t; (q.1, (n = p.2) :: q.2)
  | _ => renT tm t
def renF (fr : Fr) : List (Nat × Nat × Nat) → Fr × List Prop
 | [] => (fr, [])
 | p :: t => match aget p.1 fr with
  | some (.cells cs) => match cs[p.2.1]? with
   | some (.row l s n) => let q := renF (aset p.1 (.cells (cs.set p.2.1 (.row l s p.2.2))) fr) t; (q.1, (n = p.2.2) :: q.2)
   | _ => renF fr t
  | _ => renF fr t
theorem z6o : ∀ {ts : List (Nat × Nat)} {tm : TM}, All (renT tm ts).2 → (renT tm ts).1 = tm
 | [], _, _ => rfl
 | p :: t, tm, h => by
  unfold renT at h ⊢
  cases hx : tget tm p.1 with
  | row l s n =>
   simp only [hx] at h ⊢
   obtain ⟨rfl, h2⟩ := zbg h
   rw [z6o h2]
   unfold tget at hx
   cases ha : aget p.1 tm with
   | none => rw [ha] at hx; simp at hx
   | some x =>
    rw [ha] at hx
    simp only [Option.getD_some] at hx
    rw [← hx]
    exact zkj ha
  | _ => simp only [hx] at h ⊢; exact z6o h
theorem z3j : ∀ {ts : List (Nat × Nat × Nat)} {fr : Fr}, All (renF fr ts).2 → (renF fr ts).1 = fr
 | [], _, _ => rfl
 | p :: t, fr, h => by
  unfold renF at h ⊢
  cases ha : aget p.1 fr with
  | none => simp only [ha] at h ⊢; exact z3j h
  | some o =>
   cases o with
   | cells cs =>
    simp only [ha] at h ⊢
    cases hc : cs[p.2.1]? with
    | none => simp only [hc] at h ⊢; exact z3j h
    | some x =>
     cases x with
     | row l s n =>
      simp only [hc] at h ⊢
      obtain ⟨rfl, h2⟩ := zbg h
      rw [z3j h2]
      have : cs.set p.2.1 (.row l s p.2.2) = cs := by
       apply List.ext_getElem?
       intro i
       by_cases hi : p.2.1 = i
       ·subst hi
        rw [List.getElem?_set_self (List.getElem?_eq_some_iff.1 hc).1, hc]
       ·rw [List.getElem?_set_ne hi]
      rw [this]
      exact zkj ha
     | _ => simp only [hc] at h ⊢; exact z3j h
   | _ => simp only [ha] at h ⊢; exact z3j h
def zBs (rec : RecV) (fid id : Nat) (ops : Array Oper) (draw : Bool) (st : St) : W St :=
 W.seq (zgr E V rec fid id ops draw st) fun s => match oget fid id 999 V with
  | some (.nm ts cs) => some ({ tm := (renT (zQf (E.H fid) s.tm) ts).1, fs := { s.fs with fr := (renF s.fs.fr cs).1 }, lp := s.lp }, (renT (zQf (E.H fid) s.tm) ts).2 ++ (renF s.fs.fr cs).2)
  | _ => some ({ s with tm := zQf (E.H fid) s.tm }, [])
def zwn (rec : RecV) (fid : Nat) (c : Code) (st : St) : W (Ex × St) :=
 match c with
 | .skip => some ((.nor, st), [])
 | .label _ => some ((.nor, st), [])
 | .region id ops draw => match cget fid (1000000 + id) C with
  | some r => some (r, [ev E fid (.region id ops draw) st = some r])
  | none => W.seq (zBs E V rec fid id ops draw st) fun s => some ((.nor, s), [])
 | .seq a b => W.seq (rec fid a st) fun r => if r.1 = .nor then rec fid b r.2 else some (r, [])
 | .cond c a b => match cutC fid c C with
  | some r => some (r, [ev E fid (.cond c a b) st = some r])
  | none => match evA E st.tm c with
   | .d (.b t) => rec fid (if t then a else b) st
   | _ => none
 | .block id c => match cget fid id C with
  | some r => some (r, [ev E fid (.block id c) st = some r])
  | none => W.seq (rec fid c st) fun r => some ((if r.1 = .exit id then .nor else r.1, r.2), [])
 | .rangeFunc f ps assign body => match zV (evA E st.tm f) with
  | some q =>
   W.seq (zFl E rec q.1 (q.2.1 ++ [.yld st.lp.length] ++ q.2.2) st.fs (st.lp ++ [{ tm := st.tm, lv := st.fs.lv, ps := ps, assign := assign, body := body, fid := fid, st := .rdy }])) fun r =>
    match r.2.2[st.lp.length]? with
    | some l => match l.st with
     | .rdy => some ((.nor, { st with fs := r.2.1, lp := r.2.2.dropLast }), [])
     | .done e => some ((e, { st with fs := r.2.1, lp := r.2.2.dropLast }), [])
     | .busy => none
    | none => none
  | none => none
 | .exit id => some ((.exit id, st), [])
 | .scope c => rec fid c st
 | .ret => some ((.ret, st), [])
 | _ => none
def evV : Nat → RecV
 | 0 => fun _ _ _ => none
 | n + 1 => zwn E V C (evV n)
def zFp (n : Nat) (f : Nat) (ds : List D) : W D :=
 W.seq (runV E (evV E V C n) f (ds.map .d) [] []) fun q => (zGc q.2.fs q.1).map fun ds => (tupD ds, [])
def zko (n : Nat) (f : Nat) (ds : List D) (res : List D) : W D :=
 W.seq (runV E (evV E V C n) f (ds.map .d) [] []) fun q => some (tupD res, [zGc q.2.fs q.1 = some res])
def zkn (rs : List Nat) (st0 st : St) : W St :=
 let tm := st0.tm.map fun p => (p.1, tget st.tm p.1)
 let gone := (st.fs.fr.filter fun p => (aget p.1 st0.fs.fr).isNone).map (·.1)
 let fr := st.fs.fr.filter fun p => (aget p.1 st0.fs.fr).isSome
 if tm.all (fun p => !X.refs st.fs.lv gone p.2) && fr.all (fun p => rs.contains p.1 || !O.refs st.fs.lv gone p.2) then
  some ({ tm := tm, fs := { st.fs with fr := fr }, lp := st.lp }, (fr.filter fun p => rs.contains p.1).map fun p => ∀ l ss, O.refs l ss p.2 = false) else none
theorem z5q : ∀ {ps : List Prop} {p : Prop}, All ps → p ∈ ps → p
 | [], p, _, h => by simp at h
 | q :: t, p, hA, h => by
  rcases List.mem_cons.1 h with rfl | h
  ·exact (zbg hA).1
  ·exact z5q (zbg hA).2 h
def z2i (rs : List Nat) (n : Nat) (fid : Nat) (c : Code) (st : St) : W (St ⊕ (Ex × St)) :=
 match c with
 | .loop c => W.seq (evV E V C n fid c st) fun r => if r.1 = .nor then W.seq (zkn rs st r.2) fun s => some (.inl s, []) else some (.inr r, [])
 | _ => none
def Good {α : Type} (x : W α) (y : Option α) : Prop := ∀ a P, x = some (a, P) → All P → y = some a
theorem Good.none {α : Type} {y : Option α} : Good (.none : W α) y := fun a P h => by simp at h
theorem Good.pure {α : Type} (a : α) : Good (some (a, [])) (some a) := fun b P h _ => by simp only [Option.some.injEq, Prod.mk.injEq] at h; rw [h.1]
theorem Good.seq {α β : Type} {x : W α} {y : Option α} {f : α → W β} {g : α → Option β} (h : Good x y) (k : ∀ a, y = some a → Good (f a) (g a)) : Good (W.seq x f) (y.bind g) := fun b P e hP => by
 unfold W.seq at e
 cases x with
 | none => simp at e
 | some p =>
  simp only at e
  cases hf : f p.1 with
  | none => simp [hf] at e
  | some q =>
   simp only [hf, Option.some.injEq, Prod.mk.injEq] at e
   obtain ⟨rfl, rfl⟩ := e
   have h1 := h p.1 p.2 rfl (zPg hP)
   rw [h1]
   exact k p.1 h1 q.1 q.2 hf (z1f hP)
theorem Good.to {α : Type} {x : W α} {y z : Option α} (h : Good x y) (e : z = y) : Good x z := e ▸ h
theorem Good.map {α β : Type} {y : Option α} (g : α → β) : Good (y.map fun a => (g a, [])) (y.map g) := fun b P e _ => by
 cases y with
 | none => simp at e
 | some a => simp only [Option.map_some, Option.some.injEq, Prod.mk.injEq] at e; rw [Option.map_some, e.1]
theorem Good.one {α : Type} {a : α} {p : Prop} {y : Option α} (h : p → y = some a) : Good (some (a, [p])) y := fun b P e hP => by
 simp only [Option.some.injEq, Prod.mk.injEq] at e
 obtain ⟨rfl, rfl⟩ := e
 exact h hP
theorem Good.ite {α : Type} {p : Prop} [Decidable p] {x x' : W α} {y y' : Option α} (h : p → Good x y) (k : ¬ p → Good x' y') : Good (if p then x else x') (if p then y else y') := by
 by_cases hp : p
 ·rw [if_pos hp, if_pos hp]; exact h hp
 ·rw [if_neg hp, if_neg hp]; exact k hp
variable {E V C}
abbrev zei (E : Env) (rec : RecV) : Prop := ∀ fid c st, Good (rec fid c st) (ev E fid c st)
theorem ztm {rec : RecV} (H : zei E rec) (f : Nat) (args : List X) (lo : List Fr) (lp : List LRec) : Good (runV E rec f args lo lp) (run E (ev E) f args lo lp) := by
 unfold runV run
 cases fnOf E f args.length with
 | none => exact .none
 | some q =>
  simp only
  refine ((H f q.2 _).seq (g := fun r => if r.1 = .nor ∨ r.1 = .ret then (z1k E.P r.2 q.1.results.toList).map fun xs => (xs, r.2) else none) fun r _ => .ite (fun _ => .map _) (fun _ => .none)).to ?_
  cases ev E f q.2 { tm := params 0 args, fs := { fr := [], lo := lo }, lp := lp } <;> rfl
theorem zOl {rec : RecV} (H : zei E rec) (f : Nat) (args : List X) (fs : FS) (lp : List LRec) : Good (zFl E rec f args fs lp) (zHb E (ev E) f args fs lp) := by
 unfold zFl zHb
 refine ((ztm H f args (fs.lo ++ [fs.fr]) lp).seq (g := fun q => match zGc q.2.fs q.1, zef q.2.fs.lo with
  | some ds, some fs' => some (tupD ds, fs', q.2.lp)
  | _, _ => none) fun q _ => ?_).to ?_
 ·cases zGc q.2.fs q.1 with
  | none => exact .none
  | some ds => cases zef q.2.fs.lo with
   | none => exact .none
   | some fs' => exact .pure _
 ·cases run E (ev E) f args (fs.lo ++ [fs.fr]) lp with
  | none => rfl
  | some q => simp only [Option.bind_some]; cases zGc q.2.fs q.1 <;> cases zef q.2.fs.lo <;> rfl
theorem z7r {rec : RecV} (H : zei E rec) (k : Nat) (args : List X) (fs : FS) (lp : List LRec) : Good (zEq rec k args fs lp) (round (ev E) k args fs lp) := by
 unfold zEq round
 cases lp[k]? with
 | none => exact .none
 | some r =>
  simp only
  refine .ite (fun _ => ?_) (fun _ => .none)
  cases allD args with
  | none => exact .none
  | some _ =>
   simp only
   refine ((H r.fid r.assign _).seq (g := fun q => if q.1 = .nor ∧ (q.2.lp[k]?).map (·.st) = some .rdy then
      (ev E r.fid r.body { q.2 with lp := q.2.lp.set k { r with st := .busy } }).bind fun q2 => (match zef q2.2.fs.lo with
       | some fs' => some (.b (decide (q2.1 = .nor)), fs', q2.2.lp.set k { r with st := if q2.1 = .nor then .rdy else .done q2.1 })
       | none => none)
     else none) fun q _ => .ite (fun _ => (H r.fid r.body _).seq fun q2 _ => ?_) (fun _ => .none)).to ?_
   ·cases zef q2.2.fs.lo with
    | none => exact .none
    | some fs' => exact .pure _
   ·cases ev E r.fid r.assign { tm := zUj r.tm r.ps.toList args, fs := { fr := [], lo := fs.lo ++ [fs.fr] }, lp := lp } with
    | none => rfl
    | some q =>
     simp only [Option.bind_some]
     split
     ·cases ev E r.fid r.body { q.2 with lp := q.2.lp.set k { r with st := .busy } } <;> rfl
     ·rfl
theorem zXi {α β : Type} (y : Option α) (f : α → β) : y.map f = y.bind fun a => some (f a) := by cases y <;> rfl
theorem z7p {st : St} {fs : FS} {d : Nat} {r : List X × St} : Good (z4l st fs d r) (z6e st fs d r) := by
 unfold z4l z6e
 split
 ·rename_i l s n hr
  simp only [hr]
  refine .ite (fun _ => ?_) (fun _ => .none)
  cases aget s r.2.fs.fr with
  | none => exact .none
  | some o =>
   simp only
   cases zR { st with fs := fs } (some d) d o with
   | none => exact .none
   | some fs' => exact .one fun hp => by rw [if_pos hp]; rfl
 ·rename_i hr
  simp only [hr]
  exact .map _
 ·exact .none
theorem zUs {rec : RecV} (H : zei E rec) (h : Hint) (st : St) (t : Option Nat) (op : Op) : Good (zXr E rec h st t op) (evL E (ev E) h st t op) := by
 unfold zXr
 cases op <;> try exact .none
 case call c =>
  cases hc : c.callee with
  | builtin b => simp only [hc]; exact .none
  | invoke r m => simp only [hc]; exact .none
  | value f =>
   simp only [hc, evL]
   generalize evA E st.tm f = fv
   have other : Good (match zV fv with
    | some q =>
     let args := q.2.1 ++ c.args.toList.map (evA E st.tm) ++ q.2.2
     match zeb (args.foldl zW st.fs).get args with
     | some ds => match t with
      | some d => if h.rowSites.contains d then W.seq (runV E rec q.1 (ds.map .d) [] []) (z4l st (args.foldl zW st.fs) d)
       else none
      | none => none
     | none => W.seq (zFl E rec q.1 args st.fs st.lp) fun r => some ((.d r.1, r.2.1, r.2.2), [])
    | none => none) (match zV fv with
    | some q =>
     let args := q.2.1 ++ c.args.toList.map (evA E st.tm) ++ q.2.2
     let fs := args.foldl zW st.fs
     match zeb fs.get args with
     | some ds => match t with
      | some d => if h.rowSites.contains d then
        ((run E (ev E) q.1 (ds.map .d) [] []).bind (z6e st fs d))
       else (zC E (ev E) q.1 ds).map fun r => (.d r, fs, st.lp)
      | none => (zC E (ev E) q.1 ds).map fun r => (.d r, fs, st.lp)
     | none => (zHb E (ev E) q.1 args st.fs st.lp).map fun r => (.d r.1, r.2.1, r.2.2)
    | none => none) := by
    cases zV fv with
    | none => exact .none
    | some q =>
     simp only
     cases zeb ((q.2.1 ++ c.args.toList.map (evA E st.tm) ++ q.2.2).foldl zW st.fs).get (q.2.1 ++ c.args.toList.map (evA E st.tm) ++ q.2.2) with
     | some ds =>
      simp only
      cases t with
      | none => exact .none
      | some d =>
       simp only
       refine .ite (fun _ => ?_) (fun _ => .none)
       generalize (q.2.1 ++ c.args.toList.map (evA E st.tm) ++ q.2.2).foldl zW st.fs = fs
       exact (ztm H q.1 (ds.map .d) [] []).seq fun r _ => z7p
     | none =>
      simp only
      exact ((zOl H q.1 _ st.fs st.lp).seq (g := fun r => some (X.d r.1, r.2.1, r.2.2)) fun r _ => .pure _).to (zXi _ _)
   cases fv with
   | yld k => exact ((z7r H k _ st.fs st.lp).seq (g := fun r => some (X.d r.1, r.2.1, r.2.2)) fun r _ => .pure _).to (zXi _ _)
   | _ => exact other
theorem z9p {cp cp' : Nat → List D → Option D} {ρ : Operand → X} {φ : Get} {op : Op} (h : zbi op = false) : evQ E cp ρ φ op = evQ E cp' ρ φ op := by
 cases op <;> try rfl
 case call c =>
  unfold zbi at h
  simp only at h
  cases hc : c.callee with
  | builtin b => simp only [evQ, hc]
  | value f => simp [hc] at h
  | invoke r m => simp [hc] at h
theorem zit {cp : Nat → List D → Option D} {ρ : Operand → X} {φ : Get} {op : Op} {x : X} (h : evQ E (fun _ _ => none) ρ φ op = some x) : evQ E cp ρ φ op = some x := by
 cases hf : zbi op with
 | false => rw [z9p hf]; exact h
 | true =>
  cases op <;> simp [zbi] at hf
  case call c =>
   cases hc : c.callee with
   | builtin b => simp [hc] at hf
   | invoke r m => simp [evQ, hc] at h
   | value f =>
    simp only [evQ, hc] at h
    cases hq : zV (ρ f) with
    | none => simp [hq] at h
    | some q =>
     simp only [hq] at h
     cases hd : zeb φ (q.2.1 ++ c.args.toList.map ρ ++ q.2.2) with
     | none => rw [hd] at h; simp at h
     | some ds => rw [hd] at h; simp at h
theorem zMt {rec rec' : Rec} {h : Hint} {st : St} {t : Option Nat} {op : Op} (hf : zbi op = false) : evL E rec h st t op = evL E rec' h st t op := by
 cases op <;> try rfl
 case makeMap T r => cases r <;> rfl
 case call c =>
  unfold zbi at hf
  simp only at hf
  cases hc : c.callee with
  | builtin b => simp only [evL, hc]; cases b <;> rfl
  | value f => simp [hc] at hf
  | invoke r m => simp [hc] at hf
theorem zbs {st : St} {op : Op} {v : Ov} : Good (zwi E st op v) (evQ E (zC E (ev E)) (evA E st.tm) st.fs.get op) := by
 cases v <;> try exact .none
 case q x =>
  unfold zwi
  simp only
  split
  ·exact .none
  ·exact .one id
 case c d =>
  unfold zwi
  simp only
  cases op <;> try exact .none
  case call c =>
   cases hc : c.callee with
   | builtin b => simp only [hc]; exact .none
   | invoke r m => simp only [hc]; exact .none
   | value f =>
    simp only [hc, evQ]
    cases zV (evA E st.tm f) with
    | none => exact .none
    | some q =>
     simp only
     cases zeb st.fs.get (q.2.1 ++ c.args.toList.map (evA E st.tm) ++ q.2.2) with
     | none => exact .none
     | some ds => exact .one fun h => by simp only [h, Option.map_some]
theorem z6r {st : St} {op : Op} {v : Ov} {x : X} {P : List Prop} (h : zwi E st op v = some (x, P)) (hP : All P) : zFf E (evA E st.tm) st.fs.get op = true := by
 unfold zFf
 cases v <;> try (simp [zwi] at h; done)
 case q y =>
  unfold zwi at h
  simp only at h
  split at h
  ·simp at h
  ·rename_i hf
   simp only [Option.some.injEq, Prod.mk.injEq] at h
   obtain ⟨rfl, rfl⟩ := h
   rw [z9p (cp' := zC E (ev E)) (by simpa using hf)]
   have : evQ E (zC E (ev E)) (evA E st.tm) st.fs.get op = some y := hP
   rw [this]; rfl
 case c d =>
  unfold zwi at h
  simp only at h
  cases op <;> try (simp at h; done)
  case call c =>
   cases hc : c.callee with
   | builtin b => simp [hc] at h
   | invoke r m => simp [hc] at h
   | value f =>
    simp only [hc] at h
    simp only [evQ, hc]
    cases hq : zV (evA E st.tm f) with
    | none => simp [hq] at h
    | some q =>
     simp only [hq] at h
     simp only
     cases hd : zeb st.fs.get (q.2.1 ++ c.args.toList.map (evA E st.tm) ++ q.2.2) with
     | none => rw [hd] at h; simp at h
     | some ds => rfl
theorem zyo {P : Program} {φ : Get} {T : TypeId} {ρ : Operand → X} {l s n : Nat} {o : O} {lo hi mx : Option Operand} (h : φ l s = some o) : zle P φ T ρ (.row l s n) lo hi mx = zle P (fun _ _ => some o) T ρ (.row l s n) lo hi mx := by
 have e : toD φ (.row l s n) = toD (fun _ _ => some o) (.row l s n) := z5j h
 unfold zle
 cases optI ρ lo <;> cases optI ρ hi <;> cases optI ρ mx <;> try rfl
 cases P.underlying T with
 | none => rfl
 | some u => cases u <;> first | rfl | (simp only [e])
theorem zas {fid : Nat} {st : St} {t : Option Nat} {op : Op} {v : Ov} : Good (zgd E fid st t op v) (evL E (ev E) (E.H fid) st t op) := by
 cases v with
 | q x => exact .none
 | nm ts cs => exact .none
 | l x lv s o =>
  unfold zgd
  simp only
  split
  ·exact .none
  ·exact .one id
 | st cs' =>
  unfold zgd
  simp only
  cases op <;> try exact .none
  case store T a x =>
   simp only
   split
   ·rename_i n vs l s o hw hn hv ha
    refine Good.to (y := (stX E.P st.lp st.fs T (evA E st.tm a) (evA E st.tm x)).map fun fs => (X.d (.tup []), fs, st.lp)) ?_ ?_
    ·simp only [stX, hn, hv, ha]
     by_cases h1 : vs.length = n
     ·rw [if_pos h1, if_pos h1]
      cases h2 : st.fs.get l s with
      | none => exact .none
      | some ob =>
       cases ob with
       | cells cs =>
        simp only
        split
        ·rename_i h3
         refine .one fun hp => ?_
         rw [if_pos ⟨hp.1, h3⟩, hp.2]; rfl
        ·exact .none
       | _ => exact .none
     ·rw [if_neg h1]; exact .none
    ·simp only [evL]
     rw [if_neg (by rw [Bool.not_eq_true', ] at hw; rw [hw]; simp)]
   ·exact .none
 | mp es' =>
  unfold zgd
  simp only
  cases op <;> try exact .none
  case mapUpdate T m k v =>
   simp only [evL]
   split
   ·rename_i vd q l s kd hv hq hm hk
    rw [hv]
    simp only [mupX, hq, hm, hk]
    by_cases h1 : z8e E.P q.1 kd = true
    ·rw [if_pos h1, if_pos h1]
     cases h2 : (zW st.fs (evA E st.tm v)).get l s with
     | none => exact .none
     | some ob =>
      cases ob with
      | map es =>
       refine .one fun hp => ?_
       simp only [hp, Option.map_some]
      | _ => exact .none
    ·rw [if_neg h1]; exact .none
   ·exact .none
  case entryStore T m n v =>
   simp only [evL]
   split
   ·rename_i l s n vd hm hn hv
    simp only [estX, hm, hn, hv]
    cases h2 : st.fs.get l s with
    | none => exact .none
    | some ob =>
     cases ob with
     | map es =>
      refine .one fun hp => ?_
      obtain ⟨h0, hp⟩ := hp
      simp only [if_pos h0]
      obtain ⟨p, hp1, hp2⟩ := Option.map_eq_some_iff.1 hp
      rw [hp1, ← hp2]
      rfl
     | _ => exact .none
   ·exact .none
 | me d n es' =>
  unfold zgd
  simp only
  cases op <;> try exact .none
  case mapEntry T m k =>
   simp only [evL]
   split
   ·rename_i q l s kd hq hm hk
    simp only [zdh, hq, hm, hk]
    by_cases h1 : z8e E.P q.1 kd = true
    ·rw [if_pos h1, if_pos h1]
     cases h3 : zvT E.P q.2 with
     | none => exact .none
     | some z =>
      cases h2 : st.fs.get l s with
      | none => exact .none
      | some ob =>
       cases ob with
       | map es =>
        refine .one fun hp => ?_
        simp only [hp, Option.map_some]
       | _ => exact .none
    ·rw [if_neg h1]; exact .none
   ·exact .none
 | c d =>
  unfold zgd
  simp only
  cases op <;> try exact .none
  case call c =>
   cases hc : c.callee with
   | builtin b => simp only [hc]; exact .none
   | invoke r m => simp only [hc]; exact .none
   | value f =>
    simp only [hc, evL]
    generalize evA E st.tm f = fv
    have other : Good (match zV fv with
     | some q =>
      let args := q.2.1 ++ c.args.toList.map (evA E st.tm) ++ q.2.2
      let fs := args.foldl zW st.fs
      match zeb fs.get args with
      | some ds => match t with
       | some t => if (E.H fid).rowSites.contains t then none else some ((X.d d, fs, st.lp), [zC E (ev E) q.1 ds = some d])
       | none => some ((X.d d, fs, st.lp), [zC E (ev E) q.1 ds = some d])
      | none => none
     | none => none) (match zV fv with
     | some q =>
      let args := q.2.1 ++ c.args.toList.map (evA E st.tm) ++ q.2.2
      let fs := args.foldl zW st.fs
      match zeb fs.get args with
      | some ds => match t with
       | some d => if (E.H fid).rowSites.contains d then
         ((run E (ev E) q.1 (ds.map .d) [] []).bind (z6e st fs d))
        else (zC E (ev E) q.1 ds).map fun r => (.d r, fs, st.lp)
       | none => (zC E (ev E) q.1 ds).map fun r => (.d r, fs, st.lp)
      | none => (zHb E (ev E) q.1 args st.fs st.lp).map fun r => (.d r.1, r.2.1, r.2.2)
     | none => none) := by
     cases zV fv with
     | none => exact .none
     | some q =>
      simp only
      cases zeb ((q.2.1 ++ c.args.toList.map (evA E st.tm) ++ q.2.2).foldl zW st.fs).get (q.2.1 ++ c.args.toList.map (evA E st.tm) ++ q.2.2) with
      | none => exact .none
      | some ds =>
       cases t with
       | none => exact .one fun hp => by simp only [hp, Option.map_some]
       | some t =>
        simp only
        split
        ·exact .none
        ·exact .one fun hp => by simp only [hp, Option.map_some]
    cases fv with
    | yld k => exact .none
    | _ => exact other
 | ap n' o' =>
  unfold zgd
  simp only
  cases op <;> try exact .none
  case call c =>
   cases hc : c.callee with
   | value f => simp only [hc]; exact .none
   | invoke r m => simp only [hc]; exact .none
   | builtin b =>
    cases b <;> simp only [hc] <;> try exact .none
    simp only [evL, hc]
    split
    ·rename_i T U _ l s n x hT hA
     by_cases e : T = U
     ·simp only [e, if_true]
      split
      ·rename_i q xs o hq hx ho
       exact .one fun hp => by simp only [hT, hA, e, if_true]; rw [zmu hq hx ho hp]; rfl
      ·exact .none
     ·simp only [e, if_false]; exact .none
    ·exact .none
 | sr x' o' =>
  unfold zgd
  simp only
  cases op <;> try exact .none
  case slice T x lo hi mx =>
   simp only [evL]
   cases hx : evA E st.tm x <;> try exact .none
   rename_i l s n
   simp only
   cases ho : st.fs.get l s with
   | none => exact .none
   | some o =>
    exact .one fun hp => by
     obtain ⟨h1, h2⟩ := hp
     simp only [zok ho, h1]
     rw [zyo (FS.gs1 ho), h2]; rfl
 | cr rs d =>
  unfold zgd
  simp only
  cases op <;> try exact .none
  case call c =>
   cases hc : c.callee with
   | builtin b => simp only [hc]; exact .none
   | invoke r m => simp only [hc]; exact .none
   | value f =>
    simp only [hc, evL]
    generalize evA E st.tm f = fv
    have other : Good (match zV fv with
     | some q => match zDh st.fs (q.2.1 ++ c.args.toList.map (evA E st.tm) ++ q.2.2) rs with
      | some p => match t with
       | some t => if (E.H fid).rowSites.contains t then none else some ((X.d d, p.1.2.1, st.lp), p.2 ++ [zC E (ev E) q.1 p.1.1 = some d])
       | none => some ((X.d d, p.1.2.1, st.lp), p.2 ++ [zC E (ev E) q.1 p.1.1 = some d])
      | none => none
     | none => none) (match zV fv with
     | some q =>
      let args := q.2.1 ++ c.args.toList.map (evA E st.tm) ++ q.2.2
      let fs := args.foldl zW st.fs
      match zeb fs.get args with
      | some ds => match t with
       | some d => if (E.H fid).rowSites.contains d then
         ((run E (ev E) q.1 (ds.map .d) [] []).bind (z6e st fs d))
        else (zC E (ev E) q.1 ds).map fun r => (.d r, fs, st.lp)
       | none => (zC E (ev E) q.1 ds).map fun r => (.d r, fs, st.lp)
      | none => (zHb E (ev E) q.1 args st.fs st.lp).map fun r => (.d r.1, r.2.1, r.2.2)
     | none => none) := by
     cases zV fv with
     | none => exact .none
     | some q =>
      simp only
      cases hl : zDh st.fs (q.2.1 ++ c.args.toList.map (evA E st.tm) ++ q.2.2) rs with
      | none => exact .none
      | some p =>
       simp only
       have fin : ∀ {y : Option (X × FS × List LRec)}, ((p.2 ++ [zC E (ev E) q.1 p.1.1 = some d]) |> All) → ((q.2.1 ++ c.args.toList.map (evA E st.tm) ++ q.2.2).foldl zW st.fs = p.1.2.1 ∧ zeb p.1.2.1.get (q.2.1 ++ c.args.toList.map (evA E st.tm) ++ q.2.2) = some p.1.1 ∧ zC E (ev E) q.1 p.1.1 = some d) := fun hP => by
        obtain ⟨h1, h2, h3⟩ := zXj (r := p.1) (P := p.2) hl (zPg hP)
        exact ⟨h1, h3 _ (.refl _), z1f (s := p.2) hP⟩
       cases t with
       | none =>
        intro a P e hP
        simp only [Option.some.injEq, Prod.mk.injEq] at e
        obtain ⟨rfl, rfl⟩ := e
        obtain ⟨h1, h2, h3⟩ := fin (y := none) hP
        simp only [h1, h2, h3, Option.map_some]
       | some t =>
        simp only
        split
        ·exact .none
        ·rename_i hr
         intro a P e hP
         simp only [Option.some.injEq, Prod.mk.injEq] at e
         obtain ⟨rfl, rfl⟩ := e
         obtain ⟨h1, h2, h3⟩ := fin (y := none) hP
         simp only [h1, h2, h3, Option.map_some]
    cases fv with
    | yld k => exact .none
    | _ => exact other
 | rs o' =>
  unfold zgd
  simp only
  cases op <;> try exact .none
  case store T a x =>
   simp only
   split
   ·rename_i n ds l s k i f hw hn hv ha
    refine Good.to (y := (stX E.P st.lp st.fs T (evA E st.tm a) (evA E st.tm x)).map fun fs => (X.d (.tup []), fs, st.lp)) ?_ ?_
    ·obtain ⟨vs, hv1, hv2⟩ := Option.bind_eq_some_iff.1 hv
     have hlen : vs.length = ds.length := by rw [zGf hv2]; simp
     simp only [stX, hn, hv1, ha]
     by_cases h1 : ds.length = n
     ·rw [if_pos h1, if_pos (by rw [hlen, h1])]
      cases h2 : st.fs.get l s with
      | none => exact .none
      | some ob =>
       refine .one fun hp => ?_
       unfold stO at hp
       cases ob with
       | row z es w =>
        cases w with
        | true =>
         simp only at hp ⊢
         by_cases h3 : es.length = k
         ·rw [if_pos h3] at hp ⊢
          obtain ⟨e, he, hp⟩ := Option.bind_eq_some_iff.1 hp
          rw [he]
          simp only [Option.bind_some, hv2]
          by_cases h4 : f + n ≤ e.length
          ·rw [if_pos h4] at hp ⊢
           simp only [Option.some.injEq] at hp
           simp only [Option.map_some, hp]
          ·rw [if_neg h4] at hp; simp at hp
         ·rw [if_neg h3] at hp; simp at hp
        | false => simp at hp
       | _ => simp at hp
     ·rw [if_neg h1]; exact .none
    ·simp only [evL]
     rw [if_neg (by rw [Bool.not_eq_true', ] at hw; rw [hw]; simp)]
   ·exact .none
 | ns es' n' =>
  unfold zgd
  simp only
  cases op <;> try exact .none
  case call c =>
   cases hc : c.callee with
   | value f => simp only [hc]; exact .none
   | invoke r m => simp only [hc]; exact .none
   | builtin b =>
    cases b <;> simp only [hc] <;> try exact .none
    simp only [evL, hc]
    split
    ·rename_i T U _ ss xs cx hT hA
     by_cases e : T = U
     ·simp only [e, if_true]
      cases t with
      | none => exact .none
      | some d =>
       cases hq : slT E.P U with
       | none => exact .none
       | some q =>
        simp only [hq]
        by_cases hr : (E.H fid).rowSites.contains d = true
        ·rw [if_pos hr]
         cases hn : zR st (some d) d (.row q.1 es' true) with
         | none => exact .none
         | some fs =>
          intro a P e' hP
          simp only [Option.some.injEq, Prod.mk.injEq] at e'
          obtain ⟨rfl, rfl⟩ := e'
          obtain ⟨h0, ⟨k, h1⟩, h2⟩ := hP
          have h2' : (ss.isEmpty || !xs.isEmpty) = true := h2
          simp only [hT, hA, e, hq, h1, hr, h2', hn, and_self, if_true, Option.map_some, h0]
        ·rw [if_neg hr]; exact .none
     ·simp only [e, if_false]; exact .none
    ·exact .none
 | fz r o' =>
  unfold zgd
  cases op <;> try exact .none
  case assign x =>
   cases t with
   | none => exact .none
   | some d =>
    simp only [evL]
    cases hx : evA E st.tm x <;> try exact .none
    rename_i l s n
    simp only
    by_cases hf : (E.H fid).rowVars.contains (1000000 + d) = true
    ·rw [if_pos hf, if_pos hf]
     cases ho : st.fs.get l s with
     | none => exact .none
     | some o =>
      refine .one fun hp => ?_
      obtain ⟨h1, h2⟩ := hp
      simp only [toDA, zW, zok ho, h1, z5j (FS.gs1 ho), h2, Option.map_some]
    ·rw [if_neg hf]; exact .none
  case buildSlice T n ps =>
   cases t with
   | none => exact .none
   | some d =>
    simp only [evL]
    cases hps : ps.toList with
    | nil => exact .none
    | cons p pt =>
     cases pt with
     | cons _ _ => exact .none
     | nil =>
      simp only
      cases hx : evA E st.tm p.2 <;> try exact .none
      rename_i l s n'
      simp only
      by_cases hf : (E.H fid).rowVars.contains (2000000 + d) = true
      ·rw [if_pos hf, if_pos hf]
       cases ho : st.fs.get l s with
       | none => exact .none
       | some o =>
        cases hb : z4g E.P T n [(p.1, .d r)] with
        | none => exact .none
        | some x =>
         refine .one fun hp => ?_
         obtain ⟨h1, h2⟩ := hp
         simp only [List.map_cons, List.map_nil, List.foldl_cons, List.foldl_nil, hx, asD, toDA, zW, zok ho, h1, z5j (FS.gs1 ho), h2, hb, Option.map_some]
      ·rw [if_neg hf]; exact .none
 | ms n' es' =>
  unfold zgd
  cases op <;> try exact .none
  case makeSlice T n c =>
   cases t with
   | none => exact .none
   | some d =>
    simp only [evL]
    split
    ·rename_i q n c hq hn hc
     cases hs : zR st (some d) d (.row q.1 es' true) with
     | none => exact .none
     | some fs =>
      intro a P e hP
      simp only [Option.some.injEq, Prod.mk.injEq] at e
      obtain ⟨rfl, rfl⟩ := e
      obtain ⟨h1, h2, h3⟩ := hP
      have h3' : List.replicate n.toNat q.2 = es' := h3
      simp only [hq, hn, hc]
      rw [if_pos h1, h3', hs, h2]; rfl
    ·exact .none
 | i d fs lp =>
  unfold zgd
  simp only
  cases op <;> try exact .none
  case call c =>
   cases hc : c.callee with
   | builtin b => simp only [hc]; exact .none
   | invoke r m => simp only [hc]; exact .none
   | value f =>
    simp only [hc, evL]
    generalize evA E st.tm f = fv
    have other : Good (match zV fv with
     | some q =>
      let args := q.2.1 ++ c.args.toList.map (evA E st.tm) ++ q.2.2
      match zeb (args.foldl zW st.fs).get args with
      | some _ => none
      | none => some ((X.d d, fs, lp), [zHb E (ev E) q.1 args st.fs st.lp = some (d, fs, lp)])
     | none => none) (match zV fv with
     | some q =>
      let args := q.2.1 ++ c.args.toList.map (evA E st.tm) ++ q.2.2
      let fs := args.foldl zW st.fs
      match zeb fs.get args with
      | some ds => match t with
       | some d => if (E.H fid).rowSites.contains d then
         ((run E (ev E) q.1 (ds.map .d) [] []).bind (z6e st fs d))
        else (zC E (ev E) q.1 ds).map fun r => (.d r, fs, st.lp)
       | none => (zC E (ev E) q.1 ds).map fun r => (.d r, fs, st.lp)
      | none => (zHb E (ev E) q.1 args st.fs st.lp).map fun r => (.d r.1, r.2.1, r.2.2)
     | none => none) := by
     cases zV fv with
     | none => exact .none
     | some q =>
      simp only
      cases zeb ((q.2.1 ++ c.args.toList.map (evA E st.tm) ++ q.2.2).foldl zW st.fs).get (q.2.1 ++ c.args.toList.map (evA E st.tm) ++ q.2.2) with
      | some ds => exact .none
      | none => exact .one fun hp => by simp only [hp, Option.map_some]
    cases fv with
    | yld k => exact .one fun hp => by simp only [hp, Option.map_some]
    | _ => exact other
theorem zUp {fs : FS} {x : X} {d : D} (h : toD fs.get x = some d) : lend fs x = fs := by
 cases x with
 | row l s n =>
  cases ho : fs.get l s with
  | none => simp [toD, ho] at h
  | some o =>
   rw [z5j ho] at h
   rw [zok ho, zZl h, FS.set_same ho]
 | _ => rfl
theorem zxp : ∀ {xs : List X} {fs : FS} {ds : List D}, toDs fs.get xs = some ds → xs.foldl lend fs = fs
 | [], _, _, _ => rfl
 | x :: t, fs, ds, h => by
  simp only [toDs] at h
  cases hx : toD fs.get x with
  | none => simp [hx] at h
  | some d =>
   cases ht : toDs fs.get t with
   | none => simp [hx, ht] at h
   | some ds' => simp only [List.foldl_cons, zUp hx]; exact zxp ht
theorem zSr {fs : FS} {x : X} {d : D} (h : toDA fs.get x = some d) : zW fs x = fs := by
 unfold zW
 split
 ·rename_i cs
  simp only [toDA] at h
  cases hc : toDs fs.get cs with
  | none => simp [hc] at h
  | some ds => exact zxp hc
 ·rename_i hne
  refine zUp (d := d) ?_
  cases x <;> first | exact h | exact absurd rfl (hne _)
theorem zRn : ∀ {xs : List X} {fs : FS} {ds : List D}, zeb fs.get xs = some ds → xs.foldl zW fs = fs
 | [], _, _, _ => rfl
 | x :: t, fs, ds, h => by
  simp only [zeb] at h
  cases hx : toDA fs.get x with
  | none => simp [hx] at h
  | some d =>
   cases ht : zeb fs.get t with
   | none => simp [hx, ht] at h
   | some ds' => simp only [List.foldl_cons, zSr hx]; exact zRn ht
theorem z3s {β : Type} {fv : X} {q0 : Nat × List X × List X} {F : Nat × List X × List X → Option β} {r : β} (h : (match fv with
  | .yld k => none
  | fv => match zV fv with
   | some q => F q
   | none => none) = some r) (hp : zV fv = some q0) : F q0 = some r := by
 cases fv <;> first | (simp [zV] at hp; done) | (simp only at h; rw [hp] at h; exact h)
theorem z2r {fid : Nat} {st : St} {t : Option Nat} {op : Op} {v : Ov} (hb : v.both = true) (hq : zFf E (evA E st.tm) st.fs.get op = true) {q : X × FS × List LRec} {P : List Prop} (h : zgd E fid st t op v = some (q, P)) (hP : All P) :
  evQ E (zC E (ev E)) (evA E st.tm) st.fs.get op = some q.1 ∧ q.2.1 = st.fs ∧ q.2.2 = st.lp := by
 cases v <;> try (simp [Ov.both] at hb; done)
 case sr x' o' =>
  unfold zgd at h
  simp only at h
  cases op <;> try (simp at h; done)
  case slice T x lo hi mx =>
   simp only [zFf, evQ] at hq ⊢
   simp only at h
   cases hx : evA E st.tm x <;> rw [hx] at h <;> try (simp at h; done)
   rename_i l s n
   simp only at h
   cases ho : st.fs.get l s with
   | none => simp [ho] at h
   | some o =>
    simp only [ho, Option.some.injEq, Prod.mk.injEq] at h
    obtain ⟨rfl, rfl⟩ := h
    obtain ⟨h1, h2⟩ := hP
    have hd : ∃ d, toD st.fs.get (.row l s n) = some d := by
     unfold zle at hq
     cases h3 : optI (evA E st.tm) lo <;> cases h4 : optI (evA E st.tm) hi <;> cases h5 : optI (evA E st.tm) mx <;> simp only [h3, h4, h5] at hq <;> try (simp at hq; done)
     cases hd : toD st.fs.get (.row l s n) with
     | some d => exact ⟨d, rfl⟩
     | none =>
      cases hu : E.P.underlying T with
      | none => simp [hu] at hq
      | some u => cases u <;> simp [hu, hx, hd] at hq
    obtain ⟨d, hd⟩ := hd
    rw [z5j ho] at hd
    have e := zZl hd
    rw [e] at h1
    subst h1
    exact ⟨by rw [zyo ho]; exact h2, FS.set_same ho, rfl⟩
 case cr rs d =>
  unfold zgd at h
  simp only at h
  cases op <;> try (simp at h; done)
  case call c =>
   cases hc : c.callee with
   | builtin b => simp [hc] at h
   | invoke r m => simp [hc] at h
   | value f =>
    simp only [hc] at h
    simp only [zFf, evQ, hc] at hq ⊢
    cases hp : zV (evA E st.tm f) with
    | none => simp [hp] at hq
    | some q0 =>
     simp only [hp] at hq ⊢
     cases hd : zeb st.fs.get (q0.2.1 ++ c.args.toList.map (evA E st.tm) ++ q0.2.2) with
     | none => rw [hd] at hq; simp at hq
     | some ds =>
      have h' := z3s h hp
      cases hl : zDh st.fs (q0.2.1 ++ c.args.toList.map (evA E st.tm) ++ q0.2.2) rs with
      | none => rw [hl] at h'; simp at h'
      | some p =>
       rw [hl] at h'
       have fin : q = (X.d d, p.1.2.1, st.lp) ∧ P = p.2 ++ [zC E (ev E) q0.1 p.1.1 = some d] := by
        cases t with
        | none => simp only [Option.some.injEq, Prod.mk.injEq] at h'; exact ⟨h'.1.symm, h'.2.symm⟩
        | some t =>
         simp only at h'
         split at h'
         ·simp at h'
         ·simp only [Option.some.injEq, Prod.mk.injEq] at h'; exact ⟨h'.1.symm, h'.2.symm⟩
       obtain ⟨rfl, rfl⟩ := fin
       obtain ⟨k1, _, k3⟩ := zXj (r := p.1) (P := p.2) hl (zPg hP)
       have hcall : zC E (ev E) q0.1 p.1.1 = some d := z1f (s := p.2) hP
       have e1 := zRn hd
       rw [k1] at e1
       have e2 := k3 _ (.refl _)
       rw [e1, hd] at e2
       simp only [Option.some.injEq] at e2
       simp only
       rw [e2, hcall]
       exact ⟨by rfl, e1, trivial⟩
theorem ztp {rec : RecV} (H : zei E rec) {fid rid i : Nat} {ops : Array Oper} {sp : Bool} {st : St} {o : Oper} : Good (zIp E V rec fid rid i ops sp st o) (evOp E (ev E) fid ops sp st o) := by
 unfold zIp evOp
 cases zFh ops st.tm o with
 | none => exact .none
 | some b =>
  cases b with
  | false => exact .pure _
  | true =>
   simp only
   cases oget fid rid i V with
   | some v =>
    simp only
    intro a P h hP
    split at h
    ·rename_i hc
     obtain ⟨hc1, hc2⟩ := Bool.and_eq_true_iff.1 hc
     obtain ⟨⟨x, Q⟩, hx⟩ := Option.isSome_iff_exists.1 hc2
     simp only [W.seq, hx, Option.some.injEq, Prod.mk.injEq, List.append_nil] at h
     obtain ⟨rfl, rfl⟩ := h
     rw [if_pos (by rw [hc1, z6r hx hP]; rfl), zbs x Q hx hP]
     rfl
    ·split at h
     ·rename_i hn hc
      obtain ⟨hc1, hc2⟩ := Bool.and_eq_true_iff.1 hc
      cases hk : zgd E fid st o.dst o.op v with
      | none => simp [W.seq, hk] at h
      | some p =>
       simp only [W.seq, hk, Option.some.injEq, Prod.mk.injEq, List.append_nil] at h
       obtain ⟨rfl, rfl⟩ := h
       by_cases hq : (!(sp && useL (E.H fid) o) && zFf E (evA E st.tm) st.fs.get o.op) = true
       ·obtain ⟨hq1, hq2⟩ := Bool.and_eq_true_iff.1 hq
        have hb : v.both = true := by
         rcases Bool.or_eq_true_iff.1 hc2 with hb | hb
         ·exact hb
         ·rw [hc1, hq2] at *
          simp_all
        obtain ⟨b1, b2, b3⟩ := z2r hb hq2 (q := p.1) (P := p.2) hk hP
        rw [if_pos hq, b1, b2, b3]; rfl
       ·rw [if_neg hq, if_pos hc1, zas p.1 p.2 hk hP]
        rfl
     ·simp at h
   | none =>
    simp only
    refine .ite (fun _ => ?_) (fun _ => .ite (fun _ => ?_) (fun _ => .none))
    ·cases he : evQ E (fun _ _ => none) (evA E st.tm) st.fs.get o.op with
     | none => exact .none
     | some x => rw [zit he]; exact .pure _
    ·split
     ·exact ((zUs H (E.H fid) st o.dst o.op).seq (g := fun q => some ({ tm := tput st.tm o.dst q.1, fs := q.2.1, lp := q.2.2 } : St)) fun q _ => .pure _).to (zXi _ _)
     ·rename_i hf
      rw [zMt (rec := ev E) (rec' := fun _ _ _ => none) (by simpa using hf)]
      exact .map _
theorem zLo {rec : RecV} (H : zei E rec) {fid rid : Nat} {ops : Array Oper} : ∀ (os : List Oper) (i : Nat) (st : St), Good (zMq E V rec fid rid ops i os st) (zbm E (ev E) fid ops os st)
 | [], _, st => .pure st
 | o :: os, i, st => (ztp H).seq fun s _ => zLo H os (i + 1) s
theorem zls {fid rid i : Nat} {st : St} {s : Nat} {T : TypeId} {a x : Operand} : Good (z0r E V fid rid i st s T a x) (z1j E st s T a x) := by
 intro st' P h hP
 unfold z0r at h
 split at h
 ·split at h
  ·rename_i p ss xs cx g1 g2 g3 g4
   simp only [Option.some.injEq, Prod.mk.injEq] at h
   obtain ⟨rfl, rfl⟩ := h
   obtain ⟨h1, ⟨k, h2⟩, h3⟩ := hP
   have h3 : (ss.isEmpty || !xs.isEmpty) = true := h3
   unfold z1j
   rw [g1, g2, g3, g4, h2]
   simp only
   rw [if_pos h3, h1]
  ·simp at h
 ·simp at h
theorem zAt {fid rid i : Nat} {st : St} {dst : Option Nat} {q : TypeId × Nat × Nat} : Good (entV E V fid rid i st dst q) ((zdh E.P st.fs q.1 (tget st.tm q.2.1) (tget st.tm q.2.2)).map fun r => { tm := tput st.tm dst r.1, fs := r.2, lp := st.lp }) := by
 unfold entV
 split
 ·split
  ·rename_i p l s kd hq hm hk
   unfold zdh
   simp only [hq, hm, hk]
   by_cases h1 : z8e E.P p.1 kd = true
   ·rw [if_pos h1, if_pos h1]
    cases h3 : zvT E.P p.2 with
    | none => exact .none
    | some z =>
     cases h2 : st.fs.get l s with
     | none => exact .none
     | some ob =>
      cases ob with
      | map es =>
       refine .one fun hp => ?_
       simp only [hp, Option.map_some]
      | _ => exact .none
   ·rw [if_neg h1]; exact .none
  ·exact .none
 ·exact .none
theorem zTr {rec : RecV} (H : zei E rec) {fid rid : Nat} {ops : Array Oper} {h : zvb} {i : Nat} {st : St} {o : Oper} : Good (zBq E V rec fid rid ops h i st o) (z7b E (ev E) fid ops h i st o) := by
 unfold zBq z7b
 refine .ite (fun _ => .none) (fun _ => ?_)
 cases zGb o with
 | some q => exact .ite (fun _ => .pure _) (fun _ => .none)
 | none =>
  simp only
  cases aget i h.soft with
  | none => exact ztp H
  | some s =>
   simp only
   cases z6j o.op with
   | none =>
    simp only
    cases zOh o.op with
    | none =>
     simp only
     cases zSc o.op with
     | none => exact .none
     | some q => exact .ite (fun _ => zAt) (fun _ => .none)
    | some q => exact .ite (fun _ => zls) (fun _ => .none)
   | some q => exact .ite (fun _ => (Good.map fun a => a).to (by simp)) (fun _ => .none)
theorem zJn {rec : RecV} (H : zei E rec) {fid rid : Nat} {ops : Array Oper} {h : zvb} : ∀ (os : List Oper) (i : Nat) (st : St), Good (zUo E V rec fid rid ops h i os st) (zol E (ev E) fid ops h i os st)
 | [], _, st => .pure st
 | o :: os, i, st => (zTr H).seq fun s _ => zJn H os (i + 1) s
theorem zds {rec : RecV} (H : zei E rec) {fid id : Nat} {ops : Array Oper} {draw : Bool} {st : St} : Good (zBs E V rec fid id ops draw st) (zzn E (ev E) fid id ops draw st) := by
 refine Good.to (y := (zik E (ev E) fid id ops draw st).bind fun s => some { s with tm := zQf (E.H fid) s.tm }) ?_ (by unfold zzn; exact zXi _ _)
 refine Good.seq ?_ fun s _ => ?_
 case refine_2 =>
  split
  ·intro a P h hP
   simp only [Option.some.injEq, Prod.mk.injEq] at h
   obtain ⟨rfl, rfl⟩ := h
   rw [z6o (zPg hP), z3j (z1f hP)]
  ·exact .pure _
 unfold zgr zik
 refine .ite (fun _ => ?_) (fun _ => zLo H _ _ _)
 cases zQl (E.H fid) id with
 | none => exact .none
 | some h =>
  simp only
  cases zzo E.P h ops.toList st.fs with
  | none => exact .none
  | some fs => exact zJn H _ _ _
theorem zzs {rec : RecV} (H : zei E rec) (fid : Nat) (c : Code) (st : St) : Good (zwn E V C rec fid c st) (step E (ev E) fid c st) := by
 cases c with
 | skip => exact .pure _
 | label l => exact .pure _
 | region id ops draw =>
  simp only [zwn]
  cases cget fid (1000000 + id) C with
  | some r => exact .one fun hp => by rw [zWi] at hp; exact hp
  | none => exact ((zds H).seq (g := fun s => some (Ex.nor, s)) fun s _ => .pure _).to (zXi _ _)
 | seq a b =>
  refine ((H fid a st).seq (g := fun r => if r.1 = .nor then ev E fid b r.2 else some r) fun r _ => .ite (fun _ => H fid b r.2) (fun _ => .pure _)).to ?_
  simp only [step]
  cases ev E fid a st <;> rfl
 | cond c a b =>
  simp only [zwn]
  cases cutC fid c C with
  | some r => exact .one fun hp => by rw [zWi] at hp; exact hp
  | none =>
   simp only [step]
   cases evA E st.tm c with
   | d x => cases x <;> first | exact H _ _ _ | exact .none
   | _ => exact .none
 | block id c =>
  simp only [zwn]
  cases cget fid id C with
  | some r => exact .one fun hp => by rw [zWi] at hp; exact hp
  | none => exact ((H fid c st).seq (g := fun r => some (if r.1 = .exit id then Ex.nor else r.1, r.2)) fun r _ => .pure _).to (zXi _ _)
 | rangeFunc f ps x y =>
  simp only [zwn, step]
  cases zV (evA E st.tm f) with
  | none => exact .none
  | some q =>
   simp only
   refine ((zOl H q.1 _ st.fs _).seq (g := fun r => match r.2.2[st.lp.length]? with
    | some l => match l.st with
     | .rdy => some (Ex.nor, { st with fs := r.2.1, lp := r.2.2.dropLast })
     | .done e => some (e, { st with fs := r.2.1, lp := r.2.2.dropLast })
     | .busy => none
    | none => none) fun r _ => ?_).to ?_
   ·cases r.2.2[st.lp.length]? with
    | none => exact .none
    | some l =>
     simp only
     cases l.st with
     | rdy => exact .pure _
     | busy => exact .none
     | done e => exact .pure _
   ·cases zHb E (ev E) q.1 (q.2.1 ++ [.yld st.lp.length] ++ q.2.2) st.fs (st.lp ++ [{ tm := st.tm, lv := st.fs.lv, ps := ps, assign := x, body := y, fid := fid, st := .rdy }]) with
    | none => rfl
    | some r =>
     simp only [Option.bind_some]
     cases r.2.2[st.lp.length]? with
     | none => rfl
     | some l => simp only; cases l.st <;> rfl
 | exit id => exact .pure _
 | scope c => exact H fid c st
 | ret => exact .pure _
 | _ => exact .none
theorem zYi : ∀ n, zei E (evV E V C n)
 | 0 => fun _ _ _ => .none
 | n + 1 => fun fid c st => by rw [zWi]; exact zzs (zYi n) fid c st
theorem zps (n f : Nat) (ds : List D) : Good (zFp E V C n f ds) (zC E (ev E) f ds) := by
 unfold zFp zC
 refine ((ztm (zYi n) f (ds.map .d) [] []).seq (g := fun q => (zGc q.2.fs q.1).map tupD) fun q _ => .map _).to ?_
 cases run E (ev E) f (ds.map .d) [] [] <;> rfl
theorem zMb {n f : Nat} {args : List X} {fs : FS} {lp : List LRec} {r : D × FS × List LRec} {P : List Prop} (hP : All P) (h : zFl E (evV E V C n) f args fs lp = some (r, P)) : zHb E (ev E) f args fs lp = some r := zOl (zYi n) f args fs lp r P h hP
theorem zyr (n f : Nat) (ds res : List D) : Good (zko E V C n f ds res) (zC E (ev E) f ds) := by
 unfold zko zC
 refine ((ztm (zYi n) f (ds.map .d) [] []).seq (g := fun q => (zGc q.2.fs q.1).map tupD) fun q _ => .one fun hp => by rw [hp]; rfl).to ?_
 cases run E (ev E) f (ds.map .d) [] [] <;> rfl
theorem z2s {n f : Nat} {ds res : List D} {d : D} {P : List Prop} (hP : All P) (h : zko E V C n f ds res = some (d, P)) : zC E (ev E) f ds = some d := zyr n f ds res d P h hP
theorem zbt {n f : Nat} {ds : List D} {d : D} {P : List Prop} (hP : All P) (h : zFp E V C n f ds = some (d, P)) : zC E (ev E) f ds = some d := zps n f ds d P h hP
theorem zxu {n fid : Nat} {c : Code} {st : St} {r : Ex × St} {P : List Prop} (hP : All P) (h : evV E V C n fid c st = some (r, P)) : ev E fid c st = some r := zYi n fid c st r P h hP
theorem zMr (rs : List Nat) (st0 st : St) : Good (zkn rs st0 st) (z7l st0 st) := by
 intro a P h hP
 unfold zkn at h
 simp only at h
 split at h
 ·rename_i hc
  simp only [Option.some.injEq, Prod.mk.injEq] at h
  obtain ⟨rfl, rfl⟩ := h
  obtain ⟨h1, h2⟩ := Bool.and_eq_true_iff.1 hc
  unfold z7l
  simp only
  rw [if_pos]
  rw [h1, Bool.true_and, List.all_eq_true]
  intro p hp
  have h3 := (List.all_eq_true.1 h2) p hp
  rcases Bool.or_eq_true_iff.1 h3 with h4 | h4
  ·have : ∀ l ss, O.refs l ss p.2 = false := z5q hP (List.mem_map.2 ⟨p, List.mem_filter.2 ⟨hp, h4⟩, rfl⟩)
   rw [this]; rfl
  ·exact h4
 ·simp at h
theorem zPr {rs : List Nat} {n fid : Nat} {c : Code} {st st' : St} {r : Option (Ex × St)} {P : List Prop} (hP : All P) (h : z2i E V C rs n fid c st = some (.inl st', P)) (k : ev E fid c st' = r) : ev E fid c st = r := by
 cases c <;> try (simp [z2i] at h; done)
 case loop c =>
  simp only [z2i, W.seq] at h
  cases he : evV E V C n fid c st with
  | none => simp [he] at h
  | some p =>
   simp only [he] at h
   by_cases hn : p.1.1 = .nor
   ·rw [if_pos hn] at h
    cases hc : zkn rs st p.1.2 with
    | none => simp [hc] at h
    | some s =>
     simp only [hc, Option.some.injEq, Prod.mk.injEq, Sum.inl.injEq, List.append_nil] at h
     obtain ⟨rfl, rfl⟩ := h
     have h1 := zYi n fid c st p.1 p.2 he (zPg hP)
     have h2 := zMr rs st p.1.2 s.1 s.2 hc (z1f hP)
     exact z0p (by rw [h1, ← hn]) h2 k
   ·rw [if_neg hn] at h; simp at h
theorem zFs {rs : List Nat} {n fid : Nat} {c : Code} {st : St} {r : Ex × St} {P : List Prop} (hP : All P) (h : z2i E V C rs n fid c st = some (.inr r, P)) : ev E fid c st = some r := by
 cases c <;> try (simp [z2i] at h; done)
 case loop c =>
  simp only [z2i, W.seq] at h
  cases he : evV E V C n fid c st with
  | none => simp [he] at h
  | some p =>
   simp only [he] at h
   by_cases hn : p.1.1 = .nor
   ·rw [if_pos hn] at h
    cases hc : zkn rs st p.1.2 with
    | none => simp [hc] at h
    | some s => simp [hc] at h
   ·rw [if_neg hn] at h
    simp only [Option.some.injEq, Prod.mk.injEq, Sum.inr.injEq, List.append_nil] at h
    obtain ⟨rfl, rfl⟩ := h
    rw [zWi]
    simp only [step, zYi n fid c st p.1 p.2 he hP]
    rw [if_neg hn]
end Go.AM
set_option linter.unusedSimpArgs false
set_option linter.unusedVariables false
namespace Go.AM
open Go Go.RowKit
abbrev SL (α : Type) := List α × Cap
abbrev di (n : Int) : D := .i .i64 n
abbrev db (b : Bool) : D := .b b
abbrev xi (n : Int) : X := .d (.i .i64 n)
abbrev xb (b : Bool) : X := .d (.b b)
abbrev w64 (n : Int) : Int := IntKind.i64.wrap n
def eI (n : Int) : List D := [.i .i64 n]
def eB (b : Bool) : List D := [.b b]
def eL {α : Type} (e : α → List D) (l : SL α) : List D := [.sl (l.1.map e) l.2]
abbrev dl {α : Type} (e : α → List D) (l : List α) (c : Cap) : D := .sl (l.map e) c
def aB (n : Nat) (f : Nat → Bool) : List D := (List.range n).map fun k => .b (f k)
def aI (n : Nat) (f : Nat → Int) : List D := (List.range n).map fun k => .i .i64 (f k)
def upd {α : Type} (f : Nat → α) (i : Nat) (v : α) : Nat → α := fun k => if k = i then v else f k
section
variable {α β γ : Type} {G : Prop}
theorem zo {c : Bool} {A B : Option α} {r : α} (h : cond c A B = some r) (t : c = true → A = some r → G) (f : c = false → B = some r → G) : G := by
 cases c
 ·exact f rfl h
 ·exact t rfl h
theorem zAb {c : Bool} {A : Option α} {r : α} (h : cond c A none = some r) (t : c = true → A = some r → G) : G := by
 cases c
 ·simp at h
 ·exact t rfl h
theorem zl {x : Option β} {f : β → Option α} {r : α} (h : x.bind f = some r) (t : ∀ y, x = some y → f y = some r → G) : G := by
 cases x with
 | none => simp at h
 | some y => exact t y rfl h
theorem zxd {v : β ⊕ γ} {f : β → Option α} {g : γ → Option α} {r : α} (h : Sum.elim f g v = some r) (t : ∀ a, v = .inl a → f a = some r → G) (u : ∀ b, v = .inr b → g b = some r → G) : G := by
 cases v with
 | inl a => exact t a rfl h
 | inr b => exact u b rfl h
theorem zt {x r : α} {g : α → D} {y : Option D} (h : some x = some r) (p : y = some (g x)) : y = some (g r) := by
 simp only [Option.some.injEq] at h; rw [← h]; exact p
end
theorem zu {α : Type} {x r : α} {g : α → Ex × St} {y : Option (Ex × St)} (h : some x = some r) (p : y = some (g x)) : y = some (g r) := by
 simp only [Option.some.injEq] at h; rw [← h]; exact p
theorem zRc {α : Type} {x r : α} {g : α → D × FS × List LRec} {y : Option (D × FS × List LRec)} (h : some x = some r) (p : y = some (g x)) : y = some (g r) := by
 simp only [Option.some.injEq] at h; rw [← h]; exact p
theorem ob {p : Prop} {s : List Prop} (h : p) (t : All s) : All (p :: s) := by
 cases s with
 | nil => exact h
 | cons q s => exact ⟨h, t⟩
theorem ob0 : All [] := trivial
inductive F8 : List Fr → Prop
 | c0 : F8 []
 | c1 (a : Fr) : F8 [a]
 | c2 (a b : Fr) : F8 [a, b]
 | c3 (a b c : Fr) : F8 [a, b, c]
 | c4 (a b c d : Fr) : F8 [a, b, c, d]
 | c5 (a b c d e : Fr) : F8 [a, b, c, d, e]
 | c6 (a b c d e f : Fr) : F8 [a, b, c, d, e, f]
 | c7 (a b c d e f g : Fr) : F8 [a, b, c, d, e, f, g]
 | c8 (a b c d e f g h : Fr) : F8 [a, b, c, d, e, f, g, h]
theorem f8 : ∀ {fs : List Fr}, fs.length ≤ 8 → F8 fs
 | [], _ => .c0
 | [a], _ => .c1 a
 | [a, b], _ => .c2 a b
 | [a, b, c], _ => .c3 a b c
 | [a, b, c, d], _ => .c4 a b c d
 | [a, b, c, d, e], _ => .c5 a b c d e
 | [a, b, c, d, e, f], _ => .c6 a b c d e f
 | [a, b, c, d, e, f, g], _ => .c7 a b c d e f g
 | [a, b, c, d, e, f, g, h], _ => .c8 a b c d e f g h
 | _ :: _ :: _ :: _ :: _ :: _ :: _ :: _ :: _ :: _, h => by simp only [List.length_cons] at h; omega
theorem zlj {fs : List Fr} (f : Fr) (h : fs.length + 1 ≤ 8) : (fs ++ [f]).length ≤ 8 := by simpa using h
def zN (E : Env) (fid : Nat) (c : Code) {S R : Type} (S0 : S → St) (R0 : R → Ex × St) (s : S) : S ⊕ R → Prop
 | .inl s' => ∀ r, ev E fid c (S0 s') = r → ev E fid c (S0 s) = r
 | .inr r => ev E fid c (S0 s) = some (R0 r)
section
variable {E : Env} {V : Ovs} {C : Cuts} {fid : Nat} {c : Code}
theorem znu {S R : Type} {S0 : S → St} {R0 : R → Ex × St} {s s' : S} {x : S ⊕ R} {rs : List Nat} (h : some (Sum.inl s') = some x) {n : Nat} {P : List Prop} (hP : All P) (hr : z2i E V C rs n fid c (S0 s) = some (.inl (S0 s'), P)) : zN E fid c S0 R0 s x := by
 simp only [Option.some.injEq] at h
 subst h
 exact fun r hk => zPr hP hr hk
theorem zJu {S R : Type} {S0 : S → St} {R0 : R → Ex × St} {s : S} {r : R} {x : S ⊕ R} (h : some (Sum.inr r) = some x) {n : Nat} {P : List Prop} (hP : All P) (hr : z2i E V C [] n fid c (S0 s) = some (.inr (R0 r), P)) : zN E fid c S0 R0 s x := by
 simp only [Option.some.injEq] at h
 subst h
 exact zFs hP hr
theorem zZi {S R : Type} {S0 : S → St} {R0 : R → Ex × St} {body : S → Option (S ⊕ R)} (h : ∀ s x, body s = some x → zN E fid c S0 R0 s x) : ∀ (m : Nat) (s : S) (r : R), iter body m s = some r → ev E fid c (S0 s) = some (R0 r)
 | 0, s, r, hi => by simp [iter] at hi
 | m + 1, s, r, hi => by
  simp only [iter] at hi
  cases hb : body s with
  | none => simp [hb] at hi
  | some x =>
   have hx := h s x hb
   cases x with
   | inl s' => simp only [hb] at hi; exact hx _ (zZi h m s' r hi)
   | inr r' => simp only [hb, Option.some.injEq] at hi; subst hi; exact hx
def z8i (id : Nat) : Code → Option Code
 | .seq a b => match z8i id a with
  | some c => some c
  | none => z8i id b
 | .cond _ a b => match z8i id a with
  | some c => some c
  | none => z8i id b
 | .block i c => if i = id then some c else z8i id c
 | .loop c => z8i id c
 | .scope c => z8i id c
 | .rangeFunc _ _ a b => match z8i id a with
  | some c => some c
  | none => z8i id b
 | _ => none
def z4i (id : Nat) : Code → Option Code
 | .seq a b => match z4i id a with
  | some c => some c
  | none => z4i id b
 | .cond _ a b => match z4i id a with
  | some c => some c
  | none => z4i id b
 | .block _ c => z4i id c
 | .loop c => z4i id c
 | .scope c => z4i id c
 | .rangeFunc _ _ a b => match z4i id a with
  | some c => some c
  | none => z4i id b
 | .region i ops d => if i = id then some (.region i ops d) else none
 | _ => none
def z7i (t : Nat) : Code → Option Code
 | .seq a b => match z7i t a with
  | some c => some c
  | none => z7i t b
 | .cond c a b => match (match c with | .tmp u => decide (u = t) | _ => false) with
  | true => some (.cond c a b)
  | false => match z7i t a with
   | some c => some c
   | none => z7i t b
 | .block _ c => z7i t c
 | .loop c => z7i t c
 | .scope c => z7i t c
 | .rangeFunc _ _ a b => match z7i t a with
  | some c => some c
  | none => z7i t b
 | _ => none
def zzq (E : Env) (f : Nat) : Code := match E.P.funcs[f]? with
 | some fn => fn.body.getD .skip
 | none => .skip
def blk (E : Env) (f id : Nat) : Code := (z8i id (zzq E f)).getD .skip
def rgn (E : Env) (f id : Nat) : Code := (z4i id (zzq E f)).getD .skip
def cnd (E : Env) (f t : Nat) : Code := (z7i t (zzq E f)).getD .skip
def rfA : Code → Code
 | .rangeFunc _ _ a _ => a
 | _ => .skip
def rfB : Code → Code
 | .rangeFunc _ _ _ b => b
 | _ => .skip
def rfP : Code → Array Nat
 | .rangeFunc _ ps _ _ => ps
 | _ => #[]
theorem zz {id : Nat} {st : St} {r : Ex × St} {r' : Ex × St} (h : ev E fid c st = some r) (e : (if r.1 = .exit id then Ex.nor else r.1, r.2) = r') : ev E fid (.block id c) st = some r' := by
 rw [zWi]; simp only [step, h, Option.map_some, e]
end
theorem o_b {e b : Bool} (h : e = b) : some (X.d (.b e)) = some (X.d (.b b)) := by rw [h]
theorem zuv {x y : Int} (k : IntKind) (h : (y == 0) = false) : (if y = 0 then none else some (D.i k (x.tmod y))).map X.d = some (X.d (.i k (x.tmod y))) := by
 rw [if_neg (by simpa using h)]; rfl
def z6i (x y : Int) : Int := w64 (x * 2 ^ (min y.toNat 64))
def zKp (x y : Int) : Int := x.fdiv (2 ^ (min y.toNat 64))
theorem z6u {x y : Int} (h : decide (y < 0) = false) : (if y < 0 then none else some (D.i .i64 (IntKind.i64.wrap (x * 2 ^ (min y.toNat IntKind.i64.bits))))).map X.d = some (xi (z6i x y)) := by
 rw [if_neg (by simpa using h)]; rfl
theorem zRt {x y : Int} (h : decide (y < 0) = false) : (if y < 0 then none else some (D.i .i64 (x.fdiv (2 ^ (min y.toNat IntKind.i64.bits))))).map X.d = some (xi (zKp x y)) := by
 rw [if_neg (by simpa using h)]; rfl
def idx {α : Type} (l : List α) (n : Int) : Option α := if 0 ≤ n then l[n.toNat]? else none
theorem o_ia {α : Type} {e : α → List D} {l : List α} {n : Int} {y : α} (z : Nat) (h : idx l n = some y) (hz : (e y).length = z) :
  (if 0 ≤ n then ((l.map e)[n.toNat]?).bind fun e => if e.length = z then some (X.d (.pin e)) else none else none) = some (X.d (.pin (e y))) := by
 unfold idx at h
 split at h
 ·rename_i h0
  rw [if_pos h0, List.getElem?_map, h]
  simp [hz]
 ·simp at h
theorem zq {α : Type} (e : α → List D) (l : List α) : some (X.d (.i .i64 ((l.map e).length : Int))) = some (xi (l.length : Int)) := by rw [List.length_map]
theorem o_tr {x : Option X} {e b : Bool} (h : x = some (xb e)) (k : e = b) : x = some (xb b) := by rw [h, k]
theorem zjn {n : Int} {m : Nat} (l s o z j : Nat) (h : (decide (0 ≤ n) && decide (n < (m : Int))) = true) (hj : o + n.toNat * z = j) : (if 0 ≤ n ∧ n < (m : Int) then some (X.ptr l s (o + n.toNat * z)) else none) = some (X.ptr l s j) := by
 rw [if_pos (by simpa using h), hj]
theorem zTk {n : Int} (cs : List D) (m z : Nat) (ag : Bool) {j : Nat} (h : n = (j : Int)) (hj : j < m) : (if 0 ≤ n ∧ n < (m : Int) then (zGh ag z (cs.drop (n.toNat * z))).map X.d else none) = (zGh ag z (cs.drop (j * z))).map X.d := by
 subst h
 rw [if_pos ⟨by omega, by omega⟩]; rfl
theorem zhp (n : Nat) (f : Nat → Bool) : (aB n f).length = n := by simp [aB]
theorem zfp (n : Nat) (f : Nat → Int) : (aI n f).length = n := by simp [aI]
theorem zVs {n j : Nat} (f : Nat → Bool) (h : j < n) : (aB n f)[j]? = some (.b (f j)) := by simp [aB, h]
theorem zvu {n j : Nat} (f : Nat → Int) (h : j < n) : (aI n f)[j]? = some (.i .i64 (f j)) := by simp [aI, h]
theorem zos {α : Type} (l : List α) (j : Nat) : (l.drop j).head? = l[j]? := by simp
theorem z0t (n : Nat) (f : Nat → Bool) (j : Nat) (h : j < n) : grab false 1 (((aB n f).map X.d).drop j) = some (xb (f j)) := by
 simp [grab, zos, zVs f h]
theorem zAu (n : Nat) (f : Nat → Bool) (j : Nat) (v : Bool) : ((aB n f).map X.d).set j (xb v) = (aB n (upd f j v)).map X.d := by
 apply List.ext_getElem?
 intro i
 by_cases hi : i < n
 ·by_cases hj : j = i
  ·subst hj; simp [aB, upd, hi]
  ·rw [List.getElem?_set_ne hj]; simp [aB, upd, hi, Ne.symm hj]
 ·rw [List.getElem?_eq_none (by simp [aB]; omega), List.getElem?_eq_none (by simp [aB]; omega)]
theorem zHr {α : Type} (cs : List α) (j : Nat) (v : α) (h : cs.length ≠ 1) : z3c cs j [v] = cs.set j v := by
 unfold z3c
 rw [if_neg (by simp; omega)]
theorem zUr (n : Nat) (f : Nat → Bool) (j : Nat) (v : Bool) (h : j < n) (hn : n ≠ 1 := by decide) : j + 1 ≤ ((aB n f).map X.d).length ∧ z3c ((aB n f).map X.d) j [xb v] = (aB n (upd f j v)).map X.d :=
 ⟨by simp [zhp]; omega, by rw [zHr _ _ _ (by simpa [zhp] using hn), zAu]⟩
theorem z2t (n : Nat) (f : Nat → Bool) (i : Int) (h : (decide (0 ≤ i) && decide (i < (n : Int))) = true) : (if 0 ≤ i ∧ i < (n : Int) then (zGh false 1 ((aB n f).drop (i.toNat * 1))).map X.d else none) = some (xb (f i.toNat)) := by
 have h' : 0 ≤ i ∧ i < (n : Int) := by simpa using h
 rw [if_pos h']
 simp [zGh, zVs f (show i.toNat < n by omega)]
def lfI (l : List Int) (k : Nat) : Int := l.getD k 0
def eqB (f g : Nat → Bool) : Nat → Nat → Bool
 | _, 0 => true
 | i, n + 1 => (f i == g i) && eqB f g (i + 1) n
def eqI (f g : Nat → Int) : Nat → Nat → Bool
 | _, 0 => true
 | i, n + 1 => (f i == g i) && eqI f g (i + 1) n
def zcv (x y : Int) : Int := w64 (BitVec.ofInt 64 x &&& BitVec.ofInt 64 y).toNat
def rowO {α : Type} (b : Bool) (z : Nat) (e : α → List D) (l : List α) (w : Bool) : O := cond (b && l.isEmpty) .nrow (.row z (l.map e) w)
def rcap {α : Type} (b : Bool) (l : List α) : Cap := cond (b && l.isEmpty) .nil .ro
def xcap {α : Type} (b : Bool) (l : List α) : Cap := cond (b && l.isEmpty) .nil .ex
section
variable {α : Type} {b : Bool} {z : Nat} {e : α → List D} {l : List α} {w : Bool}
theorem zki (b : Bool) (z : Nat) (e : α → List D) (l : List α) (w : Bool) : (b = true ∧ l = [] ∧ rowO b z e l w = .nrow) ∨ (rowO b z e l w = .row z (l.map e) w ∧ (b && l.isEmpty) = false) := by
 unfold rowO
 cases b with
 | false => exact .inr ⟨rfl, rfl⟩
 | true =>
  cases l with
  | nil => exact .inl ⟨rfl, rfl, rfl⟩
  | cons a t => exact .inr ⟨rfl, rfl⟩
theorem zif (b : Bool) (z : Nat) (e : α → List D) (l : List α) (w : Bool) : ∀ l' ss, O.refs l' ss (rowO b z e l w) = false := by
 intro l' ss
 unfold rowO
 cases (b && l.isEmpty) <;> rfl
theorem zZo (hz : ∀ y, (e y).length = z) (l : List α) : ((l.map e).all fun e => e.length == z) = true := by
 rw [List.all_eq_true]
 intro x hx
 obtain ⟨y, _, rfl⟩ := List.mem_map.1 hx
 simp [hz y]
theorem z0u (l2 : List α) (hz : ∀ y, (e y).length = z) (h : decide (l.length + l2.length ≤ LIM) = true) : appO z (rowO b z e l w) l.length (l2.map e) = some ((l ++ l2).length, rowO b z e (l ++ l2) (w || (b && l.isEmpty))) := by
 have h' : l.length + l2.length ≤ LIM := by simpa using h
 unfold appO
 rw [if_pos ⟨by simpa using h', zZo hz l2⟩]
 rcases zki b z e l w with ⟨rfl, rfl, hr⟩ | ⟨hr, hf⟩
 ·rw [hr]
  simp only [List.length_nil, if_true, List.nil_append, List.isEmpty_nil, Bool.and_self, Bool.or_true]
  cases l2 with
  | nil => rfl
  | cons a t => simp [rowO]
 ·rw [hr, hf]
  simp only [List.length_map, and_self, if_true, List.length_append, Bool.or_false]
  unfold rowO
  have : (b && (l ++ l2).isEmpty) = false := by
   cases b with
   | false => rfl
   | true =>
    cases l with
    | nil => simp at hf
    | cons a t => rfl
  rw [this]
  simp
theorem o_ap (x : α) (hz : ∀ y, (e y).length = z) (h : decide (l.length + 1 ≤ LIM) = true) : appO z (rowO b z e l w) l.length [e x] = some ((l ++ [x]).length, rowO b z e (l ++ [x]) (w || (b && l.isEmpty))) := z0u [x] hz h
theorem zWs : zhh (fun _ _ => some (rowO b z e l w)) 0 0 l.length = true := by
 unfold zhh
 rcases zki b z e l w with ⟨rfl, rfl, hr⟩ | ⟨hr, hf⟩ <;> rw [hr] <;> simp
theorem zck (b : Bool) (z : Nat) (e : α → List D) (l : List α) (w : Bool) : (if zhh (fun _ _ => some (rowO b z e l w)) 0 0 l.length = true then some (X.d (.i .i64 ((l.length : Nat) : Int))) else none) = some (xi (l.length : Int)) := by
 rw [if_pos zWs]
theorem zRl {n : Int} {y : α} (h : idx l n = some y) : 0 ≤ n ∧ n < (l.length : Int) ∧ l[n.toNat]? = some y := by
 unfold idx at h
 split at h
 ·rename_i h0
  obtain ⟨hl, _⟩ := List.getElem?_eq_some_iff.1 h
  exact ⟨h0, by omega, h⟩
 ·simp at h
theorem znm {n : Int} {y : α} (h : idx l n = some y) : rowO b z e l w = .row z (l.map e) w := by
 obtain ⟨h0, h1, _⟩ := zRl h
 rcases zki b z e l w with ⟨_, rfl, _⟩ | ⟨hr, _⟩
 ·simp at h1; omega
 ·exact hr
theorem zbv {P : Program} {T : TypeId} {lv s : Nat} {n : Int} {y : α} {bt : Nat} (ha : arT P T = none) (hs : slT P T = some (z, bt)) (h : idx l n = some y) : iaX P (fun _ _ => some (rowO b z e l w)) T (.row lv s l.length) (xi n) = some (.rp lv s l.length n.toNat 0) := by
 obtain ⟨h0, h1, _⟩ := zRl h
 simp only [iaX, intX, ha, hs, znm (b := b) (z := z) (e := e) (w := w) h]
 rw [if_pos ⟨by simp, by trivial, h0, h1⟩]
theorem zCv {P : Program} {T : TypeId} {lv s o : Nat} {n : Int} {y : α} {q : Nat × Bool} {x : X} (ht : tyT P T = some q) (h : idx l n = some y) (hx : (zGh q.2 q.1 ((e y).drop o)).map X.d = some x) : ldX P (fun _ _ => some (rowO b z e l w)) T (.rp lv s l.length n.toNat o) = some x := by
 obtain ⟨h0, h1, h2⟩ := zRl h
 simp only [ldX, ht, znm (b := b) (z := z) (e := e) (w := w) h]
 rw [if_pos (by simp), List.getElem?_map, h2]
 exact hx
theorem zdw {P : Program} {T : TypeId} {lv s o f : Nat} {n : Int} {y : α} {q : Nat × Nat × Bool} (hf : fdT P T f = some q) (hq : q.2.1 ≠ 0) (h : idx l n = some y) : faX P (fun _ _ => some (rowO b z e l w)) T (.rp lv s l.length n.toNat o) f = some (.rp lv s l.length n.toNat (o + q.1)) := by
 simp only [faX, hf, hq, if_false, live, znm (b := b) (z := z) (e := e) (w := w) h]
 simp
theorem o_rs {o n : Nat} {ds : List D} {i : Int} {y y' : α} (h : idx l i = some y) (hn : o + n ≤ (e y).length) (hy : z3c (e y) o ds = e y') : stO (rowO b z e l true) l.length i.toNat o n ds = some (rowO b z e (l.set i.toNat y') true) := by
 obtain ⟨h0, h1, h2⟩ := zRl h
 simp only [stO, znm (b := b) (z := z) (e := e) (w := true) h]
 rw [if_pos (by simp), List.getElem?_map, h2]
 simp only [Option.map_some, Option.bind_some]
 rw [if_pos hn, hy]
 have hne : (b && (l.set i.toNat y').isEmpty) = false := by
  cases b with
  | false => rfl
  | true =>
   cases l with
   | nil => simp at h1; omega
   | cons a t => cases i.toNat <;> rfl
 unfold rowO
 rw [hne]
 simp [List.map_set]
theorem zQs (b : Bool) (z : Nat) (e : α → List D) (l : List α) (w : Bool) : z6g (rowO b z e l w) = rowO b z e l false := by
 unfold rowO
 cases (b && l.isEmpty) <;> cases w <;> rfl
theorem zUt (b : Bool) (z : Nat) (e : α → List D) (l : List α) (lv s : Nat) : toD (fun _ _ => some (rowO b z e l false)) (.row lv s l.length) = some (dl e l (rcap b l)) := by
 rcases zki b z e l false with ⟨rfl, rfl, hr⟩ | ⟨hr, hf⟩
 ·simp [toD, hr, rcap]
 ·simp [toD, hr, rcap, hf]
theorem o_cr (b : Bool) (z : Nat) (e : α → List D) (l : List α) (w : Bool) (lv s : Nat) : z6g (rowO b z e l w) = rowO b z e l false ∧ toD (fun _ _ => some (rowO b z e l false)) (.row lv s l.length) = some (dl e l (rcap b l)) := ⟨zQs b z e l w, zUt b z e l lv s⟩
theorem o_sr {P : Program} {T U : TypeId} {ρ : Operand → X} {lv s by' : Nat} (b : Bool) (z : Nat) (e : α → List D) (l : List α) (w : Bool) {lo hi mx : Option Operand} (hu : P.underlying T = some (.slice U)) (hs : slT P T = some (z, by')) (h1 : optI ρ lo = some none) (h2 : optI ρ hi = some (some (l.length : Int))) (h3 : optI ρ mx = some (some (l.length : Int))) :
  z6g (rowO b z e l w) = rowO b z e l false ∧ zle P (fun _ _ => some (rowO b z e l false)) T ρ (.row lv s l.length) lo hi mx = some (.d (dl e l (xcap b l))) := by
 refine ⟨zQs b z e l w, ?_⟩
 simp only [zle, h1, h2, h3, hu, zUt, hs, Option.bind_some]
 simp only [cutX, Option.getD_none, Option.getD_some]
 rw [if_pos ⟨by omega, by omega, by simp, .inl (by trivial)⟩, if_pos ⟨by omega, by simp, rfl⟩]
 simp only [Option.map_some, Int.toNat_natCast]
 rw [List.take_of_length_le (by simp)]
 unfold rcap xcap
 cases (b && l.isEmpty) <;> simp
theorem z1l {fr : Fr} {s : Nat} (b : Bool) (z : Nat) (e : α → List D) (l : List α) (w : Bool) (h : aget s fr = some (rowO b z e l w)) : zOd ⟨fr, []⟩ (.row 0 s l.length) = some (dl e l (rcap b l)) := by
 unfold zOd
 simp only [List.length_nil, if_true, h]
 rcases zki b z e l w with ⟨rfl, rfl, hr⟩ | ⟨hr, hf⟩
 ·simp [hr, rcap]
 ·simp [hr, rcap, hf]
theorem zlp {fr : Fr} {s : Nat} (b : Bool) (z : Nat) (e : α → List D) (l : List α) (w : Bool) (h : aget s fr = some (rowO b z e l w)) : snap ⟨fr, []⟩ (.row 0 s l.length) = some (dl e l (rcap b l)) := by
 have := z1l b z e l w h
 simpa only [snap] using this
theorem o_s1 {fs : FS} {x : X} {t : List X} {d : D} {ds : List D} (h : snap fs x = some d) (k : zGc fs t = some ds) : zGc fs (x :: t) = some (d :: ds) := by simp only [zGc, h, k]
theorem o_s0 {fs : FS} : zGc fs [] = some [] := rfl
theorem o_c1 {fs : FS} {x : X} {t : List X} {d : D} {ds : List D} (h : zOd fs x = some d) (k : zIe fs t = some ds) : zIe fs (x :: t) = some (d :: ds) := by simp only [zIe, h, k]
theorem o_c0 {fs : FS} : zIe fs [] = some [] := rfl
theorem o_cd {fs : FS} {x : D} {t : List X} {ds : List D} (k : zIe fs t = some ds) : zIe fs (.d x :: t) = some (x :: ds) := by simp only [zIe, zOd, k]
theorem zTs {fs : FS} {cs : List X} {ds : List D} (h : zIe fs cs = some ds) : snap fs (.agg cs) = some (.agg ds) := by simp only [snap, h, Option.map_some]
theorem o_ns {P : Program} {φ : Get} {T : TypeId} {q : Nat × List D} {c : Cap} (l : List α) (hq : okS P T = some q) (hz : ∀ y, (e y).length = q.1) (h : decide (l.length ≤ LIM) = true) : ∃ k, appQ P φ T (.d (.sl [] .ex)) (.d (.sl (l.map e) c)) = some (.d (.sl (l.map e) k)) := by
 have h' : l.length ≤ LIM := by simpa using h
 simp only [appQ, hq, zRe]
 rw [if_pos ⟨by simpa using h', zZo hz l, by simp⟩]
 cases l with
 | nil => exact ⟨.ex, rfl⟩
 | cons a t => exact ⟨.ro, rfl⟩
theorem zeo (l : List α) (e : α → List D) : (l.map e).length = l.length := by simp
theorem o_ad {P : Program} {φ : Get} {T : TypeId} {q : Nat × List D} {c : Cap} (l : List α) (x : α) (hq : okS P T = some q) (hz : ∀ y, (e y).length = q.1) (hc : decide (c = .ro) = false) (h : decide (l.length + 1 ≤ LIM) = true) : appQ P φ T (.d (.sl (l.map e) c)) (.d (.sl [e x] .ex)) = some (.d (dl e (l ++ [x]) .ro)) := by
 have h' : l.length + 1 ≤ LIM := by simpa using h
 simp only [appQ, hq, zRe]
 rw [if_pos ⟨by simpa using h', by simp [hz], zZo hz l⟩]
 simp only [List.isEmpty_cons, Bool.false_eq_true, if_false]
 rw [if_neg (by simpa using hc)]
 simp
end
def ccap (c : Cap) : Cap := if c = .nil then .nil else .ex
def pcap (c : Cap) (full : Bool) : Cap := if c = .nil then .nil else if c = .ex ∧ full = true then .ex else .ro
theorem zWl {α : Type} {e : α → List D} {z : Nat} (l : List α) (c : Cap) : (cutX z (l.map e) c none (some (l.length : Int)) (some (l.length : Int))).map X.d = some (.d (dl e l (ccap c))) := by
 simp only [cutX, Option.getD_none, Option.getD_some]
 rw [if_pos ⟨by omega, by omega, by simp, .inl (by trivial)⟩, if_pos ⟨by omega, by simp, rfl⟩]
 simp only [if_true, Int.toNat_natCast, Option.map_some]
 rw [List.take_of_length_le (by simp)]
 rfl
theorem ztu {α : Type} {e : α → List D} {z : Nat} (l : List α) (c : Cap) {n : Int} (hz : ∀ a, (e a).length = z) (h : (decide (0 ≤ n) && decide (n ≤ (l.length : Int))) = true) : (cutX z (l.map e) c (some n) none none).map X.d = some (.d (dl e (l.drop n.toNat) (pcap c true))) := by
 have h' : 0 ≤ n ∧ n ≤ (l.length : Int) := by simpa using h
 simp only [cutX, Option.getD_none, Option.getD_some, List.length_map]
 rw [if_pos ⟨h'.1, h'.2, Int.le_refl _, .inr (by simp [hz])⟩]
 simp only [Option.map_some, dl, pcap, Int.toNat_natCast]
 rw [List.take_of_length_le (by simp), List.map_drop]
theorem zjq {α : Type} {e : α → List D} {z : Nat} (l : List α) (c : Cap) {n : Int} (h : (decide (0 ≤ n) && decide (n ≤ (l.length : Int))) = true) : (cutX z (l.map e) c none (some n) none).map X.d = some (.d (dl e (l.take n.toNat) (pcap c (n == (l.length : Int))))) := by
 have h' : 0 ≤ n ∧ n ≤ (l.length : Int) := by simpa using h
 simp only [cutX, Option.getD_none, Option.getD_some]
 rw [if_pos ⟨by omega, h'.1, by simpa using h'.2, .inl (by trivial)⟩]
 simp only [Option.map_some, List.map_take, pcap, List.length_map, beq_iff_eq, Int.toNat_zero, List.drop_zero, dl]
def em {κ ν : Type} (ek : κ → D) (ev : ν → D) (m : List (κ × ν)) : List (D × D) := m.map fun p => (ek p.1, ev p.2)
def eM {κ ν : Type} (ek : κ → D) (ev : ν → D) (m : List (κ × ν)) : List D := [.mp (em ek ev m)]
def zP {κ ν : Type} (q : κ → κ → Bool) (k : κ) : List (κ × ν) → Option ν
 | [] => none
 | p :: t => cond (q k p.1) (some p.2) (zP q k t)
def mset {κ ν : Type} (q : κ → κ → Bool) (k : κ) (v : ν) : List (κ × ν) → List (κ × ν)
 | [] => [(k, v)]
 | p :: t => cond (q k p.1) ((p.1, v) :: t) (p :: mset q k v t)
section
variable {κ ν : Type} {ek : κ → D} {evl : ν → D} {q : κ → κ → Bool}
theorem zWo (hq : ∀ a b, eqD (ek a) (ek b) = some (q a b)) (k : κ) : ∀ m : List (κ × ν), zAf (ek k) (em ek evl m) = some ((zP q k m).map evl)
 | [] => rfl
 | p :: t => by
  simp only [em, List.map_cons, zAf, hq, zP]
  cases q k p.1
  ·exact zWo hq k t
  ·rfl
theorem z3p (hq : ∀ a b, eqD (ek a) (ek b) = some (q a b)) (k : κ) (v : ν) : ∀ m : List (κ × ν), setD (ek k) (evl v) (em ek evl m) = some (em ek evl (mset q k v m))
 | [] => rfl
 | p :: t => by
  simp only [em, List.map_cons, setD, hq, mset]
  cases q k p.1
  ·have := z3p hq k v t
   simp only [em] at this
   simp only [this, Option.map_some, cond_false, List.map_cons]
  ·rfl
def ment {κ ν : Type} (q : κ → κ → Bool) (k : κ) (z : ν) : List (κ × ν) → List (κ × ν)
 | [] => [(k, z)]
 | p :: t => cond (q k p.1) (p :: t) (p :: ment q k z t)
def midx {κ ν : Type} (q : κ → κ → Bool) (k : κ) : List (κ × ν) → Nat
 | [] => 0
 | p :: t => cond (q k p.1) 0 (midx q k t + 1)
theorem o_me (hq : ∀ a b, eqD (ek a) (ek b) = some (q a b)) (k : κ) (z : ν) : ∀ m : List (κ × ν), entD (ek k) (evl z) (em ek evl m) = some (em ek evl (ment q k z m), evl ((zP q k m).getD z), midx q k m)
 | [] => rfl
 | p :: t => by
  simp only [em, List.map_cons, entD, hq, ment, midx, zP]
  cases q k p.1
  ·have := o_me hq k z t
   simp only [em] at this
   simp only [this, Option.map_some, cond_false, List.map_cons]
  ·rfl
theorem zks (k : κ) (z v : ν) : ∀ m : List (κ × ν), ((em ek evl (ment q k z m))[midx q k m]?).map (fun p => (em ek evl (ment q k z m)).set (midx q k m) (p.1, evl v)) = some (em ek evl (mset q k v m))
 | [] => rfl
 | p :: t => by
  simp only [em, ment, midx, mset]
  cases q k p.1
  ·have := zks k z v t
   simp only [em] at this
   obtain ⟨y, h1, h2⟩ := Option.map_eq_some_iff.1 this
   simp only [cond_false, List.map_cons, List.getElem?_cons_succ, List.set_cons_succ]
   rw [h1, Option.map_some, h2]
  ·rfl
theorem o_es (k : κ) (z v : ν) (m : List (κ × ν)) : 0 ≤ ((midx q k m : Nat) : Int) ∧ ((em ek evl (ment q k z m))[((midx q k m : Nat) : Int).toNat]?).map (fun p => (em ek evl (ment q k z m)).set ((midx q k m : Nat) : Int).toNat (p.1, evl v)) = some (em ek evl (mset q k v m)) :=
 ⟨by omega, by rw [Int.toNat_natCast]; exact zks k z v m⟩
theorem znk (hq : ∀ a b, eqD (ek a) (ek b) = some (q a b)) (k : κ) (m : List (κ × ν)) (z : ν) : ((zAf (ek k) (em ek evl m)).map fun r => X.d (r.getD (evl z))) = some (.d (evl ((zP q k m).getD z))) := by
 rw [zWo hq]
 simp only [Option.map_some]
 cases zP q k m <;> rfl
theorem zvr (hq : ∀ a b, eqD (ek a) (ek b) = some (q a b)) (k : κ) (m : List (κ × ν)) (z : ν) : ((zAf (ek k) (em ek evl m)).map fun r => X.d (.tup [r.getD (evl z), .b r.isSome])) = some (.d (.tup [evl ((zP q k m).getD z), .b (zP q k m).isSome])) := by
 rw [zWo hq]
 simp only [Option.map_some]
 cases zP q k m <;> rfl
end
end Go.AM
set_option linter.unusedSimpArgs false
set_option linter.unusedVariables false
namespace Go.AM
open Go Go.RowKit
def zUf (W : World) : Imm := ⟨fun b o => W.cell? ⟨b, o, none⟩, fun _ => none⟩
theorem zLs {E : Env} {W : World} (hg : ∀ g cs, E.G g = some cs → DR (zUf W) (.pin cs) (.pointer (some ⟨g, 0, none⟩))) : IW E (zUf W) W :=
 ⟨fun b o v h => h, fun r e h => by simp [zUf] at h, hg⟩
def zpn : Value → Prop
 | .slice (some a) _ _ => a.spot = none
 | _ => True
theorem zRs {n : Int} (h : (Lit.int .i64 n).wf = true) : -9223372036854775808 ≤ n ∧ n ≤ 9223372036854775807 := by
 simpa [Lit.wf, IntKind.has, IntKind.min, IntKind.max, IntKind.signed, IntKind.bits] using h
def zQc (P : Program) (W : World) (T : TypeId) (ns : Bool) {α : Type} (e : α → List D) (good : α → Prop) : Prop :=
 ∀ (H : Type) (enc : TypeId × Value → H) (sp : Nat → Bool) (held : Bool) (fuel : Nat) (cs : List Value) (x : DataW H × List MemPlace), DataW.trod enc P W 0 sp held fuel T cs = some x → (ns = true → ∀ v, v ∈ cs → zpn v) →
  ∃ a : α, cs.length = (e a).length ∧ (∀ (j : Nat) d, (e a)[j]? = some d → ∃ v, cs[j]? = some v ∧ DR (zUf W) d v ∧ d.sc = true) ∧ good a
section
variable {P : Program} {W : World}
theorem z1g {T : TypeId} (ns : Bool) (hT : P.underlying T = some (.int .i64)) : zQc P W T ns eI (fun n => -9223372036854775808 ≤ n ∧ n ≤ 9223372036854775807) := by
 intro H enc sp held fuel cs x h _
 obtain ⟨n, rfl, _, hw⟩ := DataW.trod_int hT h
 refine ⟨n, rfl, fun j d hd => ?_, zRs hw⟩
 cases j with
 | zero => simp only [eI, List.getElem?_cons_zero, Option.some.injEq] at hd; subst hd; exact ⟨_, rfl, .i _ _, rfl⟩
 | succ j => simp [eI] at hd
theorem zDr {T : TypeId} (ns : Bool) (hT : P.underlying T = some .bool) : zQc P W T ns eB (fun _ => True) := by
 intro H enc sp held fuel cs x h _
 obtain ⟨b, rfl, _⟩ := DataW.trod_bool hT h
 refine ⟨b, rfl, fun j d hd => ?_, trivial⟩
 cases j with
 | zero => simp only [eB, List.getElem?_cons_zero, Option.some.injEq] at hd; subst hd; exact ⟨_, rfl, .b _, rfl⟩
 | succ j => simp [eB] at hd
theorem zQc.map {T : TypeId} {ns : Bool} {α β : Type} {e : α → List D} {e' : β → List D} {good : α → Prop} {good' : β → Prop} (h : zQc P W T ns e good) (g : α → β) (he : ∀ a, e' (g a) = e a) (hg : ∀ a, good a → good' (g a)) : zQc P W T ns e' good' := by
 intro H enc sp held fuel cs x hx hs
 obtain ⟨a, h1, h2, h3⟩ := h _ enc sp held fuel cs x hx hs
 exact ⟨g a, by rw [he]; exact h1, by rw [he]; exact h2, hg a h3⟩
def zcn (P : Program) (W : World) (fs : List Field) (off : Nat) (ns : Bool) {α : Type} (e : α → List D) (good : α → Prop) : Prop :=
 ∀ (H : Type) (enc : TypeId × Value → H) (sp : Nat → Bool) (held : Bool) (fuel : Nat) (cs : List Value), (∀ f, f ∈ fs → ∃ y, DataW.trod enc P W 0 sp held fuel f.type ((cs.drop f.offset).take (P.cellsOf f.type)) = some y) → (ns = true → ∀ v, v ∈ cs → zpn v) →
  ∃ a : α, (∀ (j : Nat) d, (e a)[j]? = some d → ∃ v, cs[off + j]? = some v ∧ DR (zUf W) d v ∧ d.sc = true) ∧ good a
theorem z9l (off : Nat) (ns : Bool) : zcn P W [] off ns (fun _ : Unit => []) (fun _ => True) := by
 intro H enc sp held fuel cs _ _
 exact ⟨(), fun j d h => by simp at h, trivial⟩
theorem zTc {f : Field} {fs : List Field} {off z : Nat} {ns : Bool} {α β : Type} {e : α → List D} {e' : β → List D} {good : α → Prop} {good' : β → Prop} (hf : zQc P W f.type ns e good) (ho : f.offset = off) (hz : ∀ a, (e a).length = z) (h : zcn P W fs (off + z) ns e' good') :
  zcn P W (f :: fs) off ns (fun p : α × β => e p.1 ++ e' p.2) (fun p => good p.1 ∧ good' p.2) := by
 intro H enc sp held fuel cs hx hs
 obtain ⟨y, hy⟩ := hx f (by simp)
 obtain ⟨a, h1, h2, h3⟩ := hf _ enc sp held fuel _ y hy (fun hn v hv => hs hn v (List.mem_of_mem_drop (List.mem_of_mem_take hv)))
 obtain ⟨b, k1, k2⟩ := h _ enc sp held fuel cs (fun g hg => hx g (by simp [hg])) hs
 refine ⟨(a, b), fun j d hd => ?_, h3, k2⟩
 simp only at hd
 by_cases hj : j < z
 ·rw [List.getElem?_append_left (by rw [hz]; exact hj)] at hd
  obtain ⟨v, v1, v2⟩ := h2 j d hd
  refine ⟨v, ?_, v2⟩
  rw [List.getElem?_take] at v1
  split at v1
  ·rw [List.getElem?_drop, ho] at v1; exact v1
  ·simp at v1
 ·rw [List.getElem?_append_right (by rw [hz]; omega), hz] at hd
  obtain ⟨v, v1, v2⟩ := k1 _ d hd
  refine ⟨v, ?_, v2⟩
  rw [show off + z + (j - z) = off + j by omega] at v1
  exact v1
theorem zKq {T : TypeId} {ns : Bool} {fs : Array Field} {α : Type} {e : α → List D} {good : α → Prop} (hT : P.underlying T = some (.struct fs)) (hz : ∀ a, (e a).length = P.cellsOf T) (h : zcn P W fs.toList 0 ns e good) : zQc P W T ns e good := by
 intro H enc sp held fuel cs x hx hs
 obtain ⟨xs, n, rfl, _, hl, hn, hf⟩ := DataW.trod_struct hT hx
 obtain ⟨a, h1, h2⟩ := h _ enc sp held n cs (fun f hf' => by
  obtain ⟨i, hi⟩ := List.mem_iff_getElem?.1 hf'
  rw [Array.getElem?_toList] at hi
  have hlt := (Array.getElem?_eq_some_iff.1 hi).1
  exact ⟨xs[i], by rw [hf i f hi]; exact List.getElem?_eq_getElem (by omega)⟩) hs
 exact ⟨a, by rw [hl, hz], fun j d hd => by simpa using h1 j d hd, h2⟩
def zXl (P : Program) (T : TypeId) : Array Field := match P.underlying T with
 | some (.struct fs) => fs
 | _ => #[]
def z7 (P : Program) (T : TypeId) (i : Nat) : Field := ((zXl P T)[i]?).getD default
theorem zrj {T : TypeId} {ns : Bool} {fs : Array Field} {l : List Field} {α : Type} {e : α → List D} {good : α → Prop} (hT : P.underlying T = some (.struct fs)) (hl : fs.toList = l) (hz : ∀ a, (e a).length = P.cellsOf T) (h : zcn P W l 0 ns e good) : zQc P W T ns e good :=
 zKq hT hz (hl ▸ h)
def z8g {α : Type} (good : α → Prop) (s : SL α) : Prop := (∀ a, a ∈ s.1 → good a) ∧ ((s.2 = .nil ∧ s.1 = []) ∨ s.2 = .ro) ∧ s.1.length ≤ maxLen
theorem zQn {α β : Type} : ∀ (l : List β) (p : Nat → β → α → Prop), (∀ (i : Nat) b, l[i]? = some b → ∃ a, p i b a) → ∃ al : List α, al.length = l.length ∧ ∀ (i : Nat) b a, l[i]? = some b → al[i]? = some a → p i b a
 | [], p, _ => ⟨[], rfl, fun i b a h => by simp at h⟩
 | b :: t, p, h => by
  obtain ⟨a, ha⟩ := h 0 b rfl
  obtain ⟨al, h1, h2⟩ := zQn t (fun i => p (i + 1)) fun i b hb => h (i + 1) b (by simpa using hb)
  refine ⟨a :: al, by simp [h1], fun i b' a' hb ha' => ?_⟩
  cases i with
  | zero =>
   simp only [List.getElem?_cons_zero, Option.some.injEq] at hb ha'
   subst hb; subst ha'; exact ha
  | succ i => exact h2 i b' a' (by simpa using hb) (by simpa using ha')
theorem z1i {T U : TypeId} {ns : Bool} {α : Type} {e : α → List D} {good : α → Prop} (hT : P.underlying T = some (.slice U)) (hU : zQc P W U false e good) (hz : ∀ a, (e a).length = P.cellsOf U) (hp : 0 < P.cellsOf U) :
  zQc P W T ns (eL e) (z8g good) := by
 intro H enc sp held fuel cs x hx hs
 have one : ∀ (s : SL α) (v : Value), cs = [v] → DR (zUf W) (.sl (s.1.map e) s.2) v → ∀ (j : Nat) d, (eL e s)[j]? = some d → ∃ v, cs[j]? = some v ∧ DR (zUf W) d v ∧ d.sc = true := by
  intro s v hcs hd j d hj
  cases j with
  | zero => simp only [eL, List.getElem?_cons_zero, Option.some.injEq] at hj; subst hj; exact ⟨v, by rw [hcs]; rfl, hd, rfl⟩
  | succ j => simp [eL] at hj
 rcases DataW.trod_slice hT hx with ⟨rfl, _⟩ | ⟨a, len, cap, elems, rest, n, _, rfl, _, hb, hl, hm, hlen, hel, _, _⟩
 ·exact ⟨([], .nil), rfl, one ([], .nil) _ rfl .nils, fun a h => by simp at h, .inl ⟨rfl, rfl⟩, by simp⟩
 ·obtain ⟨β, o, sp'⟩ := a
  rcases Nat.eq_zero_or_pos len with rfl | hpos
  ·refine ⟨([], .ro), rfl, one ([], .ro) _ rfl ?_, fun a h => by simp at h, .inr rfl, by simp⟩
   exact .sl (es := []) 0 (fun _ _ => undef) (fun h => absurd rfl h) (by simp) (by simp) (by simp) (by simp) (by simp) (by simp) (by simp)
  have hspot : sp' = none := by
   have h0 := hel 0 hpos
   rw [List.getElem?_eq_getElem (by omega)] at h0
   obtain ⟨cs', hc, _⟩ := Option.bind_eq_some_iff.1 h0
   have h3 := (World.cells?_some hc).2.2 0 hp
   have hl0 := (World.cells?_some hc).2.1
   rw [List.getElem?_eq_getElem (by omega)] at h3
   simpa [Addr.add] using World.cell?_spot h3
  subst hspot
  obtain ⟨al, h1, h2⟩ := zQn elems (fun i y a => (∀ (j : Nat) d, (e a)[j]? = some d → ∃ v, W.cell? ⟨β, o + (i * P.cellsOf U + j), none⟩ = some v ∧ DR (zUf W) d v ∧ d.sc = true) ∧ good a) (fun i y hy => by
   have hi : i < len := by rw [← hlen]; exact (List.getElem?_eq_some_iff.1 hy).1
   have := hel i hi
   rw [hy] at this
   obtain ⟨cs', hc, ht⟩ := Option.bind_eq_some_iff.1 this
   obtain ⟨a, a1, a2, a3⟩ := hU _ enc sp held n cs' y ht (fun h => by simp at h)
   refine ⟨a, fun j d hd => ?_, a3⟩
   obtain ⟨v, v1, v2⟩ := a2 j d hd
   refine ⟨v, ?_, v2⟩
   have hj : j < P.cellsOf U := by rw [← hz a]; exact (List.getElem?_eq_some_iff.1 hd).1
   have h3 := (World.cells?_some hc).2.2 j hj
   rw [v1] at h3
   rw [← h3]
   congr 1
   by_cases h0 : i * P.cellsOf U = 0
   ·by_cases hj0 : j = 0
    ·simp [Addr.add, h0, hj0]
    ·simp [Addr.add, h0, hj0]
   ·by_cases hj0 : j = 0
    ·simp [Addr.add, h0, hj0]
    ·simp [Addr.add, h0, hj0, Nat.add_assoc])
  have hal : al.length = len := by rw [h1, hlen]
  refine ⟨(al, .ro), rfl, one (al, .ro) _ rfl ?_, fun x hx => ?_, .inr rfl, by rw [show (al, Cap.ro).1.length = len from hal]; omega⟩
  ·have hsl : DR (zUf W) (.sl (al.map e) .ro) (.slice (some ⟨β, o, none⟩) (al.map e).length cap) := by
    have get : ∀ (i j : Nat) e' d, (al.map e)[i]? = some e' → e'[j]? = some d → ∃ v, W.cell? ⟨β, o + (i * P.cellsOf U + j), none⟩ = some v ∧ DR (zUf W) d v ∧ d.sc = true := by
     intro i j e' d he hd
     rw [List.getElem?_map] at he
     obtain ⟨a, ha, rfl⟩ := Option.map_eq_some_iff.1 he
     have hi : i < elems.length := by rw [← h1]; exact (List.getElem?_eq_some_iff.1 ha).1
     exact (h2 i _ a (List.getElem?_eq_getElem hi) ha).1 j d hd
    refine .sl (P.cellsOf U) (fun i j => ((W.cell? ⟨β, o + (i * P.cellsOf U + j), none⟩).getD undef)) (fun _ => rfl) (by simp) (by simp) (by simp [hal, hl]) (fun e' he => ?_) (fun e' he d hd => ?_) (fun i j e' d he hd => ?_) (fun i j e' d he hd => ?_)
    ·obtain ⟨a, _, rfl⟩ := List.mem_map.1 he; exact hz a
    ·obtain ⟨i, hi⟩ := List.mem_iff_getElem?.1 he
     obtain ⟨j, hj⟩ := List.mem_iff_getElem?.1 hd
     obtain ⟨v, _, _, h⟩ := get i j e' d hi hj
     exact h
    ·obtain ⟨v, hv, _⟩ := get i j e' d he hd
     show W.cell? _ = _
     rw [hv]; rfl
    ·obtain ⟨v, hv, h, _⟩ := get i j e' d he hd
     rw [hv]; exact h
   simpa [hal] using hsl
  ·obtain ⟨i, hi⟩ := List.mem_iff_getElem?.1 hx
   have hlt : i < elems.length := by rw [← h1]; exact (List.getElem?_eq_some_iff.1 hi).1
   exact (h2 i _ x (List.getElem?_eq_getElem hlt) hi).2
theorem zwp {T U : TypeId} {n : Nat} (hT : P.underlying T = some (.array n U)) (hU : P.underlying U = some (.int .i64)) (hc : P.cellsOf U = 1) (ns : Bool) (hl : P.cellsOf T = n) : zQc P W T ns (aI n) (fun f => ∀ k, k < n → -9223372036854775808 ≤ f k ∧ f k ≤ 9223372036854775807) := by
 intro H enc sp held fuel cs x hx _
 obtain ⟨xs, m, rfl, _, h1, h2, h3⟩ := DataW.trod_array hT hx
 have each : ∀ i, i < n → ∃ k : Int, cs[i]? = some (.int .i64 k) ∧ -9223372036854775808 ≤ k ∧ k ≤ 9223372036854775807 := by
  intro i hi
  have := h3 i hi
  rw [List.getElem?_eq_getElem (by omega), hc, Nat.mul_one] at this
  obtain ⟨k, hk, _, hw⟩ := DataW.trod_int hU this
  refine ⟨k, ?_, zRs hw⟩
  have h4 : ((cs.drop i).take 1)[0]? = some (.int .i64 k) := by rw [hk]; rfl
  simpa using h4
 let f : Nat → Int := fun i => match cs[i]? with
  | some (.int _ k) => k
  | _ => 0
 have hf : ∀ i, i < n → cs[i]? = some (.int .i64 (f i)) ∧ -9223372036854775808 ≤ f i ∧ f i ≤ 9223372036854775807 := by
  intro i hi
  obtain ⟨k, hk, hb⟩ := each i hi
  have : f i = k := by simp only [f, hk]
  rw [this]; exact ⟨hk, hb⟩
 refine ⟨f, by rw [h1, hl, zfp], fun j d hd => ?_, fun k hk => (hf k hk).2⟩
 have hj : j < n := by rw [← zfp n f]; exact (List.getElem?_eq_some_iff.1 hd).1
 rw [zvu f hj] at hd
 simp only [Option.some.injEq] at hd
 subst hd
 exact ⟨_, (hf j hj).1, .i _ _, rfl⟩
end
end Go.AM
set_option linter.unusedSimpArgs false
set_option linter.unusedVariables false
namespace Go.AM
open Go Go.RowKit Go.ChangeShapes Go.WideShapes Go.ChangeAt
section
variable {H : Type} {enc : TypeId × Value → H} {P : Program}
theorem zCp {f : Func} {s : ChangeSpec} {apart fresh handsOn again : Bool} {W W' : World} {args : Array Value} {v : Value} {ds gs : List (DataW H)} {before pa pv : List MemPlace}
  (hW : DataW.Whole enc P f.params.toList s.vars apart W args.toList ds gs before)
  (hres : ∀ (b : Nat) (sp : Nat → Bool) (hd : Bool), DataW.TrodAll enc P W' b sp hd f.resultTypes.toList (v.resultList f.resultTypes.size) (s.fn H (ds ++ gs)).results [])
  (hargs : ∀ sp : Nat → Bool, (∀ p ∈ before, sp p.block = true) → DataW.TrodAll enc P W' 0 sp true f.params.toList args.toList (s.fn H (ds ++ gs)).args pa)
  (hvars : ∀ sp : Nat → Bool, (∀ p ∈ before, sp p.block = true) → DataW.TrodVars enc P W' sp s.vars (s.fn H (ds ++ gs)).vars pv)
  (hps : before = pa ++ pv) (hb : Below W.heap.size W W')
  (hok : ∀ (j : Nat) (t : TypeId) (r : Value), f.resultTypes[j]? = some t → (v.resultList f.resultTypes.size)[j]? = some r → Value.okWide P W' .any 0 t r) :
  s.post enc P f apart fresh handsOn again W args v W' := by
 have hlt : ∀ p ∈ before, p.block < W.heap.size := fun p hp => hW.lt p hp
 have hold : ∀ p ∈ before, (fun b => decide (b < W.heap.size)) p.block = true := fun p hp => by simpa using hlt p hp
 refine ⟨ds, gs, before, [], pa, pv, hW, hres _ _ _, hargs _ hold, hvars _ hold, World.keptBut_mono (fun p hp => ⟨hp, ?_⟩) (hb.frame (· ∈ before)), fun _ => ?_⟩
 ·rw [hps, List.mem_append] at hp
  exact Or.inr hp
 ·obtain ⟨_, _, _, _, _, hz, hn⟩ := hW
  refine ⟨hok, _, _, ([] ++ pa) ++ pv, ⟨[] ++ pa, pv, trodAll_append (hargs _ (fun _ _ => rfl)) (hres _ _ _), hvars _ (fun _ _ => rfl), rfl, ?_, ?_⟩, ?_⟩
  ·intro b off hp
   have hin : MemPlace.cell b off ∈ before := by rw [hps]; simpa using hp
   rw [hb.frozen (hlt _ hin)]
   exact hz b off hin
  ·intro ha
   have := hn ha
   rw [hps] at this
   simpa using this
  ·intro p hp _
   rw [hps]
   simpa using hp
end
theorem zYq {P : Program} {W : World} {r : Go.Reach} {base : Nat} {t : TypeId} {v : Value} (h : Cell.okWide P W r base t v) : zpn v := by
 unfold zpn
 split
 ·rename_i a n c
  unfold Cell.okWide at h
  cases hu : P.underlying t with
  | none => simp [hu, Cell.ok] at h
  | some u =>
   cases u <;> simp [hu, Cell.ok] at h
   exact h.2.2.2.1
 ·trivial
theorem z5r {P : Program} {W : World} {r : Go.Reach} {base : Nat} {t : TypeId} {cs : Array Value} (h : Row.okWide P W r base t cs) : ∀ v, v ∈ cs.toList → zpn v := by
 obtain ⟨ts, _, _, h⟩ := h
 intro v hv
 obtain ⟨i, hi⟩ := List.mem_iff_getElem?.1 hv
 obtain ⟨u, _, hu⟩ := h i v (by rwa [Array.getElem?_toList] at hi)
 exact zYq hu
theorem znr {P : Program} {W : World} {H : Type} {enc : TypeId × Value → H} {T : TypeId} {α : Type} {e : α → List D} {good : α → Prop} {ns : Bool} (ho : zQc P W T ns e good) {r : Go.Reach} {base : Nat} {v : Value} {d : DataW H} {ps : List MemPlace} {sp : Nat → Bool} {held : Bool}
  (hT : (match P.underlying T with | some (.struct _) => true | some (.array _ _) => true | _ => false) = true) (hval : Value.okWide P W r base T v) (h : DataW.Trod enc P W 0 sp held T v d ps) : ∃ a, DR (zUf W) (.agg (e a)) v ∧ good a := by
 have hc : ∃ cs, v = .agg cs ∧ cs.size = P.cellsOf T ∧ Row.okWide P W r base T cs := by
  unfold Value.okWide at hval
  split at hval
  ·exact hval
  ·exact hval
  ·rename_i h1 h2
   exfalso
   cases hu : P.underlying T with
   | none => simp [hu] at hT
   | some u => cases u <;> simp [hu] at hT <;> simp_all
 obtain ⟨cs, rfl, _, hrow⟩ := hc
 obtain ⟨fuel, ht⟩ := h
 obtain ⟨a, a1, a2, a3⟩ := ho _ enc sp held fuel cs.toList _ ht (fun _ => z5r hrow)
 refine ⟨a, .agg (by simpa using a1) (fun d hd => ?_) (fun j d hd => ?_), a3⟩
 ·obtain ⟨j, hj⟩ := List.mem_iff_getElem?.1 hd
  obtain ⟨_, _, _, h⟩ := a2 j d hj
  exact h
 ·obtain ⟨v, hv, hd', _⟩ := a2 j d hd
  rw [Array.getElem?_toList] at hv
  rw [Array.getD_eq_getD_getElem?, hv]
  exact hd'
end Go.AM
set_option maxRecDepth 100000
namespace Go.AM
open Go Go.Proofs
def TE_H : Nat → Hint
 | 3 => ⟨some [0, 1, 2, 3, 6, 7, 8, 9, 10, 11, 12, 39, 59], [], [], [], [], [⟨3, [12], [], []⟩]⟩
 | 4 => ⟨some [0, 1, 2, 3, 4, 5, 6, 7, 8, 26, 45], [], [], [], [], []⟩
 | 5 => ⟨some [0, 1, 2, 3, 6, 7, 8, 9, 10, 11, 12, 13, 14, 15, 16, 38, 57], [], [], [], [], []⟩
 | 6 => ⟨some [0, 1, 2, 4, 5, 6, 7, 8, 9, 10, 11, 12, 13, 14, 15, 16, 17, 18, 19, 20, 23, 50, 52, 89, 93, 99, 140, 144, 162, 176, 198], [], [], [], [], [⟨21, [], [], []⟩, ⟨33, [], [], []⟩]⟩
 | 7 => ⟨some [0, 1, 2, 3, 4, 5, 6, 7, 8, 9, 10, 11, 12, 13, 14, 15, 27, 49, 58, 86, 99, 112, 126, 132, 180], [], [], [], [45], [⟨30, [], [], []⟩]⟩
 | 8 => ⟨some [0, 1, 2, 3, 4, 5, 6, 7, 8, 9, 10, 11, 12, 13, 14, 15, 16, 17, 30, 77, 85, 105, 148, 172], [], [], [], [], [⟨14, [7, 8, 9], [], []⟩]⟩
 | 9 => ⟨some [0, 1, 2, 3, 4, 5, 6, 7, 8, 9, 10, 11, 12, 13, 14, 15, 16, 17, 26, 74], [], [], [], [32], [⟨4, [6, 8], [(3, 32)], [(4, [32]), (5, [32])]⟩, ⟨5, [11, 12, 13], [], []⟩]⟩
 | 10 => ⟨some [0, 1, 2, 3, 4, 5, 6, 7, 8, 9, 10, 11, 12, 13, 14, 15, 16, 17, 18, 19, 22, 30, 34, 39, 47, 84, 91, 101, 168], [10, 2000121], [86], [], [77], []⟩
 | 11 => ⟨some [0, 1, 2, 4, 5, 6, 7, 8, 9, 10, 11, 12, 25, 69, 71, 99], [], [], [], [], []⟩
 | 12 => ⟨some [0, 1, 2, 4, 5, 6, 7, 8, 9, 10, 18, 42, 44, 72, 85, 109], [], [], [], [], []⟩
 | 13 => ⟨some [0, 1, 2, 4, 6, 8, 10, 12, 14, 16, 19, 21, 22, 23, 24, 25, 26, 27, 29, 31, 33, 35, 37, 39, 42, 43, 44, 46, 49, 50, 51, 52, 53, 54, 55, 56, 57, 58, 59, 60, 124, 241, 255, 271, 280, 293, 378], [], [], [], [72, 74], [⟨5, [7], [], []⟩, ⟨28, [5, 10], [], []⟩, ⟨35, [5, 10], [], []⟩]⟩
 | 14 => ⟨some [0, 1, 2, 4, 5, 6, 7, 9, 10, 11, 13, 17, 19, 20, 21, 22, 33, 38, 41, 42, 43, 44, 51], [], [], [], [], []⟩
 | 15 => ⟨some [0, 1, 2, 4, 5, 6, 10, 22], [], [], [], [], []⟩
 | 16 => ⟨some [0, 1, 2, 3, 4, 5, 6, 8, 9, 10, 11, 12, 13, 14, 39, 40, 41, 42, 83, 84, 85, 86, 97, 98, 99, 100, 121, 122, 123, 124, 154], [], [], [], [], [⟨1, [7], [], []⟩, ⟨23, [7, 21, 24], [], []⟩]⟩
 | 17 => ⟨some [0, 1, 2, 3, 4, 5, 6, 7, 8, 9, 10, 11, 40, 74, 93, 133, 161, 172], [], [], [], [], [⟨5, [21], [], []⟩, ⟨25, [7], [], []⟩]⟩
 | 18 => ⟨some [0, 1, 2, 4, 5, 6, 7, 11], [], [], [], [], []⟩
 | 19 => ⟨some [0, 1, 2, 4, 5, 6, 10], [], [], [], [], []⟩
 | 20 => ⟨some [0, 1, 2, 3, 4, 5, 9, 13], [], [], [], [], []⟩
 | 21 => ⟨some [0, 1, 2, 3, 4, 8], [], [], [], [], []⟩
 | 22 => ⟨some [0, 1, 2, 3, 4, 5, 6, 7, 8, 9, 10, 11, 12, 13, 14, 15, 69], [], [], [], [], []⟩
 | 23 => ⟨some [0, 1, 2, 3, 4, 5], [], [], [], [], []⟩
 | 24 => ⟨some [0, 1, 2, 3, 4, 5], [], [], [], [], []⟩
 | 25 => ⟨some [0, 1, 2, 3, 4, 5, 6, 7, 11, 16, 17, 26, 30], [], [], [], [], []⟩
 | 26 => ⟨some [0, 1, 2, 3, 4, 5, 6, 7, 14, 22, 32], [], [], [], [], []⟩
 | 27 => ⟨some [0, 1, 4, 5, 6, 18], [], [], [], [], [⟨5, [9], [], []⟩]⟩
 | 28 => ⟨some [0, 1, 2, 3, 4, 5, 6, 7, 8, 12, 15, 19, 20, 21, 25, 26, 27, 33, 59], [5, 7, 1000005], [], [], [], []⟩
 | 29 => ⟨some [0, 1, 2, 3, 4, 5, 6, 7, 8, 12, 20, 30, 60], [], [], [], [], []⟩
 | 30 => ⟨some [0, 1, 2, 3, 6, 7, 8, 9, 30], [], [], [], [], [⟨1, [21], [(20, 8)], [(18, [8])]⟩]⟩
 | 31 => ⟨some [0, 1, 2, 3, 6, 7, 8, 9, 30, 35, 36, 38], [], [], [], [], [⟨1, [15, 20], [], []⟩]⟩
 | 32 => ⟨some [0, 1, 2, 3, 4, 5, 6, 7, 8, 9, 10, 17, 21, 22, 23, 27, 33, 40], [6, 9], [], [], [], []⟩
 | 33 => ⟨some [0, 1, 2, 3, 4, 5, 6, 7, 8, 9, 10, 17, 23, 29, 35, 44], [6, 7, 9, 2000055], [], [], [], []⟩
 | 34 => ⟨some [0, 1, 4, 5, 6, 18], [], [], [], [], [⟨5, [8, 9], [], []⟩]⟩
 | 35 => ⟨some [0, 1, 2, 3, 4, 5, 6, 7, 8, 9, 10, 11, 18, 22, 29, 30, 31, 39, 57], [], [], [], [], [⟨6, [6], [(5, 6)], [(1, [6]), (2, [6]), (3, [6])]⟩, ⟨18, [5, 6], [], []⟩]⟩
 | 36 => ⟨some [0, 1, 2, 3, 4, 5, 6, 7, 8, 9, 10, 11, 12, 13, 20, 24, 32, 41, 56], [], [], [], [], []⟩
 | 37 => ⟨some [0, 1, 2, 3, 4, 5, 6, 7, 8, 42, 65, 84, 116], [], [], [], [], [⟨5, [10], [], []⟩, ⟨18, [10, 22, 24], [], []⟩]⟩
 | 38 => ⟨some [0, 1, 2, 4, 5, 6, 7, 8, 9, 10, 11, 12, 13, 18, 30, 54, 72, 78, 103, 108], [6, 7], [], [], [], [⟨10, [], [], []⟩, ⟨12, [11], [], []⟩, ⟨25, [36], [], []⟩]⟩
 | 39 => ⟨some [0, 1, 2, 4, 5, 6, 7, 8, 14, 18, 39, 62, 97], [], [], [], [], [⟨8, [5, 16], [], []⟩, ⟨11, [13], [], []⟩, ⟨15, [], [], []⟩]⟩
 | 40 => ⟨some [0, 1, 2, 6], [], [], [], [], []⟩
 | 41 => ⟨some [0, 2, 3, 4, 8], [], [], [], [], []⟩
 | 42 => ⟨some [0, 1, 4, 5, 6, 10, 26], [], [], [], [], []⟩
 | 43 => ⟨some [0, 1, 2, 3, 6, 7, 12, 23], [], [], [], [], []⟩
 | 44 => ⟨some [0, 1, 2, 3, 6, 7], [], [], [], [12], []⟩
 | 45 => ⟨some [0, 1, 4, 5, 7, 12], [], [], [], [], []⟩
 | 46 => ⟨some [0, 1, 4], [], [], [], [], []⟩
 | 47 => ⟨some [0, 1, 4, 5, 15, 26], [], [], [], [], [⟨4, [], [], []⟩, ⟨5, [9], [], []⟩]⟩
 | 48 => ⟨some [0, 1, 2, 4, 5, 6, 7, 8, 9, 10, 18, 24, 43, 67], [6], [12, 13], [], [], [⟨8, [14, 15], [], []⟩, ⟨12, [15, 16, 17], [], []⟩]⟩
 | 49 => ⟨some [0, 1, 4, 5, 6, 9, 14], [5], [], [], [], []⟩
 | 50 => ⟨some [0, 2, 3], [], [], [], [9], []⟩
 | 51 => ⟨some [0, 1, 2, 6], [], [], [], [], []⟩
 | 52 => ⟨some [0, 1, 2, 3, 5, 10, 11, 12, 13], [], [], [], [], []⟩
 | 53 => ⟨some [0, 1, 2, 3, 4, 6, 8, 11, 12, 13, 14, 21], [], [], [], [], [⟨1, [], [], []⟩]⟩
 | 54 => ⟨some [0, 1, 2, 4, 5, 6, 7, 8, 9, 14, 37, 39, 64, 69, 91], [], [], [], [], [⟨5, [9], [], []⟩, ⟨10, [10], [], []⟩, ⟨11, [], [], []⟩]⟩
 | 55 => ⟨some [0, 1, 3, 4], [], [], [], [], []⟩
 | 56 => ⟨some [0, 1, 2, 3, 6], [], [], [], [], []⟩
 | 57 => ⟨some [0, 1, 2, 4, 5, 6, 7, 14, 15, 16, 17, 18, 51], [], [], [], [], [⟨7, [8, 15, 24], [], []⟩]⟩
 | 58 => ⟨some [0, 1, 2, 4, 5, 6, 7, 8, 9, 15, 19, 28, 34, 39, 47, 51, 56, 91], [], [], [], [], [⟨14, [4], [], []⟩, ⟨22, [], [], []⟩]⟩
 | 59 => ⟨some [0, 1, 2], [], [], [], [], []⟩
 | 60 => ⟨some [0, 1, 2, 3, 4, 5, 6, 7, 8, 9, 15, 21, 30, 46, 54], [5, 8], [], [], [], [⟨18, [5], [], []⟩]⟩
 | 61 => ⟨some [0, 2, 3, 5, 6, 7, 8, 9], [], [], [], [], []⟩
 | 62 => ⟨some [0, 2, 3, 4, 8], [], [], [], [], []⟩
 | 63 => ⟨some [0], [], [], [], [], []⟩
 | 64 => ⟨some [0, 2, 4], [], [], [], [7], []⟩
 | 65 => ⟨some [0, 1, 2, 4, 5, 6, 7, 11, 14, 19], [], [], [], [], []⟩
 | 66 => ⟨some [0, 1, 2, 5], [], [], [], [], []⟩
 | 67 => ⟨some [0, 2, 3, 5, 6, 7, 8, 9, 14], [], [], [], [], []⟩
 | 68 => ⟨some [0, 1, 4, 5, 6, 11, 12, 13, 16, 19], [], [], [], [], []⟩
 | 69 => ⟨some [0, 1, 4, 5, 6, 7, 8, 9, 10, 11, 12, 19, 28, 35], [], [], [], [], []⟩
 | 70 => ⟨some [0, 1, 2, 4, 5, 6, 7, 8, 10, 11, 12, 13, 14, 20, 21, 22, 23, 30, 44, 45, 46, 47, 67], [], [16, 17], [], [], []⟩
 | 71 => ⟨some [0, 1, 2, 4, 5, 6, 7, 8, 9, 10, 18, 24, 43, 67], [6], [12, 13], [], [], [⟨8, [14, 15], [], []⟩, ⟨12, [15, 16, 17], [], []⟩]⟩
 | 72 => ⟨some [0, 1, 2, 4, 5, 6, 7, 11, 15, 22], [], [], [], [], []⟩
 | 73 => ⟨some [0, 1, 2, 3, 6, 12, 13, 17], [], [], [], [], []⟩
 | 74 => ⟨some [0, 1, 2, 6, 7, 8, 12, 29], [], [], [], [], [⟨5, [], [], []⟩]⟩
 | 75 => ⟨some [0, 1, 4, 5, 9, 17], [], [], [], [], []⟩
 | 76 => ⟨some [0, 1, 4, 6, 7, 8, 9, 10], [], [], [], [], []⟩
 | 77 => ⟨some [0, 1, 4, 7], [], [], [], [], []⟩
 | 78 => ⟨some [0, 1, 2, 3, 6, 7, 8, 9, 10, 11, 14, 35, 53, 99], [], [], [], [], [⟨3, [18], [(17, 7)], [(10, [7]), (11, [7]), (12, [7]), (13, [7]), (14, [7])]⟩, ⟨8, [10, 11], [], []⟩, ⟨12, [], [], []⟩, ⟨14, [28], [], []⟩]⟩
 | 79 => ⟨some [0, 1, 4], [], [], [], [7], []⟩
 | 80 => ⟨some [0, 1, 4], [], [], [], [], []⟩
 | 81 => ⟨some [0, 1, 2, 3, 4, 10], [], [], [], [], []⟩
 | 82 => ⟨some [0, 1], [], [], [], [], []⟩
 | 83 => ⟨some [0, 1, 2, 3, 4], [], [], [], [], []⟩
 | 84 => ⟨some [0, 1, 3, 4, 5, 7, 8, 9, 16], [], [], [], [], [⟨4, [], [], []⟩]⟩
 | 85 => ⟨some [0, 1, 2, 3, 4, 8, 9, 10, 11, 12, 13, 14, 15, 49], [], [], [], [], [⟨4, [25], [], []⟩]⟩
 | 86 => ⟨some [0, 1, 4, 5, 6, 7, 8, 9, 10, 11], [], [], [], [], []⟩
 | 87 => ⟨some [0, 1, 4, 5, 6, 10, 18], [5], [], [], [], []⟩
 | 88 => ⟨some [0, 1, 2, 3], [], [], [], [], []⟩
 | 89 => ⟨some [0, 1, 2, 3, 5, 6, 7, 15, 25, 26, 27, 43, 53], [], [], [], [], [⟨4, [], [], []⟩, ⟨7, [4, 12], [], []⟩, ⟨8, [8], [], []⟩]⟩
 | 90 => ⟨some [0, 1, 4], [], [], [], [], []⟩
 | 91 => ⟨some [0, 2], [], [], [], [], []⟩
 | 92 => ⟨some [0, 1, 4], [], [], [], [], []⟩
 | 93 => ⟨some [0, 1, 2, 3, 4, 5, 6, 10, 11, 17, 18, 19, 22, 23, 24, 34], [], [], [], [], [⟨11, [], [], []⟩, ⟨12, [9], [(7, 5000007)], []⟩]⟩
 | 94 => ⟨some [0, 1, 4, 5, 7, 8, 9, 16], [], [], [], [], []⟩
 | 110 => ⟨some [0, 1, 2, 3, 4, 5, 6, 7, 8, 11], [3], [], [], [], []⟩
 | 112 => ⟨some [0, 1, 2, 3, 4, 6, 7, 9, 10, 19, 20, 21, 22], [], [], [], [], [⟨6, [13, 16], [], []⟩]⟩
 | 113 => ⟨some [0, 1, 2, 3, 4, 6, 7, 8], [], [], [], [], [⟨1, [17], [(16, 7)], [(8, [7]), (9, [7]), (10, [7]), (11, [7]), (12, [7]), (13, [7])]⟩, ⟨2, [17], [], []⟩]⟩
 | 114 => ⟨some [0, 1, 3, 4, 6], [], [], [], [], [⟨1, [10], [], []⟩]⟩
 | 115 => ⟨some [0, 1, 2, 3, 4, 6, 8, 10, 11, 12, 13, 21], [], [], [], [], []⟩
 | 116 => ⟨some [0, 1, 3, 4, 5], [], [], [], [], []⟩
 | _ => .nil
def TE_G : Nat → Option (List D)
 | 0 => some [(.fn 112 [] []), (.fn 113 [] []), (.fn 114 [] []), (.fn 115 [] [])]
 | _ => none
def TE_F : List Nat := [3, 4, 5, 6, 7, 8, 9, 10, 11, 12, 13, 14, 15, 16, 17, 18, 19, 20, 21, 22, 23, 24, 25, 26, 27, 28, 29, 30, 31, 32, 33, 34, 35, 36, 37, 38, 39, 40, 41, 42, 43, 44, 45, 46, 47, 48, 49, 50, 51, 52, 53, 54, 55, 56, 57, 58, 59, 60, 61, 62, 63, 64, 65, 66, 67, 68, 69, 70, 71, 72, 73, 74, 75, 76, 77, 78, 79, 80, 81, 82, 83, 84, 85, 86, 87, 88, 89, 90, 91, 92, 93, 94, 110, 112, 113, 114, 115, 116]
noncomputable def TE : Env := ⟨Tryd.prog, TE_G, TE_H, TE_F⟩
end Go.AM
set_option linter.unusedVariables false
set_option maxRecDepth 100000
namespace Go.AM
open Go
structure zOb where
 Low : Int
 High : Int
def zMe (x : zOb) : List D := eI x.Low ++ eI x.High
structure zi where
 Day : Int
 Place : Int
 Born : zOb
 Dead : Bool
 Account : Int
def zb (x : zi) : List D := eI x.Day ++ eI x.Place ++ zMe x.Born ++ eB x.Dead ++ eI x.Account
structure za where
 Letters : (SL zi)
 Far : (SL (SL Int))
 Apart : (SL (Nat → Int))
 Most : Int
def zd (x : za) : List D := (eL zb) x.Letters ++ (eL (eL eI)) x.Far ++ (eL (aI 2)) x.Apart ++ eI x.Most
structure zm where
 one : Int
 other : Int
def zh (x : zm) : List D := eI x.one ++ eI x.other
structure zj where
 NamesakeBook : za
 apart : (List (zm × Bool))
def zn (x : zj) : List D := zd x.NamesakeBook ++ (eM (fun k => D.agg (zh k)) (fun b => D.b b)) x.apart
structure zob where
 many : Int
 same : (List (zm × Int))
def zx (a b : zm) : Bool := ((a.one == b.one) && ((a.other == b.other) && true))
def zrc (a b : Int) : Bool := (a == b)
abbrev zt0 := ((SL zi) × (SL (SL Int)) × (SL (Nat → Int)) × Int × (List (zm × Bool)))
abbrev zt1 := (Int × Int)
abbrev zt2 := (Bool × Int)
abbrev zt3 := (Nat → Bool)
abbrev zt4 := (Nat → Int)
abbrev zt5 := (zob × Int)
abbrev zt6 := (Bool × Int × Int)
abbrev zt7 := ((List (zm × Int)) → Int → (SL Int) → Option ((List (zm × Int)) × Int))
abbrev zt8 := ((SL Int) → (SL Int) → Option (SL Int))
abbrev zt9 := (List (zm × Int))
abbrev zt10 := (List (SL Int))
abbrev zt11 := (Int → (SL Int) → Option Int)
abbrev zt12 := (Int × (List zi) × (List (Int × Int)))
def zT (k : Nat) (p0 p1 p2 : Int) : Option Bool :=
 cond (decide (p1 ≤ p0)) (
 some (decide (p0 ≤ p2))) (
 some false)
def zmh (r : Bool) : D := (db r)
def zXb (k : Nat) (p0 : (SL (Nat → Int))) (p1 : zt4) (s1_4 : Int) : Option (Int ⊕ (Int ⊕ Int)) :=
 cond (decide (s1_4 < (p0.1.length : Int))) (
 (idx p0.1 s1_4).bind fun v202 =>
 cond (eqI p1 v202 0 2) (
 some (Sum.inr (Sum.inl s1_4))) (
 some (Sum.inl (w64 (s1_4 + 1))))) (
 some (Sum.inr (Sum.inr s1_4)))
def zid (k : Nat) (p0 : (SL (Nat → Int))) (p1 : zt4) : Option Int :=
 (iter (fun s => zXb k p0 p1 s) k 0).bind fun v1 =>
 Sum.elim (fun v4 =>
 some v4) (fun w1_0 =>
 (fun v4 =>
 some (-1)) w1_0) v1
def zae (r : Int) : D := (di r)
def zWb (k : Nat) (p0 : (SL (Nat → Int))) (p1 : zt4) : Option Bool :=
 (zid k p0 p1).bind fun v1 =>
 some (decide (v1 ≥ 0))
def zxf (r : Bool) : D := (db r)
def zoe (k : Nat) (p0 : za) : Option Bool :=
 (zT k (p0.Letters.1.length : Int) 1 8).bind fun v201 =>
 cond v201 (
 (zT k (p0.Far.1.length : Int) 1 6).bind fun v204 =>
 cond v204 (
 cond (decide ((p0.Apart.1.length : Int) ≤ 8)) (
 (zT k p0.Most 1 8).bind fun v208 =>
 some v208) (
 some false)) (
 some false)) (
 some false)
def zzf (k : Nat) (p0 : za) (s2_7 : Bool) (s2_8 s2_11 : Int) (v402 : zi) : Option Bool :=
 cond s2_7 (
 (zT k v402.Day s2_8 20000).bind fun v502 =>
 cond v502 (
 (zT k v402.Place 0 (w64 ((p0.Far.1.length : Int) - 1))).bind fun v505 =>
 cond v505 (
 (zT k v402.Born.Low 0 v402.Born.High).bind fun v508 =>
 cond v508 (
 cond (decide (v402.Born.High ≤ 200)) (
 (zT k v402.Account 0 1000).bind fun v512 =>
 some v512) (
 some false)) (
 some false)) (
 some false)) (
 some false)) (
 some false)
def zpd (k : Nat) (p0 : za) (s2_7 : Bool) (s2_8 s2_11 : Int) : Option ((Bool × Int × Int) ⊕ (Bool × Int × Int)) :=
 cond (decide (s2_11 < (p0.Letters.1.length : Int))) (
 (idx p0.Letters.1 s2_11).bind fun v402 =>
 (zzf k p0 s2_7 s2_8 s2_11 v402).bind fun v404 =>
 some (Sum.inl (v404, v402.Day, (w64 (s2_11 + 1))))) (
 some (Sum.inr (s2_7, s2_8, s2_11)))
def zjf (k : Nat) (p0 : za) (v3 : zt6) (s5_7 : Bool) (s5_15 : Int) (v1002 : (SL Int)) : Option Bool :=
 cond s5_7 (
 some ((v1002.1.length : Int) == (p0.Far.1.length : Int))) (
 some false)
def zbf (k : Nat) (p0 : za) (v3 : zt6) (s5_15 : Int) (v1002 : (SL Int)) (s11_7 : Bool) (s11_21 v1302 : Int) : Option Bool :=
 cond s11_7 (
 (zT k v1302 0 400).bind fun v1402 =>
 cond v1402 (
 cond (s5_15 != s11_21) (
 some true) (
 some (v1302 == 0))) (
 some false)) (
 some false)
def z0d (k : Nat) (p0 : za) (v3 : zt6) (s5_15 : Int) (v1002 : (SL Int)) (s11_7 : Bool) (s11_21 : Int) : Option ((Bool × Int) ⊕ (Bool × Int)) :=
 cond (decide (s11_21 < (v1002.1.length : Int))) (
 (idx v1002.1 s11_21).bind fun v1302 =>
 (zbf k p0 v3 s5_15 v1002 s11_7 s11_21 v1302).bind fun v1304 =>
 some (Sum.inl (v1304, (w64 (s11_21 + 1))))) (
 some (Sum.inr (s11_7, s11_21)))
def znd (k : Nat) (p0 : za) (v3 : zt6) (s5_7 : Bool) (s5_15 : Int) : Option ((Bool × Int) ⊕ (Bool × Int)) :=
 cond (decide (s5_15 < (p0.Far.1.length : Int))) (
 (idx p0.Far.1 s5_15).bind fun v1002 =>
 (zjf k p0 v3 s5_7 s5_15 v1002).bind fun v1004 =>
 (iter (fun s => z0d k p0 v3 s5_15 v1002 s.1 s.2) k (v1004, 0)).bind fun v1006 =>
 some (Sum.inl (v1006.1, (w64 (s5_15 + 1))))) (
 some (Sum.inr (s5_7, s5_15)))
def zhf (k : Nat) (p0 : za) (v3 : zt6) (v5 : zt2) (s14_7 : Bool) (s14_19 : Int) (v1602 : zt4) : Option Bool :=
 cond s14_7 (
 (zT k (v1602 0) 0 (w64 ((v1602 1) - 1))).bind fun v1702 =>
 cond v1702 (
 cond (decide ((v1602 1) < (p0.Letters.1.length : Int))) (
 cond (decide (0 ≤ s14_19) && decide (s14_19 ≤ (p0.Apart.1.length : Int))) (
 (zWb k ((p0.Apart.1.take s14_19.toNat), (pcap p0.Apart.2 (s14_19 == (p0.Apart.1.length : Int)))) v1602).bind fun v1707 =>
 some (!v1707)) none) (
 some false)) (
 some false)) (
 some false)
def z0c (k : Nat) (p0 : za) (v3 : zt6) (v5 : zt2) (s14_7 : Bool) (s14_19 : Int) : Option ((Bool × Int) ⊕ (Bool × Int)) :=
 cond (decide (s14_19 < (p0.Apart.1.length : Int))) (
 (idx p0.Apart.1 s14_19).bind fun v1602 =>
 (zhf k p0 v3 v5 s14_7 s14_19 v1602).bind fun v1604 =>
 some (Sum.inl (v1604, (w64 (s14_19 + 1))))) (
 some (Sum.inr (s14_7, s14_19)))
def zTb (k : Nat) (p0 : za) : Option Int :=
 (zoe k p0).bind fun v1 =>
 (iter (fun s => zpd k p0 s.1 s.2.1 s.2.2) k (v1, 0, 0)).bind fun v3 =>
 (iter (fun s => znd k p0 v3 s.1 s.2) k (v3.1, 0)).bind fun v5 =>
 (iter (fun s => z0c k p0 v3 v5 s.1 s.2) k (v5.1, 0)).bind fun v7 =>
 cond (!v7.1) (
 some 80) (
 some 0)
def zMh (r : Int) : D := (di r)
def zY (k : Nat) (p0 p1 p2 : Int) : Option Bool :=
 cond (decide (p1 ≤ p0)) (
 some (decide (p0 ≤ p2))) (
 some false)
def zNf (r : Bool) : D := (db r)
def zjd (k : Nat) (p0 : zOb) (p1 p2 : Int) : Option Bool :=
 cond (decide (p1 ≤ p0.Low)) (
 cond (decide (p0.Low ≤ p0.High)) (
 some (decide (p0.High ≤ p2))) (
 some false)) (
 some false)
def zLd (r : Bool) : D := (db r)
def zNd (k : Nat) (p0 : za) : Option Bool :=
 (zTb k p0).bind fun v201 =>
 cond (v201 == 0) (
 (zY k (p0.Letters.1.length : Int) 1 8).bind fun v204 =>
 cond v204 (
 (zY k (p0.Far.1.length : Int) 1 6).bind fun v207 =>
 cond v207 (
 cond (decide ((p0.Apart.1.length : Int) ≤ 8)) (
 (zY k p0.Most 1 8).bind fun v211 =>
 some v211) (
 some false)) (
 some false)) (
 some false)) (
 some false)
def zdc (k : Nat) (p0 : za) (s2_5 : Bool) (s2_6 : Int) : Option Bool :=
 cond s2_5 (
 some (decide (s2_6 < (p0.Far.1.length : Int)))) (
 some false)
def z2b (k : Nat) (p0 : za) (s2_6 : Int) (s8_5 : Bool) (s8_8 : Int) : Option Bool :=
 cond s8_5 (
 (idx p0.Far.1 s2_6).bind fun v1102 =>
 some (decide (s8_8 < (v1102.1.length : Int)))) (
 some false)
def zfc (k : Nat) (p0 : za) (s2_6 : Int) (s8_5 : Bool) (s8_8 : Int) : Option ((Bool × Int) ⊕ (Bool × Int)) :=
 (z2b k p0 s2_6 s8_5 s8_8).bind fun v1001 =>
 cond v1001 (
 (idx p0.Far.1 s2_6).bind fun v1004 =>
 (idx v1004.1 s8_8).bind fun v1006 =>
 (zY k v1006 0 400).bind fun v1008 =>
 some (Sum.inl (v1008, (w64 (s8_8 + 1))))) (
 some (Sum.inr (s8_5, s8_8)))
def zgc (k : Nat) (p0 : za) (s2_5 : Bool) (s2_6 : Int) : Option ((Bool × Int) ⊕ (Bool × Int)) :=
 (zdc k p0 s2_5 s2_6).bind fun v701 =>
 cond v701 (
 (idx p0.Far.1 s2_6).bind fun v704 =>
 (iter (fun s => zfc k p0 s2_6 s.1 s.2) k (((v704.1.length : Int) == (p0.Far.1.length : Int)), 0)).bind fun v706 =>
 some (Sum.inl (v706.1, (w64 (s2_6 + 1))))) (
 some (Sum.inr (s2_5, s2_6)))
def z4b (k : Nat) (p0 : za) (v3 : zt2) (s11_5 : Bool) (s11_8 : Int) : Option Bool :=
 cond s11_5 (
 some (decide (s11_8 < (p0.Letters.1.length : Int)))) (
 some false)
def zrd (k : Nat) (p0 : za) (v3 : zt2) (s11_5 : Bool) (s11_8 : Int) (v1404 : zi) : Option Bool :=
 (zY k v1404.Day 0 20000).bind fun v1601 =>
 cond v1601 (
 (zY k v1404.Place 0 (w64 ((p0.Far.1.length : Int) - 1))).bind fun v1604 =>
 cond v1604 (
 (zjd k v1404.Born 0 200).bind fun v1607 =>
 some v1607) (
 some false)) (
 some false)
def zYb (k : Nat) (p0 : za) (v3 : zt2) (s11_5 : Bool) (s11_8 : Int) : Option ((Bool × Int) ⊕ (Bool × Int)) :=
 (z4b k p0 v3 s11_5 s11_8).bind fun v1401 =>
 cond v1401 (
 (idx p0.Letters.1 s11_8).bind fun v1404 =>
 (zrd k p0 v3 s11_5 s11_8 v1404).bind fun v1406 =>
 some (Sum.inl (v1406, (w64 (s11_8 + 1))))) (
 some (Sum.inr (s11_5, s11_8)))
def zZb (k : Nat) (p0 : za) (v3 v5 : zt2) (s16_5 : Bool) (s16_10 : Int) : Option Bool :=
 cond s16_5 (
 some (decide (s16_10 < (p0.Apart.1.length : Int)))) (
 some false)
def ztd (k : Nat) (p0 : za) (v3 v5 : zt2) (s16_5 : Bool) (s16_10 : Int) : Option Bool :=
 (idx p0.Apart.1 s16_10).bind fun v2101 =>
 (zY k (v2101 0) 0 (w64 ((p0.Letters.1.length : Int) - 1))).bind fun v2103 =>
 cond v2103 (
 (idx p0.Apart.1 s16_10).bind fun v2106 =>
 (zY k (v2106 1) 0 (w64 ((p0.Letters.1.length : Int) - 1))).bind fun v2108 =>
 some v2108) (
 some false)
def z1b (k : Nat) (p0 : za) (v3 v5 : zt2) (s16_5 : Bool) (s16_10 : Int) : Option ((Bool × Int) ⊕ (Bool × Int)) :=
 (zZb k p0 v3 v5 s16_5 s16_10).bind fun v1901 =>
 cond v1901 (
 (ztd k p0 v3 v5 s16_5 s16_10).bind fun v1904 =>
 some (Sum.inl (v1904, (w64 (s16_10 + 1))))) (
 some (Sum.inr (s16_5, s16_10)))
def zwd (k : Nat) (p0 : za) : Option Bool :=
 (zNd k p0).bind fun v1 =>
 (iter (fun s => zgc k p0 s.1 s.2) k (v1, 0)).bind fun v3 =>
 (iter (fun s => zYb k p0 v3 s.1 s.2) k (v3.1, 0)).bind fun v5 =>
 (iter (fun s => z1b k p0 v3 v5 s.1 s.2) k (v5.1, 0)).bind fun v7 =>
 some v7.1
def z6h (r : Bool) : D := (db r)
def zOe (k : Nat) (p0 p1 : Int) : Option zOb :=
 some (⟨p0, p1⟩ : zOb)
def znj (r : zOb) : D := (.agg [(di r.Low), (di r.High)])
def z8b (k : Nat) (p0 p1 p2 p3 p4 : Int) : Option zi :=
 (zOe k p2 p3).bind fun v1 =>
 some (⟨p0, p1, v1, false, p4⟩ : zi)
def zrh (r : zi) : D := (.agg (zb r))
def zdb (k : Nat) (p0 : Int) : Option za :=
 (z8b k 10 0 50 60 7).bind fun v1 =>
 (z8b k 12 1 40 55 0).bind fun v3 =>
 (z8b k 20 0 56 70 0).bind fun v5 =>
 (z8b k 30 1 50 58 7).bind fun v7 =>
 (z8b k 40 0 30 45 0).bind fun v9 =>
 (idx ([v1, v3, v5, v7, v9] : List zi) 4).bind fun v11 =>
 some (⟨((([v1, v3, v5, v7, v9] : List zi).set (4 : Int).toNat (⟨v11.Day, v11.Place, v11.Born, true, v11.Account⟩ : zi)), (rcap false (([v1, v3, v5, v7, v9] : List zi).set (4 : Int).toNat (⟨v11.Day, v11.Place, v11.Born, true, v11.Account⟩ : zi)))), ([([0, 5], .ex), ([5, 0], .ex)], .ex), ([], Cap.nil), p0⟩ : za)
def zfi (r : za) : D := (.agg (zd r))
def zWd (k : Nat) (p0 : za) (s1_6 : Int) (s1_16 : (List (zm × Bool))) : Option ((Int × (List (zm × Bool))) ⊕ (Int × (List (zm × Bool)))) :=
 cond (decide (s1_6 < (p0.Apart.1.length : Int))) (
 (idx p0.Apart.1 s1_6).bind fun v202 =>
 some (Sum.inl ((w64 (s1_6 + 1)), (mset zx (⟨(v202 0), (v202 1)⟩ : zm) true s1_16)))) (
 some (Sum.inr (s1_6, s1_16)))
def zVb (k : Nat) (p0 : za) : Option zj :=
 (iter (fun s => zWd k p0 s.1 s.2) k (0, [])).bind fun v1 =>
 some (⟨p0, v1.2⟩ : zj)
def zHj (r : zj) : D := (.agg (zn r))
def zDg (k : Nat) : Option (Nat → Bool) :=
 some (fun _ => false)
def zEj (r : zt3) : D := (.agg (aB 8 r))
def zwc (k : Nat) (p0 : zt3) (s1_3 : Int) (s1_5 : (List Int)) : Option ((Int × (List Int)) ⊕ (Int × (List Int))) :=
 cond (decide (s1_3 < 8)) (
 cond (decide (0 ≤ s1_3) && decide (s1_3 < 8)) (
 cond (p0 s1_3.toNat) (
 cond (decide (s1_5.length + 1 ≤ LIM)) (
 some (Sum.inl ((w64 (s1_3 + 1)), (s1_5 ++ [s1_3])))) none) (
 some (Sum.inl ((w64 (s1_3 + 1)), s1_5)))) none) (
 some (Sum.inr (s1_3, s1_5)))
def zSb (k : Nat) (p0 : zt3) : Option (SL Int) :=
 (iter (fun s => zwc k p0 s.1 s.2) k (0, ([] : List Int))).bind fun v1 =>
 some (v1.2, (rcap true v1.2))
def zkh (r : (SL Int)) : D := (dl eI r.1 r.2)
def zqb (k : Nat) (p1 : (SL Int)) (s1_0 s1_5 : Int) : Option ((Int × Int) ⊕ (Int × Int)) :=
 cond (decide (s1_5 < (p1.1.length : Int))) (
 (idx p1.1 s1_5).bind fun v202 =>
 some (Sum.inl ((if v202 > s1_0 then v202 else s1_0), (w64 (s1_5 + 1))))) (
 some (Sum.inr (s1_0, s1_5)))
def zyb (k : Nat) (p0 : Int) (p1 : (SL Int)) : Option Int :=
 (iter (fun s => zqb k p1 s.1 s.2) k (p0, 0)).bind fun v1 =>
 some v1.1
def zjh (r : Int) : D := (di r)
def z6c (k : Nat) (p0 : zj) (p1 : zt3) (p2 : Int) (v3 : (SL Int)) (s1_10 s1_17 s1_18 : Int) : Option ((Int × Int × Int) ⊕ (Int × Int × Int)) :=
 cond (decide (s1_10 < (v3.1.length : Int))) (
 (idx v3.1 s1_10).bind fun v202 =>
 (idx p0.NamesakeBook.Letters.1 v202).bind fun v204 =>
 (zyb k s1_17 ([v204.Born.Low], .ex)).bind fun v206 =>
 (zyb k (w64 (0 - s1_18)) ([(w64 (0 - v204.Born.High))], .ex)).bind fun v208 =>
 some (Sum.inl ((w64 (s1_10 + 1)), v206, (w64 (0 - v208))))) (
 some (Sum.inr (s1_10, s1_17, s1_18)))
def zRd (k : Nat) (p0 : zj) (p1 : zt3) (p2 : Int) : Option Bool :=
 (idx p0.NamesakeBook.Letters.1 p2).bind fun v1 =>
 (zSb k p1).bind fun v3 =>
 (iter (fun s => z6c k p0 p1 p2 v3 s.1 s.2.1 s.2.2) k (0, v1.Born.Low, v1.Born.High)).bind fun v5 =>
 some (decide (v5.2.1 ≤ v5.2.2))
def z9h (r : Bool) : D := (db r)
def z5c (k : Nat) (p0 : zj) (p1 : zt3) : Option Int :=
 (zSb k p1).bind fun v1 =>
 (idx v1.1 (w64 ((v1.1.length : Int) - 1))).bind fun v3 =>
 some v3
def zui (r : Int) : D := (di r)
def zne (k : Nat) (p0 : zj) (p1 : zt3) (p2 : Int) : Option Bool :=
 (z5c k p0 p1).bind fun v1 =>
 (idx p0.NamesakeBook.Letters.1 v1).bind fun v3 =>
 (idx p0.NamesakeBook.Letters.1 p2).bind fun v5 =>
 (idx p0.NamesakeBook.Far.1 v3.Place).bind fun v7 =>
 (idx v7.1 v5.Place).bind fun v9 =>
 some (decide ((w64 (v5.Day - v3.Day)) ≥ v9))
def zKi (r : Bool) : D := (db r)
def zFd (k : Nat) (p0 : zj) (p1 : zt3) (p2 : Int) : Option Bool :=
 (z5c k p0 p1).bind fun v1 =>
 (idx p0.NamesakeBook.Letters.1 v1).bind fun v3 =>
 some (!v3.Dead)
def z1h (r : Bool) : D := (db r)
def zWc (k : Nat) (p0 : zj) (p1 : zt3) (p2 : Int) (v1 : (SL Int)) (s1_10 : Int) : Option (Int ⊕ ((Int × Int) ⊕ Int)) :=
 cond (decide (s1_10 < (v1.1.length : Int))) (
 (idx v1.1 s1_10).bind fun v202 =>
 cond ((zP zx (⟨v202, p2⟩ : zm) p0.apart).getD false) (
 some (Sum.inr (Sum.inl (s1_10, v202)))) (
 some (Sum.inl (w64 (s1_10 + 1))))) (
 some (Sum.inr (Sum.inr s1_10)))
def zBd (k : Nat) (p0 : zj) (p1 : zt3) (p2 : Int) : Option Bool :=
 (zSb k p1).bind fun v1 =>
 (iter (fun s => zWc k p0 p1 p2 v1 s) k 0).bind fun v3 =>
 Sum.elim (fun v6 =>
 some false) (fun w2_0 =>
 (fun v6 =>
 some true) w2_0) v3
def zOf (r : Bool) : D := (db r)
def zze (k : Nat) (p0 : zj) (p1 : zt3) (p2 s1_9 : Int) : Option (Int ⊕ (Int ⊕ (Int ⊕ (Int ⊕ (Int ⊕ Int))))) :=
 cond (decide (s1_9 < 4)) (
 cond (s1_9 == 0) (
 (zRd k p0 p1 p2).bind fun v203 =>
 cond (!v203) (
 some (Sum.inr (Sum.inl s1_9))) (
 some (Sum.inl (w64 (s1_9 + 1))))) (
 cond (s1_9 == 1) (
 (zne k p0 p1 p2).bind fun v204 =>
 cond (!v204) (
 some (Sum.inr (Sum.inr (Sum.inl s1_9)))) (
 some (Sum.inl (w64 (s1_9 + 1))))) (
 cond (s1_9 == 2) (
 (zFd k p0 p1 p2).bind fun v205 =>
 cond (!v205) (
 some (Sum.inr (Sum.inr (Sum.inr (Sum.inl s1_9))))) (
 some (Sum.inl (w64 (s1_9 + 1))))) (
 cond (s1_9 == 3) (
 (zBd k p0 p1 p2).bind fun v206 =>
 cond (!v206) (
 some (Sum.inr (Sum.inr (Sum.inr (Sum.inr (Sum.inl s1_9)))))) (
 some (Sum.inl (w64 (s1_9 + 1))))) (
 none))))) (
 some (Sum.inr (Sum.inr (Sum.inr (Sum.inr (Sum.inr s1_9))))))
def zkb (k : Nat) (p0 : zj) (p1 : zt3) (p2 : Int) : Option Bool :=
 (zDg k).bind fun v1 =>
 cond (eqB p1 v1 0 8) (
 some true) (
 (iter (fun s => zze k p0 p1 p2 s) k 0).bind fun v4 =>
 Sum.elim (fun v7 =>
 some false) (fun w3_0 =>
 Sum.elim (fun v7 =>
 some false) (fun w3_1 =>
 Sum.elim (fun v7 =>
 some false) (fun w3_2 =>
 Sum.elim (fun v7 =>
 some false) (fun w3_3 =>
 (fun v7 =>
 some true) w3_3) w3_2) w3_1) w3_0) v4)
def zhc (r : Bool) : D := (db r)
def zqh (k : Nat) (p0 : za) (p1 : (SL Int)) (v1 s1_9 s1_12 : Int) : Option ((Int × Int) ⊕ ((Int × Int × Int) ⊕ (Int × Int))) :=
 cond (decide (s1_12 < (p1.1.length : Int))) (
 (idx p1.1 s1_12).bind fun v202 =>
 (zT k v202 (w64 (s1_9 + 1)) (w64 ((p0.Letters.1.length : Int) - 1))).bind fun v204 =>
 cond (!v204) (
 some (Sum.inr (Sum.inl (s1_9, s1_12, v202)))) (
 some (Sum.inl (v202, (w64 (s1_12 + 1)))))) (
 some (Sum.inr (Sum.inr (s1_9, s1_12))))
def zlh (k : Nat) (p0 : za) (p1 : (SL Int)) (v1 : Int) (v7 : zt1) (v9 : zj) (s2_17 : Int) (s2_27 : zt3) : Option ((Int × (Nat → Bool)) ⊕ ((Int × Int × (Nat → Bool)) ⊕ (Int × (Nat → Bool)))) :=
 cond (decide (s2_17 < (p1.1.length : Int))) (
 (idx p1.1 s2_17).bind fun v302 =>
 (zkb k v9 s2_27 v302).bind fun v304 =>
 cond (!v304) (
 some (Sum.inr (Sum.inl (s2_17, v302, s2_27)))) (
 cond (decide (0 ≤ v302) && decide (v302 < 8)) (
 some (Sum.inl ((w64 (s2_17 + 1)), (upd s2_27 v302.toNat true)))) none)) (
 some (Sum.inr (Sum.inr (s2_17, s2_27))))
def zUi (k : Nat) (p0 : za) (p1 : (SL Int)) : Option (Bool × Int) :=
 (zTb k p0).bind fun v1 =>
 cond (v1 != 0) (
 some (false, v1)) (
 (iter (fun s => zqh k p0 p1 v1 s.1 s.2) k ((-1), 0)).bind fun v4 =>
 Sum.elim (fun v7 =>
 some (false, 81)) (fun w3_0 =>
 (fun v7 =>
 cond ((p1.1.length : Int) == 0) (
 some (false, 81)) (
 (zVb k p0).bind fun v9 =>
 (iter (fun s => zlh k p0 p1 v1 v7 v9 s.1 s.2) k (0, (fun _ => false))).bind fun v11 =>
 Sum.elim (fun v14 =>
 some (false, 0)) (fun w7_0 =>
 (fun v14 =>
 some (true, 0)) w7_0) v11)) w3_0) v4)
def zId (r : zt2) : D := (.tup [(db r.1), (di r.2)])
def zHe (k : Nat) (p0 : (SL Int)) (s1_2 s1_5 : Int) : Option ((Int × Int) ⊕ (Int × Int)) :=
 cond (decide (s1_5 < (p0.1.length : Int))) (
 (idx p0.1 s1_5).bind fun v202 =>
 (zyb k s1_2 ([(w64 (v202 + 1))], .ex)).bind fun v204 =>
 some (Sum.inl (v204, (w64 (s1_5 + 1))))) (
 some (Sum.inr (s1_2, s1_5)))
def zBb (k : Nat) (p0 : (SL Int)) : Option Int :=
 (iter (fun s => zHe k p0 s.1 s.2) k (0, 0)).bind fun v1 =>
 some v1.1
def zUk (r : Int) : D := (di r)
def zPd (k : Nat) (p0 : zj) (p1 : (SL Int)) (p2 p3 s1_11 v402 : Int) : Option Bool :=
 (idx p0.NamesakeBook.Letters.1 s1_11).bind fun v501 =>
 cond (decide (v501.Account > 0)) (
 (idx p0.NamesakeBook.Letters.1 s1_11).bind fun v504 =>
 (idx p0.NamesakeBook.Letters.1 p2).bind fun v506 =>
 some (v504.Account == v506.Account)) (
 some false)
def zQd (k : Nat) (p0 : zj) (p1 : (SL Int)) (p2 p3 s1_11 v402 : Int) (v404 : Bool) : Option Bool :=
 cond v404 (
 some (v402 != p3)) (
 some false)
def zUc (k : Nat) (p0 : zj) (p1 : (SL Int)) (p2 p3 s1_11 : Int) : Option (Int ⊕ ((Int × Int × Bool) ⊕ Int)) :=
 cond (decide (s1_11 < (p1.1.length : Int))) (
 (idx p1.1 s1_11).bind fun v402 =>
 (zPd k p0 p1 p2 p3 s1_11 v402).bind fun v404 =>
 (zQd k p0 p1 p2 p3 s1_11 v402 v404).bind fun v406 =>
 cond v406 (
 some (Sum.inr (Sum.inl (s1_11, v402, v404)))) (
 some (Sum.inl (w64 (s1_11 + 1))))) (
 some (Sum.inr (Sum.inr s1_11)))
def zfb (k : Nat) (p0 : zj) (p1 : (SL Int)) (p2 p3 : Int) : Option Bool :=
 (iter (fun s => zUc k p0 p1 p2 p3 s) k 0).bind fun v1 =>
 Sum.elim (fun v4 =>
 some false) (fun w1_0 =>
 (fun v4 =>
 some true) w1_0) v1
def zIf (r : Bool) : D := (db r)
def zhe (k : Nat) (p0 : (SL Int)) (p1 s1_4 : Int) (s1_6 : zt3) : Option ((Int × (Nat → Bool)) ⊕ (Int × (Nat → Bool))) :=
 cond (decide (s1_4 < (p0.1.length : Int))) (
 (idx p0.1 s1_4).bind fun v202 =>
 cond (decide (0 ≤ s1_4) && decide (s1_4 < 8)) (
 some (Sum.inl ((w64 (s1_4 + 1)), (upd s1_6 s1_4.toNat (v202 == p1))))) none) (
 some (Sum.inr (s1_4, s1_6)))
def zec (k : Nat) (p0 : (SL Int)) (p1 : Int) : Option (Nat → Bool) :=
 (iter (fun s => zhe k p0 p1 s.1 s.2) k (0, (fun _ => false))).bind fun v1 =>
 some v1.2
def zlk (r : zt3) : D := (.agg (aB 8 r))
def zKe (k : Nat) (p0 : zj) (p1 : (SL Int)) (s1_10 v302 : Int) : Option Bool :=
 (zBb k ((p1.1.take s1_10.toNat), (pcap p1.2 (s1_10 == (p1.1.length : Int))))).bind fun v401 =>
 (zT k v302 0 (if v401 < (w64 (p0.NamesakeBook.Most - 1)) then v401 else (w64 (p0.NamesakeBook.Most - 1)))).bind fun v403 =>
 cond (!v403) (
 some true) (
 (zfb k p0 ((p1.1.take s1_10.toNat), (pcap p1.2 (s1_10 == (p1.1.length : Int)))) s1_10 v302).bind fun v406 =>
 cond (!v406) (
 some true) (
 (zec k ((p1.1.take s1_10.toNat), (pcap p1.2 (s1_10 == (p1.1.length : Int)))) v302).bind fun v409 =>
 (zkb k p0 v409 s1_10).bind fun v411 =>
 some (!v411)))
def zQe (k : Nat) (p0 : zj) (p1 : (SL Int)) (s1_10 : Int) : Option (Int ⊕ ((Int × Int × (SL Int)) ⊕ Int)) :=
 cond (decide (s1_10 < (p1.1.length : Int))) (
 (idx p1.1 s1_10).bind fun v302 =>
 cond (decide (0 ≤ s1_10) && decide (s1_10 ≤ (p1.1.length : Int))) (
 (zKe k p0 p1 s1_10 v302).bind fun v305 =>
 cond v305 (
 some (Sum.inr (Sum.inl (s1_10, v302, ((p1.1.take s1_10.toNat), (pcap p1.2 (s1_10 == (p1.1.length : Int)))))))) (
 some (Sum.inl (w64 (s1_10 + 1))))) none) (
 some (Sum.inr (Sum.inr s1_10)))
def zSf (k : Nat) (p0 : zj) (p1 : (SL Int)) : Option Bool :=
 cond ((p1.1.length : Int) != (p0.NamesakeBook.Letters.1.length : Int)) (
 some false) (
 (iter (fun s => zQe k p0 p1 s) k 0).bind fun v2 =>
 Sum.elim (fun v5 =>
 some false) (fun w2_0 =>
 (fun v5 =>
 some true) w2_0) v2)
def zsd (r : Bool) : D := (db r)
def zSh (k : Nat) (p0 : za) (p1 : (SL Int)) : Option (Bool × Int) :=
 (zTb k p0).bind fun v1 =>
 cond (v1 != 0) (
 some (false, v1)) (
 (zVb k p0).bind fun v4 =>
 (zSf k v4 p1).bind fun v6 =>
 some (v6, 0))
def zYg (r : zt2) : D := (.tup [(db r.1), (di r.2)])
def zDb (k : Nat) (p0 : zj) : Option ((SL zi) × (SL (SL Int)) × (SL (Nat → Int)) × Int × (List (zm × Bool))) :=
 some (p0.NamesakeBook.Letters, p0.NamesakeBook.Far, p0.NamesakeBook.Apart, p0.NamesakeBook.Most, p0.apart)
def zBh (r : zt0) : D := (.fn 88 [] [(.pin [(dl zb r.1.1 r.1.2), (dl (eL eI) r.2.1.1 r.2.1.2), (dl (aI 2) r.2.2.1.1 r.2.2.1.2), (di r.2.2.2.1), (.mp (em (fun k => D.agg (zh k)) (fun b => D.b b) r.2.2.2.2))])])
def zSe (k : Nat) (p0 : za) (v1 : Int) (v6 : zt0) (r0 : (SL Int)) (v202 s2_10 s2_15 : Int) (rc : zt11) : Option Bool :=
 (zfb k (⟨(⟨v6.1, v6.2.1, v6.2.2.1, v6.2.2.2.1⟩ : za), v6.2.2.2.2⟩ : zj) r0 (r0.1.length : Int) s2_10).bind fun v501 =>
 cond (!v501) (
 some true) (
 (zec k r0 s2_10).bind fun v504 =>
 (zkb k (⟨(⟨v6.1, v6.2.1, v6.2.2.1, v6.2.2.2.1⟩ : za), v6.2.2.2.2⟩ : zj) v504 (r0.1.length : Int)).bind fun v506 =>
 some (!v506))
def zYc (k : Nat) (p0 : za) (v1 : Int) (v6 : zt0) (r0 : (SL Int)) (v202 : Int) (rc : zt11) (s2_10 s2_15 : Int) : Option ((Int × Int) ⊕ (Int × Int)) :=
 cond (decide (s2_10 < (if (w64 (v202 + 1)) < v6.2.2.2.1 then (w64 (v202 + 1)) else v6.2.2.2.1))) (
 (zSe k p0 v1 v6 r0 v202 s2_10 s2_15 rc).bind fun v402 =>
 cond v402 (
 some (Sum.inl ((w64 (s2_10 + 1)), s2_15))) (
 cond (decide ((ccap r0.2) = Cap.ro)) (
 none) (
 cond (decide (r0.1.length + 1 ≤ LIM)) (
 (rc s2_15 ((r0.1 ++ [s2_10]), .ro)).bind fun v407 =>
 some (Sum.inl ((w64 (s2_10 + 1)), v407))) none))) (
 some (Sum.inr (s2_10, s2_15)))
def zEb (k : Nat) (p0 : za) (v1 : Int) (v6 : zt0) (rc : zt11) (u1_9 : Int) (r0 : (SL Int)) : Option Int :=
 cond ((r0.1.length : Int) == (v6.1.1.length : Int)) (
 some (w64 (u1_9 + 1))) (
 (zBb k r0).bind fun v202 =>
 (iter (fun s => zYc k p0 v1 v6 r0 v202 rc s.1 s.2) k (0, u1_9)).bind fun v204 =>
 some v204.2)
def zxb (k : Nat) (p0 : za) (v1 : Int) (v6 : zt0) : Nat → Int → (SL Int) → Option Int
 | 0 => fun _ _ => none
 | n + 1 => zEb k p0 v1 v6 (zxb k p0 v1 v6 n)
def zhb (k : Nat) (p0 : za) : Option (Int × Int) :=
 (zTb k p0).bind fun v1 =>
 cond (v1 != 0) (
 some (0, v1)) (
 (zVb k p0).bind fun v4 =>
 (zDb k v4).bind fun v6 =>
 (zxb k p0 v1 v6 9 0 ([], Cap.nil)).bind fun v8 =>
 some (v8, 0))
def zdi (r : zt1) : D := (.tup [(di r.1), (di r.2)])
def zah (k : Nat) : Option Unit :=
 some ()
def zGk (r : Unit) : D := (.agg [(.fn 90 [] [])])
def zed (k : Nat) (p0 : (SL Int)) : Option (SL Int) :=
 cond (decide (p0.2 = .nil)) (
 some ([], Cap.nil)) (
 cond (decide (p0.1.length ≤ LIM)) (
 some (p0.1, (rcap false p0.1))) none)
def zof (r : (SL Int)) : D := (dl eI r.1 r.2)
def z7f (k : Nat) (p0 p1 : (SL Int)) : Option Bool :=
 (zBb k p0).bind fun v1 =>
 (zBb k p1).bind fun v3 =>
 some (decide (v1 < v3))
def zcj (r : Bool) : D := (db r)
def zDf (k : Nat) (p0 : za) (v1 : Int) (v8 : zt0) (u1_9 r0 : (SL Int)) (rc : zt8) : Option Bool :=
 cond (decide (u1_9.2 = .nil)) (
 some true) (
 (z7f k r0 u1_9).bind fun v302 =>
 some v302)
def zCf (k : Nat) (p0 : za) (v1 : Int) (v8 : zt0) (u1_9 r0 : (SL Int)) (v202 : Bool) (rc : zt8) : Option (Bool × (SL Int)) :=
 cond v202 (
 (zed k r0).bind fun v402 =>
 some (true, v402)) (
 some (false, u1_9))
def zme (k : Nat) (p0 : za) (v1 : Int) (v8 : zt0) (r0 : (SL Int)) (v202 s4_10 : Int) (s4_15 : (SL Int)) (rc : zt8) : Option Bool :=
 (zfb k (⟨(⟨v8.1, v8.2.1, v8.2.2.1, v8.2.2.2.1⟩ : za), v8.2.2.2.2⟩ : zj) r0 (r0.1.length : Int) s4_10).bind fun v701 =>
 cond (!v701) (
 some true) (
 (zec k r0 s4_10).bind fun v704 =>
 (zkb k (⟨(⟨v8.1, v8.2.1, v8.2.2.1, v8.2.2.2.1⟩ : za), v8.2.2.2.2⟩ : zj) v704 (r0.1.length : Int)).bind fun v706 =>
 some (!v706))
def zMc (k : Nat) (p0 : za) (v1 : Int) (v8 : zt0) (r0 : (SL Int)) (v202 : Int) (rc : zt8) (s4_10 : Int) (s4_15 : (SL Int)) : Option ((Int × (SL Int)) ⊕ (Int × (SL Int))) :=
 cond (decide (s4_10 < (if (w64 (v202 + 1)) < v8.2.2.2.1 then (w64 (v202 + 1)) else v8.2.2.2.1))) (
 (zme k p0 v1 v8 r0 v202 s4_10 s4_15 rc).bind fun v602 =>
 cond v602 (
 some (Sum.inl ((w64 (s4_10 + 1)), s4_15))) (
 cond (decide ((ccap r0.2) = Cap.ro)) (
 none) (
 cond (decide (r0.1.length + 1 ≤ LIM)) (
 (rc s4_15 ((r0.1 ++ [s4_10]), .ro)).bind fun v607 =>
 some (Sum.inl ((w64 (s4_10 + 1)), v607))) none))) (
 some (Sum.inr (s4_10, s4_15)))
def zwb (k : Nat) (p0 : za) (v1 : Int) (v8 : zt0) (rc : zt8) (u1_9 r0 : (SL Int)) : Option (SL Int) :=
 cond ((r0.1.length : Int) == (v8.1.1.length : Int)) (
 (zDf k p0 v1 v8 u1_9 r0 rc).bind fun v202 =>
 (zCf k p0 v1 v8 u1_9 r0 v202 rc).bind fun v204 =>
 some v204.2) (
 (zBb k r0).bind fun v202 =>
 (iter (fun s => zMc k p0 v1 v8 r0 v202 rc s.1 s.2) k (0, u1_9)).bind fun v204 =>
 some v204.2)
def zlb (k : Nat) (p0 : za) (v1 : Int) (v8 : zt0) : Nat → (SL Int) → (SL Int) → Option (SL Int)
 | 0 => fun _ _ => none
 | n + 1 => zwb k p0 v1 v8 (zlb k p0 v1 v8 n)
def zEe (k : Nat) (p0 : za) : Option ((SL Int) × Int) :=
 (zTb k p0).bind fun v1 =>
 cond (v1 != 0) (
 some (([], Cap.nil), v1)) (
 (zah k).bind fun v4 =>
 (zVb k p0).bind fun v6 =>
 (zDb k v6).bind fun v8 =>
 (zlb k p0 v1 v8 9 ([], Cap.nil) ([], Cap.nil)).bind fun v10 =>
 cond (decide (v10.2 = .nil)) (
 some (([], Cap.nil), 82)) (
 some ((v10.1, (ccap v10.2)), 0)))
def z9f (r : ((SL Int) × Int)) : D := (.tup [(dl eI r.1.1 r.1.2), (di r.2)])
def zlf (k : Nat) (p0 p1 : (SL Int)) (s1_3 : Bool) (s1_4 : Int) : Option Bool :=
 cond s1_3 (
 some (decide (s1_4 < (p0.1.length : Int)))) (
 some false)
def zkf (k : Nat) (p0 p1 : (SL Int)) (s1_3 : Bool) (s1_4 : Int) : Option ((Bool × Int) ⊕ (Bool × Int)) :=
 (zlf k p0 p1 s1_3 s1_4).bind fun v301 =>
 cond v301 (
 (idx p0.1 s1_4).bind fun v304 =>
 (idx p1.1 s1_4).bind fun v306 =>
 some (Sum.inl ((v304 == v306), (w64 (s1_4 + 1))))) (
 some (Sum.inr (s1_3, s1_4)))
def zyd (k : Nat) (p0 p1 : (SL Int)) : Option Bool :=
 (iter (fun s => zkf k p0 p1 s.1 s.2) k (((p0.1.length : Int) == (p1.1.length : Int)), 0)).bind fun v1 =>
 some v1.1
def z2h (r : Bool) : D := (db r)
def z6 (k : Nat) (p0 : za) : Option (Int × Int) :=
 (zEe k p0).bind fun v1 =>
 (zBb k v1.1).bind fun v3 =>
 some (v3, v1.2)
def zFj (r : zt1) : D := (.tup [(di r.1), (di r.2)])
def zLf (k : Nat) (p0 : zj) (v1 : zt0) (u1_13 : Int) (r0 : (SL Int)) (s2_13 s6_17 : Int) (s6_25 : zt9) (cb : Bool) (rc : zt7) : Option (Bool × (List (zm × Int))) :=
 cond cb (
 some (true, (mset zx (⟨s2_13, s6_17⟩ : zm) (w64 (((zP zx (⟨s2_13, s6_17⟩ : zm) s6_25).getD 0) + 1)) s6_25))) (
 some (false, s6_25))
def zJf (k : Nat) (p0 : zj) (v1 : zt0) (u1_13 : Int) (r0 : (SL Int)) (s2_13 : Int) (rc : zt7) (s6_17 : Int) (s6_25 : zt9) : Option ((Int × (List (zm × Int))) ⊕ (Int × (List (zm × Int)))) :=
 cond (decide (s6_17 < (r0.1.length : Int))) (
 (idx r0.1 s2_13).bind fun v802 =>
 (idx r0.1 s6_17).bind fun v804 =>
 (zLf k p0 v1 u1_13 r0 s2_13 s6_17 s6_25 (v802 == v804) rc).bind fun v806 =>
 some (Sum.inl ((w64 (s6_17 + 1)), v806.2))) (
 some (Sum.inr (s6_17, s6_25)))
def zRf (k : Nat) (p0 : zj) (v1 : zt0) (u1_13 : Int) (r0 : (SL Int)) (rc : zt7) (s2_13 : Int) (s2_21 : zt9) : Option ((Int × (List (zm × Int))) ⊕ (Int × (List (zm × Int)))) :=
 cond (decide (s2_13 < (r0.1.length : Int))) (
 (iter (fun s => zJf k p0 v1 u1_13 r0 s2_13 rc s.1 s.2) k (0, s2_21)).bind fun v602 =>
 some (Sum.inl ((w64 (s2_13 + 1)), v602.2))) (
 some (Sum.inr (s2_13, s2_21)))
def zmf (k : Nat) (p0 : zj) (v1 : zt0) (r0 : (SL Int)) (v202 s9_10 : Int) (s9_18 : zt9) (s9_19 : Int) (rc : zt7) : Option Bool :=
 (zfb k (⟨(⟨v1.1, v1.2.1, v1.2.2.1, v1.2.2.2.1⟩ : za), v1.2.2.2.2⟩ : zj) r0 (r0.1.length : Int) s9_10).bind fun v1201 =>
 cond (!v1201) (
 some true) (
 (zec k r0 s9_10).bind fun v1204 =>
 (zkb k (⟨(⟨v1.1, v1.2.1, v1.2.2.1, v1.2.2.2.1⟩ : za), v1.2.2.2.2⟩ : zj) v1204 (r0.1.length : Int)).bind fun v1206 =>
 some (!v1206))
def zMf (k : Nat) (p0 : zj) (v1 : zt0) (r0 : (SL Int)) (v202 : Int) (rc : zt7) (s9_10 : Int) (s9_18 : zt9) (s9_19 : Int) : Option ((Int × (List (zm × Int)) × Int) ⊕ (Int × (List (zm × Int)) × Int)) :=
 cond (decide (s9_10 < (if (w64 (v202 + 1)) < v1.2.2.2.1 then (w64 (v202 + 1)) else v1.2.2.2.1))) (
 (zmf k p0 v1 r0 v202 s9_10 s9_18 s9_19 rc).bind fun v1102 =>
 cond v1102 (
 some (Sum.inl ((w64 (s9_10 + 1)), s9_18, s9_19))) (
 cond (decide ((ccap r0.2) = Cap.ro)) (
 none) (
 cond (decide (r0.1.length + 1 ≤ LIM)) (
 (rc s9_18 s9_19 ((r0.1 ++ [s9_10]), .ro)).bind fun v1107 =>
 some (Sum.inl ((w64 (s9_10 + 1)), v1107.1, v1107.2))) none))) (
 some (Sum.inr (s9_10, s9_18, s9_19)))
def zIc (k : Nat) (p0 : zj) (v1 : zt0) (rc : zt7) (u1_12 : zt9) (u1_13 : Int) (r0 : (SL Int)) : Option ((List (zm × Int)) × Int) :=
 cond ((r0.1.length : Int) == (v1.1.1.length : Int)) (
 (iter (fun s => zRf k p0 v1 u1_13 r0 rc s.1 s.2) k (0, u1_12)).bind fun v202 =>
 some (v202.2, (w64 (u1_13 + 1)))) (
 (zBb k r0).bind fun v202 =>
 (iter (fun s => zMf k p0 v1 r0 v202 rc s.1 s.2.1 s.2.2) k (0, u1_12, u1_13)).bind fun v204 =>
 some (v204.2.1, v204.2.2))
def zkd (k : Nat) (p0 : zj) (v1 : zt0) : Nat → (List (zm × Int)) → Int → (SL Int) → Option ((List (zm × Int)) × Int)
 | 0 => fun _ _ _ => none
 | n + 1 => zIc k p0 v1 (zkd k p0 v1 n)
def zOg (k : Nat) (p0 : zj) : Option zob :=
 (zDb k p0).bind fun v1 =>
 (zkd k p0 v1 9 ([]) 0 ([], Cap.nil)).bind fun v3 =>
 some (⟨v3.2, v3.1⟩ : zob)
def zAi (r : zob) : D := (.agg [(di r.many), (.mp (em (fun k => D.agg (zh k)) (fun n => D.i .i64 n) r.same))])
def zFe (k : Nat) (p0 : za) (p1 : Bool) : Option (zob × Int) :=
 (zTb k p0).bind fun v1 =>
 cond (v1 != 0) (
 some ((⟨0, []⟩ : zob), v1)) (
 cond (!p1) (
 some ((⟨0, []⟩ : zob), 81)) (
 (zVb k p0).bind fun v5 =>
 (zOg k v5).bind fun v7 =>
 cond (v7.many == 0) (
 some (v7, 82)) (
 some (v7, 0))))
def zPe (r : zt5) : D := (.tup [(.agg [(di r.1.many), (.mp (em (fun k => D.agg (zh k)) (fun n => D.i .i64 n) r.1.same))]), (di r.2)])
def zVe (k : Nat) (p0 : zob) (p1 p2 : Int) : Option Int :=
 cond (((zP zx (⟨p1, p2⟩ : zm) p0.same).getD 0) == p0.many) (
 some 2) (
 cond (((zP zx (⟨p1, p2⟩ : zm) p0.same).getD 0) == 0) (
 some 0) (
 some 1))
def z8d (r : Int) : D := (di r)
def zJh (k : Nat) (p0 : za) (p1 p2 : Int) : Option (Int × Int × (List (zm × Int))) :=
 (zT k p1 0 (w64 ((p0.Letters.1.length : Int) - 1))).bind fun v201 =>
 cond v201 (
 (zT k p2 0 (w64 ((p0.Letters.1.length : Int) - 1))).bind fun v204 =>
 (zFe k p0 v204).bind fun v206 =>
 some (v206.2, v206.1.many, v206.1.same)) (
 (zFe k p0 false).bind fun v204 =>
 some (v204.2, v204.1.many, v204.1.same))
def ztj (k : Nat) (p0 : za) (p1 p2 : Int) : Option (Int × Int) :=
 (zJh k p0 p1 p2).bind fun v1 =>
 cond (v1.1 != 0) (
 some (0, v1.1)) (
 (zVe k (⟨v1.2.1, v1.2.2⟩ : zob) p1 p2).bind fun v4 =>
 some (v4, 0))
def zgi (r : zt1) : D := (.tup [(di r.1), (di r.2)])
def zRg (k : Nat) (p0 : za) (v1 : zt5) (s1_9 : Int) (s1_16 : zt10) (s6_13 : Int) (s6_22 : zt3) (s6_23 : (List Int)) : Option ((Int × (Nat → Bool) × (List Int)) ⊕ (Int × (Nat → Bool) × (List Int))) :=
 cond (decide (s6_13 < (p0.Letters.1.length : Int))) (
 (zVe k v1.1 s1_9 s6_13).bind fun v802 =>
 cond (v802 == 2) (
 cond (decide (s6_23.length + 1 ≤ LIM)) (
 cond (decide (0 ≤ s6_13) && decide (s6_13 < 8)) (
 some (Sum.inl ((w64 (s6_13 + 1)), (upd s6_22 s6_13.toNat true), (s6_23 ++ [s6_13])))) none) none) (
 some (Sum.inl ((w64 (s6_13 + 1)), s6_22, s6_23)))) (
 some (Sum.inr (s6_13, s6_22, s6_23)))
def z3g (k : Nat) (p0 : za) (v1 : zt5) (s1_9 : Int) (s1_16 : zt10) (s1_18 : zt3) : Option ((Int × (List (SL Int)) × (Nat → Bool)) ⊕ (Int × (List (SL Int)) × (Nat → Bool))) :=
 cond (decide (s1_9 < (p0.Letters.1.length : Int))) (
 cond (decide (0 ≤ s1_9) && decide (s1_9 < 8)) (
 cond (s1_18 s1_9.toNat) (
 some (Sum.inl ((w64 (s1_9 + 1)), s1_16, s1_18))) (
 (iter (fun s => zRg k p0 v1 s1_9 s1_16 s.1 s.2.1 s.2.2) k (s1_9, s1_18, ([] : List Int))).bind fun v604 =>
 cond (decide (s1_16.length + 1 ≤ LIM)) (
 some (Sum.inl ((w64 (s1_9 + 1)), (s1_16 ++ [(v604.2.2, (xcap true v604.2.2))]), v604.2.1))) none)) none) (
 some (Sum.inr (s1_9, s1_16, s1_18)))
def zzi (k : Nat) (p0 : za) : Option ((SL (SL Int)) × Int) :=
 (zFe k p0 true).bind fun v1 =>
 cond (v1.2 != 0) (
 some (([], Cap.nil), v1.2)) (
 (iter (fun s => z3g k p0 v1 s.1 s.2.1 s.2.2) k (0, ([] : List (SL Int)), (fun _ => false))).bind fun v4 =>
 some ((v4.2.1, (xcap true v4.2.1)), 0))
def znh (r : ((SL (SL Int)) × Int)) : D := (.tup [(dl (eL eI) r.1.1 r.1.2), (di r.2)])
def zKh (k : Nat) (p0 : za) (v1 : zt5) (s1_11 s8_9 s8_14 s8_21 s8_22 v1002 : Int) (cb : Bool) : Option (Int × Bool × Int × Int) :=
 cond cb (
 some (v1002, true, s1_11, s8_14)) (
 some (s8_9, false, s8_21, s8_22))
def zEi (k : Nat) (p0 : za) (v1 : zt5) (s1_11 s8_9 s8_14 s8_21 s8_22 : Int) : Option ((Int × Int × Int × Int) ⊕ (Int × Int × Int × Int)) :=
 cond (decide (s8_14 < (p0.Letters.1.length : Int))) (
 (zyb k ((zP zx (⟨s1_11, s8_14⟩ : zm) v1.1.same).getD 0) ([(w64 (v1.1.many - ((zP zx (⟨s1_11, s8_14⟩ : zm) v1.1.same).getD 0)))], .ex)).bind fun v1002 =>
 (zKh k p0 v1 s1_11 s8_9 s8_14 s8_21 s8_22 v1002 (decide (v1002 < s8_9))).bind fun v1004 =>
 some (Sum.inl (v1004.1, (w64 (s8_14 + 1)), v1004.2.2.1, v1004.2.2.2))) (
 some (Sum.inr (s8_9, s8_14, s8_21, s8_22)))
def zxi (k : Nat) (p0 : za) (v1 : zt5) (s1_9 s1_11 s1_18 s1_19 : Int) : Option ((Int × Int × Int × Int) ⊕ (Int × Int × Int × Int)) :=
 cond (decide (s1_11 < (p0.Letters.1.length : Int))) (
 (iter (fun s => zEi k p0 v1 s1_11 s.1 s.2.1 s.2.2.1 s.2.2.2) k (s1_9, (w64 (s1_11 + 1)), s1_18, s1_19)).bind fun v802 =>
 some (Sum.inl (v802.1, (w64 (s1_11 + 1)), v802.2.2.1, v802.2.2.2))) (
 some (Sum.inr (s1_9, s1_11, s1_18, s1_19)))
def zpk (k : Nat) (p0 : za) : Option (Int × Int × Int) :=
 (zFe k p0 true).bind fun v1 =>
 cond (v1.2 != 0) (
 some (0, 0, v1.2)) (
 cond (v1.1.many == 1) (
 some (0, 0, 4)) (
 (iter (fun s => zxi k p0 v1 s.1 s.2.1 s.2.2.1 s.2.2.2) k ((w64 (v1.1.many + 1)), 0, 0, 0)).bind fun v5 =>
 some (v5.2.2.1, v5.2.2.2, 0)))
def z7g (r : (Int × Int × Int)) : D := (.tup [(di r.1), (di r.2.1), (di r.2.2)])
def zBi (k : Nat) (p0 : za) (v3 : zt0) (r0 : (SL Int)) (v202 s2_10 : Int) (rc : ((SL Int) → Option (Unit ⊕ Unit))) : Option Bool :=
 (zfb k (⟨(⟨v3.1, v3.2.1, v3.2.2.1, v3.2.2.2.1⟩ : za), v3.2.2.2.2⟩ : zj) r0 (r0.1.length : Int) s2_10).bind fun v501 =>
 cond (!v501) (
 some true) (
 (zec k r0 s2_10).bind fun v504 =>
 (zkb k (⟨(⟨v3.1, v3.2.1, v3.2.2.1, v3.2.2.2.1⟩ : za), v3.2.2.2.2⟩ : zj) v504 (r0.1.length : Int)).bind fun v506 =>
 some (!v506))
def zji (k : Nat) (p0 : za) (v3 : zt0) (r0 : (SL Int)) (v202 : Int) (rc : ((SL Int) → Option (Unit ⊕ Unit))) (s2_10 : Int) : Option (Int ⊕ (Int ⊕ Int)) :=
 cond (decide (s2_10 < (if (w64 (v202 + 1)) < v3.2.2.2.1 then (w64 (v202 + 1)) else v3.2.2.2.1))) (
 (zBi k p0 v3 r0 v202 s2_10 rc).bind fun v402 =>
 cond v402 (
 some (Sum.inl (w64 (s2_10 + 1)))) (
 cond (decide ((ccap r0.2) = Cap.ro)) (
 none) (
 cond (decide (r0.1.length + 1 ≤ LIM)) (
 (rc ((r0.1 ++ [s2_10]), .ro)).bind fun v407 =>
 Sum.elim (fun v410 =>
 some (Sum.inr (Sum.inl s2_10))) (fun w6_0 =>
 (fun v410 =>
 some (Sum.inl (w64 (s2_10 + 1)))) w6_0) v407) none))) (
 some (Sum.inr (Sum.inr s2_10)))
def zje (k : Nat) (p0 : za) (v3 : zt0) (rc : ((SL Int) → Option (Unit ⊕ Unit))) (r0 : (SL Int)) : Option (Unit ⊕ Unit) :=
 cond ((r0.1.length : Int) == (v3.1.1.length : Int)) (
 some (Sum.inl ())) (
 (zBb k r0).bind fun v202 =>
 (iter (fun s => zji k p0 v3 r0 v202 rc s) k 0).bind fun v204 =>
 Sum.elim (fun v207 =>
 some (Sum.inl ())) (fun w3_0 =>
 (fun v207 =>
 some (Sum.inr ())) w3_0) v204)
def zcf (k : Nat) (p0 : za) (v3 : zt0) : Nat → (SL Int) → Option (Unit ⊕ Unit)
 | 0 => fun _ => none
 | n + 1 => zje k p0 v3 (zcf k p0 v3 n)
def zZg (k : Nat) (p0 : za) : Option Bool :=
 (zVb k p0).bind fun v1 =>
 (zDb k v1).bind fun v3 =>
 (zcf k p0 v3 9 ([], Cap.nil)).bind fun v5 =>
 Sum.elim (fun v8 =>
 some true) (fun w3_0 =>
 (fun v8 =>
 some false) w3_0) v5
def zPi (r : Bool) : D := (db r)
def zXe (k : Nat) (p0 : (SL Int)) (p1 s1_4 : Int) : Option (Int ⊕ (Int ⊕ Int)) :=
 cond (decide (s1_4 < (p0.1.length : Int))) (
 (idx p0.1 s1_4).bind fun v202 =>
 cond (p1 == v202) (
 some (Sum.inr (Sum.inl s1_4))) (
 some (Sum.inl (w64 (s1_4 + 1))))) (
 some (Sum.inr (Sum.inr s1_4)))
def z6f (k : Nat) (p0 : (SL Int)) (p1 : Int) : Option Int :=
 (iter (fun s => zXe k p0 p1 s) k 0).bind fun v1 =>
 Sum.elim (fun v4 =>
 some v4) (fun w1_0 =>
 (fun v4 =>
 some (-1)) w1_0) v1
def zpf (r : Int) : D := (di r)
def z4e (k : Nat) (p0 : (SL Int)) (p1 : Int) : Option Bool :=
 (z6f k p0 p1).bind fun v1 =>
 some (decide (v1 ≥ 0))
def zLg (r : Bool) : D := (db r)
def zvg (k : Nat) (p0 : za) (p1 : (SL Int)) (s1_7 : Int) (s1_18 : (List zi)) (s1_20 : (List (Int × Int))) : Option ((Int × (List zi) × (List (Int × Int))) ⊕ (Int × (List zi) × (List (Int × Int)))) :=
 cond (decide (s1_7 < (p0.Letters.1.length : Int))) (
 (idx p0.Letters.1 s1_7).bind fun v302 =>
 (z4e k p1 s1_7).bind fun v304 =>
 cond (!v304) (
 cond (decide (s1_18.length + 1 ≤ LIM)) (
 some (Sum.inl ((w64 (s1_7 + 1)), (s1_18 ++ [v302]), (mset zrc s1_7 (s1_18.length : Int) s1_20)))) none) (
 some (Sum.inl ((w64 (s1_7 + 1)), s1_18, s1_20)))) (
 some (Sum.inr (s1_7, s1_18, s1_20)))
def zrg (k : Nat) (p0 : za) (p1 : (SL Int)) (v1 : zt12) (s3_11 : Int) (s3_24 : (List (Nat → Int))) (v802 : zt4) : Option Bool :=
 cond (zP zrc (v802 0) v1.2.2).isSome (
 some ((zP zrc (v802 1) v1.2.2).isSome)) (
 some false)
def zqg (k : Nat) (p0 : za) (p1 : (SL Int)) (v1 : zt12) (s3_11 : Int) (s3_24 : (List (Nat → Int))) (v802 : zt4) (v804 : Bool) : Option (Bool × (List (Nat → Int))) :=
 cond v804 (
 cond (decide (s3_24.length + 1 ≤ LIM)) (
 some (true, (s3_24 ++ [(lfI [((zP zrc (v802 0) v1.2.2).getD 0), ((zP zrc (v802 1) v1.2.2).getD 0)])]))) none) (
 some (false, s3_24))
def zwg (k : Nat) (p0 : za) (p1 : (SL Int)) (v1 : zt12) (s3_11 : Int) (s3_24 : (List (Nat → Int))) : Option ((Int × (List (Nat → Int))) ⊕ (Int × (List (Nat → Int)))) :=
 cond (decide (s3_11 < (p0.Apart.1.length : Int))) (
 (idx p0.Apart.1 s3_11).bind fun v802 =>
 (zrg k p0 p1 v1 s3_11 s3_24 v802).bind fun v804 =>
 (zqg k p0 p1 v1 s3_11 s3_24 v802 v804).bind fun v806 =>
 some (Sum.inl ((w64 (s3_11 + 1)), v806.2))) (
 some (Sum.inr (s3_11, s3_24)))
def zgg (k : Nat) (p0 : za) (p1 : (SL Int)) : Option za :=
 (iter (fun s => zvg k p0 p1 s.1 s.2.1 s.2.2) k (0, ([] : List zi), [])).bind fun v1 =>
 (iter (fun s => zwg k p0 p1 v1 s.1 s.2) k (0, ([] : List (Nat → Int)))).bind fun v3 =>
 some (⟨(v1.2.1, (rcap true v1.2.1)), p0.Far, (v3.2, (rcap true v3.2)), p0.Most⟩ : za)
def zbj (r : za) : D := (.agg (zd r))
def zEh (k : Nat) (p0 : Int) : Option Bool :=
 some (p0 != p0)
def zZk (r : Bool) : D := (db r)
def zJg (k : Nat) (p0 p1 : Int) : Option Int :=
 (zEh k p0).bind fun v1 =>
 (zEh k p1).bind fun v3 =>
 cond v1 (
 cond v3 (
 some 0) (
 some (-1))) (
 cond v3 (
 some 1) (
 cond (decide (p0 < p1)) (
 some (-1)) (
 cond (decide (p0 > p1)) (
 some 1) (
 some 0))))
def zNc (r : Int) : D := (di r)
def zte (k : Nat) (p0 p1 : (SL Int)) (s1_5 : Int) : Option (Int ⊕ ((Int × Int) ⊕ ((Int × Int × Int × Int) ⊕ Int))) :=
 cond (decide (s1_5 < (p0.1.length : Int))) (
 (idx p0.1 s1_5).bind fun v202 =>
 cond (decide (s1_5 ≥ (p1.1.length : Int))) (
 some (Sum.inr (Sum.inl (s1_5, v202)))) (
 (idx p1.1 s1_5).bind fun v205 =>
 (zJg k v202 v205).bind fun v207 =>
 cond (v207 != 0) (
 some (Sum.inr (Sum.inr (Sum.inl (v207, s1_5, v202, v205))))) (
 some (Sum.inl (w64 (s1_5 + 1)))))) (
 some (Sum.inr (Sum.inr (Sum.inr s1_5))))
def zsf (k : Nat) (p0 p1 : (SL Int)) : Option Int :=
 (iter (fun s => zte k p0 p1 s) k 0).bind fun v1 =>
 Sum.elim (fun v4 =>
 some 1) (fun w1_0 =>
 Sum.elim (fun v4 =>
 some v4.1) (fun w1_1 =>
 (fun v4 =>
 cond (decide ((p0.1.length : Int) < (p1.1.length : Int))) (
 some (-1)) (
 some 0)) w1_1) w1_0) v1
def zyc (r : Int) : D := (di r)
def zDj (k : Nat) (p0 : (SL Int)) (s1_5 : Int) : Option (Int ⊕ ((Int × Int) ⊕ Int)) :=
 cond (decide (s1_5 < (p0.1.length : Int))) (
 (idx p0.1 s1_5).bind fun v202 =>
 cond (v202 != 0) (
 some (Sum.inr (Sum.inl (v202, s1_5)))) (
 some (Sum.inl (w64 (s1_5 + 1))))) (
 some (Sum.inr (Sum.inr s1_5)))
def zcm (k : Nat) (p0 : (SL Int)) : Option Int :=
 (iter (fun s => zDj k p0 s) k 0).bind fun v1 =>
 Sum.elim (fun v4 =>
 some v4.1) (fun w1_0 =>
 (fun v4 =>
 some 0) w1_0) v1
def zFk (r : Int) : D := (di r)
def zQh (k : Nat) (p0 : za) (v1 : Int) (s1_9 : (SL Int)) (s1_11 s6_15 : Int) (s6_20 : (List Int)) : Option ((Int × (List Int)) ⊕ (Int × (List Int))) :=
 cond (decide (s6_15 < (p0.Letters.1.length : Int))) (
 cond (decide (s6_15 < 0)) (
 none) (
 cond ((zcv (zKp s1_11 s6_15) 1) == 1) (
 cond (decide (s6_20.length + 1 ≤ LIM)) (
 some (Sum.inl ((w64 (s6_15 + 1)), (s6_20 ++ [s6_15])))) none) (
 some (Sum.inl ((w64 (s6_15 + 1)), s6_20))))) (
 some (Sum.inr (s6_15, s6_20)))
def zNh (k : Nat) (p0 : za) (v1 : Int) (s1_9 : (SL Int)) (s1_11 : Int) (v602 : (Int × (List Int))) : Option Bool :=
 cond (decide (s1_9.2 = .nil)) (
 (zgg k p0 (v602.2, (rcap true v602.2))).bind fun v902 =>
 (zZg k v902).bind fun v904 =>
 some v904) (
 (zJg k (v602.2.length : Int) (s1_9.1.length : Int)).bind fun v902 =>
 (zsf k (v602.2, (rcap true v602.2)) s1_9).bind fun v904 =>
 (zcm k ([v902, v904], .ex)).bind fun v906 =>
 cond (decide (v906 < 0)) (
 (zgg k p0 (v602.2, (rcap true v602.2))).bind fun v909 =>
 (zZg k v909).bind fun v911 =>
 some v911) (
 some false))
def zPh (k : Nat) (p0 : za) (v1 : Int) (s1_9 : (SL Int)) (s1_11 : Int) (v602 : (Int × (List Int))) (v604 : Bool) : Option ((SL Int) × Bool) :=
 cond v604 (
 some ((v602.2, (rcap true v602.2)), true)) (
 some (s1_9, false))
def zIh (k : Nat) (p0 : za) (v1 : Int) (s1_9 : (SL Int)) (s1_11 : Int) : Option (((SL Int) × Int) ⊕ ((SL Int) × Int)) :=
 cond (decide (s1_11 < (z6i 1 (p0.Letters.1.length : Int)))) (
 (iter (fun s => zQh k p0 v1 s1_9 s1_11 s.1 s.2) k (0, ([] : List Int))).bind fun v602 =>
 (zNh k p0 v1 s1_9 s1_11 v602).bind fun v604 =>
 (zPh k p0 v1 s1_9 s1_11 v602 v604).bind fun v606 =>
 some (Sum.inl (v606.1, (w64 (s1_11 + 1))))) (
 some (Sum.inr (s1_9, s1_11)))
def zsj (k : Nat) (p0 : za) : Option ((SL Int) × Int) :=
 (zTb k p0).bind fun v1 =>
 cond (v1 != 0) (
 some (([], Cap.nil), v1)) (
 (zZg k p0).bind fun v4 =>
 cond v4 (
 some (([], Cap.nil), 4)) (
 cond (decide ((p0.Letters.1.length : Int) < 0)) (
 none) (
 (iter (fun s => zIh k p0 v1 s.1 s.2) k (([], Cap.nil), 0)).bind fun v8 =>
 some ((v8.1.1, (ccap v8.1.2)), 0))))
def zHg (r : ((SL Int) × Int)) : D := (.tup [(dl eI r.1.1 r.1.2), (di r.2)])
def zbe (k : Nat) (p0 p1 : (SL (SL Int))) (s1_3 : Bool) (s1_4 : Int) : Option Bool :=
 cond s1_3 (
 some (decide (s1_4 < (p0.1.length : Int)))) (
 some false)
def zde (k : Nat) (p0 p1 : (SL (SL Int))) (s1_3 : Bool) (s1_4 : Int) : Option ((Bool × Int) ⊕ (Bool × Int)) :=
 (zbe k p0 p1 s1_3 s1_4).bind fun v301 =>
 cond v301 (
 (idx p0.1 s1_4).bind fun v304 =>
 (idx p1.1 s1_4).bind fun v306 =>
 (zyd k v304 v306).bind fun v308 =>
 some (Sum.inl (v308, (w64 (s1_4 + 1))))) (
 some (Sum.inr (s1_3, s1_4)))
def z3e (k : Nat) (p0 p1 : (SL (SL Int))) : Option Bool :=
 (iter (fun s => zde k p0 p1 s.1 s.2) k (((p0.1.length : Int) == (p1.1.length : Int)), 0)).bind fun v1 =>
 some v1.1
def zxg (r : Bool) : D := (db r)
def z1e (k : Nat) (v3 v7 : zt2) (v11 : zt1) (v15 : ((SL Int) × Int)) : Option Bool :=
 cond (v3.2 != 0) (
 some true) (
 cond (v7.2 != 0) (
 some true) (
 cond (v11.2 != 0) (
 some true) (
 cond (v15.2 != 0) (
 some true) (
 cond (!v3.1) (
 some true) (
 cond (!v7.1) (
 some true) (
 cond (v11.1 != 3) (
 some true) (
 (zyd k v15.1 ([0, 1, 0, 0, 1], .ex)).bind fun v208 =>
 some (!v208))))))))
def zQ (k : Nat) : Option Bool :=
 (zdb k 3).bind fun v1 =>
 (zUi k v1 ([2, 3], .ex)).bind fun v3 =>
 (zdb k 3).bind fun v5 =>
 (zSh k v5 ([0, 1, 2, 0, 1], .ex)).bind fun v7 =>
 (zdb k 3).bind fun v9 =>
 (zhb k v9).bind fun v11 =>
 (zdb k 3).bind fun v13 =>
 (zEe k v13).bind fun v15 =>
 (z1e k v3 v7 v11 v15).bind fun v17 =>
 cond v17 (
 some false) (
 (zdb k 3).bind fun v20 =>
 (z6 k v20).bind fun v22 =>
 (zdb k 3).bind fun v24 =>
 (ztj k v24 0 3).bind fun v26 =>
 (zdb k 3).bind fun v28 =>
 (zzi k v28).bind fun v30 =>
 (zdb k 3).bind fun v32 =>
 (zpk k v32).bind fun v34 =>
 (zdb k 1).bind fun v36 =>
 (zsj k v36).bind fun v38 =>
 cond (v22.2 == 0) (
 cond (v26.2 == 0) (
 cond (v30.2 == 0) (
 cond (v34.2.2 == 0) (
 cond (v38.2 == 0) (
 cond (v22.1 == 2) (
 cond (v26.1 == 2) (
 (z3e k v30.1 ([([0, 3], .ex), ([1], .ex), ([2], .ex), ([4], .ex)], .ex)).bind fun v47 =>
 cond v47 (
 cond (v34.1 == 0) (
 cond (v34.2.1 == 2) (
 (zyd k v38.1 ([1, 4], .ex)).bind fun v52 =>
 some v52) (
 some false)) (
 some false)) (
 some false)) (
 some false)) (
 some false)) (
 some false)) (
 some false)) (
 some false)) (
 some false)) (
 some false))
def zO (r : Bool) : D := (db r)
def zZc (k : Nat) (p0 p1 : Int) (cb : Bool) : Option (Int × Bool) :=
 cond cb (
 some ((w64 ((p0.tmod p1) + p1)), true)) (
 some ((p0.tmod p1), false))
def ztc (k : Nat) (p0 p1 : Int) : Option Int :=
 cond (decide (p1 < 1)) (
 some 0) (
 cond (p1 == 0) (
 none) (
 (zZc k p0 p1 (decide ((p0.tmod p1) < 0))).bind fun v3 =>
 some v3.1))
def zdg (r : Int) : D := (di r)
def zcc (k : Nat) (p0 : za) (p1 : zt4) (v4 v6 : Int) (v9 v11 v13 v15 : zt1) : Option Bool :=
 cond (v9.2 != 0) (
 some true) (
 cond (v11.2 != 0) (
 some true) (
 cond (decide (v11.1 < v9.1)) (
 some true) (
 cond (!((v13.2 == 0) == (decide (v9.1 > 0)))) (
 some true) (
 some (!((v15.2 == 0) == (decide (v11.1 > 0))))))))
def z5b (k : Nat) (p0 : za) (p1 : zt4) (v4 v6 v10 : Int) (v12 : zi) (v14 : zOb) (v19 v21 v23 v25 : zt1) : Option Bool :=
 cond (v19.2 != 0) (
 some true) (
 cond (v21.2 != 0) (
 some true) (
 cond (decide (v21.1 < v19.1)) (
 some true) (
 cond (!((v23.2 == 0) == (decide (v19.1 > 0)))) (
 some true) (
 some (!((v25.2 == 0) == (decide (v21.1 > 0))))))))
def zzb (k : Nat) (p0 : za) (p1 : zt4) (v4 v6 s4_12 : Int) (s4_21 : zt10) (s7_14 : Int) (s7_25 : (List Int)) : Option ((Int × (List Int)) ⊕ (Int × (List Int))) :=
 (idx p0.Far.1 s4_12).bind fun v801 =>
 cond (decide (s7_14 < (v801.1.length : Int))) (
 (idx p0.Far.1 s4_12).bind fun v804 =>
 (idx v804.1 s7_14).bind fun v806 =>
 cond (decide (s7_25.length + 1 ≤ LIM)) (
 some (Sum.inl ((w64 (s7_14 + 1)), (s7_25 ++ [(if (w64 (v806 - v4)) > 0 then (w64 (v806 - v4)) else 0)])))) none) (
 some (Sum.inr (s7_14, s7_25)))
def zbb (k : Nat) (p0 : za) (p1 : zt4) (v4 v6 s4_12 : Int) (s4_21 : zt10) : Option ((Int × (List (SL Int))) ⊕ (Int × (List (SL Int)))) :=
 cond (decide (s4_12 < (p0.Far.1.length : Int))) (
 (iter (fun s => zzb k p0 p1 v4 v6 s4_12 s4_21 s.1 s.2) k (0, ([] : List Int))).bind fun v702 =>
 cond (decide (s4_21.length + 1 ≤ LIM)) (
 some (Sum.inl ((w64 (s4_12 + 1)), (s4_21 ++ [(v702.2, (rcap true v702.2))])))) none) (
 some (Sum.inr (s4_12, s4_21)))
def zac (k : Nat) (p0 : za) (p1 : zt4) (v4 v6 : Int) (v11 : (Int × (List (SL Int)))) (v13 v15 v17 v19 : zt1) : Option Bool :=
 cond (v13.2 != 0) (
 some true) (
 cond (v15.2 != 0) (
 some true) (
 cond (decide (v15.1 < v13.1)) (
 some true) (
 cond (!((v17.2 == 0) == (decide (v13.1 > 0)))) (
 some true) (
 some (!((v19.2 == 0) == (decide (v15.1 > 0))))))))
def zbc (k : Nat) (p0 : za) (p1 : zt4) (v4 v6 : Int) (cb : Bool) : Option (Bool × (SL (Nat → Int))) :=
 cond cb (
 cond (decide (0 ≤ (1 : Int)) && decide ((1 : Int) ≤ (p0.Apart.1.length : Int))) (
 some (true, ((p0.Apart.1.drop (1 : Int).toNat), (pcap p0.Apart.2 true)))) none) (
 some (false, p0.Apart))
def zsb (k : Nat) (p0 : za) (p1 : zt4) (v4 v6 : Int) (v11 : (Bool × (SL (Nat → Int)))) (v13 v15 v17 v19 : zt1) : Option Bool :=
 cond (v13.2 != 0) (
 some true) (
 cond (v15.2 != 0) (
 some true) (
 cond (decide (v15.1 < v13.1)) (
 some true) (
 cond (!((v17.2 == 0) == (decide (v13.1 > 0)))) (
 some true) (
 some (!((v19.2 == 0) == (decide (v15.1 > 0))))))))
def znb (k : Nat) (p0 : za) (p1 : zt4) : Option Bool :=
 (zwd k p0).bind fun v1 =>
 cond (!v1) (
 (zQ k).bind fun v4 =>
 some v4) (
 (ztc k (p1 2) 20).bind fun v4 =>
 (ztc k (p1 0) 4).bind fun v6 =>
 cond (v6 == 0) (
 (zhb k p0).bind fun v9 =>
 (zhb k (⟨p0.Letters, p0.Far, p0.Apart, (if (w64 (p0.Most + v4)) < 8 then (w64 (p0.Most + v4)) else 8)⟩ : za)).bind fun v11 =>
 (z6 k p0).bind fun v13 =>
 (z6 k (⟨p0.Letters, p0.Far, p0.Apart, (if (w64 (p0.Most + v4)) < 8 then (w64 (p0.Most + v4)) else 8)⟩ : za)).bind fun v15 =>
 (zcc k p0 p1 v4 v6 v9 v11 v13 v15).bind fun v17 =>
 cond v17 (
 some false) (
 cond (v13.2 != 0) (
 (zQ k).bind fun v21 =>
 some v21) (
 cond (decide (v15.1 ≤ v13.1)) (
 (zQ k).bind fun v22 =>
 some v22) (
 some false)))) (
 cond (v6 == 1) (
 (ztc k ((fun k => p1 (1 + k)) 0) (p0.Letters.1.length : Int)).bind fun v10 =>
 (idx p0.Letters.1 v10).bind fun v12 =>
 (zOe k (if (w64 (v12.Born.Low - v4)) > 0 then (w64 (v12.Born.Low - v4)) else 0) (if (w64 (v12.Born.High + v4)) < 200 then (w64 (v12.Born.High + v4)) else 200)).bind fun v14 =>
 cond (decide (p0.Letters.1.length ≤ LIM)) (
 (idx p0.Letters.1 v10).bind fun v17 =>
 (zhb k p0).bind fun v19 =>
 (zhb k (⟨((p0.Letters.1.set v10.toNat (⟨v12.Day, v12.Place, v14, v12.Dead, v12.Account⟩ : zi)), (rcap false (p0.Letters.1.set v10.toNat (⟨v12.Day, v12.Place, v14, v12.Dead, v12.Account⟩ : zi)))), p0.Far, p0.Apart, p0.Most⟩ : za)).bind fun v21 =>
 (z6 k p0).bind fun v23 =>
 (z6 k (⟨((p0.Letters.1.set v10.toNat (⟨v12.Day, v12.Place, v14, v12.Dead, v12.Account⟩ : zi)), (rcap false (p0.Letters.1.set v10.toNat (⟨v12.Day, v12.Place, v14, v12.Dead, v12.Account⟩ : zi)))), p0.Far, p0.Apart, p0.Most⟩ : za)).bind fun v25 =>
 (z5b k p0 p1 v4 v6 v10 v12 v14 v19 v21 v23 v25).bind fun v27 =>
 cond v27 (
 some false) (
 cond (v23.2 != 0) (
 (zQ k).bind fun v31 =>
 some v31) (
 cond (decide (v25.1 ≤ v23.1)) (
 (zQ k).bind fun v32 =>
 some v32) (
 some false)))) none) (
 cond (v6 == 2) (
 (iter (fun s => zbb k p0 p1 v4 v6 s.1 s.2) k (0, ([] : List (SL Int)))).bind fun v11 =>
 (zhb k p0).bind fun v13 =>
 (zhb k (⟨p0.Letters, (v11.2, (rcap true v11.2)), p0.Apart, p0.Most⟩ : za)).bind fun v15 =>
 (z6 k p0).bind fun v17 =>
 (z6 k (⟨p0.Letters, (v11.2, (rcap true v11.2)), p0.Apart, p0.Most⟩ : za)).bind fun v19 =>
 (zac k p0 p1 v4 v6 v11 v13 v15 v17 v19).bind fun v21 =>
 cond v21 (
 some false) (
 cond (v17.2 != 0) (
 (zQ k).bind fun v25 =>
 some v25) (
 cond (decide (v19.1 ≤ v17.1)) (
 (zQ k).bind fun v26 =>
 some v26) (
 some false)))) (
 (zbc k p0 p1 v4 v6 (decide ((p0.Apart.1.length : Int) > 0))).bind fun v11 =>
 (zhb k p0).bind fun v13 =>
 (zhb k (⟨p0.Letters, p0.Far, v11.2, p0.Most⟩ : za)).bind fun v15 =>
 (z6 k p0).bind fun v17 =>
 (z6 k (⟨p0.Letters, p0.Far, v11.2, p0.Most⟩ : za)).bind fun v19 =>
 (zsb k p0 p1 v4 v6 v11 v13 v15 v17 v19).bind fun v21 =>
 cond v21 (
 some false) (
 cond (v17.2 != 0) (
 (zQ k).bind fun v25 =>
 some v25) (
 cond (decide (v19.1 ≤ v17.1)) (
 (zQ k).bind fun v26 =>
 some v26) (
 some false)))))))
def zA (r : Bool) : D := (db r)
end Go.AM
