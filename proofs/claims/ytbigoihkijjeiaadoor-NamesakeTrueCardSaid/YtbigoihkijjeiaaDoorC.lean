/- The statement NamesakeTrue holds for every input that its row lets in. Conditions: none. -/
import Derived.KernelRfl
import Derived.OpenShut
import Derived.ChangeSlices
import Derived.ProofKit
import Derived.LaidMore
import Derived.Stop.Joined
import Derived.Below
import Derived.ChangeSame
import Derived.Carry
import Derived.Test.YtbigoihkijjeiaaDoorProg
import Derived.Test.YtbigoihkijjeiaaDoorB
set_option linter.all false
set_option linter.unusedSimpArgs false
set_option linter.unusedVariables false
namespace Go.AM
open Go Go.RowKit
inductive Ov where
 | q (x : X)
 | c (d : D)
 | st (cs : List X)
 | mp (es : List (D × D))
 | me (d : D) (n : Nat) (es : List (D × D))
 | l (x : X) (lv s : Nat) (o : O)
 | i (d : D) (fs : FS) (lp : List LRec)
 | ap (n : Nat) (o : O)
 | sr (x : X) (o : O)
 | cr (rs : List (D × O)) (d : D)
 | rs (o : O)
 | ns (es : List (List D)) (n : Nat)
 | fz (d : D) (o : O)
 | nm (ts : List (Nat × Nat)) (cs : List (Nat × Nat × Nat))
 | ms (n : Nat) (es : List (List D))
abbrev Ovs := List (Nat × Nat × Nat × Ov)
abbrev Cuts := List (Nat × Nat × (Ex × St))
def oget (f r i : Nat) : Ovs → Option Ov
 | [] => none
 | p :: t => if p.1 = f && (p.2.1 = r && p.2.2.1 = i) then some p.2.2.2 else oget f r i t
def cget (f b : Nat) : Cuts → Option (Ex × St)
 | [] => none
 | p :: t => if p.1 = f && p.2.1 = b then some p.2.2 else cget f b t
def cutC (f : Nat) (c : Operand) (C : Cuts) : Option (Ex × St) := match c with
 | .tmp t => cget f (2000000 + t) C
 | _ => none
def All : List Prop → Prop
 | [] => True
 | [p] => p
 | p :: q :: t => p ∧ All (q :: t)
theorem zCh {p : Prop} {t : List Prop} (h : All (p :: t)) : p ∧ All t := by
 cases t with
 | nil => exact ⟨h, trivial⟩
 | cons q t => exact h
theorem zri : ∀ {s t : List Prop}, All (s ++ t) → All s
 | [], _, _ => trivial
 | [p], t, h => (zCh h).1
 | p :: q :: s, t, h => ⟨(zCh h).1, zri (s := q :: s) (zCh h).2⟩
theorem zoh : ∀ {s t : List Prop}, All (s ++ t) → All t
 | [], _, h => h
 | _ :: s, t, h => zoh (s := s) (zCh h).2
def appO (z : Nat) (o : O) (n : Nat) (xs : List (List D)) : Option (Nat × O) :=
 if n + xs.length ≤ LIM ∧ (xs.all fun e => e.length == z) = true then
  match o with
  | .row z' es w => if es.length = n ∧ z' = z then some (n + xs.length, .row z' (es ++ xs) w) else none
  | .nrow => if n = 0 then (if xs.isEmpty then some (0, .nrow) else some (xs.length, .row z xs true)) else none
  | _ => none
 else none
def zLi : O → O
 | .row z es true => .row z es false
 | o => o
def stO (o : O) (k i f n : Nat) (ds : List D) : Option O := match o with
 | .row z es true => if es.length = k then (es[i]?).bind fun e => if f + n ≤ e.length then some (.row z (es.set i (zud e f ds)) true) else none else none
 | _ => none
theorem z9k {α : Type} {k : Nat} {v : α} : ∀ {l : List (Nat × α)}, aget k l = some v → aset k v l = l
 | [], h => by simp [aget] at h
 | p :: t, h => by
  unfold aget at h
  unfold aset
  by_cases hp : p.1 = k
  ·rw [if_pos hp] at h ⊢
   simp only [Option.some.injEq] at h
   rw [← h, ← hp]
  ·rw [if_neg hp] at h ⊢
   rw [z9k h]
theorem FS.set_same {fs : FS} {l s : Nat} {o : O} (h : fs.get l s = some o) : fs.set l s o = fs := by
 unfold FS.get at h
 unfold FS.set
 by_cases hl : l = fs.lo.length
 ·rw [if_pos hl] at h ⊢
  rw [z9k h]
 ·rw [if_neg hl] at h ⊢
  cases hf : fs.lo[l]? with
  | none => rw [hf] at h; simp at h
  | some fr =>
   rw [hf] at h
   simp only [Option.bind_some] at h
   have : fs.lo.modify l (aset s o) = fs.lo := by
    apply List.ext_getElem?
    intro i
    rw [List.getElem?_modify]
    by_cases hi : l = i
    ·subst hi; rw [hf]; simp [z9k h]
    ·simp [hi]
   rw [this]
theorem zjq {α : Type} {k : Nat} {v : α} : ∀ {l : List (Nat × α)} {w : α}, aget k l = some w → aget k (aset k v l) = some v
 | [], w, h => by simp [aget] at h
 | p :: t, w, h => by
  unfold aget at h
  unfold aset
  by_cases hp : p.1 = k
  ·rw [if_pos hp]; simp [aget]
  ·rw [if_neg hp] at h ⊢
   simp only [aget, if_neg hp]
   exact zjq h
theorem zKn {α : Type} {k j : Nat} {v : α} (hj : k ≠ j) : ∀ {l : List (Nat × α)}, aget k (aset j v l) = aget k l
 | [] => by simp [aset, aget, Ne.symm hj]
 | p :: t => by
  unfold aset
  by_cases hp : p.1 = j
  ·rw [if_pos hp]
   simp only [aget]
   rw [if_neg (Ne.symm hj), if_neg (by rw [hp]; exact Ne.symm hj)]
  ·rw [if_neg hp]
   simp only [aget]
   by_cases hk : p.1 = k
   ·rw [if_pos hk, if_pos hk]
   ·rw [if_neg hk, if_neg hk]; exact zKn hj
theorem FS.set_lo {fs : FS} {l s : Nat} {o : O} : (fs.set l s o).lo.length = fs.lo.length := by
 unfold FS.set
 split <;> simp
theorem FS.gs1 {fs : FS} {l s : Nat} {o p : O} (h : fs.get l s = some p) : (fs.set l s o).get l s = some o := by
 unfold FS.get at h ⊢
 rw [FS.set_lo]
 unfold FS.set
 by_cases hl : l = fs.lo.length
 ·rw [if_pos hl] at h ⊢
  rw [if_pos hl]
  exact zjq h
 ·rw [if_neg hl] at h ⊢
  rw [if_neg hl]
  cases hf : fs.lo[l]? with
  | none => rw [hf] at h; simp at h
  | some fr =>
   rw [hf] at h
   simp only [Option.bind_some] at h
   simp only [List.getElem?_modify, if_true, hf, Option.map_some, Option.bind_some]
   exact zjq h
theorem FS.gs2 {fs : FS} {l s l' s' : Nat} {o : O} (h : ¬ (l = l' ∧ s = s')) : (fs.set l' s' o).get l s = fs.get l s := by
 unfold FS.get
 rw [FS.set_lo]
 unfold FS.set
 by_cases hl' : l' = fs.lo.length
 ·rw [if_pos hl']
  by_cases hl : l = fs.lo.length
  ·rw [if_pos hl, if_pos hl]
   exact zKn fun e => h ⟨by rw [hl, hl'], e⟩
  ·rw [if_neg hl, if_neg hl]
 ·rw [if_neg hl']
  by_cases hl : l = fs.lo.length
  ·rw [if_pos hl, if_pos hl]
  ·rw [if_neg hl, if_neg hl]
   simp only [List.getElem?_modify]
   by_cases e : l' = l
   ·subst e
    simp only [if_true]
    cases fs.lo[l']? with
    | none => rfl
    | some fr => simp only [Option.map_some, Option.bind_some]; exact zKn fun e => h ⟨rfl, e⟩
   ·simp [e]
theorem zPw {P : Program} {fs : FS} {T : TypeId} {q : Nat × List D} {l t n n' : Nat} {x : X} {xs : List (List D)} {o o' : O} (hq : okS P T = some q) (hx : zgg fs.get x = some xs) (ho : fs.get l t = some o) (h : appO q.1 o n xs = some (n', o')) : appL P fs T (.row l t n) x = some (.row l t n', fs.set l t o') := by
 unfold appO at h
 unfold appL
 rw [hq, hx]
 simp only
 by_cases hc : n + xs.length ≤ LIM ∧ (xs.all fun e => e.length == q.1) = true
 ·rw [if_pos hc] at h ⊢
  rw [ho]
  cases o with
  | row z es w =>
   simp only at h ⊢
   by_cases hd : es.length = n ∧ z = q.1
   ·rw [if_pos hd] at h ⊢
    simp only [Option.some.injEq, Prod.mk.injEq] at h
    rw [h.1, h.2]
   ·rw [if_neg hd] at h; simp at h
  | nrow =>
   simp only at h ⊢
   by_cases hn : n = 0
   ·rw [if_pos hn] at h ⊢
    by_cases he : xs.isEmpty = true
    ·rw [if_pos he] at h ⊢
     simp only [Option.some.injEq, Prod.mk.injEq] at h
     rw [← h.1, ← h.2, FS.set_same ho]
    ·rw [if_neg he] at h ⊢
     simp only [Option.some.injEq, Prod.mk.injEq] at h
     rw [h.1, h.2]
   ·rw [if_neg hn] at h; simp at h
  | _ => simp at h
 ·rw [if_neg hc] at h; simp at h
theorem zwm {fs : FS} {l s n : Nat} {o : O} (h : fs.get l s = some o) : lend fs (.row l s n) = fs.set l s (zLi o) := by
 unfold lend zLi
 simp only [h]
 cases o with
 | row z es w => cases w <;> simp [FS.set_same h]
 | _ => simp [FS.set_same h]
def zIh (fs : FS) : List X → List (D × O) → Option ((List D × FS × List (D × O)) × List Prop)
 | [], rs => some (([], fs, rs), [])
 | .d x :: t, rs => match zIh fs t rs with
  | some q => some ((x :: q.1.1, q.1.2.1, q.1.2.2), q.2)
  | none => none
 | .row l s n :: t, r :: rs => match fs.get l s with
  | some o => match zIh (fs.set l s r.2) t rs with
   | some q => some ((r.1 :: q.1.1, q.1.2.1, q.1.2.2), (zLi o = r.2 ∧ toD (fun _ _ => some r.2) (.row l s n) = some r.1) :: q.2)
   | none => none
  | none => none
 | _, _ => none
def zaj (fs : FS) : List X → List (D × O) → Option ((List D × FS × List (D × O)) × List Prop)
 | [], rs => some (([], fs, rs), [])
 | .agg cs :: t, rs => match zIh fs cs rs with
  | some p => match zaj p.1.2.1 t p.1.2.2 with
   | some q => some ((.agg p.1.1 :: q.1.1, q.1.2.1, q.1.2.2), p.2 ++ q.2)
   | none => none
  | none => none
 | x :: t, rs => match zIh fs [x] rs with
  | some p => match p.1.1 with
   | [d] => match zaj p.1.2.1 t p.1.2.2 with
    | some q => some ((d :: q.1.1, q.1.2.1, q.1.2.2), p.2 ++ q.2)
    | none => none
   | _ => none
  | none => none
def Kept (fs fs' : FS) : Prop := ∀ l s o, fs.get l s = some o → zLi o = o → fs'.get l s = some o
theorem Kept.refl (fs : FS) : Kept fs fs := fun _ _ _ h _ => h
theorem Kept.trans {a b c : FS} (h : Kept a b) (k : Kept b c) : Kept a c := fun l s o ho hl => k l s o (h l s o ho hl) hl
theorem zUv {fs : FS} {l s : Nat} {o : O} (h : fs.get l s = some o) : Kept fs (fs.set l s (zLi o)) := fun l' s' o' ho hl => by
 by_cases e : l' = l ∧ s' = s
 ·obtain ⟨rfl, rfl⟩ := e
  rw [h] at ho
  simp only [Option.some.injEq] at ho
  subst ho
  rw [FS.gs1 h, hl]
 ·rw [FS.gs2 e]; exact ho
theorem zzo {o : O} {l s n : Nat} {d : D} (h : toD (fun _ _ => some o) (.row l s n) = some d) : zLi o = o := by
 unfold toD at h
 simp only at h
 cases o with
 | row z es w => cases w <;> simp_all [zLi]
 | _ => rfl
theorem zim {φ : Get} {o : O} {l s n : Nat} (h : φ l s = some o) : toD φ (.row l s n) = toD (fun _ _ => some o) (.row l s n) := by
 simp only [toD, h]
theorem zQl : ∀ {xs : List X} {fs : FS} {rs : List (D × O)} {r : List D × FS × List (D × O)} {P : List Prop}, zIh fs xs rs = some (r, P) → All P → xs.foldl lend fs = r.2.1 ∧ Kept fs r.2.1 ∧ (∀ fs', Kept r.2.1 fs' → toDs fs'.get xs = some r.1)
 | [], fs, rs, r, P, h, hP => by
  simp only [zIh, Option.some.injEq, Prod.mk.injEq] at h
  obtain ⟨rfl, _⟩ := h
  exact ⟨rfl, .refl _, fun _ _ => rfl⟩
 | x :: t, fs, rs, r, P, h, hP => by
  cases x with
  | d y =>
   simp only [zIh] at h
   cases hq : zIh fs t rs with
   | none => simp [hq] at h
   | some q =>
    simp only [hq, Option.some.injEq, Prod.mk.injEq] at h
    obtain ⟨rfl, rfl⟩ := h
    obtain ⟨h1, h2, h3⟩ := zQl (r := q.1) (P := q.2) hq hP
    refine ⟨?_, h2, fun fs' hk => ?_⟩
    ·simp only [List.foldl_cons, lend]; exact h1
    ·simp only [toDs, toD, h3 fs' hk]
  | row l s n =>
   cases rs with
   | nil => simp [zIh] at h
   | cons p rs =>
    simp only [zIh] at h
    cases ho : fs.get l s with
    | none => simp [ho] at h
    | some o =>
     simp only [ho] at h
     cases hq : zIh (fs.set l s p.2) t rs with
     | none => simp [hq] at h
     | some q =>
      simp only [hq, Option.some.injEq, Prod.mk.injEq] at h
      obtain ⟨rfl, rfl⟩ := h
      obtain ⟨⟨hl, hd⟩, hP'⟩ := zCh hP
      obtain ⟨h1, h2, h3⟩ := zQl (r := q.1) (P := q.2) hq hP'
      have hg : (fs.set l s p.2).get l s = some p.2 := FS.gs1 ho
      refine ⟨?_, (Kept.trans (by rw [← hl]; exact zUv ho) h2), fun fs' hk => ?_⟩
      ·simp only [List.foldl_cons, zwm ho, hl]; exact h1
      ·have hg' := hk l s p.2 (h2 l s p.2 hg (zzo hd)) (zzo hd)
       simp only [toDs, zim hg', hd, h3 fs' hk]
  | _ => simp [zIh] at h
theorem zOq {φ : Get} {x : X} {t : List X} {d : D} {ds : List D} (h : toDA φ x = some d) (k : zjb φ t = some ds) : zjb φ (x :: t) = some (d :: ds) := by simp only [zjb, h, k]
theorem zZl : ∀ {xs : List X} {fs : FS} {rs : List (D × O)} {r : List D × FS × List (D × O)} {P : List Prop}, zaj fs xs rs = some (r, P) → All P → xs.foldl zY fs = r.2.1 ∧ Kept fs r.2.1 ∧ (∀ fs', Kept r.2.1 fs' → zjb fs'.get xs = some r.1)
 | [], fs, rs, r, P, h, hP => by
  simp only [zaj, Option.some.injEq, Prod.mk.injEq] at h
  obtain ⟨rfl, _⟩ := h
  exact ⟨rfl, .refl _, fun _ _ => rfl⟩
 | x :: t, fs, rs, r, P, h, hP => by
  have one : ∀ (ha : ∀ f, zY f x = lend f x) (hd : ∀ φ, toDA φ x = toD φ x), (match zIh fs [x] rs with
    | some p => match p.1.1 with
     | [d] => match zaj p.1.2.1 t p.1.2.2 with
      | some q => some ((d :: q.1.1, q.1.2.1, q.1.2.2), p.2 ++ q.2)
      | none => none
     | _ => none
    | none => none) = some (r, P) → (x :: t).foldl zY fs = r.2.1 ∧ Kept fs r.2.1 ∧ (∀ fs', Kept r.2.1 fs' → zjb fs'.get (x :: t) = some r.1) := by
   intro ha hd h
   cases hp : zIh fs [x] rs with
   | none => rw [hp] at h; simp at h
   | some p =>
    simp only [hp] at h
    split at h
    ·rename_i d he
     cases hq : zaj p.1.2.1 t p.1.2.2 with
     | none => simp [hq] at h
     | some q =>
      simp only [hq, Option.some.injEq, Prod.mk.injEq] at h
      obtain ⟨rfl, rfl⟩ := h
      obtain ⟨h1, h2, h3⟩ := zQl (r := p.1) (P := p.2) hp (zri hP)
      obtain ⟨k1, k2, k3⟩ := zZl (r := q.1) (P := q.2) hq (zoh hP)
      refine ⟨?_, h2.trans k2, fun fs' hk => ?_⟩
      ·simp only [List.foldl_cons, ha]
       simp only [List.foldl_cons, List.foldl_nil] at h1
       rw [h1]; exact k1
      ·have := h3 fs' (k2.trans hk)
       simp only [toDs] at this
       refine zOq ?_ (k3 fs' hk)
       rw [hd]
       cases hx : toD fs'.get x with
       | none => simp [hx] at this
       | some y =>
        simp only [hx, Option.some.injEq] at this
        rw [he] at this
        simpa using this
    ·simp at h
  cases x with
  | agg cs =>
   simp only [zaj] at h
   cases hp : zIh fs cs rs with
   | none => simp [hp] at h
   | some p =>
    simp only [hp] at h
    cases hq : zaj p.1.2.1 t p.1.2.2 with
    | none => simp [hq] at h
    | some q =>
     simp only [hq, Option.some.injEq, Prod.mk.injEq] at h
     obtain ⟨rfl, rfl⟩ := h
     obtain ⟨h1, h2, h3⟩ := zQl (r := p.1) (P := p.2) hp (zri hP)
     obtain ⟨k1, k2, k3⟩ := zZl (r := q.1) (P := q.2) hq (zoh hP)
     refine ⟨?_, h2.trans k2, fun fs' hk => ?_⟩
     ·simp only [List.foldl_cons, zY, h1]; exact k1
     ·exact zOq (by simp only [toDA, h3 fs' (k2.trans hk), Option.map_some]) (k3 fs' hk)
  | _ => exact one (fun _ => rfl) (fun _ => rfl) h
def zdk : Op → Bool
 | .call c => match c.callee with
  | .builtin _ => false
  | _ => true
 | _ => false
abbrev W (α : Type) := Option (α × List Prop)
def W.seq {α β : Type} (x : W α) (f : α → W β) : W β := match x with
 | some p => match f p.1 with
  | some q => some (q.1, p.2 ++ q.2)
  | none => none
 | none => none
abbrev RecV := Nat → Code → St → W (Ex × St)
variable (E : Env) (V : Ovs) (C : Cuts)
def runV (rec : RecV) (f : Nat) (args : List X) (lo : List Fr) (lp : List LRec) : W (List X × St) :=
 match fnOf E f args.length with
 | some q => W.seq (rec f q.2 { tm := params 0 args, fs := { fr := [], lo := lo }, lp := lp }) fun r =>
  if r.1 = .nor ∨ r.1 = .ret then (znn E.P r.2 q.1.results.toList).map fun xs => ((xs, r.2), []) else none
 | none => none
def zSn (rec : RecV) (f : Nat) (args : List X) (fs : FS) (lp : List LRec) : W (D × FS × List LRec) :=
 W.seq (runV E rec f args (fs.lo ++ [fs.fr]) lp) fun q =>
  match zFc q.2.fs q.1, zMg q.2.fs.lo with
  | some ds, some fs' => some ((tupD ds, fs', q.2.lp), [])
  | _, _ => none
def zhs (rec : RecV) (k : Nat) (args : List X) (fs : FS) (lp : List LRec) : W (D × FS × List LRec) :=
 match lp[k]? with
 | some r =>
  if r.st = .rdy ∧ args.length = r.ps.size then
   match allD args with
   | some _ =>
    W.seq (rec r.fid r.assign { tm := zLl r.tm r.ps.toList args, fs := { fr := [], lo := fs.lo ++ [fs.fr] }, lp := lp }) fun q =>
     if q.1 = .nor ∧ (q.2.lp[k]?).map (·.st) = some .rdy then
      W.seq (rec r.fid r.body { q.2 with lp := q.2.lp.set k { r with st := .busy } }) fun q2 =>
       match zMg q2.2.fs.lo with
       | some fs' => some ((.b (decide (q2.1 = .nor)), fs', q2.2.lp.set k { r with st := if q2.1 = .nor then .rdy else .done q2.1 }), [])
       | none => none
     else none
   | none => none
  else none
 | none => none
def zgo (st : St) (fs : FS) (d : Nat) (r : List X × St) : W (X × FS × List LRec) := match r.1 with
 | [.row l s n] => if l = r.2.fs.lo.length then (match aget s r.2.fs.fr with
  | some o => match zV { st with fs := fs } (some d) d o with
   | some fs' => some ((.row fs.lv d n, fs', st.lp), [zXn o n = true])
   | none => none
  | none => none) else none
 | [.d (.sl [] .nil)] => (zV { st with fs := fs } (some d) d .nrow).map fun fs' => ((.row fs.lv d 0, fs', st.lp), [])
 | _ => none
def zou (rec : RecV) (h : Hint) (st : St) (t : Option Nat) (op : Op) : W (X × FS × List LRec) :=
 match op with
 | .call c => match c.callee with
  | .value f =>
   match evA E st.tm f with
   | .yld k => W.seq (zhs rec k (c.args.toList.map (evA E st.tm)) st.fs st.lp) fun q => some ((.d q.1, q.2.1, q.2.2), [])
   | fv => match zX fv with
    | some q =>
     let args := q.2.1 ++ c.args.toList.map (evA E st.tm) ++ q.2.2
     match zjb (args.foldl zY st.fs).get args with
     | some ds => match t with
      | some d => if h.rowSites.contains d then W.seq (runV E rec q.1 (ds.map .d) [] []) (zgo st (args.foldl zY st.fs) d)
       else none
      | none => none
     | none => W.seq (zSn E rec q.1 args st.fs st.lp) fun r => some ((.d r.1, r.2.1, r.2.2), [])
    | none => none
  | _ => none
 | _ => none
def z1j (st : St) (op : Op) : Ov → W X
 | .q x => if zdk op then none else some (x, [evQ E (zx E (ev E)) (evA E st.tm) st.fs.get op = some x])
 | .c d => match op with
  | .call c => match c.callee with
   | .value f => match zX (evA E st.tm f) with
    | some q => match zjb st.fs.get (q.2.1 ++ c.args.toList.map (evA E st.tm) ++ q.2.2) with
     | some ds => some (.d d, [zx E (ev E) q.1 ds = some d])
     | none => none
    | none => none
   | _ => none
  | _ => none
 | _ => none
def zce (fid : Nat) (st : St) (t : Option Nat) (op : Op) : Ov → W (X × FS × List LRec)
 | .st cs' => match op with
  | .store T a x =>
   match !zBq (E.H fid) a (evA E st.tm x), szT E.P T, zhk (evA E st.tm x), evA E st.tm a with
   | true, some n, some vs, .ptr l s o => if vs.length = n then
     (match st.fs.get l s with
      | some (.cells cs) => if X.okAtL st.lp l vs = true then some ((.d (.tup []), st.fs.set l s (.cells cs'), st.lp), [o + n ≤ cs.length ∧ zud cs o vs = cs']) else none
      | _ => none) else none
   | _, _, _, _ => none
  | _ => none
 | .mp es' => match op with
  | .mapUpdate T m k v =>
   let fs := zY st.fs (evA E st.tm v)
   match toDA fs.get (evA E st.tm v), mpT E.P T, evA E st.tm m, evA E st.tm k with
   | some vd, some q, .map l s, .d kd => if zGg E.P q.1 kd then
     (match fs.get l s with
      | some (.map es) => some ((.d (.tup []), fs.set l s (.map es'), st.lp), [setD kd vd es = some es'])
      | _ => none) else none
   | _, _, _, _ => none
  | .entryStore _ m n v =>
   match evA E st.tm m, evA E st.tm n, evA E st.tm v with
   | .map l s, .d (.i .i64 n), .d vd =>
    (match st.fs.get l s with
     | some (.map es) => some ((.d (.tup []), st.fs.set l s (.map es'), st.lp), [0 ≤ n ∧ (es[n.toNat]?).map (fun p => es.set n.toNat (p.1, vd)) = some es'])
     | _ => none)
   | _, _, _ => none
  | _ => none
 | .me d n es' => match op with
  | .mapEntry T m k =>
   match mpT E.P T, evA E st.tm m, evA E st.tm k with
   | some q, .map l s, .d kd => if zGg E.P q.1 kd then
     (match zvT E.P q.2, st.fs.get l s with
      | some z, some (.map es) => some ((.d (.tup [d, .i .i64 (n : Int)]), st.fs.set l s (.map es'), st.lp), [entD kd z es = some (es', d, n)])
      | _, _ => none) else none
   | _, _, _ => none
  | _ => none
 | .l x lv s o => if zdk op then none else some ((x, st.fs.set lv s o, st.lp), [evL E (ev E) (E.H fid) st t op = some (x, st.fs.set lv s o, st.lp)])
 | .c d => match op with
  | .call c => match c.callee with
   | .value f => match evA E st.tm f with
    | .yld k => none
    | fv => match zX fv with
     | some q =>
      let args := q.2.1 ++ c.args.toList.map (evA E st.tm) ++ q.2.2
      let fs := args.foldl zY st.fs
      match zjb fs.get args with
      | some ds => match t with
       | some t => if (E.H fid).rowSites.contains t then none else some ((.d d, fs, st.lp), [zx E (ev E) q.1 ds = some d])
       | none => some ((.d d, fs, st.lp), [zx E (ev E) q.1 ds = some d])
      | none => none
     | none => none
   | _ => none
  | _ => none
 | .i d fs lp => match op with
  | .call c => match c.callee with
   | .value f => match evA E st.tm f with
    | .yld k => some ((.d d, fs, lp), [round (ev E) k (c.args.toList.map (evA E st.tm)) st.fs st.lp = some (d, fs, lp)])
    | fv => match zX fv with
     | some q =>
      let args := q.2.1 ++ c.args.toList.map (evA E st.tm) ++ q.2.2
      match zjb (args.foldl zY st.fs).get args with
      | some _ => none
      | none => some ((.d d, fs, lp), [zMb E (ev E) q.1 args st.fs st.lp = some (d, fs, lp)])
     | none => none
   | _ => none
  | _ => none
 | .q _ => none
 | .nm _ _ => none
 | .ap n' o' => match op with
  | .call c => match c.callee with
   | .builtin .append => match c.argTypes.toList, c.args.toList.map (evA E st.tm) with
    | T :: U :: _, [.row l s n, x] => if T = U then
      (match okS E.P T, zgg st.fs.get x, st.fs.get l s with
       | some q, some xs, some o => some ((.row l s n', st.fs.set l s o', st.lp), [appO q.1 o n xs = some (n', o')])
       | _, _, _ => none) else none
    | _, _ => none
   | _ => none
  | _ => none
 | .sr x' o' => match op with
  | .slice T x lo hi mx => match evA E st.tm x with
   | .row l s n => match st.fs.get l s with
    | some o => some ((x', st.fs.set l s o', st.lp), [zLi o = o' ∧ zKf E.P (fun _ _ => some o') T (evA E st.tm) (.row l s n) lo hi mx = some x'])
    | none => none
   | _ => none
  | _ => none
 | .cr rs d => match op with
  | .call c => match c.callee with
   | .value f => match evA E st.tm f with
    | .yld k => none
    | fv => match zX fv with
     | some q => match zaj st.fs (q.2.1 ++ c.args.toList.map (evA E st.tm) ++ q.2.2) rs with
      | some p => match t with
       | some t => if (E.H fid).rowSites.contains t then none else some ((.d d, p.1.2.1, st.lp), p.2 ++ [zx E (ev E) q.1 p.1.1 = some d])
       | none => some ((.d d, p.1.2.1, st.lp), p.2 ++ [zx E (ev E) q.1 p.1.1 = some d])
      | none => none
     | none => none
   | _ => none
  | _ => none
 | .rs o' => match op with
  | .store T a x =>
   match !zBq (E.H fid) a (evA E st.tm x), szT E.P T, (zhk (evA E st.tm x)).bind allD, evA E st.tm a with
   | true, some n, some ds, .rp l s k i f => if ds.length = n then
     (match st.fs.get l s with
      | some o => some ((.d (.tup []), st.fs.set l s o', st.lp), [stO o k i f n ds = some o'])
      | none => none) else none
   | _, _, _, _ => none
  | _ => none
 | .ns es' n' => match op with
  | .call c => match c.callee with
   | .builtin .append => match c.argTypes.toList, c.args.toList.map (evA E st.tm) with
    | T :: U :: _, [.d (.sl ss .ex), .d (.sl xs cx)] => if T = U then
      (match t, slT E.P T with
       | some d, some q => if (E.H fid).rowSites.contains d then
         (match zV st (some d) d (.row q.1 es' true) with
         | some fs => some ((.row st.fs.lv d n', fs, st.lp), [es'.length = n', (∃ k, appQ E.P st.fs.get T (.d (.sl ss .ex)) (.d (.sl xs cx)) = some (.d (.sl es' k))), (ss.isEmpty || !xs.isEmpty) = true])
         | none => none) else none
       | _, _ => none) else none
    | _, _ => none
   | _ => none
  | _ => none
 | .fz r o' => match op, t with
  | .assign x, some d => match evA E st.tm x with
   | .row l s n => if (E.H fid).rowVars.contains (1000000 + d) then
     (match st.fs.get l s with
      | some o => some ((.d r, st.fs.set l s o', st.lp), [zLi o = o' ∧ toD (fun _ _ => some o') (.row l s n) = some r])
      | none => none) else none
   | _ => none
  | .buildSlice T n ps, some d => match ps.toList with
   | [p] => match evA E st.tm p.2 with
    | .row l s n' => if (E.H fid).rowVars.contains (2000000 + d) then
      (match st.fs.get l s, zFi E.P T n [(p.1, .d r)] with
       | some o, some x => some ((x, st.fs.set l s o', st.lp), [zLi o = o' ∧ toD (fun _ _ => some o') (.row l s n') = some r])
       | _, _ => none) else none
    | _ => none
   | _ => none
  | _, _ => none
 | .ms n' es' => match op, t with
  | .makeSlice T n c, some d => match okS E.P T, intX (evA E st.tm n), intX (evA E st.tm c) with
   | some q, some n, some c => match zV st (some d) d (.row q.1 es' true) with
    | some fs => some ((.row st.fs.lv d n', fs, st.lp), [(0 ≤ n ∧ n = c ∧ n ≤ (LIM : Int)), n.toNat = n', List.replicate n.toNat q.2 = es'])
    | none => none
   | _, _, _ => none
  | _, _ => none
def Ov.both : Ov → Bool
 | .sr _ _ => true
 | .cr _ _ => true
 | _ => false
def zas (rec : RecV) (fid rid i : Nat) (ops : Array Oper) (sp : Bool) (st : St) (o : Oper) : W St :=
 match zej ops st.tm o with
 | none => none
 | some false => some ({ st with tm := tput st.tm o.dst (.d (.tup [])) }, [])
 | some true =>
  match oget fid rid i V with
  | some v =>
   if !(sp && useL (E.H fid) o) && (z1j E st o.op v).isSome then W.seq (z1j E st o.op v) fun x => some ({ st with tm := tput st.tm o.dst x }, [])
   else if sp && (v.both || (useL (E.H fid) o || !zkh E (evA E st.tm) st.fs.get o.op)) then W.seq (zce E fid st o.dst o.op v) fun q => some ({ tm := tput st.tm o.dst q.1, fs := q.2.1, lp := q.2.2 }, [])
   else none
  | none =>
   if !(sp && useL (E.H fid) o) && zkh E (evA E st.tm) st.fs.get o.op then (evQ E (fun _ _ => none) (evA E st.tm) st.fs.get o.op).map fun x => ({ st with tm := tput st.tm o.dst x }, [])
   else if sp then
    (if zdk o.op then W.seq (zou E rec (E.H fid) st o.dst o.op) fun q => some ({ tm := tput st.tm o.dst q.1, fs := q.2.1, lp := q.2.2 }, [])
     else (evL E (fun _ _ _ => none) (E.H fid) st o.dst o.op).map fun q => ({ tm := tput st.tm o.dst q.1, fs := q.2.1, lp := q.2.2 }, []))
   else none
def zBs (rec : RecV) (fid rid : Nat) (ops : Array Oper) : Nat → List Oper → St → W St
 | _, [], st => some (st, [])
 | i, o :: t, st => W.seq (zas E V rec fid rid i ops true st o) (zBs rec fid rid ops (i + 1) t)
def zbu (fid rid i : Nat) (st : St) (s : Nat) (T : TypeId) (a x : Operand) : W St :=
 match oget fid rid i V with
 | some (.ns es' n') => match slT E.P T, evA E st.tm a, evA E st.tm x, st.fs.get st.fs.lv s with
  | some p, .d (.sl ss .ex), .d (.sl xs cx), some .nrow => some ({ tm := tput st.tm (some s) (.row st.fs.lv s n'), fs := st.fs.set st.fs.lv s (.row p.1 es' true), lp := st.lp },
    [es'.length = n', (∃ k, appQ E.P st.fs.get T (.d (.sl ss .ex)) (.d (.sl xs cx)) = some (.d (.sl es' k))), (ss.isEmpty || !xs.isEmpty) = true])
  | _, _, _, _ => none
 | _ => none
def entV (fid rid i : Nat) (st : St) (dst : Option Nat) (q : TypeId × Nat × Nat) : W St :=
 match oget fid rid i V with
 | some (.me d n es') => match mpT E.P q.1, tget st.tm q.2.1, tget st.tm q.2.2 with
  | some p, .map l s, .d kd => if zGg E.P p.1 kd then
    (match zvT E.P p.2, st.fs.get l s with
     | some z, some (.map es) => some ({ tm := tput st.tm dst (.d (.tup [d, .i .i64 (n : Int)])), fs := st.fs.set l s (.map es'), lp := st.lp }, [entD kd z es = some (es', d, n)])
     | _, _ => none) else none
  | _, _, _ => none
 | _ => none
def zss (rec : RecV) (fid rid : Nat) (ops : Array Oper) (h : zCb) (i : Nat) (st : St) (o : Oper) : W St :=
 if zah E h i st o.op then none else
 match zOb o with
 | some q => if o.guard.isNone then some ({ tm := tput st.tm (some q.1) (.ptr st.fs.lv q.1 0), fs := st.fs, lp := st.lp }, []) else none
 | none => match aget i h.soft with
  | some s => match zlm o.op with
   | some q => if o.guard.isNone then (zrn E st o.dst s q.1 q.2.1 q.2.2).map fun st' => (st', []) else none
   | none => match zvj o.op with
    | some q => if o.guard.isNone ∧ o.dst = some s then zbu E V fid rid i st s q.1 q.2.1 q.2.2 else none
    | none => match zld o.op with
     | some q => if o.guard.isNone then entV E V fid rid i st o.dst q else none
     | none => none
  | none => zas E V rec fid rid i ops (h.sp.contains i) st o
def zzr (rec : RecV) (fid rid : Nat) (ops : Array Oper) (h : zCb) : Nat → List Oper → St → W St
 | _, [], st => some (st, [])
 | i, o :: t, st => W.seq (zss E V rec fid rid ops h i st o) (zzr rec fid rid ops h (i + 1) t)
def zAt (rec : RecV) (fid id : Nat) (ops : Array Oper) (draw : Bool) (st : St) : W St :=
 if draw then
  match zGo (E.H fid) id with
  | some h => match zEq E.P h ops.toList st.fs with
   | some fs => zzr E V rec fid id ops h 0 ops.toList { st with tm := z6g (E.H fid) st.tm, fs := fs }
   | none => none
  | none => none
 else zBs E V rec fid id ops 0 ops.toList { st with tm := z6g (E.H fid) st.tm }
def renT (tm : TM) : List (Nat × Nat) → TM × List Prop
 | [] => (tm, [])
 | p :: t => match tget tm p.1 with
  | .row l s n => let q := renT (aset p.1 (.row l s p.2) tm) t; (q.1, (n = p.2) :: q.2)
  | _ => renT tm t
def renF (fr : Fr) : List (Nat × Nat × Nat) → Fr × List Prop
 | [] => (fr, [])
 | p :: t => match aget p.1 fr with
  | some (.cells cs) => match cs[p.2.1]? with
   | some (.row l s n) => let q := renF (aset p.1 (.cells (cs.set p.2.1 (.row l s p.2.2))) fr) t; (q.1, (n = p.2.2) :: q.2)
   | _ => renF fr t
  | _ => renF fr t
theorem zcr : ∀ {ts : List (Nat × Nat)} {tm : TM}, All (renT tm ts).2 → (renT tm ts).1 = tm
 | [], _, _ => rfl
 | p :: t, tm, h => by
  unfold renT at h ⊢
  cases hx : tget tm p.1 with
  | row l s n =>
   simp only [hx] at h ⊢
   obtain ⟨rfl, h2⟩ := zCh h
   rw [zcr h2]
   unfold tget at hx
   cases ha : aget p.1 tm with
   | none => rw [ha] at hx; simp at hx
   | some x =>
    rw [ha] at hx
    simp only [Option.getD_some] at hx
    rw [← hx]
    exact z9k ha
  | _ => simp only [hx] at h ⊢; exact zcr h
theorem zkm : ∀ {ts : List (Nat × Nat × Nat)} {fr : Fr}, All (renF fr ts).2 → (renF fr ts).1 = fr
 | [], _, _ => rfl
 | p :: t, fr, h => by
  unfold renF at h ⊢
  cases ha : aget p.1 fr with
  | none => simp only [ha] at h ⊢; exact zkm h
  | some o =>
   cases o with
   | cells cs =>
    simp only [ha] at h ⊢
    cases hc : cs[p.2.1]? with
    | none => simp only [hc] at h ⊢; exact zkm h
    | some x =>
     cases x with
     | row l s n =>
      simp only [hc] at h ⊢
      obtain ⟨rfl, h2⟩ := zCh h
      rw [zkm h2]
      have : cs.set p.2.1 (.row l s p.2.2) = cs := by
       apply List.ext_getElem?
       intro i
       by_cases hi : p.2.1 = i
       ·subst hi
        rw [List.getElem?_set_self (List.getElem?_eq_some_iff.1 hc).1, hc]
       ·rw [List.getElem?_set_ne hi]
      rw [this]
      exact z9k ha
     | _ => simp only [hc] at h ⊢; exact zkm h
   | _ => simp only [ha] at h ⊢; exact zkm h
def zWu (rec : RecV) (fid id : Nat) (ops : Array Oper) (draw : Bool) (st : St) : W St :=
 W.seq (zAt E V rec fid id ops draw st) fun s => match oget fid id 999 V with
  | some (.nm ts cs) => some ({ tm := (renT (z6g (E.H fid) s.tm) ts).1, fs := { s.fs with fr := (renF s.fs.fr cs).1 }, lp := s.lp }, (renT (z6g (E.H fid) s.tm) ts).2 ++ (renF s.fs.fr cs).2)
  | _ => some ({ s with tm := z6g (E.H fid) s.tm }, [])
def zVp (rec : RecV) (fid : Nat) (c : Code) (st : St) : W (Ex × St) :=
 match c with
 | .skip => some ((.nor, st), [])
 | .label _ => some ((.nor, st), [])
 | .region id ops draw => match cget fid (1000000 + id) C with
  | some r => some (r, [ev E fid (.region id ops draw) st = some r])
  | none => W.seq (zWu E V rec fid id ops draw st) fun s => some ((.nor, s), [])
 | .seq a b => W.seq (rec fid a st) fun r => if r.1 = .nor then rec fid b r.2 else some (r, [])
 | .cond c a b => match cutC fid c C with
  | some r => some (r, [ev E fid (.cond c a b) st = some r])
  | none => match evA E st.tm c with
   | .d (.b t) => rec fid (if t then a else b) st
   | _ => none
 | .block id c => match cget fid id C with
  | some r => some (r, [ev E fid (.block id c) st = some r])
  | none => W.seq (rec fid c st) fun r => some ((if r.1 = .exit id then .nor else r.1, r.2), [])
 | .rangeFunc f ps assign body => match zX (evA E st.tm f) with
  | some q =>
   W.seq (zSn E rec q.1 (q.2.1 ++ [.yld st.lp.length] ++ q.2.2) st.fs (st.lp ++ [{ tm := st.tm, lv := st.fs.lv, ps := ps, assign := assign, body := body, fid := fid, st := .rdy }])) fun r =>
    match r.2.2[st.lp.length]? with
    | some l => match l.st with
     | .rdy => some ((.nor, { st with fs := r.2.1, lp := r.2.2.dropLast }), [])
     | .done e => some ((e, { st with fs := r.2.1, lp := r.2.2.dropLast }), [])
     | .busy => none
    | none => none
  | none => none
 | .exit id => some ((.exit id, st), [])
 | .scope c => rec fid c st
 | .ret => some ((.ret, st), [])
 | _ => none
def evV : Nat → RecV
 | 0 => fun _ _ _ => none
 | n + 1 => zVp E V C (evV n)
def zbs (n : Nat) (f : Nat) (ds : List D) : W D :=
 W.seq (runV E (evV E V C n) f (ds.map .d) [] []) fun q => (zFc q.2.fs q.1).map fun ds => (tupD ds, [])
def z7q (n : Nat) (f : Nat) (ds : List D) (res : List D) : W D :=
 W.seq (runV E (evV E V C n) f (ds.map .d) [] []) fun q => some (tupD res, [zFc q.2.fs q.1 = some res])
def zFp (rs : List Nat) (st0 st : St) : W St :=
 let tm := st0.tm.map fun p => (p.1, tget st.tm p.1)
 let gone := (st.fs.fr.filter fun p => (aget p.1 st0.fs.fr).isNone).map (·.1)
 let fr := st.fs.fr.filter fun p => (aget p.1 st0.fs.fr).isSome
 if tm.all (fun p => !X.refs st.fs.lv gone p.2) && fr.all (fun p => rs.contains p.1 || !O.refs st.fs.lv gone p.2) then
  some ({ tm := tm, fs := { st.fs with fr := fr }, lp := st.lp }, (fr.filter fun p => rs.contains p.1).map fun p => ∀ l ss, O.refs l ss p.2 = false) else none
theorem zIt : ∀ {ps : List Prop} {p : Prop}, All ps → p ∈ ps → p
 | [], p, _, h => by simp at h
 | q :: t, p, hA, h => by
  rcases List.mem_cons.1 h with rfl | h
  ·exact (zCh hA).1
  ·exact zIt (zCh hA).2 h
def zRk (rs : List Nat) (n : Nat) (fid : Nat) (c : Code) (st : St) : W (St ⊕ (Ex × St)) :=
 match c with
 | .loop c => W.seq (evV E V C n fid c st) fun r => if r.1 = .nor then W.seq (zFp rs st r.2) fun s => some (.inl s, []) else some (.inr r, [])
 | _ => none
def Good {α : Type} (x : W α) (y : Option α) : Prop := ∀ a P, x = some (a, P) → All P → y = some a
theorem Good.none {α : Type} {y : Option α} : Good (.none : W α) y := fun a P h => by simp at h
theorem Good.pure {α : Type} (a : α) : Good (some (a, [])) (some a) := fun b P h _ => by simp only [Option.some.injEq, Prod.mk.injEq] at h; rw [h.1]
theorem Good.seq {α β : Type} {x : W α} {y : Option α} {f : α → W β} {g : α → Option β} (h : Good x y) (k : ∀ a, y = some a → Good (f a) (g a)) : Good (W.seq x f) (y.bind g) := fun b P e hP => by
 unfold W.seq at e
 cases x with
 | none => simp at e
 | some p =>
  simp only at e
  cases hf : f p.1 with
  | none => simp [hf] at e
  | some q =>
   simp only [hf, Option.some.injEq, Prod.mk.injEq] at e
   obtain ⟨rfl, rfl⟩ := e
   have h1 := h p.1 p.2 rfl (zri hP)
   rw [h1]
   exact k p.1 h1 q.1 q.2 hf (zoh hP)
theorem Good.to {α : Type} {x : W α} {y z : Option α} (h : Good x y) (e : z = y) : Good x z := e ▸ h
theorem Good.map {α β : Type} {y : Option α} (g : α → β) : Good (y.map fun a => (g a, [])) (y.map g) := fun b P e _ => by
 cases y with
 | none => simp at e
 | some a => simp only [Option.map_some, Option.some.injEq, Prod.mk.injEq] at e; rw [Option.map_some, e.1]
theorem Good.one {α : Type} {a : α} {p : Prop} {y : Option α} (h : p → y = some a) : Good (some (a, [p])) y := fun b P e hP => by
 simp only [Option.some.injEq, Prod.mk.injEq] at e
 obtain ⟨rfl, rfl⟩ := e
 exact h hP
theorem Good.ite {α : Type} {p : Prop} [Decidable p] {x x' : W α} {y y' : Option α} (h : p → Good x y) (k : ¬ p → Good x' y') : Good (if p then x else x') (if p then y else y') := by
 by_cases hp : p
 ·rw [if_pos hp, if_pos hp]; exact h hp
 ·rw [if_neg hp, if_neg hp]; exact k hp
variable {E V C}
abbrev zRj (E : Env) (rec : RecV) : Prop := ∀ fid c st, Good (rec fid c st) (ev E fid c st)
theorem zoo {rec : RecV} (H : zRj E rec) (f : Nat) (args : List X) (lo : List Fr) (lp : List LRec) : Good (runV E rec f args lo lp) (run E (ev E) f args lo lp) := by
 unfold runV run
 cases fnOf E f args.length with
 | none => exact .none
 | some q =>
  simp only
  refine ((H f q.2 _).seq (g := fun r => if r.1 = .nor ∨ r.1 = .ret then (znn E.P r.2 q.1.results.toList).map fun xs => (xs, r.2) else none) fun r _ => .ite (fun _ => .map _) (fun _ => .none)).to ?_
  cases ev E f q.2 { tm := params 0 args, fs := { fr := [], lo := lo }, lp := lp } <;> rfl
theorem zMo {rec : RecV} (H : zRj E rec) (f : Nat) (args : List X) (fs : FS) (lp : List LRec) : Good (zSn E rec f args fs lp) (zMb E (ev E) f args fs lp) := by
 unfold zSn zMb
 refine ((zoo H f args (fs.lo ++ [fs.fr]) lp).seq (g := fun q => match zFc q.2.fs q.1, zMg q.2.fs.lo with
  | some ds, some fs' => some (tupD ds, fs', q.2.lp)
  | _, _ => none) fun q _ => ?_).to ?_
 ·cases zFc q.2.fs q.1 with
  | none => exact .none
  | some ds => cases zMg q.2.fs.lo with
   | none => exact .none
   | some fs' => exact .pure _
 ·cases run E (ev E) f args (fs.lo ++ [fs.fr]) lp with
  | none => rfl
  | some q => simp only [Option.bind_some]; cases zFc q.2.fs q.1 <;> cases zMg q.2.fs.lo <;> rfl
theorem zqu {rec : RecV} (H : zRj E rec) (k : Nat) (args : List X) (fs : FS) (lp : List LRec) : Good (zhs rec k args fs lp) (round (ev E) k args fs lp) := by
 unfold zhs round
 cases lp[k]? with
 | none => exact .none
 | some r =>
  simp only
  refine .ite (fun _ => ?_) (fun _ => .none)
  cases allD args with
  | none => exact .none
  | some _ =>
   simp only
   refine ((H r.fid r.assign _).seq (g := fun q => if q.1 = .nor ∧ (q.2.lp[k]?).map (·.st) = some .rdy then
      (ev E r.fid r.body { q.2 with lp := q.2.lp.set k { r with st := .busy } }).bind fun q2 => (match zMg q2.2.fs.lo with
       | some fs' => some (.b (decide (q2.1 = .nor)), fs', q2.2.lp.set k { r with st := if q2.1 = .nor then .rdy else .done q2.1 })
       | none => none)
     else none) fun q _ => .ite (fun _ => (H r.fid r.body _).seq fun q2 _ => ?_) (fun _ => .none)).to ?_
   ·cases zMg q2.2.fs.lo with
    | none => exact .none
    | some fs' => exact .pure _
   ·cases ev E r.fid r.assign { tm := zLl r.tm r.ps.toList args, fs := { fr := [], lo := fs.lo ++ [fs.fr] }, lp := lp } with
    | none => rfl
    | some q =>
     simp only [Option.bind_some]
     split
     ·cases ev E r.fid r.body { q.2 with lp := q.2.lp.set k { r with st := .busy } } <;> rfl
     ·rfl
theorem zHk {α β : Type} (y : Option α) (f : α → β) : y.map f = y.bind fun a => some (f a) := by cases y <;> rfl
theorem zFs {st : St} {fs : FS} {d : Nat} {r : List X × St} : Good (zgo st fs d r) (zxg st fs d r) := by
 unfold zgo zxg
 split
 ·rename_i l s n hr
  simp only [hr]
  refine .ite (fun _ => ?_) (fun _ => .none)
  cases aget s r.2.fs.fr with
  | none => exact .none
  | some o =>
   simp only
   cases zV { st with fs := fs } (some d) d o with
   | none => exact .none
   | some fs' => exact .one fun hp => by rw [if_pos hp]; rfl
 ·rename_i hr
  simp only [hr]
  exact .map _
 ·exact .none
theorem ziv {rec : RecV} (H : zRj E rec) (h : Hint) (st : St) (t : Option Nat) (op : Op) : Good (zou E rec h st t op) (evL E (ev E) h st t op) := by
 unfold zou
 cases op <;> try exact .none
 case call c =>
  cases hc : c.callee with
  | builtin b => simp only [hc]; exact .none
  | invoke r m => simp only [hc]; exact .none
  | value f =>
   simp only [hc, evL]
   generalize evA E st.tm f = fv
   have other : Good (match zX fv with
    | some q =>
     let args := q.2.1 ++ c.args.toList.map (evA E st.tm) ++ q.2.2
     match zjb (args.foldl zY st.fs).get args with
     | some ds => match t with
      | some d => if h.rowSites.contains d then W.seq (runV E rec q.1 (ds.map .d) [] []) (zgo st (args.foldl zY st.fs) d)
       else none
      | none => none
     | none => W.seq (zSn E rec q.1 args st.fs st.lp) fun r => some ((.d r.1, r.2.1, r.2.2), [])
    | none => none) (match zX fv with
    | some q =>
     let args := q.2.1 ++ c.args.toList.map (evA E st.tm) ++ q.2.2
     let fs := args.foldl zY st.fs
     match zjb fs.get args with
     | some ds => match t with
      | some d => if h.rowSites.contains d then
        ((run E (ev E) q.1 (ds.map .d) [] []).bind (zxg st fs d))
       else (zx E (ev E) q.1 ds).map fun r => (.d r, fs, st.lp)
      | none => (zx E (ev E) q.1 ds).map fun r => (.d r, fs, st.lp)
     | none => (zMb E (ev E) q.1 args st.fs st.lp).map fun r => (.d r.1, r.2.1, r.2.2)
    | none => none) := by
    cases zX fv with
    | none => exact .none
    | some q =>
     simp only
     cases zjb ((q.2.1 ++ c.args.toList.map (evA E st.tm) ++ q.2.2).foldl zY st.fs).get (q.2.1 ++ c.args.toList.map (evA E st.tm) ++ q.2.2) with
     | some ds =>
      simp only
      cases t with
      | none => exact .none
      | some d =>
       simp only
       refine .ite (fun _ => ?_) (fun _ => .none)
       generalize (q.2.1 ++ c.args.toList.map (evA E st.tm) ++ q.2.2).foldl zY st.fs = fs
       exact (zoo H q.1 (ds.map .d) [] []).seq fun r _ => zFs
     | none =>
      simp only
      exact ((zMo H q.1 _ st.fs st.lp).seq (g := fun r => some (X.d r.1, r.2.1, r.2.2)) fun r _ => .pure _).to (zHk _ _)
   cases fv with
   | yld k => exact ((zqu H k _ st.fs st.lp).seq (g := fun r => some (X.d r.1, r.2.1, r.2.2)) fun r _ => .pure _).to (zHk _ _)
   | _ => exact other
theorem zCs {cp cp' : Nat → List D → Option D} {ρ : Operand → X} {φ : Get} {op : Op} (h : zdk op = false) : evQ E cp ρ φ op = evQ E cp' ρ φ op := by
 cases op <;> try rfl
 case call c =>
  unfold zdk at h
  simp only at h
  cases hc : c.callee with
  | builtin b => simp only [evQ, hc]
  | value f => simp [hc] at h
  | invoke r m => simp [hc] at h
theorem zbw {cp : Nat → List D → Option D} {ρ : Operand → X} {φ : Get} {op : Op} {x : X} (h : evQ E (fun _ _ => none) ρ φ op = some x) : evQ E cp ρ φ op = some x := by
 cases hf : zdk op with
 | false => rw [zCs hf]; exact h
 | true =>
  cases op <;> simp [zdk] at hf
  case call c =>
   cases hc : c.callee with
   | builtin b => simp [hc] at hf
   | invoke r m => simp [evQ, hc] at h
   | value f =>
    simp only [evQ, hc] at h
    cases hq : zX (ρ f) with
    | none => simp [hq] at h
    | some q =>
     simp only [hq] at h
     cases hd : zjb φ (q.2.1 ++ c.args.toList.map ρ ++ q.2.2) with
     | none => rw [hd] at h; simp at h
     | some ds => rw [hd] at h; simp at h
theorem zFv {rec rec' : Rec} {h : Hint} {st : St} {t : Option Nat} {op : Op} (hf : zdk op = false) : evL E rec h st t op = evL E rec' h st t op := by
 cases op <;> try rfl
 case makeMap T r => cases r <;> rfl
 case call c =>
  unfold zdk at hf
  simp only at hf
  cases hc : c.callee with
  | builtin b => simp only [evL, hc]; cases b <;> rfl
  | value f => simp [hc] at hf
  | invoke r m => simp [hc] at hf
theorem z0t {st : St} {op : Op} {v : Ov} : Good (z1j E st op v) (evQ E (zx E (ev E)) (evA E st.tm) st.fs.get op) := by
 cases v <;> try exact .none
 case q x =>
  unfold z1j
  simp only
  split
  ·exact .none
  ·exact .one id
 case c d =>
  unfold z1j
  simp only
  cases op <;> try exact .none
  case call c =>
   cases hc : c.callee with
   | builtin b => simp only [hc]; exact .none
   | invoke r m => simp only [hc]; exact .none
   | value f =>
    simp only [hc, evQ]
    cases zX (evA E st.tm f) with
    | none => exact .none
    | some q =>
     simp only
     cases zjb st.fs.get (q.2.1 ++ c.args.toList.map (evA E st.tm) ++ q.2.2) with
     | none => exact .none
     | some ds => exact .one fun h => by simp only [h, Option.map_some]
theorem zcu {st : St} {op : Op} {v : Ov} {x : X} {P : List Prop} (h : z1j E st op v = some (x, P)) (hP : All P) : zkh E (evA E st.tm) st.fs.get op = true := by
 unfold zkh
 cases v <;> try (simp [z1j] at h; done)
 case q y =>
  unfold z1j at h
  simp only at h
  split at h
  ·simp at h
  ·rename_i hf
   simp only [Option.some.injEq, Prod.mk.injEq] at h
   obtain ⟨rfl, rfl⟩ := h
   rw [zCs (cp' := zx E (ev E)) (by simpa using hf)]
   have : evQ E (zx E (ev E)) (evA E st.tm) st.fs.get op = some y := hP
   rw [this]; rfl
 case c d =>
  unfold z1j at h
  simp only at h
  cases op <;> try (simp at h; done)
  case call c =>
   cases hc : c.callee with
   | builtin b => simp [hc] at h
   | invoke r m => simp [hc] at h
   | value f =>
    simp only [hc] at h
    simp only [evQ, hc]
    cases hq : zX (evA E st.tm f) with
    | none => simp [hq] at h
    | some q =>
     simp only [hq] at h
     simp only
     cases hd : zjb st.fs.get (q.2.1 ++ c.args.toList.map (evA E st.tm) ++ q.2.2) with
     | none => rw [hd] at h; simp at h
     | some ds => rfl
theorem zDq {P : Program} {φ : Get} {T : TypeId} {ρ : Operand → X} {l s n : Nat} {o : O} {lo hi mx : Option Operand} (h : φ l s = some o) : zKf P φ T ρ (.row l s n) lo hi mx = zKf P (fun _ _ => some o) T ρ (.row l s n) lo hi mx := by
 have e : toD φ (.row l s n) = toD (fun _ _ => some o) (.row l s n) := zim h
 unfold zKf
 cases optI ρ lo <;> cases optI ρ hi <;> cases optI ρ mx <;> try rfl
 cases P.underlying T with
 | none => rfl
 | some u => cases u <;> first | rfl | (simp only [e])
theorem zku {fid : Nat} {st : St} {t : Option Nat} {op : Op} {v : Ov} : Good (zce E fid st t op v) (evL E (ev E) (E.H fid) st t op) := by
 cases v with
 | q x => exact .none
 | nm ts cs => exact .none
 | l x lv s o =>
  unfold zce
  simp only
  split
  ·exact .none
  ·exact .one id
 | st cs' =>
  unfold zce
  simp only
  cases op <;> try exact .none
  case store T a x =>
   simp only
   split
   ·rename_i n vs l s o hw hn hv ha
    refine Good.to (y := (stX E.P st.lp st.fs T (evA E st.tm a) (evA E st.tm x)).map fun fs => (X.d (.tup []), fs, st.lp)) ?_ ?_
    ·simp only [stX, hn, hv, ha]
     by_cases h1 : vs.length = n
     ·rw [if_pos h1, if_pos h1]
      cases h2 : st.fs.get l s with
      | none => exact .none
      | some ob =>
       cases ob with
       | cells cs =>
        simp only
        split
        ·rename_i h3
         refine .one fun hp => ?_
         rw [if_pos ⟨hp.1, h3⟩, hp.2]; rfl
        ·exact .none
       | _ => exact .none
     ·rw [if_neg h1]; exact .none
    ·simp only [evL]
     rw [if_neg (by rw [Bool.not_eq_true', ] at hw; rw [hw]; simp)]
   ·exact .none
 | mp es' =>
  unfold zce
  simp only
  cases op <;> try exact .none
  case mapUpdate T m k v =>
   simp only [evL]
   split
   ·rename_i vd q l s kd hv hq hm hk
    rw [hv]
    simp only [mupX, hq, hm, hk]
    by_cases h1 : zGg E.P q.1 kd = true
    ·rw [if_pos h1, if_pos h1]
     cases h2 : (zY st.fs (evA E st.tm v)).get l s with
     | none => exact .none
     | some ob =>
      cases ob with
      | map es =>
       refine .one fun hp => ?_
       simp only [hp, Option.map_some]
      | _ => exact .none
    ·rw [if_neg h1]; exact .none
   ·exact .none
  case entryStore T m n v =>
   simp only [evL]
   split
   ·rename_i l s n vd hm hn hv
    simp only [estX, hm, hn, hv]
    cases h2 : st.fs.get l s with
    | none => exact .none
    | some ob =>
     cases ob with
     | map es =>
      refine .one fun hp => ?_
      obtain ⟨h0, hp⟩ := hp
      simp only [if_pos h0]
      obtain ⟨p, hp1, hp2⟩ := Option.map_eq_some_iff.1 hp
      rw [hp1, ← hp2]
      rfl
     | _ => exact .none
   ·exact .none
 | me d n es' =>
  unfold zce
  simp only
  cases op <;> try exact .none
  case mapEntry T m k =>
   simp only [evL]
   split
   ·rename_i q l s kd hq hm hk
    simp only [zIi, hq, hm, hk]
    by_cases h1 : zGg E.P q.1 kd = true
    ·rw [if_pos h1, if_pos h1]
     cases h3 : zvT E.P q.2 with
     | none => exact .none
     | some z =>
      cases h2 : st.fs.get l s with
      | none => exact .none
      | some ob =>
       cases ob with
       | map es =>
        refine .one fun hp => ?_
        simp only [hp, Option.map_some]
       | _ => exact .none
    ·rw [if_neg h1]; exact .none
   ·exact .none
 | c d =>
  unfold zce
  simp only
  cases op <;> try exact .none
  case call c =>
   cases hc : c.callee with
   | builtin b => simp only [hc]; exact .none
   | invoke r m => simp only [hc]; exact .none
   | value f =>
    simp only [hc, evL]
    generalize evA E st.tm f = fv
    have other : Good (match zX fv with
     | some q =>
      let args := q.2.1 ++ c.args.toList.map (evA E st.tm) ++ q.2.2
      let fs := args.foldl zY st.fs
      match zjb fs.get args with
      | some ds => match t with
       | some t => if (E.H fid).rowSites.contains t then none else some ((X.d d, fs, st.lp), [zx E (ev E) q.1 ds = some d])
       | none => some ((X.d d, fs, st.lp), [zx E (ev E) q.1 ds = some d])
      | none => none
     | none => none) (match zX fv with
     | some q =>
      let args := q.2.1 ++ c.args.toList.map (evA E st.tm) ++ q.2.2
      let fs := args.foldl zY st.fs
      match zjb fs.get args with
      | some ds => match t with
       | some d => if (E.H fid).rowSites.contains d then
         ((run E (ev E) q.1 (ds.map .d) [] []).bind (zxg st fs d))
        else (zx E (ev E) q.1 ds).map fun r => (.d r, fs, st.lp)
       | none => (zx E (ev E) q.1 ds).map fun r => (.d r, fs, st.lp)
      | none => (zMb E (ev E) q.1 args st.fs st.lp).map fun r => (.d r.1, r.2.1, r.2.2)
     | none => none) := by
     cases zX fv with
     | none => exact .none
     | some q =>
      simp only
      cases zjb ((q.2.1 ++ c.args.toList.map (evA E st.tm) ++ q.2.2).foldl zY st.fs).get (q.2.1 ++ c.args.toList.map (evA E st.tm) ++ q.2.2) with
      | none => exact .none
      | some ds =>
       cases t with
       | none => exact .one fun hp => by simp only [hp, Option.map_some]
       | some t =>
        simp only
        split
        ·exact .none
        ·exact .one fun hp => by simp only [hp, Option.map_some]
    cases fv with
    | yld k => exact .none
    | _ => exact other
 | ap n' o' =>
  unfold zce
  simp only
  cases op <;> try exact .none
  case call c =>
   cases hc : c.callee with
   | value f => simp only [hc]; exact .none
   | invoke r m => simp only [hc]; exact .none
   | builtin b =>
    cases b <;> simp only [hc] <;> try exact .none
    simp only [evL, hc]
    split
    ·rename_i T U _ l s n x hT hA
     by_cases e : T = U
     ·simp only [e, if_true]
      split
      ·rename_i q xs o hq hx ho
       exact .one fun hp => by simp only [hT, hA, e, if_true]; rw [zPw hq hx ho hp]; rfl
      ·exact .none
     ·simp only [e, if_false]; exact .none
    ·exact .none
 | sr x' o' =>
  unfold zce
  simp only
  cases op <;> try exact .none
  case slice T x lo hi mx =>
   simp only [evL]
   cases hx : evA E st.tm x <;> try exact .none
   rename_i l s n
   simp only
   cases ho : st.fs.get l s with
   | none => exact .none
   | some o =>
    exact .one fun hp => by
     obtain ⟨h1, h2⟩ := hp
     simp only [zwm ho, h1]
     rw [zDq (FS.gs1 ho), h2]; rfl
 | cr rs d =>
  unfold zce
  simp only
  cases op <;> try exact .none
  case call c =>
   cases hc : c.callee with
   | builtin b => simp only [hc]; exact .none
   | invoke r m => simp only [hc]; exact .none
   | value f =>
    simp only [hc, evL]
    generalize evA E st.tm f = fv
    have other : Good (match zX fv with
     | some q => match zaj st.fs (q.2.1 ++ c.args.toList.map (evA E st.tm) ++ q.2.2) rs with
      | some p => match t with
       | some t => if (E.H fid).rowSites.contains t then none else some ((X.d d, p.1.2.1, st.lp), p.2 ++ [zx E (ev E) q.1 p.1.1 = some d])
       | none => some ((X.d d, p.1.2.1, st.lp), p.2 ++ [zx E (ev E) q.1 p.1.1 = some d])
      | none => none
     | none => none) (match zX fv with
     | some q =>
      let args := q.2.1 ++ c.args.toList.map (evA E st.tm) ++ q.2.2
      let fs := args.foldl zY st.fs
      match zjb fs.get args with
      | some ds => match t with
       | some d => if (E.H fid).rowSites.contains d then
         ((run E (ev E) q.1 (ds.map .d) [] []).bind (zxg st fs d))
        else (zx E (ev E) q.1 ds).map fun r => (.d r, fs, st.lp)
       | none => (zx E (ev E) q.1 ds).map fun r => (.d r, fs, st.lp)
      | none => (zMb E (ev E) q.1 args st.fs st.lp).map fun r => (.d r.1, r.2.1, r.2.2)
     | none => none) := by
     cases zX fv with
     | none => exact .none
     | some q =>
      simp only
      cases hl : zaj st.fs (q.2.1 ++ c.args.toList.map (evA E st.tm) ++ q.2.2) rs with
      | none => exact .none
      | some p =>
       simp only
       have fin : ∀ {y : Option (X × FS × List LRec)}, ((p.2 ++ [zx E (ev E) q.1 p.1.1 = some d]) |> All) → ((q.2.1 ++ c.args.toList.map (evA E st.tm) ++ q.2.2).foldl zY st.fs = p.1.2.1 ∧ zjb p.1.2.1.get (q.2.1 ++ c.args.toList.map (evA E st.tm) ++ q.2.2) = some p.1.1 ∧ zx E (ev E) q.1 p.1.1 = some d) := fun hP => by
        obtain ⟨h1, h2, h3⟩ := zZl (r := p.1) (P := p.2) hl (zri hP)
        exact ⟨h1, h3 _ (.refl _), zoh (s := p.2) hP⟩
       cases t with
       | none =>
        intro a P e hP
        simp only [Option.some.injEq, Prod.mk.injEq] at e
        obtain ⟨rfl, rfl⟩ := e
        obtain ⟨h1, h2, h3⟩ := fin (y := none) hP
        simp only [h1, h2, h3, Option.map_some]
       | some t =>
        simp only
        split
        ·exact .none
        ·rename_i hr
         intro a P e hP
         simp only [Option.some.injEq, Prod.mk.injEq] at e
         obtain ⟨rfl, rfl⟩ := e
         obtain ⟨h1, h2, h3⟩ := fin (y := none) hP
         simp only [h1, h2, h3, Option.map_some]
    cases fv with
    | yld k => exact .none
    | _ => exact other
 | rs o' =>
  unfold zce
  simp only
  cases op <;> try exact .none
  case store T a x =>
   simp only
   split
   ·rename_i n ds l s k i f hw hn hv ha
    refine Good.to (y := (stX E.P st.lp st.fs T (evA E st.tm a) (evA E st.tm x)).map fun fs => (X.d (.tup []), fs, st.lp)) ?_ ?_
    ·obtain ⟨vs, hv1, hv2⟩ := Option.bind_eq_some_iff.1 hv
     have hlen : vs.length = ds.length := by rw [zgh hv2]; simp
     simp only [stX, hn, hv1, ha]
     by_cases h1 : ds.length = n
     ·rw [if_pos h1, if_pos (by rw [hlen, h1])]
      cases h2 : st.fs.get l s with
      | none => exact .none
      | some ob =>
       refine .one fun hp => ?_
       unfold stO at hp
       cases ob with
       | row z es w =>
        cases w with
        | true =>
         simp only at hp ⊢
         by_cases h3 : es.length = k
         ·rw [if_pos h3] at hp ⊢
          obtain ⟨e, he, hp⟩ := Option.bind_eq_some_iff.1 hp
          rw [he]
          simp only [Option.bind_some, hv2]
          by_cases h4 : f + n ≤ e.length
          ·rw [if_pos h4] at hp ⊢
           simp only [Option.some.injEq] at hp
           simp only [Option.map_some, hp]
          ·rw [if_neg h4] at hp; simp at hp
         ·rw [if_neg h3] at hp; simp at hp
        | false => simp at hp
       | _ => simp at hp
     ·rw [if_neg h1]; exact .none
    ·simp only [evL]
     rw [if_neg (by rw [Bool.not_eq_true', ] at hw; rw [hw]; simp)]
   ·exact .none
 | ns es' n' =>
  unfold zce
  simp only
  cases op <;> try exact .none
  case call c =>
   cases hc : c.callee with
   | value f => simp only [hc]; exact .none
   | invoke r m => simp only [hc]; exact .none
   | builtin b =>
    cases b <;> simp only [hc] <;> try exact .none
    simp only [evL, hc]
    split
    ·rename_i T U _ ss xs cx hT hA
     by_cases e : T = U
     ·simp only [e, if_true]
      cases t with
      | none => exact .none
      | some d =>
       cases hq : slT E.P U with
       | none => exact .none
       | some q =>
        simp only [hq]
        by_cases hr : (E.H fid).rowSites.contains d = true
        ·rw [if_pos hr]
         cases hn : zV st (some d) d (.row q.1 es' true) with
         | none => exact .none
         | some fs =>
          intro a P e' hP
          simp only [Option.some.injEq, Prod.mk.injEq] at e'
          obtain ⟨rfl, rfl⟩ := e'
          obtain ⟨h0, ⟨k, h1⟩, h2⟩ := hP
          have h2' : (ss.isEmpty || !xs.isEmpty) = true := h2
          simp only [hT, hA, e, hq, h1, hr, h2', hn, and_self, if_true, Option.map_some, h0]
        ·rw [if_neg hr]; exact .none
     ·simp only [e, if_false]; exact .none
    ·exact .none
 | fz r o' =>
  unfold zce
  cases op <;> try exact .none
  case assign x =>
   cases t with
   | none => exact .none
   | some d =>
    simp only [evL]
    cases hx : evA E st.tm x <;> try exact .none
    rename_i l s n
    simp only
    by_cases hf : (E.H fid).rowVars.contains (1000000 + d) = true
    ·rw [if_pos hf, if_pos hf]
     cases ho : st.fs.get l s with
     | none => exact .none
     | some o =>
      refine .one fun hp => ?_
      obtain ⟨h1, h2⟩ := hp
      simp only [toDA, zY, zwm ho, h1, zim (FS.gs1 ho), h2, Option.map_some]
    ·rw [if_neg hf]; exact .none
  case buildSlice T n ps =>
   cases t with
   | none => exact .none
   | some d =>
    simp only [evL]
    cases hps : ps.toList with
    | nil => exact .none
    | cons p pt =>
     cases pt with
     | cons _ _ => exact .none
     | nil =>
      simp only
      cases hx : evA E st.tm p.2 <;> try exact .none
      rename_i l s n'
      simp only
      by_cases hf : (E.H fid).rowVars.contains (2000000 + d) = true
      ·rw [if_pos hf, if_pos hf]
       cases ho : st.fs.get l s with
       | none => exact .none
       | some o =>
        cases hb : zFi E.P T n [(p.1, .d r)] with
        | none => exact .none
        | some x =>
         refine .one fun hp => ?_
         obtain ⟨h1, h2⟩ := hp
         simp only [List.map_cons, List.map_nil, List.foldl_cons, List.foldl_nil, hx, asD, toDA, zY, zwm ho, h1, zim (FS.gs1 ho), h2, hb, Option.map_some]
      ·rw [if_neg hf]; exact .none
 | ms n' es' =>
  unfold zce
  cases op <;> try exact .none
  case makeSlice T n c =>
   cases t with
   | none => exact .none
   | some d =>
    simp only [evL]
    split
    ·rename_i q n c hq hn hc
     cases hs : zV st (some d) d (.row q.1 es' true) with
     | none => exact .none
     | some fs =>
      intro a P e hP
      simp only [Option.some.injEq, Prod.mk.injEq] at e
      obtain ⟨rfl, rfl⟩ := e
      obtain ⟨h1, h2, h3⟩ := hP
      have h3' : List.replicate n.toNat q.2 = es' := h3
      simp only [hq, hn, hc]
      rw [if_pos h1, h3', hs, h2]; rfl
    ·exact .none
 | i d fs lp =>
  unfold zce
  simp only
  cases op <;> try exact .none
  case call c =>
   cases hc : c.callee with
   | builtin b => simp only [hc]; exact .none
   | invoke r m => simp only [hc]; exact .none
   | value f =>
    simp only [hc, evL]
    generalize evA E st.tm f = fv
    have other : Good (match zX fv with
     | some q =>
      let args := q.2.1 ++ c.args.toList.map (evA E st.tm) ++ q.2.2
      match zjb (args.foldl zY st.fs).get args with
      | some _ => none
      | none => some ((X.d d, fs, lp), [zMb E (ev E) q.1 args st.fs st.lp = some (d, fs, lp)])
     | none => none) (match zX fv with
     | some q =>
      let args := q.2.1 ++ c.args.toList.map (evA E st.tm) ++ q.2.2
      let fs := args.foldl zY st.fs
      match zjb fs.get args with
      | some ds => match t with
       | some d => if (E.H fid).rowSites.contains d then
         ((run E (ev E) q.1 (ds.map .d) [] []).bind (zxg st fs d))
        else (zx E (ev E) q.1 ds).map fun r => (.d r, fs, st.lp)
       | none => (zx E (ev E) q.1 ds).map fun r => (.d r, fs, st.lp)
      | none => (zMb E (ev E) q.1 args st.fs st.lp).map fun r => (.d r.1, r.2.1, r.2.2)
     | none => none) := by
     cases zX fv with
     | none => exact .none
     | some q =>
      simp only
      cases zjb ((q.2.1 ++ c.args.toList.map (evA E st.tm) ++ q.2.2).foldl zY st.fs).get (q.2.1 ++ c.args.toList.map (evA E st.tm) ++ q.2.2) with
      | some ds => exact .none
      | none => exact .one fun hp => by simp only [hp, Option.map_some]
    cases fv with
    | yld k => exact .one fun hp => by simp only [hp, Option.map_some]
    | _ => exact other
theorem zUs {fs : FS} {x : X} {d : D} (h : toD fs.get x = some d) : lend fs x = fs := by
 cases x with
 | row l s n =>
  cases ho : fs.get l s with
  | none => simp [toD, ho] at h
  | some o =>
   rw [zim ho] at h
   rw [zwm ho, zzo h, FS.set_same ho]
 | _ => rfl
theorem zLr : ∀ {xs : List X} {fs : FS} {ds : List D}, toDs fs.get xs = some ds → xs.foldl lend fs = fs
 | [], _, _, _ => rfl
 | x :: t, fs, ds, h => by
  simp only [toDs] at h
  cases hx : toD fs.get x with
  | none => simp [hx] at h
  | some d =>
   cases ht : toDs fs.get t with
   | none => simp [hx, ht] at h
   | some ds' => simp only [List.foldl_cons, zUs hx]; exact zLr ht
theorem zAu {fs : FS} {x : X} {d : D} (h : toDA fs.get x = some d) : zY fs x = fs := by
 unfold zY
 split
 ·rename_i cs
  simp only [toDA] at h
  cases hc : toDs fs.get cs with
  | none => simp [hc] at h
  | some ds => exact zLr hc
 ·rename_i hne
  refine zUs (d := d) ?_
  cases x <;> first | exact h | exact absurd rfl (hne _)
theorem z7p : ∀ {xs : List X} {fs : FS} {ds : List D}, zjb fs.get xs = some ds → xs.foldl zY fs = fs
 | [], _, _, _ => rfl
 | x :: t, fs, ds, h => by
  simp only [zjb] at h
  cases hx : toDA fs.get x with
  | none => simp [hx] at h
  | some d =>
   cases ht : zjb fs.get t with
   | none => simp [hx, ht] at h
   | some ds' => simp only [List.foldl_cons, zAu hx]; exact z7p ht
theorem zKv {β : Type} {fv : X} {q0 : Nat × List X × List X} {F : Nat × List X × List X → Option β} {r : β} (h : (match fv with
  | .yld k => none
  | fv => match zX fv with
   | some q => F q
   | none => none) = some r) (hp : zX fv = some q0) : F q0 = some r := by
 cases fv <;> first | (simp [zX] at hp; done) | (simp only at h; rw [hp] at h; exact h)
theorem zau {fid : Nat} {st : St} {t : Option Nat} {op : Op} {v : Ov} (hb : v.both = true) (hq : zkh E (evA E st.tm) st.fs.get op = true) {q : X × FS × List LRec} {P : List Prop} (h : zce E fid st t op v = some (q, P)) (hP : All P) :
  evQ E (zx E (ev E)) (evA E st.tm) st.fs.get op = some q.1 ∧ q.2.1 = st.fs ∧ q.2.2 = st.lp := by
 cases v <;> try (simp [Ov.both] at hb; done)
 case sr x' o' =>
  unfold zce at h
  simp only at h
  cases op <;> try (simp at h; done)
  case slice T x lo hi mx =>
   simp only [zkh, evQ] at hq ⊢
   simp only at h
   cases hx : evA E st.tm x <;> rw [hx] at h <;> try (simp at h; done)
   rename_i l s n
   simp only at h
   cases ho : st.fs.get l s with
   | none => simp [ho] at h
   | some o =>
    simp only [ho, Option.some.injEq, Prod.mk.injEq] at h
    obtain ⟨rfl, rfl⟩ := h
    obtain ⟨h1, h2⟩ := hP
    have hd : ∃ d, toD st.fs.get (.row l s n) = some d := by
     unfold zKf at hq
     cases h3 : optI (evA E st.tm) lo <;> cases h4 : optI (evA E st.tm) hi <;> cases h5 : optI (evA E st.tm) mx <;> simp only [h3, h4, h5] at hq <;> try (simp at hq; done)
     cases hd : toD st.fs.get (.row l s n) with
     | some d => exact ⟨d, rfl⟩
     | none =>
      cases hu : E.P.underlying T with
      | none => simp [hu] at hq
      | some u => cases u <;> simp [hu, hx, hd] at hq
    obtain ⟨d, hd⟩ := hd
    rw [zim ho] at hd
    have e := zzo hd
    rw [e] at h1
    subst h1
    exact ⟨by rw [zDq ho]; exact h2, FS.set_same ho, rfl⟩
 case cr rs d =>
  unfold zce at h
  simp only at h
  cases op <;> try (simp at h; done)
  case call c =>
   cases hc : c.callee with
   | builtin b => simp [hc] at h
   | invoke r m => simp [hc] at h
   | value f =>
    simp only [hc] at h
    simp only [zkh, evQ, hc] at hq ⊢
    cases hp : zX (evA E st.tm f) with
    | none => simp [hp] at hq
    | some q0 =>
     simp only [hp] at hq ⊢
     cases hd : zjb st.fs.get (q0.2.1 ++ c.args.toList.map (evA E st.tm) ++ q0.2.2) with
     | none => rw [hd] at hq; simp at hq
     | some ds =>
      have h' := zKv h hp
      cases hl : zaj st.fs (q0.2.1 ++ c.args.toList.map (evA E st.tm) ++ q0.2.2) rs with
      | none => rw [hl] at h'; simp at h'
      | some p =>
       rw [hl] at h'
       have fin : q = (X.d d, p.1.2.1, st.lp) ∧ P = p.2 ++ [zx E (ev E) q0.1 p.1.1 = some d] := by
        cases t with
        | none => simp only [Option.some.injEq, Prod.mk.injEq] at h'; exact ⟨h'.1.symm, h'.2.symm⟩
        | some t =>
         simp only at h'
         split at h'
         ·simp at h'
         ·simp only [Option.some.injEq, Prod.mk.injEq] at h'; exact ⟨h'.1.symm, h'.2.symm⟩
       obtain ⟨rfl, rfl⟩ := fin
       obtain ⟨k1, _, k3⟩ := zZl (r := p.1) (P := p.2) hl (zri hP)
       have hcall : zx E (ev E) q0.1 p.1.1 = some d := zoh (s := p.2) hP
       have e1 := z7p hd
       rw [k1] at e1
       have e2 := k3 _ (.refl _)
       rw [e1, hd] at e2
       simp only [Option.some.injEq] at e2
       simp only
       rw [e2, hcall]
       exact ⟨by rfl, e1, trivial⟩
theorem zUr {rec : RecV} (H : zRj E rec) {fid rid i : Nat} {ops : Array Oper} {sp : Bool} {st : St} {o : Oper} : Good (zas E V rec fid rid i ops sp st o) (evOp E (ev E) fid ops sp st o) := by
 unfold zas evOp
 cases zej ops st.tm o with
 | none => exact .none
 | some b =>
  cases b with
  | false => exact .pure _
  | true =>
   simp only
   cases oget fid rid i V with
   | some v =>
    simp only
    intro a P h hP
    split at h
    ·rename_i hc
     obtain ⟨hc1, hc2⟩ := Bool.and_eq_true_iff.1 hc
     obtain ⟨⟨x, Q⟩, hx⟩ := Option.isSome_iff_exists.1 hc2
     simp only [W.seq, hx, Option.some.injEq, Prod.mk.injEq, List.append_nil] at h
     obtain ⟨rfl, rfl⟩ := h
     rw [if_pos (by rw [hc1, zcu hx hP]; rfl), z0t x Q hx hP]
     rfl
    ·split at h
     ·rename_i hn hc
      obtain ⟨hc1, hc2⟩ := Bool.and_eq_true_iff.1 hc
      cases hk : zce E fid st o.dst o.op v with
      | none => simp [W.seq, hk] at h
      | some p =>
       simp only [W.seq, hk, Option.some.injEq, Prod.mk.injEq, List.append_nil] at h
       obtain ⟨rfl, rfl⟩ := h
       by_cases hq : (!(sp && useL (E.H fid) o) && zkh E (evA E st.tm) st.fs.get o.op) = true
       ·obtain ⟨hq1, hq2⟩ := Bool.and_eq_true_iff.1 hq
        have hb : v.both = true := by
         rcases Bool.or_eq_true_iff.1 hc2 with hb | hb
         ·exact hb
         ·rw [hc1, hq2] at *
          simp_all
        obtain ⟨b1, b2, b3⟩ := zau hb hq2 (q := p.1) (P := p.2) hk hP
        rw [if_pos hq, b1, b2, b3]; rfl
       ·rw [if_neg hq, if_pos hc1, zku p.1 p.2 hk hP]
        rfl
     ·simp at h
   | none =>
    simp only
    refine .ite (fun _ => ?_) (fun _ => .ite (fun _ => ?_) (fun _ => .none))
    ·cases he : evQ E (fun _ _ => none) (evA E st.tm) st.fs.get o.op with
     | none => exact .none
     | some x => rw [zbw he]; exact .pure _
    ·split
     ·exact ((ziv H (E.H fid) st o.dst o.op).seq (g := fun q => some ({ tm := tput st.tm o.dst q.1, fs := q.2.1, lp := q.2.2 } : St)) fun q _ => .pure _).to (zHk _ _)
     ·rename_i hf
      rw [zFv (rec := ev E) (rec' := fun _ _ _ => none) (by simpa using hf)]
      exact .map _
theorem z1q {rec : RecV} (H : zRj E rec) {fid rid : Nat} {ops : Array Oper} : ∀ (os : List Oper) (i : Nat) (st : St), Good (zBs E V rec fid rid ops i os st) (zdo E (ev E) fid ops os st)
 | [], _, st => .pure st
 | o :: os, i, st => (zUr H).seq fun s _ => z1q H os (i + 1) s
theorem z2u {fid rid i : Nat} {st : St} {s : Nat} {T : TypeId} {a x : Operand} : Good (zbu E V fid rid i st s T a x) (zIl E st s T a x) := by
 intro st' P h hP
 unfold zbu at h
 split at h
 ·split at h
  ·rename_i p ss xs cx g1 g2 g3 g4
   simp only [Option.some.injEq, Prod.mk.injEq] at h
   obtain ⟨rfl, rfl⟩ := h
   obtain ⟨h1, ⟨k, h2⟩, h3⟩ := hP
   have h3 : (ss.isEmpty || !xs.isEmpty) = true := h3
   unfold zIl
   rw [g1, g2, g3, g4, h2]
   simp only
   rw [if_pos h3, h1]
  ·simp at h
 ·simp at h
theorem zsw {fid rid i : Nat} {st : St} {dst : Option Nat} {q : TypeId × Nat × Nat} : Good (entV E V fid rid i st dst q) ((zIi E.P st.fs q.1 (tget st.tm q.2.1) (tget st.tm q.2.2)).map fun r => { tm := tput st.tm dst r.1, fs := r.2, lp := st.lp }) := by
 unfold entV
 split
 ·split
  ·rename_i p l s kd hq hm hk
   unfold zIi
   simp only [hq, hm, hk]
   by_cases h1 : zGg E.P p.1 kd = true
   ·rw [if_pos h1, if_pos h1]
    cases h3 : zvT E.P p.2 with
    | none => exact .none
    | some z =>
     cases h2 : st.fs.get l s with
     | none => exact .none
     | some ob =>
      cases ob with
      | map es =>
       refine .one fun hp => ?_
       simp only [hp, Option.map_some]
      | _ => exact .none
   ·rw [if_neg h1]; exact .none
  ·exact .none
 ·exact .none
theorem zFu {rec : RecV} (H : zRj E rec) {fid rid : Nat} {ops : Array Oper} {h : zCb} {i : Nat} {st : St} {o : Oper} : Good (zss E V rec fid rid ops h i st o) (zkc E (ev E) fid ops h i st o) := by
 unfold zss zkc
 refine .ite (fun _ => .none) (fun _ => ?_)
 cases zOb o with
 | some q => exact .ite (fun _ => .pure _) (fun _ => .none)
 | none =>
  simp only
  cases aget i h.soft with
  | none => exact zUr H
  | some s =>
   simp only
   cases zlm o.op with
   | none =>
    simp only
    cases zvj o.op with
    | none =>
     simp only
     cases zld o.op with
     | none => exact .none
     | some q => exact .ite (fun _ => zsw) (fun _ => .none)
    | some q => exact .ite (fun _ => z2u) (fun _ => .none)
   | some q => exact .ite (fun _ => (Good.map fun a => a).to (by simp)) (fun _ => .none)
theorem zcq {rec : RecV} (H : zRj E rec) {fid rid : Nat} {ops : Array Oper} {h : zCb} : ∀ (os : List Oper) (i : Nat) (st : St), Good (zzr E V rec fid rid ops h i os st) (zTn E (ev E) fid ops h i os st)
 | [], _, st => .pure st
 | o :: os, i, st => (zFu H).seq fun s _ => zcq H os (i + 1) s
theorem zhu {rec : RecV} (H : zRj E rec) {fid id : Nat} {ops : Array Oper} {draw : Bool} {st : St} : Good (zWu E V rec fid id ops draw st) (zSp E (ev E) fid id ops draw st) := by
 refine Good.to (y := (zFm E (ev E) fid id ops draw st).bind fun s => some { s with tm := z6g (E.H fid) s.tm }) ?_ (by unfold zSp; exact zHk _ _)
 refine Good.seq ?_ fun s _ => ?_
 case refine_2 =>
  split
  ·intro a P h hP
   simp only [Option.some.injEq, Prod.mk.injEq] at h
   obtain ⟨rfl, rfl⟩ := h
   rw [zcr (zri hP), zkm (zoh hP)]
  ·exact .pure _
 unfold zAt zFm
 refine .ite (fun _ => ?_) (fun _ => z1q H _ _ _)
 cases zGo (E.H fid) id with
 | none => exact .none
 | some h =>
  simp only
  cases zEq E.P h ops.toList st.fs with
  | none => exact .none
  | some fs => exact zcq H _ _ _
theorem zVu {rec : RecV} (H : zRj E rec) (fid : Nat) (c : Code) (st : St) : Good (zVp E V C rec fid c st) (step E (ev E) fid c st) := by
 cases c with
 | skip => exact .pure _
 | label l => exact .pure _
 | region id ops draw =>
  simp only [zVp]
  cases cget fid (1000000 + id) C with
  | some r => exact .one fun hp => by rw [zJk] at hp; exact hp
  | none => exact ((zhu H).seq (g := fun s => some (Ex.nor, s)) fun s _ => .pure _).to (zHk _ _)
 | seq a b =>
  refine ((H fid a st).seq (g := fun r => if r.1 = .nor then ev E fid b r.2 else some r) fun r _ => .ite (fun _ => H fid b r.2) (fun _ => .pure _)).to ?_
  simp only [step]
  cases ev E fid a st <;> rfl
 | cond c a b =>
  simp only [zVp]
  cases cutC fid c C with
  | some r => exact .one fun hp => by rw [zJk] at hp; exact hp
  | none =>
   simp only [step]
   cases evA E st.tm c with
   | d x => cases x <;> first | exact H _ _ _ | exact .none
   | _ => exact .none
 | block id c =>
  simp only [zVp]
  cases cget fid id C with
  | some r => exact .one fun hp => by rw [zJk] at hp; exact hp
  | none => exact ((H fid c st).seq (g := fun r => some (if r.1 = .exit id then Ex.nor else r.1, r.2)) fun r _ => .pure _).to (zHk _ _)
 | rangeFunc f ps x y =>
  simp only [zVp, step]
  cases zX (evA E st.tm f) with
  | none => exact .none
  | some q =>
   simp only
   refine ((zMo H q.1 _ st.fs _).seq (g := fun r => match r.2.2[st.lp.length]? with
    | some l => match l.st with
     | .rdy => some (Ex.nor, { st with fs := r.2.1, lp := r.2.2.dropLast })
     | .done e => some (e, { st with fs := r.2.1, lp := r.2.2.dropLast })
     | .busy => none
    | none => none) fun r _ => ?_).to ?_
   ·cases r.2.2[st.lp.length]? with
    | none => exact .none
    | some l =>
     simp only
     cases l.st with
     | rdy => exact .pure _
     | busy => exact .none
     | done e => exact .pure _
   ·cases zMb E (ev E) q.1 (q.2.1 ++ [.yld st.lp.length] ++ q.2.2) st.fs (st.lp ++ [{ tm := st.tm, lv := st.fs.lv, ps := ps, assign := x, body := y, fid := fid, st := .rdy }]) with
    | none => rfl
    | some r =>
     simp only [Option.bind_some]
     cases r.2.2[st.lp.length]? with
     | none => rfl
     | some l => simp only; cases l.st <;> rfl
 | exit id => exact .pure _
 | scope c => exact H fid c st
 | ret => exact .pure _
 | _ => exact .none
theorem zCk : ∀ n, zRj E (evV E V C n)
 | 0 => fun _ _ _ => .none
 | n + 1 => fun fid c st => by rw [zJk]; exact zVu (zCk n) fid c st
theorem zDv (n f : Nat) (ds : List D) : Good (zbs E V C n f ds) (zx E (ev E) f ds) := by
 unfold zbs zx
 refine ((zoo (zCk n) f (ds.map .d) [] []).seq (g := fun q => (zFc q.2.fs q.1).map tupD) fun q _ => .map _).to ?_
 cases run E (ev E) f (ds.map .d) [] [] <;> rfl
theorem z0b {n f : Nat} {args : List X} {fs : FS} {lp : List LRec} {r : D × FS × List LRec} {P : List Prop} (hP : All P) (h : zSn E (evV E V C n) f args fs lp = some (r, P)) : zMb E (ev E) f args fs lp = some r := zMo (zCk n) f args fs lp r P h hP
theorem zru (n f : Nat) (ds res : List D) : Good (z7q E V C n f ds res) (zx E (ev E) f ds) := by
 unfold z7q zx
 refine ((zoo (zCk n) f (ds.map .d) [] []).seq (g := fun q => (zFc q.2.fs q.1).map tupD) fun q _ => .one fun hp => by rw [hp]; rfl).to ?_
 cases run E (ev E) f (ds.map .d) [] [] <;> rfl
theorem zrv {n f : Nat} {ds res : List D} {d : D} {P : List Prop} (hP : All P) (h : z7q E V C n f ds res = some (d, P)) : zx E (ev E) f ds = some d := zru n f ds res d P h hP
theorem zjw {n f : Nat} {ds : List D} {d : D} {P : List Prop} (hP : All P) (h : zbs E V C n f ds = some (d, P)) : zx E (ev E) f ds = some d := zDv n f ds d P h hP
theorem zqx {n fid : Nat} {c : Code} {st : St} {r : Ex × St} {P : List Prop} (hP : All P) (h : evV E V C n fid c st = some (r, P)) : ev E fid c st = some r := zCk n fid c st r P h hP
theorem z3t (rs : List Nat) (st0 st : St) : Good (zFp rs st0 st) (zto st0 st) := by
 intro a P h hP
 unfold zFp at h
 simp only at h
 split at h
 ·rename_i hc
  simp only [Option.some.injEq, Prod.mk.injEq] at h
  obtain ⟨rfl, rfl⟩ := h
  obtain ⟨h1, h2⟩ := Bool.and_eq_true_iff.1 hc
  unfold zto
  simp only
  rw [if_pos]
  rw [h1, Bool.true_and, List.all_eq_true]
  intro p hp
  have h3 := (List.all_eq_true.1 h2) p hp
  rcases Bool.or_eq_true_iff.1 h3 with h4 | h4
  ·have : ∀ l ss, O.refs l ss p.2 = false := zIt hP (List.mem_map.2 ⟨p, List.mem_filter.2 ⟨hp, h4⟩, rfl⟩)
   rw [this]; rfl
  ·exact h4
 ·simp at h
theorem zsu {rs : List Nat} {n fid : Nat} {c : Code} {st st' : St} {r : Option (Ex × St)} {P : List Prop} (hP : All P) (h : zRk E V C rs n fid c st = some (.inl st', P)) (k : ev E fid c st' = r) : ev E fid c st = r := by
 cases c <;> try (simp [zRk] at h; done)
 case loop c =>
  simp only [zRk, W.seq] at h
  cases he : evV E V C n fid c st with
  | none => simp [he] at h
  | some p =>
   simp only [he] at h
   by_cases hn : p.1.1 = .nor
   ·rw [if_pos hn] at h
    cases hc : zFp rs st p.1.2 with
    | none => simp [hc] at h
    | some s =>
     simp only [hc, Option.some.injEq, Prod.mk.injEq, Sum.inl.injEq, List.append_nil] at h
     obtain ⟨rfl, rfl⟩ := h
     have h1 := zCk n fid c st p.1 p.2 he (zri hP)
     have h2 := z3t rs st p.1.2 s.1 s.2 hc (zoh hP)
     exact zet (by rw [h1, ← hn]) h2 k
   ·rw [if_neg hn] at h; simp at h
theorem zAv {rs : List Nat} {n fid : Nat} {c : Code} {st : St} {r : Ex × St} {P : List Prop} (hP : All P) (h : zRk E V C rs n fid c st = some (.inr r, P)) : ev E fid c st = some r := by
 cases c <;> try (simp [zRk] at h; done)
 case loop c =>
  simp only [zRk, W.seq] at h
  cases he : evV E V C n fid c st with
  | none => simp [he] at h
  | some p =>
   simp only [he] at h
   by_cases hn : p.1.1 = .nor
   ·rw [if_pos hn] at h
    cases hc : zFp rs st p.1.2 with
    | none => simp [hc] at h
    | some s => simp [hc] at h
   ·rw [if_neg hn] at h
    simp only [Option.some.injEq, Prod.mk.injEq, Sum.inr.injEq, List.append_nil] at h
    obtain ⟨rfl, rfl⟩ := h
    rw [zJk]
    simp only [step, zCk n fid c st p.1 p.2 he hP]
    rw [if_neg hn]
end Go.AM
set_option linter.unusedSimpArgs false
set_option linter.unusedVariables false
namespace Go.AM
open Go Go.RowKit
abbrev SL (α : Type) := List α × Cap
abbrev di (n : Int) : D := .i .i64 n
abbrev db (b : Bool) : D := .b b
abbrev xi (n : Int) : X := .d (.i .i64 n)
abbrev xb (b : Bool) : X := .d (.b b)
abbrev w64 (n : Int) : Int := IntKind.i64.wrap n
def eI (n : Int) : List D := [.i .i64 n]
def eB (b : Bool) : List D := [.b b]
def eL {α : Type} (e : α → List D) (l : SL α) : List D := [.sl (l.1.map e) l.2]
abbrev dl {α : Type} (e : α → List D) (l : List α) (c : Cap) : D := .sl (l.map e) c
def aB (n : Nat) (f : Nat → Bool) : List D := (List.range n).map fun k => .b (f k)
def aI (n : Nat) (f : Nat → Int) : List D := (List.range n).map fun k => .i .i64 (f k)
def aL {α : Type} (n : Nat) (e : α → List D) (f : Nat → SL α) : List D := (List.range n).map fun k => .sl ((f k).1.map e) (f k).2
def upd {α : Type} (f : Nat → α) (i : Nat) (v : α) : Nat → α := fun k => if k = i then v else f k
section
variable {α β γ : Type} {G : Prop}
theorem zm {c : Bool} {A B : Option α} {r : α} (h : cond c A B = some r) (t : c = true → A = some r → G) (f : c = false → B = some r → G) : G := by
 cases c
 ·exact f rfl h
 ·exact t rfl h
theorem zib {c : Bool} {A : Option α} {r : α} (h : cond c A none = some r) (t : c = true → A = some r → G) : G := by
 cases c
 ·simp at h
 ·exact t rfl h
theorem zi {x : Option β} {f : β → Option α} {r : α} (h : x.bind f = some r) (t : ∀ y, x = some y → f y = some r → G) : G := by
 cases x with
 | none => simp at h
 | some y => exact t y rfl h
theorem zJb {v : β ⊕ γ} {f : β → Option α} {g : γ → Option α} {r : α} (h : Sum.elim f g v = some r) (t : ∀ a, v = .inl a → f a = some r → G) (u : ∀ b, v = .inr b → g b = some r → G) : G := by
 cases v with
 | inl a => exact t a rfl h
 | inr b => exact u b rfl h
theorem zt {x r : α} {g : α → D} {y : Option D} (h : some x = some r) (p : y = some (g x)) : y = some (g r) := by
 simp only [Option.some.injEq] at h; rw [← h]; exact p
end
theorem zq {α : Type} {x r : α} {g : α → Ex × St} {y : Option (Ex × St)} (h : some x = some r) (p : y = some (g x)) : y = some (g r) := by
 simp only [Option.some.injEq] at h; rw [← h]; exact p
theorem zkd {α : Type} {x r : α} {g : α → D × FS × List LRec} {y : Option (D × FS × List LRec)} (h : some x = some r) (p : y = some (g x)) : y = some (g r) := by
 simp only [Option.some.injEq] at h; rw [← h]; exact p
theorem ob {p : Prop} {s : List Prop} (h : p) (t : All s) : All (p :: s) := by
 cases s with
 | nil => exact h
 | cons q s => exact ⟨h, t⟩
theorem ob0 : All [] := trivial
inductive F8 : List Fr → Prop
 | c0 : F8 []
 | c1 (a : Fr) : F8 [a]
 | c2 (a b : Fr) : F8 [a, b]
 | c3 (a b c : Fr) : F8 [a, b, c]
 | c4 (a b c d : Fr) : F8 [a, b, c, d]
 | c5 (a b c d e : Fr) : F8 [a, b, c, d, e]
 | c6 (a b c d e f : Fr) : F8 [a, b, c, d, e, f]
 | c7 (a b c d e f g : Fr) : F8 [a, b, c, d, e, f, g]
 | c8 (a b c d e f g h : Fr) : F8 [a, b, c, d, e, f, g, h]
theorem f8 : ∀ {fs : List Fr}, fs.length ≤ 8 → F8 fs
 | [], _ => .c0
 | [a], _ => .c1 a
 | [a, b], _ => .c2 a b
 | [a, b, c], _ => .c3 a b c
 | [a, b, c, d], _ => .c4 a b c d
 | [a, b, c, d, e], _ => .c5 a b c d e
 | [a, b, c, d, e, f], _ => .c6 a b c d e f
 | [a, b, c, d, e, f, g], _ => .c7 a b c d e f g
 | [a, b, c, d, e, f, g, h], _ => .c8 a b c d e f g h
 | _ :: _ :: _ :: _ :: _ :: _ :: _ :: _ :: _ :: _, h => by simp only [List.length_cons] at h; omega
theorem z5k {fs : List Fr} (f : Fr) (h : fs.length + 1 ≤ 8) : (fs ++ [f]).length ≤ 8 := by simpa using h
def zF (E : Env) (fid : Nat) (c : Code) {S R : Type} (S0 : S → St) (R0 : R → Ex × St) (s : S) : S ⊕ R → Prop
 | .inl s' => ∀ r, ev E fid c (S0 s') = r → ev E fid c (S0 s) = r
 | .inr r => ev E fid c (S0 s) = some (R0 r)
section
variable {E : Env} {V : Ovs} {C : Cuts} {fid : Nat} {c : Code}
theorem zSw {S R : Type} {S0 : S → St} {R0 : R → Ex × St} {s s' : S} {x : S ⊕ R} {rs : List Nat} (h : some (Sum.inl s') = some x) {n : Nat} {P : List Prop} (hP : All P) (hr : zRk E V C rs n fid c (S0 s) = some (.inl (S0 s'), P)) : zF E fid c S0 R0 s x := by
 simp only [Option.some.injEq] at h
 subst h
 exact fun r hk => zsu hP hr hk
theorem zux {S R : Type} {S0 : S → St} {R0 : R → Ex × St} {s : S} {r : R} {x : S ⊕ R} (h : some (Sum.inr r) = some x) {n : Nat} {P : List Prop} (hP : All P) (hr : zRk E V C [] n fid c (S0 s) = some (.inr (R0 r), P)) : zF E fid c S0 R0 s x := by
 simp only [Option.some.injEq] at h
 subst h
 exact zAv hP hr
theorem zGk {S R : Type} {S0 : S → St} {R0 : R → Ex × St} {body : S → Option (S ⊕ R)} (h : ∀ s x, body s = some x → zF E fid c S0 R0 s x) : ∀ (m : Nat) (s : S) (r : R), iter body m s = some r → ev E fid c (S0 s) = some (R0 r)
 | 0, s, r, hi => by simp [iter] at hi
 | m + 1, s, r, hi => by
  simp only [iter] at hi
  cases hb : body s with
  | none => simp [hb] at hi
  | some x =>
   have hx := h s x hb
   cases x with
   | inl s' => simp only [hb] at hi; exact hx _ (zGk h m s' r hi)
   | inr r' => simp only [hb, Option.some.injEq] at hi; subst hi; exact hx
def zPk (id : Nat) : Code → Option Code
 | .seq a b => match zPk id a with
  | some c => some c
  | none => zPk id b
 | .cond _ a b => match zPk id a with
  | some c => some c
  | none => zPk id b
 | .block i c => if i = id then some c else zPk id c
 | .loop c => zPk id c
 | .scope c => zPk id c
 | .rangeFunc _ _ a b => match zPk id a with
  | some c => some c
  | none => zPk id b
 | _ => none
def zUk (id : Nat) : Code → Option Code
 | .seq a b => match zUk id a with
  | some c => some c
  | none => zUk id b
 | .cond _ a b => match zUk id a with
  | some c => some c
  | none => zUk id b
 | .block _ c => zUk id c
 | .loop c => zUk id c
 | .scope c => zUk id c
 | .rangeFunc _ _ a b => match zUk id a with
  | some c => some c
  | none => zUk id b
 | .region i ops d => if i = id then some (.region i ops d) else none
 | _ => none
def zOk (t : Nat) : Code → Option Code
 | .seq a b => match zOk t a with
  | some c => some c
  | none => zOk t b
 | .cond c a b => match (match c with | .tmp u => decide (u = t) | _ => false) with
  | true => some (.cond c a b)
  | false => match zOk t a with
   | some c => some c
   | none => zOk t b
 | .block _ c => zOk t c
 | .loop c => zOk t c
 | .scope c => zOk t c
 | .rangeFunc _ _ a b => match zOk t a with
  | some c => some c
  | none => zOk t b
 | _ => none
def zxs (E : Env) (f : Nat) : Code := match E.P.funcs[f]? with
 | some fn => fn.body.getD .skip
 | none => .skip
def blk (E : Env) (f id : Nat) : Code := (zPk id (zxs E f)).getD .skip
def rgn (E : Env) (f id : Nat) : Code := (zUk id (zxs E f)).getD .skip
def cnd (E : Env) (f t : Nat) : Code := (zOk t (zxs E f)).getD .skip
def rfA : Code → Code
 | .rangeFunc _ _ a _ => a
 | _ => .skip
def rfB : Code → Code
 | .rangeFunc _ _ _ b => b
 | _ => .skip
def rfP : Code → Array Nat
 | .rangeFunc _ ps _ _ => ps
 | _ => #[]
theorem zu {id : Nat} {st : St} {r : Ex × St} {r' : Ex × St} (h : ev E fid c st = some r) (e : (if r.1 = .exit id then Ex.nor else r.1, r.2) = r') : ev E fid (.block id c) st = some r' := by
 rw [zJk]; simp only [step, h, Option.map_some, e]
end
theorem o_b {e b : Bool} (h : e = b) : some (X.d (.b e)) = some (X.d (.b b)) := by rw [h]
theorem zXy {x y : Int} (k : IntKind) (h : (y == 0) = false) : (if y = 0 then none else some (D.i k (x.tmod y))).map X.d = some (X.d (.i k (x.tmod y))) := by
 rw [if_neg (by simpa using h)]; rfl
def zTk (x y : Int) : Int := w64 (x * 2 ^ (min y.toNat 64))
def zfs (x y : Int) : Int := x.fdiv (2 ^ (min y.toNat 64))
theorem zIy {x y : Int} (h : decide (y < 0) = false) : (if y < 0 then none else some (D.i .i64 (IntKind.i64.wrap (x * 2 ^ (min y.toNat IntKind.i64.bits))))).map X.d = some (xi (zTk x y)) := by
 rw [if_neg (by simpa using h)]; rfl
theorem zJw {x y : Int} (h : decide (y < 0) = false) : (if y < 0 then none else some (D.i .i64 (x.fdiv (2 ^ (min y.toNat IntKind.i64.bits))))).map X.d = some (xi (zfs x y)) := by
 rw [if_neg (by simpa using h)]; rfl
def idx {α : Type} (l : List α) (n : Int) : Option α := if 0 ≤ n then l[n.toNat]? else none
theorem o_ia {α : Type} {e : α → List D} {l : List α} {n : Int} {y : α} (z : Nat) (h : idx l n = some y) (hz : (e y).length = z) :
  (if 0 ≤ n then ((l.map e)[n.toNat]?).bind fun e => if e.length = z then some (X.d (.pin e)) else none else none) = some (X.d (.pin (e y))) := by
 unfold idx at h
 split at h
 ·rename_i h0
  rw [if_pos h0, List.getElem?_map, h]
  simp [hz]
 ·simp at h
theorem zp {α : Type} (e : α → List D) (l : List α) : some (X.d (.i .i64 ((l.map e).length : Int))) = some (xi (l.length : Int)) := by rw [List.length_map]
theorem o_tr {x : Option X} {e b : Bool} (h : x = some (xb e)) (k : e = b) : x = some (xb b) := by rw [h, k]
theorem z5i {n : Int} {m : Nat} (l s o z j : Nat) (h : (decide (0 ≤ n) && decide (n < (m : Int))) = true) (hj : o + n.toNat * z = j) : (if 0 ≤ n ∧ n < (m : Int) then some (X.ptr l s (o + n.toNat * z)) else none) = some (X.ptr l s j) := by
 rw [if_pos (by simpa using h), hj]
theorem zln {n : Int} (cs : List D) (m z : Nat) (ag : Bool) {j : Nat} (h : n = (j : Int)) (hj : j < m) : (if 0 ≤ n ∧ n < (m : Int) then (zbj ag z (cs.drop (n.toNat * z))).map X.d else none) = (zbj ag z (cs.drop (j * z))).map X.d := by
 subst h
 rw [if_pos ⟨by omega, by omega⟩]; rfl
theorem zJr (n : Nat) (f : Nat → Bool) : (aB n f).length = n := by simp [aB]
theorem zFr (n : Nat) (f : Nat → Int) : (aI n f).length = n := by simp [aI]
theorem zev {n j : Nat} (f : Nat → Bool) (h : j < n) : (aB n f)[j]? = some (.b (f j)) := by simp [aB, h]
theorem zgx {n j : Nat} (f : Nat → Int) (h : j < n) : (aI n f)[j]? = some (.i .i64 (f j)) := by simp [aI, h]
theorem zHr {α : Type} (l : List α) (j : Nat) : (l.drop j).head? = l[j]? := by simp
theorem zEw (n : Nat) (f : Nat → Bool) (j : Nat) (h : j < n) : grab false 1 (((aB n f).map X.d).drop j) = some (xb (f j)) := by
 simp [grab, zHr, zev f h]
theorem zyx (n : Nat) (f : Nat → Bool) (j : Nat) (v : Bool) : ((aB n f).map X.d).set j (xb v) = (aB n (upd f j v)).map X.d := by
 apply List.ext_getElem?
 intro i
 by_cases hi : i < n
 ·by_cases hj : j = i
  ·subst hj; simp [aB, upd, hi]
  ·rw [List.getElem?_set_ne hj]; simp [aB, upd, hi, Ne.symm hj]
 ·rw [List.getElem?_eq_none (by simp [aB]; omega), List.getElem?_eq_none (by simp [aB]; omega)]
theorem zPq {α : Type} (cs : List α) (j : Nat) (v : α) (h : cs.length ≠ 1) : zud cs j [v] = cs.set j v := by
 unfold zud
 rw [if_neg (by simp; omega)]
theorem z9t (n : Nat) (f : Nat → Bool) (j : Nat) (v : Bool) (h : j < n) (hn : n ≠ 1 := by decide) : j + 1 ≤ ((aB n f).map X.d).length ∧ zud ((aB n f).map X.d) j [xb v] = (aB n (upd f j v)).map X.d :=
 ⟨by simp [zJr]; omega, by rw [zPq _ _ _ (by simpa [zJr] using hn), zyx]⟩
theorem zti {α : Type} (n : Nat) (e : α → List D) (f : Nat → SL α) : (aL n e f).length = n := by simp [aL]
theorem zYq {α : Type} {n j : Nat} (e : α → List D) (f : Nat → SL α) (h : j < n) : (aL n e f)[j]? = some (.sl ((f j).1.map e) (f j).2) := by simp [aL, h]
theorem zEu {α : Type} (n : Nat) (e : α → List D) (f : Nat → SL α) (j : Nat) (h : j < n) : grab false 1 (((aL n e f).map X.d).drop j) = some (.d (dl e (f j).1 (f j).2)) := by
 simp [grab, zHr, zYq e f h, dl]
theorem zFx {α : Type} (n : Nat) (e : α → List D) (f : Nat → SL α) (j : Nat) (v : SL α) : ((aL n e f).map X.d).set j (.d (dl e v.1 v.2)) = (aL n e (upd f j v)).map X.d := by
 apply List.ext_getElem?
 intro i
 rw [List.getElem?_set]
 by_cases hi : i < n
 ·by_cases hj : j = i
  ·subst hj
   rw [if_pos rfl, if_pos (by simp [zti]; exact hi), List.getElem?_map, zYq _ _ hi]
   simp [upd, dl]
  ·rw [if_neg hj, List.getElem?_map, List.getElem?_map, zYq _ _ hi, zYq _ _ hi]
   simp [upd, Ne.symm hj]
 ·by_cases hj : j = i
  ·subst hj
   rw [if_pos rfl, if_neg (by simp [zti]; omega), List.getElem?_eq_none (by simp [zti]; omega)]
  ·rw [if_neg hj, List.getElem?_eq_none (by simp [zti]; omega), List.getElem?_eq_none (by simp [zti]; omega)]
theorem zuw {α : Type} (n : Nat) (e : α → List D) (f : Nat → SL α) (j : Nat) (v : SL α) (h : j < n) (hn : n ≠ 1 := by decide) : j + 1 ≤ ((aL n e f).map X.d).length ∧ zud ((aL n e f).map X.d) j [.d (dl e v.1 v.2)] = (aL n e (upd f j v)).map X.d :=
 ⟨by simp [zti]; omega, by rw [zPq _ _ _ (by simpa [zti] using hn), zFx]⟩
theorem zww (n : Nat) (f : Nat → Bool) (i : Int) (h : (decide (0 ≤ i) && decide (i < (n : Int))) = true) : (if 0 ≤ i ∧ i < (n : Int) then (zbj false 1 ((aB n f).drop (i.toNat * 1))).map X.d else none) = some (xb (f i.toNat)) := by
 have h' : 0 ≤ i ∧ i < (n : Int) := by simpa using h
 rw [if_pos h']
 simp [zbj, zev f (show i.toNat < n by omega)]
def lfI (l : List Int) (k : Nat) : Int := l.getD k 0
def eqB (f g : Nat → Bool) : Nat → Nat → Bool
 | _, 0 => true
 | i, n + 1 => (f i == g i) && eqB f g (i + 1) n
def eqI (f g : Nat → Int) : Nat → Nat → Bool
 | _, 0 => true
 | i, n + 1 => (f i == g i) && eqI f g (i + 1) n
def zbz (x y : Int) : Int := w64 (BitVec.ofInt 64 x &&& BitVec.ofInt 64 y).toNat
def rowO {α : Type} (b : Bool) (z : Nat) (e : α → List D) (l : List α) (w : Bool) : O := cond (b && l.isEmpty) .nrow (.row z (l.map e) w)
def rcap {α : Type} (b : Bool) (l : List α) : Cap := cond (b && l.isEmpty) .nil .ro
def xcap {α : Type} (b : Bool) (l : List α) : Cap := cond (b && l.isEmpty) .nil .ex
section
variable {α : Type} {b : Bool} {z : Nat} {e : α → List D} {l : List α} {w : Bool}
theorem zSj (b : Bool) (z : Nat) (e : α → List D) (l : List α) (w : Bool) : (b = true ∧ l = [] ∧ rowO b z e l w = .nrow) ∨ (rowO b z e l w = .row z (l.map e) w ∧ (b && l.isEmpty) = false) := by
 unfold rowO
 cases b with
 | false => exact .inr ⟨rfl, rfl⟩
 | true =>
  cases l with
  | nil => exact .inl ⟨rfl, rfl, rfl⟩
  | cons a t => exact .inr ⟨rfl, rfl⟩
theorem zWd (b : Bool) (z : Nat) (e : α → List D) (l : List α) (w : Bool) : ∀ l' ss, O.refs l' ss (rowO b z e l w) = false := by
 intro l' ss
 unfold rowO
 cases (b && l.isEmpty) <;> rfl
theorem znr (hz : ∀ y, (e y).length = z) (l : List α) : ((l.map e).all fun e => e.length == z) = true := by
 rw [List.all_eq_true]
 intro x hx
 obtain ⟨y, _, rfl⟩ := List.mem_map.1 hx
 simp [hz y]
theorem zzy (l2 : List α) (hz : ∀ y, (e y).length = z) (h : decide (l.length + l2.length ≤ LIM) = true) : appO z (rowO b z e l w) l.length (l2.map e) = some ((l ++ l2).length, rowO b z e (l ++ l2) (w || (b && l.isEmpty))) := by
 have h' : l.length + l2.length ≤ LIM := by simpa using h
 unfold appO
 rw [if_pos ⟨by simpa using h', znr hz l2⟩]
 rcases zSj b z e l w with ⟨rfl, rfl, hr⟩ | ⟨hr, hf⟩
 ·rw [hr]
  simp only [List.length_nil, if_true, List.nil_append, List.isEmpty_nil, Bool.and_self, Bool.or_true]
  cases l2 with
  | nil => rfl
  | cons a t => simp [rowO]
 ·rw [hr, hf]
  simp only [List.length_map, and_self, if_true, List.length_append, Bool.or_false]
  unfold rowO
  have : (b && (l ++ l2).isEmpty) = false := by
   cases b with
   | false => rfl
   | true =>
    cases l with
    | nil => simp at hf
    | cons a t => rfl
  rw [this]
  simp
theorem o_ap (x : α) (hz : ∀ y, (e y).length = z) (h : decide (l.length + 1 ≤ LIM) = true) : appO z (rowO b z e l w) l.length [e x] = some ((l ++ [x]).length, rowO b z e (l ++ [x]) (w || (b && l.isEmpty))) := zzy [x] hz h
theorem zcv : zJi (fun _ _ => some (rowO b z e l w)) 0 0 l.length = true := by
 unfold zJi
 rcases zSj b z e l w with ⟨rfl, rfl, hr⟩ | ⟨hr, hf⟩ <;> rw [hr] <;> simp
theorem z2e (b : Bool) (z : Nat) (e : α → List D) (l : List α) (w : Bool) : (if zJi (fun _ _ => some (rowO b z e l w)) 0 0 l.length = true then some (X.d (.i .i64 ((l.length : Nat) : Int))) else none) = some (xi (l.length : Int)) := by
 rw [if_pos zcv]
theorem zEo {n : Int} {y : α} (h : idx l n = some y) : 0 ≤ n ∧ n < (l.length : Int) ∧ l[n.toNat]? = some y := by
 unfold idx at h
 split at h
 ·rename_i h0
  obtain ⟨hl, _⟩ := List.getElem?_eq_some_iff.1 h
  exact ⟨h0, by omega, h⟩
 ·simp at h
theorem zeo {n : Int} {y : α} (h : idx l n = some y) : rowO b z e l w = .row z (l.map e) w := by
 obtain ⟨h0, h1, _⟩ := zEo h
 rcases zSj b z e l w with ⟨_, rfl, _⟩ | ⟨hr, _⟩
 ·simp at h1; omega
 ·exact hr
theorem z8y {P : Program} {T : TypeId} {lv s : Nat} {n : Int} {y : α} {bt : Nat} (ha : arT P T = none) (hs : slT P T = some (z, bt)) (h : idx l n = some y) : iaX P (fun _ _ => some (rowO b z e l w)) T (.row lv s l.length) (xi n) = some (.rp lv s l.length n.toNat 0) := by
 obtain ⟨h0, h1, _⟩ := zEo h
 simp only [iaX, intX, ha, hs, zeo (b := b) (z := z) (e := e) (w := w) h]
 rw [if_pos ⟨by simp, by trivial, h0, h1⟩]
theorem z8x {P : Program} {T : TypeId} {lv s o : Nat} {n : Int} {y : α} {q : Nat × Bool} {x : X} (ht : tyT P T = some q) (h : idx l n = some y) (hx : (zbj q.2 q.1 ((e y).drop o)).map X.d = some x) : ldX P (fun _ _ => some (rowO b z e l w)) T (.rp lv s l.length n.toNat o) = some x := by
 obtain ⟨h0, h1, h2⟩ := zEo h
 simp only [ldX, ht, zeo (b := b) (z := z) (e := e) (w := w) h]
 rw [if_pos (by simp), List.getElem?_map, h2]
 exact hx
theorem zuy {P : Program} {T : TypeId} {lv s o f : Nat} {n : Int} {y : α} {q : Nat × Nat × Bool} (hf : fdT P T f = some q) (hq : q.2.1 ≠ 0) (h : idx l n = some y) : faX P (fun _ _ => some (rowO b z e l w)) T (.rp lv s l.length n.toNat o) f = some (.rp lv s l.length n.toNat (o + q.1)) := by
 simp only [faX, hf, hq, if_false, live, zeo (b := b) (z := z) (e := e) (w := w) h]
 simp
theorem o_rs {o n : Nat} {ds : List D} {i : Int} {y y' : α} (h : idx l i = some y) (hn : o + n ≤ (e y).length) (hy : zud (e y) o ds = e y') : stO (rowO b z e l true) l.length i.toNat o n ds = some (rowO b z e (l.set i.toNat y') true) := by
 obtain ⟨h0, h1, h2⟩ := zEo h
 simp only [stO, zeo (b := b) (z := z) (e := e) (w := true) h]
 rw [if_pos (by simp), List.getElem?_map, h2]
 simp only [Option.map_some, Option.bind_some]
 rw [if_pos hn, hy]
 have hne : (b && (l.set i.toNat y').isEmpty) = false := by
  cases b with
  | false => rfl
  | true =>
   cases l with
   | nil => simp at h1; omega
   | cons a t => cases i.toNat <;> rfl
 unfold rowO
 rw [hne]
 simp [List.map_set]
theorem zvv (b : Bool) (z : Nat) (e : α → List D) (l : List α) (w : Bool) : zLi (rowO b z e l w) = rowO b z e l false := by
 unfold rowO
 cases (b && l.isEmpty) <;> cases w <;> rfl
theorem zyw (b : Bool) (z : Nat) (e : α → List D) (l : List α) (lv s : Nat) : toD (fun _ _ => some (rowO b z e l false)) (.row lv s l.length) = some (dl e l (rcap b l)) := by
 rcases zSj b z e l false with ⟨rfl, rfl, hr⟩ | ⟨hr, hf⟩
 ·simp [toD, hr, rcap]
 ·simp [toD, hr, rcap, hf]
theorem o_cr (b : Bool) (z : Nat) (e : α → List D) (l : List α) (w : Bool) (lv s : Nat) : zLi (rowO b z e l w) = rowO b z e l false ∧ toD (fun _ _ => some (rowO b z e l false)) (.row lv s l.length) = some (dl e l (rcap b l)) := ⟨zvv b z e l w, zyw b z e l lv s⟩
theorem o_sr {P : Program} {T U : TypeId} {ρ : Operand → X} {lv s by' : Nat} (b : Bool) (z : Nat) (e : α → List D) (l : List α) (w : Bool) {lo hi mx : Option Operand} (hu : P.underlying T = some (.slice U)) (hs : slT P T = some (z, by')) (h1 : optI ρ lo = some none) (h2 : optI ρ hi = some (some (l.length : Int))) (h3 : optI ρ mx = some (some (l.length : Int))) :
  zLi (rowO b z e l w) = rowO b z e l false ∧ zKf P (fun _ _ => some (rowO b z e l false)) T ρ (.row lv s l.length) lo hi mx = some (.d (dl e l (xcap b l))) := by
 refine ⟨zvv b z e l w, ?_⟩
 simp only [zKf, h1, h2, h3, hu, zyw, hs, Option.bind_some]
 simp only [cutX, Option.getD_none, Option.getD_some]
 rw [if_pos ⟨by omega, by omega, by simp, .inl (by trivial)⟩, if_pos ⟨by omega, by simp, rfl⟩]
 simp only [Option.map_some, Int.toNat_natCast]
 rw [List.take_of_length_le (by simp)]
 unfold rcap xcap
 cases (b && l.isEmpty) <;> simp
theorem zko {fr : Fr} {s : Nat} (b : Bool) (z : Nat) (e : α → List D) (l : List α) (w : Bool) (h : aget s fr = some (rowO b z e l w)) : zPe ⟨fr, []⟩ (.row 0 s l.length) = some (dl e l (rcap b l)) := by
 unfold zPe
 simp only [List.length_nil, if_true, h]
 rcases zSj b z e l w with ⟨rfl, rfl, hr⟩ | ⟨hr, hf⟩
 ·simp [hr, rcap]
 ·simp [hr, rcap, hf]
theorem zen {fr : Fr} {s : Nat} (b : Bool) (z : Nat) (e : α → List D) (l : List α) (w : Bool) (h : aget s fr = some (rowO b z e l w)) : snap ⟨fr, []⟩ (.row 0 s l.length) = some (dl e l (rcap b l)) := by
 have := zko b z e l w h
 simpa only [snap] using this
theorem o_s1 {fs : FS} {x : X} {t : List X} {d : D} {ds : List D} (h : snap fs x = some d) (k : zFc fs t = some ds) : zFc fs (x :: t) = some (d :: ds) := by simp only [zFc, h, k]
theorem o_s0 {fs : FS} : zFc fs [] = some [] := rfl
theorem o_c1 {fs : FS} {x : X} {t : List X} {d : D} {ds : List D} (h : zPe fs x = some d) (k : z7f fs t = some ds) : z7f fs (x :: t) = some (d :: ds) := by simp only [z7f, h, k]
theorem o_c0 {fs : FS} : z7f fs [] = some [] := rfl
theorem o_cd {fs : FS} {x : D} {t : List X} {ds : List D} (k : z7f fs t = some ds) : z7f fs (.d x :: t) = some (x :: ds) := by simp only [z7f, zPe, k]
theorem zav {fs : FS} {cs : List X} {ds : List D} (h : z7f fs cs = some ds) : snap fs (.agg cs) = some (.agg ds) := by simp only [snap, h, Option.map_some]
theorem o_ns {P : Program} {φ : Get} {T : TypeId} {q : Nat × List D} {c : Cap} (l : List α) (hq : okS P T = some q) (hz : ∀ y, (e y).length = q.1) (h : decide (l.length ≤ LIM) = true) : ∃ k, appQ P φ T (.d (.sl [] .ex)) (.d (.sl (l.map e) c)) = some (.d (.sl (l.map e) k)) := by
 have h' : l.length ≤ LIM := by simpa using h
 simp only [appQ, hq, zgg]
 rw [if_pos ⟨by simpa using h', znr hz l, by simp⟩]
 cases l with
 | nil => exact ⟨.ex, rfl⟩
 | cons a t => exact ⟨.ro, rfl⟩
theorem zxw (l : List α) (e : α → List D) : (l.map e).length = l.length := by simp
theorem o_ad {P : Program} {φ : Get} {T : TypeId} {q : Nat × List D} {c : Cap} (l : List α) (x : α) (hq : okS P T = some q) (hz : ∀ y, (e y).length = q.1) (hc : decide (c = .ro) = false) (h : decide (l.length + 1 ≤ LIM) = true) : appQ P φ T (.d (.sl (l.map e) c)) (.d (.sl [e x] .ex)) = some (.d (dl e (l ++ [x]) .ro)) := by
 have h' : l.length + 1 ≤ LIM := by simpa using h
 simp only [appQ, hq, zgg]
 rw [if_pos ⟨by simpa using h', by simp [hz], znr hz l⟩]
 simp only [List.isEmpty_cons, Bool.false_eq_true, if_false]
 rw [if_neg (by simpa using hc)]
 simp
end
def ccap (c : Cap) : Cap := if c = .nil then .nil else .ex
def pcap (c : Cap) (full : Bool) : Cap := if c = .nil then .nil else if c = .ex ∧ full = true then .ex else .ro
theorem zmo {α : Type} {e : α → List D} {z : Nat} (l : List α) (c : Cap) : (cutX z (l.map e) c none (some (l.length : Int)) (some (l.length : Int))).map X.d = some (.d (dl e l (ccap c))) := by
 simp only [cutX, Option.getD_none, Option.getD_some]
 rw [if_pos ⟨by omega, by omega, by simp, .inl (by trivial)⟩, if_pos ⟨by omega, by simp, rfl⟩]
 simp only [if_true, Int.toNat_natCast, Option.map_some]
 rw [List.take_of_length_le (by simp)]
 rfl
theorem zks {α : Type} {e : α → List D} {z : Nat} (l : List α) (c : Cap) {n : Int} (h : (decide (0 ≤ n) && decide (n ≤ (l.length : Int))) = true) : (cutX z (l.map e) c none (some n) none).map X.d = some (.d (dl e (l.take n.toNat) (pcap c (n == (l.length : Int))))) := by
 have h' : 0 ≤ n ∧ n ≤ (l.length : Int) := by simpa using h
 simp only [cutX, Option.getD_none, Option.getD_some]
 rw [if_pos ⟨by omega, h'.1, by simpa using h'.2, .inl (by trivial)⟩]
 simp only [Option.map_some, List.map_take, pcap, List.length_map, beq_iff_eq, Int.toNat_zero, List.drop_zero, dl]
def em {κ ν : Type} (ek : κ → D) (ev : ν → D) (m : List (κ × ν)) : List (D × D) := m.map fun p => (ek p.1, ev p.2)
def eM {κ ν : Type} (ek : κ → D) (ev : ν → D) (m : List (κ × ν)) : List D := [.mp (em ek ev m)]
def zH {κ ν : Type} (q : κ → κ → Bool) (k : κ) : List (κ × ν) → Option ν
 | [] => none
 | p :: t => cond (q k p.1) (some p.2) (zH q k t)
def mset {κ ν : Type} (q : κ → κ → Bool) (k : κ) (v : ν) : List (κ × ν) → List (κ × ν)
 | [] => [(k, v)]
 | p :: t => cond (q k p.1) ((p.1, v) :: t) (p :: mset q k v t)
section
variable {κ ν : Type} {ek : κ → D} {evl : ν → D} {q : κ → κ → Bool}
theorem zgr (hq : ∀ a b, eqD (ek a) (ek b) = some (q a b)) (k : κ) : ∀ m : List (κ × ν), z2g (ek k) (em ek evl m) = some ((zH q k m).map evl)
 | [] => rfl
 | p :: t => by
  simp only [em, List.map_cons, z2g, hq, zH]
  cases q k p.1
  ·exact zgr hq k t
  ·rfl
theorem zls (hq : ∀ a b, eqD (ek a) (ek b) = some (q a b)) (k : κ) (v : ν) : ∀ m : List (κ × ν), setD (ek k) (evl v) (em ek evl m) = some (em ek evl (mset q k v m))
 | [] => rfl
 | p :: t => by
  simp only [em, List.map_cons, setD, hq, mset]
  cases q k p.1
  ·have := zls hq k v t
   simp only [em] at this
   simp only [this, Option.map_some, cond_false, List.map_cons]
  ·rfl
def ment {κ ν : Type} (q : κ → κ → Bool) (k : κ) (z : ν) : List (κ × ν) → List (κ × ν)
 | [] => [(k, z)]
 | p :: t => cond (q k p.1) (p :: t) (p :: ment q k z t)
def midx {κ ν : Type} (q : κ → κ → Bool) (k : κ) : List (κ × ν) → Nat
 | [] => 0
 | p :: t => cond (q k p.1) 0 (midx q k t + 1)
theorem o_me (hq : ∀ a b, eqD (ek a) (ek b) = some (q a b)) (k : κ) (z : ν) : ∀ m : List (κ × ν), entD (ek k) (evl z) (em ek evl m) = some (em ek evl (ment q k z m), evl ((zH q k m).getD z), midx q k m)
 | [] => rfl
 | p :: t => by
  simp only [em, List.map_cons, entD, hq, ment, midx, zH]
  cases q k p.1
  ·have := o_me hq k z t
   simp only [em] at this
   simp only [this, Option.map_some, cond_false, List.map_cons]
  ·rfl
theorem zyv (k : κ) (z v : ν) : ∀ m : List (κ × ν), ((em ek evl (ment q k z m))[midx q k m]?).map (fun p => (em ek evl (ment q k z m)).set (midx q k m) (p.1, evl v)) = some (em ek evl (mset q k v m))
 | [] => rfl
 | p :: t => by
  simp only [em, ment, midx, mset]
  cases q k p.1
  ·have := zyv k z v t
   simp only [em] at this
   obtain ⟨y, h1, h2⟩ := Option.map_eq_some_iff.1 this
   simp only [cond_false, List.map_cons, List.getElem?_cons_succ, List.set_cons_succ]
   rw [h1, Option.map_some, h2]
  ·rfl
theorem o_es (k : κ) (z v : ν) (m : List (κ × ν)) : 0 ≤ ((midx q k m : Nat) : Int) ∧ ((em ek evl (ment q k z m))[((midx q k m : Nat) : Int).toNat]?).map (fun p => (em ek evl (ment q k z m)).set ((midx q k m : Nat) : Int).toNat (p.1, evl v)) = some (em ek evl (mset q k v m)) :=
 ⟨by omega, by rw [Int.toNat_natCast]; exact zyv k z v m⟩
theorem zxm (hq : ∀ a b, eqD (ek a) (ek b) = some (q a b)) (k : κ) (m : List (κ × ν)) (z : ν) : ((z2g (ek k) (em ek evl m)).map fun r => X.d (r.getD (evl z))) = some (.d (evl ((zH q k m).getD z))) := by
 rw [zgr hq]
 simp only [Option.map_some]
 cases zH q k m <;> rfl
theorem zBt (hq : ∀ a b, eqD (ek a) (ek b) = some (q a b)) (k : κ) (m : List (κ × ν)) (z : ν) : ((z2g (ek k) (em ek evl m)).map fun r => X.d (.tup [r.getD (evl z), .b r.isSome])) = some (.d (.tup [evl ((zH q k m).getD z), .b (zH q k m).isSome])) := by
 rw [zgr hq]
 simp only [Option.map_some]
 cases zH q k m <;> rfl
end
end Go.AM
set_option linter.unusedSimpArgs false
set_option linter.unusedVariables false
namespace Go.AM
open Go Go.RowKit
def zbg (W : World) : Imm := ⟨fun b o => W.cell? ⟨b, o, none⟩, fun _ => none⟩
theorem zCv {E : Env} {W : World} (hg : ∀ g cs, E.G g = some cs → DR (zbg W) (.pin cs) (.pointer (some ⟨g, 0, none⟩))) : IW E (zbg W) W :=
 ⟨fun b o v h => h, fun r e h => by simp [zbg] at h, hg⟩
def zDp : Value → Prop
 | .slice (some a) _ _ => a.spot = none
 | _ => True
theorem zSu {n : Int} (h : (Lit.int .i64 n).wf = true) : -9223372036854775808 ≤ n ∧ n ≤ 9223372036854775807 := by
 simpa [Lit.wf, IntKind.has, IntKind.min, IntKind.max, IntKind.signed, IntKind.bits] using h
def zLc (P : Program) (W : World) (T : TypeId) (ns : Bool) {α : Type} (e : α → List D) (good : α → Prop) : Prop :=
 ∀ (H : Type) (enc : TypeId × Value → H) (sp : Nat → Bool) (held : Bool) (fuel : Nat) (cs : List Value) (x : DataW H × List MemPlace), DataW.trod enc P W 0 sp held fuel T cs = some x → (ns = true → ∀ v, v ∈ cs → zDp v) →
  ∃ a : α, cs.length = (e a).length ∧ (∀ (j : Nat) d, (e a)[j]? = some d → ∃ v, cs[j]? = some v ∧ DR (zbg W) d v ∧ d.sc = true) ∧ good a
section
variable {P : Program} {W : World}
theorem zrh {T : TypeId} (ns : Bool) (hT : P.underlying T = some (.int .i64)) : zLc P W T ns eI (fun n => -9223372036854775808 ≤ n ∧ n ≤ 9223372036854775807) := by
 intro H enc sp held fuel cs x h _
 obtain ⟨n, rfl, _, hw⟩ := DataW.trod_int hT h
 refine ⟨n, rfl, fun j d hd => ?_, zSu hw⟩
 cases j with
 | zero => simp only [eI, List.getElem?_cons_zero, Option.some.injEq] at hd; subst hd; exact ⟨_, rfl, .i _ _, rfl⟩
 | succ j => simp [eI] at hd
theorem zju {T : TypeId} (ns : Bool) (hT : P.underlying T = some .bool) : zLc P W T ns eB (fun _ => True) := by
 intro H enc sp held fuel cs x h _
 obtain ⟨b, rfl, _⟩ := DataW.trod_bool hT h
 refine ⟨b, rfl, fun j d hd => ?_, trivial⟩
 cases j with
 | zero => simp only [eB, List.getElem?_cons_zero, Option.some.injEq] at hd; subst hd; exact ⟨_, rfl, .b _, rfl⟩
 | succ j => simp [eB] at hd
theorem zLc.map {T : TypeId} {ns : Bool} {α β : Type} {e : α → List D} {e' : β → List D} {good : α → Prop} {good' : β → Prop} (h : zLc P W T ns e good) (g : α → β) (he : ∀ a, e' (g a) = e a) (hg : ∀ a, good a → good' (g a)) : zLc P W T ns e' good' := by
 intro H enc sp held fuel cs x hx hs
 obtain ⟨a, h1, h2, h3⟩ := h _ enc sp held fuel cs x hx hs
 exact ⟨g a, by rw [he]; exact h1, by rw [he]; exact h2, hg a h3⟩
def zip (P : Program) (W : World) (fs : List Field) (off : Nat) (ns : Bool) {α : Type} (e : α → List D) (good : α → Prop) : Prop :=
 ∀ (H : Type) (enc : TypeId × Value → H) (sp : Nat → Bool) (held : Bool) (fuel : Nat) (cs : List Value), (∀ f, f ∈ fs → ∃ y, DataW.trod enc P W 0 sp held fuel f.type ((cs.drop f.offset).take (P.cellsOf f.type)) = some y) → (ns = true → ∀ v, v ∈ cs → zDp v) →
  ∃ a : α, (∀ (j : Nat) d, (e a)[j]? = some d → ∃ v, cs[off + j]? = some v ∧ DR (zbg W) d v ∧ d.sc = true) ∧ good a
theorem zHo (off : Nat) (ns : Bool) : zip P W [] off ns (fun _ : Unit => []) (fun _ => True) := by
 intro H enc sp held fuel cs _ _
 exact ⟨(), fun j d h => by simp at h, trivial⟩
theorem zsd {f : Field} {fs : List Field} {off z : Nat} {ns : Bool} {α β : Type} {e : α → List D} {e' : β → List D} {good : α → Prop} {good' : β → Prop} (hf : zLc P W f.type ns e good) (ho : f.offset = off) (hz : ∀ a, (e a).length = z) (h : zip P W fs (off + z) ns e' good') :
  zip P W (f :: fs) off ns (fun p : α × β => e p.1 ++ e' p.2) (fun p => good p.1 ∧ good' p.2) := by
 intro H enc sp held fuel cs hx hs
 obtain ⟨y, hy⟩ := hx f (by simp)
 obtain ⟨a, h1, h2, h3⟩ := hf _ enc sp held fuel _ y hy (fun hn v hv => hs hn v (List.mem_of_mem_drop (List.mem_of_mem_take hv)))
 obtain ⟨b, k1, k2⟩ := h _ enc sp held fuel cs (fun g hg => hx g (by simp [hg])) hs
 refine ⟨(a, b), fun j d hd => ?_, h3, k2⟩
 simp only at hd
 by_cases hj : j < z
 ·rw [List.getElem?_append_left (by rw [hz]; exact hj)] at hd
  obtain ⟨v, v1, v2⟩ := h2 j d hd
  refine ⟨v, ?_, v2⟩
  rw [List.getElem?_take] at v1
  split at v1
  ·rw [List.getElem?_drop, ho] at v1; exact v1
  ·simp at v1
 ·rw [List.getElem?_append_right (by rw [hz]; omega), hz] at hd
  obtain ⟨v, v1, v2⟩ := k1 _ d hd
  refine ⟨v, ?_, v2⟩
  rw [show off + z + (j - z) = off + j by omega] at v1
  exact v1
theorem zrs {T : TypeId} {ns : Bool} {fs : Array Field} {α : Type} {e : α → List D} {good : α → Prop} (hT : P.underlying T = some (.struct fs)) (hz : ∀ a, (e a).length = P.cellsOf T) (h : zip P W fs.toList 0 ns e good) : zLc P W T ns e good := by
 intro H enc sp held fuel cs x hx hs
 obtain ⟨xs, n, rfl, _, hl, hn, hf⟩ := DataW.trod_struct hT hx
 obtain ⟨a, h1, h2⟩ := h _ enc sp held n cs (fun f hf' => by
  obtain ⟨i, hi⟩ := List.mem_iff_getElem?.1 hf'
  rw [Array.getElem?_toList] at hi
  have hlt := (Array.getElem?_eq_some_iff.1 hi).1
  exact ⟨xs[i], by rw [hf i f hi]; exact List.getElem?_eq_getElem (by omega)⟩) hs
 exact ⟨a, by rw [hl, hz], fun j d hd => by simpa using h1 j d hd, h2⟩
def z8n (P : Program) (T : TypeId) : Array Field := match P.underlying T with
 | some (.struct fs) => fs
 | _ => #[]
def z8 (P : Program) (T : TypeId) (i : Nat) : Field := ((z8n P T)[i]?).getD default
theorem ztl {T : TypeId} {ns : Bool} {fs : Array Field} {l : List Field} {α : Type} {e : α → List D} {good : α → Prop} (hT : P.underlying T = some (.struct fs)) (hl : fs.toList = l) (hz : ∀ a, (e a).length = P.cellsOf T) (h : zip P W l 0 ns e good) : zLc P W T ns e good :=
 zrs hT hz (hl ▸ h)
def zEg {α : Type} (good : α → Prop) (s : SL α) : Prop := (∀ a, a ∈ s.1 → good a) ∧ ((s.2 = .nil ∧ s.1 = []) ∨ s.2 = .ro) ∧ s.1.length ≤ maxLen
theorem zdq {α β : Type} : ∀ (l : List β) (p : Nat → β → α → Prop), (∀ (i : Nat) b, l[i]? = some b → ∃ a, p i b a) → ∃ al : List α, al.length = l.length ∧ ∀ (i : Nat) b a, l[i]? = some b → al[i]? = some a → p i b a
 | [], p, _ => ⟨[], rfl, fun i b a h => by simp at h⟩
 | b :: t, p, h => by
  obtain ⟨a, ha⟩ := h 0 b rfl
  obtain ⟨al, h1, h2⟩ := zdq t (fun i => p (i + 1)) fun i b hb => h (i + 1) b (by simpa using hb)
  refine ⟨a :: al, by simp [h1], fun i b' a' hb ha' => ?_⟩
  cases i with
  | zero =>
   simp only [List.getElem?_cons_zero, Option.some.injEq] at hb ha'
   subst hb; subst ha'; exact ha
  | succ i => exact h2 i b' a' (by simpa using hb) (by simpa using ha')
theorem z1i {T U : TypeId} {ns : Bool} {α : Type} {e : α → List D} {good : α → Prop} (hT : P.underlying T = some (.slice U)) (hU : zLc P W U false e good) (hz : ∀ a, (e a).length = P.cellsOf U) (hp : 0 < P.cellsOf U) :
  zLc P W T ns (eL e) (zEg good) := by
 intro H enc sp held fuel cs x hx hs
 have one : ∀ (s : SL α) (v : Value), cs = [v] → DR (zbg W) (.sl (s.1.map e) s.2) v → ∀ (j : Nat) d, (eL e s)[j]? = some d → ∃ v, cs[j]? = some v ∧ DR (zbg W) d v ∧ d.sc = true := by
  intro s v hcs hd j d hj
  cases j with
  | zero => simp only [eL, List.getElem?_cons_zero, Option.some.injEq] at hj; subst hj; exact ⟨v, by rw [hcs]; rfl, hd, rfl⟩
  | succ j => simp [eL] at hj
 rcases DataW.trod_slice hT hx with ⟨rfl, _⟩ | ⟨a, len, cap, elems, rest, n, _, rfl, _, hb, hl, hm, hlen, hel, _, _⟩
 ·exact ⟨([], .nil), rfl, one ([], .nil) _ rfl .nils, fun a h => by simp at h, .inl ⟨rfl, rfl⟩, by simp⟩
 ·obtain ⟨β, o, sp'⟩ := a
  rcases Nat.eq_zero_or_pos len with rfl | hpos
  ·refine ⟨([], .ro), rfl, one ([], .ro) _ rfl ?_, fun a h => by simp at h, .inr rfl, by simp⟩
   exact .sl (es := []) 0 (fun _ _ => undef) (fun h => absurd rfl h) (by simp) (by simp) (by simp) (by simp) (by simp) (by simp) (by simp)
  have hspot : sp' = none := by
   have h0 := hel 0 hpos
   rw [List.getElem?_eq_getElem (by omega)] at h0
   obtain ⟨cs', hc, _⟩ := Option.bind_eq_some_iff.1 h0
   have h3 := (World.cells?_some hc).2.2 0 hp
   have hl0 := (World.cells?_some hc).2.1
   rw [List.getElem?_eq_getElem (by omega)] at h3
   simpa [Addr.add] using World.cell?_spot h3
  subst hspot
  obtain ⟨al, h1, h2⟩ := zdq elems (fun i y a => (∀ (j : Nat) d, (e a)[j]? = some d → ∃ v, W.cell? ⟨β, o + (i * P.cellsOf U + j), none⟩ = some v ∧ DR (zbg W) d v ∧ d.sc = true) ∧ good a) (fun i y hy => by
   have hi : i < len := by rw [← hlen]; exact (List.getElem?_eq_some_iff.1 hy).1
   have := hel i hi
   rw [hy] at this
   obtain ⟨cs', hc, ht⟩ := Option.bind_eq_some_iff.1 this
   obtain ⟨a, a1, a2, a3⟩ := hU _ enc sp held n cs' y ht (fun h => by simp at h)
   refine ⟨a, fun j d hd => ?_, a3⟩
   obtain ⟨v, v1, v2⟩ := a2 j d hd
   refine ⟨v, ?_, v2⟩
   have hj : j < P.cellsOf U := by rw [← hz a]; exact (List.getElem?_eq_some_iff.1 hd).1
   have h3 := (World.cells?_some hc).2.2 j hj
   rw [v1] at h3
   rw [← h3]
   congr 1
   by_cases h0 : i * P.cellsOf U = 0
   ·by_cases hj0 : j = 0
    ·simp [Addr.add, h0, hj0]
    ·simp [Addr.add, h0, hj0]
   ·by_cases hj0 : j = 0
    ·simp [Addr.add, h0, hj0]
    ·simp [Addr.add, h0, hj0, Nat.add_assoc])
  have hal : al.length = len := by rw [h1, hlen]
  refine ⟨(al, .ro), rfl, one (al, .ro) _ rfl ?_, fun x hx => ?_, .inr rfl, by rw [show (al, Cap.ro).1.length = len from hal]; omega⟩
  ·have hsl : DR (zbg W) (.sl (al.map e) .ro) (.slice (some ⟨β, o, none⟩) (al.map e).length cap) := by
    have get : ∀ (i j : Nat) e' d, (al.map e)[i]? = some e' → e'[j]? = some d → ∃ v, W.cell? ⟨β, o + (i * P.cellsOf U + j), none⟩ = some v ∧ DR (zbg W) d v ∧ d.sc = true := by
     intro i j e' d he hd
     rw [List.getElem?_map] at he
     obtain ⟨a, ha, rfl⟩ := Option.map_eq_some_iff.1 he
     have hi : i < elems.length := by rw [← h1]; exact (List.getElem?_eq_some_iff.1 ha).1
     exact (h2 i _ a (List.getElem?_eq_getElem hi) ha).1 j d hd
    refine .sl (P.cellsOf U) (fun i j => ((W.cell? ⟨β, o + (i * P.cellsOf U + j), none⟩).getD undef)) (fun _ => rfl) (by simp) (by simp) (by simp [hal, hl]) (fun e' he => ?_) (fun e' he d hd => ?_) (fun i j e' d he hd => ?_) (fun i j e' d he hd => ?_)
    ·obtain ⟨a, _, rfl⟩ := List.mem_map.1 he; exact hz a
    ·obtain ⟨i, hi⟩ := List.mem_iff_getElem?.1 he
     obtain ⟨j, hj⟩ := List.mem_iff_getElem?.1 hd
     obtain ⟨v, _, _, h⟩ := get i j e' d hi hj
     exact h
    ·obtain ⟨v, hv, _⟩ := get i j e' d he hd
     show W.cell? _ = _
     rw [hv]; rfl
    ·obtain ⟨v, hv, h, _⟩ := get i j e' d he hd
     rw [hv]; exact h
   simpa [hal] using hsl
  ·obtain ⟨i, hi⟩ := List.mem_iff_getElem?.1 hx
   have hlt : i < elems.length := by rw [← h1]; exact (List.getElem?_eq_some_iff.1 hi).1
   exact (h2 i _ x (List.getElem?_eq_getElem hlt) hi).2
theorem zqv {T U : TypeId} {n : Nat} (hT : P.underlying T = some (.array n U)) (hU : P.underlying U = some (.int .i64)) (hc : P.cellsOf U = 1) (ns : Bool) (hl : P.cellsOf T = n) : zLc P W T ns (aI n) (fun f => ∀ k, k < n → -9223372036854775808 ≤ f k ∧ f k ≤ 9223372036854775807) := by
 intro H enc sp held fuel cs x hx _
 obtain ⟨xs, m, rfl, _, h1, h2, h3⟩ := DataW.trod_array hT hx
 have each : ∀ i, i < n → ∃ k : Int, cs[i]? = some (.int .i64 k) ∧ -9223372036854775808 ≤ k ∧ k ≤ 9223372036854775807 := by
  intro i hi
  have := h3 i hi
  rw [List.getElem?_eq_getElem (by omega), hc, Nat.mul_one] at this
  obtain ⟨k, hk, _, hw⟩ := DataW.trod_int hU this
  refine ⟨k, ?_, zSu hw⟩
  have h4 : ((cs.drop i).take 1)[0]? = some (.int .i64 k) := by rw [hk]; rfl
  simpa using h4
 let f : Nat → Int := fun i => match cs[i]? with
  | some (.int _ k) => k
  | _ => 0
 have hf : ∀ i, i < n → cs[i]? = some (.int .i64 (f i)) ∧ -9223372036854775808 ≤ f i ∧ f i ≤ 9223372036854775807 := by
  intro i hi
  obtain ⟨k, hk, hb⟩ := each i hi
  have : f i = k := by simp only [f, hk]
  rw [this]; exact ⟨hk, hb⟩
 refine ⟨f, by rw [h1, hl, zFr], fun j d hd => ?_, fun k hk => (hf k hk).2⟩
 have hj : j < n := by rw [← zFr n f]; exact (List.getElem?_eq_some_iff.1 hd).1
 rw [zgx f hj] at hd
 simp only [Option.some.injEq] at hd
 subst hd
 exact ⟨_, (hf j hj).1, .i _ _, rfl⟩
end
end Go.AM
set_option linter.unusedSimpArgs false
set_option linter.unusedVariables false
namespace Go.AM
open Go Go.RowKit Go.ChangeShapes Go.WideShapes Go.ChangeAt
section
variable {H : Type} {enc : TypeId × Value → H} {P : Program}
theorem z7r {f : Func} {s : ChangeSpec} {apart fresh handsOn again : Bool} {W W' : World} {args : Array Value} {v : Value} {ds gs : List (DataW H)} {before pa pv : List MemPlace}
  (hW : DataW.Whole enc P f.params.toList s.vars apart W args.toList ds gs before)
  (hres : ∀ (b : Nat) (sp : Nat → Bool) (hd : Bool), DataW.TrodAll enc P W' b sp hd f.resultTypes.toList (v.resultList f.resultTypes.size) (s.fn H (ds ++ gs)).results [])
  (hargs : ∀ sp : Nat → Bool, (∀ p ∈ before, sp p.block = true) → DataW.TrodAll enc P W' 0 sp true f.params.toList args.toList (s.fn H (ds ++ gs)).args pa)
  (hvars : ∀ sp : Nat → Bool, (∀ p ∈ before, sp p.block = true) → DataW.TrodVars enc P W' sp s.vars (s.fn H (ds ++ gs)).vars pv)
  (hps : before = pa ++ pv) (hb : Below W.heap.size W W')
  (hok : ∀ (j : Nat) (t : TypeId) (r : Value), f.resultTypes[j]? = some t → (v.resultList f.resultTypes.size)[j]? = some r → Value.okWide P W' .any 0 t r) :
  s.post enc P f apart fresh handsOn again W args v W' := by
 have hlt : ∀ p ∈ before, p.block < W.heap.size := fun p hp => hW.lt p hp
 have hold : ∀ p ∈ before, (fun b => decide (b < W.heap.size)) p.block = true := fun p hp => by simpa using hlt p hp
 refine ⟨ds, gs, before, [], pa, pv, hW, hres _ _ _, hargs _ hold, hvars _ hold, World.keptBut_mono (fun p hp => ⟨hp, ?_⟩) (hb.frame (· ∈ before)), fun _ => ?_⟩
 ·rw [hps, List.mem_append] at hp
  exact Or.inr hp
 ·obtain ⟨_, _, _, _, _, hz, hn⟩ := hW
  refine ⟨hok, _, _, ([] ++ pa) ++ pv, ⟨[] ++ pa, pv, trodAll_append (hargs _ (fun _ _ => rfl)) (hres _ _ _), hvars _ (fun _ _ => rfl), rfl, ?_, ?_⟩, ?_⟩
  ·intro b off hp
   have hin : MemPlace.cell b off ∈ before := by rw [hps]; simpa using hp
   rw [hb.frozen (hlt _ hin)]
   exact hz b off hin
  ·intro ha
   have := hn ha
   rw [hps] at this
   simpa using this
  ·intro p hp _
   rw [hps]
   simpa using hp
end
theorem zaq {P : Program} {W : World} {r : Go.Reach} {base : Nat} {t : TypeId} {v : Value} (h : Cell.okWide P W r base t v) : zDp v := by
 unfold zDp
 split
 ·rename_i a n c
  unfold Cell.okWide at h
  cases hu : P.underlying t with
  | none => simp [hu, Cell.ok] at h
  | some u =>
   cases u <;> simp [hu, Cell.ok] at h
   exact h.2.2.2.1
 ·trivial
theorem z5t {P : Program} {W : World} {r : Go.Reach} {base : Nat} {t : TypeId} {cs : Array Value} (h : Row.okWide P W r base t cs) : ∀ v, v ∈ cs.toList → zDp v := by
 obtain ⟨ts, _, _, h⟩ := h
 intro v hv
 obtain ⟨i, hi⟩ := List.mem_iff_getElem?.1 hv
 obtain ⟨u, _, hu⟩ := h i v (by rwa [Array.getElem?_toList] at hi)
 exact zaq hu
theorem z7w {P : Program} {W : World} {H : Type} {enc : TypeId × Value → H} {T : TypeId} {α : Type} {e : α → List D} {good : α → Prop} {ns : Bool} (ho : zLc P W T ns e good) {r : Go.Reach} {base : Nat} {v : Value} {d : DataW H} {ps : List MemPlace} {sp : Nat → Bool} {held : Bool}
  (hT : (match P.underlying T with | some (.struct _) => true | some (.array _ _) => true | _ => false) = true) (hval : Value.okWide P W r base T v) (h : DataW.Trod enc P W 0 sp held T v d ps) : ∃ a, DR (zbg W) (.agg (e a)) v ∧ good a := by
 have hc : ∃ cs, v = .agg cs ∧ cs.size = P.cellsOf T ∧ Row.okWide P W r base T cs := by
  unfold Value.okWide at hval
  split at hval
  ·exact hval
  ·exact hval
  ·rename_i h1 h2
   exfalso
   cases hu : P.underlying T with
   | none => simp [hu] at hT
   | some u => cases u <;> simp [hu] at hT <;> simp_all
 obtain ⟨cs, rfl, _, hrow⟩ := hc
 obtain ⟨fuel, ht⟩ := h
 obtain ⟨a, a1, a2, a3⟩ := ho _ enc sp held fuel cs.toList _ ht (fun _ => z5t hrow)
 refine ⟨a, .agg (by simpa using a1) (fun d hd => ?_) (fun j d hd => ?_), a3⟩
 ·obtain ⟨j, hj⟩ := List.mem_iff_getElem?.1 hd
  obtain ⟨_, _, _, h⟩ := a2 j d hj
  exact h
 ·obtain ⟨v, hv, hd', _⟩ := a2 j d hd
  rw [Array.getElem?_toList] at hv
  rw [Array.getD_eq_getD_getElem?, hv]
  exact hd'
theorem z0w {P : Program} {W : World} {H : Type} {enc : TypeId × Value → H} {T : TypeId} {α : Type} {e : α → List D} {good : α → Prop} {ns : Bool} (ho : zLc P W T ns e good) {r : Go.Reach} {base : Nat} {v : Value} {d : DataW H} {ps : List MemPlace} {sp : Nat → Bool} {held : Bool}
  (hT : (match P.underlying T with | some (.struct _) => false | some (.array _ _) => false | _ => true) = true) (hval : Value.okWide P W r base T v) (hv1 : v.cells.toList = [v]) (h : DataW.Trod enc P W 0 sp held T v d ps) : ∃ a d, e a = [d] ∧ DR (zbg W) d v ∧ good a := by
 have hc : Cell.okWide P W r base T v := by
  unfold Value.okWide at hval
  split at hval
  ·rename_i h1; simp [h1] at hT
  ·rename_i h1; simp [h1] at hT
  ·exact hval
 obtain ⟨fuel, ht⟩ := h
 rw [hv1] at ht
 obtain ⟨a, a1, a2, a3⟩ := ho _ enc sp held fuel [v] _ ht (fun _ u hu => by simp at hu; subst hu; exact zaq hc)
 cases he : e a with
 | nil => rw [he] at a1; simp at a1
 | cons d t =>
  cases t with
  | cons d' t => rw [he] at a1; simp at a1
  | nil =>
   obtain ⟨u, hu, hd, _⟩ := a2 0 d (by rw [he]; rfl)
   simp at hu
   subst hu
   exact ⟨a, d, he, hd, a3⟩
theorem zGv {P : Program} {W : World} {T : TypeId} {r : Go.Reach} {base : Nat} {v : Value} (hT : (match P.underlying T with | some (.struct _) => false | some (.array _ _) => false | _ => true) = true) (hval : Value.okWide P W r base T v) : v.cells.toList = [v] := by
 have hc : Cell.okWide P W r base T v := by
  unfold Value.okWide at hval
  split at hval
  ·rename_i h1; simp [h1] at hT
  ·rename_i h1; simp [h1] at hT
  ·exact hval
 cases v with
 | agg cs =>
  exfalso
  unfold Cell.okWide at hc
  cases hu : P.underlying T with
  | none => simp [hu, Cell.ok] at hc
  | some u => cases u <;> simp [hu, Cell.ok] at hc
 | _ => rfl
theorem zdv {P : Program} {W : World} {H : Type} {enc : TypeId × Value → H} {T U : TypeId} {α : Type} {e : α → List D} {good : SL α → Prop} (ho : zLc P W T true (eL e) good) (hT : P.underlying T = some (.slice U)) {r : Go.Reach} {base : Nat} {v : Value} {d : DataW H} {ps : List MemPlace} {sp : Nat → Bool} {held : Bool}
  (hval : Value.okWide P W r base T v) (h : DataW.Trod enc P W 0 sp held T v d ps) : ∃ s : SL α, DR (zbg W) (.sl (s.1.map e) s.2) v ∧ good s := by
 obtain ⟨a, d', he, hd, hg⟩ := z0w ho (by rw [hT]) hval (zGv (by rw [hT]) hval) h
 cases he
 exact ⟨a, hd, hg⟩
end Go.AM
set_option maxRecDepth 100000
namespace Go.AM
open Go Go.Proofs
def TE_H : Nat → Hint
 | 3 => ⟨some [0, 1, 2, 3, 6, 7, 8, 9, 10, 11, 12, 39, 59], [], [], [], [], [⟨3, [12], [], []⟩]⟩
 | 4 => ⟨some [0, 1, 2, 3, 4, 5, 6, 7, 8, 26, 45], [], [], [], [], []⟩
 | 5 => ⟨some [0, 1, 2, 3, 6, 7, 8, 9, 10, 11, 12, 13, 14, 15, 16, 38, 57], [], [], [], [], []⟩
 | 6 => ⟨some [0, 1, 2, 4, 5, 6, 7, 8, 9, 10, 11, 12, 13, 14, 15, 16, 17, 18, 19, 20, 23, 50, 52, 89, 93, 99, 140, 144, 162, 176, 198], [], [], [], [], [⟨21, [], [], []⟩, ⟨33, [], [], []⟩]⟩
 | 7 => ⟨some [0, 1, 2, 3, 4, 5, 6, 7, 8, 9, 10, 11, 12, 13, 14, 15, 27, 49, 58, 86, 99, 112, 126, 132, 180], [], [], [], [45], [⟨30, [], [], []⟩]⟩
 | 8 => ⟨some [0, 1, 2, 3, 4, 5, 6, 7, 8, 9, 10, 11, 12, 13, 14, 15, 16, 17, 30, 77, 85, 105, 148, 172], [], [], [], [], [⟨14, [7, 8, 9], [], []⟩]⟩
 | 9 => ⟨some [0, 1, 2, 3, 4, 5, 6, 7, 8, 9, 10, 11, 12, 13, 14, 15, 16, 17, 26, 74], [], [], [], [32], [⟨4, [6, 8], [(3, 32)], [(4, [32]), (5, [32])]⟩, ⟨5, [11, 12, 13], [], []⟩]⟩
 | 10 => ⟨some [0, 1, 2, 3, 4, 5, 6, 7, 8, 9, 10, 11, 12, 13, 14, 15, 16, 17, 18, 19, 22, 30, 34, 39, 47, 84, 91, 101, 168], [10, 2000121], [86], [], [77], []⟩
 | 11 => ⟨some [0, 1, 2, 4, 5, 6, 7, 8, 9, 10, 11, 12, 25, 69, 71, 99], [], [], [], [], []⟩
 | 12 => ⟨some [0, 1, 2, 4, 5, 6, 7, 8, 9, 10, 18, 42, 44, 72, 85, 109], [], [], [], [], []⟩
 | 13 => ⟨some [0, 1, 2, 4, 6, 8, 10, 12, 14, 16, 19, 21, 22, 23, 24, 25, 26, 27, 29, 31, 33, 35, 37, 39, 42, 43, 44, 46, 49, 50, 51, 52, 53, 54, 55, 56, 57, 58, 59, 60, 124, 241, 255, 271, 280, 293, 378], [], [], [], [72, 74], [⟨5, [7], [], []⟩, ⟨28, [5, 10], [], []⟩, ⟨35, [5, 10], [], []⟩]⟩
 | 14 => ⟨some [0, 1, 2, 4, 5, 6, 7, 9, 10, 11, 13, 17, 19, 20, 21, 22, 33, 38, 41, 42, 43, 44, 51], [], [], [], [], []⟩
 | 15 => ⟨some [0, 1, 2, 4, 5, 6, 10, 22], [], [], [], [], []⟩
 | 16 => ⟨some [0, 1, 2, 3, 4, 5, 6, 8, 9, 10, 11, 12, 13, 14, 39, 40, 41, 42, 83, 84, 85, 86, 97, 98, 99, 100, 121, 122, 123, 124, 154], [], [], [], [], [⟨1, [7], [], []⟩, ⟨23, [7, 21, 24], [], []⟩]⟩
 | 17 => ⟨some [0, 1, 2, 3, 4, 5, 6, 7, 8, 9, 10, 11, 40, 74, 93, 133, 161, 172], [], [], [], [], [⟨5, [21], [], []⟩, ⟨25, [7], [], []⟩]⟩
 | 18 => ⟨some [0, 1, 2, 4, 5, 6, 7, 11], [], [], [], [], []⟩
 | 19 => ⟨some [0, 1, 2, 4, 5, 6, 10], [], [], [], [], []⟩
 | 20 => ⟨some [0, 1, 2, 3, 4, 5, 9, 13], [], [], [], [], []⟩
 | 21 => ⟨some [0, 1, 2, 3, 4, 8], [], [], [], [], []⟩
 | 22 => ⟨some [0, 1, 2, 3, 4, 5, 6, 7, 8, 9, 10, 11, 12, 13, 14, 15, 69], [], [], [], [], []⟩
 | 23 => ⟨some [0, 1, 2, 3, 4, 5], [], [], [], [], []⟩
 | 24 => ⟨some [0, 1, 2, 3, 4, 5], [], [], [], [], []⟩
 | 25 => ⟨some [0, 1, 2, 3, 4, 5, 6, 7, 11, 16, 17, 26, 30], [], [], [], [], []⟩
 | 26 => ⟨some [0, 1, 2, 3, 4, 5, 6, 7, 14, 22, 32], [], [], [], [], []⟩
 | 27 => ⟨some [0, 1, 4, 5, 6, 18], [], [], [], [], [⟨5, [9], [], []⟩]⟩
 | 28 => ⟨some [0, 1, 2, 3, 4, 5, 6, 7, 8, 12, 15, 19, 20, 21, 25, 26, 27, 33, 59], [5, 7, 1000005], [], [], [], []⟩
 | 29 => ⟨some [0, 1, 2, 3, 4, 5, 6, 7, 8, 12, 20, 30, 60], [], [], [], [], []⟩
 | 30 => ⟨some [0, 1, 2, 3, 6, 7, 8, 9, 30], [], [], [], [], [⟨1, [21], [(20, 8)], [(18, [8])]⟩]⟩
 | 31 => ⟨some [0, 1, 2, 3, 6, 7, 8, 9, 30, 35, 36, 38], [], [], [], [], [⟨1, [15, 20], [], []⟩]⟩
 | 32 => ⟨some [0, 1, 2, 3, 4, 5, 6, 7, 8, 9, 10, 17, 21, 22, 23, 27, 33, 40], [6, 9], [], [], [], []⟩
 | 33 => ⟨some [0, 1, 2, 3, 4, 5, 6, 7, 8, 9, 10, 17, 23, 29, 35, 44], [6, 7, 9, 2000055], [], [], [], []⟩
 | 34 => ⟨some [0, 1, 4, 5, 6, 18], [], [], [], [], [⟨5, [8, 9], [], []⟩]⟩
 | 35 => ⟨some [0, 1, 2, 3, 4, 5, 6, 7, 8, 9, 10, 11, 18, 22, 29, 30, 31, 39, 57], [], [], [], [], [⟨6, [6], [(5, 6)], [(1, [6]), (2, [6]), (3, [6])]⟩, ⟨18, [5, 6], [], []⟩]⟩
 | 36 => ⟨some [0, 1, 2, 3, 4, 5, 6, 7, 8, 9, 10, 11, 12, 13, 20, 24, 32, 41, 56], [], [], [], [], []⟩
 | 37 => ⟨some [0, 1, 2, 3, 4, 5, 6, 7, 8, 42, 65, 84, 116], [], [], [], [], [⟨5, [10], [], []⟩, ⟨18, [10, 22, 24], [], []⟩]⟩
 | 38 => ⟨some [0, 1, 2, 4, 5, 6, 7, 8, 9, 10, 11, 12, 13, 18, 30, 54, 72, 78, 103, 108], [6, 7], [], [], [], [⟨10, [], [], []⟩, ⟨12, [11], [], []⟩, ⟨25, [36], [], []⟩]⟩
 | 39 => ⟨some [0, 1, 2, 4, 5, 6, 7, 8, 14, 18, 39, 62, 97], [], [], [], [], [⟨8, [5, 16], [], []⟩, ⟨11, [13], [], []⟩, ⟨15, [], [], []⟩]⟩
 | 40 => ⟨some [0, 1, 2, 6], [], [], [], [], []⟩
 | 41 => ⟨some [0, 2, 3, 4, 8], [], [], [], [], []⟩
 | 42 => ⟨some [0, 1, 4, 5, 6, 10, 26], [], [], [], [], []⟩
 | 43 => ⟨some [0, 1, 2, 3, 6, 7, 12, 23], [], [], [], [], []⟩
 | 44 => ⟨some [0, 1, 2, 3, 6, 7], [], [], [], [12], []⟩
 | 45 => ⟨some [0, 1, 4, 5, 7, 12], [], [], [], [], []⟩
 | 46 => ⟨some [0, 1, 4], [], [], [], [], []⟩
 | 47 => ⟨some [0, 1, 4, 5, 15, 26], [], [], [], [], [⟨4, [], [], []⟩, ⟨5, [9], [], []⟩]⟩
 | 48 => ⟨some [0, 1, 2, 4, 5, 6, 7, 8, 9, 10, 18, 24, 43, 67], [6], [12, 13], [], [], [⟨8, [14, 15], [], []⟩, ⟨12, [15, 16, 17], [], []⟩]⟩
 | 49 => ⟨some [0, 1, 4, 5, 6, 9, 14], [5], [], [], [], []⟩
 | 50 => ⟨some [0, 2, 3], [], [], [], [9], []⟩
 | 51 => ⟨some [0, 1, 2, 6], [], [], [], [], []⟩
 | 52 => ⟨some [0, 1, 2, 3, 5, 10, 11, 12, 13], [], [], [], [], []⟩
 | 53 => ⟨some [0, 1, 2, 3, 4, 6, 8, 11, 12, 13, 14, 21], [], [], [], [], [⟨1, [], [], []⟩]⟩
 | 54 => ⟨some [0, 1, 2, 4, 5, 6, 7, 8, 9, 14, 37, 39, 64, 69, 91], [], [], [], [], [⟨5, [9], [], []⟩, ⟨10, [10], [], []⟩, ⟨11, [], [], []⟩]⟩
 | 55 => ⟨some [0, 1, 3, 4], [], [], [], [], []⟩
 | 56 => ⟨some [0, 1, 2, 3, 6], [], [], [], [], []⟩
 | 57 => ⟨some [0, 1, 2, 4, 5, 6, 7, 14, 15, 16, 17, 18, 51], [], [], [], [], [⟨7, [8, 15, 24], [], []⟩]⟩
 | 58 => ⟨some [0, 1, 2, 4, 5, 6, 7, 8, 9, 15, 19, 28, 34, 39, 47, 51, 56, 91], [], [], [], [], [⟨14, [4], [], []⟩, ⟨22, [], [], []⟩]⟩
 | 59 => ⟨some [0, 1, 2], [], [], [], [], []⟩
 | 60 => ⟨some [0, 1, 2, 3, 4, 5, 6, 7, 8, 9, 15, 21, 30, 46, 54], [5, 8], [], [], [], [⟨18, [5], [], []⟩]⟩
 | 61 => ⟨some [0, 2, 3, 5, 6, 7, 8, 9], [], [], [], [], []⟩
 | 62 => ⟨some [0, 2, 3, 4, 8], [], [], [], [], []⟩
 | 63 => ⟨some [0], [], [], [], [], []⟩
 | 64 => ⟨some [0, 2, 4], [], [], [], [7], []⟩
 | 65 => ⟨some [0, 1, 2, 4, 5, 6, 7, 11, 14, 19], [], [], [], [], []⟩
 | 66 => ⟨some [0, 1, 2, 5], [], [], [], [], []⟩
 | 67 => ⟨some [0, 2, 3, 5, 6, 7, 8, 9, 14], [], [], [], [], []⟩
 | 68 => ⟨some [0, 1, 4, 5, 6, 11, 12, 13, 16, 19], [], [], [], [], []⟩
 | 69 => ⟨some [0, 1, 4, 5, 6, 7, 8, 9, 10, 11, 12, 19, 28, 35], [], [], [], [], []⟩
 | 70 => ⟨some [0, 1, 2, 4, 5, 6, 7, 8, 10, 11, 12, 13, 14, 20, 21, 22, 23, 30, 44, 45, 46, 47, 67], [], [16, 17], [], [], []⟩
 | 71 => ⟨some [0, 1, 2, 4, 5, 6, 7, 8, 9, 10, 18, 24, 43, 67], [6], [12, 13], [], [], [⟨8, [14, 15], [], []⟩, ⟨12, [15, 16, 17], [], []⟩]⟩
 | 72 => ⟨some [0, 1, 2, 4, 5, 6, 7, 11, 15, 22], [], [], [], [], []⟩
 | 73 => ⟨some [0, 1, 2, 3, 6, 12, 13, 17], [], [], [], [], []⟩
 | 74 => ⟨some [0, 1, 2, 6, 7, 8, 12, 29], [], [], [], [], [⟨5, [], [], []⟩]⟩
 | 75 => ⟨some [0, 1, 4, 5, 9, 17], [], [], [], [], []⟩
 | 76 => ⟨some [0, 1, 4, 6, 7, 8, 9, 10], [], [], [], [], []⟩
 | 77 => ⟨some [0, 1, 4, 7], [], [], [], [], []⟩
 | 78 => ⟨some [0, 1, 2, 3, 6, 7, 8, 9, 10, 11, 14, 35, 53, 99], [], [], [], [], [⟨3, [18], [(17, 7)], [(10, [7]), (11, [7]), (12, [7]), (13, [7]), (14, [7])]⟩, ⟨8, [10, 11], [], []⟩, ⟨12, [], [], []⟩, ⟨14, [28], [], []⟩]⟩
 | 79 => ⟨some [0, 1, 4], [], [], [], [7], []⟩
 | 80 => ⟨some [0, 1, 4], [], [], [], [], []⟩
 | 81 => ⟨some [0, 1, 2, 3, 4, 10], [], [], [], [], []⟩
 | 82 => ⟨some [0, 1], [], [], [], [], []⟩
 | 83 => ⟨some [0, 1, 2, 3, 4], [], [], [], [], []⟩
 | 84 => ⟨some [0, 1, 3, 4, 5, 7, 8, 9, 16], [], [], [], [], [⟨4, [], [], []⟩]⟩
 | 85 => ⟨some [0, 1, 2, 3, 4, 8, 9, 10, 11, 12, 13, 14, 15, 49], [], [], [], [], [⟨4, [25], [], []⟩]⟩
 | 86 => ⟨some [0, 1, 4, 5, 6, 7, 8, 9, 10, 11], [], [], [], [], []⟩
 | 87 => ⟨some [0, 1, 4, 5, 6, 10, 18], [5], [], [], [], []⟩
 | 88 => ⟨some [0, 1, 2, 3], [], [], [], [], []⟩
 | 89 => ⟨some [0, 1, 2, 3, 5, 6, 7, 15, 25, 26, 27, 43, 53], [], [], [], [], [⟨4, [], [], []⟩, ⟨7, [4, 12], [], []⟩, ⟨8, [8], [], []⟩]⟩
 | 90 => ⟨some [0, 1, 4], [], [], [], [], []⟩
 | 91 => ⟨some [0, 2], [], [], [], [], []⟩
 | 92 => ⟨some [0, 1, 4], [], [], [], [], []⟩
 | 93 => ⟨some [0, 1, 2, 3, 4, 5, 6, 10, 11, 17, 18, 19, 22, 23, 24, 34], [], [], [], [], [⟨11, [], [], []⟩, ⟨12, [9], [(7, 5000007)], []⟩]⟩
 | 94 => ⟨some [0, 1, 4, 5, 7, 8, 9, 16], [], [], [], [], []⟩
 | 110 => ⟨some [0, 1, 2, 3, 4, 5, 6, 7, 8, 11], [3], [], [], [], []⟩
 | 112 => ⟨some [0, 1, 2, 3, 4, 6, 7, 9, 10, 19, 20, 21, 22], [], [], [], [], [⟨6, [13, 16], [], []⟩]⟩
 | 113 => ⟨some [0, 1, 2, 3, 4, 6, 7, 8], [], [], [], [], [⟨1, [17], [(16, 7)], [(8, [7]), (9, [7]), (10, [7]), (11, [7]), (12, [7]), (13, [7])]⟩, ⟨2, [17], [], []⟩]⟩
 | 114 => ⟨some [0, 1, 3, 4, 6], [], [], [], [], [⟨1, [10], [], []⟩]⟩
 | 115 => ⟨some [0, 1, 2, 3, 4, 6, 8, 10, 11, 12, 13, 21], [], [], [], [], []⟩
 | 116 => ⟨some [0, 1, 3, 4, 5], [], [], [], [], []⟩
 | _ => .nil
def TE_G : Nat → Option (List D)
 | 0 => some [(.fn 112 [] []), (.fn 113 [] []), (.fn 114 [] []), (.fn 115 [] [])]
 | _ => none
def TE_F : List Nat := [3, 4, 5, 6, 7, 8, 9, 10, 11, 12, 13, 14, 15, 16, 17, 18, 19, 20, 21, 22, 23, 24, 25, 26, 27, 28, 29, 30, 31, 32, 33, 34, 35, 36, 37, 38, 39, 40, 41, 42, 43, 44, 45, 46, 47, 48, 49, 50, 51, 52, 53, 54, 55, 56, 57, 58, 59, 60, 61, 62, 63, 64, 65, 66, 67, 68, 69, 70, 71, 72, 73, 74, 75, 76, 77, 78, 79, 80, 81, 82, 83, 84, 85, 86, 87, 88, 89, 90, 91, 92, 93, 94, 110, 112, 113, 114, 115, 116]
noncomputable def TE : Env := ⟨Tryd.prog, TE_G, TE_H, TE_F⟩
end Go.AM
set_option linter.unusedVariables false
set_option maxRecDepth 100000
namespace Go.AM
open Go
structure zN where
 Low : Int
 High : Int
def z9f (x : zN) : List D := eI x.Low ++ eI x.High
structure zn where
 Day : Int
 Place : Int
 Born : zN
 Dead : Bool
 Account : Int
def zd (x : zn) : List D := eI x.Day ++ eI x.Place ++ z9f x.Born ++ eB x.Dead ++ eI x.Account
structure za where
 Letters : (SL zn)
 Far : (SL (SL Int))
 Apart : (SL (Nat → Int))
 Most : Int
def zb (x : za) : List D := (eL zd) x.Letters ++ (eL (eL eI)) x.Far ++ (eL (aI 2)) x.Apart ++ eI x.Most
structure zl where
 one : Int
 other : Int
def zh (x : zl) : List D := eI x.one ++ eI x.other
structure zj where
 NamesakeBook : za
 apart : (List (zl × Bool))
def zo (x : zj) : List D := zb x.NamesakeBook ++ (eM (fun k => D.agg (zh k)) (fun b => D.b b)) x.apart
structure z7 where
 many : Int
 same : (List (zl × Int))
def zr (a b : zl) : Bool := ((a.one == b.one) && ((a.other == b.other) && true))
def zKc (a b : Int) : Bool := (a == b)
abbrev zt0 := (Int × Int)
abbrev zt1 := (Bool × Int)
abbrev zt2 := ((SL zn) × (SL (SL Int)) × (SL (Nat → Int)) × Int × (List (zl × Bool)))
abbrev zt3 := (Nat → Bool)
abbrev zt4 := ((SL Int) × Bool)
abbrev zt5 := ((SL (SL Int)) × Int)
abbrev zt6 := (List Int)
abbrev zt7 := (List (SL Int))
abbrev zt8 := (z7 × Int)
abbrev zt9 := (Bool × Int × Int)
abbrev zt10 := ((List (zl × Int)) → Int → (SL Int) → Option ((List (zl × Int)) × Int))
abbrev zt11 := (Nat → Int)
abbrev zt12 := ((SL Int) → (SL Int) → Option (SL Int))
abbrev zt13 := (List (zl × Int))
abbrev zt14 := (Int × (List Int) × (List (SL Int)))
abbrev zt15 := (Nat → SL Int)
abbrev zt16 := (Int → (SL Int) → Option Int)
abbrev zt17 := (Int × (List zn) × (List (Int × Int)))
def zT (k : Nat) (p0 p1 p2 : Int) : Option Bool :=
 cond (decide (p1 ≤ p0)) (
 some (decide (p0 ≤ p2))) (
 some false)
def zZi (r : Bool) : D := (db r)
def z9b (k : Nat) (p0 : (SL (Nat → Int))) (p1 : zt11) (s1_4 : Int) : Option (Int ⊕ (Int ⊕ Int)) :=
 cond (decide (s1_4 < (p0.1.length : Int))) (
 (idx p0.1 s1_4).bind fun v202 =>
 cond (eqI p1 v202 0 2) (
 some (Sum.inr (Sum.inl s1_4))) (
 some (Sum.inl (w64 (s1_4 + 1))))) (
 some (Sum.inr (Sum.inr s1_4)))
def zge (k : Nat) (p0 : (SL (Nat → Int))) (p1 : zt11) : Option Int :=
 (iter (fun s => z9b k p0 p1 s) k 0).bind fun v1 =>
 Sum.elim (fun v4 =>
 some v4) (fun w1_0 =>
 (fun v4 =>
 some (-1)) w1_0) v1
def zvf (r : Int) : D := (di r)
def z8b (k : Nat) (p0 : (SL (Nat → Int))) (p1 : zt11) : Option Bool :=
 (zge k p0 p1).bind fun v1 =>
 some (decide (v1 ≥ 0))
def zZg (r : Bool) : D := (db r)
def zHf (k : Nat) (p0 : za) : Option Bool :=
 (zT k (p0.Letters.1.length : Int) 1 8).bind fun v201 =>
 cond v201 (
 (zT k (p0.Far.1.length : Int) 1 6).bind fun v204 =>
 cond v204 (
 cond (decide ((p0.Apart.1.length : Int) ≤ 8)) (
 (zT k p0.Most 1 8).bind fun v208 =>
 some v208) (
 some false)) (
 some false)) (
 some false)
def z3g (k : Nat) (p0 : za) (s2_7 : Bool) (s2_8 s2_11 : Int) (v402 : zn) : Option Bool :=
 cond s2_7 (
 (zT k v402.Day s2_8 20000).bind fun v502 =>
 cond v502 (
 (zT k v402.Place 0 (w64 ((p0.Far.1.length : Int) - 1))).bind fun v505 =>
 cond v505 (
 (zT k v402.Born.Low 0 v402.Born.High).bind fun v508 =>
 cond v508 (
 cond (decide (v402.Born.High ≤ 200)) (
 (zT k v402.Account 0 1000).bind fun v512 =>
 some v512) (
 some false)) (
 some false)) (
 some false)) (
 some false)) (
 some false)
def zje (k : Nat) (p0 : za) (s2_7 : Bool) (s2_8 s2_11 : Int) : Option ((Bool × Int × Int) ⊕ (Bool × Int × Int)) :=
 cond (decide (s2_11 < (p0.Letters.1.length : Int))) (
 (idx p0.Letters.1 s2_11).bind fun v402 =>
 (z3g k p0 s2_7 s2_8 s2_11 v402).bind fun v404 =>
 some (Sum.inl (v404, v402.Day, (w64 (s2_11 + 1))))) (
 some (Sum.inr (s2_7, s2_8, s2_11)))
def zHg (k : Nat) (p0 : za) (v3 : zt9) (s5_7 : Bool) (s5_15 : Int) (v1002 : (SL Int)) : Option Bool :=
 cond s5_7 (
 some ((v1002.1.length : Int) == (p0.Far.1.length : Int))) (
 some false)
def zKg (k : Nat) (p0 : za) (v3 : zt9) (s5_15 : Int) (v1002 : (SL Int)) (s11_7 : Bool) (s11_21 v1302 : Int) : Option Bool :=
 cond s11_7 (
 (zT k v1302 0 400).bind fun v1402 =>
 cond v1402 (
 cond (s5_15 != s11_21) (
 some true) (
 some (v1302 == 0))) (
 some false)) (
 some false)
def z5e (k : Nat) (p0 : za) (v3 : zt9) (s5_15 : Int) (v1002 : (SL Int)) (s11_7 : Bool) (s11_21 : Int) : Option ((Bool × Int) ⊕ (Bool × Int)) :=
 cond (decide (s11_21 < (v1002.1.length : Int))) (
 (idx v1002.1 s11_21).bind fun v1302 =>
 (zKg k p0 v3 s5_15 v1002 s11_7 s11_21 v1302).bind fun v1304 =>
 some (Sum.inl (v1304, (w64 (s11_21 + 1))))) (
 some (Sum.inr (s11_7, s11_21)))
def zhe (k : Nat) (p0 : za) (v3 : zt9) (s5_7 : Bool) (s5_15 : Int) : Option ((Bool × Int) ⊕ (Bool × Int)) :=
 cond (decide (s5_15 < (p0.Far.1.length : Int))) (
 (idx p0.Far.1 s5_15).bind fun v1002 =>
 (zHg k p0 v3 s5_7 s5_15 v1002).bind fun v1004 =>
 (iter (fun s => z5e k p0 v3 s5_15 v1002 s.1 s.2) k (v1004, 0)).bind fun v1006 =>
 some (Sum.inl (v1006.1, (w64 (s5_15 + 1))))) (
 some (Sum.inr (s5_7, s5_15)))
def zzg (k : Nat) (p0 : za) (v3 : zt9) (v5 : zt1) (s14_7 : Bool) (s14_19 : Int) (v1602 : zt11) : Option Bool :=
 cond s14_7 (
 (zT k (v1602 0) 0 (w64 ((v1602 1) - 1))).bind fun v1702 =>
 cond v1702 (
 cond (decide ((v1602 1) < (p0.Letters.1.length : Int))) (
 cond (decide (0 ≤ s14_19) && decide (s14_19 ≤ (p0.Apart.1.length : Int))) (
 (z8b k ((p0.Apart.1.take s14_19.toNat), (pcap p0.Apart.2 (s14_19 == (p0.Apart.1.length : Int)))) v1602).bind fun v1707 =>
 some (!v1707)) none) (
 some false)) (
 some false)) (
 some false)
def zQd (k : Nat) (p0 : za) (v3 : zt9) (v5 : zt1) (s14_7 : Bool) (s14_19 : Int) : Option ((Bool × Int) ⊕ (Bool × Int)) :=
 cond (decide (s14_19 < (p0.Apart.1.length : Int))) (
 (idx p0.Apart.1 s14_19).bind fun v1602 =>
 (zzg k p0 v3 v5 s14_7 s14_19 v1602).bind fun v1604 =>
 some (Sum.inl (v1604, (w64 (s14_19 + 1))))) (
 some (Sum.inr (s14_7, s14_19)))
def z1b (k : Nat) (p0 : za) : Option Int :=
 (zHf k p0).bind fun v1 =>
 (iter (fun s => zje k p0 s.1 s.2.1 s.2.2) k (v1, 0, 0)).bind fun v3 =>
 (iter (fun s => zhe k p0 v3 s.1 s.2) k (v3.1, 0)).bind fun v5 =>
 (iter (fun s => zQd k p0 v3 v5 s.1 s.2) k (v5.1, 0)).bind fun v7 =>
 cond (!v7.1) (
 some 80) (
 some 0)
def zhj (r : Int) : D := (di r)
def zU (k : Nat) (p0 p1 p2 : Int) : Option Bool :=
 cond (decide (p1 ≤ p0)) (
 some (decide (p0 ≤ p2))) (
 some false)
def zih (r : Bool) : D := (db r)
def zee (k : Nat) (p0 : zN) (p1 p2 : Int) : Option Bool :=
 cond (decide (p1 ≤ p0.Low)) (
 cond (decide (p0.Low ≤ p0.High)) (
 some (decide (p0.High ≤ p2))) (
 some false)) (
 some false)
def zQe (r : Bool) : D := (db r)
def zSe (k : Nat) (p0 : za) : Option Bool :=
 (z1b k p0).bind fun v201 =>
 cond (v201 == 0) (
 (zU k (p0.Letters.1.length : Int) 1 8).bind fun v204 =>
 cond v204 (
 (zU k (p0.Far.1.length : Int) 1 6).bind fun v207 =>
 cond v207 (
 cond (decide ((p0.Apart.1.length : Int) ≤ 8)) (
 (zU k p0.Most 1 8).bind fun v211 =>
 some v211) (
 some false)) (
 some false)) (
 some false)) (
 some false)
def zoc (k : Nat) (p0 : za) (s2_5 : Bool) (s2_6 : Int) : Option Bool :=
 cond s2_5 (
 some (decide (s2_6 < (p0.Far.1.length : Int)))) (
 some false)
def zcc (k : Nat) (p0 : za) (s2_6 : Int) (s8_5 : Bool) (s8_8 : Int) : Option Bool :=
 cond s8_5 (
 (idx p0.Far.1 s2_6).bind fun v1102 =>
 some (decide (s8_8 < (v1102.1.length : Int)))) (
 some false)
def zuc (k : Nat) (p0 : za) (s2_6 : Int) (s8_5 : Bool) (s8_8 : Int) : Option ((Bool × Int) ⊕ (Bool × Int)) :=
 (zcc k p0 s2_6 s8_5 s8_8).bind fun v1001 =>
 cond v1001 (
 (idx p0.Far.1 s2_6).bind fun v1004 =>
 (idx v1004.1 s8_8).bind fun v1006 =>
 (zU k v1006 0 400).bind fun v1008 =>
 some (Sum.inl (v1008, (w64 (s8_8 + 1))))) (
 some (Sum.inr (s8_5, s8_8)))
def zpc (k : Nat) (p0 : za) (s2_5 : Bool) (s2_6 : Int) : Option ((Bool × Int) ⊕ (Bool × Int)) :=
 (zoc k p0 s2_5 s2_6).bind fun v701 =>
 cond v701 (
 (idx p0.Far.1 s2_6).bind fun v704 =>
 (iter (fun s => zuc k p0 s2_6 s.1 s.2) k (((v704.1.length : Int) == (p0.Far.1.length : Int)), 0)).bind fun v706 =>
 some (Sum.inl (v706.1, (w64 (s2_6 + 1))))) (
 some (Sum.inr (s2_5, s2_6)))
def zdc (k : Nat) (p0 : za) (v3 : zt1) (s11_5 : Bool) (s11_8 : Int) : Option Bool :=
 cond s11_5 (
 some (decide (s11_8 < (p0.Letters.1.length : Int)))) (
 some false)
def zse (k : Nat) (p0 : za) (v3 : zt1) (s11_5 : Bool) (s11_8 : Int) (v1404 : zn) : Option Bool :=
 (zU k v1404.Day 0 20000).bind fun v1601 =>
 cond v1601 (
 (zU k v1404.Place 0 (w64 ((p0.Far.1.length : Int) - 1))).bind fun v1604 =>
 cond v1604 (
 (zee k v1404.Born 0 200).bind fun v1607 =>
 some v1607) (
 some false)) (
 some false)
def zfc (k : Nat) (p0 : za) (v3 : zt1) (s11_5 : Bool) (s11_8 : Int) : Option ((Bool × Int) ⊕ (Bool × Int)) :=
 (zdc k p0 v3 s11_5 s11_8).bind fun v1401 =>
 cond v1401 (
 (idx p0.Letters.1 s11_8).bind fun v1404 =>
 (zse k p0 v3 s11_5 s11_8 v1404).bind fun v1406 =>
 some (Sum.inl (v1406, (w64 (s11_8 + 1))))) (
 some (Sum.inr (s11_5, s11_8)))
def zgc (k : Nat) (p0 : za) (v3 v5 : zt1) (s16_5 : Bool) (s16_10 : Int) : Option Bool :=
 cond s16_5 (
 some (decide (s16_10 < (p0.Apart.1.length : Int)))) (
 some false)
def zme (k : Nat) (p0 : za) (v3 v5 : zt1) (s16_5 : Bool) (s16_10 : Int) : Option Bool :=
 (idx p0.Apart.1 s16_10).bind fun v2101 =>
 (zU k (v2101 0) 0 (w64 ((p0.Letters.1.length : Int) - 1))).bind fun v2103 =>
 cond v2103 (
 (idx p0.Apart.1 s16_10).bind fun v2106 =>
 (zU k (v2106 1) 0 (w64 ((p0.Letters.1.length : Int) - 1))).bind fun v2108 =>
 some v2108) (
 some false)
def zac (k : Nat) (p0 : za) (v3 v5 : zt1) (s16_5 : Bool) (s16_10 : Int) : Option ((Bool × Int) ⊕ (Bool × Int)) :=
 (zgc k p0 v3 v5 s16_5 s16_10).bind fun v1901 =>
 cond v1901 (
 (zme k p0 v3 v5 s16_5 s16_10).bind fun v1904 =>
 some (Sum.inl (v1904, (w64 (s16_10 + 1))))) (
 some (Sum.inr (s16_5, s16_10)))
def zCe (k : Nat) (p0 : za) : Option Bool :=
 (zSe k p0).bind fun v1 =>
 (iter (fun s => zpc k p0 s.1 s.2) k (v1, 0)).bind fun v3 =>
 (iter (fun s => zfc k p0 v3 s.1 s.2) k (v3.1, 0)).bind fun v5 =>
 (iter (fun s => zac k p0 v3 v5 s.1 s.2) k (v5.1, 0)).bind fun v7 =>
 some v7.1
def zBj (r : Bool) : D := (db r)
def zEh (k : Nat) (p0 p1 : Int) : Option zN :=
 some (⟨p0, p1⟩ : zN)
def zcl (r : zN) : D := (.agg [(di r.Low), (di r.High)])
def zjc (k : Nat) (p0 p1 p2 p3 p4 : Int) : Option zn :=
 (zEh k p2 p3).bind fun v1 =>
 some (⟨p0, p1, v1, false, p4⟩ : zn)
def z2i (r : zn) : D := (.agg (zd r))
def zhb (k : Nat) (p0 : Int) : Option za :=
 (zjc k 10 0 50 60 7).bind fun v1 =>
 (zjc k 12 1 40 55 0).bind fun v3 =>
 (zjc k 20 0 56 70 0).bind fun v5 =>
 (zjc k 30 1 50 58 7).bind fun v7 =>
 (zjc k 40 0 30 45 0).bind fun v9 =>
 (idx ([v1, v3, v5, v7, v9] : List zn) 4).bind fun v11 =>
 some (⟨((([v1, v3, v5, v7, v9] : List zn).set (4 : Int).toNat (⟨v11.Day, v11.Place, v11.Born, true, v11.Account⟩ : zn)), (rcap false (([v1, v3, v5, v7, v9] : List zn).set (4 : Int).toNat (⟨v11.Day, v11.Place, v11.Born, true, v11.Account⟩ : zn)))), ([([0, 5], .ex), ([5, 0], .ex)], .ex), ([], Cap.nil), p0⟩ : za)
def zXj (r : za) : D := (.agg (zb r))
def zbf (k : Nat) (p0 : za) (s1_6 : Int) (s1_16 : (List (zl × Bool))) : Option ((Int × (List (zl × Bool))) ⊕ (Int × (List (zl × Bool)))) :=
 cond (decide (s1_6 < (p0.Apart.1.length : Int))) (
 (idx p0.Apart.1 s1_6).bind fun v202 =>
 some (Sum.inl ((w64 (s1_6 + 1)), (mset zr (⟨(v202 0), (v202 1)⟩ : zl) true s1_16)))) (
 some (Sum.inr (s1_6, s1_16)))
def z6b (k : Nat) (p0 : za) : Option zj :=
 (iter (fun s => zbf k p0 s.1 s.2) k (0, [])).bind fun v1 =>
 some (⟨p0, v1.2⟩ : zj)
def zAl (r : zj) : D := (.agg (zo r))
def zoi (k : Nat) : Option (Nat → Bool) :=
 some (fun _ => false)
def zCl (r : zt3) : D := (.agg (aB 8 r))
def zVc (k : Nat) (p0 : zt3) (s1_3 : Int) (s1_5 : zt6) : Option ((Int × (List Int)) ⊕ (Int × (List Int))) :=
 cond (decide (s1_3 < 8)) (
 cond (decide (0 ≤ s1_3) && decide (s1_3 < 8)) (
 cond (p0 s1_3.toNat) (
 cond (decide (s1_5.length + 1 ≤ LIM)) (
 some (Sum.inl ((w64 (s1_3 + 1)), (s1_5 ++ [s1_3])))) none) (
 some (Sum.inl ((w64 (s1_3 + 1)), s1_5)))) none) (
 some (Sum.inr (s1_3, s1_5)))
def z3b (k : Nat) (p0 : zt3) : Option (SL Int) :=
 (iter (fun s => zVc k p0 s.1 s.2) k (0, ([] : List Int))).bind fun v1 =>
 some (v1.2, (rcap true v1.2))
def zSi (r : (SL Int)) : D := (dl eI r.1 r.2)
def zyb (k : Nat) (p1 : (SL Int)) (s1_0 s1_5 : Int) : Option ((Int × Int) ⊕ (Int × Int)) :=
 cond (decide (s1_5 < (p1.1.length : Int))) (
 (idx p1.1 s1_5).bind fun v202 =>
 some (Sum.inl ((if v202 > s1_0 then v202 else s1_0), (w64 (s1_5 + 1))))) (
 some (Sum.inr (s1_0, s1_5)))
def zDb (k : Nat) (p0 : Int) (p1 : (SL Int)) : Option Int :=
 (iter (fun s => zyb k p1 s.1 s.2) k (p0, 0)).bind fun v1 =>
 some v1.1
def zTi (r : Int) : D := (di r)
def zPd (k : Nat) (p0 : zj) (p1 : zt3) (p2 : Int) (v3 : (SL Int)) (s1_10 s1_17 s1_18 : Int) : Option ((Int × Int × Int) ⊕ (Int × Int × Int)) :=
 cond (decide (s1_10 < (v3.1.length : Int))) (
 (idx v3.1 s1_10).bind fun v202 =>
 (idx p0.NamesakeBook.Letters.1 v202).bind fun v204 =>
 (zDb k s1_17 ([v204.Born.Low], .ex)).bind fun v206 =>
 (zDb k (w64 (0 - s1_18)) ([(w64 (0 - v204.Born.High))], .ex)).bind fun v208 =>
 some (Sum.inl ((w64 (s1_10 + 1)), v206, (w64 (0 - v208))))) (
 some (Sum.inr (s1_10, s1_17, s1_18)))
def zVe (k : Nat) (p0 : zj) (p1 : zt3) (p2 : Int) : Option Bool :=
 (idx p0.NamesakeBook.Letters.1 p2).bind fun v1 =>
 (z3b k p1).bind fun v3 =>
 (iter (fun s => zPd k p0 p1 p2 v3 s.1 s.2.1 s.2.2) k (0, v1.Born.Low, v1.Born.High)).bind fun v5 =>
 some (decide (v5.2.1 ≤ v5.2.2))
def zjk (r : Bool) : D := (db r)
def zUd (k : Nat) (p0 : zj) (p1 : zt3) : Option Int :=
 (z3b k p1).bind fun v1 =>
 (idx v1.1 (w64 ((v1.1.length : Int) - 1))).bind fun v3 =>
 some v3
def zYj (r : Int) : D := (di r)
def zLf (k : Nat) (p0 : zj) (p1 : zt3) (p2 : Int) : Option Bool :=
 (zUd k p0 p1).bind fun v1 =>
 (idx p0.NamesakeBook.Letters.1 v1).bind fun v3 =>
 (idx p0.NamesakeBook.Letters.1 p2).bind fun v5 =>
 (idx p0.NamesakeBook.Far.1 v3.Place).bind fun v7 =>
 (idx v7.1 v5.Place).bind fun v9 =>
 some (decide ((w64 (v5.Day - v3.Day)) ≥ v9))
def zzk (r : Bool) : D := (db r)
def zGe (k : Nat) (p0 : zj) (p1 : zt3) (p2 : Int) : Option Bool :=
 (zUd k p0 p1).bind fun v1 =>
 (idx p0.NamesakeBook.Letters.1 v1).bind fun v3 =>
 some (!v3.Dead)
def zIj (r : Bool) : D := (db r)
def ztd (k : Nat) (p0 : zj) (p1 : zt3) (p2 : Int) (v1 : (SL Int)) (s1_10 : Int) : Option (Int ⊕ ((Int × Int) ⊕ Int)) :=
 cond (decide (s1_10 < (v1.1.length : Int))) (
 (idx v1.1 s1_10).bind fun v202 =>
 cond ((zH zr (⟨v202, p2⟩ : zl) p0.apart).getD false) (
 some (Sum.inr (Sum.inl (s1_10, v202)))) (
 some (Sum.inl (w64 (s1_10 + 1))))) (
 some (Sum.inr (Sum.inr s1_10)))
def zEe (k : Nat) (p0 : zj) (p1 : zt3) (p2 : Int) : Option Bool :=
 (z3b k p1).bind fun v1 =>
 (iter (fun s => ztd k p0 p1 p2 v1 s) k 0).bind fun v3 =>
 Sum.elim (fun v6 =>
 some false) (fun w2_0 =>
 (fun v6 =>
 some true) w2_0) v3
def z8g (r : Bool) : D := (db r)
def zXf (k : Nat) (p0 : zj) (p1 : zt3) (p2 s1_9 : Int) : Option (Int ⊕ (Int ⊕ (Int ⊕ (Int ⊕ (Int ⊕ Int))))) :=
 cond (decide (s1_9 < 4)) (
 cond (s1_9 == 0) (
 (zVe k p0 p1 p2).bind fun v203 =>
 cond (!v203) (
 some (Sum.inr (Sum.inl s1_9))) (
 some (Sum.inl (w64 (s1_9 + 1))))) (
 cond (s1_9 == 1) (
 (zLf k p0 p1 p2).bind fun v204 =>
 cond (!v204) (
 some (Sum.inr (Sum.inr (Sum.inl s1_9)))) (
 some (Sum.inl (w64 (s1_9 + 1))))) (
 cond (s1_9 == 2) (
 (zGe k p0 p1 p2).bind fun v205 =>
 cond (!v205) (
 some (Sum.inr (Sum.inr (Sum.inr (Sum.inl s1_9))))) (
 some (Sum.inl (w64 (s1_9 + 1))))) (
 cond (s1_9 == 3) (
 (zEe k p0 p1 p2).bind fun v206 =>
 cond (!v206) (
 some (Sum.inr (Sum.inr (Sum.inr (Sum.inr (Sum.inl s1_9)))))) (
 some (Sum.inl (w64 (s1_9 + 1))))) (
 none))))) (
 some (Sum.inr (Sum.inr (Sum.inr (Sum.inr (Sum.inr s1_9))))))
def zob (k : Nat) (p0 : zj) (p1 : zt3) (p2 : Int) : Option Bool :=
 (zoi k).bind fun v1 =>
 cond (eqB p1 v1 0 8) (
 some true) (
 (iter (fun s => zXf k p0 p1 p2 s) k 0).bind fun v4 =>
 Sum.elim (fun v7 =>
 some false) (fun w3_0 =>
 Sum.elim (fun v7 =>
 some false) (fun w3_1 =>
 Sum.elim (fun v7 =>
 some false) (fun w3_2 =>
 Sum.elim (fun v7 =>
 some false) (fun w3_3 =>
 (fun v7 =>
 some true) w3_3) w3_2) w3_1) w3_0) v4)
def zwc (r : Bool) : D := (db r)
def zUi (k : Nat) (p0 : za) (p1 : (SL Int)) (v1 s1_9 s1_12 : Int) : Option ((Int × Int) ⊕ ((Int × Int × Int) ⊕ (Int × Int))) :=
 cond (decide (s1_12 < (p1.1.length : Int))) (
 (idx p1.1 s1_12).bind fun v202 =>
 (zT k v202 (w64 (s1_9 + 1)) (w64 ((p0.Letters.1.length : Int) - 1))).bind fun v204 =>
 cond (!v204) (
 some (Sum.inr (Sum.inl (s1_9, s1_12, v202)))) (
 some (Sum.inl (v202, (w64 (s1_12 + 1)))))) (
 some (Sum.inr (Sum.inr (s1_9, s1_12))))
def zVi (k : Nat) (p0 : za) (p1 : (SL Int)) (v1 : Int) (v7 : zt0) (v9 : zj) (s2_17 : Int) (s2_27 : zt3) : Option ((Int × (Nat → Bool)) ⊕ ((Int × Int × (Nat → Bool)) ⊕ (Int × (Nat → Bool)))) :=
 cond (decide (s2_17 < (p1.1.length : Int))) (
 (idx p1.1 s2_17).bind fun v302 =>
 (zob k v9 s2_27 v302).bind fun v304 =>
 cond (!v304) (
 some (Sum.inr (Sum.inl (s2_17, v302, s2_27)))) (
 cond (decide (0 ≤ v302) && decide (v302 < 8)) (
 some (Sum.inl ((w64 (s2_17 + 1)), (upd s2_27 v302.toNat true)))) none)) (
 some (Sum.inr (Sum.inr (s2_17, s2_27))))
def zLk (k : Nat) (p0 : za) (p1 : (SL Int)) : Option (Bool × Int) :=
 (z1b k p0).bind fun v1 =>
 cond (v1 != 0) (
 some (false, v1)) (
 (iter (fun s => zUi k p0 p1 v1 s.1 s.2) k ((-1), 0)).bind fun v4 =>
 Sum.elim (fun v7 =>
 some (false, 81)) (fun w3_0 =>
 (fun v7 =>
 cond ((p1.1.length : Int) == 0) (
 some (false, 81)) (
 (z6b k p0).bind fun v9 =>
 (iter (fun s => zVi k p0 p1 v1 v7 v9 s.1 s.2) k (0, (fun _ => false))).bind fun v11 =>
 Sum.elim (fun v14 =>
 some (false, 0)) (fun w7_0 =>
 (fun v14 =>
 some (true, 0)) w7_0) v11)) w3_0) v4)
def zJe (r : zt1) : D := (.tup [(db r.1), (di r.2)])
def zhg (k : Nat) (p0 : (SL Int)) (s1_2 s1_5 : Int) : Option ((Int × Int) ⊕ (Int × Int)) :=
 cond (decide (s1_5 < (p0.1.length : Int))) (
 (idx p0.1 s1_5).bind fun v202 =>
 (zDb k s1_2 ([(w64 (v202 + 1))], .ex)).bind fun v204 =>
 some (Sum.inl (v204, (w64 (s1_5 + 1))))) (
 some (Sum.inr (s1_2, s1_5)))
def zEb (k : Nat) (p0 : (SL Int)) : Option Int :=
 (iter (fun s => zhg k p0 s.1 s.2) k (0, 0)).bind fun v1 =>
 some v1.1
def zjn (r : Int) : D := (di r)
def zRe (k : Nat) (p0 : zj) (p1 : (SL Int)) (p2 p3 s1_11 v402 : Int) : Option Bool :=
 (idx p0.NamesakeBook.Letters.1 s1_11).bind fun v501 =>
 cond (decide (v501.Account > 0)) (
 (idx p0.NamesakeBook.Letters.1 s1_11).bind fun v504 =>
 (idx p0.NamesakeBook.Letters.1 p2).bind fun v506 =>
 some (v504.Account == v506.Account)) (
 some false)
def zMe (k : Nat) (p0 : zj) (p1 : (SL Int)) (p2 p3 s1_11 v402 : Int) (v404 : Bool) : Option Bool :=
 cond v404 (
 some (v402 != p3)) (
 some false)
def zzd (k : Nat) (p0 : zj) (p1 : (SL Int)) (p2 p3 s1_11 : Int) : Option (Int ⊕ ((Int × Int × Bool) ⊕ Int)) :=
 cond (decide (s1_11 < (p1.1.length : Int))) (
 (idx p1.1 s1_11).bind fun v402 =>
 (zRe k p0 p1 p2 p3 s1_11 v402).bind fun v404 =>
 (zMe k p0 p1 p2 p3 s1_11 v402 v404).bind fun v406 =>
 cond v406 (
 some (Sum.inr (Sum.inl (s1_11, v402, v404)))) (
 some (Sum.inl (w64 (s1_11 + 1))))) (
 some (Sum.inr (Sum.inr s1_11)))
def zkb (k : Nat) (p0 : zj) (p1 : (SL Int)) (p2 p3 : Int) : Option Bool :=
 (iter (fun s => zzd k p0 p1 p2 p3 s) k 0).bind fun v1 =>
 Sum.elim (fun v4 =>
 some false) (fun w1_0 =>
 (fun v4 =>
 some true) w1_0) v1
def z7g (r : Bool) : D := (db r)
def zIf (k : Nat) (p0 : (SL Int)) (p1 s1_4 : Int) (s1_6 : zt3) : Option ((Int × (Nat → Bool)) ⊕ (Int × (Nat → Bool))) :=
 cond (decide (s1_4 < (p0.1.length : Int))) (
 (idx p0.1 s1_4).bind fun v202 =>
 cond (decide (0 ≤ s1_4) && decide (s1_4 < 8)) (
 some (Sum.inl ((w64 (s1_4 + 1)), (upd s1_6 s1_4.toNat (v202 == p1))))) none) (
 some (Sum.inr (s1_4, s1_6)))
def ztc (k : Nat) (p0 : (SL Int)) (p1 : Int) : Option (Nat → Bool) :=
 (iter (fun s => zIf k p0 p1 s.1 s.2) k (0, (fun _ => false))).bind fun v1 =>
 some v1.2
def zIm (r : zt3) : D := (.agg (aB 8 r))
def z8d (k : Nat) (p0 : zj) (p1 : (SL Int)) (s1_10 v302 : Int) : Option Bool :=
 (zEb k ((p1.1.take s1_10.toNat), (pcap p1.2 (s1_10 == (p1.1.length : Int))))).bind fun v401 =>
 (zT k v302 0 (if v401 < (w64 (p0.NamesakeBook.Most - 1)) then v401 else (w64 (p0.NamesakeBook.Most - 1)))).bind fun v403 =>
 cond (!v403) (
 some true) (
 (zkb k p0 ((p1.1.take s1_10.toNat), (pcap p1.2 (s1_10 == (p1.1.length : Int)))) s1_10 v302).bind fun v406 =>
 cond (!v406) (
 some true) (
 (ztc k ((p1.1.take s1_10.toNat), (pcap p1.2 (s1_10 == (p1.1.length : Int)))) v302).bind fun v409 =>
 (zob k p0 v409 s1_10).bind fun v411 =>
 some (!v411)))
def zWc (k : Nat) (p0 : zj) (p1 : (SL Int)) (s1_10 : Int) : Option (Int ⊕ ((Int × Int × (SL Int)) ⊕ Int)) :=
 cond (decide (s1_10 < (p1.1.length : Int))) (
 (idx p1.1 s1_10).bind fun v302 =>
 cond (decide (0 ≤ s1_10) && decide (s1_10 ≤ (p1.1.length : Int))) (
 (z8d k p0 p1 s1_10 v302).bind fun v305 =>
 cond v305 (
 some (Sum.inr (Sum.inl (s1_10, v302, ((p1.1.take s1_10.toNat), (pcap p1.2 (s1_10 == (p1.1.length : Int)))))))) (
 some (Sum.inl (w64 (s1_10 + 1))))) none) (
 some (Sum.inr (Sum.inr s1_10)))
def zMd (k : Nat) (p0 : zj) (p1 : (SL Int)) : Option Bool :=
 cond ((p1.1.length : Int) != (p0.NamesakeBook.Letters.1.length : Int)) (
 some false) (
 (iter (fun s => zWc k p0 p1 s) k 0).bind fun v2 =>
 Sum.elim (fun v5 =>
 some false) (fun w2_0 =>
 (fun v5 =>
 some true) w2_0) v2)
def zre (r : Bool) : D := (db r)
def zIe (k : Nat) (p0 : za) (p1 : (SL Int)) : Option (Bool × Int) :=
 (z1b k p0).bind fun v1 =>
 cond (v1 != 0) (
 some (false, v1)) (
 (z6b k p0).bind fun v4 =>
 (zMd k v4 p1).bind fun v6 =>
 some (v6, 0))
def zqi (r : zt1) : D := (.tup [(db r.1), (di r.2)])
def zpb (k : Nat) (p0 : zj) : Option ((SL zn) × (SL (SL Int)) × (SL (Nat → Int)) × Int × (List (zl × Bool))) :=
 some (p0.NamesakeBook.Letters, p0.NamesakeBook.Far, p0.NamesakeBook.Apart, p0.NamesakeBook.Most, p0.apart)
def z9i (r : zt2) : D := (.fn 88 [] [(.pin [(dl zd r.1.1 r.1.2), (dl (eL eI) r.2.1.1 r.2.1.2), (dl (aI 2) r.2.2.1.1 r.2.2.1.2), (di r.2.2.2.1), (.mp (em (fun k => D.agg (zh k)) (fun b => D.b b) r.2.2.2.2))])])
def z8f (k : Nat) (p0 : za) (v1 : Int) (v6 : zt2) (r0 : (SL Int)) (v202 s2_10 s2_15 : Int) (rc : zt16) : Option Bool :=
 (zkb k (⟨(⟨v6.1, v6.2.1, v6.2.2.1, v6.2.2.2.1⟩ : za), v6.2.2.2.2⟩ : zj) r0 (r0.1.length : Int) s2_10).bind fun v501 =>
 cond (!v501) (
 some true) (
 (ztc k r0 s2_10).bind fun v504 =>
 (zob k (⟨(⟨v6.1, v6.2.1, v6.2.2.1, v6.2.2.2.1⟩ : za), v6.2.2.2.2⟩ : zj) v504 (r0.1.length : Int)).bind fun v506 =>
 some (!v506))
def zDd (k : Nat) (p0 : za) (v1 : Int) (v6 : zt2) (r0 : (SL Int)) (v202 : Int) (rc : zt16) (s2_10 s2_15 : Int) : Option ((Int × Int) ⊕ (Int × Int)) :=
 cond (decide (s2_10 < (if (w64 (v202 + 1)) < v6.2.2.2.1 then (w64 (v202 + 1)) else v6.2.2.2.1))) (
 (z8f k p0 v1 v6 r0 v202 s2_10 s2_15 rc).bind fun v402 =>
 cond v402 (
 some (Sum.inl ((w64 (s2_10 + 1)), s2_15))) (
 cond (decide ((ccap r0.2) = Cap.ro)) (
 none) (
 cond (decide (r0.1.length + 1 ≤ LIM)) (
 (rc s2_15 ((r0.1 ++ [s2_10]), .ro)).bind fun v407 =>
 some (Sum.inl ((w64 (s2_10 + 1)), v407))) none))) (
 some (Sum.inr (s2_10, s2_15)))
def zNb (k : Nat) (p0 : za) (v1 : Int) (v6 : zt2) (rc : zt16) (u1_9 : Int) (r0 : (SL Int)) : Option Int :=
 cond ((r0.1.length : Int) == (v6.1.1.length : Int)) (
 some (w64 (u1_9 + 1))) (
 (zEb k r0).bind fun v202 =>
 (iter (fun s => zDd k p0 v1 v6 r0 v202 rc s.1 s.2) k (0, u1_9)).bind fun v204 =>
 some v204.2)
def zBb (k : Nat) (p0 : za) (v1 : Int) (v6 : zt2) : Nat → Int → (SL Int) → Option Int
 | 0 => fun _ _ => none
 | n + 1 => zNb k p0 v1 v6 (zBb k p0 v1 v6 n)
def zyg (k : Nat) (p0 : za) : Option (Int × Int) :=
 (z1b k p0).bind fun v1 =>
 cond (v1 != 0) (
 some (0, v1)) (
 (z6b k p0).bind fun v4 =>
 (zpb k v4).bind fun v6 =>
 (zBb k p0 v1 v6 9 0 ([], Cap.nil)).bind fun v8 =>
 some (v8, 0))
def zWj (r : zt0) : D := (.tup [(di r.1), (di r.2)])
def zOi (k : Nat) : Option Unit :=
 some ()
def zBm (r : Unit) : D := (.agg [(.fn 90 [] [])])
def zbe (k : Nat) (p0 : (SL Int)) : Option (SL Int) :=
 cond (decide (p0.2 = .nil)) (
 some ([], Cap.nil)) (
 cond (decide (p0.1.length ≤ LIM)) (
 some (p0.1, (rcap false p0.1))) none)
def zXg (r : (SL Int)) : D := (dl eI r.1 r.2)
def zuh (k : Nat) (p0 p1 : (SL Int)) : Option Bool :=
 (zEb k p0).bind fun v1 =>
 (zEb k p1).bind fun v3 =>
 some (decide (v1 < v3))
def zal (r : Bool) : D := (db r)
def z4g (k : Nat) (p0 : za) (v1 : Int) (v8 : zt2) (u1_9 r0 : (SL Int)) (rc : zt12) : Option Bool :=
 cond (decide (u1_9.2 = .nil)) (
 some true) (
 (zuh k r0 u1_9).bind fun v302 =>
 some v302)
def z1g (k : Nat) (p0 : za) (v1 : Int) (v8 : zt2) (u1_9 r0 : (SL Int)) (v202 : Bool) (rc : zt12) : Option (Bool × (SL Int)) :=
 cond v202 (
 (zbe k r0).bind fun v402 =>
 some (true, v402)) (
 some (false, u1_9))
def zMf (k : Nat) (p0 : za) (v1 : Int) (v8 : zt2) (r0 : (SL Int)) (v202 s4_10 : Int) (s4_15 : (SL Int)) (rc : zt12) : Option Bool :=
 (zkb k (⟨(⟨v8.1, v8.2.1, v8.2.2.1, v8.2.2.2.1⟩ : za), v8.2.2.2.2⟩ : zj) r0 (r0.1.length : Int) s4_10).bind fun v701 =>
 cond (!v701) (
 some true) (
 (ztc k r0 s4_10).bind fun v704 =>
 (zob k (⟨(⟨v8.1, v8.2.1, v8.2.2.1, v8.2.2.2.1⟩ : za), v8.2.2.2.2⟩ : zj) v704 (r0.1.length : Int)).bind fun v706 =>
 some (!v706))
def zgd (k : Nat) (p0 : za) (v1 : Int) (v8 : zt2) (r0 : (SL Int)) (v202 : Int) (rc : zt12) (s4_10 : Int) (s4_15 : (SL Int)) : Option ((Int × (SL Int)) ⊕ (Int × (SL Int))) :=
 cond (decide (s4_10 < (if (w64 (v202 + 1)) < v8.2.2.2.1 then (w64 (v202 + 1)) else v8.2.2.2.1))) (
 (zMf k p0 v1 v8 r0 v202 s4_10 s4_15 rc).bind fun v602 =>
 cond v602 (
 some (Sum.inl ((w64 (s4_10 + 1)), s4_15))) (
 cond (decide ((ccap r0.2) = Cap.ro)) (
 none) (
 cond (decide (r0.1.length + 1 ≤ LIM)) (
 (rc s4_15 ((r0.1 ++ [s4_10]), .ro)).bind fun v607 =>
 some (Sum.inl ((w64 (s4_10 + 1)), v607))) none))) (
 some (Sum.inr (s4_10, s4_15)))
def zAb (k : Nat) (p0 : za) (v1 : Int) (v8 : zt2) (rc : zt12) (u1_9 r0 : (SL Int)) : Option (SL Int) :=
 cond ((r0.1.length : Int) == (v8.1.1.length : Int)) (
 (z4g k p0 v1 v8 u1_9 r0 rc).bind fun v202 =>
 (z1g k p0 v1 v8 u1_9 r0 v202 rc).bind fun v204 =>
 some v204.2) (
 (zEb k r0).bind fun v202 =>
 (iter (fun s => zgd k p0 v1 v8 r0 v202 rc s.1 s.2) k (0, u1_9)).bind fun v204 =>
 some v204.2)
def zqb (k : Nat) (p0 : za) (v1 : Int) (v8 : zt2) : Nat → (SL Int) → (SL Int) → Option (SL Int)
 | 0 => fun _ _ => none
 | n + 1 => zAb k p0 v1 v8 (zqb k p0 v1 v8 n)
def z6f (k : Nat) (p0 : za) : Option ((SL Int) × Int) :=
 (z1b k p0).bind fun v1 =>
 cond (v1 != 0) (
 some (([], Cap.nil), v1)) (
 (zOi k).bind fun v4 =>
 (z6b k p0).bind fun v6 =>
 (zpb k v6).bind fun v8 =>
 (zqb k p0 v1 v8 9 ([], Cap.nil) ([], Cap.nil)).bind fun v10 =>
 cond (decide (v10.2 = .nil)) (
 some (([], Cap.nil), 82)) (
 some ((v10.1, (ccap v10.2)), 0)))
def zsh (r : ((SL Int) × Int)) : D := (.tup [(dl eI r.1.1 r.1.2), (di r.2)])
def zOg (k : Nat) (p0 p1 : (SL Int)) (s1_3 : Bool) (s1_4 : Int) : Option Bool :=
 cond s1_3 (
 some (decide (s1_4 < (p0.1.length : Int)))) (
 some false)
def zRg (k : Nat) (p0 p1 : (SL Int)) (s1_3 : Bool) (s1_4 : Int) : Option ((Bool × Int) ⊕ (Bool × Int)) :=
 (zOg k p0 p1 s1_3 s1_4).bind fun v301 =>
 cond v301 (
 (idx p0.1 s1_4).bind fun v304 =>
 (idx p1.1 s1_4).bind fun v306 =>
 some (Sum.inl ((v304 == v306), (w64 (s1_4 + 1))))) (
 some (Sum.inr (s1_3, s1_4)))
def zFe (k : Nat) (p0 p1 : (SL Int)) : Option Bool :=
 (iter (fun s => zRg k p0 p1 s.1 s.2) k (((p0.1.length : Int) == (p1.1.length : Int)), 0)).bind fun v1 =>
 some v1.1
def zLj (r : Bool) : D := (db r)
def zff (k : Nat) (p0 : za) : Option (Int × Int) :=
 (z6f k p0).bind fun v1 =>
 (zEb k v1.1).bind fun v3 =>
 some (v3, v1.2)
def zDl (r : zt0) : D := (.tup [(di r.1), (di r.2)])
def zef (k : Nat) (p0 : zj) (v1 : zt2) (u1_13 : Int) (r0 : (SL Int)) (s2_13 s6_17 : Int) (s6_25 : zt13) (cb : Bool) (rc : zt10) : Option (Bool × (List (zl × Int))) :=
 cond cb (
 some (true, (mset zr (⟨s2_13, s6_17⟩ : zl) (w64 (((zH zr (⟨s2_13, s6_17⟩ : zl) s6_25).getD 0) + 1)) s6_25))) (
 some (false, s6_25))
def zKd (k : Nat) (p0 : zj) (v1 : zt2) (u1_13 : Int) (r0 : (SL Int)) (s2_13 : Int) (rc : zt10) (s6_17 : Int) (s6_25 : zt13) : Option ((Int × (List (zl × Int))) ⊕ (Int × (List (zl × Int)))) :=
 cond (decide (s6_17 < (r0.1.length : Int))) (
 (idx r0.1 s2_13).bind fun v802 =>
 (idx r0.1 s6_17).bind fun v804 =>
 (zef k p0 v1 u1_13 r0 s2_13 s6_17 s6_25 (v802 == v804) rc).bind fun v806 =>
 some (Sum.inl ((w64 (s6_17 + 1)), v806.2))) (
 some (Sum.inr (s6_17, s6_25)))
def zJc (k : Nat) (p0 : zj) (v1 : zt2) (u1_13 : Int) (r0 : (SL Int)) (rc : zt10) (s2_13 : Int) (s2_21 : zt13) : Option ((Int × (List (zl × Int))) ⊕ (Int × (List (zl × Int)))) :=
 cond (decide (s2_13 < (r0.1.length : Int))) (
 (iter (fun s => zKd k p0 v1 u1_13 r0 s2_13 rc s.1 s.2) k (0, s2_21)).bind fun v602 =>
 some (Sum.inl ((w64 (s2_13 + 1)), v602.2))) (
 some (Sum.inr (s2_13, s2_21)))
def zpd (k : Nat) (p0 : zj) (v1 : zt2) (r0 : (SL Int)) (v202 s9_10 : Int) (s9_18 : zt13) (s9_19 : Int) (rc : zt10) : Option Bool :=
 (zkb k (⟨(⟨v1.1, v1.2.1, v1.2.2.1, v1.2.2.2.1⟩ : za), v1.2.2.2.2⟩ : zj) r0 (r0.1.length : Int) s9_10).bind fun v1201 =>
 cond (!v1201) (
 some true) (
 (ztc k r0 s9_10).bind fun v1204 =>
 (zob k (⟨(⟨v1.1, v1.2.1, v1.2.2.1, v1.2.2.2.1⟩ : za), v1.2.2.2.2⟩ : zj) v1204 (r0.1.length : Int)).bind fun v1206 =>
 some (!v1206))
def z2b (k : Nat) (p0 : zj) (v1 : zt2) (r0 : (SL Int)) (v202 : Int) (rc : zt10) (s9_10 : Int) (s9_18 : zt13) (s9_19 : Int) : Option ((Int × (List (zl × Int)) × Int) ⊕ (Int × (List (zl × Int)) × Int)) :=
 cond (decide (s9_10 < (if (w64 (v202 + 1)) < v1.2.2.2.1 then (w64 (v202 + 1)) else v1.2.2.2.1))) (
 (zpd k p0 v1 r0 v202 s9_10 s9_18 s9_19 rc).bind fun v1102 =>
 cond v1102 (
 some (Sum.inl ((w64 (s9_10 + 1)), s9_18, s9_19))) (
 cond (decide ((ccap r0.2) = Cap.ro)) (
 none) (
 cond (decide (r0.1.length + 1 ≤ LIM)) (
 (rc s9_18 s9_19 ((r0.1 ++ [s9_10]), .ro)).bind fun v1107 =>
 some (Sum.inl ((w64 (s9_10 + 1)), v1107.1, v1107.2))) none))) (
 some (Sum.inr (s9_10, s9_18, s9_19)))
def zab (k : Nat) (p0 : zj) (v1 : zt2) (rc : zt10) (u1_12 : zt13) (u1_13 : Int) (r0 : (SL Int)) : Option ((List (zl × Int)) × Int) :=
 cond ((r0.1.length : Int) == (v1.1.1.length : Int)) (
 (iter (fun s => zJc k p0 v1 u1_13 r0 rc s.1 s.2) k (0, u1_12)).bind fun v202 =>
 some (v202.2, (w64 (u1_13 + 1)))) (
 (zEb k r0).bind fun v202 =>
 (iter (fun s => z2b k p0 v1 r0 v202 rc s.1 s.2.1 s.2.2) k (0, u1_12, u1_13)).bind fun v204 =>
 some (v204.2.1, v204.2.2))
def z6 (k : Nat) (p0 : zj) (v1 : zt2) : Nat → (List (zl × Int)) → Int → (SL Int) → Option ((List (zl × Int)) × Int)
 | 0 => fun _ _ _ => none
 | n + 1 => zab k p0 v1 (z6 k p0 v1 n)
def zLg (k : Nat) (p0 : zj) : Option z7 :=
 (zpb k p0).bind fun v1 =>
 (z6 k p0 v1 9 ([]) 0 ([], Cap.nil)).bind fun v3 =>
 some (⟨v3.2, v3.1⟩ : z7)
def z8j (r : z7) : D := (.agg [(di r.many), (.mp (em (fun k => D.agg (zh k)) (fun n => D.i .i64 n) r.same))])
def zOd (k : Nat) (p0 : za) (p1 : Bool) : Option (z7 × Int) :=
 (z1b k p0).bind fun v1 =>
 cond (v1 != 0) (
 some ((⟨0, []⟩ : z7), v1)) (
 cond (!p1) (
 some ((⟨0, []⟩ : z7), 81)) (
 (z6b k p0).bind fun v5 =>
 (zLg k v5).bind fun v7 =>
 cond (v7.many == 0) (
 some (v7, 82)) (
 some (v7, 0))))
def zag (r : zt8) : D := (.tup [(.agg [(di r.1.many), (.mp (em (fun k => D.agg (zh k)) (fun n => D.i .i64 n) r.1.same))]), (di r.2)])
def zmd (k : Nat) (p0 : z7) (p1 p2 : Int) : Option Int :=
 cond (((zH zr (⟨p1, p2⟩ : zl) p0.same).getD 0) == p0.many) (
 some 2) (
 cond (((zH zr (⟨p1, p2⟩ : zl) p0.same).getD 0) == 0) (
 some 0) (
 some 1))
def zif (r : Int) : D := (di r)
def zth (k : Nat) (p0 : za) (p1 p2 : Int) : Option (Int × Int × (List (zl × Int))) :=
 (zT k p1 0 (w64 ((p0.Letters.1.length : Int) - 1))).bind fun v201 =>
 cond v201 (
 (zT k p2 0 (w64 ((p0.Letters.1.length : Int) - 1))).bind fun v204 =>
 (zOd k p0 v204).bind fun v206 =>
 some (v206.2, v206.1.many, v206.1.same)) (
 (zOd k p0 false).bind fun v204 =>
 some (v204.2, v204.1.many, v204.1.same))
def zwg (k : Nat) (p0 : za) (p1 p2 : Int) : Option (Int × Int) :=
 (zth k p0 p1 p2).bind fun v1 =>
 cond (v1.1 != 0) (
 some (0, v1.1)) (
 (zmd k (⟨v1.2.1, v1.2.2⟩ : z7) p1 p2).bind fun v4 =>
 some (v4, 0))
def zfk (r : zt0) : D := (.tup [(di r.1), (di r.2)])
def zHd (k : Nat) (p0 : za) (v1 : zt8) (s1_9 : Int) (s1_16 : zt7) (s6_13 : Int) (s6_22 : zt3) (s6_23 : zt6) : Option ((Int × (Nat → Bool) × (List Int)) ⊕ (Int × (Nat → Bool) × (List Int))) :=
 cond (decide (s6_13 < (p0.Letters.1.length : Int))) (
 (zmd k v1.1 s1_9 s6_13).bind fun v802 =>
 cond (v802 == 2) (
 cond (decide (s6_23.length + 1 ≤ LIM)) (
 cond (decide (0 ≤ s6_13) && decide (s6_13 < 8)) (
 some (Sum.inl ((w64 (s6_13 + 1)), (upd s6_22 s6_13.toNat true), (s6_23 ++ [s6_13])))) none) none) (
 some (Sum.inl ((w64 (s6_13 + 1)), s6_22, s6_23)))) (
 some (Sum.inr (s6_13, s6_22, s6_23)))
def zTe (k : Nat) (p0 : za) (v1 : zt8) (s1_9 : Int) (s1_16 : zt7) (s1_18 : zt3) : Option ((Int × (List (SL Int)) × (Nat → Bool)) ⊕ (Int × (List (SL Int)) × (Nat → Bool))) :=
 cond (decide (s1_9 < (p0.Letters.1.length : Int))) (
 cond (decide (0 ≤ s1_9) && decide (s1_9 < 8)) (
 cond (s1_18 s1_9.toNat) (
 some (Sum.inl ((w64 (s1_9 + 1)), s1_16, s1_18))) (
 (iter (fun s => zHd k p0 v1 s1_9 s1_16 s.1 s.2.1 s.2.2) k (s1_9, s1_18, ([] : List Int))).bind fun v604 =>
 cond (decide (s1_16.length + 1 ≤ LIM)) (
 some (Sum.inl ((w64 (s1_9 + 1)), (s1_16 ++ [(v604.2.2, (xcap true v604.2.2))]), v604.2.1))) none)) none) (
 some (Sum.inr (s1_9, s1_16, s1_18)))
def zhf (k : Nat) (p0 : za) : Option ((SL (SL Int)) × Int) :=
 (zOd k p0 true).bind fun v1 =>
 cond (v1.2 != 0) (
 some (([], Cap.nil), v1.2)) (
 (iter (fun s => zTe k p0 v1 s.1 s.2.1 s.2.2) k (0, ([] : List (SL Int)), (fun _ => false))).bind fun v4 =>
 some ((v4.2.1, (xcap true v4.2.1)), 0))
def zWi (r : zt5) : D := (.tup [(dl (eL eI) r.1.1 r.1.2), (di r.2)])
def zsj (k : Nat) (p0 : za) (v1 : zt8) (s1_11 s8_9 s8_14 s8_21 s8_22 v1002 : Int) (cb : Bool) : Option (Int × Bool × Int × Int) :=
 cond cb (
 some (v1002, true, s1_11, s8_14)) (
 some (s8_9, false, s8_21, s8_22))
def zgk (k : Nat) (p0 : za) (v1 : zt8) (s1_11 s8_9 s8_14 s8_21 s8_22 : Int) : Option ((Int × Int × Int × Int) ⊕ (Int × Int × Int × Int)) :=
 cond (decide (s8_14 < (p0.Letters.1.length : Int))) (
 (zDb k ((zH zr (⟨s1_11, s8_14⟩ : zl) v1.1.same).getD 0) ([(w64 (v1.1.many - ((zH zr (⟨s1_11, s8_14⟩ : zl) v1.1.same).getD 0)))], .ex)).bind fun v1002 =>
 (zsj k p0 v1 s1_11 s8_9 s8_14 s8_21 s8_22 v1002 (decide (v1002 < s8_9))).bind fun v1004 =>
 some (Sum.inl (v1004.1, (w64 (s8_14 + 1)), v1004.2.2.1, v1004.2.2.2))) (
 some (Sum.inr (s8_9, s8_14, s8_21, s8_22)))
def zVj (k : Nat) (p0 : za) (v1 : zt8) (s1_9 s1_11 s1_18 s1_19 : Int) : Option ((Int × Int × Int × Int) ⊕ (Int × Int × Int × Int)) :=
 cond (decide (s1_11 < (p0.Letters.1.length : Int))) (
 (iter (fun s => zgk k p0 v1 s1_11 s.1 s.2.1 s.2.2.1 s.2.2.2) k (s1_9, (w64 (s1_11 + 1)), s1_18, s1_19)).bind fun v802 =>
 some (Sum.inl (v802.1, (w64 (s1_11 + 1)), v802.2.2.1, v802.2.2.2))) (
 some (Sum.inr (s1_9, s1_11, s1_18, s1_19)))
def zLm (k : Nat) (p0 : za) : Option (Int × Int × Int) :=
 (zOd k p0 true).bind fun v1 =>
 cond (v1.2 != 0) (
 some (0, 0, v1.2)) (
 cond (v1.1.many == 1) (
 some (0, 0, 4)) (
 (iter (fun s => zVj k p0 v1 s.1 s.2.1 s.2.2.1 s.2.2.2) k ((w64 (v1.1.many + 1)), 0, 0, 0)).bind fun v5 =>
 some (v5.2.2.1, v5.2.2.2, 0)))
def zDi (r : (Int × Int × Int)) : D := (.tup [(di r.1), (di r.2.1), (di r.2.2)])
def znk (k : Nat) (p0 : za) (v3 : zt2) (r0 : (SL Int)) (v202 s2_10 : Int) (rc : ((SL Int) → Option (Unit ⊕ Unit))) : Option Bool :=
 (zkb k (⟨(⟨v3.1, v3.2.1, v3.2.2.1, v3.2.2.2.1⟩ : za), v3.2.2.2.2⟩ : zj) r0 (r0.1.length : Int) s2_10).bind fun v501 =>
 cond (!v501) (
 some true) (
 (ztc k r0 s2_10).bind fun v504 =>
 (zob k (⟨(⟨v3.1, v3.2.1, v3.2.2.1, v3.2.2.2.1⟩ : za), v3.2.2.2.2⟩ : zj) v504 (r0.1.length : Int)).bind fun v506 =>
 some (!v506))
def zTj (k : Nat) (p0 : za) (v3 : zt2) (r0 : (SL Int)) (v202 : Int) (rc : ((SL Int) → Option (Unit ⊕ Unit))) (s2_10 : Int) : Option (Int ⊕ (Int ⊕ Int)) :=
 cond (decide (s2_10 < (if (w64 (v202 + 1)) < v3.2.2.2.1 then (w64 (v202 + 1)) else v3.2.2.2.1))) (
 (znk k p0 v3 r0 v202 s2_10 rc).bind fun v402 =>
 cond v402 (
 some (Sum.inl (w64 (s2_10 + 1)))) (
 cond (decide ((ccap r0.2) = Cap.ro)) (
 none) (
 cond (decide (r0.1.length + 1 ≤ LIM)) (
 (rc ((r0.1 ++ [s2_10]), .ro)).bind fun v407 =>
 Sum.elim (fun v410 =>
 some (Sum.inr (Sum.inl s2_10))) (fun w6_0 =>
 (fun v410 =>
 some (Sum.inl (w64 (s2_10 + 1)))) w6_0) v407) none))) (
 some (Sum.inr (Sum.inr s2_10)))
def zJf (k : Nat) (p0 : za) (v3 : zt2) (rc : ((SL Int) → Option (Unit ⊕ Unit))) (r0 : (SL Int)) : Option (Unit ⊕ Unit) :=
 cond ((r0.1.length : Int) == (v3.1.1.length : Int)) (
 some (Sum.inl ())) (
 (zEb k r0).bind fun v202 =>
 (iter (fun s => zTj k p0 v3 r0 v202 rc s) k 0).bind fun v204 =>
 Sum.elim (fun v207 =>
 some (Sum.inl ())) (fun w3_0 =>
 (fun v207 =>
 some (Sum.inr ())) w3_0) v204)
def zAg (k : Nat) (p0 : za) (v3 : zt2) : Nat → (SL Int) → Option (Unit ⊕ Unit)
 | 0 => fun _ => none
 | n + 1 => zJf k p0 v3 (zAg k p0 v3 n)
def zAi (k : Nat) (p0 : za) : Option Bool :=
 (z6b k p0).bind fun v1 =>
 (zpb k v1).bind fun v3 =>
 (zAg k p0 v3 9 ([], Cap.nil)).bind fun v5 =>
 Sum.elim (fun v8 =>
 some true) (fun w3_0 =>
 (fun v8 =>
 some false) w3_0) v5
def zFk (r : Bool) : D := (db r)
def ztg (k : Nat) (p0 : (SL Int)) (p1 s1_4 : Int) : Option (Int ⊕ (Int ⊕ Int)) :=
 cond (decide (s1_4 < (p0.1.length : Int))) (
 (idx p0.1 s1_4).bind fun v202 =>
 cond (p1 == v202) (
 some (Sum.inr (Sum.inl s1_4))) (
 some (Sum.inl (w64 (s1_4 + 1))))) (
 some (Sum.inr (Sum.inr s1_4)))
def zGh (k : Nat) (p0 : (SL Int)) (p1 : Int) : Option Int :=
 (iter (fun s => ztg k p0 p1 s) k 0).bind fun v1 =>
 Sum.elim (fun v4 =>
 some v4) (fun w1_0 =>
 (fun v4 =>
 some (-1)) w1_0) v1
def zQg (r : Int) : D := (di r)
def zrg (k : Nat) (p0 : (SL Int)) (p1 : Int) : Option Bool :=
 (zGh k p0 p1).bind fun v1 =>
 some (decide (v1 ≥ 0))
def zai (r : Bool) : D := (db r)
def z3h (k : Nat) (p0 : za) (p1 : (SL Int)) (s1_7 : Int) (s1_18 : (List zn)) (s1_20 : (List (Int × Int))) : Option ((Int × (List zn) × (List (Int × Int))) ⊕ (Int × (List zn) × (List (Int × Int)))) :=
 cond (decide (s1_7 < (p0.Letters.1.length : Int))) (
 (idx p0.Letters.1 s1_7).bind fun v302 =>
 (zrg k p1 s1_7).bind fun v304 =>
 cond (!v304) (
 cond (decide (s1_18.length + 1 ≤ LIM)) (
 some (Sum.inl ((w64 (s1_7 + 1)), (s1_18 ++ [v302]), (mset zKc s1_7 (s1_18.length : Int) s1_20)))) none) (
 some (Sum.inl ((w64 (s1_7 + 1)), s1_18, s1_20)))) (
 some (Sum.inr (s1_7, s1_18, s1_20)))
def z2h (k : Nat) (p0 : za) (p1 : (SL Int)) (v1 : zt17) (s3_11 : Int) (s3_24 : (List (Nat → Int))) (v802 : zt11) : Option Bool :=
 cond (zH zKc (v802 0) v1.2.2).isSome (
 some ((zH zKc (v802 1) v1.2.2).isSome)) (
 some false)
def z0h (k : Nat) (p0 : za) (p1 : (SL Int)) (v1 : zt17) (s3_11 : Int) (s3_24 : (List (Nat → Int))) (v802 : zt11) (v804 : Bool) : Option (Bool × (List (Nat → Int))) :=
 cond v804 (
 cond (decide (s3_24.length + 1 ≤ LIM)) (
 some (true, (s3_24 ++ [(lfI [((zH zKc (v802 0) v1.2.2).getD 0), ((zH zKc (v802 1) v1.2.2).getD 0)])]))) none) (
 some (false, s3_24))
def z1h (k : Nat) (p0 : za) (p1 : (SL Int)) (v1 : zt17) (s3_11 : Int) (s3_24 : (List (Nat → Int))) : Option ((Int × (List (Nat → Int))) ⊕ (Int × (List (Nat → Int)))) :=
 cond (decide (s3_11 < (p0.Apart.1.length : Int))) (
 (idx p0.Apart.1 s3_11).bind fun v802 =>
 (z2h k p0 p1 v1 s3_11 s3_24 v802).bind fun v804 =>
 (z0h k p0 p1 v1 s3_11 s3_24 v802 v804).bind fun v806 =>
 some (Sum.inl ((w64 (s3_11 + 1)), v806.2))) (
 some (Sum.inr (s3_11, s3_24)))
def zzh (k : Nat) (p0 : za) (p1 : (SL Int)) : Option za :=
 (iter (fun s => z3h k p0 p1 s.1 s.2.1 s.2.2) k (0, ([] : List zn), [])).bind fun v1 =>
 (iter (fun s => z1h k p0 p1 v1 s.1 s.2) k (0, ([] : List (Nat → Int)))).bind fun v3 =>
 some (⟨(v1.2.1, (rcap true v1.2.1)), p0.Far, (v3.2, (rcap true v3.2)), p0.Most⟩ : za)
def z7k (r : za) : D := (.agg (zb r))
def zdj (k : Nat) (p0 : Int) : Option Bool :=
 some (p0 != p0)
def zsn (r : Bool) : D := (db r)
def z8h (k : Nat) (p0 p1 : Int) : Option Int :=
 (zdj k p0).bind fun v1 =>
 (zdj k p1).bind fun v3 =>
 cond v1 (
 cond v3 (
 some 0) (
 some (-1))) (
 cond v3 (
 some 1) (
 cond (decide (p0 < p1)) (
 some (-1)) (
 cond (decide (p0 > p1)) (
 some 1) (
 some 0))))
def zhd (r : Int) : D := (di r)
def zRf (k : Nat) (p0 p1 : (SL Int)) (s1_5 : Int) : Option (Int ⊕ ((Int × Int) ⊕ ((Int × Int × Int × Int) ⊕ Int))) :=
 cond (decide (s1_5 < (p0.1.length : Int))) (
 (idx p0.1 s1_5).bind fun v202 =>
 cond (decide (s1_5 ≥ (p1.1.length : Int))) (
 some (Sum.inr (Sum.inl (s1_5, v202)))) (
 (idx p1.1 s1_5).bind fun v205 =>
 (z8h k v202 v205).bind fun v207 =>
 cond (v207 != 0) (
 some (Sum.inr (Sum.inr (Sum.inl (v207, s1_5, v202, v205))))) (
 some (Sum.inl (w64 (s1_5 + 1)))))) (
 some (Sum.inr (Sum.inr (Sum.inr s1_5))))
def zPg (k : Nat) (p0 p1 : (SL Int)) : Option Int :=
 (iter (fun s => zRf k p0 p1 s) k 0).bind fun v1 =>
 Sum.elim (fun v4 =>
 some 1) (fun w1_0 =>
 Sum.elim (fun v4 =>
 some v4.1) (fun w1_1 =>
 (fun v4 =>
 cond (decide ((p0.1.length : Int) < (p1.1.length : Int))) (
 some (-1)) (
 some 0)) w1_1) w1_0) v1
def zNc (r : Int) : D := (di r)
def zfl (k : Nat) (p0 : (SL Int)) (s1_5 : Int) : Option (Int ⊕ ((Int × Int) ⊕ Int)) :=
 cond (decide (s1_5 < (p0.1.length : Int))) (
 (idx p0.1 s1_5).bind fun v202 =>
 cond (v202 != 0) (
 some (Sum.inr (Sum.inl (v202, s1_5)))) (
 some (Sum.inl (w64 (s1_5 + 1))))) (
 some (Sum.inr (Sum.inr s1_5)))
def zro (k : Nat) (p0 : (SL Int)) : Option Int :=
 (iter (fun s => zfl k p0 s) k 0).bind fun v1 =>
 Sum.elim (fun v4 =>
 some v4.1) (fun w1_0 =>
 (fun v4 =>
 some 0) w1_0) v1
def zpm (r : Int) : D := (di r)
def zpj (k : Nat) (p0 : za) (v1 : Int) (s1_9 : (SL Int)) (s1_11 s6_15 : Int) (s6_20 : zt6) : Option ((Int × (List Int)) ⊕ (Int × (List Int))) :=
 cond (decide (s6_15 < (p0.Letters.1.length : Int))) (
 cond (decide (s6_15 < 0)) (
 none) (
 cond ((zbz (zfs s1_11 s6_15) 1) == 1) (
 cond (decide (s6_20.length + 1 ≤ LIM)) (
 some (Sum.inl ((w64 (s6_15 + 1)), (s6_20 ++ [s6_15])))) none) (
 some (Sum.inl ((w64 (s6_15 + 1)), s6_20))))) (
 some (Sum.inr (s6_15, s6_20)))
def zjj (k : Nat) (p0 : za) (v1 : Int) (s1_9 : (SL Int)) (s1_11 : Int) (v602 : (Int × (List Int))) : Option Bool :=
 cond (decide (s1_9.2 = .nil)) (
 (zzh k p0 (v602.2, (rcap true v602.2))).bind fun v902 =>
 (zAi k v902).bind fun v904 =>
 some v904) (
 (z8h k (v602.2.length : Int) (s1_9.1.length : Int)).bind fun v902 =>
 (zPg k (v602.2, (rcap true v602.2)) s1_9).bind fun v904 =>
 (zro k ([v902, v904], .ex)).bind fun v906 =>
 cond (decide (v906 < 0)) (
 (zzh k p0 (v602.2, (rcap true v602.2))).bind fun v909 =>
 (zAi k v909).bind fun v911 =>
 some v911) (
 some false))
def zqj (k : Nat) (p0 : za) (v1 : Int) (s1_9 : (SL Int)) (s1_11 : Int) (v602 : (Int × (List Int))) (v604 : Bool) : Option ((SL Int) × Bool) :=
 cond v604 (
 some ((v602.2, (rcap true v602.2)), true)) (
 some (s1_9, false))
def zmj (k : Nat) (p0 : za) (v1 : Int) (s1_9 : (SL Int)) (s1_11 : Int) : Option (((SL Int) × Int) ⊕ ((SL Int) × Int)) :=
 cond (decide (s1_11 < (zTk 1 (p0.Letters.1.length : Int)))) (
 (iter (fun s => zpj k p0 v1 s1_9 s1_11 s.1 s.2) k (0, ([] : List Int))).bind fun v602 =>
 (zjj k p0 v1 s1_9 s1_11 v602).bind fun v604 =>
 (zqj k p0 v1 s1_9 s1_11 v602 v604).bind fun v606 =>
 some (Sum.inl (v606.1, (w64 (s1_11 + 1))))) (
 some (Sum.inr (s1_9, s1_11)))
def zrl (k : Nat) (p0 : za) : Option ((SL Int) × Int) :=
 (z1b k p0).bind fun v1 =>
 cond (v1 != 0) (
 some (([], Cap.nil), v1)) (
 (zAi k p0).bind fun v4 =>
 cond v4 (
 some (([], Cap.nil), 4)) (
 cond (decide ((p0.Letters.1.length : Int) < 0)) (
 none) (
 (iter (fun s => zmj k p0 v1 s.1 s.2) k (([], Cap.nil), 0)).bind fun v8 =>
 some ((v8.1.1, (ccap v8.1.2)), 0))))
def zhi (r : ((SL Int) × Int)) : D := (.tup [(dl eI r.1.1 r.1.2), (di r.2)])
def zjf (k : Nat) (p0 p1 : (SL (SL Int))) (s1_3 : Bool) (s1_4 : Int) : Option Bool :=
 cond s1_3 (
 some (decide (s1_4 < (p0.1.length : Int)))) (
 some false)
def zmf (k : Nat) (p0 p1 : (SL (SL Int))) (s1_3 : Bool) (s1_4 : Int) : Option ((Bool × Int) ⊕ (Bool × Int)) :=
 (zjf k p0 p1 s1_3 s1_4).bind fun v301 =>
 cond v301 (
 (idx p0.1 s1_4).bind fun v304 =>
 (idx p1.1 s1_4).bind fun v306 =>
 (zFe k v304 v306).bind fun v308 =>
 some (Sum.inl (v308, (w64 (s1_4 + 1))))) (
 some (Sum.inr (s1_3, s1_4)))
def zlg (k : Nat) (p0 p1 : (SL (SL Int))) : Option Bool :=
 (iter (fun s => zmf k p0 p1 s.1 s.2) k (((p0.1.length : Int) == (p1.1.length : Int)), 0)).bind fun v1 =>
 some v1.1
def zli (r : Bool) : D := (db r)
def zng (k : Nat) (v3 v7 : zt1) (v11 : zt0) (v15 : ((SL Int) × Int)) : Option Bool :=
 cond (v3.2 != 0) (
 some true) (
 cond (v7.2 != 0) (
 some true) (
 cond (v11.2 != 0) (
 some true) (
 cond (v15.2 != 0) (
 some true) (
 cond (!v3.1) (
 some true) (
 cond (!v7.1) (
 some true) (
 cond (v11.1 != 3) (
 some true) (
 (zFe k v15.1 ([0, 1, 0, 0, 1], .ex)).bind fun v208 =>
 some (!v208))))))))
def zhc (k : Nat) : Option Bool :=
 (zhb k 3).bind fun v1 =>
 (zLk k v1 ([2, 3], .ex)).bind fun v3 =>
 (zhb k 3).bind fun v5 =>
 (zIe k v5 ([0, 1, 2, 0, 1], .ex)).bind fun v7 =>
 (zhb k 3).bind fun v9 =>
 (zyg k v9).bind fun v11 =>
 (zhb k 3).bind fun v13 =>
 (z6f k v13).bind fun v15 =>
 (zng k v3 v7 v11 v15).bind fun v17 =>
 cond v17 (
 some false) (
 (zhb k 3).bind fun v20 =>
 (zff k v20).bind fun v22 =>
 (zhb k 3).bind fun v24 =>
 (zwg k v24 0 3).bind fun v26 =>
 (zhb k 3).bind fun v28 =>
 (zhf k v28).bind fun v30 =>
 (zhb k 3).bind fun v32 =>
 (zLm k v32).bind fun v34 =>
 (zhb k 1).bind fun v36 =>
 (zrl k v36).bind fun v38 =>
 cond (v22.2 == 0) (
 cond (v26.2 == 0) (
 cond (v30.2 == 0) (
 cond (v34.2.2 == 0) (
 cond (v38.2 == 0) (
 cond (v22.1 == 2) (
 cond (v26.1 == 2) (
 (zlg k v30.1 ([([0, 3], .ex), ([1], .ex), ([2], .ex), ([4], .ex)], .ex)).bind fun v47 =>
 cond v47 (
 cond (v34.1 == 0) (
 cond (v34.2.1 == 2) (
 (zFe k v38.1 ([1, 4], .ex)).bind fun v52 =>
 some v52) (
 some false)) (
 some false)) (
 some false)) (
 some false)) (
 some false)) (
 some false)) (
 some false)) (
 some false)) (
 some false)) (
 some false))
def zO (r : Bool) : D := (db r)
def zGd (k : Nat) (p0 p1 : Int) (cb : Bool) : Option (Int × Bool) :=
 cond cb (
 some ((w64 ((p0.tmod p1) + p1)), true)) (
 some ((p0.tmod p1), false))
def zNd (k : Nat) (p0 p1 : Int) : Option Int :=
 cond (decide (p1 < 1)) (
 some 0) (
 cond (p1 == 0) (
 none) (
 (zGd k p0 p1 (decide ((p0.tmod p1) < 0))).bind fun v3 =>
 some v3.1))
def zFh (r : Int) : D := (di r)
def zWe (k : Nat) (p0 : (SL Int)) (p1 : Int) : Option Int :=
 cond ((p0.1.length : Int) == 0) (
 some 0) (
 (zNd k p1 (p0.1.length : Int)).bind fun v2 =>
 (idx p0.1 v2).bind fun v4 =>
 some v4)
def zDh (r : Int) : D := (di r)
def zTc (k : Nat) (p0 : (SL Int)) (p1 : Int) : Option (SL Int) :=
 cond (decide (p0.1.length ≤ LIM)) (
 cond (decide (p0.1.length + 1 ≤ LIM)) (
 some ((p0.1 ++ [p1]), (rcap false (p0.1 ++ [p1])))) none) none
def z9j (r : (SL Int)) : D := (dl eI r.1 r.2)
def zZf (k : Nat) (p0 p1 : zN) : Option zN :=
 (zEh k (if p1.Low > p0.Low then p1.Low else p0.Low) (if p1.High < p0.High then p1.High else p0.High)).bind fun v1 =>
 some v1
def z6i (r : zN) : D := (.agg [(di r.Low), (di r.High)])
def zbd (k : Nat) (p0 : za) (p1 : (SL Int)) (p2 : Int) (v4 v6 : zn) (s1_8 : Int) (v506 : zN) (s5_10 : Int) : Option Bool :=
 (idx p0.Apart.1 s5_10).bind fun v801 =>
 (idx p1.1 s1_8).bind fun v803 =>
 cond ((v801 0) == v803) (
 (idx p0.Apart.1 s5_10).bind fun v806 =>
 cond ((v806 1) == p2) (
 some true) (
 (idx p0.Apart.1 s5_10).bind fun v809 =>
 (idx p1.1 s1_8).bind fun v811 =>
 cond ((v809 1) == v811) (
 (idx p0.Apart.1 s5_10).bind fun v814 =>
 some ((v814 0) == p2)) (
 some false))) (
 (idx p0.Apart.1 s5_10).bind fun v806 =>
 (idx p1.1 s1_8).bind fun v808 =>
 cond ((v806 1) == v808) (
 (idx p0.Apart.1 s5_10).bind fun v811 =>
 some ((v811 0) == p2)) (
 some false))
def zdd (k : Nat) (p0 : za) (p1 : (SL Int)) (p2 : Int) (v4 v6 : zn) (s1_8 : Int) (v506 : zN) (s5_10 : Int) : Option (Int ⊕ (Int ⊕ Int)) :=
 cond (decide (s5_10 < (p0.Apart.1.length : Int))) (
 (zbd k p0 p1 p2 v4 v6 s1_8 v506 s5_10).bind fun v702 =>
 cond v702 (
 some (Sum.inr (Sum.inl s5_10))) (
 some (Sum.inl (w64 (s5_10 + 1))))) (
 some (Sum.inr (Sum.inr s5_10)))
def z8c (k : Nat) (p0 : za) (p1 : (SL Int)) (p2 : Int) (v4 v6 : zn) (s1_8 s1_25 s1_26 : Int) : Option ((Int × Int × Int) ⊕ ((Int × Int × Int × Int) ⊕ (Int × Int × Int))) :=
 cond (decide (s1_8 < (p1.1.length : Int))) (
 (idx p1.1 s1_8).bind fun v502 =>
 (idx p0.Letters.1 v502).bind fun v504 =>
 (zZf k (⟨s1_25, s1_26⟩ : zN) v504.Born).bind fun v506 =>
 (iter (fun s => zdd k p0 p1 p2 v4 v6 s1_8 v506 s) k 0).bind fun v508 =>
 Sum.elim (fun v511 =>
 some (Sum.inr (Sum.inl (s1_8, v511, v506.Low, v506.High)))) (fun w5_0 =>
 (fun v511 =>
 some (Sum.inl ((w64 (s1_8 + 1)), v506.Low, v506.High))) w5_0) v508) (
 some (Sum.inr (Sum.inr (s1_8, s1_25, s1_26))))
def zmc (k : Nat) (p0 : za) (p1 : (SL Int)) (p2 : Int) : Option Bool :=
 cond ((p1.1.length : Int) == 0) (
 some true) (
 (idx p1.1 (w64 ((p1.1.length : Int) - 1))).bind fun v2 =>
 (idx p0.Letters.1 v2).bind fun v4 =>
 (idx p0.Letters.1 p2).bind fun v6 =>
 (iter (fun s => z8c k p0 p1 p2 v4 v6 s.1 s.2.1 s.2.2) k (0, v6.Born.Low, v6.Born.High)).bind fun v8 =>
 Sum.elim (fun v11 =>
 some false) (fun w5_0 =>
 (fun v11 =>
 cond (!v4.Dead) (
 (idx p0.Far.1 v4.Place).bind fun v13 =>
 (idx v13.1 v6.Place).bind fun v15 =>
 cond (decide ((w64 (v6.Day - v4.Day)) ≥ v15)) (
 some (decide (v11.2.1 ≤ v11.2.2))) (
 some false)) (
 some false)) w5_0) v8)
def zsc (r : Bool) : D := (db r)
def zoe (k : Nat) (p0 : za) (p1 : (SL Int)) (s1_7 : Int) (s1_12 : zt6) (s1_14 : zt7) (s8_9 s8_10 : Int) : Option Bool :=
 (idx p0.Letters.1 s8_10).bind fun v1201 =>
 cond (v1201.Account != 0) (
 (idx p0.Letters.1 s8_10).bind fun v1204 =>
 (idx p0.Letters.1 s1_7).bind fun v1206 =>
 some (v1204.Account == v1206.Account)) (
 some false)
def zte (k : Nat) (p0 : za) (p1 : (SL Int)) (s1_7 : Int) (s1_12 : zt6) (s1_14 : zt7) (s8_9 s8_10 : Int) (v1102 : Bool) : Option (Int × Bool) :=
 cond v1102 (
 (idx s1_12 s8_10).bind fun v1302 =>
 some (v1302, true)) (
 some (s8_9, false))
def zrd (k : Nat) (p0 : za) (p1 : (SL Int)) (s1_7 : Int) (s1_12 : zt6) (s1_14 : zt7) (s8_9 s8_10 : Int) : Option ((Int × Int) ⊕ (Int × Int)) :=
 cond (decide (s8_10 < s1_7)) (
 (zoe k p0 p1 s1_7 s1_12 s1_14 s8_9 s8_10).bind fun v1102 =>
 (zte k p0 p1 s1_7 s1_12 s1_14 s8_9 s8_10 v1102).bind fun v1104 =>
 some (Sum.inl (v1104.1, (w64 (s8_10 + 1))))) (
 some (Sum.inr (s8_9, s8_10)))
def zwe (k : Nat) (p0 : za) (p1 : (SL Int)) (s1_7 : Int) (s1_12 : zt6) (s1_14 : zt7) (v806 : zt0) : Option Bool :=
 cond (decide (v806.1 < (s1_14.length : Int))) (
 (idx s1_14 v806.1).bind fun v1402 =>
 (zmc k p0 v1402 s1_7).bind fun v1404 =>
 some (!v1404)) (
 some false)
def zne (k : Nat) (p0 : za) (p1 : (SL Int)) (s1_7 : Int) (s1_12 : zt6) (s1_14 : zt7) (v806 : zt0) (v808 : Bool) : Option (Int × Bool) :=
 cond v808 (
 some ((s1_14.length : Int), true)) (
 some (v806.1, false))
def zrc (k : Nat) (p0 : za) (p1 : (SL Int)) (s1_7 : Int) (s1_12 : zt6) (s1_14 : zt7) : Option ((Int × (List Int) × (List (SL Int))) ⊕ (Int × (List Int) × (List (SL Int)))) :=
 cond (decide (s1_7 < (p0.Letters.1.length : Int))) (
 (zWe k p1 s1_7).bind fun v802 =>
 (zNd k v802 (w64 ((s1_14.length : Int) + 1))).bind fun v804 =>
 (iter (fun s => zrd k p0 p1 s1_7 s1_12 s1_14 s.1 s.2) k (v804, 0)).bind fun v806 =>
 (zwe k p0 p1 s1_7 s1_12 s1_14 v806).bind fun v808 =>
 (zne k p0 p1 s1_7 s1_12 s1_14 v806 v808).bind fun v810 =>
 cond (v810.1 == (s1_14.length : Int)) (
 cond (decide (s1_14.length + 1 ≤ LIM)) (
 (idx (s1_14 ++ [([], Cap.nil)]) v810.1).bind fun v814 =>
 (zTc k v814 s1_7).bind fun v816 =>
 (idx (s1_14 ++ [([], Cap.nil)]) v810.1).bind fun v818 =>
 cond (decide (s1_12.length + 1 ≤ LIM)) (
 some (Sum.inl ((w64 (s1_7 + 1)), (s1_12 ++ [v810.1]), ((s1_14 ++ [([], Cap.nil)]).set v810.1.toNat v816)))) none) none) (
 (idx s1_14 v810.1).bind fun v813 =>
 (zTc k v813 s1_7).bind fun v815 =>
 (idx s1_14 v810.1).bind fun v817 =>
 cond (decide (s1_12.length + 1 ≤ LIM)) (
 some (Sum.inl ((w64 (s1_7 + 1)), (s1_12 ++ [v810.1]), (s1_14.set v810.1.toNat v815)))) none)) (
 some (Sum.inr (s1_7, s1_12, s1_14)))
def zpe (k : Nat) (p0 : za) (p1 : (SL Int)) (v1 : zt14) (s15_10 : Int) (s20_9 : Bool) (s20_12 : Int) : Option Bool :=
 cond s20_9 (
 (idx p0.Letters.1 s15_10).bind fun v2302 =>
 cond (v2302.Account == 0) (
 some true) (
 (idx p0.Letters.1 s15_10).bind fun v2305 =>
 (idx p0.Letters.1 s20_12).bind fun v2307 =>
 cond (v2305.Account != v2307.Account) (
 some true) (
 (idx v1.2.1 s15_10).bind fun v2310 =>
 (idx v1.2.1 s20_12).bind fun v2312 =>
 some (v2310 == v2312)))) (
 some false)
def z4c (k : Nat) (p0 : za) (p1 : (SL Int)) (v1 : zt14) (s15_10 : Int) (s20_9 : Bool) (s20_12 : Int) : Option ((Bool × Int) ⊕ (Bool × Int)) :=
 cond (decide (s20_12 < s15_10)) (
 (zpe k p0 p1 v1 s15_10 s20_9 s20_12).bind fun v2202 =>
 some (Sum.inl (v2202, (w64 (s20_12 + 1))))) (
 some (Sum.inr (s20_9, s20_12)))
def z3c (k : Nat) (p0 : za) (p1 : (SL Int)) (v1 : zt14) (s15_9 : Bool) (s15_10 : Int) : Option ((Bool × Int) ⊕ (Bool × Int)) :=
 cond (decide (s15_10 < (v1.2.1.length : Int))) (
 (iter (fun s => z4c k p0 p1 v1 s15_10 s.1 s.2) k (s15_9, 0)).bind fun v2002 =>
 some (Sum.inl (v2002.1, (w64 (s15_10 + 1))))) (
 some (Sum.inr (s15_9, s15_10)))
def zze (k : Nat) (p0 : za) (p1 : (SL Int)) : Option ((SL Int) × Bool) :=
 (iter (fun s => zrc k p0 p1 s.1 s.2.1 s.2.2) k (0, ([] : List Int), ([] : List (SL Int)))).bind fun v1 =>
 (iter (fun s => z3c k p0 p1 v1 s.1 s.2) k ((decide ((v1.2.2.length : Int) ≤ p0.Most)), 0)).bind fun v3 =>
 some ((v1.2.1, (rcap true v1.2.1)), v3.1)
def zyj (r : zt4) : D := (.tup [(dl eI r.1.1 r.1.2), (db r.2)])
def z6c (k : Nat) (p0 : za) (p1 : (SL Int)) (s1_7 s1_8 : Int) (s1_13 : zt15) : Option Bool :=
 (idx p1.1 s1_8).bind fun v501 =>
 (zU k v501 0 s1_7).bind fun v503 =>
 cond (!v503) (
 some true) (
 (idx p1.1 s1_8).bind fun v506 =>
 cond (decide (0 ≤ v506) && decide (v506 < 8)) (
 (zmc k p0 (s1_13 v506.toNat) s1_8).bind fun v509 =>
 some (!v509)) none)
def zad (k : Nat) (p0 : za) (p1 : (SL Int)) (s1_7 s1_8 : Int) (s1_13 : zt15) (v405 v407 : Int) (v412 : (SL Int)) (s5_11 : Int) : Option Bool :=
 (idx p0.Letters.1 s5_11).bind fun v801 =>
 cond (v801.Account != 0) (
 (idx p0.Letters.1 s5_11).bind fun v804 =>
 (idx p0.Letters.1 s1_8).bind fun v806 =>
 cond (v804.Account == v806.Account) (
 (idx p1.1 s5_11).bind fun v809 =>
 (idx p1.1 s1_8).bind fun v811 =>
 some (v809 != v811)) (
 some false)) (
 some false)
def z5c (k : Nat) (p0 : za) (p1 : (SL Int)) (s1_7 s1_8 : Int) (s1_13 : zt15) (v405 v407 : Int) (v412 : (SL Int)) (s5_11 : Int) : Option (Int ⊕ (Int ⊕ Int)) :=
 cond (decide (s5_11 < s1_8)) (
 (zad k p0 p1 s1_7 s1_8 s1_13 v405 v407 v412 s5_11).bind fun v702 =>
 cond v702 (
 some (Sum.inr (Sum.inl s5_11))) (
 some (Sum.inl (w64 (s5_11 + 1))))) (
 some (Sum.inr (Sum.inr s5_11)))
def z9c (k : Nat) (p0 : za) (p1 : (SL Int)) (s1_7 s1_8 : Int) (s1_13 : zt15) : Option ((Int × Int × (Nat → SL Int)) ⊕ ((Int × Int × (Nat → SL Int)) ⊕ ((Int × Int × Int × (Nat → SL Int)) ⊕ (Int × Int × (Nat → SL Int))))) :=
 cond (decide (s1_8 < (p1.1.length : Int))) (
 (z6c k p0 p1 s1_7 s1_8 s1_13).bind fun v402 =>
 cond v402 (
 some (Sum.inr (Sum.inl (s1_7, s1_8, s1_13)))) (
 (idx p1.1 s1_8).bind fun v405 =>
 (idx p1.1 s1_8).bind fun v407 =>
 (idx p1.1 s1_8).bind fun v409 =>
 cond (decide (0 ≤ v409) && decide (v409 < 8)) (
 (zTc k (s1_13 v409.toNat) s1_8).bind fun v412 =>
 cond (decide (0 ≤ v407) && decide (v407 < 8)) (
 (iter (fun s => z5c k p0 p1 s1_7 s1_8 s1_13 v405 v407 v412 s) k 0).bind fun v415 =>
 Sum.elim (fun v418 =>
 some (Sum.inr (Sum.inr (Sum.inl ((if (w64 (v405 + 1)) > s1_7 then (w64 (v405 + 1)) else s1_7), s1_8, v418, (upd s1_13 v407.toNat v412)))))) (fun w10_0 =>
 (fun v418 =>
 some (Sum.inl ((if (w64 (v405 + 1)) > s1_7 then (w64 (v405 + 1)) else s1_7), (w64 (s1_8 + 1)), (upd s1_13 v407.toNat v412)))) w10_0) v415) none) none)) (
 some (Sum.inr (Sum.inr (Sum.inr (s1_7, s1_8, s1_13)))))
def zfe (k : Nat) (p0 : za) (p1 : (SL Int)) : Option Bool :=
 cond ((p1.1.length : Int) != (p0.Letters.1.length : Int)) (
 some false) (
 (iter (fun s => z9c k p0 p1 s.1 s.2.1 s.2.2) k (0, 0, (fun _ => ([], .nil)))).bind fun v2 =>
 Sum.elim (fun v5 =>
 some false) (fun w2_0 =>
 Sum.elim (fun v5 =>
 some false) (fun w2_1 =>
 (fun v5 =>
 some (decide (v5.1 ≤ p0.Most))) w2_1) w2_0) v2)
def zvd (r : Bool) : D := (db r)
def zOc (k : Nat) (p0 : (SL Int)) (s1_2 s1_3 : Int) : Option ((Int × Int) ⊕ (Int × Int)) :=
 cond (decide (s1_3 < (p0.1.length : Int))) (
 (idx p0.1 s1_3).bind fun v202 =>
 some (Sum.inl ((if (w64 (v202 + 1)) > s1_2 then (w64 (v202 + 1)) else s1_2), (w64 (s1_3 + 1))))) (
 some (Sum.inr (s1_2, s1_3)))
def zRd (k : Nat) (p0 : (SL Int)) : Option Int :=
 (iter (fun s => zOc k p0 s.1 s.2) k (0, 0)).bind fun v1 =>
 some v1.1
def zRi (r : Int) : D := (di r)
def zve (k : Nat) (p0 : (SL Int)) (p1 s1_3 s1_4 : Int) : Option Bool :=
 (idx p0.1 s1_4).bind fun v401 =>
 cond (decide (v401 ≤ s1_3)) (
 some true) (
 (idx p0.1 s1_4).bind fun v404 =>
 some (decide (v404 ≥ p1)))
def zed (k : Nat) (p0 : (SL Int)) (p1 s1_3 s1_4 : Int) : Option ((Int × Int) ⊕ ((Int × Int) ⊕ (Int × Int))) :=
 cond (decide (s1_4 < (p0.1.length : Int))) (
 (zve k p0 p1 s1_3 s1_4).bind fun v302 =>
 cond v302 (
 some (Sum.inr (Sum.inl (s1_3, s1_4)))) (
 (idx p0.1 s1_4).bind fun v305 =>
 some (Sum.inl (v305, (w64 (s1_4 + 1)))))) (
 some (Sum.inr (Sum.inr (s1_3, s1_4))))
def z2d (k : Nat) (p0 : (SL Int)) (p1 : Int) : Option Bool :=
 (iter (fun s => zed k p0 p1 s.1 s.2) k ((-1), 0)).bind fun v1 =>
 Sum.elim (fun v4 =>
 some false) (fun w1_0 =>
 (fun v4 =>
 some true) w1_0) v1
def zSg (r : Bool) : D := (db r)
def zXb (k : Nat) (p0 : za) (p1 : (SL Int)) (v4 : zt4) (v6 : zt1) : Option Bool :=
 cond (v6.2 != 0) (
 some true) (
 cond (!(v6.1 == v4.2)) (
 some true) (
 (zfe k p0 v4.1).bind fun v203 =>
 some (!(v4.2 == v203))))
def zYb (k : Nat) (p0 : za) (p1 : (SL Int)) (v4 : zt4) (v6 : zt1) (v12 v14 : zt0) (v16 : zt5) : Option Bool :=
 cond (v12.2 != 0) (
 some true) (
 cond (v14.2 != 0) (
 some true) (
 cond (v16.2 != 0) (
 some true) (
 cond (decide (v12.1 < 1)) (
 some true) (
 (zRd k v4.1).bind fun v305 =>
 (zU k v14.1 1 v305).bind fun v307 =>
 some (!v307)))))
def zWb (k : Nat) (p0 : za) (p1 : (SL Int)) (v4 : zt4) (v6 : zt1) (v12 v14 : zt0) (v16 : zt5) (s3_19 s7_21 : Int) (v902 : zt0) : Option Bool :=
 cond (v902.2 != 0) (
 some true) (
 (idx v4.1.1 s3_19).bind fun v1002 =>
 (idx v4.1.1 s7_21).bind fun v1004 =>
 cond (v1002 == v1004) (
 cond (v902.1 == 0) (
 some true) (
 (idx v4.1.1 s3_19).bind fun v1008 =>
 (idx v4.1.1 s7_21).bind fun v1010 =>
 cond (v1008 != v1010) (
 some (v902.1 == 2)) (
 some false))) (
 (idx v4.1.1 s3_19).bind fun v1007 =>
 (idx v4.1.1 s7_21).bind fun v1009 =>
 cond (v1007 != v1009) (
 some (v902.1 == 2)) (
 some false)))
def zVb (k : Nat) (p0 : za) (p1 : (SL Int)) (v4 : zt4) (v6 : zt1) (v12 v14 : zt0) (v16 : zt5) (s3_19 s7_21 : Int) : Option (Int ⊕ ((Int × Int × Int) ⊕ Int)) :=
 cond (decide (s7_21 < (v4.1.1.length : Int))) (
 (zwg k p0 s3_19 s7_21).bind fun v902 =>
 (zWb k p0 p1 v4 v6 v12 v14 v16 s3_19 s7_21 v902).bind fun v904 =>
 cond v904 (
 some (Sum.inr (Sum.inl (s7_21, v902.1, v902.2)))) (
 some (Sum.inl (w64 (s7_21 + 1))))) (
 some (Sum.inr (Sum.inr s7_21)))
def zUb (k : Nat) (p0 : za) (p1 : (SL Int)) (v4 : zt4) (v6 : zt1) (v12 v14 : zt0) (v16 : zt5) (s3_19 : Int) : Option (Int ⊕ ((Int × Int × Int × Int) ⊕ Int)) :=
 cond (decide (s3_19 < (v4.1.1.length : Int))) (
 (iter (fun s => zVb k p0 p1 v4 v6 v12 v14 v16 s3_19 s) k 0).bind fun v702 =>
 Sum.elim (fun v705 =>
 some (Sum.inr (Sum.inl (s3_19, v705.1, v705.2.1, v705.2.2)))) (fun w2_0 =>
 (fun v705 =>
 some (Sum.inl (w64 (s3_19 + 1)))) w2_0) v702) (
 some (Sum.inr (Sum.inr s3_19)))
def zKb (k : Nat) (p0 : za) (p1 : (SL Int)) (v4 : zt4) (v6 : zt1) (v12 v14 : zt0) (v16 : zt5) (v24 s10_21 s10_22 : Int) : Option Bool :=
 (idx v16.1.1 s10_22).bind fun v1401 =>
 cond ((v1401.1.length : Int) == 0) (
 some true) (
 (idx v16.1.1 s10_22).bind fun v1404 =>
 (z2d k v1404 (v4.1.1.length : Int)).bind fun v1406 =>
 some (!v1406))
def zHb (k : Nat) (p0 : za) (p1 : (SL Int)) (v4 : zt4) (v6 : zt1) (v12 v14 : zt0) (v16 : zt5) (v24 s10_21 s10_22 : Int) (v1305 : (SL Int)) (s14_25 : Int) : Option (Int ⊕ (Int ⊕ Int)) :=
 (idx v16.1.1 s10_22).bind fun v1501 =>
 cond (decide (s14_25 < (v1501.1.length : Int))) (
 (idx v16.1.1 s10_22).bind fun v1504 =>
 (idx v1504.1 s14_25).bind fun v1506 =>
 (idx v4.1.1 v1506).bind fun v1508 =>
 (idx v16.1.1 s10_22).bind fun v1510 =>
 (idx v1510.1 0).bind fun v1512 =>
 (idx v4.1.1 v1512).bind fun v1514 =>
 cond (v1508 != v1514) (
 some (Sum.inr (Sum.inl s14_25))) (
 some (Sum.inl (w64 (s14_25 + 1))))) (
 some (Sum.inr (Sum.inr s14_25)))
def zLb (k : Nat) (p0 : za) (p1 : (SL Int)) (v4 : zt4) (v6 : zt1) (v12 v14 : zt0) (v16 : zt5) (v24 s10_21 s10_22 : Int) : Option ((Int × Int) ⊕ ((Int × Int) ⊕ ((Int × Int × Int) ⊕ (Int × Int)))) :=
 cond (decide (s10_22 < (v16.1.1.length : Int))) (
 (zKb k p0 p1 v4 v6 v12 v14 v16 v24 s10_21 s10_22).bind fun v1302 =>
 cond v1302 (
 some (Sum.inr (Sum.inl (s10_21, s10_22)))) (
 (idx v16.1.1 s10_22).bind fun v1305 =>
 (iter (fun s => zHb k p0 p1 v4 v6 v12 v14 v16 v24 s10_21 s10_22 v1305 s) k 0).bind fun v1307 =>
 Sum.elim (fun v1310 =>
 some (Sum.inr (Sum.inr (Sum.inl ((w64 (s10_21 + (v1305.1.length : Int))), s10_22, v1310))))) (fun w5_0 =>
 (fun v1310 =>
 some (Sum.inl ((w64 (s10_21 + (v1305.1.length : Int))), (w64 (s10_22 + 1))))) w5_0) v1307)) (
 some (Sum.inr (Sum.inr (Sum.inr (s10_21, s10_22)))))
def zGb (k : Nat) (p0 : za) (p1 : (SL Int)) : Option Bool :=
 (zCe k p0).bind fun v1 =>
 cond (!v1) (
 (zhc k).bind fun v4 =>
 some v4) (
 (zze k p0 p1).bind fun v4 =>
 (zIe k p0 v4.1).bind fun v6 =>
 (zXb k p0 p1 v4 v6).bind fun v8 =>
 cond v8 (
 some false) (
 cond (!v4.2) (
 (zhc k).bind fun v12 =>
 some v12) (
 (zyg k p0).bind fun v12 =>
 (zff k p0).bind fun v14 =>
 (zhf k p0).bind fun v16 =>
 (zYb k p0 p1 v4 v6 v12 v14 v16).bind fun v18 =>
 cond v18 (
 some false) (
 (iter (fun s => zUb k p0 p1 v4 v6 v12 v14 v16 s) k 0).bind fun v21 =>
 Sum.elim (fun v24 =>
 some false) (fun w13_0 =>
 (fun v24 =>
 (iter (fun s => zLb k p0 p1 v4 v6 v12 v14 v16 v24 s.1 s.2) k (0, 0)).bind fun v25 =>
 Sum.elim (fun v28 =>
 some false) (fun w15_0 =>
 Sum.elim (fun v28 =>
 some false) (fun w15_1 =>
 (fun v28 =>
 cond (v28.1 == (v4.1.1.length : Int)) (
 (zhc k).bind fun v30 =>
 some v30) (
 some false)) w15_1) w15_0) v25) w13_0) v21))))
def zP (r : Bool) : D := (db r)
end Go.AM
