/- The statement TopPicked holds for every input that its row lets in. Conditions: none. -/
import Derived.Test.YtlliglddpleenabGreatDoorD
set_option linter.all false
set_option linter.unusedVariables false
set_option maxRecDepth 100000
namespace Go.AM
open Go Go.Proofs
def zsp (n : Nat) : Nat × X := (n, .ptr 0 n 0)
def zc (n : Nat) (l : List D) : Nat × O := (n, .cells (l.map .d))
section
variable {E : Env} {fid : Nat} {c : Code}
theorem zqn {S R : Type} {S0 : S → St} {R0 : R → Ex × St} {s : S} {x : S ⊕ R} (s' : S) (rs : List Nat) (V : Ovs) (C : Cuts) (h : some (Sum.inl s') = some x) {P : List Prop} (hP : All P) (hr : zzj E V C rs 80 fid c (S0 s) = some (.inl (S0 s'), P)) : zT E fid c S0 R0 s x := zlz h hP hr
theorem zqo {S R : Type} {S0 : S → St} {R0 : R → Ex × St} {s : S} {r : R} {x : S ⊕ R} (V : Ovs) (C : Cuts) (h : some (Sum.inr r) = some x) {P : List Prop} (hP : All P) (hr : zzj E V C [] 80 fid c (S0 s) = some (.inr (R0 r), P)) : zT E fid c S0 R0 s x := zLz h hP hr
theorem zGc {A0 R : Type} {S0 : A0 → St} {R0 : R → Ex × St} {W : A0 → Option ((A0) ⊕ R)} (h : ∀ b0 x, W b0 = some x → zT E fid c S0 R0 b0 x) : ∀ (m : Nat) (s : A0) (r : R), iter (fun s => W s) m s = some r → ev E fid c (S0 s) = some (R0 r) := zaj fun s x e => h s x e
theorem zUb {A0 A1 R : Type} {S0 : A0 × A1 → St} {R0 : R → Ex × St} {W : A0 → A1 → Option ((A0 × A1) ⊕ R)} (h : ∀ b0 b1 x, W b0 b1 = some x → zT E fid c S0 R0 (b0, b1) x) : ∀ (m : Nat) (s : A0 × A1) (r : R), iter (fun s => W s.1 s.2) m s = some r → ev E fid c (S0 s) = some (R0 r) := zaj fun s x e => h s.1 s.2 x e
theorem zmk {A0 A1 A2 R : Type} {S0 : A0 × A1 × A2 → St} {R0 : R → Ex × St} {W : A0 → A1 → A2 → Option ((A0 × A1 × A2) ⊕ R)} (h : ∀ b0 b1 b2 x, W b0 b1 b2 = some x → zT E fid c S0 R0 (b0, b1, b2) x) : ∀ (m : Nat) (s : A0 × A1 × A2) (r : R), iter (fun s => W s.1 s.2.1 s.2.2) m s = some r → ev E fid c (S0 s) = some (R0 r) := zaj fun s x e => h s.1 s.2.1 s.2.2 x e
theorem z2v {A0 A1 A2 A3 R : Type} {S0 : A0 × A1 × A2 × A3 → St} {R0 : R → Ex × St} {W : A0 → A1 → A2 → A3 → Option ((A0 × A1 × A2 × A3) ⊕ R)} (h : ∀ b0 b1 b2 b3 x, W b0 b1 b2 b3 = some x → zT E fid c S0 R0 (b0, b1, b2, b3) x) : ∀ (m : Nat) (s : A0 × A1 × A2 × A3) (r : R), iter (fun s => W s.1 s.2.1 s.2.2.1 s.2.2.2) m s = some r → ev E fid c (S0 s) = some (R0 r) := zaj fun s x e => h s.1 s.2.1 s.2.2.1 s.2.2.2 x e
theorem zzD {A0 A1 A2 A3 A4 R : Type} {S0 : A0 × A1 × A2 × A3 × A4 → St} {R0 : R → Ex × St} {W : A0 → A1 → A2 → A3 → A4 → Option ((A0 × A1 × A2 × A3 × A4) ⊕ R)} (h : ∀ b0 b1 b2 b3 b4 x, W b0 b1 b2 b3 b4 = some x → zT E fid c S0 R0 (b0, b1, b2, b3, b4) x) : ∀ (m : Nat) (s : A0 × A1 × A2 × A3 × A4) (r : R), iter (fun s => W s.1 s.2.1 s.2.2.1 s.2.2.2.1 s.2.2.2.2) m s = some r → ev E fid c (S0 s) = some (R0 r) := zaj fun s x e => h s.1 s.2.1 s.2.2.1 s.2.2.2.1 s.2.2.2.2 x e
theorem zAD {A0 A1 A2 A3 A4 A5 R : Type} {S0 : A0 × A1 × A2 × A3 × A4 × A5 → St} {R0 : R → Ex × St} {W : A0 → A1 → A2 → A3 → A4 → A5 → Option ((A0 × A1 × A2 × A3 × A4 × A5) ⊕ R)} (h : ∀ b0 b1 b2 b3 b4 b5 x, W b0 b1 b2 b3 b4 b5 = some x → zT E fid c S0 R0 (b0, b1, b2, b3, b4, b5) x) : ∀ (m : Nat) (s : A0 × A1 × A2 × A3 × A4 × A5) (r : R), iter (fun s => W s.1 s.2.1 s.2.2.1 s.2.2.2.1 s.2.2.2.2.1 s.2.2.2.2.2) m s = some r → ev E fid c (S0 s) = some (R0 r) := zaj fun s x e => h s.1 s.2.1 s.2.2.1 s.2.2.2.1 s.2.2.2.2.1 s.2.2.2.2.2 x e
theorem zqe {st : St} {r : Ex × St} {P : List Prop} (V : Ovs) (C : Cuts) (hP : All P) (h : evV E V C 80 fid c st = some (r, P)) : ev E fid c st = some r := zHz hP h
theorem zqc {f : Nat} {ds : List D} {d : D} {P : List Prop} (V : Ovs) (C : Cuts) (hP : All P) (h : zet E V C 80 f ds = some (d, P)) : zI E (ev E) f ds = some d := z8x hP h
theorem zqr {f : Nat} {ds : List D} {d : D} {P : List Prop} (V : Ovs) (C : Cuts) (res : List D) (hP : All P) (h : zmr E V C 80 f ds res = some (d, P)) : zI E (ev E) f ds = some d := zww hP h
end
section
variable {α : Type}
theorem zqa (T : TypeId) (bt lv s : Nat) (n : Int) (b : Bool) (z : Nat) (e : α → List D) (l : List α) (w : Bool) {y : α} (ha : arT TE.P T = none) (hs : slT TE.P T = some (z, bt)) (h : idx l n = some y) : iaX TE.P (fun _ _ => some (rowO b z e l w)) T (.row lv s l.length) (xi n) = some (.rp lv s l.length n.toNat 0) := zgB ha hs h
theorem zql (T : TypeId) (q : Nat × Bool) (lv s o : Nat) (n : Int) (x : X) (b : Bool) (z : Nat) (e : α → List D) (l : List α) (w : Bool) {y : α} (ht : tyT TE.P T = some q) (h : idx l n = some y) (hx : (zEg q.2 q.1 ((e y).drop o)).map X.d = some x) : ldX TE.P (fun _ _ => some (rowO b z e l w)) T (.rp lv s l.length n.toNat o) = some x := zkA ht h hx
theorem zqf (T : TypeId) (q : Nat × Nat × Bool) (lv s o f : Nat) (n : Int) (b : Bool) (z : Nat) (e : α → List D) (l : List α) (w : Bool) {y : α} (hf : fdT TE.P T f = some q) (hq : q.2.1 ≠ 0) (h : idx l n = some y) : faX TE.P (fun _ _ => some (rowO b z e l w)) T (.rp lv s l.length n.toNat o) f = some (.rp lv s l.length n.toNat (o + q.1)) := zMB hf hq h
end
theorem zux {E : Env} {n f : Nat} {ds : List D} {d : D} (h : zI E (evN E n) f ds = some d) : zI E (ev E) f ds = some d := by
 unfold zI run at h ⊢
 cases hq : fnOf E f (ds.map X.d).length with
 | none => rw [hq] at h; simp at h
 | some q =>
  rw [hq] at h
  simp only at h ⊢
  cases hr : evN E n f q.2 { tm := params 0 (ds.map X.d), fs := { fr := [], lo := [] }, lp := [] } with
  | none => rw [hr] at h; simp at h
  | some r =>
   rw [hr] at h
   rw [(zBo E).2 ⟨n, hr⟩]
   exact h
theorem zZk : zI TE (ev TE) 8 [] = some (db true) := zux (n := 100000) (by kernel_rfl)
theorem z0n (k : Nat) (p0 : zZ) (p1 : Int) (r : zt10) (h : z0f k p0 p1 = some r) : zI TE (ev TE) 44 [(.agg (zl p0.SlipFloor)), (di p1)] = some (zGj r) := by
 unfold z0f at h
 exact zP (g := zGj) h (zqc [] [] ob0 (by kernel_rfl))
noncomputable def zk1 (p0 : zZ) (p1 : Int) (v1 : zJ) (s1_9 : Int) : TM := [(0, (.d (.agg (zl p0.SlipFloor)))), (1, (xi p1)), (zsp 2), (zsp 4), (zsp 5), (14, (.d (dl zk v1.Lines.1 v1.Lines.2))), (15, (xi (v1.Lines.1.length : Int))), (16, (xi s1_9))]
noncomputable def zmm (p0 : zZ) (p1 : Int) (v1 : zJ) (s1_9 : Int) (s1_17 : zt5) : St := ⟨(zk1 p0 p1 v1 s1_9), ⟨[(zc 2 (zl p0.SlipFloor)), (zc 4 (aI 12 (fun _ => 0))), (zc 5 (aI 12 s1_17))], []⟩, []⟩
noncomputable def zk2 (p0 : zZ) (p1 : Int) (v1 : zJ) (r : (Int × (Nat → Int))) : TM := [(0, (.d (.agg (zl p0.SlipFloor)))), (1, (xi p1)), (zsp 2), (zsp 4), (zsp 5), (14, (.d (dl zk v1.Lines.1 v1.Lines.2))), (15, (xi (v1.Lines.1.length : Int))), (16, (xi r.1)), (17, (xb false))]
noncomputable def zwe (p0 : zZ) (p1 : Int) (v1 : zJ) (r : (Int × (Nat → Int))) : St := ⟨(zk2 p0 p1 v1 r), ⟨[(zc 2 (zl p0.SlipFloor)), (zc 4 (aI 12 (fun _ => 0))), (zc 5 (aI 12 r.2))], []⟩, []⟩
noncomputable def zbm (p0 : zZ) (p1 : Int) (v1 : zJ) : (Int × (Nat → Int)) → Ex × St := fun r => ((.exit 0), zwe p0 p1 v1 r)
theorem zAl (k : Nat) (p0 : zZ) (p1 : Int) (v1 : zJ) (s1_9 : Int) (s1_17 : zt5) (x : (Int × (Nat → Int)) ⊕ (Int × (Nat → Int))) (h : zOc k p0 p1 v1 s1_9 s1_17 = some x) : zT TE 46 (blk TE 46 0) (fun s : (Int × (Nat → Int)) => zmm p0 p1 v1 s.1 s.2) (zbm p0 p1 v1) (s1_9, s1_17) x := by
 unfold zOc at h
 refine zr h (fun h201 g1 => ?_) (fun h201 g1 => ?_)
 ·refine zo g1 (fun v202 h203 g2 => ?_)
  refine z6 g2 (fun h204 g3 => ?_)
  exact zqn ((w64 (s1_9 + 1)), (upd s1_17 v202.Shelf.toNat v202.Many)) [] [(46, 3, 0, .q (xb true)), (46, 4, 0, .q (.d (.pin [(di v202.Shelf), (di v202.Many)]))), (46, 5, 4, .q (.ptr 0 5 (v202.Shelf.toNat))), (46, 5, 5, .st ((aI 12 (upd s1_17 v202.Shelf.toNat v202.Many)).map .d))] [] g3 (ob (o_b h201) (ob (o_ia (e := zk) 2 h203 rfl) (ob (zAb (m := 12) 0 5 0 1 v202.Shelf.toNat h204 (by omega)) (ob (zit 12 s1_17 v202.Shelf.toNat v202.Many (by have := h204; simp only [Bool.and_eq_true, decide_eq_true_eq] at this; omega)) ob0)))) (by kernel_rfl)
 ·exact zqo [(46, 3, 0, .q (xb false))] [] g1 (ob (o_b h201) ob0) (by kernel_rfl)
theorem zti (k : Nat) (p0 : zZ) (p1 : Int) (r : zt5) (h : zTc k p0 p1 = some r) : zI TE (ev TE) 46 [(.agg (zl p0.SlipFloor)), (di p1)] = some (z0i r) := by
 unfold zTc at h
 refine zo h (fun v1 h2 g1 => ?_)
 refine zo g1 (fun v3 h4 g2 => ?_)
 exact zP (g := z0i) g2 (zqc [(46, 2, 4, .q (.d (.pin [(dl zk v1.Lines.1 v1.Lines.2), (di v1.Until)]))), (46, 2, 7, .q (xi (v1.Lines.1.length : Int)))] [(46, 0, (.nor, zwe p0 p1 v1 v3))] (ob (o_ia (e := zL) 2 h2 rfl) (ob (zC zk v1.Lines.1) (ob (zG (id := 0) (r' := (.nor, zwe p0 p1 v1 v3)) (zUb (zAl k p0 p1 v1) k _ _ h4) rfl) ob0))) (by kernel_rfl))
theorem zKi (k : Nat) (r : zt5) (h : z7g k = some r) : zI TE (ev TE) 47 [] = some (z1m r) := by
 unfold z7g at h
 exact zP (g := z1m) h (zqc [] [] ob0 (by kernel_rfl))
theorem zmb (k : Nat) (p0 p1 p2 : Int) (r : Bool) (h : zOb k p0 p1 p2 = some r) : zI TE (ev TE) 35 [(di p0), (di p1), (di p2)] = some (zpk r) := by
 unfold zOb at h
 refine zr h (fun h1 g1 => ?_) (fun h1 g1 => ?_)
 ·exact zP (g := zpk) g1 (zqc [(35, 1, 3, .q (xb true))] [] (ob (o_b h1) ob0) (by kernel_rfl))
 ·exact zP (g := zpk) g1 (zqc [(35, 1, 3, .q (xb false))] [] (ob (o_b h1) ob0) (by kernel_rfl))
theorem zIm (k : Nat) (p0 : zD) (p1 p2 : Int) (r : Bool) (h : zrg k p0 p1 p2 = some r) : zI TE (ev TE) 36 [(.agg [(di p0.Low), (di p0.High)]), (di p1), (di p2)] = some (zRh r) := by
 unfold zrg at h
 refine zr h (fun h1 g1 => ?_) (fun h1 g1 => ?_)
 ·refine zr g1 (fun h2 g2 => ?_) (fun h2 g2 => ?_)
  ·exact zP (g := zRh) g2 (zqc [(36, 1, 4, .q (xb true)), (36, 1, 11, .q (xb true))] [] (ob (o_b h1) (ob (o_b h2) ob0)) (by kernel_rfl))
  ·exact zP (g := zRh) g2 (zqc [(36, 1, 4, .q (xb true)), (36, 1, 11, .q (xb false))] [] (ob (o_b h1) (ob (o_b h2) ob0)) (by kernel_rfl))
 ·exact zP (g := zRh) g1 (zqc [(36, 1, 4, .q (xb false))] [] (ob (o_b h1) ob0) (by kernel_rfl))
noncomputable def zk3 (p0 : zh) (r : Bool) : TM := [(0, (.d (.agg (zl p0)))), (zsp 1), (2, (xi 0)), (3, (xb r))]
noncomputable def zic (p0 : zh) (r : Bool) : St := ⟨(zk3 p0 r), ⟨[(zc 1 (zl p0))], []⟩, []⟩
theorem zeq (k : Nat) (p0 : zh) (r : Bool) (h : zlg k p0 = some r) : ev TE 6 (rgn TE 6 1) ⟨[(0, (.d (.agg (zl p0)))), (zsp 1), (2, (xi 0))], ⟨[(zc 1 (zl p0))], []⟩, []⟩ = some (.nor, zic p0 r) := by
 unfold zlg at h
 refine zo h (fun v201 h202 g1 => ?_)
 have y1 := fun (d : Ex × St) (P : List Prop) (V : Ovs) (C : Cuts) (q : All P) h => (zqe ([(6, 1, 2, .q (xi (p0.Far.1.length : Int))), (6, 1, 3, .c (db v201))] ++ V) C (ob (zC eI p0.Far.1) (ob (zmb k (p0.Far.1.length : Int) 1 12 _ h202) q)) h : ev TE 6 (rgn TE 6 1) ⟨[(0, (.d (.agg (zl p0)))), (zsp 1), (2, (xi 0))], ⟨[(zc 1 (zl p0))], []⟩, []⟩ = some d)
 refine zr g1 (fun h203 g2 => ?_) (fun h203 g2 => ?_)
 ·have y2 := fun (d : _) (P : List Prop) (V : Ovs) (C : Cuts) (q : All P) h => y1 d _ ([(6, 1, 4, .q (xb true)), (6, 1, 7, .q (xi (p0.Pick.1.length : Int))), (6, 1, 10, .q (xi (p0.Far.1.length : Int)))] ++ V) C (ob (o_b h203) (ob (zC zO p0.Pick.1) (ob (zC eI p0.Far.1) q))) h
  refine zr g2 (fun h204 g3 => ?_) (fun h204 g3 => ?_)
  ·refine zo g3 (fun v205 h206 g4 => ?_)
   have y3 := fun (d : _) (P : List Prop) (V : Ovs) (C : Cuts) (q : All P) h => y2 d _ ([(6, 1, 13, .q (xb true)), (6, 1, 16, .c (db v205))] ++ V) C (ob (o_b h204) (ob (zIm k p0.Step 1 10 _ h206) q)) h
   refine zr g4 (fun h207 g5 => ?_) (fun h207 g5 => ?_)
   ·refine zo g5 (fun v208 h209 g6 => ?_)
    refine zr g6 (fun h210 g7 => ?_) (fun h210 g7 => ?_)
    ·exact zE (g := fun r => (Ex.nor, zic p0 r)) g7 (y3 _ _ [(6, 1, 18, .q (xb true)), (6, 1, 21, .c (db v208)), (6, 1, 23, .q (xb true)), (6, 1, 26, .q (xi (p0.Slips.1.length : Int)))] [] (ob (o_b h207) (ob (zmb k p0.Carry 1 20 _ h209) (ob (o_b h210) (ob (zC zL p0.Slips.1) ob0)))) (by kernel_rfl))
    ·exact zE (g := fun r => (Ex.nor, zic p0 r)) g7 (y3 _ _ [(6, 1, 18, .q (xb true)), (6, 1, 21, .c (db v208)), (6, 1, 23, .q (xb false))] [] (ob (o_b h207) (ob (zmb k p0.Carry 1 20 _ h209) (ob (o_b h210) ob0))) (by kernel_rfl))
   ·exact zE (g := fun r => (Ex.nor, zic p0 r)) g5 (y3 _ _ [(6, 1, 18, .q (xb false))] [] (ob (o_b h207) ob0) (by kernel_rfl))
  ·exact zE (g := fun r => (Ex.nor, zic p0 r)) g3 (y2 _ _ [(6, 1, 13, .q (xb false))] [] (ob (o_b h204) ob0) (by kernel_rfl))
 ·exact zE (g := fun r => (Ex.nor, zic p0 r)) g2 (y1 _ _ [(6, 1, 4, .q (xb false))] [] (ob (o_b h203) ob0) (by kernel_rfl))
noncomputable def zk4 (p0 : zh) (r : Bool) (s2_8 s2_11 v402 : Int) : TM := zk3 p0 r ++ [(4, (xi s2_8)), (44, (.d (dl eI p0.Far.1 p0.Far.2))), (45, (xi (p0.Far.1.length : Int))), (46, (xi s2_11)), (47, (xb true)), (6, (xi v402))]
noncomputable def zFg (p0 : zh) (s2_7 : Bool) (s2_8 s2_11 v402 : Int) (r : Bool) : St := ⟨(zk4 p0 r s2_8 s2_11 v402), ⟨[(zc 1 (zl p0))], []⟩, []⟩
noncomputable def zk5 (p0 : zh) (s2_7 : Bool) (s2_8 s2_11 v402 : Int) : TM := [(0, (.d (.agg (zl p0)))), (zsp 1), (2, (xi 0)), (3, (xb s2_7)), (4, (xi s2_8)), (44, (.d (dl eI p0.Far.1 p0.Far.2))), (45, (xi (p0.Far.1.length : Int))), (46, (xi s2_11)), (47, (xb true)), (6, (xi v402))]
theorem z0p (k : Nat) (p0 : zh) (s2_7 : Bool) (s2_8 s2_11 v402 : Int) (r : Bool) (h : zHh k p0 s2_7 s2_8 s2_11 v402 = some r) : ev TE 6 (rgn TE 6 6) ⟨(zk5 p0 s2_7 s2_8 s2_11 v402), ⟨[(zc 1 (zl p0))], []⟩, []⟩ = some (.nor, zFg p0 s2_7 s2_8 s2_11 v402 r) := by
 unfold zHh at h
 refine zr h (fun h501 g1 => ?_) (fun h501 g1 => ?_)
 ·refine zo g1 (fun v502 h503 g2 => ?_)
  exact zE (g := fun r => (Ex.nor, zFg p0 s2_7 s2_8 s2_11 v402 r)) g2 (zqe [(6, 6, 1, .q (xb true)), (6, 6, 4, .c (db v502))] [] (ob (o_b h501) (ob (zmb k v402 s2_8 500 _ h503) ob0)) (by kernel_rfl))
 ·exact zE (g := fun r => (Ex.nor, zFg p0 s2_7 s2_8 s2_11 v402 r)) g1 (zqe [(6, 6, 1, .q (xb false))] [] (ob (o_b h501) ob0) (by kernel_rfl))
noncomputable def zk6 (p0 : zh) (s2_7 : Bool) (s2_8 s2_11 : Int) : TM := [(0, (.d (.agg (zl p0)))), (zsp 1), (2, (xi 0)), (3, (xb s2_7)), (4, (xi s2_8)), (44, (.d (dl eI p0.Far.1 p0.Far.2))), (45, (xi (p0.Far.1.length : Int))), (46, (xi s2_11))]
noncomputable def zBr (p0 : zh) (s2_7 : Bool) (s2_8 s2_11 : Int) : St := ⟨(zk6 p0 s2_7 s2_8 s2_11), ⟨[(zc 1 (zl p0))], []⟩, []⟩
noncomputable def zk7 (p0 : zh) (r : zt8) : TM := [(0, (.d (.agg (zl p0)))), (zsp 1), (2, (xi 0)), (3, (xb r.1)), (4, (xi r.2.1)), (44, (.d (dl eI p0.Far.1 p0.Far.2))), (45, (xi (p0.Far.1.length : Int))), (46, (xi r.2.2)), (47, (xb false))]
noncomputable def zbg (p0 : zh) (r : zt8) : St := ⟨(zk7 p0 r), ⟨[(zc 1 (zl p0))], []⟩, []⟩
noncomputable def zpr (p0 : zh) : (Bool × Int × Int) → Ex × St := fun r => ((.exit 0), zbg p0 r)
theorem ziq (k : Nat) (p0 : zh) (s2_7 : Bool) (s2_8 s2_11 : Int) (x : (Bool × Int × Int) ⊕ (Bool × Int × Int)) (h : zLe k p0 s2_7 s2_8 s2_11 = some x) : zT TE 6 (blk TE 6 0) (fun s : (Bool × Int × Int) => zBr p0 s.1 s.2.1 s.2.2) (zpr p0) (s2_7, s2_8, s2_11) x := by
 unfold zLe at h
 refine zr h (fun h401 g1 => ?_) (fun h401 g1 => ?_)
 ·refine zo g1 (fun v402 h403 g2 => ?_)
  refine zo g2 (fun v404 h405 g3 => ?_)
  exact zqn (v404, v402, (w64 (s2_11 + 1))) [] [(6, 4, 0, .q (xb true)), (6, 5, 0, .q (.d (.pin [(di v402)])))] [(6, 1000006, (.nor, zFg p0 s2_7 s2_8 s2_11 v402 v404))] g3 (ob (o_b h401) (ob (o_ia (e := eI) 1 h403 rfl) (ob (z0p k p0 s2_7 s2_8 s2_11 v402 _ h405) ob0))) (by kernel_rfl)
 ·exact zqo [(6, 4, 0, .q (xb false))] [] g1 (ob (o_b h401) ob0) (by kernel_rfl)
noncomputable def zk8 (p0 : zh) (r : Bool) (v3 : zt8) (s5_15 : Int) : TM := zk3 p0 r ++ [(4, (xi v3.2.1)), (44, (.d (dl eI p0.Far.1 p0.Far.2))), (45, (xi (p0.Far.1.length : Int))), (46, (xi v3.2.2)), (47, (xb false)), (59, (.d (dl zO p0.Pick.1 p0.Pick.2))), (60, (xi (p0.Pick.1.length : Int))), (61, (xi s5_15)), (62, (xb true)), (zsp 8)]
noncomputable def zyg (p0 : zh) (v3 : zt8) (s5_7 : Bool) (s5_15 : Int) (v702 : zD) (r : Bool) : St := ⟨(zk8 p0 r v3 s5_15), ⟨[(zc 1 (zl p0)), (8, (.cells [(xi v702.Low), (xi v702.High)]))], []⟩, []⟩
noncomputable def zk9 (p0 : zh) (s5_7 : Bool) (v3 : zt8) (s5_15 : Int) : TM := [(0, (.d (.agg (zl p0)))), (zsp 1), (2, (xi 0)), (3, (xb s5_7)), (4, (xi v3.2.1)), (44, (.d (dl eI p0.Far.1 p0.Far.2))), (45, (xi (p0.Far.1.length : Int))), (46, (xi v3.2.2)), (47, (xb false)), (59, (.d (dl zO p0.Pick.1 p0.Pick.2))), (60, (xi (p0.Pick.1.length : Int))), (61, (xi s5_15)), (62, (xb true)), (zsp 8)]
theorem zyq (k : Nat) (p0 : zh) (v3 : zt8) (s5_7 : Bool) (s5_15 : Int) (v702 : zD) (r : Bool) (h : zLh k p0 v3 s5_7 s5_15 v702 = some r) : ev TE 6 (rgn TE 6 12) ⟨(zk9 p0 s5_7 v3 s5_15), ⟨[(zc 1 (zl p0)), (8, (.cells [(xi v702.Low), (xi v702.High)]))], []⟩, []⟩ = some (.nor, zyg p0 v3 s5_7 s5_15 v702 r) := by
 unfold zLh at h
 refine zr h (fun h801 g1 => ?_) (fun h801 g1 => ?_)
 ·refine zo g1 (fun v802 h803 g2 => ?_)
  exact zE (g := fun r => (Ex.nor, zyg p0 v3 s5_7 s5_15 v702 r)) g2 (zqe [(6, 12, 1, .q (xb true)), (6, 12, 3, .c (db v802))] [] (ob (o_b h801) (ob (zIm k v702 0 300 _ h803) ob0)) (by kernel_rfl))
 ·exact zE (g := fun r => (Ex.nor, zyg p0 v3 s5_7 s5_15 v702 r)) g1 (zqe [(6, 12, 1, .q (xb false))] [] (ob (o_b h801) ob0) (by kernel_rfl))
noncomputable def zIC (p0 : zh) (s5_7 : Bool) (v3 : zt8) (s5_15 : Int) : TM := [(0, (.d (.agg (zl p0)))), (zsp 1), (2, (xi 0)), (3, (xb s5_7)), (4, (xi v3.2.1)), (44, (.d (dl eI p0.Far.1 p0.Far.2))), (45, (xi (p0.Far.1.length : Int))), (46, (xi v3.2.2)), (47, (xb false)), (59, (.d (dl zO p0.Pick.1 p0.Pick.2))), (60, (xi (p0.Pick.1.length : Int))), (61, (xi s5_15))]
noncomputable def zPq (p0 : zh) (v3 : zt8) (s5_7 : Bool) (s5_15 : Int) : St := ⟨(zIC p0 s5_7 v3 s5_15), ⟨[(zc 1 (zl p0))], []⟩, []⟩
noncomputable def z6C (p0 : zh) (r : zt3) (v3 : zt8) : TM := [(0, (.d (.agg (zl p0)))), (zsp 1), (2, (xi 0)), (3, (xb r.1)), (4, (xi v3.2.1)), (44, (.d (dl eI p0.Far.1 p0.Far.2))), (45, (xi (p0.Far.1.length : Int))), (46, (xi v3.2.2)), (47, (xb false)), (59, (.d (dl zO p0.Pick.1 p0.Pick.2))), (60, (xi (p0.Pick.1.length : Int))), (61, (xi r.2)), (62, (xb false))]
noncomputable def zXf (p0 : zh) (v3 : zt8) (r : zt3) : St := ⟨(z6C p0 r v3), ⟨[(zc 1 (zl p0))], []⟩, []⟩
noncomputable def zfr (p0 : zh) (v3 : zt8) : (Bool × Int) → Ex × St := fun r => ((.exit 2), zXf p0 v3 r)
theorem z5p (k : Nat) (p0 : zh) (v3 : zt8) (s5_7 : Bool) (s5_15 : Int) (x : (Bool × Int) ⊕ (Bool × Int)) (h : zJe k p0 v3 s5_7 s5_15 = some x) : zT TE 6 (blk TE 6 2) (fun s : (Bool × Int) => zPq p0 v3 s.1 s.2) (zfr p0 v3) (s5_7, s5_15) x := by
 unfold zJe at h
 refine zr h (fun h701 g1 => ?_) (fun h701 g1 => ?_)
 ·refine zo g1 (fun v702 h703 g2 => ?_)
  refine zo g2 (fun v704 h705 g3 => ?_)
  exact zqn (v704, (w64 (s5_15 + 1))) [] [(6, 10, 0, .q (xb true)), (6, 11, 0, .q (.d (.pin [(di v702.Low), (di v702.High)])))] [(6, 1000012, (.nor, zyg p0 v3 s5_7 s5_15 v702 v704))] g3 (ob (o_b h701) (ob (o_ia (e := zO) 2 h703 rfl) (ob (zyq k p0 v3 s5_7 s5_15 v702 _ h705) ob0))) (by kernel_rfl)
 ·exact zqo [(6, 10, 0, .q (xb false))] [] g1 (ob (o_b h701) ob0) (by kernel_rfl)
noncomputable def zTz (p0 : zh) (r : Bool) (v3 : zt8) (v5 : zt3) (s8_19 : Int) : TM := zk3 p0 r ++ [(4, (xi v3.2.1)), (44, (.d (dl eI p0.Far.1 p0.Far.2))), (45, (xi (p0.Far.1.length : Int))), (46, (xi v3.2.2)), (47, (xb false)), (59, (.d (dl zO p0.Pick.1 p0.Pick.2))), (60, (xi (p0.Pick.1.length : Int))), (61, (xi v5.2)), (62, (xb false)), (72, (.d (dl zL p0.Slips.1 p0.Slips.2))), (73, (xi (p0.Slips.1.length : Int))), (74, (xi s8_19)), (75, (xb true)), (zsp 10)]
noncomputable def zie (p0 : zh) (v3 : zt8) (v5 : zt3) (s8_7 : Bool) (s8_19 : Int) (v1302 : zJ) (r : Bool) : St := ⟨(zTz p0 r v3 v5 s8_19), ⟨[(zc 1 (zl p0)), (10, (.cells [(.d (dl zk v1302.Lines.1 v1302.Lines.2)), (xi v1302.Until)]))], []⟩, []⟩
noncomputable def zRC (p0 : zh) (s8_7 : Bool) (v3 : zt8) (v5 : zt3) (s8_19 : Int) : TM := [(0, (.d (.agg (zl p0)))), (zsp 1), (2, (xi 0)), (3, (xb s8_7)), (4, (xi v3.2.1)), (44, (.d (dl eI p0.Far.1 p0.Far.2))), (45, (xi (p0.Far.1.length : Int))), (46, (xi v3.2.2)), (47, (xb false)), (59, (.d (dl zO p0.Pick.1 p0.Pick.2))), (60, (xi (p0.Pick.1.length : Int))), (61, (xi v5.2)), (62, (xb false)), (72, (.d (dl zL p0.Slips.1 p0.Slips.2))), (73, (xi (p0.Slips.1.length : Int))), (74, (xi s8_19)), (75, (xb true)), (zsp 10)]
theorem zip (k : Nat) (p0 : zh) (v3 : zt8) (v5 : zt3) (s8_7 : Bool) (s8_19 : Int) (v1302 : zJ) (r : Bool) (h : zlh k p0 v3 v5 s8_7 s8_19 v1302 = some r) : ev TE 6 (rgn TE 6 17) ⟨(zRC p0 s8_7 v3 v5 s8_19), ⟨[(zc 1 (zl p0)), (10, (.cells [(.d (dl zk v1302.Lines.1 v1302.Lines.2)), (xi v1302.Until)]))], []⟩, []⟩ = some (.nor, zie p0 v3 v5 s8_7 s8_19 v1302 r) := by
 unfold zlh at h
 refine zr h (fun h1401 g1 => ?_) (fun h1401 g1 => ?_)
 ·refine zo g1 (fun v1402 h1403 g2 => ?_)
  refine zr g2 (fun h1404 g3 => ?_) (fun h1404 g3 => ?_)
  ·exact zE (g := fun r => (Ex.nor, zie p0 v3 v5 s8_7 s8_19 v1302 r)) g3 (zqe [(6, 17, 1, .q (xb true)), (6, 17, 4, .c (db v1402)), (6, 17, 6, .q (xb true)), (6, 17, 9, .q (xi (v1302.Lines.1.length : Int)))] [] (ob (o_b h1401) (ob (zmb k v1302.Until 0 100000 _ h1403) (ob (o_b h1404) (ob (zC zk v1302.Lines.1) ob0)))) (by kernel_rfl))
  ·exact zE (g := fun r => (Ex.nor, zie p0 v3 v5 s8_7 s8_19 v1302 r)) g3 (zqe [(6, 17, 1, .q (xb true)), (6, 17, 4, .c (db v1402)), (6, 17, 6, .q (xb false))] [] (ob (o_b h1401) (ob (zmb k v1302.Until 0 100000 _ h1403) (ob (o_b h1404) ob0))) (by kernel_rfl))
 ·exact zE (g := fun r => (Ex.nor, zie p0 v3 v5 s8_7 s8_19 v1302 r)) g1 (zqe [(6, 17, 1, .q (xb false))] [] (ob (o_b h1401) ob0) (by kernel_rfl))
noncomputable def zGC (p0 : zh) (r : Bool) (v3 : zt8) (v5 : zt3) (s8_19 s14_21 : Int) (v1302 : zJ) (s14_24 : Int) : TM := zTz p0 r v3 v5 s8_19 ++ [(11, (xi s14_21)), (91, (.d (dl zk v1302.Lines.1 v1302.Lines.2))), (92, (xi (v1302.Lines.1.length : Int))), (93, (xi s14_24)), (94, (xb true)), (zsp 13)]
noncomputable def zae (p0 : zh) (v3 : zt8) (v5 : zt3) (s8_19 : Int) (v1302 : zJ) (s14_7 : Bool) (s14_21 s14_24 : Int) (v1602 : zj) (r : Bool) : St := ⟨(zGC p0 r v3 v5 s8_19 s14_21 v1302 s14_24), ⟨[(zc 1 (zl p0)), (10, (.cells [(.d (dl zk v1302.Lines.1 v1302.Lines.2)), (xi v1302.Until)])), (13, (.cells [(xi v1602.Shelf), (xi v1602.Many)]))], []⟩, []⟩
noncomputable def zwC (p0 : zh) (s14_7 : Bool) (v3 : zt8) (v5 : zt3) (s8_19 s14_21 : Int) (v1302 : zJ) (s14_24 : Int) : TM := [(0, (.d (.agg (zl p0)))), (zsp 1), (2, (xi 0)), (3, (xb s14_7)), (4, (xi v3.2.1)), (44, (.d (dl eI p0.Far.1 p0.Far.2))), (45, (xi (p0.Far.1.length : Int))), (46, (xi v3.2.2)), (47, (xb false)), (59, (.d (dl zO p0.Pick.1 p0.Pick.2))), (60, (xi (p0.Pick.1.length : Int))), (61, (xi v5.2)), (62, (xb false)), (72, (.d (dl zL p0.Slips.1 p0.Slips.2))), (73, (xi (p0.Slips.1.length : Int))), (74, (xi s8_19)), (75, (xb true)), (zsp 10), (11, (xi s14_21)), (91, (.d (dl zk v1302.Lines.1 v1302.Lines.2))), (92, (xi (v1302.Lines.1.length : Int))), (93, (xi s14_24)), (94, (xb true)), (zsp 13)]
theorem zmp (k : Nat) (p0 : zh) (v3 : zt8) (v5 : zt3) (s8_19 : Int) (v1302 : zJ) (s14_7 : Bool) (s14_21 s14_24 : Int) (v1602 : zj) (r : Bool) (h : zkh k p0 v3 v5 s8_19 v1302 s14_7 s14_21 s14_24 v1602 = some r) : ev TE 6 (rgn TE 6 22) ⟨(zwC p0 s14_7 v3 v5 s8_19 s14_21 v1302 s14_24), ⟨[(zc 1 (zl p0)), (10, (.cells [(.d (dl zk v1302.Lines.1 v1302.Lines.2)), (xi v1302.Until)])), (13, (.cells [(xi v1602.Shelf), (xi v1602.Many)]))], []⟩, []⟩ = some (.nor, zae p0 v3 v5 s8_19 v1302 s14_7 s14_21 s14_24 v1602 r) := by
 unfold zkh at h
 refine zr h (fun h1701 g1 => ?_) (fun h1701 g1 => ?_)
 ·refine zo g1 (fun v1702 h1703 g2 => ?_)
  refine zr g2 (fun h1704 g3 => ?_) (fun h1704 g3 => ?_)
  ·refine zo g3 (fun v1705 h1706 g4 => ?_)
   exact zE (g := fun r => (Ex.nor, zae p0 v3 v5 s8_19 v1302 s14_7 s14_21 s14_24 v1602 r)) g4 (zqe [(6, 22, 1, .q (xb true)), (6, 22, 8, .q (xi (p0.Far.1.length : Int))), (6, 22, 10, .c (db v1702)), (6, 22, 12, .q (xb true)), (6, 22, 15, .c (db v1705))] [] (ob (o_b h1701) (ob (zC eI p0.Far.1) (ob (zmb k v1602.Shelf (w64 (s14_21 + 1)) (w64 ((p0.Far.1.length : Int) - 1)) _ h1703) (ob (o_b h1704) (ob (zmb k v1602.Many 1 20 _ h1706) ob0))))) (by kernel_rfl))
  ·exact zE (g := fun r => (Ex.nor, zae p0 v3 v5 s8_19 v1302 s14_7 s14_21 s14_24 v1602 r)) g3 (zqe [(6, 22, 1, .q (xb true)), (6, 22, 8, .q (xi (p0.Far.1.length : Int))), (6, 22, 10, .c (db v1702)), (6, 22, 12, .q (xb false))] [] (ob (o_b h1701) (ob (zC eI p0.Far.1) (ob (zmb k v1602.Shelf (w64 (s14_21 + 1)) (w64 ((p0.Far.1.length : Int) - 1)) _ h1703) (ob (o_b h1704) ob0)))) (by kernel_rfl))
 ·exact zE (g := fun r => (Ex.nor, zae p0 v3 v5 s8_19 v1302 s14_7 s14_21 s14_24 v1602 r)) g1 (zqe [(6, 22, 1, .q (xb false))] [] (ob (o_b h1701) ob0) (by kernel_rfl))
noncomputable def z0C (p0 : zh) (s14_7 : Bool) (v3 : zt8) (v5 : zt3) (s8_19 s14_21 : Int) (v1302 : zJ) (s14_24 : Int) : TM := [(0, (.d (.agg (zl p0)))), (zsp 1), (2, (xi 0)), (3, (xb s14_7)), (4, (xi v3.2.1)), (44, (.d (dl eI p0.Far.1 p0.Far.2))), (45, (xi (p0.Far.1.length : Int))), (46, (xi v3.2.2)), (47, (xb false)), (59, (.d (dl zO p0.Pick.1 p0.Pick.2))), (60, (xi (p0.Pick.1.length : Int))), (61, (xi v5.2)), (62, (xb false)), (72, (.d (dl zL p0.Slips.1 p0.Slips.2))), (73, (xi (p0.Slips.1.length : Int))), (74, (xi s8_19)), (75, (xb true)), (zsp 10), (11, (xi s14_21)), (91, (.d (dl zk v1302.Lines.1 v1302.Lines.2))), (92, (xi (v1302.Lines.1.length : Int))), (93, (xi s14_24))]
noncomputable def zIq (p0 : zh) (v3 : zt8) (v5 : zt3) (s8_19 : Int) (v1302 : zJ) (s14_7 : Bool) (s14_21 s14_24 : Int) : St := ⟨(z0C p0 s14_7 v3 v5 s8_19 s14_21 v1302 s14_24), ⟨[(zc 1 (zl p0)), (10, (.cells [(.d (dl zk v1302.Lines.1 v1302.Lines.2)), (xi v1302.Until)]))], []⟩, []⟩
noncomputable def zBC (p0 : zh) (r v3 : zt8) (v5 : zt3) (s8_19 : Int) (v1302 : zJ) : TM := [(0, (.d (.agg (zl p0)))), (zsp 1), (2, (xi 0)), (3, (xb r.1)), (4, (xi v3.2.1)), (44, (.d (dl eI p0.Far.1 p0.Far.2))), (45, (xi (p0.Far.1.length : Int))), (46, (xi v3.2.2)), (47, (xb false)), (59, (.d (dl zO p0.Pick.1 p0.Pick.2))), (60, (xi (p0.Pick.1.length : Int))), (61, (xi v5.2)), (62, (xb false)), (72, (.d (dl zL p0.Slips.1 p0.Slips.2))), (73, (xi (p0.Slips.1.length : Int))), (74, (xi s8_19)), (75, (xb true)), (zsp 10), (11, (xi r.2.1)), (91, (.d (dl zk v1302.Lines.1 v1302.Lines.2))), (92, (xi (v1302.Lines.1.length : Int))), (93, (xi r.2.2)), (94, (xb false))]
noncomputable def zwh (p0 : zh) (v3 : zt8) (v5 : zt3) (s8_19 : Int) (v1302 : zJ) (r : zt8) : St := ⟨(zBC p0 r v3 v5 s8_19 v1302), ⟨[(zc 1 (zl p0)), (10, (.cells [(.d (dl zk v1302.Lines.1 v1302.Lines.2)), (xi v1302.Until)]))], []⟩, []⟩
noncomputable def zgq (p0 : zh) (v3 : zt8) (v5 : zt3) (s8_19 : Int) (v1302 : zJ) : (Bool × Int × Int) → Ex × St := fun r => ((.exit 6), zwh p0 v3 v5 s8_19 v1302 r)
theorem zap (k : Nat) (p0 : zh) (v3 : zt8) (v5 : zt3) (s8_19 : Int) (v1302 : zJ) (s14_7 : Bool) (s14_21 s14_24 : Int) (x : (Bool × Int × Int) ⊕ (Bool × Int × Int)) (h : z8d k p0 v3 v5 s8_19 v1302 s14_7 s14_21 s14_24 = some x) : zT TE 6 (blk TE 6 6) (fun s : (Bool × Int × Int) => zIq p0 v3 v5 s8_19 v1302 s.1 s.2.1 s.2.2) (zgq p0 v3 v5 s8_19 v1302) (s14_7, s14_21, s14_24) x := by
 unfold z8d at h
 refine zr h (fun h1601 g1 => ?_) (fun h1601 g1 => ?_)
 ·refine zo g1 (fun v1602 h1603 g2 => ?_)
  refine zo g2 (fun v1604 h1605 g3 => ?_)
  exact zqn (v1604, v1602.Shelf, (w64 (s14_24 + 1))) [] [(6, 20, 0, .q (xb true)), (6, 21, 0, .q (.d (.pin [(di v1602.Shelf), (di v1602.Many)])))] [(6, 1000022, (.nor, zae p0 v3 v5 s8_19 v1302 s14_7 s14_21 s14_24 v1602 v1604))] g3 (ob (o_b h1601) (ob (o_ia (e := zk) 2 h1603 rfl) (ob (zmp k p0 v3 v5 s8_19 v1302 s14_7 s14_21 s14_24 v1602 _ h1605) ob0))) (by kernel_rfl)
 ·exact zqo [(6, 20, 0, .q (xb false))] [] g1 (ob (o_b h1601) ob0) (by kernel_rfl)
noncomputable def zDC (p0 : zh) (s8_7 : Bool) (v3 : zt8) (v5 : zt3) (s8_19 : Int) : TM := [(0, (.d (.agg (zl p0)))), (zsp 1), (2, (xi 0)), (3, (xb s8_7)), (4, (xi v3.2.1)), (44, (.d (dl eI p0.Far.1 p0.Far.2))), (45, (xi (p0.Far.1.length : Int))), (46, (xi v3.2.2)), (47, (xb false)), (59, (.d (dl zO p0.Pick.1 p0.Pick.2))), (60, (xi (p0.Pick.1.length : Int))), (61, (xi v5.2)), (62, (xb false)), (72, (.d (dl zL p0.Slips.1 p0.Slips.2))), (73, (xi (p0.Slips.1.length : Int))), (74, (xi s8_19))]
noncomputable def zsr (p0 : zh) (v3 : zt8) (v5 : zt3) (s8_7 : Bool) (s8_19 : Int) : St := ⟨(zDC p0 s8_7 v3 v5 s8_19), ⟨[(zc 1 (zl p0))], []⟩, []⟩
noncomputable def zAC (p0 : zh) (r : zt3) (v3 : zt8) (v5 : zt3) : TM := [(0, (.d (.agg (zl p0)))), (zsp 1), (2, (xi 0)), (3, (xb r.1)), (4, (xi v3.2.1)), (44, (.d (dl eI p0.Far.1 p0.Far.2))), (45, (xi (p0.Far.1.length : Int))), (46, (xi v3.2.2)), (47, (xb false)), (59, (.d (dl zO p0.Pick.1 p0.Pick.2))), (60, (xi (p0.Pick.1.length : Int))), (61, (xi v5.2)), (62, (xb false)), (72, (.d (dl zL p0.Slips.1 p0.Slips.2))), (73, (xi (p0.Slips.1.length : Int))), (74, (xi r.2)), (75, (xb false))]
noncomputable def zeg (p0 : zh) (v3 : zt8) (v5 r : zt3) : St := ⟨(zAC p0 r v3 v5), ⟨[(zc 1 (zl p0))], []⟩, []⟩
noncomputable def zNq (p0 : zh) (v3 : zt8) (v5 : zt3) : (Bool × Int) → Ex × St := fun r => ((.exit 4), zeg p0 v3 v5 r)
theorem z9p (k : Nat) (p0 : zh) (v3 : zt8) (v5 : zt3) (s8_7 : Bool) (s8_19 : Int) (x : (Bool × Int) ⊕ (Bool × Int)) (h : zMe k p0 v3 v5 s8_7 s8_19 = some x) : zT TE 6 (blk TE 6 4) (fun s : (Bool × Int) => zsr p0 v3 v5 s.1 s.2) (zNq p0 v3 v5) (s8_7, s8_19) x := by
 unfold zMe at h
 refine zr h (fun h1301 g1 => ?_) (fun h1301 g1 => ?_)
 ·refine zo g1 (fun v1302 h1303 g2 => ?_)
  refine zo g2 (fun v1304 h1305 g3 => ?_)
  refine zo g3 (fun v1306 h1307 g4 => ?_)
  exact zqn (v1306.1, (w64 (s8_19 + 1))) [] [(6, 15, 0, .q (xb true)), (6, 16, 0, .q (.d (.pin [(dl zk v1302.Lines.1 v1302.Lines.2), (di v1302.Until)]))), (6, 19, 2, .q (xi (v1302.Lines.1.length : Int)))] [(6, 1000017, (.nor, zie p0 v3 v5 s8_7 s8_19 v1302 v1304)), (6, 6, (.nor, zwh p0 v3 v5 s8_19 v1302 v1306))] g4 (ob (o_b h1301) (ob (o_ia (e := zL) 2 h1303 rfl) (ob (zip k p0 v3 v5 s8_7 s8_19 v1302 _ h1305) (ob (zC zk v1302.Lines.1) (ob (zG (id := 6) (r' := (.nor, zwh p0 v3 v5 s8_19 v1302 v1306)) (zmk (zap k p0 v3 v5 s8_19 v1302) k _ _ h1307) rfl) ob0))))) (by kernel_rfl)
 ·exact zqo [(6, 15, 0, .q (xb false))] [] g1 (ob (o_b h1301) ob0) (by kernel_rfl)
theorem zXc (k : Nat) (p0 : zh) (r : Int) (h : zYf k p0 = some r) : zI TE (ev TE) 6 [(.agg (zl p0))] = some (zgl r) := by
 unfold zYf at h
 refine zo h (fun v1 h2 g1 => ?_)
 refine zo g1 (fun v3 h4 g2 => ?_)
 refine zo g2 (fun v5 h6 g3 => ?_)
 refine zo g3 (fun v7 h8 g4 => ?_)
 have y1 := fun (d : D) (P : List Prop) (V : Ovs) (C : Cuts) (q : All P) h => (zqc ([(6, 3, 2, .q (xi (p0.Far.1.length : Int))), (6, 9, 2, .q (xi (p0.Pick.1.length : Int))), (6, 14, 2, .q (xi (p0.Slips.1.length : Int)))] ++ V) C (ob (zeq k p0 _ h2) (ob (zC eI p0.Far.1) (ob (zG (id := 0) (r' := (.nor, zbg p0 v3)) (zmk (ziq k p0) k _ _ h4) rfl) (ob (zC zO p0.Pick.1) (ob (zG (id := 2) (r' := (.nor, zXf p0 v3 v5)) (zUb (z5p k p0 v3) k _ _ h6) rfl) (ob (zC zL p0.Slips.1) (ob (zG (id := 4) (r' := (.nor, zeg p0 v3 v5 v7)) (zUb (z9p k p0 v3 v5) k _ _ h8) rfl) q))))))) h : zI TE (ev TE) 6 [(.agg (zl p0))] = some d)
 refine zr g4 (fun h9 g5 => ?_) (fun h9 g5 => ?_)
 ·exact zP (g := zgl) g5 (y1 _ _ [(6, 26, 1, .q (xb true))] [(6, 1000001, (.nor, zic p0 v1)), (6, 0, (.nor, zbg p0 v3)), (6, 2, (.nor, zXf p0 v3 v5)), (6, 4, (.nor, zeg p0 v3 v5 v7))] (ob (o_b h9) ob0) (by kernel_rfl))
 ·exact zP (g := zgl) g5 (y1 _ _ [(6, 26, 1, .q (xb false))] [(6, 1000001, (.nor, zic p0 v1)), (6, 0, (.nor, zbg p0 v3)), (6, 2, (.nor, zXf p0 v3 v5)), (6, 4, (.nor, zeg p0 v3 v5 v7))] (ob (o_b h9) ob0) (by kernel_rfl))
theorem zoc (k : Nat) (p0 p1 p2 : Int) (r : Bool) (h : zVb k p0 p1 p2 = some r) : zI TE (ev TE) 7 [(di p0), (di p1), (di p2)] = some (zJf r) := by
 unfold zVb at h
 refine zr h (fun h1 g1 => ?_) (fun h1 g1 => ?_)
 ·exact zP (g := zJf) g1 (zqc [(7, 1, 3, .q (xb true))] [] (ob (o_b h1) ob0) (by kernel_rfl))
 ·exact zP (g := zJf) g1 (zqc [(7, 1, 3, .q (xb false))] [] (ob (o_b h1) ob0) (by kernel_rfl))
theorem z6f (k : Nat) (p0 : zZ) (p1 : Int) (r : Bool) (h : zUc k p0 p1 = some r) : zI TE (ev TE) 43 [(.agg (zl p0.SlipFloor)), (di p1)] = some (zYi r) := by
 unfold zUc at h
 refine zo h (fun v1 h2 g1 => ?_)
 exact zP (g := zYi) g1 (zqc [(43, 1, 4, .q (xi (p0.SlipFloor.Slips.1.length : Int))), (43, 1, 6, .c (db v1))] [] (ob (zC zL p0.SlipFloor.Slips.1) (ob (zmb k p1 0 (w64 ((p0.SlipFloor.Slips.1.length : Int) - 1)) _ h2) ob0)) (by kernel_rfl))
noncomputable def zcD (v7 : zt10) (s8_8 s8_9 : Int) : TM := [(0, (.yld 0)), (1, (.d (.pin [(dl eI v7.1.1 v7.1.2), (di v7.2.1), (di v7.2.2.1), (dl zO v7.2.2.2.1.1 v7.2.2.2.1.2), (di v7.2.2.2.2.1), (dl zL v7.2.2.2.2.2.1.1 v7.2.2.2.2.2.1.2)]))), (2, (.d (.pin [(di v7.2.2.2.2.2.2)]))), (4, (.ptr 1 4 0)), (14, (xb true)), (5, (.ptr 1 5 0)), (6, (xi s8_8)), (7, (xi s8_9))]
noncomputable def z6n (p0 : zh) (p1 : Int) (v7 : zt10) : TM := [(0, (.d (.agg (zl p0)))), (1, (xi p1)), (zsp 2), (zsp 3), (4, (.d (.sl [] .nil))), (5, (xi 0)), (zsp 6), (7, (xi 0)), (20, (xb false)), (zsp 8), (24, (.d (.fn 100 [] [(.pin [(dl eI v7.1.1 v7.1.2), (di v7.2.1), (di v7.2.2.1), (dl zO v7.2.2.2.1.1 v7.2.2.2.1.2), (di v7.2.2.2.2.1), (dl zL v7.2.2.2.2.2.1.1 v7.2.2.2.2.2.1.2)]), (.pin [(di v7.2.2.2.2.2.2)])])))]
noncomputable def zQr (p0 : zh) (p1 : Int) (v7 : zt10) (s1_21 : zt13) (s8_8 s8_9 : Int) (s8_10 s8_11 : zt5) : St := ⟨(zcD v7 s8_8 s8_9), ⟨[(zc 4 (aI 12 s8_10)), (zc 5 (aI 12 s8_11))], [[(zc 2 (zl p0)), (3, (.cells [(xi p1)])), (zc 6 (zl p0)), (2128, (rowO true 1 (eL zk) s1_21 true)), (8, (.cells [(.row 0 2128 s1_21.length)]))]]⟩, [⟨(z6n p0 p1 v7), 0, rfP (blk TE 9 0), rfA (blk TE 9 0), rfB (blk TE 9 0), 9, .rdy⟩]⟩
noncomputable def zHC (v7 : zt10) (r : zt19) : TM := [(0, (.yld 0)), (1, (.d (.pin [(dl eI v7.1.1 v7.1.2), (di v7.2.1), (di v7.2.2.1), (dl zO v7.2.2.2.1.1 v7.2.2.2.1.2), (di v7.2.2.2.2.1), (dl zL v7.2.2.2.2.2.1.1 v7.2.2.2.2.2.1.2)]))), (2, (.d (.pin [(di v7.2.2.2.2.2.2)]))), (4, (.ptr 1 4 0)), (14, (xb true)), (5, (.ptr 1 5 0)), (6, (xi r.1)), (7, (xi r.2.1)), (24, (xb false))]
noncomputable def z5h (p0 : zh) (p1 : Int) (v7 : zt10) (s1_21 : zt13) (r : zt19) : St := ⟨(zHC v7 r), ⟨[(zc 4 (aI 12 r.2.2.1)), (zc 5 (aI 12 r.2.2.2))], [[(zc 2 (zl p0)), (3, (.cells [(xi p1)])), (zc 6 (zl p0)), (2128, (rowO true 1 (eL zk) s1_21 true)), (8, (.cells [(.row 0 2128 s1_21.length)]))]]⟩, [⟨(z6n p0 p1 v7), 0, rfP (blk TE 9 0), rfA (blk TE 9 0), rfB (blk TE 9 0), 9, .rdy⟩]⟩
noncomputable def zDr (p0 : zh) (p1 : Int) (v7 : zt10) (s1_21 : zt13) : (Int × Int × (Nat → Int) × (Nat → Int)) → Ex × St := fun r => ((.exit 2), z5h p0 p1 v7 s1_21 r)
theorem zjq (k : Nat) (p0 : zh) (p1 : Int) (v7 : zt10) (s1_21 : zt13) (s8_8 s8_9 : Int) (s8_10 s8_11 : zt5) (x : (Int × Int × (Nat → Int) × (Nat → Int)) ⊕ (Int × Int × (Nat → Int) × (Nat → Int))) (h : zOh k p0 p1 v7 s1_21 s8_8 s8_9 s8_10 s8_11 = some x) : zT TE 100 (blk TE 100 2) (fun s : (Int × Int × (Nat → Int) × (Nat → Int)) => zQr p0 p1 v7 s1_21 s.1 s.2.1 s.2.2.1 s.2.2.2) (zDr p0 p1 v7 s1_21) (s8_8, s8_9, s8_10, s8_11) x := by
 unfold zOh at h
 refine zr h (fun h901 g1 => ?_) (fun h901 g1 => ?_)
 ·refine z6 g1 (fun h902 g2 => ?_)
  exact zqn ((w64 (s8_8 - (if (s8_10 s8_9.toNat) < s8_8 then (s8_10 s8_9.toNat) else s8_8))), (w64 (s8_9 - 1)), (upd s8_10 s8_9.toNat (w64 ((s8_10 s8_9.toNat) - (if (s8_10 s8_9.toNat) < s8_8 then (s8_10 s8_9.toNat) else s8_8)))), (upd s8_11 s8_9.toNat (if (s8_10 s8_9.toNat) < s8_8 then (s8_10 s8_9.toNat) else s8_8))) [] [(100, 5, 1, .q (xb true)), (100, 7, 2, .q (.ptr 1 4 (s8_9.toNat))), (100, 7, 3, .q (xi (s8_10 s8_9.toNat))), (100, 8, 4, .q (.ptr 1 4 (s8_9.toNat))), (100, 8, 5, .q (xi (s8_10 s8_9.toNat))), (100, 8, 11, .q (.ptr 1 5 (s8_9.toNat))), (100, 8, 12, .st ((aI 12 (upd s8_11 s8_9.toNat (if (s8_10 s8_9.toNat) < s8_8 then (s8_10 s8_9.toNat) else s8_8))).map .d)), (100, 8, 13, .q (.ptr 1 4 (s8_9.toNat))), (100, 8, 14, .st ((aI 12 (upd s8_10 s8_9.toNat (w64 ((s8_10 s8_9.toNat) - (if (s8_10 s8_9.toNat) < s8_8 then (s8_10 s8_9.toNat) else s8_8))))).map .d))] [] g2 (ob (o_b h901) (ob (zAb (m := 12) 1 4 0 1 s8_9.toNat h902 (by omega)) (ob (zQl 12 s8_10 s8_9.toNat (by have := h902; simp only [Bool.and_eq_true, decide_eq_true_eq] at this; omega)) (ob (zAb (m := 12) 1 4 0 1 s8_9.toNat h902 (by omega)) (ob (zQl 12 s8_10 s8_9.toNat (by have := h902; simp only [Bool.and_eq_true, decide_eq_true_eq] at this; omega)) (ob (zAb (m := 12) 1 5 0 1 s8_9.toNat h902 (by omega)) (ob (zit 12 s8_11 s8_9.toNat (if (s8_10 s8_9.toNat) < s8_8 then (s8_10 s8_9.toNat) else s8_8) (by have := h902; simp only [Bool.and_eq_true, decide_eq_true_eq] at this; omega)) (ob (zAb (m := 12) 1 4 0 1 s8_9.toNat h902 (by omega)) (ob (zit 12 s8_10 s8_9.toNat (w64 ((s8_10 s8_9.toNat) - (if (s8_10 s8_9.toNat) < s8_8 then (s8_10 s8_9.toNat) else s8_8))) (by have := h902; simp only [Bool.and_eq_true, decide_eq_true_eq] at this; omega)) ob0))))))))) (by kernel_rfl)
 ·exact zqo [(100, 5, 1, .q (xb false))] [] g1 (ob (o_b h901) ob0) (by kernel_rfl)
noncomputable def zmC (p0 : zh) (p1 : Int) (v7 : zt10) (v804 : zt19) (s9_22 : (List zj)) (s9_20 : Int) : TM := z6n p0 p1 v7 ++ [(25, (.d (.agg (aI 12 v804.2.2.2)))), (9, (.ptr 2 9 0)), (10, (.row 2 10 s9_22.length)), (26, (.d (.agg (aI 12 v804.2.2.2)))), (27, (xi s9_20))]
noncomputable def z5q (p0 : zh) (p1 : Int) (v7 : zt10) (s1_21 : zt13) (v804 : zt19) (s9_20 : Int) (s9_22 : (List zj)) : St := ⟨(zmC p0 p1 v7 v804 s9_22 s9_20), ⟨[(zc 9 (aI 12 v804.2.2.2)), (10, (rowO true 2 zk s9_22 true))], [[(zc 2 (zl p0)), (3, (.cells [(xi p1)])), (zc 6 (zl p0)), (2128, (rowO true 1 (eL zk) s1_21 true)), (8, (.cells [(.row 0 2128 s1_21.length)]))], [(zc 4 (aI 12 v804.2.2.1)), (zc 5 (aI 12 v804.2.2.2))]]⟩, [⟨(z6n p0 p1 v7), 0, rfP (blk TE 9 0), rfA (blk TE 9 0), rfB (blk TE 9 0), 9, .busy⟩]⟩
noncomputable def zlD (p0 : zh) (p1 : Int) (v7 : zt10) (v804 : zt19) (r : (Int × (List zj))) : TM := z6n p0 p1 v7 ++ [(25, (.d (.agg (aI 12 v804.2.2.2)))), (9, (.ptr 2 9 0)), (10, (.row 2 10 r.2.length)), (26, (.d (.agg (aI 12 v804.2.2.2)))), (27, (xi r.1)), (28, (xb false))]
noncomputable def z3h (p0 : zh) (p1 : Int) (v7 : zt10) (s1_21 : zt13) (v804 : zt19) (r : (Int × (List zj))) : St := ⟨(zlD p0 p1 v7 v804 r), ⟨[(zc 9 (aI 12 v804.2.2.2)), (10, (rowO true 2 zk r.2 true))], [[(zc 2 (zl p0)), (3, (.cells [(xi p1)])), (zc 6 (zl p0)), (2128, (rowO true 1 (eL zk) s1_21 true)), (8, (.cells [(.row 0 2128 s1_21.length)]))], [(zc 4 (aI 12 v804.2.2.1)), (zc 5 (aI 12 v804.2.2.2))]]⟩, [⟨(z6n p0 p1 v7), 0, rfP (blk TE 9 0), rfA (blk TE 9 0), rfB (blk TE 9 0), 9, .busy⟩]⟩
noncomputable def zlr (p0 : zh) (p1 : Int) (v7 : zt10) (s1_21 : zt13) (v804 : zt19) : (Int × (List zj)) → Ex × St := fun r => ((.exit 2), z3h p0 p1 v7 s1_21 v804 r)
theorem zpq (k : Nat) (p0 : zh) (p1 : Int) (v7 : zt10) (s1_21 : zt13) (v804 : zt19) (s9_20 : Int) (s9_22 : (List zj)) (x : (Int × (List zj)) ⊕ (Int × (List zj))) (h : zKe k p0 p1 v7 s1_21 v804 s9_20 s9_22 = some x) : zT TE 9 (blk TE 9 2) (fun s : (Int × (List zj)) => z5q p0 p1 v7 s1_21 v804 s.1 s.2) (zlr p0 p1 v7 s1_21 v804) (s9_20, s9_22) x := by
 unfold zKe at h
 refine zr h (fun h1101 g1 => ?_) (fun h1101 g1 => ?_)
 ·refine z6 g1 (fun h1102 g2 => ?_)
  refine zr g2 (fun h1103 g3 => ?_) (fun h1103 g3 => ?_)
  ·refine z6 g3 (fun h1104 g4 => ?_)
   exact zqn ((w64 (s9_20 + 1)), (s9_22 ++ [(⟨s9_20, (v804.2.2.2 s9_20.toNat)⟩ : zj)])) [10] [(9, 9, 0, .q (xb true)), (9, 10, 1, .q (xi (v804.2.2.2 s9_20.toNat))), (9, 11, 1, .q (xb true)), (9, 12, 5, .ap (s9_22 ++ [(⟨s9_20, (v804.2.2.2 s9_20.toNat)⟩ : zj)]).length (rowO true 2 zk (s9_22 ++ [(⟨s9_20, (v804.2.2.2 s9_20.toNat)⟩ : zj)]) true))] [] g4 (ob (o_b h1101) (ob (zKy 12 v804.2.2.2 s9_20 h1102) (ob (o_b h1103) (ob (o_ap (b := true) (z := 2) (e := zk) (l := s9_22) (w := true) (⟨s9_20, (v804.2.2.2 s9_20.toNat)⟩ : zj) (fun _ => rfl) h1104) (ob (zre true 2 zk (s9_22 ++ [(⟨s9_20, (v804.2.2.2 s9_20.toNat)⟩ : zj)]) true) ob0))))) (by kernel_rfl)
  ·exact zqn ((w64 (s9_20 + 1)), s9_22) [10] [(9, 9, 0, .q (xb true)), (9, 10, 1, .q (xi (v804.2.2.2 s9_20.toNat))), (9, 11, 1, .q (xb false))] [] g3 (ob (o_b h1101) (ob (zKy 12 v804.2.2.2 s9_20 h1102) (ob (o_b h1103) (ob (zre true 2 zk s9_22 true) ob0)))) (by kernel_rfl)
 ·exact zqo [(9, 9, 0, .q (xb false))] [] g1 (ob (o_b h1101) ob0) (by kernel_rfl)
noncomputable def zMz (v7 : zt10) : TM := [(0, (.yld 0)), (1, (.d (.pin [(dl eI v7.1.1 v7.1.2), (di v7.2.1), (di v7.2.2.1), (dl zO v7.2.2.2.1.1 v7.2.2.2.1.2), (di v7.2.2.2.2.1), (dl zL v7.2.2.2.2.2.1.1 v7.2.2.2.2.2.1.2)]))), (2, (.d (.pin [(di v7.2.2.2.2.2.2)]))), (4, (.ptr 1 4 0))]
noncomputable def zjr (p0 : zh) (p1 : Int) (v7 : zt10) (s1_7 : zt5) (s1_21 : zt13) : St := ⟨(zMz v7), ⟨[(zc 4 (aI 12 s1_7))], [[(zc 2 (zl p0)), (3, (.cells [(xi p1)])), (zc 6 (zl p0)), (2128, (rowO true 1 (eL zk) s1_21 true)), (8, (.cells [(.row 0 2128 s1_21.length)]))]]⟩, [⟨(z6n p0 p1 v7), 0, rfP (blk TE 9 0), rfA (blk TE 9 0), rfB (blk TE 9 0), 9, .rdy⟩]⟩
noncomputable def zWh (p0 : zh) (p1 : Int) (v7 : zt10) (r : ((Nat → Int) × (List (SL zj)))) : St := ⟨(zMz v7 ++ [(14, (xb false))]), ⟨[(zc 4 (aI 12 r.1))], [[(zc 2 (zl p0)), (3, (.cells [(xi p1)])), (zc 6 (zl p0)), (2128, (rowO true 1 (eL zk) r.2 true)), (8, (.cells [(.row 0 2128 r.2.length)]))]]⟩, [⟨(z6n p0 p1 v7), 0, rfP (blk TE 9 0), rfA (blk TE 9 0), rfB (blk TE 9 0), 9, .rdy⟩]⟩
noncomputable def z7q (p0 : zh) (p1 : Int) (v7 : zt10) : ((Nat → Int) × (List (SL zj))) → Ex × St := fun r => ((.exit 0), zWh p0 p1 v7 r)
theorem zYp (k : Nat) (p0 : zh) (p1 : Int) (v7 : zt10) (s1_7 : zt5) (s1_21 : zt13) (x : ((Nat → Int) × (List (SL zj))) ⊕ ((Nat → Int) × (List (SL zj)))) (h : zNh k p0 p1 v7 s1_7 s1_21 = some x) : zT TE 100 (blk TE 100 0) (fun s : ((Nat → Int) × (List (SL zj))) => zjr p0 p1 v7 s.1 s.2) (z7q p0 p1 v7) (s1_7, s1_21) x := by
 unfold zNh at h
 refine zo h (fun v801 h802 g1 => ?_)
 refine zr g1 (fun h803 g2 => ?_) (fun h803 g2 => ?_)
 ·refine zo g2 (fun v804 h805 g3 => ?_)
  refine zo g3 (fun v806 h807 g4 => ?_)
  refine z6 g4 (fun h808 g5 => ?_)
  exact zqn (v804.2.2.1, (s1_21 ++ [(v806.2, (xcap true v806.2))])) [] [(100, 1, 1, .c (.agg (aI 12 v801))), (100, 1, 2, .q (xb true)), (100, 4, 3, .q (xi (v7.1.1.length : Int))), (9, 14, 3, .q (xi (v806.2.length : Int))), (9, 14, 5, .q (xi (v806.2.length : Int))), (9, 14, 6, .sr (.d (dl zk v806.2 (xcap true v806.2))) (rowO true 2 zk v806.2 false)), (9, 14, 8, .ap (s1_21 ++ [(v806.2, (xcap true v806.2))]).length (rowO true 1 (eL zk) (s1_21 ++ [(v806.2, (xcap true v806.2))]) true))] [(100, 2, (.nor, z5h p0 p1 v7 s1_21 v804)), (9, 2, (.nor, z3h p0 p1 v7 s1_21 v804 v806))] g5 (ob (zKi k _ h802) (ob (o_b h803) (ob (zC eI v7.1.1) (ob (zG (id := 2) (r' := (.nor, z5h p0 p1 v7 s1_21 v804)) (z2v (zjq k p0 p1 v7 s1_21) k _ _ h805) rfl) (ob (zG (id := 2) (r' := (.nor, z3h p0 p1 v7 s1_21 v804 v806)) (zUb (zpq k p0 p1 v7 s1_21 v804) k _ _ h807) rfl) (ob (zco true 2 zk v806.2 true) (ob (zco true 2 zk v806.2 true) (ob (o_sr (P := TE.P) (T := 45) (U := 47) (by' := 16) (ρ := fun _ => xi (v806.2.length : Int)) (lv := 2) (s := 10) (lo := none) (hi := some (.tmp 0)) (mx := some (.tmp 0)) true 2 zk v806.2 true (by kernel_rfl) (by kernel_rfl) rfl rfl rfl) (ob (o_ap (b := true) (z := 1) (e := (eL zk)) (l := s1_21) (w := true) (v806.2, (xcap true v806.2)) (fun _ => rfl) h808) ob0))))))))) (by kernel_rfl)
 ·exact zqo [(100, 1, 1, .c (.agg (aI 12 v801))), (100, 1, 2, .q (xb false))] [] g2 (ob (zKi k _ h802) (ob (o_b h803) ob0)) (by kernel_rfl)
theorem zlk (k : Nat) (p0 : zh) (p1 : Int) (r : zt9) (h : zGi k p0 p1 = some r) : zI TE (ev TE) 9 [(.agg (zl p0)), (di p1)] = some (zNi r) := by
 unfold zGi at h
 refine zo h (fun v1 h2 g1 => ?_)
 refine zr g1 (fun h3 g2 => ?_) (fun h3 g2 => ?_)
 ·exact zP (g := zNi) g2 (zqc [(41, 1, 1, .c (di v1)), (41, 2, 1, .q (xb true)), (9, 2, 1, .q (xb true))] [] (ob (zXc k p0 _ h2) (ob (o_b h3) (ob (o_b h3) ob0))) (by kernel_rfl))
 ·refine zo g2 (fun v4 h5 g3 => ?_)
  refine zr g3 (fun h6 g4 => ?_) (fun h6 g4 => ?_)
  ·exact zP (g := zNi) g4 (zqc [(41, 1, 1, .c (di v1)), (41, 2, 1, .q (xb false)), (42, 1, 2, .c (db v4)), (41, 4, 4, .q (xb true))] [] (ob (zXc k p0 _ h2) (ob (o_b h3) (ob (z6f k (⟨p0⟩ : zZ) p1 _ h5) (ob (o_b h6) ob0)))) (by kernel_rfl))
  ·refine zo g4 (fun v7 h8 g5 => ?_)
   refine zo g5 (fun v9 h10 g6 => ?_)
   refine zo g6 (fun v11 h12 g7 => ?_)
   exact zP (g := zNi) g7 (zqc [(41, 1, 1, .c (di v1)), (41, 2, 1, .q (xb false)), (42, 1, 2, .c (db v4)), (41, 4, 4, .q (xb false)), (9, 5, 2, .c (.fn 100 [] [(.pin [(dl eI v7.1.1 v7.1.2), (di v7.2.1), (di v7.2.2.1), (dl zO v7.2.2.2.1.1 v7.2.2.2.1.2), (di v7.2.2.2.2.1), (dl zL v7.2.2.2.2.2.1.1 v7.2.2.2.2.2.1.2)]), (.pin [(di v7.2.2.2.2.2.2)])])), (100, 0, 2, .c (.agg (aI 12 v9))), (9, 15, 2, .q (xi (v11.2.length : Int))), (9, 15, 4, .q (xi (v11.2.length : Int))), (9, 15, 5, .sr (.d (dl (eL zk) v11.2 (xcap true v11.2))) (rowO true 1 (eL zk) v11.2 false))] [(100, 0, (.nor, zWh p0 p1 v7 v11))] (ob (zXc k p0 _ h2) (ob (o_b h3) (ob (z6f k (⟨p0⟩ : zZ) p1 _ h5) (ob (o_b h6) (ob (z0n k (⟨p0⟩ : zZ) p1 _ h8) (ob (zti k (⟨(⟨v7.1, (⟨v7.2.1, v7.2.2.1⟩ : zD), v7.2.2.2.1, v7.2.2.2.2.1, v7.2.2.2.2.2.1⟩ : zh)⟩ : zZ) v7.2.2.2.2.2.2 _ h10) (ob (zG (id := 0) (r' := (.nor, zWh p0 p1 v7 v11)) (zUb (zYp k p0 p1 v7) k _ _ h12) rfl) (ob (zco true 1 (eL zk) v11.2 true) (ob (zco true 1 (eL zk) v11.2 true) (ob (o_sr (P := TE.P) (T := 40) (U := 45) (by' := 24) (ρ := fun _ => xi (v11.2.length : Int)) (lv := 0) (s := 2128) (lo := none) (hi := some (.tmp 0)) (mx := some (.tmp 0)) true 1 (eL zk) v11.2 true (by kernel_rfl) (by kernel_rfl) rfl rfl rfl) ob0)))))))))) (by kernel_rfl))
noncomputable def zkD (p0 : zh) (p1 : Int) (p2 : (SL (SL zj))) (s1_14 : Int) (v502 : (SL zj)) (s5_17 s5_18 s5_21 : Int) (r : Bool) : TM := [(0, (.d (.agg (zl p0)))), (1, (xi p1)), (2, (.d (dl (eL zk) p2.1 p2.2))), (zsp 3), (zsp 4), (6, (xb false)), (7, (xi 0)), (zsp 8), (9, (xi 0)), (24, (xb false)), (zsp 10), (29, (.d (dl (eL zk) p2.1 p2.2))), (30, (xi (p2.1.length : Int))), (31, (xi s1_14)), (32, (xb true)), (12, (.d (dl zk v502.1 v502.2))), (13, (xi s5_17)), (14, (xi s5_18)), (35, (.d (dl zk v502.1 v502.2))), (36, (xi (v502.1.length : Int))), (37, (xi s5_21)), (38, (xb true)), (zsp 16), (61, (xb r))]
noncomputable def zTd (p0 : zh) (p1 : Int) (p2 : (SL (SL zj))) (s1_14 : Int) (v502 : (SL zj)) (s5_17 s5_18 s5_21 : Int) (s5_35 : zt5) (v702 : zj) (r : Bool) : St := ⟨(zkD p0 p1 p2 s1_14 v502 s5_17 s5_18 s5_21 r), ⟨[(zc 3 (zl p0)), (4, (.cells [(xi p1)])), (zc 8 (zl p0)), (zc 10 (aI 12 s5_35)), (16, (.cells [(xi v702.Shelf), (xi v702.Many)]))], []⟩, []⟩
noncomputable def z1C (p0 : zh) (p1 : Int) (p2 : (SL (SL zj))) (s1_14 : Int) (v502 : (SL zj)) (s5_17 s5_18 s5_21 : Int) : TM := [(0, (.d (.agg (zl p0)))), (1, (xi p1)), (2, (.d (dl (eL zk) p2.1 p2.2))), (zsp 3), (zsp 4), (6, (xb false)), (7, (xi 0)), (zsp 8), (9, (xi 0)), (24, (xb false)), (zsp 10), (29, (.d (dl (eL zk) p2.1 p2.2))), (30, (xi (p2.1.length : Int))), (31, (xi s1_14)), (32, (xb true)), (12, (.d (dl zk v502.1 v502.2))), (13, (xi s5_17)), (14, (xi s5_18)), (35, (.d (dl zk v502.1 v502.2))), (36, (xi (v502.1.length : Int))), (37, (xi s5_21)), (38, (xb true)), (zsp 16)]
theorem zWj (k : Nat) (p0 : zh) (p1 : Int) (p2 : (SL (SL zj))) (s1_14 : Int) (v502 : (SL zj)) (s5_17 s5_18 s5_21 : Int) (s5_35 : zt5) (v702 : zj) (r : Bool) (h : zzg k p0 p1 p2 s1_14 v502 s5_17 s5_18 s5_21 s5_35 v702 = some r) : ev TE 10 (rgn TE 10 12) ⟨(z1C p0 p1 p2 s1_14 v502 s5_17 s5_18 s5_21), ⟨[(zc 3 (zl p0)), (4, (.cells [(xi p1)])), (zc 8 (zl p0)), (zc 10 (aI 12 s5_35)), (16, (.cells [(xi v702.Shelf), (xi v702.Many)]))], []⟩, []⟩ = some (.nor, zTd p0 p1 p2 s1_14 v502 s5_17 s5_18 s5_21 s5_35 v702 r) := by
 unfold zzg at h
 refine zo h (fun v801 h802 g1 => ?_)
 refine zr g1 (fun h803 g2 => ?_) (fun h803 g2 => ?_)
 ·exact zE (g := fun r => (Ex.nor, zTd p0 p1 p2 s1_14 v502 s5_17 s5_18 s5_21 s5_35 v702 r)) g2 (zqe [(10, 12, 7, .q (xi (p0.Far.1.length : Int))), (10, 12, 9, .c (db v801)), (10, 12, 11, .q (xb true))] [] (ob (zC eI p0.Far.1) (ob (zmb k v702.Shelf (w64 (s5_17 + 1)) (w64 ((p0.Far.1.length : Int) - 1)) _ h802) (ob (o_b h803) ob0))) (by kernel_rfl))
 ·refine z6 g2 (fun h804 g3 => ?_)
  refine zo g3 (fun v805 h806 g4 => ?_)
  exact zE (g := fun r => (Ex.nor, zTd p0 p1 p2 s1_14 v502 s5_17 s5_18 s5_21 s5_35 v702 r)) g4 (zqe [(10, 12, 7, .q (xi (p0.Far.1.length : Int))), (10, 12, 9, .c (db v801)), (10, 12, 11, .q (xb false)), (10, 12, 16, .q (.ptr 0 10 (v702.Shelf.toNat))), (10, 12, 17, .q (xi (s5_35 v702.Shelf.toNat))), (10, 12, 18, .c (db v805))] [] (ob (zC eI p0.Far.1) (ob (zmb k v702.Shelf (w64 (s5_17 + 1)) (w64 ((p0.Far.1.length : Int) - 1)) _ h802) (ob (o_b h803) (ob (zAb (m := 12) 0 10 0 1 v702.Shelf.toNat h804 (by omega)) (ob (zQl 12 s5_35 v702.Shelf.toNat (by have := h804; simp only [Bool.and_eq_true, decide_eq_true_eq] at this; omega)) (ob (zmb k v702.Many 1 (s5_35 v702.Shelf.toNat) _ h806) ob0)))))) (by kernel_rfl))
noncomputable def zJC (p0 : zh) (p1 : Int) (p2 : (SL (SL zj))) (s1_14 : Int) (v502 : (SL zj)) (s5_17 s5_18 s5_21 : Int) : TM := [(0, (.d (.agg (zl p0)))), (1, (xi p1)), (2, (.d (dl (eL zk) p2.1 p2.2))), (zsp 3), (zsp 4), (6, (xb false)), (7, (xi 0)), (zsp 8), (9, (xi 0)), (24, (xb false)), (zsp 10), (29, (.d (dl (eL zk) p2.1 p2.2))), (30, (xi (p2.1.length : Int))), (31, (xi s1_14)), (32, (xb true)), (12, (.d (dl zk v502.1 v502.2))), (13, (xi s5_17)), (14, (xi s5_18)), (35, (.d (dl zk v502.1 v502.2))), (36, (xi (v502.1.length : Int))), (37, (xi s5_21))]
noncomputable def zcp (p0 : zh) (p1 : Int) (p2 : (SL (SL zj))) (s1_14 : Int) (v502 : (SL zj)) (s5_17 s5_18 s5_21 : Int) (s5_35 : zt5) : St := ⟨(zJC p0 p1 p2 s1_14 v502 s5_17 s5_18 s5_21), ⟨[(zc 3 (zl p0)), (4, (.cells [(xi p1)])), (zc 8 (zl p0)), (zc 10 (aI 12 s5_35))], []⟩, []⟩
noncomputable def zVC (p0 : zh) (p1 : Int) (p2 : (SL (SL zj))) (s1_14 : Int) (v502 : (SL zj)) (r : (Int × Int × Int × (Nat → Int) × Int × Int)) : TM := [(0, (.d (.agg (zl p0)))), (1, (xi p1)), (2, (.d (dl (eL zk) p2.1 p2.2))), (zsp 3), (zsp 4), (6, (xb false)), (7, (xi 0)), (zsp 8), (9, (xi 0)), (24, (xb false)), (zsp 10), (29, (.d (dl (eL zk) p2.1 p2.2))), (30, (xi (p2.1.length : Int))), (31, (xi s1_14)), (32, (xb true)), (12, (.d (dl zk v502.1 v502.2))), (13, (xi r.1)), (14, (xi r.2.1)), (35, (.d (dl zk v502.1 v502.2))), (36, (xi (v502.1.length : Int))), (37, (xi r.2.2.1)), (38, (xb true)), (zsp 16), (61, (xb true))]
noncomputable def zWg (p0 : zh) (p1 : Int) (p2 : (SL (SL zj))) (s1_14 : Int) (v502 : (SL zj)) (r : (Int × Int × Int × (Nat → Int) × Int × Int)) : St := ⟨(zVC p0 p1 p2 s1_14 v502 r), ⟨[(zc 3 (zl p0)), (4, (.cells [(xi p1)])), (zc 8 (zl p0)), (zc 10 (aI 12 r.2.2.2.1)), (16, (.cells [(xi r.2.2.2.2.1), (xi r.2.2.2.2.2)]))], []⟩, []⟩
noncomputable def zZC (p0 : zh) (p1 : Int) (p2 : (SL (SL zj))) (s1_14 : Int) (v502 : (SL zj)) (r : (Int × Int × Int × (Nat → Int))) : TM := [(0, (.d (.agg (zl p0)))), (1, (xi p1)), (2, (.d (dl (eL zk) p2.1 p2.2))), (zsp 3), (zsp 4), (6, (xb false)), (7, (xi 0)), (zsp 8), (9, (xi 0)), (24, (xb false)), (zsp 10), (29, (.d (dl (eL zk) p2.1 p2.2))), (30, (xi (p2.1.length : Int))), (31, (xi s1_14)), (32, (xb true)), (12, (.d (dl zk v502.1 v502.2))), (13, (xi r.1)), (14, (xi r.2.1)), (35, (.d (dl zk v502.1 v502.2))), (36, (xi (v502.1.length : Int))), (37, (xi r.2.2.1)), (38, (xb false))]
noncomputable def zAd (p0 : zh) (p1 : Int) (p2 : (SL (SL zj))) (s1_14 : Int) (v502 : (SL zj)) (r : (Int × Int × Int × (Nat → Int))) : St := ⟨(zZC p0 p1 p2 s1_14 v502 r), ⟨[(zc 3 (zl p0)), (4, (.cells [(xi p1)])), (zc 8 (zl p0)), (zc 10 (aI 12 r.2.2.2))], []⟩, []⟩
noncomputable def zbp (p0 : zh) (p1 : Int) (p2 : (SL (SL zj))) (s1_14 : Int) (v502 : (SL zj)) : ((Int × Int × Int × (Nat → Int) × Int × Int) ⊕ (Int × Int × Int × (Nat → Int))) → Ex × St := Sum.elim (fun r => (.ret, zWg p0 p1 p2 s1_14 v502 r)) (fun r => ((.exit 2), zAd p0 p1 p2 s1_14 v502 r))
theorem z0g (k : Nat) (p0 : zh) (p1 : Int) (p2 : (SL (SL zj))) (s1_14 : Int) (v502 : (SL zj)) (s5_17 s5_18 s5_21 : Int) (s5_35 : zt5) (x : (Int × Int × Int × (Nat → Int)) ⊕ ((Int × Int × Int × (Nat → Int) × Int × Int) ⊕ (Int × Int × Int × (Nat → Int)))) (h : zCd k p0 p1 p2 s1_14 v502 s5_17 s5_18 s5_21 s5_35 = some x) : zT TE 10 (blk TE 10 2) (fun s : (Int × Int × Int × (Nat → Int)) => zcp p0 p1 p2 s1_14 v502 s.1 s.2.1 s.2.2.1 s.2.2.2) (zbp p0 p1 p2 s1_14 v502) (s5_17, s5_18, s5_21, s5_35) x := by
 unfold zCd at h
 refine zr h (fun h701 g1 => ?_) (fun h701 g1 => ?_)
 ·refine zo g1 (fun v702 h703 g2 => ?_)
  refine zo g2 (fun v704 h705 g3 => ?_)
  refine zr g3 (fun h706 g4 => ?_) (fun h706 g4 => ?_)
  ·subst h706
   exact zqo [(10, 10, 0, .q (xb true)), (10, 11, 0, .q (.d (.pin [(di v702.Shelf), (di v702.Many)])))] [(10, 1000012, (.nor, zTd p0 p1 p2 s1_14 v502 s5_17 s5_18 s5_21 s5_35 v702 true))] g4 (ob (o_b h701) (ob (o_ia (e := zk) 2 h703 rfl) (ob (zWj k p0 p1 p2 s1_14 v502 s5_17 s5_18 s5_21 s5_35 v702 _ h705) ob0))) (by kernel_rfl)
  ·subst h706
   refine z6 g4 (fun h707 g5 => ?_)
   exact zqn (v702.Shelf, (w64 (s5_18 + v702.Many)), (w64 (s5_21 + 1)), (upd s5_35 v702.Shelf.toNat (w64 ((s5_35 v702.Shelf.toNat) - v702.Many)))) [] [(10, 10, 0, .q (xb true)), (10, 11, 0, .q (.d (.pin [(di v702.Shelf), (di v702.Many)]))), (10, 14, 2, .q (.ptr 0 10 (v702.Shelf.toNat))), (10, 14, 3, .q (xi (s5_35 v702.Shelf.toNat))), (10, 14, 7, .q (.ptr 0 10 (v702.Shelf.toNat))), (10, 14, 8, .st ((aI 12 (upd s5_35 v702.Shelf.toNat (w64 ((s5_35 v702.Shelf.toNat) - v702.Many)))).map .d))] [(10, 1000012, (.nor, zTd p0 p1 p2 s1_14 v502 s5_17 s5_18 s5_21 s5_35 v702 false))] g5 (ob (o_b h701) (ob (o_ia (e := zk) 2 h703 rfl) (ob (zWj k p0 p1 p2 s1_14 v502 s5_17 s5_18 s5_21 s5_35 v702 _ h705) (ob (zAb (m := 12) 0 10 0 1 v702.Shelf.toNat h707 (by omega)) (ob (zQl 12 s5_35 v702.Shelf.toNat (by have := h707; simp only [Bool.and_eq_true, decide_eq_true_eq] at this; omega)) (ob (zAb (m := 12) 0 10 0 1 v702.Shelf.toNat h707 (by omega)) (ob (zit 12 s5_35 v702.Shelf.toNat (w64 ((s5_35 v702.Shelf.toNat) - v702.Many)) (by have := h707; simp only [Bool.and_eq_true, decide_eq_true_eq] at this; omega)) ob0))))))) (by kernel_rfl)
 ·exact zqo [(10, 10, 0, .q (xb false))] [] g1 (ob (o_b h701) ob0) (by kernel_rfl)
noncomputable def z8C (p0 : zh) (p1 : Int) (p2 : (SL (SL zj))) (s1_14 : Int) : TM := [(0, (.d (.agg (zl p0)))), (1, (xi p1)), (2, (.d (dl (eL zk) p2.1 p2.2))), (zsp 3), (zsp 4), (6, (xb false)), (7, (xi 0)), (zsp 8), (9, (xi 0)), (24, (xb false)), (zsp 10), (29, (.d (dl (eL zk) p2.1 p2.2))), (30, (xi (p2.1.length : Int))), (31, (xi s1_14))]
noncomputable def zfp (p0 : zh) (p1 : Int) (p2 : (SL (SL zj))) (s1_14 : Int) (s1_28 : zt5) : St := ⟨(z8C p0 p1 p2 s1_14), ⟨[(zc 3 (zl p0)), (4, (.cells [(xi p1)])), (zc 8 (zl p0)), (zc 10 (aI 12 s1_28))], []⟩, []⟩
noncomputable def zOC (p0 : zh) (p1 : Int) (p2 : (SL (SL zj))) (r : (Int × (SL zj) × Int × Int × Int × Int × (Nat → Int) × Int × Int)) : TM := [(0, (.d (.agg (zl p0)))), (1, (xi p1)), (2, (.d (dl (eL zk) p2.1 p2.2))), (zsp 3), (zsp 4), (6, (xb false)), (7, (xi 0)), (zsp 8), (9, (xi 0)), (24, (xb false)), (zsp 10), (29, (.d (dl (eL zk) p2.1 p2.2))), (30, (xi (p2.1.length : Int))), (31, (xi r.1)), (32, (xb true)), (12, (.d (dl zk r.2.1.1 r.2.1.2))), (13, (xi r.2.2.1)), (14, (xi r.2.2.2.1)), (35, (.d (dl zk r.2.1.1 r.2.1.2))), (36, (xi r.2.2.2.2.1)), (37, (xi r.2.2.2.2.2.1)), (38, (xb true)), (zsp 16), (61, (xb true))]
noncomputable def zIg (p0 : zh) (p1 : Int) (p2 : (SL (SL zj))) (r : (Int × (SL zj) × Int × Int × Int × Int × (Nat → Int) × Int × Int)) : St := ⟨(zOC p0 p1 p2 r), ⟨[(zc 3 (zl p0)), (4, (.cells [(xi p1)])), (zc 8 (zl p0)), (zc 10 (aI 12 r.2.2.2.2.2.2.1)), (16, (.cells [(xi r.2.2.2.2.2.2.2.1), (xi r.2.2.2.2.2.2.2.2)]))], []⟩, []⟩
noncomputable def zUC (p0 : zh) (p1 : Int) (p2 : (SL (SL zj))) (r : (Int × (SL zj) × Int × Int × Int × Int × (Nat → Int))) : TM := [(0, (.d (.agg (zl p0)))), (1, (xi p1)), (2, (.d (dl (eL zk) p2.1 p2.2))), (zsp 3), (zsp 4), (6, (xb false)), (7, (xi 0)), (zsp 8), (9, (xi 0)), (24, (xb false)), (zsp 10), (29, (.d (dl (eL zk) p2.1 p2.2))), (30, (xi (p2.1.length : Int))), (31, (xi r.1)), (32, (xb true)), (12, (.d (dl zk r.2.1.1 r.2.1.2))), (13, (xi r.2.2.1)), (14, (xi r.2.2.2.1)), (35, (.d (dl zk r.2.1.1 r.2.1.2))), (36, (xi r.2.2.2.2.1)), (37, (xi r.2.2.2.2.2.1)), (38, (xb false)), (82, (xb true))]
noncomputable def z2g (p0 : zh) (p1 : Int) (p2 : (SL (SL zj))) (r : (Int × (SL zj) × Int × Int × Int × Int × (Nat → Int))) : St := ⟨(zUC p0 p1 p2 r), ⟨[(zc 3 (zl p0)), (4, (.cells [(xi p1)])), (zc 8 (zl p0)), (zc 10 (aI 12 r.2.2.2.2.2.2))], []⟩, []⟩
noncomputable def zeC (p0 : zh) (p1 : Int) (p2 : (SL (SL zj))) (r : (Int × (Nat → Int))) : TM := [(0, (.d (.agg (zl p0)))), (1, (xi p1)), (2, (.d (dl (eL zk) p2.1 p2.2))), (zsp 3), (zsp 4), (6, (xb false)), (7, (xi 0)), (zsp 8), (9, (xi 0)), (24, (xb false)), (zsp 10), (29, (.d (dl (eL zk) p2.1 p2.2))), (30, (xi (p2.1.length : Int))), (31, (xi r.1)), (32, (xb false))]
noncomputable def zZg (p0 : zh) (p1 : Int) (p2 : (SL (SL zj))) (r : (Int × (Nat → Int))) : St := ⟨(zeC p0 p1 p2 r), ⟨[(zc 3 (zl p0)), (4, (.cells [(xi p1)])), (zc 8 (zl p0)), (zc 10 (aI 12 r.2))], []⟩, []⟩
noncomputable def zgp (p0 : zh) (p1 : Int) (p2 : (SL (SL zj))) : ((Int × (SL zj) × Int × Int × Int × Int × (Nat → Int) × Int × Int) ⊕ ((Int × (SL zj) × Int × Int × Int × Int × (Nat → Int)) ⊕ (Int × (Nat → Int)))) → Ex × St := Sum.elim (fun r => (.ret, zIg p0 p1 p2 r)) (Sum.elim (fun r => (.ret, z2g p0 p1 p2 r)) (fun r => ((.exit 0), zZg p0 p1 p2 r)))
theorem z5g (k : Nat) (p0 : zh) (p1 : Int) (p2 : (SL (SL zj))) (s1_14 : Int) (s1_28 : zt5) (x : (Int × (Nat → Int)) ⊕ ((Int × (SL zj) × Int × Int × Int × Int × (Nat → Int) × Int × Int) ⊕ ((Int × (SL zj) × Int × Int × Int × Int × (Nat → Int)) ⊕ (Int × (Nat → Int))))) (h : zVe k p0 p1 p2 s1_14 s1_28 = some x) : zT TE 10 (blk TE 10 0) (fun s : (Int × (Nat → Int)) => zfp p0 p1 p2 s.1 s.2) (zgp p0 p1 p2) (s1_14, s1_28) x := by
 unfold zVe at h
 refine zr h (fun h501 g1 => ?_) (fun h501 g1 => ?_)
 ·refine zo g1 (fun v502 h503 g2 => ?_)
  refine zo g2 (fun v504 h505 g3 => ?_)
  refine zRb g3 (fun v507 hh g4_0 => ?_) (fun v507 hh g4_0 => ?_)
  ·subst hh
   exact zqo [(10, 6, 0, .q (xb true)), (10, 7, 0, .q (.d (.pin [(dl zk v502.1 v502.2)]))), (10, 9, 1, .q (xi (v502.1.length : Int)))] [(10, 2, (.ret, zWg p0 p1 p2 s1_14 v502 v507))] g4_0 (ob (o_b h501) (ob (o_ia (e := (eL zk)) 1 h503 rfl) (ob (zC zk v502.1) (ob (zG (id := 2) (r' := (.ret, zWg p0 p1 p2 s1_14 v502 v507)) (z2v (z0g k p0 p1 p2 s1_14 v502) k _ _ h505) rfl) ob0)))) (by kernel_rfl)
  ·subst hh
   refine zo g4_0 (fun v508 h509 g5 => ?_)
   refine zr g5 (fun h510 g6 => ?_) (fun h510 g6 => ?_)
   ·exact zqo [(10, 6, 0, .q (xb true)), (10, 7, 0, .q (.d (.pin [(dl zk v502.1 v502.2)]))), (10, 9, 1, .q (xi (v502.1.length : Int))), (10, 17, 4, .c (db v508)), (10, 17, 5, .q (xb true))] [(10, 2, (.nor, zAd p0 p1 p2 s1_14 v502 v507))] g6 (ob (o_b h501) (ob (o_ia (e := (eL zk)) 1 h503 rfl) (ob (zC zk v502.1) (ob (zG (id := 2) (r' := (.nor, zAd p0 p1 p2 s1_14 v502 v507)) (z2v (z0g k p0 p1 p2 s1_14 v502) k _ _ h505) rfl) (ob (zmb k v507.2.1 1 p0.Carry _ h509) (ob (o_b h510) ob0)))))) (by kernel_rfl)
   ·exact zqn ((w64 (s1_14 + 1)), v507.2.2.2) [] [(10, 6, 0, .q (xb true)), (10, 7, 0, .q (.d (.pin [(dl zk v502.1 v502.2)]))), (10, 9, 1, .q (xi (v502.1.length : Int))), (10, 17, 4, .c (db v508)), (10, 17, 5, .q (xb false))] [(10, 2, (.nor, zAd p0 p1 p2 s1_14 v502 v507))] g6 (ob (o_b h501) (ob (o_ia (e := (eL zk)) 1 h503 rfl) (ob (zC zk v502.1) (ob (zG (id := 2) (r' := (.nor, zAd p0 p1 p2 s1_14 v502 v507)) (z2v (z0g k p0 p1 p2 s1_14 v502) k _ _ h505) rfl) (ob (zmb k v507.2.1 1 p0.Carry _ h509) (ob (o_b h510) ob0)))))) (by kernel_rfl)
 ·exact zqo [(10, 6, 0, .q (xb false))] [] g1 (ob (o_b h501) ob0) (by kernel_rfl)
theorem zLi (k : Nat) (p0 : zh) (p1 : Int) (p2 : (SL (SL zj))) (r : zt3) (h : zVg k p0 p1 p2 = some r) : zI TE (ev TE) 10 [(.agg (zl p0)), (di p1), (dl (eL zk) p2.1 p2.2)] = some (z7d r) := by
 unfold zVg at h
 refine zo h (fun v1 h2 g1 => ?_)
 refine zr g1 (fun h3 g2 => ?_) (fun h3 g2 => ?_)
 ·exact zP (g := z7d) g2 (zqc [(41, 1, 1, .c (di v1)), (41, 2, 1, .q (xb true)), (10, 2, 1, .q (xb true))] [] (ob (zXc k p0 _ h2) (ob (o_b h3) (ob (o_b h3) ob0))) (by kernel_rfl))
 ·refine zo g2 (fun v4 h5 g3 => ?_)
  have y1 := fun (d : D) (P : List Prop) (V : Ovs) (C : Cuts) (q : All P) h => (zqc ([(41, 1, 1, .c (di v1)), (41, 2, 1, .q (xb false)), (45, 1, 2, .c (db v4))] ++ V) C (ob (zXc k p0 _ h2) (ob (o_b h3) (ob (z6f k (⟨p0⟩ : zZ) p1 _ h5) q))) h : zI TE (ev TE) 10 [(.agg (zl p0)), (di p1), (dl (eL zk) p2.1 p2.2)] = some d)
  refine zr g3 (fun h6 g4 => ?_) (fun h6 g4 => ?_)
  ·exact zP (g := z7d) g4 (y1 _ _ [(41, 4, 4, .q (xb true))] [] (ob (o_b h6) ob0) (by kernel_rfl))
  ·refine zo g4 (fun v7 h8 g5 => ?_)
   refine zo g5 (fun v9 h10 g6 => ?_)
   have y2 := fun (d : _) (P : List Prop) (V : Ovs) (C : Cuts) (q : All P) h => y1 d _ ([(41, 4, 4, .q (xb false)), (10, 4, 2, .c (.agg (aI 12 v7))), (10, 5, 1, .q (xi (p2.1.length : Int)))] ++ V) C (ob (o_b h6) (ob (zti k (⟨p0⟩ : zZ) p1 _ h8) (ob (zC (eL zk) p2.1) q))) h
   refine zRb g6 (fun v12 hh g7_0 => ?_) (fun w6_0 hh g7_0 => ?_)
   ·subst hh
    exact zP (g := z7d) g7_0 (y2 _ _ [] [(10, 0, (.ret, zIg p0 p1 p2 v12))] (ob (zG (id := 0) (r' := (.ret, zIg p0 p1 p2 v12)) (zUb (z5g k p0 p1 p2) k _ _ h10) rfl) ob0) (by kernel_rfl))
   ·subst hh
    refine zRb g7_0 (fun v12 hh g7_1 => ?_) (fun v12 hh g7_1 => ?_)
    ·subst hh
     exact zP (g := z7d) g7_1 (y2 _ _ [] [(10, 0, (.ret, z2g p0 p1 p2 v12))] (ob (zG (id := 0) (r' := (.ret, z2g p0 p1 p2 v12)) (zUb (z5g k p0 p1 p2) k _ _ h10) rfl) ob0) (by kernel_rfl))
    ·subst hh
     refine zo g7_1 (fun v13 h14 g8 => ?_)
     exact zP (g := z7d) g8 (y2 _ _ [(10, 20, 1, .c (.agg (aI 12 v13)))] [(10, 0, (.nor, zZg p0 p1 p2 v12))] (ob (zG (id := 0) (r' := (.nor, zZg p0 p1 p2 v12)) (zUb (z5g k p0 p1 p2) k _ _ h10) rfl) (ob (zKi k _ h14) ob0)) (by kernel_rfl))
theorem z7c (k : Nat) (p0 p1 : Int) (r : zD) (h : zsc k p0 p1 = some r) : zI TE (ev TE) 11 [(di p0), (di p1)] = some (zYj r) := by
 unfold zsc at h
 exact zP (g := zYj) h (zqc [] [] ob0 (by kernel_rfl))
noncomputable def z2C (p0 p1 : Int) (r : zt4) : TM := [(0, (xi p0)), (1, (xi p1)), (4, (xi 0)), (7, (xb false)), (5, (xi r.1)), (12, (xb r.2))]
noncomputable def zYc (p0 p1 : Int) (cb : Bool) (r : zt4) : St := ⟨(z2C p0 p1 r), ⟨[], []⟩, []⟩
noncomputable def znC (p0 p1 : Int) (cb : Bool) : TM := [(0, (xi p0)), (1, (xi p1)), (4, (xi 0)), (7, (xb false)), (5, (xi (p0.tmod p1))), (12, (xb cb))]
theorem zYk (k : Nat) (p0 p1 : Int) (cb : Bool) (r : zt4) (h : zNd k p0 p1 cb = some r) : ev TE 12 (cnd TE 12 12) ⟨(znC p0 p1 cb), ⟨[], []⟩, []⟩ = some (.nor, zYc p0 p1 cb r) := by
 unfold zNd at h
 refine zr h (fun h201 g1 => ?_) (fun h201 g1 => ?_)
 ·subst h201
  exact zE (g := fun r => (Ex.nor, zYc p0 p1 true r)) g1 (zqe [] [] ob0 (by kernel_rfl))
 ·subst h201
  exact zE (g := fun r => (Ex.nor, zYc p0 p1 false r)) g1 (zqe [] [] ob0 (by kernel_rfl))
theorem zyc (k : Nat) (p0 p1 r : Int) (h : zvb k p0 p1 = some r) : zI TE (ev TE) 12 [(di p0), (di p1)] = some (z2f r) := by
 unfold zvb at h
 refine zr h (fun h1 g1 => ?_) (fun h1 g1 => ?_)
 ·exact zP (g := z2f) g1 (zqc [(12, 1, 1, .q (xb true))] [] (ob (o_b h1) ob0) (by kernel_rfl))
 ·refine zr g1 (fun h2 g2 => ?_) (fun h2 g2 => ?_)
  ·cases g2
  ·refine zo g2 (fun v3 h4 g3 => ?_)
   exact zP (g := z2f) g3 (zqc [(12, 1, 1, .q (xb false)), (12, 3, 2, .q (xi (p0.tmod p1)))] [(12, 2000012, (.nor, zYc p0 p1 (decide ((p0.tmod p1) < 0)) v3))] (ob (o_b h1) (ob (zWA (x := p0) .i64 h2) (ob (zYk k p0 p1 (decide ((p0.tmod p1) < 0)) _ h4) ob0))) (by kernel_rfl))
theorem zM (k : Nat) (p0 p1 p2 : Int) (r : Bool) (h : zab k p0 p1 p2 = some r) : zI TE (ev TE) 101 [(di p0), (di p1), (di p2)] = some (z5i r) := by
 unfold zab at h
 refine zr h (fun h1 g1 => ?_) (fun h1 g1 => ?_)
 ·exact zP (g := z5i) g1 (zqc [(101, 1, 3, .q (xb true))] [] (ob (o_b h1) ob0) (by kernel_rfl))
 ·exact zP (g := z5i) g1 (zqc [(101, 1, 3, .q (xb false))] [] (ob (o_b h1) ob0) (by kernel_rfl))
theorem zCg (k : Nat) (p0 : zd) (p1 p2 : Int) (r : Bool) (h : zyf k p0 p1 p2 = some r) : zI TE (ev TE) 49 [(.agg (za p0)), (di p1), (di p2)] = some (z8i r) := by
 unfold zyf at h
 refine zo h (fun v1 h2 g1 => ?_)
 refine zr g1 (fun h3 g2 => ?_) (fun h3 g2 => ?_)
 ·refine zo g2 (fun v4 h5 g3 => ?_)
  exact zP (g := z8i) g3 (zqc [(49, 1, 3, .q (xi (p0.Shelves.1.length : Int))), (49, 1, 5, .c (db v1)), (49, 1, 6, .q (xb true)), (49, 1, 11, .c (db v4))] [] (ob (zC zn p0.Shelves.1) (ob (zM k p1 0 (w64 ((p0.Shelves.1.length : Int) - 1)) _ h2) (ob (o_b h3) (ob (zM k p2 0 (w64 (p0.Days - 1)) _ h5) ob0)))) (by kernel_rfl))
 ·exact zP (g := z8i) g2 (zqc [(49, 1, 3, .q (xi (p0.Shelves.1.length : Int))), (49, 1, 5, .c (db v1)), (49, 1, 6, .q (xb false))] [] (ob (zC zn p0.Shelves.1) (ob (zM k p1 0 (w64 ((p0.Shelves.1.length : Int) - 1)) _ h2) (ob (o_b h3) ob0))) (by kernel_rfl))
theorem zOe (k : Nat) (p0 : zD) (p1 p2 : Int) (r : Bool) (h : zBd k p0 p1 p2 = some r) : zI TE (ev TE) 107 [(.agg [(di p0.Low), (di p0.High)]), (di p1), (di p2)] = some (zfh r) := by
 unfold zBd at h
 refine zr h (fun h1 g1 => ?_) (fun h1 g1 => ?_)
 ·refine zr g1 (fun h2 g2 => ?_) (fun h2 g2 => ?_)
  ·exact zP (g := zfh) g2 (zqc [(107, 1, 4, .q (xb true)), (107, 1, 11, .q (xb true))] [] (ob (o_b h1) (ob (o_b h2) ob0)) (by kernel_rfl))
  ·exact zP (g := zfh) g2 (zqc [(107, 1, 4, .q (xb true)), (107, 1, 11, .q (xb false))] [] (ob (o_b h1) (ob (o_b h2) ob0)) (by kernel_rfl))
 ·exact zP (g := zfh) g1 (zqc [(107, 1, 4, .q (xb false))] [] (ob (o_b h1) ob0) (by kernel_rfl))
noncomputable def zPt (p0 : zd) (r : Bool) : TM := [(0, (.d (.agg (za p0)))), (zsp 1), (2, (xi 0)), (3, (xb r))]
noncomputable def z5b (p0 : zd) (r : Bool) : St := ⟨(zPt p0 r), ⟨[(zc 1 (za p0))], []⟩, []⟩
theorem z9o (k : Nat) (p0 : zd) (r : Bool) (h : zRf k p0 = some r) : ev TE 53 (rgn TE 53 1) ⟨[(0, (.d (.agg (za p0)))), (zsp 1), (2, (xi 0))], ⟨[(zc 1 (za p0))], []⟩, []⟩ = some (.nor, z5b p0 r) := by
 unfold zRf at h
 refine zo h (fun v201 h202 g1 => ?_)
 refine zr g1 (fun h203 g2 => ?_) (fun h203 g2 => ?_)
 ·refine zo g2 (fun v204 h205 g3 => ?_)
  have y1 := fun (d : Ex × St) (P : List Prop) (V : Ovs) (C : Cuts) (q : All P) h => (zqe ([(53, 1, 2, .c (db v201)), (53, 1, 3, .q (xb true)), (53, 1, 6, .q (xi (p0.Shelves.1.length : Int))), (53, 1, 7, .c (db v204))] ++ V) C (ob (zM k p0.Days 1 12 _ h202) (ob (o_b h203) (ob (zC zn p0.Shelves.1) (ob (zM k (p0.Shelves.1.length : Int) 1 4 _ h205) q)))) h : ev TE 53 (rgn TE 53 1) ⟨[(0, (.d (.agg (za p0)))), (zsp 1), (2, (xi 0))], ⟨[(zc 1 (za p0))], []⟩, []⟩ = some d)
  refine zr g3 (fun h206 g4 => ?_) (fun h206 g4 => ?_)
  ·have y2 := fun (d : _) (P : List Prop) (V : Ovs) (C : Cuts) (q : All P) h => y1 d _ ([(53, 1, 9, .q (xb true)), (53, 1, 12, .q (xi (p0.Moves.1.length : Int)))] ++ V) C (ob (o_b h206) (ob (zC zp p0.Moves.1) q)) h
   refine zr g4 (fun h207 g5 => ?_) (fun h207 g5 => ?_)
   ·refine zr g5 (fun h208 g6 => ?_) (fun h208 g6 => ?_)
    ·exact zE (g := fun r => (Ex.nor, z5b p0 r)) g6 (y2 _ _ [(53, 1, 15, .q (xb true)), (53, 1, 18, .q (xi (p0.Deliveries.1.length : Int))), (53, 1, 21, .q (xb true)), (53, 1, 24, .q (xi (p0.Counts.1.length : Int)))] [] (ob (o_b h207) (ob (zC zm p0.Deliveries.1) (ob (o_b h208) (ob (zC zu p0.Counts.1) ob0)))) (by kernel_rfl))
    ·exact zE (g := fun r => (Ex.nor, z5b p0 r)) g6 (y2 _ _ [(53, 1, 15, .q (xb true)), (53, 1, 18, .q (xi (p0.Deliveries.1.length : Int))), (53, 1, 21, .q (xb false))] [] (ob (o_b h207) (ob (zC zm p0.Deliveries.1) (ob (o_b h208) ob0))) (by kernel_rfl))
   ·exact zE (g := fun r => (Ex.nor, z5b p0 r)) g5 (y2 _ _ [(53, 1, 15, .q (xb false))] [] (ob (o_b h207) ob0) (by kernel_rfl))
  ·exact zE (g := fun r => (Ex.nor, z5b p0 r)) g4 (y1 _ _ [(53, 1, 9, .q (xb false))] [] (ob (o_b h206) ob0) (by kernel_rfl))
 ·exact zE (g := fun r => (Ex.nor, z5b p0 r)) g2 (zqe [(53, 1, 2, .c (db v201)), (53, 1, 3, .q (xb false))] [] (ob (zM k p0.Days 1 12 _ h202) (ob (o_b h203) ob0)) (by kernel_rfl))
noncomputable def zSC (p0 : zd) (r : Bool) (s2_9 : Int) : TM := zPt p0 r ++ [(40, (.d (dl zn p0.Shelves.1 p0.Shelves.2))), (41, (xi (p0.Shelves.1.length : Int))), (42, (xi s2_9)), (43, (xb true)), (zsp 5)]
noncomputable def zle (p0 : zd) (s2_6 : Bool) (s2_9 : Int) (v402 : zx) (r : Bool) : St := ⟨(zSC p0 r s2_9), ⟨[(zc 1 (za p0)), (zc 5 (zn v402))], []⟩, []⟩
noncomputable def zsC (p0 : zd) (s2_6 : Bool) (s2_9 : Int) : TM := [(0, (.d (.agg (za p0)))), (zsp 1), (2, (xi 0)), (3, (xb s2_6)), (40, (.d (dl zn p0.Shelves.1 p0.Shelves.2))), (41, (xi (p0.Shelves.1.length : Int))), (42, (xi s2_9)), (43, (xb true)), (zsp 5)]
theorem zxp (k : Nat) (p0 : zd) (s2_6 : Bool) (s2_9 : Int) (v402 : zx) (r : Bool) (h : zNf k p0 s2_6 s2_9 v402 = some r) : ev TE 53 (rgn TE 53 5) ⟨(zsC p0 s2_6 s2_9), ⟨[(zc 1 (za p0)), (zc 5 (zn v402))], []⟩, []⟩ = some (.nor, zle p0 s2_6 s2_9 v402 r) := by
 unfold zNf at h
 refine zr h (fun h501 g1 => ?_) (fun h501 g1 => ?_)
 ·refine zo g1 (fun v502 h503 g2 => ?_)
  refine zr g2 (fun h504 g3 => ?_) (fun h504 g3 => ?_)
  ·refine zo g3 (fun v505 h506 g4 => ?_)
   exact zE (g := fun r => (Ex.nor, zle p0 s2_6 s2_9 v402 r)) g4 (zqe [(53, 5, 1, .q (xb true)), (53, 5, 4, .c (db v502)), (53, 5, 6, .q (xb true)), (53, 5, 11, .c (db v505))] [] (ob (o_b h501) (ob (zM k v402.Room 1 60 _ h503) (ob (o_b h504) (ob (zOe k v402.Begin 0 v402.Room _ h506) ob0)))) (by kernel_rfl))
  ·exact zE (g := fun r => (Ex.nor, zle p0 s2_6 s2_9 v402 r)) g3 (zqe [(53, 5, 1, .q (xb true)), (53, 5, 4, .c (db v502)), (53, 5, 6, .q (xb false))] [] (ob (o_b h501) (ob (zM k v402.Room 1 60 _ h503) (ob (o_b h504) ob0))) (by kernel_rfl))
 ·exact zE (g := fun r => (Ex.nor, zle p0 s2_6 s2_9 v402 r)) g1 (zqe [(53, 5, 1, .q (xb false))] [] (ob (o_b h501) ob0) (by kernel_rfl))
noncomputable def ztC (p0 : zd) (s2_6 : Bool) (s2_9 : Int) : TM := [(0, (.d (.agg (za p0)))), (zsp 1), (2, (xi 0)), (3, (xb s2_6)), (40, (.d (dl zn p0.Shelves.1 p0.Shelves.2))), (41, (xi (p0.Shelves.1.length : Int))), (42, (xi s2_9))]
noncomputable def zwq (p0 : zd) (s2_6 : Bool) (s2_9 : Int) : St := ⟨(ztC p0 s2_6 s2_9), ⟨[(zc 1 (za p0))], []⟩, []⟩
noncomputable def zoC (p0 : zd) (r : zt3) : TM := [(0, (.d (.agg (za p0)))), (zsp 1), (2, (xi 0)), (3, (xb r.1)), (40, (.d (dl zn p0.Shelves.1 p0.Shelves.2))), (41, (xi (p0.Shelves.1.length : Int))), (42, (xi r.2)), (43, (xb false))]
noncomputable def zif (p0 : zd) (r : zt3) : St := ⟨(zoC p0 r), ⟨[(zc 1 (za p0))], []⟩, []⟩
noncomputable def z1p (p0 : zd) : (Bool × Int) → Ex × St := fun r => ((.exit 0), zif p0 r)
theorem zvp (k : Nat) (p0 : zd) (s2_6 : Bool) (s2_9 : Int) (x : (Bool × Int) ⊕ (Bool × Int)) (h : zBc k p0 s2_6 s2_9 = some x) : zT TE 53 (blk TE 53 0) (fun s : (Bool × Int) => zwq p0 s.1 s.2) (z1p p0) (s2_6, s2_9) x := by
 unfold zBc at h
 refine zr h (fun h401 g1 => ?_) (fun h401 g1 => ?_)
 ·refine zo g1 (fun v402 h403 g2 => ?_)
  refine zo g2 (fun v404 h405 g3 => ?_)
  exact zqn (v404, (w64 (s2_9 + 1))) [] [(53, 3, 0, .q (xb true)), (53, 4, 0, .q (.d (.pin (zn v402))))] [(53, 1000005, (.nor, zle p0 s2_6 s2_9 v402 v404))] g3 (ob (o_b h401) (ob (o_ia (e := zn) 3 h403 rfl) (ob (zxp k p0 s2_6 s2_9 v402 _ h405) ob0))) (by kernel_rfl)
 ·exact zqo [(53, 3, 0, .q (xb false))] [] g1 (ob (o_b h401) ob0) (by kernel_rfl)
noncomputable def ziC (p0 : zd) (r : Bool) (v3 : zt3) (s5_13 : Int) : TM := zPt p0 r ++ [(40, (.d (dl zn p0.Shelves.1 p0.Shelves.2))), (41, (xi (p0.Shelves.1.length : Int))), (42, (xi v3.2)), (43, (xb false)), (61, (.d (dl zp p0.Moves.1 p0.Moves.2))), (62, (xi (p0.Moves.1.length : Int))), (63, (xi s5_13)), (64, (xb true)), (zsp 7)]
noncomputable def zed (p0 : zd) (v3 : zt3) (s5_6 : Bool) (s5_13 : Int) (v702 : zw) (r : Bool) : St := ⟨(ziC p0 r v3 s5_13), ⟨[(zc 1 (za p0)), (zc 7 (zp v702))], []⟩, []⟩
noncomputable def zmD (p0 : zd) (s5_6 : Bool) (v3 : zt3) (s5_13 : Int) : TM := [(0, (.d (.agg (za p0)))), (zsp 1), (2, (xi 0)), (3, (xb s5_6)), (40, (.d (dl zn p0.Shelves.1 p0.Shelves.2))), (41, (xi (p0.Shelves.1.length : Int))), (42, (xi v3.2)), (43, (xb false)), (61, (.d (dl zp p0.Moves.1 p0.Moves.2))), (62, (xi (p0.Moves.1.length : Int))), (63, (xi s5_13)), (64, (xb true)), (zsp 7)]
theorem zop (k : Nat) (p0 : zd) (v3 : zt3) (s5_6 : Bool) (s5_13 : Int) (v702 : zw) (r : Bool) (h : zxf k p0 v3 s5_6 s5_13 v702 = some r) : ev TE 53 (rgn TE 53 10) ⟨(zmD p0 s5_6 v3 s5_13), ⟨[(zc 1 (za p0)), (zc 7 (zp v702))], []⟩, []⟩ = some (.nor, zed p0 v3 s5_6 s5_13 v702 r) := by
 unfold zxf at h
 refine zr h (fun h801 g1 => ?_) (fun h801 g1 => ?_)
 ·refine zo g1 (fun v802 h803 g2 => ?_)
  refine zr g2 (fun h804 g3 => ?_) (fun h804 g3 => ?_)
  ·refine zo g3 (fun v805 h806 g4 => ?_)
   refine zr g4 (fun h807 g5 => ?_) (fun h807 g5 => ?_)
   ·refine zo g5 (fun v808 h809 g6 => ?_)
    exact zE (g := fun r => (Ex.nor, zed p0 v3 s5_6 s5_13 v702 r)) g6 (zqe [(53, 10, 1, .q (xb true)), (53, 10, 7, .c (db v802)), (53, 10, 9, .q (xb true)), (53, 10, 14, .q (xi (p0.Shelves.1.length : Int))), (53, 10, 16, .c (db v805)), (53, 10, 18, .q (xb true)), (53, 10, 21, .c (db v808))] [] (ob (o_b h801) (ob (zM k v702.Day 0 (w64 (p0.Days - 1)) _ h803) (ob (o_b h804) (ob (zC zn p0.Shelves.1) (ob (zM k v702.Shelf 0 (w64 ((p0.Shelves.1.length : Int) - 1)) _ h806) (ob (o_b h807) (ob (zOe k v702.By 0 60 _ h809) ob0))))))) (by kernel_rfl))
   ·exact zE (g := fun r => (Ex.nor, zed p0 v3 s5_6 s5_13 v702 r)) g5 (zqe [(53, 10, 1, .q (xb true)), (53, 10, 7, .c (db v802)), (53, 10, 9, .q (xb true)), (53, 10, 14, .q (xi (p0.Shelves.1.length : Int))), (53, 10, 16, .c (db v805)), (53, 10, 18, .q (xb false))] [] (ob (o_b h801) (ob (zM k v702.Day 0 (w64 (p0.Days - 1)) _ h803) (ob (o_b h804) (ob (zC zn p0.Shelves.1) (ob (zM k v702.Shelf 0 (w64 ((p0.Shelves.1.length : Int) - 1)) _ h806) (ob (o_b h807) ob0)))))) (by kernel_rfl))
  ·exact zE (g := fun r => (Ex.nor, zed p0 v3 s5_6 s5_13 v702 r)) g3 (zqe [(53, 10, 1, .q (xb true)), (53, 10, 7, .c (db v802)), (53, 10, 9, .q (xb false))] [] (ob (o_b h801) (ob (zM k v702.Day 0 (w64 (p0.Days - 1)) _ h803) (ob (o_b h804) ob0))) (by kernel_rfl))
 ·exact zE (g := fun r => (Ex.nor, zed p0 v3 s5_6 s5_13 v702 r)) g1 (zqe [(53, 10, 1, .q (xb false))] [] (ob (o_b h801) ob0) (by kernel_rfl))
noncomputable def zhD (p0 : zd) (s5_6 : Bool) (v3 : zt3) (s5_13 : Int) : TM := [(0, (.d (.agg (za p0)))), (zsp 1), (2, (xi 0)), (3, (xb s5_6)), (40, (.d (dl zn p0.Shelves.1 p0.Shelves.2))), (41, (xi (p0.Shelves.1.length : Int))), (42, (xi v3.2)), (43, (xb false)), (61, (.d (dl zp p0.Moves.1 p0.Moves.2))), (62, (xi (p0.Moves.1.length : Int))), (63, (xi s5_13))]
noncomputable def zUp (p0 : zd) (v3 : zt3) (s5_6 : Bool) (s5_13 : Int) : St := ⟨(zhD p0 s5_6 v3 s5_13), ⟨[(zc 1 (za p0))], []⟩, []⟩
noncomputable def zhC (p0 : zd) (r v3 : zt3) : TM := [(0, (.d (.agg (za p0)))), (zsp 1), (2, (xi 0)), (3, (xb r.1)), (40, (.d (dl zn p0.Shelves.1 p0.Shelves.2))), (41, (xi (p0.Shelves.1.length : Int))), (42, (xi v3.2)), (43, (xb false)), (61, (.d (dl zp p0.Moves.1 p0.Moves.2))), (62, (xi (p0.Moves.1.length : Int))), (63, (xi r.2)), (64, (xb false))]
noncomputable def zmf (p0 : zd) (v3 r : zt3) : St := ⟨(zhC p0 r v3), ⟨[(zc 1 (za p0))], []⟩, []⟩
noncomputable def zFq (p0 : zd) (v3 : zt3) : (Bool × Int) → Ex × St := fun r => ((.exit 2), zmf p0 v3 r)
theorem zjp (k : Nat) (p0 : zd) (v3 : zt3) (s5_6 : Bool) (s5_13 : Int) (x : (Bool × Int) ⊕ (Bool × Int)) (h : zvc k p0 v3 s5_6 s5_13 = some x) : zT TE 53 (blk TE 53 2) (fun s : (Bool × Int) => zUp p0 v3 s.1 s.2) (zFq p0 v3) (s5_6, s5_13) x := by
 unfold zvc at h
 refine zr h (fun h701 g1 => ?_) (fun h701 g1 => ?_)
 ·refine zo g1 (fun v702 h703 g2 => ?_)
  refine zo g2 (fun v704 h705 g3 => ?_)
  exact zqn (v704, (w64 (s5_13 + 1))) [] [(53, 8, 0, .q (xb true)), (53, 9, 0, .q (.d (.pin (zp v702))))] [(53, 1000010, (.nor, zed p0 v3 s5_6 s5_13 v702 v704))] g3 (ob (o_b h701) (ob (o_ia (e := zp) 5 h703 rfl) (ob (zop k p0 v3 s5_6 s5_13 v702 _ h705) ob0))) (by kernel_rfl)
 ·exact zqo [(53, 8, 0, .q (xb false))] [] g1 (ob (o_b h701) ob0) (by kernel_rfl)
noncomputable def zxC (p0 : zd) (r : Bool) (v3 v5 : zt3) (s8_17 : Int) : TM := zPt p0 r ++ [(40, (.d (dl zn p0.Shelves.1 p0.Shelves.2))), (41, (xi (p0.Shelves.1.length : Int))), (42, (xi v3.2)), (43, (xb false)), (61, (.d (dl zp p0.Moves.1 p0.Moves.2))), (62, (xi (p0.Moves.1.length : Int))), (63, (xi v5.2)), (64, (xb false)), (92, (.d (dl zm p0.Deliveries.1 p0.Deliveries.2))), (93, (xi (p0.Deliveries.1.length : Int))), (94, (xi s8_17)), (95, (xb true)), (zsp 9)]
noncomputable def zSc (p0 : zd) (v3 v5 : zt3) (s8_6 : Bool) (s8_17 : Int) (v1002 : zQ) (r : Bool) : St := ⟨(zxC p0 r v3 v5 s8_17), ⟨[(zc 1 (za p0)), (zc 9 (zm v1002))], []⟩, []⟩
noncomputable def zKz (p0 : zd) (s8_6 : Bool) (v3 v5 : zt3) (s8_17 : Int) : TM := [(0, (.d (.agg (za p0)))), (zsp 1), (2, (xi 0)), (3, (xb s8_6)), (40, (.d (dl zn p0.Shelves.1 p0.Shelves.2))), (41, (xi (p0.Shelves.1.length : Int))), (42, (xi v3.2)), (43, (xb false)), (61, (.d (dl zp p0.Moves.1 p0.Moves.2))), (62, (xi (p0.Moves.1.length : Int))), (63, (xi v5.2)), (64, (xb false)), (92, (.d (dl zm p0.Deliveries.1 p0.Deliveries.2))), (93, (xi (p0.Deliveries.1.length : Int))), (94, (xi s8_17)), (95, (xb true)), (zsp 9)]
theorem zro (k : Nat) (p0 : zd) (v3 v5 : zt3) (s8_6 : Bool) (s8_17 : Int) (v1002 : zQ) (r : Bool) (h : zUe k p0 v3 v5 s8_6 s8_17 v1002 = some r) : ev TE 53 (rgn TE 53 15) ⟨(zKz p0 s8_6 v3 v5 s8_17), ⟨[(zc 1 (za p0)), (zc 9 (zm v1002))], []⟩, []⟩ = some (.nor, zSc p0 v3 v5 s8_6 s8_17 v1002 r) := by
 unfold zUe at h
 refine zr h (fun h1101 g1 => ?_) (fun h1101 g1 => ?_)
 ·refine zo g1 (fun v1102 h1103 g2 => ?_)
  have y1 := fun (d : Ex × St) (P : List Prop) (V : Ovs) (C : Cuts) (q : All P) h => (zqe ([(53, 15, 1, .q (xb true)), (53, 15, 6, .q (xi (p0.Shelves.1.length : Int))), (53, 15, 8, .c (db v1102))] ++ V) C (ob (o_b h1101) (ob (zC zn p0.Shelves.1) (ob (zM k v1002.Shelf 0 (w64 ((p0.Shelves.1.length : Int) - 1)) _ h1103) q))) h : ev TE 53 (rgn TE 53 15) ⟨(zKz p0 s8_6 v3 v5 s8_17), ⟨[(zc 1 (za p0)), (zc 9 (zm v1002))], []⟩, []⟩ = some d)
  refine zr g2 (fun h1104 g3 => ?_) (fun h1104 g3 => ?_)
  ·refine zo g3 (fun v1105 h1106 g4 => ?_)
   refine zr g4 (fun h1107 g5 => ?_) (fun h1107 g5 => ?_)
   ·refine zo g5 (fun v1108 h1109 g6 => ?_)
    exact zE (g := fun r => (Ex.nor, zSc p0 v3 v5 s8_6 s8_17 v1002 r)) g6 (y1 _ _ [(53, 15, 10, .q (xb true)), (53, 15, 16, .c (db v1105)), (53, 15, 18, .q (xb true)), (53, 15, 21, .c (db v1108))] [] (ob (o_b h1104) (ob (zOe k v1002.Days 0 (w64 (p0.Days - 1)) _ h1106) (ob (o_b h1107) (ob (zOe k v1002.By 0 60 _ h1109) ob0)))) (by kernel_rfl))
   ·exact zE (g := fun r => (Ex.nor, zSc p0 v3 v5 s8_6 s8_17 v1002 r)) g5 (y1 _ _ [(53, 15, 10, .q (xb true)), (53, 15, 16, .c (db v1105)), (53, 15, 18, .q (xb false))] [] (ob (o_b h1104) (ob (zOe k v1002.Days 0 (w64 (p0.Days - 1)) _ h1106) (ob (o_b h1107) ob0))) (by kernel_rfl))
  ·exact zE (g := fun r => (Ex.nor, zSc p0 v3 v5 s8_6 s8_17 v1002 r)) g3 (y1 _ _ [(53, 15, 10, .q (xb false))] [] (ob (o_b h1104) ob0) (by kernel_rfl))
 ·exact zE (g := fun r => (Ex.nor, zSc p0 v3 v5 s8_6 s8_17 v1002 r)) g1 (zqe [(53, 15, 1, .q (xb false))] [] (ob (o_b h1101) ob0) (by kernel_rfl))
noncomputable def zLC (p0 : zd) (s8_6 : Bool) (v3 v5 : zt3) (s8_17 : Int) : TM := [(0, (.d (.agg (za p0)))), (zsp 1), (2, (xi 0)), (3, (xb s8_6)), (40, (.d (dl zn p0.Shelves.1 p0.Shelves.2))), (41, (xi (p0.Shelves.1.length : Int))), (42, (xi v3.2)), (43, (xb false)), (61, (.d (dl zp p0.Moves.1 p0.Moves.2))), (62, (xi (p0.Moves.1.length : Int))), (63, (xi v5.2)), (64, (xb false)), (92, (.d (dl zm p0.Deliveries.1 p0.Deliveries.2))), (93, (xi (p0.Deliveries.1.length : Int))), (94, (xi s8_17))]
noncomputable def zBq (p0 : zd) (v3 v5 : zt3) (s8_6 : Bool) (s8_17 : Int) : St := ⟨(zLC p0 s8_6 v3 v5 s8_17), ⟨[(zc 1 (za p0))], []⟩, []⟩
noncomputable def zoD (p0 : zd) (r v3 v5 : zt3) : TM := [(0, (.d (.agg (za p0)))), (zsp 1), (2, (xi 0)), (3, (xb r.1)), (40, (.d (dl zn p0.Shelves.1 p0.Shelves.2))), (41, (xi (p0.Shelves.1.length : Int))), (42, (xi v3.2)), (43, (xb false)), (61, (.d (dl zp p0.Moves.1 p0.Moves.2))), (62, (xi (p0.Moves.1.length : Int))), (63, (xi v5.2)), (64, (xb false)), (92, (.d (dl zm p0.Deliveries.1 p0.Deliveries.2))), (93, (xi (p0.Deliveries.1.length : Int))), (94, (xi r.2)), (95, (xb false))]
noncomputable def ztf (p0 : zd) (v3 v5 r : zt3) : St := ⟨(zoD p0 r v3 v5), ⟨[(zc 1 (za p0))], []⟩, []⟩
noncomputable def z3p (p0 : zd) (v3 v5 : zt3) : (Bool × Int) → Ex × St := fun r => ((.exit 4), ztf p0 v3 v5 r)
theorem zkp (k : Nat) (p0 : zd) (v3 v5 : zt3) (s8_6 : Bool) (s8_17 : Int) (x : (Bool × Int) ⊕ (Bool × Int)) (h : zzc k p0 v3 v5 s8_6 s8_17 = some x) : zT TE 53 (blk TE 53 4) (fun s : (Bool × Int) => zBq p0 v3 v5 s.1 s.2) (z3p p0 v3 v5) (s8_6, s8_17) x := by
 unfold zzc at h
 refine zr h (fun h1001 g1 => ?_) (fun h1001 g1 => ?_)
 ·refine zo g1 (fun v1002 h1003 g2 => ?_)
  refine zo g2 (fun v1004 h1005 g3 => ?_)
  exact zqn (v1004, (w64 (s8_17 + 1))) [] [(53, 13, 0, .q (xb true)), (53, 14, 0, .q (.d (.pin (zm v1002))))] [(53, 1000015, (.nor, zSc p0 v3 v5 s8_6 s8_17 v1002 v1004))] g3 (ob (o_b h1001) (ob (o_ia (e := zm) 5 h1003 rfl) (ob (zro k p0 v3 v5 s8_6 s8_17 v1002 _ h1005) ob0))) (by kernel_rfl)
 ·exact zqo [(53, 13, 0, .q (xb false))] [] g1 (ob (o_b h1001) ob0) (by kernel_rfl)
noncomputable def zPC (p0 : zd) (r : Bool) (v3 v5 v7 : zt3) (s11_21 : Int) : TM := zPt p0 r ++ [(40, (.d (dl zn p0.Shelves.1 p0.Shelves.2))), (41, (xi (p0.Shelves.1.length : Int))), (42, (xi v3.2)), (43, (xb false)), (61, (.d (dl zp p0.Moves.1 p0.Moves.2))), (62, (xi (p0.Moves.1.length : Int))), (63, (xi v5.2)), (64, (xb false)), (92, (.d (dl zm p0.Deliveries.1 p0.Deliveries.2))), (93, (xi (p0.Deliveries.1.length : Int))), (94, (xi v7.2)), (95, (xb false)), (123, (.d (dl zu p0.Counts.1 p0.Counts.2))), (124, (xi (p0.Counts.1.length : Int))), (125, (xi s11_21)), (126, (xb true)), (zsp 11)]
noncomputable def zec (p0 : zd) (v3 v5 v7 : zt3) (s11_6 : Bool) (s11_21 : Int) (v1302 : zR) (r : Bool) : St := ⟨(zPC p0 r v3 v5 v7 s11_21), ⟨[(zc 1 (za p0)), (zc 11 (zu v1302))], []⟩, []⟩
noncomputable def zIz (p0 : zd) (s11_6 : Bool) (v3 v5 v7 : zt3) (s11_21 : Int) : TM := [(0, (.d (.agg (za p0)))), (zsp 1), (2, (xi 0)), (3, (xb s11_6)), (40, (.d (dl zn p0.Shelves.1 p0.Shelves.2))), (41, (xi (p0.Shelves.1.length : Int))), (42, (xi v3.2)), (43, (xb false)), (61, (.d (dl zp p0.Moves.1 p0.Moves.2))), (62, (xi (p0.Moves.1.length : Int))), (63, (xi v5.2)), (64, (xb false)), (92, (.d (dl zm p0.Deliveries.1 p0.Deliveries.2))), (93, (xi (p0.Deliveries.1.length : Int))), (94, (xi v7.2)), (95, (xb false)), (123, (.d (dl zu p0.Counts.1 p0.Counts.2))), (124, (xi (p0.Counts.1.length : Int))), (125, (xi s11_21)), (126, (xb true)), (zsp 11)]
theorem zao (k : Nat) (p0 : zd) (v3 v5 v7 : zt3) (s11_6 : Bool) (s11_21 : Int) (v1302 : zR) (r : Bool) (h : zNe k p0 v3 v5 v7 s11_6 s11_21 v1302 = some r) : ev TE 53 (rgn TE 53 20) ⟨(zIz p0 s11_6 v3 v5 v7 s11_21), ⟨[(zc 1 (za p0)), (zc 11 (zu v1302))], []⟩, []⟩ = some (.nor, zec p0 v3 v5 v7 s11_6 s11_21 v1302 r) := by
 unfold zNe at h
 refine zr h (fun h1401 g1 => ?_) (fun h1401 g1 => ?_)
 ·refine zo g1 (fun v1402 h1403 g2 => ?_)
  have y1 := fun (d : Ex × St) (P : List Prop) (V : Ovs) (C : Cuts) (q : All P) h => (zqe ([(53, 20, 1, .q (xb true)), (53, 20, 7, .c (db v1402))] ++ V) C (ob (o_b h1401) (ob (zM k v1302.Day 0 (w64 (p0.Days - 1)) _ h1403) q)) h : ev TE 53 (rgn TE 53 20) ⟨(zIz p0 s11_6 v3 v5 v7 s11_21), ⟨[(zc 1 (za p0)), (zc 11 (zu v1302))], []⟩, []⟩ = some d)
  refine zr g2 (fun h1404 g3 => ?_) (fun h1404 g3 => ?_)
  ·refine zo g3 (fun v1405 h1406 g4 => ?_)
   have y2 := fun (d : _) (P : List Prop) (V : Ovs) (C : Cuts) (q : All P) h => y1 d _ ([(53, 20, 9, .q (xb true)), (53, 20, 14, .q (xi (p0.Shelves.1.length : Int))), (53, 20, 16, .c (db v1405))] ++ V) C (ob (o_b h1404) (ob (zC zn p0.Shelves.1) (ob (zM k v1302.Shelf 0 (w64 ((p0.Shelves.1.length : Int) - 1)) _ h1406) q))) h
   refine zr g4 (fun h1407 g5 => ?_) (fun h1407 g5 => ?_)
   ·refine zo g5 (fun v1408 h1409 g6 => ?_)
    refine zr g6 (fun h1410 g7 => ?_) (fun h1410 g7 => ?_)
    ·refine zo g7 (fun v1411 h1412 g8 => ?_)
     exact zE (g := fun r => (Ex.nor, zec p0 v3 v5 v7 s11_6 s11_21 v1302 r)) g8 (y2 _ _ [(53, 20, 18, .q (xb true)), (53, 20, 21, .c (db v1408)), (53, 20, 23, .q (xb true)), (53, 20, 26, .c (db v1411))] [] (ob (o_b h1407) (ob (zM k v1302.Read 0 60 _ h1409) (ob (o_b h1410) (ob (zM k v1302.Err 0 20 _ h1412) ob0)))) (by kernel_rfl))
    ·exact zE (g := fun r => (Ex.nor, zec p0 v3 v5 v7 s11_6 s11_21 v1302 r)) g7 (y2 _ _ [(53, 20, 18, .q (xb true)), (53, 20, 21, .c (db v1408)), (53, 20, 23, .q (xb false))] [] (ob (o_b h1407) (ob (zM k v1302.Read 0 60 _ h1409) (ob (o_b h1410) ob0))) (by kernel_rfl))
   ·exact zE (g := fun r => (Ex.nor, zec p0 v3 v5 v7 s11_6 s11_21 v1302 r)) g5 (y2 _ _ [(53, 20, 18, .q (xb false))] [] (ob (o_b h1407) ob0) (by kernel_rfl))
  ·exact zE (g := fun r => (Ex.nor, zec p0 v3 v5 v7 s11_6 s11_21 v1302 r)) g3 (y1 _ _ [(53, 20, 9, .q (xb false))] [] (ob (o_b h1404) ob0) (by kernel_rfl))
 ·exact zE (g := fun r => (Ex.nor, zec p0 v3 v5 v7 s11_6 s11_21 v1302 r)) g1 (zqe [(53, 20, 1, .q (xb false))] [] (ob (o_b h1401) ob0) (by kernel_rfl))
noncomputable def zkC (p0 : zd) (s11_6 : Bool) (v3 v5 v7 : zt3) (s11_21 : Int) : TM := [(0, (.d (.agg (za p0)))), (zsp 1), (2, (xi 0)), (3, (xb s11_6)), (40, (.d (dl zn p0.Shelves.1 p0.Shelves.2))), (41, (xi (p0.Shelves.1.length : Int))), (42, (xi v3.2)), (43, (xb false)), (61, (.d (dl zp p0.Moves.1 p0.Moves.2))), (62, (xi (p0.Moves.1.length : Int))), (63, (xi v5.2)), (64, (xb false)), (92, (.d (dl zm p0.Deliveries.1 p0.Deliveries.2))), (93, (xi (p0.Deliveries.1.length : Int))), (94, (xi v7.2)), (95, (xb false)), (123, (.d (dl zu p0.Counts.1 p0.Counts.2))), (124, (xi (p0.Counts.1.length : Int))), (125, (xi s11_21))]
noncomputable def zrp (p0 : zd) (v3 v5 v7 : zt3) (s11_6 : Bool) (s11_21 : Int) : St := ⟨(zkC p0 s11_6 v3 v5 v7 s11_21), ⟨[(zc 1 (za p0))], []⟩, []⟩
noncomputable def ztD (p0 : zd) (r v3 v5 v7 : zt3) : TM := [(0, (.d (.agg (za p0)))), (zsp 1), (2, (xi 0)), (3, (xb r.1)), (40, (.d (dl zn p0.Shelves.1 p0.Shelves.2))), (41, (xi (p0.Shelves.1.length : Int))), (42, (xi v3.2)), (43, (xb false)), (61, (.d (dl zp p0.Moves.1 p0.Moves.2))), (62, (xi (p0.Moves.1.length : Int))), (63, (xi v5.2)), (64, (xb false)), (92, (.d (dl zm p0.Deliveries.1 p0.Deliveries.2))), (93, (xi (p0.Deliveries.1.length : Int))), (94, (xi v7.2)), (95, (xb false)), (123, (.d (dl zu p0.Counts.1 p0.Counts.2))), (124, (xi (p0.Counts.1.length : Int))), (125, (xi r.2)), (126, (xb false))]
noncomputable def zZe (p0 : zd) (v3 v5 v7 r : zt3) : St := ⟨(ztD p0 r v3 v5 v7), ⟨[(zc 1 (za p0))], []⟩, []⟩
noncomputable def zep (p0 : zd) (v3 v5 v7 : zt3) : (Bool × Int) → Ex × St := fun r => ((.exit 6), zZe p0 v3 v5 v7 r)
theorem zCo (k : Nat) (p0 : zd) (v3 v5 v7 : zt3) (s11_6 : Bool) (s11_21 : Int) (x : (Bool × Int) ⊕ (Bool × Int)) (h : zjc k p0 v3 v5 v7 s11_6 s11_21 = some x) : zT TE 53 (blk TE 53 6) (fun s : (Bool × Int) => zrp p0 v3 v5 v7 s.1 s.2) (zep p0 v3 v5 v7) (s11_6, s11_21) x := by
 unfold zjc at h
 refine zr h (fun h1301 g1 => ?_) (fun h1301 g1 => ?_)
 ·refine zo g1 (fun v1302 h1303 g2 => ?_)
  refine zo g2 (fun v1304 h1305 g3 => ?_)
  exact zqn (v1304, (w64 (s11_21 + 1))) [] [(53, 18, 0, .q (xb true)), (53, 19, 0, .q (.d (.pin (zu v1302))))] [(53, 1000020, (.nor, zec p0 v3 v5 v7 s11_6 s11_21 v1302 v1304))] g3 (ob (o_b h1301) (ob (o_ia (e := zu) 4 h1303 rfl) (ob (zao k p0 v3 v5 v7 s11_6 s11_21 v1302 _ h1305) ob0))) (by kernel_rfl)
 ·exact zqo [(53, 18, 0, .q (xb false))] [] g1 (ob (o_b h1301) ob0) (by kernel_rfl)
theorem zmd (k : Nat) (p0 : zd) (r : Int) (h : zaf k p0 = some r) : zI TE (ev TE) 53 [(.agg (za p0))] = some (zkk r) := by
 unfold zaf at h
 refine zo h (fun v1 h2 g1 => ?_)
 refine zo g1 (fun v3 h4 g2 => ?_)
 refine zo g2 (fun v5 h6 g3 => ?_)
 refine zo g3 (fun v7 h8 g4 => ?_)
 refine zo g4 (fun v9 h10 g5 => ?_)
 have y1 := fun (d : D) (P : List Prop) (V : Ovs) (C : Cuts) (q : All P) h => (zqc ([(53, 2, 2, .q (xi (p0.Shelves.1.length : Int))), (53, 7, 2, .q (xi (p0.Moves.1.length : Int))), (53, 12, 2, .q (xi (p0.Deliveries.1.length : Int))), (53, 17, 2, .q (xi (p0.Counts.1.length : Int)))] ++ V) C (ob (z9o k p0 _ h2) (ob (zC zn p0.Shelves.1) (ob (zG (id := 0) (r' := (.nor, zif p0 v3)) (zUb (zvp k p0) k _ _ h4) rfl) (ob (zC zp p0.Moves.1) (ob (zG (id := 2) (r' := (.nor, zmf p0 v3 v5)) (zUb (zjp k p0 v3) k _ _ h6) rfl) (ob (zC zm p0.Deliveries.1) (ob (zG (id := 4) (r' := (.nor, ztf p0 v3 v5 v7)) (zUb (zkp k p0 v3 v5) k _ _ h8) rfl) (ob (zC zu p0.Counts.1) (ob (zG (id := 6) (r' := (.nor, zZe p0 v3 v5 v7 v9)) (zUb (zCo k p0 v3 v5 v7) k _ _ h10) rfl) q))))))))) h : zI TE (ev TE) 53 [(.agg (za p0))] = some d)
 refine zr g5 (fun h11 g6 => ?_) (fun h11 g6 => ?_)
 ·exact zP (g := zkk) g6 (y1 _ _ [(53, 22, 1, .q (xb true))] [(53, 1000001, (.nor, z5b p0 v1)), (53, 0, (.nor, zif p0 v3)), (53, 2, (.nor, zmf p0 v3 v5)), (53, 4, (.nor, ztf p0 v3 v5 v7)), (53, 6, (.nor, zZe p0 v3 v5 v7 v9))] (ob (o_b h11) ob0) (by kernel_rfl))
 ·exact zP (g := zkk) g6 (y1 _ _ [(53, 22, 1, .q (xb false))] [(53, 1000001, (.nor, z5b p0 v1)), (53, 0, (.nor, zif p0 v3)), (53, 2, (.nor, zmf p0 v3 v5)), (53, 4, (.nor, ztf p0 v3 v5 v7)), (53, 6, (.nor, zZe p0 v3 v5 v7 v9))] (ob (o_b h11) ob0) (by kernel_rfl))
noncomputable def zfC (p0 : zi) (s1_7 : Int) : TM := [(0, (.d (.agg (zq p0)))), (zsp 1), (zsp 2), (zsp 3), (4, (xi s1_7))]
noncomputable def zKm (p0 : zi) (s1_7 : Int) (s1_16 : zt0) : St := ⟨(zfC p0 s1_7), ⟨[(zc 1 (zq p0)), (zc 2 (aB 61 (fun _ => false))), (zc 3 (aB 61 s1_16))], []⟩, []⟩
noncomputable def z3C (p0 : zi) (r : zt16) : TM := [(0, (.d (.agg (zq p0)))), (zsp 1), (zsp 2), (zsp 3), (4, (xi r.1)), (24, (xb false))]
noncomputable def z3e (p0 : zi) (r : zt16) : St := ⟨(z3C p0 r), ⟨[(zc 1 (zq p0)), (zc 2 (aB 61 (fun _ => false))), (zc 3 (aB 61 r.2))], []⟩, []⟩
noncomputable def zXm (p0 : zi) : (Int × (Nat → Bool)) → Ex × St := fun r => ((.exit 0), z3e p0 r)
theorem zym (k : Nat) (p0 : zi) (s1_7 : Int) (s1_16 : zt0) (x : (Int × (Nat → Bool)) ⊕ (Int × (Nat → Bool))) (h : z8c k p0 s1_7 s1_16 = some x) : zT TE 138 (blk TE 138 0) (fun s : (Int × (Nat → Bool)) => zKm p0 s.1 s.2) (zXm p0) (s1_7, s1_16) x := by
 unfold z8c at h
 refine zo h (fun v201 h202 g1 => ?_)
 refine zr g1 (fun h203 g2 => ?_) (fun h203 g2 => ?_)
 ·refine z6 g2 (fun h204 g3 => ?_)
  exact zqn ((w64 (s1_7 + 1)), (upd s1_16 s1_7.toNat true)) [] [(138, 3, 6, .q (.d (.pin (zn v201)))), (138, 3, 10, .q (xb true)), (138, 5, 1, .q (.ptr 0 3 (s1_7.toNat))), (138, 5, 2, .st ((aB 61 (upd s1_16 s1_7.toNat true)).map .d))] [] g3 (ob (o_ia (e := zn) 3 h202 rfl) (ob (o_b h203) (ob (zAb (m := 61) 0 3 0 1 s1_7.toNat h204 (by omega)) (ob (zKk 61 s1_16 s1_7.toNat true (by have := h204; simp only [Bool.and_eq_true, decide_eq_true_eq] at this; omega)) ob0)))) (by kernel_rfl)
 ·exact zqo [(138, 3, 6, .q (.d (.pin (zn v201)))), (138, 3, 10, .q (xb false))] [] g2 (ob (o_ia (e := zn) 3 h202 rfl) (ob (o_b h203) ob0)) (by kernel_rfl)
theorem z1n (k : Nat) (p0 : zi) (r : zt0) (h : zje k p0 = some r) : zI TE (ev TE) 138 [(.agg (zq p0))] = some (zMj r) := by
 unfold zje at h
 refine zo h (fun v1 h2 g1 => ?_)
 refine zo g1 (fun v3 h4 g2 => ?_)
 exact zP (g := zMj) g2 (zqc [(138, 2, 5, .q (.d (.pin (zn v1))))] [(138, 0, (.nor, z3e p0 v3))] (ob (o_ia (e := zn) 3 h2 rfl) (ob (zG (id := 0) (r' := (.nor, z3e p0 v3)) (zUb (zym k p0) k _ _ h4) rfl) ob0)) (by kernel_rfl))
theorem z5f (k : Nat) (r : zt0) (h : zHe k = some r) : zI TE (ev TE) 139 [] = some (zLl r) := by
 unfold zHe at h
 exact zP (g := zLl) h (zqc [] [] ob0 (by kernel_rfl))
theorem zfk (k : Nat) (p0 : zi) (p1 p2 : Int) (r : zt6) (h : zGd k p0 p1 p2 = some r) : zI TE (ev TE) 140 [(.agg (zq p0)), (di p1), (di p2)] = some (zwk r) := by
 unfold zGd at h
 exact zP (g := zwk) h (zqc [] [] ob0 (by kernel_rfl))
noncomputable def z9C (p0 : zi) (p1 p2 : Int) (s1_20 : zt15) (s1_12 : Int) : TM := [(0, (.d (.agg (zq p0)))), (1, (xi p1)), (2, (xi p2)), (zsp 3), (6, (.d (.sl [] .nil))), (7, (.row 0 7 s1_20.length)), (15, (.d (dl zm p0.ShelfBook.Deliveries.1 p0.ShelfBook.Deliveries.2))), (16, (xi (p0.ShelfBook.Deliveries.1.length : Int))), (17, (xi s1_12))]
noncomputable def zZm (p0 : zi) (p1 p2 s1_12 : Int) (s1_20 : zt15) : St := ⟨(z9C p0 p1 p2 s1_20 s1_12), ⟨[(zc 3 (zq p0)), (7, (rowO true 3 zN s1_20 true))], []⟩, []⟩
noncomputable def zyC (p0 : zi) (p1 p2 : Int) (r : zt14) : TM := [(0, (.d (.agg (zq p0)))), (1, (xi p1)), (2, (xi p2)), (zsp 3), (6, (.d (.sl [] .nil))), (7, (.row 0 7 r.2.length)), (15, (.d (dl zm p0.ShelfBook.Deliveries.1 p0.ShelfBook.Deliveries.2))), (16, (xi (p0.ShelfBook.Deliveries.1.length : Int))), (17, (xi r.1)), (18, (xb false))]
noncomputable def zdf (p0 : zi) (p1 p2 : Int) (r : zt14) : St := ⟨(zyC p0 p1 p2 r), ⟨[(zc 3 (zq p0)), (7, (rowO true 3 zN r.2 true))], []⟩, []⟩
noncomputable def zTm (p0 : zi) (p1 p2 : Int) : (Int × (List zF)) → Ex × St := fun r => ((.exit 0), zdf p0 p1 p2 r)
theorem z4l (k : Nat) (p0 : zi) (p1 p2 s1_12 : Int) (s1_20 : zt15) (x : (Int × (List zF)) ⊕ (Int × (List zF))) (h : z3c k p0 p1 p2 s1_12 s1_20 = some x) : zT TE 141 (blk TE 141 0) (fun s : (Int × (List zF)) => zZm p0 p1 p2 s.1 s.2) (zTm p0 p1 p2) (s1_12, s1_20) x := by
 unfold z3c at h
 refine zr h (fun h301 g1 => ?_) (fun h301 g1 => ?_)
 ·refine zo g1 (fun v302 h303 g2 => ?_)
  refine zr g2 (fun h304 g3 => ?_) (fun h304 g3 => ?_)
  ·cases g3
  ·refine zr g3 (fun h305 g4 => ?_) (fun h305 g4 => ?_)
   ·refine z6 g4 (fun h306 g5 => ?_)
    exact zqn ((w64 (s1_12 + 1)), (s1_20 ++ [(⟨1, v302.By⟩ : zF)])) [7] [(141, 3, 0, .q (xb true)), (141, 4, 1, .q (.d (.pin (zm v302)))), (141, 5, 2, .q (xi (zY p2 s1_12))), (141, 5, 4, .q (xb true)), (141, 6, 5, .ap (s1_20 ++ [(⟨1, v302.By⟩ : zF)]).length (rowO true 3 zN (s1_20 ++ [(⟨1, v302.By⟩ : zF)]) true))] [] g5 (ob (o_b h301) (ob (o_ia (e := zm) 5 h303 rfl) (ob (zYd (x := p2) h304) (ob (o_b h305) (ob (o_ap (b := true) (z := 3) (e := zN) (l := s1_20) (w := true) (⟨1, v302.By⟩ : zF) (fun _ => rfl) h306) (ob (zre true 3 zN (s1_20 ++ [(⟨1, v302.By⟩ : zF)]) true) ob0)))))) (by kernel_rfl)
   ·exact zqn ((w64 (s1_12 + 1)), s1_20) [7] [(141, 3, 0, .q (xb true)), (141, 4, 1, .q (.d (.pin (zm v302)))), (141, 5, 2, .q (xi (zY p2 s1_12))), (141, 5, 4, .q (xb false))] [] g4 (ob (o_b h301) (ob (o_ia (e := zm) 5 h303 rfl) (ob (zYd (x := p2) h304) (ob (o_b h305) (ob (zre true 3 zN s1_20 true) ob0))))) (by kernel_rfl)
 ·exact zqo [(141, 3, 0, .q (xb false))] [] g1 (ob (o_b h301) ob0) (by kernel_rfl)
noncomputable def zrD (p0 : zi) (p1 p2 : Int) (s3_24 : zt15) (v1 : zt14) (s3_16 : Int) (r : Bool) : TM := [(0, (.d (.agg (zq p0)))), (1, (xi p1)), (2, (xi p2)), (zsp 3), (6, (.d (.sl [] .nil))), (7, (.row 0 7 s3_24.length)), (15, (.d (dl zm p0.ShelfBook.Deliveries.1 p0.ShelfBook.Deliveries.2))), (16, (xi (p0.ShelfBook.Deliveries.1.length : Int))), (17, (xi v1.1)), (18, (xb false)), (36, (.d (dl zp p0.ShelfBook.Moves.1 p0.ShelfBook.Moves.2))), (37, (xi (p0.ShelfBook.Moves.1.length : Int))), (38, (xi s3_16)), (39, (xb true)), (zsp 11), (52, (xb r))]
noncomputable def zAc (p0 : zi) (p1 p2 : Int) (v1 : zt14) (s3_16 : Int) (s3_24 : zt15) (v702 : zw) (r : Bool) : St := ⟨(zrD p0 p1 p2 s3_24 v1 s3_16 r), ⟨[(zc 3 (zq p0)), (7, (rowO true 3 zN s3_24 true)), (zc 11 (zp v702))], []⟩, []⟩
noncomputable def zAx (p0 : zi) (p1 p2 : Int) (s3_24 : zt15) (v1 : zt14) (s3_16 : Int) : TM := [(0, (.d (.agg (zq p0)))), (1, (xi p1)), (2, (xi p2)), (zsp 3), (6, (.d (.sl [] .nil))), (7, (.row 0 7 s3_24.length)), (15, (.d (dl zm p0.ShelfBook.Deliveries.1 p0.ShelfBook.Deliveries.2))), (16, (xi (p0.ShelfBook.Deliveries.1.length : Int))), (17, (xi v1.1)), (18, (xb false)), (36, (.d (dl zp p0.ShelfBook.Moves.1 p0.ShelfBook.Moves.2))), (37, (xi (p0.ShelfBook.Moves.1.length : Int))), (38, (xi s3_16)), (39, (xb true)), (zsp 11)]
theorem zCh (k : Nat) (p0 : zi) (p1 p2 : Int) (v1 : zt14) (s3_16 : Int) (s3_24 : zt15) (v702 : zw) (r : Bool) (h : zoe k p0 p1 p2 v1 s3_16 s3_24 v702 = some r) : ev TE 141 (rgn TE 141 11) ⟨(zAx p0 p1 p2 s3_24 v1 s3_16), ⟨[(zc 3 (zq p0)), (7, (rowO true 3 zN s3_24 true)), (zc 11 (zp v702))], []⟩, []⟩ = some (.nor, zAc p0 p1 p2 v1 s3_16 s3_24 v702 r) := by
 unfold zoe at h
 refine zr h (fun h801 g1 => ?_) (fun h801 g1 => ?_)
 ·exact zE (g := fun r => (Ex.nor, zAc p0 p1 p2 v1 s3_16 s3_24 v702 r)) g1 (zqe [(141, 11, 4, .q (xb true))] [] (ob (o_b h801) ob0) (by kernel_rfl))
 ·exact zE (g := fun r => (Ex.nor, zAc p0 p1 p2 v1 s3_16 s3_24 v702 r)) g1 (zqe [(141, 11, 4, .q (xb false))] [] (ob (o_b h801) ob0) (by kernel_rfl))
noncomputable def zKd (p0 : zi) (p1 p2 : Int) (v1 : zt14) (s3_16 : Int) (s3_24 : zt15) (v702 : zw) (cb : Bool) (r : zt3) : St := ⟨(zAx p0 p1 p2 s3_24 v1 s3_16 ++ [(52, (xb true)), (zsp 12), (57, (xb r.1))]), ⟨[(zc 3 (zq p0)), (7, (rowO true 3 zN s3_24 true)), (zc 11 (zp v702)), (12, (.cells [(xi r.2), (xi v702.By.Low), (xi v702.By.High)]))], []⟩, []⟩
theorem z3l (k : Nat) (p0 : zi) (p1 p2 : Int) (v1 : zt14) (s3_16 : Int) (s3_24 : zt15) (v702 : zw) (cb : Bool) (r : zt3) (h : zvg k p0 p1 p2 v1 s3_16 s3_24 v702 cb = some r) : ev TE 141 (cnd TE 141 57) ⟨(zAx p0 p1 p2 s3_24 v1 s3_16 ++ [(52, (xb true)), (zsp 12), (57, (xb cb))]), ⟨[(zc 3 (zq p0)), (7, (rowO true 3 zN s3_24 true)), (zc 11 (zp v702)), (12, (.cells [(xi 0), (xi v702.By.Low), (xi v702.By.High)]))], []⟩, []⟩ = some (.nor, zKd p0 p1 p2 v1 s3_16 s3_24 v702 cb r) := by
 unfold zvg at h
 refine zr h (fun h1001 g1 => ?_) (fun h1001 g1 => ?_)
 ·subst h1001
  exact zE (g := fun r => (Ex.nor, zKd p0 p1 p2 v1 s3_16 s3_24 v702 true r)) g1 (zqe [] [] ob0 (by kernel_rfl))
 ·subst h1001
  exact zE (g := fun r => (Ex.nor, zKd p0 p1 p2 v1 s3_16 s3_24 v702 false r)) g1 (zqe [] [] ob0 (by kernel_rfl))
noncomputable def zzC (p0 : zi) (p1 p2 : Int) (s3_24 : zt15) (v1 : zt14) (s3_16 : Int) : TM := [(0, (.d (.agg (zq p0)))), (1, (xi p1)), (2, (xi p2)), (zsp 3), (6, (.d (.sl [] .nil))), (7, (.row 0 7 s3_24.length)), (15, (.d (dl zm p0.ShelfBook.Deliveries.1 p0.ShelfBook.Deliveries.2))), (16, (xi (p0.ShelfBook.Deliveries.1.length : Int))), (17, (xi v1.1)), (18, (xb false)), (36, (.d (dl zp p0.ShelfBook.Moves.1 p0.ShelfBook.Moves.2))), (37, (xi (p0.ShelfBook.Moves.1.length : Int))), (38, (xi s3_16))]
noncomputable def z3m (p0 : zi) (p1 p2 : Int) (v1 : zt14) (s3_16 : Int) (s3_24 : zt15) : St := ⟨(zzC p0 p1 p2 s3_24 v1 s3_16), ⟨[(zc 3 (zq p0)), (7, (rowO true 3 zN s3_24 true))], []⟩, []⟩
noncomputable def zwD (p0 : zi) (p1 p2 : Int) (r v1 : zt14) : TM := [(0, (.d (.agg (zq p0)))), (1, (xi p1)), (2, (xi p2)), (zsp 3), (6, (.d (.sl [] .nil))), (7, (.row 0 7 r.2.length)), (15, (.d (dl zm p0.ShelfBook.Deliveries.1 p0.ShelfBook.Deliveries.2))), (16, (xi (p0.ShelfBook.Deliveries.1.length : Int))), (17, (xi v1.1)), (18, (xb false)), (36, (.d (dl zp p0.ShelfBook.Moves.1 p0.ShelfBook.Moves.2))), (37, (xi (p0.ShelfBook.Moves.1.length : Int))), (38, (xi r.1)), (39, (xb false))]
noncomputable def zef (p0 : zi) (p1 p2 : Int) (v1 r : zt14) : St := ⟨(zwD p0 p1 p2 r v1), ⟨[(zc 3 (zq p0)), (7, (rowO true 3 zN r.2 true))], []⟩, []⟩
noncomputable def zan (p0 : zi) (p1 p2 : Int) (v1 : zt14) : (Int × (List zF)) → Ex × St := fun r => ((.exit 2), zef p0 p1 p2 v1 r)
theorem zdm (k : Nat) (p0 : zi) (p1 p2 : Int) (v1 : zt14) (s3_16 : Int) (s3_24 : zt15) (x : (Int × (List zF)) ⊕ (Int × (List zF))) (h : z9c k p0 p1 p2 v1 s3_16 s3_24 = some x) : zT TE 141 (blk TE 141 2) (fun s : (Int × (List zF)) => z3m p0 p1 p2 v1 s.1 s.2) (zan p0 p1 p2 v1) (s3_16, s3_24) x := by
 unfold z9c at h
 refine zr h (fun h701 g1 => ?_) (fun h701 g1 => ?_)
 ·refine zo g1 (fun v702 h703 g2 => ?_)
  refine zo g2 (fun v704 h705 g3 => ?_)
  refine zr g3 (fun h706 g4 => ?_) (fun h706 g4 => ?_)
  ·subst h706
   refine zo g4 (fun v707 h708 g5 => ?_)
   refine z6 g5 (fun h709 g6 => ?_)
   exact zqn ((w64 (s3_16 + 1)), (s3_24 ++ [(⟨v707.2, v702.By⟩ : zF)])) [7] [(141, 9, 0, .q (xb true)), (141, 10, 0, .q (.d (.pin (zp v702)))), (141, 15, 3, .ap (s3_24 ++ [(⟨v707.2, v702.By⟩ : zF)]).length (rowO true 3 zN (s3_24 ++ [(⟨v707.2, v702.By⟩ : zF)]) true))] [(141, 1000011, (.nor, zAc p0 p1 p2 v1 s3_16 s3_24 v702 true)), (141, 2000057, (.nor, zKd p0 p1 p2 v1 s3_16 s3_24 v702 v702.Back v707))] g6 (ob (o_b h701) (ob (o_ia (e := zp) 5 h703 rfl) (ob (zCh k p0 p1 p2 v1 s3_16 s3_24 v702 _ h705) (ob (z3l k p0 p1 p2 v1 s3_16 s3_24 v702 v702.Back _ h708) (ob (o_ap (b := true) (z := 3) (e := zN) (l := s3_24) (w := true) (⟨v707.2, v702.By⟩ : zF) (fun _ => rfl) h709) (ob (zre true 3 zN (s3_24 ++ [(⟨v707.2, v702.By⟩ : zF)]) true) ob0)))))) (by kernel_rfl)
  ·subst h706
   exact zqn ((w64 (s3_16 + 1)), s3_24) [7] [(141, 9, 0, .q (xb true)), (141, 10, 0, .q (.d (.pin (zp v702))))] [(141, 1000011, (.nor, zAc p0 p1 p2 v1 s3_16 s3_24 v702 false))] g4 (ob (o_b h701) (ob (o_ia (e := zp) 5 h703 rfl) (ob (zCh k p0 p1 p2 v1 s3_16 s3_24 v702 _ h705) (ob (zre true 3 zN s3_24 true) ob0)))) (by kernel_rfl)
 ·exact zqo [(141, 9, 0, .q (xb false))] [] g1 (ob (o_b h701) ob0) (by kernel_rfl)
theorem zZi (k : Nat) (p0 : zi) (p1 p2 : Int) (r : (SL zF)) (h : zfd k p0 p1 p2 = some r) : zI TE (ev TE) 141 [(.agg (zq p0)), (di p1), (di p2)] = some (zik r) := by
 unfold zfd at h
 refine zo h (fun v1 h2 g1 => ?_)
 refine zo g1 (fun v3 h4 g2 => ?_)
 exact zP (g := zik) g2 (zqr [(141, 2, 3, .q (xi (p0.ShelfBook.Deliveries.1.length : Int))), (141, 8, 3, .q (xi (p0.ShelfBook.Moves.1.length : Int)))] [(141, 0, (.nor, zdf p0 p1 p2 v1)), (141, 2, (.nor, zef p0 p1 p2 v1 v3))] [(dl zN v3.2 (rcap true v3.2))] (ob (zC zm p0.ShelfBook.Deliveries.1) (ob (zG (id := 0) (r' := (.nor, zdf p0 p1 p2 v1)) (zUb (z4l k p0 p1 p2) k _ _ h2) rfl) (ob (zC zp p0.ShelfBook.Moves.1) (ob (zG (id := 2) (r' := (.nor, zef p0 p1 p2 v1 v3)) (zUb (zdm k p0 p1 p2 v1) k _ _ h4) rfl) (ob (show zFc ⟨[(7, (rowO true 3 zN v3.2 true))], []⟩ _ = _ from (o_s1 (x := (.row 0 7 v3.2.length)) (zMw true 3 zN v3.2 true rfl) o_s0)) ob0))))) (by kernel_rfl))
theorem z1c (k : Nat) (p0 r : zt0) (h : znb k p0 = some r) : zI TE (ev TE) 104 [(.agg (aB 61 p0))] = some (zAh r) := by
 unfold znb at h
 exact zP (g := zAh) h (zqc [] [] ob0 (by kernel_rfl))
theorem zGo (k : Nat) (p0 : zi) (p1 p2 r : Int) (h : zDg k p0 p1 p2 = some r) : zI TE (ev TE) 273 [(.agg (zq p0)), (di p1), (di p2)] = some (zyk r) := by
 unfold zDg at h
 exact zP (g := zyk) h (zqc [] [] ob0 (by kernel_rfl))
theorem zbo (k : Nat) (p0 : zi) (p1 p2 r : Int) (h : zBg k p0 p1 p2 = some r) : zI TE (ev TE) 274 [(.agg (zq p0)), (di p1), (di p2)] = some (zuk r) := by
 unfold zBg at h
 exact zP (g := zuk) h (zqc [] [] ob0 (by kernel_rfl))
noncomputable def zrC (p0 : zi) (p1 : zt0) (p2 : Int) (p3 : zD) (v1 : zt0) (s1_2 s9_14 v1203 : Int) (r : (Bool × (Nat → Bool))) : TM := [(0, (.d (.agg (zq p0)))), (1, (.d (.agg (aB 61 p1)))), (2, (xi p2)), (3, (.d (.agg [(di p3.Low), (di p3.High)]))), (zsp 4), (zsp 5), (zsp 6), (zsp 7), (zsp 8), (zsp 9), (14, (.d (.fn 145 [] [(.pin (aB 61 v1))]))), (15, (xi s1_2)), (10, (xi s1_2)), (11, (xi s9_14)), (21, (xb true)), (12, (xi v1203)), (40, (xb r.1))]
noncomputable def z0h (p0 : zi) (p1 : zt0) (p2 : Int) (p3 : zD) (v1 : zt0) : TM := [(0, (.d (.agg (zq p0)))), (1, (.d (.agg (aB 61 p1)))), (2, (xi p2)), (3, (.d (.agg [(di p3.Low), (di p3.High)]))), (zsp 4), (zsp 5), (zsp 6), (zsp 7), (zsp 8), (zsp 9), (14, (.d (.fn 145 [] [(.pin (aB 61 v1))])))]
noncomputable def zqd (p0 : zi) (p1 : zt0) (p2 : Int) (p3 : zD) (v1 : zt0) (s1_2 s9_14 : Int) (s9_27 : zt0) (v1203 : Int) (v1207 : Bool) (r : (Bool × (Nat → Bool))) : St := ⟨(zrC p0 p1 p2 p3 v1 s1_2 s9_14 v1203 r), ⟨[], [[(zc 4 (zq p0)), (zc 5 (aB 61 p1)), (6, (.cells [(xi p2)])), (7, (.cells [(xi p3.Low), (xi p3.High)])), (zc 8 (aB 61 (fun _ => false))), (zc 9 (aB 61 r.2))], []]⟩, [⟨(z0h p0 p1 p2 p3 v1), 0, rfP (blk TE 142 0), rfA (blk TE 142 0), rfB (blk TE 142 0), 142, .busy⟩]⟩
noncomputable def zYC (p0 : zi) (p1 : zt0) (p2 : Int) (p3 : zD) (v1 : zt0) (s1_2 s9_14 v1203 : Int) (v1207 : Bool) : TM := z0h p0 p1 p2 p3 v1 ++ [(15, (xi s1_2)), (10, (xi s1_2)), (11, (xi s9_14)), (21, (xb true)), (12, (xi v1203)), (40, (xb v1207))]
theorem zxl (k : Nat) (p0 : zi) (p1 : zt0) (p2 : Int) (p3 : zD) (v1 : zt0) (s1_2 s9_14 : Int) (s9_27 : zt0) (v1203 : Int) (v1207 : Bool) (r : (Bool × (Nat → Bool))) (h : zKc k p0 p1 p2 p3 v1 s1_2 s9_14 s9_27 v1203 v1207 = some r) : ev TE 142 (cnd TE 142 40) ⟨(zYC p0 p1 p2 p3 v1 s1_2 s9_14 v1203 v1207), ⟨[], [[(zc 4 (zq p0)), (zc 5 (aB 61 p1)), (6, (.cells [(xi p2)])), (7, (.cells [(xi p3.Low), (xi p3.High)])), (zc 8 (aB 61 (fun _ => false))), (zc 9 (aB 61 s9_27))], []]⟩, [⟨(z0h p0 p1 p2 p3 v1), 0, rfP (blk TE 142 0), rfA (blk TE 142 0), rfB (blk TE 142 0), 142, .busy⟩]⟩ = some (.nor, zqd p0 p1 p2 p3 v1 s1_2 s9_14 s9_27 v1203 v1207 r) := by
 unfold zKc at h
 refine zr h (fun h1301 g1 => ?_) (fun h1301 g1 => ?_)
 ·subst h1301
  refine z6 g1 (fun h1302 g2 => ?_)
  exact zE (g := fun r => (Ex.nor, zqd p0 p1 p2 p3 v1 s1_2 s9_14 s9_27 v1203 true r)) g2 (zqe [(142, 9, 1, .q (.ptr 0 9 (v1203.toNat))), (142, 9, 2, .st ((aB 61 (upd s9_27 v1203.toNat true)).map .d))] [] (ob (zAb (m := 61) 0 9 0 1 v1203.toNat h1302 (by omega)) (ob (zKk 61 s9_27 v1203.toNat true (by have := h1302; simp only [Bool.and_eq_true, decide_eq_true_eq] at this; omega)) ob0)) (by kernel_rfl))
 ·subst h1301
  exact zE (g := fun r => (Ex.nor, zqd p0 p1 p2 p3 v1 s1_2 s9_14 s9_27 v1203 false r)) g1 (zqe [] [] ob0 (by kernel_rfl))
noncomputable def z4C (p0 : zi) (p1 : zt0) (p2 : Int) (p3 : zD) (v1 : zt0) (s1_2 s9_14 v1204 : Int) (r : (Bool × (Nat → Bool))) : TM := z0h p0 p1 p2 p3 v1 ++ [(15, (xi s1_2)), (10, (xi s1_2)), (11, (xi s9_14)), (21, (xb true)), (12, (xi v1204)), (40, (xb r.1))]
noncomputable def zpd (p0 : zi) (p1 : zt0) (p2 : Int) (p3 : zD) (v1 : zt0) (s1_2 s9_14 : Int) (s9_27 : zt0) (v1204 : Int) (v1208 : Bool) (r : (Bool × (Nat → Bool))) : St := ⟨(z4C p0 p1 p2 p3 v1 s1_2 s9_14 v1204 r), ⟨[], [[(zc 4 (zq p0)), (zc 5 (aB 61 p1)), (6, (.cells [(xi p2)])), (7, (.cells [(xi p3.Low), (xi p3.High)])), (zc 8 (aB 61 (fun _ => false))), (zc 9 (aB 61 r.2))], []]⟩, [⟨(z0h p0 p1 p2 p3 v1), 0, rfP (blk TE 142 0), rfA (blk TE 142 0), rfB (blk TE 142 0), 142, .busy⟩]⟩
noncomputable def zvC (p0 : zi) (p1 : zt0) (p2 : Int) (p3 : zD) (v1 : zt0) (s1_2 s9_14 v1204 : Int) (v1208 : Bool) : TM := z0h p0 p1 p2 p3 v1 ++ [(15, (xi s1_2)), (10, (xi s1_2)), (11, (xi s9_14)), (21, (xb true)), (12, (xi v1204)), (40, (xb v1208))]
theorem zBl (k : Nat) (p0 : zi) (p1 : zt0) (p2 : Int) (p3 : zD) (v1 : zt0) (s1_2 s9_14 : Int) (s9_27 : zt0) (v1204 : Int) (v1208 : Bool) (r : (Bool × (Nat → Bool))) (h : zMc k p0 p1 p2 p3 v1 s1_2 s9_14 s9_27 v1204 v1208 = some r) : ev TE 142 (cnd TE 142 40) ⟨(zvC p0 p1 p2 p3 v1 s1_2 s9_14 v1204 v1208), ⟨[], [[(zc 4 (zq p0)), (zc 5 (aB 61 p1)), (6, (.cells [(xi p2)])), (7, (.cells [(xi p3.Low), (xi p3.High)])), (zc 8 (aB 61 (fun _ => false))), (zc 9 (aB 61 s9_27))], []]⟩, [⟨(z0h p0 p1 p2 p3 v1), 0, rfP (blk TE 142 0), rfA (blk TE 142 0), rfB (blk TE 142 0), 142, .busy⟩]⟩ = some (.nor, zpd p0 p1 p2 p3 v1 s1_2 s9_14 s9_27 v1204 v1208 r) := by
 unfold zMc at h
 refine zr h (fun h1401 g1 => ?_) (fun h1401 g1 => ?_)
 ·subst h1401
  refine z6 g1 (fun h1402 g2 => ?_)
  exact zE (g := fun r => (Ex.nor, zpd p0 p1 p2 p3 v1 s1_2 s9_14 s9_27 v1204 true r)) g2 (zqe [(142, 9, 1, .q (.ptr 0 9 (v1204.toNat))), (142, 9, 2, .st ((aB 61 (upd s9_27 v1204.toNat true)).map .d))] [] (ob (zAb (m := 61) 0 9 0 1 v1204.toNat h1402 (by omega)) (ob (zKk 61 s9_27 v1204.toNat true (by have := h1402; simp only [Bool.and_eq_true, decide_eq_true_eq] at this; omega)) ob0)) (by kernel_rfl))
 ·subst h1401
  exact zE (g := fun r => (Ex.nor, zpd p0 p1 p2 p3 v1 s1_2 s9_14 s9_27 v1204 false r)) g1 (zqe [] [] ob0 (by kernel_rfl))
noncomputable def zPm (p0 : zi) (p1 : zt0) (p2 : Int) (p3 : zD) (v1 : zt0) (s1_2 s9_14 : Int) (s9_27 : zt0) : St := ⟨(z0h p0 p1 p2 p3 v1 ++ [(15, (xi s1_2)), (10, (xi s1_2)), (11, (xi s9_14))]), ⟨[], [[(zc 4 (zq p0)), (zc 5 (aB 61 p1)), (6, (.cells [(xi p2)])), (7, (.cells [(xi p3.Low), (xi p3.High)])), (zc 8 (aB 61 (fun _ => false))), (zc 9 (aB 61 s9_27))], []]⟩, [⟨(z0h p0 p1 p2 p3 v1), 0, rfP (blk TE 142 0), rfA (blk TE 142 0), rfB (blk TE 142 0), 142, .busy⟩]⟩
noncomputable def z9e (p0 : zi) (p1 : zt0) (p2 : Int) (p3 : zD) (v1 : zt0) (s1_2 : Int) (r : zt16) : St := ⟨(z0h p0 p1 p2 p3 v1 ++ [(15, (xi s1_2)), (10, (xi s1_2)), (11, (xi r.1)), (21, (xb false))]), ⟨[], [[(zc 4 (zq p0)), (zc 5 (aB 61 p1)), (6, (.cells [(xi p2)])), (7, (.cells [(xi p3.Low), (xi p3.High)])), (zc 8 (aB 61 (fun _ => false))), (zc 9 (aB 61 r.2))], []]⟩, [⟨(z0h p0 p1 p2 p3 v1), 0, rfP (blk TE 142 0), rfA (blk TE 142 0), rfB (blk TE 142 0), 142, .busy⟩]⟩
noncomputable def zzm (p0 : zi) (p1 : zt0) (p2 : Int) (p3 : zD) (v1 : zt0) (s1_2 : Int) : (Int × (Nat → Bool)) → Ex × St := fun r => ((.exit 2), z9e p0 p1 p2 p3 v1 s1_2 r)
theorem zlm (k : Nat) (p0 : zi) (p1 : zt0) (p2 : Int) (p3 : zD) (v1 : zt0) (s1_2 s9_14 : Int) (s9_27 : zt0) (x : (Int × (Nat → Bool)) ⊕ (Int × (Nat → Bool))) (h : zWb k p0 p1 p2 p3 v1 s1_2 s9_14 s9_27 = some x) : zT TE 142 (blk TE 142 2) (fun s : (Int × (Nat → Bool)) => zPm p0 p1 p2 p3 v1 s1_2 s.1 s.2) (zzm p0 p1 p2 p3 v1 s1_2) (s9_14, s9_27) x := by
 unfold zWb at h
 refine zr h (fun h1201 g1 => ?_) (fun h1201 g1 => ?_)
 ·refine zr g1 (fun h1202 g2 => ?_) (fun h1202 g2 => ?_)
  ·refine zo g2 (fun v1203 h1204 g3 => ?_)
   refine zo g3 (fun v1205 h1206 g4 => ?_)
   refine zo g4 (fun v1207 h1208 g5 => ?_)
   refine zo g5 (fun v1209 h1210 g6 => ?_)
   exact zqn ((w64 (s9_14 + 1)), v1209.2) [] [(142, 5, 3, .q (xb true)), (142, 7, 1, .q (.d (.pin [(.fn 273 [] []), (.fn 274 [] [])]))), (142, 7, 6, .c (di v1203)), (142, 8, 6, .q (.d (.pin (zn v1205)))), (142, 8, 9, .c (db v1207))] [(142, 2000040, (.nor, zqd p0 p1 p2 p3 v1 s1_2 s9_14 s9_27 v1203 v1207 v1209))] g6 (ob (o_b h1201) (ob (zlx [(.fn 273 [] []), (.fn 274 [] [])] 2 1 (j := 0) (eq_of_beq h1202) (by decide)) (ob (zGo k p0 s1_2 s9_14 _ h1204) (ob (o_ia (e := zn) 3 h1206 rfl) (ob (zM k v1203 0 v1205.Room _ h1208) (ob (zxl k p0 p1 p2 p3 v1 s1_2 s9_14 s9_27 v1203 v1207 _ h1210) ob0)))))) (by kernel_rfl)
  ·refine zr g2 (fun h1203 g3 => ?_) (fun h1203 g3 => ?_)
   ·refine zo g3 (fun v1204 h1205 g4 => ?_)
    refine zo g4 (fun v1206 h1207 g5 => ?_)
    refine zo g5 (fun v1208 h1209 g6 => ?_)
    refine zo g6 (fun v1210 h1211 g7 => ?_)
    exact zqn ((w64 (s9_14 + 1)), v1210.2) [] [(142, 5, 3, .q (xb true)), (142, 7, 1, .q (.d (.pin [(.fn 274 [] [])]))), (142, 7, 6, .c (di v1204)), (142, 8, 6, .q (.d (.pin (zn v1206)))), (142, 8, 9, .c (db v1208))] [(142, 2000040, (.nor, zpd p0 p1 p2 p3 v1 s1_2 s9_14 s9_27 v1204 v1208 v1210))] g7 (ob (o_b h1201) (ob (zlx [(.fn 273 [] []), (.fn 274 [] [])] 2 1 (j := 1) (eq_of_beq h1203) (by decide)) (ob (zbo k p0 s1_2 s9_14 _ h1205) (ob (o_ia (e := zn) 3 h1207 rfl) (ob (zM k v1204 0 v1206.Room _ h1209) (ob (zBl k p0 p1 p2 p3 v1 s1_2 s9_14 s9_27 v1204 v1208 _ h1211) ob0)))))) (by kernel_rfl)
   ·cases g3
 ·exact zqo [(142, 5, 3, .q (xb false))] [] g1 (ob (o_b h1201) ob0) (by kernel_rfl)
noncomputable def zbD (v1 : zt0) (s1_2 : Int) : TM := [(0, (.yld 0)), (1, (.d (.pin (aB 61 v1)))), (5, (.d (.agg (aB 61 v1)))), (6, (xi s1_2)), (7, (xb true)), (3, (xi s1_2)), (4, (xb (v1 s1_2.toNat))), (16, (xb false))]
noncomputable def zMd (p0 : zi) (p1 : zt0) (p2 : Int) (p3 : zD) (v1 : zt0) (s1_2 : Int) (s1_15 r : zt0) : St := ⟨(zbD v1 s1_2), ⟨[], [[(zc 4 (zq p0)), (zc 5 (aB 61 p1)), (6, (.cells [(xi p2)])), (7, (.cells [(xi p3.Low), (xi p3.High)])), (zc 8 (aB 61 (fun _ => false))), (zc 9 (aB 61 r))]]⟩, [⟨(z0h p0 p1 p2 p3 v1), 0, rfP (blk TE 142 0), rfA (blk TE 142 0), rfB (blk TE 142 0), 142, .rdy⟩]⟩
noncomputable def zjC (v1 : zt0) (s1_2 : Int) : TM := [(0, (.yld 0)), (1, (.d (.pin (aB 61 v1)))), (5, (.d (.agg (aB 61 v1)))), (6, (xi s1_2)), (7, (xb true)), (3, (xi s1_2)), (4, (xb (v1 s1_2.toNat)))]
theorem zxm (k : Nat) (p0 : zi) (p1 : zt0) (p2 : Int) (p3 : zD) (v1 : zt0) (s1_2 : Int) (s1_15 r : zt0) (h : zte k p0 p1 p2 p3 v1 s1_2 s1_15 = some r) : ev TE 145 (rgn TE 145 3) ⟨(zjC v1 s1_2), ⟨[], [[(zc 4 (zq p0)), (zc 5 (aB 61 p1)), (6, (.cells [(xi p2)])), (7, (.cells [(xi p3.Low), (xi p3.High)])), (zc 8 (aB 61 (fun _ => false))), (zc 9 (aB 61 s1_15))]]⟩, [⟨(z0h p0 p1 p2 p3 v1), 0, rfP (blk TE 142 0), rfA (blk TE 142 0), rfB (blk TE 142 0), 142, .rdy⟩]⟩ = some (.nor, zMd p0 p1 p2 p3 v1 s1_2 s1_15 r) := by
 unfold zte at h
 refine zr h (fun h901 g1 => ?_) (fun h901 g1 => ?_)
 ·refine zo g1 (fun v902 h903 g2 => ?_)
  exact zE (g := fun r => (Ex.nor, zMd p0 p1 p2 p3 v1 s1_2 s1_15 r)) g2 (zqe [(145, 3, 1, .q (xb true))] [(142, 2, (.nor, z9e p0 p1 p2 p3 v1 s1_2 v902))] (ob (o_b h901) (ob (zG (id := 2) (r' := (.nor, z9e p0 p1 p2 p3 v1 s1_2 v902)) (zUb (zlm k p0 p1 p2 p3 v1 s1_2) k _ _ h903) rfl) ob0)) (by kernel_rfl))
 ·exact zE (g := fun r => (Ex.nor, zMd p0 p1 p2 p3 v1 s1_2 s1_15 r)) g1 (zqe [(145, 3, 1, .q (xb false))] [] (ob (o_b h901) ob0) (by kernel_rfl))
noncomputable def zqD (v1 : zt0) (s1_2 : Int) : TM := [(0, (.yld 0)), (1, (.d (.pin (aB 61 v1)))), (5, (.d (.agg (aB 61 v1)))), (6, (xi s1_2))]
noncomputable def zEm (p0 : zi) (p1 : zt0) (p2 : Int) (p3 : zD) (v1 : zt0) (s1_2 : Int) (s1_15 : zt0) : St := ⟨(zqD v1 s1_2), ⟨[], [[(zc 4 (zq p0)), (zc 5 (aB 61 p1)), (6, (.cells [(xi p2)])), (7, (.cells [(xi p3.Low), (xi p3.High)])), (zc 8 (aB 61 (fun _ => false))), (zc 9 (aB 61 s1_15))]]⟩, [⟨(z0h p0 p1 p2 p3 v1), 0, rfP (blk TE 142 0), rfA (blk TE 142 0), rfB (blk TE 142 0), 142, .rdy⟩]⟩
noncomputable def zgC (v1 : zt0) (r : zt16) : TM := [(0, (.yld 0)), (1, (.d (.pin (aB 61 v1)))), (5, (.d (.agg (aB 61 v1)))), (6, (xi r.1)), (7, (xb false))]
noncomputable def z8e (p0 : zi) (p1 : zt0) (p2 : Int) (p3 : zD) (v1 : zt0) (r : zt16) : St := ⟨(zgC v1 r), ⟨[], [[(zc 4 (zq p0)), (zc 5 (aB 61 p1)), (6, (.cells [(xi p2)])), (7, (.cells [(xi p3.Low), (xi p3.High)])), (zc 8 (aB 61 (fun _ => false))), (zc 9 (aB 61 r.2))]]⟩, [⟨(z0h p0 p1 p2 p3 v1), 0, rfP (blk TE 142 0), rfA (blk TE 142 0), rfB (blk TE 142 0), 142, .rdy⟩]⟩
noncomputable def z7m (p0 : zi) (p1 : zt0) (p2 : Int) (p3 : zD) (v1 : zt0) : (Int × (Nat → Bool)) → Ex × St := fun r => ((.exit 0), z8e p0 p1 p2 p3 v1 r)
theorem zcm (k : Nat) (p0 : zi) (p1 : zt0) (p2 : Int) (p3 : zD) (v1 : zt0) (s1_2 : Int) (s1_15 : zt0) (x : (Int × (Nat → Bool)) ⊕ (Int × (Nat → Bool))) (h : z4c k p0 p1 p2 p3 v1 s1_2 s1_15 = some x) : zT TE 145 (blk TE 145 0) (fun s : (Int × (Nat → Bool)) => zEm p0 p1 p2 p3 v1 s.1 s.2) (z7m p0 p1 p2 p3 v1) (s1_2, s1_15) x := by
 unfold z4c at h
 refine zr h (fun h801 g1 => ?_) (fun h801 g1 => ?_)
 ·refine z6 g1 (fun h802 g2 => ?_)
  refine zo g2 (fun v803 h804 g3 => ?_)
  exact zqn ((w64 (s1_2 + 1)), v803) [] [(145, 1, 0, .q (xb true)), (145, 2, 1, .q (xb (v1 s1_2.toNat)))] [(145, 1000003, (.nor, zMd p0 p1 p2 p3 v1 s1_2 s1_15 v803))] g3 (ob (o_b h801) (ob (zct 61 v1 s1_2 h802) (ob (zxm k p0 p1 p2 p3 v1 s1_2 s1_15 _ h804) ob0))) (by kernel_rfl)
 ·exact zqo [(145, 1, 0, .q (xb false))] [] g1 (ob (o_b h801) ob0) (by kernel_rfl)
theorem zXi (k : Nat) (p0 : zi) (p1 : zt0) (p2 : Int) (p3 : zD) (r : zt0) (h : ztc k p0 p1 p2 p3 = some r) : zI TE (ev TE) 142 [(.agg (zq p0)), (.agg (aB 61 p1)), (di p2), (.agg [(di p3.Low), (di p3.High)])] = some (zFj r) := by
 unfold ztc at h
 refine zo h (fun v1 h2 g1 => ?_)
 refine zo g1 (fun v3 h4 g2 => ?_)
 exact zP (g := zFj) g2 (zqc [(142, 2, 1, .c (.fn 145 [] [(.pin (aB 61 v1))]))] [(145, 0, (.nor, z8e p0 p1 p2 p3 v1 v3))] (ob (z1c k p1 _ h2) (ob (zG (id := 0) (r' := (.nor, z8e p0 p1 p2 p3 v1 v3)) (zUb (zcm k p0 p1 p2 p3 v1) k _ _ h4) rfl) ob0)) (by kernel_rfl))
noncomputable def zqC (p0 : zi) (p1 : zt0) (p2 s1_11 : Int) (r : Bool) : TM := [(0, (.d (.agg (zq p0)))), (1, (.d (.agg (aB 61 p1)))), (2, (xi p2)), (zsp 3), (zsp 4), (zsp 6), (12, (.d (dl zu p0.ShelfBook.Counts.1 p0.ShelfBook.Counts.2))), (13, (xi (p0.ShelfBook.Counts.1.length : Int))), (14, (xi s1_11)), (15, (xb true)), (zsp 8), (7, (xi s1_11)), (37, (xb r))]
noncomputable def zQb (p0 : zi) (p1 : zt0) (p2 s1_11 : Int) (s1_19 : zt0) (v602 : zR) (r : Bool) : St := ⟨(zqC p0 p1 p2 s1_11 r), ⟨[(zc 3 (zq p0)), (zc 4 (aB 61 s1_19)), (zc 6 (aB 61 (fun _ => false))), (zc 8 (zu v602))], []⟩, []⟩
noncomputable def zAt (p0 : zi) (p1 : zt0) (p2 s1_11 : Int) : TM := [(0, (.d (.agg (zq p0)))), (1, (.d (.agg (aB 61 p1)))), (2, (xi p2)), (zsp 3), (zsp 4), (zsp 6), (12, (.d (dl zu p0.ShelfBook.Counts.1 p0.ShelfBook.Counts.2))), (13, (xi (p0.ShelfBook.Counts.1.length : Int))), (14, (xi s1_11)), (15, (xb true)), (zsp 8), (7, (xi s1_11))]
theorem z3g (k : Nat) (p0 : zi) (p1 : zt0) (p2 s1_11 : Int) (s1_19 : zt0) (v602 : zR) (r : Bool) (h : zHd k p0 p1 p2 s1_11 s1_19 v602 = some r) : ev TE 144 (rgn TE 144 4) ⟨(zAt p0 p1 p2 s1_11), ⟨[(zc 3 (zq p0)), (zc 4 (aB 61 s1_19)), (zc 6 (aB 61 (fun _ => false))), (zc 8 (zu v602))], []⟩, []⟩ = some (.nor, zQb p0 p1 p2 s1_11 s1_19 v602 r) := by
 unfold zHd at h
 refine zr h (fun h701 g1 => ?_) (fun h701 g1 => ?_)
 ·exact zE (g := fun r => (Ex.nor, zQb p0 p1 p2 s1_11 s1_19 v602 r)) g1 (zqe [(144, 4, 4, .q (xb true))] [] (ob (o_b h701) ob0) (by kernel_rfl))
 ·refine zr g1 (fun h702 g2 => ?_) (fun h702 g2 => ?_)
  ·exact zE (g := fun r => (Ex.nor, zQb p0 p1 p2 s1_11 s1_19 v602 r)) g2 (zqe [(144, 4, 4, .q (xb false)), (144, 4, 11, .q (xb true))] [] (ob (o_b h701) (ob (o_b h702) ob0)) (by kernel_rfl))
  ·refine zr g2 (fun h703 g3 => ?_) (fun h703 g3 => ?_)
   ·cases g3
   ·exact zE (g := fun r => (Ex.nor, zQb p0 p1 p2 s1_11 s1_19 v602 r)) g3 (zqe [(144, 4, 4, .q (xb false)), (144, 4, 11, .q (xb false)), (144, 4, 15, .q (xi (zY p0.left s1_11)))] [] (ob (o_b h701) (ob (o_b h702) (ob (zYd (x := p0.left) h703) ob0))) (by kernel_rfl))
noncomputable def zZc (p0 : zi) (p1 : zt0) (p2 s1_11 : Int) (v602 : zR) (s7_15 : Int) (s7_23 r : zt0) : St := ⟨(zAt p0 p1 p2 s1_11 ++ [(37, (xb false)), (38, (xi s7_15)), (39, (xb true)), (9, (xi s7_15))]), ⟨[(zc 3 (zq p0)), (zc 4 (aB 61 r)), (zc 6 (aB 61 (fun _ => false))), (zc 8 (zu v602))], []⟩, []⟩
theorem zbl (k : Nat) (p0 : zi) (p1 : zt0) (p2 s1_11 : Int) (v602 : zR) (s7_15 : Int) (s7_23 r : zt0) (h : zId k p0 p1 p2 s1_11 v602 s7_15 s7_23 = some r) : ev TE 144 (rgn TE 144 8) ⟨(zAt p0 p1 p2 s1_11 ++ [(37, (xb false)), (38, (xi s7_15)), (39, (xb true)), (9, (xi s7_15))]), ⟨[(zc 3 (zq p0)), (zc 4 (aB 61 s7_23)), (zc 6 (aB 61 (fun _ => false))), (zc 8 (zu v602))], []⟩, []⟩ = some (.nor, zZc p0 p1 p2 s1_11 v602 s7_15 s7_23 r) := by
 unfold zId at h
 refine z6 h (fun h1001 g1 => ?_)
 refine zr g1 (fun h1002 g2 => ?_) (fun h1002 g2 => ?_)
 ·refine zo g2 (fun v1003 h1004 g3 => ?_)
  exact zE (g := fun r => (Ex.nor, zZc p0 p1 p2 s1_11 v602 s7_15 s7_23 r)) g3 (zqe [(144, 8, 2, .q (.ptr 0 4 (s7_15.toNat))), (144, 8, 3, .q (xb (s7_23 s7_15.toNat))), (144, 8, 4, .q (xb true)), (144, 8, 16, .c (db v1003)), (144, 8, 18, .q (.ptr 0 4 (s7_15.toNat))), (144, 8, 19, .st ((aB 61 (upd s7_23 s7_15.toNat v1003)).map .d))] [] (ob (zAb (m := 61) 0 4 0 1 s7_15.toNat h1001 (by omega)) (ob (znr 61 s7_23 s7_15.toNat (by have := h1001; simp only [Bool.and_eq_true, decide_eq_true_eq] at this; omega)) (ob (o_b h1002) (ob (zM k s7_15 (w64 (v602.Read - v602.Err)) (w64 (v602.Read + v602.Err)) _ h1004) (ob (zAb (m := 61) 0 4 0 1 s7_15.toNat h1001 (by omega)) (ob (zKk 61 s7_23 s7_15.toNat v1003 (by have := h1001; simp only [Bool.and_eq_true, decide_eq_true_eq] at this; omega)) ob0)))))) (by kernel_rfl))
 ·exact zE (g := fun r => (Ex.nor, zZc p0 p1 p2 s1_11 v602 s7_15 s7_23 r)) g2 (zqe [(144, 8, 2, .q (.ptr 0 4 (s7_15.toNat))), (144, 8, 3, .q (xb (s7_23 s7_15.toNat))), (144, 8, 4, .q (xb false)), (144, 8, 18, .q (.ptr 0 4 (s7_15.toNat))), (144, 8, 19, .st ((aB 61 (upd s7_23 s7_15.toNat false)).map .d))] [] (ob (zAb (m := 61) 0 4 0 1 s7_15.toNat h1001 (by omega)) (ob (znr 61 s7_23 s7_15.toNat (by have := h1001; simp only [Bool.and_eq_true, decide_eq_true_eq] at this; omega)) (ob (o_b h1002) (ob (zAb (m := 61) 0 4 0 1 s7_15.toNat h1001 (by omega)) (ob (zKk 61 s7_23 s7_15.toNat false (by have := h1001; simp only [Bool.and_eq_true, decide_eq_true_eq] at this; omega)) ob0))))) (by kernel_rfl))
noncomputable def zzl (p0 : zi) (p1 : zt0) (p2 s1_11 : Int) (v602 : zR) (s7_15 : Int) (s7_23 : zt0) : St := ⟨(zAt p0 p1 p2 s1_11 ++ [(37, (xb false)), (38, (xi s7_15))]), ⟨[(zc 3 (zq p0)), (zc 4 (aB 61 s7_23)), (zc 6 (aB 61 (fun _ => false))), (zc 8 (zu v602))], []⟩, []⟩
noncomputable def zde (p0 : zi) (p1 : zt0) (p2 s1_11 : Int) (v602 : zR) (r : zt16) : St := ⟨(zAt p0 p1 p2 s1_11 ++ [(37, (xb false)), (38, (xi r.1)), (39, (xb false))]), ⟨[(zc 3 (zq p0)), (zc 4 (aB 61 r.2)), (zc 6 (aB 61 (fun _ => false))), (zc 8 (zu v602))], []⟩, []⟩
noncomputable def zwl (p0 : zi) (p1 : zt0) (p2 s1_11 : Int) (v602 : zR) : (Int × (Nat → Bool)) → Ex × St := fun r => ((.exit 2), zde p0 p1 p2 s1_11 v602 r)
theorem zkl (k : Nat) (p0 : zi) (p1 : zt0) (p2 s1_11 : Int) (v602 : zR) (s7_15 : Int) (s7_23 : zt0) (x : (Int × (Nat → Bool)) ⊕ (Int × (Nat → Bool))) (h : z1b k p0 p1 p2 s1_11 v602 s7_15 s7_23 = some x) : zT TE 144 (blk TE 144 2) (fun s : (Int × (Nat → Bool)) => zzl p0 p1 p2 s1_11 v602 s.1 s.2) (zwl p0 p1 p2 s1_11 v602) (s7_15, s7_23) x := by
 unfold z1b at h
 refine zr h (fun h901 g1 => ?_) (fun h901 g1 => ?_)
 ·refine zo g1 (fun v902 h903 g2 => ?_)
  exact zqn ((w64 (s7_15 + 1)), v902) [] [(144, 6, 0, .q (xb true))] [(144, 1000008, (.nor, zZc p0 p1 p2 s1_11 v602 s7_15 s7_23 v902))] g2 (ob (o_b h901) (ob (zbl k p0 p1 p2 s1_11 v602 s7_15 s7_23 _ h903) ob0)) (by kernel_rfl)
 ·exact zqo [(144, 6, 0, .q (xb false))] [] g1 (ob (o_b h901) ob0) (by kernel_rfl)
noncomputable def zTC (p0 : zi) (p1 : zt0) (p2 s1_11 : Int) : TM := [(0, (.d (.agg (zq p0)))), (1, (.d (.agg (aB 61 p1)))), (2, (xi p2)), (zsp 3), (zsp 4), (zsp 6), (12, (.d (dl zu p0.ShelfBook.Counts.1 p0.ShelfBook.Counts.2))), (13, (xi (p0.ShelfBook.Counts.1.length : Int))), (14, (xi s1_11))]
noncomputable def zFl (p0 : zi) (p1 : zt0) (p2 s1_11 : Int) (s1_19 : zt0) : St := ⟨(zTC p0 p1 p2 s1_11), ⟨[(zc 3 (zq p0)), (zc 4 (aB 61 s1_19)), (zc 6 (aB 61 (fun _ => false)))], []⟩, []⟩
noncomputable def zFC (p0 : zi) (p1 : zt0) (p2 : Int) (r : zt16) : TM := [(0, (.d (.agg (zq p0)))), (1, (.d (.agg (aB 61 p1)))), (2, (xi p2)), (zsp 3), (zsp 4), (zsp 6), (12, (.d (dl zu p0.ShelfBook.Counts.1 p0.ShelfBook.Counts.2))), (13, (xi (p0.ShelfBook.Counts.1.length : Int))), (14, (xi r.1)), (15, (xb false))]
noncomputable def zfe (p0 : zi) (p1 : zt0) (p2 : Int) (r : zt16) : St := ⟨(zFC p0 p1 p2 r), ⟨[(zc 3 (zq p0)), (zc 4 (aB 61 r.2)), (zc 6 (aB 61 (fun _ => false)))], []⟩, []⟩
noncomputable def zrl (p0 : zi) (p1 : zt0) (p2 : Int) : (Int × (Nat → Bool)) → Ex × St := fun r => ((.exit 0), zfe p0 p1 p2 r)
theorem z2k (k : Nat) (p0 : zi) (p1 : zt0) (p2 s1_11 : Int) (s1_19 : zt0) (x : (Int × (Nat → Bool)) ⊕ (Int × (Nat → Bool))) (h : zuc k p0 p1 p2 s1_11 s1_19 = some x) : zT TE 144 (blk TE 144 0) (fun s : (Int × (Nat → Bool)) => zFl p0 p1 p2 s.1 s.2) (zrl p0 p1 p2) (s1_11, s1_19) x := by
 unfold zuc at h
 refine zr h (fun h601 g1 => ?_) (fun h601 g1 => ?_)
 ·refine zo g1 (fun v602 h603 g2 => ?_)
  refine zo g2 (fun v604 h605 g3 => ?_)
  refine zr g3 (fun h606 g4 => ?_) (fun h606 g4 => ?_)
  ·subst h606
   exact zqn ((w64 (s1_11 + 1)), s1_19) [] [(144, 2, 0, .q (xb true)), (144, 3, 1, .q (.d (.pin (zu v602))))] [(144, 1000004, (.nor, zQb p0 p1 p2 s1_11 s1_19 v602 true))] g4 (ob (o_b h601) (ob (o_ia (e := zu) 4 h603 rfl) (ob (z3g k p0 p1 p2 s1_11 s1_19 v602 _ h605) ob0))) (by kernel_rfl)
  ·subst h606
   refine zo g4 (fun v607 h608 g5 => ?_)
   exact zqn ((w64 (s1_11 + 1)), v607.2) [] [(144, 2, 0, .q (xb true)), (144, 3, 1, .q (.d (.pin (zu v602))))] [(144, 1000004, (.nor, zQb p0 p1 p2 s1_11 s1_19 v602 false)), (144, 2, (.nor, zde p0 p1 p2 s1_11 v602 v607))] g5 (ob (o_b h601) (ob (o_ia (e := zu) 4 h603 rfl) (ob (z3g k p0 p1 p2 s1_11 s1_19 v602 _ h605) (ob (zG (id := 2) (r' := (.nor, zde p0 p1 p2 s1_11 v602 v607)) (zUb (zkl k p0 p1 p2 s1_11 v602) k _ _ h608) rfl) ob0)))) (by kernel_rfl)
 ·exact zqo [(144, 2, 0, .q (xb false))] [] g1 (ob (o_b h601) ob0) (by kernel_rfl)
theorem zhi (k : Nat) (p0 : zi) (p1 : zt0) (p2 : Int) (r : zt0) (h : zCc k p0 p1 p2 = some r) : zI TE (ev TE) 144 [(.agg (zq p0)), (.agg (aB 61 p1)), (di p2)] = some (zSi r) := by
 unfold zCc at h
 refine zo h (fun v1 h2 g1 => ?_)
 exact zP (g := zSi) g1 (zqc [(144, 1, 3, .q (xi (p0.ShelfBook.Counts.1.length : Int)))] [(144, 0, (.nor, zfe p0 p1 p2 v1))] (ob (zC zu p0.ShelfBook.Counts.1) (ob (zG (id := 0) (r' := (.nor, zfe p0 p1 p2 v1)) (zUb (z2k k p0 p1 p2) k _ _ h2) rfl) ob0)) (by kernel_rfl))
noncomputable def zKC (v1 : zt0) (s1_2 : Int) : TM := [(0, (.yld 0)), (1, (.d (.pin (aB 61 v1)))), (5, (.d (.agg (aB 61 v1)))), (6, (xi s1_2)), (7, (xb true)), (3, (xi s1_2)), (4, (xb (v1 s1_2.toNat))), (16, (xb false))]
noncomputable def z9v (p0 p1 v1 : zt0) : TM := [(0, (.d (.agg (aB 61 p0)))), (1, (.d (.agg (aB 61 p1)))), (zsp 2), (zsp 3), (zsp 4), (7, (.d (.fn 145 [] [(.pin (aB 61 v1))])))]
noncomputable def zGg (p0 p1 v1 : zt0) (s1_2 : Int) (s1_3 r : zt0) : St := ⟨(zKC v1 s1_2), ⟨[], [[(zc 2 (aB 61 r)), (zc 3 (aB 61 p1)), (zc 4 (aB 61 (fun _ => false)))]]⟩, [⟨(z9v p0 p1 v1), 0, rfP (blk TE 143 0), rfA (blk TE 143 0), rfB (blk TE 143 0), 143, .rdy⟩]⟩
noncomputable def zsD (v1 : zt0) (s1_2 : Int) : TM := [(0, (.yld 0)), (1, (.d (.pin (aB 61 v1)))), (5, (.d (.agg (aB 61 v1)))), (6, (xi s1_2)), (7, (xb true)), (3, (xi s1_2)), (4, (xb (v1 s1_2.toNat)))]
theorem zmq (k : Nat) (p0 p1 v1 : zt0) (s1_2 : Int) (s1_3 r : zt0) (h : zVh k p0 p1 v1 s1_2 s1_3 = some r) : ev TE 145 (rgn TE 145 3) ⟨(zsD v1 s1_2), ⟨[], [[(zc 2 (aB 61 s1_3)), (zc 3 (aB 61 p1)), (zc 4 (aB 61 (fun _ => false)))]]⟩, [⟨(z9v p0 p1 v1), 0, rfP (blk TE 143 0), rfA (blk TE 143 0), rfB (blk TE 143 0), 143, .rdy⟩]⟩ = some (.nor, zGg p0 p1 v1 s1_2 s1_3 r) := by
 unfold zVh at h
 refine zr h (fun h401 g1 => ?_) (fun h401 g1 => ?_)
 ·refine z6 g1 (fun h402 g2 => ?_)
  exact zE (g := fun r => (Ex.nor, zGg p0 p1 v1 s1_2 s1_3 r)) g2 (zqe [(145, 3, 1, .q (xb true)), (143, 3, 1, .q (.ptr 0 2 (s1_2.toNat))), (143, 3, 2, .st ((aB 61 (upd s1_3 s1_2.toNat true)).map .d))] [] (ob (o_b h401) (ob (zAb (m := 61) 0 2 0 1 s1_2.toNat h402 (by omega)) (ob (zKk 61 s1_3 s1_2.toNat true (by have := h402; simp only [Bool.and_eq_true, decide_eq_true_eq] at this; omega)) ob0))) (by kernel_rfl))
 ·exact zE (g := fun r => (Ex.nor, zGg p0 p1 v1 s1_2 s1_3 r)) g1 (zqe [(145, 3, 1, .q (xb false))] [] (ob (o_b h401) ob0) (by kernel_rfl))
noncomputable def zpD (v1 : zt0) (s1_2 : Int) : TM := [(0, (.yld 0)), (1, (.d (.pin (aB 61 v1)))), (5, (.d (.agg (aB 61 v1)))), (6, (xi s1_2))]
noncomputable def zyr (p0 p1 v1 : zt0) (s1_2 : Int) (s1_3 : zt0) : St := ⟨(zpD v1 s1_2), ⟨[], [[(zc 2 (aB 61 s1_3)), (zc 3 (aB 61 p1)), (zc 4 (aB 61 (fun _ => false)))]]⟩, [⟨(z9v p0 p1 v1), 0, rfP (blk TE 143 0), rfA (blk TE 143 0), rfB (blk TE 143 0), 143, .rdy⟩]⟩
noncomputable def zaD (v1 : zt0) (r : zt16) : TM := [(0, (.yld 0)), (1, (.d (.pin (aB 61 v1)))), (5, (.d (.agg (aB 61 v1)))), (6, (xi r.1)), (7, (xb false))]
noncomputable def z2h (p0 p1 v1 : zt0) (r : zt16) : St := ⟨(zaD v1 r), ⟨[], [[(zc 2 (aB 61 r.2)), (zc 3 (aB 61 p1)), (zc 4 (aB 61 (fun _ => false)))]]⟩, [⟨(z9v p0 p1 v1), 0, rfP (blk TE 143 0), rfA (blk TE 143 0), rfB (blk TE 143 0), 143, .rdy⟩]⟩
noncomputable def z4q (p0 p1 v1 : zt0) : (Int × (Nat → Bool)) → Ex × St := fun r => ((.exit 0), z2h p0 p1 v1 r)
theorem zVp (k : Nat) (p0 p1 v1 : zt0) (s1_2 : Int) (s1_3 : zt0) (x : (Int × (Nat → Bool)) ⊕ (Int × (Nat → Bool))) (h : zmg k p0 p1 v1 s1_2 s1_3 = some x) : zT TE 145 (blk TE 145 0) (fun s : (Int × (Nat → Bool)) => zyr p0 p1 v1 s.1 s.2) (z4q p0 p1 v1) (s1_2, s1_3) x := by
 unfold zmg at h
 refine zr h (fun h301 g1 => ?_) (fun h301 g1 => ?_)
 ·refine z6 g1 (fun h302 g2 => ?_)
  refine zo g2 (fun v303 h304 g3 => ?_)
  exact zqn ((w64 (s1_2 + 1)), v303) [] [(145, 1, 0, .q (xb true)), (145, 2, 1, .q (xb (v1 s1_2.toNat)))] [(145, 1000003, (.nor, zGg p0 p1 v1 s1_2 s1_3 v303))] g3 (ob (o_b h301) (ob (zct 61 v1 s1_2 h302) (ob (zmq k p0 p1 v1 s1_2 s1_3 _ h304) ob0))) (by kernel_rfl)
 ·exact zqo [(145, 1, 0, .q (xb false))] [] g1 (ob (o_b h301) ob0) (by kernel_rfl)
theorem zVn (k : Nat) (p0 p1 r : zt0) (h : znh k p0 p1 = some r) : zI TE (ev TE) 143 [(.agg (aB 61 p0)), (.agg (aB 61 p1))] = some (zQo r) := by
 unfold znh at h
 refine zo h (fun v1 h2 g1 => ?_)
 refine zo g1 (fun v3 h4 g2 => ?_)
 exact zP (g := zQo) g2 (zqc [(143, 1, 1, .c (.fn 145 [] [(.pin (aB 61 v1))]))] [(145, 0, (.nor, z2h p0 p1 v1 v3))] (ob (z1c k p1 _ h2) (ob (zG (id := 0) (r' := (.nor, z2h p0 p1 v1 v3)) (zUb (zVp k p0 p1 v1) k _ _ h4) rfl) ob0)) (by kernel_rfl))
noncomputable def zXC (v3105 : zt6) (s31_10 s36_15 : Int) (r : Bool) : TM := [(0, (.yld 0)), (1, (.d (.pin [(di v3105.1), (dl zn v3105.2.1.1 v3105.2.1.2), (dl zp v3105.2.2.1.1 v3105.2.2.1.2), (dl zm v3105.2.2.2.1.1 v3105.2.2.2.1.2), (dl zu v3105.2.2.2.2.1.1 v3105.2.2.2.2.1.2), (di v3105.2.2.2.2.2.1), (di v3105.2.2.2.2.2.2.1)]))), (2, (.d (.pin [(di v3105.2.2.2.2.2.2.2.1)]))), (3, (.d (.pin [(di v3105.2.2.2.2.2.2.2.2)]))), (14, (xi (zK 1 (v3105.2.2.2.1.1.length : Int)))), (15, (xi s31_10)), (16, (xb true)), (5, (xi s31_10)), (20, (.d (dl zm v3105.2.2.2.1.1 v3105.2.2.2.1.2))), (21, (xi (v3105.2.2.2.1.1.length : Int))), (22, (xi s36_15)), (23, (xb true)), (7, (.ptr 1 7 0)), (6, (xi s36_15)), (8, (xb ((ztb (zY v3105.2.2.2.2.2.2.2.1 s36_15) 1) == 1))), (9, (xb ((ztb (zY s31_10 s36_15) 1) == 1))), (41, (xb false)), (76, (xb r))]
noncomputable def zrk (p0 : zi) (s1_9 s21_12 : Int) (v3105 : zt6) : TM := [(0, (.d (.agg (zq p0)))), (zsp 1), (2, (.d (.mp []))), (zsp 3), (18, (xi p0.ShelfBook.Days)), (19, (xi s1_9)), (20, (xb true)), (zsp 4), (26, (xi (zK 1 (p0.ShelfBook.Deliveries.1.length : Int)))), (27, (xi s21_12)), (28, (xb true)), (zsp 5), (zsp 6), (38, (xb false)), (42, (.d (.fn 181 [] [(.pin [(di v3105.1), (dl zn v3105.2.1.1 v3105.2.1.2), (dl zp v3105.2.2.1.1 v3105.2.2.1.2), (dl zm v3105.2.2.2.1.1 v3105.2.2.2.1.2), (dl zu v3105.2.2.2.2.1.1 v3105.2.2.2.2.1.2), (di v3105.2.2.2.2.2.1), (di v3105.2.2.2.2.2.2.1)]), (.pin [(di v3105.2.2.2.2.2.2.2.1)]), (.pin [(di v3105.2.2.2.2.2.2.2.2)])])))]
noncomputable def zV (p0 : zi) (s1_9 s21_12 : Int) (s21_20 : zt1) (v3105 : zt6) (s31_10 : Int) (s31_18 : zt1) (s36_15 : Int) (v3802 : zQ) (r : Bool) : St := ⟨(zXC v3105 s31_10 s36_15 r), ⟨[(zc 7 (zm v3802))], [[(zc 1 (zq p0)), (11, (.map (em (fun k => D.agg (zA k)) (fun v => D.agg ((aB 61) v)) s31_18))), (3, (.cells [(.map 0 11)])), (4, (.cells [(xi s1_9)])), (5, (.cells [(xi s21_12)])), (zc 6 (aB 61 ((z8 zB (⟨(w64 (s1_9 - 1)), s21_12⟩ : zt) s21_20).getD (fun _ => false))))]]⟩, [⟨(zrk p0 s1_9 s21_12 v3105), 0, rfP (blk TE 102 4), rfA (blk TE 102 4), rfB (blk TE 102 4), 102, .rdy⟩]⟩
noncomputable def zjD (v3105 : zt6) (s31_10 s36_15 : Int) : TM := [(0, (.yld 0)), (1, (.d (.pin [(di v3105.1), (dl zn v3105.2.1.1 v3105.2.1.2), (dl zp v3105.2.2.1.1 v3105.2.2.1.2), (dl zm v3105.2.2.2.1.1 v3105.2.2.2.1.2), (dl zu v3105.2.2.2.2.1.1 v3105.2.2.2.2.1.2), (di v3105.2.2.2.2.2.1), (di v3105.2.2.2.2.2.2.1)]))), (2, (.d (.pin [(di v3105.2.2.2.2.2.2.2.1)]))), (3, (.d (.pin [(di v3105.2.2.2.2.2.2.2.2)]))), (14, (xi (zK 1 (v3105.2.2.2.1.1.length : Int)))), (15, (xi s31_10)), (16, (xb true)), (5, (xi s31_10)), (20, (.d (dl zm v3105.2.2.2.1.1 v3105.2.2.2.1.2))), (21, (xi (v3105.2.2.2.1.1.length : Int))), (22, (xi s36_15)), (23, (xb true)), (7, (.ptr 1 7 0)), (6, (xi s36_15)), (8, (xb ((ztb (zY v3105.2.2.2.2.2.2.2.1 s36_15) 1) == 1))), (9, (xb ((ztb (zY s31_10 s36_15) 1) == 1))), (41, (xb false))]
theorem zqh (k : Nat) (p0 : zi) (s1_9 s21_12 : Int) (s21_20 : zt1) (v3105 : zt6) (s31_10 : Int) (s31_18 : zt1) (s36_15 : Int) (v3802 : zQ) (r : Bool) (h : zXd k p0 s1_9 s21_12 s21_20 v3105 s31_10 s31_18 s36_15 v3802 = some r) : ev TE 181 (rgn TE 181 9) ⟨(zjD v3105 s31_10 s36_15), ⟨[(zc 7 (zm v3802))], [[(zc 1 (zq p0)), (11, (.map (em (fun k => D.agg (zA k)) (fun v => D.agg ((aB 61) v)) s31_18))), (3, (.cells [(.map 0 11)])), (4, (.cells [(xi s1_9)])), (5, (.cells [(xi s21_12)])), (zc 6 (aB 61 ((z8 zB (⟨(w64 (s1_9 - 1)), s21_12⟩ : zt) s21_20).getD (fun _ => false))))]]⟩, [⟨(zrk p0 s1_9 s21_12 v3105), 0, rfP (blk TE 102 4), rfA (blk TE 102 4), rfB (blk TE 102 4), 102, .rdy⟩]⟩ = some (.nor, zV p0 s1_9 s21_12 s21_20 v3105 s31_10 s31_18 s36_15 v3802 r) := by
 unfold zXd at h
 refine zr h (fun h3901 g1 => ?_) (fun h3901 g1 => ?_)
 ·refine zr g1 (fun h3902 g2 => ?_) (fun h3902 g2 => ?_)
  ·exact zE (g := fun r => (Ex.nor, zV p0 s1_9 s21_12 s21_20 v3105 s31_10 s31_18 s36_15 v3802 r)) g2 (zqe [(181, 9, 1, .q (xb true)), (181, 9, 5, .q (xb true))] [] (ob (o_b h3901) (ob (o_b h3902) ob0)) (by kernel_rfl))
  ·refine zr g2 (fun h3903 g3 => ?_) (fun h3903 g3 => ?_)
   ·refine zr g3 (fun h3904 g4 => ?_) (fun h3904 g4 => ?_)
    ·refine zo g4 (fun v3905 h3906 g5 => ?_)
     refine zr g5 (fun h3907 g6 => ?_) (fun h3907 g6 => ?_)
     ·exact zE (g := fun r => (Ex.nor, zV p0 s1_9 s21_12 s21_20 v3105 s31_10 s31_18 s36_15 v3802 r)) g6 (zqe [(181, 9, 1, .q (xb true)), (181, 9, 5, .q (xb false)), (181, 9, 7, .q (xb true)), (181, 9, 11, .q (xb true)), (181, 9, 19, .c (db v3905)), (181, 9, 23, .q (xb true))] [] (ob (o_b h3901) (ob (o_b h3902) (ob (o_b h3903) (ob (o_b h3904) (ob (zM k v3105.2.2.2.2.2.2.2.2 v3802.Days.Low v3802.Days.High _ h3906) (ob (o_b h3907) ob0)))))) (by kernel_rfl))
     ·exact zE (g := fun r => (Ex.nor, zV p0 s1_9 s21_12 s21_20 v3105 s31_10 s31_18 s36_15 v3802 r)) g6 (zqe [(181, 9, 1, .q (xb true)), (181, 9, 5, .q (xb false)), (181, 9, 7, .q (xb true)), (181, 9, 11, .q (xb true)), (181, 9, 19, .c (db v3905)), (181, 9, 23, .q (xb false)), (181, 9, 26, .q (xb false))] [] (ob (o_b h3901) (ob (o_b h3902) (ob (o_b h3903) (ob (o_b h3904) (ob (zM k v3105.2.2.2.2.2.2.2.2 v3802.Days.Low v3802.Days.High _ h3906) (ob (o_b h3907) (ob (o_b h3902) ob0))))))) (by kernel_rfl))
    ·exact zE (g := fun r => (Ex.nor, zV p0 s1_9 s21_12 s21_20 v3105 s31_10 s31_18 s36_15 v3802 r)) g4 (zqe [(181, 9, 1, .q (xb true)), (181, 9, 5, .q (xb false)), (181, 9, 7, .q (xb true)), (181, 9, 11, .q (xb false)), (181, 9, 26, .q (xb false))] [] (ob (o_b h3901) (ob (o_b h3902) (ob (o_b h3903) (ob (o_b h3904) (ob (o_b h3902) ob0))))) (by kernel_rfl))
   ·exact zE (g := fun r => (Ex.nor, zV p0 s1_9 s21_12 s21_20 v3105 s31_10 s31_18 s36_15 v3802 r)) g3 (zqe [(181, 9, 1, .q (xb true)), (181, 9, 5, .q (xb false)), (181, 9, 7, .q (xb false)), (181, 9, 26, .q (xb false))] [] (ob (o_b h3901) (ob (o_b h3902) (ob (o_b h3903) (ob (o_b h3902) ob0)))) (by kernel_rfl))
 ·refine zr g1 (fun h3902 g2 => ?_) (fun h3902 g2 => ?_)
  ·refine zr g2 (fun h3903 g3 => ?_) (fun h3903 g3 => ?_)
   ·refine zo g3 (fun v3904 h3905 g4 => ?_)
    refine zr g4 (fun h3906 g5 => ?_) (fun h3906 g5 => ?_)
    ·exact zE (g := fun r => (Ex.nor, zV p0 s1_9 s21_12 s21_20 v3105 s31_10 s31_18 s36_15 v3802 r)) g5 (zqe [(181, 9, 1, .q (xb false)), (181, 9, 7, .q (xb true)), (181, 9, 11, .q (xb true)), (181, 9, 19, .c (db v3904)), (181, 9, 23, .q (xb true))] [] (ob (o_b h3901) (ob (o_b h3902) (ob (o_b h3903) (ob (zM k v3105.2.2.2.2.2.2.2.2 v3802.Days.Low v3802.Days.High _ h3905) (ob (o_b h3906) ob0))))) (by kernel_rfl))
    ·refine zr g5 (fun h3907 g6 => ?_) (fun h3907 g6 => ?_)
     ·exact zE (g := fun r => (Ex.nor, zV p0 s1_9 s21_12 s21_20 v3105 s31_10 s31_18 s36_15 v3802 r)) g6 (zqe [(181, 9, 1, .q (xb false)), (181, 9, 7, .q (xb true)), (181, 9, 11, .q (xb true)), (181, 9, 19, .c (db v3904)), (181, 9, 23, .q (xb false)), (181, 9, 26, .q (xb true))] [] (ob (o_b h3901) (ob (o_b h3902) (ob (o_b h3903) (ob (zM k v3105.2.2.2.2.2.2.2.2 v3802.Days.Low v3802.Days.High _ h3905) (ob (o_b h3906) (ob (o_b h3907) ob0)))))) (by kernel_rfl))
     ·exact zE (g := fun r => (Ex.nor, zV p0 s1_9 s21_12 s21_20 v3105 s31_10 s31_18 s36_15 v3802 r)) g6 (zqe [(181, 9, 1, .q (xb false)), (181, 9, 7, .q (xb true)), (181, 9, 11, .q (xb true)), (181, 9, 19, .c (db v3904)), (181, 9, 23, .q (xb false)), (181, 9, 26, .q (xb false))] [] (ob (o_b h3901) (ob (o_b h3902) (ob (o_b h3903) (ob (zM k v3105.2.2.2.2.2.2.2.2 v3802.Days.Low v3802.Days.High _ h3905) (ob (o_b h3906) (ob (o_b h3907) ob0)))))) (by kernel_rfl))
   ·refine zr g3 (fun h3904 g4 => ?_) (fun h3904 g4 => ?_)
    ·exact zE (g := fun r => (Ex.nor, zV p0 s1_9 s21_12 s21_20 v3105 s31_10 s31_18 s36_15 v3802 r)) g4 (zqe [(181, 9, 1, .q (xb false)), (181, 9, 7, .q (xb true)), (181, 9, 11, .q (xb false)), (181, 9, 26, .q (xb true))] [] (ob (o_b h3901) (ob (o_b h3902) (ob (o_b h3903) (ob (o_b h3904) ob0)))) (by kernel_rfl))
    ·exact zE (g := fun r => (Ex.nor, zV p0 s1_9 s21_12 s21_20 v3105 s31_10 s31_18 s36_15 v3802 r)) g4 (zqe [(181, 9, 1, .q (xb false)), (181, 9, 7, .q (xb true)), (181, 9, 11, .q (xb false)), (181, 9, 26, .q (xb false))] [] (ob (o_b h3901) (ob (o_b h3902) (ob (o_b h3903) (ob (o_b h3904) ob0)))) (by kernel_rfl))
  ·refine zr g2 (fun h3903 g3 => ?_) (fun h3903 g3 => ?_)
   ·exact zE (g := fun r => (Ex.nor, zV p0 s1_9 s21_12 s21_20 v3105 s31_10 s31_18 s36_15 v3802 r)) g3 (zqe [(181, 9, 1, .q (xb false)), (181, 9, 7, .q (xb false)), (181, 9, 26, .q (xb true))] [] (ob (o_b h3901) (ob (o_b h3902) (ob (o_b h3903) ob0))) (by kernel_rfl))
   ·exact zE (g := fun r => (Ex.nor, zV p0 s1_9 s21_12 s21_20 v3105 s31_10 s31_18 s36_15 v3802 r)) g3 (zqe [(181, 9, 1, .q (xb false)), (181, 9, 7, .q (xb false)), (181, 9, 26, .q (xb false))] [] (ob (o_b h3901) (ob (o_b h3902) (ob (o_b h3903) ob0))) (by kernel_rfl))
noncomputable def zWC (v3105 : zt6) (s31_10 s36_15 : Int) : TM := [(0, (.yld 0)), (1, (.d (.pin [(di v3105.1), (dl zn v3105.2.1.1 v3105.2.1.2), (dl zp v3105.2.2.1.1 v3105.2.2.1.2), (dl zm v3105.2.2.2.1.1 v3105.2.2.2.1.2), (dl zu v3105.2.2.2.2.1.1 v3105.2.2.2.2.1.2), (di v3105.2.2.2.2.2.1), (di v3105.2.2.2.2.2.2.1)]))), (2, (.d (.pin [(di v3105.2.2.2.2.2.2.2.1)]))), (3, (.d (.pin [(di v3105.2.2.2.2.2.2.2.2)]))), (14, (xi (zK 1 (v3105.2.2.2.1.1.length : Int)))), (15, (xi s31_10)), (16, (xb true)), (5, (xi s31_10)), (20, (.d (dl zm v3105.2.2.2.1.1 v3105.2.2.2.1.2))), (21, (xi (v3105.2.2.2.1.1.length : Int))), (22, (xi s36_15))]
noncomputable def zim (p0 : zi) (s1_9 s21_12 : Int) (s21_20 : zt1) (v3105 : zt6) (s31_10 : Int) (s31_18 : zt1) (s36_15 : Int) : St := ⟨(zWC v3105 s31_10 s36_15), ⟨[], [[(zc 1 (zq p0)), (11, (.map (em (fun k => D.agg (zA k)) (fun v => D.agg ((aB 61) v)) s31_18))), (3, (.cells [(.map 0 11)])), (4, (.cells [(xi s1_9)])), (5, (.cells [(xi s21_12)])), (zc 6 (aB 61 ((z8 zB (⟨(w64 (s1_9 - 1)), s21_12⟩ : zt) s21_20).getD (fun _ => false))))]]⟩, [⟨(zrk p0 s1_9 s21_12 v3105), 0, rfP (blk TE 102 4), rfA (blk TE 102 4), rfB (blk TE 102 4), 102, .rdy⟩]⟩
noncomputable def zfD (v3105 : zt6) (s31_10 : Int) (r : (Int × Bool × Bool × Int × Int × Int × Int × Int)) : TM := [(0, (.yld 0)), (1, (.d (.pin [(di v3105.1), (dl zn v3105.2.1.1 v3105.2.1.2), (dl zp v3105.2.2.1.1 v3105.2.2.1.2), (dl zm v3105.2.2.2.1.1 v3105.2.2.2.1.2), (dl zu v3105.2.2.2.2.1.1 v3105.2.2.2.2.1.2), (di v3105.2.2.2.2.2.1), (di v3105.2.2.2.2.2.2.1)]))), (2, (.d (.pin [(di v3105.2.2.2.2.2.2.2.1)]))), (3, (.d (.pin [(di v3105.2.2.2.2.2.2.2.2)]))), (14, (xi (zK 1 (v3105.2.2.2.1.1.length : Int)))), (15, (xi s31_10)), (16, (xb true)), (5, (xi s31_10)), (20, (.d (dl zm v3105.2.2.2.1.1 v3105.2.2.2.1.2))), (21, (xi (v3105.2.2.2.1.1.length : Int))), (22, (xi r.1)), (23, (xb true)), (7, (.ptr 1 7 0)), (6, (xi r.1)), (8, (xb r.2.1)), (9, (xb r.2.2.1)), (41, (xb true)), (42, (xb true))]
noncomputable def zDe (p0 : zi) (s1_9 s21_12 : Int) (s21_20 : zt1) (v3105 : zt6) (s31_10 : Int) (s31_18 : zt1) (r : (Int × Bool × Bool × Int × Int × Int × Int × Int)) : St := ⟨(zfD v3105 s31_10 r), ⟨[(7, (.cells [(xi r.2.2.2.1), (xi r.2.2.2.2.1), (xi r.2.2.2.2.2.1), (xi r.2.2.2.2.2.2.1), (xi r.2.2.2.2.2.2.2)]))], [[(zc 1 (zq p0)), (11, (.map (em (fun k => D.agg (zA k)) (fun v => D.agg ((aB 61) v)) s31_18))), (3, (.cells [(.map 0 11)])), (4, (.cells [(xi s1_9)])), (5, (.cells [(xi s21_12)])), (zc 6 (aB 61 ((z8 zB (⟨(w64 (s1_9 - 1)), s21_12⟩ : zt) s21_20).getD (fun _ => false))))]]⟩, [⟨(zrk p0 s1_9 s21_12 v3105), 0, rfP (blk TE 102 4), rfA (blk TE 102 4), rfB (blk TE 102 4), 102, .rdy⟩]⟩
noncomputable def zQC (v3105 : zt6) (s31_10 : Int) (r : (Int × Bool × Bool × Int × Int × Int × Int × Int)) : TM := [(0, (.yld 0)), (1, (.d (.pin [(di v3105.1), (dl zn v3105.2.1.1 v3105.2.1.2), (dl zp v3105.2.2.1.1 v3105.2.2.1.2), (dl zm v3105.2.2.2.1.1 v3105.2.2.2.1.2), (dl zu v3105.2.2.2.2.1.1 v3105.2.2.2.2.1.2), (di v3105.2.2.2.2.2.1), (di v3105.2.2.2.2.2.2.1)]))), (2, (.d (.pin [(di v3105.2.2.2.2.2.2.2.1)]))), (3, (.d (.pin [(di v3105.2.2.2.2.2.2.2.2)]))), (14, (xi (zK 1 (v3105.2.2.2.1.1.length : Int)))), (15, (xi s31_10)), (16, (xb true)), (5, (xi s31_10)), (20, (.d (dl zm v3105.2.2.2.1.1 v3105.2.2.2.1.2))), (21, (xi (v3105.2.2.2.1.1.length : Int))), (22, (xi r.1)), (23, (xb true)), (7, (.ptr 1 7 0)), (6, (xi r.1)), (8, (xb r.2.1)), (9, (xb r.2.2.1)), (41, (xb false)), (76, (xb true))]
noncomputable def zBe (p0 : zi) (s1_9 s21_12 : Int) (s21_20 : zt1) (v3105 : zt6) (s31_10 : Int) (s31_18 : zt1) (r : (Int × Bool × Bool × Int × Int × Int × Int × Int)) : St := ⟨(zQC v3105 s31_10 r), ⟨[(7, (.cells [(xi r.2.2.2.1), (xi r.2.2.2.2.1), (xi r.2.2.2.2.2.1), (xi r.2.2.2.2.2.2.1), (xi r.2.2.2.2.2.2.2)]))], [[(zc 1 (zq p0)), (11, (.map (em (fun k => D.agg (zA k)) (fun v => D.agg ((aB 61) v)) s31_18))), (3, (.cells [(.map 0 11)])), (4, (.cells [(xi s1_9)])), (5, (.cells [(xi s21_12)])), (zc 6 (aB 61 ((z8 zB (⟨(w64 (s1_9 - 1)), s21_12⟩ : zt) s21_20).getD (fun _ => false))))]]⟩, [⟨(zrk p0 s1_9 s21_12 v3105), 0, rfP (blk TE 102 4), rfA (blk TE 102 4), rfB (blk TE 102 4), 102, .rdy⟩]⟩
noncomputable def znD (v3105 : zt6) (s31_10 r : Int) : TM := [(0, (.yld 0)), (1, (.d (.pin [(di v3105.1), (dl zn v3105.2.1.1 v3105.2.1.2), (dl zp v3105.2.2.1.1 v3105.2.2.1.2), (dl zm v3105.2.2.2.1.1 v3105.2.2.2.1.2), (dl zu v3105.2.2.2.2.1.1 v3105.2.2.2.2.1.2), (di v3105.2.2.2.2.2.1), (di v3105.2.2.2.2.2.2.1)]))), (2, (.d (.pin [(di v3105.2.2.2.2.2.2.2.1)]))), (3, (.d (.pin [(di v3105.2.2.2.2.2.2.2.2)]))), (14, (xi (zK 1 (v3105.2.2.2.1.1.length : Int)))), (15, (xi s31_10)), (16, (xb true)), (5, (xi s31_10)), (20, (.d (dl zm v3105.2.2.2.1.1 v3105.2.2.2.1.2))), (21, (xi (v3105.2.2.2.1.1.length : Int))), (22, (xi r)), (23, (xb false))]
noncomputable def zEe (p0 : zi) (s1_9 s21_12 : Int) (s21_20 : zt1) (v3105 : zt6) (s31_10 : Int) (s31_18 : zt1) (r : Int) : St := ⟨(znD v3105 s31_10 r), ⟨[], [[(zc 1 (zq p0)), (11, (.map (em (fun k => D.agg (zA k)) (fun v => D.agg ((aB 61) v)) s31_18))), (3, (.cells [(.map 0 11)])), (4, (.cells [(xi s1_9)])), (5, (.cells [(xi s21_12)])), (zc 6 (aB 61 ((z8 zB (⟨(w64 (s1_9 - 1)), s21_12⟩ : zt) s21_20).getD (fun _ => false))))]]⟩, [⟨(zrk p0 s1_9 s21_12 v3105), 0, rfP (blk TE 102 4), rfA (blk TE 102 4), rfB (blk TE 102 4), 102, .rdy⟩]⟩
noncomputable def zhm (p0 : zi) (s1_9 s21_12 : Int) (s21_20 : zt1) (v3105 : zt6) (s31_10 : Int) (s31_18 : zt1) : ((Int × Bool × Bool × Int × Int × Int × Int × Int) ⊕ ((Int × Bool × Bool × Int × Int × Int × Int × Int) ⊕ Int)) → Ex × St := Sum.elim (fun r => ((.exit 1), zDe p0 s1_9 s21_12 s21_20 v3105 s31_10 s31_18 r)) (Sum.elim (fun r => ((.exit 1), zBe p0 s1_9 s21_12 s21_20 v3105 s31_10 s31_18 r)) (fun r => ((.exit 2), zEe p0 s1_9 s21_12 s21_20 v3105 s31_10 s31_18 r)))
theorem zye (k : Nat) (p0 : zi) (s1_9 s21_12 : Int) (s21_20 : zt1) (v3105 : zt6) (s31_10 : Int) (s31_18 : zt1) (s36_15 : Int) (x : Int ⊕ ((Int × Bool × Bool × Int × Int × Int × Int × Int) ⊕ ((Int × Bool × Bool × Int × Int × Int × Int × Int) ⊕ Int))) (h : zcc k p0 s1_9 s21_12 s21_20 v3105 s31_10 s31_18 s36_15 = some x) : zT TE 181 (blk TE 181 2) (fun s : Int => zim p0 s1_9 s21_12 s21_20 v3105 s31_10 s31_18 s) (zhm p0 s1_9 s21_12 s21_20 v3105 s31_10 s31_18) s36_15 x := by
 unfold zcc at h
 refine zr h (fun h3801 g1 => ?_) (fun h3801 g1 => ?_)
 ·refine zo g1 (fun v3802 h3803 g2 => ?_)
  refine zr g2 (fun h3804 g3 => ?_) (fun h3804 g3 => ?_)
  ·cases g3
  ·refine zr g3 (fun h3805 g4 => ?_) (fun h3805 g4 => ?_)
   ·refine zr g4 (fun h3806 g5 => ?_) (fun h3806 g5 => ?_)
    ·exact zqo [(181, 4, 0, .q (xb true)), (181, 5, 1, .q (.d (.pin (zm v3802)))), (181, 6, 2, .q (xi (zY v3105.2.2.2.2.2.2.2.1 s36_15))), (181, 6, 7, .q (xi (zY s31_10 s36_15))), (181, 7, 4, .q (xb true)), (181, 8, 0, .q (xb true))] [] g5 (ob (o_b h3801) (ob (o_ia (e := zm) 5 h3803 rfl) (ob (zYd (x := v3105.2.2.2.2.2.2.2.1) h3804) (ob (zYd (x := s31_10) h3804) (ob (o_b h3805) (ob (o_b h3806) ob0)))))) (by kernel_rfl)
    ·exact zqn (w64 (s36_15 + 1)) [] [(181, 4, 0, .q (xb true)), (181, 5, 1, .q (.d (.pin (zm v3802)))), (181, 6, 2, .q (xi (zY v3105.2.2.2.2.2.2.2.1 s36_15))), (181, 6, 7, .q (xi (zY s31_10 s36_15))), (181, 7, 4, .q (xb true)), (181, 8, 0, .q (xb false))] [] g5 (ob (o_b h3801) (ob (o_ia (e := zm) 5 h3803 rfl) (ob (zYd (x := v3105.2.2.2.2.2.2.2.1) h3804) (ob (zYd (x := s31_10) h3804) (ob (o_b h3805) (ob (o_b h3806) ob0)))))) (by kernel_rfl)
   ·refine zo g4 (fun v3806 h3807 g5 => ?_)
    refine zr g5 (fun h3808 g6 => ?_) (fun h3808 g6 => ?_)
    ·subst h3808
     exact zqo [(181, 4, 0, .q (xb true)), (181, 5, 1, .q (.d (.pin (zm v3802)))), (181, 6, 2, .q (xi (zY v3105.2.2.2.2.2.2.2.1 s36_15))), (181, 6, 7, .q (xi (zY s31_10 s36_15))), (181, 7, 4, .q (xb false))] [(181, 1000009, (.nor, zV p0 s1_9 s21_12 s21_20 v3105 s31_10 s31_18 s36_15 v3802 true))] g6 (ob (o_b h3801) (ob (o_ia (e := zm) 5 h3803 rfl) (ob (zYd (x := v3105.2.2.2.2.2.2.2.1) h3804) (ob (zYd (x := s31_10) h3804) (ob (o_b h3805) (ob (zqh k p0 s1_9 s21_12 s21_20 v3105 s31_10 s31_18 s36_15 v3802 _ h3807) ob0)))))) (by kernel_rfl)
    ·subst h3808
     exact zqn (w64 (s36_15 + 1)) [] [(181, 4, 0, .q (xb true)), (181, 5, 1, .q (.d (.pin (zm v3802)))), (181, 6, 2, .q (xi (zY v3105.2.2.2.2.2.2.2.1 s36_15))), (181, 6, 7, .q (xi (zY s31_10 s36_15))), (181, 7, 4, .q (xb false))] [(181, 1000009, (.nor, zV p0 s1_9 s21_12 s21_20 v3105 s31_10 s31_18 s36_15 v3802 false))] g6 (ob (o_b h3801) (ob (o_ia (e := zm) 5 h3803 rfl) (ob (zYd (x := v3105.2.2.2.2.2.2.2.1) h3804) (ob (zYd (x := s31_10) h3804) (ob (o_b h3805) (ob (zqh k p0 s1_9 s21_12 s21_20 v3105 s31_10 s31_18 s36_15 v3802 _ h3807) ob0)))))) (by kernel_rfl)
 ·exact zqo [(181, 4, 0, .q (xb false))] [] g1 (ob (o_b h3801) ob0) (by kernel_rfl)
noncomputable def zgD (p0 : zi) (s1_9 s21_12 : Int) (v3105 : zt6) (s31_10 : Int) (v3606 : (SL zF)) (s39_28 : Int) : TM := zrk p0 s1_9 s21_12 v3105 ++ [(43, (xi s31_10)), (7, (xi s31_10)), (8, (.ptr 2 8 0)), (50, (.d (dl zN v3606.1 v3606.2))), (51, (xi (v3606.1.length : Int))), (52, (xi s39_28))]
noncomputable def z8l (p0 : zi) (s1_9 s21_12 : Int) (s21_20 : zt1) (v3105 : zt6) (s31_10 : Int) (s31_18 : zt1) (v3606 : (SL zF)) (s39_28 : Int) (s39_29 : zt0) : St := ⟨(zgD p0 s1_9 s21_12 v3105 s31_10 v3606 s39_28), ⟨[(zc 8 (aB 61 s39_29))], [[(zc 1 (zq p0)), (11, (.map (em (fun k => D.agg (zA k)) (fun v => D.agg ((aB 61) v)) s31_18))), (3, (.cells [(.map 0 11)])), (4, (.cells [(xi s1_9)])), (5, (.cells [(xi s21_12)])), (zc 6 (aB 61 ((z8 zB (⟨(w64 (s1_9 - 1)), s21_12⟩ : zt) s21_20).getD (fun _ => false))))], []]⟩, [⟨(zrk p0 s1_9 s21_12 v3105), 0, rfP (blk TE 102 4), rfA (blk TE 102 4), rfB (blk TE 102 4), 102, .busy⟩]⟩
noncomputable def zvD (p0 : zi) (s1_9 s21_12 : Int) (v3105 : zt6) (s31_10 : Int) (v3606 : (SL zF)) (r : zt16) : TM := zrk p0 s1_9 s21_12 v3105 ++ [(43, (xi s31_10)), (7, (xi s31_10)), (8, (.ptr 2 8 0)), (50, (.d (dl zN v3606.1 v3606.2))), (51, (xi (v3606.1.length : Int))), (52, (xi r.1)), (53, (xb false))]
noncomputable def zze (p0 : zi) (s1_9 s21_12 : Int) (s21_20 : zt1) (v3105 : zt6) (s31_10 : Int) (s31_18 : zt1) (v3606 : (SL zF)) (r : zt16) : St := ⟨(zvD p0 s1_9 s21_12 v3105 s31_10 v3606 r), ⟨[(zc 8 (aB 61 r.2))], [[(zc 1 (zq p0)), (11, (.map (em (fun k => D.agg (zA k)) (fun v => D.agg ((aB 61) v)) s31_18))), (3, (.cells [(.map 0 11)])), (4, (.cells [(xi s1_9)])), (5, (.cells [(xi s21_12)])), (zc 6 (aB 61 ((z8 zB (⟨(w64 (s1_9 - 1)), s21_12⟩ : zt) s21_20).getD (fun _ => false))))], []]⟩, [⟨(zrk p0 s1_9 s21_12 v3105), 0, rfP (blk TE 102 4), rfA (blk TE 102 4), rfB (blk TE 102 4), 102, .busy⟩]⟩
noncomputable def z2l (p0 : zi) (s1_9 s21_12 : Int) (s21_20 : zt1) (v3105 : zt6) (s31_10 : Int) (s31_18 : zt1) (v3606 : (SL zF)) : (Int × (Nat → Bool)) → Ex × St := fun r => ((.exit 6), zze p0 s1_9 s21_12 s21_20 v3105 s31_10 s31_18 v3606 r)
theorem zIl (k : Nat) (p0 : zi) (s1_9 s21_12 : Int) (s21_20 : zt1) (v3105 : zt6) (s31_10 : Int) (s31_18 : zt1) (v3606 : (SL zF)) (s39_28 : Int) (s39_29 : zt0) (x : (Int × (Nat → Bool)) ⊕ (Int × (Nat → Bool))) (h : zac k p0 s1_9 s21_12 s21_20 v3105 s31_10 s31_18 v3606 s39_28 s39_29 = some x) : zT TE 102 (blk TE 102 6) (fun s : (Int × (Nat → Bool)) => z8l p0 s1_9 s21_12 s21_20 v3105 s31_10 s31_18 v3606 s.1 s.2) (z2l p0 s1_9 s21_12 s21_20 v3105 s31_10 s31_18 v3606) (s39_28, s39_29) x := by
 unfold zac at h
 refine zr h (fun h4001 g1 => ?_) (fun h4001 g1 => ?_)
 ·refine zo g1 (fun v4002 h4003 g2 => ?_)
  refine zo g2 (fun v4004 h4005 g3 => ?_)
  exact zqn ((w64 (s39_28 + 1)), v4004) [] [(102, 14, 0, .q (xb true)), (102, 15, 0, .q (.d (.pin (zN v4002)))), (102, 16, 6, .c (.agg (aB 61 v4004)))] [] g3 (ob (o_b h4001) (ob (o_ia (e := zN) 3 h4003 rfl) (ob (zXi k p0 s39_29 v4002.way v4002.by_ _ h4005) ob0))) (by kernel_rfl)
 ·exact zqo [(102, 14, 0, .q (xb false))] [] g1 (ob (o_b h4001) ob0) (by kernel_rfl)
noncomputable def zlC (v3105 : zt6) (s31_10 : Int) : TM := [(0, (.yld 0)), (1, (.d (.pin [(di v3105.1), (dl zn v3105.2.1.1 v3105.2.1.2), (dl zp v3105.2.2.1.1 v3105.2.2.1.2), (dl zm v3105.2.2.2.1.1 v3105.2.2.2.1.2), (dl zu v3105.2.2.2.2.1.1 v3105.2.2.2.2.1.2), (di v3105.2.2.2.2.2.1), (di v3105.2.2.2.2.2.2.1)]))), (2, (.d (.pin [(di v3105.2.2.2.2.2.2.2.1)]))), (3, (.d (.pin [(di v3105.2.2.2.2.2.2.2.2)]))), (14, (xi (zK 1 (v3105.2.2.2.1.1.length : Int)))), (15, (xi s31_10))]
noncomputable def zqm (p0 : zi) (s1_9 s21_12 : Int) (s21_20 : zt1) (v3105 : zt6) (s31_10 : Int) (s31_18 : zt1) : St := ⟨(zlC v3105 s31_10), ⟨[], [[(zc 1 (zq p0)), (11, (.map (em (fun k => D.agg (zA k)) (fun v => D.agg ((aB 61) v)) s31_18))), (3, (.cells [(.map 0 11)])), (4, (.cells [(xi s1_9)])), (5, (.cells [(xi s21_12)])), (zc 6 (aB 61 ((z8 zB (⟨(w64 (s1_9 - 1)), s21_12⟩ : zt) s21_20).getD (fun _ => false))))]]⟩, [⟨(zrk p0 s1_9 s21_12 v3105), 0, rfP (blk TE 102 4), rfA (blk TE 102 4), rfB (blk TE 102 4), 102, .rdy⟩]⟩
noncomputable def zCC (v3105 : zt6) (r : zt7) : TM := [(0, (.yld 0)), (1, (.d (.pin [(di v3105.1), (dl zn v3105.2.1.1 v3105.2.1.2), (dl zp v3105.2.2.1.1 v3105.2.2.1.2), (dl zm v3105.2.2.2.1.1 v3105.2.2.2.1.2), (dl zu v3105.2.2.2.2.1.1 v3105.2.2.2.2.1.2), (di v3105.2.2.2.2.2.1), (di v3105.2.2.2.2.2.2.1)]))), (2, (.d (.pin [(di v3105.2.2.2.2.2.2.2.1)]))), (3, (.d (.pin [(di v3105.2.2.2.2.2.2.2.2)]))), (14, (xi (zK 1 (v3105.2.2.2.1.1.length : Int)))), (15, (xi r.1)), (16, (xb false))]
noncomputable def zCe (p0 : zi) (s1_9 s21_12 : Int) (s21_20 : zt1) (v3105 : zt6) (r : zt7) : St := ⟨(zCC v3105 r), ⟨[], [[(zc 1 (zq p0)), (11, (.map (em (fun k => D.agg (zA k)) (fun v => D.agg ((aB 61) v)) r.2))), (3, (.cells [(.map 0 11)])), (4, (.cells [(xi s1_9)])), (5, (.cells [(xi s21_12)])), (zc 6 (aB 61 ((z8 zB (⟨(w64 (s1_9 - 1)), s21_12⟩ : zt) s21_20).getD (fun _ => false))))]]⟩, [⟨(zrk p0 s1_9 s21_12 v3105), 0, rfP (blk TE 102 4), rfA (blk TE 102 4), rfB (blk TE 102 4), 102, .rdy⟩]⟩
noncomputable def z7l (p0 : zi) (s1_9 s21_12 : Int) (s21_20 : zt1) (v3105 : zt6) : (Int × (List (zt × (Nat → Bool)))) → Ex × St := fun r => ((.exit 0), zCe p0 s1_9 s21_12 s21_20 v3105 r)
theorem zvl (k : Nat) (p0 : zi) (s1_9 s21_12 : Int) (s21_20 : zt1) (v3105 : zt6) (s31_10 : Int) (s31_18 : zt1) (x : (Int × (List (zt × (Nat → Bool)))) ⊕ (Int × (List (zt × (Nat → Bool))))) (h : zbc k p0 s1_9 s21_12 s21_20 v3105 s31_10 s31_18 = some x) : zT TE 181 (blk TE 181 0) (fun s : (Int × (List (zt × (Nat → Bool)))) => zqm p0 s1_9 s21_12 s21_20 v3105 s.1 s.2) (z7l p0 s1_9 s21_12 s21_20 v3105) (s31_10, s31_18) x := by
 unfold zbc at h
 refine zr h (fun h3601 g1 => ?_) (fun h3601 g1 => ?_)
 ·refine zo g1 (fun v3602 h3603 g2 => ?_)
  refine zRb g2 (fun v3605 hh g3_0 => ?_) (fun w2_0 hh g3_0 => ?_)
  ·subst hh
   exact zqn ((w64 (s31_10 + 1)), s31_18) [] [(181, 1, 0, .q (xb true)), (181, 3, 3, .q (xi (v3105.2.2.2.1.1.length : Int)))] [(181, 2, ((.exit 1), zDe p0 s1_9 s21_12 s21_20 v3105 s31_10 s31_18 v3605))] g3_0 (ob (o_b h3601) (ob (zC zm v3105.2.2.2.1.1) (ob (zG (id := 2) (r' := ((.exit 1), zDe p0 s1_9 s21_12 s21_20 v3105 s31_10 s31_18 v3605)) (zGc (zye k p0 s1_9 s21_12 s21_20 v3105 s31_10 s31_18) k _ _ h3603) rfl) ob0))) (by kernel_rfl)
  ·subst hh
   refine zRb g3_0 (fun v3605 hh g3_1 => ?_) (fun v3605 hh g3_1 => ?_)
   ·subst hh
    exact zqn ((w64 (s31_10 + 1)), s31_18) [] [(181, 1, 0, .q (xb true)), (181, 3, 3, .q (xi (v3105.2.2.2.1.1.length : Int)))] [(181, 2, ((.exit 1), zBe p0 s1_9 s21_12 s21_20 v3105 s31_10 s31_18 v3605))] g3_1 (ob (o_b h3601) (ob (zC zm v3105.2.2.2.1.1) (ob (zG (id := 2) (r' := ((.exit 1), zBe p0 s1_9 s21_12 s21_20 v3105 s31_10 s31_18 v3605)) (zGc (zye k p0 s1_9 s21_12 s21_20 v3105 s31_10 s31_18) k _ _ h3603) rfl) ob0))) (by kernel_rfl)
   ·subst hh
    refine zo g3_1 (fun v3606 h3607 g4 => ?_)
    refine zo g4 (fun v3608 h3609 g5 => ?_)
    refine zo g5 (fun v3610 h3611 g6 => ?_)
    refine zo g6 (fun v3612 h3613 g7 => ?_)
    exact zqn ((w64 (s31_10 + 1)), (mset zB (⟨s1_9, s31_10⟩ : zt) v3612 s31_18)) [] [(181, 1, 0, .q (xb true)), (181, 3, 3, .q (xi (v3105.2.2.2.1.1.length : Int))), (102, 13, 5, .c (dl zN v3606.1 v3606.2)), (102, 13, 6, .q (xi (v3606.1.length : Int))), (102, 18, 8, .q (.d (.agg (aB 61 ((z8 zB (⟨s1_9, s31_10⟩ : zt) s31_18).getD (fun _ => false)))))), (102, 18, 12, .c (.agg (aB 61 v3610))), (102, 18, 13, .c (.agg (aB 61 v3612))), (102, 18, 14, .mp (em (fun k => D.agg (zA k)) (fun v => D.agg ((aB 61) v)) (mset zB (⟨s1_9, s31_10⟩ : zt) v3612 s31_18)))] [(181, 2, (.nor, zEe p0 s1_9 s21_12 s21_20 v3105 s31_10 s31_18 v3605)), (102, 6, (.nor, zze p0 s1_9 s21_12 s21_20 v3105 s31_10 s31_18 v3606 v3608))] g7 (ob (o_b h3601) (ob (zC zm v3105.2.2.2.1.1) (ob (zG (id := 2) (r' := (.nor, zEe p0 s1_9 s21_12 s21_20 v3105 s31_10 s31_18 v3605)) (zGc (zye k p0 s1_9 s21_12 s21_20 v3105 s31_10 s31_18) k _ _ h3603) rfl) (ob (zZi k p0 s1_9 (z6i s31_10 s21_12) _ h3607) (ob (zC zN v3606.1) (ob (zG (id := 6) (r' := (.nor, zze p0 s1_9 s21_12 s21_20 v3105 s31_10 s31_18 v3606 v3608)) (zUb (zIl k p0 s1_9 s21_12 s21_20 v3105 s31_10 s31_18 v3606) k _ _ h3609) rfl) (ob (zli (ek := (fun k => D.agg (zA k))) (evl := (fun v => D.agg ((aB 61) v))) (q := zB) (fun _ _ => rfl) (⟨s1_9, s31_10⟩ : zt) s31_18 (fun _ => false)) (ob (zhi k p0 v3608.2 s1_9 _ h3611) (ob (zVn k ((z8 zB (⟨s1_9, s31_10⟩ : zt) s31_18).getD (fun _ => false)) v3610 _ h3613) (ob (zSr (ek := (fun k => D.agg (zA k))) (evl := (fun v => D.agg ((aB 61) v))) (q := zB) (fun _ _ => rfl) (⟨s1_9, s31_10⟩ : zt) v3612 s31_18) ob0)))))))))) (by kernel_rfl)
 ·exact zqo [(181, 1, 0, .q (xb false))] [] g1 (ob (o_b h3601) ob0) (by kernel_rfl)
noncomputable def zdD (p0 : zi) (s1_9 s21_12 : Int) : TM := [(0, (.d (.agg (zq p0)))), (zsp 1), (2, (.d (.mp []))), (zsp 3), (18, (xi p0.ShelfBook.Days)), (19, (xi s1_9)), (20, (xb true)), (zsp 4), (26, (xi (zK 1 (p0.ShelfBook.Deliveries.1.length : Int)))), (27, (xi s21_12))]
noncomputable def zwm (p0 : zi) (s1_9 s21_12 : Int) (s21_20 : zt1) : St := ⟨(zdD p0 s1_9 s21_12), ⟨[(zc 1 (zq p0)), (11, (.map (em (fun k => D.agg (zA k)) (fun v => D.agg ((aB 61) v)) s21_20))), (3, (.cells [(.map 0 11)])), (4, (.cells [(xi s1_9)]))], []⟩, []⟩
noncomputable def zpC (p0 : zi) (s1_9 : Int) (r : zt7) : TM := [(0, (.d (.agg (zq p0)))), (zsp 1), (2, (.d (.mp []))), (zsp 3), (18, (xi p0.ShelfBook.Days)), (19, (xi s1_9)), (20, (xb true)), (zsp 4), (26, (xi (zK 1 (p0.ShelfBook.Deliveries.1.length : Int)))), (27, (xi r.1)), (28, (xb false))]
noncomputable def zFe (p0 : zi) (s1_9 : Int) (r : zt7) : St := ⟨(zpC p0 s1_9 r), ⟨[(zc 1 (zq p0)), (11, (.map (em (fun k => D.agg (zA k)) (fun v => D.agg ((aB 61) v)) r.2))), (3, (.cells [(.map 0 11)])), (4, (.cells [(xi s1_9)]))], []⟩, []⟩
noncomputable def z5l (p0 : zi) (s1_9 : Int) : (Int × (List (zt × (Nat → Bool)))) → Ex × St := fun r => ((.exit 2), zFe p0 s1_9 r)
theorem zpl (k : Nat) (p0 : zi) (s1_9 s21_12 : Int) (s21_20 : zt1) (x : (Int × (List (zt × (Nat → Bool)))) ⊕ (Int × (List (zt × (Nat → Bool))))) (h : z9b k p0 s1_9 s21_12 s21_20 = some x) : zT TE 102 (blk TE 102 2) (fun s : (Int × (List (zt × (Nat → Bool)))) => zwm p0 s1_9 s.1 s.2) (z5l p0 s1_9) (s21_12, s21_20) x := by
 unfold z9b at h
 refine zr h (fun h3101 g1 => ?_) (fun h3101 g1 => ?_)
 ·refine zo g1 (fun v3102 h3103 g2 => ?_)
  refine zr g2 (fun h3104 g3 => ?_) (fun h3104 g3 => ?_)
  ·exact zqn ((w64 (s21_12 + 1)), s21_20) [] [(102, 6, 0, .q (xb true)), (102, 8, 5, .q (.d (.agg (aB 61 ((z8 zB (⟨(w64 (s1_9 - 1)), s21_12⟩ : zt) s21_20).getD (fun _ => false)))))), (102, 9, 1, .c (.agg (aB 61 v3102))), (102, 9, 2, .q (xb true))] [] g3 (ob (o_b h3101) (ob (zli (ek := (fun k => D.agg (zA k))) (evl := (fun v => D.agg ((aB 61) v))) (q := zB) (fun _ _ => rfl) (⟨(w64 (s1_9 - 1)), s21_12⟩ : zt) s21_20 (fun _ => false)) (ob (z5f k _ h3103) (ob (o_b h3104) ob0)))) (by kernel_rfl)
  ·refine zo g3 (fun v3105 h3106 g4 => ?_)
   refine zr g4 (fun h3107 g5 => ?_) (fun h3107 g5 => ?_)
   ·cases g5
   ·refine zo g5 (fun v3108 h3109 g6 => ?_)
    exact zqn ((w64 (s21_12 + 1)), v3108.2) [] [(102, 6, 0, .q (xb true)), (102, 8, 5, .q (.d (.agg (aB 61 ((z8 zB (⟨(w64 (s1_9 - 1)), s21_12⟩ : zt) s21_20).getD (fun _ => false)))))), (102, 9, 1, .c (.agg (aB 61 v3102))), (102, 9, 2, .q (xb false)), (102, 10, 3, .c (.fn 181 [] [(.pin [(di v3105.1), (dl zn v3105.2.1.1 v3105.2.1.2), (dl zp v3105.2.2.1.1 v3105.2.2.1.2), (dl zm v3105.2.2.2.1.1 v3105.2.2.2.1.2), (dl zu v3105.2.2.2.2.1.1 v3105.2.2.2.2.1.2), (di v3105.2.2.2.2.2.1), (di v3105.2.2.2.2.2.2.1)]), (.pin [(di v3105.2.2.2.2.2.2.2.1)]), (.pin [(di v3105.2.2.2.2.2.2.2.2)])])), (181, 0, 3, .q (xi (v3105.2.2.2.1.1.length : Int))), (181, 0, 4, .q (xi (zK 1 (v3105.2.2.2.1.1.length : Int))))] [(181, 0, (.nor, zCe p0 s1_9 s21_12 s21_20 v3105 v3108))] g6 (ob (o_b h3101) (ob (zli (ek := (fun k => D.agg (zA k))) (evl := (fun v => D.agg ((aB 61) v))) (q := zB) (fun _ _ => rfl) (⟨(w64 (s1_9 - 1)), s21_12⟩ : zt) s21_20 (fun _ => false)) (ob (z5f k _ h3103) (ob (o_b h3104) (ob (zfk k p0 s1_9 s21_12 _ h3106) (ob (zC zm v3105.2.2.2.1.1) (ob (zfc (x := 1) h3107) (ob (zG (id := 0) (r' := (.nor, zCe p0 s1_9 s21_12 s21_20 v3105 v3108)) (zUb (zvl k p0 s1_9 s21_12 s21_20 v3105) k _ _ h3109) rfl) ob0)))))))) (by kernel_rfl)
 ·exact zqo [(102, 6, 0, .q (xb false))] [] g1 (ob (o_b h3101) ob0) (by kernel_rfl)
noncomputable def ziD (p0 : zi) (s1_9 : Int) : TM := [(0, (.d (.agg (zq p0)))), (zsp 1), (2, (.d (.mp []))), (zsp 3), (18, (xi p0.ShelfBook.Days)), (19, (xi s1_9))]
noncomputable def z8m (p0 : zi) (s1_9 : Int) (s1_17 : zt1) : St := ⟨(ziD p0 s1_9), ⟨[(zc 1 (zq p0)), (11, (.map (em (fun k => D.agg (zA k)) (fun v => D.agg ((aB 61) v)) s1_17))), (3, (.cells [(.map 0 11)]))], []⟩, []⟩
noncomputable def zNC (p0 : zi) (r : zt7) : TM := [(0, (.d (.agg (zq p0)))), (zsp 1), (2, (.d (.mp []))), (zsp 3), (18, (xi p0.ShelfBook.Days)), (19, (xi r.1)), (20, (xb false))]
noncomputable def z5e (p0 : zi) (r : zt7) : St := ⟨(zNC p0 r), ⟨[(zc 1 (zq p0)), (11, (.map (em (fun k => D.agg (zA k)) (fun v => D.agg ((aB 61) v)) r.2))), (3, (.cells [(.map 0 11)]))], []⟩, []⟩
noncomputable def zWm (p0 : zi) : (Int × (List (zt × (Nat → Bool)))) → Ex × St := fun r => ((.exit 0), z5e p0 r)
theorem zpm (k : Nat) (p0 : zi) (s1_9 : Int) (s1_17 : zt1) (x : (Int × (List (zt × (Nat → Bool)))) ⊕ (Int × (List (zt × (Nat → Bool))))) (h : z5c k p0 s1_9 s1_17 = some x) : zT TE 102 (blk TE 102 0) (fun s : (Int × (List (zt × (Nat → Bool)))) => z8m p0 s.1 s.2) (zWm p0) (s1_9, s1_17) x := by
 unfold z5c at h
 refine zr h (fun h2101 g1 => ?_) (fun h2101 g1 => ?_)
 ·refine zr g1 (fun h2102 g2 => ?_) (fun h2102 g2 => ?_)
  ·cases g2
  ·refine zo g2 (fun v2103 h2104 g3 => ?_)
   exact zqn ((w64 (s1_9 + 1)), v2103.2) [] [(102, 3, 0, .q (xb true)), (102, 5, 3, .q (xi (p0.ShelfBook.Deliveries.1.length : Int))), (102, 5, 4, .q (xi (zK 1 (p0.ShelfBook.Deliveries.1.length : Int))))] [(102, 2, (.nor, zFe p0 s1_9 v2103))] g3 (ob (o_b h2101) (ob (zC zm p0.ShelfBook.Deliveries.1) (ob (zfc (x := 1) h2102) (ob (zG (id := 2) (r' := (.nor, zFe p0 s1_9 v2103)) (zUb (zpl k p0 s1_9) k _ _ h2104) rfl) ob0)))) (by kernel_rfl)
 ·exact zqo [(102, 3, 0, .q (xb false))] [] g1 (ob (o_b h2101) ob0) (by kernel_rfl)
theorem zwg (k : Nat) (p0 : zi) (r : zt1) (h : zhd k p0 = some r) : zI TE (ev TE) 102 [(.agg (zq p0))] = some (z2j r) := by
 unfold zhd at h
 refine zo h (fun v1 h2 g1 => ?_)
 refine zo g1 (fun v3 h4 g2 => ?_)
 exact zP (g := z2j) g2 (zqc [(102, 1, 3, .c (.agg (aB 61 v1)))] [(102, 0, (.nor, z5e p0 v3))] (ob (z1n k p0 _ h2) (ob (zG (id := 0) (r' := (.nor, z5e p0 v3)) (zUb (zpm k p0) k _ _ h4) rfl) ob0)) (by kernel_rfl))
noncomputable def zuC (p0 : zi) (v1 : zt1) (s1_10 : Int) : TM := [(0, (.d (.agg (zq p0)))), (zsp 1), (2, (xb false)), (3, (.d (.mp (em (fun k => D.agg (zA k)) (fun v => D.agg ((aB 61) v)) v1)))), (11, (xi (zK 1 (p0.ShelfBook.Deliveries.1.length : Int)))), (12, (xi s1_10))]
noncomputable def z2n (p0 : zi) (v1 : zt1) (s1_10 : Int) : St := ⟨(zuC p0 v1 s1_10), ⟨[(zc 1 (zq p0))], []⟩, []⟩
noncomputable def zMC (p0 : zi) (v1 : zt1) (r : Int) : TM := [(0, (.d (.agg (zq p0)))), (zsp 1), (2, (xb true)), (3, (.d (.mp (em (fun k => D.agg (zA k)) (fun v => D.agg ((aB 61) v)) v1)))), (11, (xi (zK 1 (p0.ShelfBook.Deliveries.1.length : Int)))), (12, (xi r)), (13, (xb true)), (4, (xi r)), (24, (xb true))]
noncomputable def z9f (p0 : zi) (v1 : zt1) (r : Int) : St := ⟨(zMC p0 v1 r), ⟨[(zc 1 (zq p0))], []⟩, []⟩
noncomputable def zeD (p0 : zi) (v1 : zt1) (r : Int) : TM := [(0, (.d (.agg (zq p0)))), (zsp 1), (2, (xb false)), (3, (.d (.mp (em (fun k => D.agg (zA k)) (fun v => D.agg ((aB 61) v)) v1)))), (11, (xi (zK 1 (p0.ShelfBook.Deliveries.1.length : Int)))), (12, (xi r)), (13, (xb false))]
noncomputable def z4f (p0 : zi) (v1 : zt1) (r : Int) : St := ⟨(zeD p0 v1 r), ⟨[(zc 1 (zq p0))], []⟩, []⟩
noncomputable def z3n (p0 : zi) (v1 : zt1) : (Int ⊕ Int) → Ex × St := Sum.elim (fun r => (.ret, z9f p0 v1 r)) (fun r => ((.exit 0), z4f p0 v1 r))
theorem zoi (k : Nat) (p0 : zi) (v1 : zt1) (s1_10 : Int) (x : Int ⊕ (Int ⊕ Int)) (h : zUd k p0 v1 s1_10 = some x) : zT TE 108 (blk TE 108 0) (fun s : Int => z2n p0 v1 s) (z3n p0 v1) s1_10 x := by
 unfold zUd at h
 refine zr h (fun h201 g1 => ?_) (fun h201 g1 => ?_)
 ·refine zo g1 (fun v202 h203 g2 => ?_)
  refine zr g2 (fun h204 g3 => ?_) (fun h204 g3 => ?_)
  ·exact zqo [(108, 3, 0, .q (xb true)), (108, 5, 7, .q (.d (.agg (aB 61 ((z8 zB (⟨(w64 (p0.ShelfBook.Days - 1)), s1_10⟩ : zt) v1).getD (fun _ => false)))))), (108, 5, 8, .c (.agg (aB 61 v202))), (108, 5, 9, .q (xb true))] [] g3 (ob (o_b h201) (ob (zli (ek := (fun k => D.agg (zA k))) (evl := (fun v => D.agg ((aB 61) v))) (q := zB) (fun _ _ => rfl) (⟨(w64 (p0.ShelfBook.Days - 1)), s1_10⟩ : zt) v1 (fun _ => false)) (ob (z5f k _ h203) (ob (o_b h204) ob0)))) (by kernel_rfl)
  ·exact zqn (w64 (s1_10 + 1)) [] [(108, 3, 0, .q (xb true)), (108, 5, 7, .q (.d (.agg (aB 61 ((z8 zB (⟨(w64 (p0.ShelfBook.Days - 1)), s1_10⟩ : zt) v1).getD (fun _ => false)))))), (108, 5, 8, .c (.agg (aB 61 v202))), (108, 5, 9, .q (xb false))] [] g3 (ob (o_b h201) (ob (zli (ek := (fun k => D.agg (zA k))) (evl := (fun v => D.agg ((aB 61) v))) (q := zB) (fun _ _ => rfl) (⟨(w64 (p0.ShelfBook.Days - 1)), s1_10⟩ : zt) v1 (fun _ => false)) (ob (z5f k _ h203) (ob (o_b h204) ob0)))) (by kernel_rfl)
 ·exact zqo [(108, 3, 0, .q (xb false))] [] g1 (ob (o_b h201) ob0) (by kernel_rfl)
theorem zFk (k : Nat) (p0 : zi) (r : Bool) (h : zFf k p0 = some r) : zI TE (ev TE) 108 [(.agg (zq p0))] = some (zXh r) := by
 unfold zFf at h
 refine zo h (fun v1 h2 g1 => ?_)
 refine zr g1 (fun h3 g2 => ?_) (fun h3 g2 => ?_)
 ·cases g2
 ·refine zo g2 (fun v4 h5 g3 => ?_)
  refine zRb g3 (fun v7 hh g4_0 => ?_) (fun v7 hh g4_0 => ?_)
  ·subst hh
   exact zP (g := zXh) g4_0 (zqc [(108, 1, 1, .c (.mp (em (fun k => D.agg (zA k)) (fun v => D.agg ((aB 61) v)) v1))), (108, 2, 3, .q (xi (p0.ShelfBook.Deliveries.1.length : Int))), (108, 2, 4, .q (xi (zK 1 (p0.ShelfBook.Deliveries.1.length : Int))))] [(108, 0, (.ret, z9f p0 v1 v7))] (ob (zwg k p0 _ h2) (ob (zC zm p0.ShelfBook.Deliveries.1) (ob (zfc (x := 1) h3) (ob (zG (id := 0) (r' := (.ret, z9f p0 v1 v7)) (zGc (zoi k p0 v1) k _ _ h5) rfl) ob0)))) (by kernel_rfl))
  ·subst hh
   exact zP (g := zXh) g4_0 (zqc [(108, 1, 1, .c (.mp (em (fun k => D.agg (zA k)) (fun v => D.agg ((aB 61) v)) v1))), (108, 2, 3, .q (xi (p0.ShelfBook.Deliveries.1.length : Int))), (108, 2, 4, .q (xi (zK 1 (p0.ShelfBook.Deliveries.1.length : Int))))] [(108, 0, (.nor, z4f p0 v1 v7))] (ob (zwg k p0 _ h2) (ob (zC zm p0.ShelfBook.Deliveries.1) (ob (zfc (x := 1) h3) (ob (zG (id := 0) (r' := (.nor, z4f p0 v1 v7)) (zGc (zoi k p0 v1) k _ _ h5) rfl) ob0)))) (by kernel_rfl))
noncomputable def zuD (p0 : zd) (p1 s1_8 : Int) : TM := [(0, (.d (.agg (za p0)))), (1, (xi p1)), (zsp 2), (4, (xb false)), (9, (xi (p0.Shelves.1.length : Int))), (10, (xi s1_8))]
noncomputable def zwp (p0 : zd) (p1 s1_8 : Int) : St := ⟨(zuD p0 p1 s1_8), ⟨[(zc 2 (za p0))], []⟩, []⟩
noncomputable def zEC (p0 : zd) (p1 r : Int) : TM := [(0, (.d (.agg (za p0)))), (1, (xi p1)), (zsp 2), (4, (xb false)), (9, (xi (p0.Shelves.1.length : Int))), (10, (xi r)), (11, (xb true)), (5, (xi r)), (6, (.d (.fn 108 [(.agg ((za p0) ++ [(di r), (di p1)]))] []))), (20, (xb true))]
noncomputable def z6g (p0 : zd) (p1 r : Int) : St := ⟨(zEC p0 p1 r), ⟨[(zc 2 (za p0))], []⟩, []⟩
noncomputable def zGB (p0 : zd) (p1 r : Int) : TM := [(0, (.d (.agg (za p0)))), (1, (xi p1)), (zsp 2), (4, (xb false)), (9, (xi (p0.Shelves.1.length : Int))), (10, (xi r)), (11, (xb false))]
noncomputable def zRg (p0 : zd) (p1 r : Int) : St := ⟨(zGB p0 p1 r), ⟨[(zc 2 (za p0))], []⟩, []⟩
noncomputable def zhp (p0 : zd) (p1 : Int) : (Int ⊕ Int) → Ex × St := Sum.elim (fun r => (.ret, z6g p0 p1 r)) (fun r => ((.exit 0), zRg p0 p1 r))
theorem zck (k : Nat) (p0 : zd) (p1 s1_8 : Int) (x : Int ⊕ (Int ⊕ Int)) (h : zWe k p0 p1 s1_8 = some x) : zT TE 55 (blk TE 55 0) (fun s : Int => zwp p0 p1 s) (zhp p0 p1) s1_8 x := by
 unfold zWe at h
 refine zr h (fun h201 g1 => ?_) (fun h201 g1 => ?_)
 ·refine zo g1 (fun v202 h203 g2 => ?_)
  refine zr g2 (fun h204 g3 => ?_) (fun h204 g3 => ?_)
  ·exact zqo [(55, 2, 0, .q (xb true)), (55, 5, 1, .c (db v202)), (55, 5, 2, .q (xb true))] [] g3 (ob (o_b h201) (ob (zFk k (⟨p0, s1_8, p1⟩ : zi) _ h203) (ob (o_b h204) ob0))) (by kernel_rfl)
  ·exact zqn (w64 (s1_8 + 1)) [] [(55, 2, 0, .q (xb true)), (55, 5, 1, .c (db v202)), (55, 5, 2, .q (xb false))] [] g3 (ob (o_b h201) (ob (zFk k (⟨p0, s1_8, p1⟩ : zi) _ h203) (ob (o_b h204) ob0))) (by kernel_rfl)
 ·exact zqo [(55, 2, 0, .q (xb false))] [] g1 (ob (o_b h201) ob0) (by kernel_rfl)
theorem zEb (k : Nat) (p0 : zd) (p1 : Int) (r : Bool) (h : zBb k p0 p1 = some r) : zI TE (ev TE) 55 [(.agg (za p0)), (di p1)] = some (zbj r) := by
 unfold zBb at h
 refine zo h (fun v1 h2 g1 => ?_)
 refine zRb g1 (fun v4 hh g2_0 => ?_) (fun v4 hh g2_0 => ?_)
 ·subst hh
  exact zP (g := zbj) g2_0 (zqc [(55, 1, 2, .q (xi (p0.Shelves.1.length : Int)))] [(55, 0, (.ret, z6g p0 p1 v4))] (ob (zC zn p0.Shelves.1) (ob (zG (id := 0) (r' := (.ret, z6g p0 p1 v4)) (zGc (zck k p0 p1) k _ _ h2) rfl) ob0)) (by kernel_rfl))
 ·subst hh
  exact zP (g := zbj) g2_0 (zqc [(55, 1, 2, .q (xi (p0.Shelves.1.length : Int)))] [(55, 0, (.nor, zRg p0 p1 v4))] (ob (zC zn p0.Shelves.1) (ob (zG (id := 0) (r' := (.nor, zRg p0 p1 v4)) (zGc (zck k p0 p1) k _ _ h2) rfl) ob0)) (by kernel_rfl))
theorem zmh (k : Nat) (p0 : zd) (p1 : Bool) (r : Int) (h : ztg k p0 p1 = some r) : zI TE (ev TE) 48 [(.agg (za p0)), (db p1)] = some (zog r) := by
 unfold ztg at h
 refine zo h (fun v1 h2 g1 => ?_)
 refine zr g1 (fun h3 g2 => ?_) (fun h3 g2 => ?_)
 ·exact zP (g := zog) g2 (zqc [(48, 1, 1, .c (di v1)), (48, 2, 1, .q (xb true))] [] (ob (zmd k p0 _ h2) (ob (o_b h3) ob0)) (by kernel_rfl))
 ·refine zr g2 (fun h4 g3 => ?_) (fun h4 g3 => ?_)
  ·exact zP (g := zog) g3 (zqc [(48, 1, 1, .c (di v1)), (48, 2, 1, .q (xb false)), (48, 4, 1, .q (xb true))] [] (ob (zmd k p0 _ h2) (ob (o_b h3) (ob (o_b h4) ob0))) (by kernel_rfl))
  ·refine zo g3 (fun v5 h6 g4 => ?_)
   refine zr g4 (fun h7 g5 => ?_) (fun h7 g5 => ?_)
   ·exact zP (g := zog) g5 (zqc [(48, 1, 1, .c (di v1)), (48, 2, 1, .q (xb false)), (48, 4, 1, .q (xb false)), (48, 6, 1, .c (db v5)), (48, 6, 2, .q (xb true))] [] (ob (zmd k p0 _ h2) (ob (o_b h3) (ob (o_b h4) (ob (zEb k p0 0 _ h6) (ob (o_b h7) ob0))))) (by kernel_rfl))
   ·exact zP (g := zog) g5 (zqc [(48, 1, 1, .c (di v1)), (48, 2, 1, .q (xb false)), (48, 4, 1, .q (xb false)), (48, 6, 1, .c (db v5)), (48, 6, 2, .q (xb false))] [] (ob (zmd k p0 _ h2) (ob (o_b h3) (ob (o_b h4) (ob (zEb k p0 0 _ h6) (ob (o_b h7) ob0))))) (by kernel_rfl))
noncomputable def znA (p0 : zi) (s1_9 : Int) (v302 : zx) (s3_13 : Int) : TM := [(0, (.d (.agg (zq p0)))), (zsp 1), (2, (.d (.mp []))), (zsp 3), (19, (xi (zK 1 (p0.ShelfBook.Deliveries.1.length : Int)))), (20, (xi s1_9)), (21, (xb true)), (4, (xi s1_9)), (zsp 5), (31, (xi (w64 (v302.Room + 1)))), (32, (xi s3_13))]
noncomputable def zJn (p0 : zi) (s1_9 : Int) (s1_17 : zt1) (v302 : zx) (s3_13 : Int) (s3_22 : zt0) : St := ⟨(znA p0 s1_9 v302 s3_13), ⟨[(zc 1 (zq p0)), (14, (.map (em (fun k => D.agg (zA k)) (fun v => D.agg ((aB 61) v)) s1_17))), (3, (.cells [(.map 0 14)])), (zc 5 (aB 61 s3_22))], []⟩, []⟩
noncomputable def zbC (p0 : zi) (s1_9 : Int) (v302 : zx) (r : zt16) : TM := [(0, (.d (.agg (zq p0)))), (zsp 1), (2, (.d (.mp []))), (zsp 3), (19, (xi (zK 1 (p0.ShelfBook.Deliveries.1.length : Int)))), (20, (xi s1_9)), (21, (xb true)), (4, (xi s1_9)), (zsp 5), (31, (xi (w64 (v302.Room + 1)))), (32, (xi r.1)), (33, (xb false))]
noncomputable def zPf (p0 : zi) (s1_9 : Int) (s1_17 : zt1) (v302 : zx) (r : zt16) : St := ⟨(zbC p0 s1_9 v302 r), ⟨[(zc 1 (zq p0)), (14, (.map (em (fun k => D.agg (zA k)) (fun v => D.agg ((aB 61) v)) s1_17))), (3, (.cells [(.map 0 14)])), (zc 5 (aB 61 r.2))], []⟩, []⟩
noncomputable def zAn (p0 : zi) (s1_9 : Int) (s1_17 : zt1) (v302 : zx) : (Int × (Nat → Bool)) → Ex × St := fun r => ((.exit 2), zPf p0 s1_9 s1_17 v302 r)
theorem zbn (k : Nat) (p0 : zi) (s1_9 : Int) (s1_17 : zt1) (v302 : zx) (s3_13 : Int) (s3_22 : zt0) (x : (Int × (Nat → Bool)) ⊕ (Int × (Nat → Bool))) (h : zwc k p0 s1_9 s1_17 v302 s3_13 s3_22 = some x) : zT TE 103 (blk TE 103 2) (fun s : (Int × (Nat → Bool)) => zJn p0 s1_9 s1_17 v302 s.1 s.2) (zAn p0 s1_9 s1_17 v302) (s3_13, s3_22) x := by
 unfold zwc at h
 refine zr h (fun h401 g1 => ?_) (fun h401 g1 => ?_)
 ·refine z6 g1 (fun h402 g2 => ?_)
  exact zqn ((w64 (s3_13 + 1)), (upd s3_22 s3_13.toNat true)) [] [(103, 7, 0, .q (xb true)), (103, 9, 1, .q (.ptr 0 5 (s3_13.toNat))), (103, 9, 2, .st ((aB 61 (upd s3_22 s3_13.toNat true)).map .d))] [] g2 (ob (o_b h401) (ob (zAb (m := 61) 0 5 0 1 s3_13.toNat h402 (by omega)) (ob (zKk 61 s3_22 s3_13.toNat true (by have := h402; simp only [Bool.and_eq_true, decide_eq_true_eq] at this; omega)) ob0))) (by kernel_rfl)
 ·exact zqo [(103, 7, 0, .q (xb false))] [] g1 (ob (o_b h401) ob0) (by kernel_rfl)
noncomputable def z6B (p0 : zi) (s1_9 : Int) : TM := [(0, (.d (.agg (zq p0)))), (zsp 1), (2, (.d (.mp []))), (zsp 3), (19, (xi (zK 1 (p0.ShelfBook.Deliveries.1.length : Int)))), (20, (xi s1_9))]
noncomputable def zkn (p0 : zi) (s1_9 : Int) (s1_17 : zt1) : St := ⟨(z6B p0 s1_9), ⟨[(zc 1 (zq p0)), (14, (.map (em (fun k => D.agg (zA k)) (fun v => D.agg ((aB 61) v)) s1_17))), (3, (.cells [(.map 0 14)]))], []⟩, []⟩
noncomputable def zkB (p0 : zi) (r : zt7) : TM := [(0, (.d (.agg (zq p0)))), (zsp 1), (2, (.d (.mp []))), (zsp 3), (19, (xi (zK 1 (p0.ShelfBook.Deliveries.1.length : Int)))), (20, (xi r.1)), (21, (xb false))]
noncomputable def zAf (p0 : zi) (r : zt7) : St := ⟨(zkB p0 r), ⟨[(zc 1 (zq p0)), (14, (.map (em (fun k => D.agg (zA k)) (fun v => D.agg ((aB 61) v)) r.2))), (3, (.cells [(.map 0 14)]))], []⟩, []⟩
noncomputable def zQn (p0 : zi) : (Int × (List (zt × (Nat → Bool)))) → Ex × St := fun r => ((.exit 0), zAf p0 r)
theorem z6m (k : Nat) (p0 : zi) (s1_9 : Int) (s1_17 : zt1) (x : (Int × (List (zt × (Nat → Bool)))) ⊕ (Int × (List (zt × (Nat → Bool))))) (h : zyd k p0 s1_9 s1_17 = some x) : zT TE 103 (blk TE 103 0) (fun s : (Int × (List (zt × (Nat → Bool)))) => zkn p0 s.1 s.2) (zQn p0) (s1_9, s1_17) x := by
 unfold zyd at h
 refine zr h (fun h301 g1 => ?_) (fun h301 g1 => ?_)
 ·refine zo g1 (fun v302 h303 g2 => ?_)
  refine zo g2 (fun v304 h305 g3 => ?_)
  exact zqn ((w64 (s1_9 + 1)), (mset zB (⟨(w64 (p0.ShelfBook.Days - 1)), s1_9⟩ : zt) v304.2 s1_17)) [] [(103, 3, 0, .q (xb true)), (103, 6, 5, .q (.d (.pin (zn v302)))), (103, 11, 8, .mp (em (fun k => D.agg (zA k)) (fun v => D.agg ((aB 61) v)) (mset zB (⟨(w64 (p0.ShelfBook.Days - 1)), s1_9⟩ : zt) v304.2 s1_17)))] [(103, 2, (.nor, zPf p0 s1_9 s1_17 v302 v304))] g3 (ob (o_b h301) (ob (o_ia (e := zn) 3 h303 rfl) (ob (zG (id := 2) (r' := (.nor, zPf p0 s1_9 s1_17 v302 v304)) (zUb (zbn k p0 s1_9 s1_17 v302) k _ _ h305) rfl) (ob (zSr (ek := (fun k => D.agg (zA k))) (evl := (fun v => D.agg ((aB 61) v))) (q := zB) (fun _ _ => rfl) (⟨(w64 (p0.ShelfBook.Days - 1)), s1_9⟩ : zt) v304.2 s1_17) ob0)))) (by kernel_rfl)
 ·exact zqo [(103, 3, 0, .q (xb false))] [] g1 (ob (o_b h301) ob0) (by kernel_rfl)
noncomputable def z5z (v3402 : zt6) (s34_10 s39_15 : Int) (r : Bool) : TM := [(0, (.yld 0)), (1, (.d (.pin [(di v3402.1), (dl zn v3402.2.1.1 v3402.2.1.2), (dl zp v3402.2.2.1.1 v3402.2.2.1.2), (dl zm v3402.2.2.2.1.1 v3402.2.2.2.1.2), (dl zu v3402.2.2.2.2.1.1 v3402.2.2.2.2.1.2), (di v3402.2.2.2.2.2.1), (di v3402.2.2.2.2.2.2.1)]))), (2, (.d (.pin [(di v3402.2.2.2.2.2.2.2.1)]))), (3, (.d (.pin [(di v3402.2.2.2.2.2.2.2.2)]))), (14, (xi (zK 1 (v3402.2.2.2.1.1.length : Int)))), (15, (xi s34_10)), (16, (xb true)), (5, (xi s34_10)), (20, (.d (dl zm v3402.2.2.2.1.1 v3402.2.2.2.1.2))), (21, (xi (v3402.2.2.2.1.1.length : Int))), (22, (xi s39_15)), (23, (xb true)), (7, (.ptr 1 7 0)), (6, (xi s39_15)), (8, (xb ((ztb (zY v3402.2.2.2.2.2.2.2.1 s39_15) 1) == 1))), (9, (xb ((ztb (zY s34_10 s39_15) 1) == 1))), (41, (xb false)), (76, (xb r))]
noncomputable def zTh (p0 : zi) (v2 : zt7) (s24_13 : Int) (v3402 : zt6) : TM := [(0, (.d (.agg (zq p0)))), (zsp 1), (2, (.d (.mp []))), (zsp 3), (19, (xi (zK 1 (p0.ShelfBook.Deliveries.1.length : Int)))), (20, (xi v2.1)), (21, (xb false)), (zsp 7), (52, (xb true)), (59, (xi (zK 1 (p0.ShelfBook.Deliveries.1.length : Int)))), (60, (xi s24_13)), (61, (xb true)), (zsp 8), (66, (.d (.fn 181 [] [(.pin [(di v3402.1), (dl zn v3402.2.1.1 v3402.2.1.2), (dl zp v3402.2.2.1.1 v3402.2.2.1.2), (dl zm v3402.2.2.2.1.1 v3402.2.2.2.1.2), (dl zu v3402.2.2.2.2.1.1 v3402.2.2.2.2.1.2), (di v3402.2.2.2.2.2.1), (di v3402.2.2.2.2.2.2.1)]), (.pin [(di v3402.2.2.2.2.2.2.2.1)]), (.pin [(di v3402.2.2.2.2.2.2.2.2)])])))]
noncomputable def zW (p0 : zi) (v2 : zt7) (s4_19 s24_13 : Int) (v3402 : zt6) (s34_10 : Int) (s34_18 : zt1) (s39_15 : Int) (v4102 : zQ) (r : Bool) : St := ⟨(z5z v3402 s34_10 s39_15 r), ⟨[(zc 7 (zm v4102))], [[(zc 1 (zq p0)), (14, (.map (em (fun k => D.agg (zA k)) (fun v => D.agg ((aB 61) v)) s34_18))), (3, (.cells [(.map 0 14)])), (7, (.cells [(xi s4_19)])), (8, (.cells [(xi s24_13)]))]]⟩, [⟨(zTh p0 v2 s24_13 v3402), 0, rfP (blk TE 103 8), rfA (blk TE 103 8), rfB (blk TE 103 8), 103, .rdy⟩]⟩
noncomputable def zPA (v3402 : zt6) (s34_10 s39_15 : Int) : TM := [(0, (.yld 0)), (1, (.d (.pin [(di v3402.1), (dl zn v3402.2.1.1 v3402.2.1.2), (dl zp v3402.2.2.1.1 v3402.2.2.1.2), (dl zm v3402.2.2.2.1.1 v3402.2.2.2.1.2), (dl zu v3402.2.2.2.2.1.1 v3402.2.2.2.2.1.2), (di v3402.2.2.2.2.2.1), (di v3402.2.2.2.2.2.2.1)]))), (2, (.d (.pin [(di v3402.2.2.2.2.2.2.2.1)]))), (3, (.d (.pin [(di v3402.2.2.2.2.2.2.2.2)]))), (14, (xi (zK 1 (v3402.2.2.2.1.1.length : Int)))), (15, (xi s34_10)), (16, (xb true)), (5, (xi s34_10)), (20, (.d (dl zm v3402.2.2.2.1.1 v3402.2.2.2.1.2))), (21, (xi (v3402.2.2.2.1.1.length : Int))), (22, (xi s39_15)), (23, (xb true)), (7, (.ptr 1 7 0)), (6, (xi s39_15)), (8, (xb ((ztb (zY v3402.2.2.2.2.2.2.2.1 s39_15) 1) == 1))), (9, (xb ((ztb (zY s34_10 s39_15) 1) == 1))), (41, (xb false))]
theorem zBh (k : Nat) (p0 : zi) (v2 : zt7) (s4_19 s24_13 : Int) (v3402 : zt6) (s34_10 : Int) (s34_18 : zt1) (s39_15 : Int) (v4102 : zQ) (r : Bool) (h : zse k p0 v2 s4_19 s24_13 v3402 s34_10 s34_18 s39_15 v4102 = some r) : ev TE 181 (rgn TE 181 9) ⟨(zPA v3402 s34_10 s39_15), ⟨[(zc 7 (zm v4102))], [[(zc 1 (zq p0)), (14, (.map (em (fun k => D.agg (zA k)) (fun v => D.agg ((aB 61) v)) s34_18))), (3, (.cells [(.map 0 14)])), (7, (.cells [(xi s4_19)])), (8, (.cells [(xi s24_13)]))]]⟩, [⟨(zTh p0 v2 s24_13 v3402), 0, rfP (blk TE 103 8), rfA (blk TE 103 8), rfB (blk TE 103 8), 103, .rdy⟩]⟩ = some (.nor, zW p0 v2 s4_19 s24_13 v3402 s34_10 s34_18 s39_15 v4102 r) := by
 unfold zse at h
 refine zr h (fun h4201 g1 => ?_) (fun h4201 g1 => ?_)
 ·refine zr g1 (fun h4202 g2 => ?_) (fun h4202 g2 => ?_)
  ·exact zE (g := fun r => (Ex.nor, zW p0 v2 s4_19 s24_13 v3402 s34_10 s34_18 s39_15 v4102 r)) g2 (zqe [(181, 9, 1, .q (xb true)), (181, 9, 5, .q (xb true))] [] (ob (o_b h4201) (ob (o_b h4202) ob0)) (by kernel_rfl))
  ·refine zr g2 (fun h4203 g3 => ?_) (fun h4203 g3 => ?_)
   ·refine zr g3 (fun h4204 g4 => ?_) (fun h4204 g4 => ?_)
    ·refine zo g4 (fun v4205 h4206 g5 => ?_)
     refine zr g5 (fun h4207 g6 => ?_) (fun h4207 g6 => ?_)
     ·exact zE (g := fun r => (Ex.nor, zW p0 v2 s4_19 s24_13 v3402 s34_10 s34_18 s39_15 v4102 r)) g6 (zqe [(181, 9, 1, .q (xb true)), (181, 9, 5, .q (xb false)), (181, 9, 7, .q (xb true)), (181, 9, 11, .q (xb true)), (181, 9, 19, .c (db v4205)), (181, 9, 23, .q (xb true))] [] (ob (o_b h4201) (ob (o_b h4202) (ob (o_b h4203) (ob (o_b h4204) (ob (zM k v3402.2.2.2.2.2.2.2.2 v4102.Days.Low v4102.Days.High _ h4206) (ob (o_b h4207) ob0)))))) (by kernel_rfl))
     ·exact zE (g := fun r => (Ex.nor, zW p0 v2 s4_19 s24_13 v3402 s34_10 s34_18 s39_15 v4102 r)) g6 (zqe [(181, 9, 1, .q (xb true)), (181, 9, 5, .q (xb false)), (181, 9, 7, .q (xb true)), (181, 9, 11, .q (xb true)), (181, 9, 19, .c (db v4205)), (181, 9, 23, .q (xb false)), (181, 9, 26, .q (xb false))] [] (ob (o_b h4201) (ob (o_b h4202) (ob (o_b h4203) (ob (o_b h4204) (ob (zM k v3402.2.2.2.2.2.2.2.2 v4102.Days.Low v4102.Days.High _ h4206) (ob (o_b h4207) (ob (o_b h4202) ob0))))))) (by kernel_rfl))
    ·exact zE (g := fun r => (Ex.nor, zW p0 v2 s4_19 s24_13 v3402 s34_10 s34_18 s39_15 v4102 r)) g4 (zqe [(181, 9, 1, .q (xb true)), (181, 9, 5, .q (xb false)), (181, 9, 7, .q (xb true)), (181, 9, 11, .q (xb false)), (181, 9, 26, .q (xb false))] [] (ob (o_b h4201) (ob (o_b h4202) (ob (o_b h4203) (ob (o_b h4204) (ob (o_b h4202) ob0))))) (by kernel_rfl))
   ·exact zE (g := fun r => (Ex.nor, zW p0 v2 s4_19 s24_13 v3402 s34_10 s34_18 s39_15 v4102 r)) g3 (zqe [(181, 9, 1, .q (xb true)), (181, 9, 5, .q (xb false)), (181, 9, 7, .q (xb false)), (181, 9, 26, .q (xb false))] [] (ob (o_b h4201) (ob (o_b h4202) (ob (o_b h4203) (ob (o_b h4202) ob0)))) (by kernel_rfl))
 ·refine zr g1 (fun h4202 g2 => ?_) (fun h4202 g2 => ?_)
  ·refine zr g2 (fun h4203 g3 => ?_) (fun h4203 g3 => ?_)
   ·refine zo g3 (fun v4204 h4205 g4 => ?_)
    refine zr g4 (fun h4206 g5 => ?_) (fun h4206 g5 => ?_)
    ·exact zE (g := fun r => (Ex.nor, zW p0 v2 s4_19 s24_13 v3402 s34_10 s34_18 s39_15 v4102 r)) g5 (zqe [(181, 9, 1, .q (xb false)), (181, 9, 7, .q (xb true)), (181, 9, 11, .q (xb true)), (181, 9, 19, .c (db v4204)), (181, 9, 23, .q (xb true))] [] (ob (o_b h4201) (ob (o_b h4202) (ob (o_b h4203) (ob (zM k v3402.2.2.2.2.2.2.2.2 v4102.Days.Low v4102.Days.High _ h4205) (ob (o_b h4206) ob0))))) (by kernel_rfl))
    ·refine zr g5 (fun h4207 g6 => ?_) (fun h4207 g6 => ?_)
     ·exact zE (g := fun r => (Ex.nor, zW p0 v2 s4_19 s24_13 v3402 s34_10 s34_18 s39_15 v4102 r)) g6 (zqe [(181, 9, 1, .q (xb false)), (181, 9, 7, .q (xb true)), (181, 9, 11, .q (xb true)), (181, 9, 19, .c (db v4204)), (181, 9, 23, .q (xb false)), (181, 9, 26, .q (xb true))] [] (ob (o_b h4201) (ob (o_b h4202) (ob (o_b h4203) (ob (zM k v3402.2.2.2.2.2.2.2.2 v4102.Days.Low v4102.Days.High _ h4205) (ob (o_b h4206) (ob (o_b h4207) ob0)))))) (by kernel_rfl))
     ·exact zE (g := fun r => (Ex.nor, zW p0 v2 s4_19 s24_13 v3402 s34_10 s34_18 s39_15 v4102 r)) g6 (zqe [(181, 9, 1, .q (xb false)), (181, 9, 7, .q (xb true)), (181, 9, 11, .q (xb true)), (181, 9, 19, .c (db v4204)), (181, 9, 23, .q (xb false)), (181, 9, 26, .q (xb false))] [] (ob (o_b h4201) (ob (o_b h4202) (ob (o_b h4203) (ob (zM k v3402.2.2.2.2.2.2.2.2 v4102.Days.Low v4102.Days.High _ h4205) (ob (o_b h4206) (ob (o_b h4207) ob0)))))) (by kernel_rfl))
   ·refine zr g3 (fun h4204 g4 => ?_) (fun h4204 g4 => ?_)
    ·exact zE (g := fun r => (Ex.nor, zW p0 v2 s4_19 s24_13 v3402 s34_10 s34_18 s39_15 v4102 r)) g4 (zqe [(181, 9, 1, .q (xb false)), (181, 9, 7, .q (xb true)), (181, 9, 11, .q (xb false)), (181, 9, 26, .q (xb true))] [] (ob (o_b h4201) (ob (o_b h4202) (ob (o_b h4203) (ob (o_b h4204) ob0)))) (by kernel_rfl))
    ·exact zE (g := fun r => (Ex.nor, zW p0 v2 s4_19 s24_13 v3402 s34_10 s34_18 s39_15 v4102 r)) g4 (zqe [(181, 9, 1, .q (xb false)), (181, 9, 7, .q (xb true)), (181, 9, 11, .q (xb false)), (181, 9, 26, .q (xb false))] [] (ob (o_b h4201) (ob (o_b h4202) (ob (o_b h4203) (ob (o_b h4204) ob0)))) (by kernel_rfl))
  ·refine zr g2 (fun h4203 g3 => ?_) (fun h4203 g3 => ?_)
   ·exact zE (g := fun r => (Ex.nor, zW p0 v2 s4_19 s24_13 v3402 s34_10 s34_18 s39_15 v4102 r)) g3 (zqe [(181, 9, 1, .q (xb false)), (181, 9, 7, .q (xb false)), (181, 9, 26, .q (xb true))] [] (ob (o_b h4201) (ob (o_b h4202) (ob (o_b h4203) ob0))) (by kernel_rfl))
   ·exact zE (g := fun r => (Ex.nor, zW p0 v2 s4_19 s24_13 v3402 s34_10 s34_18 s39_15 v4102 r)) g3 (zqe [(181, 9, 1, .q (xb false)), (181, 9, 7, .q (xb false)), (181, 9, 26, .q (xb false))] [] (ob (o_b h4201) (ob (o_b h4202) (ob (o_b h4203) ob0))) (by kernel_rfl))
noncomputable def ziB (v3402 : zt6) (s34_10 s39_15 : Int) : TM := [(0, (.yld 0)), (1, (.d (.pin [(di v3402.1), (dl zn v3402.2.1.1 v3402.2.1.2), (dl zp v3402.2.2.1.1 v3402.2.2.1.2), (dl zm v3402.2.2.2.1.1 v3402.2.2.2.1.2), (dl zu v3402.2.2.2.2.1.1 v3402.2.2.2.2.1.2), (di v3402.2.2.2.2.2.1), (di v3402.2.2.2.2.2.2.1)]))), (2, (.d (.pin [(di v3402.2.2.2.2.2.2.2.1)]))), (3, (.d (.pin [(di v3402.2.2.2.2.2.2.2.2)]))), (14, (xi (zK 1 (v3402.2.2.2.1.1.length : Int)))), (15, (xi s34_10)), (16, (xb true)), (5, (xi s34_10)), (20, (.d (dl zm v3402.2.2.2.1.1 v3402.2.2.2.1.2))), (21, (xi (v3402.2.2.2.1.1.length : Int))), (22, (xi s39_15))]
noncomputable def zHm (p0 : zi) (v2 : zt7) (s4_19 s24_13 : Int) (v3402 : zt6) (s34_10 : Int) (s34_18 : zt1) (s39_15 : Int) : St := ⟨(ziB v3402 s34_10 s39_15), ⟨[], [[(zc 1 (zq p0)), (14, (.map (em (fun k => D.agg (zA k)) (fun v => D.agg ((aB 61) v)) s34_18))), (3, (.cells [(.map 0 14)])), (7, (.cells [(xi s4_19)])), (8, (.cells [(xi s24_13)]))]]⟩, [⟨(zTh p0 v2 s24_13 v3402), 0, rfP (blk TE 103 8), rfA (blk TE 103 8), rfB (blk TE 103 8), 103, .rdy⟩]⟩
noncomputable def zFA (v3402 : zt6) (s34_10 : Int) (r : (Int × Bool × Bool × Int × Int × Int × Int × Int)) : TM := [(0, (.yld 0)), (1, (.d (.pin [(di v3402.1), (dl zn v3402.2.1.1 v3402.2.1.2), (dl zp v3402.2.2.1.1 v3402.2.2.1.2), (dl zm v3402.2.2.2.1.1 v3402.2.2.2.1.2), (dl zu v3402.2.2.2.2.1.1 v3402.2.2.2.2.1.2), (di v3402.2.2.2.2.2.1), (di v3402.2.2.2.2.2.2.1)]))), (2, (.d (.pin [(di v3402.2.2.2.2.2.2.2.1)]))), (3, (.d (.pin [(di v3402.2.2.2.2.2.2.2.2)]))), (14, (xi (zK 1 (v3402.2.2.2.1.1.length : Int)))), (15, (xi s34_10)), (16, (xb true)), (5, (xi s34_10)), (20, (.d (dl zm v3402.2.2.2.1.1 v3402.2.2.2.1.2))), (21, (xi (v3402.2.2.2.1.1.length : Int))), (22, (xi r.1)), (23, (xb true)), (7, (.ptr 1 7 0)), (6, (xi r.1)), (8, (xb r.2.1)), (9, (xb r.2.2.1)), (41, (xb true)), (42, (xb true))]
noncomputable def z1e (p0 : zi) (v2 : zt7) (s4_19 s24_13 : Int) (v3402 : zt6) (s34_10 : Int) (s34_18 : zt1) (r : (Int × Bool × Bool × Int × Int × Int × Int × Int)) : St := ⟨(zFA v3402 s34_10 r), ⟨[(7, (.cells [(xi r.2.2.2.1), (xi r.2.2.2.2.1), (xi r.2.2.2.2.2.1), (xi r.2.2.2.2.2.2.1), (xi r.2.2.2.2.2.2.2)]))], [[(zc 1 (zq p0)), (14, (.map (em (fun k => D.agg (zA k)) (fun v => D.agg ((aB 61) v)) s34_18))), (3, (.cells [(.map 0 14)])), (7, (.cells [(xi s4_19)])), (8, (.cells [(xi s24_13)]))]]⟩, [⟨(zTh p0 v2 s24_13 v3402), 0, rfP (blk TE 103 8), rfA (blk TE 103 8), rfB (blk TE 103 8), 103, .rdy⟩]⟩
noncomputable def zbB (v3402 : zt6) (s34_10 : Int) (r : (Int × Bool × Bool × Int × Int × Int × Int × Int)) : TM := [(0, (.yld 0)), (1, (.d (.pin [(di v3402.1), (dl zn v3402.2.1.1 v3402.2.1.2), (dl zp v3402.2.2.1.1 v3402.2.2.1.2), (dl zm v3402.2.2.2.1.1 v3402.2.2.2.1.2), (dl zu v3402.2.2.2.2.1.1 v3402.2.2.2.2.1.2), (di v3402.2.2.2.2.2.1), (di v3402.2.2.2.2.2.2.1)]))), (2, (.d (.pin [(di v3402.2.2.2.2.2.2.2.1)]))), (3, (.d (.pin [(di v3402.2.2.2.2.2.2.2.2)]))), (14, (xi (zK 1 (v3402.2.2.2.1.1.length : Int)))), (15, (xi s34_10)), (16, (xb true)), (5, (xi s34_10)), (20, (.d (dl zm v3402.2.2.2.1.1 v3402.2.2.2.1.2))), (21, (xi (v3402.2.2.2.1.1.length : Int))), (22, (xi r.1)), (23, (xb true)), (7, (.ptr 1 7 0)), (6, (xi r.1)), (8, (xb r.2.1)), (9, (xb r.2.2.1)), (41, (xb false)), (76, (xb true))]
noncomputable def z4e (p0 : zi) (v2 : zt7) (s4_19 s24_13 : Int) (v3402 : zt6) (s34_10 : Int) (s34_18 : zt1) (r : (Int × Bool × Bool × Int × Int × Int × Int × Int)) : St := ⟨(zbB v3402 s34_10 r), ⟨[(7, (.cells [(xi r.2.2.2.1), (xi r.2.2.2.2.1), (xi r.2.2.2.2.2.1), (xi r.2.2.2.2.2.2.1), (xi r.2.2.2.2.2.2.2)]))], [[(zc 1 (zq p0)), (14, (.map (em (fun k => D.agg (zA k)) (fun v => D.agg ((aB 61) v)) s34_18))), (3, (.cells [(.map 0 14)])), (7, (.cells [(xi s4_19)])), (8, (.cells [(xi s24_13)]))]]⟩, [⟨(zTh p0 v2 s24_13 v3402), 0, rfP (blk TE 103 8), rfA (blk TE 103 8), rfB (blk TE 103 8), 103, .rdy⟩]⟩
noncomputable def zNA (v3402 : zt6) (s34_10 r : Int) : TM := [(0, (.yld 0)), (1, (.d (.pin [(di v3402.1), (dl zn v3402.2.1.1 v3402.2.1.2), (dl zp v3402.2.2.1.1 v3402.2.2.1.2), (dl zm v3402.2.2.2.1.1 v3402.2.2.2.1.2), (dl zu v3402.2.2.2.2.1.1 v3402.2.2.2.2.1.2), (di v3402.2.2.2.2.2.1), (di v3402.2.2.2.2.2.2.1)]))), (2, (.d (.pin [(di v3402.2.2.2.2.2.2.2.1)]))), (3, (.d (.pin [(di v3402.2.2.2.2.2.2.2.2)]))), (14, (xi (zK 1 (v3402.2.2.2.1.1.length : Int)))), (15, (xi s34_10)), (16, (xb true)), (5, (xi s34_10)), (20, (.d (dl zm v3402.2.2.2.1.1 v3402.2.2.2.1.2))), (21, (xi (v3402.2.2.2.1.1.length : Int))), (22, (xi r)), (23, (xb false))]
noncomputable def zff (p0 : zi) (v2 : zt7) (s4_19 s24_13 : Int) (v3402 : zt6) (s34_10 : Int) (s34_18 : zt1) (r : Int) : St := ⟨(zNA v3402 s34_10 r), ⟨[], [[(zc 1 (zq p0)), (14, (.map (em (fun k => D.agg (zA k)) (fun v => D.agg ((aB 61) v)) s34_18))), (3, (.cells [(.map 0 14)])), (7, (.cells [(xi s4_19)])), (8, (.cells [(xi s24_13)]))]]⟩, [⟨(zTh p0 v2 s24_13 v3402), 0, rfP (blk TE 103 8), rfA (blk TE 103 8), rfB (blk TE 103 8), 103, .rdy⟩]⟩
noncomputable def zDm (p0 : zi) (v2 : zt7) (s4_19 s24_13 : Int) (v3402 : zt6) (s34_10 : Int) (s34_18 : zt1) : ((Int × Bool × Bool × Int × Int × Int × Int × Int) ⊕ ((Int × Bool × Bool × Int × Int × Int × Int × Int) ⊕ Int)) → Ex × St := Sum.elim (fun r => ((.exit 1), z1e p0 v2 s4_19 s24_13 v3402 s34_10 s34_18 r)) (Sum.elim (fun r => ((.exit 1), z4e p0 v2 s4_19 s24_13 v3402 s34_10 s34_18 r)) (fun r => ((.exit 2), zff p0 v2 s4_19 s24_13 v3402 s34_10 s34_18 r)))
theorem zgf (k : Nat) (p0 : zi) (v2 : zt7) (s4_19 s24_13 : Int) (v3402 : zt6) (s34_10 : Int) (s34_18 : zt1) (s39_15 : Int) (x : Int ⊕ ((Int × Bool × Bool × Int × Int × Int × Int × Int) ⊕ ((Int × Bool × Bool × Int × Int × Int × Int × Int) ⊕ Int))) (h : znc k p0 v2 s4_19 s24_13 v3402 s34_10 s34_18 s39_15 = some x) : zT TE 181 (blk TE 181 2) (fun s : Int => zHm p0 v2 s4_19 s24_13 v3402 s34_10 s34_18 s) (zDm p0 v2 s4_19 s24_13 v3402 s34_10 s34_18) s39_15 x := by
 unfold znc at h
 refine zr h (fun h4101 g1 => ?_) (fun h4101 g1 => ?_)
 ·refine zo g1 (fun v4102 h4103 g2 => ?_)
  refine zr g2 (fun h4104 g3 => ?_) (fun h4104 g3 => ?_)
  ·cases g3
  ·refine zr g3 (fun h4105 g4 => ?_) (fun h4105 g4 => ?_)
   ·refine zr g4 (fun h4106 g5 => ?_) (fun h4106 g5 => ?_)
    ·exact zqo [(181, 4, 0, .q (xb true)), (181, 5, 1, .q (.d (.pin (zm v4102)))), (181, 6, 2, .q (xi (zY v3402.2.2.2.2.2.2.2.1 s39_15))), (181, 6, 7, .q (xi (zY s34_10 s39_15))), (181, 7, 4, .q (xb true)), (181, 8, 0, .q (xb true))] [] g5 (ob (o_b h4101) (ob (o_ia (e := zm) 5 h4103 rfl) (ob (zYd (x := v3402.2.2.2.2.2.2.2.1) h4104) (ob (zYd (x := s34_10) h4104) (ob (o_b h4105) (ob (o_b h4106) ob0)))))) (by kernel_rfl)
    ·exact zqn (w64 (s39_15 + 1)) [] [(181, 4, 0, .q (xb true)), (181, 5, 1, .q (.d (.pin (zm v4102)))), (181, 6, 2, .q (xi (zY v3402.2.2.2.2.2.2.2.1 s39_15))), (181, 6, 7, .q (xi (zY s34_10 s39_15))), (181, 7, 4, .q (xb true)), (181, 8, 0, .q (xb false))] [] g5 (ob (o_b h4101) (ob (o_ia (e := zm) 5 h4103 rfl) (ob (zYd (x := v3402.2.2.2.2.2.2.2.1) h4104) (ob (zYd (x := s34_10) h4104) (ob (o_b h4105) (ob (o_b h4106) ob0)))))) (by kernel_rfl)
   ·refine zo g4 (fun v4106 h4107 g5 => ?_)
    refine zr g5 (fun h4108 g6 => ?_) (fun h4108 g6 => ?_)
    ·subst h4108
     exact zqo [(181, 4, 0, .q (xb true)), (181, 5, 1, .q (.d (.pin (zm v4102)))), (181, 6, 2, .q (xi (zY v3402.2.2.2.2.2.2.2.1 s39_15))), (181, 6, 7, .q (xi (zY s34_10 s39_15))), (181, 7, 4, .q (xb false))] [(181, 1000009, (.nor, zW p0 v2 s4_19 s24_13 v3402 s34_10 s34_18 s39_15 v4102 true))] g6 (ob (o_b h4101) (ob (o_ia (e := zm) 5 h4103 rfl) (ob (zYd (x := v3402.2.2.2.2.2.2.2.1) h4104) (ob (zYd (x := s34_10) h4104) (ob (o_b h4105) (ob (zBh k p0 v2 s4_19 s24_13 v3402 s34_10 s34_18 s39_15 v4102 _ h4107) ob0)))))) (by kernel_rfl)
    ·subst h4108
     exact zqn (w64 (s39_15 + 1)) [] [(181, 4, 0, .q (xb true)), (181, 5, 1, .q (.d (.pin (zm v4102)))), (181, 6, 2, .q (xi (zY v3402.2.2.2.2.2.2.2.1 s39_15))), (181, 6, 7, .q (xi (zY s34_10 s39_15))), (181, 7, 4, .q (xb false))] [(181, 1000009, (.nor, zW p0 v2 s4_19 s24_13 v3402 s34_10 s34_18 s39_15 v4102 false))] g6 (ob (o_b h4101) (ob (o_ia (e := zm) 5 h4103 rfl) (ob (zYd (x := v3402.2.2.2.2.2.2.2.1) h4104) (ob (zYd (x := s34_10) h4104) (ob (o_b h4105) (ob (zBh k p0 v2 s4_19 s24_13 v3402 s34_10 s34_18 s39_15 v4102 _ h4107) ob0)))))) (by kernel_rfl)
 ·exact zqo [(181, 4, 0, .q (xb false))] [] g1 (ob (o_b h4101) ob0) (by kernel_rfl)
noncomputable def zGA (p0 : zi) (v2 : zt7) (s24_13 : Int) (v3402 : zt6) (s34_10 : Int) (v3908 : (SL zF)) (s42_28 : Int) : TM := zTh p0 v2 s24_13 v3402 ++ [(67, (xi s34_10)), (9, (xi s34_10)), (10, (.ptr 2 10 0)), (11, (.d (dl zN v3908.1 v3908.2))), (83, (xi (v3908.1.length : Int))), (84, (xi s42_28))]
noncomputable def zSm (p0 : zi) (v2 : zt7) (s4_19 s24_13 : Int) (v3402 : zt6) (s34_10 : Int) (s34_18 : zt1) (v3908 : (SL zF)) (s42_28 : Int) (s42_29 : zt0) : St := ⟨(zGA p0 v2 s24_13 v3402 s34_10 v3908 s42_28), ⟨[(zc 10 (aB 61 s42_29))], [[(zc 1 (zq p0)), (14, (.map (em (fun k => D.agg (zA k)) (fun v => D.agg ((aB 61) v)) s34_18))), (3, (.cells [(.map 0 14)])), (7, (.cells [(xi s4_19)])), (8, (.cells [(xi s24_13)]))], []]⟩, [⟨(zTh p0 v2 s24_13 v3402), 0, rfP (blk TE 103 8), rfA (blk TE 103 8), rfB (blk TE 103 8), 103, .busy⟩]⟩
noncomputable def zTB (p0 : zi) (v2 : zt7) (s24_13 : Int) (v3402 : zt6) (s34_10 : Int) (v3908 : (SL zF)) (r : zt16) : TM := zTh p0 v2 s24_13 v3402 ++ [(67, (xi s34_10)), (9, (xi s34_10)), (10, (.ptr 2 10 0)), (11, (.d (dl zN v3908.1 v3908.2))), (83, (xi (v3908.1.length : Int))), (84, (xi r.1)), (85, (xb false))]
noncomputable def z2e (p0 : zi) (v2 : zt7) (s4_19 s24_13 : Int) (v3402 : zt6) (s34_10 : Int) (s34_18 : zt1) (v3908 : (SL zF)) (r : zt16) : St := ⟨(zTB p0 v2 s24_13 v3402 s34_10 v3908 r), ⟨[(zc 10 (aB 61 r.2))], [[(zc 1 (zq p0)), (14, (.map (em (fun k => D.agg (zA k)) (fun v => D.agg ((aB 61) v)) s34_18))), (3, (.cells [(.map 0 14)])), (7, (.cells [(xi s4_19)])), (8, (.cells [(xi s24_13)]))], []]⟩, [⟨(zTh p0 v2 s24_13 v3402), 0, rfP (blk TE 103 8), rfA (blk TE 103 8), rfB (blk TE 103 8), 103, .busy⟩]⟩
noncomputable def z2m (p0 : zi) (v2 : zt7) (s4_19 s24_13 : Int) (v3402 : zt6) (s34_10 : Int) (s34_18 : zt1) (v3908 : (SL zF)) : (Int × (Nat → Bool)) → Ex × St := fun r => ((.exit 10), z2e p0 v2 s4_19 s24_13 v3402 s34_10 s34_18 v3908 r)
theorem zvm (k : Nat) (p0 : zi) (v2 : zt7) (s4_19 s24_13 : Int) (v3402 : zt6) (s34_10 : Int) (s34_18 : zt1) (v3908 : (SL zF)) (s42_28 : Int) (s42_29 : zt0) (x : (Int × (Nat → Bool)) ⊕ (Int × (Nat → Bool))) (h : zmc k p0 v2 s4_19 s24_13 v3402 s34_10 s34_18 v3908 s42_28 s42_29 = some x) : zT TE 103 (blk TE 103 10) (fun s : (Int × (Nat → Bool)) => zSm p0 v2 s4_19 s24_13 v3402 s34_10 s34_18 v3908 s.1 s.2) (z2m p0 v2 s4_19 s24_13 v3402 s34_10 s34_18 v3908) (s42_28, s42_29) x := by
 unfold zmc at h
 refine zr h (fun h4301 g1 => ?_) (fun h4301 g1 => ?_)
 ·refine zo g1 (fun v4302 h4303 g2 => ?_)
  refine zo g2 (fun v4304 h4305 g3 => ?_)
  exact zqn ((w64 (s42_28 + 1)), v4304) [] [(103, 24, 0, .q (xb true)), (103, 26, 2, .q (xi (v3908.1.length : Int))), (103, 26, 6, .q (.d (.pin (zN v4302)))), (103, 27, 7, .c (.agg (aB 61 v4304)))] [] g3 (ob (o_b h4301) (ob (zC zN v3908.1) (ob (o_ia (e := zN) 3 h4303 rfl) (ob (zXi k p0 s42_29 (w64 (1 - v4302.way)) v4302.by_ _ h4305) ob0)))) (by kernel_rfl)
 ·exact zqo [(103, 24, 0, .q (xb false))] [] g1 (ob (o_b h4301) ob0) (by kernel_rfl)
noncomputable def zhA (v3402 : zt6) (s34_10 : Int) : TM := [(0, (.yld 0)), (1, (.d (.pin [(di v3402.1), (dl zn v3402.2.1.1 v3402.2.1.2), (dl zp v3402.2.2.1.1 v3402.2.2.1.2), (dl zm v3402.2.2.2.1.1 v3402.2.2.2.1.2), (dl zu v3402.2.2.2.2.1.1 v3402.2.2.2.2.1.2), (di v3402.2.2.2.2.2.1), (di v3402.2.2.2.2.2.2.1)]))), (2, (.d (.pin [(di v3402.2.2.2.2.2.2.2.1)]))), (3, (.d (.pin [(di v3402.2.2.2.2.2.2.2.2)]))), (14, (xi (zK 1 (v3402.2.2.2.1.1.length : Int)))), (15, (xi s34_10))]
noncomputable def zJm (p0 : zi) (v2 : zt7) (s4_19 s24_13 : Int) (v3402 : zt6) (s34_10 : Int) (s34_18 : zt1) : St := ⟨(zhA v3402 s34_10), ⟨[], [[(zc 1 (zq p0)), (14, (.map (em (fun k => D.agg (zA k)) (fun v => D.agg ((aB 61) v)) s34_18))), (3, (.cells [(.map 0 14)])), (7, (.cells [(xi s4_19)])), (8, (.cells [(xi s24_13)]))]]⟩, [⟨(zTh p0 v2 s24_13 v3402), 0, rfP (blk TE 103 8), rfA (blk TE 103 8), rfB (blk TE 103 8), 103, .rdy⟩]⟩
noncomputable def zEA (v3402 : zt6) (r : zt7) : TM := [(0, (.yld 0)), (1, (.d (.pin [(di v3402.1), (dl zn v3402.2.1.1 v3402.2.1.2), (dl zp v3402.2.2.1.1 v3402.2.2.1.2), (dl zm v3402.2.2.2.1.1 v3402.2.2.2.1.2), (dl zu v3402.2.2.2.2.1.1 v3402.2.2.2.2.1.2), (di v3402.2.2.2.2.2.1), (di v3402.2.2.2.2.2.2.1)]))), (2, (.d (.pin [(di v3402.2.2.2.2.2.2.2.1)]))), (3, (.d (.pin [(di v3402.2.2.2.2.2.2.2.2)]))), (14, (xi (zK 1 (v3402.2.2.2.1.1.length : Int)))), (15, (xi r.1)), (16, (xb false))]
noncomputable def z0e (p0 : zi) (v2 : zt7) (s4_19 s24_13 : Int) (v3402 : zt6) (r : zt7) : St := ⟨(zEA v3402 r), ⟨[], [[(zc 1 (zq p0)), (14, (.map (em (fun k => D.agg (zA k)) (fun v => D.agg ((aB 61) v)) r.2))), (3, (.cells [(.map 0 14)])), (7, (.cells [(xi s4_19)])), (8, (.cells [(xi s24_13)]))]]⟩, [⟨(zTh p0 v2 s24_13 v3402), 0, rfP (blk TE 103 8), rfA (blk TE 103 8), rfB (blk TE 103 8), 103, .rdy⟩]⟩
noncomputable def zLm (p0 : zi) (v2 : zt7) (s4_19 s24_13 : Int) (v3402 : zt6) : (Int × (List (zt × (Nat → Bool)))) → Ex × St := fun r => ((.exit 0), z0e p0 v2 s4_19 s24_13 v3402 r)
theorem zsm (k : Nat) (p0 : zi) (v2 : zt7) (s4_19 s24_13 : Int) (v3402 : zt6) (s34_10 : Int) (s34_18 : zt1) (x : (Int × (List (zt × (Nat → Bool)))) ⊕ (Int × (List (zt × (Nat → Bool))))) (h : zlc k p0 v2 s4_19 s24_13 v3402 s34_10 s34_18 = some x) : zT TE 181 (blk TE 181 0) (fun s : (Int × (List (zt × (Nat → Bool)))) => zJm p0 v2 s4_19 s24_13 v3402 s.1 s.2) (zLm p0 v2 s4_19 s24_13 v3402) (s34_10, s34_18) x := by
 unfold zlc at h
 refine zr h (fun h3901 g1 => ?_) (fun h3901 g1 => ?_)
 ·refine zo g1 (fun v3902 h3903 g2 => ?_)
  refine zRb g2 (fun v3905 hh g3_0 => ?_) (fun w2_0 hh g3_0 => ?_)
  ·subst hh
   exact zqn ((w64 (s34_10 + 1)), s34_18) [] [(181, 1, 0, .q (xb true)), (181, 3, 3, .q (xi (v3402.2.2.2.1.1.length : Int)))] [(181, 2, ((.exit 1), z1e p0 v2 s4_19 s24_13 v3402 s34_10 s34_18 v3905))] g3_0 (ob (o_b h3901) (ob (zC zm v3402.2.2.2.1.1) (ob (zG (id := 2) (r' := ((.exit 1), z1e p0 v2 s4_19 s24_13 v3402 s34_10 s34_18 v3905)) (zGc (zgf k p0 v2 s4_19 s24_13 v3402 s34_10 s34_18) k _ _ h3903) rfl) ob0))) (by kernel_rfl)
  ·subst hh
   refine zRb g3_0 (fun v3905 hh g3_1 => ?_) (fun v3905 hh g3_1 => ?_)
   ·subst hh
    exact zqn ((w64 (s34_10 + 1)), s34_18) [] [(181, 1, 0, .q (xb true)), (181, 3, 3, .q (xi (v3402.2.2.2.1.1.length : Int)))] [(181, 2, ((.exit 1), z4e p0 v2 s4_19 s24_13 v3402 s34_10 s34_18 v3905))] g3_1 (ob (o_b h3901) (ob (zC zm v3402.2.2.2.1.1) (ob (zG (id := 2) (r' := ((.exit 1), z4e p0 v2 s4_19 s24_13 v3402 s34_10 s34_18 v3905)) (zGc (zgf k p0 v2 s4_19 s24_13 v3402 s34_10 s34_18) k _ _ h3903) rfl) ob0))) (by kernel_rfl)
   ·subst hh
    refine zo g3_1 (fun v3906 h3907 g4 => ?_)
    refine zo g4 (fun v3908 h3909 g5 => ?_)
    refine zo g5 (fun v3910 h3911 g6 => ?_)
    refine zo g6 (fun v3912 h3913 g7 => ?_)
    exact zqn ((w64 (s34_10 + 1)), (mset zB (⟨(w64 (s4_19 - 1)), s24_13⟩ : zt) v3912 s34_18)) [] [(181, 1, 0, .q (xb true)), (181, 3, 3, .q (xi (v3402.2.2.2.1.1.length : Int))), (103, 21, 5, .q (.d (.agg (aB 61 ((z8 zB (⟨s4_19, s34_10⟩ : zt) s34_18).getD (fun _ => false)))))), (103, 21, 7, .c (.agg (aB 61 v3906))), (103, 22, 5, .c (dl zN v3908.1 v3908.2)), (103, 23, 1, .q (xi (v3908.1.length : Int))), (103, 29, 10, .q (.d (.agg (aB 61 ((z8 zB (⟨(w64 (s4_19 - 1)), s24_13⟩ : zt) s34_18).getD (fun _ => false)))))), (103, 29, 12, .c (.agg (aB 61 v3912))), (103, 29, 13, .mp (em (fun k => D.agg (zA k)) (fun v => D.agg ((aB 61) v)) (mset zB (⟨(w64 (s4_19 - 1)), s24_13⟩ : zt) v3912 s34_18)))] [(181, 2, (.nor, zff p0 v2 s4_19 s24_13 v3402 s34_10 s34_18 v3905)), (103, 10, (.nor, z2e p0 v2 s4_19 s24_13 v3402 s34_10 s34_18 v3908 v3910))] g7 (ob (o_b h3901) (ob (zC zm v3402.2.2.2.1.1) (ob (zG (id := 2) (r' := (.nor, zff p0 v2 s4_19 s24_13 v3402 s34_10 s34_18 v3905)) (zGc (zgf k p0 v2 s4_19 s24_13 v3402 s34_10 s34_18) k _ _ h3903) rfl) (ob (zli (ek := (fun k => D.agg (zA k))) (evl := (fun v => D.agg ((aB 61) v))) (q := zB) (fun _ _ => rfl) (⟨s4_19, s34_10⟩ : zt) s34_18 (fun _ => false)) (ob (zhi k p0 ((z8 zB (⟨s4_19, s34_10⟩ : zt) s34_18).getD (fun _ => false)) s4_19 _ h3907) (ob (zZi k p0 s4_19 (z6i s34_10 s24_13) _ h3909) (ob (zC zN v3908.1) (ob (zG (id := 10) (r' := (.nor, z2e p0 v2 s4_19 s24_13 v3402 s34_10 s34_18 v3908 v3910)) (zUb (zvm k p0 v2 s4_19 s24_13 v3402 s34_10 s34_18 v3908) k _ _ h3911) rfl) (ob (zli (ek := (fun k => D.agg (zA k))) (evl := (fun v => D.agg ((aB 61) v))) (q := zB) (fun _ _ => rfl) (⟨(w64 (s4_19 - 1)), s24_13⟩ : zt) s34_18 (fun _ => false)) (ob (zVn k ((z8 zB (⟨(w64 (s4_19 - 1)), s24_13⟩ : zt) s34_18).getD (fun _ => false)) v3910.2 _ h3913) (ob (zSr (ek := (fun k => D.agg (zA k))) (evl := (fun v => D.agg ((aB 61) v))) (q := zB) (fun _ _ => rfl) (⟨(w64 (s4_19 - 1)), s24_13⟩ : zt) v3912 s34_18) ob0))))))))))) (by kernel_rfl)
 ·exact zqo [(181, 1, 0, .q (xb false))] [] g1 (ob (o_b h3901) ob0) (by kernel_rfl)
noncomputable def zbA (p0 : zi) (v2 : zt7) (s24_13 : Int) : TM := [(0, (.d (.agg (zq p0)))), (zsp 1), (2, (.d (.mp []))), (zsp 3), (19, (xi (zK 1 (p0.ShelfBook.Deliveries.1.length : Int)))), (20, (xi v2.1)), (21, (xb false)), (zsp 7), (52, (xb true)), (59, (xi (zK 1 (p0.ShelfBook.Deliveries.1.length : Int)))), (60, (xi s24_13))]
noncomputable def zNm (p0 : zi) (v2 : zt7) (s4_19 s24_13 : Int) (s24_21 : zt1) : St := ⟨(zbA p0 v2 s24_13), ⟨[(zc 1 (zq p0)), (14, (.map (em (fun k => D.agg (zA k)) (fun v => D.agg ((aB 61) v)) s24_21))), (3, (.cells [(.map 0 14)])), (7, (.cells [(xi s4_19)]))], []⟩, []⟩
noncomputable def z1A (p0 : zi) (v2 r : zt7) : TM := [(0, (.d (.agg (zq p0)))), (zsp 1), (2, (.d (.mp []))), (zsp 3), (19, (xi (zK 1 (p0.ShelfBook.Deliveries.1.length : Int)))), (20, (xi v2.1)), (21, (xb false)), (zsp 7), (52, (xb true)), (59, (xi (zK 1 (p0.ShelfBook.Deliveries.1.length : Int)))), (60, (xi r.1)), (61, (xb false))]
noncomputable def zbf (p0 : zi) (v2 : zt7) (s4_19 : Int) (r : zt7) : St := ⟨(z1A p0 v2 r), ⟨[(zc 1 (zq p0)), (14, (.map (em (fun k => D.agg (zA k)) (fun v => D.agg ((aB 61) v)) r.2))), (3, (.cells [(.map 0 14)])), (7, (.cells [(xi s4_19)]))], []⟩, []⟩
noncomputable def zUm (p0 : zi) (v2 : zt7) (s4_19 : Int) : (Int × (List (zt × (Nat → Bool)))) → Ex × St := fun r => ((.exit 6), zbf p0 v2 s4_19 r)
theorem zom (k : Nat) (p0 : zi) (v2 : zt7) (s4_19 s24_13 : Int) (s24_21 : zt1) (x : (Int × (List (zt × (Nat → Bool)))) ⊕ (Int × (List (zt × (Nat → Bool))))) (h : zkc k p0 v2 s4_19 s24_13 s24_21 = some x) : zT TE 103 (blk TE 103 6) (fun s : (Int × (List (zt × (Nat → Bool)))) => zNm p0 v2 s4_19 s.1 s.2) (zUm p0 v2 s4_19) (s24_13, s24_21) x := by
 unfold zkc at h
 refine zr h (fun h3401 g1 => ?_) (fun h3401 g1 => ?_)
 ·refine zo g1 (fun v3402 h3403 g2 => ?_)
  refine zr g2 (fun h3404 g3 => ?_) (fun h3404 g3 => ?_)
  ·cases g3
  ·refine zo g3 (fun v3405 h3406 g4 => ?_)
   exact zqn ((w64 (s24_13 + 1)), v3405.2) [] [(103, 17, 0, .q (xb true)), (103, 19, 3, .c (.fn 181 [] [(.pin [(di v3402.1), (dl zn v3402.2.1.1 v3402.2.1.2), (dl zp v3402.2.2.1.1 v3402.2.2.1.2), (dl zm v3402.2.2.2.1.1 v3402.2.2.2.1.2), (dl zu v3402.2.2.2.2.1.1 v3402.2.2.2.2.1.2), (di v3402.2.2.2.2.2.1), (di v3402.2.2.2.2.2.2.1)]), (.pin [(di v3402.2.2.2.2.2.2.2.1)]), (.pin [(di v3402.2.2.2.2.2.2.2.2)])])), (181, 0, 3, .q (xi (v3402.2.2.2.1.1.length : Int))), (181, 0, 4, .q (xi (zK 1 (v3402.2.2.2.1.1.length : Int))))] [(181, 0, (.nor, z0e p0 v2 s4_19 s24_13 v3402 v3405))] g4 (ob (o_b h3401) (ob (zfk k p0 s4_19 s24_13 _ h3403) (ob (zC zm v3402.2.2.2.1.1) (ob (zfc (x := 1) h3404) (ob (zG (id := 0) (r' := (.nor, z0e p0 v2 s4_19 s24_13 v3402 v3405)) (zUb (zsm k p0 v2 s4_19 s24_13 v3402) k _ _ h3406) rfl) ob0))))) (by kernel_rfl)
 ·exact zqo [(103, 17, 0, .q (xb false))] [] g1 (ob (o_b h3401) ob0) (by kernel_rfl)
noncomputable def zFy (p0 : zi) (v2 : zt7) : TM := [(0, (.d (.agg (zq p0)))), (zsp 1), (2, (.d (.mp []))), (zsp 3), (19, (xi (zK 1 (p0.ShelfBook.Deliveries.1.length : Int)))), (20, (xi v2.1)), (21, (xb false)), (zsp 7)]
noncomputable def zen (p0 : zi) (v2 : zt7) (s4_18 : zt1) (s4_19 : Int) : St := ⟨(zFy p0 v2), ⟨[(zc 1 (zq p0)), (14, (.map (em (fun k => D.agg (zA k)) (fun v => D.agg ((aB 61) v)) s4_18))), (3, (.cells [(.map 0 14)])), (7, (.cells [(xi s4_19)]))], []⟩, []⟩
noncomputable def zSf (p0 : zi) (v2 : zt7) (r : ((List (zt × (Nat → Bool))) × Int)) : St := ⟨(zFy p0 v2 ++ [(52, (xb false))]), ⟨[(zc 1 (zq p0)), (14, (.map (em (fun k => D.agg (zA k)) (fun v => D.agg ((aB 61) v)) r.1))), (3, (.cells [(.map 0 14)])), (7, (.cells [(xi r.2)]))], []⟩, []⟩
noncomputable def zpn (p0 : zi) (v2 : zt7) : ((List (zt × (Nat → Bool))) × Int) → Ex × St := fun r => ((.exit 4), zSf p0 v2 r)
theorem zQm (k : Nat) (p0 : zi) (v2 : zt7) (s4_18 : zt1) (s4_19 : Int) (x : ((List (zt × (Nat → Bool))) × Int) ⊕ ((List (zt × (Nat → Bool))) × Int)) (h : zvd k p0 v2 s4_18 s4_19 = some x) : zT TE 103 (blk TE 103 4) (fun s : ((List (zt × (Nat → Bool))) × Int) => zen p0 v2 s.1 s.2) (zpn p0 v2) (s4_18, s4_19) x := by
 unfold zvd at h
 refine zr h (fun h2401 g1 => ?_) (fun h2401 g1 => ?_)
 ·refine zr g1 (fun h2402 g2 => ?_) (fun h2402 g2 => ?_)
  ·cases g2
  ·refine zo g2 (fun v2403 h2404 g3 => ?_)
   exact zqn (v2403.2, (w64 (s4_19 - 1))) [] [(103, 14, 1, .q (xb true)), (103, 16, 3, .q (xi (p0.ShelfBook.Deliveries.1.length : Int))), (103, 16, 4, .q (xi (zK 1 (p0.ShelfBook.Deliveries.1.length : Int))))] [(103, 6, (.nor, zbf p0 v2 s4_19 v2403))] g3 (ob (o_b h2401) (ob (zC zm p0.ShelfBook.Deliveries.1) (ob (zfc (x := 1) h2402) (ob (zG (id := 6) (r' := (.nor, zbf p0 v2 s4_19 v2403)) (zUb (zom k p0 v2 s4_19) k _ _ h2404) rfl) ob0)))) (by kernel_rfl)
 ·exact zqo [(103, 14, 1, .q (xb false))] [] g1 (ob (o_b h2401) ob0) (by kernel_rfl)
theorem zSo (k : Nat) (p0 : zi) (r : zt1) (h : zSe k p0 = some r) : zI TE (ev TE) 103 [(.agg (zq p0))] = some (ztk r) := by
 unfold zSe at h
 refine zr h (fun h1 g1 => ?_) (fun h1 g1 => ?_)
 ·cases g1
 ·refine zo g1 (fun v2 h3 g2 => ?_)
  refine zo g2 (fun v4 h5 g3 => ?_)
  exact zP (g := ztk) g3 (zqc [(103, 2, 3, .q (xi (p0.ShelfBook.Deliveries.1.length : Int))), (103, 2, 4, .q (xi (zK 1 (p0.ShelfBook.Deliveries.1.length : Int))))] [(103, 0, (.nor, zAf p0 v2)), (103, 4, (.nor, zSf p0 v2 v4))] (ob (zC zm p0.ShelfBook.Deliveries.1) (ob (zfc (x := 1) h1) (ob (zG (id := 0) (r' := (.nor, zAf p0 v2)) (zUb (z6m k p0) k _ _ h3) rfl) (ob (zG (id := 4) (r' := (.nor, zSf p0 v2 v4)) (zUb (zQm k p0 v2) k _ _ h5) rfl) ob0)))) (by kernel_rfl))
noncomputable def z8A (p0 : zi) (v1 v3 : zt1) (s1_10 s13_13 : Int) (v1902 : zt0) (s19_2 : Int) : TM := [(0, (.d (.agg (zq p0)))), (zsp 1), (zsp 2), (zsp 3), (4, (.d (.mp (em (fun k => D.agg (zA k)) (fun v => D.agg ((aB 61) v)) v1)))), (5, (.d (.mp (em (fun k => D.agg (zA k)) (fun v => D.agg ((aB 61) v)) v3)))), (17, (xi p0.ShelfBook.Days)), (18, (xi s1_10)), (19, (xb true)), (zsp 6), (25, (xi (zK 1 (p0.ShelfBook.Deliveries.1.length : Int)))), (26, (xi s13_13)), (27, (xb true)), (7, (xi s13_13)), (zsp 8), (zsp 9), (38, (.d (.fn 145 [] [(.pin (aB 61 v1902))]))), (39, (xi s19_2)), (10, (xi s19_2))]
noncomputable def zbt (p0 : zi) (v1 v3 : zt1) (s1_10 s13_13 : Int) (v1902 : zt0) : TM := [(0, (.d (.agg (zq p0)))), (zsp 1), (zsp 2), (zsp 3), (4, (.d (.mp (em (fun k => D.agg (zA k)) (fun v => D.agg ((aB 61) v)) v1)))), (5, (.d (.mp (em (fun k => D.agg (zA k)) (fun v => D.agg ((aB 61) v)) v3)))), (17, (xi p0.ShelfBook.Days)), (18, (xi s1_10)), (19, (xb true)), (zsp 6), (25, (xi (zK 1 (p0.ShelfBook.Deliveries.1.length : Int)))), (26, (xi s13_13)), (27, (xb true)), (7, (xi s13_13)), (zsp 8), (zsp 9), (38, (.d (.fn 145 [] [(.pin (aB 61 v1902))])))]
noncomputable def z0c (p0 : zi) (v1 v3 : zt1) (s1_10 s13_13 : Int) (v1902 : zt0) (s19_2 : Int) (s19_11 r : zt0) : St := ⟨(z8A p0 v1 v3 s1_10 s13_13 v1902 s19_2), ⟨[], [[(zc 1 (zq p0)), (zc 2 (aB 732 (fun _ => false))), (zc 3 (aB 732 r)), (6, (.cells [(xi s1_10)])), (8, (.cells [(xi s1_10), (xi s13_13)])), (zc 9 (aB 61 ((z8 zB (⟨s1_10, s13_13⟩ : zt) v3).getD (fun _ => false))))], []]⟩, [⟨(zbt p0 v1 v3 s1_10 s13_13 v1902), 0, rfP (blk TE 50 4), rfA (blk TE 50 4), rfB (blk TE 50 4), 50, .busy⟩]⟩
noncomputable def z4A (p0 : zi) (k : Nat) (v1 v3 : zt1) (s1_10 s13_13 : Int) (v1902 : zt0) (s19_2 : Int) : TM := [(0, (.d (.agg (zq p0)))), (zsp 1), (zsp 2), (zsp 3), (4, (.d (.mp (em (fun k => D.agg (zA k)) (fun v => D.agg ((aB 61) v)) v1)))), (5, (.d (.mp (em (fun k => D.agg (zA k)) (fun v => D.agg ((aB 61) v)) v3)))), (17, (xi p0.ShelfBook.Days)), (18, (xi s1_10)), (19, (xb true)), (zsp 6), (25, (xi (zK 1 (p0.ShelfBook.Deliveries.1.length : Int)))), (26, (xi s13_13)), (27, (xb true)), (7, (xi s13_13)), (zsp 8), (zsp 9), (38, (.d (.fn 145 [] [(.pin (aB 61 v1902))]))), (39, (xi s19_2)), (10, (xi s19_2))]
noncomputable def zHy (p0 : zi) (k : Nat) (v1 v3 : zt1) (s1_10 s13_13 : Int) (v1902 : zt0) : TM := [(0, (.d (.agg (zq p0)))), (zsp 1), (zsp 2), (zsp 3), (4, (.d (.mp (em (fun k => D.agg (zA k)) (fun v => D.agg ((aB 61) v)) v1)))), (5, (.d (.mp (em (fun k => D.agg (zA k)) (fun v => D.agg ((aB 61) v)) v3)))), (17, (xi p0.ShelfBook.Days)), (18, (xi s1_10)), (19, (xb true)), (zsp 6), (25, (xi (zK 1 (p0.ShelfBook.Deliveries.1.length : Int)))), (26, (xi s13_13)), (27, (xb true)), (7, (xi s13_13)), (zsp 8), (zsp 9), (38, (.d (.fn 145 [] [(.pin (aB 61 v1902))])))]
theorem zfl (k : Nat) (p0 : zi) (v1 v3 : zt1) (s1_10 s13_13 : Int) (v1902 : zt0) (s19_2 : Int) (s19_11 r : zt0) (h : zJd k p0 v1 v3 s1_10 s13_13 v1902 s19_2 s19_11 = some r) : ev TE 50 (rgn TE 50 13) ⟨(z4A p0 k v1 v3 s1_10 s13_13 v1902 s19_2), ⟨[], [[(zc 1 (zq p0)), (zc 2 (aB 732 (fun _ => false))), (zc 3 (aB 732 s19_11)), (6, (.cells [(xi s1_10)])), (8, (.cells [(xi s1_10), (xi s13_13)])), (zc 9 (aB 61 ((z8 zB (⟨s1_10, s13_13⟩ : zt) v3).getD (fun _ => false))))], []]⟩, [⟨(zHy p0 k v1 v3 s1_10 s13_13 v1902), 0, rfP (blk TE 50 4), rfA (blk TE 50 4), rfB (blk TE 50 4), 50, .busy⟩]⟩ = some (.nor, z0c p0 v1 v3 s1_10 s13_13 v1902 s19_2 s19_11 r) := by
 unfold zJd at h
 refine z6 h (fun h2401 g1 => ?_)
 refine z6 g1 (fun h2402 g2 => ?_)
 refine zr g2 (fun h2403 g3 => ?_) (fun h2403 g3 => ?_)
 ·exact zE (g := fun r => (Ex.nor, z0c p0 v1 v3 s1_10 s13_13 v1902 s19_2 s19_11 r)) g3 (zqe [(50, 13, 4, .q (.ptr 0 3 ((s1_10.toNat * 61)))), (50, 13, 5, .q (.ptr 0 3 (((s1_10.toNat * 61) + s19_2.toNat)))), (50, 13, 6, .q (xb (s19_11 ((s1_10.toNat * 61) + s19_2.toNat)))), (50, 13, 7, .q (xb true)), (50, 13, 12, .q (.ptr 0 3 ((s1_10.toNat * 61)))), (50, 13, 13, .q (.ptr 0 3 (((s1_10.toNat * 61) + s19_2.toNat)))), (50, 13, 14, .st ((aB 732 (upd s19_11 ((s1_10.toNat * 61) + s19_2.toNat) true)).map .d))] [] (ob (zAb (m := 12) 0 3 0 61 (s1_10.toNat * 61) h2401 (by omega)) (ob (zAb (m := 61) 0 3 (s1_10.toNat * 61) 1 ((s1_10.toNat * 61) + s19_2.toNat) h2402 (by omega)) (ob (znr 732 s19_11 ((s1_10.toNat * 61) + s19_2.toNat) (by have h1 := h2402; have h2 := h2401; simp only [Bool.and_eq_true, decide_eq_true_eq] at h1 h2; omega)) (ob (o_b h2403) (ob (zAb (m := 12) 0 3 0 61 (s1_10.toNat * 61) h2401 (by omega)) (ob (zAb (m := 61) 0 3 (s1_10.toNat * 61) 1 ((s1_10.toNat * 61) + s19_2.toNat) h2402 (by omega)) (ob (zKk 732 s19_11 ((s1_10.toNat * 61) + s19_2.toNat) true (by have h1 := h2402; have h2 := h2401; simp only [Bool.and_eq_true, decide_eq_true_eq] at h1 h2; omega)) ob0))))))) (by kernel_rfl))
 ·exact zE (g := fun r => (Ex.nor, z0c p0 v1 v3 s1_10 s13_13 v1902 s19_2 s19_11 r)) g3 (zqe [(50, 13, 4, .q (.ptr 0 3 ((s1_10.toNat * 61)))), (50, 13, 5, .q (.ptr 0 3 (((s1_10.toNat * 61) + s19_2.toNat)))), (50, 13, 6, .q (xb (s19_11 ((s1_10.toNat * 61) + s19_2.toNat)))), (50, 13, 7, .q (xb false)), (50, 13, 9, .q (.ptr 0 9 (s19_2.toNat))), (50, 13, 10, .q (xb (((z8 zB (⟨s1_10, s13_13⟩ : zt) v3).getD (fun _ => false)) s19_2.toNat))), (50, 13, 12, .q (.ptr 0 3 ((s1_10.toNat * 61)))), (50, 13, 13, .q (.ptr 0 3 (((s1_10.toNat * 61) + s19_2.toNat)))), (50, 13, 14, .st ((aB 732 (upd s19_11 ((s1_10.toNat * 61) + s19_2.toNat) (((z8 zB (⟨s1_10, s13_13⟩ : zt) v3).getD (fun _ => false)) s19_2.toNat))).map .d))] [] (ob (zAb (m := 12) 0 3 0 61 (s1_10.toNat * 61) h2401 (by omega)) (ob (zAb (m := 61) 0 3 (s1_10.toNat * 61) 1 ((s1_10.toNat * 61) + s19_2.toNat) h2402 (by omega)) (ob (znr 732 s19_11 ((s1_10.toNat * 61) + s19_2.toNat) (by have h1 := h2402; have h2 := h2401; simp only [Bool.and_eq_true, decide_eq_true_eq] at h1 h2; omega)) (ob (o_b h2403) (ob (zAb (m := 61) 0 9 0 1 s19_2.toNat h2402 (by omega)) (ob (znr 61 ((z8 zB (⟨s1_10, s13_13⟩ : zt) v3).getD (fun _ => false)) s19_2.toNat (by have := h2402; simp only [Bool.and_eq_true, decide_eq_true_eq] at this; omega)) (ob (zAb (m := 12) 0 3 0 61 (s1_10.toNat * 61) h2401 (by omega)) (ob (zAb (m := 61) 0 3 (s1_10.toNat * 61) 1 ((s1_10.toNat * 61) + s19_2.toNat) h2402 (by omega)) (ob (zKk 732 s19_11 ((s1_10.toNat * 61) + s19_2.toNat) (((z8 zB (⟨s1_10, s13_13⟩ : zt) v3).getD (fun _ => false)) s19_2.toNat) (by have h1 := h2402; have h2 := h2401; simp only [Bool.and_eq_true, decide_eq_true_eq] at h1 h2; omega)) ob0))))))))) (by kernel_rfl))
noncomputable def zBB (v1902 : zt0) (s19_2 : Int) : TM := [(0, (.yld 0)), (1, (.d (.pin (aB 61 v1902)))), (5, (.d (.agg (aB 61 v1902)))), (6, (xi s19_2)), (7, (xb true)), (3, (xi s19_2)), (4, (xb (v1902 s19_2.toNat))), (16, (xb false))]
noncomputable def z2c (p0 : zi) (v1 v3 : zt1) (s1_10 s13_13 : Int) (v1902 : zt0) (s19_2 : Int) (s19_11 r : zt0) : St := ⟨(zBB v1902 s19_2), ⟨[], [[(zc 1 (zq p0)), (zc 2 (aB 732 (fun _ => false))), (zc 3 (aB 732 r)), (6, (.cells [(xi s1_10)])), (8, (.cells [(xi s1_10), (xi s13_13)])), (zc 9 (aB 61 ((z8 zB (⟨s1_10, s13_13⟩ : zt) v3).getD (fun _ => false))))]]⟩, [⟨(zbt p0 v1 v3 s1_10 s13_13 v1902), 0, rfP (blk TE 50 4), rfA (blk TE 50 4), rfB (blk TE 50 4), 50, .rdy⟩]⟩
noncomputable def zeB (v1902 : zt0) (s19_2 : Int) : TM := [(0, (.yld 0)), (1, (.d (.pin (aB 61 v1902)))), (5, (.d (.agg (aB 61 v1902)))), (6, (xi s19_2)), (7, (xb true)), (3, (xi s19_2)), (4, (xb (v1902 s19_2.toNat)))]
theorem z8k (k : Nat) (p0 : zi) (v1 v3 : zt1) (s1_10 s13_13 : Int) (v1902 : zt0) (s19_2 : Int) (s19_11 r : zt0) (h : zLd k p0 v1 v3 s1_10 s13_13 v1902 s19_2 s19_11 = some r) : ev TE 145 (rgn TE 145 3) ⟨(zeB v1902 s19_2), ⟨[], [[(zc 1 (zq p0)), (zc 2 (aB 732 (fun _ => false))), (zc 3 (aB 732 s19_11)), (6, (.cells [(xi s1_10)])), (8, (.cells [(xi s1_10), (xi s13_13)])), (zc 9 (aB 61 ((z8 zB (⟨s1_10, s13_13⟩ : zt) v3).getD (fun _ => false))))]]⟩, [⟨(zHy p0 k v1 v3 s1_10 s13_13 v1902), 0, rfP (blk TE 50 4), rfA (blk TE 50 4), rfB (blk TE 50 4), 50, .rdy⟩]⟩ = some (.nor, z2c p0 v1 v3 s1_10 s13_13 v1902 s19_2 s19_11 r) := by
 unfold zLd at h
 refine zr h (fun h2301 g1 => ?_) (fun h2301 g1 => ?_)
 ·refine zo g1 (fun v2302 h2303 g2 => ?_)
  exact zE (g := fun r => (Ex.nor, z2c p0 v1 v3 s1_10 s13_13 v1902 s19_2 s19_11 r)) g2 (zqe [(145, 3, 1, .q (xb true))] [(50, 1000013, (.nor, z0c p0 v1 v3 s1_10 s13_13 v1902 s19_2 s19_11 v2302))] (ob (o_b h2301) (ob (zfl k p0 v1 v3 s1_10 s13_13 v1902 s19_2 s19_11 _ h2303) ob0)) (by kernel_rfl))
 ·exact zE (g := fun r => (Ex.nor, z2c p0 v1 v3 s1_10 s13_13 v1902 s19_2 s19_11 r)) g1 (zqe [(145, 3, 1, .q (xb false))] [] (ob (o_b h2301) ob0) (by kernel_rfl))
noncomputable def zwA (v1902 : zt0) (s19_2 : Int) : TM := [(0, (.yld 0)), (1, (.d (.pin (aB 61 v1902)))), (5, (.d (.agg (aB 61 v1902)))), (6, (xi s19_2))]
noncomputable def zCl (p0 : zi) (v1 v3 : zt1) (s1_10 s13_13 : Int) (v1902 : zt0) (s19_2 : Int) (s19_11 : zt0) : St := ⟨(zwA v1902 s19_2), ⟨[], [[(zc 1 (zq p0)), (zc 2 (aB 732 (fun _ => false))), (zc 3 (aB 732 s19_11)), (6, (.cells [(xi s1_10)])), (8, (.cells [(xi s1_10), (xi s13_13)])), (zc 9 (aB 61 ((z8 zB (⟨s1_10, s13_13⟩ : zt) v3).getD (fun _ => false))))]]⟩, [⟨(zbt p0 v1 v3 s1_10 s13_13 v1902), 0, rfP (blk TE 50 4), rfA (blk TE 50 4), rfB (blk TE 50 4), 50, .rdy⟩]⟩
noncomputable def znB (v1902 : zt0) (r : zt16) : TM := [(0, (.yld 0)), (1, (.d (.pin (aB 61 v1902)))), (5, (.d (.agg (aB 61 v1902)))), (6, (xi r.1)), (7, (xb false))]
noncomputable def zme (p0 : zi) (v1 v3 : zt1) (s1_10 s13_13 : Int) (v1902 : zt0) (r : zt16) : St := ⟨(znB v1902 r), ⟨[], [[(zc 1 (zq p0)), (zc 2 (aB 732 (fun _ => false))), (zc 3 (aB 732 r.2)), (6, (.cells [(xi s1_10)])), (8, (.cells [(xi s1_10), (xi s13_13)])), (zc 9 (aB 61 ((z8 zB (⟨s1_10, s13_13⟩ : zt) v3).getD (fun _ => false))))]]⟩, [⟨(zbt p0 v1 v3 s1_10 s13_13 v1902), 0, rfP (blk TE 50 4), rfA (blk TE 50 4), rfB (blk TE 50 4), 50, .rdy⟩]⟩
noncomputable def zyl (p0 : zi) (v1 v3 : zt1) (s1_10 s13_13 : Int) (v1902 : zt0) : (Int × (Nat → Bool)) → Ex × St := fun r => ((.exit 0), zme p0 v1 v3 s1_10 s13_13 v1902 r)
theorem z1k (k : Nat) (p0 : zi) (v1 v3 : zt1) (s1_10 s13_13 : Int) (v1902 : zt0) (s19_2 : Int) (s19_11 : zt0) (x : (Int × (Nat → Bool)) ⊕ (Int × (Nat → Bool))) (h : z2b k p0 v1 v3 s1_10 s13_13 v1902 s19_2 s19_11 = some x) : zT TE 145 (blk TE 145 0) (fun s : (Int × (Nat → Bool)) => zCl p0 v1 v3 s1_10 s13_13 v1902 s.1 s.2) (zyl p0 v1 v3 s1_10 s13_13 v1902) (s19_2, s19_11) x := by
 unfold z2b at h
 refine zr h (fun h2201 g1 => ?_) (fun h2201 g1 => ?_)
 ·refine z6 g1 (fun h2202 g2 => ?_)
  refine zo g2 (fun v2203 h2204 g3 => ?_)
  exact zqn ((w64 (s19_2 + 1)), v2203) [] [(145, 1, 0, .q (xb true)), (145, 2, 1, .q (xb (v1902 s19_2.toNat)))] [(145, 1000003, (.nor, z2c p0 v1 v3 s1_10 s13_13 v1902 s19_2 s19_11 v2203))] g3 (ob (o_b h2201) (ob (zct 61 v1902 s19_2 h2202) (ob (z8k k p0 v1 v3 s1_10 s13_13 v1902 s19_2 s19_11 _ h2204) ob0))) (by kernel_rfl)
 ·exact zqo [(145, 1, 0, .q (xb false))] [] g1 (ob (o_b h2201) ob0) (by kernel_rfl)
noncomputable def zDA (p0 : zi) (v1 v3 : zt1) (s1_10 s13_13 : Int) : TM := [(0, (.d (.agg (zq p0)))), (zsp 1), (zsp 2), (zsp 3), (4, (.d (.mp (em (fun k => D.agg (zA k)) (fun v => D.agg ((aB 61) v)) v1)))), (5, (.d (.mp (em (fun k => D.agg (zA k)) (fun v => D.agg ((aB 61) v)) v3)))), (17, (xi p0.ShelfBook.Days)), (18, (xi s1_10)), (19, (xb true)), (zsp 6), (25, (xi (zK 1 (p0.ShelfBook.Deliveries.1.length : Int)))), (26, (xi s13_13))]
noncomputable def zsl (p0 : zi) (v1 v3 : zt1) (s1_10 s13_13 : Int) (s13_22 : zt0) : St := ⟨(zDA p0 v1 v3 s1_10 s13_13), ⟨[(zc 1 (zq p0)), (zc 2 (aB 732 (fun _ => false))), (zc 3 (aB 732 s13_22)), (6, (.cells [(xi s1_10)]))], []⟩, []⟩
noncomputable def z0A (p0 : zi) (v1 v3 : zt1) (s1_10 : Int) (r : zt16) : TM := [(0, (.d (.agg (zq p0)))), (zsp 1), (zsp 2), (zsp 3), (4, (.d (.mp (em (fun k => D.agg (zA k)) (fun v => D.agg ((aB 61) v)) v1)))), (5, (.d (.mp (em (fun k => D.agg (zA k)) (fun v => D.agg ((aB 61) v)) v3)))), (17, (xi p0.ShelfBook.Days)), (18, (xi s1_10)), (19, (xb true)), (zsp 6), (25, (xi (zK 1 (p0.ShelfBook.Deliveries.1.length : Int)))), (26, (xi r.1)), (27, (xb false))]
noncomputable def zce (p0 : zi) (v1 v3 : zt1) (s1_10 : Int) (r : zt16) : St := ⟨(z0A p0 v1 v3 s1_10 r), ⟨[(zc 1 (zq p0)), (zc 2 (aB 732 (fun _ => false))), (zc 3 (aB 732 r.2)), (6, (.cells [(xi s1_10)]))], []⟩, []⟩
noncomputable def zDl (p0 : zi) (v1 v3 : zt1) (s1_10 : Int) : (Int × (Nat → Bool)) → Ex × St := fun r => ((.exit 2), zce p0 v1 v3 s1_10 r)
theorem zal (k : Nat) (p0 : zi) (v1 v3 : zt1) (s1_10 s13_13 : Int) (s13_22 : zt0) (x : (Int × (Nat → Bool)) ⊕ (Int × (Nat → Bool))) (h : z4b k p0 v1 v3 s1_10 s13_13 s13_22 = some x) : zT TE 50 (blk TE 50 2) (fun s : (Int × (Nat → Bool)) => zsl p0 v1 v3 s1_10 s.1 s.2) (zDl p0 v1 v3 s1_10) (s13_13, s13_22) x := by
 unfold z4b at h
 refine zr h (fun h1901 g1 => ?_) (fun h1901 g1 => ?_)
 ·refine zo g1 (fun v1902 h1903 g2 => ?_)
  refine zo g2 (fun v1904 h1905 g3 => ?_)
  exact zqn ((w64 (s13_13 + 1)), v1904.2) [] [(50, 7, 0, .q (xb true)), (50, 10, 2, .q (.d (.agg (aB 61 ((z8 zB (⟨s1_10, s13_13⟩ : zt) v3).getD (fun _ => false)))))), (50, 11, 2, .q (.d (.agg (aB 61 ((z8 zB (⟨s1_10, s13_13⟩ : zt) v1).getD (fun _ => false)))))), (50, 11, 3, .c (.fn 145 [] [(.pin (aB 61 v1902))]))] [(145, 0, (.nor, zme p0 v1 v3 s1_10 s13_13 v1902 v1904))] g3 (ob (o_b h1901) (ob (zli (ek := (fun k => D.agg (zA k))) (evl := (fun v => D.agg ((aB 61) v))) (q := zB) (fun _ _ => rfl) (⟨s1_10, s13_13⟩ : zt) v3 (fun _ => false)) (ob (zli (ek := (fun k => D.agg (zA k))) (evl := (fun v => D.agg ((aB 61) v))) (q := zB) (fun _ _ => rfl) (⟨s1_10, s13_13⟩ : zt) v1 (fun _ => false)) (ob (z1c k ((z8 zB (⟨s1_10, s13_13⟩ : zt) v1).getD (fun _ => false)) _ h1903) (ob (zG (id := 0) (r' := (.nor, zme p0 v1 v3 s1_10 s13_13 v1902 v1904)) (zUb (z1k k p0 v1 v3 s1_10 s13_13 v1902) k _ _ h1905) rfl) ob0))))) (by kernel_rfl)
 ·exact zqo [(50, 7, 0, .q (xb false))] [] g1 (ob (o_b h1901) ob0) (by kernel_rfl)
noncomputable def z8z (p0 : zi) (v1 v3 : zt1) (s1_10 : Int) : TM := [(0, (.d (.agg (zq p0)))), (zsp 1), (zsp 2), (zsp 3), (4, (.d (.mp (em (fun k => D.agg (zA k)) (fun v => D.agg ((aB 61) v)) v1)))), (5, (.d (.mp (em (fun k => D.agg (zA k)) (fun v => D.agg ((aB 61) v)) v3)))), (17, (xi p0.ShelfBook.Days)), (18, (xi s1_10))]
noncomputable def zkm (p0 : zi) (v1 v3 : zt1) (s1_10 : Int) (s1_19 : zt0) : St := ⟨(z8z p0 v1 v3 s1_10), ⟨[(zc 1 (zq p0)), (zc 2 (aB 732 (fun _ => false))), (zc 3 (aB 732 s1_19))], []⟩, []⟩
noncomputable def zYB (p0 : zi) (v1 v3 : zt1) (r : zt16) : TM := [(0, (.d (.agg (zq p0)))), (zsp 1), (zsp 2), (zsp 3), (4, (.d (.mp (em (fun k => D.agg (zA k)) (fun v => D.agg ((aB 61) v)) v1)))), (5, (.d (.mp (em (fun k => D.agg (zA k)) (fun v => D.agg ((aB 61) v)) v3)))), (17, (xi p0.ShelfBook.Days)), (18, (xi r.1)), (19, (xb false))]
noncomputable def zxe (p0 : zi) (v1 v3 : zt1) (r : zt16) : St := ⟨(zYB p0 v1 v3 r), ⟨[(zc 1 (zq p0)), (zc 2 (aB 732 (fun _ => false))), (zc 3 (aB 732 r.2))], []⟩, []⟩
noncomputable def zjm (p0 : zi) (v1 v3 : zt1) : (Int × (Nat → Bool)) → Ex × St := fun r => ((.exit 0), zxe p0 v1 v3 r)
theorem zul (k : Nat) (p0 : zi) (v1 v3 : zt1) (s1_10 : Int) (s1_19 : zt0) (x : (Int × (Nat → Bool)) ⊕ (Int × (Nat → Bool))) (h : zIc k p0 v1 v3 s1_10 s1_19 = some x) : zT TE 50 (blk TE 50 0) (fun s : (Int × (Nat → Bool)) => zkm p0 v1 v3 s.1 s.2) (zjm p0 v1 v3) (s1_10, s1_19) x := by
 unfold zIc at h
 refine zr h (fun h1301 g1 => ?_) (fun h1301 g1 => ?_)
 ·refine zr g1 (fun h1302 g2 => ?_) (fun h1302 g2 => ?_)
  ·cases g2
  ·refine zo g2 (fun v1303 h1304 g3 => ?_)
   exact zqn ((w64 (s1_10 + 1)), v1303.2) [] [(50, 4, 0, .q (xb true)), (50, 6, 3, .q (xi (p0.ShelfBook.Deliveries.1.length : Int))), (50, 6, 4, .q (xi (zK 1 (p0.ShelfBook.Deliveries.1.length : Int))))] [(50, 2, (.nor, zce p0 v1 v3 s1_10 v1303))] g3 (ob (o_b h1301) (ob (zC zm p0.ShelfBook.Deliveries.1) (ob (zfc (x := 1) h1302) (ob (zG (id := 2) (r' := (.nor, zce p0 v1 v3 s1_10 v1303)) (zUb (zal k p0 v1 v3 s1_10) k _ _ h1304) rfl) ob0)))) (by kernel_rfl)
 ·exact zqo [(50, 4, 0, .q (xb false))] [] g1 (ob (o_b h1301) ob0) (by kernel_rfl)
theorem zsi (k : Nat) (p0 : zi) (r : zt0) (h : zQc k p0 = some r) : zI TE (ev TE) 50 [(.agg (zq p0))] = some (z1i r) := by
 unfold zQc at h
 refine zo h (fun v1 h2 g1 => ?_)
 refine zo g1 (fun v3 h4 g2 => ?_)
 refine zo g2 (fun v5 h6 g3 => ?_)
 exact zP (g := z1i) g3 (zqc [(50, 2, 1, .c (.mp (em (fun k => D.agg (zA k)) (fun v => D.agg ((aB 61) v)) v1))), (50, 2, 3, .c (.mp (em (fun k => D.agg (zA k)) (fun v => D.agg ((aB 61) v)) v3)))] [(50, 0, (.nor, zxe p0 v1 v3 v5))] (ob (zwg k p0 _ h2) (ob (zSo k p0 _ h4) (ob (zG (id := 0) (r' := (.nor, zxe p0 v1 v3 v5)) (zUb (zul k p0 v1 v3) k _ _ h6) rfl) ob0))) (by kernel_rfl))
theorem zrm (k : Nat) (p0 : zD) (r : Int) (h : zue k p0 = some r) : zI TE (ev TE) 105 [(.agg [(di p0.Low), (di p0.High)])] = some (zbi r) := by
 unfold zue at h
 exact zP (g := zbi) h (zqc [] [] ob0 (by kernel_rfl))
noncomputable def z8B (s1_0 : Int) (p1 : (SL Int)) (s1_5 : Int) : TM := [(0, (xi s1_0)), (1, (.d (dl eI p1.1 p1.2))), (4, (xi 0)), (7, (.d (dl eI p1.1 p1.2))), (8, (xi (p1.1.length : Int))), (9, (xi s1_5))]
noncomputable def zEl (p1 : (SL Int)) (s1_0 s1_5 : Int) : St := ⟨(z8B s1_0 p1 s1_5), ⟨[], []⟩, []⟩
noncomputable def zVA (r : (Int × Int)) (p1 : (SL Int)) : TM := [(0, (xi r.1)), (1, (.d (dl eI p1.1 p1.2))), (4, (xi 0)), (7, (.d (dl eI p1.1 p1.2))), (8, (xi (p1.1.length : Int))), (9, (xi r.2)), (10, (xb false))]
noncomputable def zbe (p1 : (SL Int)) (r : (Int × Int)) : St := ⟨(zVA r p1), ⟨[], []⟩, []⟩
noncomputable def ztl (p1 : (SL Int)) : (Int × Int) → Ex × St := fun r => ((.exit 0), zbe p1 r)
theorem z6k (k : Nat) (p1 : (SL Int)) (s1_0 s1_5 : Int) (x : (Int × Int) ⊕ (Int × Int)) (h : zMb k p1 s1_0 s1_5 = some x) : zT TE 52 (blk TE 52 0) (fun s : (Int × Int) => zEl p1 s.1 s.2) (ztl p1) (s1_0, s1_5) x := by
 unfold zMb at h
 refine zr h (fun h201 g1 => ?_) (fun h201 g1 => ?_)
 ·refine zo g1 (fun v202 h203 g2 => ?_)
  exact zqn ((if v202 > s1_0 then v202 else s1_0), (w64 (s1_5 + 1))) [] [(52, 2, 0, .q (xb true)), (52, 3, 0, .q (.d (.pin [(di v202)])))] [] g2 (ob (o_b h201) (ob (o_ia (e := eI) 1 h203 rfl) ob0)) (by kernel_rfl)
 ·exact zqo [(52, 2, 0, .q (xb false))] [] g1 (ob (o_b h201) ob0) (by kernel_rfl)
theorem zQf (k : Nat) (p0 : Int) (p1 : (SL Int)) (r : Int) (h : z6b k p0 p1 = some r) : zI TE (ev TE) 52 [(di p0), (dl eI p1.1 p1.2)] = some (zni r) := by
 unfold z6b at h
 refine zo h (fun v1 h2 g1 => ?_)
 exact zP (g := zni) g1 (zqc [(52, 1, 1, .q (xi (p1.1.length : Int)))] [(52, 0, (.nor, zbe p1 v1))] (ob (zC eI p1.1) (ob (zG (id := 0) (r' := (.nor, zbe p1 v1)) (zUb (z6k k p1) k _ _ h2) rfl) ob0)) (by kernel_rfl))
theorem z9l (k : Nat) (p0 : zD) (r : Int) (h : zpe k p0 = some r) : zI TE (ev TE) 106 [(.agg [(di p0.Low), (di p0.High)])] = some (zii r) := by
 unfold zpe at h
 exact zP (g := zii) h (zqc [] [] ob0 (by kernel_rfl))
noncomputable def ztA (v1 : zt0) (s1_2 : Int) : TM := [(0, (.yld 0)), (1, (.d (.pin (aB 61 v1)))), (5, (.d (.agg (aB 61 v1)))), (6, (xi s1_2)), (7, (xb true)), (3, (xi s1_2)), (4, (xb (v1 s1_2.toNat))), (16, (xb false))]
noncomputable def zht (p0 v1 : zt0) : TM := [(0, (.d (.agg (aB 61 p0)))), (zsp 1), (zsp 2), (zsp 3), (zsp 4), (zsp 5), (11, (.d (.fn 145 [] [(.pin (aB 61 v1))])))]
noncomputable def znd (p0 v1 : zt0) (s1_2 s1_6 s1_7 : Int) (r : (Int × Int)) : St := ⟨(ztA v1 s1_2), ⟨[], [[(zc 1 (aB 61 p0)), (2, (.cells [(xi 0), (xi 0)])), (3, (.cells [(xi r.1), (xi r.2)])), (4, (.cells [(.d (.fn 105 [] []))])), (5, (.cells [(.d (.fn 106 [] []))]))]]⟩, [⟨(zht p0 v1), 0, rfP (blk TE 51 0), rfA (blk TE 51 0), rfB (blk TE 51 0), 51, .rdy⟩]⟩
noncomputable def zvA (v1 : zt0) (s1_2 : Int) : TM := [(0, (.yld 0)), (1, (.d (.pin (aB 61 v1)))), (5, (.d (.agg (aB 61 v1)))), (6, (xi s1_2)), (7, (xb true)), (3, (xi s1_2)), (4, (xb (v1 s1_2.toNat)))]
theorem zHl (k : Nat) (p0 v1 : zt0) (s1_2 s1_6 s1_7 : Int) (r : (Int × Int)) (h : zVd k p0 v1 s1_2 s1_6 s1_7 = some r) : ev TE 145 (rgn TE 145 3) ⟨(zvA v1 s1_2), ⟨[], [[(zc 1 (aB 61 p0)), (2, (.cells [(xi 0), (xi 0)])), (3, (.cells [(xi s1_6), (xi s1_7)])), (4, (.cells [(.d (.fn 105 [] []))])), (5, (.cells [(.d (.fn 106 [] []))]))]]⟩, [⟨(zht p0 v1), 0, rfP (blk TE 51 0), rfA (blk TE 51 0), rfB (blk TE 51 0), 51, .rdy⟩]⟩ = some (.nor, znd p0 v1 s1_2 s1_6 s1_7 r) := by
 unfold zVd at h
 refine zr h (fun h401 g1 => ?_) (fun h401 g1 => ?_)
 ·refine zo g1 (fun v402 h403 g2 => ?_)
  refine zo g2 (fun v404 h405 g3 => ?_)
  refine zo g3 (fun v406 h407 g4 => ?_)
  refine zo g4 (fun v408 h409 g5 => ?_)
  exact zE (g := fun r => (Ex.nor, znd p0 v1 s1_2 s1_6 s1_7 r)) g5 (zqe [(145, 3, 1, .q (xb true)), (51, 5, 3, .c (di v402)), (51, 5, 8, .c (di v404)), (51, 5, 13, .c (di v406)), (51, 5, 16, .c (di v408))] [] (ob (o_b h401) (ob (zrm k (⟨s1_6, s1_7⟩ : zD) _ h403) (ob (zQf k (w64 (0 - v402)) ([(w64 (0 - s1_2))], .ex) _ h405) (ob (z9l k (⟨s1_6, s1_7⟩ : zD) _ h407) (ob (zQf k v406 ([s1_2], .ex) _ h409) ob0))))) (by kernel_rfl))
 ·exact zE (g := fun r => (Ex.nor, znd p0 v1 s1_2 s1_6 s1_7 r)) g1 (zqe [(145, 3, 1, .q (xb false))] [] (ob (o_b h401) ob0) (by kernel_rfl))
noncomputable def zaB (v1 : zt0) (s1_2 : Int) : TM := [(0, (.yld 0)), (1, (.d (.pin (aB 61 v1)))), (5, (.d (.agg (aB 61 v1)))), (6, (xi s1_2))]
noncomputable def zam (p0 v1 : zt0) (s1_2 s1_6 s1_7 : Int) : St := ⟨(zaB v1 s1_2), ⟨[], [[(zc 1 (aB 61 p0)), (2, (.cells [(xi 0), (xi 0)])), (3, (.cells [(xi s1_6), (xi s1_7)])), (4, (.cells [(.d (.fn 105 [] []))])), (5, (.cells [(.d (.fn 106 [] []))]))]]⟩, [⟨(zht p0 v1), 0, rfP (blk TE 51 0), rfA (blk TE 51 0), rfB (blk TE 51 0), 51, .rdy⟩]⟩
noncomputable def zSB (v1 : zt0) (r : (Int × Int × Int)) : TM := [(0, (.yld 0)), (1, (.d (.pin (aB 61 v1)))), (5, (.d (.agg (aB 61 v1)))), (6, (xi r.1)), (7, (xb false))]
noncomputable def zAe (p0 v1 : zt0) (r : (Int × Int × Int)) : St := ⟨(zSB v1 r), ⟨[], [[(zc 1 (aB 61 p0)), (2, (.cells [(xi 0), (xi 0)])), (3, (.cells [(xi r.2.1), (xi r.2.2)])), (4, (.cells [(.d (.fn 105 [] []))])), (5, (.cells [(.d (.fn 106 [] []))]))]]⟩, [⟨(zht p0 v1), 0, rfP (blk TE 51 0), rfA (blk TE 51 0), rfB (blk TE 51 0), 51, .rdy⟩]⟩
noncomputable def ztm (p0 v1 : zt0) : (Int × Int × Int) → Ex × St := fun r => ((.exit 0), zAe p0 v1 r)
theorem zGl (k : Nat) (p0 v1 : zt0) (s1_2 s1_6 s1_7 : Int) (x : (Int × Int × Int) ⊕ (Int × Int × Int)) (h : zPc k p0 v1 s1_2 s1_6 s1_7 = some x) : zT TE 145 (blk TE 145 0) (fun s : (Int × Int × Int) => zam p0 v1 s.1 s.2.1 s.2.2) (ztm p0 v1) (s1_2, s1_6, s1_7) x := by
 unfold zPc at h
 refine zr h (fun h301 g1 => ?_) (fun h301 g1 => ?_)
 ·refine z6 g1 (fun h302 g2 => ?_)
  refine zo g2 (fun v303 h304 g3 => ?_)
  exact zqn ((w64 (s1_2 + 1)), v303.1, v303.2) [] [(145, 1, 0, .q (xb true)), (145, 2, 1, .q (xb (v1 s1_2.toNat)))] [(145, 1000003, (.nor, znd p0 v1 s1_2 s1_6 s1_7 v303))] g3 (ob (o_b h301) (ob (zct 61 v1 s1_2 h302) (ob (zHl k p0 v1 s1_2 s1_6 s1_7 _ h304) ob0))) (by kernel_rfl)
 ·exact zqo [(145, 1, 0, .q (xb false))] [] g1 (ob (o_b h301) ob0) (by kernel_rfl)
theorem zxi (k : Nat) (p0 : zt0) (r : zD) (h : zVc k p0 = some r) : zI TE (ev TE) 51 [(.agg (aB 61 p0))] = some (zWi r) := by
 unfold zVc at h
 refine zo h (fun v1 h2 g1 => ?_)
 refine zo g1 (fun v3 h4 g2 => ?_)
 exact zP (g := zWi) g2 (zqc [(51, 3, 1, .c (.fn 145 [] [(.pin (aB 61 v1))]))] [(145, 0, (.nor, zAe p0 v1 v3))] (ob (z1c k p0 _ h2) (ob (zG (id := 0) (r' := (.nor, zAe p0 v1 v3)) (zmk (zGl k p0 v1) k _ _ h4) rfl) ob0)) (by kernel_rfl))
theorem z5k (k : Nat) (p0 : zd) (p1 p2 : Int) (r : (zD × Int)) (h : zVf k p0 p1 p2 = some r) : zI TE (ev TE) 13 [(.agg (za p0)), (di p1), (di p2)] = some (zfm r) := by
 unfold zVf at h
 refine zo h (fun v1 h2 g1 => ?_)
 refine zo g1 (fun v3 h4 g2 => ?_)
 refine zr g2 (fun h5 g3 => ?_) (fun h5 g3 => ?_)
 ·exact zP (g := zfm) g3 (zqc [(13, 1, 4, .c (db v1)), (13, 1, 5, .c (di v3)), (13, 2, 1, .q (xb true))] [] (ob (zCg k p0 p1 p2 _ h2) (ob (zmh k p0 v1 _ h4) (ob (o_b h5) ob0))) (by kernel_rfl))
 ·refine zo g3 (fun v6 h7 g4 => ?_)
  refine z6 g4 (fun h8 g5 => ?_)
  refine zo g5 (fun v9 h10 g6 => ?_)
  exact zP (g := zfm) g6 (zqc [(13, 1, 4, .c (db v1)), (13, 1, 5, .c (di v3)), (13, 2, 1, .q (xb false)), (13, 4, 3, .c (.agg (aB 732 v6))), (13, 4, 5, .q (.d (.agg (aB 61 (fun k => v6 (p2.toNat * 61 + k)))))), (13, 4, 6, .c (.agg [(di v9.Low), (di v9.High)]))] [] (ob (zCg k p0 p1 p2 _ h2) (ob (zmh k p0 v1 _ h4) (ob (o_b h5) (ob (zsi k (⟨p0, p1, 0⟩ : zi) _ h7) (ob (zDz 12 61 v6 p2 h8) (ob (zxi k (fun k => v6 (p2.toNat * 61 + k)) _ h10) ob0)))))) (by kernel_rfl))
noncomputable def zNB (p0 : zd) (p1 p2 v3 s1_11 s1_12 : Int) : TM := [(0, (.d (.agg (za p0)))), (1, (xi p1)), (2, (xi p2)), (zsp 3), (6, (xi 0)), (7, (xi 0)), (8, (xi v3)), (19, (xb false)), (9, (xi s1_11)), (zsp 10), (11, (xi s1_12))]
noncomputable def z9q (p0 : zd) (p1 p2 v3 : Int) (v6 : zt0) (s1_11 s1_12 : Int) : St := ⟨(zNB p0 p1 p2 v3 s1_11 s1_12), ⟨[(zc 3 (za p0)), (zc 10 (aB 732 v6))], []⟩, []⟩
noncomputable def z7A (p0 : zd) (p1 p2 v3 : Int) (r : (Int × Int)) : TM := [(0, (.d (.agg (za p0)))), (1, (xi p1)), (2, (xi p2)), (zsp 3), (6, (xi 0)), (7, (xi 0)), (8, (xi v3)), (19, (xb false)), (9, (xi r.1)), (zsp 10), (11, (xi r.2)), (29, (xb false))]
noncomputable def z1h (p0 : zd) (p1 p2 v3 : Int) (v6 : zt0) (r : (Int × Int)) : St := ⟨(z7A p0 p1 p2 v3 r), ⟨[(zc 3 (za p0)), (zc 10 (aB 732 v6))], []⟩, []⟩
noncomputable def zHr (p0 : zd) (p1 p2 v3 : Int) (v6 : zt0) : (Int × Int) → Ex × St := fun r => ((.exit 0), z1h p0 p1 p2 v3 v6 r)
theorem ztq (k : Nat) (p0 : zd) (p1 p2 v3 : Int) (v6 : zt0) (s1_11 s1_12 : Int) (x : (Int × Int) ⊕ (Int × Int)) (h : zpg k p0 p1 p2 v3 v6 s1_11 s1_12 = some x) : zT TE 14 (blk TE 14 0) (fun s : (Int × Int) => z9q p0 p1 p2 v3 v6 s.1 s.2) (zHr p0 p1 p2 v3 v6) (s1_11, s1_12) x := by
 unfold zpg at h
 refine zr h (fun h201 g1 => ?_) (fun h201 g1 => ?_)
 ·refine z6 g1 (fun h202 g2 => ?_)
  refine zo g2 (fun v203 h204 g3 => ?_)
  refine zo g3 (fun v205 h206 g4 => ?_)
  exact zqn ((w64 (0 - v205)), (w64 (s1_12 + 1))) [] [(14, 7, 3, .q (xb true)), (14, 9, 3, .q (.ptr 0 10 ((s1_12.toNat * 61)))), (14, 9, 4, .q (.d (.agg (aB 61 (fun k => v6 ((s1_12.toNat * 61) + k)))))), (14, 9, 5, .c (.agg [(di v203.Low), (di v203.High)])), (14, 9, 9, .c (di v205))] [] g4 (ob (o_b h201) (ob (zAb (m := 12) 0 10 0 61 (s1_12.toNat * 61) h202 (by omega)) (ob (zZz 732 61 v6 (s1_12.toNat * 61) (by have := h202; simp only [Bool.and_eq_true, decide_eq_true_eq] at this; omega)) (ob (zxi k (fun k => v6 ((s1_12.toNat * 61) + k)) _ h204) (ob (zQf k (w64 (0 - s1_11)) ([(w64 (0 - v203.Low))], .ex) _ h206) ob0))))) (by kernel_rfl)
 ·exact zqo [(14, 7, 3, .q (xb false))] [] g1 (ob (o_b h201) ob0) (by kernel_rfl)
theorem zXn (k : Nat) (p0 : zd) (p1 p2 : Int) (r : (Int × Int)) (h : zdh k p0 p1 p2 = some r) : zI TE (ev TE) 14 [(.agg (za p0)), (di p1), (di p2)] = some (zll r) := by
 unfold zdh at h
 refine zo h (fun v1 h2 g1 => ?_)
 refine zo g1 (fun v3 h4 g2 => ?_)
 refine zr g2 (fun h5 g3 => ?_) (fun h5 g3 => ?_)
 ·exact zP (g := zll) g3 (zqc [(14, 1, 4, .c (db v1)), (14, 1, 5, .c (di v3)), (14, 2, 1, .q (xb true))] [] (ob (zCg k p0 p1 p2 _ h2) (ob (zmh k p0 v1 _ h4) (ob (o_b h5) ob0))) (by kernel_rfl))
 ·refine zo g3 (fun v6 h7 g4 => ?_)
  refine zo g4 (fun v8 h9 g5 => ?_)
  exact zP (g := zll) g5 (zqc [(14, 1, 4, .c (db v1)), (14, 1, 5, .c (di v3)), (14, 2, 1, .q (xb false)), (14, 5, 3, .c (.agg (aB 732 v6)))] [(14, 0, (.nor, z1h p0 p1 p2 v3 v6 v8))] (ob (zCg k p0 p1 p2 _ h2) (ob (zmh k p0 v1 _ h4) (ob (o_b h5) (ob (zsi k (⟨p0, p1, 0⟩ : zi) _ h7) (ob (zG (id := 0) (r' := (.nor, z1h p0 p1 p2 v3 v6 v8)) (zUb (ztq k p0 p1 p2 v3 v6) k _ _ h9) rfl) ob0))))) (by kernel_rfl))
noncomputable def zHk (r0 : (SL Int)) (r1 r2 : Int) (r : zt4) : TM := [(0, (.d (dl eI r0.1 r0.2))), (1, (xi r1)), (2, (xi r2)), (3, (.ptr 0 1 0)), (4, (.ptr 0 5 0)), (8, (.d (.sl [] .nil))), (9, (xb false)), (17, (xb false)), (10, (xi r.1)), (24, (xb r.2))]
noncomputable def z9d (p0 : zd) (r0 : (SL Int)) (r1 r2 : Int) (cb : Bool) (rc : zt2) (r : zt4) : St := ⟨(zHk r0 r1 r2 r), ⟨[], [[(zc 1 (za p0)), (5, (.cells [(.fn 54 [] [(.ptr 0 1 0), (.ptr 0 5 0)])]))]]⟩, []⟩
noncomputable def zLk (r0 : (SL Int)) (r1 r2 : Int) (cb : Bool) : TM := [(0, (.d (dl eI r0.1 r0.2))), (1, (xi r1)), (2, (xi r2)), (3, (.ptr 0 1 0)), (4, (.ptr 0 5 0)), (8, (.d (.sl [] .nil))), (9, (xb false)), (17, (xb false)), (10, (xi 0)), (24, (xb cb))]
theorem zBk (k : Nat) (p0 : zd) (r0 : (SL Int)) (r1 r2 : Int) (cb : Bool) (rc : zt2) (hrc : ∀ (f : Fr) (r0 : (SL Int)) (r1 : Int) (r2 : Int) (r : ((SL Int) × Bool)), rc r0 r1 r2 = some r → zbb TE (ev TE) 54 [(.d (dl eI r0.1 r0.2)), (xi r1), (xi r2), (.ptr 0 1 0), (.ptr 0 5 0)] ⟨f, [[(1, (.cells ((za p0).map .d))), (5, (.cells [(.fn 54 [] [(.ptr 0 1 0), (.ptr 0 5 0)])]))]]⟩ [] = some (zy r, ⟨f, [[(1, (.cells ((za p0).map .d))), (5, (.cells [(.fn 54 [] [(.ptr 0 1 0), (.ptr 0 5 0)])]))]]⟩, [])) (r : zt4) (h : zBf k p0 r0 r1 r2 cb rc = some r) : ev TE 54 (cnd TE 54 24) ⟨(zLk r0 r1 r2 cb), ⟨[], [[(zc 1 (za p0)), (5, (.cells [(.fn 54 [] [(.ptr 0 1 0), (.ptr 0 5 0)])]))]]⟩, []⟩ = some (.nor, z9d p0 r0 r1 r2 cb rc r) := by
 unfold zBf at h
 refine zr h (fun h401 g1 => ?_) (fun h401 g1 => ?_)
 ·subst h401
  refine zo g1 (fun v402 h403 g2 => ?_)
  exact zE (g := fun r => (Ex.nor, z9d p0 r0 r1 r2 true rc r)) g2 (zqe [(54, 5, 2, .q (xi (r0.1.length : Int))), (54, 5, 4, .q (.d (.pin [(di v402)])))] [] (ob (zC eI r0.1) (ob (o_ia (e := eI) 1 h403 rfl) ob0)) (by kernel_rfl))
 ·subst h401
  exact zE (g := fun r => (Ex.nor, z9d p0 r0 r1 r2 false rc r)) g1 (zqe [] [] ob0 (by kernel_rfl))
noncomputable def zLA (r0 : (SL Int)) (r1 r2 : Int) (v302 : zt4) (s4_8 : Int) : TM := [(0, (.d (dl eI r0.1 r0.2))), (1, (xi r1)), (2, (xi r2)), (3, (.ptr 0 1 0)), (4, (.ptr 0 5 0)), (8, (.d (.sl [] .nil))), (9, (xb false)), (17, (xb false)), (10, (xi v302.1)), (24, (xb v302.2)), (11, (xi s4_8))]
noncomputable def zLq (p0 : zd) (r0 : (SL Int)) (r1 r2 : Int) (v302 : zt4) (rc : zt2) (s4_8 : Int) : St := ⟨(zLA r0 r1 r2 v302 s4_8), ⟨[], [[(zc 1 (za p0)), (5, (.cells [(.fn 54 [] [(.ptr 0 1 0), (.ptr 0 5 0)])]))]]⟩, []⟩
noncomputable def zAB (r0 : (SL Int)) (r1 r2 : Int) (r : zt18) (v302 : zt4) : TM := [(0, (.d (dl eI r0.1 r0.2))), (1, (xi r1)), (2, (xi r2)), (3, (.ptr 0 1 0)), (4, (.ptr 0 5 0)), (8, (.d (dl eI r.1.1 r.1.2))), (9, (xb true)), (17, (xb false)), (10, (xi v302.1)), (24, (xb v302.2)), (11, (xi r.2.1)), (37, (xb true)), (12, (.d (dl eI r.1.1 r.1.2))), (13, (xb r.2.2)), (59, (xb true))]
noncomputable def zuh (p0 : zd) (r0 : (SL Int)) (r1 r2 : Int) (v302 : zt4) (rc : zt2) (r : zt18) : St := ⟨(zAB r0 r1 r2 r v302), ⟨[], [[(zc 1 (za p0)), (5, (.cells [(.fn 54 [] [(.ptr 0 1 0), (.ptr 0 5 0)])]))]]⟩, []⟩
noncomputable def zyA (r0 : (SL Int)) (r1 r2 : Int) (v302 : zt4) (r : Int) : TM := [(0, (.d (dl eI r0.1 r0.2))), (1, (xi r1)), (2, (xi r2)), (3, (.ptr 0 1 0)), (4, (.ptr 0 5 0)), (8, (.d (.sl [] .nil))), (9, (xb false)), (17, (xb false)), (10, (xi v302.1)), (24, (xb v302.2)), (11, (xi r)), (37, (xb false))]
noncomputable def zth (p0 : zd) (r0 : (SL Int)) (r1 r2 : Int) (v302 : zt4) (rc : zt2) (r : Int) : St := ⟨(zyA r0 r1 r2 v302 r), ⟨[], [[(zc 1 (za p0)), (5, (.cells [(.fn 54 [] [(.ptr 0 1 0), (.ptr 0 5 0)])]))]]⟩, []⟩
noncomputable def zcq (p0 : zd) (r0 : (SL Int)) (r1 r2 : Int) (v302 : zt4) (rc : zt2) : (((SL Int) × Int × Bool) ⊕ Int) → Ex × St := Sum.elim (fun r => (.ret, zuh p0 r0 r1 r2 v302 rc r)) (fun r => ((.exit 0), zth p0 r0 r1 r2 v302 rc r))
theorem zEk (k : Nat) (p0 : zd) (r0 : (SL Int)) (r1 r2 : Int) (v302 : zt4) (rc : zt2) (hrc : ∀ (f : Fr) (r0 : (SL Int)) (r1 : Int) (r2 : Int) (r : ((SL Int) × Bool)), rc r0 r1 r2 = some r → zbb TE (ev TE) 54 [(.d (dl eI r0.1 r0.2)), (xi r1), (xi r2), (.ptr 0 1 0), (.ptr 0 5 0)] ⟨f, [[(1, (.cells ((za p0).map .d))), (5, (.cells [(.fn 54 [] [(.ptr 0 1 0), (.ptr 0 5 0)])]))]]⟩ [] = some (zy r, ⟨f, [[(1, (.cells ((za p0).map .d))), (5, (.cells [(.fn 54 [] [(.ptr 0 1 0), (.ptr 0 5 0)])]))]]⟩, [])) (s4_8 : Int) (x : Int ⊕ (((SL Int) × Int × Bool) ⊕ Int)) (h : zCf k p0 r0 r1 r2 v302 rc s4_8 = some x) : zT TE 54 (blk TE 54 0) (fun s : Int => zLq p0 r0 r1 r2 v302 rc s) (zcq p0 r0 r1 r2 v302 rc) s4_8 x := by
 unfold zCf at h
 refine zr h (fun h501 g1 => ?_) (fun h501 g1 => ?_)
 ·refine zr g1 (fun h502 g2 => ?_) (fun h502 g2 => ?_)
  ·cases g2
  ·refine z6 g2 (fun h503 g3 => ?_)
   refine zr g3 (fun h504 g4 => ?_) (fun h504 g4 => ?_)
   ·cases g4
   ·refine zo g4 (fun v505 h506 g5 => ?_)
    refine zr g5 (fun h507 g6 => ?_) (fun h507 g6 => ?_)
    ·exact zqo [(54, 7, 3, .q (xi (p0.Counts.1.length : Int))), (54, 7, 4, .q (xb true)), (54, 9, 3, .q (xi (r0.1.length : Int))), (54, 9, 5, .q (xi (r0.1.length : Int))), (54, 9, 6, .q (.d (dl eI r0.1 (ccap r0.2)))), (54, 9, 9, .q (.d (dl eI (r0.1 ++ [s4_8]) .ro))), (54, 9, 12, .q (xi (zK 1 s4_8))), (54, 9, 15, .i (.tup [(dl eI v505.1.1 v505.1.2), (db v505.2)]) ⟨[], [[(1, (.cells ((za p0).map .d))), (5, (.cells [(.fn 54 [] [(.ptr 0 1 0), (.ptr 0 5 0)])]))]]⟩ []), (54, 10, 0, .q (xb true))] [] g6 (ob (zC zu p0.Counts.1) (ob (o_b h501) (ob (zC eI r0.1) (ob (zC eI r0.1) (ob (z1d (e := eI) (z := 1) r0.1 r0.2) (ob (o_ad (P := TE.P) (φ := fun _ _ => none) (T := 22) (q := (1, [(di 0)])) (c := (ccap r0.2)) (e := eI) r0.1 s4_8 (by kernel_rfl) (by kernel_rfl) (fun _ => rfl) h502 h503) (ob (zfc (x := 1) h504) (ob (hrc ([] : Fr) ((r0.1 ++ [s4_8]), .ro) (or64 r1 (zK 1 s4_8)) r2 _ h506) (ob (o_b h507) ob0))))))))) (by kernel_rfl)
    ·exact zqn (w64 (s4_8 + 1)) [] [(54, 7, 3, .q (xi (p0.Counts.1.length : Int))), (54, 7, 4, .q (xb true)), (54, 9, 3, .q (xi (r0.1.length : Int))), (54, 9, 5, .q (xi (r0.1.length : Int))), (54, 9, 6, .q (.d (dl eI r0.1 (ccap r0.2)))), (54, 9, 9, .q (.d (dl eI (r0.1 ++ [s4_8]) .ro))), (54, 9, 12, .q (xi (zK 1 s4_8))), (54, 9, 15, .i (.tup [(dl eI v505.1.1 v505.1.2), (db v505.2)]) ⟨[], [[(1, (.cells ((za p0).map .d))), (5, (.cells [(.fn 54 [] [(.ptr 0 1 0), (.ptr 0 5 0)])]))]]⟩ []), (54, 10, 0, .q (xb false))] [] g6 (ob (zC zu p0.Counts.1) (ob (o_b h501) (ob (zC eI r0.1) (ob (zC eI r0.1) (ob (z1d (e := eI) (z := 1) r0.1 r0.2) (ob (o_ad (P := TE.P) (φ := fun _ _ => none) (T := 22) (q := (1, [(di 0)])) (c := (ccap r0.2)) (e := eI) r0.1 s4_8 (by kernel_rfl) (by kernel_rfl) (fun _ => rfl) h502 h503) (ob (zfc (x := 1) h504) (ob (hrc ([] : Fr) ((r0.1 ++ [s4_8]), .ro) (or64 r1 (zK 1 s4_8)) r2 _ h506) (ob (o_b h507) ob0))))))))) (by kernel_rfl)
 ·exact zqo [(54, 7, 3, .q (xi (p0.Counts.1.length : Int))), (54, 7, 4, .q (xb false))] [] g1 (ob (zC zu p0.Counts.1) (ob (o_b h501) ob0)) (by kernel_rfl)
theorem zno (k : Nat) (p0 : zd) (rc : zt2) (hrc : ∀ (f : Fr) (r0 : (SL Int)) (r1 : Int) (r2 : Int) (r : ((SL Int) × Bool)), rc r0 r1 r2 = some r → zbb TE (ev TE) 54 [(.d (dl eI r0.1 r0.2)), (xi r1), (xi r2), (.ptr 0 1 0), (.ptr 0 5 0)] ⟨f, [[(1, (.cells ((za p0).map .d))), (5, (.cells [(.fn 54 [] [(.ptr 0 1 0), (.ptr 0 5 0)])]))]]⟩ [] = some (zy r, ⟨f, [[(1, (.cells ((za p0).map .d))), (5, (.cells [(.fn 54 [] [(.ptr 0 1 0), (.ptr 0 5 0)])]))]]⟩, [])) (r0 : (SL Int)) (r1 r2 : Int) (r : ((SL Int) × Bool)) (h : zlb k p0 rc r0 r1 r2 = some r) : zbb TE (ev TE) 54 [(.d (dl eI r0.1 r0.2)), (xi r1), (xi r2), (.ptr 0 1 0), (.ptr 0 5 0)] ⟨[(zc 1 (za p0)), (5, (.cells [(.fn 54 [] [(.ptr 0 1 0), (.ptr 0 5 0)])]))], []⟩ [] = some (zy r, ⟨[(zc 1 (za p0)), (5, (.cells [(.fn 54 [] [(.ptr 0 1 0), (.ptr 0 5 0)])]))], []⟩, []) := by
 unfold zlb at h
 refine zr h (fun h301 g1 => ?_) (fun h301 g1 => ?_)
 ·refine zo g1 (fun v302 h303 g2 => ?_)
  exact zyb (g := (fun r => (zy r, ⟨[(1, (.cells ((za p0).map .d))), (5, (.cells [(.fn 54 [] [(.ptr 0 1 0), (.ptr 0 5 0)])]))], []⟩, []))) g2 (zjb (n := 80) (V := [(54, 1, 1, .q (xi (r0.1.length : Int))), (54, 1, 3, .q (xb true)), (54, 2, 3, .c (db v302))]) (C := []) (ob (zC eI r0.1) (ob (o_b h301) (ob (zEb k p0 r1 _ h303) ob0))) (by kernel_rfl))
 ·refine zo g1 (fun v302 h303 g2 => ?_)
  refine zo g2 (fun v304 h305 g3 => ?_)
  refine zRb g3 (fun v307 hh g4_0 => ?_) (fun v307 hh g4_0 => ?_)
  ·subst hh
   exact zyb (g := (fun r => (zy r, ⟨[(1, (.cells ((za p0).map .d))), (5, (.cells [(.fn 54 [] [(.ptr 0 1 0), (.ptr 0 5 0)])]))], []⟩, []))) g4_0 (zjb (n := 80) (V := [(54, 1, 1, .q (xi (r0.1.length : Int))), (54, 1, 3, .q (xb false)), (54, 4, 1, .q (xi (r0.1.length : Int)))]) (C := [(54, 2000024, (.nor, z9d p0 r0 r1 r2 (decide ((r0.1.length : Int) > 0)) rc v302)), (54, 0, (.ret, zuh p0 r0 r1 r2 v302 rc v307))]) (ob (zC eI r0.1) (ob (o_b h301) (ob (zC eI r0.1) (ob (zBk k p0 r0 r1 r2 (decide ((r0.1.length : Int) > 0)) rc hrc _ h303) (ob (zG (id := 0) (r' := (.ret, zuh p0 r0 r1 r2 v302 rc v307)) (zGc (zEk k p0 r0 r1 r2 v302 rc hrc) k _ _ h305) rfl) ob0))))) (by kernel_rfl))
  ·subst hh
   exact zyb (g := (fun r => (zy r, ⟨[(1, (.cells ((za p0).map .d))), (5, (.cells [(.fn 54 [] [(.ptr 0 1 0), (.ptr 0 5 0)])]))], []⟩, []))) g4_0 (zjb (n := 80) (V := [(54, 1, 1, .q (xi (r0.1.length : Int))), (54, 1, 3, .q (xb false)), (54, 4, 1, .q (xi (r0.1.length : Int)))]) (C := [(54, 2000024, (.nor, z9d p0 r0 r1 r2 (decide ((r0.1.length : Int) > 0)) rc v302)), (54, 0, (.nor, zth p0 r0 r1 r2 v302 rc v307))]) (ob (zC eI r0.1) (ob (o_b h301) (ob (zC eI r0.1) (ob (zBk k p0 r0 r1 r2 (decide ((r0.1.length : Int) > 0)) rc hrc _ h303) (ob (zG (id := 0) (r' := (.nor, zth p0 r0 r1 r2 v302 rc v307)) (zGc (zEk k p0 r0 r1 r2 v302 rc hrc) k _ _ h305) rfl) ob0))))) (by kernel_rfl))
noncomputable def zke (p0 : zd) (r0 : (SL Int)) (r1 r2 : Int) (cb : Bool) (rc : zt2) (f1 : Fr) (r : zt4) : St := ⟨(zHk r0 r1 r2 r), ⟨[], [[(zc 1 (za p0)), (5, (.cells [(.fn 54 [] [(.ptr 0 1 0), (.ptr 0 5 0)])]))], f1]⟩, []⟩
theorem zvk (k : Nat) (p0 : zd) (r0 : (SL Int)) (r1 r2 : Int) (cb : Bool) (rc : zt2) (f1 : Fr) (hrc : ∀ (f : Fr) (r0 : (SL Int)) (r1 : Int) (r2 : Int) (r : ((SL Int) × Bool)), rc r0 r1 r2 = some r → zbb TE (ev TE) 54 [(.d (dl eI r0.1 r0.2)), (xi r1), (xi r2), (.ptr 0 1 0), (.ptr 0 5 0)] ⟨f, [[(1, (.cells ((za p0).map .d))), (5, (.cells [(.fn 54 [] [(.ptr 0 1 0), (.ptr 0 5 0)])]))], f1]⟩ [] = some (zy r, ⟨f, [[(1, (.cells ((za p0).map .d))), (5, (.cells [(.fn 54 [] [(.ptr 0 1 0), (.ptr 0 5 0)])]))], f1]⟩, [])) (r : zt4) (h : z7i k p0 r0 r1 r2 cb rc = some r) : ev TE 54 (cnd TE 54 24) ⟨(zLk r0 r1 r2 cb), ⟨[], [[(zc 1 (za p0)), (5, (.cells [(.fn 54 [] [(.ptr 0 1 0), (.ptr 0 5 0)])]))], f1]⟩, []⟩ = some (.nor, zke p0 r0 r1 r2 cb rc f1 r) := by
 unfold z7i at h
 refine zr h (fun h601 g1 => ?_) (fun h601 g1 => ?_)
 ·subst h601
  refine zo g1 (fun v602 h603 g2 => ?_)
  exact zE (g := fun r => (Ex.nor, zke p0 r0 r1 r2 true rc f1 r)) g2 (zqe [(54, 5, 2, .q (xi (r0.1.length : Int))), (54, 5, 4, .q (.d (.pin [(di v602)])))] [] (ob (zC eI r0.1) (ob (o_ia (e := eI) 1 h603 rfl) ob0)) (by kernel_rfl))
 ·subst h601
  exact zE (g := fun r => (Ex.nor, zke p0 r0 r1 r2 false rc f1 r)) g1 (zqe [] [] ob0 (by kernel_rfl))
noncomputable def zzB (r0 : (SL Int)) (r1 r2 : Int) (v502 : zt4) (s6_8 : Int) : TM := [(0, (.d (dl eI r0.1 r0.2))), (1, (xi r1)), (2, (xi r2)), (3, (.ptr 0 1 0)), (4, (.ptr 0 5 0)), (8, (.d (.sl [] .nil))), (9, (xb false)), (17, (xb false)), (10, (xi v502.1)), (24, (xb v502.2)), (11, (xi s6_8))]
noncomputable def zfq (p0 : zd) (r0 : (SL Int)) (r1 r2 : Int) (v502 : zt4) (rc : zt2) (f1 : Fr) (s6_8 : Int) : St := ⟨(zzB r0 r1 r2 v502 s6_8), ⟨[], [[(zc 1 (za p0)), (5, (.cells [(.fn 54 [] [(.ptr 0 1 0), (.ptr 0 5 0)])]))], f1]⟩, []⟩
noncomputable def zHA (r0 : (SL Int)) (r1 r2 : Int) (r : zt18) (v502 : zt4) : TM := [(0, (.d (dl eI r0.1 r0.2))), (1, (xi r1)), (2, (xi r2)), (3, (.ptr 0 1 0)), (4, (.ptr 0 5 0)), (8, (.d (dl eI r.1.1 r.1.2))), (9, (xb true)), (17, (xb false)), (10, (xi v502.1)), (24, (xb v502.2)), (11, (xi r.2.1)), (37, (xb true)), (12, (.d (dl eI r.1.1 r.1.2))), (13, (xb r.2.2)), (59, (xb true))]
noncomputable def zzh (p0 : zd) (r0 : (SL Int)) (r1 r2 : Int) (v502 : zt4) (rc : zt2) (f1 : Fr) (r : zt18) : St := ⟨(zHA r0 r1 r2 r v502), ⟨[], [[(zc 1 (za p0)), (5, (.cells [(.fn 54 [] [(.ptr 0 1 0), (.ptr 0 5 0)])]))], f1]⟩, []⟩
noncomputable def zfB (r0 : (SL Int)) (r1 r2 : Int) (v502 : zt4) (r : Int) : TM := [(0, (.d (dl eI r0.1 r0.2))), (1, (xi r1)), (2, (xi r2)), (3, (.ptr 0 1 0)), (4, (.ptr 0 5 0)), (8, (.d (.sl [] .nil))), (9, (xb false)), (17, (xb false)), (10, (xi v502.1)), (24, (xb v502.2)), (11, (xi r)), (37, (xb false))]
noncomputable def zyh (p0 : zd) (r0 : (SL Int)) (r1 r2 : Int) (v502 : zt4) (rc : zt2) (f1 : Fr) (r : Int) : St := ⟨(zfB r0 r1 r2 v502 r), ⟨[], [[(zc 1 (za p0)), (5, (.cells [(.fn 54 [] [(.ptr 0 1 0), (.ptr 0 5 0)])]))], f1]⟩, []⟩
noncomputable def z2p (p0 : zd) (r0 : (SL Int)) (r1 r2 : Int) (v502 : zt4) (rc : zt2) (f1 : Fr) : (((SL Int) × Int × Bool) ⊕ Int) → Ex × St := Sum.elim (fun r => (.ret, zzh p0 r0 r1 r2 v502 rc f1 r)) (fun r => ((.exit 0), zyh p0 r0 r1 r2 v502 rc f1 r))
theorem zDk (k : Nat) (p0 : zd) (r0 : (SL Int)) (r1 r2 : Int) (v502 : zt4) (rc : zt2) (f1 : Fr) (hrc : ∀ (f : Fr) (r0 : (SL Int)) (r1 : Int) (r2 : Int) (r : ((SL Int) × Bool)), rc r0 r1 r2 = some r → zbb TE (ev TE) 54 [(.d (dl eI r0.1 r0.2)), (xi r1), (xi r2), (.ptr 0 1 0), (.ptr 0 5 0)] ⟨f, [[(1, (.cells ((za p0).map .d))), (5, (.cells [(.fn 54 [] [(.ptr 0 1 0), (.ptr 0 5 0)])]))], f1]⟩ [] = some (zy r, ⟨f, [[(1, (.cells ((za p0).map .d))), (5, (.cells [(.fn 54 [] [(.ptr 0 1 0), (.ptr 0 5 0)])]))], f1]⟩, [])) (s6_8 : Int) (x : Int ⊕ (((SL Int) × Int × Bool) ⊕ Int)) (h : zlj k p0 r0 r1 r2 v502 rc s6_8 = some x) : zT TE 54 (blk TE 54 0) (fun s : Int => zfq p0 r0 r1 r2 v502 rc f1 s) (z2p p0 r0 r1 r2 v502 rc f1) s6_8 x := by
 unfold zlj at h
 refine zr h (fun h701 g1 => ?_) (fun h701 g1 => ?_)
 ·refine zr g1 (fun h702 g2 => ?_) (fun h702 g2 => ?_)
  ·cases g2
  ·refine z6 g2 (fun h703 g3 => ?_)
   refine zr g3 (fun h704 g4 => ?_) (fun h704 g4 => ?_)
   ·cases g4
   ·refine zo g4 (fun v705 h706 g5 => ?_)
    refine zr g5 (fun h707 g6 => ?_) (fun h707 g6 => ?_)
    ·exact zqo [(54, 7, 3, .q (xi (p0.Counts.1.length : Int))), (54, 7, 4, .q (xb true)), (54, 9, 3, .q (xi (r0.1.length : Int))), (54, 9, 5, .q (xi (r0.1.length : Int))), (54, 9, 6, .q (.d (dl eI r0.1 (ccap r0.2)))), (54, 9, 9, .q (.d (dl eI (r0.1 ++ [s6_8]) .ro))), (54, 9, 12, .q (xi (zK 1 s6_8))), (54, 9, 15, .i (.tup [(dl eI v705.1.1 v705.1.2), (db v705.2)]) ⟨[], [[(1, (.cells ((za p0).map .d))), (5, (.cells [(.fn 54 [] [(.ptr 0 1 0), (.ptr 0 5 0)])]))], f1]⟩ []), (54, 10, 0, .q (xb true))] [] g6 (ob (zC zu p0.Counts.1) (ob (o_b h701) (ob (zC eI r0.1) (ob (zC eI r0.1) (ob (z1d (e := eI) (z := 1) r0.1 r0.2) (ob (o_ad (P := TE.P) (φ := fun _ _ => none) (T := 22) (q := (1, [(di 0)])) (c := (ccap r0.2)) (e := eI) r0.1 s6_8 (by kernel_rfl) (by kernel_rfl) (fun _ => rfl) h702 h703) (ob (zfc (x := 1) h704) (ob (hrc ([] : Fr) ((r0.1 ++ [s6_8]), .ro) (or64 r1 (zK 1 s6_8)) r2 _ h706) (ob (o_b h707) ob0))))))))) (by kernel_rfl)
    ·exact zqn (w64 (s6_8 + 1)) [] [(54, 7, 3, .q (xi (p0.Counts.1.length : Int))), (54, 7, 4, .q (xb true)), (54, 9, 3, .q (xi (r0.1.length : Int))), (54, 9, 5, .q (xi (r0.1.length : Int))), (54, 9, 6, .q (.d (dl eI r0.1 (ccap r0.2)))), (54, 9, 9, .q (.d (dl eI (r0.1 ++ [s6_8]) .ro))), (54, 9, 12, .q (xi (zK 1 s6_8))), (54, 9, 15, .i (.tup [(dl eI v705.1.1 v705.1.2), (db v705.2)]) ⟨[], [[(1, (.cells ((za p0).map .d))), (5, (.cells [(.fn 54 [] [(.ptr 0 1 0), (.ptr 0 5 0)])]))], f1]⟩ []), (54, 10, 0, .q (xb false))] [] g6 (ob (zC zu p0.Counts.1) (ob (o_b h701) (ob (zC eI r0.1) (ob (zC eI r0.1) (ob (z1d (e := eI) (z := 1) r0.1 r0.2) (ob (o_ad (P := TE.P) (φ := fun _ _ => none) (T := 22) (q := (1, [(di 0)])) (c := (ccap r0.2)) (e := eI) r0.1 s6_8 (by kernel_rfl) (by kernel_rfl) (fun _ => rfl) h702 h703) (ob (zfc (x := 1) h704) (ob (hrc ([] : Fr) ((r0.1 ++ [s6_8]), .ro) (or64 r1 (zK 1 s6_8)) r2 _ h706) (ob (o_b h707) ob0))))))))) (by kernel_rfl)
 ·exact zqo [(54, 7, 3, .q (xi (p0.Counts.1.length : Int))), (54, 7, 4, .q (xb false))] [] g1 (ob (zC zu p0.Counts.1) (ob (o_b h701) ob0)) (by kernel_rfl)
theorem zTo (k : Nat) (p0 : zd) (rc : zt2) (f1 : Fr) (hrc : ∀ (f : Fr) (r0 : (SL Int)) (r1 : Int) (r2 : Int) (r : ((SL Int) × Bool)), rc r0 r1 r2 = some r → zbb TE (ev TE) 54 [(.d (dl eI r0.1 r0.2)), (xi r1), (xi r2), (.ptr 0 1 0), (.ptr 0 5 0)] ⟨f, [[(1, (.cells ((za p0).map .d))), (5, (.cells [(.fn 54 [] [(.ptr 0 1 0), (.ptr 0 5 0)])]))], f1]⟩ [] = some (zy r, ⟨f, [[(1, (.cells ((za p0).map .d))), (5, (.cells [(.fn 54 [] [(.ptr 0 1 0), (.ptr 0 5 0)])]))], f1]⟩, [])) (r0 : (SL Int)) (r1 r2 : Int) (r : ((SL Int) × Bool)) (h : zuf k p0 rc r0 r1 r2 = some r) : zbb TE (ev TE) 54 [(.d (dl eI r0.1 r0.2)), (xi r1), (xi r2), (.ptr 0 1 0), (.ptr 0 5 0)] ⟨f1, [[(zc 1 (za p0)), (5, (.cells [(.fn 54 [] [(.ptr 0 1 0), (.ptr 0 5 0)])]))]]⟩ [] = some (zy r, ⟨f1, [[(zc 1 (za p0)), (5, (.cells [(.fn 54 [] [(.ptr 0 1 0), (.ptr 0 5 0)])]))]]⟩, []) := by
 unfold zuf at h
 refine zr h (fun h501 g1 => ?_) (fun h501 g1 => ?_)
 ·refine zo g1 (fun v502 h503 g2 => ?_)
  exact zyb (g := (fun r => (zy r, ⟨f1, [[(1, (.cells ((za p0).map .d))), (5, (.cells [(.fn 54 [] [(.ptr 0 1 0), (.ptr 0 5 0)])]))]]⟩, []))) g2 (zjb (n := 80) (V := [(54, 1, 1, .q (xi (r0.1.length : Int))), (54, 1, 3, .q (xb true)), (54, 2, 3, .c (db v502))]) (C := []) (ob (zC eI r0.1) (ob (o_b h501) (ob (zEb k p0 r1 _ h503) ob0))) (by kernel_rfl))
 ·refine zo g1 (fun v502 h503 g2 => ?_)
  refine zo g2 (fun v504 h505 g3 => ?_)
  refine zRb g3 (fun v507 hh g4_0 => ?_) (fun v507 hh g4_0 => ?_)
  ·subst hh
   exact zyb (g := (fun r => (zy r, ⟨f1, [[(1, (.cells ((za p0).map .d))), (5, (.cells [(.fn 54 [] [(.ptr 0 1 0), (.ptr 0 5 0)])]))]]⟩, []))) g4_0 (zjb (n := 80) (V := [(54, 1, 1, .q (xi (r0.1.length : Int))), (54, 1, 3, .q (xb false)), (54, 4, 1, .q (xi (r0.1.length : Int)))]) (C := [(54, 2000024, (.nor, zke p0 r0 r1 r2 (decide ((r0.1.length : Int) > 0)) rc f1 v502)), (54, 0, (.ret, zzh p0 r0 r1 r2 v502 rc f1 v507))]) (ob (zC eI r0.1) (ob (o_b h501) (ob (zC eI r0.1) (ob (zvk k p0 r0 r1 r2 (decide ((r0.1.length : Int) > 0)) rc f1 hrc _ h503) (ob (zG (id := 0) (r' := (.ret, zzh p0 r0 r1 r2 v502 rc f1 v507)) (zGc (zDk k p0 r0 r1 r2 v502 rc f1 hrc) k _ _ h505) rfl) ob0))))) (by kernel_rfl))
  ·subst hh
   exact zyb (g := (fun r => (zy r, ⟨f1, [[(1, (.cells ((za p0).map .d))), (5, (.cells [(.fn 54 [] [(.ptr 0 1 0), (.ptr 0 5 0)])]))]]⟩, []))) g4_0 (zjb (n := 80) (V := [(54, 1, 1, .q (xi (r0.1.length : Int))), (54, 1, 3, .q (xb false)), (54, 4, 1, .q (xi (r0.1.length : Int)))]) (C := [(54, 2000024, (.nor, zke p0 r0 r1 r2 (decide ((r0.1.length : Int) > 0)) rc f1 v502)), (54, 0, (.nor, zyh p0 r0 r1 r2 v502 rc f1 v507))]) (ob (zC eI r0.1) (ob (o_b h501) (ob (zC eI r0.1) (ob (zvk k p0 r0 r1 r2 (decide ((r0.1.length : Int) > 0)) rc f1 hrc _ h503) (ob (zG (id := 0) (r' := (.nor, zyh p0 r0 r1 r2 v502 rc f1 v507)) (zGc (zDk k p0 r0 r1 r2 v502 rc f1 hrc) k _ _ h505) rfl) ob0))))) (by kernel_rfl))
noncomputable def zhe (p0 : zd) (r0 : (SL Int)) (r1 r2 : Int) (cb : Bool) (rc : zt2) (f1 f2 : Fr) (r : zt4) : St := ⟨(zHk r0 r1 r2 r), ⟨[], [[(zc 1 (za p0)), (5, (.cells [(.fn 54 [] [(.ptr 0 1 0), (.ptr 0 5 0)])]))], f1, f2]⟩, []⟩
theorem zxk (k : Nat) (p0 : zd) (r0 : (SL Int)) (r1 r2 : Int) (cb : Bool) (rc : zt2) (f1 f2 : Fr) (hrc : ∀ (f : Fr) (r0 : (SL Int)) (r1 : Int) (r2 : Int) (r : ((SL Int) × Bool)), rc r0 r1 r2 = some r → zbb TE (ev TE) 54 [(.d (dl eI r0.1 r0.2)), (xi r1), (xi r2), (.ptr 0 1 0), (.ptr 0 5 0)] ⟨f, [[(1, (.cells ((za p0).map .d))), (5, (.cells [(.fn 54 [] [(.ptr 0 1 0), (.ptr 0 5 0)])]))], f1, f2]⟩ [] = some (zy r, ⟨f, [[(1, (.cells ((za p0).map .d))), (5, (.cells [(.fn 54 [] [(.ptr 0 1 0), (.ptr 0 5 0)])]))], f1, f2]⟩, [])) (r : zt4) (h : zcj k p0 r0 r1 r2 cb rc = some r) : ev TE 54 (cnd TE 54 24) ⟨(zLk r0 r1 r2 cb), ⟨[], [[(zc 1 (za p0)), (5, (.cells [(.fn 54 [] [(.ptr 0 1 0), (.ptr 0 5 0)])]))], f1, f2]⟩, []⟩ = some (.nor, zhe p0 r0 r1 r2 cb rc f1 f2 r) := by
 unfold zcj at h
 refine zr h (fun h801 g1 => ?_) (fun h801 g1 => ?_)
 ·subst h801
  refine zo g1 (fun v802 h803 g2 => ?_)
  exact zE (g := fun r => (Ex.nor, zhe p0 r0 r1 r2 true rc f1 f2 r)) g2 (zqe [(54, 5, 2, .q (xi (r0.1.length : Int))), (54, 5, 4, .q (.d (.pin [(di v802)])))] [] (ob (zC eI r0.1) (ob (o_ia (e := eI) 1 h803 rfl) ob0)) (by kernel_rfl))
 ·subst h801
  exact zE (g := fun r => (Ex.nor, zhe p0 r0 r1 r2 false rc f1 f2 r)) g1 (zqe [] [] ob0 (by kernel_rfl))
noncomputable def zeA (r0 : (SL Int)) (r1 r2 : Int) (v702 : zt4) (s8_8 : Int) : TM := [(0, (.d (dl eI r0.1 r0.2))), (1, (xi r1)), (2, (xi r2)), (3, (.ptr 0 1 0)), (4, (.ptr 0 5 0)), (8, (.d (.sl [] .nil))), (9, (xb false)), (17, (xb false)), (10, (xi v702.1)), (24, (xb v702.2)), (11, (xi s8_8))]
noncomputable def zsq (p0 : zd) (r0 : (SL Int)) (r1 r2 : Int) (v702 : zt4) (rc : zt2) (f1 f2 : Fr) (s8_8 : Int) : St := ⟨(zeA r0 r1 r2 v702 s8_8), ⟨[], [[(zc 1 (za p0)), (5, (.cells [(.fn 54 [] [(.ptr 0 1 0), (.ptr 0 5 0)])]))], f1, f2]⟩, []⟩
noncomputable def zhB (r0 : (SL Int)) (r1 r2 : Int) (r : zt18) (v702 : zt4) : TM := [(0, (.d (dl eI r0.1 r0.2))), (1, (xi r1)), (2, (xi r2)), (3, (.ptr 0 1 0)), (4, (.ptr 0 5 0)), (8, (.d (dl eI r.1.1 r.1.2))), (9, (xb true)), (17, (xb false)), (10, (xi v702.1)), (24, (xb v702.2)), (11, (xi r.2.1)), (37, (xb true)), (12, (.d (dl eI r.1.1 r.1.2))), (13, (xb r.2.2)), (59, (xb true))]
noncomputable def zrh (p0 : zd) (r0 : (SL Int)) (r1 r2 : Int) (v702 : zt4) (rc : zt2) (f1 f2 : Fr) (r : zt18) : St := ⟨(zhB r0 r1 r2 r v702), ⟨[], [[(zc 1 (za p0)), (5, (.cells [(.fn 54 [] [(.ptr 0 1 0), (.ptr 0 5 0)])]))], f1, f2]⟩, []⟩
noncomputable def z5B (r0 : (SL Int)) (r1 r2 : Int) (v702 : zt4) (r : Int) : TM := [(0, (.d (dl eI r0.1 r0.2))), (1, (xi r1)), (2, (xi r2)), (3, (.ptr 0 1 0)), (4, (.ptr 0 5 0)), (8, (.d (.sl [] .nil))), (9, (xb false)), (17, (xb false)), (10, (xi v702.1)), (24, (xb v702.2)), (11, (xi r)), (37, (xb false))]
noncomputable def zvh (p0 : zd) (r0 : (SL Int)) (r1 r2 : Int) (v702 : zt4) (rc : zt2) (f1 f2 : Fr) (r : Int) : St := ⟨(z5B r0 r1 r2 v702 r), ⟨[], [[(zc 1 (za p0)), (5, (.cells [(.fn 54 [] [(.ptr 0 1 0), (.ptr 0 5 0)])]))], f1, f2]⟩, []⟩
noncomputable def zxq (p0 : zd) (r0 : (SL Int)) (r1 r2 : Int) (v702 : zt4) (rc : zt2) (f1 f2 : Fr) : (((SL Int) × Int × Bool) ⊕ Int) → Ex × St := Sum.elim (fun r => (.ret, zrh p0 r0 r1 r2 v702 rc f1 f2 r)) (fun r => ((.exit 0), zvh p0 r0 r1 r2 v702 rc f1 f2 r))
theorem zAk (k : Nat) (p0 : zd) (r0 : (SL Int)) (r1 r2 : Int) (v702 : zt4) (rc : zt2) (f1 f2 : Fr) (hrc : ∀ (f : Fr) (r0 : (SL Int)) (r1 : Int) (r2 : Int) (r : ((SL Int) × Bool)), rc r0 r1 r2 = some r → zbb TE (ev TE) 54 [(.d (dl eI r0.1 r0.2)), (xi r1), (xi r2), (.ptr 0 1 0), (.ptr 0 5 0)] ⟨f, [[(1, (.cells ((za p0).map .d))), (5, (.cells [(.fn 54 [] [(.ptr 0 1 0), (.ptr 0 5 0)])]))], f1, f2]⟩ [] = some (zy r, ⟨f, [[(1, (.cells ((za p0).map .d))), (5, (.cells [(.fn 54 [] [(.ptr 0 1 0), (.ptr 0 5 0)])]))], f1, f2]⟩, [])) (s8_8 : Int) (x : Int ⊕ (((SL Int) × Int × Bool) ⊕ Int)) (h : zgj k p0 r0 r1 r2 v702 rc s8_8 = some x) : zT TE 54 (blk TE 54 0) (fun s : Int => zsq p0 r0 r1 r2 v702 rc f1 f2 s) (zxq p0 r0 r1 r2 v702 rc f1 f2) s8_8 x := by
 unfold zgj at h
 refine zr h (fun h901 g1 => ?_) (fun h901 g1 => ?_)
 ·refine zr g1 (fun h902 g2 => ?_) (fun h902 g2 => ?_)
  ·cases g2
  ·refine z6 g2 (fun h903 g3 => ?_)
   refine zr g3 (fun h904 g4 => ?_) (fun h904 g4 => ?_)
   ·cases g4
   ·refine zo g4 (fun v905 h906 g5 => ?_)
    refine zr g5 (fun h907 g6 => ?_) (fun h907 g6 => ?_)
    ·exact zqo [(54, 7, 3, .q (xi (p0.Counts.1.length : Int))), (54, 7, 4, .q (xb true)), (54, 9, 3, .q (xi (r0.1.length : Int))), (54, 9, 5, .q (xi (r0.1.length : Int))), (54, 9, 6, .q (.d (dl eI r0.1 (ccap r0.2)))), (54, 9, 9, .q (.d (dl eI (r0.1 ++ [s8_8]) .ro))), (54, 9, 12, .q (xi (zK 1 s8_8))), (54, 9, 15, .i (.tup [(dl eI v905.1.1 v905.1.2), (db v905.2)]) ⟨[], [[(1, (.cells ((za p0).map .d))), (5, (.cells [(.fn 54 [] [(.ptr 0 1 0), (.ptr 0 5 0)])]))], f1, f2]⟩ []), (54, 10, 0, .q (xb true))] [] g6 (ob (zC zu p0.Counts.1) (ob (o_b h901) (ob (zC eI r0.1) (ob (zC eI r0.1) (ob (z1d (e := eI) (z := 1) r0.1 r0.2) (ob (o_ad (P := TE.P) (φ := fun _ _ => none) (T := 22) (q := (1, [(di 0)])) (c := (ccap r0.2)) (e := eI) r0.1 s8_8 (by kernel_rfl) (by kernel_rfl) (fun _ => rfl) h902 h903) (ob (zfc (x := 1) h904) (ob (hrc ([] : Fr) ((r0.1 ++ [s8_8]), .ro) (or64 r1 (zK 1 s8_8)) r2 _ h906) (ob (o_b h907) ob0))))))))) (by kernel_rfl)
    ·exact zqn (w64 (s8_8 + 1)) [] [(54, 7, 3, .q (xi (p0.Counts.1.length : Int))), (54, 7, 4, .q (xb true)), (54, 9, 3, .q (xi (r0.1.length : Int))), (54, 9, 5, .q (xi (r0.1.length : Int))), (54, 9, 6, .q (.d (dl eI r0.1 (ccap r0.2)))), (54, 9, 9, .q (.d (dl eI (r0.1 ++ [s8_8]) .ro))), (54, 9, 12, .q (xi (zK 1 s8_8))), (54, 9, 15, .i (.tup [(dl eI v905.1.1 v905.1.2), (db v905.2)]) ⟨[], [[(1, (.cells ((za p0).map .d))), (5, (.cells [(.fn 54 [] [(.ptr 0 1 0), (.ptr 0 5 0)])]))], f1, f2]⟩ []), (54, 10, 0, .q (xb false))] [] g6 (ob (zC zu p0.Counts.1) (ob (o_b h901) (ob (zC eI r0.1) (ob (zC eI r0.1) (ob (z1d (e := eI) (z := 1) r0.1 r0.2) (ob (o_ad (P := TE.P) (φ := fun _ _ => none) (T := 22) (q := (1, [(di 0)])) (c := (ccap r0.2)) (e := eI) r0.1 s8_8 (by kernel_rfl) (by kernel_rfl) (fun _ => rfl) h902 h903) (ob (zfc (x := 1) h904) (ob (hrc ([] : Fr) ((r0.1 ++ [s8_8]), .ro) (or64 r1 (zK 1 s8_8)) r2 _ h906) (ob (o_b h907) ob0))))))))) (by kernel_rfl)
 ·exact zqo [(54, 7, 3, .q (xi (p0.Counts.1.length : Int))), (54, 7, 4, .q (xb false))] [] g1 (ob (zC zu p0.Counts.1) (ob (o_b h901) ob0)) (by kernel_rfl)
theorem zpo (k : Nat) (p0 : zd) (rc : zt2) (f1 f2 : Fr) (hrc : ∀ (f : Fr) (r0 : (SL Int)) (r1 : Int) (r2 : Int) (r : ((SL Int) × Bool)), rc r0 r1 r2 = some r → zbb TE (ev TE) 54 [(.d (dl eI r0.1 r0.2)), (xi r1), (xi r2), (.ptr 0 1 0), (.ptr 0 5 0)] ⟨f, [[(1, (.cells ((za p0).map .d))), (5, (.cells [(.fn 54 [] [(.ptr 0 1 0), (.ptr 0 5 0)])]))], f1, f2]⟩ [] = some (zy r, ⟨f, [[(1, (.cells ((za p0).map .d))), (5, (.cells [(.fn 54 [] [(.ptr 0 1 0), (.ptr 0 5 0)])]))], f1, f2]⟩, [])) (r0 : (SL Int)) (r1 r2 : Int) (r : ((SL Int) × Bool)) (h : zpf k p0 rc r0 r1 r2 = some r) : zbb TE (ev TE) 54 [(.d (dl eI r0.1 r0.2)), (xi r1), (xi r2), (.ptr 0 1 0), (.ptr 0 5 0)] ⟨f2, [[(zc 1 (za p0)), (5, (.cells [(.fn 54 [] [(.ptr 0 1 0), (.ptr 0 5 0)])]))], f1]⟩ [] = some (zy r, ⟨f2, [[(zc 1 (za p0)), (5, (.cells [(.fn 54 [] [(.ptr 0 1 0), (.ptr 0 5 0)])]))], f1]⟩, []) := by
 unfold zpf at h
 refine zr h (fun h701 g1 => ?_) (fun h701 g1 => ?_)
 ·refine zo g1 (fun v702 h703 g2 => ?_)
  exact zyb (g := (fun r => (zy r, ⟨f2, [[(1, (.cells ((za p0).map .d))), (5, (.cells [(.fn 54 [] [(.ptr 0 1 0), (.ptr 0 5 0)])]))], f1]⟩, []))) g2 (zjb (n := 80) (V := [(54, 1, 1, .q (xi (r0.1.length : Int))), (54, 1, 3, .q (xb true)), (54, 2, 3, .c (db v702))]) (C := []) (ob (zC eI r0.1) (ob (o_b h701) (ob (zEb k p0 r1 _ h703) ob0))) (by kernel_rfl))
 ·refine zo g1 (fun v702 h703 g2 => ?_)
  refine zo g2 (fun v704 h705 g3 => ?_)
  refine zRb g3 (fun v707 hh g4_0 => ?_) (fun v707 hh g4_0 => ?_)
  ·subst hh
   exact zyb (g := (fun r => (zy r, ⟨f2, [[(1, (.cells ((za p0).map .d))), (5, (.cells [(.fn 54 [] [(.ptr 0 1 0), (.ptr 0 5 0)])]))], f1]⟩, []))) g4_0 (zjb (n := 80) (V := [(54, 1, 1, .q (xi (r0.1.length : Int))), (54, 1, 3, .q (xb false)), (54, 4, 1, .q (xi (r0.1.length : Int)))]) (C := [(54, 2000024, (.nor, zhe p0 r0 r1 r2 (decide ((r0.1.length : Int) > 0)) rc f1 f2 v702)), (54, 0, (.ret, zrh p0 r0 r1 r2 v702 rc f1 f2 v707))]) (ob (zC eI r0.1) (ob (o_b h701) (ob (zC eI r0.1) (ob (zxk k p0 r0 r1 r2 (decide ((r0.1.length : Int) > 0)) rc f1 f2 hrc _ h703) (ob (zG (id := 0) (r' := (.ret, zrh p0 r0 r1 r2 v702 rc f1 f2 v707)) (zGc (zAk k p0 r0 r1 r2 v702 rc f1 f2 hrc) k _ _ h705) rfl) ob0))))) (by kernel_rfl))
  ·subst hh
   exact zyb (g := (fun r => (zy r, ⟨f2, [[(1, (.cells ((za p0).map .d))), (5, (.cells [(.fn 54 [] [(.ptr 0 1 0), (.ptr 0 5 0)])]))], f1]⟩, []))) g4_0 (zjb (n := 80) (V := [(54, 1, 1, .q (xi (r0.1.length : Int))), (54, 1, 3, .q (xb false)), (54, 4, 1, .q (xi (r0.1.length : Int)))]) (C := [(54, 2000024, (.nor, zhe p0 r0 r1 r2 (decide ((r0.1.length : Int) > 0)) rc f1 f2 v702)), (54, 0, (.nor, zvh p0 r0 r1 r2 v702 rc f1 f2 v707))]) (ob (zC eI r0.1) (ob (o_b h701) (ob (zC eI r0.1) (ob (zxk k p0 r0 r1 r2 (decide ((r0.1.length : Int) > 0)) rc f1 f2 hrc _ h703) (ob (zG (id := 0) (r' := (.nor, zvh p0 r0 r1 r2 v702 rc f1 f2 v707)) (zGc (zAk k p0 r0 r1 r2 v702 rc f1 f2 hrc) k _ _ h705) rfl) ob0))))) (by kernel_rfl))
noncomputable def zge (p0 : zd) (r0 : (SL Int)) (r1 r2 : Int) (cb : Bool) (rc : zt2) (f1 f2 f3 : Fr) (r : zt4) : St := ⟨(zHk r0 r1 r2 r), ⟨[], [[(zc 1 (za p0)), (5, (.cells [(.fn 54 [] [(.ptr 0 1 0), (.ptr 0 5 0)])]))], f1, f2, f3]⟩, []⟩
theorem zCk (k : Nat) (p0 : zd) (r0 : (SL Int)) (r1 r2 : Int) (cb : Bool) (rc : zt2) (f1 f2 f3 : Fr) (hrc : ∀ (f : Fr) (r0 : (SL Int)) (r1 : Int) (r2 : Int) (r : ((SL Int) × Bool)), rc r0 r1 r2 = some r → zbb TE (ev TE) 54 [(.d (dl eI r0.1 r0.2)), (xi r1), (xi r2), (.ptr 0 1 0), (.ptr 0 5 0)] ⟨f, [[(1, (.cells ((za p0).map .d))), (5, (.cells [(.fn 54 [] [(.ptr 0 1 0), (.ptr 0 5 0)])]))], f1, f2, f3]⟩ [] = some (zy r, ⟨f, [[(1, (.cells ((za p0).map .d))), (5, (.cells [(.fn 54 [] [(.ptr 0 1 0), (.ptr 0 5 0)])]))], f1, f2, f3]⟩, [])) (r : zt4) (h : zmj k p0 r0 r1 r2 cb rc = some r) : ev TE 54 (cnd TE 54 24) ⟨(zLk r0 r1 r2 cb), ⟨[], [[(zc 1 (za p0)), (5, (.cells [(.fn 54 [] [(.ptr 0 1 0), (.ptr 0 5 0)])]))], f1, f2, f3]⟩, []⟩ = some (.nor, zge p0 r0 r1 r2 cb rc f1 f2 f3 r) := by
 unfold zmj at h
 refine zr h (fun h1001 g1 => ?_) (fun h1001 g1 => ?_)
 ·subst h1001
  refine zo g1 (fun v1002 h1003 g2 => ?_)
  exact zE (g := fun r => (Ex.nor, zge p0 r0 r1 r2 true rc f1 f2 f3 r)) g2 (zqe [(54, 5, 2, .q (xi (r0.1.length : Int))), (54, 5, 4, .q (.d (.pin [(di v1002)])))] [] (ob (zC eI r0.1) (ob (o_ia (e := eI) 1 h1003 rfl) ob0)) (by kernel_rfl))
 ·subst h1001
  exact zE (g := fun r => (Ex.nor, zge p0 r0 r1 r2 false rc f1 f2 f3 r)) g1 (zqe [] [] ob0 (by kernel_rfl))
noncomputable def zvB (r0 : (SL Int)) (r1 r2 : Int) (v902 : zt4) (s10_8 : Int) : TM := [(0, (.d (dl eI r0.1 r0.2))), (1, (xi r1)), (2, (xi r2)), (3, (.ptr 0 1 0)), (4, (.ptr 0 5 0)), (8, (.d (.sl [] .nil))), (9, (xb false)), (17, (xb false)), (10, (xi v902.1)), (24, (xb v902.2)), (11, (xi s10_8))]
noncomputable def zdp (p0 : zd) (r0 : (SL Int)) (r1 r2 : Int) (v902 : zt4) (rc : zt2) (f1 f2 f3 : Fr) (s10_8 : Int) : St := ⟨(zvB r0 r1 r2 v902 s10_8), ⟨[], [[(zc 1 (za p0)), (5, (.cells [(.fn 54 [] [(.ptr 0 1 0), (.ptr 0 5 0)])]))], f1, f2, f3]⟩, []⟩
noncomputable def zLB (r0 : (SL Int)) (r1 r2 : Int) (r : zt18) (v902 : zt4) : TM := [(0, (.d (dl eI r0.1 r0.2))), (1, (xi r1)), (2, (xi r2)), (3, (.ptr 0 1 0)), (4, (.ptr 0 5 0)), (8, (.d (dl eI r.1.1 r.1.2))), (9, (xb true)), (17, (xb false)), (10, (xi v902.1)), (24, (xb v902.2)), (11, (xi r.2.1)), (37, (xb true)), (12, (.d (dl eI r.1.1 r.1.2))), (13, (xb r.2.2)), (59, (xb true))]
noncomputable def zKg (p0 : zd) (r0 : (SL Int)) (r1 r2 : Int) (v902 : zt4) (rc : zt2) (f1 f2 f3 : Fr) (r : zt18) : St := ⟨(zLB r0 r1 r2 r v902), ⟨[], [[(zc 1 (za p0)), (5, (.cells [(.fn 54 [] [(.ptr 0 1 0), (.ptr 0 5 0)])]))], f1, f2, f3]⟩, []⟩
noncomputable def zxA (r0 : (SL Int)) (r1 r2 : Int) (v902 : zt4) (r : Int) : TM := [(0, (.d (dl eI r0.1 r0.2))), (1, (xi r1)), (2, (xi r2)), (3, (.ptr 0 1 0)), (4, (.ptr 0 5 0)), (8, (.d (.sl [] .nil))), (9, (xb false)), (17, (xb false)), (10, (xi v902.1)), (24, (xb v902.2)), (11, (xi r)), (37, (xb false))]
noncomputable def zLg (p0 : zd) (r0 : (SL Int)) (r1 r2 : Int) (v902 : zt4) (rc : zt2) (f1 f2 f3 : Fr) (r : Int) : St := ⟨(zxA r0 r1 r2 v902 r), ⟨[], [[(zc 1 (za p0)), (5, (.cells [(.fn 54 [] [(.ptr 0 1 0), (.ptr 0 5 0)])]))], f1, f2, f3]⟩, []⟩
noncomputable def zlp (p0 : zd) (r0 : (SL Int)) (r1 r2 : Int) (v902 : zt4) (rc : zt2) (f1 f2 f3 : Fr) : (((SL Int) × Int × Bool) ⊕ Int) → Ex × St := Sum.elim (fun r => (.ret, zKg p0 r0 r1 r2 v902 rc f1 f2 f3 r)) (fun r => ((.exit 0), zLg p0 r0 r1 r2 v902 rc f1 f2 f3 r))
theorem zJj (k : Nat) (p0 : zd) (r0 : (SL Int)) (r1 r2 : Int) (v902 : zt4) (rc : zt2) (f1 f2 f3 : Fr) (hrc : ∀ (f : Fr) (r0 : (SL Int)) (r1 : Int) (r2 : Int) (r : ((SL Int) × Bool)), rc r0 r1 r2 = some r → zbb TE (ev TE) 54 [(.d (dl eI r0.1 r0.2)), (xi r1), (xi r2), (.ptr 0 1 0), (.ptr 0 5 0)] ⟨f, [[(1, (.cells ((za p0).map .d))), (5, (.cells [(.fn 54 [] [(.ptr 0 1 0), (.ptr 0 5 0)])]))], f1, f2, f3]⟩ [] = some (zy r, ⟨f, [[(1, (.cells ((za p0).map .d))), (5, (.cells [(.fn 54 [] [(.ptr 0 1 0), (.ptr 0 5 0)])]))], f1, f2, f3]⟩, [])) (s10_8 : Int) (x : Int ⊕ (((SL Int) × Int × Bool) ⊕ Int)) (h : zEi k p0 r0 r1 r2 v902 rc s10_8 = some x) : zT TE 54 (blk TE 54 0) (fun s : Int => zdp p0 r0 r1 r2 v902 rc f1 f2 f3 s) (zlp p0 r0 r1 r2 v902 rc f1 f2 f3) s10_8 x := by
 unfold zEi at h
 refine zr h (fun h1101 g1 => ?_) (fun h1101 g1 => ?_)
 ·refine zr g1 (fun h1102 g2 => ?_) (fun h1102 g2 => ?_)
  ·cases g2
  ·refine z6 g2 (fun h1103 g3 => ?_)
   refine zr g3 (fun h1104 g4 => ?_) (fun h1104 g4 => ?_)
   ·cases g4
   ·refine zo g4 (fun v1105 h1106 g5 => ?_)
    refine zr g5 (fun h1107 g6 => ?_) (fun h1107 g6 => ?_)
    ·exact zqo [(54, 7, 3, .q (xi (p0.Counts.1.length : Int))), (54, 7, 4, .q (xb true)), (54, 9, 3, .q (xi (r0.1.length : Int))), (54, 9, 5, .q (xi (r0.1.length : Int))), (54, 9, 6, .q (.d (dl eI r0.1 (ccap r0.2)))), (54, 9, 9, .q (.d (dl eI (r0.1 ++ [s10_8]) .ro))), (54, 9, 12, .q (xi (zK 1 s10_8))), (54, 9, 15, .i (.tup [(dl eI v1105.1.1 v1105.1.2), (db v1105.2)]) ⟨[], [[(1, (.cells ((za p0).map .d))), (5, (.cells [(.fn 54 [] [(.ptr 0 1 0), (.ptr 0 5 0)])]))], f1, f2, f3]⟩ []), (54, 10, 0, .q (xb true))] [] g6 (ob (zC zu p0.Counts.1) (ob (o_b h1101) (ob (zC eI r0.1) (ob (zC eI r0.1) (ob (z1d (e := eI) (z := 1) r0.1 r0.2) (ob (o_ad (P := TE.P) (φ := fun _ _ => none) (T := 22) (q := (1, [(di 0)])) (c := (ccap r0.2)) (e := eI) r0.1 s10_8 (by kernel_rfl) (by kernel_rfl) (fun _ => rfl) h1102 h1103) (ob (zfc (x := 1) h1104) (ob (hrc ([] : Fr) ((r0.1 ++ [s10_8]), .ro) (or64 r1 (zK 1 s10_8)) r2 _ h1106) (ob (o_b h1107) ob0))))))))) (by kernel_rfl)
    ·exact zqn (w64 (s10_8 + 1)) [] [(54, 7, 3, .q (xi (p0.Counts.1.length : Int))), (54, 7, 4, .q (xb true)), (54, 9, 3, .q (xi (r0.1.length : Int))), (54, 9, 5, .q (xi (r0.1.length : Int))), (54, 9, 6, .q (.d (dl eI r0.1 (ccap r0.2)))), (54, 9, 9, .q (.d (dl eI (r0.1 ++ [s10_8]) .ro))), (54, 9, 12, .q (xi (zK 1 s10_8))), (54, 9, 15, .i (.tup [(dl eI v1105.1.1 v1105.1.2), (db v1105.2)]) ⟨[], [[(1, (.cells ((za p0).map .d))), (5, (.cells [(.fn 54 [] [(.ptr 0 1 0), (.ptr 0 5 0)])]))], f1, f2, f3]⟩ []), (54, 10, 0, .q (xb false))] [] g6 (ob (zC zu p0.Counts.1) (ob (o_b h1101) (ob (zC eI r0.1) (ob (zC eI r0.1) (ob (z1d (e := eI) (z := 1) r0.1 r0.2) (ob (o_ad (P := TE.P) (φ := fun _ _ => none) (T := 22) (q := (1, [(di 0)])) (c := (ccap r0.2)) (e := eI) r0.1 s10_8 (by kernel_rfl) (by kernel_rfl) (fun _ => rfl) h1102 h1103) (ob (zfc (x := 1) h1104) (ob (hrc ([] : Fr) ((r0.1 ++ [s10_8]), .ro) (or64 r1 (zK 1 s10_8)) r2 _ h1106) (ob (o_b h1107) ob0))))))))) (by kernel_rfl)
 ·exact zqo [(54, 7, 3, .q (xi (p0.Counts.1.length : Int))), (54, 7, 4, .q (xb false))] [] g1 (ob (zC zu p0.Counts.1) (ob (o_b h1101) ob0)) (by kernel_rfl)
theorem zyo (k : Nat) (p0 : zd) (rc : zt2) (f1 f2 f3 : Fr) (hrc : ∀ (f : Fr) (r0 : (SL Int)) (r1 : Int) (r2 : Int) (r : ((SL Int) × Bool)), rc r0 r1 r2 = some r → zbb TE (ev TE) 54 [(.d (dl eI r0.1 r0.2)), (xi r1), (xi r2), (.ptr 0 1 0), (.ptr 0 5 0)] ⟨f, [[(1, (.cells ((za p0).map .d))), (5, (.cells [(.fn 54 [] [(.ptr 0 1 0), (.ptr 0 5 0)])]))], f1, f2, f3]⟩ [] = some (zy r, ⟨f, [[(1, (.cells ((za p0).map .d))), (5, (.cells [(.fn 54 [] [(.ptr 0 1 0), (.ptr 0 5 0)])]))], f1, f2, f3]⟩, [])) (r0 : (SL Int)) (r1 r2 : Int) (r : ((SL Int) × Bool)) (h : zrf k p0 rc r0 r1 r2 = some r) : zbb TE (ev TE) 54 [(.d (dl eI r0.1 r0.2)), (xi r1), (xi r2), (.ptr 0 1 0), (.ptr 0 5 0)] ⟨f3, [[(zc 1 (za p0)), (5, (.cells [(.fn 54 [] [(.ptr 0 1 0), (.ptr 0 5 0)])]))], f1, f2]⟩ [] = some (zy r, ⟨f3, [[(zc 1 (za p0)), (5, (.cells [(.fn 54 [] [(.ptr 0 1 0), (.ptr 0 5 0)])]))], f1, f2]⟩, []) := by
 unfold zrf at h
 refine zr h (fun h901 g1 => ?_) (fun h901 g1 => ?_)
 ·refine zo g1 (fun v902 h903 g2 => ?_)
  exact zyb (g := (fun r => (zy r, ⟨f3, [[(1, (.cells ((za p0).map .d))), (5, (.cells [(.fn 54 [] [(.ptr 0 1 0), (.ptr 0 5 0)])]))], f1, f2]⟩, []))) g2 (zjb (n := 80) (V := [(54, 1, 1, .q (xi (r0.1.length : Int))), (54, 1, 3, .q (xb true)), (54, 2, 3, .c (db v902))]) (C := []) (ob (zC eI r0.1) (ob (o_b h901) (ob (zEb k p0 r1 _ h903) ob0))) (by kernel_rfl))
 ·refine zo g1 (fun v902 h903 g2 => ?_)
  refine zo g2 (fun v904 h905 g3 => ?_)
  refine zRb g3 (fun v907 hh g4_0 => ?_) (fun v907 hh g4_0 => ?_)
  ·subst hh
   exact zyb (g := (fun r => (zy r, ⟨f3, [[(1, (.cells ((za p0).map .d))), (5, (.cells [(.fn 54 [] [(.ptr 0 1 0), (.ptr 0 5 0)])]))], f1, f2]⟩, []))) g4_0 (zjb (n := 80) (V := [(54, 1, 1, .q (xi (r0.1.length : Int))), (54, 1, 3, .q (xb false)), (54, 4, 1, .q (xi (r0.1.length : Int)))]) (C := [(54, 2000024, (.nor, zge p0 r0 r1 r2 (decide ((r0.1.length : Int) > 0)) rc f1 f2 f3 v902)), (54, 0, (.ret, zKg p0 r0 r1 r2 v902 rc f1 f2 f3 v907))]) (ob (zC eI r0.1) (ob (o_b h901) (ob (zC eI r0.1) (ob (zCk k p0 r0 r1 r2 (decide ((r0.1.length : Int) > 0)) rc f1 f2 f3 hrc _ h903) (ob (zG (id := 0) (r' := (.ret, zKg p0 r0 r1 r2 v902 rc f1 f2 f3 v907)) (zGc (zJj k p0 r0 r1 r2 v902 rc f1 f2 f3 hrc) k _ _ h905) rfl) ob0))))) (by kernel_rfl))
  ·subst hh
   exact zyb (g := (fun r => (zy r, ⟨f3, [[(1, (.cells ((za p0).map .d))), (5, (.cells [(.fn 54 [] [(.ptr 0 1 0), (.ptr 0 5 0)])]))], f1, f2]⟩, []))) g4_0 (zjb (n := 80) (V := [(54, 1, 1, .q (xi (r0.1.length : Int))), (54, 1, 3, .q (xb false)), (54, 4, 1, .q (xi (r0.1.length : Int)))]) (C := [(54, 2000024, (.nor, zge p0 r0 r1 r2 (decide ((r0.1.length : Int) > 0)) rc f1 f2 f3 v902)), (54, 0, (.nor, zLg p0 r0 r1 r2 v902 rc f1 f2 f3 v907))]) (ob (zC eI r0.1) (ob (o_b h901) (ob (zC eI r0.1) (ob (zCk k p0 r0 r1 r2 (decide ((r0.1.length : Int) > 0)) rc f1 f2 f3 hrc _ h903) (ob (zG (id := 0) (r' := (.nor, zLg p0 r0 r1 r2 v902 rc f1 f2 f3 v907)) (zGc (zJj k p0 r0 r1 r2 v902 rc f1 f2 f3 hrc) k _ _ h905) rfl) ob0))))) (by kernel_rfl))
noncomputable def zQd (p0 : zd) (r0 : (SL Int)) (r1 r2 : Int) (cb : Bool) (rc : zt2) (f1 f2 f3 f4 : Fr) (r : zt4) : St := ⟨(zHk r0 r1 r2 r), ⟨[], [[(zc 1 (za p0)), (5, (.cells [(.fn 54 [] [(.ptr 0 1 0), (.ptr 0 5 0)])]))], f1, f2, f3, f4]⟩, []⟩
theorem zXj (k : Nat) (p0 : zd) (r0 : (SL Int)) (r1 r2 : Int) (cb : Bool) (rc : zt2) (f1 f2 f3 f4 : Fr) (hrc : ∀ (f : Fr) (r0 : (SL Int)) (r1 : Int) (r2 : Int) (r : ((SL Int) × Bool)), rc r0 r1 r2 = some r → zbb TE (ev TE) 54 [(.d (dl eI r0.1 r0.2)), (xi r1), (xi r2), (.ptr 0 1 0), (.ptr 0 5 0)] ⟨f, [[(1, (.cells ((za p0).map .d))), (5, (.cells [(.fn 54 [] [(.ptr 0 1 0), (.ptr 0 5 0)])]))], f1, f2, f3, f4]⟩ [] = some (zy r, ⟨f, [[(1, (.cells ((za p0).map .d))), (5, (.cells [(.fn 54 [] [(.ptr 0 1 0), (.ptr 0 5 0)])]))], f1, f2, f3, f4]⟩, [])) (r : zt4) (h : zCi k p0 r0 r1 r2 cb rc = some r) : ev TE 54 (cnd TE 54 24) ⟨(zLk r0 r1 r2 cb), ⟨[], [[(zc 1 (za p0)), (5, (.cells [(.fn 54 [] [(.ptr 0 1 0), (.ptr 0 5 0)])]))], f1, f2, f3, f4]⟩, []⟩ = some (.nor, zQd p0 r0 r1 r2 cb rc f1 f2 f3 f4 r) := by
 unfold zCi at h
 refine zr h (fun h1201 g1 => ?_) (fun h1201 g1 => ?_)
 ·subst h1201
  refine zo g1 (fun v1202 h1203 g2 => ?_)
  exact zE (g := fun r => (Ex.nor, zQd p0 r0 r1 r2 true rc f1 f2 f3 f4 r)) g2 (zqe [(54, 5, 2, .q (xi (r0.1.length : Int))), (54, 5, 4, .q (.d (.pin [(di v1202)])))] [] (ob (zC eI r0.1) (ob (o_ia (e := eI) 1 h1203 rfl) ob0)) (by kernel_rfl))
 ·subst h1201
  exact zE (g := fun r => (Ex.nor, zQd p0 r0 r1 r2 false rc f1 f2 f3 f4 r)) g1 (zqe [] [] ob0 (by kernel_rfl))
noncomputable def zUB (r0 : (SL Int)) (r1 r2 : Int) (v1102 : zt4) (s12_8 : Int) : TM := [(0, (.d (dl eI r0.1 r0.2))), (1, (xi r1)), (2, (xi r2)), (3, (.ptr 0 1 0)), (4, (.ptr 0 5 0)), (8, (.d (.sl [] .nil))), (9, (xb false)), (17, (xb false)), (10, (xi v1102.1)), (24, (xb v1102.2)), (11, (xi s12_8))]
noncomputable def zzp (p0 : zd) (r0 : (SL Int)) (r1 r2 : Int) (v1102 : zt4) (rc : zt2) (f1 f2 f3 f4 : Fr) (s12_8 : Int) : St := ⟨(zUB r0 r1 r2 v1102 s12_8), ⟨[], [[(zc 1 (za p0)), (5, (.cells [(.fn 54 [] [(.ptr 0 1 0), (.ptr 0 5 0)])]))], f1, f2, f3, f4]⟩, []⟩
noncomputable def z3A (r0 : (SL Int)) (r1 r2 : Int) (r : zt18) (v1102 : zt4) : TM := [(0, (.d (dl eI r0.1 r0.2))), (1, (xi r1)), (2, (xi r2)), (3, (.ptr 0 1 0)), (4, (.ptr 0 5 0)), (8, (.d (dl eI r.1.1 r.1.2))), (9, (xb true)), (17, (xb false)), (10, (xi v1102.1)), (24, (xb v1102.2)), (11, (xi r.2.1)), (37, (xb true)), (12, (.d (dl eI r.1.1 r.1.2))), (13, (xb r.2.2)), (59, (xb true))]
noncomputable def zSg (p0 : zd) (r0 : (SL Int)) (r1 r2 : Int) (v1102 : zt4) (rc : zt2) (f1 f2 f3 f4 : Fr) (r : zt18) : St := ⟨(z3A r0 r1 r2 r v1102), ⟨[], [[(zc 1 (za p0)), (5, (.cells [(.fn 54 [] [(.ptr 0 1 0), (.ptr 0 5 0)])]))], f1, f2, f3, f4]⟩, []⟩
noncomputable def zdB (r0 : (SL Int)) (r1 r2 : Int) (v1102 : zt4) (r : Int) : TM := [(0, (.d (dl eI r0.1 r0.2))), (1, (xi r1)), (2, (xi r2)), (3, (.ptr 0 1 0)), (4, (.ptr 0 5 0)), (8, (.d (.sl [] .nil))), (9, (xb false)), (17, (xb false)), (10, (xi v1102.1)), (24, (xb v1102.2)), (11, (xi r)), (37, (xb false))]
noncomputable def z4g (p0 : zd) (r0 : (SL Int)) (r1 r2 : Int) (v1102 : zt4) (rc : zt2) (f1 f2 f3 f4 : Fr) (r : Int) : St := ⟨(zdB r0 r1 r2 v1102 r), ⟨[], [[(zc 1 (za p0)), (5, (.cells [(.fn 54 [] [(.ptr 0 1 0), (.ptr 0 5 0)])]))], f1, f2, f3, f4]⟩, []⟩
noncomputable def zqp (p0 : zd) (r0 : (SL Int)) (r1 r2 : Int) (v1102 : zt4) (rc : zt2) (f1 f2 f3 f4 : Fr) : (((SL Int) × Int × Bool) ⊕ Int) → Ex × St := Sum.elim (fun r => (.ret, zSg p0 r0 r1 r2 v1102 rc f1 f2 f3 f4 r)) (fun r => ((.exit 0), z4g p0 r0 r1 r2 v1102 rc f1 f2 f3 f4 r))
end Go.AM

